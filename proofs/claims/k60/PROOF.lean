import PyProof.Rows.All
import Wide.All
import OpenK.AllK
import Wide.FinOn
import PyProof.EqAt
import PyProof.EqKinds
import PyProof.TupleCall
import PyProof.WalksEnum
import KE.KItemsList
import KE.KDictZip
import KE.KDictItemsList
import KE.KCallChange
import KE.KCallJoin
import HandS.ForMost
import HandS.Walk
import HandS.Evl
import HandS.IsInst
import HandS.SortInts
import HandS.Exc
import HandS.TryOnly
import HandS.ExcOwn
import HandS.WordsExc
import HandS.Zip
import HandS.Rev
import HandS.SetKeys
import HandS.Style
import HandS.Conv
import HandS.ExcIs
import HandS.SetFor
import HandS.Set
import HandS.More
import HandS.Wide
import KE.DataMinMax
import HandS.Text
import HandS.Codes
import KE.IntTextLaws
import PyProof.Rows.StrDigitsNeg
import HandS.Comp
import PyProof.StrOps2
import HandS.ExcCtx
import HandS.HotCalls
import HandS.SuiteRaise
import HandS.RaiseFrom
import HandS.Dict
import PySem.Challenge.RW_unlikerow_k60_words_refused
set_option Elab.async false
set_option linter.all false
set_option maxRecDepth 100000
set_option maxHeartbeats 4000000
/-! list(enumerate(l)), l a list: a new list of new pairs -/
namespace UrE
open PySem PySem.W PySem.Calls PyProof.Rows
open Sem (wp)
theorem enum_no_len : typeLookup (.type "enumerate") "__len__" = pure none := by rw [typeLookup_type, builtinLookup_eq_fast]; kernel_rfl
theorem enum_no_hint : typeLookup (.type "enumerate") "__length_hint__" = pure none := by rw [typeLookup_type, builtinLookup_eq_fast]; kernel_rfl
/-- the enumerate object at e between two turns, the tuples handed out still alive: f the first two fields -/
def Out (h : Heap) (e it S : Addr) (i : Nat) : Prop := ∃ (f0 f1 old : Value), h.get? e = some { cls := .type "enumerate", dict := none, data := .fields #[f0, f1, .ref it, rawInt i, .none, old], slots := #[] } ∧
  ((f0 = .none) ∨ ∃ (a : Addr) (b : Bool) (oa : Obj), f0 = rawInt a ∧ f1 = .bool b ∧ h.get? a = some oa ∧ a ≠ e ∧ a ≠ it ∧ a ≠ S)
section
variable {prog : Program} {w : World} {A : Around} {E : Value → Shared → Prop} {s : Shared}
theorem out_item {e it l S : Addr} {i : Nat} {items : Array Value} {x : Value} {Q : Option Value → Shared → Prop}
    (ho : Out s.heap e it S i) (hit : s.heap.IsListIter it l i) (hl : s.heap.IsList l items) (hx : items[i]? = some x) (hne : e ≠ it) (hSl : S < s.heap.objs.size)
    (hQ : ∀ h' tk, Out h' e it S (i + 1) → h'.IsListIter it l (i + 1) →
      (∃ t, h'.get? s.heap.objs.size = some { cls := .type "tuple", data := .seq #[.int i t, x] }) → h'.objs.size = s.heap.objs.size + 1 →
      (∀ b o, b ≠ e → b ≠ it → s.heap.get? b = some o → h'.get? b = some o) → Q (some (.ref s.heap.objs.size)) { s with heap := h', toks := tk }) :
    wpAny (model prog w) A (pyNext (.ref e)) Q E s := by
  obtain ⟨f0, f1, old, he, hf⟩ := ho
  rcases hf with rfl | ⟨a, b, oa, rfl, rfl, ha, hae, hai, haS⟩
  · have hT : s.TypeIs (.ref e) "enumerate" := ⟨_, he, rfl⟩
    unfold pyNext
    refine wpAny_bind (wpAny_attempt (wpAny_callSpecial?_slot (name := Str.ofString "__next__") hT PySem.F.slot_enumerate_next
      (wpAny_call_entry PySem.F.slot_enumerate_next hT PySem.F.entry_enumerate_next ?_ (PySem.F.args_enumerate_next_1 _))))
    obtain ⟨hp, g, d, tk, os⟩ := s
    show wpAny _ _ (field (.ref e) 2 >>= _) _ _ _
    refine wpAny_bind (wpAny_field he rfl (x := .ref it) rfl ?_)
    refine wpAny_bind (wpAny_nextOf_list_item hit hl hx fun h₁ hit₁ hs₁ => ?_)
    replace hs₁ : Heap.SameBut it hp h₁ := hs₁
    have he₁ := (hs₁.2 e hne).trans he
    show wpAny _ _ (field (.ref e) 3 >>= _) _ _ ⟨h₁, g, d, tk, os⟩
    refine wpAny_bind (wpAny_field he₁ rfl (x := rawInt i) rfl ?_)
    show wpAny _ _ (field (.ref e) 4 >>= _) _ _ ⟨h₁, g, d, tk, os⟩
    refine wpAny_bind (wpAny_field he₁ rfl (x := .none) rfl ?_)
    show wpAny _ _ (mkInt i >>= _) _ _ ⟨h₁, g, d, tk, os⟩
    refine wpAny_bind (wpAny_mkInt ?_)
    show wpAny _ _ (setField (.ref e) 3 (rawInt ((i : Int) + 1)) >>= _) _ _ ⟨h₁, g, d, tk + 1, os⟩
    refine wpAny_bind (wpAny_setField_rec he₁ (by simp) fun h₂ he₂ hs₂ => ?_)
    replace hs₂ : Heap.SameBut e h₁ h₂ := hs₂
    simp only [Array.set!, rawInt] at he₂
    show wpAny _ _ (setField (.ref e) 4 .none >>= _) _ _ ⟨h₂, g, d, tk + 1, os⟩
    refine wpAny_bind (wpAny_setField_rec he₂ (by simp) fun h₃ he₃ hs₃ => ?_)
    replace hs₃ : Heap.SameBut e h₂ h₃ := hs₃
    show wpAny _ _ (newTuple [.int i tk, x] >>= _) _ _ ⟨h₃, g, d, tk + 1, os⟩
    refine wpAny_bind (wpAny_newTuple ?_)
    have he₄ := Heap.get?_push_of_some { cls := .type "tuple", data := .seq #[.int i tk, x] } he₃
    have hel : e < hp.objs.size := Heap.lt_size he
    have hsz : h₃.objs.size = hp.objs.size := by rw [hs₃.1, hs₂.1, hs₁.1]
    generalize hh₄ : h₃.push { cls := .type "tuple", data := .seq #[.int i tk, x] } = h₄ at he₄
    have ht₄ : h₄.get? hp.objs.size = some { cls := .type "tuple", data := .seq #[.int i tk, x] } := by rw [← hh₄, ← hsz]; exact Heap.get?_push_size _ rfl
    have hz₄ : h₄.objs.size = hp.objs.size + 1 := by rw [← hh₄, Heap.size_push, hsz]
    have hk₄ : ∀ b o, b ≠ e → b ≠ it → hp.get? b = some o → h₄.get? b = some o := fun b o hbe hbi hb => by
      rw [← hh₄]; exact Heap.get?_push_of_some _ (hs₃.extBut b o hbe (hs₂.extBut b o hbe (hs₁.extBut b o hbi hb)))
    have hit₄ : h₄.IsListIter it l (i + 1) := by
      rw [← hh₄]; obtain ⟨o, ho, r⟩ := (hit₁.extBut hs₂.extBut (Ne.symm hne)).extBut hs₃.extBut (Ne.symm hne); exact ⟨o, Heap.get?_push_of_some _ ho, r⟩
    show wpAny _ _ (Builtin.SmallTypes.ownedTupleIsFree (.ref e) >>= _) _ _ ⟨h₄, g, d, tk + 1, os⟩
    rw [hsz]
    refine wpAny_bind ?_
    unfold Builtin.SmallTypes.ownedTupleIsFree
    refine wpAny_bind (wpAny_field he₄ rfl (x := .none) rfl (wpAny_pure ?_))
    simp only [if_true]
    refine wpAny_bind (wpAny_rule ?_)
    refine wpAny_bind (wpAny_field he₄ rfl (x := old) rfl ?_)
    refine wpAny_bind (wpAny_setField_rec he₄ (by simp) fun h₅ he₅ hs₅ => ?_)
    replace hs₅ : Heap.SameBut e h₄ h₅ := hs₅
    show wpAny _ _ (Builtin.SmallTypes.ownedTupleHandOut (.ref e) (.ref hp.objs.size) >>= _) _ _ ⟨h₅, g, d, tk + 1, os⟩
    refine wpAny_bind ?_
    unfold Builtin.SmallTypes.ownedTupleHandOut
    refine wpAny_bind (wpAny_setField_rec he₅ (by simp) fun h₆ he₆ hs₆ => ?_)
    replace hs₆ : Heap.SameBut e h₅ h₆ := hs₆
    refine wpAny_setField_rec he₆ (by simp) fun h₇ he₇ hs₇ => ?_
    replace hs₇ : Heap.SameBut e h₆ h₇ := hs₇
    have t7 : h₇.get? hp.objs.size = some { cls := .type "tuple", data := .seq #[.int i tk, x] } := hs₇.extBut _ _ (Nat.ne_of_gt hel) (hs₆.extBut _ _ (Nat.ne_of_gt hel) (hs₅.extBut _ _ (Nat.ne_of_gt hel) ht₄))
    have hil : it < hp.objs.size := by obtain ⟨o, z, _⟩ := hit; exact Heap.lt_size z
    refine wpAny_bind (wpAny_letGo (wpAny_pure ⟨_, rfl, wpAny_pure (hQ h₇ (tk + 1) ⟨rawInt hp.objs.size, .bool false, x, ?_, Or.inr ⟨hp.objs.size, false, _, rfl, rfl, t7, Nat.ne_of_gt hel, Nat.ne_of_gt hil, Nat.ne_of_gt hSl⟩⟩ ?_ ⟨tk, t7⟩ ?_ ?_)⟩))
    · simpa [rawInt, Array.set!] using he₇
    · exact ((hit₄.extBut hs₅.extBut (Ne.symm hne)).extBut hs₆.extBut (Ne.symm hne)).extBut hs₇.extBut (Ne.symm hne)
    · rw [hs₇.1, hs₆.1, hs₅.1, hz₄]
    · exact fun b o hbe hbi hb => hs₇.extBut b o hbe (hs₆.extBut b o hbe (hs₅.extBut b o hbe (hk₄ b o hbe hbi hb)))
  · have hT : s.TypeIs (.ref e) "enumerate" := ⟨_, he, rfl⟩
    unfold pyNext
    refine wpAny_bind (wpAny_attempt (wpAny_callSpecial?_slot (name := Str.ofString "__next__") hT PySem.F.slot_enumerate_next
      (wpAny_call_entry PySem.F.slot_enumerate_next hT PySem.F.entry_enumerate_next ?_ (PySem.F.args_enumerate_next_1 _))))
    obtain ⟨hp, g, d, tk, os⟩ := s
    show wpAny _ _ (field (.ref e) 2 >>= _) _ _ _
    refine wpAny_bind (wpAny_field he rfl (x := .ref it) rfl ?_)
    refine wpAny_bind (wpAny_nextOf_list_item hit hl hx fun h₁ hit₁ hs₁ => ?_)
    replace hs₁ : Heap.SameBut it hp h₁ := hs₁
    have he₁ := (hs₁.2 e hne).trans he
    show wpAny _ _ (field (.ref e) 3 >>= _) _ _ ⟨h₁, g, d, tk, os⟩
    refine wpAny_bind (wpAny_field he₁ rfl (x := rawInt i) rfl ?_)
    show wpAny _ _ (field (.ref e) 4 >>= _) _ _ ⟨h₁, g, d, tk, os⟩
    refine wpAny_bind (wpAny_field he₁ rfl (x := .none) rfl ?_)
    show wpAny _ _ (mkInt i >>= _) _ _ ⟨h₁, g, d, tk, os⟩
    refine wpAny_bind (wpAny_mkInt ?_)
    show wpAny _ _ (setField (.ref e) 3 (rawInt ((i : Int) + 1)) >>= _) _ _ ⟨h₁, g, d, tk + 1, os⟩
    refine wpAny_bind (wpAny_setField_rec he₁ (by simp) fun h₂ he₂ hs₂ => ?_)
    replace hs₂ : Heap.SameBut e h₁ h₂ := hs₂
    simp only [Array.set!, rawInt] at he₂
    show wpAny _ _ (setField (.ref e) 4 .none >>= _) _ _ ⟨h₂, g, d, tk + 1, os⟩
    refine wpAny_bind (wpAny_setField_rec he₂ (by simp) fun h₃ he₃ hs₃ => ?_)
    replace hs₃ : Heap.SameBut e h₂ h₃ := hs₃
    show wpAny _ _ (newTuple [.int i tk, x] >>= _) _ _ ⟨h₃, g, d, tk + 1, os⟩
    refine wpAny_bind (wpAny_newTuple ?_)
    have he₄ := Heap.get?_push_of_some { cls := .type "tuple", data := .seq #[.int i tk, x] } he₃
    have hel : e < hp.objs.size := Heap.lt_size he
    have hsz : h₃.objs.size = hp.objs.size := by rw [hs₃.1, hs₂.1, hs₁.1]
    generalize hh₄ : h₃.push { cls := .type "tuple", data := .seq #[.int i tk, x] } = h₄ at he₄
    have ht₄ : h₄.get? hp.objs.size = some { cls := .type "tuple", data := .seq #[.int i tk, x] } := by rw [← hh₄, ← hsz]; exact Heap.get?_push_size _ rfl
    have hz₄ : h₄.objs.size = hp.objs.size + 1 := by rw [← hh₄, Heap.size_push, hsz]
    have hk₄ : ∀ b o, b ≠ e → b ≠ it → hp.get? b = some o → h₄.get? b = some o := fun b o hbe hbi hb => by
      rw [← hh₄]; exact Heap.get?_push_of_some _ (hs₃.extBut b o hbe (hs₂.extBut b o hbe (hs₁.extBut b o hbi hb)))
    have hit₄ : h₄.IsListIter it l (i + 1) := by
      rw [← hh₄]; obtain ⟨o, ho, r⟩ := (hit₁.extBut hs₂.extBut (Ne.symm hne)).extBut hs₃.extBut (Ne.symm hne); exact ⟨o, Heap.get?_push_of_some _ ho, r⟩
    have ha₄ := hk₄ a oa hae hai ha
    have hil : it < hp.objs.size := by obtain ⟨o, z, _⟩ := hit; exact Heap.lt_size z
    show wpAny _ _ (Builtin.SmallTypes.ownedTupleIsFree (.ref e) >>= _) _ _ ⟨h₄, g, d, tk + 1, os⟩
    rw [hsz]
    refine wpAny_bind ?_
    unfold Builtin.SmallTypes.ownedTupleIsFree
    refine wpAny_bind (wpAny_field he₄ rfl (x := rawInt a) rfl ?_)
    show wpAny _ _ (loadIfAlive a >>= _) _ _ _
    refine wpAny_bind (kdx_alive ha₄ ?_)
    show wpAny _ _ (field (.ref e) 1 >>= _) _ _ _
    refine wpAny_bind (wpAny_field he₄ rfl (x := .bool b) rfl ?_)
    refine wpAny_ite_split (fun _ => ?_) (fun hb => ?_)
    · refine wpAny_bind (wpAny_setField_rec he₄ (by simp) fun h₅ he₅ hs₅ => ?_)
      replace hs₅ : Heap.SameBut e h₄ h₅ := hs₅
      have t5 := hs₅.extBut _ _ (Nat.ne_of_gt hel) ht₄
      refine wpAny_pure ?_
      simp only [Bool.false_eq_true, if_false]
      refine wpAny_pure ⟨_, rfl, wpAny_pure (hQ h₅ (tk + 1) ⟨rawInt a, .bool true, old, ?_, Or.inr ⟨a, true, oa, rfl, rfl, hs₅.extBut _ _ hae ha₄, hae, hai, haS⟩⟩ (hit₄.extBut hs₅.extBut (Ne.symm hne)) ⟨tk, t5⟩ ?_ ?_)⟩
      · simpa [rawInt, Array.set!] using he₅
      · rw [hs₅.1, hz₄]
      · exact fun b o hbe hbi hb => hs₅.extBut b o hbe (hk₄ b o hbe hbi hb)
    · refine wpAny_pure ?_
      simp only [Bool.false_eq_true, if_false]
      refine wpAny_pure ⟨_, rfl, wpAny_pure (hQ h₄ (tk + 1) ⟨rawInt a, .bool b, old, ?_, Or.inr ⟨a, b, oa, rfl, rfl, ha₄, hae, hai, haS⟩⟩ hit₄ ⟨tk, ht₄⟩ hz₄ hk₄)⟩
      simpa [rawInt, Array.set!] using he₄
theorem out_end {e it l S : Addr} {i : Nat} {items : Array Value} {Q : Option Value → Shared → Prop} (hh : A.handled = none)
    (ho : Out s.heap e it S i) (hit : s.heap.IsListIter it l i) (hl : s.heap.IsList l items) (hx : items[i]? = none)
    (hQ : ∀ h', Heap.ExtBut it s.heap h' → Q none { s with heap := h' }) : wpAny (model prog w) A (pyNext (.ref e)) Q E s := by
  obtain ⟨f0, f1, old, he, _⟩ := ho
  have hT : s.TypeIs (.ref e) "enumerate" := ⟨_, he, rfl⟩
  unfold pyNext
  refine wpAny_bind (wpAny_attempt (wpAny_callSpecial?_slot (name := Str.ofString "__next__") hT PySem.F.slot_enumerate_next
    (wpAny_call_entry PySem.F.slot_enumerate_next hT PySem.F.entry_enumerate_next ?_ (PySem.F.args_enumerate_next_1 _))))
  show wpAny _ _ (field (.ref e) 2 >>= _) _ _ _
  refine wpAny_bind (wpAny_field he rfl (x := .ref it) rfl ?_)
  refine wpAny_bind (wpAny_nextOf_list_end hh hit hl hx fun h' x he' hx' => ?_)
  obtain ⟨o, ho, hc⟩ := hx'
  refine wpAny_bind (wpAny_isInstance (T := "StopIteration") (b := true) ⟨o, ho, hc⟩ isSubtype_stop ?_)
  exact wpAny_pure (hQ _ he')
end
end UrE
namespace UrE
open PySem PySem.W PySem.Calls PyProof.Rows
structure EnG (items : Array Value) (lo : Addr) (h : Heap) (as : List Addr) : Prop where
  rise : as.Pairwise (· < ·)
  above : ∀ a ∈ as, lo < a
  pairs : ∀ (j : Nat) (a : Addr), as[j]? = some a → ∃ t x, items[j]? = some x ∧ h.get? a = some { cls := .type "tuple", data := .seq #[.int j t, x] }
theorem EnG.there {items : Array Value} {lo : Addr} {h : Heap} {as : List Addr} (g : EnG items lo h as) {a : Addr} (ha : a ∈ as) : a < h.objs.size := by
  obtain ⟨j, hj⟩ := List.mem_iff_getElem?.mp ha
  obtain ⟨_, _, _, e⟩ := g.pairs j a hj
  exact Heap.lt_size e
section
variable {prog : Program} {w : World} {A : Around} {s : Shared} {R : Result → Shared → Prop} {items : Array Value}
theorem en_loop {S e it l : Addr} (hh : A.handled = none) (hei : e ≠ it) (hle : l ≠ e) (hli : l ≠ it) (heS : e < S) (hiS : it < S) (hlS : l ≠ S) (hn : items.size ≤ sizeLine) (res : Value) {h₁ : Heap}
    (hR : ∀ h' tk acc c as, (∀ b o, b ≠ S → b ≠ e → b ≠ it → h₁.get? b = some o → h'.get? b = some o) → h'.get? S = some { cls := .type "list", dict := none, data := .seq acc c, slots := #[] } → as.length = items.size → EnG items S h' as →
      acc.toList = as.map Value.ref → R (.ok (.ret res)) { s with heap := h', toks := tk }) :
    ∀ (k i : Nat) (h : Heap) (tk c : Nat) (acc : Array Value) (as : List Addr), items.size - i = k → i ≤ items.size → Out h e it S i → h.IsListIter it l i → h.IsList l items → (∀ b o, b ≠ S → b ≠ e → b ≠ it → h₁.get? b = some o → h.get? b = some o) →
      h.get? S = some { cls := .type "list", dict := none, data := .seq acc c, slots := #[] } → acc.toList = as.map Value.ref → as.length = i → EnG items S h as →
      codeAny (model prog w) A (.builtin "list.extend.loop" ⟨[.ref S, .ref e, res], []⟩) R { s with heap := h, toks := tk } := by
  intro k
  induction k with
  | zero =>
    intro i h tk c acc as hk hi hst hit hl hkeep hS hacc hal hG
    have hin : i = items.size := by omega
    refine codeAny_builtin PySem.F.entry_extend_loop ?_
    rw [Around.under_plainId PySem.F.plain_extend_loop _]
    show wpAny _ A.in1 (pyNext (.ref e) >>= _) _ _ _
    refine wpAny_bind (out_end (s := { s with heap := h, toks := tk }) (A := A.in1) hh hst hit hl (Array.getElem?_eq_none (by omega)) fun h' he => ?_)
    refine wpAny_pure (hR h' tk acc c as (fun b o h1 h2 h3 e => he b o h3 (hkeep b o h1 h2 h3 e)) (he S _ (Nat.ne_of_gt hiS) hS) (by omega) ⟨hG.rise, hG.above, fun j a hj => ?_⟩ hacc)
    obtain ⟨t, x, e2, e3⟩ := hG.pairs j a hj
    exact ⟨t, x, e2, he a _ (Nat.ne_of_gt (Nat.lt_trans hiS (hG.above a (List.mem_of_getElem? hj)))) e3⟩
  | succ k ih =>
    intro i h tk c acc as hk hi hst hit hl hkeep hS hacc hal hG
    have hlt : i < items.size := by omega
    have hsz : acc.size = i := by rw [← Array.length_toList, hacc, List.length_map, hal]
    refine codeAny_builtin PySem.F.entry_extend_loop ?_
    rw [Around.under_plainId PySem.F.plain_extend_loop _]
    show wpAny _ A.in1 (pyNext (.ref e) >>= _) _ _ _
    refine wpAny_bind (out_item (s := { s with heap := h, toks := tk }) hst hit hl (Array.getElem?_eq_getElem hlt) hei (Heap.lt_size hS) fun h' tk' hst' hit' ht hz hkp => ?_)
    dsimp only at ht hz hkp ⊢
    obtain ⟨t, ht⟩ := ht
    have hSl : S < h.objs.size := Heap.lt_size hS
    have hS' := hkp S _ (Nat.ne_of_gt heS) (Nat.ne_of_gt hiS) hS
    have up : ∀ b o, b ≠ S → h'.get? b = some o → (h'.update S (Obj.mapSeq (·.push (Value.ref h.objs.size)))).get? b = some o := fun b o hb e => (Heap.get?_update_other _ _ (Ne.symm hb)).trans e
    have upI : ∀ (h2 : Heap), (∀ b o, b ≠ S → h'.get? b = some o → h2.get? b = some o) → Out h2 e it S (i + 1) := fun h2 k2 => by
      obtain ⟨f0, f1, old, e1, hf⟩ := hst'
      refine ⟨f0, f1, old, k2 _ _ (Nat.ne_of_lt heS) e1, ?_⟩
      rcases hf with z | ⟨a, b, oa, z1, z2, z3, z4, z5, z6⟩
      · exact Or.inl z
      · exact Or.inr ⟨a, b, oa, z1, z2, k2 a oa z6 z3, z4, z5, z6⟩
    show wpAny _ A.in1 (updateSeq S (·.push (Value.ref h.objs.size)) >>= _) _ _ _
    refine wpAny_bind ?_
    refine wpAny_updateSeq hS' rfl (wpAny_pure ⟨plainId_quiet PySem.F.plain_extend_loop _, ih (i + 1) _ tk' _ (acc.push (Value.ref h.objs.size)) (as ++ [h.objs.size]) (by omega) hlt (upI _ up)
      (hit'.at fun o z => up it o (Nat.ne_of_lt hiS) z) ((hl.at fun o z => hkp l o hle hli z).at fun o z => up l o hlS z)
      (fun b o h1 h2 h3 z => up b o h1 (hkp b o h2 h3 (hkeep b o h1 h2 h3 z))) (Heap.get?_update_self _ hS' rfl) (by rw [Array.toList_push, hacc, List.map_append]; rfl) (by rw [List.length_append, hal]; rfl) ⟨?_, ?_, ?_⟩⟩) (by rw [hsz]; omega) (by show (acc.push (Value.ref h.objs.size)).size ≤ sizeLine + 1; rw [Array.size_push, hsz]; omega)
    · refine List.pairwise_append.mpr ⟨hG.rise, List.pairwise_singleton _ _, fun a ha b hb => ?_⟩
      rw [List.mem_singleton.mp hb]
      exact hG.there ha
    · intro a ha
      rcases List.mem_append.mp ha with ha | ha
      · exact hG.above a ha
      · rw [List.mem_singleton.mp ha]; exact hSl
    · intro j b hj
      rcases Nat.lt_trichotomy j as.length with h1 | h1 | h1
      · rw [List.getElem?_append_left h1] at hj
        obtain ⟨t3, x3, e2, e3⟩ := hG.pairs j b hj
        have hb := hG.above b (List.mem_of_getElem? hj)
        exact ⟨t3, x3, e2, up b _ (Nat.ne_of_gt hb) (hkp b _ (Nat.ne_of_gt (Nat.lt_trans heS hb)) (Nat.ne_of_gt (Nat.lt_trans hiS hb)) e3)⟩
      · subst h1
        have hb : h.objs.size = b := by simpa using hj
        subst hb
        subst hal
        exact ⟨t, _, Array.getElem?_eq_getElem hlt, up _ _ (Nat.ne_of_gt hSl) ht⟩
      · have hnone : (as ++ [h.objs.size])[j]? = none := List.getElem?_eq_none (by rw [List.length_append, List.length_singleton]; omega)
        rw [hnone] at hj; cases hj
end
section
variable {prog : Program} {w : World} {A : Around} {E : Value → Shared → Prop} {s : Shared} {items : Array Value} {e it l : Addr}
theorem en_extend {R : Result → Shared → Prop} (hh : A.handled = none) (he : IsEnum s.heap e it 0 .none) (hit : s.heap.IsListIter it l 0) (hl : s.heap.IsList l items) (hei : e ≠ it) (hle : l ≠ e) (hli : l ≠ it) (S : Addr) (heS : e < S) (hiS : it < S) (hlS : l ≠ S) (res : Value) (c₀ : Nat) (hS : s.heap.get? S = some { cls := .type "list", data := .seq #[] c₀ })
    (hR : ∀ h' tk acc c as, (∀ b o, b ≠ S → b ≠ e → b ≠ it → s.heap.get? b = some o → h'.get? b = some o) → h'.get? S = some { cls := .type "list", dict := none, data := .seq acc c, slots := #[] } → as.length = items.size → EnG items S h' as →
      acc.toList = as.map Value.ref → R (.ok (.ret res)) { s with heap := h', toks := tk }) (hn : items.size ≤ sizeLine) :
    wpAny (model prog w) A.in1 (Builtin.List.listExtendWith (.ref S) (.ref e) res)
      (fun fin s' => match fin with | .done f => R (.ok f) s' | .again c' => c'.quiet = true ∧ codeAny (model prog w) A c' R s') (fun e s' => R (.error e) s') s := by
  have hT : ∀ (h : Heap) (g : Shared), g.heap = h → IsEnum h e it 0 .none → g.TypeIs (.ref e) "enumerate" := fun h g e1 e2 => by
    subst e1
    exact ⟨_, e2, rfl⟩
  unfold Builtin.List.listExtendWith
  refine wpAny_bind (wpAny_typeOf (T := "enumerate") (hT _ _ rfl he) ?_)
  have h1 : Builtin.List.listSameRef (.ref S) (.ref e) = false := by simp [Builtin.List.listSameRef, Nat.ne_of_gt heS]
  have h2 : (Value.type "enumerate" == Value.type "list") = false := by decide
  have h3 : (Value.type "enumerate" == Value.type "tuple") = false := by decide
  simp only [h1, h2, h3, Bool.or_false, Bool.false_eq_true, if_false]
  refine wpAny_bind (wpAny_pyIter_enum he ?_)
  refine wpAny_bind (wpAny_holding ?_)
  unfold Builtin.List.listLengthHint
  refine wpAny_bind (wpAny_specialOf (hT _ _ rfl he) enum_no_len ?_)
  show wpAny _ _ (specialOf (Value.ref e) (Str.ofString "__length_hint__") >>= _) _ _ _
  refine wpAny_bind (wpAny_specialOf (hT _ _ rfl he) enum_no_hint ?_)
  refine wpAny_pure ?_
  show wpAny _ _ (rule "list.extend.makes-room" >>= fun _ => Builtin.List.listTouch (.ref S) >>= fun _ =>
    again (.builtin "list.extend.loop" ⟨[.ref S, .ref e, res], []⟩)) _ _ _
  refine wpAny_bind (wpAny_rule ?_)
  refine wpAny_bind ?_
  show wpAny _ _ (updateSeq S (·.push .none) >>= fun _ => updateSeq S (·.pop)) _ _ _
  refine wpAny_bind (wpAny_updateSeq hS rfl ?_)
  have hS₂ := Heap.get?_update_self (Obj.mapSeq (·.push Value.none)) hS rfl
  refine wpAny_updateSeq (hz := by seq_fits) hS₂ rfl ?_
  have hS₃ := Heap.get?_update_self (Obj.mapSeq (·.pop)) hS₂ rfl
  have oth : ∀ b o, b ≠ S → s.heap.get? b = some o → ((s.heap.update S (Obj.mapSeq (·.push Value.none))).update S (Obj.mapSeq (·.pop))).get? b = some o :=
    fun b o hb e => (Heap.get?_update_other _ _ (Ne.symm hb)).trans ((Heap.get?_update_other _ _ (Ne.symm hb)).trans e)
  refine wpAny_pure ⟨plainId_quiet PySem.F.plain_extend_loop _, ?_⟩
  exact en_loop (s := s) (h₁ := s.heap) hh hei hle hli heS hiS hlS hn res hR items.size 0 _ _ _ #[] [] (Nat.sub_zero _) (Nat.zero_le _) ⟨.none, .bool false, .none, oth e _ (Nat.ne_of_lt heS) he, Or.inl rfl⟩
    (hit.at fun o z => oth it o (Nat.ne_of_lt hiS) z) (hl.at fun o z => oth l o hlS z) (fun b o hb _ _ z => oth b o hb z) hS₃ rfl rfl ⟨List.Pairwise.nil, (fun _ ha => nomatch ha), (fun j a hj => by simp at hj)⟩
theorem en_call {Q : Value → Shared → Prop} (hh : A.handled = none) (he : IsEnum s.heap e it 0 .none) (hit : s.heap.IsListIter it l 0) (hl : s.heap.IsList l items) (hei : e ≠ it) (hle : l ≠ e) (hli : l ≠ it) (hn : items.size ≤ sizeLine)
    (hQ : ∀ h' tk acc c as, (∀ b o, b ≠ e → b ≠ it → s.heap.get? b = some o → h'.get? b = some o) → h'.get? s.heap.objs.size = some { cls := .type "list", dict := none, data := .seq acc c, slots := #[] } → as.length = items.size → EnG items s.heap.objs.size h' as →
      acc.toList = as.map Value.ref → Q (.ref s.heap.objs.size) { s with heap := h', toks := tk }) :
    wpAny (model prog w) A (call (.type "list") [.ref e]) Q E s := by
  refine callType_codes (Q₁ := fun obj s₁ => obj = .ref s.heap.objs.size ∧ s₁ = { s with heap := s.heap.push { cls := .type "list", data := .seq #[] } }) PySem.F.called_list (PySem.F.typeCall_list_1 _) PySem.F.entry_list_init
    (code_list_new _ ⟨rfl, rfl⟩) fun obj s₁ h₁ => ?_
  obtain ⟨rfl, rfl⟩ := h₁
  have hS : (s.heap.push { cls := .type "list", data := .seq #[] }).get? s.heap.objs.size = some { cls := .type "list", data := .seq #[] } := Heap.get?_push_size _ rfl
  have hel : e < s.heap.objs.size := Heap.lt_size he
  have hil : it < s.heap.objs.size := let ⟨_, z, _⟩ := hit; Heap.lt_size z
  have hll : l < s.heap.objs.size := let ⟨_, z, _⟩ := hl; Heap.lt_size z
  refine ⟨⟨_, hS, rfl⟩, PySem.F.args_list_init_2 _ _, ?_⟩
  show wpAny _ _ (do let old ← Builtin.List.listItems (.ref s.heap.objs.size); Builtin.List.listUpdate (.ref s.heap.objs.size) (fun _ => #[]); letGo old.toList.reverse; Builtin.List.listExtendWith (.ref s.heap.objs.size) (.ref e) .none) _ _ _
  refine wpAny_bind ?_
  unfold Builtin.List.listItems
  refine wpAny_bind (wpAny_seqItems hS rfl (wpAny_pure ?_))
  show wpAny _ _ (updateSeq s.heap.objs.size (fun _ => #[]) >>= fun _ => letGo (#[] : Array Value).toList.reverse >>= fun _ => Builtin.List.listExtendWith (.ref s.heap.objs.size) (.ref e) .none) _ _ _
  refine wpAny_bind (wpAny_updateSeq hS rfl ?_)
  have hS₂ := Heap.get?_update_self (Obj.mapSeq (fun _ => (#[] : Array Value))) hS rfl
  have oth : ∀ b o, s.heap.get? b = some o → ((s.heap.push { cls := .type "list", data := .seq #[] }).update s.heap.objs.size (Obj.mapSeq (fun _ => (#[] : Array Value)))).get? b = some o :=
    fun b o z => (Heap.get?_update_other _ _ (Nat.ne_of_gt (Heap.lt_size z))).trans (Heap.get?_push_of_some _ z)
  refine wpAny_bind (wpAny_letGo ?_)
  refine en_extend (A := A.in1) hh (oth e _ he) (hit.at fun o z => oth it o z) (hl.at fun o z => oth l o z) hei hle hli _ hel hil (Nat.ne_of_lt hll) .none _ hS₂ (fun h' tk acc c as hk hS' hl2 hG hacc => ?_) hn
  exact ⟨rfl, hQ h' tk acc c as (fun b o h1 h2 z => hk b o (Nat.ne_of_lt (Heap.lt_size z)) h1 h2 (oth b o z)) hS' hl2 hG hacc⟩
end
end UrE
namespace UrE
open PySem PySem.Spec PyProof.Rows L2
/-- tuples tracked at their addresses -/
def putG : Hp → List Addr → List (List V) → Hp
  | H, a :: as, c :: cs => putG (upd H a (.tup c)) as cs
  | H, _, _ => H
theorem putG_off {b : Addr} : ∀ (as : List Addr) (cs : List (List V)) (H : Hp), b ∉ as → putG H as cs b = H b
  | [], _, _, _ => rfl
  | _ :: _, [], _, _ => rfl
  | a :: as, c :: cs, H, h => by
    show putG (upd H a (.tup c)) as cs b = H b
    rw [putG_off as cs _ (fun z => h (List.mem_cons_of_mem _ z)), upd_ne (fun z => h (by rw [z]; exact List.mem_cons_self))]
theorem putG_at : ∀ (as : List Addr) (cs : List (List V)) (H : Hp), as.length = cs.length → as.Nodup → ∀ (j : Nat) (a : Addr), as[j]? = some a → ∃ c, cs[j]? = some c ∧ putG H as cs a = some (.tup c)
  | [], _, _, _, _, j, a, h => by simp at h
  | _ :: _, [], _, h, _, _, _, _ => by cases h
  | a :: as, c :: cs, H, h, hn, 0, b, e => by
    have hn' := List.nodup_cons.mp hn
    have e' : a = b := by simpa using e
    subst e'
    refine ⟨c, rfl, ?_⟩
    show putG (upd H a (.tup c)) as cs a = some (.tup c)
    rw [putG_off as cs _ hn'.1, upd_same]
  | a :: as, c :: cs, H, h, hn, j + 1, b, e => by
    have hn' := List.nodup_cons.mp hn
    exact putG_at as cs (upd H a (.tup c)) (Nat.succ.inj h) hn'.2 j b (by simpa using e)
/-- a new list of new tuples -/
def NewPairs (H : Hp) (cs : List (List V)) (p : Addr) (ts : List Addr) (H' : Hp) : Prop :=
  Same H H' ∧ H p = none ∧ (∀ t ∈ ts, H t = none) ∧ p ∉ ts ∧ ts.Nodup ∧ ts.length = cs.length ∧ H' p = some (.lst (ts.map V.ref)) ∧ ∀ (j : Nat) (c : List V), cs[j]? = some c → ∃ t, ts[j]? = some t ∧ H' t = some (.tup c)
theorem refs_vals : ∀ as : List Addr, Vals (as.map V.ref) (as.map Value.ref)
  | [] => .nil
  | _ :: as => .cons rfl (refs_vals as)
section
variable {X : Cx} {e : Expr} {ta : TA} {p p2 cpos pos : Pos}
theorem laid_pairs {pins : List (Addr × Obj)} {σ : L2.St} {H : Hp} {s : Shared} {h' : Heap} {tk : Nat} {cs : List (List V)} {acc : Array Value} {c S : Nat} {as : List Addr} (I : Inv X pins σ H s) (hz : cs.length ≤ sizeLine) (hS0 : s.heap.objs.size ≤ S)
    (hk : ∀ b o, s.heap.get? b = some o → h'.get? b = some o) (hS : h'.get? S = some { cls := .type "list", dict := none, data := .seq acc c, slots := #[] }) (hl : as.length = cs.length) (hr : as.Pairwise (· < ·)) (hab : ∀ a ∈ as, S < a)
    (ht : ∀ (j : Nat) (a : Addr) (c : List V), as[j]? = some a → cs[j]? = some c → c.length ≤ sizeLine ∧ ∃ us, Vals c us ∧ IsTup h' a us.toArray) (hacc : acc.toList = as.map Value.ref) :
    ∃ H' : Hp, NewPairs H cs S as H' ∧ Inv X pins σ H' { s with heap := h', toks := tk } := by
  have hSn : S ∉ as := fun z => Nat.lt_irrefl _ (hab _ z)
  have nd : as.Nodup := List.Pairwise.imp (fun {a b} (h : a < b) => Nat.ne_of_lt h) hr
  have new : ∀ t ∈ as, H t = none := fun t ht => I.hok.fresh (Nat.le_of_lt (Nat.lt_of_le_of_lt hS0 (hab t ht)))
  have newS : H S = none := I.hok.fresh hS0
  have atP := putG_at as cs (upd H S (.lst (as.map V.ref))) hl nd
  have off : ∀ b, b ∉ as → b ≠ S → putG (upd H S (.lst (as.map V.ref))) as cs b = H b := fun b h1 h2 => by rw [putG_off as cs _ h1, upd_ne h2]
  have low : ∀ b o, s.heap.get? b = some o → b ∉ as ∧ b ≠ S := fun b o e => ⟨fun z => absurd (Heap.lt_size e) (Nat.not_lt.mpr (Nat.le_of_lt (Nat.lt_of_le_of_lt hS0 (hab b z)))), Nat.ne_of_lt (Nat.lt_of_lt_of_le (Heap.lt_size e) hS0)⟩
  have kp : ∀ b u, H b = some u → (putG (upd H S (.lst (as.map V.ref))) as cs) b = some u := fun b u e => by
    rw [off b (fun z => by rw [new b z] at e; cases e) (fun z => by rw [z, newS] at e; cases e)]
    exact e
  have eS : putG (upd H S (.lst (as.map V.ref))) as cs S = some (.lst (as.map V.ref)) := by rw [putG_off as cs _ hSn, upd_same]
  refine ⟨putG (upd H S (.lst (as.map V.ref))) as cs, ⟨kp, newS, new, hSn, nd, hl, eS, fun j c hc => ?_⟩, ?_⟩
  · have hj : j < as.length := by rw [hl]; exact (List.getElem?_eq_some_iff.mp hc).1
    obtain ⟨c', h1, h2⟩ := atP j as[j] (List.getElem?_eq_getElem hj)
    rw [hc] at h1
    cases h1
    exact ⟨as[j], List.getElem?_eq_getElem hj, h2⟩
  refine I.call' (ch := []) rfl ⟨fun b o q _ _ _ => hk b o q, fun b o q _ _ _ => ⟨o.slots, hk b o q⟩, fun b o q n _ => ?_, fun b o q _ => ⟨o, hk b o q⟩, fun b xs q => kp b _ q, fun b o u q => kp b _ q, fun b ps q => ⟨#[], by rw [kp b _ q]; simp⟩⟩ (fun b u q => ?_) I.bare fun b z => by simp at z
  · obtain ⟨z1, z2⟩ := low b o q
    rw [off b z1 z2]
    exact n
  · by_cases hb : b ∈ as
    · obtain ⟨j, e1⟩ := List.mem_iff_getElem?.mp hb
      obtain ⟨c', e2, e3⟩ := atP j b e1
      rw [e3] at q
      cases q
      obtain ⟨z, us, r, tt⟩ := ht j b c' e1 e2
      exact ⟨z, us, r, tt⟩
    · by_cases hb2 : b = S
      · rw [hb2] at q ⊢
        rw [eS] at q
        cases q
        refine ⟨by rw [List.length_map]; omega, acc.toList, c, by rw [hacc]; exact refs_vals as, ?_⟩
        rw [Array.toArray_toList]
        exact hS
      · rw [off b hb hb2] at q
        exact (I.hok b u q).stay (fun d v _ y => hk d v y) (fun d y => kp d _ y) fun d xs y => kp d _ y
/-- the pairs (i, x) of a list -/
def enumC (xs : List V) : List (List V) := xs.zipIdx.map fun p => [.int (p.2 : Nat), p.1]
theorem enumC_len (xs : List V) : (enumC xs).length = xs.length := by simp [enumC]
theorem enumC_get {xs : List V} {j : Nat} : (enumC xs)[j]? = (xs[j]?).map fun x => [.int (j : Nat), x] := by
  unfold enumC
  rw [List.getElem?_map, List.getElem?_zipIdx]
  cases xs[j]? with
  | none => rfl
  | some x => simp
def tListEnum (K : PySem.W.Frag) (ta : TA) : TE := fun σ H Q => ta σ H fun vs H1 => ∃ a xs, vs = [.ref a] ∧ SqL K H1 a xs ∧ ∀ p ts H', NewPairs H1 (enumC xs) p ts H' → Q (.ref p) H'
theorem pe_list_enum (hc : X.calm = true) (hm : X.mg "list" = none) (hm2 : X.mg "enumerate" = none) (hg2 : Gl X "enumerate") (ha : PA X [e] ta) (hg : Gl X "list" := by rfl) (hs : starEach [e] X.env = [(false, eval e X.env)] := by rfl)
    (hs2 : starEach [.Call (.Name "enumerate" p2) [e] [] cpos] X.env = (false, eval (.Call (.Name "enumerate" p2) [e] [] cpos) X.env) :: starEach [] X.env := by rfl) :
    PE X (.Call (.Name "list" p) [.Call (.Name "enumerate" p2) [e] [] cpos] [] pos) (tListEnum X.K ta) := by
  refine ⟨fun pins s σ H Q I h => ?_⟩
  refine wpAny_Call_Name_kw (ld_blt I hg hm (by decide +kernel : bootBuiltins "list" = some (.type "list")) ?_)
  refine PyProof.Rows.callWith_type1 ?_ hs2 rfl
  rw [hs2]
  show wpAny _ _ (spliced ((false, eval (.Call (.Name "enumerate" p2) [e] [] cpos) X.env) :: backTo pos (starEach [] X.env))) _ _ s
  refine Calls.spliced_cons ?_
  refine Call_ (ld_blt I hg2 hm2 boot_enumerate (PyProof.Rows.callWith_type1 (thn (ha.run cpos pins s σ H _ I h) fun us s1 ⟨vs, H1, I1, r1, q1⟩ => ?_) hs rfl))
  obtain ⟨a, xs, ex, hq, q⟩ := q1
  subst ex
  cases r1 with
  | cons r rr =>
    cases rr
    cases r
    obtain ⟨its, rv, p', hz⟩ := I1.list hq
    refine call_enumerate_list p'.isList fun h' he hit hsz hk => ?_
    refine Calls.spliced_nil ?_
    have hla : a < s1.heap.objs.size := let ⟨_, z, _⟩ := p'.isList; Heap.lt_size z
    have hL' : h'.IsList a its.toArray := p'.isList.at fun o z => hk a o z
    have hlen : its.length = xs.length := (Vals.length rv).symm
    refine en_call (s := { s1 with heap := h' }) (I1.ok.hd hc) he hit hL' (Nat.succ_ne_self _) (Nat.ne_of_lt (Nat.lt_succ_of_lt hla)) (Nat.ne_of_lt hla) (by rw [List.size_toArray, hlen]; exact hz) fun h2 tk acc c as hk2 hS hl hG hacc => ?_
    have hsz' : h'.objs.size = s1.heap.objs.size + 2 := hsz
    obtain ⟨H', N, J⟩ := laid_pairs (I := I1) (h' := h2) (tk := tk) (cs := enumC xs) (acc := acc) (c := c) (S := h'.objs.size) (as := as) (by rw [enumC_len]; exact hz) (by omega)
      (fun b o z => hk2 b o (Nat.ne_of_lt (Nat.lt_succ_of_lt (Heap.lt_size z))) (Nat.ne_of_lt (Heap.lt_size z)) (hk b o z)) hS (by rw [hl, enumC_len, List.size_toArray, hlen]) hG.rise hG.above
      (fun j b c e1 e2 => by
        rw [enumC_get] at e2
        cases hx : xs[j]? with
        | none => rw [hx] at e2; cases e2
        | some x =>
          rw [hx] at e2
          have e3 : [V.int (j : Nat), x] = c := by simpa using e2
          subst e3
          obtain ⟨t, y, f1, f2⟩ := hG.pairs j b e1
          obtain ⟨u, g1, g2⟩ := rv.get hx
          have f1' : its[j]? = some y := by simpa using f1
          rw [f1'] at g1
          cases g1
          exact ⟨by show 2 ≤ sizeLine; decide, [.int j t, y], .cons ⟨t, rfl⟩ (.cons g2 .nil), ⟨_, f2, rfl, _, rfl⟩⟩) hacc
    exact ⟨.ref _, H', J, rfl, q _ as H' N⟩
end
end UrE

namespace Ur
open PySem L2

/-! ### frames -/
/-- all that was tracked stands as it was but at a -/
def But (a : Addr) (H H' : Hp) : Prop := ∀ b o, b ≠ a → H b = some o → H' b = some o
theorem same_get {H H' : Hp} {b : Addr} {o : HO} (s : Same H H') (h : H b = some o) : H' b = some o := s b o h
theorem but_get {H H' : Hp} {a b : Addr} {o : HO} (s : But a H H') (n : b ≠ a) (h : H b = some o) : H' b = some o := s b o n h
theorem ne_new {H : Hp} {a b : Addr} {o : HO} (h' : H b = none) (h : H a = some o) : a ≠ b := ne_of_none h h'
theorem at_nat {α : Type} {xs : List α} {j : Nat} {v : α} (h : xs[j]? = some v) : atI xs (j : Int) = some v := atI_nat h
theorem dead_upd {H : Hp} {a : Addr} {o u : HO} (h : upd H a o a = some u) : upd H a o a = some u := h
theorem dead_ne {a : Addr} (h : a ≠ a) : a ≠ a := h
theorem sz {n : Nat} (h : n ≤ 1000000) : n ≤ sizeLine := Nat.le_trans h (by decide)
theorem szl {n : Nat} (h : n < 1000000) : n < sizeLine := Nat.lt_of_lt_of_le h (by decide)
theorem ne_new' {H : Hp} {a b : Addr} {o : HO} (h' : H a = none) (h : H b = some o) : a ≠ b := fun e => ne_of_none h h' e.symm
theorem get_upd {H : Hp} {a b : Addr} {o u : HO} (n : b ≠ a) (h : H b = some u) : upd H a o b = some u := (upd_ne n).trans h
theorem b01 (b : Bool) : 0 ≤ (if b = true then (1 : Int) else 0) ∧ (if b = true then (1 : Int) else 0) ≤ 1 := by cases b <;> decide
/-! ### frames, for the search -/
theorem same_snoc {H0 H : Hp} {p : Addr} {o : HO} (n : H p = none) (s : Same H0 H) : Same H0 (upd H p o) := fun b u e => by
  have e' := s b u e
  rw [upd_ne (ne_of_none e' n)]
  exact e'
theorem same_upd' {H0 H : Hp} {p : Addr} {o : HO} (n : H0 p = none) (s : Same H0 H) : Same H0 (upd H p o) := fun b u e => by
  rw [upd_ne (ne_of_none e n)]
  exact s b u e
theorem same_step {H0 H1 H2 : Hp} (s2 : Same H1 H2) (s1 : Same H0 H1) : Same H0 H2 := s1.trans s2
theorem same_pairs {H0 H1 H2 : Hp} {cs : List (List V)} {p : Addr} {ts : List Addr} (n : UrE.NewPairs H1 cs p ts H2) (s1 : Same H0 H1) : Same H0 H2 := s1.trans n.1
theorem same_but {H0 H1 H2 : Hp} {a : Addr} (b : But a H1 H2) (n : H0 a = none) (s : Same H0 H1) : Same H0 H2 := fun x o e =>
  b x o (fun k => by rw [k, n] at e; cases e) (s x o e)
theorem adv0 {H H1 : Hp} {b : Addr} {o : HO} (s : Same H H1) (h : H b = some o) : H1 b = some o ∧ (∀ p, H p = none → b ≠ p) ∧ ∀ p, H p = none → b ≠ p := ⟨s _ _ h, fun _ k => ne_new k h, fun _ k => ne_new k h⟩
theorem adv1 {H H1 : Hp} {a0 : Addr} {o0 : HO} {b : Addr} {o : HO} (s : Same (upd H a0 o0) H1) (n0 : b ≠ a0) (h : H b = some o) : H1 b = some o ∧ (∀ p, (upd H a0 o0) p = none → b ≠ p) ∧ ∀ p, H p = none → b ≠ p := ⟨s _ _ (get_upd n0 h), fun _ k => ne_new k (get_upd n0 h), fun _ k => ne_new k h⟩
theorem adv2 {H H1 : Hp} {a0 : Addr} {o0 : HO} {a1 : Addr} {o1 : HO} {b : Addr} {o : HO} (s : Same (upd (upd H a0 o0) a1 o1) H1) (n0 : b ≠ a0) (n1 : b ≠ a1) (h : H b = some o) : H1 b = some o ∧ (∀ p, (upd (upd H a0 o0) a1 o1) p = none → b ≠ p) ∧ ∀ p, H p = none → b ≠ p := ⟨s _ _ (get_upd n1 (get_upd n0 h)), fun _ k => ne_new k (get_upd n1 (get_upd n0 h)), fun _ k => ne_new k h⟩
theorem adv3 {H H1 : Hp} {a0 : Addr} {o0 : HO} {a1 : Addr} {o1 : HO} {a2 : Addr} {o2 : HO} {b : Addr} {o : HO} (s : Same (upd (upd (upd H a0 o0) a1 o1) a2 o2) H1) (n0 : b ≠ a0) (n1 : b ≠ a1) (n2 : b ≠ a2) (h : H b = some o) : H1 b = some o ∧ (∀ p, (upd (upd (upd H a0 o0) a1 o1) a2 o2) p = none → b ≠ p) ∧ ∀ p, H p = none → b ≠ p := ⟨s _ _ (get_upd n2 (get_upd n1 (get_upd n0 h))), fun _ k => ne_new k (get_upd n2 (get_upd n1 (get_upd n0 h))), fun _ k => ne_new k h⟩
theorem adv4 {H H1 : Hp} {a0 : Addr} {o0 : HO} {a1 : Addr} {o1 : HO} {a2 : Addr} {o2 : HO} {a3 : Addr} {o3 : HO} {b : Addr} {o : HO} (s : Same (upd (upd (upd (upd H a0 o0) a1 o1) a2 o2) a3 o3) H1) (n0 : b ≠ a0) (n1 : b ≠ a1) (n2 : b ≠ a2) (n3 : b ≠ a3) (h : H b = some o) : H1 b = some o ∧ (∀ p, (upd (upd (upd (upd H a0 o0) a1 o1) a2 o2) a3 o3) p = none → b ≠ p) ∧ ∀ p, H p = none → b ≠ p := ⟨s _ _ (get_upd n3 (get_upd n2 (get_upd n1 (get_upd n0 h)))), fun _ k => ne_new k (get_upd n3 (get_upd n2 (get_upd n1 (get_upd n0 h)))), fun _ k => ne_new k h⟩
theorem adv5 {H H1 : Hp} {a0 : Addr} {o0 : HO} {a1 : Addr} {o1 : HO} {a2 : Addr} {o2 : HO} {a3 : Addr} {o3 : HO} {a4 : Addr} {o4 : HO} {b : Addr} {o : HO} (s : Same (upd (upd (upd (upd (upd H a0 o0) a1 o1) a2 o2) a3 o3) a4 o4) H1) (n0 : b ≠ a0) (n1 : b ≠ a1) (n2 : b ≠ a2) (n3 : b ≠ a3) (n4 : b ≠ a4) (h : H b = some o) : H1 b = some o ∧ (∀ p, (upd (upd (upd (upd (upd H a0 o0) a1 o1) a2 o2) a3 o3) a4 o4) p = none → b ≠ p) ∧ ∀ p, H p = none → b ≠ p := ⟨s _ _ (get_upd n4 (get_upd n3 (get_upd n2 (get_upd n1 (get_upd n0 h))))), fun _ k => ne_new k (get_upd n4 (get_upd n3 (get_upd n2 (get_upd n1 (get_upd n0 h))))), fun _ k => ne_new k h⟩
theorem adv6 {H H1 : Hp} {a0 : Addr} {o0 : HO} {a1 : Addr} {o1 : HO} {a2 : Addr} {o2 : HO} {a3 : Addr} {o3 : HO} {a4 : Addr} {o4 : HO} {a5 : Addr} {o5 : HO} {b : Addr} {o : HO} (s : Same (upd (upd (upd (upd (upd (upd H a0 o0) a1 o1) a2 o2) a3 o3) a4 o4) a5 o5) H1) (n0 : b ≠ a0) (n1 : b ≠ a1) (n2 : b ≠ a2) (n3 : b ≠ a3) (n4 : b ≠ a4) (n5 : b ≠ a5) (h : H b = some o) : H1 b = some o ∧ (∀ p, (upd (upd (upd (upd (upd (upd H a0 o0) a1 o1) a2 o2) a3 o3) a4 o4) a5 o5) p = none → b ≠ p) ∧ ∀ p, H p = none → b ≠ p := ⟨s _ _ (get_upd n5 (get_upd n4 (get_upd n3 (get_upd n2 (get_upd n1 (get_upd n0 h)))))), fun _ k => ne_new k (get_upd n5 (get_upd n4 (get_upd n3 (get_upd n2 (get_upd n1 (get_upd n0 h)))))), fun _ k => ne_new k h⟩
theorem adv7 {H H1 : Hp} {a0 : Addr} {o0 : HO} {a1 : Addr} {o1 : HO} {a2 : Addr} {o2 : HO} {a3 : Addr} {o3 : HO} {a4 : Addr} {o4 : HO} {a5 : Addr} {o5 : HO} {a6 : Addr} {o6 : HO} {b : Addr} {o : HO} (s : Same (upd (upd (upd (upd (upd (upd (upd H a0 o0) a1 o1) a2 o2) a3 o3) a4 o4) a5 o5) a6 o6) H1) (n0 : b ≠ a0) (n1 : b ≠ a1) (n2 : b ≠ a2) (n3 : b ≠ a3) (n4 : b ≠ a4) (n5 : b ≠ a5) (n6 : b ≠ a6) (h : H b = some o) : H1 b = some o ∧ (∀ p, (upd (upd (upd (upd (upd (upd (upd H a0 o0) a1 o1) a2 o2) a3 o3) a4 o4) a5 o5) a6 o6) p = none → b ≠ p) ∧ ∀ p, H p = none → b ≠ p := ⟨s _ _ (get_upd n6 (get_upd n5 (get_upd n4 (get_upd n3 (get_upd n2 (get_upd n1 (get_upd n0 h))))))), fun _ k => ne_new k (get_upd n6 (get_upd n5 (get_upd n4 (get_upd n3 (get_upd n2 (get_upd n1 (get_upd n0 h))))))), fun _ k => ne_new k h⟩
theorem same_free {H0 H : Hp} {p : Addr} (n : H p = none) (s : Same H0 H) : H0 p = none := s.free n
theorem but_refl {a : Addr} {H : Hp} : But a H H := fun _ _ _ e => e
theorem but_at {a : Addr} {H0 H : Hp} {o : HO} (s : But a H0 H) : But a H0 (upd H a o) := fun b u n e => by
  rw [upd_ne n]
  exact s b u n e
theorem but_snoc {a : Addr} {H0 H : Hp} {p : Addr} {o : HO} (n : H p = none) (s : But a H0 H) : But a H0 (upd H p o) := fun b u nb e => by
  have e' := s b u nb e
  rw [upd_ne (ne_of_none e' n)]
  exact e'
theorem but_upd {a : Addr} {H0 H : Hp} {p : Addr} {o : HO} (n : H0 p = none) (s : But a H0 H) : But a H0 (upd H p o) := fun b u nb e => by
  rw [upd_ne (ne_of_none e n)]
  exact s b u nb e
theorem but_step {a : Addr} {H0 H1 H2 : Hp} (s2 : But a H1 H2) (s1 : But a H0 H1) : But a H0 H2 := fun b u n e => s2 b u n (s1 b u n e)
theorem but_step' {a : Addr} {H0 H1 H2 : Hp} (s2 : Same H1 H2) (s1 : But a H0 H1) : But a H0 H2 := fun b u n e => s2 b u (s1 b u n e)
theorem but_free {a : Addr} {H0 H1 : Hp} {p : Addr} {o : HO} (h : H1 p = none) (x : But a H0 H1) (ha : H1 a = some o) : H0 p = none := by
  by_cases e : p = a
  · rw [e, ha] at h; cases h
  · cases q : H0 p with
    | none => rfl
    | some u => rw [x p u e q] at h; cases h
/-- a word that the search does not open -/
structure Iv (P : Prop) : Prop where
  out : P
/-! ### a loop's invariant is asked here -/
theorem isW1 {P : (Nat → Nat → Hp → Prop) → Prop} (h : ∃ W, P W) : ∃ W, P W := h
theorem isW2 {P : (Nat → Nat → L2.St → Hp → Prop) → Prop} (h : ∃ W, P W) : ∃ W, P W := h
theorem isW3 {P : (Nat → L2.St → Hp → Prop) → Prop} (h : ∃ W, P W) : ∃ W, P W := h
theorem isW4 {P : (L2.St → Hp → Prop) → Prop} (h : ∃ W, P W) : ∃ W, P W := h
/-! ### branches -/
theorem br {c : Prop} [Decidable c] {A B : Prop} (h1 : c → A) (h2 : ¬ c → B) : if decide c = true then A else B := by
  by_cases h : c
  · rw [if_pos (decide_eq_true h)]
    exact h1 h
  · rw [if_neg (by rw [decide_eq_false h]; exact Bool.false_ne_true)]
    exact h2 h
theorem brn {c : Prop} [Decidable c] {A B : Prop} (h1 : ¬ c → A) (h2 : c → B) : if (!decide c) = true then A else B := by
  by_cases h : c
  · rw [if_neg (by rw [decide_eq_true h]; decide)]
    exact h2 h
  · rw [if_pos (by rw [decide_eq_false h]; decide)]
    exact h1 h
theorem bri {i j : Int} {A B : Prop} (h1 : i = j → A) (h2 : ¬ i = j → B) : if decide (V.int i = V.int j) = true then A else B :=
  br (fun h => h1 (V.int.inj h)) (fun h => h2 fun e => h (by rw [e]))
theorem brni {i j : Int} {A B : Prop} (h1 : ¬ i = j → A) (h2 : i = j → B) : if (!decide (V.int i = V.int j)) = true then A else B :=
  brn (fun h => h1 fun e => h (by rw [e])) (fun h => h2 (V.int.inj h))
theorem brb {b : Bool} {A B : Prop} (h1 : b = true → A) (h2 : b = false → B) : if b = true then A else B := by
  cases b with
  | true => exact (if_pos rfl).mpr (h1 rfl)
  | false => exact (if_neg Bool.false_ne_true).mpr (h2 rfl)
/-! ### branches that are known -/
theorem brT {c : Prop} [Decidable c] {A B : Prop} (h : c) (a : A) : if decide c = true then A else B := by rw [if_pos (decide_eq_true h)]; exact a
theorem brF {c : Prop} [Decidable c] {A B : Prop} (h : ¬ c) (b : B) : if decide c = true then A else B := by rw [if_neg (by rw [decide_eq_false h]; exact Bool.false_ne_true)]; exact b
theorem brnT {c : Prop} [Decidable c] {A B : Prop} (h : c) (b : B) : if (!decide c) = true then A else B := by rw [if_neg (by rw [decide_eq_true h]; decide)]; exact b
theorem brnF {c : Prop} [Decidable c] {A B : Prop} (h : ¬ c) (a : A) : if (!decide c) = true then A else B := by rw [if_pos (by rw [decide_eq_false h]; decide)]; exact a
theorem noN {A B : Prop} {i : Int} (b : B) : if decide (V.int i = V.non) = true then A else B := by rw [if_neg (by rw [decide_eq_false (by intro e; cases e)]; exact Bool.false_ne_true)]; exact b
theorem noNn {A B : Prop} {i : Int} (a : A) : if (!decide (V.int i = V.non)) = true then A else B := by rw [if_pos (by rw [decide_eq_false (by intro e; cases e)]; decide)]; exact a
end Ur

namespace Ur
open PySem L2
/-! ### lists of ints: ==, slices, loops -/
/-- the list of ints as values -/
abbrev iv (ns : List Int) : List V := ns.map V.int
theorem dpAll_ints {K : PySem.W.Frag} {H : Hp} : ∀ ns : List Int, DpAll K H (ns.map V.int) (ns.map PyData.int)
  | [] => .nil
  | n :: ns => .cons (.int n) (dpAll_ints ns)
theorem dp_ints {K : PySem.W.Frag} {H : Hp} {a : Addr} {ns : List Int} (h : SqL K H a (ns.map V.int)) : Dp K H (.ref a) (.list (ns.map PyData.int)) := .lst h (dpAll_ints ns)
theorem canLayAll_ints : ∀ ns : List Int, PyData.canLayAll0 (ns.map PyData.int) = true
  | [] => rfl
  | n :: ns => by
    show (PyData.canLay0 (.int n) && PyData.canLayAll0 (ns.map PyData.int)) = true
    rw [canLayAll_ints ns]
    rfl
theorem depthAll_ints : ∀ ns : List Int, PyData.depthAll (ns.map PyData.int) ≤ 1
  | [] => by decide
  | n :: ns => by
    have h := depthAll_ints ns
    rw [List.map_cons, PyData.depthAll]
    exact Nat.max_le.mpr ⟨by simp [PyData.depth], h⟩
theorem depth_ints (ns : List Int) : PyData.depth (.list (ns.map PyData.int)) ≤ 2 := by
  have h := depthAll_ints ns
  rw [PyData.depth]
  omega
theorem shaped_of {d : PyData} (c : PyData.canLay0 d = true) (h : PyData.depth d ≤ 64) : SeqAt.shaped d = true := by
  unfold SeqAt.shaped
  rw [c, decide_eq_true h]
  rfl
theorem shaped_ints (ns : List Int) : SeqAt.shaped (.list (ns.map PyData.int)) = true := shaped_of (canLayAll_ints ns) (Nat.le_trans (depth_ints ns) (by decide))
theorem eqvAll_ints : ∀ ns ms : List Int, PyData.eqvAll (ns.map PyData.int) (ms.map PyData.int) = decide (ns = ms)
  | [], [] => rfl
  | [], _ :: _ => rfl
  | _ :: _, [] => rfl
  | n :: ns, m :: ms => by
    show (PyData.eqv (.int n) (.int m) && PyData.eqvAll (ns.map PyData.int) (ms.map PyData.int)) = decide (n :: ns = m :: ms)
    rw [eqvAll_ints ns ms]
    show ((n == m) && decide (ns = ms)) = decide (n :: ns = m :: ms)
    by_cases h : n = m <;> by_cases h2 : ns = ms <;> simp [h, h2]
theorem eqv_ints (ns ms : List Int) : PyData.eqv (.list (ns.map PyData.int)) (.list (ms.map PyData.int)) = decide (ns = ms) := eqvAll_ints ns ms
theorem rEq_ints {K : PySem.W.Frag} {H : Hp} {a b : Addr} {ns ms : List Int} {Q : VK} (h1 : SqL K H a (ns.map V.int)) (h2 : SqL K H b (ms.map V.int)) (q : Q (.bl (decide (ns = ms))) H) : rEqD K (.ref a) (.ref b) H Q :=
  ⟨_, _, dp_ints h1, dp_ints h2, shaped_ints ns, shaped_ints ms, by rw [eqv_ints]; exact q⟩
theorem rNe_ints {K : PySem.W.Frag} {H : Hp} {a b : Addr} {ns ms : List Int} {Q : VK} (h1 : SqL K H a (ns.map V.int)) (h2 : SqL K H b (ms.map V.int)) (q : Q (.bl (!decide (ns = ms))) H) : rNeD K (.ref a) (.ref b) H Q :=
  ⟨_, _, dp_ints h1, dp_ints h2, shaped_ints ns, shaped_ints ms, by rw [eqv_ints]; exact q⟩
theorem SqL.nil_of {K : PySem.W.Frag} {H : Hp} {a : Addr} (h : SqL K H a []) : SqL K H a (([] : List Int).map V.int) := h

theorem iv_get {ns : List Int} {i : Nat} {x : V} (h : (ns.map V.int)[i]? = some x) : ∃ n, ns[i]? = some n ∧ x = .int n := by
  rw [List.getElem?_map] at h
  cases e : ns[i]? with
  | none => rw [e] at h; cases h
  | some n => rw [e] at h; exact ⟨n, rfl, (Option.some.inj h).symm⟩
theorem iv_get' {ns : List Int} {i : Nat} {n : Int} (h : ns[i]? = some n) : (ns.map V.int)[i]? = some (.int n) := by rw [List.getElem?_map, h]; rfl
theorem at_int {ns : List Int} {j : Nat} {n : Int} (h : ns[j]? = some n) : atI (ns.map V.int) (j : Int) = some (.int n) := atI_nat (iv_get' h)
/-- an item at an int place -/
theorem at_int' {ns : List Int} {i : Int} (h0 : 0 ≤ i) (h1 : i < ns.length) : atI (ns.map V.int) i = some (.int (ns.getD i.toNat 0)) := by
  have hj : i.toNat < ns.length := by omega
  have e : i = ((i.toNat : Nat) : Int) := by omega
  have e2 : ns[i.toNat]? = some (ns.getD i.toNat 0) := by rw [List.getD_eq_getElem?_getD, List.getElem?_eq_getElem hj]; rfl
  rw [e]
  exact at_int (by rw [Int.toNat_natCast]; exact e2)
theorem at2 {x y i : Int} (h0 : 0 ≤ i) (h1 : i < 2) : atI [V.int x, V.int y] i = some (.int ([x, y].getD i.toNat 0)) := at_int' (ns := [x, y]) h0 h1
theorem at3 {x y z i : Int} (h0 : 0 ≤ i) (h1 : i < 3) : atI [V.int x, V.int y, V.int z] i = some (.int ([x, y, z].getD i.toNat 0)) := at_int' (ns := [x, y, z]) h0 h1
theorem at4 {x y z w i : Int} (h0 : 0 ≤ i) (h1 : i < 4) : atI [V.int x, V.int y, V.int z, V.int w] i = some (.int ([x, y, z, w].getD i.toNat 0)) := at_int' (ns := [x, y, z, w]) h0 h1
theorem at6 {x y z w u v i : Int} (h0 : 0 ≤ i) (h1 : i < 6) : atI [V.int x, V.int y, V.int z, V.int w, V.int u, V.int v] i = some (.int ([x, y, z, w, u, v].getD i.toNat 0)) := at_int' (ns := [x, y, z, w, u, v]) h0 h1
theorem getD4 {x y z w i lo hi : Int} (h0 : 0 ≤ i) (h1 : i < 4) (hx : lo ≤ x ∧ x ≤ hi) (hy : lo ≤ y ∧ y ≤ hi) (hz : lo ≤ z ∧ z ≤ hi) (hw : lo ≤ w ∧ w ≤ hi) : lo ≤ [x, y, z, w].getD i.toNat 0 ∧ [x, y, z, w].getD i.toNat 0 ≤ hi := by
  have h : i = 0 ∨ i = 1 ∨ i = 2 ∨ i = 3 := by omega
  rcases h with rfl | rfl | rfl | rfl
  · exact hx
  · exact hy
  · exact hz
  · exact hw
theorem getD2 {x y i lo hi : Int} (h0 : 0 ≤ i) (h1 : i < 2) (hx : lo ≤ x ∧ x ≤ hi) (hy : lo ≤ y ∧ y ≤ hi) : lo ≤ [x, y].getD i.toNat 0 ∧ [x, y].getD i.toNat 0 ≤ hi := by
  have h : i = 0 ∨ i = 1 := by omega
  rcases h with rfl | rfl
  · exact hx
  · exact hy
theorem getD3 {x y z i lo hi : Int} (h0 : 0 ≤ i) (h1 : i < 3) (hx : lo ≤ x ∧ x ≤ hi) (hy : lo ≤ y ∧ y ≤ hi) (hz : lo ≤ z ∧ z ≤ hi) : lo ≤ [x, y, z].getD i.toNat 0 ∧ [x, y, z].getD i.toNat 0 ≤ hi := by
  have h : i = 0 ∨ i = 1 ∨ i = 2 := by omega
  rcases h with e | e | e <;> subst e
  · exact hx
  · exact hy
  · exact hz
theorem getD6 {x y z w u v i lo hi : Int} (h0 : 0 ≤ i) (h1 : i < 6) (hx : lo ≤ x ∧ x ≤ hi) (hy : lo ≤ y ∧ y ≤ hi) (hz : lo ≤ z ∧ z ≤ hi) (hw : lo ≤ w ∧ w ≤ hi) (hu : lo ≤ u ∧ u ≤ hi) (hv : lo ≤ v ∧ v ≤ hi) : lo ≤ [x, y, z, w, u, v].getD i.toNat 0 ∧ [x, y, z, w, u, v].getD i.toNat 0 ≤ hi := by
  have h : i = 0 ∨ i = 1 ∨ i = 2 ∨ i = 3 ∨ i = 4 ∨ i = 5 := by omega
  rcases h with e | e | e | e | e | e <;> subst e
  · exact hx
  · exact hy
  · exact hz
  · exact hw
  · exact hu
  · exact hv
theorem ixN_of {n : Nat} {i : Int} (h0 : 0 ≤ i) (h1 : i < n) : ixN n i = some i.toNat := by
  unfold ixN
  rw [if_pos h0, if_pos h1]

theorem ixN_iv {ns : List Int} {i : Int} (h0 : 0 ≤ i) (h1 : i < ns.length) : ixN (ns.map V.int).length i = some i.toNat := by
  rw [List.length_map]
  unfold ixN
  rw [if_pos h0, if_pos h1]
theorem upd_snoc {H : Hp} {a : Addr} {ns : List Int} {v : Int} : upd H a (.lst (ns.map V.int ++ [V.int v])) a = some (.lst ((ns ++ [v]).map V.int)) := by
  rw [upd_same, List.map_append]
  rfl
theorem upd_set {H : Hp} {a : Addr} {ns : List Int} {j : Nat} {v : Int} : upd H a (.lst ((ns.map V.int).set j (V.int v))) a = some (.lst ((ns.set j v).map V.int)) := by
  rw [upd_same, List.map_set]
/-- .. against a list without items -/
theorem rEq_intsN {K : PySem.W.Frag} {H : Hp} {a b : Addr} {ns : List Int} {Q : VK} (h1 : SqL K H a (ns.map V.int)) (h2 : SqL K H b []) (q : Q (.bl (decide (ns = []))) H) : rEqD K (.ref a) (.ref b) H Q :=
  rEq_ints (ms := []) h1 h2 q
theorem rNe_intsN {K : PySem.W.Frag} {H : Hp} {a b : Addr} {ns : List Int} {Q : VK} (h1 : SqL K H a (ns.map V.int)) (h2 : SqL K H b []) (q : Q (.bl (!decide (ns = []))) H) : rNeD K (.ref a) (.ref b) H Q :=
  rNe_ints (ms := []) h1 h2 q
/-! ### built-ins of one argument, of two -/
def tB1 (r : List V → Hp → VK → Prop) (te : TE) : TE := fun σ H Q => te σ H fun x H1 => r [x] H1 Q
def tB2 (r : List V → Hp → VK → Prop) (ta tb : TE) : TE := fun σ H Q => ta σ H fun x H1 => tb σ H1 fun y H2 => r [x, y] H2 Q
section
variable {X : Cx} {x : Str} {id T : String} {e f : Expr} {te tf : TE} {r : List V → Hp → VK → Prop} {p pos : Pos}
theorem pe_b1 (hc : CallR X (.builtin id) r) (hg : Gl X x) (hm : X.mg x = none) (hv : bootBuiltins x = some (.builtin id)) (ha : PE X e te) (hn : x ≠ "__name__" := by decide) (hdb : (x == ("__debug__" : Str)) = false := by decide)
    (he : starEach [e] X.env = (false, eval e X.env) :: starEach [] X.env := by rfl) : PE X (.Call (.Name x p) [e] [] pos) (tB1 r te) := pe_callB hc hg hm hv (pa_cons ha pa_nil he) hn hdb he rfl
theorem pe_b2 (hc : CallR X (.builtin id) r) (hg : Gl X x) (hm : X.mg x = none) (hv : bootBuiltins x = some (.builtin id)) (ha : PE X e te) (hb : PE X f tf) (hn : x ≠ "__name__" := by decide) (hdb : (x == ("__debug__" : Str)) = false := by decide)
    (he : starEach [e, f] X.env = (false, eval e X.env) :: starEach [f] X.env := by rfl) (hf : starEach [f] X.env = (false, eval f X.env) :: starEach [] X.env := by rfl) (hpl : (backTo pos (starEach [f] X.env)).any (·.1) = false := by rfl) :
    PE X (.Call (.Name x p) [e, f] [] pos) (tB2 r te tf) := pe_callB hc hg hm hv (pa_cons ha (pa_cons hb pa_nil hf) he) hn hdb he hpl
theorem pe_t1 (hc : CallR X (.type T) r) (hg : Gl X x) (hm : X.mg x = none) (hv : bootBuiltins x = some (.type T)) (ha : PE X e te) (hn : x ≠ "__name__" := by decide) (hdb : (x == ("__debug__" : Str)) = false := by decide)
    (he : starEach [e] X.env = (false, eval e X.env) :: starEach [] X.env := by rfl) : PE X (.Call (.Name x p) [e] [] pos) (tB1 r te) := pe_callTy hc hg hm hv (pa_cons ha pa_nil he) hn hdb he rfl
end
theorem tyL {K : PySem.W.Frag} {H : Hp} {l : Addr} {xs : List V} (h : SqL K H l xs) : tyV K "list" (.ref l) H := Or.inl ⟨rfl, _, h⟩
/-! ### len -/
def rLenI (K : PySem.W.Frag) : List V → Hp → VK → Prop := fun xs H Q => ∃ p ys, xs = [.ref p] ∧ (SqL K H p ys ∨ SqT K H p ys) ∧ Q (.int ys.length) H
theorem call_lenI {X : Cx} : CallR X (.builtin "len") (rLenI X.K) := call_len_seq
theorem len_ints {K : PySem.W.Frag} {H : Hp} {p : Addr} {ns : List Int} {Q : VK} (h : SqL K H p (ns.map V.int)) (q : Q (.int ns.length) H) : rLenI K [.ref p] H Q :=
  ⟨p, _, rfl, Or.inl h, by rw [List.length_map]; exact q⟩
theorem upd_app {H : Hp} {a : Addr} {ns ms : List Int} : upd H a (.lst (ns.map V.int ++ ms.map V.int)) a = some (.lst ((ns ++ ms).map V.int)) := by
  rw [upd_same, List.map_append]
theorem upd_1cat {H : Hp} {a : Addr} {x : Int} {ms : List Int} : upd H a (.lst ([V.int x] ++ ms.map V.int)) a = some (.lst ((x :: ms).map V.int)) := upd_same
theorem rep_iv (k : Nat) (v : Int) : (List.replicate k [V.int v]).flatten = (List.replicate k v).map V.int := by
  induction k with
  | zero => rfl
  | succ k ih => rw [List.replicate_succ, List.flatten_cons, ih, List.replicate_succ, List.map_cons]; rfl
theorem upd_rep {H : Hp} {a : Addr} {ns : List Int} {k : Nat} {v : Int} : upd H a (.lst (ns.map V.int ++ (List.replicate k [V.int v]).flatten)) a = some (.lst ((ns ++ List.replicate k v).map V.int)) := by
  rw [upd_same, rep_iv, List.map_append]
theorem upd_rep0 {H : Hp} {a : Addr} {k : Nat} {v : Int} : upd H a (.lst (List.replicate k [V.int v]).flatten) a = some (.lst ((List.replicate k v).map V.int)) := by
  rw [upd_same, rep_iv]
/-! ### slices -/
theorem sIx_pos (n d : Nat) {m : Int} (h : 0 ≤ m) : HT.sIx n d (some m) = min m.toNat n := by
  show (if m < 0 then (m + (n : Int)).toNat else min m.toNat n) = min m.toNat n
  rw [if_neg (by omega)]
theorem cut_all (xs : List V) : cutV xs none none = xs := by
  unfold cutV
  rw [HT.sIx_none, HT.sIx_none]
  simp
theorem cut_to (xs : List V) {m : Int} (h : 0 ≤ m) : cutV xs none (some m) = xs.take m.toNat := by
  unfold cutV
  rw [HT.sIx_none, sIx_pos _ _ h, List.drop_zero, Nat.sub_zero]
  by_cases hm : m.toNat ≤ xs.length
  · rw [Nat.min_eq_left hm]
  · rw [Nat.min_eq_right (by omega), List.take_of_length_le (Nat.le_refl _), List.take_of_length_le (by omega)]
theorem cut_from (xs : List V) {m : Int} (h : 0 ≤ m) : cutV xs (some m) none = xs.drop m.toNat := by
  unfold cutV
  rw [HT.sIx_none, sIx_pos _ _ h]
  by_cases hm : m.toNat ≤ xs.length
  · rw [Nat.min_eq_left hm, List.take_of_length_le (by rw [List.length_drop]; omega)]
  · rw [Nat.min_eq_right (by omega), List.drop_of_length_le (Nat.le_refl _), List.drop_of_length_le (by omega)]
    simp
theorem cut_mid (xs : List V) {a b : Int} (h : 0 ≤ a) (h2 : 0 ≤ b) : cutV xs (some a) (some b) = (xs.drop a.toNat).take (b.toNat - a.toNat) := by
  unfold cutV
  rw [sIx_pos _ _ h, sIx_pos _ _ h2]
  by_cases ha : a.toNat ≤ xs.length
  · rw [Nat.min_eq_left ha]
    by_cases hb : b.toNat ≤ xs.length
    · rw [Nat.min_eq_left hb]
    · rw [Nat.min_eq_right (by omega), List.take_of_length_le (by rw [List.length_drop]; omega), List.take_of_length_le (by rw [List.length_drop]; omega)]
  · rw [Nat.min_eq_right (a := a.toNat) (by omega), List.drop_of_length_le (Nat.le_refl _), List.drop_of_length_le (by omega)]
    simp
theorem cutI_all (ns : List Int) : cutV (ns.map V.int) none none = ns.map V.int := cut_all _
theorem cutI_to (ns : List Int) {m : Int} (h : 0 ≤ m) : cutV (ns.map V.int) none (some m) = (ns.take m.toNat).map V.int := by rw [cut_to _ h, List.map_take]
theorem cutI_from (ns : List Int) {m : Int} (h : 0 ≤ m) : cutV (ns.map V.int) (some m) none = (ns.drop m.toNat).map V.int := by rw [cut_from _ h, List.map_drop]
theorem cutI_mid (ns : List Int) {a b : Int} (h : 0 ≤ a) (h2 : 0 ≤ b) : cutV (ns.map V.int) (some a) (some b) = ((ns.drop a.toNat).take (b.toNat - a.toNat)).map V.int := by
  rw [cut_mid _ h h2, List.map_take, List.map_drop]

/-! ### pairs made by list(enumerate(..)) -/
theorem NewPairs_of {H H1 H' : Hp} {cs : List (List V)} {p : Addr} {ts : List Addr} (s : Same H H1) (n : UrE.NewPairs H1 cs p ts H') : UrE.NewPairs H cs p ts H' := by
  obtain ⟨a, b, c, d, e⟩ := n
  exact ⟨s.trans a, s.free b, fun t ht => s.free (c t ht), d, e⟩
theorem same_new {H : Hp} {p : Addr} {o : HO} (h : H p = none) : Same H (upd H p o) := fun b u e => by
  rw [upd_ne (ne_of_none e h)]
  exact e
theorem sql_new {K : PySem.W.Frag} {H : Hp} {p b : Addr} {o : HO} {xs : List V} (h : H p = none) (q : SqL K H b xs) : SqL K (upd H p o) b xs := (same_new h).seq q
theorem sql_upd {K : PySem.W.Frag} {H : Hp} {p b : Addr} {o : HO} {xs : List V} (n : b ≠ p) (q : SqL K H b xs) : SqL K (upd H p o) b xs := by
  rcases q with (h | ⟨u, h⟩) | h
  · exact .inl (.inl ((upd_ne n).trans h))
  · exact .inl (.inr ⟨u, (upd_ne n).trans h⟩)
  · exact .inr h
/-- a change at what H0 does not know -/
theorem same_upd {H0 H : Hp} {p : Addr} {o : HO} (s : Same H0 H) (h : H0 p = none) : Same H0 (upd H p o) := fun b u e => by
  rw [upd_ne (ne_of_none e h)]
  exact s b u e
theorem upd_none {H : Hp} {a p : Addr} {o : HO} (h : upd H a o p = none) : H p = none := by
  by_cases e : p = a
  · rw [e, upd_same] at h; cases h
  · rw [upd_ne e] at h; exact h
theorem upd_none_ne {H : Hp} {a p : Addr} {o : HO} (h : upd H a o p = none) : p ≠ a := fun e => by rw [e, upd_same] at h; cases h
theorem upd_cutto {H : Hp} {a : Addr} {ns : List Int} {m : Int} (h : 0 ≤ m) : upd H a (.lst (cutV (ns.map V.int) none (some m))) a = some (.lst ((ns.take m.toNat).map V.int)) := by rw [cutI_to ns h, upd_same]
theorem upd_cutfrom {H : Hp} {a : Addr} {ns : List Int} {m : Int} (h : 0 ≤ m) : upd H a (.lst (cutV (ns.map V.int) (some m) none)) a = some (.lst ((ns.drop m.toNat).map V.int)) := by rw [cutI_from ns h, upd_same]
theorem upd_cutmid {H : Hp} {a : Addr} {ns : List Int} {m k : Int} (h : 0 ≤ m) (h2 : 0 ≤ k) : upd H a (.lst (cutV (ns.map V.int) (some m) (some k))) a = some (.lst (((ns.drop m.toNat).take (k.toNat - m.toNat)).map V.int)) := by rw [cutI_mid ns h h2, upd_same]
theorem upd_cutall {H : Hp} {a : Addr} {ns : List Int} : upd H a (.lst (cutV (ns.map V.int) none none)) a = some (.lst (ns.map V.int)) := by rw [cutI_all ns, upd_same]
end Ur

namespace Ur
open PySem L2 PyProof.Rows PySem.Spec
/-! ### the rules of a block, by the fragment alone -/
def rMax2 : List V → Hp → VK → Prop := fun xs H Q => ∃ i j, xs = [.int i, .int j] ∧ Q (.int (if j > i then j else i)) H
def rMin2 : List V → Hp → VK → Prop := fun xs H Q => ∃ i j, xs = [.int i, .int j] ∧ Q (.int (if j < i then j else i)) H
def rListOf (K : PySem.W.Frag) : List V → Hp → VK → Prop := fun xs H Q => ∃ p ys, xs = [.ref p] ∧ (SqL K H p ys ∨ SqT K H p ys) ∧ ∀ l, H l = none → Q (.ref l) (upd H l (.lst ys))
def rTupOf (K : PySem.W.Frag) : List V → Hp → VK → Prop := fun xs H Q => ∃ p ys, xs = [.ref p] ∧ ((SqL K H p ys ∧ ∀ l, H l = none → Q (.ref l) (upd H l (.tup ys))) ∨ (SqT K H p ys ∧ Q (.ref p) H))
theorem ix_listK {X : Cx} {K : PySem.W.Frag} (hk : X.K = K) : IxR X (rIxL K) := by subst hk; exact L2.ix_list
theorem ix_tupK {X : Cx} {K : PySem.W.Frag} (hk : X.K = K) : IxR X (rIxT K) := by subst hk; exact L2.ix_tup
theorem sl_listK {X : Cx} {K : PySem.W.Frag} (hk : X.K = K) : SlR X (rSlL K) := by subst hk; exact L2.sl_list
theorem sl_tupK {X : Cx} {K : PySem.W.Frag} (hk : X.K = K) : SlR X (rSlT K) := by subst hk; exact L2.sl_tup
theorem op_in_seqK {X : Cx} {K : PySem.W.Frag} (hk : X.K = K) : OpR X (compareOp .In) (rIn K false) := by subst hk; exact L2.op_in_seq
theorem op_notIn_seqK {X : Cx} {K : PySem.W.Frag} (hk : X.K = K) : OpR X (compareOp .NotIn) (rIn K true) := by subst hk; exact L2.op_notIn_seq
theorem call_lenIK {X : Cx} {K : PySem.W.Frag} (hk : X.K = K) : CallR X (.builtin "len") (rLenI K) := by subst hk; exact Ur.call_lenI
theorem call_isiK {X : Cx} {K : PySem.W.Frag} (hk : X.K = K) : CallR X (.builtin "isinstance") (rIsi K) := by subst hk; exact L2.call_isi
theorem cr_maxK {X : Cx} {K : PySem.W.Frag} (hk : X.K = K) (hc : X.calm = true) : CallR X (.builtin "max") (rMax K) := by subst hk; exact L2.cr_max hc
theorem cr_minK {X : Cx} {K : PySem.W.Frag} (hk : X.K = K) (hc : X.calm = true) : CallR X (.builtin "min") (rMin K) := by subst hk; exact L2.cr_min hc
theorem cr_sumK {X : Cx} {K : PySem.W.Frag} (hk : X.K = K) (hc : X.calm = true) : CallR X (.builtin "sum") (rSum K) := by subst hk; exact L2.cr_sum hc
theorem cr_anyK {X : Cx} {K : PySem.W.Frag} (hk : X.K = K) (hc : X.calm = true) : CallR X (.builtin "any") (rAny K) := by subst hk; exact L2.cr_any hc
theorem cr_allK {X : Cx} {K : PySem.W.Frag} (hk : X.K = K) (hc : X.calm = true) : CallR X (.builtin "all") (rAll K) := by subst hk; exact L2.cr_all hc
theorem op_eqDK {X : Cx} {K : PySem.W.Frag} (hk : X.K = K) (hu : X.A.units + 64 < cLine) : OpR X (compareOp .Eq) (rEqD K) := by subst hk; exact L2.op_eqD hu
theorem op_neDK {X : Cx} {K : PySem.W.Frag} (hk : X.K = K) (hu : X.A.units + 64 < cLine) : OpR X (compareOp .NotEq) (rNeD K) := by subst hk; exact L2.op_neD hu
theorem cr_sortedIK {X : Cx} {K : PySem.W.Frag} (hk : X.K = K) : CallR X (.builtin "sorted") (rSortedI K) := by subst hk; exact L2.cr_sortedI
theorem mt_indexK {X : Cx} {K : PySem.W.Frag} (hk : X.K = K) : MtR X "list.index" (rIndex K) := by subst hk; exact L2.mt_index
theorem call_max2K {X : Cx}  (hc : X.calm = true) : CallR X (.builtin "max") rMax2 := by exact L2.call_max2 hc
theorem call_min2K {X : Cx}  (hc : X.calm = true) : CallR X (.builtin "min") rMin2 := by exact L2.call_min2 hc
theorem call_list_ofK {X : Cx} {K : PySem.W.Frag} (hk : X.K = K) : CallR X (.type "list") (rListOf K) := by subst hk; exact L2.call_list_of
theorem call_tuple_ofK {X : Cx} {K : PySem.W.Frag} (hk : X.K = K) : CallR X (.type "tuple") (rTupOf K) := by subst hk; exact L2.call_tuple_of
theorem pe_fldK {X : Cx} {K : PySem.W.Frag} {e : Expr} {f : Str} {pos : Pos} {ta : TE} (hk : X.K = K) (he : PE X e ta) (hb : attributeBase e f X.env (eval e X.env) = eval e X.env) : PE X (.Attribute e f pos) (tFld K ta f) := by subst hk; exact L2.pe_fld he hb
theorem tNilI {σ : L2.St} {H : Hp} {Q : List V → Hp → Prop} (h : Q [] H) : tNil σ H Q := h
theorem tCi {v : V} {σ : L2.St} {H : Hp} {Q : VK} (h : Q v H) : tC v σ H Q := h
/-! bounds of lengths -/
theorem szT {m n : Nat} (h : m ≤ n) (k : n ≤ 1000000) : m ≤ sizeLine := sz (Nat.le_trans h k)
theorem szlT {m n : Nat} (h : m ≤ n) (k : n < 1000000) : m < sizeLine := szl (Nat.lt_of_le_of_lt h k)
theorem lb_map {α β : Type} {f : α → β} {l : List α} {n : Nat} (h : l.length ≤ n) : (l.map f).length ≤ n := by rw [List.length_map]; exact h
theorem lb_filter {α : Type} {f : α → Bool} {l : List α} {n : Nat} (h : l.length ≤ n) : (l.filter f).length ≤ n := Nat.le_trans (List.length_filter_le f l) h
theorem lb_app {α : Type} {l r : List α} {m n : Nat} (h : l.length ≤ m) (k : r.length ≤ n) : (l ++ r).length ≤ m + n := by rw [List.length_append]; exact Nat.add_le_add h k
theorem lb_cons {α : Type} {x : α} {l : List α} {n : Nat} (h : l.length ≤ n) : (x :: l).length ≤ n + 1 := Nat.succ_le_succ h
theorem lb_nil {α : Type} : ([] : List α).length ≤ 0 := Nat.le_refl 0
theorem lb_range {n : Nat} : (List.range n).length ≤ n := by rw [List.length_range]; exact Nat.le_refl n
theorem pos_app {α : Type} {x : α} {l : List α} : 0 < (l ++ [x]).length := by simp
theorem neg_same {α : Type} {x : α} [Decidable (x = x)] {A B : Prop} (h : B) : if (!decide (x = x)) = true then A else B := by
  rw [decide_eq_true rfl]
  exact h
theorem pos_same {α : Type} {x : α} [Decidable (x = x)] {A B : Prop} (h : A) : if decide (x = x) = true then A else B := by
  rw [decide_eq_true rfl]
  exact h
theorem isWN {α β : Type} {P : (Nat → α → β) → Prop} (h : ∃ W, P W) : ∃ W, P W := h
theorem sqlK {K K' : PySem.W.Frag} {H : Hp} {a : Addr} {xs : List V} (h : SqL K H a xs) (e : K = K') : SqL K' H a xs := e ▸ h
end Ur

namespace Ur
open PySem L2 PySem.Spec PyProof.Rows
/-! ### isinstance of known kinds -/
theorem kb_int_int : kitB "int" "int" = some true := by decide +kernel
theorem kb_int_bool : kitB "int" "bool" = some false := by decide +kernel
theorem kb_int_str : kitB "int" "str" = some false := by decide +kernel
theorem kb_int_list : kitB "int" "list" = some false := by decide +kernel
theorem kb_int_tuple : kitB "int" "tuple" = some false := by decide +kernel
theorem kb_int_dict : kitB "int" "dict" = some false := by decide +kernel
theorem kb_bool_int : kitB "bool" "int" = some true := by decide +kernel
theorem kb_bool_bool : kitB "bool" "bool" = some true := by decide +kernel
theorem kb_bool_str : kitB "bool" "str" = some false := by decide +kernel
theorem kb_bool_list : kitB "bool" "list" = some false := by decide +kernel
theorem kb_bool_tuple : kitB "bool" "tuple" = some false := by decide +kernel
theorem kb_bool_dict : kitB "bool" "dict" = some false := by decide +kernel
theorem kb_str_int : kitB "str" "int" = some false := by decide +kernel
theorem kb_str_bool : kitB "str" "bool" = some false := by decide +kernel
theorem kb_str_str : kitB "str" "str" = some true := by decide +kernel
theorem kb_str_list : kitB "str" "list" = some false := by decide +kernel
theorem kb_str_tuple : kitB "str" "tuple" = some false := by decide +kernel
theorem kb_str_dict : kitB "str" "dict" = some false := by decide +kernel
theorem kb_NoneType_int : kitB "NoneType" "int" = some false := by decide +kernel
theorem kb_NoneType_bool : kitB "NoneType" "bool" = some false := by decide +kernel
theorem kb_NoneType_str : kitB "NoneType" "str" = some false := by decide +kernel
theorem kb_NoneType_list : kitB "NoneType" "list" = some false := by decide +kernel
theorem kb_NoneType_tuple : kitB "NoneType" "tuple" = some false := by decide +kernel
theorem kb_NoneType_dict : kitB "NoneType" "dict" = some false := by decide +kernel
theorem kb_list_int : kitB "list" "int" = some false := by decide +kernel
theorem kb_list_bool : kitB "list" "bool" = some false := by decide +kernel
theorem kb_list_str : kitB "list" "str" = some false := by decide +kernel
theorem kb_list_list : kitB "list" "list" = some true := by decide +kernel
theorem kb_list_tuple : kitB "list" "tuple" = some false := by decide +kernel
theorem kb_list_dict : kitB "list" "dict" = some false := by decide +kernel
theorem kb_tuple_int : kitB "tuple" "int" = some false := by decide +kernel
theorem kb_tuple_bool : kitB "tuple" "bool" = some false := by decide +kernel
theorem kb_tuple_str : kitB "tuple" "str" = some false := by decide +kernel
theorem kb_tuple_list : kitB "tuple" "list" = some false := by decide +kernel
theorem kb_tuple_tuple : kitB "tuple" "tuple" = some true := by decide +kernel
theorem kb_tuple_dict : kitB "tuple" "dict" = some false := by decide +kernel
theorem kb_dict_int : kitB "dict" "int" = some false := by decide +kernel
theorem kb_dict_bool : kitB "dict" "bool" = some false := by decide +kernel
theorem kb_dict_str : kitB "dict" "str" = some false := by decide +kernel
theorem kb_dict_list : kitB "dict" "list" = some false := by decide +kernel
theorem kb_dict_tuple : kitB "dict" "tuple" = some false := by decide +kernel
theorem kb_dict_dict : kitB "dict" "dict" = some true := by decide +kernel
theorem isiK {K : PySem.W.Frag} {H : Hp} {x : V} {t T : String} {b : Bool} {Q : VK} (ty : TyX K H x (.type t)) (h : kitB t T = some b) (q : Q (.bl b) H) : rIsi K [x, .ty T] H Q :=
  ⟨x, .ty T, _, _, b, rfl, .ty _, ty, kit_ty h, q⟩
theorem tyx_lst {K : PySem.W.Frag} {H : Hp} {a : Addr} {xs : List V} (h : H a = some (.lst xs)) : TyX K H (.ref a) (.type "list") := .base (.lst h)
theorem tyx_tup {K : PySem.W.Frag} {H : Hp} {a : Addr} {xs : List V} (h : H a = some (.tup xs)) : TyX K H (.ref a) (.type "tuple") := .base (.tup h)
theorem tyx_dK {K : PySem.W.Frag} {H : Hp} {a : Addr} {xs : List (Key × V)} (h : H a = some (.dK xs)) : TyX K H (.ref a) (.type "dict") := .base (.dK h)
theorem tyx_int {K : PySem.W.Frag} {H : Hp} {i : Int} : TyX K H (.int i) (.type "int") := .base (.int i)
theorem tyx_bl {K : PySem.W.Frag} {H : Hp} {b : Bool} : TyX K H (.bl b) (.type "bool") := .base (.bl b)
theorem tyx_str {K : PySem.W.Frag} {H : Hp} {x : Str} : TyX K H (.str x) (.type "str") := .base (.str x)
theorem tyx_non {K : PySem.W.Frag} {H : Hp} : TyX K H .non (.type "NoneType") := .base .non
end Ur

namespace Ur
open PySem L2
/-! ### dicts with int keys -/
theorem isD_of {H : Hp} {a : Addr} {kvs : List (Key × V)} (h : H a = some (.dK kvs)) : IsD H a := Or.inl ⟨kvs, Or.inl h⟩
theorem dget_int {H : Hp} {a : Addr} {kvs : List (Key × V)} {n : Int} (h : H a = some (.dK kvs)) : DGet H a (.int n) (valV kvs (Sum.inl n)) := DGet.k (k := Sum.inl n) h
theorem dget_some {H : Hp} {a : Addr} {kvs : List (Key × V)} {n : Int} {v : V} (h : H a = some (.dK kvs)) (e : valV kvs (Sum.inl n) = some v) : DGet H a (.int n) (some v) := by
  rw [← e]
  exact dget_int h
theorem dput_int {H : Hp} {a : Addr} {kvs : List (Key × V)} {n : Int} {v : V} (h : H a = some (.dK kvs)) (l : kvs.length < sizeLine) : DPut H a (.int n) v (upd H a (.dK (putK kvs (Sum.inl n) v))) := DPut.k (k := Sum.inl n) h l
theorem putK_le (c : List (Key × V)) (k : Key) (x : V) : (putK c k x).length ≤ c.length + 1 := by
  unfold putK
  split
  · rw [List.length_map]; omega
  · rw [List.length_append]; exact Nat.le_refl _
theorem val_put (kvs : List (Key × V)) (k j : Int) (y : V) : valV (putK kvs (Sum.inl k) y) (Sum.inl j) = if j = k then some y else valV kvs (Sum.inl j) := by
  rw [valV_put]
  by_cases h : j = k
  · rw [if_pos h, if_pos (by rw [h])]
  · rw [if_neg h, if_neg (fun e => h (Sum.inl.inj e))]

/-! ### loops -/
section
variable {K : PySem.W.Frag} {a b : Addr} {xs ys : List V} {ns : List Int} {tb : TS} {D : Ends} {σ : L2.St} {H : Hp} {ti tv : Nat}
/-- for i, x in enumerate(list) -/
theorem for_enum (Pv : Nat → L2.St → Hp → Prop) (h0 : Pv 0 σ H) (hl : ∀ i σ H, i ≤ xs.length → Pv i σ H → SqL K H a xs)
    (hs : ∀ i x σ H H', xs[i]? = some x → Pv i σ H → Same H H' → tb { D with nx := Pv (i + 1), ct := Pv (i + 1), bk := D.nx } ((σ.set ti (some (.int (i : Nat)))).set tv (some x)) H') (hd : ∀ σ H, Pv xs.length σ H → D.nx σ H) :
    ∃ W : Nat → Nat → L2.St → Hp → Prop, (∃ m, W 0 m σ H) ∧ ∀ i m σ H, W i m σ H →
      ((Ite K a).stop i H ∧ D.nx σ H) ∨ ((Ite K a).go i H ∧ ∃ N : L2.St → Hp → Prop, (∀ σ' H', N σ' H' → ∃ m', m' < m ∧ W (i + 1) m' σ' H') ∧ ∀ x H', (Ite K a).yld i H x H' → gTup K 2 (gCons (gName ti) (gCons (gName tv) gNil)) x σ H' fun σ2 H2 => tb { D with nx := N, ct := N, bk := D.nx } σ2 H2) :=
  for_it (walk_enum (K := K) (a := a) (xs := xs)) Pv h0 hl (fun i v σ H H' hi p y => by
    obtain ⟨T, x, z, rfl, hT, rfl, hx, hz⟩ := y
    have hx' : some (V.int (i : Nat)) = some x := hx
    cases hx'
    have hz' : xs[i]? = some z := hz
    refine ⟨T, [.int (i : Nat), z], rfl, SqT.of upd_same, rfl, _, _, rfl, _, _, rfl, rfl, ?_⟩
    exact hs i z σ H _ hz' p (same_new hT)) hd
/-- for n in a list of ints -/
theorem for_ints (Pv : Nat → L2.St → Hp → Prop) (h0 : Pv 0 σ H) (hl : ∀ i σ H, i ≤ ns.length → Pv i σ H → SqL K H a (ns.map V.int))
    (hs : ∀ i n σ H, ns[i]? = some n → Pv i σ H → tb { D with nx := Pv (i + 1), ct := Pv (i + 1), bk := D.nx } (σ.set tv (some (.int n))) H) (hd : ∀ σ H, Pv ns.length σ H → D.nx σ H) :
    ∃ W : Nat → Nat → L2.St → Hp → Prop, (∃ m, W 0 m σ H) ∧ ∀ i m σ H, W i m σ H →
      ((Itl K a).stop i H ∧ D.nx σ H) ∨ ((Itl K a).go i H ∧ ∃ N : L2.St → Hp → Prop, (∀ σ' H', N σ' H' → ∃ m', m' < m ∧ W (i + 1) m' σ' H') ∧ ∀ x H', (Itl K a).yld i H x H' → gName tv x σ H' fun σ2 H2 => tb { D with nx := N, ct := N, bk := D.nx } σ2 H2) :=
  for_list (xs := ns.map V.int) Pv h0 (fun i σ H hi p => hl i σ H (by rw [List.length_map] at hi; exact hi) p) (fun i x σ H hx p => by
    obtain ⟨n, hn, rfl⟩ := iv_get hx
    exact hs i n σ H hn p) (fun σ H p => hd σ H (by rw [List.length_map] at p; exact p))
/-- while, the test's answer told; Pv by a measure -/
theorem while_ans {c : TT} (Pv : Nat → L2.St → Hp → Prop) (m0 : Nat) (h0 : Pv m0 σ H)
    (hs : ∀ m σ H, Pv m σ H → ∃ b, (∀ Q : Bool → Hp → Prop, Q b H → c σ H Q) ∧
      (b = true → tb { D with nx := fun σ' H' => ∃ m', m' < m ∧ Pv m' σ' H', ct := fun σ' H' => ∃ m', m' < m ∧ Pv m' σ' H', bk := D.nx } σ H) ∧ (b = false → D.nx σ H)) : tWhile c tb D σ H := by
  refine ⟨Pv, ⟨m0, h0⟩, fun m σ H p => ?_⟩
  obtain ⟨b, hb, h1, h2⟩ := hs m σ H p
  refine hb _ ?_
  cases b with
  | true => exact (if_pos rfl).mpr ⟨_, fun _ _ n => n, h1 rfl⟩
  | false => exact (if_neg Bool.false_ne_true).mpr (h2 rfl)
end

/-! ### comprehensions -/
section
variable {K : PySem.W.Frag} {a : Addr} {xs : List V} {ns : List Int} {σ : L2.St} {H1 : Hp} {Dl : Addr} {te : TE} {tt : TT} {vs : List Nat} {j : Nat} {lo : Int} {n : Nat} {Qd : Hp → Prop}
theorem tyes_ok {σ : L2.St} {H : Hp} {A B : Hp → Prop} (h : A H) : tYes σ H (fun b H3 => if b = true then A H3 else B H3) := by
  show (if true = true then A H else B H)
  rw [if_pos rfl]
  exact h
/-- [e for k in range(..)], e a value that leaves all as it was -/
theorem lc_rng (f : Nat → V) (hn : n ≤ 1000000) (hD : H1 Dl = none) (hw : ∀ x, wipe ((wipe σ vs).set j (some x)) vs = wipe σ vs)
    (he : ∀ (k : Nat) H', k < n → Same H1 H' → ∀ Q' : VK, (∀ H4, Same H' H4 → Q' (f k) H4) → te ((wipe σ vs).set j (some (.int (lo + (k : Nat))))) H' Q')
    (hd : ∀ H', Same H1 H' → H' Dl = some (.lst ((List.range n).map f)) → Qd H') :
    ∃ W : Nat → Nat → Hp → Prop, (∃ m, W 0 m (upd H1 Dl (.lst []))) ∧ ∀ i m H, W i m H →
      ((Itr lo n).stop i H ∧ Qd H) ∨ ((Itr lo n).go i H ∧ ∃ Nx : Hp → Prop, (∀ H', Nx H' → ∃ m', m' < m ∧ W (i + 1) m' H') ∧ ∀ x H', (Itr lo n).yld i H x H' → gName j x (wipe σ vs) H' fun σ2 H2 => wipe σ2 vs = wipe σ vs ∧ tYes σ2 H2 fun b H3 =>
        if b = true then te σ2 H3 fun y H4 => ∃ acc, H4 Dl = some (.lst acc) ∧ acc.length < sizeLine ∧ Nx (upd H4 Dl (.lst (acc ++ [y]))) else Nx H3) := by
  refine lc_range (lo := lo) (n := n) (fun i H' => Same H1 H' ∧ H' Dl = some (.lst ((List.range i).map f))) ⟨same_new hD, upd_same⟩ (fun i H' hi p => ?_) (fun H' p => hd H' p.1 p.2)
  refine ⟨hw _, ?_⟩
  refine tyes_ok ?_
  refine he i H' hi p.1 _ fun H4 s => ⟨_, s _ _ p.2, szl (by rw [List.length_map, List.length_range]; omega), same_upd' hD (p.1.trans s), ?_⟩
  rw [upd_same, List.range_succ, List.map_append]
  rfl
/-- [e for x in a list of ints] -/
theorem lc_ints (f : Int → V) (hn : ns.length ≤ 1000000) (ha : SqL K H1 a (ns.map V.int)) (hD : H1 Dl = none) (hw : ∀ x, wipe ((wipe σ vs).set j (some x)) vs = wipe σ vs)
    (he : ∀ (x : Int) H', x ∈ ns → Same H1 H' → ∀ Q' : VK, (∀ H4, Same H' H4 → Q' (f x) H4) → te ((wipe σ vs).set j (some (.int x))) H' Q')
    (hd : ∀ H', Same H1 H' → H' Dl = some (.lst (ns.map f)) → Qd H') :
    ∃ W : Nat → Nat → Hp → Prop, (∃ m, W 0 m (upd H1 Dl (.lst []))) ∧ ∀ i m H, W i m H →
      ((Itl K a).stop i H ∧ Qd H) ∨ ((Itl K a).go i H ∧ ∃ Nx : Hp → Prop, (∀ H', Nx H' → ∃ m', m' < m ∧ W (i + 1) m' H') ∧ ∀ x H', (Itl K a).yld i H x H' → gName j x (wipe σ vs) H' fun σ2 H2 => wipe σ2 vs = wipe σ vs ∧ tYes σ2 H2 fun b H3 =>
        if b = true then te σ2 H3 fun y H4 => ∃ acc, H4 Dl = some (.lst acc) ∧ acc.length < sizeLine ∧ Nx (upd H4 Dl (.lst (acc ++ [y]))) else Nx H3) := by
  refine lc_list (K := K) (a := a) (xs := ns.map V.int) (fun i H' => Same H1 H' ∧ H' Dl = some (.lst ((ns.take i).map f))) ⟨same_new hD, upd_same⟩ (fun i H' _ p => p.1.seq ha) (fun i x H' hx p => ?_) (fun H' p => ?_)
  · obtain ⟨z, hz, rfl⟩ := iv_get hx
    have hi := (List.getElem?_eq_some_iff.mp hz).1
    refine ⟨hw _, ?_⟩
    refine tyes_ok ?_
    refine he z H' (List.mem_of_getElem? hz) p.1 _ fun H4 s => ⟨_, s _ _ p.2, szl (by rw [List.length_map, List.length_take]; omega), same_upd' hD (p.1.trans s), ?_⟩
    rw [upd_same, List.take_add_one, hz, List.map_append]
    rfl
  · have h2 := p.2
    rw [List.length_map, List.take_length] at h2
    exact hd H' p.1 h2
/-- [e for k in range(..) if t] -/
theorem lc_rngIf (t : Nat → Bool) (f : Nat → V) (hn : n ≤ 1000000) (hD : H1 Dl = none) (hw : ∀ x, wipe ((wipe σ vs).set j (some x)) vs = wipe σ vs)
    (ht : ∀ (k : Nat) H', k < n → Same H1 H' → ∀ Q' : Bool → Hp → Prop, (∀ H4, Same H' H4 → Q' (t k) H4) → tt ((wipe σ vs).set j (some (.int (lo + (k : Nat))))) H' Q')
    (he : ∀ (k : Nat) H', k < n → t k = true → Same H1 H' → ∀ Q' : VK, (∀ H4, Same H' H4 → Q' (f k) H4) → te ((wipe σ vs).set j (some (.int (lo + (k : Nat))))) H' Q')
    (hd : ∀ H', Same H1 H' → H' Dl = some (.lst (((List.range n).filter t).map f)) → Qd H') :
    ∃ W : Nat → Nat → Hp → Prop, (∃ m, W 0 m (upd H1 Dl (.lst []))) ∧ ∀ i m H, W i m H →
      ((Itr lo n).stop i H ∧ Qd H) ∨ ((Itr lo n).go i H ∧ ∃ Nx : Hp → Prop, (∀ H', Nx H' → ∃ m', m' < m ∧ W (i + 1) m' H') ∧ ∀ x H', (Itr lo n).yld i H x H' → gName j x (wipe σ vs) H' fun σ2 H2 => wipe σ2 vs = wipe σ vs ∧ tt σ2 H2 fun b H3 =>
        if b = true then te σ2 H3 fun y H4 => ∃ acc, H4 Dl = some (.lst acc) ∧ acc.length < sizeLine ∧ Nx (upd H4 Dl (.lst (acc ++ [y]))) else Nx H3) := by
  refine lc_range (lo := lo) (n := n) (fun i H' => Same H1 H' ∧ H' Dl = some (.lst (((List.range i).filter t).map f))) ⟨same_new hD, upd_same⟩ (fun i H' hi p => ?_) (fun H' p => hd H' p.1 p.2)
  refine ⟨hw _, ?_⟩
  refine ht i H' hi p.1 _ fun H3 s3 => ?_
  cases hb : t i with
  | true =>
    refine (if_pos rfl).mpr ?_
    refine he i H3 hi hb (p.1.trans s3) _ fun H4 s => ⟨_, s _ _ (s3 _ _ p.2), szl ?_, same_upd' hD ((p.1.trans s3).trans s), ?_⟩
    · have := List.length_filter_le t (List.range i)
      rw [List.length_range] at this
      rw [List.length_map]; omega
    rw [upd_same, List.range_succ, List.filter_append, List.map_append, List.filter_cons, if_pos hb]
    rfl
  | false =>
    refine (if_neg Bool.false_ne_true).mpr ⟨p.1.trans s3, ?_⟩
    rw [List.range_succ, List.filter_append, List.map_append, List.filter_cons, if_neg (by rw [hb]; exact Bool.false_ne_true)]
    simpa using s3 _ _ p.2
/-- [e for x in a list of ints if t] -/
theorem lc_intsIf (t : Int → Bool) (f : Int → V) (hn : ns.length ≤ 1000000) (ha : SqL K H1 a (ns.map V.int)) (hD : H1 Dl = none) (hw : ∀ x, wipe ((wipe σ vs).set j (some x)) vs = wipe σ vs)
    (ht : ∀ (x : Int) H', x ∈ ns → Same H1 H' → ∀ Q' : Bool → Hp → Prop, (∀ H4, Same H' H4 → Q' (t x) H4) → tt ((wipe σ vs).set j (some (.int x))) H' Q')
    (he : ∀ (x : Int) H', x ∈ ns → t x = true → Same H1 H' → ∀ Q' : VK, (∀ H4, Same H' H4 → Q' (f x) H4) → te ((wipe σ vs).set j (some (.int x))) H' Q')
    (hd : ∀ H', Same H1 H' → H' Dl = some (.lst ((ns.filter t).map f)) → Qd H') :
    ∃ W : Nat → Nat → Hp → Prop, (∃ m, W 0 m (upd H1 Dl (.lst []))) ∧ ∀ i m H, W i m H →
      ((Itl K a).stop i H ∧ Qd H) ∨ ((Itl K a).go i H ∧ ∃ Nx : Hp → Prop, (∀ H', Nx H' → ∃ m', m' < m ∧ W (i + 1) m' H') ∧ ∀ x H', (Itl K a).yld i H x H' → gName j x (wipe σ vs) H' fun σ2 H2 => wipe σ2 vs = wipe σ vs ∧ tt σ2 H2 fun b H3 =>
        if b = true then te σ2 H3 fun y H4 => ∃ acc, H4 Dl = some (.lst acc) ∧ acc.length < sizeLine ∧ Nx (upd H4 Dl (.lst (acc ++ [y]))) else Nx H3) := by
  refine lc_list (K := K) (a := a) (xs := ns.map V.int) (fun i H' => Same H1 H' ∧ H' Dl = some (.lst (((ns.take i).filter t).map f))) ⟨same_new hD, upd_same⟩ (fun i H' _ p => p.1.seq ha) (fun i x H' hx p => ?_) (fun H' p => ?_)
  · obtain ⟨z, hz, rfl⟩ := iv_get hx
    have hi := (List.getElem?_eq_some_iff.mp hz).1
    have hm := List.mem_of_getElem? hz
    refine ⟨hw _, ?_⟩
    refine ht z H' hm p.1 _ fun H3 s3 => ?_
    have e1 : ns.take (i + 1) = ns.take i ++ [z] := by rw [List.take_add_one, hz]; rfl
    cases hb : t z with
    | true =>
      refine (if_pos rfl).mpr ?_
      refine he z H3 hm hb (p.1.trans s3) _ fun H4 s => ⟨_, s _ _ (s3 _ _ p.2), szl ?_, same_upd' hD ((p.1.trans s3).trans s), ?_⟩
      · have := List.length_filter_le t (ns.take i)
        rw [List.length_take] at this
        rw [List.length_map]; omega
      rw [upd_same, e1, List.filter_append, List.map_append, List.filter_cons, if_pos hb]
      rfl
    | false =>
      refine (if_neg Bool.false_ne_true).mpr ⟨p.1.trans s3, ?_⟩
      rw [e1, List.filter_append, List.map_append, List.filter_cons, if_neg (by rw [hb]; exact Bool.false_ne_true)]
      simpa using s3 _ _ p.2
  · have h2 := p.2
    rw [List.length_map, List.take_length] at h2
    exact hd H' p.1 h2
/-- [e for x in a list if t], t never -/
theorem lc_none (ha : SqL K H1 a xs) (hD : H1 Dl = none) (hw : ∀ x, wipe ((wipe σ vs).set j (some x)) vs = wipe σ vs)
    (ht : ∀ (x : V) H', x ∈ xs → Same H1 H' → ∀ Q' : Bool → Hp → Prop, (∀ H4, Same H' H4 → Q' false H4) → tt ((wipe σ vs).set j (some x)) H' Q')
    (hd : ∀ H', Same H1 H' → H' Dl = some (.lst []) → Qd H') :
    ∃ W : Nat → Nat → Hp → Prop, (∃ m, W 0 m (upd H1 Dl (.lst []))) ∧ ∀ i m H, W i m H →
      ((Itl K a).stop i H ∧ Qd H) ∨ ((Itl K a).go i H ∧ ∃ Nx : Hp → Prop, (∀ H', Nx H' → ∃ m', m' < m ∧ W (i + 1) m' H') ∧ ∀ x H', (Itl K a).yld i H x H' → gName j x (wipe σ vs) H' fun σ2 H2 => wipe σ2 vs = wipe σ vs ∧ tt σ2 H2 fun b H3 =>
        if b = true then te σ2 H3 fun y H4 => ∃ acc, H4 Dl = some (.lst acc) ∧ acc.length < sizeLine ∧ Nx (upd H4 Dl (.lst (acc ++ [y]))) else Nx H3) := by
  refine lc_list (K := K) (a := a) (xs := xs) (fun _ H' => Same H1 H' ∧ H' Dl = some (.lst [])) ⟨same_new hD, upd_same⟩ (fun i H' _ p => p.1.seq ha) (fun i x H' hx p => ?_) (fun H' p => hd H' p.1 p.2)
  refine ⟨hw _, ?_⟩
  refine ht x H' (List.mem_of_getElem? hx) p.1 _ fun H3 s3 => ?_
  exact (if_neg Bool.false_ne_true).mpr ⟨p.1.trans s3, s3 _ _ p.2⟩
end
/-! the same, the items ints -/
section
variable {K : PySem.W.Frag} {a : Addr} {xs : List V} {ns : List Int} {σ : L2.St} {H1 : Hp} {Dl : Addr} {te : TE} {tt : TT} {vs : List Nat} {j : Nat} {lo : Int} {n : Nat} {Qd : Hp → Prop}
theorem lc_rngI (f : Nat → Int) (hn : n ≤ 1000000) (hD : H1 Dl = none) (hw : ∀ x, wipe ((wipe σ vs).set j (some x)) vs = wipe σ vs)
    (he : ∀ (k : Nat) H', k < n → Same H1 H' → ∀ Q' : VK, (∀ H4, Same H' H4 → Q' (.int (f k)) H4) → te ((wipe σ vs).set j (some (.int (lo + (k : Nat))))) H' Q')
    (hd : ∀ H', Same H1 H' → H' Dl = some (.lst (((List.range n).map f).map V.int)) → Qd H') :
    ∃ W : Nat → Nat → Hp → Prop, (∃ m, W 0 m (upd H1 Dl (.lst []))) ∧ ∀ i m H, W i m H →
      ((Itr lo n).stop i H ∧ Qd H) ∨ ((Itr lo n).go i H ∧ ∃ Nx : Hp → Prop, (∀ H', Nx H' → ∃ m', m' < m ∧ W (i + 1) m' H') ∧ ∀ x H', (Itr lo n).yld i H x H' → gName j x (wipe σ vs) H' fun σ2 H2 => wipe σ2 vs = wipe σ vs ∧ tYes σ2 H2 fun b H3 =>
        if b = true then te σ2 H3 fun y H4 => ∃ acc, H4 Dl = some (.lst acc) ∧ acc.length < sizeLine ∧ Nx (upd H4 Dl (.lst (acc ++ [y]))) else Nx H3) :=
  lc_rng (fun k => V.int (f k)) hn hD hw he fun H' s e => hd H' s (by rw [e, List.map_map]; rfl)
theorem lc_intsI (f : Int → Int) (hn : ns.length ≤ 1000000) (ha : SqL K H1 a (ns.map V.int)) (hD : H1 Dl = none) (hw : ∀ x, wipe ((wipe σ vs).set j (some x)) vs = wipe σ vs)
    (he : ∀ (x : Int) H', x ∈ ns → Same H1 H' → ∀ Q' : VK, (∀ H4, Same H' H4 → Q' (.int (f x)) H4) → te ((wipe σ vs).set j (some (.int x))) H' Q')
    (hd : ∀ H', Same H1 H' → H' Dl = some (.lst ((ns.map f).map V.int)) → Qd H') :
    ∃ W : Nat → Nat → Hp → Prop, (∃ m, W 0 m (upd H1 Dl (.lst []))) ∧ ∀ i m H, W i m H →
      ((Itl K a).stop i H ∧ Qd H) ∨ ((Itl K a).go i H ∧ ∃ Nx : Hp → Prop, (∀ H', Nx H' → ∃ m', m' < m ∧ W (i + 1) m' H') ∧ ∀ x H', (Itl K a).yld i H x H' → gName j x (wipe σ vs) H' fun σ2 H2 => wipe σ2 vs = wipe σ vs ∧ tYes σ2 H2 fun b H3 =>
        if b = true then te σ2 H3 fun y H4 => ∃ acc, H4 Dl = some (.lst acc) ∧ acc.length < sizeLine ∧ Nx (upd H4 Dl (.lst (acc ++ [y]))) else Nx H3) :=
  lc_ints (fun k => V.int (f k)) hn ha hD hw he fun H' s e => hd H' s (by rw [e, List.map_map]; rfl)
theorem lc_rngIfI (t : Nat → Bool) (f : Nat → Int) (hn : n ≤ 1000000) (hD : H1 Dl = none) (hw : ∀ x, wipe ((wipe σ vs).set j (some x)) vs = wipe σ vs)
    (ht : ∀ (k : Nat) H', k < n → Same H1 H' → ∀ Q' : Bool → Hp → Prop, (∀ H4, Same H' H4 → Q' (t k) H4) → tt ((wipe σ vs).set j (some (.int (lo + (k : Nat))))) H' Q')
    (he : ∀ (k : Nat) H', k < n → t k = true → Same H1 H' → ∀ Q' : VK, (∀ H4, Same H' H4 → Q' (.int (f k)) H4) → te ((wipe σ vs).set j (some (.int (lo + (k : Nat))))) H' Q')
    (hd : ∀ H', Same H1 H' → H' Dl = some (.lst ((((List.range n).filter t).map f).map V.int)) → Qd H') :
    ∃ W : Nat → Nat → Hp → Prop, (∃ m, W 0 m (upd H1 Dl (.lst []))) ∧ ∀ i m H, W i m H →
      ((Itr lo n).stop i H ∧ Qd H) ∨ ((Itr lo n).go i H ∧ ∃ Nx : Hp → Prop, (∀ H', Nx H' → ∃ m', m' < m ∧ W (i + 1) m' H') ∧ ∀ x H', (Itr lo n).yld i H x H' → gName j x (wipe σ vs) H' fun σ2 H2 => wipe σ2 vs = wipe σ vs ∧ tt σ2 H2 fun b H3 =>
        if b = true then te σ2 H3 fun y H4 => ∃ acc, H4 Dl = some (.lst acc) ∧ acc.length < sizeLine ∧ Nx (upd H4 Dl (.lst (acc ++ [y]))) else Nx H3) :=
  lc_rngIf t (fun k => V.int (f k)) hn hD hw ht he fun H' s e => hd H' s (by rw [e, List.map_map]; rfl)
theorem lc_intsIfI (t : Int → Bool) (f : Int → Int) (hn : ns.length ≤ 1000000) (ha : SqL K H1 a (ns.map V.int)) (hD : H1 Dl = none) (hw : ∀ x, wipe ((wipe σ vs).set j (some x)) vs = wipe σ vs)
    (ht : ∀ (x : Int) H', x ∈ ns → Same H1 H' → ∀ Q' : Bool → Hp → Prop, (∀ H4, Same H' H4 → Q' (t x) H4) → tt ((wipe σ vs).set j (some (.int x))) H' Q')
    (he : ∀ (x : Int) H', x ∈ ns → t x = true → Same H1 H' → ∀ Q' : VK, (∀ H4, Same H' H4 → Q' (.int (f x)) H4) → te ((wipe σ vs).set j (some (.int x))) H' Q')
    (hd : ∀ H', Same H1 H' → H' Dl = some (.lst (((ns.filter t).map f).map V.int)) → Qd H') :
    ∃ W : Nat → Nat → Hp → Prop, (∃ m, W 0 m (upd H1 Dl (.lst []))) ∧ ∀ i m H, W i m H →
      ((Itl K a).stop i H ∧ Qd H) ∨ ((Itl K a).go i H ∧ ∃ Nx : Hp → Prop, (∀ H', Nx H' → ∃ m', m' < m ∧ W (i + 1) m' H') ∧ ∀ x H', (Itl K a).yld i H x H' → gName j x (wipe σ vs) H' fun σ2 H2 => wipe σ2 vs = wipe σ vs ∧ tt σ2 H2 fun b H3 =>
        if b = true then te σ2 H3 fun y H4 => ∃ acc, H4 Dl = some (.lst acc) ∧ acc.length < sizeLine ∧ Nx (upd H4 Dl (.lst (acc ++ [y]))) else Nx H3) :=
  lc_intsIf t (fun k => V.int (f k)) hn ha hD hw ht he fun H' s e => hd H' s (by rw [e, List.map_map]; rfl)
end
/-! the same, a state at a changing with each item: S tells what it may be, R the items -/
section
variable {K : PySem.W.Frag} {a st : Addr} {xs : List V} {ns : List Int} {σ : L2.St} {H1 : Hp} {Dl : Addr} {te : TE} {tt : TT} {vs : List Nat} {j : Nat} {lo : Int} {n : Nat} {Qd : Hp → Prop}
theorem lc_rngS (S : HO → Prop) (R : Int → Prop) {o1 : HO} (ha : H1 st = some o1) (hS : S o1) (hn : n ≤ 1000000) (hD : H1 Dl = none) (hw : ∀ x, wipe ((wipe σ vs).set j (some x)) vs = wipe σ vs)
    (he : ∀ (k : Nat) H' o, k < n → But st H1 H' → H' st = some o → S o → ∀ Q' : VK, (∀ v H4 o4, R v → But st H' H4 → H4 st = some o4 → S o4 → Q' (.int v) H4) → te ((wipe σ vs).set j (some (.int (lo + (k : Nat))))) H' Q')
    (hd : ∀ H' (ms : List Int) o, ms.length = n → (∀ x ∈ ms, R x) → But st H1 H' → H' Dl = some (.lst (ms.map V.int)) → H' st = some o → S o → Qd H') :
    ∃ W : Nat → Nat → Hp → Prop, (∃ m, W 0 m (upd H1 Dl (.lst []))) ∧ ∀ i m H, W i m H →
      ((Itr lo n).stop i H ∧ Qd H) ∨ ((Itr lo n).go i H ∧ ∃ Nx : Hp → Prop, (∀ H', Nx H' → ∃ m', m' < m ∧ W (i + 1) m' H') ∧ ∀ x H', (Itr lo n).yld i H x H' → gName j x (wipe σ vs) H' fun σ2 H2 => wipe σ2 vs = wipe σ vs ∧ tYes σ2 H2 fun b H3 =>
        if b = true then te σ2 H3 fun y H4 => ∃ acc, H4 Dl = some (.lst acc) ∧ acc.length < sizeLine ∧ Nx (upd H4 Dl (.lst (acc ++ [y]))) else Nx H3) := by
  have hne : Dl ≠ st := (ne_of_none ha hD).symm
  refine lc_range (lo := lo) (n := n) (fun i H' => ∃ (ms : List Int) (o : HO), H' Dl = some (.lst (ms.map V.int)) ∧ H' st = some o ∧ S o ∧ But st H1 H' ∧ ms.length = i ∧ ∀ x ∈ ms, R x)
    ⟨[], o1, upd_same, (upd_ne hne.symm).trans ha, hS, but_snoc hD but_refl, rfl, fun _ h => by cases h⟩ (fun i H' hi p => ?_) (fun H' p => ?_)
  · obtain ⟨ms, o, e1, e2, e3, e4, e5, e6⟩ := p
    refine ⟨hw _, ?_⟩
    refine tyes_ok ?_
    refine he i H' o hi e4 e2 e3 _ fun v H4 o4 rv b4 s4 z4 => ⟨_, b4 _ _ hne e1, szl (by rw [List.length_map]; omega), ms ++ [v], o4, upd_snoc, (upd_ne hne.symm).trans s4, z4, but_upd hD (but_step b4 e4), by rw [List.length_append, e5]; rfl, fun x hx => ?_⟩
    rcases List.mem_append.mp hx with h | h
    · exact e6 x h
    · rw [List.mem_singleton.mp h]; exact rv
  · obtain ⟨ms, o, e1, e2, e3, e4, e5, e6⟩ := p
    exact hd H' ms o e5 e6 e4 e1 e2 e3
end
end Ur

namespace Ur
open PySem L2
structure HandOk (d m : Int) : Prop where
  d0 : 0 ≤ d
  m0 : 0 ≤ m
  m1 : m < 2147483587
end Ur

namespace Ur
open PySem L2
/-! ### last and next places: the plain functions -/
/-- the greatest place below i with the number x, or -1 -/
def lastAt (ns : List Int) : Nat → Int → Int
  | 0, _ => -1
  | i + 1, x => if ns.getD i 0 = x then (i : Int) else lastAt ns i x
def lastP (ns : List Int) : List Int := (List.range ns.length).map fun k => lastAt ns k (ns.getD k 0)
theorem lastP_len (ns : List Int) : (lastP ns).length = ns.length := by simp [lastP]
theorem lastP_get {ns : List Int} {k : Nat} (h : k < ns.length) : (lastP ns)[k]? = some (lastAt ns k (ns.getD k 0)) := by
  unfold lastP
  rw [List.getElem?_map, List.getElem?_range h]
  rfl
theorem lastP_take {ns : List Int} {i : Nat} (h : i < ns.length) : (lastP ns).take (i + 1) = (lastP ns).take i ++ [lastAt ns i (ns.getD i 0)] := by
  rw [List.take_add_one, lastP_get h]
  rfl
theorem lastAt_spec (ns : List Int) (x : Int) : ∀ i : Nat, (lastAt ns i x = -1 ∧ ∀ j, j < i → ns.getD j 0 ≠ x) ∨ ∃ v : Nat, lastAt ns i x = v ∧ v < i ∧ ns.getD v 0 = x ∧ ∀ j, v < j → j < i → ns.getD j 0 ≠ x
  | 0 => Or.inl ⟨rfl, fun _ h => absurd h (Nat.not_lt_zero _)⟩
  | i + 1 => by
    by_cases h : ns.getD i 0 = x
    · refine Or.inr ⟨i, ?_, Nat.lt_succ_self _, h, fun j h1 h2 => by omega⟩
      show (if ns.getD i 0 = x then (i : Int) else lastAt ns i x) = i
      rw [if_pos h]
    · have e : lastAt ns (i + 1) x = lastAt ns i x := by
        show (if ns.getD i 0 = x then (i : Int) else lastAt ns i x) = _
        rw [if_neg h]
      rcases lastAt_spec ns x i with ⟨h1, h2⟩ | ⟨v, h1, h2, h3, h4⟩
      · refine Or.inl ⟨e.trans h1, fun j hj => ?_⟩
        by_cases hji : j = i
        · rw [hji]; exact h
        · exact h2 j (by omega)
      · refine Or.inr ⟨v, e.trans h1, by omega, h3, fun j hj1 hj2 => ?_⟩
        by_cases hji : j = i
        · rw [hji]; exact h
        · exact h4 j hj1 (by omega)
theorem lastAt_range (ns : List Int) (x : Int) (i : Nat) : -1 ≤ lastAt ns i x ∧ lastAt ns i x < i := by
  rcases lastAt_spec ns x i with ⟨h1, _⟩ | ⟨v, h1, h2, _⟩ <;> omega
/-- what is it and nothing greater -/
theorem lastAt_uniq {ns : List Int} {x : Int} {i : Nat} {m : Int} (h1 : m = -1 ∨ ∃ v : Nat, m = v ∧ v < i ∧ ns.getD v 0 = x) (h2 : ∀ j : Nat, j < i → ns.getD j 0 = x → (j : Int) ≤ m) : lastAt ns i x = m := by
  rcases lastAt_spec ns x i with ⟨a1, a2⟩ | ⟨v, a1, a2, a3, a4⟩
  · rcases h1 with e | ⟨v, e, hv, hx⟩
    · omega
    · exact absurd hx (a2 v hv)
  · have q := h2 v a2 a3
    rcases h1 with e | ⟨u, e, hu, hx⟩
    · omega
    · by_cases huv : v < u
      · exact absurd hx (a4 u huv hu)
      · omega
/-- the least place above k, below i, with k's number, or the length -/
def nextUp (ns : List Int) (k : Nat) : Nat → Int
  | 0 => ns.length
  | i + 1 => if nextUp ns k i < ns.length then nextUp ns k i else if k < i ∧ ns.getD i 0 = ns.getD k 0 then (i : Int) else ns.length
def nextP (ns : List Int) : List Int := (List.range ns.length).map fun k => nextUp ns k ns.length
theorem nextP_len (ns : List Int) : (nextP ns).length = ns.length := by simp [nextP]
theorem nextP_get {ns : List Int} {k : Nat} (h : k < ns.length) : (nextP ns)[k]? = some (nextUp ns k ns.length) := by
  unfold nextP
  rw [List.getElem?_map, List.getElem?_range h]
  rfl
theorem nextUp_spec (ns : List Int) (k : Nat) : ∀ i : Nat, i ≤ ns.length → (nextUp ns k i = ns.length ∧ ∀ j, k < j → j < i → ns.getD j 0 ≠ ns.getD k 0) ∨ ∃ v : Nat, nextUp ns k i = v ∧ k < v ∧ v < i ∧ ns.getD v 0 = ns.getD k 0 ∧ ∀ j, k < j → j < v → ns.getD j 0 ≠ ns.getD k 0
  | 0, _ => Or.inl ⟨rfl, fun _ _ h => absurd h (Nat.not_lt_zero _)⟩
  | i + 1, hi => by
    have e : nextUp ns k (i + 1) = if nextUp ns k i < ns.length then nextUp ns k i else if k < i ∧ ns.getD i 0 = ns.getD k 0 then (i : Int) else ns.length := rfl
    rcases nextUp_spec ns k i (by omega) with ⟨h1, h2⟩ | ⟨v, h1, h2, h3, h4, h5⟩
    · rw [if_neg (by omega)] at e
      by_cases h : k < i ∧ ns.getD i 0 = ns.getD k 0
      · rw [if_pos h] at e
        exact Or.inr ⟨i, e, h.1, Nat.lt_succ_self _, h.2, h2⟩
      · rw [if_neg h] at e
        refine Or.inl ⟨e, fun j hj1 hj2 => ?_⟩
        by_cases hji : j = i
        · rw [hji]; exact fun z => h ⟨by omega, z⟩
        · exact h2 j hj1 (by omega)
    · rw [if_pos (by omega)] at e
      exact Or.inr ⟨v, e.trans h1, h2, by omega, h4, h5⟩
theorem nextUp_uniq {ns : List Int} {k i : Nat} (hi : i ≤ ns.length) {m : Int} (h1 : m = ns.length ∨ ∃ v : Nat, m = v ∧ k < v ∧ v < i ∧ ns.getD v 0 = ns.getD k 0) (h2 : ∀ j : Nat, k < j → j < i → ns.getD j 0 = ns.getD k 0 → m ≤ (j : Int)) (h3 : m ≤ ns.length) : nextUp ns k i = m := by
  rcases nextUp_spec ns k i hi with ⟨a1, a2⟩ | ⟨v, a1, a2, a3, a4, a5⟩
  · rcases h1 with e | ⟨v, e, hv, hv2, hx⟩
    · omega
    · exact absurd hx (a2 v hv hv2)
  · have q := h2 v a2 a3 a4
    rcases h1 with e | ⟨u, e, hu, hu2, hx⟩
    · omega
    · by_cases huv : u < v
      · exact absurd hx (a5 u hu huv)
      · omega
/-- one place on: the next place of k is i just where k is i's last place -/
theorem nextUp_step {ns : List Int} {k i : Nat} (hi : i < ns.length) (hk : k < ns.length) : nextUp ns k (i + 1) = if lastAt ns i (ns.getD i 0) = (k : Int) then (i : Int) else nextUp ns k i := by
  have e : nextUp ns k (i + 1) = if nextUp ns k i < ns.length then nextUp ns k i else if k < i ∧ ns.getD i 0 = ns.getD k 0 then (i : Int) else ns.length := rfl
  rw [e]
  rcases nextUp_spec ns k i (by omega) with ⟨a1, a2⟩ | ⟨v, a1, a2, a3, a4, a5⟩
  · rw [if_neg (by omega)]
    by_cases h : k < i ∧ ns.getD i 0 = ns.getD k 0
    · rw [if_pos h, if_pos]
      refine lastAt_uniq (Or.inr ⟨k, rfl, h.1, h.2.symm⟩) fun j hj hx => ?_
      by_cases hkj : k < j
      · exact absurd (hx.trans h.2) (a2 j hkj hj)
      · omega
    · rw [if_neg h, if_neg, a1]
      intro q
      rcases lastAt_spec ns (ns.getD i 0) i with ⟨b1, _⟩ | ⟨u, b1, b2, b3, _⟩
      · omega
      · have : u = k := by omega
        subst this
        exact h ⟨b2, b3.symm⟩
  · rw [if_pos (by omega), if_neg]
    intro q
    rcases lastAt_spec ns (ns.getD i 0) i with ⟨b1, _⟩ | ⟨u, b1, b2, b3, b4⟩
    · omega
    · have : u = k := by omega
      subst this
      exact b4 v a2 a3 (a4.trans b3)
theorem getD_of {ns : List Int} {i : Nat} {n : Int} (h : ns[i]? = some n) : ns.getD i 0 = n := by
  rw [List.getD_eq_getElem?_getD, h]; rfl
theorem get_of {ns : List Int} {i : Nat} (h : i < ns.length) : ns[i]? = some (ns.getD i 0) := by
  rw [List.getD_eq_getElem?_getD, List.getElem?_eq_getElem h]; rfl
theorem ext_getD {ns ms : List Int} (hl : ns.length = ms.length) (h : ∀ i, i < ns.length → ns.getD i 0 = ms.getD i 0) : ns = ms := by
  refine List.ext_getElem? fun i => ?_
  by_cases hi : i < ns.length
  · rw [get_of hi, get_of (by omega), h i hi]
  · rw [List.getElem?_eq_none (by omega), List.getElem?_eq_none (by omega)]
/-- a list of ints at an address, its items told otherwise -/
theorem lst_cast {H : Hp} {a : Addr} {xs ys : List V} (h : H a = some (.lst xs)) (e : xs = ys) : H a = some (.lst ys) := by rw [h, e]
/-! what the laws' own ways of reckoning come to -/
theorem tn0 (k : Nat) : ((0 : Int) + (k : Int)).toNat = k := by omega
theorem dvi {a b : Int} : decide (V.int a = V.int b) = decide (a = b) := by
  by_cases h : a = b
  · rw [h]; simp
  · rw [decide_eq_false h]
    exact decide_eq_false (fun e => h (V.int.inj e))
theorem lasts_max {ns : List Int} {k : Nat} {m : Int}
    (h1 : m ∈ (-1 : Int) :: ((List.range ((0 : Int) + (k : Int)).toNat).filter fun j : Nat => decide (V.int (ns.getD ((0 : Int) + (j : Int)).toNat 0) = V.int (ns.getD ((0 : Int) + (k : Int)).toNat 0))).map fun j : Nat => (0 : Int) + (j : Int))
    (h2 : ∀ x ∈ (-1 : Int) :: ((List.range ((0 : Int) + (k : Int)).toNat).filter fun j : Nat => decide (V.int (ns.getD ((0 : Int) + (j : Int)).toNat 0) = V.int (ns.getD ((0 : Int) + (k : Int)).toNat 0))).map fun j : Nat => (0 : Int) + (j : Int), x ≤ m) :
    lastAt ns k (ns.getD k 0) = m := by
  simp only [tn0, dvi] at h1 h2
  refine lastAt_uniq ?_ (fun j hj e => ?_)
  · rcases List.mem_cons.mp h1 with e | e
    · exact Or.inl e
    · obtain ⟨j, hj, rfl⟩ := List.mem_map.mp e
      obtain ⟨hj1, hj2⟩ := List.mem_filter.mp hj
      exact Or.inr ⟨j, by omega, List.mem_range.mp hj1, of_decide_eq_true hj2⟩
  · have h := h2 (0 + (j : Int)) (List.mem_cons_of_mem _ (List.mem_map.mpr ⟨j, List.mem_filter.mpr ⟨List.mem_range.mpr hj, decide_eq_true e⟩, rfl⟩))
    omega
theorem tn1 (n k : Nat) : ((n : Int) - ((0 : Int) + (k : Int) + 1)).toNat = n - (k + 1) := by omega
theorem tn2 (k j : Nat) : ((0 : Int) + (k : Int) + 1 + (j : Int)).toNat = k + 1 + j := by omega
theorem nexts_min {ns : List Int} {k : Nat} {m : Int} (hk : k < ns.length)
    (h1 : m ∈ ((List.range ((ns.length : Int) - ((0 : Int) + (k : Int) + 1)).toNat).filter fun j : Nat => decide (V.int (ns.getD ((0 : Int) + (k : Int) + 1 + (j : Int)).toNat 0) = V.int (ns.getD ((0 : Int) + (k : Int)).toNat 0))).map (fun j : Nat => (0 : Int) + (k : Int) + 1 + (j : Int)) ++ [(ns.length : Int)])
    (h2 : ∀ x ∈ ((List.range ((ns.length : Int) - ((0 : Int) + (k : Int) + 1)).toNat).filter fun j : Nat => decide (V.int (ns.getD ((0 : Int) + (k : Int) + 1 + (j : Int)).toNat 0) = V.int (ns.getD ((0 : Int) + (k : Int)).toNat 0))).map (fun j : Nat => (0 : Int) + (k : Int) + 1 + (j : Int)) ++ [(ns.length : Int)], m ≤ x) :
    nextUp ns k ns.length = m := by
  simp only [tn0, tn1, tn2, dvi] at h1 h2
  have hm : m ≤ ns.length := h2 _ (List.mem_append.mpr (Or.inr (List.mem_singleton.mpr rfl)))
  refine nextUp_uniq (Nat.le_refl _) ?_ (fun j h3 h4 e => ?_) hm
  · rcases List.mem_append.mp h1 with e | e
    · obtain ⟨j, hj, rfl⟩ := List.mem_map.mp e
      obtain ⟨hj1, hj2⟩ := List.mem_filter.mp hj
      have := List.mem_range.mp hj1
      exact Or.inr ⟨k + 1 + j, by omega, by omega, by omega, of_decide_eq_true hj2⟩
    · exact Or.inl (List.mem_singleton.mp e)
  · have h := h2 (0 + (k : Int) + 1 + ((j - (k + 1) : Nat) : Int)) (List.mem_append.mpr (Or.inl (List.mem_map.mpr ⟨j - (k + 1), List.mem_filter.mpr ⟨List.mem_range.mpr (by omega), decide_eq_true (by rw [show k + 1 + (j - (k + 1)) = j by omega]; exact e)⟩, rfl⟩)))
    omega
theorem same_dec {ns ms : List Int} (hl : (ns.length : Int) = (ms.length : Int)) :
    decide ((((List.range (ms.length : Int).toNat).filter fun j : Nat => !decide (V.int (ns.getD ((0 : Int) + (j : Int)).toNat 0) = V.int (ms.getD ((0 : Int) + (j : Int)).toNat 0))).map fun j : Nat => (0 : Int) + (j : Int)) = []) = decide (ns = ms) := by
  simp only [tn0, dvi, Int.toNat_natCast]
  refine decide_eq_decide.mpr ⟨fun h => ?_, fun h => ?_⟩
  · refine ext_getD (by omega) (fun i hi => ?_)
    have h2 := List.filter_eq_nil_iff.mp (List.map_eq_nil_iff.mp h) i (List.mem_range.mpr (by omega))
    simpa using h2
  · subst h
    simp
end Ur

namespace Ur
open PySem L2
/-! ### told lists that are held, each with what is due -/
/-- a pair of lists of the same ints, none of them the list that holds -/
structure PairOk (h : Addr) (H : Hp) (p : Addr) : Prop where
  off : p ≠ h
  both : ∃ (a b : Addr) (ns : List Int), a ≠ h ∧ b ≠ h ∧ H p = some (.lst [.ref a, .ref b]) ∧ H a = some (.lst (ns.map V.int)) ∧ H b = some (.lst (ns.map V.int))
/-- the list that holds at most n pairs -/
structure HeldOk (h : Addr) (H : Hp) (n : Nat) : Prop where
  all : ∃ ps : List Addr, H h = some (.lst (ps.map V.ref)) ∧ ps.length ≤ n ∧ ∀ p ∈ ps, PairOk h H p
theorem PairOk.step {h p : Addr} {H H' : Hp} (k : PairOk h H p) (b : But h H H') : PairOk h H' p := by
  obtain ⟨x, y, ns, hx, hy, e, e1, e2⟩ := k.both
  exact ⟨k.off, x, y, ns, hx, hy, b _ _ k.off e, b _ _ hx e1, b _ _ hy e2⟩
theorem Same.but {h : Addr} {H H' : Hp} (s : Same H H') : But h H H' := fun b o _ e => s b o e
theorem HeldOk.same {h : Addr} {H H' : Hp} {n : Nat} (k : HeldOk h H n) (s : Same H H') : HeldOk h H' n := by
  obtain ⟨ps, e, l, f⟩ := k.all
  exact ⟨ps, s _ _ e, l, fun p hp => (f p hp).step (Same.but s)⟩
theorem HeldOk.mono {h : Addr} {H : Hp} {n m : Nat} (k : HeldOk h H n) (l : n ≤ m) : HeldOk h H m := by
  obtain ⟨ps, e, q, f⟩ := k.all
  exact ⟨ps, e, Nat.le_trans q l, f⟩
/-- .. with more pairs behind -/
theorem HeldOk.grow {h : Addr} {H H' : Hp} {m : Nat} {ps qs : List Addr} (e : H h = some (.lst (ps.map V.ref))) (l : ps.length + qs.length ≤ m) (f : ∀ p ∈ ps, PairOk h H p) (b : But h H H') (e' : H' h = some (.lst ((ps ++ qs).map V.ref))) (g : ∀ p ∈ qs, PairOk h H' p) : HeldOk h H' m :=
  ⟨ps ++ qs, e', by rw [List.length_append]; exact l, fun p hp => by
    rcases List.mem_append.mp hp with k | k
    · exact (f p k).step b
    · exact g p k⟩
theorem HeldOk.new {h : Addr} {H : Hp} (e : H h = some (.lst [])) : HeldOk h H 0 := ⟨[], e, Nat.le_refl 0, fun p hp => nomatch hp⟩
end Ur

namespace Ur
open PySem L2
/-- over the cells, each with its place: what is new in H1 stays as the loop goes on -/
theorem for_cells {K : PySem.W.Frag} {H0 H1 : Hp} {cs : List Int} {p : Addr} {ts : List Addr} {i j : Nat} {tb : TS} {D : Ends} {σ : L2.St} (N : UrE.NewPairs H0 (UrE.enumC (cs.map V.int)) p ts H1)
    (Pv : Nat → L2.St → Hp → Prop) (h0 : Pv 0 σ H1) (hb : ∀ n σ H, Pv n σ H → ∀ b o, H0 b = none → H1 b = some o → H b = some o)
    (hs : ∀ n c σ H, cs[n]? = some c → Pv n σ H → tb { D with nx := Pv (n + 1), ct := Pv (n + 1), bk := D.nx } ((σ.set i (some (.int (n : Nat)))).set j (some (.int c))) H) (hd : ∀ σ H, Pv cs.length σ H → D.nx σ H) :
    ∃ W : Nat → Nat → L2.St → Hp → Prop, (∃ m, W 0 m σ H1) ∧ ∀ k m σ H, W k m σ H →
      ((Itl K p).stop k H ∧ D.nx σ H) ∨ ((Itl K p).go k H ∧ ∃ N : L2.St → Hp → Prop, (∀ σ' H', N σ' H' → ∃ m', m' < m ∧ W (k + 1) m' σ' H') ∧ ∀ x H', (Itl K p).yld k H x H' → gTup K 2 (gCons (gName i) (gCons (gName j) gNil)) x σ H' fun σ2 H2 => tb { D with nx := N, ct := N, bk := D.nx } σ2 H2) := by
  obtain ⟨n1, n2, n3, n4, n5, n6, n7, n8⟩ := N
  have hl : ts.length = cs.length := by rw [n6, UrE.enumC_len, List.length_map]
  refine for_list (xs := ts.map V.ref) Pv h0 (fun k σ H hk q => .of (hb k σ H q p _ n2 n7)) (fun k x σ H hx q => ?_) (fun σ H q => hd σ H (by rw [List.length_map, hl] at q; exact q))
  rw [List.getElem?_map] at hx
  cases ht : ts[k]? with
  | none => rw [ht] at hx; cases hx
  | some t =>
    rw [ht] at hx
    cases hx
    have hk : k < cs.length := by rw [← hl]; exact (List.getElem?_eq_some_iff.mp ht).1
    have hc : cs[k]? = some cs[k] := List.getElem?_eq_getElem hk
    have he : (UrE.enumC (cs.map V.int))[k]? = some [.int (k : Nat), .int cs[k]] := by rw [UrE.enumC_get, List.getElem?_map, hc]; rfl
    obtain ⟨t', e1, e2⟩ := n8 k _ he
    rw [ht] at e1
    cases e1
    have hn : H0 t = none := n3 t (List.mem_of_getElem? ht)
    exact ⟨t, _, rfl, .of (hb k σ H q t _ hn e2), rfl, _, _, rfl, _, _, rfl, rfl, hs k _ σ H hc q⟩
end Ur
namespace Ur
open PySem L2
theorem sql_fresh {K : PySem.W.Frag} {H0 H : Hp} {a h : Addr} {o : HO} {xs : List V} (nh : H0 h = none) (b : But h (upd H0 h o) H) (q : SqL K H0 a xs) : SqL K H a xs := by
  have st : ∀ (x : Addr) (u : HO), H0 x = some u → H x = some u := fun x u e => by
    have ne : x ≠ h := fun k => by rw [k, nh] at e; cases e
    exact b x u ne (by rw [upd_ne ne]; exact e)
  rcases q with (q | ⟨o, q⟩) | q
  · exact .inl (.inl (st _ _ q))
  · exact .inl (.inr ⟨o, st _ _ q⟩)
  · exact .inr q
end Ur

namespace Ur
open PySem L2
/-! ### unlike ints of a list -/
/-- the unlike ones, in the order in which they come -/
def uni (ns : List Int) : List Int := ns.foldl PyProof.Rows.step_dedup []
/-- how many -/
def ulen (ns : List Int) : Nat := (uni ns).length
theorem uni_snoc_any (ns : List Int) (x : Int) : uni (ns ++ [x]) = if (uni ns).any (· == x) = true then uni ns else uni ns ++ [x] := by
  unfold uni
  rw [List.foldl_append]
  rfl
theorem rev_ind {P : List Int → Prop} (h0 : P []) (hs : ∀ ns x, P ns → P (ns ++ [x])) (ns : List Int) : P ns := by
  have k : ∀ l : List Int, P l.reverse := by
    intro l
    induction l with
    | nil => exact h0
    | cons x l ih => rw [List.reverse_cons]; exact hs _ _ ih
  have := k ns.reverse
  rwa [List.reverse_reverse] at this
theorem mem_uni (ns : List Int) : ∀ x, x ∈ uni ns ↔ x ∈ ns := by
  refine rev_ind (P := fun ns => ∀ x, x ∈ uni ns ↔ x ∈ ns) (fun x => by simp [uni]) (fun ns y ih x => ?_) ns
  rw [uni_snoc_any]
  by_cases h : (uni ns).any (· == y) = true
  · rw [if_pos h, ih, List.mem_append]
    obtain ⟨z, hz, e⟩ := List.any_eq_true.mp h
    have e2 : z = y := eq_of_beq e
    rw [e2] at hz
    constructor
    · exact fun k => Or.inl k
    · rintro (k | k)
      · exact k
      · rw [List.mem_singleton.mp k]; exact (ih y).mp hz
  · rw [if_neg h, List.mem_append, List.mem_append, ih]
theorem uni_snoc (ns : List Int) (x : Int) : uni (ns ++ [x]) = if x ∈ ns then uni ns else uni ns ++ [x] := by
  rw [uni_snoc_any]
  by_cases h : x ∈ ns
  · have k : (uni ns).any (· == x) = true := List.any_eq_true.mpr ⟨x, (mem_uni ns x).mpr h, beq_self_eq_true x⟩
    rw [if_pos h, if_pos k]
  · rw [if_neg h, if_neg]
    intro k
    obtain ⟨z, hz, e⟩ := List.any_eq_true.mp k
    have e2 : z = x := eq_of_beq e
    exact h (e2 ▸ (mem_uni ns z).mp hz)
theorem ulen_snoc (ns : List Int) (x : Int) : ulen (ns ++ [x]) = if x ∈ ns then ulen ns else ulen ns + 1 := by
  unfold ulen
  rw [uni_snoc]
  by_cases h : x ∈ ns
  · rw [if_pos h, if_pos h]
  · rw [if_neg h, if_neg h, List.length_append]; rfl
theorem ulen_le (ns : List Int) : ulen ns ≤ ns.length := by
  refine rev_ind (P := fun ns => ulen ns ≤ ns.length) (Nat.le_refl 0) (fun ns x ih => ?_) ns
  rw [ulen_snoc, List.length_append]
  have : [x].length = 1 := rfl
  split <;> omega
theorem uni_nodup (ns : List Int) : (uni ns).Nodup := by
  refine rev_ind (P := fun ns => (uni ns).Nodup) List.nodup_nil (fun ns x ih => ?_) ns
  rw [uni_snoc]
  by_cases h : x ∈ ns
  · rw [if_pos h]; exact ih
  · rw [if_neg h, List.nodup_append]
    refine ⟨ih, List.nodup_cons.mpr ⟨by simp, List.nodup_nil⟩, fun a ha b hb e => ?_⟩
    rw [List.mem_singleton.mp hb] at e
    exact h (e ▸ (mem_uni ns a).mp ha)
theorem map_getD (ns : List Int) : (List.range ns.length).map (fun i => ns.getD i 0) = ns := by
  refine List.ext_getElem (by simp) fun i h1 h2 => ?_
  rw [List.getElem_map, List.getElem_range, List.getD_eq_getElem?_getD, List.getElem?_eq_getElem h2]
  rfl
theorem firstMet_uni (ns : List Int) : PyProof.Rows.firstMet (fun i => ns.getD i 0) ns.length = uni ns := by
  unfold PyProof.Rows.firstMet uni
  rw [map_getD]
/-! ### len(set(xs)) -/
def tLenSetU (K : PySem.W.Frag) (ta : TE) : TE := fun σ H Q => ta σ H fun x H1 => ∃ (l : Addr) (ns : List Int), x = .ref l ∧ SqL K H1 l (ns.map V.int) ∧ ns.length ≤ 4000 ∧ Q (.int (ulen ns : Nat)) H1
open PySem.Spec PyProof.Rows in
theorem pe_lenSetU {X : Cx} {K : PySem.W.Frag} {a : Expr} {ta : TE} {p p2 q pos : Pos} (hk : X.K = K) (hg : Gl X "len") (hm : X.mg "len" = none) (hg2 : Gl X "set") (hm2 : X.mg "set" = none) (ha : PE X a ta) (hc : X.calm = true := by rfl)
    (na : starEach [a] X.env = (false, eval a X.env) :: starEach [] X.env := by rfl) : PE X (.Call (.Name "len" p) [.Call (.Name "set" p2) [a] [] q] [] pos) (tLenSetU K ta) := by
  subst hk
  refine ⟨fun pins s σ H Q I h => ?_⟩
  refine Call_ (ld_blt I hg hm boot_len ?_)
  refine PyProof.Rows.callWith_builtin1 (PyProof.Rows.args_cons ?_ rfl) rfl rfl
  refine Call_ (ld_blt I hg2 hm2 boot_set ?_)
  refine PyProof.Rows.callWith_type1 (PyProof.Rows.args_cons (thn (ha.run pins s σ H _ I h) fun v s1 ⟨x, H1, I1, r1, q1⟩ => PyProof.Rows.args_nil ?_) na) na rfl
  obtain ⟨l, ns, rfl, hq, hl, q1⟩ := q1
  cases r1
  obtain ⟨its, r, pl, hz⟩ := I1.list hq
  have hlen : its.toArray.size = ns.length := by rw [List.size_toArray, ← r.length, List.length_map]
  refine call_set_list (I1.ok.hd hc) pl.isList (by simpa using RZ.intsAre_vals r) (by rw [hlen]; unfold scanBound; omega) fun h' tk hS hk => ?_
  refine PyProof.Rows.args_nil ?_
  rw [hlen, firstMet_uni] at hS
  obtain ⟨o, es, ep, t, ho, hex, hd, _, _, _, hf, hn⟩ := hS
  have I2 : Inv X pins σ H1 { s1 with heap := h', toks := tk } := I1.kept fun b o e => hk b o (Heap.lt_size e) e
  exact call_len_set ho hex hd hf (by rw [hn]; have := ulen_le ns; unfold ulen at this; omega) ⟨.int (ulen ns : Nat), H1, I2.tok _, ⟨_, by rw [hn]; rfl⟩, q1⟩
end Ur

namespace Ur
open PySem L2
/-! ### plain rows -/
/-- how many unlike ones stand ahead of the place at which x stands first -/
def plainAt (ns : List Int) (x : Int) : Nat := ulen (ns.take (ns.idxOf x))
def plainP (ns : List Int) : List Int := ns.map fun x => (plainAt ns x : Int)
theorem plainP_len (ns : List Int) : (plainP ns).length = ns.length := by simp [plainP]
theorem take_snoc {ns : List Int} {i : Nat} {x : Int} (h : ns[i]? = some x) : ns.take (i + 1) = ns.take i ++ [x] := by
  rw [List.take_add_one, h]; rfl
theorem idx_first {ns : List Int} {i : Nat} {x : Int} (h : ns[i]? = some x) (n : x ∉ ns.take i) : ns.idxOf x = i := by
  obtain ⟨hi, e⟩ := List.getElem?_eq_some_iff.mp h
  have e2 : ns = ns.take i ++ ns.drop i := (List.take_append_drop i ns).symm
  have e3 : ns.drop i = x :: ns.drop (i + 1) := by rw [List.drop_eq_getElem_cons hi, e]
  have hl : (ns.take i).length = i := by rw [List.length_take]; omega
  have e4 : (ns.take i ++ ns.drop i).idxOf x = i := by
    rw [List.idxOf_append, if_neg n, e3, List.idxOf_cons_self, hl]; omega
  rwa [← e2] at e4
theorem idx_lt {ns : List Int} {x : Int} (h : x ∈ ns) : ns.idxOf x < ns.length := List.idxOf_lt_length_of_mem h
theorem idx_get {ns : List Int} {x : Int} (h : x ∈ ns) : ns[ns.idxOf x]? = some x := by
  rw [List.getElem?_eq_getElem (idx_lt h), List.getElem_idxOf]
theorem idx_not {ns : List Int} {x : Int} : x ∉ ns.take (ns.idxOf x) := fun k => by
  obtain ⟨j, hj, e⟩ := List.getElem_of_mem k
  rw [List.getElem_take] at e
  have h1 : j < ns.idxOf x := by rw [List.length_take] at hj; omega
  have h2 := List.not_of_lt_findIdx (p := (· == x)) (xs := ns) h1
  simp [e] at h2
theorem putK_len {kvs : List (Key × V)} {k : Key} {v : V} (h : valV kvs k = none) : (putK kvs k v).length = kvs.length + 1 := by
  have e : (kvs.any fun kv => decide (kv.1 = k)) = false := by
    cases q : (kvs.any fun kv => decide (kv.1 = k)) with
    | false => rfl
    | true =>
      obtain ⟨p, hp, e⟩ := List.any_eq_true.mp q
      unfold valV at h
      rw [Option.map_eq_none_iff, List.find?_eq_none] at h
      exact absurd e (h p hp)
  unfold putK
  rw [e, if_neg Bool.false_ne_true, List.length_append]
  rfl
theorem ulen_mono {ns : List Int} : ∀ {j i : Nat}, i ≤ j → ulen (ns.take i) ≤ ulen (ns.take j)
  | 0, i, h => by rw [Nat.le_zero.mp h]; exact Nat.le_refl _
  | j + 1, i, h => by
    rcases Nat.lt_or_eq_of_le h with h | rfl
    · refine Nat.le_trans (ulen_mono (Nat.le_of_lt_succ h)) ?_
      cases e : ns[j]? with
      | none => rw [List.take_add_one, e]; simp
      | some x => rw [take_snoc e, ulen_snoc]; split <;> omega
    · exact Nat.le_refl _
theorem plainAt_lt {ns : List Int} {x y : Int} (hx : x ∈ ns) (h : ns.idxOf x < ns.idxOf y) : plainAt ns x < plainAt ns y := by
  unfold plainAt
  have h1 : ulen (ns.take (ns.idxOf x + 1)) = ulen (ns.take (ns.idxOf x)) + 1 := by
    rw [take_snoc (idx_get hx), ulen_snoc, if_neg idx_not]
  have h2 := ulen_mono (ns := ns) (show ns.idxOf x + 1 ≤ ns.idxOf y from h)
  omega
theorem plainAt_inj {ns : List Int} {x y : Int} (hx : x ∈ ns) (hy : y ∈ ns) (h : plainAt ns x = plainAt ns y) : x = y := by
  rcases Nat.lt_trichotomy (ns.idxOf x) (ns.idxOf y) with k | k | k
  · exact absurd (plainAt_lt hx k) (by omega)
  · have e := idx_get hx
    rw [k, idx_get hy] at e
    exact (Option.some.inj e).symm
  · exact absurd (plainAt_lt hy k) (by omega)
/-- f calls the numbers of ns otherwise, one for one -/
def InjOn (f : Int → Int) (ns : List Int) : Prop := ∀ x ∈ ns, ∀ y ∈ ns, f x = f y → x = y
theorem mem_map_inj {f : Int → Int} {ns ms : List Int} {x : Int} (h : InjOn f ns) (hx : x ∈ ns) (hs : ∀ y ∈ ms, y ∈ ns) : f x ∈ ms.map f ↔ x ∈ ms := by
  constructor
  · intro k
    obtain ⟨y, hy, e⟩ := List.mem_map.mp k
    exact h y (hs y hy) x hx e ▸ hy
  · exact fun k => List.mem_map.mpr ⟨x, k, rfl⟩
theorem ulen_map {f : Int → Int} {ns : List Int} (h : InjOn f ns) : ulen (ns.map f) = ulen ns := by
  have k : ∀ ms : List Int, (∀ y ∈ ms, y ∈ ns) → ulen (ms.map f) = ulen ms := fun ms => by
    refine rev_ind (P := fun ms => (∀ y ∈ ms, y ∈ ns) → ulen (ms.map f) = ulen ms) (fun _ => rfl) (fun ms x ih hs => ?_) ms
    have hs' : ∀ y ∈ ms, y ∈ ns := fun y hy => hs y (List.mem_append.mpr (Or.inl hy))
    have hx : x ∈ ns := hs x (List.mem_append.mpr (Or.inr (List.mem_singleton.mpr rfl)))
    have e := mem_map_inj h hx hs'
    rw [List.map_append, List.map_cons, List.map_nil, ulen_snoc, ulen_snoc, ih hs']
    by_cases q : x ∈ ms
    · rw [if_pos q, if_pos (e.mpr q)]
    · rw [if_neg q, if_neg (fun z => q (e.mp z))]
  exact k ns fun _ z => z
theorem InjOn.take {f : Int → Int} {ns : List Int} (h : InjOn f ns) (i : Nat) : InjOn f (ns.take i) := fun x hx y hy e => h x (List.mem_of_mem_take hx) y (List.mem_of_mem_take hy) e
theorem idx_map {f : Int → Int} {ns : List Int} {x : Int} (h : InjOn f ns) (hx : x ∈ ns) : (ns.map f).idxOf (f x) = ns.idxOf x := by
  refine idx_first ?_ ?_
  · rw [List.getElem?_map, idx_get hx]; rfl
  · rw [← List.map_take]
    exact fun k => idx_not ((mem_map_inj h hx (fun y hy => List.mem_of_mem_take hy)).mp k)
theorem plainP_map {f : Int → Int} {ns : List Int} (h : InjOn f ns) : plainP (ns.map f) = plainP ns := by
  unfold plainP
  rw [List.map_map]
  refine List.map_congr_left fun x hx => ?_
  show ((plainAt (ns.map f) (f x) : Nat) : Int) = (plainAt ns x : Nat)
  unfold plainAt
  rw [idx_map h hx, ← List.map_take, ulen_map (h.take _)]
theorem plainP_own (ns : List Int) : plainP (plainP ns) = plainP ns :=
  plainP_map (f := fun x => (plainAt ns x : Int)) fun x hx y hy e => plainAt_inj hx hy (by have e2 : ((plainAt ns x : Nat) : Int) = (plainAt ns y : Nat) := e; omega)
/-! ### their rules -/
theorem setd_int {H : Hp} {a : Addr} {kvs : List (Key × V)} {n : Int} {z : V} {Q : VK} (h : H a = some (.dK kvs))
    (q : kvs.length < sizeLine ∧ (∀ v, valV kvs (Sum.inl n) = some v → Q v H) ∧ (valV kvs (Sum.inl n) = none → Q z (upd H a (.dK (putK kvs (Sum.inl n) z))))) :
    ∃ (kvs : List (Key × V)) (k : Key), H a = some (.dK kvs) ∧ V.int n = kV k ∧ kvs.length < sizeLine ∧ (∀ v, valV kvs k = some v → Q v H) ∧ (valV kvs k = none → Q z (upd H a (.dK (putK kvs k z)))) :=
  ⟨kvs, Sum.inl n, h, rfl, q.1, q.2.1, q.2.2⟩
theorem index_int {K : PySem.W.Frag} {H : Hp} {a : Addr} {ns : List Int} {x : Int} {Q : VK} (h : SqL K H a (ns.map V.int)) (q : x ∈ ns ∧ Q (.int (ns.idxOf x : Nat)) H) : rIndex K (.ref a) [.int x] H Q := by
  refine ⟨a, ns.map V.int, .int x, ns.idxOf x, .int x, rfl, rfl, h, rfl, ?_, ?_, ?_, ?_, q.2⟩
  · rw [List.all_map]
    exact List.all_eq_true.mpr fun _ _ => rfl
  · rw [List.getElem?_map, idx_get q.1]; rfl
  · show (x == x) = true
    exact beq_self_eq_true x
  · intro m z' hm hz
    obtain ⟨n, hn, rfl⟩ := iv_get hz
    have ne : ¬ n = x := fun e => by
      rw [e] at hn
      refine idx_not (ns := ns) (x := x) (List.mem_of_getElem? (i := m) ?_)
      rw [List.getElem?_take, if_pos hm, hn]
    show (n == x) = false
    exact beq_eq_false_iff_ne.mpr ne
end Ur

namespace Ur
open PySem L2
theorem ps_never {X : Cx} {st : Stmt} : PS X st (fun _ _ _ => False) := ⟨fun _ _ _ _ _ _ h => h.elim⟩
theorem putF_le (k : Str) (v : V) : ∀ fs : List (Str × V), (putF k v fs).length ≤ fs.length + 1
  | [] => Nat.le_refl 1
  | (k', v') :: r => by
    unfold putF
    split
    · exact Nat.le_succ _
    · exact Nat.succ_le_succ (putF_le k v r)
theorem pf1 {k : Str} {v : V} : (putF k v []).length < 1000 := Nat.lt_of_le_of_lt (putF_le _ _ _) (by decide)
theorem pf2 {k k2 : Str} {v v2 : V} : (putF k v (putF k2 v2 [])).length < 1000 := Nat.lt_of_le_of_lt (putF_le _ _ _) (Nat.lt_of_le_of_lt (Nat.succ_le_succ (putF_le _ _ _)) (by decide))
theorem pf3 {k k2 k3 : Str} {v v2 v3 : V} : (putF k v (putF k2 v2 (putF k3 v3 []))).length < 1000 := Nat.lt_of_le_of_lt (putF_le _ _ _) (Nat.lt_of_le_of_lt (Nat.succ_le_succ (putF_le _ _ _)) (Nat.lt_of_le_of_lt (Nat.succ_le_succ (Nat.succ_le_succ (putF_le _ _ _))) (by decide)))
/-! ### a row made ready -/
def rdyF (n : Int) (la na : Addr) : List (Str × V) := putF "nexts" (.ref na) (putF "lasts" (.ref la) (putF "many" (.int n) []))
theorem rdy_many {n : Int} {la na : Addr} : (rdyF n la na).lookup ("many" : Str) = some (.int n) := by
  unfold rdyF
  rw [lookup_putF, if_neg (by decide), lookup_putF, if_neg (by decide), lookup_putF, if_pos rfl]
theorem rdy_lasts {n : Int} {la na : Addr} : (rdyF n la na).lookup ("lasts" : Str) = some (.ref la) := by
  unfold rdyF
  rw [lookup_putF, if_neg (by decide), lookup_putF, if_pos rfl]
theorem rdy_nexts {n : Int} {la na : Addr} : (rdyF n la na).lookup ("nexts" : Str) = some (.ref na) := by
  unfold rdyF
  rw [lookup_putF, if_pos rfl]
theorem rdy_no {n : Int} {la na : Addr} {m : Str} (h1 : ¬ m = "many") (h2 : ¬ m = "lasts") (h3 : ¬ m = "nexts") : (rdyF n la na).lookup m = none := by
  unfold rdyF
  rw [lookup_putF, if_neg h3, lookup_putF, if_neg h2, lookup_putF, if_neg h1]
  rfl
/-- at o a row made ready; its parts are none of L -/
structure Rdy (C : Addr) (L : Addr → Prop) (H : Hp) (o : Addr) (ns : List Int) : Prop where
  all : ∃ dx la na : Addr, H o = some (.ins C dx (rdyF ns.length la na)) ∧ H la = some (.lst ((lastP ns).map V.int)) ∧ H na = some (.lst ((nextP ns).map V.int)) ∧ ∀ b, L b → o ≠ b ∧ la ≠ b ∧ na ≠ b
theorem Rdy.same {C : Addr} {L : Addr → Prop} {H H' : Hp} {o : Addr} {ns : List Int} (r : Rdy C L H o ns) (s : Same H H') : Rdy C L H' o ns := by
  obtain ⟨dx, la, na, e1, e2, e3, f⟩ := r.all
  exact ⟨dx, la, na, s _ _ e1, s _ _ e2, s _ _ e3, f⟩
theorem Rdy.but {C : Addr} {L : Addr → Prop} {H H' : Hp} {o b : Addr} {ns : List Int} (r : Rdy C L H o ns) (l : L b) (s : But b H H') : Rdy C L H' o ns := by
  obtain ⟨dx, la, na, e1, e2, e3, f⟩ := r.all
  obtain ⟨f1, f2, f3⟩ := f b l
  exact ⟨dx, la, na, s _ _ f1 e1, s _ _ f2 e2, s _ _ f3 e3, f⟩
theorem Rdy.sub {C : Addr} {L L' : Addr → Prop} {H : Hp} {o : Addr} {ns : List Int} (r : Rdy C L H o ns) (l : ∀ b, L' b → L b) : Rdy C L' H o ns := by
  obtain ⟨dx, la, na, e1, e2, e3, f⟩ := r.all
  exact ⟨dx, la, na, e1, e2, e3, fun b k => f b (l b k)⟩
/-! ### windows -/
/-- the numbers of a window -/
def win (ns : List Int) (f b : Int) : List Int := (ns.drop f.toNat).take (b.toNat - f.toNat)
/-- how many unlike ones -/
def wun (ns : List Int) (f b : Int) : Nat := ulen (win ns f b)
theorem win_len {ns : List Int} {f b : Int} (h0 : 0 ≤ f) (h1 : f ≤ b) (h2 : b ≤ ns.length) : (win ns f b).length = (b - f).toNat := by
  unfold win
  rw [List.length_take, List.length_drop]
  omega
theorem mem_win {ns : List Int} {f k : Nat} {x : Int} : x ∈ (ns.drop f).take k ↔ ∃ j, f ≤ j ∧ j < f + k ∧ ns[j]? = some x := by
  constructor
  · intro h
    obtain ⟨j, hj⟩ := List.mem_iff_getElem?.mp h
    rw [List.getElem?_take] at hj
    by_cases hk : j < k
    · rw [if_pos hk, List.getElem?_drop] at hj
      exact ⟨f + j, by omega, by omega, hj⟩
    · rw [if_neg hk] at hj; cases hj
  · rintro ⟨j, h1, h2, e⟩
    refine List.mem_iff_getElem?.mpr ⟨j - f, ?_⟩
    rw [List.getElem?_take, if_pos (by omega), List.getElem?_drop, show f + (j - f) = j from by omega]
    exact e
theorem last_in {ns : List Int} {f k : Nat} (h : f + k < ns.length) : (ns.getD (f + k) 0 ∈ (ns.drop f).take k) ↔ ¬ lastAt ns (f + k) (ns.getD (f + k) 0) < (f : Int) := by
  rw [mem_win]
  rcases lastAt_spec ns (ns.getD (f + k) 0) (f + k) with ⟨e, n⟩ | ⟨v, e, h1, h2, n⟩
  · constructor
    · rintro ⟨j, h1, h2, e2⟩
      exact absurd (getD_of e2) (n j h2)
    · intro hn
      omega
  · constructor
    · rintro ⟨j, h3, h4, e2⟩ hlt
      rw [e] at hlt
      exact absurd (getD_of e2) (n j (by omega) h4)
    · intro hn
      refine ⟨v, by omega, h1, ?_⟩
      rw [get_of (by omega), h2]
/-- .. by the last places -/
theorem ulen_win {ns : List Int} {f : Nat} : ∀ k : Nat, f + k ≤ ns.length → ulen ((ns.drop f).take k) = ((((lastP ns).drop f).take k).filter (fun x => decide (x < (f : Int)))).length
  | 0, _ => by rw [List.take_zero, List.take_zero]; rfl
  | k + 1, h => by
    have hk : f + k < ns.length := h
    have e1 : (ns.drop f)[k]? = some (ns.getD (f + k) 0) := by rw [List.getElem?_drop]; exact get_of hk
    have e2 : ((lastP ns).drop f)[k]? = some (lastAt ns (f + k) (ns.getD (f + k) 0)) := by rw [List.getElem?_drop]; exact lastP_get hk
    rw [take_snoc e1, take_snoc e2, ulen_snoc, List.filter_append, List.length_append, ulen_win k (by omega)]
    have q := last_in hk
    by_cases hl : lastAt ns (f + k) (ns.getD (f + k) 0) < (f : Int)
    · rw [if_neg (fun z => q.mp z hl), List.filter_cons_of_pos (by exact decide_eq_true hl)]
      rfl
    · rw [if_pos (q.mpr hl), List.filter_cons_of_neg (by rw [decide_eq_false hl]; exact Bool.false_ne_true)]
      rfl
theorem wun_lasts {ns : List Int} {f b : Int} (h0 : 0 ≤ f) (h1 : f ≤ b) (h2 : b ≤ ns.length) : ((((lastP ns).drop f.toNat).take (b.toNat - f.toNat)).filter (fun x => decide (x < f))).length = wun ns f b := by
  have e := ulen_win (ns := ns) (f := f.toNat) (b.toNat - f.toNat) (by omega)
  rw [Int.toNat_of_nonneg h0] at e
  exact e.symm
end Ur

namespace Ur
open PySem L2
/-! ### sums -/
def sumTo (F : Nat → Int) : Nat → Int
  | 0 => 0
  | k + 1 => sumTo F k + F k
theorem sum_snoc (xs : List Int) (x : Int) : (xs ++ [x]).sum = xs.sum + x := by
  rw [List.sum_append]; simp
theorem sum_range (F : Nat → Int) : ∀ n : Nat, ((List.range n).map F).sum = sumTo F n
  | 0 => rfl
  | n + 1 => by rw [List.range_succ, List.map_append, List.map_cons, List.map_nil, sum_snoc, sum_range F n]; rfl
theorem sum_filter (t : Nat → Bool) (F : Nat → Int) : ∀ n : Nat, (((List.range n).filter t).map F).sum = sumTo (fun k => if t k = true then F k else 0) n
  | 0 => rfl
  | n + 1 => by
    rw [List.range_succ, List.filter_append, List.map_append, List.sum_append, sum_filter t F n]
    show _ = _ + (if t n = true then F n else 0)
    cases h : t n with
    | true => rw [List.filter_cons_of_pos h]; simp
    | false => rw [List.filter_cons_of_neg (by rw [h]; exact Bool.false_ne_true)]; simp
theorem sumTo_congr {F G : Nat → Int} : ∀ {n : Nat}, (∀ k, k < n → F k = G k) → sumTo F n = sumTo G n
  | 0, _ => rfl
  | n + 1, h => by
    show sumTo F n + F n = sumTo G n + G n
    rw [sumTo_congr (fun k hk => h k (Nat.lt_succ_of_lt hk)), h n (Nat.lt_succ_self n)]
theorem sumTo_add (F G : Nat → Int) : ∀ n : Nat, sumTo (fun k => F k + G k) n = sumTo F n + sumTo G n
  | 0 => rfl
  | n + 1 => by
    show sumTo (fun k => F k + G k) n + (F n + G n) = sumTo F n + F n + (sumTo G n + G n)
    rw [sumTo_add F G n]; omega
theorem sumTo_mul (F : Nat → Int) (c : Int) : ∀ n : Nat, sumTo (fun k => F k * c) n = sumTo F n * c
  | 0 => (Int.zero_mul c).symm
  | n + 1 => by
    show sumTo (fun k => F k * c) n + F n * c = (sumTo F n + F n) * c
    rw [sumTo_mul F c n, Int.add_mul]
theorem sumTo_zero : ∀ n : Nat, sumTo (fun _ => 0) n = 0
  | 0 => rfl
  | n + 1 => by show sumTo (fun _ => 0) n + 0 = 0; rw [sumTo_zero n]; rfl
theorem sumTo_swap (F : Nat → Nat → Int) (m : Nat) : ∀ n : Nat, sumTo (fun i => sumTo (fun j => F i j) m) n = sumTo (fun j => sumTo (fun i => F i j) n) m
  | 0 => (sumTo_zero m).symm
  | n + 1 => by
    show sumTo (fun i => sumTo (fun j => F i j) m) n + sumTo (fun j => F n j) m = sumTo (fun j => sumTo (fun i => F i j) n + F n j) m
    rw [sumTo_swap F m n, sumTo_add]
theorem sumTo_shift (F : Nat → Int) (f : Nat) : ∀ m : Nat, sumTo F (f + m) = sumTo F f + sumTo (fun k => F (f + k)) m
  | 0 => by show sumTo F f = sumTo F f + 0; omega
  | m + 1 => by
    show sumTo F (f + m) + F (f + m) = sumTo F f + (sumTo (fun k => F (f + k)) m + F (f + m))
    rw [sumTo_shift F f m]; omega
/-- how many k below n lie in [lo, hi) -/
theorem sumTo_count (lo hi : Int) (h0 : 0 ≤ lo) (h1 : lo ≤ hi) : ∀ n : Nat, hi ≤ n → sumTo (fun k => if lo ≤ (k : Int) ∧ (k : Int) < hi then 1 else 0) n = hi - lo := by
  have key : ∀ n : Nat, sumTo (fun k => if lo ≤ (k : Int) ∧ (k : Int) < hi then 1 else 0) n = if (n : Int) ≤ lo then 0 else if (n : Int) ≤ hi then n - lo else hi - lo := by
    intro n
    induction n with
    | zero => rw [if_pos (by omega)]; rfl
    | succ n ih =>
      show sumTo _ n + (if lo ≤ (n : Int) ∧ (n : Int) < hi then 1 else 0) = _
      rw [ih]
      (repeat' split) <;> omega
  intro n hn
  rw [key]
  (repeat' split) <;> omega
/-! ### windows, counted -/
theorem ulen_congr {a b : List Int} (h : ∀ x, x ∈ a ↔ x ∈ b) : ulen a = ulen b := by
  have p : (uni a).Perm (uni b) := (List.perm_ext_iff_of_nodup (uni_nodup a) (uni_nodup b)).mpr fun x => by rw [mem_uni, mem_uni]; exact h x
  exact p.length_eq
theorem ulen_cons (x : Int) (ns : List Int) : ulen (x :: ns) = if x ∈ ns then ulen ns else ulen ns + 1 := by
  rw [← ulen_snoc]
  exact ulen_congr fun y => by simp [or_comm]
/-- how many unlike ones stand from f on, ahead of b -/
def wunN (ns : List Int) (f b : Nat) : Nat := ulen ((ns.drop f).take (b - f))
theorem wun_N (ns : List Int) (f b : Int) : wun ns f b = wunN ns f.toNat b.toNat := rfl
theorem wunN_none (ns : List Int) (f : Nat) : wunN ns f f = 0 := by unfold wunN; rw [Nat.sub_self, List.take_zero]; rfl
theorem wunN_up {ns : List Int} {f b : Nat} (h : f ≤ b) (hb : b < ns.length) : wunN ns f (b + 1) = wunN ns f b + if lastAt ns b (ns.getD b 0) < (f : Int) then 1 else 0 := by
  unfold wunN
  have e : (ns.drop f)[b - f]? = some (ns.getD b 0) := by rw [List.getElem?_drop, show f + (b - f) = b from by omega]; exact get_of hb
  rw [show b + 1 - f = (b - f) + 1 from by omega, take_snoc e, ulen_snoc]
  have q := last_in (ns := ns) (f := f) (k := b - f) (by omega)
  rw [show f + (b - f) = b from by omega] at q
  by_cases hl : lastAt ns b (ns.getD b 0) < (f : Int)
  · rw [if_pos hl, if_neg (fun z => q.mp z hl)]
  · rw [if_neg hl, if_pos (q.mpr hl)]; rfl
theorem next_in {ns : List Int} {p b : Nat} (hp : p < b) (hb : b ≤ ns.length) : (ns.getD p 0 ∈ (ns.drop (p + 1)).take (b - (p + 1))) ↔ ¬ (b : Int) ≤ nextUp ns p ns.length := by
  rw [mem_win]
  rcases nextUp_spec ns p ns.length (Nat.le_refl _) with ⟨e, n⟩ | ⟨v, e, h1, h2, h3, n⟩
  · constructor
    · rintro ⟨j, h1, h2, e2⟩
      exact absurd (getD_of e2) (n j (by omega) (List.getElem?_eq_some_iff.mp e2).1)
    · intro hn; omega
  · constructor
    · rintro ⟨j, h4, h5, e2⟩ hlt
      rw [e] at hlt
      exact absurd (getD_of e2) (n j (by omega) (by omega))
    · intro hn
      refine ⟨v, by omega, by omega, ?_⟩
      rw [get_of h2, h3]
theorem wunN_down {ns : List Int} {p b : Nat} (hp : p < b) (hb : b ≤ ns.length) : wunN ns p b = wunN ns (p + 1) b + if (b : Int) ≤ nextUp ns p ns.length then 1 else 0 := by
  unfold wunN
  have hl : p < ns.length := by omega
  have e : (ns.drop p).take (b - p) = ns.getD p 0 :: (ns.drop (p + 1)).take (b - (p + 1)) := by
    have e1 : ns.drop p = ns.getD p 0 :: ns.drop (p + 1) := by
      rw [List.drop_eq_getElem_cons hl, List.getD_eq_getElem?_getD, List.getElem?_eq_getElem hl]
      rfl
    rw [e1, show b - p = (b - (p + 1)) + 1 from by omega]
    rfl
  rw [e, ulen_cons]
  have q := next_in hp hb
  by_cases hc : (b : Int) ≤ nextUp ns p ns.length
  · rw [if_pos hc, if_neg (fun z => q.mp z hc)]
  · rw [if_neg hc, if_pos (q.mpr hc)]; rfl
/-- .. by the last places -/
theorem wunN_lasts {ns : List Int} {f : Nat} : ∀ b : Nat, f ≤ b → b ≤ ns.length → (wunN ns f b : Int) = sumTo (fun p => if f ≤ p ∧ lastAt ns p (ns.getD p 0) < (f : Int) then 1 else 0) b := by
  intro b hb
  obtain ⟨k, rfl⟩ : ∃ k, b = f + k := ⟨b - f, by omega⟩
  clear hb
  induction k with
  | zero =>
    intro _
    rw [Nat.add_zero, wunN_none, sumTo_congr (G := fun _ => 0) (fun k hk => if_neg (fun z => by omega)), sumTo_zero]
    rfl
  | succ k ih =>
    intro h
    rw [show f + (k + 1) = (f + k) + 1 from rfl, wunN_up (by omega) (by omega)]
    show _ = sumTo _ (f + k) + (if f ≤ f + k ∧ lastAt ns (f + k) (ns.getD (f + k) 0) < (f : Int) then 1 else 0)
    rw [← ih (by omega)]
    by_cases hl : lastAt ns (f + k) (ns.getD (f + k) 0) < (f : Int)
    · rw [if_pos hl, if_pos ⟨by omega, hl⟩]; rfl
    · rw [if_neg hl, if_neg (fun z => hl z.2)]; rfl
/-- .. by the next places -/
theorem wunN_nexts {ns : List Int} {b : Nat} (hb : b ≤ ns.length) : ∀ k f : Nat, f + k = b → (wunN ns f b : Int) = sumTo (fun j => if (b : Int) ≤ nextUp ns (f + j) ns.length then 1 else 0) k
  | 0, f, h => by rw [show f = b from h, wunN_none]; rfl
  | k + 1, f, h => by
    rw [wunN_down (by omega) hb, Int.natCast_add, wunN_nexts hb k (f + 1) (by omega)]
    have e := sumTo_shift (fun j => if (b : Int) ≤ nextUp ns (f + j) ns.length then (1 : Int) else 0) 1 k
    rw [show k + 1 = 1 + k from by omega, e]
    have e2 : sumTo (fun j => if (b : Int) ≤ nextUp ns (f + j) ns.length then (1 : Int) else 0) 1 = if (b : Int) ≤ nextUp ns f ns.length then 1 else 0 := by
      show (0 : Int) + _ = _
      rw [Int.zero_add]; rfl
    rw [e2]
    have e3 : sumTo (fun k => if (b : Int) ≤ nextUp ns (f + (1 + k)) ns.length then (1 : Int) else 0) k = sumTo (fun j => if (b : Int) ≤ nextUp ns (f + 1 + j) ns.length then (1 : Int) else 0) k := sumTo_congr fun j _ => by rw [Nat.add_assoc]
    rw [e3]
    split <;> omega
end Ur

namespace Ur
open PySem L2
theorem qint {Q : VK} {H : Hp} {i j : Int} (h : Q (.int j) H) (e : i = j) : Q (.int i) H := e ▸ h
theorem qbv {Q : VK} {H : Hp} {i j : Bool} (h : Q (.bl j) H) (e : i = j) : Q (.bl i) H := e ▸ h
theorem qbl {Q : Bool → Hp → Prop} {H : Hp} {i j : Bool} (h : Q j H) (e : i = j) : Q i H := e ▸ h
/-- where the number at p stood last, stands next -/
def lp (ns : List Int) (p : Nat) : Int := lastAt ns p (ns.getD p 0)
def nx (ns : List Int) (p : Nat) : Int := nextUp ns p ns.length
theorem lp_range (ns : List Int) (p : Nat) : -1 ≤ lp ns p ∧ lp ns p < p := lastAt_range ns _ p
theorem lastP_getD {ns : List Int} {k : Nat} (h : k < ns.length) : (lastP ns).getD k 0 = lp ns k := getD_of (lastP_get h)
theorem nextP_getD {ns : List Int} {k : Nat} (h : k < ns.length) : (nextP ns).getD k 0 = nx ns k := getD_of (nextP_get h)
theorem wun_nat (ns : List Int) {x y : Int} {i j : Nat} (hx : x = i) (hy : y = j) : (wun ns x y : Int) = wunN ns i j := by
  subst hx hy
  rfl
theorem sumTo_cut (F : Nat → Int) {b n : Nat} (h : b ≤ n) : sumTo F b = sumTo (fun p => if p < b then F p else 0) n := by
  obtain ⟨m, rfl⟩ : ∃ m, n = b + m := ⟨n - b, by omega⟩
  rw [sumTo_shift, sumTo_congr (F := fun p => if p < b then F p else 0) (G := F) (fun k hk => if_pos hk), sumTo_congr (F := fun k => if b + k < b then F (b + k) else 0) (G := fun _ => 0) (fun k _ => if_neg (by omega)), sumTo_zero]
  omega
/-- Σ over k below n of c, where lo ≤ k < hi -/
theorem sumTo_some (c lo hi : Int) (h0 : 0 ≤ lo) (h1 : lo ≤ hi) {n : Nat} (hn : hi ≤ n) : sumTo (fun k => if lo ≤ (k : Int) ∧ (k : Int) < hi then c else 0) n = (hi - lo) * c := by
  rw [← sumTo_count lo hi h0 h1 n hn, ← sumTo_mul]
  exact sumTo_congr fun k _ => by split <;> simp
/-- the windows from i on, together -/
def herF (ns : List Int) (i : Nat) : Int := sumTo (fun p => if i ≤ p ∧ lp ns p < (i : Int) then (ns.length : Int) - p else 0) ns.length
theorem her_wins {ns : List Int} {i : Nat} (hi : i ≤ ns.length) : sumTo (fun k => (wunN ns i (i + k) : Int)) (ns.length + 1 - i) = herF ns i := by
  have e1 : sumTo (fun k => (wunN ns i (i + k) : Int)) (ns.length + 1 - i) = sumTo (fun k => sumTo (fun p => if p < i + k then (if i ≤ p ∧ lp ns p < (i : Int) then (1 : Int) else 0) else 0) ns.length) (ns.length + 1 - i) :=
    sumTo_congr fun k hk => by rw [wunN_lasts (i + k) (by omega) (by omega), sumTo_cut _ (show i + k ≤ ns.length by omega)]; rfl
  rw [e1, sumTo_swap]
  refine sumTo_congr fun p hp => ?_
  by_cases h : i ≤ p ∧ lp ns p < (i : Int)
  · rw [if_pos h]
    rw [sumTo_congr (G := fun k => if ((p + 1 - i : Nat) : Int) ≤ (k : Int) ∧ (k : Int) < ((ns.length + 1 - i : Nat) : Int) then 1 else 0) (fun k hk => ?_), sumTo_count _ _ (by omega) (by omega) _ (Int.le_refl _)]
    · omega
    · have := h.1
      by_cases q : p < i + k
      · rw [if_pos q, if_pos ⟨by omega, by omega⟩]
      · rw [if_neg q, if_neg (fun z => by omega)]
  · simp only [if_neg h]
    rw [sumTo_congr (G := fun _ => 0) (fun k _ => by simp), sumTo_zero]
theorem her_firsts {ns : List Int} {i : Nat} (hi : i ≤ ns.length) : sumTo (fun k => if decide (lp ns (i + k) < (i : Int)) = true then (ns.length : Int) - ((i + k : Nat) : Int) else 0) (ns.length - i) = herF ns i := by
  unfold herF
  have e := sumTo_shift (fun p => if i ≤ p ∧ lp ns p < (i : Int) then (ns.length : Int) - (p : Int) else 0) i (ns.length - i)
  rw [show i + (ns.length - i) = ns.length from by omega] at e
  rw [e, sumTo_congr (n := i) (G := fun _ => 0) (fun k hk => if_neg (fun z => by omega)), sumTo_zero, Int.zero_add]
  refine sumTo_congr fun k _ => ?_
  by_cases h : lp ns (i + k) < (i : Int)
  · rw [if_pos (decide_eq_true h), if_pos ⟨by omega, h⟩]
  · rw [if_neg (by rw [decide_eq_false h]; exact Bool.false_ne_true), if_neg (fun z => h z.2)]
theorem her_all (ns : List Int) : sumTo (herF ns) (ns.length + 1) = sumTo (fun p => ((p : Int) - lp ns p) * ((ns.length : Int) - p)) ns.length := by
  show sumTo (fun i => sumTo (fun p => if i ≤ p ∧ lp ns p < (i : Int) then (ns.length : Int) - p else 0) ns.length) (ns.length + 1) = _
  rw [sumTo_swap]
  refine sumTo_congr fun p hp => ?_
  have hr := lp_range ns p
  rw [sumTo_congr (G := fun i => if lp ns p + 1 ≤ (i : Int) ∧ (i : Int) < (p : Int) + 1 then (ns.length : Int) - p else 0) (fun i _ => ?_), sumTo_some _ _ _ (by omega) (by omega) (by omega)]
  · rw [show (p : Int) + 1 - (lp ns p + 1) = (p : Int) - lp ns p from by omega]
  · by_cases h : i ≤ p ∧ lp ns p < (i : Int)
    · rw [if_pos h, if_pos ⟨by omega, by omega⟩]
    · rw [if_neg h, if_neg (fun z => h ⟨by omega, by omega⟩)]
theorem end_wins {ns : List Int} {b : Nat} (hb : b ≤ ns.length) : sumTo (fun f => (wunN ns f b : Int)) (b + 1) = sumTo (fun p => if decide ((b : Int) ≤ nx ns p) = true then (p : Int) + 1 else 0) b := by
  have e1 : sumTo (fun f => (wunN ns f b : Int)) (b + 1) = sumTo (fun f => sumTo (fun p => if f ≤ p then (if (b : Int) ≤ nx ns p then (1 : Int) else 0) else 0) b) (b + 1) :=
    sumTo_congr fun f hf => by
      rw [wunN_nexts hb (b - f) f (by omega)]
      have e := sumTo_shift (fun p => if f ≤ p then (if (b : Int) ≤ nx ns p then (1 : Int) else 0) else 0) f (b - f)
      rw [show f + (b - f) = b from by omega] at e
      rw [e, sumTo_congr (n := f) (G := fun _ => 0) (fun k hk => if_neg (by omega)), sumTo_zero, Int.zero_add]
      exact sumTo_congr fun k _ => (if_pos (by omega)).symm
  rw [e1, sumTo_swap]
  refine sumTo_congr fun p hp => ?_
  by_cases h : (b : Int) ≤ nx ns p
  · rw [if_pos (decide_eq_true h)]
    rw [sumTo_congr (G := fun f => if (0 : Int) ≤ (f : Int) ∧ (f : Int) < (p : Int) + 1 then 1 else 0) (fun f _ => ?_), sumTo_count _ _ (by omega) (by omega) _ (by omega)]
    · omega
    · by_cases q : f ≤ p
      · rw [if_pos q, if_pos h, if_pos ⟨by omega, by omega⟩]
      · rw [if_neg q, if_neg (fun z => by omega)]
  · have hd : ¬ decide ((b : Int) ≤ nx ns p) = true := by simp [h]
    rw [if_neg hd]
    simp only [if_neg h]
    rw [sumTo_congr (G := fun _ => 0) (fun k _ => by simp), sumTo_zero]
end Ur

namespace Ur
open PySem L2
/-! ### ends and begins -/
def optV : Option Nat → V
  | none => .non
  | some b => .int (b : Nat)
/-- the least behind with m unlike ones, from k places ahead of the row's end on -/
def endK (ns : List Int) (f : Nat) (m : Int) : Nat → Option Nat
  | 0 => if m ≤ (wunN ns f ns.length : Int) then some ns.length else none
  | k + 1 => if m ≤ (wunN ns f (ns.length - (k + 1)) : Int) then some (ns.length - (k + 1)) else endK ns f m k
def endAt (ns : List Int) (f : Nat) (m : Int) : Option Nat := endK ns f m (ns.length - f)
theorem endK_yes {ns : List Int} {f k : Nat} {m : Int} (h : m ≤ (wunN ns f (ns.length - k) : Int)) : endK ns f m k = some (ns.length - k) := by
  cases k with
  | zero => exact if_pos h
  | succ k => exact if_pos h
theorem endK_no {ns : List Int} {f k : Nat} {m : Int} (h : ¬ m ≤ (wunN ns f (ns.length - (k + 1)) : Int)) : endK ns f m (k + 1) = endK ns f m k := if_neg h
theorem endK_none {ns : List Int} {f : Nat} {m : Int} (h : ¬ m ≤ (wunN ns f ns.length : Int)) : endK ns f m 0 = none := if_neg h
/-- the greatest first, from g on down -/
def begK (ns : List Int) (b : Nat) (m : Int) : Nat → Option Nat
  | 0 => if m ≤ (wunN ns 0 b : Int) then some 0 else none
  | g + 1 => if m ≤ (wunN ns (g + 1) b : Int) then some (g + 1) else begK ns b m g
def begAt (ns : List Int) (b : Nat) (m : Int) : Option Nat := begK ns b m b
theorem begK_yes {ns : List Int} {b g : Nat} {m : Int} (h : m ≤ (wunN ns g b : Int)) : begK ns b m g = some g := by
  cases g with
  | zero => exact if_pos h
  | succ g => exact if_pos h
theorem begK_no {ns : List Int} {b g : Nat} {m : Int} (h : ¬ m ≤ (wunN ns (g + 1) b : Int)) : begK ns b m (g + 1) = begK ns b m g := if_neg h
theorem begK_none {ns : List Int} {b : Nat} {m : Int} (h : ¬ m ≤ (wunN ns 0 b : Int)) : begK ns b m 0 = none := if_neg h
theorem wunN_step {ns : List Int} {f b : Nat} (h : f ≤ b) (hb : b < ns.length) : wunN ns f b ≤ wunN ns f (b + 1) ∧ wunN ns f (b + 1) ≤ wunN ns f b + 1 := by
  rw [wunN_up h hb]
  split <;> omega
theorem wunN_stepD {ns : List Int} {f b : Nat} (h : f < b) (hb : b ≤ ns.length) : wunN ns (f + 1) b ≤ wunN ns f b ∧ wunN ns f b ≤ wunN ns (f + 1) b + 1 := by
  rw [wunN_down h hb]
  split <;> omega
theorem wunN_monoB {ns : List Int} {f : Nat} : ∀ {k b : Nat}, f ≤ b → b + k ≤ ns.length → wunN ns f b ≤ wunN ns f (b + k)
  | 0, _, _, _ => Nat.le_refl _
  | k + 1, b, h, hb => Nat.le_trans (wunN_monoB (k := k) h (by omega)) (wunN_step (b := b + k) (by omega) (by omega)).1
theorem wunN_monoF {ns : List Int} {b : Nat} (hb : b ≤ ns.length) : ∀ {k f : Nat}, f + k ≤ b → wunN ns (f + k) b ≤ wunN ns f b
  | 0, _, _ => Nat.le_refl _
  | k + 1, f, h => Nat.le_trans (wunN_stepD (f := f + k) (by omega) hb).1 (wunN_monoF hb (k := k) (by omega))
/-- what an end is -/
theorem endK_spec {ns : List Int} {f : Nat} {m : Int} : ∀ k : Nat, k ≤ ns.length →
    (endK ns f m k = none ∧ ∀ b, ns.length - k ≤ b → b ≤ ns.length → ¬ m ≤ (wunN ns f b : Int)) ∨
    ∃ e, endK ns f m k = some e ∧ ns.length - k ≤ e ∧ e ≤ ns.length ∧ m ≤ (wunN ns f e : Int) ∧ ∀ b, ns.length - k ≤ b → b < e → ¬ m ≤ (wunN ns f b : Int)
  | 0, _ => by
    by_cases h : m ≤ (wunN ns f ns.length : Int)
    · exact .inr ⟨ns.length, if_pos h, Nat.le_refl _, Nat.le_refl _, h, fun b h1 h2 => absurd h1 (by omega)⟩
    · refine .inl ⟨if_neg h, fun b h1 h2 => ?_⟩
      rw [show b = ns.length from by omega]
      exact h
  | k + 1, hk => by
    by_cases h : m ≤ (wunN ns f (ns.length - (k + 1)) : Int)
    · exact .inr ⟨ns.length - (k + 1), if_pos h, Nat.le_refl _, by omega, h, fun b h1 h2 => absurd h1 (by omega)⟩
    · have er := endK_no h
      rcases endK_spec (ns := ns) (f := f) (m := m) k (by omega) with ⟨e1, e2⟩ | ⟨e, e1, e2, e3, e4, e5⟩
      · refine .inl ⟨er.trans e1, fun b h1 h2 => ?_⟩
        by_cases q : b = ns.length - (k + 1)
        · rw [q]; exact h
        · exact e2 b (by omega) h2
      · refine .inr ⟨e, er.trans e1, by omega, e3, e4, fun b h1 h2 => ?_⟩
        by_cases q : b = ns.length - (k + 1)
        · rw [q]; exact h
        · exact e5 b (by omega) h2
theorem endAt_spec {ns : List Int} {f : Nat} {m : Int} (hf : f ≤ ns.length) :
    (endAt ns f m = none ∧ ∀ b, f ≤ b → b ≤ ns.length → ¬ m ≤ (wunN ns f b : Int)) ∨
    ∃ e, endAt ns f m = some e ∧ f ≤ e ∧ e ≤ ns.length ∧ m ≤ (wunN ns f e : Int) ∧ ∀ b, f ≤ b → b < e → ¬ m ≤ (wunN ns f b : Int) := by
  have h := endK_spec (ns := ns) (f := f) (m := m) (ns.length - f) (by omega)
  rw [show ns.length - (ns.length - f) = f from by omega] at h
  exact h
theorem begK_spec {ns : List Int} {b : Nat} {m : Int} : ∀ g : Nat,
    (begK ns b m g = none ∧ ∀ j, j ≤ g → ¬ m ≤ (wunN ns j b : Int)) ∨
    ∃ e, begK ns b m g = some e ∧ e ≤ g ∧ m ≤ (wunN ns e b : Int) ∧ ∀ j, e < j → j ≤ g → ¬ m ≤ (wunN ns j b : Int)
  | 0 => by
    by_cases h : m ≤ (wunN ns 0 b : Int)
    · exact .inr ⟨0, if_pos h, Nat.le_refl _, h, fun j h1 h2 => absurd h1 (by omega)⟩
    · refine .inl ⟨if_neg h, fun j h1 => ?_⟩
      rw [show j = 0 from by omega]
      exact h
  | g + 1 => by
    by_cases h : m ≤ (wunN ns (g + 1) b : Int)
    · exact .inr ⟨g + 1, if_pos h, Nat.le_refl _, h, fun j h1 h2 => absurd h1 (by omega)⟩
    · have er := begK_no h
      rcases begK_spec (ns := ns) (b := b) (m := m) g with ⟨e1, e2⟩ | ⟨e, e1, e2, e3, e4⟩
      · refine .inl ⟨er.trans e1, fun j h1 => ?_⟩
        by_cases q : j = g + 1
        · rw [q]; exact h
        · exact e2 j (by omega)
      · refine .inr ⟨e, er.trans e1, by omega, e3, fun j h1 h2 => ?_⟩
        by_cases q : j = g + 1
        · rw [q]; exact h
        · exact e4 j h1 (by omega)
/-- an end by what it is -/
theorem endAt_is {ns : List Int} {f e : Nat} {m : Int} (h1 : f ≤ e) (h2 : e ≤ ns.length) (h3 : m ≤ (wunN ns f e : Int)) (h4 : ∀ b, f ≤ b → b < e → ¬ m ≤ (wunN ns f b : Int)) : endAt ns f m = some e := by
  rcases endAt_spec (ns := ns) (f := f) (m := m) (by omega) with ⟨_, e2⟩ | ⟨e', e1, g1, g2, g3, g4⟩
  · exact absurd h3 (e2 e h1 h2)
  · rcases Nat.lt_trichotomy e e' with k | k | k
    · exact absurd h3 (g4 e h1 k)
    · rw [e1, k]
    · exact absurd g3 (h4 e' g1 k)
/-- at an end there are just so many, one ahead of it one less -/
theorem end_just {ns : List Int} {f e : Nat} {m : Int} (h0 : 0 ≤ m) (h1 : f ≤ e) (h2 : e ≤ ns.length) (h3 : m ≤ (wunN ns f e : Int)) (h4 : ∀ b, f ≤ b → b < e → ¬ m ≤ (wunN ns f b : Int)) :
    (wunN ns f e : Int) = m ∧ (0 < m → f < e ∧ (wunN ns f (e - 1) : Int) = m - 1) := by
  by_cases h : f = e
  · rw [← h] at h3 ⊢
    rw [wunN_none] at h3 ⊢
    refine ⟨by omega, fun k => by omega⟩
  · have hb := h4 (e - 1) (by omega) (by omega)
    have hs := wunN_step (ns := ns) (f := f) (b := e - 1) (by omega) (by omega)
    rw [show e - 1 + 1 = e from by omega] at hs
    refine ⟨by omega, fun k => ⟨by omega, by omega⟩⟩
theorem beg_just {ns : List Int} {g b : Nat} {m : Int} (h0 : 0 ≤ m) (h1 : g ≤ b) (h2 : b ≤ ns.length) (h3 : m ≤ (wunN ns g b : Int)) (h4 : ∀ j, g < j → j ≤ b → ¬ m ≤ (wunN ns j b : Int)) :
    (wunN ns g b : Int) = m ∧ (0 < m → g < b ∧ (wunN ns (g + 1) b : Int) = m - 1) := by
  by_cases h : g = b
  · rw [← h] at h3 ⊢
    rw [wunN_none] at h3 ⊢
    refine ⟨by omega, fun k => by omega⟩
  · have hb := h4 (g + 1) (by omega) (by omega)
    have hs := wunN_stepD (ns := ns) (f := g) (b := b) (by omega) h2
    refine ⟨by omega, fun k => ⟨by omega, by omega⟩⟩
end Ur
namespace Ur
open PySem L2
theorem wunN_all (ns : List Int) : wunN ns 0 ns.length = ulen ns := by
  unfold wunN
  rw [List.drop_zero, Nat.sub_zero, List.take_length]
theorem wunN_le {ns : List Int} {f b : Nat} (h : f ≤ b) (hb : b ≤ ns.length) : wunN ns f b ≤ ulen ns := by
  have h1 := wunN_monoB (ns := ns) (f := f) (b := b) (k := ns.length - b) h (by omega)
  rw [show b + (ns.length - b) = ns.length from by omega] at h1
  have h2 := wunN_monoF (ns := ns) (b := ns.length) (Nat.le_refl _) (k := f) (f := 0) (by omega)
  rw [Nat.zero_add, wunN_all] at h2
  omega
theorem end_more (ns : List Int) : endAt ns 0 ((ulen ns : Nat) + 1 : Int) = none := by
  rcases endAt_spec (ns := ns) (f := 0) (m := (ulen ns : Nat) + 1) (Nat.zero_le _) with ⟨e1, _⟩ | ⟨e, _, h1, h2, h3, _⟩
  · exact e1
  · have := wunN_le h1 h2
    omega
theorem beg_more (ns : List Int) : begAt ns ns.length ((ulen ns : Nat) + 1 : Int) = none := by
  rcases begK_spec (ns := ns) (b := ns.length) (m := (ulen ns : Nat) + 1) ns.length with ⟨e1, _⟩ | ⟨e, _, h1, h2, _⟩
  · exact e1
  · have := wunN_le h1 (Nat.le_refl _)
    omega
theorem rgV_ints {b : Int} {n : Nat} (h : b = n) : rgV 0 b = ((List.range n).map fun k => ((k : Nat) : Int)).map V.int := by
  subst h
  unfold rgV
  rw [List.map_map, Int.sub_zero, Int.toNat_natCast]
  exact List.map_congr_left fun k _ => by rw [Int.zero_add]; rfl
end Ur
namespace Ur
open PySem L2
theorem inV_int {ns : List Int} {x : Int} : inV (.int x) (ns.map V.int) = decide (x ∈ ns) := by
  unfold inV
  rw [List.any_map, Bool.eq_iff_iff, List.any_eq_true, decide_eq_true_iff]
  constructor
  · rintro ⟨y, hy, e⟩
    have e2 : (y == x) = true ∨ (x == y) = true := by first | exact Or.inl e | exact Or.inr e
    rcases e2 with e2 | e2
    · exact eq_of_beq e2 ▸ hy
    · exact (eq_of_beq e2).symm ▸ hy
  · intro h
    refine ⟨x, h, ?_⟩
    exact beq_self_eq_true x
theorem in_int {K : PySem.W.Frag} {H : Hp} {a : Addr} {ns : List Int} {x : Int} {Q : VK} (h : SqL K H a (ns.map V.int)) (q : Q (.bl (decide (x ∈ ns))) H) : rIn K false (.int x) (.ref a) H Q :=
  ⟨a, _, rfl, .inl h, rfl, by rw [List.all_map]; exact List.all_eq_true.mpr fun _ _ => rfl, by rw [inV_int]; exact q⟩
theorem notin_int {K : PySem.W.Frag} {H : Hp} {a : Addr} {ns : List Int} {x : Int} {Q : VK} (h : SqL K H a (ns.map V.int)) (q : Q (.bl (!decide (x ∈ ns))) H) : rIn K true (.int x) (.ref a) H Q :=
  ⟨a, _, rfl, .inl h, rfl, by rw [List.all_map]; exact List.all_eq_true.mpr fun _ _ => rfl, by rw [inV_int]; exact q⟩
/-! ### from behind -/
theorem ulen_rev (ns : List Int) : ulen ns.reverse = ulen ns := ulen_congr fun x => List.mem_reverse
theorem wunN_rev {ns : List Int} {b j : Nat} (hj : j ≤ b) (hb : b ≤ ns.length) : wunN (ns.take b).reverse 0 j = wunN ns (b - j) b := by
  unfold wunN
  rw [List.drop_zero, Nat.sub_zero, List.take_reverse, ulen_rev]
  rw [List.length_take, Nat.min_eq_left hb, show b - (b - j) = j from by omega, List.drop_take, show b - (b - j) = j from by omega]
theorem begAt_is {ns : List Int} {b e : Nat} {m : Int} (h1 : e ≤ b) (h3 : m ≤ (wunN ns e b : Int)) (h4 : ∀ j, e < j → j ≤ b → ¬ m ≤ (wunN ns j b : Int)) : begAt ns b m = some e := by
  rcases begK_spec (ns := ns) (b := b) (m := m) b with ⟨_, e2⟩ | ⟨e', e1, g1, g2, g3⟩
  · exact absurd h3 (e2 e h1)
  · rcases Nat.lt_trichotomy e e' with k | k | k
    · exact absurd g2 (h4 e' k g1)
    · exact e1.trans (by rw [k])
    · exact absurd h3 (g3 e k h1)
theorem begAt_rev {ns : List Int} {b : Nat} {m : Int} (hb : b ≤ ns.length) :
    (endAt (ns.take b).reverse 0 m = none ∧ begAt ns b m = none) ∨ ∃ e, endAt (ns.take b).reverse 0 m = some e ∧ e ≤ b ∧ begAt ns b m = some (b - e) := by
  have hl : (ns.take b).reverse.length = b := by rw [List.length_reverse, List.length_take]; omega
  rcases endAt_spec (ns := (ns.take b).reverse) (f := 0) (m := m) (Nat.zero_le _) with ⟨e1, e2⟩ | ⟨e, e1, h1, h2, h3, h4⟩
  · refine .inl ⟨e1, ?_⟩
    rcases begK_spec (ns := ns) (b := b) (m := m) b with ⟨k, _⟩ | ⟨g, _, g1, g2, _⟩
    · exact k
    · have := e2 (b - g) (Nat.zero_le _) (by omega)
      rw [wunN_rev (by omega) hb, show b - (b - g) = g from by omega] at this
      exact absurd g2 this
  · rw [hl] at h2
    refine .inr ⟨e, e1, h2, begAt_is (by omega) ?_ fun j k1 k2 => ?_⟩
    · rw [wunN_rev h2 hb] at h3
      exact h3
    · have := h4 (b - j) (Nat.zero_le _) (by omega)
      rw [wunN_rev (by omega) hb, show b - (b - j) = j from by omega] at this
      exact this
theorem endAt_0 {ns : List Int} {f : Nat} (h : f ≤ ns.length) : endAt ns f 0 = some f := endAt_is (Nat.le_refl f) h (by omega) fun b h1 h2 => absurd h1 (by omega)
theorem begAt_0 (ns : List Int) (b : Nat) : begAt ns b 0 = some b := begAt_is (Nat.le_refl b) (by omega) fun j h1 h2 => absurd h1 (by omega)
/-- the unlike ones of a window, one more -/
theorem uni_up {ns : List Int} {f b : Nat} {x : Int} (h : f ≤ b) (e : ns[b]? = some x) : uni ((ns.drop f).take (b + 1 - f)) = if x ∈ uni ((ns.drop f).take (b - f)) then uni ((ns.drop f).take (b - f)) else uni ((ns.drop f).take (b - f)) ++ [x] := by
  have e1 : (ns.drop f)[b - f]? = some x := by rw [List.getElem?_drop, show f + (b - f) = b from by omega]; exact e
  rw [show b + 1 - f = (b - f) + 1 from by omega, take_snoc e1, uni_snoc]
  by_cases k : x ∈ (ns.drop f).take (b - f)
  · rw [if_pos k, if_pos ((mem_uni _ x).mpr k)]
  · rw [if_neg k, if_neg (fun z => k ((mem_uni _ x).mp z))]
end Ur
namespace Ur
open PySem L2
/-- None or a whole number -/
structure IsO (v : V) : Prop where
  or : v = .non ∨ ∃ i : Int, v = .int i
theorem IsO.opt (x : Option Nat) : IsO (optV x) := by
  cases x with
  | none => exact ⟨.inl rfl⟩
  | some b => exact ⟨.inr ⟨_, rfl⟩⟩
end Ur

namespace Ur
open PySem L2
/-! ### xs[::c] -/
theorem vals_pick {xs : List V} {us : List Value} (r : Vals xs us) : ∀ ids : List Nat, Vals (ids.filterMap fun i => xs[i]?) (ids.filterMap fun i => us.toArray[i]?)
  | [] => .nil
  | i :: ids => by
    have hl := Vals.length r
    have e2 : us.toArray[i]? = us[i]? := by simp
    cases h : xs[i]? with
    | none =>
      have h2 : us[i]? = none := by
        rw [List.getElem?_eq_none_iff] at h ⊢
        omega
      rw [List.filterMap_cons_none h, List.filterMap_cons_none (by rw [e2, h2])]
      exact vals_pick r ids
    | some x =>
      obtain ⟨u, h2, h3⟩ := r.get h
      rw [List.filterMap_cons_some h, List.filterMap_cons_some (b := u) (by rw [e2, h2])]
      exact .cons h3 (vals_pick r ids)
def tStep (K : PySem.W.Frag) (te : TE) : TE := fun σ H Q => te σ H fun x H1 => ∃ a xs, x = .ref a ∧ SqL K H1 a xs ∧ ∀ p ys, (∀ y ∈ ys, y ∈ xs) → ys.length ≤ xs.length → H1 p = none → Q (.ref p) (upd H1 p (.lst ys))
open PySem.Spec PyProof.Rows in
theorem pe_step2 {X : Cx} {e : Expr} {te : TE} {k : Nat} {p1 p3 pos : Pos} (he : PE X e te) : PE X (.Subscript e (.Slice none none (some (.Constant (.int 2) k p1)) p3) pos) (tStep X.K te) := by
  refine ⟨fun pins s σ H Q I h => ?_⟩
  refine Subscript_ (thn (he.run pins s σ H _ I h) fun v s1 ⟨x, H1, I1, r1, q1⟩ => ?_)
  obtain ⟨a, xs, ex, hx, q⟩ := q1
  subst ex
  cases r1
  have hst : PO X (some (.Constant (.int 2) k p1)) (tPart (tC (.int 2))) := po_some pe_int
  refine wpAny_Slice (thn (po_none.run pins s1 σ H1 (fun o H2 => o = none ∧ H2 = H1) I1 ⟨rfl, rfl⟩) fun vl s2 ⟨l, H2, I2, pl, el, e2⟩ => ?_)
  subst el e2
  refine thn (po_none.run pins s2 σ H2 (fun o H3 => o = none ∧ H3 = H2) I2 ⟨rfl, rfl⟩) fun vu s3 ⟨u, H3, I3, pu, eu, e3⟩ => ?_
  subst eu e3
  refine thn (hst.run pins s3 σ H3 (fun o H4 => o = some 2 ∧ H4 = H3) I3 ⟨2, rfl, rfl, rfl⟩) fun vs s4 ⟨o, H4, I4, ps, eo, e4⟩ => ?_
  subst eo e4
  have I5 : Inv X pins σ H4 { s4 with heap := s4.heap.push { cls := .type "slice", data := .fields #[vl, vu, vs] } } := I4.kept (t' := s4.toks) fun b ob q => Heap.get?_push_of_some _ q
  obtain ⟨its, r, ht, hz⟩ := I5.list hx
  have hlen := r.length
  show wpAny (model X.prog X.w) X.A (subscriptTail e (.Slice none none (some (.Constant (.int 2) k p1)) p3) (.ref a) (.ref s4.heap.objs.size)) (EP X pins σ Q) X.xe { s4 with heap := s4.heap.push { cls := .type "slice", data := .fields #[vl, vu, vs] } }
  refine tail_any (ops := [.ref a, .ref s4.heap.objs.size]) ht.isList.typeIs (PySem.slot_list_getitem.lookup) ?_ (by with_unfolding_all rfl)
  refine wpAny_getItem_list_slice ht.isList (Heap.IsSliceOf.new _ vl vu vs) pl pu ps (by decide) ?_ (by rw [List.size_toArray]; omega)
  have hid : ∀ n : Nat, (sliceRange (sliceBounds none none (some 2) n).1 (sliceBounds none none (some 2) n).2.1 (sliceBounds none none (some 2) n).2.2).length ≤ n := fun n => by
    have e : sliceBounds none none (some 2) n = (0, (n : Int), 2) := by simp [sliceBounds]
    rw [e]
    exact sliceRange_length_le 0 n 2 n (fun _ => ⟨by omega, by omega⟩) (fun h => absurd (by decide) h)
  have hid2 := hid its.toArray.size
  unfold slicePick
  generalize hI : sliceRange (sliceBounds none none (some 2) its.toArray.size).1 (sliceBounds none none (some 2) its.toArray.size).2.1 (sliceBounds none none (some 2) its.toArray.size).2.2 = ids at hid2
  have hv := vals_pick r ids
  have hly : (ids.filterMap fun i => xs[i]?).length ≤ xs.length := by
    refine Nat.le_trans (List.length_filterMap_le _ _) ?_
    rw [List.size_toArray] at hid2
    omega
  refine ⟨.ref _, _, I5.laid (t' := s4.toks) (o := .lst (ids.filterMap fun i => xs[i]?)) (fun b ob q => Heap.get?_push_of_some _ q) (Nat.le_refl _) ?_, rfl, q _ _ (fun y hy => ?_) hly (I5.hok.fresh (Nat.le_refl _))⟩
  · exact ⟨by omega, _, 0, hv, Heap.get?_push_size _ rfl⟩
  · obtain ⟨i, _, e⟩ := List.mem_filterMap.mp hy
    exact List.mem_of_getElem? e
end Ur

namespace Ur
open PySem L2
/-! ### windows that were drawn -/
/-- at t a window of a row of n -/
structure WinAt (n : Int) (H : Hp) (t : Addr) : Prop where
  at_ : ∃ f b : Int, H t = some (.tup [.int f, .int b]) ∧ 0 ≤ f ∧ f ≤ b ∧ b ≤ n
theorem WinAt.same {n : Int} {H H' : Hp} {t : Addr} (w : WinAt n H t) (s : Same H H') : WinAt n H' t := by
  obtain ⟨f, b, e, h⟩ := w.at_
  exact ⟨f, b, s _ _ e, h⟩
theorem WinAt.but {n : Int} {H H' : Hp} {t a : Addr} {xs : List V} (w : WinAt n H t) (s : But a H H') (ha : H a = some (.lst xs)) : WinAt n H' t := by
  obtain ⟨f, b, e, h⟩ := w.at_
  exact ⟨f, b, s _ _ (fun k => by rw [k, ha] at e; cases e) e, h⟩
theorem WinAt.upd {n : Int} {H : Hp} {t a : Addr} {xs : List V} {o : HO} (w : WinAt n H t) (ha : H a = some (.lst xs)) : WinAt n (upd H a o) t := by
  obtain ⟨f, b, e, h⟩ := w.at_
  exact ⟨f, b, by rw [upd_ne (fun k => by rw [k, ha] at e; cases e)]; exact e, h⟩
end Ur

namespace Ur
open PySem L2
/-! ### lists of last places -/
theorem lastAt_succ (ns : List Int) (i : Nat) (x : Int) : lastAt ns (i + 1) x = if ns.getD i 0 = x then (i : Int) else lastAt ns i x := rfl
theorem getD_app {r s : List Int} {j : Nat} (h : j < r.length) : (r ++ s).getD j 0 = r.getD j 0 := by
  rw [List.getD_eq_getElem?_getD, List.getD_eq_getElem?_getD, List.getElem?_append_left h]
theorem lastAt_app {r s : List Int} {x : Int} : ∀ {i : Nat}, i ≤ r.length → lastAt (r ++ s) i x = lastAt r i x
  | 0, _ => rfl
  | i + 1, h => by rw [lastAt_succ, lastAt_succ, getD_app h, lastAt_app (Nat.le_of_lt h)]
theorem lastP_snoc (r : List Int) (x : Int) : lastP (r ++ [x]) = lastP r ++ [lastAt r r.length x] := by
  have hl : (r ++ [x]).length = r.length + 1 := by rw [List.length_append]; rfl
  have h := lastP_take (ns := r ++ [x]) (i := r.length) (by omega)
  have e1 : (lastP (r ++ [x])).take (r.length + 1) = lastP (r ++ [x]) := by rw [← hl, ← lastP_len, List.take_length]
  have e2 : (lastP (r ++ [x])).take r.length = lastP r := by
    refine List.ext_getElem? fun k => ?_
    by_cases hk : k < r.length
    · rw [List.getElem?_take, if_pos hk, lastP_get (by omega), lastP_get hk, getD_app hk, lastAt_app (Nat.le_of_lt hk)]
    · rw [List.getElem?_take, if_neg hk, List.getElem?_eq_none (by rw [lastP_len]; omega)]
  have e3 : (r ++ [x]).getD r.length 0 = x := by
    rw [List.getD_eq_getElem?_getD, List.getElem?_append_right (Nat.le_refl _), Nat.sub_self]; rfl
  rw [e1, e2, e3, lastAt_app (Nat.le_refl _)] at h
  exact h
theorem lastAt_not {r : List Int} {x : Int} (h : x ∉ r) : lastAt r r.length x = -1 := by
  rcases lastAt_spec r x r.length with ⟨e, _⟩ | ⟨v, _, h1, h2, _⟩
  · exact e
  · exact absurd (h2 ▸ List.mem_of_getElem? (get_of h1)) h
theorem fresh_int (r : List Int) : ∃ x : Int, x ∉ r := by
  have k : ∀ r : List Int, ∃ b : Int, ∀ y ∈ r, y < b := by
    intro r
    induction r with
    | nil => exact ⟨0, fun y h => nomatch h⟩
    | cons z r ih =>
      obtain ⟨b, hb⟩ := ih
      refine ⟨max b (z + 1), fun y hy => ?_⟩
      rcases List.mem_cons.mp hy with e | e
      · rw [e]; omega
      · have := hb y e; omega
  obtain ⟨b, hb⟩ := k r
  exact ⟨b, fun h => absurd (hb b h) (by omega)⟩
/-- a list of last places, one more: a new number -/
theorem lasts_new (r : List Int) : ∃ x, lastP (r ++ [x]) = lastP r ++ [-1] := by
  obtain ⟨x, hx⟩ := fresh_int r
  exact ⟨x, by rw [lastP_snoc, lastAt_not hx]⟩
/-- .. or that of a place that is none yet -/
theorem lasts_old {r : List Int} {l : Nat} (hl : l < r.length) (hn : (l : Int) ∉ lastP r) : lastP (r ++ [r.getD l 0]) = lastP r ++ [(l : Int)] := by
  rw [lastP_snoc]
  have e : lastAt r r.length (r.getD l 0) = l := by
    refine lastAt_uniq (.inr ⟨l, rfl, hl, rfl⟩) fun j hj hx => ?_
    by_cases h : j ≤ l
    · omega
    · exfalso
      have key : ∀ d j, j = l + 1 + d → j < r.length → r.getD j 0 = r.getD l 0 → False := by
        intro d
        induction d using Nat.strongRecOn with
        | _ d ih =>
          intro j hjd hj hx
          refine hn ?_
          have hg := lastP_get hj
          have : lastAt r j (r.getD j 0) = l := by
            rw [hx]
            refine lastAt_uniq (.inr ⟨l, rfl, by omega, rfl⟩) fun i hi hxi => ?_
            by_cases q : i ≤ l
            · omega
            · exact (ih (i - (l + 1)) (by omega) i (by omega) (by omega) hxi).elim
          rw [this] at hg
          exact List.mem_of_getElem? hg
      exact key (j - (l + 1)) j (by omega) hj hx
  rw [e]
/-- what a last place is -/
theorem lastP_ok {r : List Int} {i : Nat} {l : Int} (h : (lastP r)[i]? = some l) : -1 ≤ l ∧ l < i ∧ (0 ≤ l → l ∉ (lastP r).take i) := by
  have hi : i < r.length := by
    have := (List.getElem?_eq_some_iff.mp h).1
    rwa [lastP_len] at this
  have e := lastP_get hi
  rw [h] at e
  have e := Option.some.inj e
  have hr := lastAt_range r (r.getD i 0) i
  refine ⟨by omega, by omega, fun h0 hm => ?_⟩
  obtain ⟨j, hj⟩ := List.mem_iff_getElem?.mp hm
  rw [List.getElem?_take] at hj
  by_cases q : j < i
  · rw [if_pos q, lastP_get (by omega)] at hj
    have e2 := Option.some.inj hj
    rcases lastAt_spec r (r.getD i 0) i with ⟨k, _⟩ | ⟨v, k1, k2, k3, k4⟩
    · omega
    · rcases lastAt_spec r (r.getD j 0) j with ⟨m, _⟩ | ⟨w, m1, m2, m3, _⟩
      · omega
      · have hvw : v = w := by omega
        exact k4 j (by omega) q (by rw [← m3, ← hvw, k3])
  · rw [if_neg q] at hj; cases hj
theorem lastP_map {f : Int → Int} {r : List Int} (h : InjOn f r) : lastP (r.map f) = lastP r := by
  have g : ∀ j, j < r.length → (r.map f).getD j 0 = f (r.getD j 0) := fun j hj => by
    rw [List.getD_eq_getElem?_getD, List.getElem?_map, get_of hj]; rfl
  have k : ∀ i x, i ≤ r.length → x ∈ r → lastAt (r.map f) i (f x) = lastAt r i x := by
    intro i x
    induction i with
    | zero => intro _ _; rfl
    | succ i ih =>
      intro hi hx
      rw [lastAt_succ, lastAt_succ, g i hi, ih (Nat.le_of_lt hi) hx]
      have hm : r.getD i 0 ∈ r := List.mem_of_getElem? (get_of hi)
      by_cases q : r.getD i 0 = x
      · rw [if_pos q, if_pos (by rw [q])]
      · rw [if_neg q, if_neg (fun z => q (h _ hm _ hx z))]
  refine List.ext_getElem? fun i => ?_
  by_cases hi : i < r.length
  · rw [lastP_get (by rw [List.length_map]; exact hi), lastP_get hi, g i hi, k i _ (Nat.le_of_lt hi) (List.mem_of_getElem? (get_of hi))]
  · rw [List.getElem?_eq_none (by rw [lastP_len, List.length_map]; omega), List.getElem?_eq_none (by rw [lastP_len]; omega)]
theorem plain_inj (r : List Int) : InjOn (fun x => (plainAt r x : Int)) r := fun x hx y hy e => plainAt_inj hx hy (by have e2 : ((plainAt r x : Nat) : Int) = (plainAt r y : Nat) := e; omega)
theorem lastP_plain (r : List Int) : lastP (plainP r) = lastP r := lastP_map (plain_inj r)
/-- -1 stands just where a number is new -/
theorem last_new {r : List Int} {i : Nat} (hi : i < r.length) : lastAt r i (r.getD i 0) < 0 ↔ r.getD i 0 ∉ r.take i := by
  rcases lastAt_spec r (r.getD i 0) i with ⟨e, n⟩ | ⟨v, e, h1, h2, _⟩
  · refine ⟨fun _ hm => ?_, fun _ => by omega⟩
    obtain ⟨j, hj⟩ := List.mem_iff_getElem?.mp hm
    rw [List.getElem?_take] at hj
    by_cases q : j < i
    · rw [if_pos q] at hj; exact n j q (getD_of hj)
    · rw [if_neg q] at hj; cases hj
  · refine ⟨fun h => by omega, fun h => absurd ?_ h⟩
    exact List.mem_iff_getElem?.mpr ⟨v, by rw [List.getElem?_take, if_pos h1, get_of (by omega), h2]⟩
theorem lastP_takeR (r : List Int) (n : Nat) : lastP (r.take n) = (lastP r).take n := by
  by_cases h : n ≤ r.length
  · have e := List.take_append_drop n r
    have hl : (r.take n).length = n := by rw [List.length_take]; omega
    refine List.ext_getElem? fun k => ?_
    rw [List.getElem?_take]
    by_cases hk : k < n
    · have g : (r.take n).getD k 0 = r.getD k 0 := by
        rw [List.getD_eq_getElem?_getD, List.getD_eq_getElem?_getD, List.getElem?_take, if_pos hk]
      have a : lastAt r k (r.getD k 0) = lastAt (r.take n) k (r.getD k 0) := by
        have := lastAt_app (r := r.take n) (s := r.drop n) (x := r.getD k 0) (i := k) (by omega)
        rwa [e] at this
      rw [if_pos hk, lastP_get (by omega), lastP_get (by omega), g, a]
    · rw [if_neg hk, List.getElem?_eq_none (by rw [lastP_len]; omega)]
  · rw [List.take_of_length_le (by omega), List.take_of_length_le (by rw [lastP_len]; omega)]
theorem lastP_drop (r : List Int) (n : Nat) : lastP (r.drop n) = ((lastP r).drop n).map fun l => max (-1) (l - (n : Int)) := by
  refine List.ext_getElem? fun k => ?_
  rw [List.getElem?_map, List.getElem?_drop]
  by_cases hk : n + k < r.length
  · have hkd : k < (r.drop n).length := by rw [List.length_drop]; omega
    have g : ∀ j, (r.drop n).getD j 0 = r.getD (n + j) 0 := fun j => by
      rw [List.getD_eq_getElem?_getD, List.getD_eq_getElem?_getD, List.getElem?_drop]
    rw [lastP_get hkd, lastP_get hk, g]
    show some (lastAt (r.drop n) k (r.getD (n + k) 0)) = some (max (-1) (lastAt r (n + k) (r.getD (n + k) 0) - (n : Int)))
    congr 1
    rcases lastAt_spec r (r.getD (n + k) 0) (n + k) with ⟨e, m⟩ | ⟨v, e, h1, h2, m⟩
    · rw [e]
      refine lastAt_uniq (.inl (by omega)) fun j hj hx => ?_
      rw [g] at hx
      exact absurd hx (m (n + j) (by omega))
    · rw [e]
      by_cases q : n ≤ v
      · refine lastAt_uniq (.inr ⟨v - n, by omega, by omega, by rw [g, show n + (v - n) = v from by omega]; exact h2⟩) fun j hj hx => ?_
        rw [g] at hx
        by_cases p : n + j ≤ v
        · omega
        · exact absurd hx (m (n + j) (by omega) (by omega))
      · refine lastAt_uniq (.inl (by omega)) fun j hj hx => ?_
        rw [g] at hx
        exact absurd hx (m (n + j) (by omega) (by omega))
  · rw [List.getElem?_eq_none (by rw [lastP_len, List.length_drop]; omega), List.getElem?_eq_none (by rw [lastP_len]; omega)]
    rfl
end Ur
namespace Ur
open PySem L2
theorem pop_at {fs : List Int} {i : Int} (h0 : 0 ≤ i) (h1 : i < fs.length) : seqIndex? i (fs.map V.int).length = some i.toNat := by
  rw [List.length_map]
  simp [seqIndex?, show ¬ i < 0 from by omega, h0, h1]
theorem pop_get {fs : List Int} {k : Nat} (h : k < fs.length) : (fs.map V.int)[k]? = some (V.int (fs.getD k 0)) := iv_get' (get_of h)
theorem erase_map (fs : List Int) (k : Nat) : (fs.map V.int).eraseIdx k = (fs.eraseIdx k).map V.int := by
  induction fs generalizing k with
  | nil => rfl
  | cons x fs ih => cases k with
    | zero => rfl
    | succ k => show V.int x :: (fs.map V.int).eraseIdx k = _; rw [ih]; rfl
theorem mem_erase {fs : List Int} {k : Nat} {f : Int} (h : f ∈ fs.eraseIdx k) : f ∈ fs := (List.eraseIdx_sublist fs k).mem h
theorem erase_nodup : ∀ {fs : List Int} {k : Nat}, k < fs.length → fs.Nodup → (fs.eraseIdx k).Nodup ∧ fs.getD k 0 ∉ fs.eraseIdx k
  | x :: fs, 0, _, d => by
    have h := List.nodup_cons.mp d
    exact ⟨h.2, h.1⟩
  | x :: fs, k + 1, h, d => by
    obtain ⟨d1, d2⟩ := List.nodup_cons.mp d
    have hk : k < fs.length := Nat.lt_of_succ_lt_succ h
    obtain ⟨e1, e2⟩ := erase_nodup hk d2
    refine ⟨List.nodup_cons.mpr ⟨fun m => d1 (mem_erase m), e1⟩, fun m => ?_⟩
    have m2 : fs.getD k 0 ∈ x :: fs.eraseIdx k := m
    rcases List.mem_cons.mp m2 with e | e
    · exact d1 (e ▸ List.mem_of_getElem? (get_of hk))
    · exact e2 e
end Ur
namespace Ur
open PySem L2
theorem next_of_last {r : List Int} {i : Nat} (hi : i < r.length) (h : 0 ≤ lp r i) : nx r (lp r i).toNat = i := by
  rcases lastAt_spec r (r.getD i 0) i with ⟨e, _⟩ | ⟨l, e, h1, h2, h3⟩
  · have : lp r i = -1 := e
    omega
  · have e' : lp r i = l := e
    rw [e', Int.toNat_natCast]
    rcases nextUp_spec r l r.length (Nat.le_refl _) with ⟨_, n⟩ | ⟨v, k, k1, k2, k3, k4⟩
    · exact absurd h2.symm (n i h1 hi)
    · have k' : nx r l = v := k
      rw [k']
      rcases Nat.lt_trichotomy v i with q | q | q
      · exact absurd (k3.trans h2) (h3 v k1 q)
      · rw [q]
      · exact absurd h2.symm (k4 i h1 q)
theorem count_map (g : Nat → Int) (t : Int → Bool) : ∀ n : Nat, ((((List.range n).map g).filter t).length : Int) = sumTo (fun k => if t (g k) = true then 1 else 0) n
  | 0 => rfl
  | n + 1 => by
    rw [List.range_succ, List.map_append, List.filter_append, List.length_append, Int.natCast_add, count_map g t n]
    show _ + _ = _ + (if t (g n) = true then 1 else 0)
    cases h : t (g n) with
    | true => rw [List.map_cons, List.filter_cons_of_pos h]; rfl
    | false => rw [List.map_cons, List.filter_cons_of_neg (by rw [h]; exact Bool.false_ne_true)]; rfl
theorem nx_le {r : List Int} {p : Nat} : nx r p ≤ r.length := by
  rcases nextUp_spec r p r.length (Nat.le_refl _) with ⟨e, _⟩ | ⟨v, e, h1, h2, _⟩
  · exact Int.le_of_eq e
  · have : nx r p = v := e
    omega
theorem count_ends (r : List Int) : ((nextP r).filter (fun x => decide (x = (r.length : Int)))).length = ulen r := by
  have h := wunN_nexts (ns := r) (b := r.length) (Nat.le_refl _) r.length 0 (Nat.zero_add _)
  rw [wunN_all] at h
  have c := count_map (fun k => nextUp r k r.length) (fun x => decide (x = (r.length : Int))) r.length
  have e : sumTo (fun k => if decide (nextUp r k r.length = (r.length : Int)) = true then (1 : Int) else 0) r.length = sumTo (fun j => if (r.length : Int) ≤ nextUp r (0 + j) r.length then (1 : Int) else 0) r.length := sumTo_congr fun k _ => by
    have := nx_le (r := r) (p := k)
    have this : nextUp r k r.length ≤ (r.length : Int) := this
    rw [Nat.zero_add]
    by_cases q : (r.length : Int) ≤ nextUp r k r.length
    · rw [if_pos q, if_pos (decide_eq_true (by omega))]
    · rw [if_neg q, if_neg (by rw [decide_eq_false (by omega)]; exact Bool.false_ne_true)]
  have c2 : (((nextP r).filter (fun x => decide (x = (r.length : Int)))).length : Int) = (ulen r : Int) := c.trans (e.trans h.symm)
  omega
theorem count_news (r : List Int) : ((lastP r).filter (fun x => decide (x = -1))).length = ulen r := by
  have h := wunN_lasts (ns := r) (f := 0) r.length (Nat.zero_le _) (Nat.le_refl _)
  rw [wunN_all] at h
  have c := count_map (fun k => lastAt r k (r.getD k 0)) (fun x => decide (x = -1)) r.length
  have e : sumTo (fun k => if decide (lastAt r k (r.getD k 0) = -1) = true then (1 : Int) else 0) r.length = sumTo (fun p => if 0 ≤ p ∧ lastAt r p (r.getD p 0) < ((0 : Nat) : Int) then (1 : Int) else 0) r.length := sumTo_congr fun k _ => by
    have := lastAt_range r (r.getD k 0) k
    by_cases q : lastAt r k (r.getD k 0) < ((0 : Nat) : Int)
    · have hd : decide (lastAt r k (r.getD k 0) = -1) = true := decide_eq_true (by omega)
      rw [if_pos hd, if_pos ⟨Nat.zero_le _, q⟩]
    · have hd : ¬ decide (lastAt r k (r.getD k 0) = -1) = true := fun z => by
        have := of_decide_eq_true z
        omega
      rw [if_neg hd, if_neg (fun z => q z.2)]
  have c2 : (((lastP r).filter (fun x => decide (x = -1))).length : Int) = (ulen r : Int) := c.trans (e.trans h.symm)
  omega
theorem idx_take {r : List Int} {x : Int} {n : Nat} (h : x ∈ r.take n) : (r.take n).idxOf x = r.idxOf x := by
  have hm := List.mem_of_mem_take h
  have hlt : r.idxOf x < n := by
    obtain ⟨j, hj⟩ := List.mem_iff_getElem?.mp h
    rw [List.getElem?_take] at hj
    by_cases q : j < n
    · rw [if_pos q] at hj
      by_cases p : r.idxOf x ≤ j
      · omega
      · exact absurd (List.mem_iff_getElem?.mpr ⟨j, by rw [List.getElem?_take, if_pos (by omega)]; exact hj⟩) (idx_not (ns := r) (x := x))
    · rw [if_neg q] at hj; cases hj
  refine idx_first (by rw [List.getElem?_take, if_pos hlt]; exact idx_get hm) ?_
  rw [List.take_take, Nat.min_eq_left (Nat.le_of_lt hlt)]
  exact idx_not
theorem plainP_take (r : List Int) (n : Nat) : plainP (r.take n) = (plainP r).take n := by
  unfold plainP
  rw [← List.map_take]
  refine List.map_congr_left fun x hx => ?_
  show ((plainAt (r.take n) x : Nat) : Int) = (plainAt r x : Nat)
  unfold plainAt
  have hlt : r.idxOf x ≤ n := by
    have := idx_lt hx
    rw [idx_take hx, List.length_take] at this
    omega
  rw [idx_take hx, List.take_take, Nat.min_eq_left hlt]
end Ur

namespace UrS
open PySem PySem.Spec PyProof.Rows L2
section
variable {prog : Program} {w : World} {A : Around} {E : Value → Shared → Prop} {s : Shared}
/-- xs[:0] = ys, both lists, at the library's level -/
theorem setFront {l sl b : Addr} {xs ys : Array Value} {n m : Nat} {vl vu vs : Value} {Q : Unit → Shared → Prop}
    (h1 : s.heap.get? l = some { cls := .type "list", data := .seq xs n }) (h2 : s.heap.get? b = some { cls := .type "list", data := .seq ys m }) (hne : b ≠ l)
    (h3 : s.heap.IsSliceOf sl vl vu vs) (pl : IsPart vl none) (pu : IsPart vu (some 0)) (ps : IsPart vs none) (hz : xs.size + ys.size ≤ 1000000)
    (q : Q () { s with heap := s.heap.update l (Obj.mapSeq fun zs => zs.extract 0 (0 : Int).toNat ++ ys ++ zs.extract (max (0 : Int) 0).toNat zs.size) }) :
    wpAny (model prog w) A (setItem (.ref l) (.ref sl) (.ref b)) Q E s := by
  have t1 : s.TypeIs (.ref l) "list" := ⟨_, h1, rfl⟩
  have t2 : s.TypeIs (.ref b) "list" := ⟨_, h2, rfl⟩
  obtain ⟨os, g1, g2, g3⟩ := id h3
  have t3 : s.TypeIs (.ref sl) "slice" := ⟨os, g1, g2⟩
  unfold setItem
  try with_reducible refine wpAny_holding ?_
  first | refine wpAny_bind (wpAny_pure ?_) | skip
  refine wpAny_bind (wpAny_sequenceKey t1 (by decide) ?_)
  refine wpAny_bind (wpAny_callSpecial?_slot (name := Str.ofString "__setitem__") t1 PySem.F.slot_list_setitem
    (wpAny_call_entry PySem.F.slot_list_setitem t1 PySem.F.entry_list_setitem ?_ (PySem.args_list_setitem _ _ _)))
  show wpAny _ _ (Builtin.List.listSubscript? (.ref sl) >>= _) _ _ s
  unfold Builtin.List.listSubscript?
  refine wpAny_bind (wpAny_bind (wpAny_specialOf t3 slice_no_index ?_))
  simp only [Option.isNone_none, if_true]
  refine wpAny_pure ?_
  show wpAny _ _ (typeOf (.ref sl) >>= fun _ => _) _ _ s
  refine wpAny_bind (wpAny_typeOf t3 ?_)
  rw [if_neg (by decide)]
  rw [listSliceParts_eq]
  have hst : ¬ ((rawPart none == rawInt 0) = true) := Bool.false_ne_true
  refine wpAny_bind (wpAny_bind (wpAny_field g1 g3 (x := vs) rfl (wpAny_bind (wpAny_listPart ps ?_))))
  rw [if_neg hst]
  refine wpAny_bind (wpAny_field g1 g3 (x := vl) rfl (wpAny_bind (wpAny_listPart pl ?_)))
  refine wpAny_bind (wpAny_field g1 g3 (x := vu) rfl (wpAny_bind (wpAny_listPart pu (wpAny_pure ?_))))
  have hs : ¬ (Builtin.List.listSameRef (.ref l) (.ref b) = true) := fun k => hne (eq_of_beq k).symm
  rw [if_neg hs]
  refine wpAny_bind ?_
  unfold Builtin.List.listAllItems
  refine wpAny_bind (wpAny_typeOf t2 ?_)
  rw [if_pos (by decide)]
  unfold Builtin.List.listItems
  first
  | refine wpAny_bind (wpAny_bind (wpAny_seqItems h2 rfl (wpAny_pure (wpAny_pure ?_))))
  | refine wpAny_bind (wpAny_seqItems h2 rfl (wpAny_pure ?_))
  first
  | refine wpAny_bind (wpAny_bind (wpAny_seqItems h1 rfl (wpAny_pure ?_)))
  | refine wpAny_bind (wpAny_seqItems h1 rfl (wpAny_pure ?_))
  have hb : sliceBounds none (some 0) none xs.size = (0, 0, 1) := by simp [sliceBounds]; omega
  refine wpAny_bind (wpAny_of_eq (sliceIndices_raw none (some 0) none xs.size (by decide)) ?_)
  rw [hb]
  rw [if_pos (by decide)]
  refine wpAny_bind (wpAny_rule ?_)
  have hlong : ¬ (Builtin.List.listTooLong (xs.size + ys.size) = true) := by
    unfold Builtin.List.listTooLong
    rw [sizeLine_eq]
    simp
    omega
  rw [if_neg hlong]
  refine wpAny_bind ?_
  unfold Builtin.List.listUpdate
  refine wpAny_updateSeq h1 rfl ?_ (by rw [sizeLine_eq]; omega) (by rw [sizeLine_eq]; simp; omega)
  refine wpAny_bind ?_
  have he : (xs.extract ((0 : Int), (0 : Int), (1 : Int)).fst.toNat (max ((0 : Int), (0 : Int), (1 : Int)).fst ((0 : Int), (0 : Int), (1 : Int)).2.fst).toNat).toList.reverse = [] := by simp
  rw [he]
  exact wpAny_pure (wpAny_pure ⟨.none, rfl, wpAny_pure q⟩)
end
section
variable {X : Cx}
def gFront (to : TE) : TG := fun v σ H Q => to σ H fun x H1 => ∃ (l b : Addr) (xs ys : List V), x = .ref l ∧ v = .ref b ∧ H1 l = some (.lst xs) ∧ H1 b = some (.lst ys) ∧ b ≠ l ∧ xs.length + ys.length ≤ 1000000 ∧ Q σ (upd H1 l (.lst (ys ++ xs)))
theorem pg_front {o : Expr} {to : TE} {k : Nat} {p1 p3 pos : Pos} (ho : PE X o to)
    (ha : ∀ v, assign (.Subscript o (.Slice none (some (.Constant (.int 0) k p1)) none p3) pos) X.env v = (do
      let ov ← holding [v] (eval o X.env)
      let iv ← holding [v, ov] (eval (.Slice none (some (.Constant (.int 0) k p1)) none p3) X.env)
      standAt pos
      holding [v, ov, iv] (setItem ov iv v)
      release [iv, v, ov] []) := by intro _; rfl) : PG X (.Subscript o (.Slice none (some (.Constant (.int 0) k p1)) none p3) pos) (gFront to) := by
  refine ⟨fun pins s σ H v u Q I r h => ?_⟩
  rw [ha]
  refine wpAny_bind (wpAny_holding (thn (ho.run pins s σ H _ I h) fun ov s1 ⟨x, H1, I1, r1, q1⟩ => ?_))
  refine wpAny_bind (wpAny_holding ?_)
  have hst : PO X (some (.Constant (.int 0) k p1)) (tPart (tC (.int 0))) := po_some pe_int
  refine wpAny_Slice (thn (po_none.run pins s1 σ H1 (fun o H2 => o = none ∧ H2 = H1) I1 ⟨rfl, rfl⟩) fun vl s2 ⟨l0, H2, I2, pl, el, e2⟩ => ?_)
  subst el e2
  refine thn (hst.run pins s2 σ H2 (fun o H3 => o = some 0 ∧ H3 = H2) I2 ⟨0, rfl, rfl, rfl⟩) fun vu s3 ⟨u0, H3, I3, pu, eu, e3⟩ => ?_
  subst eu e3
  refine thn (po_none.run pins s3 σ H3 (fun o H4 => o = none ∧ H4 = H3) I3 ⟨rfl, rfl⟩) fun vs s4 ⟨st, H4, I4, ps, eo, e4⟩ => ?_
  subst eo e4
  obtain ⟨l, b, xs, ys, rfl, rfl, hl, hb, hne, hz, q⟩ := q1
  cases r1
  cases r
  have I5 : Inv X pins σ H4 { s4 with heap := s4.heap.push { cls := .type "slice", data := .fields #[vl, vu, vs] } } := I4.kept (t' := s4.toks) fun c ob z => Heap.get?_push_of_some _ z
  obtain ⟨its, n, rv, ho5, hz5⟩ := I5.lst hl
  obtain ⟨its2, n2, rv2, hb5, _⟩ := I5.lst hb
  have e1 := rv.length
  have e2 := rv2.length
  refine wpAny_bind (wpAny_standAt (wpAny_bind (wpAny_holding ?_)))
  refine setFront ho5 hb5 hne (Heap.IsSliceOf.new _ vl vu vs) pl pu ps (by rw [List.size_toArray, List.size_toArray]; omega) ?_
  refine wpAny_release ⟨σ, _, ?_, q⟩
  refine I5.lstUpd (its' := its2 ++ its) (n' := if ((its2 ++ its).toArray.size == its.toArray.size) = true then n else n + 1) hl ho5 ?_ (rv2.append rv) (by rw [List.length_append]; exact Ur.sz (by omega)) _
  have a1 : its.toArray.extract 0 (Int.toNat 0) = #[] := by simp
  have a2 : its.toArray.extract (max (0 : Int) 0).toNat its.toArray.size = its.toArray := by
    show its.toArray.extract 0 its.toArray.size = its.toArray
    simp
  have a3 : #[] ++ its2.toArray ++ its.toArray = (its2 ++ its).toArray := by simp
  have a4 : its.toArray.extract 0 (Int.toNat 0) ++ its2.toArray ++ its.toArray.extract (max (0 : Int) 0).toNat its.toArray.size = (its2 ++ its).toArray := by rw [a1, a2, a3]
  exact congrArg (fun z : Array Value => ({ cls := .type "list", data := .seq z (if (z.size == its.toArray.size) = true then n else n + 1) } : Obj)) a4
end
end UrS

namespace Ur
open PySem L2
/-! ### first places of a window -/
def firP (ns : List Int) (f b : Int) : List Int := ((List.range (b - f).toNat).filter fun k => decide (lp ns (f.toNat + k) < f)).map fun k => f + (k : Nat)
theorem firP_len {ns : List Int} {f b : Int} (h0 : 0 ≤ f) (h1 : f ≤ b) (h2 : b ≤ ns.length) : (firP ns f b).length = wun ns f b := by
  have e := ulen_win (ns := ns) (f := f.toNat) (b.toNat - f.toNat) (by omega)
  unfold firP
  rw [List.length_map]
  show _ = ulen ((ns.drop f.toNat).take (b.toNat - f.toNat))
  rw [e, show (b - f).toNat = b.toNat - f.toNat from by omega, Int.toNat_of_nonneg h0]
  have e2 : ((lastP ns).drop f.toNat).take (b.toNat - f.toNat) = (List.range (b.toNat - f.toNat)).map fun k => lp ns (f.toNat + k) := by
    refine List.ext_getElem? fun k => ?_
    rw [List.getElem?_take]
    by_cases hk : k < b.toNat - f.toNat
    · rw [if_pos hk, List.getElem?_drop, lastP_get (by omega), List.getElem?_map, List.getElem?_range hk]
      rfl
    · rw [if_neg hk, List.getElem?_eq_none (by rw [List.length_map, List.length_range]; omega)]
  rw [e2, List.filter_map, List.length_map]
  rfl
theorem fir_not {ns : List Int} {f k : Nat} (h : f + k < ns.length) : (!decide (ns.getD (f + k) 0 ∈ (ns.drop f).take k)) = decide (lp ns (f + k) < (f : Int)) := by
  have q := last_in h
  by_cases hl : lp ns (f + k) < (f : Int)
  · have hm : ¬ ns.getD (f + k) 0 ∈ (ns.drop f).take k := fun z => q.mp z hl
    rw [decide_eq_true hl, decide_eq_false hm]; rfl
  · have hm : ns.getD (f + k) 0 ∈ (ns.drop f).take k := q.mpr hl
    rw [decide_eq_false hl, decide_eq_true hm]; rfl
/-! ### frames but at some places -/
def ButL (L : Addr → Prop) (H H' : Hp) : Prop := ∀ b o, ¬ L b → H b = some o → H' b = some o
theorem ButL.refl {L : Addr → Prop} {H : Hp} : ButL L H H := fun _ _ _ e => e
theorem ButL.trans {L : Addr → Prop} {H H1 H2 : Hp} (s : ButL L H H1) (t : ButL L H1 H2) : ButL L H H2 := fun b o n e => t b o n (s b o n e)
theorem ButL.same {L : Addr → Prop} {H H' : Hp} (s : Same H H') : ButL L H H' := fun b o _ e => s b o e
theorem ButL.but {L : Addr → Prop} {H H' : Hp} {a : Addr} (s : But a H H') (l : L a) : ButL L H H' := fun b o n e => s b o (fun k => n (k ▸ l)) e
structure PairL (L : Addr → Prop) (H : Hp) (p : Addr) : Prop where
  both : ¬ L p ∧ ∃ (a b : Addr) (ns : List Int), ¬ L a ∧ ¬ L b ∧ H p = some (.lst [.ref a, .ref b]) ∧ H a = some (.lst (ns.map V.int)) ∧ H b = some (.lst (ns.map V.int))
structure HeldL (L : Addr → Prop) (h : Addr) (H : Hp) (n : Nat) : Prop where
  all : ∃ ps : List Addr, H h = some (.lst (ps.map V.ref)) ∧ ps.length ≤ n ∧ ∀ p ∈ ps, PairL L H p
theorem PairL.step {L : Addr → Prop} {p : Addr} {H H' : Hp} (k : PairL L H p) (b : ButL L H H') : PairL L H' p := by
  obtain ⟨n, x, y, ns, hx, hy, e, e1, e2⟩ := k.both
  exact ⟨n, x, y, ns, hx, hy, b _ _ n e, b _ _ hx e1, b _ _ hy e2⟩
theorem HeldL.step {L : Addr → Prop} {h : Addr} {H H' : Hp} {n : Nat} (k : HeldL L h H n) (b : ButL L H H') (hh : ∀ xs, H h = some (.lst xs) → H' h = some (.lst xs)) : HeldL L h H' n := by
  obtain ⟨ps, e, l, f⟩ := k.all
  exact ⟨ps, hh _ e, l, fun p hp => (f p hp).step b⟩
theorem HeldL.mono {L : Addr → Prop} {h : Addr} {H : Hp} {n m : Nat} (k : HeldL L h H n) (l : n ≤ m) : HeldL L h H m := by
  obtain ⟨ps, e, q, f⟩ := k.all
  exact ⟨ps, e, Nat.le_trans q l, f⟩
theorem HeldL.sub {L L' : Addr → Prop} {h : Addr} {H : Hp} {n : Nat} (k : HeldL L h H n) (l : ∀ b, L' b → L b) : HeldL L' h H n := by
  obtain ⟨ps, e, q, f⟩ := k.all
  refine ⟨ps, e, q, fun p hp => ?_⟩
  obtain ⟨n, x, y, ns, hx, hy, g⟩ := (f p hp).both
  exact ⟨fun z => n (l _ z), x, y, ns, fun z => hx (l _ z), fun z => hy (l _ z), g⟩
/-- .. of a place that is new, too -/
theorem HeldL.more {L : Addr → Prop} {h a : Addr} {H : Hp} {n : Nat} (k : HeldL L h H n) (ha : H a = none) : HeldL (fun x => L x ∨ x = a) h H n := by
  obtain ⟨ps, e, q, f⟩ := k.all
  refine ⟨ps, e, q, fun p hp => ?_⟩
  obtain ⟨n, x, y, ns, hx, hy, g1, g2, g3⟩ := (f p hp).both
  have ne : ∀ z (o : HO), H z = some o → z ≠ a := fun z o e1 e2 => by rw [e2, ha] at e1; cases e1
  exact ⟨fun z => z.elim n (ne _ _ g1), x, y, ns, fun z => z.elim hx (ne _ _ g2), fun z => z.elim hy (ne _ _ g3), g1, g2, g3⟩
end Ur
namespace Ur
open PySem L2
theorem Rdy.butL {C : Addr} {L L' : Addr → Prop} {H H' : Hp} {o : Addr} {ns : List Int} (r : Rdy C L H o ns) (l : ∀ b, L' b → L b) (s : ButL L' H H') : Rdy C L H' o ns := by
  obtain ⟨dx, la, na, e1, e2, e3, f⟩ := r.all
  exact ⟨dx, la, na, s _ _ (fun z => (f o (l _ z)).1 rfl) e1, s _ _ (fun z => (f la (l _ z)).2.1 rfl) e2, s _ _ (fun z => (f na (l _ z)).2.2 rfl) e3, f⟩
theorem HeldL.grow {L : Addr → Prop} {h p : Addr} {H H' : Hp} {n : Nat} {ps : List Addr} (l : ps.length ≤ n) (f : ∀ p ∈ ps, PairL L H p) (b : ButL L H H') (e : H' h = some (.lst ((ps ++ [p]).map V.ref))) (k : PairL L H' p) : HeldL L h H' (n + 1) :=
  ⟨ps ++ [p], e, by rw [List.length_append]; exact Nat.succ_le_succ l, fun q hq => by
    rcases List.mem_append.mp hq with z | z
    · exact (f q z).step b
    · rw [List.mem_singleton.mp z]; exact k⟩
theorem ButL.at_ {L : Addr → Prop} {H H' : Hp} {a : Addr} {o : HO} (s : ButL L H H') (l : L a) : ButL L H (upd H' a o) := fun b u n e => by
  have ne : b ≠ a := fun k => n (by rw [k]; exact l)
  rw [upd_ne ne]; exact s b u n e
theorem ButL.new {L : Addr → Prop} {H H' : Hp} {a : Addr} {o : HO} (s : ButL L H H') (na : H' a = none) : ButL L H (upd H' a o) := fun b u n e => by
  have e' := s b u n e
  rw [upd_ne (ne_of_none e' na)]; exact e'
end Ur
namespace Ur
open PySem L2
theorem PairL.more {L : Addr → Prop} {H : Hp} {p a : Addr} (k : PairL L H p) (ha : H a = none) : PairL (fun x => L x ∨ x = a) H p := by
  obtain ⟨n, x, y, ns, hx, hy, g1, g2, g3⟩ := k.both
  have ne : ∀ z (o : HO), H z = some o → z ≠ a := fun z o e1 e2 => by rw [e2, ha] at e1; cases e1
  exact ⟨fun z => z.elim n (ne _ _ g1), x, y, ns, fun z => z.elim hx (ne _ _ g2), fun z => z.elim hy (ne _ _ g3), g1, g2, g3⟩
theorem ButL.out {L : Addr → Prop} {H H' : Hp} {a : Addr} (s : ButL (fun x => L x ∨ x = a) H H') (ha : H a = none) : ButL L H H' := fun b o n e =>
  s b o (fun z => z.elim n (fun k => by rw [k, ha] at e; cases e)) e
theorem wun_le {ns : List Int} {f b : Int} : wun ns f b ≤ ns.length := by
  refine Nat.le_trans (ulen_le _) ?_
  unfold win
  rw [List.length_take, List.length_drop]
  omega
end Ur

namespace Ur
open PySem L2
/-! ### xs[l:u:c], c above 0 -/
def tStep3 (K : PySem.W.Frag) (te tl tu tc : TE) : TE := fun σ H Q => te σ H fun x H1 => tPart tl σ H1 fun l H2 => tPart tu σ H2 fun u H3 => tPart tc σ H3 fun c H4 =>
  ∃ a xs c', x = .ref a ∧ c = some c' ∧ 0 < c' ∧ SqL K H4 a xs ∧ ∀ p ys, (∀ y ∈ ys, y ∈ xs) → ys.length ≤ xs.length → H4 p = none → Q (.ref p) (upd H4 p (.lst ys))
open PySem.Spec PyProof.Rows in
theorem pe_step3 {X : Cx} {e el eu ec : Expr} {te tl tu tc : TE} {p3 pos : Pos} (he : PE X e te) (hl : PE X el tl) (hu : PE X eu tu) (hc : PE X ec tc) : PE X (.Subscript e (.Slice (some el) (some eu) (some ec) p3) pos) (tStep3 X.K te tl tu tc) := by
  refine ⟨fun pins s σ H Q I h => ?_⟩
  refine Subscript_ (thn (he.run pins s σ H _ I h) fun v s1 ⟨x, H1, I1, r1, q1⟩ => ?_)
  refine wpAny_Slice (thn ((po_some hl).run pins s1 σ H1 _ I1 q1) fun vl s2 ⟨l, H2, I2, pl, q2⟩ => ?_)
  refine thn ((po_some hu).run pins s2 σ H2 _ I2 q2) fun vu s3 ⟨u, H3, I3, pu, q3⟩ => ?_
  refine thn ((po_some hc).run pins s3 σ H3 _ I3 q3) fun vs s4 ⟨c, H4, I4, ps, q4⟩ => ?_
  obtain ⟨a, xs, c', rfl, rfl, hpos, hx, q⟩ := q4
  cases r1
  have I5 : Inv X pins σ H4 { s4 with heap := s4.heap.push { cls := .type "slice", data := .fields #[vl, vu, vs] } } := I4.kept (t' := s4.toks) fun b ob z => Heap.get?_push_of_some _ z
  obtain ⟨its, r, ht, hz⟩ := I5.list hx
  have hlen := r.length
  show wpAny (model X.prog X.w) X.A (subscriptTail e (.Slice (some el) (some eu) (some ec) p3) (.ref a) (.ref s4.heap.objs.size)) (EP X pins σ Q) X.xe { s4 with heap := s4.heap.push { cls := .type "slice", data := .fields #[vl, vu, vs] } }
  refine tail_any (ops := [.ref a, .ref s4.heap.objs.size]) ht.isList.typeIs (PySem.slot_list_getitem.lookup) ?_ (by with_unfolding_all rfl)
  refine wpAny_getItem_list_slice ht.isList (Heap.IsSliceOf.new _ vl vu vs) pl pu ps (fun k => by cases k; omega) ?_ (by rw [List.size_toArray]; omega)
  have hid : ∀ n : Nat, (sliceRange (sliceBounds l u (some c') n).1 (sliceBounds l u (some c') n).2.1 (sliceBounds l u (some c') n).2.2).length ≤ n := fun n => by
    have e1 : (sliceBounds l u (some c') n).2.2 = c' := rfl
    refine sliceRange_length_le _ _ _ n (fun _ => ⟨?_, ?_⟩) (fun k => absurd (by rw [e1]; exact hpos) k)
    · unfold sliceBounds
      cases l with
      | none => simp [hpos]
      | some i => simp [hpos]; omega
    · unfold sliceBounds
      cases u with
      | none => simp [hpos]
      | some i => simp [hpos]; omega
  have hid2 := hid its.toArray.size
  unfold slicePick
  generalize hI : sliceRange (sliceBounds l u (some c') its.toArray.size).1 (sliceBounds l u (some c') its.toArray.size).2.1 (sliceBounds l u (some c') its.toArray.size).2.2 = ids at hid2
  have hv := vals_pick r ids
  have hly : (ids.filterMap fun i => xs[i]?).length ≤ xs.length := by
    refine Nat.le_trans (List.length_filterMap_le _ _) ?_
    rw [List.size_toArray] at hid2
    omega
  refine ⟨.ref _, _, I5.laid (t' := s4.toks) (o := .lst (ids.filterMap fun i => xs[i]?)) (fun b ob z => Heap.get?_push_of_some _ z) (Nat.le_refl _) ?_, rfl, q _ _ (fun y hy => ?_) hly (I5.hok.fresh (Nat.le_refl _))⟩
  · exact ⟨by omega, _, 0, hv, Heap.get?_push_size _ rfl⟩
  · obtain ⟨i, _, e⟩ := List.mem_filterMap.mp hy
    exact List.mem_of_getElem? e
end Ur

/-! list(reversed(l)), l a list: a new list -/
namespace UrV
open PySem PySem.W PySem.Calls PyProof.Rows RT
section
variable {prog : Program} {w : World} {A : Around} {E : Value → Shared → Prop} {s : Shared}
theorem rv_extend {R : Result → Shared → Prop} {it l S : Addr} {items : Array Value} (hh : A.handled = none) (hit : s.heap.IsRevIter it l ((items.size : Int) - 1)) (hl : s.heap.IsList l items) (hne : l ≠ it) (hn : items.size ≤ sizeLine) (hSi : S ≠ it) (hSl : S ≠ l) (res : Value) (c₀ : Nat)
    (hS : s.heap.get? S = some { cls := .type "list", data := .seq #[] c₀ })
    (hR : ∀ h' tk acc c, (∀ b o, b ≠ S → b ≠ it → s.heap.get? b = some o → h'.get? b = some o) → h'.get? S = some { cls := .type "list", dict := none, data := .seq acc c, slots := #[] } → ItemsOf (fun i v => items[items.size - 1 - i]? = some v) acc items.size → R (.ok (.ret res)) { s with heap := h', toks := tk }) :
    wpAny (model prog w) A.in1 (Builtin.List.listExtendWith (.ref S) (.ref it) res)
      (fun fin s' => match fin with | .done f => R (.ok f) s' | .again c' => c'.quiet = true ∧ codeAny (model prog w) A c' R s') (fun e s' => R (.error e) s') s := by
  have W := (Walks.listRev (prog := prog) (w := w) (A := A.in1) hh it l hne items).toS
  have hSf : S ∉ [it, l] := by simp only [List.mem_cons, List.not_mem_nil, or_false, not_or]; exact ⟨hSi, hSl⟩
  have hT : s.TypeIs (.ref it) "list_reverseiterator" := Heap.IsRevIter.typeIs hit
  have h1 : Builtin.List.listSameRef (.ref S) (.ref it) = false := by simp [Builtin.List.listSameRef, hSi]
  unfold Builtin.List.listExtendWith
  refine wpAny_bind (wpAny_typeOf hT ?_)
  rw [if_neg (by rw [h1]; decide)]
  refine wpAny_bind (wpAny_pyIter_revIter hit ?_)
  refine wpAny_bind (wpAny_holding ?_)
  unfold Builtin.List.listLengthHint
  refine wpAny_bind (wpAny_specialOf hT nolen_lri ?_)
  show wpAny _ A.in1 (specialOf (Value.ref it) (Str.ofString "__length_hint__") >>= _) _ _ _
  refine wpAny_bind (wpAny_specialOf hT hint_lri ?_)
  generalize hid : ("list_reverseiterator.__length_hint__" : String) = id0
  wp_delta
  rw [show splitId id0 = some ("list_reverseiterator", "__length_hint__") from by subst hid; decide +kernel]
  subst hid
  refine wpAny_bind (wpAny_isInstance (b := true) hT (by rw [isSubtype_type]; kernel_rfl) ?_)
  refine wpAny_pure ?_
  rw [if_neg (by decide)]
  have e0 : ((items.size : Nat) : Int) - 1 - ((0 : Nat) : Int) = (items.size : Int) - 1 := by omega
  refine wpAny_pure ⟨plainId_quiet PySem.F.plain_extend_loop _, codeAny_extend_loopS W hn _ hSf _ items.size 0 _ _ _ rfl (Nat.zero_le _) ⟨Nat.zero_le _, by rw [e0]; exact hit, hl⟩ hS (ItemsOf.nil _) fun s' acc' c' hm hS' hacc => ?_⟩
  rw [Moved.eq_with hm]
  refine hR s'.heap s'.toks acc' c' (fun b o hb1 hb2 e => hm.heap b o (fun hmem => ?_) e) hS' hacc
  rcases List.mem_cons.mp hmem with e' | hmem
  · exact hb1 e'
  · exact hb2 (List.mem_singleton.mp hmem)
theorem call_list_rev {it l : Addr} {items : Array Value} {Q : Value → Shared → Prop} (hh : A.handled = none) (hit : s.heap.IsRevIter it l ((items.size : Int) - 1)) (hl : s.heap.IsList l items) (hne : l ≠ it) (hn : items.size ≤ sizeLine)
    (hQ : ∀ (h' : Heap) (tk c : Nat) (acc : Array Value), (∀ b o, b ≠ it → s.heap.get? b = some o → h'.get? b = some o) → ItemsOf (fun i v => items[items.size - 1 - i]? = some v) acc items.size →
      h'.get? s.heap.objs.size = some { cls := .type "list", dict := none, data := .seq acc c, slots := #[] } → Q (.ref s.heap.objs.size) { s with heap := h', toks := tk }) :
    wpAny (model prog w) A (call (.type "list") [.ref it]) Q E s := by
  refine callType_codes (Q₁ := fun obj s₁ => obj = .ref s.heap.objs.size ∧ s₁ = { s with heap := s.heap.push { cls := .type "list", data := .seq #[] } }) PySem.F.called_list (PySem.F.typeCall_list_1 _) PySem.F.entry_list_init
    (code_list_new _ ⟨rfl, rfl⟩) fun obj s₁ h₁ => ?_
  obtain ⟨rfl, rfl⟩ := h₁
  have hS : (s.heap.push { cls := .type "list", data := .seq #[] }).get? s.heap.objs.size = some { cls := .type "list", data := .seq #[] } := Heap.get?_push_size _ rfl
  have hil : it < s.heap.objs.size := let ⟨_, z, _⟩ := hit; Heap.lt_size z
  have hll : l < s.heap.objs.size := let ⟨_, z, _⟩ := hl; Heap.lt_size z
  refine ⟨⟨_, hS, rfl⟩, PySem.F.args_list_init_2 _ _, ?_⟩
  show wpAny _ _ (do let old ← Builtin.List.listItems (.ref s.heap.objs.size); Builtin.List.listUpdate (.ref s.heap.objs.size) (fun _ => #[]); letGo old.toList.reverse; Builtin.List.listExtendWith (.ref s.heap.objs.size) (.ref it) .none) _ _ _
  refine wpAny_bind ?_
  unfold Builtin.List.listItems
  refine wpAny_bind (wpAny_seqItems hS rfl (wpAny_pure ?_))
  show wpAny _ _ (updateSeq s.heap.objs.size (fun _ => #[]) >>= fun _ => letGo (#[] : Array Value).toList.reverse >>= fun _ => Builtin.List.listExtendWith (.ref s.heap.objs.size) (.ref it) .none) _ _ _
  refine wpAny_bind (wpAny_updateSeq hS rfl ?_)
  have hS₂ := Heap.get?_update_self (Obj.mapSeq (fun _ => (#[] : Array Value))) hS rfl
  have oth : ∀ b o, s.heap.get? b = some o → ((s.heap.push { cls := .type "list", data := .seq #[] }).update s.heap.objs.size (Obj.mapSeq (fun _ => (#[] : Array Value)))).get? b = some o :=
    fun b o z => (Heap.get?_update_other _ _ (Nat.ne_of_gt (Heap.lt_size z))).trans (Heap.get?_push_of_some _ z)
  refine wpAny_bind (wpAny_letGo ?_)
  refine rv_extend (A := A.in1) hh (hit.at fun o z => oth it o z) (hl.at fun o z => oth l o z) hne hn (Nat.ne_of_gt hil) (Nat.ne_of_gt hll) .none _ hS₂ fun h' tk acc c hk hS' hacc => ?_
  exact ⟨rfl, hQ h' tk c acc (fun b o h1 z => hk b o (Nat.ne_of_lt (Heap.lt_size z)) h1 (oth b o z)) hacc hS'⟩
end
open PySem.Spec L2
def tListRev (K : PySem.W.Frag) (te : TE) : TE := fun σ H Q => te σ H fun v H1 => ∃ (a : Addr) (xs : List V), v = .ref a ∧ SqL K H1 a xs ∧ ∀ q, H1 q = none → Q (.ref q) (upd H1 q (.lst xs.reverse))
theorem pe_listRev {X : Cx} {K : PySem.W.Frag} {e : Expr} {te : TE} {p p2 pos pos2 : Pos} (hk : X.K = K) (hc : X.calm = true) (hm : X.mg "list" = none) (hm2 : X.mg "reversed" = none) (he : PE X e te) (hg : Gl X "list" := by rfl) (hg2 : Gl X "reversed" := by rfl)
    (hs : starEach [e] X.env = (false, eval e X.env) :: starEach [] X.env := by rfl)
    (hs2 : starEach [.Call (.Name "reversed" p2) [e] [] pos2] X.env = (false, eval (.Call (.Name "reversed" p2) [e] [] pos2) X.env) :: starEach [] X.env := by rfl) :
    PE X (.Call (.Name "list" p) [.Call (.Name "reversed" p2) [e] [] pos2] [] pos) (tListRev K te) := by
  subst hk
  refine ⟨fun pins s σ H Q I h => ?_⟩
  refine Call_ (ld_blt I hg hm boot_list (PyProof.Rows.callWith_type1 (args_cons (Call_ (ld_blt I hg2 hm2 PyProof.Rows.boot_reversed (PyProof.Rows.callWith_type1 (args_cons (thn (he.run pins s σ H _ I h) fun u s1 ⟨v, H1, I1, r1, q1⟩ => args_nil ?_) hs) hs rfl))) hs2) hs2 rfl))
  obtain ⟨a, xs, ev, hq, q⟩ := q1
  subst ev
  obtain rfl : u = Value.ref a := r1
  obtain ⟨its, rv, p', hz⟩ := I1.list hq
  refine call_reversed_list p'.isList (args_nil ?_)
  have hl := p'.isList
  obtain ⟨ol, hol, _⟩ := id hl
  have hne : a ≠ s1.heap.objs.size := Nat.ne_of_lt (Heap.lt_size hol)
  have hn : its.toArray.size ≤ sizeLine := by rw [List.size_toArray, ← rv.length]; exact hz
  refine call_list_rev (s := { s1 with heap := s1.heap.push (revObj a ((its.toArray.size : Int) - 1)) }) (I1.ok.hd hc) ⟨_, Heap.get?_push_size _ rfl, rfl, rfl⟩ (hl.push _) hne hn fun h' tk c acc hk hi hS => ?_
  have hsz : (s1.heap.push (revObj a ((its.toArray.size : Int) - 1))).objs.size = s1.heap.objs.size + 1 := Heap.size_push _ _
  have hsz1 : s1.heap.objs.size ≤ (s1.heap.push (revObj a ((its.toArray.size : Int) - 1))).objs.size := by omega
  refine ⟨.ref _, upd H1 _ (.lst xs.reverse), I1.laid (t' := tk) (fun b o e => hk b o (Nat.ne_of_lt (Heap.lt_size e)) (Heap.get?_push_of_some _ e)) hsz1 (show ObjOk X.prog X.w _ _ _ (.lst xs.reverse) from ⟨by rw [List.length_reverse]; exact hz, acc.toList, c, vals_rev rv hi, ?_⟩), rfl, q _ (I1.hok.fresh hsz1)⟩
  rw [Array.toArray_toList]
  exact hS
end UrV

namespace Ur
open PySem L2
/-! ### windows of one width -/
/-- how many unlike numbers all windows of a width have -/
def ofW (ns : List Int) (w : Nat) : List Int := (List.range (ns.length + 1 - w)).map fun f => (wunN ns f (f + w) : Int)
theorem ofW_len (ns : List Int) (w : Nat) : (ofW ns w).length = ns.length + 1 - w := by simp [ofW]
theorem ofW_get {ns : List Int} {w f : Nat} (h : f + w ≤ ns.length) : (ofW ns w)[f]? = some (wunN ns f (f + w) : Int) := by
  unfold ofW
  rw [List.getElem?_map, List.getElem?_range (by omega)]
  rfl
theorem ofW_getD {ns : List Int} {w f : Nat} (h : f + w ≤ ns.length) : (ofW ns w).getD f 0 = (wunN ns f (f + w) : Int) := getD_of (ofW_get h)
/-- a window one further on -/
theorem wunN_slide {ns : List Int} {f w : Nat} (h : f + w < ns.length) : (wunN ns (f + 1) (f + 1 + w) : Int) = (wunN ns f (f + w) : Int) - (if ((f + w : Nat) : Int) ≤ nx ns f then 1 else 0) + (if lp ns (f + w) ≤ (f : Int) then 1 else 0) := by
  rcases Nat.eq_zero_or_pos w with rfl | hw
  · have h1 := lp_range ns f
    have e1 : ((f + 0 : Nat) : Int) ≤ nx ns f := by
      unfold nx
      rcases nextUp_spec ns f ns.length (Nat.le_refl _) with ⟨e, _⟩ | ⟨v, e, h1, _⟩ <;> rw [e] <;> omega
    simp only [Nat.add_zero] at e1 ⊢
    rw [wunN_none, wunN_none, if_pos e1, if_pos (show lp ns f ≤ (f : Int) by omega)]
    rfl
  · have d := wunN_down (ns := ns) (p := f) (b := f + w) (by omega) (by omega)
    have u := wunN_up (ns := ns) (f := f + 1) (b := f + w) (by omega) h
    rw [show f + w + 1 = f + 1 + w from by omega] at u
    rw [u, d]
    have e : (lastAt ns (f + w) (ns.getD (f + w) 0) < ((f + 1 : Nat) : Int)) = (lp ns (f + w) ≤ (f : Int)) := by
      unfold lp
      exact propext ⟨fun h => by omega, fun h => by omega⟩
    show ((_ + (if lastAt ns (f + w) (ns.getD (f + w) 0) < ((f + 1 : Nat) : Int) then 1 else 0) : Nat) : Int) = _
    simp only [e]
    show _ = ((_ + (if ((f + w : Nat) : Int) ≤ nextUp ns f ns.length then 1 else 0) : Nat) : Int) - (if ((f + w : Nat) : Int) ≤ nextUp ns f ns.length then 1 else 0) + _
    (repeat' split) <;> omega
/-- the sums for each width -/
def sumsW (ns : List Int) : List Int := (List.range (ns.length + 1)).map fun w => (ofW ns w).sum
/-- a line of the law's table: the windows from f on -/
def lineW (ns : List Int) (f : Nat) : List Int := (List.range (ns.length - f + 1)).map fun k => (wunN ns f (f + k) : Int)
theorem lineW_len (ns : List Int) (f : Nat) : (lineW ns f).length = ns.length - f + 1 := by simp [lineW]
theorem lineW_get {ns : List Int} {f k : Nat} (h : k < ns.length - f + 1) : (lineW ns f)[k]? = some (wunN ns f (f + k) : Int) := by
  unfold lineW
  rw [List.getElem?_map, List.getElem?_range h]
  rfl
theorem lineW_getD {ns : List Int} {f k : Nat} (h : k < ns.length - f + 1) : (lineW ns f).getD k 0 = (wunN ns f (f + k) : Int) := getD_of (lineW_get h)
/-- what is due of a width, behind the lines ahead of f and k numbers of the line f -/
def dueW (ns : List Int) (f k w : Nat) : Int := sumTo (fun g => if g + w ≤ ns.length then (wunN ns g (g + w) : Int) else 0) f + if w < k then (wunN ns f (f + w) : Int) else 0
theorem dueW_up {ns : List Int} {f w : Nat} (hf : f ≤ ns.length) : dueW ns f (ns.length - f + 1) w = dueW ns (f + 1) 0 w := by
  unfold dueW
  show _ = sumTo _ f + (if f + w ≤ ns.length then (wunN ns f (f + w) : Int) else 0) + 0
  by_cases h : w < ns.length - f + 1
  · rw [if_pos h, if_pos (by omega)]; omega
  · rw [if_neg h, if_neg (by omega)]; omega
theorem dueW_end {ns : List Int} {w : Nat} (hw : w ≤ ns.length) : dueW ns (ns.length + 1) 0 w = (ofW ns w).sum := by
  unfold dueW ofW
  rw [sum_range, sumTo_cut _ (show ns.length + 1 - w ≤ ns.length + 1 by omega)]
  rw [show (if w < 0 then (wunN ns (ns.length + 1) (ns.length + 1 + w) : Int) else 0) = 0 from rfl, Int.add_zero]
  exact sumTo_congr fun g hg => by
    by_cases h : g + w ≤ ns.length
    · rw [if_pos h, if_pos (by omega)]
    · rw [if_neg h, if_neg (by omega)]
/-! ### told things that are held, each a tuple of two lists of the same ints -/
structure PairT (h : Addr) (H : Hp) (p : Addr) : Prop where
  both : ∃ (a b : Addr) (ns : List Int), a ≠ h ∧ b ≠ h ∧ p ≠ h ∧ H p = some (.tup [.ref a, .ref b]) ∧ H a = some (.lst (ns.map V.int)) ∧ H b = some (.lst (ns.map V.int))
structure HeldT (h : Addr) (H : Hp) (n : Nat) : Prop where
  all : ∃ ps : List Addr, H h = some (.lst (ps.map V.ref)) ∧ ps.length ≤ n ∧ ∀ p ∈ ps, PairT h H p
theorem PairT.step {h p : Addr} {H H' : Hp} (k : PairT h H p) (b : But h H H') : PairT h H' p := by
  obtain ⟨x, y, ns, hx, hy, hp, e, e1, e2⟩ := k.both
  exact ⟨x, y, ns, hx, hy, hp, b _ _ hp e, b _ _ hx e1, b _ _ hy e2⟩
theorem HeldT.same {h : Addr} {H H' : Hp} {n : Nat} (k : HeldT h H n) (s : Same H H') : HeldT h H' n := by
  obtain ⟨ps, e, l, f⟩ := k.all
  exact ⟨ps, s _ _ e, l, fun p hp => (f p hp).step (Same.but s)⟩
theorem HeldT.snoc {h p : Addr} {H H' : Hp} {m n : Nat} {ps : List Addr} (e : H h = some (.lst (ps.map V.ref))) (l : ps.length ≤ n) (f : ∀ p ∈ ps, PairT h H p) (b : But h H H') (e' : H' h = some (.lst (ps.map V.ref ++ [V.ref p]))) (g : PairT h H' p) (hm : n + 1 ≤ m) : HeldT h H' m :=
  ⟨ps ++ [p], by rw [e', List.map_append]; rfl, by rw [List.length_append]; exact Nat.le_trans (Nat.succ_le_succ l) hm, fun q hq => by
    rcases List.mem_append.mp hq with k | k
    · exact (f q k).step b
    · rw [List.mem_singleton.mp k]; exact g⟩
end Ur
namespace Ur
open PySem L2
theorem putK_same {kvs : List (Key × V)} {k : Key} {v : V} (h : (valV kvs k).isSome = true) : (putK kvs k v).length = kvs.length := by
  have e : (kvs.any fun kv => decide (kv.1 = k)) = true := (valV_any k kvs).trans h
  unfold putK
  rw [e, if_pos rfl, List.length_map]
theorem putK_none {kvs : List (Key × V)} {k : Key} {v : V} (h : (valV kvs k).isSome = false) : (putK kvs k v).length = kvs.length + 1 :=
  putK_len (Option.not_isSome_iff_eq_none.mp (by rw [h]; exact Bool.false_ne_true))
/-- a dict of the ints that were met -/
structure Met (kvs : List (Key × V)) (W : List Int) : Prop where
  has : ∀ z : Int, (valV kvs (Sum.inl z)).isSome = decide (z ∈ W)
  len : kvs.length = ulen W
theorem Met.nil : Met [] [] := ⟨fun z => by simp [valV_nil], rfl⟩
theorem Met.put {kvs : List (Key × V)} {W : List Int} (m : Met kvs W) (x : Int) (v : V) : Met (putK kvs (Sum.inl x) v) (W ++ [x]) := by
  refine ⟨fun z => ?_, ?_⟩
  · rw [val_put]
    by_cases h : z = x
    · subst h; simp
    · rw [if_neg h, m.has]; simp [h]
  · rw [ulen_snoc]
    by_cases h : x ∈ W
    · rw [if_pos h, putK_same (by rw [m.has]; exact decide_eq_true h), m.len]
    · rw [if_neg h, putK_none (by rw [m.has]; exact decide_eq_false h), m.len]
end Ur
namespace Ur
open PySem L2
/-- what is due of all widths -/
def dueL (ns : List Int) (f k : Nat) : List Int := (List.range (ns.length + 1)).map (dueW ns f k)
theorem dueL_len (ns : List Int) (f k : Nat) : (dueL ns f k).length = ns.length + 1 := by simp [dueL]
theorem dueL_get {ns : List Int} {f k w : Nat} (h : w < ns.length + 1) : (dueL ns f k)[w]? = some (dueW ns f k w) := by
  unfold dueL
  rw [List.getElem?_map, List.getElem?_range h]
  rfl
theorem dueL_0 (ns : List Int) : dueL ns 0 0 = List.replicate (ns.length + 1) 0 := by
  refine List.ext_getElem? fun w => ?_
  by_cases h : w < ns.length + 1
  · rw [dueL_get h, List.getElem?_replicate, if_pos h]
    rfl
  · rw [List.getElem?_eq_none (by rw [dueL_len]; omega), List.getElem?_eq_none (by rw [List.length_replicate]; omega)]
theorem dueL_set {ns : List Int} {f k : Nat} (h : k < ns.length - f + 1) : (dueL ns f k).set k ((dueL ns f k).getD k 0 + (lineW ns f).getD k 0) = dueL ns f (k + 1) := by
  refine List.ext_getElem? fun w => ?_
  by_cases hw : w < ns.length + 1
  · rw [List.getElem?_set, dueL_len, dueL_get hw, dueL_get hw, getD_of (dueL_get (show k < ns.length + 1 by omega)), lineW_getD h]
    unfold dueW
    by_cases e : k = w
    · subst e
      rw [if_pos rfl, if_pos (by omega), if_neg (Nat.lt_irrefl _), if_pos (Nat.lt_succ_self _)]
      simp
    · rw [if_neg e]
      by_cases c : w < k
      · rw [if_pos c, if_pos (by omega)]
      · rw [if_neg c, if_neg (by omega)]
  · rw [List.getElem?_eq_none (by rw [List.length_set, dueL_len]; omega), List.getElem?_eq_none (by rw [dueL_len]; omega)]
theorem dueL_up {ns : List Int} {f : Nat} (hf : f ≤ ns.length) : dueL ns f (ns.length - f + 1) = dueL ns (f + 1) 0 :=
  List.map_congr_left fun _ _ => dueW_up hf
theorem dueL_end (ns : List Int) : dueL ns (ns.length + 1) 0 = sumsW ns :=
  List.map_congr_left fun _ h => dueW_end (by have := List.mem_range.mp h; omega)
theorem sumsW_len (ns : List Int) : (sumsW ns).length = ns.length + 1 := by simp [sumsW]
end Ur

namespace Ur
open PySem PySem.Spec PyProof.Rows L2
/-- xs[i], by values: for xs[i] += e -/
theorem get_list {X : Cx} : PGet X (rIxL X.K) := by
  intro pins s σ H x y v u Q I rx ry h
  obtain ⟨p, xs, i, z, rfl, rfl, hq, he, q⟩ := h
  cases rx
  obtain ⟨t, rfl⟩ := ry
  obtain ⟨its, r, pl, hz⟩ := I.list hq
  obtain ⟨j, h1, h2, h3, h4, h5⟩ := atI_get he
  obtain ⟨w, ew, rw'⟩ := r.get h2
  have hl := r.length
  have hn := line63
  have fin : EP X pins σ Q w s := ⟨z, H, I, rw', q⟩
  by_cases h0 : 0 ≤ i
  · have hj : i.toNat = j := by
      rw [seqIndex_of h0 h5] at h1
      exact Option.some.inj h1
    exact wpAny_getItem_list pl.isList h0 (by omega) (by rw [hj]; simpa using ew) fin
  · have hj : (i + (its.toArray.size : Int)).toNat = j := by
      rw [seqIndex_neg (by omega) h4] at h1
      rw [List.size_toArray, ← hl]
      exact Option.some.inj h1
    exact wpAny_getItem_list_neg pl.isList (by omega) (by rw [List.size_toArray] <;> omega) (by omega) (by rw [hj]; simpa using ew) fin
end Ur

namespace Ur
open PySem L2
/-! ### things of a known kind -/
def Kind (H : Hp) (v : V) : Prop :=
  (∃ i, v = .int i) ∨ (∃ b, v = .bl b) ∨ (∃ x, v = .str x) ∨ v = .non ∨ (∃ p xs, v = .ref p ∧ H p = some (.lst xs)) ∨ (∃ p xs, v = .ref p ∧ H p = some (.tup xs)) ∨ ∃ p kvs, v = .ref p ∧ H p = some (.dK kvs)
theorem Kind.int {H : Hp} {i : Int} : Kind H (.int i) := .inl ⟨i, rfl⟩
theorem Kind.bl {H : Hp} {b : Bool} : Kind H (.bl b) := .inr (.inl ⟨b, rfl⟩)
theorem Kind.str {H : Hp} {x : Str} : Kind H (.str x) := .inr (.inr (.inl ⟨x, rfl⟩))
theorem Kind.non {H : Hp} : Kind H .non := .inr (.inr (.inr (.inl rfl)))
theorem Kind.lst {H : Hp} {p : Addr} {xs : List V} (e : H p = some (.lst xs)) : Kind H (.ref p) := .inr (.inr (.inr (.inr (.inl ⟨p, xs, rfl, e⟩))))
theorem Kind.tup {H : Hp} {p : Addr} {xs : List V} (e : H p = some (.tup xs)) : Kind H (.ref p) := .inr (.inr (.inr (.inr (.inr (.inl ⟨p, xs, rfl, e⟩)))))
theorem Kind.dct {H : Hp} {p : Addr} {kvs : List (Key × V)} (e : H p = some (.dK kvs)) : Kind H (.ref p) := .inr (.inr (.inr (.inr (.inr (.inr ⟨p, kvs, rfl, e⟩)))))
theorem Kind.same {H H' : Hp} {v : V} (k : Kind H v) (s : Same H H') : Kind H' v := by
  rcases k with ⟨i, rfl⟩ | ⟨b, rfl⟩ | ⟨x, rfl⟩ | rfl | ⟨p, xs, rfl, e⟩ | ⟨p, xs, rfl, e⟩ | ⟨p, xs, rfl, e⟩
  · exact .int
  · exact .bl
  · exact .str
  · exact .non
  · exact .lst (s _ _ e)
  · exact .tup (s _ _ e)
  · exact .dct (s _ _ e)
theorem Kind.but {a : Addr} {H H' : Hp} {v : V} (k : Kind H v) (b : But a H H') (h : v ≠ .ref a) : Kind H' v := by
  rcases k with ⟨i, rfl⟩ | ⟨c, rfl⟩ | ⟨x, rfl⟩ | rfl | ⟨p, xs, rfl, e⟩ | ⟨p, xs, rfl, e⟩ | ⟨p, xs, rfl, e⟩
  · exact .int
  · exact .bl
  · exact .str
  · exact .non
  · exact .lst (b _ _ (fun z => h (by rw [z])) e)
  · exact .tup (b _ _ (fun z => h (by rw [z])) e)
  · exact .dct (b _ _ (fun z => h (by rw [z])) e)
/-- a fact laid aside -/
structure Bx (P : Prop) : Prop where
  out : P
theorem nwA {H : Hp} {x p : Addr} {o : HO} (h : H x = some o) (n : H p = none) : x ≠ p := fun e => by rw [e, n] at h; cases h
/-! ### told things that are held, each a tuple of two lists of the same ints, none of them there in B -/
/-- no place of B -/
structure NoneIn (B : Hp) (x : Addr) : Prop where
  out : B x = none
structure PairN (B : Hp) (h : Addr) (H : Hp) (p : Addr) : Prop where
  both : ∃ (a b : Addr) (ns : List Int), a ≠ h ∧ b ≠ h ∧ p ≠ h ∧ NoneIn B a ∧ NoneIn B b ∧ NoneIn B p ∧ H p = some (.tup [.ref a, .ref b]) ∧ H a = some (.lst (ns.map V.int)) ∧ H b = some (.lst (ns.map V.int))
structure HeldN (B : Hp) (h : Addr) (H : Hp) (n : Nat) : Prop where
  all : ∃ ps : List Addr, H h = some (.lst (ps.map V.ref)) ∧ ps.length ≤ n ∧ ∀ p ∈ ps, PairN B h H p
theorem PairN.step {B : Hp} {h p : Addr} {H H' : Hp} (k : PairN B h H p) (b : But h H H') : PairN B h H' p := by
  obtain ⟨x, y, ns, hx, hy, hp, k1, k2, k3, e, e1, e2⟩ := k.both
  exact ⟨x, y, ns, hx, hy, hp, k1, k2, k3, b _ _ hp e, b _ _ hx e1, b _ _ hy e2⟩
theorem HeldN.same {B : Hp} {h : Addr} {H H' : Hp} {n : Nat} (k : HeldN B h H n) (s : Same H H') : HeldN B h H' n := by
  obtain ⟨ps, e, l, f⟩ := k.all
  exact ⟨ps, s _ _ e, l, fun p hp => (f p hp).step (Same.but s)⟩
theorem HeldN.le {B : Hp} {h : Addr} {H : Hp} {n m : Nat} (k : HeldN B h H n) (l : n ≤ m) : HeldN B h H m := by
  obtain ⟨ps, e, l', f⟩ := k.all
  exact ⟨ps, e, Nat.le_trans l' l, f⟩
/-- another object changes, that was there in B -/
theorem HeldN.other {B : Hp} {h a : Addr} {H H' : Hp} {n : Nat} {o : HO} (k : HeldN B h H n) (b : But a H H') (e : B a = some o) (ne : h ≠ a) : HeldN B h H' n := by
  obtain ⟨ps, eh, l, f⟩ := k.all
  refine ⟨ps, b _ _ ne eh, l, fun p hp => ?_⟩
  obtain ⟨x, y, ns, hx, hy, hp, k1, k2, k3, e0, e1, e2⟩ := (f p hp).both
  have no : ∀ {z : Addr}, NoneIn B z → z ≠ a := fun k z => by have k := k.out; rw [z, e] at k; cases k
  exact ⟨x, y, ns, hx, hy, hp, k1, k2, k3, b _ _ (no k3) e0, b _ _ (no k1) e1, b _ _ (no k2) e2⟩
theorem HeldN.snoc {B : Hp} {h p : Addr} {H H' : Hp} {m n : Nat} {ps : List Addr} (l : ps.length ≤ n) (f : ∀ p ∈ ps, PairN B h H p) (b : But h H H') (e' : H' h = some (.lst (ps.map V.ref ++ [V.ref p]))) (g : PairN B h H' p) (hm : n + 1 ≤ m) : HeldN B h H' m :=
  ⟨ps ++ [p], by rw [e', List.map_append]; rfl, by rw [List.length_append]; exact Nat.le_trans (Nat.succ_le_succ l) hm, fun q hq => by
    rcases List.mem_append.mp hq with k | k
    · exact (f q k).step b
    · rw [List.mem_singleton.mp k]; exact g⟩
/-- what there is in B is there in H -/
structure Within (B H : Hp) : Prop where
  free : ∀ x, H x = none → B x = none
theorem Within.none {B H : Hp} {x : Addr} (w : Within B H) (e : H x = none) : NoneIn B x := ⟨w.free x e⟩
theorem Within.refl {B : Hp} : Within B B := ⟨fun _ e => e⟩
theorem Within.upd {B H : Hp} {a : Addr} {o : HO} (w : Within B H) : Within B (upd H a o) := ⟨fun _ e => w.free _ (upd_none e)⟩
theorem Within.same {B H H' : Hp} (w : Within B H) (s : Same H H') : Within B H' := ⟨fun _ e => w.free _ (s.free e)⟩
theorem Within.but {a : Addr} {o : HO} {B H H' : Hp} (w : Within B H) (b : But a H H') (e : H' a = some o) : Within B H' := ⟨fun x n => by
  refine w.free x ?_
  cases k : H x with
  | none => rfl
  | some u =>
    have ne : x ≠ a := fun z => by rw [z, e] at n; cases n
    rw [b _ _ ne k] at n; cases n⟩
theorem HeldN.within {B : Hp} {h : Addr} {H H' : Hp} {n : Nat} (k : HeldN B h H' n) (w : Within B H) (b : But h H H') : Within B H' := by
  obtain ⟨ps, eh, _, _⟩ := k.all
  exact w.but b eh
end Ur

namespace Ur
open PySem L2 PySem.Spec PyProof.Rows
/-! ### an exception in hand -/
/-- isinstance of the exception that the suite holds: a class, or a tuple of classes -/
def rIsX (K : PySem.W.Frag) (cls : Value) (d : Option Addr) (a : Addr) : List V → Hp → VK → Prop := fun xs H Q =>
  ∃ (D : Addr) (c : V) (b : Bool), xs = [.ref a, c] ∧ cls = .ref D ∧ d = none ∧ ExcC K D ∧
    ((∃ u, ClsV c u ∧ PySem.W.kitOne K (.ref D) u = some b) ∨ ∃ (tp : Addr) (cs : List V) (us : List Value), c = .ref tp ∧ H tp = some (.tup cs) ∧ Paired ClsV cs us ∧ PySem.W.kitAny K (.ref D) us = some b) ∧ Q (.bl b) H
theorem call_isX {X : Cx} {K : PySem.W.Frag} (hK : X.K = K) {a : Addr} {cls : Value} {d : Option Addr} {oe : Obj} (hz : Zc cls d oe) (hf : ∃ vs, oe.data = .fields vs) (hp : (a, oe) ∈ X.pn) : CallR X (.builtin "isinstance") (rIsX K cls d a) := by
  subst hK
  intro pins s σ H xs us Q I r h
  obtain ⟨D, c, b, rfl, rfl, rfl, C, hc, q⟩ := h
  obtain ⟨u1, u2, rfl, r1, r2⟩ := vals2 r
  cases (show u1 = Value.ref a from r1)
  obtain ⟨hget, _⟩ := I.pin (a, oe) (List.mem_append.mpr (.inl hp))
  obtain ⟨vs, hv⟩ := hf
  have J : PySem.W.InstAt s.heap a oe D none := by
    obtain ⟨oc, od, oda, osl⟩ := oe
    obtain ⟨h1, h2⟩ := hz
    dsimp only at h1 h2 hv
    subst h1 h2 hv
    exact ⟨hget, rfl, rfl, trivial⟩
  have Z := PySem.W.handS_kitx_exc (x := a) (ox := oe) C.hg C.hk C.hs C.hd C.ha C.hn C.ht C.hm
  rcases hc with ⟨u, k, e⟩ | ⟨tp, cs, ws, rfl, hT, k, e⟩
  · have e2 := k.eq r2
    subst e2
    exact PySem.W.kia_one Z I.kIn J e (fun z => nomatch z) fun tk => ⟨.bl b, H, I.kept (t' := tk) fun _ _ z => z, rfl, q⟩
  · cases (show u2 = Value.ref tp from r2)
    obtain ⟨_, its, rv, o, h1, h2, n, h3⟩ := (show ObjOk X.prog X.w H s.heap tp (.tup cs) from I.hok tp _ hT)
    have e3 := ClsV.all k rv
    subst e3
    obtain ⟨oc, od, dt, sl⟩ := o
    simp only at h2 h3
    subst h2 h3
    exact PySem.W.kia_tup Z I.kIn J h1 e (fun z => nomatch z) fun tk => ⟨.bl b, H, I.kept (t' := tk) fun _ _ z => z, rfl, q⟩
/-- a method of a built-in object, the fragment told -/
theorem pe_bmK {X : Cx} {K : PySem.W.Frag} {o e : Expr} {es : List Expr} {to : TE} {t : TA} {name : Str} {apos cpos : Pos} {T id : String} {r : V → List V → Hp → VK → Prop} (hK : X.K = K) (pa : PlainAttrs T) (slot : Slot T name id) (hty : typeOf (.builtin id) = pure (.type "method_descriptor")) (hm : MtR X id r) (ho : PE X o to) (ha : PA X (e :: es) t)
    (h1 : attributeBase o name X.env (eval o X.env) = eval o X.env := by rfl)
    (h2 : ((backTo cpos (starEach (e :: es) X.env)).all (fun x => !x.1) && (backToKw cpos (keywordEach [] X.env)).all (fun x => x.1.isSome) && decide ((e :: es).length + ([] : List Keyword).length + (if ([] : List Keyword).isEmpty then 0 else 1) < 30)) = true := by rfl)
    (h3 : (apos.endLine == cpos.line) = true := by rfl) (h4 : starEach (e :: es) X.env = (false, eval e X.env) :: starEach es X.env := by rfl) (h5 : (backTo cpos (starEach es X.env)).any (·.1) = false := by rfl) :
    PE X (.Call (.Attribute o name apos) (e :: es) [] cpos) (tBM K T r to t) := by
  subst hK
  exact pe_bm pa slot hty hm ho ha h1 h2 h3 h4 h5
theorem isX1 {K : PySem.W.Frag} {D a C : Addr} {b : Bool} {H : Hp} {Q : VK} (E : ExcC K D) (h : PySem.W.kitOne K (.ref D) (.ref C) = some b) (q : Q (.bl b) H) : rIsX K (.ref D) none a [.ref a, .ref C] H Q :=
  ⟨D, _, b, rfl, rfl, rfl, E, .inl ⟨_, .own C, h⟩, q⟩
theorem isXT {K : PySem.W.Frag} {D a : Addr} {n : String} {b : Bool} {H : Hp} {Q : VK} (E : ExcC K D) (h : PySem.W.kitOne K (.ref D) (.type n) = some b) (q : Q (.bl b) H) : rIsX K (.ref D) none a [.ref a, .ty n] H Q :=
  ⟨D, _, b, rfl, rfl, rfl, E, .inl ⟨_, .ty n, h⟩, q⟩
/-- of none of these classes -/
def NoneOf (K : PySem.W.Frag) (D : Addr) (cs : List Addr) : Prop := ∀ c ∈ cs, PySem.W.kitOne K (.ref D) (.ref c) = some false
theorem NoneOf.any {K : PySem.W.Frag} {D : Addr} : ∀ {cs : List Addr}, NoneOf K D cs → PySem.W.kitAny K (.ref D) (cs.map Value.ref) = some false
  | [], _ => rfl
  | c :: cs, h => kitAny_cons (h c List.mem_cons_self) (fun _ => NoneOf.any fun x hx => h x (List.mem_cons_of_mem _ hx)) (fun z => nomatch z)
theorem NoneOf.pair : ∀ (cs : List Addr), Paired ClsV (cs.map V.ref) (cs.map Value.ref)
  | [] => .nil
  | c :: cs => .cons (.own c) (NoneOf.pair cs)
theorem isX2 {K : PySem.W.Frag} {D a p : Addr} {vs : List V} {cs : List Addr} {H : Hp} {Q : VK} (E : ExcC K D) (h : NoneOf K D cs) (e : H p = some (.tup vs)) (hv : vs = cs.map V.ref) (q : Q (.bl false) H) : rIsX K (.ref D) none a [.ref a, .ref p] H Q :=
  ⟨D, _, false, rfl, rfl, rfl, E, .inr ⟨p, _, _, rfl, by rw [e, hv], NoneOf.pair cs, h.any⟩, q⟩
theorem NoneOf.nil {K : PySem.W.Frag} {D : Addr} : NoneOf K D [] := fun _ h => nomatch h
theorem NoneOf.cons {K : PySem.W.Frag} {D c : Addr} {cs : List Addr} (h : PySem.W.kitOne K (.ref D) (.ref c) = some false) (t : NoneOf K D cs) : NoneOf K D (c :: cs) := fun x hx => by
  rcases List.mem_cons.mp hx with rfl | k
  · exact h
  · exact t x k
theorem rEq_kinds {K : PySem.W.Frag} {H : Hp} {a b : Addr} {Q : VK} (h1 : H a = some (.lst [.bl true, .bl true, .bl false])) (h2 : H b = some (.lst [.bl true, .bl true, .bl false])) (q : Q (.bl true) H) : rEqD K (.ref a) (.ref b) H Q :=
  ⟨_, _, .lst (SqL.of h1) (.cons (.bl _) (.cons (.bl _) (.cons (.bl _) .nil))), .lst (SqL.of h2) (.cons (.bl _) (.cons (.bl _) (.cons (.bl _) .nil))), by decide, by decide, q⟩
end Ur

namespace Ur
open PySem L2
/-! ### range(0, b, c) -/
theorem rgc_up {b c : Int} (hb : 0 ≤ b) (hb' : b ≤ 1000000) (hc : 0 < c) (hc' : c ≤ 1000000) : ∃ n : Nat, (n : Int) ≤ b ∧ (∀ i : Nat, i < n → 0 ≤ 0 + (i : Int) * c ∧ 0 + (i : Int) * c < b) ∧ RgC 0 b c n := by
  by_cases h : 0 < b
  · have h1 : 0 ≤ (b - 0 - 1) / c := Int.ediv_nonneg (by omega) (by omega)
    have h2 : (b - 0 - 1) / c ≤ b - 0 - 1 := Int.ediv_le_self c (by omega)
    have e : Builtin.Range.rangeSize 0 b c = (b - 0 - 1) / c + 1 := by
      unfold Builtin.Range.rangeSize
      rw [if_pos hc, if_pos h]
    refine ⟨((b - 0 - 1) / c + 1).toNat, by omega, fun i hi => ⟨by have := Int.mul_nonneg (Int.natCast_nonneg i) (Int.le_of_lt hc); omega, ?_⟩, by omega, by omega, ?_, ?_⟩
    · have k1 : (i : Int) ≤ (b - 0 - 1) / c := by omega
      have k2 : (i : Int) * c ≤ (b - 0 - 1) / c * c := Int.mul_le_mul_of_nonneg_right k1 (by omega)
      have k3 := Int.ediv_mul_le (b - 0 - 1) (show c ≠ 0 by omega)
      omega
    · unfold Builtin.Range.small
      rw [e, if_pos hc]
      simp only [Builtin.Range.rangeFitsLong, Bool.and_eq_true, Bool.or_eq_true, decide_eq_true_eq, beq_iff_eq]
      omega
    · rw [e]; omega
  · have hb0 : b = 0 := by omega
    subst hb0
    refine ⟨0, by omega, fun i hi => absurd hi (Nat.not_lt_zero _), by omega, by omega, ?_, ?_⟩
    · unfold Builtin.Range.small Builtin.Range.rangeSize
      rw [if_pos hc, if_pos hc]
      simp only [Builtin.Range.rangeFitsLong, Bool.and_eq_true, Bool.or_eq_true, decide_eq_true_eq, beq_iff_eq]
      omega
    · unfold Builtin.Range.rangeSize
      rw [if_pos hc]
      rfl
end Ur

namespace Ur
open PySem L2
/-! ### lists of lists of ints -/
/-- n lists at ls, the k-th of them F k -/
structure RowsF (H : Hp) (ls : List Addr) (n : Nat) (F : Nat → List Int) : Prop where
  len : ls.length = n
  row : ∀ k p, ls[k]? = some p → H p = some (.lst ((F k).map V.int))
theorem RowsF.same {H H' : Hp} {ls : List Addr} {n : Nat} {F : Nat → List Int} (r : RowsF H ls n F) (s : Same H H') : RowsF H' ls n F := ⟨r.len, fun k p e => s _ _ (r.row k p e)⟩
theorem RowsF.but {a : Addr} {H H' : Hp} {ls : List Addr} {n : Nat} {F : Nat → List Int} (r : RowsF H ls n F) (b : But a H H') (no : ∀ p ∈ ls, p ≠ a) : RowsF H' ls n F := ⟨r.len, fun k p e => b _ _ (no p (List.mem_of_getElem? e)) (r.row k p e)⟩
theorem RowsF.congr {H : Hp} {ls : List Addr} {n : Nat} {F G : Nat → List Int} (r : RowsF H ls n F) (e : ∀ k, k < n → F k = G k) : RowsF H ls n G := ⟨r.len, fun k p h => by
  have hk := (List.getElem?_eq_some_iff.mp h).1
  rw [← e k (by have := r.len; omega)]
  exact r.row k p h⟩
theorem RowsF.is {H : Hp} {ls : List Addr} {n : Nat} {F : Nat → List Int} (r : RowsF H ls n F) {p : Addr} (hp : p ∈ ls) : ∃ ns : List Int, H p = some (.lst (ns.map V.int)) := by
  obtain ⟨k, hk⟩ := List.getElem?_of_mem hp
  exact ⟨F k, r.row k p hk⟩
theorem RowsF.snoc {H H4 : Hp} {Dl q : Addr} {qs : List Addr} {i : Nat} {F : Nat → List Int} {o : HO} (r : RowsF H qs i F) (s : Same H H4) (no : ∀ p ∈ qs, p ≠ Dl) (e : H4 q = some (.lst ((F i).map V.int))) (hq : q ≠ Dl) : RowsF (upd H4 Dl o) (qs ++ [q]) (i + 1) F := by
  refine ⟨by rw [List.length_append, r.len]; rfl, fun k p h => ?_⟩
  by_cases hk : k < qs.length
  · rw [List.getElem?_append_left hk] at h
    rw [upd_ne (no p (List.mem_of_getElem? h))]
    exact s _ _ (r.row k p h)
  · have h2 := (List.getElem?_eq_some_iff.mp h).1
    rw [List.length_append] at h2
    have h3 : [q].length = 1 := rfl
    have hk2 : k = qs.length := by omega
    subst hk2
    rw [List.getElem?_append_right (Nat.le_refl _), Nat.sub_self] at h
    cases h
    rw [upd_ne hq, r.len]
    exact e
theorem dpAll_of {K : PySem.W.Frag} {H : Hp} : ∀ (vs : List V) (ds : List PyData), vs.length = ds.length → (∀ (k : Nat) (v : V) (d : PyData), vs[k]? = some v → ds[k]? = some d → Dp K H v d) → DpAll K H vs ds
  | [], [], _, _ => .nil
  | [], _ :: _, h, _ => by cases h
  | _ :: _, [], h, _ => by cases h
  | v :: vs, d :: ds, h, f => .cons (f 0 v d rfl rfl) (dpAll_of vs ds (Nat.succ.inj h) fun k v d h1 h2 => f (k + 1) v d h1 h2)
theorem canLayAll_of : ∀ ds : List PyData, (∀ d ∈ ds, PyData.canLay0 d = true) → PyData.canLayAll0 ds = true
  | [], _ => rfl
  | d :: ds, f => by
    show (PyData.canLay0 d && PyData.canLayAll0 ds) = true
    rw [canLayAll_of ds fun x h => f x (List.mem_cons_of_mem _ h), f d List.mem_cons_self]
    rfl
theorem depthAll_of {m : Nat} : ∀ ds : List PyData, (∀ d ∈ ds, PyData.depth d ≤ m) → PyData.depthAll ds ≤ m
  | [], _ => by
    rw [PyData.depthAll]
    exact Nat.zero_le _
  | d :: ds, f => by
    rw [PyData.depthAll]
    exact Nat.max_le.mpr ⟨f d List.mem_cons_self, depthAll_of ds fun x h => f x (List.mem_cons_of_mem _ h)⟩
theorem eqvAll_refl : ∀ ds : List PyData, (∀ d ∈ ds, PyData.eqv d d = true) → PyData.eqvAll ds ds = true
  | [], _ => rfl
  | d :: ds, f => by
    show (PyData.eqv d d && PyData.eqvAll ds ds) = true
    rw [eqvAll_refl ds fun x h => f x (List.mem_cons_of_mem _ h), f d List.mem_cons_self]
    rfl
/-- the data of such a list -/
def rowsD (n : Nat) (F : Nat → List Int) : List PyData := (List.range n).map fun k => PyData.list ((F k).map PyData.int)
theorem dp_rows {K : PySem.W.Frag} {H : Hp} {a : Addr} {ls : List Addr} {n : Nat} {F : Nat → List Int} (h : SqL K H a (ls.map V.ref)) (r : RowsF H ls n F) : Dp K H (.ref a) (.list (rowsD n F)) := by
  refine .lst h (dpAll_of _ _ (by rw [rowsD, List.length_map, List.length_map, List.length_range, r.len]) fun k v d h1 h2 => ?_)
  rw [List.getElem?_map] at h1
  obtain ⟨p, hp, rfl⟩ := Option.map_eq_some_iff.mp h1
  have hk := (List.getElem?_eq_some_iff.mp hp).1
  rw [rowsD, List.getElem?_map, List.getElem?_range (by have := r.len; omega)] at h2
  cases h2
  exact dp_ints (SqL.of (r.row k p hp))
theorem shaped_rows (n : Nat) (F : Nat → List Int) : SeqAt.shaped (.list (rowsD n F)) = true := by
  refine shaped_of (canLayAll_of _ fun d h => ?_) ?_
  · obtain ⟨k, _, rfl⟩ := List.mem_map.mp h
    exact canLayAll_ints _
  · have h := depthAll_of (m := 2) (rowsD n F) fun d h => by
      obtain ⟨k, _, rfl⟩ := List.mem_map.mp h
      exact depth_ints _
    rw [PyData.depth]
    omega
theorem eqv_rows (n : Nat) (F : Nat → List Int) : PyData.eqv (.list (rowsD n F)) (.list (rowsD n F)) = true := by
  show PyData.eqvAll _ _ = true
  refine eqvAll_refl _ fun d h => ?_
  obtain ⟨k, _, rfl⟩ := List.mem_map.mp h
  rw [eqv_ints]
  exact decide_eq_true rfl
theorem rEq_rows {K : PySem.W.Frag} {H : Hp} {a b : Addr} {ls ms : List Addr} {n : Nat} {F : Nat → List Int} {Q : VK} (h1 : SqL K H a (ls.map V.ref)) (h2 : SqL K H b (ms.map V.ref)) (r1 : RowsF H ls n F) (r2 : RowsF H ms n F) (q : Q (.bl true) H) : rEqD K (.ref a) (.ref b) H Q :=
  ⟨_, _, dp_rows h1 r1, dp_rows h2 r2, shaped_rows n F, shaped_rows n F, by rw [eqv_rows]; exact q⟩
theorem rNe_rows {K : PySem.W.Frag} {H : Hp} {a b : Addr} {ls ms : List Addr} {n : Nat} {F : Nat → List Int} {Q : VK} (h1 : SqL K H a (ls.map V.ref)) (h2 : SqL K H b (ms.map V.ref)) (r1 : RowsF H ls n F) (r2 : RowsF H ms n F) (q : Q (.bl false) H) : rNeD K (.ref a) (.ref b) H Q :=
  ⟨_, _, dp_rows h1 r1, dp_rows h2 r2, shaped_rows n F, shaped_rows n F, by rw [eqv_rows]; exact q⟩
section
variable {K : PySem.W.Frag} {a : Addr} {σ : L2.St} {H1 : Hp} {Dl : Addr} {te : TE} {vs : List Nat} {j : Nat} {lo : Int} {n : Nat} {Qd : Hp → Prop}
/-- [e for k in range(..)], each e a new list of ints -/
theorem lc_rngL (F : Nat → List Int) (hn : n ≤ 1000000) (hD : H1 Dl = none) (hw : ∀ x, wipe ((wipe σ vs).set j (some x)) vs = wipe σ vs)
    (he : ∀ (k : Nat) H', k < n → Same H1 H' → ∀ Q' : VK, (∀ q H4, Same H' H4 → H4 q = some (.lst ((F k).map V.int)) → H' q = none → Q' (.ref q) H4) → te ((wipe σ vs).set j (some (.int (lo + (k : Nat))))) H' Q')
    (hd : ∀ H' qs, Same H1 H' → H' Dl = some (.lst (qs.map V.ref)) → RowsF H' qs n F → (∀ q ∈ qs, H1 q = none ∧ q ≠ Dl) → qs.Nodup → Qd H') :
    ∃ W : Nat → Nat → Hp → Prop, (∃ m, W 0 m (upd H1 Dl (.lst []))) ∧ ∀ i m H, W i m H →
      ((Itr lo n).stop i H ∧ Qd H) ∨ ((Itr lo n).go i H ∧ ∃ Nx : Hp → Prop, (∀ H', Nx H' → ∃ m', m' < m ∧ W (i + 1) m' H') ∧ ∀ x H', (Itr lo n).yld i H x H' → gName j x (wipe σ vs) H' fun σ2 H2 => wipe σ2 vs = wipe σ vs ∧ tYes σ2 H2 fun b H3 =>
        if b = true then te σ2 H3 fun y H4 => ∃ acc, H4 Dl = some (.lst acc) ∧ acc.length < sizeLine ∧ Nx (upd H4 Dl (.lst (acc ++ [y]))) else Nx H3) := by
  refine lc_range (lo := lo) (n := n) (fun i H' => ∃ qs : List Addr, Same H1 H' ∧ H' Dl = some (.lst (qs.map V.ref)) ∧ RowsF H' qs i F ∧ (∀ q ∈ qs, H1 q = none ∧ q ≠ Dl) ∧ qs.Nodup) ⟨[], same_new hD, upd_same, ⟨rfl, fun k p h => nomatch h⟩, (fun q h => nomatch h), List.nodup_nil⟩ (fun i H' hi p => ?_) (fun H' p => ?_)
  · obtain ⟨qs, s1, eD, r, f, nd⟩ := p
    refine ⟨hw _, ?_⟩
    refine tyes_ok ?_
    refine he i H' hi s1 _ fun q H4 s e nq => ?_
    have qD : q ≠ Dl := fun z => by rw [z, eD] at nq; cases nq
    refine ⟨_, s _ _ eD, szl (by rw [List.length_map, r.len]; omega), qs ++ [q], same_upd' hD (s1.trans s), ?_, r.snoc s (fun p hp => (f p hp).2) e qD, fun p hp => ?_, ?_⟩
    · rw [upd_same, List.map_append]; rfl
    · rcases List.mem_append.mp hp with h | h
      · exact f p h
      · rw [List.mem_singleton.mp h]; exact ⟨s1.free nq, qD⟩
    · rw [List.nodup_append]
      refine ⟨nd, List.nodup_cons.mpr ⟨List.not_mem_nil, List.nodup_nil⟩, fun x hx y hy z => ?_⟩
      rw [List.mem_singleton.mp hy] at z
      obtain ⟨ms, em⟩ := r.is hx
      rw [z, nq] at em
      cases em
  · obtain ⟨qs, s1, eD, r, f, nd⟩ := p
    exact hd H' qs s1 eD r f nd
/-- [e for p in a list], each e a new list of ints -/
theorem lc_refsL {ls : List Addr} (F : Nat → List Int) (hn : ls.length ≤ 1000000) (ha : SqL K H1 a (ls.map V.ref)) (hD : H1 Dl = none) (hw : ∀ x, wipe ((wipe σ vs).set j (some x)) vs = wipe σ vs)
    (he : ∀ (k : Nat) p H', ls[k]? = some p → Same H1 H' → ∀ Q' : VK, (∀ q H4, Same H' H4 → H4 q = some (.lst ((F k).map V.int)) → H' q = none → Q' (.ref q) H4) → te ((wipe σ vs).set j (some (.ref p))) H' Q')
    (hd : ∀ H' qs, Same H1 H' → H' Dl = some (.lst (qs.map V.ref)) → RowsF H' qs ls.length F → (∀ q ∈ qs, H1 q = none ∧ q ≠ Dl) → qs.Nodup → Qd H') :
    ∃ W : Nat → Nat → Hp → Prop, (∃ m, W 0 m (upd H1 Dl (.lst []))) ∧ ∀ i m H, W i m H →
      ((Itl K a).stop i H ∧ Qd H) ∨ ((Itl K a).go i H ∧ ∃ Nx : Hp → Prop, (∀ H', Nx H' → ∃ m', m' < m ∧ W (i + 1) m' H') ∧ ∀ x H', (Itl K a).yld i H x H' → gName j x (wipe σ vs) H' fun σ2 H2 => wipe σ2 vs = wipe σ vs ∧ tYes σ2 H2 fun b H3 =>
        if b = true then te σ2 H3 fun y H4 => ∃ acc, H4 Dl = some (.lst acc) ∧ acc.length < sizeLine ∧ Nx (upd H4 Dl (.lst (acc ++ [y]))) else Nx H3) := by
  refine lc_list (K := K) (a := a) (xs := ls.map V.ref) (fun i H' => ∃ qs : List Addr, Same H1 H' ∧ H' Dl = some (.lst (qs.map V.ref)) ∧ RowsF H' qs i F ∧ (∀ q ∈ qs, H1 q = none ∧ q ≠ Dl) ∧ qs.Nodup) ⟨[], same_new hD, upd_same, ⟨rfl, fun k p h => nomatch h⟩, (fun q h => nomatch h), List.nodup_nil⟩ (fun i H' _ p => ?_) (fun i x H' hx p => ?_) (fun H' p => ?_)
  · obtain ⟨qs, s1, _⟩ := p
    exact s1.seq ha
  · obtain ⟨qs, s1, eD, r, f, nd⟩ := p
    rw [List.getElem?_map] at hx
    obtain ⟨p0, hp0, rfl⟩ := Option.map_eq_some_iff.mp hx
    have hi := (List.getElem?_eq_some_iff.mp hp0).1
    refine ⟨hw _, ?_⟩
    refine tyes_ok ?_
    refine he i p0 H' hp0 s1 _ fun q H4 s e nq => ?_
    have qD : q ≠ Dl := fun z => by rw [z, eD] at nq; cases nq
    refine ⟨_, s _ _ eD, szl (by rw [List.length_map, r.len]; omega), qs ++ [q], same_upd' hD (s1.trans s), ?_, r.snoc s (fun p hp => (f p hp).2) e qD, fun p hp => ?_, ?_⟩
    · rw [upd_same, List.map_append]; rfl
    · rcases List.mem_append.mp hp with h | h
      · exact f p h
      · rw [List.mem_singleton.mp h]; exact ⟨s1.free nq, qD⟩
    · rw [List.nodup_append]
      refine ⟨nd, List.nodup_cons.mpr ⟨List.not_mem_nil, List.nodup_nil⟩, fun x hx y hy z => ?_⟩
      rw [List.mem_singleton.mp hy] at z
      obtain ⟨ms, em⟩ := r.is hx
      rw [z, nq] at em
      cases em
  · obtain ⟨qs, s1, eD, r, f, nd⟩ := p
    rw [List.length_map] at r
    exact hd H' qs s1 eD r f nd
end
end Ur
namespace Ur
open PySem L2
theorem lineW_drop {ns : List Int} {k : Nat} (h : k ≤ ns.length) : lineW (ns.drop k) 0 = lineW ns k := by
  unfold lineW
  rw [List.length_drop, Nat.sub_zero]
  refine List.map_congr_left fun j _ => ?_
  show ((ulen (((ns.drop k).drop 0).take (0 + j - 0)) : Nat) : Int) = ((ulen ((ns.drop k).take (k + j - k)) : Nat) : Int)
  rw [List.drop_zero, show 0 + j - 0 = j by omega, show k + j - k = j by omega]
end Ur
namespace Ur
open PySem L2
/-- all of ls are other places than a -/
structure Off (ls : List Addr) (a : Addr) : Prop where
  out : ∀ p ∈ ls, p ≠ a
theorem RowsF.offNew {H : Hp} {x : Addr} {ls : List Addr} {n : Nat} {F : Nat → List Int} (r : RowsF H ls n F) (e : H x = none) : Off ls x := ⟨fun p hp z => by
  obtain ⟨ms, em⟩ := r.is hp
  rw [z, e] at em
  cases em⟩
theorem offOld {H : Hp} {x : Addr} {o : HO} {ls : List Addr} (f : ∀ p ∈ ls, H p = none) (e : H x = some o) : Off ls x := ⟨fun p hp z => by
  have h := f p hp
  rw [z, e] at h
  cases h⟩
theorem RowsF.upd {H : Hp} {x : Addr} {o : HO} {ls : List Addr} {n : Nat} {F : Nat → List Int} (r : RowsF H ls n F) (f : Off ls x) : RowsF (upd H x o) ls n F := ⟨r.len, fun k p e => by
  rw [upd_ne (f.out p (List.mem_of_getElem? e))]
  exact r.row k p e⟩
theorem nodup_idx {α : Type} {ls : List α} (nd : ls.Nodup) {i k : Nat} {p : α} (h1 : ls[i]? = some p) (h2 : ls[k]? = some p) : i = k := by
  obtain ⟨a1, b1⟩ := List.getElem?_eq_some_iff.mp h1
  obtain ⟨a2, b2⟩ := List.getElem?_eq_some_iff.mp h2
  have w := List.pairwise_iff_getElem.mp nd
  rcases Nat.lt_trichotomy i k with c | c | c
  · exact absurd (b1.trans b2.symm) (w i k a1 a2 c)
  · exact c
  · exact absurd (b2.trans b1.symm) (w k i a2 a1 c)
/-- one of the lists has changed -/
theorem RowsF.set {H H' : Hp} {qs : List Addr} {n i : Nat} {l : Addr} {F : Nat → List Int} {ns : List Int} (r : RowsF H qs n F) (nd : qs.Nodup) (hl : qs[i]? = some l) (e : H' l = some (.lst (ns.map V.int))) (b : But l H H') : RowsF H' qs n (fun k => if k = i then ns else F k) := ⟨r.len, fun k p h => by
  show _ = some (HO.lst ((if k = i then ns else F k).map V.int))
  by_cases hk : k = i
  · subst hk
    rw [hl] at h
    cases h
    rw [if_pos rfl]
    exact e
  · rw [if_neg hk]
    refine b _ _ (fun z => hk ?_) (r.row k p h)
    exact nodup_idx nd h (by rw [hl, z])⟩
/-! ### told tables that are held, each a tuple of two of the same -/
structure PairR (h : Addr) (H : Hp) (p : Addr) : Prop where
  both : ∃ (a b : Addr) (ls ms : List Addr) (n : Nat) (F : Nat → List Int), a ≠ h ∧ b ≠ h ∧ p ≠ h ∧ Off ls h ∧ Off ms h ∧ H p = some (.tup [.ref a, .ref b]) ∧ H a = some (.lst (ls.map V.ref)) ∧ H b = some (.lst (ms.map V.ref)) ∧ RowsF H ls n F ∧ RowsF H ms n F
structure HeldR (h : Addr) (H : Hp) (n : Nat) : Prop where
  all : ∃ ps : List Addr, H h = some (.lst (ps.map V.ref)) ∧ ps.length ≤ n ∧ ∀ p ∈ ps, PairR h H p
theorem PairR.step {h p : Addr} {H H' : Hp} (k : PairR h H p) (b : But h H H') : PairR h H' p := by
  obtain ⟨x, y, ls, ms, n, F, hx, hy, hp, o1, o2, e, e1, e2, r1, r2⟩ := k.both
  exact ⟨x, y, ls, ms, n, F, hx, hy, hp, o1, o2, b _ _ hp e, b _ _ hx e1, b _ _ hy e2, r1.but b o1.out, r2.but b o2.out⟩
theorem HeldR.same {h : Addr} {H H' : Hp} {n : Nat} (k : HeldR h H n) (s : Same H H') : HeldR h H' n := by
  obtain ⟨ps, e, l, f⟩ := k.all
  exact ⟨ps, s _ _ e, l, fun p hp => (f p hp).step (Same.but s)⟩
theorem HeldR.snoc {h p : Addr} {H H' : Hp} {m n : Nat} {ps : List Addr} (l : ps.length ≤ n) (f : ∀ p ∈ ps, PairR h H p) (b : But h H H') (e' : H' h = some (.lst (ps.map V.ref ++ [V.ref p]))) (g : PairR h H' p) (hm : n + 1 ≤ m) : HeldR h H' m :=
  ⟨ps ++ [p], by rw [e', List.map_append]; rfl, by rw [List.length_append]; exact Nat.le_trans (Nat.succ_le_succ l) hm, fun q hq => by
    rcases List.mem_append.mp hq with k | k
    · exact (f q k).step b
    · rw [List.mem_singleton.mp k]; exact g⟩
end Ur
namespace Ur
open PySem L2
theorem len_refs {K : PySem.W.Frag} {H : Hp} {p : Addr} {ls : List Addr} {Q : VK} (h : SqL K H p (ls.map V.ref)) (q : Q (.int ls.length) H) : rLenI K [.ref p] H Q :=
  ⟨p, _, rfl, Or.inl h, by rw [List.length_map]; exact q⟩
end Ur
namespace Ur
open PySem L2
/-- while, the test's answer told; Pv by a measure; the search does not open what is due of a turn -/
theorem while_iv {tb : TS} {D : Ends} {σ : L2.St} {H : Hp} {c : TT} (Pv : Nat → L2.St → Hp → Prop) (m0 : Nat) (h0 : Pv m0 σ H)
    (hs : ∀ m σ H, Pv m σ H → ∃ b, (∀ Q : Bool → Hp → Prop, Q b H → c σ H Q) ∧
      (b = true → tb { D with nx := fun σ' H' => Iv (∃ m', m' < m ∧ Pv m' σ' H'), ct := fun σ' H' => Iv (∃ m', m' < m ∧ Pv m' σ' H'), bk := D.nx } σ H) ∧ (b = false → D.nx σ H)) : tWhile c tb D σ H := by
  refine ⟨Pv, ⟨m0, h0⟩, fun m σ H p => ?_⟩
  obtain ⟨b, hb, h1, h2⟩ := hs m σ H p
  refine hb _ ?_
  cases b with
  | true => exact (if_pos rfl).mpr ⟨_, fun _ _ n => n.out, h1 rfl⟩
  | false => exact (if_neg Bool.false_ne_true).mpr (h2 rfl)
theorem getD_mem {ns : List Int} {k : Nat} (h : k < ns.length) : ns.getD k 0 ∈ ns := List.mem_of_getElem? (get_of h)
theorem getD_all {ns : List Int} {k : Nat} {P : Int → Prop} (h : k < ns.length) (f : ∀ x ∈ ns, P x) : P (ns.getD k 0) := f _ (getD_mem h)
end Ur
namespace Ur
open PySem L2
/-- while, the test may lay new things; the body is reached where the measure is above 0 only -/
theorem while_t {tb : TS} {D : Ends} {σ : L2.St} {H : Hp} {c : TT} (Pv : Nat → L2.St → Hp → Prop) (m0 : Nat) (h0 : Pv m0 σ H)
    (ht : ∀ m σ H, Pv m σ H → ∀ Q : Bool → Hp → Prop, (∀ b H', Same H H' → (b = true → 0 < m) → Q b H') → c σ H Q)
    (hs : ∀ m σ H H', Pv m σ H → 0 < m → Same H H' → tb { D with nx := fun σ' H' => Iv (∃ m', m' < m ∧ Pv m' σ' H'), ct := fun σ' H' => Iv (∃ m', m' < m ∧ Pv m' σ' H'), bk := D.nx } σ H')
    (hd : ∀ m σ H H', Pv m σ H → Same H H' → D.nx σ H') : tWhile c tb D σ H := by
  refine ⟨Pv, ⟨m0, h0⟩, fun m σ H p => ht m σ H p _ fun b H' s hb => ?_⟩
  cases b with
  | true => exact (if_pos rfl).mpr ⟨_, fun _ _ n => n.out, hs m σ H H' p (hb rfl) s⟩
  | false => exact (if_neg Bool.false_ne_true).mpr (hd m σ H H' p s)
end Ur
namespace Ur
open PySem L2
/-! ### a window's numbers, held -/
def hldF (d : Addr) : List (Str × V) := putF "times" (.ref d) []
theorem hld_times {d : Addr} : (hldF d).lookup ("times" : Str) = some (.ref d) := by
  unfold hldF
  rw [lookup_putF, if_pos rfl]
theorem hld_no {d : Addr} {m : Str} (h : ¬ m = "times") : (hldF d).lookup m = none := by
  unfold hldF
  rw [lookup_putF, if_neg h]
  rfl
end Ur
namespace Ur
open PySem L2
theorem pop1_int {H : Hp} {a : Addr} {kvs : List (Key × V)} {n : Int} {v : V} {Q : VK} (h : H a = some (.dK kvs)) (hv : valV kvs (Sum.inl n) = some v) (q : Q v (upd H a (.dK (dropK kvs (Sum.inl n))))) :
    ∃ (kvs : List (Key × V)) (k : Key) (v : V), H a = some (.dK kvs) ∧ V.int n = kV k ∧ valV kvs k = some v ∧ Q v (upd H a (.dK (dropK kvs k))) := ⟨kvs, Sum.inl n, v, h, rfl, hv, q⟩
end Ur
namespace Ur
open PySem L2
theorem pg_tupK {X : Cx} {K : PySem.W.Frag} (hk : X.K = K) {es : List Expr} {k : Nat} {pos : Pos} {t : TGs} {n : Nat} (hc : X.calm = true) (h : PGs X es t)
    (hn : (assignEach es X.env).length = n := by rfl) (hst : (assignEach es X.env).findIdx? (·.1) = none := by rfl) : PG X (.Tuple es k pos) (gTup K n t) := by
  subst hk
  exact pg_tup hc h hn hst
end Ur
namespace Ur
open PySem L2
/-! ### repr -/
/-- repr of data laid in the heap -/
def rRepr (K : PySem.W.Frag) : List V → Hp → VK → Prop := fun xs H Q => ∃ (p : Addr) (d : PyData), xs = [.ref p] ∧ Dp K H (.ref p) d ∧
  d.showable = true ∧ d.hasDict = false ∧ d.depth ≤ 64 ∧ d.shown.length ≤ sizeLine ∧ Q (.str d.shown) H
/-- data whose repr is told -/
structure GoodD (d : PyData) : Prop where
  show_ : d.showable = true
  dict : d.hasDict = false
  deep : d.depth ≤ 64
  fits : d.shown.length ≤ sizeLine
abbrev SmI (i : Int) : Prop := -1000000 < i ∧ i < 1000000
theorem weight_sm {i : Int} (h : SmI i) : PyData.weight (.int i) ≤ 20 := by
  rw [PyData.weight]
  by_cases c : (i == 0) = true
  · rw [if_pos c]; omega
  · rw [if_neg c]
    have c2 : i ≠ 0 := fun e => c (by rw [e]; rfl)
    have k := (Nat.log2_lt (n := i.natAbs) (k := 20) (by omega)).mpr (by have e : (2 : Nat) ^ 20 = 1048576 := by decide
                                                                         omega)
    omega
theorem weightAll_sm : ∀ {ns : List Int}, (∀ n ∈ ns, SmI n) → PyData.weightAll (ns.map .int) ≤ 21 * ns.length
  | [], _ => by rw [List.map_nil, PyData.weightAll]; exact Nat.zero_le _
  | n :: r, h => by
    have k1 := weight_sm (h n List.mem_cons_self)
    have k2 := weightAll_sm (ns := r) fun m hm => h m (List.mem_cons_of_mem _ hm)
    rw [List.map_cons, PyData.weightAll, List.length_cons]
    omega
theorem showAll_sm : ∀ {ns : List Int}, (∀ n ∈ ns, SmI n) → PyData.showableAll (ns.map .int) = true
  | [], _ => by rw [List.map_nil, PyData.showableAll]
  | n :: r, h => by
    have h1 := h n List.mem_cons_self
    rw [List.map_cons, PyData.showableAll, showAll_sm (ns := r) fun m hm => h m (List.mem_cons_of_mem _ hm), Bool.and_true, PyData.showable]
    refine decide_eq_true ?_
    by_cases c : n.natAbs = 0
    · rw [c]; decide
    · exact Nat.lt_of_lt_of_le ((Nat.log2_lt (n := n.natAbs) (k := 20) c).mpr (by have e : (2 : Nat) ^ 20 = 1048576 := by decide
                                                                                  omega)) (by decide)
theorem shortAll_sm {ns : List Int} (h : ∀ n ∈ ns, SmI n) : PyData.intsShortAll 13 (ns.map .int) = true :=
  PyData.intsShortAll_ints ns fun n hn => by
    have := h n hn
    have e : (10 : Nat) ^ 12 = 1000000000000 := by decide
    omega
theorem good_of {d : PyData} (c : d.canLay0 = true) (dp : d.depth ≤ 64) (w : d.weight ≤ 2 ^ 20) (s : d.showable = true) (i : d.intsShort 13 = true) : GoodD d := by
  refine ⟨s, PyData.hasDict_of_canLay d c, dp, PyData.shown_fits_of_layable0 (B := 13) (by decide) (by decide) ?_ i⟩
  show (d.canLay0 && decide (d.depth ≤ 64) && decide (d.weight ≤ 2 ^ 20)) = true
  rw [c, decide_eq_true dp, decide_eq_true w]
  rfl
/-- a tuple of ints -/
def tupD (ns : List Int) : PyData := .tuple (ns.map .int)
theorem depth_tup (ns : List Int) : (tupD ns).depth ≤ 2 := by
  have h := depthAll_ints ns
  unfold tupD
  rw [PyData.depth]
  omega
theorem good_tup {ns : List Int} (h : ∀ n ∈ ns, SmI n) (hl : ns.length ≤ 1000) : GoodD (tupD ns) := by
  have w := weightAll_sm h
  refine good_of (canLayAll_ints ns) (Nat.le_trans (depth_tup ns) (by decide)) ?_ ?_ ?_
  · unfold tupD
    rw [PyData.weight]
    have e : (2 : Nat) ^ 20 = 1048576 := by decide
    omega
  · unfold tupD
    rw [PyData.showable]
    exact showAll_sm h
  · unfold tupD
    rw [PyData.intsShort]
    exact shortAll_sm h
theorem goodAll {ts : List (List Int)} (h : ∀ ns ∈ ts, ns.length ≤ 3 ∧ ∀ n ∈ ns, SmI n) : PyData.weightAll (ts.map tupD) ≤ 64 * ts.length ∧ PyData.showableAll (ts.map tupD) = true ∧ PyData.intsShortAll 13 (ts.map tupD) = true := by
  induction ts with
  | nil => exact ⟨by rw [List.map_nil, PyData.weightAll]; exact Nat.zero_le _, by rw [List.map_nil, PyData.showableAll], by rw [List.map_nil, PyData.intsShortAll]⟩
  | cons ns ts ih =>
    obtain ⟨h1, h2⟩ := h ns List.mem_cons_self
    obtain ⟨i1, i2, i3⟩ := ih fun m hm => h m (List.mem_cons_of_mem _ hm)
    have w := weightAll_sm h2
    have g := good_tup h2 (by omega)
    refine ⟨?_, ?_, ?_⟩
    · have e : PyData.weight (tupD ns) = PyData.weightAll (ns.map .int) := by unfold tupD; rw [PyData.weight]
      rw [List.map_cons, PyData.weightAll, List.length_cons, e]
      omega
    · rw [List.map_cons, PyData.showableAll, g.show_, i2]; rfl
    · have e : PyData.intsShort 13 (tupD ns) = true := by unfold tupD; rw [PyData.intsShort]; exact shortAll_sm h2
      rw [List.map_cons, PyData.intsShortAll, e, i3]; rfl
theorem good_tups {ts : List (List Int)} (h : ∀ ns ∈ ts, ns.length ≤ 3 ∧ ∀ n ∈ ns, SmI n) (hl : ts.length ≤ 1000) : GoodD (.list (ts.map tupD)) := by
  obtain ⟨w, s, i⟩ := goodAll h
  refine good_of (canLayAll_of _ fun d hd => ?_) ?_ ?_ ?_ ?_
  · obtain ⟨ns, _, rfl⟩ := List.mem_map.mp hd
    exact canLayAll_ints ns
  · have k := depthAll_of (m := 2) (ts.map tupD) fun d hd => by
      obtain ⟨ns, _, rfl⟩ := List.mem_map.mp hd
      exact depth_tup ns
    rw [PyData.depth]
    omega
  · rw [PyData.weight]
    have e : (2 : Nat) ^ 20 = 1048576 := by decide
    omega
  · rw [PyData.showable]; exact s
  · rw [PyData.intsShort]; exact i
theorem repr_good {K : PySem.W.Frag} {H : Hp} {p : Addr} {d : PyData} {Q : VK} (h : Dp K H (.ref p) d) (g : GoodD d) (q : Q (.str d.shown) H) : rRepr K [.ref p] H Q :=
  ⟨p, d, rfl, h, g.show_, g.dict, g.deep, g.fits, q⟩
theorem dp_tup {K : PySem.W.Frag} {H : Hp} {p : Addr} {ns : List Int} (h : H p = some (.tup (ns.map V.int))) : Dp K H (.ref p) (tupD ns) := .tup (SqT.of h) (dpAll_ints ns)
theorem repr_pair {K : PySem.W.Frag} {H : Hp} {p : Addr} {x y : Int} {Q : VK} (h : H p = some (.tup [.int x, .int y])) (q : (SmI x ∧ SmI y) ∧ Q (.str (tupD [x, y]).shown) H) : rRepr K [.ref p] H Q :=
  repr_good (dp_tup (ns := [x, y]) h) (good_tup (fun n hn => by
    rcases List.mem_cons.mp hn with rfl | hn
    · exact q.1.1
    · rw [List.mem_singleton.mp hn]; exact q.1.2) (by show 2 ≤ 1000; omega)) q.2
theorem units66 {k : Nat} {A : Around} (r : Room k A) : A.units + 66 < cLine := by have := r.un; omega
end Ur

namespace Ur
open PySem L2 PySem.Spec PyProof.Rows
/-! ### things of any kind: whole or not, lists of such -/
/-- whether a thing is a whole number -/
def IsW (H : Hp) (v : V) (b : Bool) : Prop := (b = true ∧ ∃ i, v = .int i) ∨ (b = false ∧ Kind H v ∧ ∀ i, v ≠ .int i)
theorem IsW.int {H : Hp} {i : Int} : IsW H (.int i) true := .inl ⟨rfl, i, rfl⟩
theorem IsW.bl {H : Hp} {c : Bool} : IsW H (.bl c) false := .inr ⟨rfl, .bl, fun _ z => nomatch z⟩
theorem IsW.str {H : Hp} {x : Str} : IsW H (.str x) false := .inr ⟨rfl, .str, fun _ z => nomatch z⟩
theorem IsW.non {H : Hp} : IsW H .non false := .inr ⟨rfl, .non, fun _ z => nomatch z⟩
theorem IsW.lst {H : Hp} {p : Addr} {xs : List V} (e : H p = some (.lst xs)) : IsW H (.ref p) false := .inr ⟨rfl, .lst e, fun _ z => nomatch z⟩
theorem IsW.tup {H : Hp} {p : Addr} {xs : List V} (e : H p = some (.tup xs)) : IsW H (.ref p) false := .inr ⟨rfl, .tup e, fun _ z => nomatch z⟩
theorem IsW.dct {H : Hp} {p : Addr} {xs : List (Key × V)} (e : H p = some (.dK xs)) : IsW H (.ref p) false := .inr ⟨rfl, .dct e, fun _ z => nomatch z⟩
theorem IsW.same {H H' : Hp} {v : V} {b : Bool} (w : IsW H v b) (s : Same H H') : IsW H' v b := by
  rcases w with w | ⟨e, k, n⟩
  · exact .inl w
  · exact .inr ⟨e, k.same s, n⟩
theorem Kind.whole {H : Hp} {v : V} (k : Kind H v) : (∃ i, v = .int i) ∨ ((∀ i, v ≠ .int i) ∧ IsW H v false) := by
  by_cases h : ∃ i, v = .int i
  · exact .inl h
  · exact .inr ⟨fun i e => h ⟨i, e⟩, .inr ⟨rfl, k, fun i e => h ⟨i, e⟩⟩⟩
theorem Kind.some {H : Hp} {p : Addr} (k : Kind H (.ref p)) : ∃ o, H p = Option.some o := by
  rcases k with ⟨i, e⟩ | ⟨c, e⟩ | ⟨x, e⟩ | e | ⟨q, xs, e, h⟩ | ⟨q, xs, e, h⟩ | ⟨q, xs, e, h⟩
  · cases e
  · cases e
  · cases e
  · cases e
  · cases e; exact ⟨_, h⟩
  · cases e; exact ⟨_, h⟩
  · cases e; exact ⟨_, h⟩
/-- the kind of a thing, a list told apart -/
theorem Kind.isList {K : PySem.W.Frag} {H : Hp} {v : V} (k : Kind H v) : (∃ p xs, v = .ref p ∧ H p = Option.some (.lst xs)) ∨ ((∀ p xs, v = .ref p → H p ≠ Option.some (.lst xs)) ∧ ∃ t, TyX K H v (.type t) ∧ kitB t "list" = Option.some false) := by
  rcases k with ⟨i, rfl⟩ | ⟨c, rfl⟩ | ⟨x, rfl⟩ | rfl | ⟨q, xs, rfl, h⟩ | ⟨q, xs, rfl, h⟩ | ⟨q, xs, rfl, h⟩
  · exact .inr ⟨fun _ _ e => (nomatch e), _, tyx_int, kb_int_list⟩
  · exact .inr ⟨fun _ _ e => (nomatch e), _, tyx_bl, kb_bool_list⟩
  · exact .inr ⟨fun _ _ e => (nomatch e), _, tyx_str, kb_str_list⟩
  · exact .inr ⟨fun _ _ e => (nomatch e), _, tyx_non, kb_NoneType_list⟩
  · exact .inl ⟨q, xs, rfl, h⟩
  · exact .inr ⟨fun p ys e z => (by cases e; rw [h] at z; cases z), _, tyx_tup h, kb_tuple_list⟩
  · exact .inr ⟨fun p ys e z => (by cases e; rw [h] at z; cases z), _, tyx_dK h, kb_dict_list⟩
/-- .. a tuple told apart -/
theorem Kind.isTup {K : PySem.W.Frag} {H : Hp} {v : V} (k : Kind H v) : (∃ p xs, v = .ref p ∧ H p = Option.some (.tup xs)) ∨ ((∀ p xs, v = .ref p → H p ≠ Option.some (.tup xs)) ∧ ∃ t, TyX K H v (.type t) ∧ kitB t "tuple" = Option.some false) := by
  rcases k with ⟨i, rfl⟩ | ⟨c, rfl⟩ | ⟨x, rfl⟩ | rfl | ⟨q, xs, rfl, h⟩ | ⟨q, xs, rfl, h⟩ | ⟨q, xs, rfl, h⟩
  · exact .inr ⟨fun _ _ e => (nomatch e), _, tyx_int, kb_int_tuple⟩
  · exact .inr ⟨fun _ _ e => (nomatch e), _, tyx_bl, kb_bool_tuple⟩
  · exact .inr ⟨fun _ _ e => (nomatch e), _, tyx_str, kb_str_tuple⟩
  · exact .inr ⟨fun _ _ e => (nomatch e), _, tyx_non, kb_NoneType_tuple⟩
  · exact .inr ⟨fun p ys e z => (by cases e; rw [h] at z; cases z), _, tyx_lst h, kb_list_tuple⟩
  · exact .inl ⟨q, xs, rfl, h⟩
  · exact .inr ⟨fun p ys e z => (by cases e; rw [h] at z; cases z), _, tyx_dK h, kb_dict_tuple⟩
/-- all these addresses are taken -/
structure Old (L : Addr → Prop) (H : Hp) : Prop where
  has : ∀ b, L b → ∃ o, H b = some o
theorem Old.free {L : Addr → Prop} {H : Hp} {p : Addr} (o : Old L H) (n : H p = none) : ∀ b, L b → p ≠ b := fun b l e => by
  obtain ⟨u, h⟩ := o.has b l
  rw [← e, n] at h
  cases h
theorem Old.freeV {L : Addr → Prop} {H : Hp} {p : Addr} (o : Old L H) (n : H p = none) : ∀ b, L b → V.ref p ≠ .ref b := fun b l e => o.free n b l (by injection e)
theorem Old.same {L : Addr → Prop} {H H' : Hp} (o : Old L H) (s : Same H H') : Old L H' := ⟨fun b l => by
  obtain ⟨u, h⟩ := o.has b l
  exact ⟨u, s _ _ h⟩⟩
theorem Old.but {L : Addr → Prop} {a : Addr} {u : HO} {H H' : Hp} (o : Old L H) (b : But a H H') (h : H' a = some u) : Old L H' := ⟨fun c l => by
  by_cases e : c = a
  · rw [e]; exact ⟨u, h⟩
  · obtain ⟨w, k⟩ := o.has c l
    exact ⟨w, b _ _ e k⟩⟩
def Bar0 : Addr → Prop := fun _ => False
def Bar1 (a : Addr) : Addr → Prop := fun b => b = a
def Bar2 (a c : Addr) : Addr → Prop := fun b => b = a ∨ b = c
theorem Bar1.self {a : Addr} : Bar1 a a := rfl
theorem Bar1.ne {a p : Addr} (h : p ≠ a) : ∀ b, Bar1 a b → p ≠ b := fun b e z => h (z.trans e)
theorem Bar1.old {a : Addr} {o : HO} {H : Hp} (e : H a = some o) : Old (Bar1 a) H := ⟨fun b l => by cases l; exact ⟨o, e⟩⟩
theorem Bar2.l {a c : Addr} : Bar2 a c a := .inl rfl
theorem Bar2.r {a c : Addr} : Bar2 a c c := .inr rfl
theorem Bar2.ne {a c p : Addr} (h : p ≠ a) (k : p ≠ c) : ∀ b, Bar2 a c b → p ≠ b := fun b e z => e.elim (fun e => h (z.trans e)) fun e => k (z.trans e)
theorem Bar2.old {a c : Addr} {o u : HO} {H : Hp} (e : H a = some o) (f : H c = some u) : Old (Bar2 a c) H := ⟨fun b l => by
  rcases l with rfl | rfl
  · exact ⟨o, e⟩
  · exact ⟨u, f⟩⟩
theorem neV {L : Addr → Prop} {p : Addr} (n : ∀ b, L b → p ≠ b) : ∀ b, L b → V.ref p ≠ .ref b := fun b l e => n b l (by injection e)
/-- items of known kinds, none of them at L -/
structure Its (L : Addr → Prop) (H : Hp) (xs : List V) : Prop where
  all : ∀ x ∈ xs, Kind H x ∧ ∀ b, L b → x ≠ .ref b
theorem Its.nil {L : Addr → Prop} {H : Hp} : Its L H [] := ⟨fun _ h => nomatch h⟩
theorem Its.ints {L : Addr → Prop} {H : Hp} (ns : List Int) : Its L H (ns.map V.int) := ⟨fun x h => by
  obtain ⟨n, _, rfl⟩ := List.mem_map.mp h
  exact ⟨.int, fun _ _ z => nomatch z⟩⟩
theorem Its.sub {L : Addr → Prop} {H : Hp} {xs ys : List V} (t : Its L H xs) (f : ∀ y ∈ ys, y ∈ xs) : Its L H ys := ⟨fun y h => t.all y (f y h)⟩
theorem Its.app {L : Addr → Prop} {H : Hp} {xs ys : List V} (t : Its L H xs) (u : Its L H ys) : Its L H (xs ++ ys) := ⟨fun y h => by
  rcases List.mem_append.mp h with k | k
  · exact t.all y k
  · exact u.all y k⟩
theorem Its.one {L : Addr → Prop} {H : Hp} {x : V} (k : Kind H x) (n : ∀ b, L b → x ≠ .ref b) : Its L H [x] := ⟨fun y h => by rw [List.mem_singleton.mp h]; exact ⟨k, n⟩⟩
theorem Its.two {L : Addr → Prop} {H : Hp} {x y : V} (kx : Kind H x) (nx : ∀ b, L b → x ≠ .ref b) (ky : Kind H y) (ny : ∀ b, L b → y ≠ .ref b) : Its L H [x, y] := (Its.one kx nx).app (.one ky ny)
theorem Its.rep {L : Addr → Prop} {H : Hp} {xs : List V} (t : Its L H xs) (k : Nat) : Its L H (List.replicate k xs).flatten := ⟨fun y h => by
  obtain ⟨l, h1, h2⟩ := List.mem_flatten.mp h
  rw [List.eq_of_mem_replicate h1] at h2
  exact t.all y h2⟩
theorem Its.same {L : Addr → Prop} {H H' : Hp} {xs : List V} (t : Its L H xs) (s : Same H H') : Its L H' xs := ⟨fun x h => ⟨(t.all x h).1.same s, (t.all x h).2⟩⟩
theorem Its.but {L : Addr → Prop} {a : Addr} {H H' : Hp} {xs : List V} (t : Its L H xs) (l : L a) (b : But a H H') : Its L H' xs := ⟨fun x h => ⟨(t.all x h).1.but b ((t.all x h).2 a l), (t.all x h).2⟩⟩
theorem Its.less {L M : Addr → Prop} {H : Hp} {xs : List V} (t : Its L H xs) (f : ∀ b, M b → L b) : Its M H xs := ⟨fun x h => ⟨(t.all x h).1, fun b m => (t.all x h).2 b (f b m)⟩⟩
/-- a thing, a list's items of known kinds; none of this is at L -/
structure Th (L : Addr → Prop) (H : Hp) (v : V) : Prop where
  kind : Kind H v
  ne : ∀ b, L b → v ≠ .ref b
  items : ∀ p xs, v = .ref p → H p = some (.lst xs) → xs.length ≤ 2000 ∧ Its L H xs
theorem Th.same {L : Addr → Prop} {H H' : Hp} {v : V} (t : Th L H v) (s : Same H H') : Th L H' v := ⟨t.kind.same s, t.ne, fun p xs e h => by
  subst e
  obtain ⟨o, ho⟩ := t.kind.some
  have z := s _ _ ho
  rw [h] at z
  cases z
  obtain ⟨l, f⟩ := t.items p xs rfl ho
  exact ⟨l, f.same s⟩⟩
theorem Th.but {L : Addr → Prop} {a : Addr} {H H' : Hp} {v : V} (t : Th L H v) (la : L a) (b : But a H H') : Th L H' v := ⟨t.kind.but b (t.ne a la), t.ne, fun p xs e h => by
  subst e
  obtain ⟨o, ho⟩ := t.kind.some
  have z := b _ _ (fun z => t.ne a la (by rw [z])) ho
  rw [h] at z
  cases z
  obtain ⟨l, f⟩ := t.items p xs rfl ho
  exact ⟨l, f.but la b⟩⟩
theorem Th.less {L M : Addr → Prop} {H : Hp} {v : V} (t : Th L H v) (f : ∀ b, M b → L b) : Th M H v := ⟨t.kind, fun b m => t.ne b (f b m), fun p xs e h => ⟨(t.items p xs e h).1, (t.items p xs e h).2.less f⟩⟩
theorem Th.lst {L : Addr → Prop} {H : Hp} {p : Addr} {xs : List V} (e : H p = some (.lst xs)) (n : ∀ b, L b → p ≠ b) (l : xs.length ≤ 2000) (t : Its L H xs) : Th L H (.ref p) :=
  ⟨.lst e, neV n, fun q ys z h => by cases z; rw [e] at h; cases h; exact ⟨l, t⟩⟩
theorem Th.of {L : Addr → Prop} {H : Hp} {v : V} (k : Kind H v) (n : ∀ b, L b → v ≠ .ref b) (f : ∀ p xs, v = .ref p → H p ≠ some (.lst xs)) : Th L H v := ⟨k, n, fun p xs e h => (f p xs e h).elim⟩
theorem Th.int {L : Addr → Prop} {H : Hp} {i : Int} : Th L H (.int i) := .of .int (fun _ _ z => nomatch z) fun _ _ z => nomatch z
theorem Th.bl {L : Addr → Prop} {H : Hp} {c : Bool} : Th L H (.bl c) := .of .bl (fun _ _ z => nomatch z) fun _ _ z => nomatch z
theorem Th.str {L : Addr → Prop} {H : Hp} {x : Str} : Th L H (.str x) := .of .str (fun _ _ z => nomatch z) fun _ _ z => nomatch z
theorem Th.non {L : Addr → Prop} {H : Hp} : Th L H .non := .of .non (fun _ _ z => nomatch z) fun _ _ z => nomatch z
theorem Th.tup {L : Addr → Prop} {H : Hp} {p : Addr} {xs : List V} (e : H p = some (.tup xs)) (n : ∀ b, L b → p ≠ b) : Th L H (.ref p) := .of (.tup e) (neV n) fun q ys z h => by cases z; rw [e] at h; cases h
theorem Th.dct {L : Addr → Prop} {H : Hp} {p : Addr} {xs : List (Key × V)} (e : H p = some (.dK xs)) (n : ∀ b, L b → p ≠ b) : Th L H (.ref p) := .of (.dct e) (neV n) fun q ys z h => by cases z; rw [e] at h; cases h
/-! lists of values -/
theorem atI_get {xs : List V} {i : Int} (h0 : 0 ≤ i) (h1 : i < xs.length) : ∃ v, atI xs i = some v ∧ v ∈ xs ∧ xs[i.toNat]? = some v := by
  obtain ⟨k, rfl⟩ := Int.eq_ofNat_of_zero_le h0
  have hj : k < xs.length := by omega
  exact ⟨xs[k], atI_nat (List.getElem?_eq_getElem hj), List.getElem_mem hj, by rw [Int.toNat_natCast]; exact List.getElem?_eq_getElem hj⟩
theorem mem_cut {xs : List V} {lo hi : Option Int} {x : V} (h : x ∈ cutV xs lo hi) : x ∈ xs := by
  unfold cutV at h
  exact List.mem_of_mem_drop (List.mem_of_mem_take h)
/-- a cut of a list, its contents no longer looked at -/
theorem cut_is (xs : List V) (lo hi : Option Int) : ∃ ys, cutV xs lo hi = ys ∧ ys.length ≤ xs.length ∧ ∀ y ∈ ys, y ∈ xs := ⟨_, rfl, cutV_length _ _ _, fun _ h => mem_cut h⟩
theorem rep01 (b : Bool) (xs : List V) : ((List.replicate (if b = true then (1 : Int) else 0).toNat xs).flatten).length ≤ xs.length := by
  cases b <;> simp
theorem len_any {K : PySem.W.Frag} {H : Hp} {p : Addr} {xs : List V} {Q : VK} (h : SqL K H p xs) (q : Q (.int xs.length) H) : rLenI K [.ref p] H Q := ⟨p, _, rfl, Or.inl h, q⟩
end Ur
namespace Ur
open PySem L2
theorem nwA' {H : Hp} {x p : Addr} {o : HO} (h : H x = some o) (n : H p = none) : p ≠ x := fun e => by rw [e, h] at n; cases n
theorem ints_of : ∀ {xs : List V}, (∀ x ∈ xs, ∃ n : Int, x = .int n) → ∃ ns : List Int, xs = ns.map V.int
  | [], _ => ⟨[], rfl⟩
  | x :: xs, h => by
    obtain ⟨n, rfl⟩ := h x List.mem_cons_self
    obtain ⟨ns, e⟩ := ints_of fun y hy => h y (List.mem_cons_of_mem _ hy)
    exact ⟨n :: ns, by rw [e]; rfl⟩
theorem int_mem {ns : List Int} {n : Int} : V.int n ∈ ns.map V.int ↔ n ∈ ns := ⟨fun h => by
  obtain ⟨m, hm, e⟩ := List.mem_map.mp h
  cases e; exact hm, fun h => List.mem_map.mpr ⟨n, h, rfl⟩⟩
theorem take_snocV {xs : List V} {i : Nat} {x : V} (h : xs[i]? = some x) : xs.take (i + 1) = xs.take i ++ [x] := by
  rw [List.take_succ, h]; rfl
end Ur

namespace Ur
open PySem PySem.Spec PyProof.Rows L2
/-! ### == and != of lists of things of any kind: of unlike lengths, or with the very same items -/
def rEqL (K : PySem.W.Frag) (neg : Bool) : R2 := fun x y H Q => ∃ (a b : Addr) (xs ys : List V), x = .ref a ∧ y = .ref b ∧ SqL K H a xs ∧ SqL K H b ys ∧
  ((xs.length ≠ ys.length ∧ Q (.bl neg) H) ∨ (xs = ys ∧ (∀ v ∈ xs, flatV v = true ∨ ∃ p, v = .ref p) ∧ Q (.bl (!neg)) H))
theorem eqV_self : ∀ {v : V}, flatV v = true → eqV v v = true
  | .non, _ => rfl
  | .bl b, _ => by simp [eqV]
  | .int i, _ => by simp [eqV]
  | .str x, _ => by simp [eqV]
theorem eqAt_ref {A : Around} {s : Shared} {p : Addr} : SeqAt.EqAt A s (.ref p) (.ref p) true := fun prog w E Q h => by
  unfold eqBool
  refine wpAny_holding ?_
  rw [if_pos (by simp)]
  exact wpAny_pure (M := model prog w) (E := E) h
theorem items_same {A : Around} {s : Shared} {xs : List V} {us ws : List Value} (r1 : Vals xs us) (r2 : Vals xs ws) (f : ∀ v ∈ xs, flatV v = true ∨ ∃ p, v = .ref p) :
    ∀ j (h1 : j < us.toArray.size) (h2 : j < ws.toArray.size), SeqAt.EqAt A s us.toArray[j] ws.toArray[j] true := fun j h1 h2 => by
  have hx : j < xs.length := by rw [r1.length]; simpa using h1
  have e0 := List.getElem?_eq_getElem hx
  obtain ⟨u, e1, ru⟩ := r1.get e0
  obtain ⟨v, e2, rv⟩ := r2.get e0
  have g1 : us.toArray[j] = u := by
    have := (List.getElem?_eq_some_iff.mp e1).2
    simpa using this
  have g2 : ws.toArray[j] = v := by
    have := (List.getElem?_eq_some_iff.mp e2).2
    simpa using this
  rw [g1, g2]
  rcases f _ (List.getElem_mem hx) with k | ⟨p, k⟩
  · have z := eqAt_V (A := A) (s := s) ru rv k k
    rwa [eqV_self k] at z
  · rw [k] at ru rv
    cases (show u = Value.ref p from ru)
    cases (show v = Value.ref p from rv)
    exact eqAt_ref
section
variable {X : Cx} {K : PySem.W.Frag}
theorem op_eqL (hK : X.K = K) (hu : X.A.units + 64 < cLine) : OpR X (compareOp .Eq) (rEqL K false) := by
  subst hK
  intro pins s σ H x y v u Q I rx ry h
  obtain ⟨a, b, xs, ys, rfl, rfl, ha, hb, h⟩ := h
  cases (show v = Value.ref a from rx)
  cases (show u = Value.ref b from ry)
  obtain ⟨i1, r1, p1, _⟩ := I.list ha
  obtain ⟨i2, r2, p2, _⟩ := I.list hb
  have l1 := r1.length
  have l2 := r2.length
  rcases h with ⟨hn, q⟩ | ⟨rfl, f, q⟩
  · exact SeqAt.RcAt.lists_lengths p1.isList p2.isList (by simp; omega) (by omega) X.prog X.w _ _ ⟨.bl _, H, I, rfl, q⟩
  · have z := SeqAt.RcAt.lists (A := X.A) (e := fun _ => true) p1.isList p2.isList (by simp; omega) (by omega) (items_same r1 r2 f) X.prog X.w
    have all : (List.range i1.toArray.size).all (fun _ => true) = true := List.all_eq_true.mpr fun _ _ => rfl
    rw [all] at z
    exact z _ _ ⟨.bl _, H, I, rfl, q⟩
theorem op_neL (hK : X.K = K) (hu : X.A.units + 64 < cLine) : OpR X (compareOp .NotEq) (rEqL K true) := by
  subst hK
  intro pins s σ H x y v u Q I rx ry h
  obtain ⟨a, b, xs, ys, rfl, rfl, ha, hb, h⟩ := h
  cases (show v = Value.ref a from rx)
  cases (show u = Value.ref b from ry)
  obtain ⟨i1, r1, p1, _⟩ := I.list ha
  obtain ⟨i2, r2, p2, _⟩ := I.list hb
  have l1 := r1.length
  have l2 := r2.length
  rcases h with ⟨hn, q⟩ | ⟨rfl, f, q⟩
  · exact SeqAt.RcNeAt.lists_lengths p1.isList p2.isList (by simp; omega) (by omega) X.prog X.w _ _ ⟨.bl _, H, I, rfl, q⟩
  · have z := SeqAt.RcNeAt.lists (A := X.A) (e := fun _ => true) p1.isList p2.isList (by simp; omega) (by omega) (items_same r1 r2 f) X.prog X.w
    have all : (List.range i1.toArray.size).all (fun _ => true) = true := List.all_eq_true.mpr fun _ _ => rfl
    rw [all] at z
    exact z _ _ ⟨.bl _, H, I, rfl, q⟩
end
/-- against a list without items -/
theorem rEqL_nil {K : PySem.W.Frag} {H : Hp} {a b : Addr} {xs : List V} {Q : VK} (h1 : SqL K H a xs) (h2 : SqL K H b []) (q : Q (.bl xs.isEmpty) H) : rEqL K false (.ref a) (.ref b) H Q := by
  cases xs with
  | nil => exact ⟨a, b, [], [], rfl, rfl, h1, h2, .inr ⟨rfl, (fun _ h => nomatch h), q⟩⟩
  | cons x xs => exact ⟨a, b, _, [], rfl, rfl, h1, h2, .inl ⟨by simp, q⟩⟩
theorem rNeL_nil {K : PySem.W.Frag} {H : Hp} {a b : Addr} {xs : List V} {Q : VK} (h1 : SqL K H a xs) (h2 : SqL K H b []) (q : Q (.bl (!xs.isEmpty)) H) : rEqL K true (.ref a) (.ref b) H Q := by
  cases xs with
  | nil => exact ⟨a, b, [], [], rfl, rfl, h1, h2, .inr ⟨rfl, (fun _ h => nomatch h), q⟩⟩
  | cons x xs => exact ⟨a, b, _, [], rfl, rfl, h1, h2, .inl ⟨by simp, q⟩⟩
theorem Kind.flat {H : Hp} {v : V} (k : Kind H v) : flatV v = true ∨ ∃ p, v = .ref p := by
  rcases k with ⟨i, rfl⟩ | ⟨b, rfl⟩ | ⟨x, rfl⟩ | rfl | ⟨p, xs, rfl, _⟩ | ⟨p, xs, rfl, _⟩ | ⟨p, xs, rfl, _⟩
  · exact .inl rfl
  · exact .inl rfl
  · exact .inl rfl
  · exact .inl rfl
  · exact .inr ⟨p, rfl⟩
  · exact .inr ⟨p, rfl⟩
  · exact .inr ⟨p, rfl⟩
theorem rEqL_same {K : PySem.W.Frag} {H : Hp} {neg : Bool} {a b : Addr} {xs : List V} {Q : VK} (h1 : SqL K H a xs) (h2 : SqL K H b xs) (f : ∀ x ∈ xs, Kind H x) (q : Q (.bl (!neg)) H) : rEqL K neg (.ref a) (.ref b) H Q :=
  ⟨a, b, xs, xs, rfl, rfl, h1, h2, .inr ⟨rfl, fun v hv => (f v hv).flat, q⟩⟩
section
variable {K : PySem.W.Frag} {a : Addr} {xs : List V} {σ : L2.St} {H1 : Hp} {Dl : Addr} {te : TE} {tt : TT} {vs : List Nat} {j : Nat} {Qd : Hp → Prop}
/-- [e for x in a list of things if t] -/
theorem lc_valsIf (t : V → Bool) (f : V → V) (hn : xs.length ≤ 1000000) (ha : SqL K H1 a xs) (hD : H1 Dl = none) (hw : ∀ x, wipe ((wipe σ vs).set j (some x)) vs = wipe σ vs)
    (ht : ∀ (x : V) H', x ∈ xs → Same H1 H' → ∀ Q' : Bool → Hp → Prop, (∀ H4, Same H' H4 → Q' (t x) H4) → tt ((wipe σ vs).set j (some x)) H' Q')
    (he : ∀ (x : V) H', x ∈ xs → t x = true → Same H1 H' → ∀ Q' : VK, (∀ H4, Same H' H4 → Q' (f x) H4) → te ((wipe σ vs).set j (some x)) H' Q')
    (hd : ∀ H', Same H1 H' → H' Dl = some (.lst ((xs.filter t).map f)) → Qd H') :
    ∃ W : Nat → Nat → Hp → Prop, (∃ m, W 0 m (upd H1 Dl (.lst []))) ∧ ∀ i m H, W i m H →
      ((Itl K a).stop i H ∧ Qd H) ∨ ((Itl K a).go i H ∧ ∃ Nx : Hp → Prop, (∀ H', Nx H' → ∃ m', m' < m ∧ W (i + 1) m' H') ∧ ∀ x H', (Itl K a).yld i H x H' → gName j x (wipe σ vs) H' fun σ2 H2 => wipe σ2 vs = wipe σ vs ∧ tt σ2 H2 fun b H3 =>
        if b = true then te σ2 H3 fun y H4 => ∃ acc, H4 Dl = some (.lst acc) ∧ acc.length < sizeLine ∧ Nx (upd H4 Dl (.lst (acc ++ [y]))) else Nx H3) := by
  refine lc_list (K := K) (a := a) (xs := xs) (fun i H' => Same H1 H' ∧ H' Dl = some (.lst (((xs.take i).filter t).map f))) ⟨same_new hD, upd_same⟩ (fun i H' _ p => p.1.seq ha) (fun i x H' hx p => ?_) (fun H' p => ?_)
  · have hi := (List.getElem?_eq_some_iff.mp hx).1
    have hm := List.mem_of_getElem? hx
    refine ⟨hw _, ?_⟩
    refine ht x H' hm p.1 _ fun H3 s3 => ?_
    have e1 := take_snocV hx
    cases hb : t x with
    | true =>
      refine (if_pos rfl).mpr ?_
      refine he x H3 hm hb (p.1.trans s3) _ fun H4 s => ⟨_, s _ _ (s3 _ _ p.2), szl ?_, same_upd' hD ((p.1.trans s3).trans s), ?_⟩
      · have := List.length_filter_le t (xs.take i)
        rw [List.length_take] at this
        rw [List.length_map]; omega
      rw [upd_same, e1, List.filter_append, List.map_append, List.filter_cons, if_pos hb]
      rfl
    | false =>
      refine (if_neg Bool.false_ne_true).mpr ⟨p.1.trans s3, ?_⟩
      rw [e1, List.filter_append, List.map_append, List.filter_cons, if_neg (by rw [hb]; exact Bool.false_ne_true)]
      simpa using s3 _ _ p.2
  · rw [List.take_length] at p
    exact hd H' p.1 p.2
/-- [e for x in a list of things] -/
theorem lc_vals (f : V → V) (hn : xs.length ≤ 1000000) (ha : SqL K H1 a xs) (hD : H1 Dl = none) (hw : ∀ x, wipe ((wipe σ vs).set j (some x)) vs = wipe σ vs)
    (he : ∀ (x : V) H', x ∈ xs → Same H1 H' → ∀ Q' : VK, (∀ H4, Same H' H4 → Q' (f x) H4) → te ((wipe σ vs).set j (some x)) H' Q')
    (hd : ∀ H', Same H1 H' → H' Dl = some (.lst (xs.map f)) → Qd H') :
    ∃ W : Nat → Nat → Hp → Prop, (∃ m, W 0 m (upd H1 Dl (.lst []))) ∧ ∀ i m H, W i m H →
      ((Itl K a).stop i H ∧ Qd H) ∨ ((Itl K a).go i H ∧ ∃ Nx : Hp → Prop, (∀ H', Nx H' → ∃ m', m' < m ∧ W (i + 1) m' H') ∧ ∀ x H', (Itl K a).yld i H x H' → gName j x (wipe σ vs) H' fun σ2 H2 => wipe σ2 vs = wipe σ vs ∧ tYes σ2 H2 fun b H3 =>
        if b = true then te σ2 H3 fun y H4 => ∃ acc, H4 Dl = some (.lst acc) ∧ acc.length < sizeLine ∧ Nx (upd H4 Dl (.lst (acc ++ [y]))) else Nx H3) := by
  refine lc_list (K := K) (a := a) (xs := xs) (fun i H' => Same H1 H' ∧ H' Dl = some (.lst ((xs.take i).map f))) ⟨same_new hD, upd_same⟩ (fun i H' _ p => p.1.seq ha) (fun i x H' hx p => ?_) (fun H' p => ?_)
  · have hi := (List.getElem?_eq_some_iff.mp hx).1
    have hm := List.mem_of_getElem? hx
    refine ⟨hw _, tyes_ok ?_⟩
    refine he x H' hm p.1 _ fun H4 s => ⟨_, s _ _ p.2, szl ?_, same_upd' hD (p.1.trans s), ?_⟩
    · rw [List.length_map, List.length_take]; omega
    rw [upd_same, take_snocV hx, List.map_append]
    rfl
  · rw [List.take_length] at p
    exact hd H' p.1 p.2
end
/-- whether a value is a whole number -/
def isI : V → Bool
  | .int _ => true
  | _ => false
theorem isI_int {v : V} (h : isI v = true) : ∃ i, v = .int i := by
  cases v <;> first | exact ⟨_, rfl⟩ | cases h
theorem Kind.isW {H : Hp} {v : V} (k : Kind H v) : IsW H v (isI v) := by
  rcases k.whole with ⟨i, rfl⟩ | ⟨hn, w⟩
  · exact .int
  · have : isI v = false := by
      cases h : isI v with
      | false => rfl
      | true => obtain ⟨i, e⟩ := isI_int h; exact (hn i e).elim
    rw [this]; exact w
end Ur

namespace Ur
open PySem L2
/-! ### partings, window by window as long as can be -/
/-- behind i numbers: the places at which windows ended, and where the last one began -/
def gs (ns : List Int) (m : Int) : Nat → List Int × Nat
  | 0 => ([], 0)
  | i + 1 => if ns.getD i 0 ∉ (ns.drop (gs ns m i).2).take (i - (gs ns m i).2) ∧ (ulen ((ns.drop (gs ns m i).2).take (i - (gs ns m i).2)) : Int) = m then ((gs ns m i).1 ++ [(i : Int)], i) else gs ns m i
/-- the window that is open behind i numbers -/
def gwin (ns : List Int) (m : Int) (i : Nat) : List Int := (ns.drop (gs ns m i).2).take (i - (gs ns m i).2)
def parts (ns : List Int) (m : Int) : List Int := (gs ns m ns.length).1 ++ if ns.length = 0 then [] else [(ns.length : Int)]
theorem gs_succ (ns : List Int) (m : Int) (i : Nat) : gs ns m (i + 1) = if ns.getD i 0 ∉ gwin ns m i ∧ (ulen (gwin ns m i) : Int) = m then ((gs ns m i).1 ++ [(i : Int)], i) else gs ns m i := rfl
theorem gs_le (ns : List Int) (m : Int) : ∀ i, (gs ns m i).2 ≤ i
  | 0 => Nat.le_refl 0
  | i + 1 => by
    rw [gs_succ]
    split
    · exact Nat.le_succ i
    · exact Nat.le_succ_of_le (gs_le ns m i)
theorem gs_len (ns : List Int) (m : Int) : ∀ i, (gs ns m i).1.length ≤ i
  | 0 => Nat.le_refl 0
  | i + 1 => by
    have := gs_len ns m i
    rw [gs_succ]
    split
    · rw [List.length_append]; exact Nat.succ_le_succ this
    · exact Nat.le_succ_of_le this
theorem gs_cut {ns : List Int} {m : Int} {i : Nat} {x : Int} (hx : ns[i]? = some x) (h1 : x ∉ gwin ns m i) (h2 : (ulen (gwin ns m i) : Int) = m) : gs ns m (i + 1) = ((gs ns m i).1 ++ [(i : Int)], i) ∧ gwin ns m (i + 1) = [x] := by
  have e : gs ns m (i + 1) = ((gs ns m i).1 ++ [(i : Int)], i) := by rw [gs_succ, getD_of hx, if_pos ⟨h1, h2⟩]
  refine ⟨e, ?_⟩
  unfold gwin
  rw [e]
  show (ns.drop i).take (i + 1 - i) = [x]
  have h := (List.getElem?_eq_some_iff.mp hx)
  obtain ⟨hi, hg⟩ := h
  rw [List.drop_eq_getElem_cons hi, show i + 1 - i = 1 by omega, hg]
  rfl
theorem gs_go {ns : List Int} {m : Int} {i : Nat} {x : Int} (hx : ns[i]? = some x) (h : ¬ (x ∉ gwin ns m i ∧ (ulen (gwin ns m i) : Int) = m)) : gs ns m (i + 1) = gs ns m i ∧ gwin ns m (i + 1) = gwin ns m i ++ [x] := by
  have e : gs ns m (i + 1) = gs ns m i := by rw [gs_succ, getD_of hx, if_neg h]
  refine ⟨e, ?_⟩
  unfold gwin
  rw [e]
  have hl := gs_le ns m i
  rw [show i + 1 - (gs ns m i).2 = i - (gs ns m i).2 + 1 by omega]
  exact take_snoc (by rw [List.getElem?_drop, show (gs ns m i).2 + (i - (gs ns m i).2) = i by omega]; exact hx)
theorem gwin_le {ns : List Int} {m : Int} (hm : 1 ≤ m) : ∀ i, i ≤ ns.length → (ulen (gwin ns m i) : Int) ≤ m
  | 0, _ => by
    show ((ulen ((ns.drop 0).take 0) : Nat) : Int) ≤ m
    rw [List.take_zero]
    exact Int.le_trans (by decide) hm
  | i + 1, h => by
    have ih := gwin_le (ns := ns) hm i (by omega)
    have hx := get_of (ns := ns) (i := i) (by omega)
    by_cases c : ns.getD i 0 ∉ gwin ns m i ∧ (ulen (gwin ns m i) : Int) = m
    · rw [(gs_cut hx c.1 c.2).2]
      exact hm
    · rw [(gs_go hx c).2, ulen_snoc]
      by_cases q : ns.getD i 0 ∈ gwin ns m i
      · rw [if_pos q]; exact ih
      · rw [if_neg q]
        have : ¬ (ulen (gwin ns m i) : Int) = m := fun z => c ⟨q, z⟩
        omega
theorem gs_1 {ns : List Int} {m : Int} (hm : 1 ≤ m) (hn : 0 < ns.length) : gs ns m 1 = ([], 0) := by
  refine (gs_go (i := 0) (get_of hn) (fun z => ?_)).1
  have h := z.2
  have e : gwin ns m 0 = [] := by
    show (ns.drop 0).take 0 = []
    rw [List.take_zero]
  rw [e] at h
  have e2 : ((ulen ([] : List Int) : Nat) : Int) = 0 := rfl
  omega
theorem parts_of {ns : List Int} {m : Int} {fs : List Int} {f : Nat} (h : gs ns m ns.length = (fs, f)) (hn : 0 < ns.length) : parts ns m = fs ++ [(ns.length : Int)] := by
  unfold parts
  rw [h, if_neg (by omega)]
theorem parts_nil {ns : List Int} {m : Int} (hn : ns.length = 0) : parts ns m = [] := by
  unfold parts
  rw [hn, if_pos rfl]
  rfl
theorem parts_take (ns : List Int) (m : Int) : (gs ns m ns.length).1 ++ ([(ns.length : Int)].take (ns.length : Int).toNat) = parts ns m := by
  unfold parts
  congr 1
  rcases Nat.eq_zero_or_pos ns.length with h | h
  · rw [h, if_pos rfl]; rfl
  · rw [if_neg (by omega), List.take_of_length_le (by show 1 ≤ _; omega)]
theorem parts_len (ns : List Int) (m : Int) : (parts ns m).length ≤ ns.length + 1 := by
  have := gs_len ns m ns.length
  unfold parts
  rw [List.length_append]
  split <;> simp <;> omega
theorem gwin_of {ns : List Int} {m : Int} {fs : List Int} {f b : Nat} (h : gs ns m b = (fs, f)) : gwin ns m b = (ns.drop f).take (b - f) := by
  unfold gwin
  rw [h]
end Ur
namespace Ur
open PySem L2
/-- where windows ended, but for the last -/
def cuts (ns : List Int) (m : Int) : List Int := (gs ns m ns.length).1
/-- where the j-th window began -/
def stc (cs : List Int) (j : Nat) : Int := ((0 : Int) :: cs).getD j 0
theorem stc_0 (cs : List Int) : stc cs 0 = 0 := rfl
theorem stc_s (cs : List Int) (j : Nat) : stc cs (j + 1) = cs.getD j 0 := rfl
theorem getD_app1 {cs : List Int} {x : Int} {j : Nat} (h : j < cs.length) : (cs ++ [x]).getD j 0 = cs.getD j 0 := by
  rw [List.getD_eq_getElem?_getD, List.getD_eq_getElem?_getD, List.getElem?_append_left h]
theorem getD_app2 {cs : List Int} {x : Int} : (cs ++ [x]).getD cs.length 0 = x := by
  rw [List.getD_eq_getElem?_getD, List.getElem?_append_right (Nat.le_refl _), Nat.sub_self]; rfl
theorem stc_app {cs : List Int} {x : Int} {j : Nat} (h : j ≤ cs.length) : stc (cs ++ [x]) j = stc cs j := by
  cases j with
  | zero => rfl
  | succ j => rw [stc_s, stc_s, getD_app1 (by omega)]
/-- what is known of the windows behind i numbers -/
structure GInv (ns : List Int) (m : Int) (i : Nat) (cs : List Int) (f : Nat) : Prop where
  last : stc cs cs.length = (f : Int)
  each : ∀ j, j < cs.length → 0 ≤ stc cs j ∧ stc cs j < cs.getD j 0 ∧ cs.getD j 0 < i ∧ (wunN ns (stc cs j).toNat (cs.getD j 0).toNat : Int) = m ∧ (wunN ns (stc cs j).toNat (cs.getD j 0 + 1).toNat : Int) = m + 1
theorem gs_inv {ns : List Int} {m : Int} (hm : 1 ≤ m) : ∀ i, i ≤ ns.length → GInv ns m i (gs ns m i).1 (gs ns m i).2
  | 0, _ => ⟨rfl, fun j h => absurd h (Nat.not_lt_zero j)⟩
  | i + 1, h => by
    have ih := gs_inv (ns := ns) hm i (by omega)
    have hx := get_of (ns := ns) (i := i) (by omega)
    by_cases c : ns.getD i 0 ∉ gwin ns m i ∧ (ulen (gwin ns m i) : Int) = m
    · have e := (gs_cut hx c.1 c.2).1
      rw [e]
      have hl := gs_le ns m i
      have hfi : (gs ns m i).2 < i := by
        refine Nat.lt_of_le_of_ne hl fun k => ?_
        have c2 := c.2
        unfold gwin at c2
        rw [k, Nat.sub_self, List.take_zero] at c2
        have e0 : ((ulen ([] : List Int) : Nat) : Int) = 0 := rfl
        omega
      refine ⟨?_, fun j hj => ?_⟩
      · show stc ((gs ns m i).1 ++ [(i : Int)]) ((gs ns m i).1 ++ [(i : Int)]).length = (i : Int)
        rw [List.length_append]
        show stc _ ((gs ns m i).1.length + 1) = _
        rw [stc_s, getD_app2]
      · have hj2 : j < (gs ns m i).1.length + 1 := by
          have h3 : ((gs ns m i).1 ++ [(i : Int)]).length = (gs ns m i).1.length + 1 := by rw [List.length_append]; rfl
          show j < _
          rw [← h3]; exact hj
        rw [stc_app (cs := (gs ns m i).1) (show j ≤ (gs ns m i).1.length by omega)]
        by_cases hjl : j < (gs ns m i).1.length
        · rw [getD_app1 hjl]
          obtain ⟨a1, a2, a3, a4, a5⟩ := ih.each j hjl
          exact ⟨a1, a2, by omega, a4, a5⟩
        · have hje : j = (gs ns m i).1.length := by omega
          subst hje
          rw [getD_app2, ih.last]
          have w1 : (wunN ns (gs ns m i).2 i : Int) = m := c.2
          have w2 : (wunN ns (gs ns m i).2 (i + 1) : Int) = m + 1 := by
            unfold wunN
            rw [show i + 1 - (gs ns m i).2 = i - (gs ns m i).2 + 1 by omega, take_snoc (x := ns.getD i 0) (by rw [List.getElem?_drop, show (gs ns m i).2 + (i - (gs ns m i).2) = i by omega]; exact hx), ulen_snoc, if_neg (show ns.getD i 0 ∉ (ns.drop (gs ns m i).2).take (i - (gs ns m i).2) from c.1)]
            have := c.2
            unfold gwin at this
            omega
          refine ⟨by omega, by omega, by omega, ?_, ?_⟩
          · rw [Int.toNat_natCast, Int.toNat_natCast]; exact w1
          · rw [Int.toNat_natCast, show ((i : Int) + 1).toNat = i + 1 by omega]; exact w2
    · rw [(gs_go hx c).1]
      exact ⟨ih.last, fun j hj => by
        obtain ⟨a1, a2, a3, a4, a5⟩ := ih.each j hj
        exact ⟨a1, a2, by omega, a4, a5⟩⟩
theorem cuts_ok {ns : List Int} {m : Int} (hm : 1 ≤ m) {j : Nat} (hj : j < (cuts ns m).length) : 0 ≤ stc (cuts ns m) j ∧ stc (cuts ns m) j < (cuts ns m).getD j 0 ∧ (cuts ns m).getD j 0 < ns.length ∧ (wunN ns (stc (cuts ns m) j).toNat ((cuts ns m).getD j 0).toNat : Int) = m ∧ (wunN ns (stc (cuts ns m) j).toNat ((cuts ns m).getD j 0 + 1).toNat : Int) = m + 1 :=
  (gs_inv hm ns.length (Nat.le_refl _)).each j hj
theorem cuts_last {ns : List Int} {m : Int} (hm : 1 ≤ m) : stc (cuts ns m) (cuts ns m).length = ((gs ns m ns.length).2 : Int) := (gs_inv hm ns.length (Nat.le_refl _)).last
theorem parts_cuts (ns : List Int) (m : Int) : parts ns m = cuts ns m ++ if ns.length = 0 then [] else [(ns.length : Int)] := rfl
theorem parts_init (ns : List Int) (m : Int) : (parts ns m).dropLast = cuts ns m := by
  rw [parts_cuts]
  by_cases h : ns.length = 0
  · rw [if_pos h, List.append_nil]
    have : cuts ns m = [] := by unfold cuts; rw [h]; rfl
    rw [this]; rfl
  · rw [if_neg h, List.dropLast_concat]
theorem parts_length (ns : List Int) (m : Int) : ((parts ns m).length : Int) = (cuts ns m).length + (if ns.length = 0 then 0 else 1 : Int) := by
  rw [parts_cuts, List.length_append]
  split <;> simp
theorem cuts_len (ns : List Int) (m : Int) : (cuts ns m).length ≤ ns.length := gs_len ns m ns.length
/-- the paper: windows one number too wide -/
def paperK (cs : List Int) (k : Nat) : List (Int × Int) := (List.range k).map fun j => (stc cs j, cs.getD j 0 + 1)
theorem paperK_s (cs : List Int) (k : Nat) : paperK cs (k + 1) = paperK cs k ++ [(stc cs k, cs.getD k 0 + 1)] := by
  unfold paperK
  rw [List.range_succ, List.map_append]; rfl
theorem paperK_len (cs : List Int) (k : Nat) : (paperK cs k).length = k := by simp [paperK]
theorem paperK_get {cs : List Int} {k j : Nat} (h : j < k) : (paperK cs k).getD j (0, 0) = (stc cs j, cs.getD j 0 + 1) := by
  unfold paperK
  rw [List.getD_eq_getElem?_getD, List.getElem?_map, List.getElem?_range h]; rfl
end Ur

namespace Ur
open PySem L2
/-! ### fewest windows -/
/-- idx tells each place its window: rising, and none with more than m unlike numbers -/
structure Col (ns : List Int) (m : Int) (idx : Nat → Nat) : Prop where
  up : ∀ i, i + 1 < ns.length → idx i ≤ idx (i + 1)
  few : ∀ p q, p ≤ q → q < ns.length → idx p = idx q → (wunN ns p (q + 1) : Int) ≤ m
theorem Col.mono {ns : List Int} {m : Int} {idx : Nat → Nat} (c : Col ns m idx) {p : Nat} : ∀ {k : Nat}, p + k < ns.length → idx p ≤ idx (p + k)
  | 0, _ => Nat.le_refl _
  | k + 1, h => Nat.le_trans (c.mono (k := k) (by omega)) (c.up (p + k) h)
theorem gs_grow (ns : List Int) (m : Int) (i : Nat) : ∃ cs, (gs ns m (i + 1)).1 = (gs ns m i).1 ++ cs ∧ (cs = [] → gs ns m (i + 1) = gs ns m i) := by
  rw [gs_succ]
  split
  · exact ⟨[(i : Int)], rfl, fun h => nomatch h⟩
  · exact ⟨[], (List.append_nil _).symm, fun _ => rfl⟩
theorem gs_more (ns : List Int) (m : Int) (i : Nat) : ∀ k, ∃ cs, (gs ns m (i + k)).1 = (gs ns m i).1 ++ cs ∧ (cs = [] → gs ns m (i + k) = gs ns m i)
  | 0 => ⟨[], (List.append_nil _).symm, fun _ => rfl⟩
  | k + 1 => by
    obtain ⟨cs, e1, e2⟩ := gs_more ns m i k
    obtain ⟨ds, d1, d2⟩ := gs_grow ns m (i + k)
    refine ⟨cs ++ ds, by rw [← Nat.add_assoc, d1, e1, List.append_assoc], fun h => ?_⟩
    obtain ⟨h1, h2⟩ := List.append_eq_nil_iff.mp h
    rw [← Nat.add_assoc, d2 h2, e2 h1]
/-- the greedy parting is one -/
theorem gs_col {ns : List Int} {m m' : Int} (hm : 1 ≤ m) (hmm : m ≤ m') : Col ns m' (fun i => (gs ns m (i + 1)).1.length) := by
  refine ⟨fun i h => ?_, fun p q hpq hq e => ?_⟩
  · obtain ⟨cs, e, _⟩ := gs_grow ns m (i + 1)
    show (gs ns m (i + 1)).1.length ≤ (gs ns m (i + 1 + 1)).1.length
    rw [e, List.length_append]
    omega
  · obtain ⟨cs, e1, e2⟩ := gs_more ns m (p + 1) (q - p)
    rw [show p + 1 + (q - p) = q + 1 by omega] at e1 e2
    have e3 : (gs ns m (p + 1)).1.length = (gs ns m (q + 1)).1.length := e
    rw [e1, List.length_append] at e3
    have e4 := e2 (List.eq_nil_of_length_eq_zero (by omega))
    have w := gwin_le (ns := ns) hm (q + 1) (by omega)
    have hl := gs_le ns m (p + 1)
    rw [← e4] at hl
    have w2 : (wunN ns (gs ns m (q + 1)).2 (q + 1) : Int) ≤ m := w
    by_cases c : (gs ns m (q + 1)).2 ≤ p
    · have k := wunN_monoF (ns := ns) (b := q + 1) (by omega) (k := p - (gs ns m (q + 1)).2) (f := (gs ns m (q + 1)).2) (by omega)
      rw [show (gs ns m (q + 1)).2 + (p - (gs ns m (q + 1)).2) = p by omega] at k
      omega
    · have c2 : (gs ns m (p + 1)).2 ≤ p := by
        rw [gs_succ]
        split
        · exact Nat.le_refl p
        · exact gs_le ns m p
      rw [← e4] at c2
      omega
/-- .. and none has fewer windows -/
theorem gs_few {ns : List Int} {m : Int} {idx : Nat → Nat} (hm : 1 ≤ m) (c : Col ns m idx) : ∀ i, i < ns.length → (gs ns m (i + 1)).1.length + idx 0 ≤ idx i ∧ ((gs ns m (i + 1)).1.length + idx 0 = idx i → idx (gs ns m (i + 1)).2 = idx i)
  | 0, h => by
    have e := gs_1 hm h
    show (gs ns m 1).1.length + idx 0 ≤ idx 0 ∧ ((gs ns m 1).1.length + idx 0 = idx 0 → idx (gs ns m 1).2 = idx 0)
    rw [e]
    exact ⟨by show 0 + idx 0 ≤ idx 0; omega, fun _ => rfl⟩
  | i + 1, h => by
    obtain ⟨h1, h2⟩ := gs_few hm c i (by omega)
    have u := c.up i h
    have hx := get_of (ns := ns) (i := i + 1) h
    by_cases k : ns.getD (i + 1) 0 ∉ gwin ns m (i + 1) ∧ (ulen (gwin ns m (i + 1)) : Int) = m
    · have e := (gs_cut hx k.1 k.2).1
      rw [e]
      refine ⟨?_, fun _ => rfl⟩
      show ((gs ns m (i + 1)).1 ++ [((i + 1 : Nat) : Int)]).length + idx 0 ≤ idx (i + 1)
      rw [List.length_append]
      show (gs ns m (i + 1)).1.length + 1 + idx 0 ≤ idx (i + 1)
      by_cases q : (gs ns m (i + 1)).1.length + idx 0 = idx i
      · by_cases z : idx (i + 1) = idx i
        · exfalso
          have h3 := h2 q
          have hl := gs_le ns m (i + 1)
          have f := c.few (gs ns m (i + 1)).2 (i + 1) hl h (h3.trans z.symm)
          have w : (wunN ns (gs ns m (i + 1)).2 (i + 1 + 1) : Int) = m + 1 := by
            have k2 := k.2
            unfold gwin at k2
            unfold wunN
            rw [show i + 1 + 1 - (gs ns m (i + 1)).2 = i + 1 - (gs ns m (i + 1)).2 + 1 by omega, take_snoc (x := ns.getD (i + 1) 0) (by rw [List.getElem?_drop, show (gs ns m (i + 1)).2 + (i + 1 - (gs ns m (i + 1)).2) = i + 1 by omega]; exact hx), ulen_snoc, if_neg (show ns.getD (i + 1) 0 ∉ (ns.drop (gs ns m (i + 1)).2).take (i + 1 - (gs ns m (i + 1)).2) from k.1)]
            omega
          omega
        · omega
      · omega
    · have e := (gs_go hx k).1
      rw [e]
      exact ⟨by omega, fun q => by
        have h3 := h2 (by omega)
        have : idx i = idx (i + 1) := by omega
        omega⟩
/-- how many windows -/
def nparts (ns : List Int) (m : Int) : Nat := (parts ns m).length
theorem nparts_0 {ns : List Int} {m : Int} (h : ns.length = 0) : nparts ns m = 0 := by
  unfold nparts
  rw [parts_nil h]; rfl
theorem nparts_1 {ns : List Int} {m : Int} (h : 0 < ns.length) : nparts ns m = (cuts ns m).length + 1 := by
  unfold nparts
  rw [parts_cuts, if_neg (by omega), List.length_append]; rfl
theorem nparts_le {ns : List Int} {m : Int} {idx : Nat → Nat} (hm : 1 ≤ m) (h : 0 < ns.length) (c : Col ns m idx) : nparts ns m + idx 0 ≤ idx (ns.length - 1) + 1 := by
  rw [nparts_1 h]
  have k := (gs_few hm c (ns.length - 1) (by omega)).1
  rw [show ns.length - 1 + 1 = ns.length by omega] at k
  unfold cuts
  omega
/-- with more at once there are no more windows -/
theorem nparts_mono {ns : List Int} {m m' : Int} (hm : 1 ≤ m) (hmm : m ≤ m') : nparts ns m' ≤ nparts ns m := by
  by_cases h : ns.length = 0
  · rw [nparts_0 h, nparts_0 h]; exact Nat.le_refl 0
  · have k := nparts_le (by omega) (by omega) (gs_col (ns := ns) hm hmm)
    have e := gs_1 (ns := ns) hm (by omega)
    rw [nparts_1 (m := m) (by omega)]
    have e2 : (gs ns m (ns.length - 1 + 1)).1.length = (cuts ns m).length := by rw [show ns.length - 1 + 1 = ns.length by omega]; rfl
    have e3 : (gs ns m (0 + 1)).1.length = 0 := by
      show (gs ns m 1).1.length = 0
      rw [e]; rfl
    have k2 : nparts ns m' + (gs ns m (0 + 1)).1.length ≤ (gs ns m (ns.length - 1 + 1)).1.length + 1 := k
    omega
theorem wunN_reverse {ns : List Int} {p q : Nat} (h : p ≤ q) (hq : q ≤ ns.length) : wunN ns.reverse p q = wunN ns (ns.length - q) (ns.length - p) := by
  refine ulen_congr fun x => ?_
  rw [mem_win, mem_win]
  constructor
  · rintro ⟨j, h1, h2, e⟩
    have hj : j < ns.length := by omega
    rw [List.getElem?_reverse hj] at e
    exact ⟨ns.length - 1 - j, by omega, by omega, e⟩
  · rintro ⟨j, h1, h2, e⟩
    have hj := (List.getElem?_eq_some_iff.mp e).1
    refine ⟨ns.length - 1 - j, by omega, by omega, ?_⟩
    rw [List.getElem?_reverse (by omega), show ns.length - 1 - (ns.length - 1 - j) = j by omega]
    exact e
theorem col_rev {ns : List Int} {m : Int} {idx : Nat → Nat} (c : Col ns m idx) : Col ns.reverse m (fun i => idx (ns.length - 1) - idx (ns.length - 1 - i)) := by
  have top : ∀ i, i < ns.length → idx i ≤ idx (ns.length - 1) := fun i hi => by
    have k := c.mono (p := i) (k := ns.length - 1 - i) (by omega)
    rwa [show i + (ns.length - 1 - i) = ns.length - 1 by omega] at k
  refine ⟨fun i h => ?_, fun p q hpq hq e => ?_⟩
  · rw [List.length_reverse] at h
    have u := c.up (ns.length - 1 - (i + 1)) (by omega)
    rw [show ns.length - 1 - (i + 1) + 1 = ns.length - 1 - i by omega] at u
    show idx (ns.length - 1) - idx (ns.length - 1 - i) ≤ idx (ns.length - 1) - idx (ns.length - 1 - (i + 1))
    omega
  · rw [List.length_reverse] at hq
    have e2 : idx (ns.length - 1) - idx (ns.length - 1 - p) = idx (ns.length - 1) - idx (ns.length - 1 - q) := e
    have t1 := top (ns.length - 1 - p) (by omega)
    have t2 := top (ns.length - 1 - q) (by omega)
    have f := c.few (ns.length - 1 - q) (ns.length - 1 - p) (by omega) (by omega) (by omega)
    rw [wunN_reverse (by omega) (by omega)]
    rwa [show ns.length - 1 - q = ns.length - (q + 1) by omega, show ns.length - 1 - p + 1 = ns.length - p by omega] at f
theorem nparts_rev_le {ns : List Int} {m : Int} (hm : 1 ≤ m) : nparts ns.reverse m ≤ nparts ns m := by
  by_cases h : ns.length = 0
  · rw [nparts_0 h, nparts_0 (by rw [List.length_reverse]; exact h)]; exact Nat.le_refl 0
  · have k := nparts_le (ns := ns.reverse) hm (by rw [List.length_reverse]; omega) (col_rev (gs_col (ns := ns) hm (Int.le_refl m)))
    rw [List.length_reverse] at k
    have e := gs_1 (ns := ns) hm (by omega)
    rw [nparts_1 (m := m) (ns := ns) (by omega)]
    have e2 : (gs ns m (ns.length - 1 + 1)).1.length = (cuts ns m).length := by rw [show ns.length - 1 + 1 = ns.length by omega]; rfl
    have e3 : (gs ns m (ns.length - 1 - (ns.length - 1) + 1)).1.length = 0 := by
      rw [Nat.sub_self]
      show (gs ns m 1).1.length = 0
      rw [e]; rfl
    have k2 : nparts ns.reverse m + ((gs ns m (ns.length - 1 + 1)).1.length - (gs ns m (ns.length - 1 - 0 + 1)).1.length) ≤ (gs ns m (ns.length - 1 + 1)).1.length - (gs ns m (ns.length - 1 - (ns.length - 1) + 1)).1.length + 1 := k
    rw [Nat.sub_zero] at k2
    omega
theorem nparts_rev {ns : List Int} {m : Int} (hm : 1 ≤ m) : nparts ns.reverse m = nparts ns m := by
  refine Nat.le_antisymm (nparts_rev_le hm) ?_
  have k := nparts_rev_le (ns := ns.reverse) hm
  rwa [List.reverse_reverse] at k
/-! two rows, one behind the other -/
theorem win_app1 {r o : List Int} {f b : Nat} (h : b ≤ r.length) : ((r ++ o).drop f).take (b - f) = (r.drop f).take (b - f) := by
  by_cases hf : f ≤ r.length
  · rw [List.drop_append_of_le_length hf, List.take_append_of_le_length (by rw [List.length_drop]; omega)]
  · rw [show b - f = 0 by omega]; rfl
theorem gs_app {r o : List Int} {m : Int} : ∀ i, i ≤ r.length → gs (r ++ o) m i = gs r m i
  | 0, _ => rfl
  | i + 1, h => by
    have ih := gs_app (r := r) (o := o) (m := m) i (by omega)
    have e : gwin (r ++ o) m i = gwin r m i := by
      unfold gwin
      rw [ih, win_app1 (by omega)]
    rw [gs_succ, gs_succ, e, ih, getD_app (by omega)]
theorem cuts_app {r o : List Int} {m : Int} : ∃ cs, cuts (r ++ o) m = cuts r m ++ cs := by
  obtain ⟨cs, e, _⟩ := gs_more (r ++ o) m r.length o.length
  refine ⟨cs, ?_⟩
  unfold cuts
  rw [List.length_append, e, gs_app _ (Nat.le_refl _)]
theorem nparts_app_ge {r o : List Int} {m : Int} : nparts r m ≤ nparts (r ++ o) m := by
  by_cases h : r.length = 0
  · rw [nparts_0 h]; exact Nat.zero_le _
  · obtain ⟨cs, e⟩ := cuts_app (r := r) (o := o) (m := m)
    rw [nparts_1 (by omega), nparts_1 (by rw [List.length_append]; omega), e, List.length_append]
    omega
theorem nparts_app_ge2 {r o : List Int} {m : Int} (hm : 1 ≤ m) : nparts o m ≤ nparts (r ++ o) m := by
  rw [← nparts_rev (ns := o) hm, ← nparts_rev (ns := r ++ o) hm, List.reverse_append]
  exact nparts_app_ge
theorem nparts_app {r o : List Int} {m : Int} (hm : 1 ≤ m) : nparts (r ++ o) m ≤ nparts r m + nparts o m := by
  by_cases hr : r.length = 0
  · rw [List.eq_nil_of_length_eq_zero hr, List.nil_append]; omega
  by_cases ho : o.length = 0
  · rw [List.eq_nil_of_length_eq_zero ho, List.append_nil]; omega
  have c1 := gs_col (ns := r) hm (Int.le_refl m)
  have c2 := gs_col (ns := o) hm (Int.le_refl m)
  have top : ∀ i, i < r.length → (gs r m (i + 1)).1.length ≤ (cuts r m).length := fun i hi => by
    obtain ⟨cs, e, _⟩ := gs_more r m (i + 1) (r.length - (i + 1))
    rw [show i + 1 + (r.length - (i + 1)) = r.length by omega] at e
    unfold cuts
    rw [e, List.length_append]; omega
  have c : Col (r ++ o) m (fun i => if i < r.length then (gs r m (i + 1)).1.length else (cuts r m).length + 1 + (gs o m (i - r.length + 1)).1.length) := by
    refine ⟨fun i h => ?_, fun p q hpq hq e => ?_⟩
    · rw [List.length_append] at h
      show (if i < r.length then _ else _) ≤ (if i + 1 < r.length then _ else _)
      by_cases h1 : i + 1 < r.length
      · rw [if_pos h1, if_pos (by omega)]
        exact c1.up i h1
      · rw [if_neg h1]
        by_cases h2 : i < r.length
        · rw [if_pos h2]
          have := top i h2
          omega
        · rw [if_neg h2]
          have k := c2.up (i - r.length) (by omega)
          have k2 : (gs o m (i - r.length + 1)).1.length ≤ (gs o m (i - r.length + 1 + 1)).1.length := k
          rw [show i + 1 - r.length + 1 = i - r.length + 1 + 1 by omega]
          omega
    · rw [List.length_append] at hq
      have e2 : (if p < r.length then (gs r m (p + 1)).1.length else (cuts r m).length + 1 + (gs o m (p - r.length + 1)).1.length) = (if q < r.length then (gs r m (q + 1)).1.length else (cuts r m).length + 1 + (gs o m (q - r.length + 1)).1.length) := e
      by_cases h1 : q < r.length
      · rw [if_pos h1, if_pos (by omega)] at e2
        have f := c1.few p q hpq h1 e2
        unfold wunN at f ⊢
        rw [win_app1 (by omega)]
        exact f
      · rw [if_neg h1] at e2
        by_cases h2 : p < r.length
        · rw [if_pos h2] at e2
          have := top p h2
          omega
        · rw [if_neg h2] at e2
          have f := c2.few (p - r.length) (q - r.length) (by omega) (by omega) (by show (gs o m (p - r.length + 1)).1.length = (gs o m (q - r.length + 1)).1.length; omega)
          unfold wunN at f ⊢
          rw [List.drop_append, List.drop_of_length_le (by omega), List.nil_append]
          rwa [show q - r.length + 1 - (p - r.length) = q + 1 - p by omega] at f
  have k := nparts_le hm (by rw [List.length_append]; omega) c
  rw [List.length_append] at k
  have e1 := gs_1 (ns := r) hm (by omega)
  have k2 : nparts (r ++ o) m + (if 0 < r.length then (gs r m (0 + 1)).1.length else _) ≤ (if r.length + o.length - 1 < r.length then _ else (cuts r m).length + 1 + (gs o m (r.length + o.length - 1 - r.length + 1)).1.length) + 1 := k
  rw [if_pos (show 0 < r.length by omega), if_neg (show ¬ r.length + o.length - 1 < r.length by omega), show r.length + o.length - 1 - r.length + 1 = o.length by omega] at k2
  rw [nparts_1 (ns := r) (by omega), nparts_1 (ns := o) (by omega)]
  unfold cuts at k2 ⊢
  omega
/-- what is known of the parting -/
theorem parts_ok {ns : List Int} {m : Int} (hm : 1 ≤ m) {k : Nat} {x : Int} (hk : (parts ns m)[k]? = some x) : 0 ≤ stc (parts ns m) k ∧ stc (parts ns m) k < x ∧ x ≤ ns.length ∧ (wunN ns (stc (parts ns m) k).toNat x.toNat : Int) ≤ m := by
  have hc := parts_cuts ns m
  have hl := (List.getElem?_eq_some_iff.mp hk).1
  by_cases h0 : ns.length = 0
  · rw [parts_nil h0] at hl
    exact absurd hl (Nat.not_lt_zero k)
  rw [if_neg h0] at hc
  rw [hc, List.length_append] at hl
  have h1 : ([(ns.length : Int)] : List Int).length = 1 := rfl
  rw [hc, stc_app (cs := cuts ns m) (by omega)]
  rw [hc] at hk
  by_cases h : k < (cuts ns m).length
  · rw [List.getElem?_append_left h] at hk
    have e := getD_of hk
    obtain ⟨a1, a2, a3, a4, _⟩ := cuts_ok hm h
    rw [e] at a2 a3 a4
    exact ⟨a1, a2, by omega, by omega⟩
  · have hk2 : k = (cuts ns m).length := by omega
    subst hk2
    rw [List.getElem?_append_right (Nat.le_refl _), Nat.sub_self] at hk
    cases hk
    have w := gwin_le (ns := ns) hm ns.length (Nat.le_refl _)
    have hlast := cuts_last (ns := ns) hm
    have hlt : (gs ns m ns.length).2 < ns.length := by
      have e : gs ns m (ns.length - 1 + 1) = gs ns m ns.length := by rw [show ns.length - 1 + 1 = ns.length by omega]
      rw [← e, gs_succ]
      split
      · show ns.length - 1 < ns.length
        omega
      · have := gs_le ns m (ns.length - 1)
        omega
    rw [hlast, Int.toNat_natCast, Int.toNat_natCast]
    exact ⟨by omega, by omega, by omega, w⟩
theorem parts_end (ns : List Int) (m : Int) : stc (parts ns m) (parts ns m).length = (ns.length : Int) := by
  by_cases h0 : ns.length = 0
  · rw [parts_nil h0, h0]; rfl
  · rw [parts_cuts, if_neg h0, List.length_append]
    show stc _ ((cuts ns m).length + 1) = _
    rw [stc_s, getD_app2]
/-! called otherwise -/
theorem gs_map {f : Int → Int} {ns : List Int} {m : Int} (h : InjOn f ns) : ∀ i, i ≤ ns.length → gs (ns.map f) m i = gs ns m i
  | 0, _ => rfl
  | i + 1, hi => by
    have ih := gs_map (m := m) h i (by omega)
    have hx := get_of (ns := ns) (i := i) (by omega)
    have e : gwin (ns.map f) m i = (gwin ns m i).map f := by
      unfold gwin
      rw [ih, ← List.map_drop, ← List.map_take]
    have hs : ∀ y ∈ gwin ns m i, y ∈ ns := fun y hy => List.mem_of_mem_drop (List.mem_of_mem_take hy)
    have hxm : ns.getD i 0 ∈ ns := List.mem_of_getElem? hx
    have ex : (ns.map f).getD i 0 = f (ns.getD i 0) := getD_of (by rw [List.getElem?_map, hx]; rfl)
    have eu : ulen ((gwin ns m i).map f) = ulen (gwin ns m i) := ulen_map fun x hx y hy k => h x (hs x hx) y (hs y hy) k
    rw [gs_succ, gs_succ, e, ih, ex, eu]
    by_cases q : ns.getD i 0 ∈ gwin ns m i
    · rw [if_neg (fun z => z.1 ((mem_map_inj h hxm hs).mpr q)), if_neg (fun z => z.1 q)]
    · by_cases z : (ulen (gwin ns m i) : Int) = m
      · rw [if_pos ⟨fun k => q ((mem_map_inj h hxm hs).mp k), z⟩, if_pos ⟨q, z⟩]
      · rw [if_neg (fun k => z k.2), if_neg (fun k => z k.2)]
theorem parts_map {f : Int → Int} {ns : List Int} {m : Int} (h : InjOn f ns) : parts (ns.map f) m = parts ns m := by
  unfold parts
  rw [List.length_map, gs_map h _ (Nat.le_refl _)]
/-- where there are no more unlike numbers there is one window -/
theorem gs_all {ns : List Int} {m : Int} (h : (ulen ns : Int) ≤ m) : ∀ i, i ≤ ns.length → gs ns m i = ([], 0)
  | 0, _ => rfl
  | i + 1, hi => by
    have ih := gs_all h i (by omega)
    have hx := get_of (ns := ns) (i := i) (by omega)
    have e : gwin ns m i = ns.take i := by
      unfold gwin
      rw [ih]; rfl
    rw [gs_succ, e, ih, if_neg]
    rintro ⟨z1, z2⟩
    have k : ulen (ns.take (i + 1)) ≤ ulen ns := by
      have := ulen_mono (ns := ns) (i := i + 1) (j := ns.length) hi
      rwa [List.take_length] at this
    rw [take_snoc hx, ulen_snoc, if_neg z1] at k
    omega
theorem parts_all {ns : List Int} {m : Int} (h : (ulen ns : Int) ≤ m) : parts ns m = if ns.length = 0 then [] else [(ns.length : Int)] := by
  unfold parts
  rw [gs_all h _ (Nat.le_refl _)]; rfl
theorem take_len (n : Nat) : ([(n : Int)].take (n : Int).toNat) = if n = 0 then [] else [(n : Int)] := by
  rcases Nat.eq_zero_or_pos n with h | h
  · rw [h, if_pos rfl]; rfl
  · rw [if_neg (by omega), List.take_of_length_le (by show 1 ≤ _; omega)]
end Ur

namespace Ur
open PySem L2
/-! ### lists of pairs of ints -/
/-- objects at ls, the k-th of them O k -/
structure ObjsF (H : Hp) (ls : List Addr) (n : Nat) (O : Nat → HO) : Prop where
  len : ls.length = n
  row : ∀ k p, ls[k]? = some p → H p = some (O k)
theorem ObjsF.same {H H' : Hp} {ls : List Addr} {n : Nat} {O : Nat → HO} (r : ObjsF H ls n O) (s : Same H H') : ObjsF H' ls n O := ⟨r.len, fun k p e => s _ _ (r.row k p e)⟩
theorem ObjsF.but {a : Addr} {H H' : Hp} {ls : List Addr} {n : Nat} {O : Nat → HO} (r : ObjsF H ls n O) (b : But a H H') (no : ∀ p ∈ ls, p ≠ a) : ObjsF H' ls n O := ⟨r.len, fun k p e => b _ _ (no p (List.mem_of_getElem? e)) (r.row k p e)⟩
theorem ObjsF.is {H : Hp} {ls : List Addr} {n : Nat} {O : Nat → HO} (r : ObjsF H ls n O) {p : Addr} (hp : p ∈ ls) : ∃ k, k < n ∧ H p = some (O k) := by
  obtain ⟨k, hk⟩ := List.getElem?_of_mem hp
  exact ⟨k, by have := (List.getElem?_eq_some_iff.mp hk).1; have := r.len; omega, r.row k p hk⟩
theorem ObjsF.offNew {H : Hp} {x : Addr} {ls : List Addr} {n : Nat} {O : Nat → HO} (r : ObjsF H ls n O) (e : H x = none) : Off ls x := ⟨fun p hp z => by
  obtain ⟨k, _, em⟩ := r.is hp
  rw [z, e] at em
  cases em⟩
/-- .. of another kind than what lies at x -/
theorem ObjsF.offKind {H : Hp} {x : Addr} {o : HO} {ls : List Addr} {n : Nat} {O : Nat → HO} (r : ObjsF H ls n O) (e : H x = some o) (h : ∀ k, O k ≠ o) : Off ls x := ⟨fun p hp z => by
  obtain ⟨k, _, em⟩ := r.is hp
  rw [z, e] at em
  exact h k (Option.some.inj em).symm⟩
theorem ObjsF.upd {H : Hp} {x : Addr} {o : HO} {ls : List Addr} {n : Nat} {O : Nat → HO} (r : ObjsF H ls n O) (f : Off ls x) : ObjsF (upd H x o) ls n O := ⟨r.len, fun k p e => by
  rw [upd_ne (f.out p (List.mem_of_getElem? e))]
  exact r.row k p e⟩
/-- a pair -/
def pr (q : Int × Int) : HO := .tup [.int q.1, .int q.2]
abbrev PairsF (H : Hp) (ls : List Addr) (ps : List (Int × Int)) : Prop := ObjsF H ls ps.length (fun k => pr (ps.getD k (0, 0)))
theorem PairsF.nil {H : Hp} : PairsF H [] [] := ⟨rfl, fun k p h => nomatch h⟩
theorem PairsF.snoc {H : Hp} {ls : List Addr} {ps : List (Int × Int)} {p : Addr} {x y : Int} (r : PairsF H ls ps) (e : H p = some (.tup [.int x, .int y])) : PairsF H (ls ++ [p]) (ps ++ [(x, y)]) := by
  have hl := r.len
  refine ⟨by rw [List.length_append, List.length_append, hl]; rfl, fun k q h => ?_⟩
  by_cases hk : k < ls.length
  · rw [List.getElem?_append_left hk] at h
    have h2 := r.row k q h
    have h3 : (ps ++ [(x, y)]).getD k (0, 0) = ps.getD k (0, 0) := by
      rw [List.getD_eq_getElem?_getD, List.getD_eq_getElem?_getD, List.getElem?_append_left (by omega)]
    show H q = some (pr ((ps ++ [(x, y)]).getD k (0, 0)))
    rw [h3]
    exact h2
  · have h2 := (List.getElem?_eq_some_iff.mp h).1
    rw [List.length_append] at h2
    have h3 : [p].length = 1 := rfl
    have hk2 : k = ls.length := by omega
    subst hk2
    rw [List.getElem?_append_right (Nat.le_refl _), Nat.sub_self] at h
    cases h
    have h4 : (ps ++ [(x, y)]).getD ls.length (0, 0) = (x, y) := by
      rw [List.getD_eq_getElem?_getD, List.getElem?_append_right (by omega), hl, Nat.sub_self]
      rfl
    show H p = some (pr ((ps ++ [(x, y)]).getD ls.length (0, 0)))
    rw [h4]
    exact e
theorem PairsF.get {H : Hp} {ls : List Addr} {ps : List (Int × Int)} {k : Nat} {p : Addr} (r : PairsF H ls ps) (h : ls[k]? = some p) : k < ps.length ∧ H p = some (.tup [.int (ps.getD k (0, 0)).1, .int (ps.getD k (0, 0)).2]) :=
  ⟨by have := (List.getElem?_eq_some_iff.mp h).1; have := r.len; omega, r.row k p h⟩
theorem PairsF.offL {H : Hp} {x : Addr} {xs : List V} {ls : List Addr} {ps : List (Int × Int)} (r : PairsF H ls ps) (e : H x = some (.lst xs)) : Off ls x := ObjsF.offKind r e fun k z => nomatch z
/-- the data of such a list -/
def pairsD (ps : List (Int × Int)) : List PyData := ps.map fun q => PyData.tuple [.int q.1, .int q.2]
theorem dp_pairs {K : PySem.W.Frag} {H : Hp} {a : Addr} {ls : List Addr} {ps : List (Int × Int)} (h : SqL K H a (ls.map V.ref)) (r : PairsF H ls ps) : Dp K H (.ref a) (.list (pairsD ps)) := by
  refine .lst h (dpAll_of _ _ (by rw [pairsD, List.length_map, List.length_map, r.len]) fun k v d h1 h2 => ?_)
  rw [List.getElem?_map] at h1
  obtain ⟨p, hp, rfl⟩ := Option.map_eq_some_iff.mp h1
  obtain ⟨hk, e⟩ := r.get hp
  rw [pairsD, List.getElem?_map, List.getElem?_eq_getElem hk] at h2
  cases h2
  have e2 : ps.getD k (0, 0) = ps[k] := by rw [List.getD_eq_getElem?_getD, List.getElem?_eq_getElem hk]; rfl
  rw [e2] at e
  exact .tup (SqT.of e) (.cons (.int _) (.cons (.int _) .nil))
theorem shaped_pairs (ps : List (Int × Int)) : SeqAt.shaped (.list (pairsD ps)) = true := by
  refine shaped_of (canLayAll_of _ fun d h => ?_) ?_
  · obtain ⟨q, _, rfl⟩ := List.mem_map.mp h
    rfl
  · have h := depthAll_of (m := 2) (pairsD ps) fun d h => by
      obtain ⟨q, _, rfl⟩ := List.mem_map.mp h
      rw [PyData.depth]
      have := depthAll_of (m := 1) [PyData.int q.1, .int q.2] fun d h => by
        rcases List.mem_cons.mp h with rfl | h
        · simp [PyData.depth]
        · rw [List.mem_singleton.mp h]; simp [PyData.depth]
      omega
    rw [PyData.depth]
    omega
theorem eqv_pairs (ps : List (Int × Int)) : PyData.eqv (.list (pairsD ps)) (.list (pairsD ps)) = true := by
  show PyData.eqvAll _ _ = true
  refine eqvAll_refl _ fun d h => ?_
  obtain ⟨q, _, rfl⟩ := List.mem_map.mp h
  show PyData.eqvAll _ _ = true
  refine eqvAll_refl _ fun d h => ?_
  rcases List.mem_cons.mp h with rfl | h
  · show (q.1 == q.1) = true
    exact beq_self_eq_true _
  · rw [List.mem_singleton.mp h]
    show (q.2 == q.2) = true
    exact beq_self_eq_true _
theorem rEq_pairs {K : PySem.W.Frag} {H : Hp} {a b : Addr} {ls ms : List Addr} {ps : List (Int × Int)} {Q : VK} (h1 : SqL K H a (ls.map V.ref)) (h2 : SqL K H b (ms.map V.ref)) (r1 : PairsF H ls ps) (r2 : PairsF H ms ps) (q : Q (.bl true) H) : rEqD K (.ref a) (.ref b) H Q :=
  ⟨_, _, dp_pairs h1 r1, dp_pairs h2 r2, shaped_pairs ps, shaped_pairs ps, by rw [eqv_pairs]; exact q⟩
theorem rNe_pairs {K : PySem.W.Frag} {H : Hp} {a b : Addr} {ls ms : List Addr} {ps : List (Int × Int)} {Q : VK} (h1 : SqL K H a (ls.map V.ref)) (h2 : SqL K H b (ms.map V.ref)) (r1 : PairsF H ls ps) (r2 : PairsF H ms ps) (q : Q (.bl false) H) : rNeD K (.ref a) (.ref b) H Q :=
  ⟨_, _, dp_pairs h1 r1, dp_pairs h2 r2, shaped_pairs ps, shaped_pairs ps, by rw [eqv_pairs]; exact q⟩
/-! ### xs[:-1] -/
theorem cut_m1 (xs : List V) : cutV xs none (some (-1)) = xs.dropLast := by
  unfold cutV
  rw [HT.sIx_none]
  have e : HT.sIx xs.length xs.length (some (-1)) = xs.length - 1 := by
    show (if (-1 : Int) < 0 then ((-1 : Int) + (xs.length : Int)).toNat else min (-1 : Int).toNat xs.length) = xs.length - 1
    rw [if_pos (by decide)]
    omega
  rw [e, List.drop_zero, Nat.sub_zero, List.dropLast_eq_take]
end Ur

namespace Ur
open PySem L2
/-! ### how often each number stands in a window -/
theorem putK_keys (kvs : List (Key × V)) (k : Key) (v : V) (h : (kvs.map (·.1)).Nodup) : ((putK kvs k v).map (·.1)).Nodup := by
  unfold putK
  split
  · rw [List.map_map]
    have e : (kvs.map ((·.1) ∘ fun kv : Key × V => if kv.1 = k then (kv.1, v) else kv)) = kvs.map (·.1) := List.map_congr_left fun kv _ => by
      show (if kv.1 = k then (kv.1, v) else kv).1 = kv.1
      split <;> rfl
    rw [e]; exact h
  · rename_i hn
    rw [List.map_append, List.nodup_append]
    refine ⟨h, List.nodup_cons.mpr ⟨List.not_mem_nil, List.nodup_nil⟩, fun x hx y hy e => hn ?_⟩
    obtain ⟨kv, hkv, rfl⟩ := List.mem_map.mp hx
    have e2 : y = k := List.mem_singleton.mp hy
    exact List.any_eq_true.mpr ⟨kv, hkv, decide_eq_true (e.trans e2)⟩
theorem dropK_keys (kvs : List (Key × V)) (k : Key) (h : (kvs.map (·.1)).Nodup) : ((dropK kvs k).map (·.1)).Nodup := by
  unfold dropK
  exact List.Nodup.sublist (List.Sublist.map _ List.filter_sublist) h
theorem valV_dropK (k j : Key) : ∀ kvs : List (Key × V), valV (dropK kvs k) j = if j = k then none else valV kvs j
  | [] => by split <;> rfl
  | p :: r => by
    have ih := valV_dropK k j r
    by_cases e : p.1 = k
    · rw [dropK_pos e, ih]
      by_cases q : j = k
      · rw [if_pos q, if_pos q]
      · rw [if_neg q, if_neg q, valV_neg (fun z => q (z.symm.trans e))]
    · rw [dropK_neg e]
      by_cases q : p.1 = j
      · rw [valV_pos q, valV_pos q, if_neg (fun z => e (q.trans z))]
      · rw [valV_neg q, valV_neg q, ih]
theorem dropK_len (k : Key) : ∀ kvs : List (Key × V), (kvs.map (·.1)).Nodup → (valV kvs k).isSome = true → (dropK kvs k).length + 1 = kvs.length
  | [], _, h => by cases h
  | p :: r, nd, h => by
    rw [List.map_cons, List.nodup_cons] at nd
    by_cases e : p.1 = k
    · rw [dropK_pos e]
      have e2 : dropK r k = r := by
        unfold dropK
        refine List.filter_eq_self.mpr fun q hq => decide_eq_true fun z => nd.1 ?_
        exact List.mem_map.mpr ⟨q, hq, z.trans e.symm⟩
      rw [e2]; rfl
    · rw [dropK_neg e, List.length_cons, List.length_cons]
      rw [valV_neg e] at h
      have := dropK_len k r nd.2 h
      omega
structure Cnt (kvs : List (Key × V)) (W : List Int) : Prop where
  val : ∀ z : Int, valV kvs (Sum.inl z) = if z ∈ W then some (.int (W.count z : Nat)) else none
  len : kvs.length = ulen W
  nd : (kvs.map (·.1)).Nodup
theorem Cnt.nil : Cnt [] [] := ⟨fun z => by rw [if_neg (fun h => nomatch h)]; rfl, rfl, List.nodup_nil⟩
theorem Cnt.has {kvs : List (Key × V)} {W : List Int} (c : Cnt kvs W) (z : Int) : (valV kvs (Sum.inl z)).isSome = decide (z ∈ W) := by
  rw [c.val]
  by_cases h : z ∈ W
  · rw [if_pos h, decide_eq_true h]; rfl
  · rw [if_neg h, decide_eq_false h]; rfl
theorem Cnt.get0 {kvs : List (Key × V)} {W : List Int} (c : Cnt kvs W) (z : Int) : (valV kvs (Sum.inl z)).getD (.int 0) = .int (W.count z : Nat) := by
  rw [c.val]
  by_cases h : z ∈ W
  · rw [if_pos h]; rfl
  · rw [if_neg h, List.count_eq_zero.mpr h]; rfl
theorem Cnt.come {kvs : List (Key × V)} {W : List Int} (c : Cnt kvs W) (x : Int) : Cnt (putK kvs (Sum.inl x) (.int ((W.count x : Nat) + 1 : Int))) (W ++ [x]) := by
  refine ⟨fun z => ?_, ?_, putK_keys _ _ _ c.nd⟩
  · rw [val_put, c.val z]
    by_cases e : z = x
    · rw [if_pos e, if_pos (List.mem_append.mpr (.inr (List.mem_singleton.mpr e))), e, List.count_append, List.count_singleton_self]
      rfl
    · rw [if_neg e]
      by_cases h : z ∈ W
      · rw [if_pos h, if_pos (List.mem_append.mpr (.inl h)), List.count_append, List.count_eq_zero.mpr (fun k => e (List.mem_singleton.mp k)), Nat.add_zero]
      · rw [if_neg h, if_neg]
        intro k
        rcases List.mem_append.mp k with k | k
        · exact h k
        · exact e (List.mem_singleton.mp k)
  · rw [ulen_snoc]
    by_cases h : x ∈ W
    · rw [if_pos h, putK_same (by rw [c.has]; exact decide_eq_true h), c.len]
    · rw [if_neg h, putK_none (by rw [c.has]; exact decide_eq_false h), c.len]
/-- one less, and it is still there -/
theorem Cnt.less {kvs : List (Key × V)} {W : List Int} {x : Int} (c : Cnt kvs (x :: W)) (h : x ∈ W) : Cnt (putK kvs (Sum.inl x) (.int (((x :: W).count x : Nat) - 1 : Int))) W := by
  have hx : (valV kvs (Sum.inl x)).isSome = true := by rw [c.has]; exact decide_eq_true List.mem_cons_self
  refine ⟨fun z => ?_, ?_, putK_keys _ _ _ c.nd⟩
  · rw [val_put, c.val z]
    by_cases e : z = x
    · subst e
      rw [if_pos rfl, if_pos h, List.count_cons_self]
      congr 2
      omega
    · rw [if_neg e]
      by_cases k : z ∈ W
      · rw [if_pos k, if_pos (List.mem_cons_of_mem _ k), List.count_cons_of_ne (fun q => e q.symm)]
      · rw [if_neg k, if_neg]
        intro q
        rcases List.mem_cons.mp q with q | q
        · exact e q
        · exact k q
  · rw [putK_same hx, c.len, ulen_cons, if_pos h]
/-- one less, and it is gone -/
theorem Cnt.gone {kvs : List (Key × V)} {W : List Int} {x : Int} (c : Cnt kvs (x :: W)) (h : x ∉ W) (v : V) : Cnt (dropK (putK kvs (Sum.inl x) v) (Sum.inl x)) W := by
  have hx : (valV kvs (Sum.inl x)).isSome = true := by rw [c.has]; exact decide_eq_true List.mem_cons_self
  refine ⟨fun z => ?_, ?_, dropK_keys _ _ (putK_keys _ _ _ c.nd)⟩
  · rw [valV_dropK]
    by_cases e : z = x
    · rw [if_pos (by rw [e]), if_neg (by rw [e]; exact h)]
    · rw [if_neg (fun q => e (Sum.inl.inj q)), val_put, if_neg e, c.val z]
      by_cases k : z ∈ W
      · rw [if_pos k, if_pos (List.mem_cons_of_mem _ k), List.count_cons_of_ne (fun q => e q.symm)]
      · rw [if_neg k, if_neg]
        intro q
        rcases List.mem_cons.mp q with q | q
        · exact e q
        · exact k q
  · have hl := dropK_len (Sum.inl x) (putK kvs (Sum.inl x) v) (putK_keys _ _ _ c.nd) (by rw [val_put, if_pos rfl]; rfl)
    have h2 := c.len
    rw [ulen_cons, if_neg h] at h2
    rw [putK_same hx] at hl
    omega
theorem count_self_pos {W : List Int} {x : Int} : ((x :: W).count x : Nat) = W.count x + 1 := List.count_cons_self
/-! ### ends, and greatest ends -/
/-- the greatest behind with at most m unlike numbers -/
def wi (ns : List Int) (m : Int) (f : Nat) : Int := match endAt ns f (m + 1) with
  | none => ns.length
  | some b => (b : Int) - 1
theorem endAt_none {ns : List Int} {f : Nat} {m : Int} (hf : f ≤ ns.length) (h : (wunN ns f ns.length : Int) < m) : endAt ns f m = none := by
  rcases endAt_spec (m := m) hf with ⟨e, _⟩ | ⟨e, h1, h2, h3, h4, _⟩
  · exact e
  · have k := wunN_monoB (ns := ns) (f := f) (b := e) (k := ns.length - e) h2 (by omega)
    rw [show e + (ns.length - e) = ns.length by omega] at k
    omega
/-- at an end there are just so many -/
theorem endAt_just {ns : List Int} {f e : Nat} {m : Int} (hf : f ≤ ns.length) (h0 : 0 ≤ m) (h : endAt ns f m = some e) : f ≤ e ∧ e ≤ ns.length ∧ (wunN ns f e : Int) = m ∧ ∀ b, f ≤ b → b < e → (wunN ns f b : Int) < m := by
  rcases endAt_spec (m := m) hf with ⟨e2, _⟩ | ⟨e2, h1, h2, h3, h4, h5⟩
  · rw [e2] at h; cases h
  · rw [h1] at h
    cases h
    refine ⟨h2, h3, ?_, fun b k1 k2 => by have := h5 b k1 k2; omega⟩
    by_cases c : f < e
    · have k := wunN_step (ns := ns) (f := f) (b := e - 1) (by omega) (by omega)
      rw [show e - 1 + 1 = e by omega] at k
      have := h5 (e - 1) (by omega) (by omega)
      omega
    · have : f = e := by omega
      subst this
      rw [wunN_none] at h4 ⊢
      omega
/-- what a greatest end is -/
theorem wi_spec {ns : List Int} {m : Int} {f : Nat} (hf : f ≤ ns.length) (h0 : 0 ≤ m) : (f : Int) ≤ wi ns m f ∧ wi ns m f ≤ ns.length ∧ ∀ b : Nat, f ≤ b → b ≤ ns.length → ((wunN ns f b : Int) ≤ m ↔ (b : Int) ≤ wi ns m f) := by
  unfold wi
  cases e : endAt ns f (m + 1) with
  | none =>
    refine ⟨by show (f : Int) ≤ (ns.length : Int); omega, Int.le_refl _, fun b h1 h2 => ⟨fun _ => by show (b : Int) ≤ (ns.length : Int); omega, fun _ => ?_⟩⟩
    rcases endAt_spec (m := m + 1) hf with ⟨_, k⟩ | ⟨e2, k1, _⟩
    · have := k b h1 h2; omega
    · rw [e] at k1; cases k1
  | some b0 =>
    obtain ⟨h1, h2, h3, h4⟩ := endAt_just hf (by omega) e
    have hlt : f < b0 := by
      refine Nat.lt_of_le_of_ne h1 fun z => ?_
      subst z
      rw [wunN_none] at h3
      omega
    refine ⟨by show (f : Int) ≤ (b0 : Int) - 1; omega, by show (b0 : Int) - 1 ≤ _; omega, fun b k1 k2 => ⟨fun k => ?_, fun k => ?_⟩⟩
    · show (b : Int) ≤ (b0 : Int) - 1
      by_cases c : b < b0
      · omega
      · have q := wunN_monoB (ns := ns) (f := f) (b := b0) (k := b - b0) h1 (by omega)
        rw [show b0 + (b - b0) = b by omega] at q
        omega
    · have k' : (b : Int) ≤ (b0 : Int) - 1 := k
      have := h4 b k1 (by omega)
      omega
/-- just so many: from the least end to the greatest -/
theorem just_iff {ns : List Int} {m : Int} {f b : Nat} (hf : f ≤ b) (hb : b ≤ ns.length) (h0 : 0 ≤ m) : (wunN ns f b : Int) = m ↔ ∃ e, endAt ns f m = some e ∧ e ≤ b ∧ (b : Int) ≤ wi ns m f := by
  obtain ⟨w1, w2, w3⟩ := wi_spec (ns := ns) (m := m) (f := f) (by omega) h0
  constructor
  · intro h
    rcases endAt_spec (ns := ns) (f := f) (m := m) (by omega) with ⟨_, k⟩ | ⟨e, k1, k2, k3, k4, k5⟩
    · have := k b hf hb; omega
    · refine ⟨e, k1, ?_, (w3 b hf hb).mp (by omega)⟩
      by_cases c : b < e
      · have := k5 b hf c; omega
      · omega
  · rintro ⟨e, k1, k2, k3⟩
    obtain ⟨h1, h2, h3, h4⟩ := endAt_just (by omega) h0 k1
    have q := wunN_monoB (ns := ns) (f := f) (b := e) (k := b - e) h1 (by omega)
    rw [show e + (b - e) = b by omega] at q
    have := (w3 b hf hb).mpr k3
    omega
/-- the least end lies at or below the greatest -/
theorem end_le_wi {ns : List Int} {m : Int} {f e : Nat} (hf : f ≤ ns.length) (h0 : 0 ≤ m) (h : endAt ns f m = some e) : (e : Int) ≤ wi ns m f := by
  obtain ⟨h1, h2, h3, h4⟩ := endAt_just hf h0 h
  exact ((wi_spec hf h0).2.2 e h1 h2).mp (by omega)
/-! ### stretches -/
def tr (q : Int × Int × Int) : HO := .tup [.int q.1, .int q.2.1, .int q.2.2]
abbrev TripsF (H : Hp) (ls : List Addr) (ps : List (Int × Int × Int)) : Prop := ObjsF H ls ps.length (fun k => tr (ps.getD k (0, 0, 0)))
theorem TripsF.nil {H : Hp} : TripsF H [] [] := ⟨rfl, fun k p h => nomatch h⟩
theorem TripsF.snoc {H : Hp} {ls : List Addr} {ps : List (Int × Int × Int)} {p : Addr} {q : Int × Int × Int} (r : TripsF H ls ps) (e : H p = some (tr q)) : TripsF H (ls ++ [p]) (ps ++ [q]) := by
  have hl := r.len
  refine ⟨by rw [List.length_append, List.length_append, hl]; rfl, fun k x h => ?_⟩
  by_cases hk : k < ls.length
  · rw [List.getElem?_append_left hk] at h
    have h2 := r.row k x h
    have h3 : (ps ++ [q]).getD k (0, 0, 0) = ps.getD k (0, 0, 0) := by
      rw [List.getD_eq_getElem?_getD, List.getD_eq_getElem?_getD, List.getElem?_append_left (by omega)]
    show H x = some (tr ((ps ++ [q]).getD k (0, 0, 0)))
    rw [h3]
    exact h2
  · have h2 := (List.getElem?_eq_some_iff.mp h).1
    rw [List.length_append] at h2
    have h3 : [p].length = 1 := rfl
    have hk2 : k = ls.length := by omega
    subst hk2
    rw [List.getElem?_append_right (Nat.le_refl _), Nat.sub_self] at h
    cases h
    have h4 : (ps ++ [q]).getD ls.length (0, 0, 0) = q := by
      rw [List.getD_eq_getElem?_getD, List.getElem?_append_right (by omega), hl, Nat.sub_self]
      rfl
    show H p = some (tr ((ps ++ [q]).getD ls.length (0, 0, 0)))
    rw [h4]
    exact e
theorem TripsF.get {H : Hp} {ls : List Addr} {ps : List (Int × Int × Int)} {k : Nat} {p : Addr} (r : TripsF H ls ps) (h : ls[k]? = some p) : k < ps.length ∧ ps[k]? = some (ps.getD k (0, 0, 0)) ∧ H p = some (.tup [.int (ps.getD k (0, 0, 0)).1, .int (ps.getD k (0, 0, 0)).2.1, .int (ps.getD k (0, 0, 0)).2.2]) := by
  have h1 : k < ps.length := by have := (List.getElem?_eq_some_iff.mp h).1; have := r.len; omega
  exact ⟨h1, by rw [List.getD_eq_getElem?_getD, List.getElem?_eq_getElem h1]; rfl, r.row k p h⟩
theorem TripsF.offL {H : Hp} {x : Addr} {xs : List V} {ls : List Addr} {ps : List (Int × Int × Int)} (r : TripsF H ls ps) (e : H x = some (.lst xs)) : Off ls x := ObjsF.offKind r e fun k z => nomatch z
/-- for each first place that has some: the least and the greatest behind -/
def strK (ns : List Int) (m : Int) (k : Nat) : List (Int × Int × Int) := (List.range k).filterMap fun (f : Nat) => (endAt ns f m).map fun (e : Nat) => ((f : Int), (e : Int), wi ns m f)
def strL (ns : List Int) (m : Int) : List (Int × Int × Int) := if m = 0 then [] else strK ns m ns.length
theorem strK_s (ns : List Int) (m : Int) (k : Nat) : strK ns m (k + 1) = strK ns m k ++ ((endAt ns k m).map fun (e : Nat) => ((k : Int), (e : Int), wi ns m k)).toList := by
  unfold strK
  rw [List.range_succ, List.filterMap_append]
  congr 1
theorem strK_len (ns : List Int) (m : Int) (k : Nat) : (strK ns m k).length ≤ k := by
  unfold strK
  exact Nat.le_trans (List.length_filterMap_le _ _) (by rw [List.length_range]; exact Nat.le_refl k)
theorem strL_len (ns : List Int) (m : Int) : (strL ns m).length ≤ ns.length := by
  unfold strL
  split
  · exact Nat.zero_le _
  · exact strK_len _ _ _
theorem strL_mem {ns : List Int} {m : Int} {q : Int × Int × Int} (h : q ∈ strL ns m) : m ≠ 0 ∧ ∃ f e : Nat, f < ns.length ∧ endAt ns f m = some e ∧ q = ((f : Int), (e : Int), wi ns m f) := by
  unfold strL at h
  by_cases c : m = 0
  · rw [if_pos c] at h; cases h
  · rw [if_neg c] at h
    unfold strK at h
    obtain ⟨f, hf, e⟩ := List.mem_filterMap.mp h
    obtain ⟨e0, h1, h2⟩ := Option.map_eq_some_iff.mp e
    exact ⟨c, f, e0, List.mem_range.mp hf, h1, h2.symm⟩
/-- how many windows from f on have just so many -/
def hisF (ns : List Int) (m : Int) (f : Nat) : Int := match endAt ns f m with
  | none => 0
  | some e => wi ns m f - (e : Int) + 1
theorem strK_sum (ns : List Int) (m : Int) : ∀ k, ((strK ns m k).map fun q => q.2.2 - q.2.1 + 1).sum = sumTo (hisF ns m) k
  | 0 => rfl
  | k + 1 => by
    have ih := strK_sum ns m k
    rw [strK_s, List.map_append, List.sum_append, ih]
    show _ = sumTo (hisF ns m) k + hisF ns m k
    congr 1
    unfold hisF
    cases h : endAt ns k m with
    | none => rfl
    | some e => show (wi ns m k - (e : Int) + 1) + 0 = wi ns m k - (e : Int) + 1; omega
def hisN (ns : List Int) (m : Int) : Int := ((strL ns m).map fun q => q.2.2 - q.2.1 + 1).sum
/-- .. counted -/
def cntF (ns : List Int) (m : Int) (f j : Nat) : Int := sumTo (fun t => if (wunN ns f (f + 1 + t) : Int) = m then 1 else 0) j
theorem hisF_cnt {ns : List Int} {m : Int} {f : Nat} (hf : f < ns.length) (hm : 1 ≤ m) : hisF ns m f = cntF ns m f (ns.length - f) := by
  unfold hisF cntF
  obtain ⟨w1, w2, w3⟩ := wi_spec (ns := ns) (m := m) (f := f) (by omega) (by omega)
  cases h : endAt ns f m with
  | none =>
    have e : sumTo (fun t => if (wunN ns f (f + 1 + t) : Int) = m then 1 else 0) (ns.length - f) = sumTo (fun _ => 0) (ns.length - f) := sumTo_congr fun t ht => by
      rw [if_neg]
      intro k
      obtain ⟨e, h1, _⟩ := (just_iff (by omega) (by omega) (by omega)).mp k
      rw [h] at h1; cases h1
    rw [e, sumTo_zero]
  | some e =>
    obtain ⟨h1, h2, h3, h4⟩ := endAt_just (by omega) (by omega) h
    have hfe : f < e := by
      refine Nat.lt_of_le_of_ne h1 fun z => ?_
      subst z
      rw [wunN_none] at h3
      omega
    have hew := end_le_wi (by omega) (by omega) h
    have e2 : sumTo (fun t => if (wunN ns f (f + 1 + t) : Int) = m then 1 else 0) (ns.length - f) = sumTo (fun t => if ((e : Int) - (f + 1)) ≤ (t : Int) ∧ (t : Int) < wi ns m f - f then 1 else 0) (ns.length - f) := sumTo_congr fun t ht => by
      have k := just_iff (ns := ns) (m := m) (f := f) (b := f + 1 + t) (by omega) (by omega) (by omega)
      by_cases c : (wunN ns f (f + 1 + t) : Int) = m
      · obtain ⟨e3, k1, k2, k3⟩ := k.mp c
        rw [h] at k1
        cases k1
        rw [if_pos c, if_pos ⟨by omega, by omega⟩]
      · rw [if_neg c, if_neg]
        rintro ⟨k1, k2⟩
        exact c (k.mpr ⟨e, h, by omega, by omega⟩)
    rw [e2, sumTo_count _ _ (by omega) (by omega) _ (by omega)]
    show wi ns m f - (e : Int) + 1 = _
    omega
theorem hisN_cnt {ns : List Int} {m : Int} (hm : 1 ≤ m) : hisN ns m = sumTo (fun f => cntF ns m f (ns.length - f)) ns.length := by
  unfold hisN strL
  rw [if_neg (by omega), strK_sum]
  exact sumTo_congr fun f hf => hisF_cnt hf hm
/-! ### counts -/
/-- behind the lines ahead of f and j windows from f on -/
def dueC (ns : List Int) (f j k : Nat) : Int := sumTo (fun g => cntF ns k g (ns.length - g)) f + cntF ns k f j
def dueCL (ns : List Int) (f j : Nat) : List Int := (List.range (ulen ns + 1)).map (dueC ns f j)
theorem dueCL_len (ns : List Int) (f j : Nat) : (dueCL ns f j).length = ulen ns + 1 := by simp [dueCL]
theorem dueCL_get {ns : List Int} {f j k : Nat} (h : k < ulen ns + 1) : (dueCL ns f j)[k]? = some (dueC ns f j k) := by
  unfold dueCL
  rw [List.getElem?_map, List.getElem?_range h]
  rfl
theorem dueCL_0 (ns : List Int) : dueCL ns 0 0 = List.replicate (ulen ns + 1) 0 := by
  refine List.ext_getElem? fun w => ?_
  by_cases h : w < ulen ns + 1
  · rw [dueCL_get h, List.getElem?_replicate, if_pos h]
    rfl
  · rw [List.getElem?_eq_none (by rw [dueCL_len]; omega), List.getElem?_eq_none (by rw [List.length_replicate]; omega)]
theorem dueCL_set {ns : List Int} {f j : Nat} (h : f + 1 + j ≤ ns.length) : (dueCL ns f j).set (wunN ns f (f + 1 + j)) ((dueCL ns f j).getD (wunN ns f (f + 1 + j)) 0 + 1) = dueCL ns f (j + 1) := by
  have hw : wunN ns f (f + 1 + j) < ulen ns + 1 := by have := wunN_le (ns := ns) (f := f) (b := f + 1 + j) (by omega) h; omega
  refine List.ext_getElem? fun w => ?_
  by_cases hw2 : w < ulen ns + 1
  · rw [List.getElem?_set, dueCL_len, dueCL_get hw2, dueCL_get hw2, getD_of (dueCL_get hw)]
    by_cases e : wunN ns f (f + 1 + j) = w
    · rw [if_pos e, if_pos (by omega), e]
      unfold dueC cntF
      show some _ = some (_ + (_ + (if (wunN ns f (f + 1 + j) : Int) = (w : Int) then 1 else 0)))
      rw [if_pos (by omega)]
      congr 1
      omega
    · rw [if_neg e]
      unfold dueC cntF
      show some _ = some (_ + (_ + (if (wunN ns f (f + 1 + j) : Int) = (w : Int) then 1 else 0)))
      rw [if_neg (by omega), Int.add_zero]
  · rw [List.getElem?_eq_none (by rw [List.length_set, dueCL_len]; omega), List.getElem?_eq_none (by rw [dueCL_len]; omega)]
theorem dueCL_up (ns : List Int) (f : Nat) : dueCL ns f (ns.length - f) = dueCL ns (f + 1) 0 :=
  List.map_congr_left fun k _ => by
    show sumTo _ f + cntF ns k f (ns.length - f) = (sumTo _ f + cntF ns k f (ns.length - f)) + 0
    omega
/-- how many windows have so many, for each number there is -/
def cntW (ns : List Int) : List Int := dueCL ns ns.length 0
theorem cntW_len (ns : List Int) : (cntW ns).length = ulen ns + 1 := dueCL_len ns _ _
theorem cntW_get {ns : List Int} {k : Nat} (h : k < ulen ns + 1) : (cntW ns).getD k 0 = sumTo (fun f => cntF ns k f (ns.length - f)) ns.length := by
  unfold cntW
  rw [getD_of (dueCL_get h)]
  show sumTo _ ns.length + 0 = _
  omega
theorem cntW_his {ns : List Int} {k : Nat} (h : k < ulen ns + 1) (h1 : 1 ≤ k) : (cntW ns).getD k 0 = hisN ns k := by
  rw [cntW_get h, hisN_cnt (by omega)]
theorem his_0 (ns : List Int) : hisN ns 0 = 0 := rfl
theorem cntW_0 (ns : List Int) : (cntW ns).getD 0 0 = 0 := by
  rw [cntW_get (Nat.succ_pos _)]
  have e : sumTo (fun f => cntF ns (0 : Nat) f (ns.length - f)) ns.length = sumTo (fun _ => 0) ns.length := sumTo_congr fun f hf => by
    unfold cntF
    have e2 : sumTo (fun t => if (wunN ns f (f + 1 + t) : Int) = ((0 : Nat) : Int) then 1 else 0) (ns.length - f) = sumTo (fun _ => 0) (ns.length - f) := sumTo_congr fun t ht => by
      rw [if_neg]
      have k1 := wunN_up (ns := ns) (f := f) (b := f) (Nat.le_refl f) hf
      rw [wunN_none, if_pos (by have := lastAt_range ns (ns.getD f 0) f; omega)] at k1
      have k2 := wunN_monoB (ns := ns) (f := f) (b := f + 1) (k := t) (by omega) (by omega)
      omega
    rw [e2, sumTo_zero]
  rw [e, sumTo_zero]
/-- beyond there is none -/
theorem his_none {ns : List Int} {m : Int} (h : (ulen ns : Int) < m) : hisN ns m = 0 := by
  rw [hisN_cnt (by omega)]
  have e : sumTo (fun f => cntF ns m f (ns.length - f)) ns.length = sumTo (fun _ => 0) ns.length := sumTo_congr fun f hf => by
    unfold cntF
    have e2 : sumTo (fun t => if (wunN ns f (f + 1 + t) : Int) = m then 1 else 0) (ns.length - f) = sumTo (fun _ => 0) (ns.length - f) := sumTo_congr fun t ht => by
      rw [if_neg]
      have := wunN_le (ns := ns) (f := f) (b := f + 1 + t) (by omega) (by omega)
      omega
    rw [e2, sumTo_zero]
  rw [e, sumTo_zero]
theorem his_due {ns : List Int} {m : Int} (h : 0 ≤ m) : (cntW ns ++ [0]).getD (if ((cntW ns).length : Int) < m then ((cntW ns).length : Int) else m).toNat 0 = hisN ns m := by
  have hl := cntW_len ns
  by_cases c : ((cntW ns).length : Int) < m
  · rw [if_pos c, Int.toNat_natCast, his_none (by omega), List.getD_eq_getElem?_getD, List.getElem?_append_right (Nat.le_refl _), Nat.sub_self]
    rfl
  · rw [if_neg c]
    by_cases e : m = ((cntW ns).length : Int)
    · rw [e, Int.toNat_natCast, his_none (by omega), List.getD_eq_getElem?_getD, List.getElem?_append_right (Nat.le_refl _), Nat.sub_self]
      rfl
    · have e2 : m = ((m.toNat : Nat) : Int) := by omega
      rw [List.getD_eq_getElem?_getD, List.getElem?_append_left (by omega), ← List.getD_eq_getElem?_getD]
      by_cases z : m.toNat = 0
      · rw [z, cntW_0, e2, z]; exact (his_0 ns).symm
      · rw [cntW_his (by omega) (by omega), ← e2]
/-! ### the longest window with at most so many -/
def better (b : Int × Int) (f e : Int) : Int × Int := if e - f > b.2 - b.1 then (f, e) else b
def lwK (ns : List Int) (m : Int) : Nat → Int × Int
  | 0 => (0, 0)
  | k + 1 => better (lwK ns m k) k (wi ns m k)
def lwin (ns : List Int) (m : Int) : Int × Int := lwK ns m ns.length
theorem better_ok {b : Int × Int} {f e n : Int} (h : 0 ≤ b.1 ∧ b.1 ≤ b.2 ∧ b.2 ≤ n) (h1 : 0 ≤ f) (h2 : f ≤ e) (h3 : e ≤ n) : 0 ≤ (better b f e).1 ∧ (better b f e).1 ≤ (better b f e).2 ∧ (better b f e).2 ≤ n := by
  unfold better
  split
  · exact ⟨h1, h2, h3⟩
  · exact h
theorem lwK_ok {ns : List Int} {m : Int} (h0 : 0 ≤ m) : ∀ k, k ≤ ns.length → 0 ≤ (lwK ns m k).1 ∧ (lwK ns m k).1 ≤ (lwK ns m k).2 ∧ (lwK ns m k).2 ≤ ns.length
  | 0, _ => ⟨Int.le_refl 0, Int.le_refl 0, by show (0 : Int) ≤ ns.length; omega⟩
  | k + 1, h => by
    have ih := lwK_ok (ns := ns) h0 k (by omega)
    obtain ⟨w1, w2, _⟩ := wi_spec (ns := ns) (m := m) (f := k) (by omega) h0
    exact better_ok ih (by omega) w1 w2
/-- by widths: the widest so far below j that has at most so many -/
def lwJ (ns : List Int) (m : Int) (b : Int × Int) (f j : Nat) : Int × Int := better b f (f + (min (j - 1) (wi ns m f - f).toNat : Nat))
theorem lwJ_0 {ns : List Int} {m : Int} {b : Int × Int} {f : Nat} (h : b.1 ≤ b.2) : lwJ ns m b f 0 = b := by
  unfold lwJ better
  rw [if_neg]
  rw [show min (0 - 1) (wi ns m f - f).toNat = 0 by omega]
  show ¬ (f : Int) + 0 - f > b.2 - b.1
  omega
theorem lwJ_s {ns : List Int} {m : Int} {b : Int × Int} {f j : Nat} (h : b.1 ≤ b.2) (h0 : 0 ≤ m) (hj : f + j ≤ ns.length) : lwJ ns m b f (j + 1) = if (wunN ns f (f + j) : Int) ≤ m ∧ (j : Int) > (lwJ ns m b f j).2 - (lwJ ns m b f j).1 then ((f : Int), (f : Int) + j) else lwJ ns m b f j := by
  obtain ⟨w1, w2, w3⟩ := wi_spec (ns := ns) (m := m) (f := f) (by omega) h0
  have k := w3 (f + j) (by omega) hj
  unfold lwJ
  rw [show j + 1 - 1 = j by omega]
  by_cases c : (wunN ns f (f + j) : Int) ≤ m
  · have k1 := k.mp c
    rw [show min j (wi ns m f - f).toNat = j by omega]
    rw [show min (j - 1) (wi ns m f - f).toNat = j - 1 by omega]
    unfold better
    by_cases d : (f : Int) + ((j : Nat) : Int) - f > b.2 - b.1
    · rw [if_pos d, if_pos]
      refine ⟨c, ?_⟩
      split
      · show (j : Int) > (f : Int) + ((j - 1 : Nat) : Int) - f
        omega
      · omega
    · have d2 : ¬ (f : Int) + ((j - 1 : Nat) : Int) - f > b.2 - b.1 := by omega
      rw [if_neg d, if_neg d2, if_neg]
      rintro ⟨_, z⟩
      omega
  · have k1 : ¬ ((f + j : Nat) : Int) ≤ wi ns m f := fun z => c (k.mpr z)
    rw [if_neg (fun z => c z.1)]
    rw [show min j (wi ns m f - f).toNat = min (j - 1) (wi ns m f - f).toNat by omega]
theorem lwJ_end {ns : List Int} {m : Int} {b : Int × Int} {f : Nat} (h0 : 0 ≤ m) (hf : f ≤ ns.length) : lwJ ns m b f (ns.length - f + 1) = better b f (wi ns m f) := by
  obtain ⟨w1, w2, _⟩ := wi_spec (ns := ns) (m := m) (f := f) hf h0
  unfold lwJ
  rw [show ((f : Int) + ((min (ns.length - f + 1 - 1) (wi ns m f - f).toNat : Nat) : Int)) = wi ns m f by omega]
theorem lwJ_ok {ns : List Int} {m : Int} {b : Int × Int} {f j : Nat} (h0 : 0 ≤ m) (hf : f ≤ ns.length) (h : 0 ≤ b.1 ∧ b.1 ≤ b.2 ∧ b.2 ≤ ns.length) : 0 ≤ (lwJ ns m b f j).1 ∧ (lwJ ns m b f j).1 ≤ (lwJ ns m b f j).2 ∧ (lwJ ns m b f j).2 ≤ ns.length := by
  obtain ⟨w1, w2, _⟩ := wi_spec (ns := ns) (m := m) (f := f) hf h0
  unfold lwJ better
  split
  · refine ⟨?_, ?_, ?_⟩
    · show (0 : Int) ≤ (f : Int); omega
    · show (f : Int) ≤ (f : Int) + _; omega
    · show (f : Int) + ((min (j - 1) (wi ns m f - f).toNat : Nat) : Int) ≤ ns.length; omega
  · exact h
/-- the last first place has no window wider than 0 -/
theorem lw_last {ns : List Int} {m : Int} (h0 : 0 ≤ m) : better (lwin ns m) ns.length (wi ns m ns.length) = lwin ns m := by
  obtain ⟨w1, w2, _⟩ := wi_spec (ns := ns) (m := m) (f := ns.length) (Nat.le_refl _) h0
  have k := lwK_ok (ns := ns) h0 ns.length (Nat.le_refl _)
  unfold better
  rw [if_neg]
  unfold lwin
  omega
/-! ### the longest and the shortest window with just so many -/
/-- a pair or None -/
structure OptP (H : Hp) (v : V) (o : Option (Int × Int)) : Prop where
  is : (o = none ∧ v = .non) ∨ ∃ (x y : Int) (p : Addr), o = some (x, y) ∧ v = .ref p ∧ H p = some (.tup [.int x, .int y])
theorem OptP.same {H H' : Hp} {v : V} {o : Option (Int × Int)} (k : OptP H v o) (s : Same H H') : OptP H' v o := by
  rcases k.is with h | ⟨x, y, p, h1, h2, h3⟩
  · exact ⟨.inl h⟩
  · exact ⟨.inr ⟨x, y, p, h1, h2, s _ _ h3⟩⟩
theorem OptP.non {H : Hp} : OptP H .non none := ⟨.inl ⟨rfl, rfl⟩⟩
theorem OptP.pair {H : Hp} {p : Addr} {x y : Int} (h : H p = some (.tup [.int x, .int y])) : OptP H (.ref p) (some (x, y)) := ⟨.inr ⟨x, y, p, rfl, rfl, h⟩⟩
def wbo (o : Option (Int × Int)) (f e : Int) : Option (Int × Int) := match o with
  | none => some (f, e)
  | some b => if e - f > b.2 - b.1 then some (f, e) else some b
def sbo (o : Option (Int × Int)) (f e : Int) : Option (Int × Int) := match o with
  | none => some (f, e)
  | some b => if e - f < b.2 - b.1 then some (f, e) else some b
def lonL (qs : List (Int × Int × Int)) : Option (Int × Int) := qs.foldl (fun o q => wbo o q.1 q.2.2) none
def shoL (qs : List (Int × Int × Int)) : Option (Int × Int) := qs.foldl (fun o q => sbo o q.1 q.2.1) none
def lon (ns : List Int) (m : Int) : Option (Int × Int) := lonL (strL ns m)
def sho (ns : List Int) (m : Int) : Option (Int × Int) := shoL (strL ns m)
theorem lonL_snoc (qs : List (Int × Int × Int)) (q : Int × Int × Int) : lonL (qs ++ [q]) = wbo (lonL qs) q.1 q.2.2 := by unfold lonL; rw [List.foldl_append]; rfl
theorem shoL_snoc (qs : List (Int × Int × Int)) (q : Int × Int × Int) : shoL (qs ++ [q]) = sbo (shoL qs) q.1 q.2.1 := by unfold shoL; rw [List.foldl_append]; rfl
/-- bounds -/
def OkP (n : Nat) (o : Option (Int × Int)) : Prop := ∀ x y, o = some (x, y) → 0 ≤ x ∧ x ≤ y ∧ y ≤ n
theorem OkP.none {n : Nat} : OkP n none := fun _ _ h => nomatch h
theorem OkP.wbo {n : Nat} {o : Option (Int × Int)} {f e : Int} (k : OkP n o) (h1 : 0 ≤ f) (h2 : f ≤ e) (h3 : e ≤ n) : OkP n (wbo o f e) := by
  intro x y h
  cases o with
  | none => cases h; exact ⟨h1, h2, h3⟩
  | some b =>
    have h' : (if e - f > b.2 - b.1 then some (f, e) else some b) = some (x, y) := h
    split at h'
    · cases h'; exact ⟨h1, h2, h3⟩
    · exact k x y h'
theorem OkP.sbo {n : Nat} {o : Option (Int × Int)} {f e : Int} (k : OkP n o) (h1 : 0 ≤ f) (h2 : f ≤ e) (h3 : e ≤ n) : OkP n (sbo o f e) := by
  intro x y h
  cases o with
  | none => cases h; exact ⟨h1, h2, h3⟩
  | some b =>
    have h' : (if e - f < b.2 - b.1 then some (f, e) else some b) = some (x, y) := h
    split at h'
    · cases h'; exact ⟨h1, h2, h3⟩
    · exact k x y h'
theorem okP_str {ns : List Int} {m : Int} (h0 : 0 ≤ m) : ∀ k, k ≤ ns.length → OkP ns.length (lonL (strK ns m k)) ∧ OkP ns.length (shoL (strK ns m k))
  | 0, _ => ⟨OkP.none, OkP.none⟩
  | k + 1, h => by
    obtain ⟨i1, i2⟩ := okP_str (ns := ns) h0 k (by omega)
    rw [strK_s]
    cases e : endAt ns k m with
    | none => rw [Option.map_none, Option.toList_none, List.append_nil]; exact ⟨i1, i2⟩
    | some b =>
      obtain ⟨w1, w2, _⟩ := wi_spec (ns := ns) (m := m) (f := k) (by omega) h0
      obtain ⟨e1, e2, _, _⟩ := endAt_just (ns := ns) (f := k) (by omega) h0 e
      rw [Option.map_some, Option.toList_some, lonL_snoc, shoL_snoc]
      exact ⟨i1.wbo (by show (0 : Int) ≤ (k : Int); omega) w1 w2, i2.sbo (by show (0 : Int) ≤ (k : Int); omega) (by show (k : Int) ≤ (b : Int); omega) (by show (b : Int) ≤ _; omega)⟩
theorem okP_lon {ns : List Int} {m : Int} (h0 : 0 ≤ m) : OkP ns.length (lon ns m) ∧ OkP ns.length (sho ns m) := by
  unfold lon sho strL
  split
  · exact ⟨OkP.none, OkP.none⟩
  · exact okP_str h0 _ (Nat.le_refl _)
/-- a line, by widths: behind the widths up to j -/
def lonJ (ns : List Int) (m : Int) (o : Option (Int × Int)) (f j : Nat) : Option (Int × Int) := match endAt ns f m with
  | none => o
  | some e => if e ≤ f + j then wbo o f (min ((f : Int) + j) (wi ns m f)) else o
def shoJ (ns : List Int) (m : Int) (o : Option (Int × Int)) (f j : Nat) : Option (Int × Int) := match endAt ns f m with
  | none => o
  | some e => if e ≤ f + j then sbo o f e else o
theorem endAt_pos {ns : List Int} {f e : Nat} {m : Int} (hf : f ≤ ns.length) (h1 : 1 ≤ m) (h : endAt ns f m = some e) : f < e := by
  obtain ⟨k1, _, k3, _⟩ := endAt_just hf (by omega) h
  refine Nat.lt_of_le_of_ne k1 fun z => ?_
  subst z
  rw [wunN_none] at k3
  omega
theorem lonJ_0 {ns : List Int} {m : Int} {o : Option (Int × Int)} {f : Nat} (hf : f ≤ ns.length) (h1 : 1 ≤ m) : lonJ ns m o f 0 = o ∧ shoJ ns m o f 0 = o := by
  unfold lonJ shoJ
  cases e : endAt ns f m with
  | none => exact ⟨rfl, rfl⟩
  | some b =>
    have := endAt_pos hf h1 e
    exact ⟨if_neg (by omega), if_neg (by omega)⟩
theorem lonJ_s {ns : List Int} {m : Int} {o : Option (Int × Int)} {f j : Nat} (hj : f + (j + 1) ≤ ns.length) (h1 : 1 ≤ m) : lonJ ns m o f (j + 1) = if (wunN ns f (f + (j + 1)) : Int) = m then wbo (lonJ ns m o f j) f ((f : Int) + ((j : Int) + 1)) else lonJ ns m o f j := by
  have k := just_iff (ns := ns) (m := m) (f := f) (b := f + (j + 1)) (by omega) hj (by omega)
  obtain ⟨w1, w2, _⟩ := wi_spec (ns := ns) (m := m) (f := f) (by omega) (show 0 ≤ m by omega)
  unfold lonJ
  cases e : endAt ns f m with
  | none =>
    rw [if_neg]
    intro z
    obtain ⟨e2, h, _⟩ := k.mp z
    rw [e] at h; cases h
  | some b =>
    have hew := end_le_wi (by omega) (by omega) e
    show (if b ≤ f + (j + 1) then wbo o f (min ((f : Int) + ((j + 1 : Nat) : Int)) (wi ns m f)) else o) = if _ then wbo (if b ≤ f + j then wbo o f (min ((f : Int) + j) (wi ns m f)) else o) f _ else (if b ≤ f + j then wbo o f (min ((f : Int) + j) (wi ns m f)) else o)
    by_cases c : (wunN ns f (f + (j + 1)) : Int) = m
    · obtain ⟨e2, h, h2, h3⟩ := k.mp c
      rw [e] at h
      cases h
      rw [if_pos c, if_pos h2]
      rw [show min ((f : Int) + ((j + 1 : Nat) : Int)) (wi ns m f) = (f : Int) + ((j : Int) + 1) by omega]
      by_cases d : b ≤ f + j
      · rw [if_pos d, show min ((f : Int) + j) (wi ns m f) = (f : Int) + j by omega]
        cases o with
        | none =>
          show some _ = (if _ then _ else _)
          rw [if_pos (by show (f : Int) + ((j : Int) + 1) - f > (f : Int) + j - f; omega)]
        | some p =>
          show (if (f : Int) + ((j : Int) + 1) - f > p.2 - p.1 then some ((f : Int), (f : Int) + ((j : Int) + 1)) else some p) = wbo (if (f : Int) + j - f > p.2 - p.1 then some ((f : Int), (f : Int) + j) else some p) f ((f : Int) + ((j : Int) + 1))
          by_cases q : (f : Int) + j - f > p.2 - p.1
          · rw [if_pos q, if_pos (by omega)]
            show _ = (if _ then _ else _)
            rw [if_pos (by show (f : Int) + ((j : Int) + 1) - f > (f : Int) + j - f; omega)]
          · rw [if_neg q]
            rfl
      · rw [if_neg d]
    · rw [if_neg c]
      by_cases d : b ≤ f + j
      · have hw : ¬ ((f + (j + 1) : Nat) : Int) ≤ wi ns m f := fun z => c (k.mpr ⟨b, e, by omega, z⟩)
        rw [if_pos d, if_pos (by omega), show min ((f : Int) + ((j + 1 : Nat) : Int)) (wi ns m f) = min ((f : Int) + j) (wi ns m f) by omega]
      · rw [if_neg d, if_neg]
        intro z
        exact c (k.mpr ⟨b, e, z, by omega⟩)
theorem shoJ_s {ns : List Int} {m : Int} {o : Option (Int × Int)} {f j : Nat} (hj : f + (j + 1) ≤ ns.length) (h1 : 1 ≤ m) : shoJ ns m o f (j + 1) = if (wunN ns f (f + (j + 1)) : Int) = m then sbo (shoJ ns m o f j) f ((f : Int) + ((j : Int) + 1)) else shoJ ns m o f j := by
  have k := just_iff (ns := ns) (m := m) (f := f) (b := f + (j + 1)) (by omega) hj (by omega)
  unfold shoJ
  cases e : endAt ns f m with
  | none =>
    rw [if_neg]
    intro z
    obtain ⟨e2, h, _⟩ := k.mp z
    rw [e] at h; cases h
  | some b =>
    have hew := end_le_wi (by omega) (by omega) e
    show (if b ≤ f + (j + 1) then sbo o f b else o) = if _ then sbo (if b ≤ f + j then sbo o f b else o) f _ else (if b ≤ f + j then sbo o f b else o)
    by_cases c : (wunN ns f (f + (j + 1)) : Int) = m
    · obtain ⟨e2, h, h2, h3⟩ := k.mp c
      rw [e] at h
      cases h
      rw [if_pos c, if_pos h2]
      by_cases d : b ≤ f + j
      · rw [if_pos d]
        cases o with
        | none =>
          show some _ = (if _ then _ else _)
          rw [if_neg (by show ¬ (f : Int) + ((j : Int) + 1) - f < (b : Int) - f; omega)]
        | some p =>
          show (if (b : Int) - f < p.2 - p.1 then some ((f : Int), (b : Int)) else some p) = sbo (if (b : Int) - f < p.2 - p.1 then some ((f : Int), (b : Int)) else some p) f ((f : Int) + ((j : Int) + 1))
          by_cases q : (b : Int) - f < p.2 - p.1
          · rw [if_pos q]
            show _ = (if _ then _ else _)
            rw [if_neg (by show ¬ (f : Int) + ((j : Int) + 1) - f < (b : Int) - f; omega)]
          · rw [if_neg q]
            show _ = (if _ then _ else _)
            rw [if_neg (by omega)]
      · rw [if_neg d, show (b : Int) = (f : Int) + ((j : Int) + 1) by omega]
    · rw [if_neg c]
      by_cases d : b ≤ f + j
      · rw [if_pos d, if_pos (by omega)]
      · rw [if_neg d, if_neg]
        intro z
        exact c (k.mpr ⟨b, e, z, by omega⟩)
theorem lonJ_end {ns : List Int} {m : Int} {f : Nat} (hf : f ≤ ns.length) (h1 : 1 ≤ m) : lonJ ns m (lonL (strK ns m f)) f (ns.length - f) = lonL (strK ns m (f + 1)) ∧ shoJ ns m (shoL (strK ns m f)) f (ns.length - f) = shoL (strK ns m (f + 1)) := by
  obtain ⟨w1, w2, _⟩ := wi_spec (ns := ns) (m := m) (f := f) hf (show 0 ≤ m by omega)
  rw [strK_s]
  unfold lonJ shoJ
  cases e : endAt ns f m with
  | none => rw [Option.map_none, Option.toList_none, List.append_nil]; exact ⟨rfl, rfl⟩
  | some b =>
    obtain ⟨_, e2, _, _⟩ := endAt_just (ns := ns) (f := f) hf (by omega) e
    rw [Option.map_some, Option.toList_some, lonL_snoc, shoL_snoc]
    refine ⟨?_, ?_⟩
    · show (if b ≤ f + (ns.length - f) then _ else _) = _
      rw [if_pos (by omega), show min ((f : Int) + ((ns.length - f : Nat) : Int)) (wi ns m f) = wi ns m f by omega]
    · show (if b ≤ f + (ns.length - f) then _ else _) = _
      rw [if_pos (by omega)]
/-- the last first place has none -/
theorem strK_last {ns : List Int} {m : Int} (h1 : 1 ≤ m) : strK ns m (ns.length + 1) = strK ns m ns.length := by
  rw [strK_s]
  cases e : endAt ns ns.length m with
  | none => rw [Option.map_none, Option.toList_none, List.append_nil]
  | some b =>
    have k1 := endAt_pos (Nat.le_refl _) h1 e
    obtain ⟨_, e2, _, _⟩ := endAt_just (ns := ns) (f := ns.length) (Nat.le_refl _) (by omega) e
    omega
end Ur

namespace Ur
open PySem L2
/-! ### windows side by side -/
theorem ulen_is {A ms : List Int} (nd : ms.Nodup) (h : ∀ x, x ∈ ms ↔ x ∈ A) : ms.length = ulen A :=
  ((List.perm_ext_iff_of_nodup nd (uni_nodup A)).mpr fun x => (h x).trans (mem_uni A x).symm).length_eq
theorem filter_two (t : Int → Bool) : ∀ ms : List Int, (ms.filter t).length + (ms.filter fun x => !t x).length = ms.length
  | [] => rfl
  | x :: ms => by
    have ih := filter_two t ms
    cases h : t x <;> simp [List.filter_cons, h] <;> omega
/-- those in both are as many as the two have more than the whole -/
theorem ulen_both {A B ms : List Int} (nd : ms.Nodup) (h : ∀ x, x ∈ ms ↔ x ∈ A) : (ms.filter fun x => decide (x ∈ B)).length + ulen (A ++ B) = ulen A + ulen B := by
  have h1 := ulen_is nd h
  have h2 := filter_two (fun x => decide (x ∈ B)) ms
  have h3 : ((ms.filter fun x => !decide (x ∈ B)) ++ uni B).length = ulen (A ++ B) := by
    refine ulen_is ?_ fun x => ?_
    · rw [List.nodup_append]
      refine ⟨nd.filter _, uni_nodup B, fun a ha b hb e => ?_⟩
      rw [List.mem_filter] at ha
      rw [← e, mem_uni] at hb
      simp [hb] at ha
    · rw [List.mem_append, List.mem_append, List.mem_filter, mem_uni, h]
      by_cases hb : x ∈ B
      · simp [hb]
      · simp [hb]
  rw [List.length_append] at h3
  have h4 : (uni B).length = ulen B := rfl
  omega
theorem win_join {ns : List Int} {f a b : Nat} (h1 : f ≤ a) (h2 : a ≤ b) : (ns.drop f).take (a - f) ++ (ns.drop a).take (b - a) = (ns.drop f).take (b - f) := by
  have e : (ns.drop a) = (ns.drop f).drop (a - f) := by rw [List.drop_drop, show f + (a - f) = a from by omega]
  rw [e, show b - f = (a - f) + (b - a) from by omega, List.take_add]
theorem wun_both {ns ms : List Int} {f a b : Int} (h0 : 0 ≤ f) (h1 : f ≤ a) (h2 : a ≤ b) (nd : ms.Nodup) (h : ∀ x, x ∈ ms ↔ x ∈ (ns.drop f.toNat).take (a.toNat - f.toNat)) :
    ((ms.filter fun x => decide (x ∈ (ns.drop a.toNat).take (b.toNat - a.toNat))).length : Int) = (wun ns f a : Int) + (wun ns a b : Int) - (wun ns f b : Int) := by
  have k := ulen_both (B := (ns.drop a.toNat).take (b.toNat - a.toNat)) nd h
  rw [win_join (by omega) (by omega)] at k
  have e1 : ulen ((ns.drop f.toNat).take (a.toNat - f.toNat)) = wun ns f a := rfl
  have e2 : ulen ((ns.drop a.toNat).take (b.toNat - a.toNat)) = wun ns a b := rfl
  have e3 : ulen ((ns.drop f.toNat).take (b.toNat - f.toNat)) = wun ns f b := rfl
  omega
theorem wun_parts {ns : List Int} {f a b : Int} (h0 : 0 ≤ f) (h1 : f ≤ a) (h2 : a ≤ b) (h3 : b ≤ ns.length) : wun ns f a ≤ wun ns f b ∧ wun ns a b ≤ wun ns f b := by
  rw [wun_N, wun_N, wun_N]
  constructor
  · have := wunN_monoB (ns := ns) (f := f.toNat) (k := b.toNat - a.toNat) (b := a.toNat) (by omega) (by omega)
    rwa [show a.toNat + (b.toNat - a.toNat) = b.toNat from by omega] at this
  · have := wunN_monoF (ns := ns) (b := b.toNat) (by omega) (k := a.toNat - f.toNat) (f := f.toNat) (by omega)
    rwa [show f.toNat + (a.toNat - f.toNat) = a.toNat from by omega] at this
/-- one place more behind -/
theorem wun_more {ns : List Int} {f b : Int} (h0 : 0 ≤ f) (h1 : f ≤ b) (h2 : b < ns.length) :
    (wun ns f (b + 1) : Int) - (wun ns f b : Int) = if (!decide (ns.getD b.toNat 0 ∈ (ns.drop f.toNat).take (b.toNat - f.toNat))) = true then 1 else 0 := by
  rw [wun_N, wun_N, show (b + 1).toNat = b.toNat + 1 from by omega, wunN_up (by omega) (by omega)]
  have k := last_in (ns := ns) (f := f.toNat) (k := b.toNat - f.toNat) (by omega)
  rw [show f.toNat + (b.toNat - f.toNat) = b.toNat from by omega] at k
  by_cases h : lastAt ns b.toNat (ns.getD b.toNat 0) < (f.toNat : Int)
  · rw [if_pos h, if_pos (by rw [decide_eq_false (fun z => k.mp z h)]; rfl)]; omega
  · rw [if_neg h, if_neg (by rw [decide_eq_true (k.mpr h)]; decide)]; omega
/-- one place more ahead -/
theorem wun_ahead {ns : List Int} {f b : Int} (h0 : 0 < f) (h1 : f ≤ b) (h2 : b ≤ ns.length) :
    (wun ns (f - 1) b : Int) - (wun ns f b : Int) = if (!decide (ns.getD (f - 1).toNat 0 ∈ (ns.drop f.toNat).take (b.toNat - f.toNat))) = true then 1 else 0 := by
  have e : (ns.drop (f - 1).toNat).take (b.toNat - (f - 1).toNat) = ns.getD (f - 1).toNat 0 :: (ns.drop f.toNat).take (b.toNat - f.toNat) := by
    have hd : (f - 1).toNat < ns.length := by omega
    rw [List.drop_eq_getElem_cons hd, show b.toNat - (f - 1).toNat = (b.toNat - f.toNat) + 1 from by omega, List.take_succ_cons, show (f - 1).toNat + 1 = f.toNat from by omega]
    rw [List.getD_eq_getElem?_getD, List.getElem?_eq_getElem hd]; rfl
  have e1 : wun ns (f - 1) b = ulen (ns.getD (f - 1).toNat 0 :: (ns.drop f.toNat).take (b.toNat - f.toNat)) := by rw [← e]; rfl
  rw [e1, ulen_cons]
  have e2 : wun ns f b = ulen ((ns.drop f.toNat).take (b.toNat - f.toNat)) := rfl
  rw [e2]
  by_cases h : ns.getD (f - 1).toNat 0 ∈ (ns.drop f.toNat).take (b.toNat - f.toNat)
  · rw [if_pos h, if_neg (by rw [decide_eq_true h]; decide)]; omega
  · rw [if_neg h, if_pos (by rw [decide_eq_false h]; rfl)]; omega
/-- first places of the whole -/
theorem firP_join {ns : List Int} {f a b : Int} (h0 : 0 ≤ f) (h1 : f ≤ a) (h2 : a ≤ b) (h3 : b ≤ ns.length) :
    firP ns f b = firP ns f a ++ (firP ns a b).filter fun x => !decide (ns.getD x.toNat 0 ∈ (ns.drop f.toNat).take (a.toNat - f.toNat)) := by
  unfold firP
  rw [show (b - f).toNat = (a - f).toNat + (b - a).toNat from by omega, List.range_add, List.filter_append, List.map_append]
  congr 1
  rw [List.filter_map, List.map_map, List.filter_map, List.filter_filter]
  have e : ((List.range (b - a).toNat).filter ((fun k => decide (lp ns (f.toNat + k) < f)) ∘ fun x => (a - f).toNat + x)) = (List.range (b - a).toNat).filter fun k => ((fun x => !decide (ns.getD x.toNat 0 ∈ (ns.drop f.toNat).take (a.toNat - f.toNat))) ∘ fun (k : Nat) => a + (k : Int)) k && decide (lp ns (a.toNat + k) < a) := by
    refine List.filter_congr fun k hk => ?_
    rw [List.mem_range] at hk
    show decide (lp ns (f.toNat + ((a - f).toNat + k)) < f) = (!decide (ns.getD (a + (k : Int)).toNat 0 ∈ (ns.drop f.toNat).take (a.toNat - f.toNat)) && decide (lp ns (a.toNat + k) < a))
    rw [show f.toNat + ((a - f).toNat + k) = a.toNat + k from by omega, show (a + (k : Int)).toNat = a.toNat + k from by omega]
    have k1 := last_in (ns := ns) (f := f.toNat) (k := a.toNat + k - f.toNat) (by omega)
    have k2 := last_in (ns := ns) (f := a.toNat) (k := k) (by omega)
    rw [show f.toNat + (a.toNat + k - f.toNat) = a.toNat + k from by omega, ← win_join (a := a.toNat) (by omega) (by omega), show a.toNat + k - a.toNat = k from by omega, List.mem_append] at k1
    have e1 : lp ns (a.toNat + k) = lastAt ns (a.toNat + k) (ns.getD (a.toNat + k) 0) := rfl
    rw [← e1] at k1 k2
    rw [show ((f.toNat : Nat) : Int) = f from by omega] at k1
    rw [show ((a.toNat : Nat) : Int) = a from by omega] at k2
    by_cases g1 : ns.getD (a.toNat + k) 0 ∈ (ns.drop f.toNat).take (a.toNat - f.toNat)
    · have := k1.mp (.inl g1)
      rw [decide_eq_true g1, decide_eq_false this]; rfl
    · by_cases g2 : lp ns (a.toNat + k) < a
      · have g3 : ¬ ¬ lp ns (a.toNat + k) < f := fun z => by
          rcases k1.mpr z with z | z
          · exact g1 z
          · exact k2.mp z g2
        have g4 := Decidable.of_not_not g3
        rw [decide_eq_false g1, decide_eq_true g2, decide_eq_true g4]; rfl
      · have g4 := k1.mp (.inr (k2.mpr g2))
        rw [decide_eq_false g1, decide_eq_false g2, decide_eq_false g4]; rfl
  rw [e]
  refine List.map_congr_left fun k _ => ?_
  show f + (((a - f).toNat + k : Nat) : Int) = a + (k : Int)
  omega
theorem firP_in {ns : List Int} {f b x : Int} (h : x ∈ firP ns f b) : f ≤ x ∧ x < b := by
  unfold firP at h
  obtain ⟨k, hk, rfl⟩ := List.mem_map.mp h
  have := List.mem_range.mp (List.mem_filter.mp hk).1
  omega
end Ur

namespace Ur
open PySem L2
/-! ### first places, told and looked at -/
theorem firP_pair (ns : List Int) (f b : Int) : (firP ns f b).Pairwise (· < ·) := by
  unfold firP
  rw [List.pairwise_map]
  exact (List.pairwise_lt_range.filter _).imp fun h => by omega
theorem firP_s {ns : List Int} {f : Int} {k : Nat} (h0 : 0 ≤ f) : firP ns f (f + (k : Int) + 1) = firP ns f (f + (k : Int)) ++ (if lp ns (f.toNat + k) < f then [f + (k : Int)] else []) := by
  unfold firP
  rw [show (f + (k : Int) + 1 - f).toNat = k + 1 from by omega, show (f + (k : Int) - f).toNat = k from by omega, List.range_succ, List.filter_append, List.map_append]
  congr 1
  by_cases h : lp ns (f.toNat + k) < f
  · rw [if_pos h, List.filter_cons, if_pos (decide_eq_true h)]; rfl
  · rw [if_neg h, List.filter_cons, if_neg (by rw [decide_eq_false h]; exact Bool.false_ne_true)]; rfl
theorem firP_0 {ns : List Int} {f : Int} : firP ns f f = [] := by
  unfold firP
  rw [show (f - f).toNat = 0 from by omega]; rfl
/-- the numbers at the first places are the window's, each once -/
theorem firs_nums {ns : List Int} {f b : Int} (h0 : 0 ≤ f) (h1 : f ≤ b) (h2 : b ≤ ns.length) :
    ((firP ns f b).map fun p => ns.getD p.toNat 0).Nodup ∧ ∀ x, x ∈ (firP ns f b).map (fun p => ns.getD p.toNat 0) ↔ x ∈ (ns.drop f.toNat).take (b.toNat - f.toNat) := by
  have k : ∀ k : Nat, f + (k : Int) ≤ ns.length → ((firP ns f (f + k)).map fun p => ns.getD p.toNat 0).Nodup ∧ ∀ x, x ∈ (firP ns f (f + k)).map (fun p => ns.getD p.toNat 0) ↔ x ∈ (ns.drop f.toNat).take k := by
    intro k
    induction k with
    | zero =>
      intro _
      rw [show f + ((0 : Nat) : Int) = f from by omega, firP_0]
      exact ⟨List.nodup_nil, fun x => by simp⟩
    | succ k ih =>
      intro hk
      obtain ⟨i1, i2⟩ := ih (by omega)
      have hl := last_in (ns := ns) (f := f.toNat) (k := k) (by omega)
      have e1 : lastAt ns (f.toNat + k) (ns.getD (f.toNat + k) 0) = lp ns (f.toNat + k) := rfl
      rw [e1, show ((f.toNat : Nat) : Int) = f from by omega] at hl
      have e2 : (ns.drop f.toNat).take (k + 1) = (ns.drop f.toNat).take k ++ [ns.getD (f.toNat + k) 0] := by
        rw [List.take_add_one, List.getElem?_drop, get_of (by omega)]; rfl
      have e3 : f + ((k + 1 : Nat) : Int) = f + (k : Int) + 1 := by omega
      rw [e3, firP_s h0, e2, List.map_append]
      by_cases h : lp ns (f.toNat + k) < f
      · have hn : ns.getD (f.toNat + k) 0 ∉ (ns.drop f.toNat).take k := fun z => hl.mp z h
        rw [if_pos h]
        have e4 : [f + (k : Int)].map (fun p => ns.getD p.toNat 0) = [ns.getD (f.toNat + k) 0] := by
          show [ns.getD (f + (k : Int)).toNat 0] = _
          rw [show (f + (k : Int)).toNat = f.toNat + k from by omega]
        rw [e4]
        refine ⟨?_, fun x => by rw [List.mem_append, List.mem_append, i2]⟩
        rw [List.nodup_append]
        refine ⟨i1, List.nodup_cons.mpr ⟨List.not_mem_nil, List.nodup_nil⟩, fun x hx y hy z => ?_⟩
        rw [List.mem_singleton.mp hy] at z
        rw [z, i2] at hx
        exact hn hx
      · have hn := hl.mpr h
        rw [if_neg h]
        refine ⟨by simpa using i1, fun x => ?_⟩
        rw [List.map_nil, List.append_nil, i2, List.mem_append, List.mem_singleton]
        exact ⟨Or.inl, fun z => z.elim id fun z => z ▸ hn⟩
  have := k (b - f).toNat (by omega)
  rwa [show f + ((b - f).toNat : Int) = b from by omega, show (b - f).toNat = b.toNat - f.toNat from by omega] at this
theorem ulen_nodup {ms : List Int} (nd : ms.Nodup) : ulen ms = ms.length := (ulen_is nd fun _ => Iff.rfl).symm
/-- sorted, by ≤ and by < -/
theorem srt_eq {xs ys ms : List Int} (h1 : xs.Perm ms) (h2 : xs.Pairwise (· ≤ ·)) (nd : ms.Nodup) (h3 : ys.Pairwise (· < ·)) (h : ∀ x, x ∈ ys ↔ x ∈ ms) : xs = ys := by
  have p : xs.Perm ys := (List.perm_ext_iff_of_nodup (h1.nodup_iff.mpr nd) (h3.imp fun h => Int.ne_of_lt h)).mpr fun x => (h1.mem_iff).trans (h x).symm
  refine p.eq_of_pairwise (le := (· ≤ ·)) (fun a b _ _ h1 h2 => Int.le_antisymm h1 h2) h2 (h3.imp fun h => Int.le_of_lt h)
/-- the last places of the window, by the row from behind -/
theorem firP_back {ns : List Int} {f b : Int} (h0 : 0 ≤ f) (h1 : f ≤ b) (h2 : b ≤ ns.length) :
    ((firP ns.reverse ((ns.length : Int) - b) ((ns.length : Int) - f)).map fun x => (ns.length : Int) - 1 - x).reverse =
      ((List.range (b - f).toNat).filter fun (k : Nat) => !decide (ns.getD (f + (k : Int)).toNat 0 ∈ (ns.drop (f + (k : Int) + 1).toNat).take (b.toNat - (f + (k : Int) + 1).toNat))).map fun (k : Nat) => f + (k : Int) := by
  have hr : ns.reverse.length = ns.length := List.length_reverse
  unfold firP
  rw [show ((ns.length : Int) - f - ((ns.length : Int) - b)) = b - f from by omega, List.map_map, ← List.map_reverse, ← List.filter_reverse]
  have e0 : (List.range (b - f).toNat).reverse = (List.range (b - f).toNat).map fun i => (b - f).toNat - 1 - i := by
    refine List.ext_getElem (by simp) fun i h1 h2 => ?_
    simp
  rw [e0, List.filter_map, List.map_map]
  have e1 : (List.range (b - f).toNat).filter ((fun k => decide (lp ns.reverse (((ns.length : Int) - b).toNat + k) < (ns.length : Int) - b)) ∘ fun i => (b - f).toNat - 1 - i) =
      (List.range (b - f).toNat).filter fun (k : Nat) => !decide (ns.getD (f + (k : Int)).toNat 0 ∈ (ns.drop (f + (k : Int) + 1).toNat).take (b.toNat - (f + (k : Int) + 1).toNat)) := by
    refine List.filter_congr fun i hi => ?_
    rw [List.mem_range] at hi
    show decide (lp ns.reverse (((ns.length : Int) - b).toNat + ((b - f).toNat - 1 - i)) < (ns.length : Int) - b) = _
    have hl := last_in (ns := ns.reverse) (f := ((ns.length : Int) - b).toNat) (k := (b - f).toNat - 1 - i) (by omega)
    have e2 : ns.reverse.getD (((ns.length : Int) - b).toNat + ((b - f).toNat - 1 - i)) 0 = ns.getD (f + (i : Int)).toNat 0 := by
      rw [List.getD_eq_getElem?_getD, List.getElem?_reverse (by omega), List.getD_eq_getElem?_getD, show ns.length - 1 - (((ns.length : Int) - b).toNat + ((b - f).toNat - 1 - i)) = (f + (i : Int)).toNat from by omega]
    have e3 : (ns.reverse.drop ((ns.length : Int) - b).toNat).take ((b - f).toNat - 1 - i) = ((ns.drop (f + (i : Int) + 1).toNat).take (b.toNat - (f + (i : Int) + 1).toNat)).reverse := by
      rw [List.drop_reverse, List.take_reverse]
      congr 1
      rw [List.length_take, show ns.length - ((ns.length : Int) - b).toNat = b.toNat from by omega, Nat.min_eq_left (by omega), show b.toNat - ((b - f).toNat - 1 - i) = (f + (i : Int) + 1).toNat from by omega, List.drop_take]
    have e4 : lastAt ns.reverse (((ns.length : Int) - b).toNat + ((b - f).toNat - 1 - i)) (ns.reverse.getD (((ns.length : Int) - b).toNat + ((b - f).toNat - 1 - i)) 0) = lp ns.reverse (((ns.length : Int) - b).toNat + ((b - f).toNat - 1 - i)) := rfl
    rw [e4, e2, e3, List.mem_reverse, show ((((ns.length : Int) - b).toNat : Nat) : Int) = (ns.length : Int) - b from by omega] at hl
    by_cases h : ns.getD (f + (i : Int)).toNat 0 ∈ (ns.drop (f + (i : Int) + 1).toNat).take (b.toNat - (f + (i : Int) + 1).toNat)
    · rw [decide_eq_true h, decide_eq_false (hl.mp h)]; rfl
    · rw [decide_eq_false h, decide_eq_true (Decidable.of_not_not fun z => h (hl.mpr z))]; rfl
  rw [e1]
  refine List.map_congr_left fun i hi => ?_
  have hi2 := List.mem_range.mp (List.mem_filter.mp hi).1
  show (ns.length : Int) - 1 - ((ns.length : Int) - b + (((b - f).toNat - 1 - i : Nat) : Int)) = f + (i : Int)
  omega
theorem firP_more {ns : List Int} {f b x : Int} : ¬ (firP ns f b ++ [x] = firP ns f b) := fun h => by
  have := congrArg List.length h
  rw [List.length_append] at this
  have h1 : [x].length = 1 := rfl
  omega
theorem dec_comm {xs ys : List Int} : decide (xs = ys) = decide (ys = xs) := decide_eq_decide.mpr ⟨Eq.symm, Eq.symm⟩
end Ur

namespace Ur
open PySem L2
/-! ### live rows -/
def livF (pn pc : Addr) (mv : V) : List (Str × V) := putF "made" mv (putF "changes" (.ref pc) (putF "numbers" (.ref pn) []))
theorem liv_numbers {pn pc : Addr} {mv : V} : (livF pn pc mv).lookup ("numbers" : Str) = some (.ref pn) := by
  unfold livF
  rw [lookup_putF, if_neg (by decide), lookup_putF, if_neg (by decide), lookup_putF, if_pos rfl]
theorem liv_changes {pn pc : Addr} {mv : V} : (livF pn pc mv).lookup ("changes" : Str) = some (.ref pc) := by
  unfold livF
  rw [lookup_putF, if_neg (by decide), lookup_putF, if_pos rfl]
theorem liv_made {pn pc : Addr} {mv : V} : (livF pn pc mv).lookup ("made" : Str) = some mv := by
  unfold livF
  rw [lookup_putF, if_pos rfl]
theorem liv_no {pn pc : Addr} {mv : V} {m : Str} (h1 : ¬ m = "numbers") (h2 : ¬ m = "changes") (h3 : ¬ m = "made") : (livF pn pc mv).lookup m = none := by
  unfold livF
  rw [lookup_putF, if_neg h3, lookup_putF, if_neg h2, lookup_putF, if_neg h1]
  rfl
theorem putF_eq {f : Str} {v x : V} {r : List (Str × V)} : putF f v ((f, x) :: r) = (f, v) :: r := if_pos rfl
theorem putF_ne {f g : Str} {v x : V} {r : List (Str × V)} (h : ¬ g = f) : putF f v ((g, x) :: r) = (g, x) :: putF f v r := if_neg h
theorem livF_eq (pn pc : Addr) (mv : V) : livF pn pc mv = [(("numbers" : Str), .ref pn), (("changes" : Str), .ref pc), (("made" : Str), mv)] := by
  unfold livF
  show putF "made" mv (putF "changes" (.ref pc) [(("numbers" : Str), .ref pn)]) = _
  rw [putF_ne (by decide)]
  show putF "made" mv [(("numbers" : Str), .ref pn), (("changes" : Str), .ref pc)] = _
  rw [putF_ne (by decide), putF_ne (by decide)]
  rfl
theorem liv_setN {pn pc q : Addr} {mv : V} : putF "numbers" (.ref q) (livF pn pc mv) = livF q pc mv := by
  rw [livF_eq, livF_eq, putF_eq]
theorem liv_setM {pn pc : Addr} {mv mw : V} : putF "made" mw (livF pn pc mv) = livF pn pc mw := by
  rw [livF_eq, livF_eq, putF_ne (by decide), putF_ne (by decide), putF_eq]
theorem pfL {pn pc : Addr} {mv : V} : (livF pn pc mv).length < 1000 := by rw [livF_eq]; show 3 < 1000; decide
theorem pfM {pn pc : Addr} {mv v : V} {k : Str} : (putF k v (livF pn pc mv)).length < 1000 := Nat.lt_of_le_of_lt (putF_le _ _ _) (by rw [livF_eq]; show 4 < 1000; decide)
/-- all but two places stay -/
def Fr (o pc : Addr) (H H' : Hp) : Prop := ∀ b v, b ≠ o → b ≠ pc → H b = some v → H' b = some v
theorem Fr.same {o pc : Addr} {H H' : Hp} (s : Same H H') : Fr o pc H H' := fun b v _ _ e => s b v e
theorem Fr.trans {o pc : Addr} {H H' H'' : Hp} (f : Fr o pc H H') (g : Fr o pc H' H'') : Fr o pc H H'' := fun b v h1 h2 e => g b v h1 h2 (f b v h1 h2 e)
theorem Fr.but {o pc : Addr} {H H' : Hp} (s : But o H H') : Fr o pc H H' := fun b v h _ e => s b v h e
theorem Fr.but2 {o pc : Addr} {H H' : Hp} (s : But pc H H') : Fr o pc H H' := fun b v _ h e => s b v h e
/-- a change, at t: the place, how many, what stood there -/
structure Chg (N : Addr → Prop) (H : Hp) (t : Addr) (c : Int × Int × List Int) : Prop where
  all : ∃ g : Addr, H t = some (.tup [.int c.1, .int c.2.1, .ref g]) ∧ H g = some (.lst (c.2.2.map V.int)) ∧ ∀ b, N b → t ≠ b ∧ g ≠ b
theorem Chg.fr {N : Addr → Prop} {H H' : Hp} {t : Addr} {c : Int × Int × List Int} (k : Chg N H t c) (f : ∀ b v, ¬ N b → H b = some v → H' b = some v) : Chg N H' t c := by
  obtain ⟨g, h1, h2, h3⟩ := k.all
  exact ⟨g, f _ _ (fun n => (h3 _ n).1 rfl) h1, f _ _ (fun n => (h3 _ n).2 rfl) h2, h3⟩
/-- what a live row must not touch, besides its own two places -/
def Own (L : Addr → Prop) (o pc : Addr) (b : Addr) : Prop := L b ∨ b = o ∨ b = pc
structure Liv (C CR : Addr) (L : Addr → Prop) (o pc : Addr) (H : Hp) (ns : List Int) (cs : List (Int × Int × List Int)) : Prop where
  obj : ∃ (dx pn : Addr) (mv : V), H o = some (.ins C dx (livF pn pc mv)) ∧ H pn = some (.lst (ns.map V.int)) ∧ (∀ b, Own L o pc b → pn ≠ b) ∧ (mv = .non ∨ ∃ ro, mv = .ref ro ∧ Rdy CR (Own L o pc) H ro ns)
  chs : ∃ ts : List Addr, H pc = some (.lst (ts.map V.ref)) ∧ ts.length = cs.length ∧ ∀ (k : Nat) (t : Addr) (c : Int × Int × List Int), ts[k]? = some t → cs[k]? = some c → Chg (Own L o pc) H t c
  off : ∀ b, L b → o ≠ b ∧ pc ≠ b
  live : ∀ b, L b → ∃ v, H b = some v
  ne : o ≠ pc
  len : ns.length ≤ 1000
  clen : cs.length ≤ 10000
theorem Rdy.fr {C : Addr} {L : Addr → Prop} {H H' : Hp} {o : Addr} {ns : List Int} (r : Rdy C L H o ns) (f : ∀ b v, ¬ L b → H b = some v → H' b = some v) : Rdy C L H' o ns := by
  obtain ⟨dx, la, na, e1, e2, e3, k⟩ := r.all
  exact ⟨dx, la, na, f _ _ (fun n => (k _ n).1 rfl) e1, f _ _ (fun n => (k _ n).2.1 rfl) e2, f _ _ (fun n => (k _ n).2.2 rfl) e3, k⟩
theorem Liv.same {C CR : Addr} {L : Addr → Prop} {o pc : Addr} {H H' : Hp} {ns : List Int} {cs : List (Int × Int × List Int)} (v : Liv C CR L o pc H ns cs) (s : Same H H') : Liv C CR L o pc H' ns cs := by
  obtain ⟨⟨dx, pn, mv, h1, h2, h3, h4⟩, ⟨ts, k1, k2, k3⟩, off, lv, ne, l1, l2⟩ := v
  refine ⟨⟨dx, pn, mv, s _ _ h1, s _ _ h2, h3, h4.imp id fun ⟨ro, e, r⟩ => ⟨ro, e, r.same s⟩⟩, ⟨ts, s _ _ k1, k2, fun k t c a b => (k3 k t c a b).fr fun b v _ e => s b v e⟩, off, fun b l => by obtain ⟨v, e⟩ := lv b l; exact ⟨v, s _ _ e⟩, ne, l1, l2⟩
theorem Liv.but {C CR : Addr} {L : Addr → Prop} {o pc a : Addr} {H H' : Hp} {ns : List Int} {cs : List (Int × Int × List Int)} (v : Liv C CR L o pc H ns cs) (l : L a) (s : But a H H') {va : HO} (ea : H' a = some va) : Liv C CR L o pc H' ns cs := by
  obtain ⟨⟨dx, pn, mv, h1, h2, h3, h4⟩, ⟨ts, k1, k2, k3⟩, off, lv, ne, l1, l2⟩ := v
  have f : ∀ b v, ¬ Own L o pc b → H b = some v → H' b = some v := fun b v n e => s b v (fun z => n (.inl (z ▸ l))) e
  obtain ⟨o1, o2⟩ := off a l
  exact ⟨⟨dx, pn, mv, s _ _ o1 h1, s _ _ (h3 a (.inl l)) h2, h3, h4.imp id fun ⟨ro, e, r⟩ => ⟨ro, e, r.fr f⟩⟩, ⟨ts, s _ _ o2 k1, k2, fun k t c a b => (k3 k t c a b).fr f⟩, off, fun b l => by
    by_cases z : b = a
    · exact ⟨va, z ▸ ea⟩
    · obtain ⟨v, e⟩ := lv b l; exact ⟨v, s _ _ z e⟩, ne, l1, l2⟩
/-- a row with some numbers exchanged -/
def layd (ns : List Int) (p m : Int) (gs : List Int) : List Int := ns.take p.toNat ++ gs ++ ns.drop (p + m).toNat
def gone (ns : List Int) (p m : Int) : List Int := (ns.drop p.toNat).take m.toNat
/-- .. and back -/
theorem layd_back {ns gs : List Int} {p m : Int} (h0 : 0 ≤ p) (h1 : 0 ≤ m) (h2 : p + m ≤ ns.length) : layd (layd ns p m gs) p gs.length (gone ns p m) = ns := by
  unfold layd gone
  have e1 : (ns.take p.toNat ++ gs ++ ns.drop (p + m).toNat).take p.toNat = ns.take p.toNat := by
    rw [List.append_assoc, List.take_append_of_le_length (by rw [List.length_take]; omega), List.take_take, Nat.min_self]
  have e2 : (ns.take p.toNat ++ gs ++ ns.drop (p + m).toNat).drop (p + (gs.length : Int)).toNat = ns.drop (p + m).toNat := by
    have : (ns.take p.toNat ++ gs).length = (p + (gs.length : Int)).toNat := by rw [List.length_append, List.length_take]; omega
    rw [← this, List.drop_left]
  rw [e1, e2]
  have e3 : ns.drop (p + m).toNat = (ns.drop p.toNat).drop m.toNat := by rw [List.drop_drop]; congr 1; omega
  rw [e3, List.append_assoc, List.take_append_drop, List.take_append_drop]
end Ur
namespace Ur
open PySem L2
theorem refs_inj {ts us : List Addr} (h : ts.map V.ref = us.map V.ref) : ts = us := List.map_inj_right (fun _ _ e => by injection e) |>.mp h
/-- another change is noted -/
theorem Liv.note {C CR : Addr} {L : Addr → Prop} {o pc g r t dx : Addr} {H H' : Hp} {ns gs : List Int} {cs : List (Int × Int × List Int)} {ts : List Addr} {p m : Int} (v : Liv C CR L o pc H ns cs)
    (ec : H pc = some (.lst (ts.map V.ref))) (e1 : H' g = some (.lst ((gone ns p m).map V.int))) (e2 : H' r = some (.lst ((layd ns p m gs).map V.int))) (e3 : H' o = some (.ins C dx (livF r pc .non))) (e4 : H' pc = some (.lst ((ts ++ [t]).map V.ref)))
    (e5 : H' t = some (.tup [.int p, .int gs.length, .ref g])) (ng : H g = none) (nr : H r = none) (nt : H t = none) (f : Fr o pc H H') (hl : (layd ns p m gs).length ≤ 1000) (hc : cs.length + 1 ≤ 10000) :
    Liv C CR L o pc H' (layd ns p m gs) (cs ++ [(p, (gs.length : Int), gone ns p m)]) := by
  obtain ⟨⟨dx0, pn, mv, h1, h2, h3, h4⟩, ⟨us, k1, k2, k3⟩, off, lv, ne, l1, l2⟩ := v
  have hu : us = ts := by
    rw [k1] at ec
    injection ec with ec
    injection ec with ec
    exact refs_inj ec
  subst hu
  have fre : ∀ x, H x = none → ∀ b, Own L o pc b → x ≠ b := fun x n b hb e => by
    rcases hb with hb | hb | hb
    · obtain ⟨w, ew⟩ := lv b hb
      rw [← e, n] at ew; cases ew
    · rw [e, hb, h1] at n; cases n
    · rw [e, hb, k1] at n; cases n
  have fr2 : ∀ b v, ¬ Own L o pc b → H b = some v → H' b = some v := fun b v n e => f b v (fun z => n (.inr (.inl z))) (fun z => n (.inr (.inr z))) e
  refine ⟨⟨dx, r, .non, e3, e2, fre r nr, .inl rfl⟩, ⟨us ++ [t], e4, by rw [List.length_append, List.length_append, k2]; rfl, fun k t' c' a b => ?_⟩, off, fun b l => ?_, ne, hl, by rw [List.length_append]; exact hc⟩
  · by_cases hk : k < us.length
    · rw [List.getElem?_append_left hk] at a
      rw [List.getElem?_append_left (by omega)] at b
      exact (k3 k t' c' a b).fr fr2
    · have hk2 := (List.getElem?_eq_some_iff.mp a).1
      rw [List.length_append] at hk2
      have h1' : [t].length = 1 := rfl
      have hk3 : k = us.length := by omega
      subst hk3
      rw [List.getElem?_append_right (Nat.le_refl _), Nat.sub_self] at a
      rw [List.getElem?_append_right (by omega), k2, Nat.sub_self] at b
      cases a
      cases b
      exact ⟨g, e5, e1, fun b hb => ⟨fre t nt b hb, fre g ng b hb⟩⟩
  · obtain ⟨w, ew⟩ := lv b l
    obtain ⟨o1, o2⟩ := off b l
    exact ⟨w, f _ _ (Ne.symm o1) (Ne.symm o2) ew⟩
/-- the last change taken back -/
theorem Liv.unnote {C CR : Addr} {L : Addr → Prop} {o pc r dx t : Addr} {H H' : Hp} {ns : List Int} {cs : List (Int × Int × List Int)} {c : Int × Int × List Int} {ts : List Addr} (v : Liv C CR L o pc H ns (cs ++ [c]))
    (ec : H pc = some (.lst ((ts ++ [t]).map V.ref))) (e2 : H' r = some (.lst ((layd ns c.1 c.2.1 c.2.2).map V.int))) (e3 : H' o = some (.ins C dx (livF r pc .non))) (e4 : H' pc = some (.lst (ts.map V.ref)))
    (nr : H r = none) (f : Fr o pc H H') (hl : (layd ns c.1 c.2.1 c.2.2).length ≤ 1000) : Liv C CR L o pc H' (layd ns c.1 c.2.1 c.2.2) cs := by
  obtain ⟨⟨dx0, pn, mv, h1, h2, h3, h4⟩, ⟨us, k1, k2, k3⟩, off, lv, ne, l1, l2⟩ := v
  have hu : us = ts ++ [t] := by
    rw [k1] at ec
    injection ec with ec
    injection ec with ec
    exact refs_inj ec
  subst hu
  rw [List.length_append, List.length_append] at k2
  have k2' : ts.length + 1 = cs.length + 1 := k2
  rw [List.length_append] at l2
  have l2' : cs.length + 1 ≤ 10000 := l2
  have fre : ∀ x, H x = none → ∀ b, Own L o pc b → x ≠ b := fun x n b hb e => by
    rcases hb with hb | hb | hb
    · obtain ⟨w, ew⟩ := lv b hb
      rw [← e, n] at ew; cases ew
    · rw [e, hb, h1] at n; cases n
    · rw [e, hb, k1] at n; cases n
  have fr2 : ∀ b v, ¬ Own L o pc b → H b = some v → H' b = some v := fun b v n e => f b v (fun z => n (.inr (.inl z))) (fun z => n (.inr (.inr z))) e
  refine ⟨⟨dx, r, .non, e3, e2, fre r nr, .inl rfl⟩, ⟨ts, e4, by omega, fun k t' c' a b => ?_⟩, off, fun b l => ?_, ne, hl, by omega⟩
  · have hk := (List.getElem?_eq_some_iff.mp a).1
    exact (k3 k t' c' (by rw [List.getElem?_append_left hk]; exact a) (by rw [List.getElem?_append_left (by omega)]; exact b)).fr fr2
  · obtain ⟨w, ew⟩ := lv b l
    obtain ⟨o1, o2⟩ := off b l
    exact ⟨w, f _ _ (Ne.symm o1) (Ne.symm o2) ew⟩
theorem layd_len {ns gs : List Int} {p m : Int} (h0 : 0 ≤ p) (h1 : 0 ≤ m) (h2 : p + m ≤ ns.length) : ((layd ns p m gs).length : Int) = ns.length - m + gs.length := by
  unfold layd
  rw [List.length_append, List.length_append, List.length_take, List.length_drop]
  omega
end Ur
namespace Ur
open PySem L2
theorem Rdy.add {C : Addr} {L : Addr → Prop} {H : Hp} {o x : Addr} {ns : List Int} (r : Rdy C L H o ns) (n : H x = none) : Rdy C (fun b => L b ∨ b = x) H o ns := by
  obtain ⟨dx, la, na, e1, e2, e3, k⟩ := r.all
  refine ⟨dx, la, na, e1, e2, e3, fun b hb => ?_⟩
  rcases hb with hb | hb
  · exact k b hb
  · rw [hb]
    exact ⟨fun e => by rw [e, n] at e1; (cases e1), fun e => by rw [e, n] at e2; (cases e2), fun e => by rw [e, n] at e3; (cases e3)⟩
/-- a place made since is barred, too -/
theorem Liv.add {C CR : Addr} {L : Addr → Prop} {o pc x : Addr} {H H' : Hp} {ns : List Int} {cs : List (Int × Int × List Int)} {w : HO} (v : Liv C CR L o pc H ns cs) (n : H x = none) (s : Same H H') (e : H' x = some w) : Liv C CR (fun b => L b ∨ b = x) o pc H' ns cs := by
  obtain ⟨⟨dx, pn, mv, h1, h2, h3, h4⟩, ⟨ts, k1, k2, k3⟩, off, lv, ne, l1, l2⟩ := v
  have nx : ∀ {y : Addr} {w : HO}, H y = some w → y ≠ x := fun h z => by rw [z, n] at h; cases h
  have own : ∀ {b : Addr}, Own (fun b => L b ∨ b = x) o pc b → Own L o pc b ∨ b = x := fun h => by
    rcases h with (h | h) | h
    · exact .inl (.inl h)
    · exact .inr h
    · exact .inl (.inr h)
  have h4' : mv = .non ∨ ∃ ro, mv = .ref ro ∧ Rdy CR (Own (fun b => L b ∨ b = x) o pc) H' ro ns := by
    rcases h4 with h | ⟨ro, e1, r⟩
    · exact .inl h
    · exact .inr ⟨ro, e1, ((r.add n).same s).sub fun b hb => own hb⟩
  refine ⟨⟨dx, pn, mv, s _ _ h1, s _ _ h2, fun b hb => ?_, h4'⟩, ⟨ts, s _ _ k1, k2, fun k t c a b => ?_⟩, fun b hb => ?_, fun b hb => ?_, ne, l1, l2⟩
  · rcases own hb with h | h
    · exact h3 b h
    · rw [h]; exact nx h2
  · obtain ⟨g, m1, m2, m3⟩ := (k3 k t c a b).all
    refine ⟨g, s _ _ m1, s _ _ m2, fun b hb => ?_⟩
    rcases own hb with h | h
    · exact m3 b h
    · rw [h]; exact ⟨nx m1, nx m2⟩
  · rcases hb with h | h
    · exact off b h
    · rw [h]; exact ⟨nx h1, nx k1⟩
  · rcases hb with h | h
    · obtain ⟨w', e'⟩ := lv b h
      exact ⟨w', s _ _ e'⟩
    · rw [h]; exact ⟨w, e⟩
theorem Liv.sub {C CR : Addr} {L L' : Addr → Prop} {o pc : Addr} {H : Hp} {ns : List Int} {cs : List (Int × Int × List Int)} (v : Liv C CR L o pc H ns cs) (l : ∀ b, L' b → L b) : Liv C CR L' o pc H ns cs := by
  obtain ⟨⟨dx, pn, mv, h1, h2, h3, h4⟩, ⟨ts, k1, k2, k3⟩, off, lv, ne, l1, l2⟩ := v
  have own : ∀ {b : Addr}, Own L' o pc b → Own L o pc b := fun h => h.imp (l _) id
  refine ⟨⟨dx, pn, mv, h1, h2, fun b hb => h3 b (own hb), h4.imp id fun ⟨ro, e1, r⟩ => ⟨ro, e1, r.sub fun b hb => own hb⟩⟩, ⟨ts, k1, k2, fun k t c a b => ?_⟩, fun b hb => off b (l b hb), fun b hb => lv b (l b hb), ne, l1, l2⟩
  obtain ⟨g, m1, m2, m3⟩ := (k3 k t c a b).all
  exact ⟨g, m1, m2, fun b hb => m3 b (own hb)⟩
end Ur
namespace Ur
open PySem L2
theorem livF_inj {pn pc pn' pc' : Addr} {mv mv' : V} (h : livF pn pc mv = livF pn' pc' mv') : pn = pn' ∧ pc = pc' ∧ mv = mv' := by
  rw [livF_eq, livF_eq] at h
  injection h with h1 h2
  injection h2 with h2 h3
  injection h3 with h3 _
  injection h1 with _ h1
  injection h2 with _ h2
  injection h3 with _ h3
  injection h1 with h1
  injection h2 with h2
  exact ⟨h1, h2, h3⟩
/-- .. and made ready -/
theorem Liv.ready {C CR : Addr} {L : Addr → Prop} {o pc x dx pn : Addr} {mv : V} {H H1 : Hp} {ns : List Int} {cs : List (Int × Int × List Int)} (v : Liv C CR L o pc H ns cs) (eo : H o = some (.ins C dx (livF pn pc mv))) (s : Same H H1) (r : Rdy CR (fun b => H b ≠ none) H1 x ns) :
    Rdy CR (Own L o pc) (upd H1 o (.ins C dx (livF pn pc (.ref x)))) x ns ∧ Liv C CR L o pc (upd H1 o (.ins C dx (livF pn pc (.ref x)))) ns cs ∧ Fr o pc H (upd H1 o (.ins C dx (livF pn pc (.ref x)))) := by
  have v1 := v.same s
  obtain ⟨⟨dx0, pn0, mv0, h1, h2, h3, h4⟩, ⟨us, k1, k2, k3⟩, off, lv, ne, l1, l2⟩ := v
  obtain ⟨_, ⟨us1, m1, m2, m3⟩, _, lv1, _, _, _⟩ := v1
  rw [eo] at h1
  injection h1 with h1
  injection h1 with _ _ h1
  obtain ⟨rfl, _, rfl⟩ := livF_inj h1
  have hb : But o H1 (upd H1 o (.ins C dx (livF pn pc (.ref x)))) := but_at but_refl
  have ho : H o ≠ none := by rw [eo]; exact fun k => nomatch k
  have r2 : Rdy CR (Own L o pc) (upd H1 o (.ins C dx (livF pn pc (.ref x)))) x ns := (r.but ho hb).sub fun b hb => by
    rcases hb with h | h | h
    · obtain ⟨w, e⟩ := lv b h; rw [e]; exact fun k => nomatch k
    · rw [h]; exact ho
    · rw [h, k1]; exact fun k => nomatch k
  refine ⟨r2, ⟨⟨dx, pn, .ref x, upd_same, hb _ _ (h3 o (.inr (.inl rfl))) (s _ _ h2), h3, .inr ⟨x, rfl, r2⟩⟩, ⟨us1, hb _ _ (Ne.symm ne) m1, m2, fun k t c a b => (m3 k t c a b).fr fun b v n e => hb b v (fun z => n (.inr (.inl z))) e⟩, off, fun b l => ?_, ne, l1, l2⟩, (Fr.same s).trans (Fr.but hb)⟩
  obtain ⟨w, e⟩ := lv1 b l
  exact ⟨w, hb _ _ (Ne.symm (off b l).1) e⟩
end Ur
namespace Ur
open PySem L2
/-! the changes as data -/
def chgD (c : Int × Int × List Int) : PyData := .tuple [.int c.1, .int c.2.1, .list (c.2.2.map .int)]
theorem lay_chgD (c : Int × Int × List Int) : PyData.canLay0 (chgD c) = true := by
  show PyData.canLay0 (.tuple [.int c.1, .int c.2.1, .list (c.2.2.map .int)]) = true
  refine canLayAll_of _ fun d hd => ?_
  simp only [List.mem_cons, List.not_mem_nil, or_false] at hd
  rcases hd with rfl | rfl | rfl
  · rfl
  · rfl
  · exact canLayAll_ints _
theorem depth_chgD (c : Int × Int × List Int) : PyData.depth (chgD c) ≤ 4 := by
  have h := depthAll_of (m := 3) [.int c.1, .int c.2.1, .list (c.2.2.map .int)] fun d hd => by
    simp only [List.mem_cons, List.not_mem_nil, or_false] at hd
    rcases hd with rfl | rfl | rfl
    · show PyData.depth (.int _) ≤ 3
      rw [PyData.depth]; omega
    · show PyData.depth (.int _) ≤ 3
      rw [PyData.depth]; omega
    · exact Nat.le_trans (depth_ints _) (by decide)
  show PyData.depth (.tuple _) ≤ 4
  rw [PyData.depth]
  omega
theorem shaped_chgs (cs : List (Int × Int × List Int)) : SeqAt.shaped (.list (cs.map chgD)) = true := by
  refine shaped_of (canLayAll_of _ fun d h => ?_) ?_
  · obtain ⟨c, _, rfl⟩ := List.mem_map.mp h
    exact lay_chgD c
  · have h := depthAll_of (m := 4) (cs.map chgD) fun d h => by
      obtain ⟨c, _, rfl⟩ := List.mem_map.mp h
      exact depth_chgD c
    rw [PyData.depth]
    omega
theorem Liv.dp {K : PySem.W.Frag} {C CR : Addr} {L : Addr → Prop} {o pc : Addr} {H : Hp} {ns : List Int} {cs : List (Int × Int × List Int)} (v : Liv C CR L o pc H ns cs) : Dp K H (.ref pc) (.list (cs.map chgD)) := by
  obtain ⟨ts, k1, k2, k3⟩ := v.chs
  refine .lst (SqL.of k1) (dpAll_of _ _ (by rw [List.length_map, List.length_map, k2]) fun k w d h1 h2 => ?_)
  rw [List.getElem?_map] at h1 h2
  obtain ⟨t, ht, rfl⟩ := Option.map_eq_some_iff.mp h1
  obtain ⟨c, hc, rfl⟩ := Option.map_eq_some_iff.mp h2
  obtain ⟨g, e1, e2, _⟩ := (k3 k t c ht hc).all
  exact .tup (SqT.of e1) (.cons (.int _) (.cons (.int _) (.cons (dp_ints (SqL.of e2)) .nil)))
theorem Liv.noChanges {K : PySem.W.Frag} {C CR : Addr} {L : Addr → Prop} {o pc b : Addr} {H : Hp} {ns : List Int} {cs : List (Int × Int × List Int)} {Q : VK} (v : Liv C CR L o pc H ns cs) (hb : SqL K H b []) (q : Q (.bl (decide (cs = []))) H) : rEqD K (.ref pc) (.ref b) H Q :=
  ⟨_, _, v.dp, .lst hb .nil, shaped_chgs cs, by decide, by
    have e : PyData.eqv (.list (cs.map chgD)) (.list []) = decide (cs = []) := by
      cases cs with
      | nil => rfl
      | cons p ps => rfl
    rw [e]; exact q⟩
end Ur
namespace Ur
open PySem L2
/-- what undo tells -/
structure UndoQ (C CR : Addr) (L : Addr → Prop) (o pc : Addr) (H : Hp) (ns : List Int) (cs : List (Int × Int × List Int)) (Q : VK) : Prop where
  no : cs = [] → ∀ H', Liv C CR L o pc H' ns cs → Fr o pc H H' → Q (.bl false) H'
  yes : ∀ (ds : List (Int × Int × List Int)) (c : Int × Int × List Int), cs = ds ++ [c] → (0 ≤ c.1 ∧ 0 ≤ c.2.1 ∧ c.1 + c.2.1 ≤ (ns.length : Int) ∧ (layd ns c.1 c.2.1 c.2.2).length ≤ 1000 ∧ c.2.2.length ≤ 2000) ∧ ∀ H', Liv C CR L o pc H' (layd ns c.1 c.2.1 c.2.2) ds → Fr o pc H H' → Q (.bl true) H'
end Ur

namespace Ur
open PySem L2
/-! ### what is done on a live row, and on rows here -/
structure Rws (N : Addr → Prop) (H : Hp) (ks : List Addr) (hs : List (List Int)) : Prop where
  len : ks.length = hs.length
  row : ∀ (i : Nat) (k : Addr), ks[i]? = some k → ∃ h : List Int, hs[i]? = some h ∧ H k = some (.lst (h.map V.int)) ∧ ∀ b, N b → k ≠ b
theorem Rws.fr {N : Addr → Prop} {H H' : Hp} {ks : List Addr} {hs : List (List Int)} (r : Rws N H ks hs) (f : ∀ b v, ¬ N b → H b = some v → H' b = some v) : Rws N H' ks hs :=
  ⟨r.len, fun i k e => by obtain ⟨h, h1, h2, h3⟩ := r.row i k e; exact ⟨h, h1, f _ _ (fun n => h3 _ n rfl) h2, h3⟩⟩
theorem Rws.nil {N : Addr → Prop} {H : Hp} : Rws N H [] [] := ⟨rfl, fun i k h => nomatch h⟩
theorem get_snoc {α : Type} {ks : List α} {k x : α} {i : Nat} (h : (ks ++ [k])[i]? = some x) : (i < ks.length ∧ ks[i]? = some x) ∨ (i = ks.length ∧ x = k) := by
  by_cases hk : i < ks.length
  · rw [List.getElem?_append_left hk] at h
    exact .inl ⟨hk, h⟩
  · have h2 := (List.getElem?_eq_some_iff.mp h).1
    rw [List.length_append] at h2
    have h3 : [k].length = 1 := rfl
    have hk2 : i = ks.length := by omega
    subst hk2
    rw [List.getElem?_append_right (Nat.le_refl _), Nat.sub_self] at h
    cases h
    exact .inr ⟨rfl, rfl⟩
theorem get_at {α : Type} (ks : List α) (k : α) : (ks ++ [k])[ks.length]? = some k := by
  rw [List.getElem?_append_right (Nat.le_refl _), Nat.sub_self]; rfl
theorem Rws.snoc {N : Addr → Prop} {H : Hp} {ks : List Addr} {hs : List (List Int)} {k : Addr} {h : List Int} (r : Rws N H ks hs) (e : H k = some (.lst (h.map V.int))) (n : ∀ b, N b → k ≠ b) : Rws N H (ks ++ [k]) (hs ++ [h]) := by
  refine ⟨by rw [List.length_append, List.length_append, r.len]; rfl, fun i x hx => ?_⟩
  rcases get_snoc hx with ⟨h1, h2⟩ | ⟨rfl, rfl⟩
  · obtain ⟨m, h3, h4, h5⟩ := r.row i x h2
    exact ⟨m, by rw [List.getElem?_append_left (by have := r.len; omega)]; exact h3, h4, h5⟩
  · exact ⟨h, by rw [r.len]; exact get_at hs h, e, n⟩
theorem Rws.init {N : Addr → Prop} {H : Hp} {ks : List Addr} {hs : List (List Int)} {k : Addr} {h : List Int} (r : Rws N H (ks ++ [k]) (hs ++ [h])) : Rws N H ks hs ∧ H k = some (.lst (h.map V.int)) ∧ ∀ b, N b → k ≠ b := by
  have hl := r.len
  rw [List.length_append, List.length_append] at hl
  have hl2 : ks.length + 1 = hs.length + 1 := hl
  refine ⟨⟨by omega, fun i x hx => ?_⟩, ?_⟩
  · have hi := (List.getElem?_eq_some_iff.mp hx).1
    obtain ⟨m, h3, h4, h5⟩ := r.row i x (by rw [List.getElem?_append_left hi]; exact hx)
    rw [List.getElem?_append_left (by omega)] at h3
    exact ⟨m, h3, h4, h5⟩
  · obtain ⟨m, h3, h4, h5⟩ := r.row ks.length k (get_at ks k)
    rw [show ks.length = hs.length by omega, get_at hs h] at h3
    cases h3
    exact ⟨h4, h5⟩
def rwsD (hs : List (List Int)) : List PyData := hs.map fun h => PyData.list (h.map PyData.int)
theorem Rws.dp {K : PySem.W.Frag} {N : Addr → Prop} {H : Hp} {a : Addr} {ks : List Addr} {hs : List (List Int)} (r : Rws N H ks hs) (h : SqL K H a (ks.map V.ref)) : Dp K H (.ref a) (.list (rwsD hs)) := by
  refine .lst h (dpAll_of _ _ (by rw [rwsD, List.length_map, List.length_map, r.len]) fun k v d h1 h2 => ?_)
  rw [List.getElem?_map] at h1
  rw [rwsD, List.getElem?_map] at h2
  obtain ⟨p, hp, rfl⟩ := Option.map_eq_some_iff.mp h1
  obtain ⟨m, h3, h4, _⟩ := r.row k p hp
  rw [h3] at h2
  cases h2
  exact dp_ints (SqL.of h4)
theorem shaped_rws (hs : List (List Int)) : SeqAt.shaped (.list (rwsD hs)) = true := by
  refine shaped_of (canLayAll_of _ fun d h => ?_) ?_
  · obtain ⟨k, _, rfl⟩ := List.mem_map.mp h
    exact canLayAll_ints _
  · have h := depthAll_of (m := 2) (rwsD hs) fun d h => by
      obtain ⟨k, _, rfl⟩ := List.mem_map.mp h
      exact depth_ints _
    rw [PyData.depth]
    omega
theorem rNe_rwsN {K : PySem.W.Frag} {N : Addr → Prop} {H : Hp} {a b : Addr} {ks : List Addr} {hs : List (List Int)} {Q : VK} (r : Rws N H ks hs) (h1 : SqL K H a (ks.map V.ref)) (h2 : SqL K H b []) (q : Q (.bl (!decide (hs = []))) H) : rNeD K (.ref a) (.ref b) H Q :=
  ⟨_, _, r.dp h1, .lst h2 .nil, shaped_rws hs, by decide, by
    have e : PyData.eqv (.list (rwsD hs)) (.list []) = decide (hs = []) := by
      cases hs with
      | nil => rfl
      | cons p ps => rfl
    rw [e]; exact q⟩
/-- how far a live row's changes lead back: the rows of ahead -/
inductive Back : List Int → List (Int × Int × List Int) → List (List Int) → Prop
  | nil {ns : List Int} : Back ns [] []
  | snoc {ns m : List Int} {cs : List (Int × Int × List Int)} {hs : List (List Int)} {c : Int × Int × List Int} : Back m cs hs → layd ns c.1 c.2.1 c.2.2 = m → 0 ≤ c.1 → 0 ≤ c.2.1 → c.1 + c.2.1 ≤ (ns.length : Int) → c.2.2.length ≤ 2000 → m.length ≤ 400 → Back ns (cs ++ [c]) (hs ++ [m])
theorem Back.len {ns : List Int} {cs : List (Int × Int × List Int)} {hs : List (List Int)} (b : Back ns cs hs) : cs.length = hs.length := by
  induction b with
  | nil => rfl
  | snoc _ _ _ _ _ _ _ ih => rw [List.length_append, List.length_append, ih]; rfl
theorem Back.last {ns : List Int} {cs : List (Int × Int × List Int)} {hs : List (List Int)} (b : Back ns cs hs) : (cs = [] ∧ hs = []) ∨ ∃ c m cs' hs', cs = cs' ++ [c] ∧ hs = hs' ++ [m] ∧ Back m cs' hs' ∧ layd ns c.1 c.2.1 c.2.2 = m ∧ (0 ≤ c.1 ∧ 0 ≤ c.2.1 ∧ c.1 + c.2.1 ≤ (ns.length : Int) ∧ (layd ns c.1 c.2.1 c.2.2).length ≤ 1000 ∧ c.2.2.length ≤ 2000) ∧ m.length ≤ 400 := by
  cases b with
  | nil => exact .inl ⟨rfl, rfl⟩
  | snoc b e h0 h1 h2 h3 h4 => exact .inr ⟨_, _, _, _, rfl, rfl, b, e, ⟨h0, h1, h2, by rw [e]; omega, h3⟩, h4⟩
theorem Back.note {ns gs : List Int} {cs : List (Int × Int × List Int)} {hs : List (List Int)} {p m : Int} (b : Back ns cs hs) (h0 : 0 ≤ p) (h1 : 0 ≤ m) (h2 : p + m ≤ ns.length) (hl : ns.length ≤ 400) : Back (layd ns p m gs) (cs ++ [(p, (gs.length : Int), gone ns p m)]) (hs ++ [ns]) := by
  have e := layd_len (ns := ns) (gs := gs) (p := p) (m := m) h0 h1 h2
  refine .snoc b (layd_back h0 h1 h2) h0 (Int.natCast_nonneg _) ?_ ?_ hl
  · show p + (gs.length : Int) ≤ _
    omega
  · show (gone ns p m).length ≤ 2000
    unfold gone
    rw [List.length_take, List.length_drop]
    omega
/-- the places at which something is done -/
def Dbr (a st pl o pc : Addr) (b : Addr) : Prop := b = a ∨ b = st ∨ b = pl ∨ b = o ∨ b = pc
structure Dst (C CR : Addr) (L : Addr → Prop) (a o st pl pc : Addr) (H : Hp) (ns : List Int) (cs : List (Int × Int × List Int)) : Prop where
  draws : ∃ ds : List Int, H a = some (.lst (ds.map V.int))
  liv : Liv C CR L o pc H ns cs
  la : L a
  ls : L st
  lp : L pl
  nas : a ≠ st
  nap : a ≠ pl
  nsp : st ≠ pl
  row : ∃ (r : Addr) (ks : List Addr) (hs : List (List Int)), H st = some (.lst [.ref r, .ref pl]) ∧ H r = some (.lst (ns.map V.int)) ∧ (∀ b, Own L o pc b → r ≠ b) ∧ H pl = some (.lst (ks.map V.ref)) ∧ Rws (Own L o pc) H ks hs ∧ Back ns cs hs
  len : ns.length ≤ 400
theorem Dst.own {C CR : Addr} {L : Addr → Prop} {a o st pl pc b : Addr} {H : Hp} {ns : List Int} {cs : List (Int × Int × List Int)} (d : Dst C CR L a o st pl pc H ns cs) (h : Dbr a st pl o pc b) : Own L o pc b := by
  rcases h with h | h | h | h | h
  · exact .inl (h ▸ d.la)
  · exact .inl (h ▸ d.ls)
  · exact .inl (h ▸ d.lp)
  · exact .inr (.inl h)
  · exact .inr (.inr h)
theorem own_of {L : Addr → Prop} {a o st pl pc : Addr} (la : L a) (ls : L st) (lp : L pl) {b : Addr} (h : Dbr a st pl o pc b) : Own L o pc b := by
  rcases h with h | h | h | h | h
  · exact .inl (h ▸ la)
  · exact .inl (h ▸ ls)
  · exact .inl (h ▸ lp)
  · exact .inr (.inl h)
  · exact .inr (.inr h)
/-- .. all else stays -/
def Dfr (a st pl o pc : Addr) (H H' : Hp) : Prop := ∀ b v, ¬ Dbr a st pl o pc b → H b = some v → H' b = some v
theorem Dfr.trans {a st pl o pc : Addr} {H H' H'' : Hp} (f : Dfr a st pl o pc H H') (g : Dfr a st pl o pc H' H'') : Dfr a st pl o pc H H'' := fun b v n e => g b v n (f b v n e)
theorem Dfr.same {a st pl o pc : Addr} {H H' : Hp} (s : Same H H') : Dfr a st pl o pc H H' := fun b v _ e => s b v e
theorem Dfr.fr {a st pl o pc : Addr} {H H' : Hp} (f : Fr o pc H H') : Dfr a st pl o pc H H' := fun b v n e => f b v (fun z => n (.inr (.inr (.inr (.inl z))))) (fun z => n (.inr (.inr (.inr (.inr z))))) e
theorem Dfr.a {a st pl o pc : Addr} {H H' : Hp} (f : But a H H') : Dfr a st pl o pc H H' := fun b v n e => f b v (fun z => n (.inl z)) e
theorem Dfr.st {a st pl o pc : Addr} {H H' : Hp} (f : But st H H') : Dfr a st pl o pc H H' := fun b v n e => f b v (fun z => n (.inr (.inl z))) e
theorem Dfr.pl {a st pl o pc : Addr} {H H' : Hp} (f : But pl H H') : Dfr a st pl o pc H H' := fun b v n e => f b v (fun z => n (.inr (.inr (.inl z)))) e
theorem Dst.same {C CR : Addr} {L : Addr → Prop} {a o st pl pc : Addr} {H H' : Hp} {ns : List Int} {cs : List (Int × Int × List Int)} (d : Dst C CR L a o st pl pc H ns cs) (s : Same H H') : Dst C CR L a o st pl pc H' ns cs := by
  obtain ⟨⟨ds, e1⟩, v, la, ls, lp, n1, n2, n3, ⟨r, ks, hs, e2, e3, e4, e5, e6, e7⟩, l⟩ := d
  exact ⟨⟨ds, s _ _ e1⟩, v.same s, la, ls, lp, n1, n2, n3, ⟨r, ks, hs, s _ _ e2, s _ _ e3, e4, s _ _ e5, e6.fr fun b w _ e => s b w e, e7⟩, l⟩
theorem Dst.fr {C CR : Addr} {L : Addr → Prop} {a o st pl pc : Addr} {H H' : Hp} {ns : List Int} {cs : List (Int × Int × List Int)} (d : Dst C CR L a o st pl pc H ns cs) (v' : Liv C CR L o pc H' ns cs) (f : Fr o pc H H') : Dst C CR L a o st pl pc H' ns cs := by
  obtain ⟨⟨ds, e1⟩, v, la, ls, lp, n1, n2, n3, ⟨r, ks, hs, e2, e3, e4, e5, e6, e7⟩, l⟩ := d
  have g : ∀ b w, L b → H b = some w → H' b = some w := fun b w lb e => f b w (Ne.symm (v.off b lb).1) (Ne.symm (v.off b lb).2) e
  exact ⟨⟨ds, g _ _ la e1⟩, v', la, ls, lp, n1, n2, n3, ⟨r, ks, hs, g _ _ ls e2, f _ _ (e4 _ (.inr (.inl rfl))) (e4 _ (.inr (.inr rfl))) e3, e4, g _ _ lp e5, e6.fr fun b w n e => Dfr.fr (a := a) (st := st) (pl := pl) f b w (fun z => n (own_of la ls lp z)) e, e7⟩, l⟩
theorem Dst.a {C CR : Addr} {L : Addr → Prop} {a o st pl pc : Addr} {H H' : Hp} {ns ms : List Int} {cs : List (Int × Int × List Int)} (d : Dst C CR L a o st pl pc H ns cs) (b : But a H H') (ea : H' a = some (.lst (ms.map V.int))) : Dst C CR L a o st pl pc H' ns cs := by
  obtain ⟨⟨ds, e1⟩, v, la, ls, lp, n1, n2, n3, ⟨r, ks, hs, e2, e3, e4, e5, e6, e7⟩, l⟩ := d
  exact ⟨⟨ms, ea⟩, v.but la b ea, la, ls, lp, n1, n2, n3, ⟨r, ks, hs, b _ _ (Ne.symm n1) e2, b _ _ (e4 _ (.inl la)) e3, e4, b _ _ (Ne.symm n2) e5, e6.fr fun b' w n e => b b' w (fun z => n (.inl (z ▸ la))) e, e7⟩, l⟩
end Ur
namespace Ur
open PySem L2
theorem Dst.fresh {C CR : Addr} {L : Addr → Prop} {a o st pl pc q : Addr} {H : Hp} {ns : List Int} {cs : List (Int × Int × List Int)} (d : Dst C CR L a o st pl pc H ns cs) (n : H q = none) : ∀ b, Own L o pc b → q ≠ b := by
  obtain ⟨⟨ds, e1⟩, v, la, ls, lp, n1, n2, n3, ⟨r, ks, hs, e2, e3, e4, e5, e6, e7⟩, l⟩ := d
  obtain ⟨dx, pn, mv, h1, _⟩ := v.obj
  obtain ⟨ts, k1, _⟩ := v.chs
  intro b hb e
  rcases hb with h | h | h
  · obtain ⟨w, ew⟩ := v.live b h
    rw [e, ew] at n; cases n
  · rw [e, h, h1] at n; cases n
  · rw [e, h, k1] at n; cases n
/-- all changes taken back -/
def undoAll (ns : List Int) (cs : List (Int × Int × List Int)) : List Int := cs.reverse.foldl (fun m c => layd m c.1 c.2.1 c.2.2) ns
theorem undoAll_snoc (ns : List Int) (cs : List (Int × Int × List Int)) (c : Int × Int × List Int) : undoAll ns (cs ++ [c]) = undoAll (layd ns c.1 c.2.1 c.2.2) cs := by
  unfold undoAll
  rw [List.reverse_append]
  rfl
theorem undoAll_note {ns gs : List Int} {cs : List (Int × Int × List Int)} {p m : Int} (h0 : 0 ≤ p) (h1 : 0 ≤ m) (h2 : p + m ≤ ns.length) : undoAll (layd ns p m gs) (cs ++ [(p, (gs.length : Int), gone ns p m)]) = undoAll ns cs := by
  rw [undoAll_snoc]
  show undoAll (layd (layd ns p m gs) p gs.length (gone ns p m)) cs = _
  rw [layd_back h0 h1 h2]
/-- a change is done: here first -/
theorem Dst.done {C CR : Addr} {L : Addr → Prop} {a o st pl pc q kp r : Addr} {ks : List Addr} {H : Hp} {ns ms : List Int} {cs : List (Int × Int × List Int)} (d : Dst C CR L a o st pl pc H ns cs) (es : H st = some (.lst [.ref r, .ref pl])) (ep : H pl = some (.lst (ks.map V.ref)))
    (eq : H q = some (.lst (ms.map V.int))) (ek : H kp = some (.lst (ns.map V.int))) (fq : ∀ b, Own L o pc b → q ≠ b) (fk : ∀ b, Own L o pc b → kp ≠ b) :
    Liv C CR L o pc (upd (upd H st (.lst [.ref q, .ref pl])) pl (.lst (ks.map V.ref ++ [.ref kp]))) ns cs ∧ ∃ hs, Back ns cs hs ∧ ∀ H' cs', Liv C CR L o pc H' ms cs' → Fr o pc (upd (upd H st (.lst [.ref q, .ref pl])) pl (.lst (ks.map V.ref ++ [.ref kp]))) H' → Back ms cs' (hs ++ [ns]) → ms.length ≤ 400 →
      Dst C CR L a o st pl pc H' ms cs' ∧ Dfr a st pl o pc H H' := by
  obtain ⟨⟨ds, e1⟩, v, la, ls, lp, n1, n2, n3, ⟨r0, ks0, hs, e2, e3, e4, e5, e6, e7⟩, l⟩ := d
  have hk : ks0 = ks := by
    rw [e5] at ep
    injection ep with ep
    injection ep with ep
    exact refs_inj ep
  subst hk
  have b1 : But st H (upd H st (.lst [.ref q, .ref pl])) := but_at but_refl
  have b2 : But pl (upd H st (.lst [.ref q, .ref pl])) (upd (upd H st (.lst [.ref q, .ref pl])) pl (.lst (ks0.map V.ref ++ [.ref kp]))) := but_at but_refl
  have v2 := (v.but ls b1 upd_same).but lp b2 upd_same
  refine ⟨v2, hs, e7, fun H' cs' v' f bk hl => ?_⟩
  have fD : Dfr a st pl o pc H (upd (upd H st (.lst [.ref q, .ref pl])) pl (.lst (ks0.map V.ref ++ [.ref kp]))) := (Dfr.st b1).trans (Dfr.pl b2)
  have fD2 := fD.trans (Dfr.fr (a := a) (st := st) (pl := pl) f)
  have g : ∀ b w, L b → (upd (upd H st (.lst [.ref q, .ref pl])) pl (.lst (ks0.map V.ref ++ [.ref kp]))) b = some w → H' b = some w := fun b w lb e => f b w (Ne.symm (v.off b lb).1) (Ne.symm (v.off b lb).2) e
  refine ⟨⟨⟨ds, g _ _ la ?_⟩, v', la, ls, lp, n1, n2, n3, ⟨q, ks0 ++ [kp], hs ++ [ns], g _ _ ls ?_, fD2 _ _ (fun n => fq _ (own_of la ls lp n) rfl) eq, fq, g _ _ lp ?_, ?_, bk⟩, hl⟩, fD2⟩
  · rw [upd_ne n2, upd_ne n1]; exact e1
  · rw [upd_ne n3, upd_same]
  · rw [upd_same, List.map_append]; rfl
  · exact (e6.snoc ek fk).fr fun b w n e => fD2 b w (fun z => n (own_of la ls lp z)) e
/-- .. and taken back -/
theorem Dst.undone {C CR : Addr} {L : Addr → Prop} {a o st pl pc k r : Addr} {ks : List Addr} {H : Hp} {ns : List Int} {cs : List (Int × Int × List Int)} (d : Dst C CR L a o st pl pc H ns cs) (es : H st = some (.lst [.ref r, .ref pl])) (ep : H pl = some (.lst ((ks ++ [k]).map V.ref))) :
    Liv C CR L o pc (upd (upd H pl (.lst (ks.map V.ref))) st (.lst [.ref k, .ref pl])) ns cs ∧ ∃ ds c, cs = ds ++ [c] ∧ (0 ≤ c.1 ∧ 0 ≤ c.2.1 ∧ c.1 + c.2.1 ≤ (ns.length : Int) ∧ (layd ns c.1 c.2.1 c.2.2).length ≤ 1000 ∧ c.2.2.length ≤ 2000) ∧
      ∀ H', Liv C CR L o pc H' (layd ns c.1 c.2.1 c.2.2) ds → Fr o pc (upd (upd H pl (.lst (ks.map V.ref))) st (.lst [.ref k, .ref pl])) H' → Dst C CR L a o st pl pc H' (layd ns c.1 c.2.1 c.2.2) ds ∧ Dfr a st pl o pc H H' := by
  obtain ⟨⟨ds, e1⟩, v, la, ls, lp, n1, n2, n3, ⟨r0, ks0, hs, e2, e3, e4, e5, e6, e7⟩, l⟩ := d
  have hk : ks0 = ks ++ [k] := by
    rw [e5] at ep
    injection ep with ep
    injection ep with ep
    exact refs_inj ep
  subst hk
  have b1 : But pl H (upd H pl (.lst (ks.map V.ref))) := but_at but_refl
  have b2 : But st (upd H pl (.lst (ks.map V.ref))) (upd (upd H pl (.lst (ks.map V.ref))) st (.lst [.ref k, .ref pl])) := but_at but_refl
  have v2 := (v.but lp b1 upd_same).but ls b2 upd_same
  rcases e7.last with ⟨_, h⟩ | ⟨c, m, cs', hs', rfl, rfl, bk, hm, hc, hml⟩
  · have := e6.len
    rw [h, List.length_append] at this
    cases this
  subst hm
  refine ⟨v2, cs', c, rfl, hc, fun H' v' f => ?_⟩
  obtain ⟨r1, ek, fk⟩ := e6.init
  have fD : Dfr a st pl o pc H (upd (upd H pl (.lst (ks.map V.ref))) st (.lst [.ref k, .ref pl])) := (Dfr.pl b1).trans (Dfr.st b2)
  have fD2 := fD.trans (Dfr.fr (a := a) (st := st) (pl := pl) f)
  have g : ∀ b w, L b → (upd (upd H pl (.lst (ks.map V.ref))) st (.lst [.ref k, .ref pl])) b = some w → H' b = some w := fun b w lb e => f b w (Ne.symm (v.off b lb).1) (Ne.symm (v.off b lb).2) e
  refine ⟨⟨⟨ds, g _ _ la ?_⟩, v', la, ls, lp, n1, n2, n3, ⟨k, ks, hs', g _ _ ls upd_same, fD2 _ _ (fun n => fk _ (own_of la ls lp n) rfl) ek, fk, g _ _ lp ?_, r1.fr fun b w n e => fD2 b w (fun z => n (own_of la ls lp z)) e, bk⟩, hml⟩, fD2⟩
  · rw [upd_ne n1, upd_ne n2]; exact e1
  · rw [upd_ne (Ne.symm n3), upd_same]
theorem ix0 {xs : List V} {v : V} : ixN (xs ++ [v]).length 0 = some 0 := by
  unfold ixN
  rw [if_pos (by omega), if_pos (by rw [List.length_append]; show (0 : Int) < ((xs.length + 1 : Nat) : Int); omega)]
  rfl
theorem Fr.fresh {o pc p : Addr} {H H3 H4 : Hp} (f : Fr o pc H H3) (b : But p H3 H4) (n : H p = none) : Fr o pc H H4 := fun x v h1 h2 e => b _ _ (fun z => by rw [z, n] at e; cases e) (f _ _ h1 h2 e)
theorem Liv.ob {C CR : Addr} {L : Addr → Prop} {o pc : Addr} {H : Hp} {ns : List Int} {cs : List (Int × Int × List Int)} (v : Liv C CR L o pc H ns cs) : ∃ (dx pn : Addr) (mv : V), H o = some (.ins C dx (livF pn pc mv)) := by
  obtain ⟨dx, pn, mv, eo, _⟩ := v.obj
  exact ⟨dx, pn, mv, eo⟩
theorem Dst.init {C CR : Addr} {L : Addr → Prop} {a o pc q pl st : Addr} {H : Hp} {r ds : List Int} (v : Liv C CR L o pc H r []) (la : L a) (ea : H a = some (.lst (ds.map V.int))) (nq : H q = none) (npl : (upd H q (.lst (r.map V.int))) pl = none)
    (nst : (upd (upd H q (.lst (r.map V.int))) pl (.lst [])) st = none) (hl : r.length ≤ 400) : Dst C CR (fun b => (L b ∨ b = pl) ∨ b = st) a o st pl pc (upd (upd (upd H q (.lst (r.map V.int))) pl (.lst [])) st (.lst [.ref q, .ref pl])) r [] := by
  have s1 : Same H (upd H q (.lst (r.map V.int))) := same_new nq
  have eq1 : (upd H q (.lst (r.map V.int))) q = some (.lst (r.map V.int)) := upd_same
  have v1 := v.same s1
  have ea1 := s1 _ _ ea
  have haq : a ≠ q := fun e => by rw [e, nq] at ea; cases ea
  have hoq : q ≠ o := fun e => by obtain ⟨dx, pn, mv, eo⟩ := v.ob; rw [← e, nq] at eo; cases eo
  have hcq : q ≠ pc := fun e => by obtain ⟨ts, ec, _⟩ := v.chs; rw [← e, nq] at ec; cases ec
  generalize (upd H q (.lst (r.map V.int))) = H1 at *
  have s2 : Same H1 (upd H1 pl (.lst [])) := same_new npl
  have ep2 : (upd H1 pl (.lst [])) pl = some (.lst []) := upd_same
  have v2 := v1.add npl s2 ep2
  have ea2 := s2 _ _ ea1
  have eq2 := s2 _ _ eq1
  have hap : a ≠ pl := fun e => by rw [e, npl] at ea1; cases ea1
  have hqp : q ≠ pl := fun e => by rw [e, npl] at eq1; cases eq1
  generalize (upd H1 pl (.lst [])) = H2 at *
  have s3 : Same H2 (upd H2 st (.lst [.ref q, .ref pl])) := same_new nst
  have v3 := v2.add nst s3 upd_same
  have has : a ≠ st := fun e => by rw [e, nst] at ea2; cases ea2
  have hqs : q ≠ st := fun e => by rw [e, nst] at eq2; cases eq2
  have hps : st ≠ pl := fun e => by rw [← e, nst] at ep2; cases ep2
  refine ⟨⟨ds, s3 _ _ ea2⟩, v3, .inl (.inl la), .inr rfl, .inl (.inr rfl), has, hap, hps, ⟨q, [], [], upd_same, s3 _ _ eq2, fun b hb => ?_, s3 _ _ ep2, Rws.nil, .nil⟩, hl⟩
  rcases hb with (h | h) | h | h
  · rcases h with h | h
    · intro e
      obtain ⟨w, ew⟩ := v.live b h
      rw [← e, nq] at ew; cases ew
    · rw [h]; exact hqp
  · rw [h]; exact hqs
  · rw [h]; exact hoq
  · rw [h]; exact hcq
/-- all but what D tells stays -/
def Keep (D : Addr → Prop) (H H' : Hp) : Prop := ∀ b v, ¬ D b → H b = some v → H' b = some v
theorem Keep.refl {D : Addr → Prop} {H : Hp} : Keep D H H := fun _ _ _ e => e
theorem Keep.trans {D : Addr → Prop} {H H' H'' : Hp} (f : Keep D H H') (g : Keep D H' H'') : Keep D H H'' := fun b v n e => g b v n (f b v n e)
theorem Keep.same {D : Addr → Prop} {H H' : Hp} (s : Same H H') : Keep D H H' := fun b v _ e => s b v e
theorem Keep.but {D : Addr → Prop} {a : Addr} {H H' : Hp} (l : D a) (s : But a H H') : Keep D H H' := fun b v n e => s b v (fun z => n (z ▸ l)) e
theorem Keep.fr {D : Addr → Prop} {o pc : Addr} {H H' : Hp} (l : D o) (k : D pc) (s : Fr o pc H H') : Keep D H H' := fun b v n e => s b v (fun z => n (z ▸ l)) (fun z => n (z ▸ k)) e
theorem Keep.le {D D' : Addr → Prop} {H H' : Hp} (f : Keep D H H') (l : ∀ b, D b → D' b) : Keep D' H H' := fun b v n e => f b v (fun z => n (l b z)) e
/-- places that weren't there don't count -/
theorem Keep.fresh {D D' : Addr → Prop} {H H' : Hp} (f : Keep D' H H') (l : ∀ b, D' b → D b ∨ H b = none) : Keep D H H' := fun b v n e => f b v (fun z => (l b z).elim n fun k => by rw [k] at e; cases e) e
theorem Liv.frm {C CR : Addr} {L D : Addr → Prop} {o pc : Addr} {H H' : Hp} {ns : List Int} {cs : List (Int × Int × List Int)} (v : Liv C CR L o pc H ns cs) (f : Keep D H H') (l : ∀ b, D b → L b) (lv' : ∀ b, L b → ∃ w, H' b = some w) : Liv C CR L o pc H' ns cs := by
  obtain ⟨⟨dx, pn, mv, h1, h2, h3, h4⟩, ⟨ts, k1, k2, k3⟩, off, lv, ne, l1, l2⟩ := v
  have g : ∀ b v, ¬ Own L o pc b → H b = some v → H' b = some v := fun b v n e => f b v (fun z => n (.inl (l b z))) e
  have go : ¬ D o := fun z => (off o (l _ z)).1 rfl
  have gc : ¬ D pc := fun z => (off pc (l _ z)).2 rfl
  exact ⟨⟨dx, pn, mv, f _ _ go h1, f _ _ (fun z => h3 pn (.inl (l _ z)) rfl) h2, h3, h4.imp id fun ⟨ro, e, r⟩ => ⟨ro, e, r.fr g⟩⟩, ⟨ts, f _ _ gc k1, k2, fun k t c a b => (k3 k t c a b).fr g⟩, off, lv', ne, l1, l2⟩
theorem Liv.lives {C CR : Addr} {L D : Addr → Prop} {o pc : Addr} {H H' : Hp} {ns : List Int} {cs : List (Int × Int × List Int)} (v : Liv C CR L o pc H ns cs) (f : Keep D H H') (d : ∀ b, D b → ∃ w, H' b = some w) : ∀ b, L b → ∃ w, H' b = some w := fun b lb => by
  by_cases h : D b
  · exact d b h
  · obtain ⟨w, e⟩ := v.live b lb
    exact ⟨w, f _ _ h e⟩
theorem Rdy.keep {C : Addr} {L D : Addr → Prop} {H H' : Hp} {o : Addr} {ns : List Int} (r : Rdy C L H o ns) (f : Keep D H H') (l : ∀ b, D b → L b) : Rdy C L H' o ns := r.fr fun b v n e => f b v (fun z => n (l b z)) e
/-- what is done at a live row and at the draws, all told -/
theorem Dst.keep {C CR : Addr} {L : Addr → Prop} {a o st pl pc : Addr} {H H' : Hp} {ns ms : List Int} {cs : List (Int × Int × List Int)} (d : Dst C CR L a o st pl pc H ns cs) (v' : Liv C CR L o pc H' ns cs) (ea : H' a = some (.lst (ms.map V.int))) (f : Keep (fun b => b = a ∨ b = o ∨ b = pc) H H') : Dst C CR L a o st pl pc H' ns cs := by
  obtain ⟨⟨ds, e1⟩, v, la, ls, lp, n1, n2, n3, ⟨r, ks, hs, e2, e3, e4, e5, e6, e7⟩, l⟩ := d
  have g : ∀ b w, L b → b ≠ a → H b = some w → H' b = some w := fun b w lb na e => f b w (fun z => z.elim na fun z => z.elim (Ne.symm (v.off b lb).1) (Ne.symm (v.off b lb).2)) e
  have h : ∀ b w, ¬ Own L o pc b → H b = some w → H' b = some w := fun b w n e => f b w (fun z => n (z.elim (fun z => .inl (z ▸ la)) .inr)) e
  exact ⟨⟨ms, ea⟩, v', la, ls, lp, n1, n2, n3, ⟨r, ks, hs, g _ _ ls (Ne.symm n1) e2, h _ _ (fun n => e4 _ n rfl) e3, e4, g _ _ lp (Ne.symm n2) e5, e6.fr h, e7⟩, l⟩
theorem Rdy.adds {C : Addr} {L D : Addr → Prop} {H : Hp} {o : Addr} {ns : List Int} (r : Rdy C L H o ns) (n : ∀ b, D b → H b = none) : Rdy C (fun b => L b ∨ D b) H o ns := by
  obtain ⟨dx, la, na, e1, e2, e3, k⟩ := r.all
  refine ⟨dx, la, na, e1, e2, e3, fun b hb => ?_⟩
  rcases hb with hb | hb
  · exact k b hb
  · have n := n b hb
    exact ⟨fun e => by rw [e, n] at e1; (cases e1), fun e => by rw [e, n] at e2; (cases e2), fun e => by rw [e, n] at e3; (cases e3)⟩
theorem Liv.adds {C CR : Addr} {L D : Addr → Prop} {o pc : Addr} {H H' : Hp} {ns : List Int} {cs : List (Int × Int × List Int)} (v : Liv C CR L o pc H ns cs) (n : ∀ b, D b → H b = none) (s : Same H H') (e : ∀ b, D b → ∃ w, H' b = some w) : Liv C CR (fun b => L b ∨ D b) o pc H' ns cs := by
  obtain ⟨⟨dx, pn, mv, h1, h2, h3, h4⟩, ⟨ts, k1, k2, k3⟩, off, lv, ne, l1, l2⟩ := v
  have nx : ∀ {x y : Addr} {w : HO}, D x → H y = some w → y ≠ x := fun d h z => by rw [z, n _ d] at h; cases h
  have own : ∀ {b : Addr}, Own (fun b => L b ∨ D b) o pc b → Own L o pc b ∨ D b := fun h => by
    rcases h with (h | h) | h
    · exact .inl (.inl h)
    · exact .inr h
    · exact .inl (.inr h)
  have h4' : mv = .non ∨ ∃ ro, mv = .ref ro ∧ Rdy CR (Own (fun b => L b ∨ D b) o pc) H' ro ns := by
    rcases h4 with h | ⟨ro, e1, r⟩
    · exact .inl h
    · exact .inr ⟨ro, e1, ((r.adds n).same s).sub fun b hb => own hb⟩
  refine ⟨⟨dx, pn, mv, s _ _ h1, s _ _ h2, fun b hb => ?_, h4'⟩, ⟨ts, s _ _ k1, k2, fun k t c a b => ?_⟩, fun b hb => ?_, fun b hb => ?_, ne, l1, l2⟩
  · rcases own hb with h | h
    · exact h3 b h
    · exact nx h h2
  · obtain ⟨g, m1, m2, m3⟩ := (k3 k t c a b).all
    refine ⟨g, s _ _ m1, s _ _ m2, fun b hb => ?_⟩
    rcases own hb with h | h
    · exact m3 b h
    · exact ⟨nx h m1, nx h m2⟩
  · rcases hb with h | h
    · exact off b h
    · exact ⟨nx h h1, nx h k1⟩
  · rcases hb with h | h
    · obtain ⟨w', e'⟩ := lv b h
      exact ⟨w', s _ _ e'⟩
    · exact e b h
/-- other barred places change -/
theorem Dst.frm {C CR : Addr} {L D : Addr → Prop} {a o st pl pc : Addr} {H H' : Hp} {ns : List Int} {cs : List (Int × Int × List Int)} (d : Dst C CR L a o st pl pc H ns cs) (f : Keep D H H') (l : ∀ b, D b → L b) (up : ∀ b, D b → ∃ w, H' b = some w) (na : ¬ D a) (ns' : ¬ D st) (np : ¬ D pl) : Dst C CR L a o st pl pc H' ns cs := by
  obtain ⟨⟨ds, e1⟩, v, la, ls, lp, n1, n2, n3, ⟨r, ks, hs, e2, e3, e4, e5, e6, e7⟩, h⟩ := d
  exact ⟨⟨ds, f _ _ na e1⟩, v.frm f l (v.lives f up), la, ls, lp, n1, n2, n3, ⟨r, ks, hs, f _ _ ns' e2, f _ _ (fun z => e4 _ (.inl (l _ z)) rfl) e3, e4, f _ _ np e5, e6.fr fun b w n e => f b w (fun z => n (.inl (l _ z))) e, e7⟩, h⟩
/-- while, where the test does something -/
theorem while_e {tb : TS} {D : Ends} {σ : L2.St} {H : Hp} {c : TT} (Pv T E : Nat → L2.St → Hp → Prop) (m0 : Nat) (h0 : Pv m0 σ H)
    (ht : ∀ m σ H, Pv m σ H → ∀ Q : Bool → Hp → Prop, (∀ H', T m σ H' → Q true H') → (∀ H', E m σ H' → Q false H') → c σ H Q)
    (hs : ∀ m σ H', T m σ H' → tb { D with nx := fun σ' H' => Iv (∃ m', m' < m ∧ Pv m' σ' H'), ct := fun σ' H' => Iv (∃ m', m' < m ∧ Pv m' σ' H'), bk := D.nx } σ H')
    (hd : ∀ m σ H', E m σ H' → D.nx σ H') : tWhile c tb D σ H := by
  refine ⟨Pv, ⟨m0, h0⟩, fun m σ H p => ht m σ H p _ (fun H' t => ?_) (fun H' e => ?_)⟩
  · exact (if_pos rfl).mpr ⟨_, fun _ _ n => n.out, hs m σ H' t⟩
  · exact (if_neg Bool.false_ne_true).mpr (hd m σ H' e)
theorem layd_mid (A X C gs : List Int) : layd (A ++ X ++ C) A.length X.length gs = A ++ gs ++ C := by
  unfold layd
  rw [Int.toNat_natCast, show ((A.length : Int) + (X.length : Int)).toNat = (A ++ X).length by rw [List.length_append]; omega, List.drop_left, List.append_assoc A X C, List.take_left]
theorem layd_set {ns : List Int} {p x : Int} (h0 : 0 ≤ p) (h1 : p < ns.length) : layd ns p 1 [x] = ns.set p.toNat x := by
  unfold layd
  rw [List.set_eq_take_append_cons_drop, if_pos (by omega), show (p + 1).toNat = p.toNat + 1 by omega, List.append_assoc]
  rfl
theorem layd_puts {ns : List Int} {l h x y : Int} (h0 : 0 ≤ l) (h1 : l ≤ h) (h2 : h ≤ ns.length) : layd (layd ns h 0 [y]) l 0 [x] = layd (layd ns l 0 [x]) (h + 1) 0 [y] := by
  have e : ns = ns.take l.toNat ++ (ns.drop l.toNat).take (h.toNat - l.toNat) ++ ns.drop h.toNat := by
    have e1 : ns.drop h.toNat = (ns.drop l.toNat).drop (h.toNat - l.toNat) := by rw [List.drop_drop]; congr 1; omega
    rw [e1, List.append_assoc, List.take_append_drop, List.take_append_drop]
  have hA : (ns.take l.toNat).length = l.toNat := by rw [List.length_take]; omega
  have hB : ((ns.drop l.toNat).take (h.toNat - l.toNat)).length = h.toNat - l.toNat := by rw [List.length_take, List.length_drop]; omega
  generalize ns.take l.toNat = A at *
  generalize (ns.drop l.toNat).take (h.toNat - l.toNat) = B at *
  generalize ns.drop h.toNat = G at *
  subst e
  have k1 := layd_mid (A ++ B) [] G [y]
  have k2 := layd_mid A [] (B ++ [y] ++ G) [x]
  have k3 := layd_mid A [] (B ++ G) [x]
  have k4 := layd_mid (A ++ [x] ++ B) [] G [y]
  rw [List.append_nil, List.length_append, hA, hB] at k1
  rw [List.append_nil, hA] at k2 k3
  rw [List.append_nil, List.length_append, List.length_append, hA, hB] at k4
  have i1 : (((l.toNat + (h.toNat - l.toNat) : Nat)) : Int) = h := by omega
  have i2 : ((l.toNat : Nat) : Int) = l := by omega
  have i3 : (((l.toNat + [x].length + (h.toNat - l.toNat) : Nat)) : Int) = h + 1 := by
    show (((l.toNat + 1 + (h.toNat - l.toNat) : Nat)) : Int) = h + 1
    omega
  have i0 : ((([] : List Int).length : Nat) : Int) = 0 := rfl
  rw [i1, i0] at k1
  rw [i2, i0] at k2 k3
  rw [i3, i0] at k4
  rw [k1, show A ++ B ++ [y] ++ G = A ++ (B ++ [y] ++ G) by simp only [List.append_assoc], k2, List.append_assoc A B G, k3, show A ++ [x] ++ (B ++ G) = A ++ [x] ++ B ++ G by simp only [List.append_assoc], k4]
  simp only [List.append_assoc]
theorem layd_sets {ns : List Int} {l h x y : Int} (h0 : 0 ≤ l) (h1 : l < h) (h2 : h < ns.length) : layd (layd ns l 1 [x]) h 1 [y] = layd (layd ns h 1 [y]) l 1 [x] := by
  rw [layd_set h0 (by omega), layd_set (by omega) h2, layd_set (by omega) (by rw [List.length_set]; omega), layd_set h0 (by rw [List.length_set]; omega)]
  exact List.set_comm _ _ (by omega)
theorem gone_one {ns : List Int} {p : Int} (h0 : 0 ≤ p) (h1 : p < ns.length) : gone ns p 1 = [ns.getD p.toNat 0] := by
  unfold gone
  show (ns.drop p.toNat).take 1 = _
  rw [List.drop_eq_getElem_cons (by omega), List.getD_eq_getElem?_getD, List.getElem?_eq_getElem (by omega)]
  rfl
theorem put_take {ns : List Int} {p x : Int} (h0 : 0 ≤ p) (h1 : p ≤ ns.length) : layd (layd ns p 0 [x]) p 1 [] = ns := layd_back (gs := [x]) (m := 0) h0 (by omega) (by omega)
theorem put_at {ns : List Int} {p x : Int} (h0 : 0 ≤ p) (h1 : p ≤ ns.length) : (layd ns p 0 [x]).getD p.toNat 0 = x := by
  unfold layd
  rw [List.getD_eq_getElem?_getD, List.append_assoc, List.getElem?_append_right (by rw [List.length_take]; omega), List.length_take, show p.toNat - min p.toNat ns.length = 0 by omega]
  rfl
theorem change_back {ns : List Int} {p x : Int} (h0 : 0 ≤ p) (h1 : p < ns.length) : layd (layd ns p 1 [x]) p 1 [ns.getD p.toNat 0] = ns := by
  have := layd_back (ns := ns) (gs := [x]) (p := p) (m := 1) h0 (by omega) (by omega)
  rw [gone_one h0 h1] at this
  exact this
theorem Liv.ups {C CR : Addr} {L : Addr → Prop} {o pc : Addr} {H : Hp} {ns : List Int} {cs : List (Int × Int × List Int)} (v : Liv C CR L o pc H ns cs) : ∀ b, (b = o ∨ b = pc) → ∃ w, H b = some w := by
  obtain ⟨dx, pn, mv, eo⟩ := v.ob
  obtain ⟨ts, ec, _⟩ := v.chs
  exact fun b h => h.elim (fun e => ⟨_, e ▸ eo⟩) (fun e => ⟨_, e ▸ ec⟩)
end Ur

namespace Ur
open PySem L2 PySem.Spec PyProof.Rows
/-! ### things that are no places, no windows -/
def NoPl (n : Nat) (v : V) : Prop := ∀ p : Int, v = .int p → ¬ (0 ≤ p ∧ p ≤ n)
def NoWin (n : Nat) (v w : V) : Prop := ∀ f b : Int, v = .int f → w = .int b → ¬ (0 ≤ f ∧ f ≤ b ∧ b ≤ n)
theorem NoPl.winL {n : Nat} {v w : V} (h : NoPl n v) : NoWin n v w := fun f b e1 _ k => h f e1 ⟨k.1, by omega⟩
theorem NoPl.winR {n : Nat} {v w : V} (h : NoPl n w) : NoWin n v w := fun f b _ e2 k => h b e2 ⟨by omega, k.2.2⟩
theorem NoWin.ints {n : Nat} {f b : Int} (h : ¬ (0 ≤ f ∧ f ≤ b ∧ b ≤ n)) : NoWin n (.int f) (.int b) := fun _ _ e1 e2 k => by cases e1; cases e2; exact h k
theorem NoPl.int {n : Nat} {p : Int} (h : ¬ (0 ≤ p ∧ p ≤ n)) : NoPl n (.int p) := fun _ e k => by cases e; exact h k
/-- a call that is refused -/
def BadW (n : Nat) (way : Int) (v w : V) : Prop := ((way = 0 ∨ way = 1) ∧ NoWin n v w) ∨ ((way = 2 ∨ way = 3) ∧ NoPl n v ∧ ∃ m : Int, w = .int m)
/-- a place or none -/
theorem Kind.place {H : Hp} {v : V} (n : Nat) (k : Kind H v) : (∃ p : Int, v = .int p ∧ 0 ≤ p ∧ p ≤ n) ∨ NoPl n v := by
  by_cases h : ∃ p : Int, v = .int p ∧ 0 ≤ p ∧ p ≤ n
  · exact .inl h
  · exact .inr fun p e k => h ⟨p, e, k.1, k.2⟩
def optD : Option Nat → PyData
  | some n => .int n
  | none => .none
theorem dp_opt {K : PySem.W.Frag} {H : Hp} : ∀ o : Option Nat, Dp K H (optV o) (optD o)
  | some n => .int n
  | none => .non
theorem optD_ok : ∀ o : Option Nat, PyData.canLay0 (optD o) = true ∧ PyData.depth (optD o) ≤ 1 ∧ PyData.eqv (optD o) (optD o) = true
  | some n => ⟨rfl, by simp [optD, PyData.depth], by simp [optD, PyData.eqv]⟩
  | none => ⟨rfl, by simp [optD, PyData.depth], by simp [optD, PyData.eqv]⟩
def keptD (u : Int) (fs : List Int) (e b : Option Nat) : PyData := .list [.int u, .list (fs.map PyData.int), optD e, optD b]
theorem dp_kept {K : PySem.W.Frag} {H : Hp} {a pf : Addr} {u : Int} {fs : List Int} {e b : Option Nat} (h : SqL K H a [.int u, .ref pf, optV e, optV b]) (hf : SqL K H pf (fs.map V.int)) : Dp K H (.ref a) (keptD u fs e b) :=
  .lst h (.cons (.int u) (.cons (dp_ints hf) (.cons (dp_opt e) (.cons (dp_opt b) .nil))))
theorem shaped_kept (u : Int) (fs : List Int) (e b : Option Nat) : SeqAt.shaped (keptD u fs e b) = true := by
  obtain ⟨e1, e2, _⟩ := optD_ok e
  obtain ⟨b1, b2, _⟩ := optD_ok b
  refine shaped_of ?_ ?_
  · show PyData.canLayAll0 [.int u, .list (fs.map PyData.int), optD e, optD b] = true
    refine canLayAll_of _ fun d hd => ?_
    simp only [List.mem_cons, List.not_mem_nil, or_false] at hd
    rcases hd with rfl | rfl | rfl | rfl
    · rfl
    · exact canLayAll_ints fs
    · exact e1
    · exact b1
  · show PyData.depth (.list [.int u, .list (fs.map PyData.int), optD e, optD b]) ≤ 64
    rw [PyData.depth]
    have := depthAll_of (m := 2) [.int u, .list (fs.map PyData.int), optD e, optD b] fun d hd => by
      simp only [List.mem_cons, List.not_mem_nil, or_false] at hd
      rcases hd with rfl | rfl | rfl | rfl
      · simp [PyData.depth]
      · exact depth_ints fs
      · omega
      · omega
    omega
theorem eqv_kept (u : Int) (fs : List Int) (e b : Option Nat) : PyData.eqv (keptD u fs e b) (keptD u fs e b) = true := by
  show PyData.eqvAll [.int u, .list (fs.map PyData.int), optD e, optD b] [.int u, .list (fs.map PyData.int), optD e, optD b] = true
  refine eqvAll_refl _ fun d hd => ?_
  simp only [List.mem_cons, List.not_mem_nil, or_false] at hd
  rcases hd with rfl | rfl | rfl | rfl
  · simp [PyData.eqv]
  · rw [eqv_ints, decide_eq_true rfl]
  · exact (optD_ok e).2.2
  · exact (optD_ok b).2.2
theorem rEq_kept {K : PySem.W.Frag} {H : Hp} {a pf a2 pf2 : Addr} {u : Int} {fs : List Int} {e b : Option Nat} {Q : VK} (h : H a = some (.lst [.int u, .ref pf, optV e, optV b])) (hf : H pf = some (.lst (fs.map V.int)))
    (h2 : H a2 = some (.lst [.int u, .ref pf2, optV e, optV b])) (hf2 : H pf2 = some (.lst (fs.map V.int))) (q : Q (.bl true) H) : rEqD K (.ref a) (.ref a2) H Q :=
  ⟨_, _, dp_kept (SqL.of h) (SqL.of hf), dp_kept (SqL.of h2) (SqL.of hf2), shaped_kept _ _ _ _, shaped_kept _ _ _ _, by rw [eqv_kept]; exact q⟩
end Ur

namespace Ur
open PySem PySem.Spec PyProof.Rows L2
/-! ### o.m(e, ..) of an own method that may raise, the exception wished for at the caller's slots -/
section
variable {X : Cx} {CX : CXT} {k : Nat} {C f : Addr} {fd : FuncData} {ps : List Str} {sp : Sp} {E : L2.St → XK} {m : Str} {pos apos : Pos} {e o : Expr} {es : List Expr} {ta : TE} {t : TA} {pl : Sem Bool}
def tMethA (C : Addr) (m : Str) (sp : Sp) (E : L2.St → XK) (ta : TE) (t : TA) : TE := fun σ H Q => ta σ H fun x H1 =>
  ∃ a dx fs, x = .ref a ∧ H1 a = some (.ins C dx fs) ∧ fs.lookup m = none ∧ t σ H1 fun vs H2 => sp (x :: vs) H2 Q (E σ)
theorem pe_methA (he : PE X o ta) (c : Cls X.K C) (hm : Meth X.K C m f) (F : FnOk X.prog X.w X.K X.mg X.base CX k f fd ps sp) (hr : Room k X.A) (hb : Binds X.K fd ps []) (hx : ∀ σ, PassesAt CX X σ (E σ)) (ha : PA X (e :: es) t)
    (hst : starEach (e :: es) X.env = (false, eval e X.env) :: starEach es X.env := by rfl) (hpl : (backTo pos (starEach es X.env)).any (·.1) = false := by rfl)
    (ht : eval (.Call (.Attribute o m apos) (e :: es) [] pos) X.env = (do
      let ov ← eval o X.env
      standAt apos.atName
      let (f, first) ← holding [ov] (getMethod ov m pl)
      callWith pos f first (backTo pos (starEach (e :: es) X.env)) (backToKw pos (keywordEach [] X.env))) := by rfl) :
    PE X (.Call (.Attribute o m apos) (e :: es) [] pos) (tMethA C m sp E ta t) := by
  constructor
  intro pins s σ H Q I h
  refine PySem.W.methodCall_KW (pl := pl) (thn (he.run pins s σ H _ I h) ?_) ht
  rintro u s1 ⟨x, H1, I1, rx, a, dx, fs, rfl, ea, l, q⟩
  cases (show u = Value.ref a from rx)
  refine getmeth_ok I1 ea c hm l (PySem.W.callWith_K (first := [.ref a]) (h₀ := X.base) I.ok.mod.kin hm.kp (thn (ha.run pos pins s1 σ H1 _ I1 q) ?_) hst hpl)
  rintro us s2 ⟨vs, H2, I2, r, q2⟩
  exact ⟨I2.kIn, run_fnS (us := .ref a :: us) (vs := .ref a :: vs) F hr hb (hx σ) I2 (.cons rfl r) q2⟩
theorem pe_methA0 (he : PE X o ta) (c : Cls X.K C) (hm : Meth X.K C m f) (F : FnOk X.prog X.w X.K X.mg X.base CX k f fd ps sp) (hr : Room k X.A) (hb : Binds X.K fd ps []) (hx : ∀ σ, PassesAt CX X σ (E σ))
    (ht : eval (.Call (.Attribute o m apos) [] [] pos) X.env = (do
      let ov ← eval o X.env
      standAt apos.atName
      let (f, first) ← holding [ov] (getMethod ov m pl)
      callWith pos f first (backTo pos (starEach [] X.env)) (backToKw pos (keywordEach [] X.env))) := by rfl) :
    PE X (.Call (.Attribute o m apos) [] [] pos) (tMethA C m sp E ta tNil) := by
  constructor
  intro pins s σ H Q I h
  refine PySem.W.methodCall_KW (pl := pl) (thn (he.run pins s σ H _ I h) ?_) ht
  rintro u s1 ⟨x, H1, I1, rx, a, dx, fs, rfl, ea, l, q⟩
  cases (show u = Value.ref a from rx)
  refine getmeth_ok I1 ea c hm l (PySem.W.callWith_K0 (first := [.ref a]) I1.kIn hm.kp ?_)
  exact run_fnS (us := [.ref a]) (vs := [.ref a]) F hr hb (hx σ) I1 (.cons rfl .nil) q
end
end Ur

namespace Ur
open PySem SX L2 PySem.Spec PyProof.Rows
/-! ### numbers and rows as texts -/
def intC (n : Int) : List Nat := if n < 0 then 45 :: TL.numL (0 - n).toNat else TL.numL n.toNat
theorem intC_S (n : Int) : Str.ofString (toString n) = S (intC n) := by
  unfold intC
  by_cases h : n < 0
  · rw [if_pos h, toString_neg h]
    have h1 := num_S (0 - n).toNat
    rw [Int.toNat_of_nonneg (by omega)] at h1
    have h2 : (Str.ofString ("-" ++ toString (0 - n))).cps.toList = 45 :: (Str.ofString (toString (0 - n))).cps.toList := by
      rw [Str.ofString_eq_toList, Str.ofString_eq_toList, String.toList_append, List.map_append]
      rfl
    rw [h1] at h2
    have h3 := S_tl (Str.ofString ("-" ++ toString (0 - n)))
    rw [← h3, h2]
  · rw [if_neg h]
    have h1 := num_S n.toNat
    rw [Int.toNat_of_nonneg (by omega)] at h1
    exact h1
theorem intC_text {n : Int} (h : (intC n).length ≤ 4300) : intText? (S (intC n)) = some n := by
  unfold intC at h ⊢
  by_cases z : n < 0
  · rw [if_pos z] at h ⊢
    have := intText_neg (x := S (45 :: TL.numL (0 - n).toNat)) (cs := TL.numL (0 - n).toNat) rfl (TL.numL_digits _) (TL.numL_ne _) (by rw [S_len]; exact h)
    rw [this, TL.numL_val]
    congr 1
    omega
  · rw [if_neg z] at h ⊢
    have h1 := TL.int_num h
    rw [num_S, Int.toNat_of_nonneg (by omega)] at h1
    exact h1
theorem intC_ne (n : Int) : intC n ≠ [] := by
  unfold intC
  split
  · exact List.cons_ne_nil _ _
  · exact TL.numL_ne _
theorem intC_free (n : Int) : 32 ∉ intC n := by
  unfold intC
  split
  · intro h
    rcases List.mem_cons.mp h with h | h
    · cases h
    · exact TL.numL_free (by omega) h
  · exact TL.numL_free (by omega)
/-- a row's text -/
def showC (ns : List Int) : List Nat := if ns = [] then [45] else TL.joinL [32] (ns.map intC)
theorem split_show {ns : List Int} (h : ns ≠ []) : Txt.split (S (showC ns)) (S [32]) = (ns.map intC).map S := by
  unfold showC
  rw [if_neg h, split_S (List.cons_ne_nil _ _) (by decide), spl_join (by simpa using h) fun p hp => ?_]
  obtain ⟨n, _, rfl⟩ := List.mem_map.mp hp
  exact intC_free n
theorem join_show {ns : List Int} (h : ns ≠ []) : Txt.join (S [32]) (ns.map fun n => Str.ofString (toString n)) = S (showC ns) := by
  unfold showC
  rw [if_neg h, ← join_S, List.map_map]
  congr 1
  exact List.map_congr_left fun n _ => intC_S n
theorem intC_len {n : Int} {k : Nat} (hk : 0 < k) (h : n.natAbs < 10 ^ k) : (intC n).length ≤ k + 1 := by
  unfold intC
  split
  · have := TL.numL_len (n := (0 - n).toNat) hk (by rw [show (0 - n).toNat = n.natAbs by omega]; exact h)
    rw [List.length_cons]; omega
  · have := TL.numL_len (n := n.toNat) hk (by rw [show n.toNat = n.natAbs by omega]; exact h)
    omega
theorem sum_lens {c : Nat} : ∀ ys : List Str, (∀ y ∈ ys, y.length ≤ c) → (ys.map (·.length)).sum ≤ ys.length * c
  | [], _ => by simp
  | y :: ys, h => by
    have h1 := sum_lens ys fun z hz => h z (List.mem_cons_of_mem _ hz)
    have h2 := h y List.mem_cons_self
    rw [List.map_cons, List.sum_cons, List.length_cons, Nat.add_mul, Nat.one_mul]
    omega
theorem log_small {n : Int} {k : Nat} (h : n.natAbs < 10 ^ k) (hk : k ≤ 500) : n.natAbs.log2 < 1920 := by
  by_cases z : n.natAbs = 0
  · rw [z]; decide
  · refine (Nat.log2_lt z).mpr (Nat.lt_of_lt_of_le h (Nat.le_trans (Nat.pow_le_pow_right (by decide) hk) (by decide +kernel)))
end Ur

namespace CompX
open PySem PySem.Spec PyProof.Rows L2
/-! ### an exception that leaves a list comprehension -/
theorem note_fr {e : Value} {a b : Env} (h : a.frame = b.frame) : noteFrame e a = noteFrame e b := by
  unfold noteFrame PySem.frameOf
  rw [h]
/-- what is wanted behind the block -/
def After (M : Model) (A : Around) (E : Value → Shared → Prop) (fr : Option Addr) (Q : Value → Shared → Prop) (D : Value) (C : Addr) : Result → Shared → Prop
  | .ok _, s => ∃ m, s.heap.Ns C m ∧ ∀ g, Heap.SameBut C s.heap g → Q D { s with heap := g }
  | .error x, s => ∃ m, s.heap.Ns C m ∧ ∀ g, Heap.SameBut C s.heap g → ∀ ce : Env, ce.frame = fr → wpAny M A (PySem.passOn "comprehension.variables-let-go" x ce : Sem Value) (fun _ _ => False) E { s with heap := g }
section
variable {M : Model} {A : Around} {E : Value → Shared → Prop} {s : Shared} {env : Env}
theorem run_comp {ex : Expr} {sc : Scope} {pos : Pos} {mk fst : Sem Value} {g : Comprehension} {gs : List Comprehension} {cl : List (Str × Addr)} {Q : Value → Shared → Prop}
    (c1 : clausesOf ex = g :: gs) (c2 : ∀ x, foldedSetIterable g.iter env x = pure x) (c3 : closureFor sc env = pure cl) (c4 : sc.kind = .function) (c5 : ∀ x ∈ sc.names, x.2 = .local → sc.names.lookup x.1 = some .local)
    (h : wpAny M A fst (fun x s1 => wpAny M A (pyIter x) (fun it s2 => wpAny M A mk (fun acc s3 => wpAny M A (newFunctionEnv sc env.globals cl [] env.qual none .none (some env))
      (fun ce s4 => ce.frame = env.frame ∧ codeAny M A (.compStart ex 0 it acc { ce with scope := relabel sc env }) (After M A E env.frame Q acc ce.locals) s4) E s3) E s2) E s1) E s) :
    wpAny M A (comprehension ex sc env pos mk false fst none) Q E s := by
  unfold comprehension
  rw [c3, c1]
  refine wpAny_bind (wpAny_mono h (fun x s1 h1 => ?_) fun _ _ z => z)
  refine wpAny_bind (wpAny_standAt (wpAny_bind (wpAny_of_eq (c2 x) (wpAny_bind (wpAny_holding (wpAny_mono h1 (fun it s2 h2 => ?_) fun _ _ z => z))))))
  refine wpAny_standIf (wpAny_bind (wpAny_mono h2 (fun acc s3 h3 => ?_) fun _ _ z => z))
  refine wpAny_bind (wpAny_pure (wpAny_bind (wpAny_mono h3 (fun ce s4 h4 => ?_) fun _ _ z => z)))
  obtain ⟨hf, h4⟩ := h4
  dsimp only
  have loc : ∀ x ∈ (sc.names.filter fun x => (x.2 == .local || x.2 == .cell) && x.1 != (".0" : Str)).reverse, x.2 = .local → Env.kindOf { ce with scope := relabel sc env } x.1 = some .local := fun x hx hl =>
    lookup_relabel_local (c5 x (List.mem_filter.mp (List.mem_reverse.mp hx)).1 hl)
  refine wpAny_holding (wpAny_bind (wpAny_attempt (wpAny_holding (wpAny_run (codeAny_mono h4 fun r s5 hr => ?_)))))
  cases r with
  | ok f =>
    obtain ⟨m, hn, hq⟩ := hr
    exact wpAny_bind (wpAny_holding (wpAny_comp_letGo (cenv := { ce with scope := relabel sc env }) c4 _ s5 m loc hn fun g _ _ sb => wpAny_pure (hq g sb)))
  | error x =>
    obtain ⟨m, hn, hq⟩ := hr
    exact wpAny_bind (wpAny_holding (wpAny_comp_letGo (cenv := { ce with scope := relabel sc env }) c4 _ s5 m loc hn fun g _ _ sb => wpAny_mono (hq g sb _ hf) (fun _ _ z => z.elim) fun _ _ z => z))
end
/-- frames but one place -/
theorem frames_but {B B' h g : Heap} {C : Addr} (sb : Heap.SameBut C h g) (hB : ∀ b, B.get? b = none → B'.get? b = none) : ∀ {l : List Env}, h.FunFrames B l → C ∉ frs l → g.FunFrames B' l
  | [], _, _ => trivial
  | e :: l, ⟨hk, ⟨L, o, hf, hn, ho, hd⟩, hr⟩, hc => by
    have h1 : L ∈ frs (e :: l) := List.mem_filterMap.mpr ⟨e, List.mem_cons_self, hf⟩
    refine ⟨hk, ⟨L, o, hf, hB L hn, ?_, hd⟩, frames_but sb hB hr fun z => hc ?_⟩
    · rw [sb.2 L fun z => hc (z ▸ h1)]
      exact ho
    · obtain ⟨e', he, q⟩ := List.mem_filterMap.mp z
      exact List.mem_filterMap.mpr ⟨e', List.mem_cons_of_mem _ he, q⟩
theorem held_but {B B' h g : Heap} {l : List Env} {a L C : Addr} {Z : Obj → Prop} {oC : Obj} (hC : B.get? C = some oC) (hB : ∀ b, b ≠ C → B'.get? b = B.get? b) (hN : B'.get? C = none) (hc : C ∉ frs l) (sb : Heap.SameBut C h g) (x : HandSPX.HeldZ B l a Z L h) : HandSPX.HeldZ B' l a Z L g := by
  obtain ⟨k1, k2, k3, oe, vs, T, oT, ts, he, hz, hd, h1, hnT, hTe, hT, hdT, h3⟩ := x
  have ne : ∀ b, B.get? b = none → b ≠ C := fun b hb z => by rw [z, hC] at hb; cases hb
  have no : ∀ b, B.get? b = none → B'.get? b = none := fun b hb => by rw [hB b (ne b hb)]; exact hb
  refine ⟨fun b o e => ?_, no a k2, frames_but sb no k3 hc, oe, vs, T, oT, ts, ?_, hz, hd, h1, no T hnT, hTe, ?_, hdT, h3⟩
  · have nb : b ≠ C := fun z => by rw [z, hN] at e; cases e
    rw [hB b nb] at e
    rw [sb.2 b nb]
    exact k1 b o e
  · rw [sb.2 a (ne a k2)]; exact he
  · rw [sb.2 T (ne T hnT)]; exact hT
section
variable {X : Cx} {pins : List (Addr × Obj)} {σ : L2.St} {H : Hp} {s : Shared} {E : XK}
/-- the block's context, with a wish of its own -/
abbrev blkw (X : Cx) (s : Shared) (H : Hp) (sc : Scope) (ce : Env) (fp : List Addr) (xe : Value → Shared → Prop) : Cx := (X.blk s H sc ce fp).wish xe
/-- what a call in the block may let out is taken by the def -/
theorem blk_takes {sc : Scope} {ce : Env} {fp : List Addr} {Qf : Value → Shared → Prop} {D : Value} (I : Inv X pins σ H s) (hs : X.stack = X.env :: X.outer) (hf : X.env.frame = some X.env.locals) (tk : Takes X fun cls d _ H => E cls d H)
    (cL : ce.locals = s.heap.objs.size) (cF : ce.frame = X.env.frame) (f3 : ∀ b ∈ fp, FpOk X pins H b) :
    Passes (L2.CX X.prog X.w) (blkw X s H sc ce fp (notedBy (model X.prog X.w) X.A ce fun e s' => After (model X.prog X.w) X.A X.xe X.env.frame Qf D ce.locals (.error e) s')) E := by
  intro pi σ' H1 s1 e s2 I1 c
  have c0 := c
  have x : XE (blkw X s H sc ce fp (notedBy (model X.prog X.w) X.A ce fun e s' => After (model X.prog X.w) X.A X.xe X.env.frame Qf D ce.locals (.error e) s')) (fun cls d _ H => E cls d H) e s2 := XE.of_call I1 (fun _ _ _ h => h) c
  obtain ⟨a, B, sI, pn, σ2, H2, cls, d, rfl, I2, nb, up, sky, na, os, ag, w⟩ := x
  obtain ⟨a', B0, H0, cls0, d0, ea, fl0, _⟩ := c0
  obtain rfl : a = a' := by injection ea
  obtain ⟨_, _, _, oe0, vs0, T0, oT0, ts0, g1, g2, g3, g4, g5, g6, g7, g8, g9⟩ := fl0
  have hfr : X.A.frames = some (X.env :: X.outer) := by rw [I.ok.frames, hs]
  have fl : HandSPX.FlyingZ B X.stack a (Zc cls d) s2.heap := by
    rcases sky with ⟨_, _, _, oe, vs, he, _, hd, h1⟩ | fl | ⟨_, _, _, oe, vs, T, oT, ts, he, hz, hd, h1, hnT, hTe, hT, hdT, h3⟩
    · rw [he] at g1; cases g1
      rw [hd] at g3; cases g3
      rw [h1] at g4; cases g4
    · exact fl
    · rw [he] at g1; cases g1
      rw [hd] at g3; cases g3
      rw [h1] at g4; cases g4
      rw [hT] at g7; cases g7
      rw [hdT] at g8; cases g8
      rw [h3] at g9
      simp [rawInt] at g9
  have hC : ce.locals ∉ frs X.stack := fun hm => by
    obtain ⟨_, o, ho, _⟩ := I.stack.mem hm
    rw [cL] at ho
    exact absurd (Heap.lt_size ho) (Nat.lt_irrefl _)
  obtain ⟨m, ⟨oC, es, ep, hoC, rC⟩, _⟩ := I2.loc
  have hoC : sI.heap.get? ce.locals = some oC := hoC
  have bC : B.get? ce.locals = some oC := nb _ _ hoC hC
  have IX : Inv X pins σ H2 sI := I.call' (ch := fp) I2.os I2.base I2.hok I2.bare fun b hb => ⟨(f3 b hb).2.2.2.1, (f3 b hb).2.1, (f3 b hb).2.2.2.2.1, (f3 b hb).2.2.2.2.2⟩
  have nC : H2 ce.locals = none := I2.free
  show notedBy (model X.prog X.w) X.A ce (fun e s' => After (model X.prog X.w) X.A X.xe X.env.frame Qf D ce.locals (.error e) s') (.ref a) s2
  unfold notedBy
  rw [note_fr cF]
  rw [hs] at fl
  refine HandSPX.looks_onZ Zc.steady hfr hf fl fun h1 hh up1 => ⟨m, ⟨oC, es, ep, hh.1 _ _ bC, rC⟩, fun g sb cx hcx => ?_⟩
  obtain ⟨B', b1, b2⟩ := restrict B fun b => b != ce.locals
  obtain ⟨G, q1, q2⟩ := restrict sI.heap fun b => b != ce.locals
  have b1 : ∀ b, b ≠ ce.locals → B'.get? b = B.get? b := fun b hb => b1 b (by simpa using hb)
  have b2 : B'.get? ce.locals = none := b2 _ (by simp)
  have q1 : ∀ b, b ≠ ce.locals → G.get? b = sI.heap.get? b := fun b hb => q1 b (by simpa using hb)
  have q2 : G.get? ce.locals = none := q2 _ (by simp)
  have hg := held_but bC b1 b2 (by rw [← hs]; exact hC) sb hh
  have hg' := hg
  obtain ⟨_, _, _, oe, vs, T, oT, ts, he, hz, hd, k1, hnT, hTe, hT, hdT, k3⟩ := hg'
  unfold PySem.passOn
  refine wpAny_bind (wpAny_field he hd k1 ?_)
  rw [if_neg (by simp)]
  rw [hcx, hf]
  refine wpAny_bind (HandSPX.setFlight_onZ hg fun h2 hh2 up2 => ?_)
  refine wpAny_throw ?_
  obtain ⟨u0, u1, u2, u3, u4, u5⟩ := I.fpOk (H' := H2) (b := ce.locals) (by rw [cL]; exact Nat.le_refl _) nC
  refine tk _ _ ⟨a, B', { sI with heap := G }, pins, σ, H2, cls, d, rfl, IX.turned (t' := sI.toks) (fun b o hb e => (q1 b hb).trans e) u0 u1 u3 u4 u5, fun b o e hb => ?_, fun b o e hn => ?_, ?_, na, os, ag, w⟩
  · have nb1 : b ≠ ce.locals := fun z => by rw [z, q2] at e; cases e
    rw [b1 b nb1]
    rw [q1 b nb1] at e
    exact nb b o e hb
  · have nb1 : b ≠ ce.locals := fun z => by rw [z, q2] at e; cases e
    rw [q1 b nb1] at e
    obtain ⟨sl, e1⟩ := up b o e hn
    obtain ⟨sl2, e2⟩ := up1 b _ e1 hn
    obtain ⟨sl3, e3⟩ := up2 b _ ((sb.2 b nb1).trans e2) hn
    exact ⟨sl3, e3⟩
  · rw [hs]
    exact .inr (.inr hh2)
/-- a list comprehension without tests whose entry may raise -/
theorem pe_lcx {elt tg iter : Expr} {sc : Scope} {own : List (Str × Nat)} {pos : Pos} {wi : TI} {g : TG} {te : TE} (hs : X.stack = X.env :: X.outer) (hf : X.env.frame = some X.env.locals) (tk : Takes X fun cls d _ H => E cls d H) (hc : X.calm = true) (hN : X.N.Nodup)
    (hi : PI X tg iter wi) (ok : BlkOk X.N X.env.scope sc own) (hg : ∀ s H C cl fp xe, PG (blkw X s H sc (compEnvC sc cl C X.env) fp xe) tg g)
    (he : ∀ s H C cl fp xe, Passes (L2.CX X.prog X.w) (blkw X s H sc (compEnvC sc cl C X.env) fp xe) E → PE (blkw X s H sc (compEnvC sc cl C X.env) fp xe) elt te) (hz : ∀ x, foldedSetIterable iter X.env x = pure x := by intro _; rfl) :
    PE X (.ListComp elt [⟨tg, iter, [], 0⟩] sc pos) (tLc wi g tYes te (own.map (·.2))) := by
  refine ⟨fun pins s σ H Q I h => ?_⟩
  rw [eval_ListComp]
  have free : ∀ y ∈ sc.names, y.2 = .free → ∃ c, X.env.cells.lookup y.1 = some c := fun y hy e => (ok.free y hy e).elim (fun k => I.ok.has _ (.inl k)) fun k => I.ok.has _ (.inr k)
  refine run_comp rfl hz (closure_ok free) ok.kind (fun y hy e => by rw [ok.uniq y hy, e]) (thn (hi.run pins s σ H _ I h) fun xv s1 hx => thn hx fun itv s2 h2 => ?_)
  obtain ⟨it, fp, tn, J, H2, e, I2, T, st2, f2, q⟩ := h2
  subst e
  refine wpAny_newObj_type (newEnv_comp ⟨rfl, ?_⟩) (by show 0 ≤ sizeLine; decide)
  generalize hD : s2.heap.objs.size = D
  have nD : H2 D = none := I2.hok.fresh (Nat.le_of_eq hD)
  obtain ⟨W, ⟨m0, w0⟩, turn⟩ := q D nD
  generalize e3 : ({ s2 with heap := s2.heap.push { cls := .type "list", data := .seq ([] : List Value).toArray } } : Shared) = s3
  have h3 : s3.heap = s2.heap.push { cls := .type "list", data := .seq ([] : List Value).toArray } := by rw [← e3]
  have grow : ∀ b o, s2.heap.get? b = some o → s3.heap.get? b = some o := fun b o z => by
    rw [h3]
    exact Heap.get?_push_of_some _ z
  have I3 : Inv X pins σ (upd H2 D (.lst [])) s3 := by
    rw [← e3]
    exact I2.laid (t' := s2.toks) (fun b o z => Heap.get?_push_of_some _ z) (Nat.le_of_eq hD) ⟨Nat.zero_le _, [], 0, .nil, by rw [← hD]; exact Heap.get?_push_size _ rfl⟩
  have low : ∀ b ∈ fp, b < s2.heap.objs.size := fun b hb => let ⟨_, z, _⟩ := T.obj _ _ st2 b hb; Heap.lt_size z
  have f3 : ∀ b ∈ fp, FpOk X pins (upd H2 D (.lst [])) b ∧ b < s3.heap.objs.size := fun b hb => by
    have hlt := low b hb
    refine ⟨⟨?_, (f2 b hb).2⟩, ?_⟩
    · rw [upd_ne (by rw [← hD]; exact Nat.ne_of_lt hlt)]
      exact (f2 b hb).1
    · rw [h3, Heap.size_push]
      exact Nat.lt_succ_of_lt hlt
  have st3 : tn 0 s3.heap := T.keep _ _ _ st2 fun b _ o z => grow b o z
  have I4 := block_start I3 ok hN f3
  have pg := hg s3 (upd H2 D (.lst [])) s3.heap.objs.size (cellsFrom (s3.heap.objs.size + 1) sc.names (cloFrom X.env.cells sc.names [])) fp
  have pe := he s3 (upd H2 D (.lst [])) s3.heap.objs.size (cellsFrom (s3.heap.objs.size + 1) sc.names (cloFrom X.env.cells sc.names [])) fp
  show codeAny _ _ (.compStart (.ListComp elt [⟨tg, iter, [], 0⟩] sc pos) 0 (.ref it) (.ref D) (compEnvC sc (cellsFrom (s3.heap.objs.size + 1) sc.names (cloFrom X.env.cells sc.names [])) s3.heap.objs.size X.env))
    (After (model X.prog X.w) X.A X.xe X.env.frame (EP X pins σ Q) (.ref D) s3.heap.objs.size) { s3 with heap := pushCells (s3.heap.push { cls := .type "dict", data := .dict #[] }) sc.names }
  generalize hce : compEnvC sc (cellsFrom (s3.heap.objs.size + 1) sc.names (cloFrom X.env.cells sc.names [])) s3.heap.objs.size X.env = ce at I4 pg pe ⊢
  have cL : ce.locals = s3.heap.objs.size := by subst hce; rfl
  have cF : ce.frame = X.env.frame := by subst hce; rfl
  have nfp : ∀ b ∈ fp, (upd H2 D (.lst [])) b = none := fun b hb => (f3 b hb).1.1
  generalize e5 : upd H2 D (.lst []) = H3 at I3 I4 pg pe w0 nfp f3
  generalize e4 : ({ s3 with heap := pushCells (s3.heap.push { cls := .type "dict", data := .dict #[] }) sc.names } : Shared) = s4 at I4 ⊢
  have st4 : tn 0 s4.heap := T.keep _ _ _ st3 fun b _ o z => by
    rw [← e4]
    exact pushCells_keeps _ _ _ _ (Heap.get?_push_of_some _ z)
  have tb := blk_takes (sc := sc) (Qf := EP X pins σ Q) (D := .ref D) I3 hs hf tk cL cF fun b hb => (f3 b hb).1
  generalize hxe : (notedBy (model X.prog X.w) X.A ce fun e s' => After (model X.prog X.w) X.A X.xe X.env.frame (EP X pins σ Q) (.ref D) ce.locals (.error e) s') = xe at tb
  have pg := pg xe
  have pe := pe xe tb
  have I4 : Inv (blkw X s3 H3 sc ce fp xe) [] (wipe σ (own.map (·.2))) H3 s4 := I4.wish xe
  have ours : ∀ {σ' : L2.St} {H' : Hp} {s' : Shared}, Inv (blkw X s3 H3 sc ce fp xe) [] σ' H' s' → (∀ b ∈ fp, H' b = none) → ∀ b ∈ fp, FpOk (blkw X s3 H3 sc ce fp xe) [] H' b := fun {σ' H' s'} J n b hb =>
    ⟨n b hb, (J.ok.exf b hb).1, J.ok.exfs b hb, .inl hb, fun x c z => (J.ok.exf b hb).2 x c z, fun p hp => absurd (show p ∈ ([] : List (Addr × Obj)) ++ [] from hp) (by simp)⟩
  have loop : codeAny (model X.prog X.w) X.A (.compLoop (.ListComp elt [⟨tg, iter, [], 0⟩] sc pos) 0 (.ref it) (.ref D) ce) (After (model X.prog X.w) X.A X.xe X.env.frame (EP X pins σ Q) (.ref D) s3.heap.objs.size) s4 := by
    rw [← cL]
    refine compLoop_any (fun n s' => ∃ i H', Inv (blkw X s3 H3 sc ce fp xe) [] (wipe σ (own.map (·.2))) H' s' ∧ tn i s'.heap ∧ (∀ b ∈ fp, H' b = none) ∧ W i n H') ?_ m0 ⟨0, H3, I4, st4, nfp, w0⟩
    rintro n s5 ⟨i, H5, I5, st5, n5, w5⟩
    rw [hxe]
    rcases turn i n H5 w5 with ⟨stop, qq⟩ | ⟨go, Nx, hNx, step⟩
    · refine thnF (T.done (blkw X s3 H3 sc ce fp xe) rfl rfl rfl hc i [] s5 _ H5 (fun _ _ => False) I5 (ours I5 n5) st5 stop) fun r s6 ⟨hr, I6⟩ => ?_
      subst hr
      have I7 : Inv X pins σ H5 s6 := I3.call' (ch := fp) I6.os I6.base I6.hok I6.bare fun b hb => ⟨(f3 b hb).1.2.2.2.1, (f3 b hb).1.2.1, (f3 b hb).1.2.2.2.2.1, (f3 b hb).1.2.2.2.2.2⟩
      obtain ⟨m, hn, _⟩ := I6.loc
      obtain ⟨u0, u1, u2, u3, u4, u5⟩ := I3.fpOk (H' := H5) (b := ce.locals) (by rw [cL]; exact Nat.le_refl _) I6.free
      exact ⟨m, hn, fun g sb => ⟨.ref D, H5, I7.turned (t' := s6.toks) (fun b o hb z => (sb.2 b hb).trans z) u0 u1 u3 u4 u5, rfl, qq⟩⟩
    · refine thnF (T.item (blkw X s3 H3 sc ce fp xe) rfl rfl rfl hc i [] s5 _ H5 (fun _ _ => False) I5 (ours I5 n5) st5 go) fun r s6 ⟨u, hr, h6⟩ => ?_
      subst hr
      refine thnF h6 fun _ s7 ⟨x, H7, I7, r7, y7, st7, n7⟩ => ?_
      have I7p := I7.pinned (ours I7 n7) (T.obj _ _ st7)
      refine thn (pg.run _ s7 _ H7 x u _ I7p r7 (step x H7 y7)) fun _ s8 ⟨σ8, H8, I8, hw8, q8⟩ => ?_
      refine wpAny_tests_nil ?_
      have q8 : te σ8 H8 fun y H4 => ∃ acc, H4 D = some (.lst acc) ∧ acc.length < sizeLine ∧ Nx (upd H4 D (.lst (acc ++ [y]))) := by simpa [tYes] using q8
      simp only [if_true]
      refine thn (pe.run _ s8 σ8 H8 _ I8 q8) fun z s9 ⟨yv, H9, I9, r9, acc, hD9, hz9, nx⟩ => ?_
      refine app_ok (X := blkw X s3 H3 sc ce fp xe) I9 hD9 hz9 r9 fun s10 I10 => ?_
      obtain ⟨m', hm, w'⟩ := hNx _ nx
      have pin : ∀ b ∈ fp, ∀ o, s7.heap.get? b = some o → s10.heap.get? b = some o ∧ upd H9 D (.lst (acc ++ [yv])) b = none := fun b hb o z =>
        let y := I10.pin (b, o) (List.mem_append_right _ (List.mem_append_right _ (mem_pinsAt hb z)))
        ⟨y.1, y.2.1⟩
      refine ⟨m', hm, i + 1, _, (I10.unpinned (pins := [])).weak (by rw [← hw8, wipe_length]) (fun j v z => ?_), T.keep _ _ _ st7 fun b hb o z => (pin b hb o z).1, fun b hb => ?_, w'⟩
      · rw [← hw8] at z
        exact (wipe_some z).1
      · obtain ⟨o, z, _⟩ := T.obj _ _ st7 b hb
        exact (pin b hb o z).2
  exact codeAny_compStart_list loop (T.self X.A 0 _ _ _ st4 loop)
end
end CompX

namespace Ur
open PySem SX L2 PySem.Spec PyProof.Rows
/-! ### words that write numbers -/
/-- the figures of a word -/
def figsC (cs : List Nat) : List Nat := if cs.take 1 = [45] then cs.drop 1 else cs
/-- it writes a number of at most thirty figures -/
def WOk (cs : List Nat) : Prop := (1 ≤ (figsC cs).length ∧ (figsC cs).length ≤ 30) ∧ (∀ c ∈ figsC cs, 48 ≤ c ∧ c ≤ 57) ∧ ((figsC cs).head? = some 48 → cs = [48])
instance (cs : List Nat) : Decidable (WOk cs) := by unfold WOk; infer_instance
def wVal (cs : List Nat) : Int := if cs.take 1 = [45] then - ((NumText.digitsVal (figsC cs) : Nat) : Int) else ((NumText.digitsVal (figsC cs) : Nat) : Int)
theorem figsC_le (cs : List Nat) : (figsC cs).length ≤ cs.length := by
  unfold figsC
  split
  · rw [List.length_drop]; omega
  · exact Nat.le_refl _
theorem WOk.len {cs : List Nat} (h : WOk cs) : cs.length ≤ 31 := by
  have h1 := h.1.2
  unfold figsC at h1
  split at h1
  · rw [List.length_drop] at h1; omega
  · omega
theorem digits_all {l : List Nat} (h : ∀ c ∈ l, 48 ≤ c ∧ c ≤ 57) : NumText.AllDigits l := h
theorem WOk.text {cs : List Nat} (h : WOk cs) : intText? (S cs) = some (wVal cs) := by
  obtain ⟨⟨h1, h2⟩, h3, _⟩ := h
  have hne : figsC cs ≠ [] := fun z => by rw [z] at h1; exact absurd h1 (by decide)
  unfold wVal
  by_cases z : cs.take 1 = [45]
  · have e : figsC cs = cs.drop 1 := if_pos z
    rw [if_pos z]
    have ec : cs = 45 :: cs.drop 1 := by
      cases cs with
      | nil => cases z
      | cons a r => simp at z; simp [z]
    rw [e] at h1 h2 h3 hne
    have hl : (S cs).length ≤ 4300 := by rw [S_len, ec, List.length_cons]; omega
    have := intText_neg (x := S cs) (cs := cs.drop 1) (by show cs = _; exact ec) (digits_all h3) hne hl
    rw [this, e]
  · have e : figsC cs = cs := if_neg z
    rw [if_neg z]
    rw [e] at h1 h2 h3 hne ⊢
    exact int_S (List.all_eq_true.mpr fun c hc => by have := h3 c hc; simp only [Bool.and_eq_true, decide_eq_true_eq]; omega) hne (by omega)
theorem numL_head : ∀ (k n : Nat), n ≤ k → (TL.numL n).head? = some 48 → n = 0
  | 0, n, h, _ => by omega
  | k + 1, n, h, e => by
    by_cases z : n < 10
    · rw [TL.numL_lt z] at e
      simp at e
      exact e
    · rw [TL.numL_step (by omega)] at e
      have hne := TL.numL_ne (n / 10)
      cases q : TL.numL (n / 10) with
      | nil => exact (hne q).elim
      | cons a r =>
        rw [q] at e
        simp at e
        have := numL_head k (n / 10) (by omega) (by rw [q, e]; rfl)
        omega
theorem intC_figs {n : Int} : figsC (intC n) = TL.numL n.natAbs ∧ ((intC n).take 1 = [45] ↔ n < 0) := by
  unfold intC figsC
  by_cases h : n < 0
  · rw [if_pos h]
    refine ⟨?_, fun _ => h, fun _ => rfl⟩
    rw [if_pos (show List.take 1 (45 :: TL.numL (0 - n).toNat) = [45] from rfl), show n.natAbs = (0 - n).toNat by omega]
    rfl
  · rw [if_neg h]
    have z : ¬ (TL.numL n.toNat).take 1 = [45] := fun e => by
      have : 45 ∈ TL.numL n.toNat := List.mem_of_mem_take (i := 1) (by rw [e]; exact List.mem_cons_self)
      exact TL.numL_free (by omega) this
    exact ⟨by rw [if_neg z, show n.natAbs = n.toNat by omega], fun e => absurd e z, fun e => absurd e h⟩
theorem wok_int {n : Int} (h : n.natAbs < 10 ^ 30) : WOk (intC n) := by
  unfold WOk
  rw [intC_figs.1]
  have hne := TL.numL_ne n.natAbs
  refine ⟨⟨List.length_pos_iff.mpr hne, TL.numL_len (by decide) h⟩, TL.numL_digits _, fun e => ?_⟩
  have := numL_head _ _ (Nat.le_refl _) e
  have : n = 0 := by omega
  rw [this]
  decide
theorem wVal_int (n : Int) : wVal (intC n) = n := by
  unfold wVal
  rw [intC_figs.1, TL.numL_val]
  by_cases h : n < 0
  · rw [if_pos (intC_figs.2.mpr h)]; omega
  · rw [if_neg fun e => h (intC_figs.2.mp e)]; omega
theorem digs_iff {c : Nat} : (c ∈ (Str.ofString "0123456789").cps.toList) ↔ (48 ≤ c ∧ c ≤ 57) := by
  have e : (Str.ofString "0123456789").cps.toList = [48, 49, 50, 51, 52, 53, 54, 55, 56, 57] := by
    rw [Str.ofString_eq_toList]
    rfl
  rw [e]
  simp only [List.mem_cons, List.not_mem_nil, or_false]
  omega
theorem digs_all (l : List Nat) : (l.map fun c => decide (c ∈ (Str.ofString "0123456789").cps.toList)).all id = decide (∀ c ∈ l, 48 ≤ c ∧ c ≤ 57) := by
  rw [Bool.eq_iff_iff, decide_eq_true_eq, List.all_eq_true]
  constructor
  · intro h c hc
    have := h _ (List.mem_map.mpr ⟨c, hc, rfl⟩)
    exact digs_iff.mp (by simpa using this)
  · intro h b hb
    obtain ⟨c, hc, rfl⟩ := List.mem_map.mp hb
    show decide _ = true
    exact decide_eq_true (digs_iff.mpr (h c hc))
theorem cutS_to (a : List Nat) {i : Int} (h : 0 ≤ i) : cutS (S a) none (some i) = S (a.take i.toNat) := by rw [C8.cutS_slice, slice_to h]
theorem cutS_from (a : List Nat) {i : Int} (h : 0 ≤ i) : cutS (S a) (some i) none = S (a.drop i.toNat) := by rw [C8.cutS_slice, slice_from h]
theorem S_eqV {a : List Nat} {b : Str} : decide (V.str (S a) = V.str b) = decide (a = b.cps.toList) := by
  by_cases h : a = b.cps.toList
  · rw [decide_eq_true h, decide_eq_true (by rw [h, S_tl])]
  · rw [decide_eq_false h, decide_eq_false fun e => h ?_]
    have : S a = b := by injection e
    rw [← this]
theorem S_eqP {a : List Nat} {b : Str} : V.str (S a) = V.str b ↔ a = b.cps.toList := ⟨fun e => by
  have : S a = b := by injection e
  rw [← this], fun e => by rw [e, S_tl]⟩
theorem atI_pos {α : Type} {xs : List α} {i : Int} (h0 : 0 ≤ i) (h1 : i < xs.length) : atI xs i = xs[i.toNat]? := by
  unfold atI ixN
  rw [if_pos h0, if_pos h1]
  rfl
theorem dash_L : (Str.ofString "-").cps.toList = [45] := by rw [Str.ofString_eq_toList]; rfl
theorem zero_L : (Str.ofString "0").cps.toList = [48] := by rw [Str.ofString_eq_toList]; rfl
theorem blank_L : (Str.ofString " ").cps.toList = [32] := by rw [Str.ofString_eq_toList]; rfl
theorem neg_iff {cs : List Nat} : V.str (cutS (S cs) none (some 1)) = V.str (Str.ofString "-") ↔ cs.take 1 = [45] := by
  rw [cutS_to _ (by decide), S_eqP, dash_L]
  exact Iff.rfl
/-! ### a row's text -/
theorem spl_le (sep : List Nat) : ∀ (l : List Nat) (k : Nat) (acc : List Nat), ∀ w ∈ TL.spl sep k acc l, w.length ≤ acc.length + l.length
  | [], k, acc, w, h => by
    rw [TL.spl_nil] at h
    have : w = acc := by simpa using h
    rw [this]; simp
  | c :: r, 0, acc, w, h => by
    cases q : TL.pre sep (c :: r) with
    | true =>
      rw [TL.spl_hit q] at h
      rcases List.mem_cons.mp h with h | h
      · rw [h]; omega
      · have := spl_le sep r (sep.length - 1) [] w h
        rw [List.length_nil] at this
        rw [List.length_cons]; omega
    | false =>
      rw [TL.spl_miss q] at h
      have := spl_le sep r 0 (acc ++ [c]) w h
      rw [List.length_append, List.length_singleton] at this
      rw [List.length_cons]; omega
  | c :: r, k + 1, acc, w, h => by
    have := spl_le sep r k acc w h
    rw [List.length_cons]; omega
theorem spl_many (sep : List Nat) : ∀ (l : List Nat) (k : Nat) (acc : List Nat), (TL.spl sep k acc l).length ≤ l.length + 1
  | [], k, acc => by rw [TL.spl_nil]; simp
  | c :: r, 0, acc => by
    cases q : TL.pre sep (c :: r) with
    | true =>
      rw [TL.spl_hit q, List.length_cons, List.length_cons]
      have := spl_many sep r (sep.length - 1) []
      omega
    | false =>
      rw [TL.spl_miss q, List.length_cons]
      have := spl_many sep r 0 (acc ++ [c])
      omega
  | c :: r, k + 1, acc => by
    have := spl_many sep r k acc
    show (TL.spl sep k acc r).length ≤ _
    rw [List.length_cons]; omega
/-- the words of a text -/
def wordsC (cs : List Nat) : List (List Nat) := TL.spl [32] 0 [] cs
theorem wordsC_split (cs : List Nat) : Txt.split (S cs) (Str.ofString " ") = (wordsC cs).map S := by
  have : Str.ofString " " = S [32] := by rw [← S_tl (Str.ofString " "), blank_L]
  rw [this, split_S (by decide) (by decide)]
  rfl
theorem wordsC_le {cs w : List Nat} (h : w ∈ wordsC cs) : w.length ≤ cs.length := by
  have := spl_le _ _ _ _ _ h
  rwa [List.length_nil, Nat.zero_add] at this
theorem wordsC_many (cs : List Nat) : (wordsC cs).length ≤ cs.length + 1 := spl_many _ _ _ _
/-- it writes a row -/
def RowOk (cs : List Nat) : Prop := cs = [45] ∨ ∀ w ∈ wordsC cs, WOk w
instance (cs : List Nat) : Decidable (RowOk cs) := by unfold RowOk; infer_instance
def rVal (cs : List Nat) : List Int := if cs = [45] then [] else (wordsC cs).map wVal
theorem rowOk_show {ns : List Int} (h : ∀ n ∈ ns, n.natAbs < 10 ^ 30) : RowOk (showC ns) ∧ rVal (showC ns) = ns := by
  by_cases z : ns = []
  · subst z
    exact ⟨.inl rfl, rfl⟩
  · have hw : wordsC (showC ns) = ns.map intC := by
      unfold wordsC showC
      rw [if_neg z, spl_join (by simpa using z) fun p hp => ?_]
      obtain ⟨n, _, rfl⟩ := List.mem_map.mp hp
      exact intC_free n
    have hne : showC ns ≠ [45] := fun e => by
      rw [e] at hw
      have h45 : wordsC [45] = [[45]] := by decide
      rw [h45] at hw
      cases ns with
      | nil => exact z rfl
      | cons a r =>
        rw [List.map_cons] at hw
        have h1 := (List.cons.inj hw).1
        have h2 := wok_int (h a List.mem_cons_self)
        rw [← h1] at h2
        exact absurd h2 (by decide)
    refine ⟨.inr fun w hm => ?_, ?_⟩
    · rw [hw] at hm
      obtain ⟨n, hn, rfl⟩ := List.mem_map.mp hm
      exact wok_int (h n hn)
    · unfold rVal
      rw [if_neg hne, hw, List.map_map]
      conv => rhs; rw [← List.map_id ns]
      exact List.map_congr_left fun n _ => wVal_int n
/-! ### over the signs of a text, over texts -/
section
variable {K : PySem.W.Frag} {a : Addr} {σ : L2.St} {H H1 : Hp} {Dl : Addr} {te : TE} {tb : TS} {D : Ends} {g : TG} {vs : List Nat} {j : Nat} {Qd : Hp → Prop}
theorem for_str {x : Str} (Pv : Nat → L2.St → Hp → Prop) (h0 : Pv 0 σ H)
    (hs : ∀ i c σ H, x.cps.toList[i]? = some c → Pv i σ H → g (.str (S [c])) σ H fun σ2 H2 => tb { D with nx := Pv (i + 1), ct := Pv (i + 1), bk := D.nx } σ2 H2) (hd : ∀ σ H, Pv x.cps.toList.length σ H → D.nx σ H) :
    ∃ W : Nat → Nat → L2.St → Hp → Prop, (∃ m, W 0 m σ H) ∧ ∀ i m σ H, W i m σ H →
      ((L2.Its x).stop i H ∧ D.nx σ H) ∨ ((L2.Its x).go i H ∧ ∃ N : L2.St → Hp → Prop, (∀ σ' H', N σ' H' → ∃ m', m' < m ∧ W (i + 1) m' σ' H') ∧ ∀ y H', (L2.Its x).yld i H y H' → g y σ H' fun σ2 H2 => tb { D with nx := N, ct := N, bk := D.nx } σ2 H2) := by
  have hz : x.cps.size = x.cps.toList.length := by simp
  refine ⟨fun i m σ H => m = x.cps.toList.length - i ∧ i ≤ x.cps.toList.length ∧ Pv i σ H, ⟨_, rfl, Nat.zero_le _, h0⟩, ?_⟩
  rintro i m σ H ⟨rfl, hi, p⟩
  by_cases hlt : i < x.cps.toList.length
  · refine .inr ⟨by show i < x.cps.size; omega, Pv (i + 1), fun σ' H' p' => ⟨_, by omega, rfl, hlt, p'⟩, fun y H' ⟨e, c, hc, ey⟩ => ?_⟩
    subst e
    subst ey
    exact hs i c σ _ (by rw [Array.getElem?_toList]; exact hc) p
  · have e : i = x.cps.toList.length := by omega
    subst e
    exact .inl ⟨by show x.cps.size ≤ _; omega, hd σ H p⟩
/-- [e for c in a text] -/
theorem lc_signs {l : List Nat} (f : Nat → V) (hn : l.length ≤ 1000000) (hD : H1 Dl = none) (hw : ∀ x, wipe ((wipe σ vs).set j (some x)) vs = wipe σ vs)
    (he : ∀ (c : Nat) H', c ∈ l → Same H1 H' → ∀ Q' : VK, (∀ H4, Same H' H4 → Q' (f c) H4) → te ((wipe σ vs).set j (some (.str ⟨#[c]⟩))) H' Q')
    (hd : ∀ H', Same H1 H' → H' Dl = some (.lst (l.map f)) → Qd H') :
    ∃ W : Nat → Nat → Hp → Prop, (∃ m, W 0 m (upd H1 Dl (.lst []))) ∧ ∀ i m H, W i m H →
      ((L2.Its (S l)).stop i H ∧ Qd H) ∨ ((L2.Its (S l)).go i H ∧ ∃ Nx : Hp → Prop, (∀ H', Nx H' → ∃ m', m' < m ∧ W (i + 1) m' H') ∧ ∀ x H', (L2.Its (S l)).yld i H x H' → gName j x (wipe σ vs) H' fun σ2 H2 => wipe σ2 vs = wipe σ vs ∧ tYes σ2 H2 fun b H3 =>
        if b = true then te σ2 H3 fun y H4 => ∃ acc, H4 Dl = some (.lst acc) ∧ acc.length < sizeLine ∧ Nx (upd H4 Dl (.lst (acc ++ [y]))) else Nx H3) := by
  have hz : (S l).cps.size = l.length := by simp
  refine ⟨fun i m H => m = l.length - i ∧ i ≤ l.length ∧ Same H1 H ∧ H Dl = some (.lst ((l.take i).map f)), ⟨_, rfl, Nat.zero_le _, same_new hD, upd_same⟩, ?_⟩
  rintro i m H ⟨rfl, hi, s, e⟩
  by_cases hlt : i < l.length
  · refine .inr ⟨by show i < (S l).cps.size; omega, fun H' => Same H1 H' ∧ H' Dl = some (.lst ((l.take (i + 1)).map f)), fun H' p' => ⟨_, by omega, rfl, hlt, p'⟩, fun y H' ⟨e', c, hc, ey⟩ => ?_⟩
    subst e'
    subst ey
    have hc : l[i]? = some c := by rw [← hc]; simp
    refine ⟨hw _, ?_⟩
    refine tyes_ok ?_
    refine he c _ (List.mem_of_getElem? hc) s _ fun H4 s4 => ⟨_, s4 _ _ e, szl (by rw [List.length_map, List.length_take]; omega), same_upd' hD (s.trans s4), ?_⟩
    rw [upd_same, List.take_add_one, hc, List.map_append]
    rfl
  · have e' : i = l.length := by omega
    subst e'
    refine .inl ⟨by show (S l).cps.size ≤ _; omega, hd H s ?_⟩
    rw [e, List.take_length]
/-- [e for w in texts]; e may raise where a text is not good -/
theorem lc_texts {ws : List (List Nat)} (ok : List Nat → Prop) (f : List Nat → V) (hn : ws.length ≤ 1000000) (ha : SqL K H1 a (ws.map fun w => V.str (S w))) (hD : H1 Dl = none) (hw : ∀ x, wipe ((wipe σ vs).set j (some x)) vs = wipe σ vs)
    (he : ∀ (w : List Nat) H', w ∈ ws → Same H1 H' → ∀ Q' : VK, (ok w → ∀ H4, Same H' H4 → Q' (f w) H4) → te ((wipe σ vs).set j (some (.str (S w)))) H' Q')
    (hd : ∀ H', (∀ w ∈ ws, ok w) → Same H1 H' → H' Dl = some (.lst (ws.map f)) → Qd H') :
    ∃ W : Nat → Nat → Hp → Prop, (∃ m, W 0 m (upd H1 Dl (.lst []))) ∧ ∀ i m H, W i m H →
      ((Itl K a).stop i H ∧ Qd H) ∨ ((Itl K a).go i H ∧ ∃ Nx : Hp → Prop, (∀ H', Nx H' → ∃ m', m' < m ∧ W (i + 1) m' H') ∧ ∀ x H', (Itl K a).yld i H x H' → gName j x (wipe σ vs) H' fun σ2 H2 => wipe σ2 vs = wipe σ vs ∧ tYes σ2 H2 fun b H3 =>
        if b = true then te σ2 H3 fun y H4 => ∃ acc, H4 Dl = some (.lst acc) ∧ acc.length < sizeLine ∧ Nx (upd H4 Dl (.lst (acc ++ [y]))) else Nx H3) := by
  refine lc_list (K := K) (a := a) (xs := ws.map fun w => V.str (S w)) (fun i H' => (∀ w ∈ ws.take i, ok w) ∧ Same H1 H' ∧ H' Dl = some (.lst ((ws.take i).map f))) ⟨fun w h => by simp at h, same_new hD, upd_same⟩ (fun i H' _ p => p.2.1.seq ha) (fun i x H' hx p => ?_) (fun H' p => ?_)
  · rw [List.getElem?_map] at hx
    cases hz : ws[i]? with
    | none => rw [hz] at hx; cases hx
    | some w =>
      rw [hz] at hx
      have ex : V.str (S w) = x := Option.some.inj hx
      subst ex
      have hi := (List.getElem?_eq_some_iff.mp hz).1
      refine ⟨hw _, ?_⟩
      refine tyes_ok ?_
      refine he w H' (List.mem_of_getElem? hz) p.2.1 _ fun okw H4 s => ⟨_, s _ _ p.2.2, szl (by rw [List.length_map, List.length_take]; omega), fun y hy => ?_, same_upd' hD (p.2.1.trans s), ?_⟩
      · rw [List.take_add_one, hz] at hy
        rcases List.mem_append.mp hy with hy | hy
        · exact p.1 y hy
        · have : y = w := by simpa using hy
          rw [this]; exact okw
      · rw [upd_same, List.take_add_one, hz, List.map_append]
        rfl
  · obtain ⟨p1, p2, p3⟩ := p
    rw [List.length_map, List.take_length] at p1 p3
    exact hd H' p1 p2 p3
end
end Ur
namespace Ur
open PySem SX L2 PySem.Spec PyProof.Rows
/-! ### a sign so many times -/
theorem rep_fold (c : Nat) : ∀ (n : Nat) (acc : Array Nat), (List.replicate n #[c]).foldl (· ++ ·) acc = acc ++ (List.replicate n c).toArray
  | 0, acc => by simp
  | n + 1, acc => by
    rw [List.replicate_succ, List.foldl_cons, rep_fold c n, List.replicate_succ]
    apply Array.ext'
    simp
theorem op_rep_str {X : Cx} : OpR X (binaryOp .Mult) (fun x y H Q => ∃ (z : Str) (n : Nat), x = .str z ∧ y = .int n ∧ z.length = 1 ∧ 2 ≤ n ∧ n ≤ 10000 ∧ ∀ cs : List Nat, ((S cs).length = n ∧ ∀ x ∈ cs, z.cps.toList = [x]) → Q (.str (S cs)) H) := by
  intro pins s σ H x y v u Q I rx ry h
  obtain ⟨z, n, rfl, rfl, hz1, h1, h2, q⟩ := h
  obtain ⟨c, hz⟩ : ∃ c, z.cps.toList = [c] := by
    have hz2 : z.cps.toList.length = 1 := by rw [Array.length_toList]; exact hz1
    exact List.length_eq_one_iff.mp hz2
  obtain ⟨t, rfl⟩ := rx
  obtain ⟨t', rfl⟩ := ry
  have hl : z.length = 1 := by
    show z.cps.size = 1
    rw [← Array.length_toList, hz]
    rfl
  have ez : z.cps = #[c] := Array.toList_inj.mp hz
  refine PySem.P.mul_str ?_ (fun _ _ => ?_) (fun _ _ => ?_) ?_
  · rw [decide_eq_false (by omega), decide_eq_false (by omega)]; rfl
  · rw [hl]
    have : (1 : Int) ≤ (2 ^ 63 - 1) / (n : Int) := by
      rw [Int.le_ediv_iff_mul_le (by omega)]
      omega
    omega
  · rw [hl]
    unfold Builtin.Str.tooLong
    simp
    exact Nat.le_of_lt (szl (by omega))
  · rw [if_neg (by omega), if_neg (by rw [hl]; simp; omega), ez, Int.toNat_natCast, rep_fold]
    have e : (#[] : Array Nat) ++ (List.replicate n c).toArray = (List.replicate n c).toArray := by simp
    rw [e]
    refine ⟨?_, ?_⟩
    · exact Nat.le_of_lt (szl (by rw [S_len, List.length_replicate]; omega))
    · exact ⟨.str (S (List.replicate n c)), H, I.tok _, ⟨_, rfl⟩, q _ ⟨by rw [S_len, List.length_replicate], fun x hx => by rw [List.eq_of_mem_replicate hx]; exact hz⟩⟩
end Ur
namespace Ur
open PySem SX L2 PySem.Spec PyProof.Rows
/-! ### lists of texts -/
def TxV (x : V) : Prop := ∃ cs : List Nat, x = .str (S cs) ∧ cs.length ≤ 10000
theorem TxV.of {s : Str} (h : s.length ≤ 10000) : TxV (.str s) := ⟨s.cps.toList, by rw [S_tl], by rw [← S_len, S_tl]; exact h⟩
theorem app_len (x y : Str) : (x ++ y).length = x.length + y.length := by rw [TL.len_tl, TL.tl_append, List.length_append, ← TL.len_tl, ← TL.len_tl]
theorem TxV.at {xs : List V} (h : ∀ x ∈ xs, TxV x) {n : Int} (h0 : 0 ≤ n) (h1 : n < xs.length) : ∃ cs : List Nat, atI xs n = some (.str (S cs)) ∧ cs.length ≤ 10000 := by
  rw [atI_pos h0 h1]
  have hl : n.toNat < xs.length := by omega
  rw [List.getElem?_eq_getElem hl]
  obtain ⟨cs, e, hc⟩ := h _ (List.getElem_mem hl)
  exact ⟨cs, by rw [e], hc⟩
theorem TxV.cat {xs ys : List V} (h : ∀ x ∈ xs, TxV x) (k : ∀ x ∈ ys, TxV x) : ∀ x ∈ xs ++ ys, TxV x := fun x hx => (List.mem_append.mp hx).elim (h x) (k x)
theorem TxV.cons {x : V} {xs : List V} (h : TxV x) (k : ∀ x ∈ xs, TxV x) : ∀ y ∈ x :: xs, TxV y := List.forall_mem_cons.mpr ⟨h, k⟩
theorem TxV.nil : ∀ y ∈ ([] : List V), TxV y := fun y h => nomatch h
theorem TxV.app {s : Str} {n : Nat} {cs : List Nat} (e : (S cs).length = n) (h : s.length + n ≤ 10000) : TxV (.str (s ++ S cs)) := TxV.of (by rw [app_len]; omega)
end Ur
namespace Ur
open PySem SX L2 PySem.Spec PyProof.Rows
theorem qstr {Q : VK} {z : Str} {H : Hp} (h : Q (.str (S z.cps.toList)) H) : Q (.str z) H := by rwa [S_tl] at h
theorem len_L (z : Str) : z.cps.toList.length = z.length := by rw [← S_len, S_tl]
end Ur
namespace Ur
open PySem SX L2 PySem.Spec PyProof.Rows
def wsC (cs : List Nat) : List (List Nat) := if cs = [45] then [] else wordsC cs
theorem wsC_ok {cs : List Nat} : (∀ w ∈ wsC cs, WOk w) ↔ RowOk cs := by
  unfold wsC RowOk
  by_cases h : cs = [45]
  · rw [if_pos h]
    exact ⟨fun _ => .inl h, fun _ w hw => nomatch hw⟩
  · rw [if_neg h]
    exact ⟨fun k => .inr k, fun k => k.elim (fun z => absurd z h) id⟩
theorem wsC_all (cs : List Nat) : ((wsC cs).map fun w => decide (WOk w)).all id = decide (RowOk cs) := by
  rw [Bool.eq_iff_iff, decide_eq_true_eq, List.all_eq_true, ← wsC_ok]
  constructor
  · intro h w hw
    have := h _ (List.mem_map.mpr ⟨w, hw, rfl⟩)
    simpa using this
  · intro h b hb
    obtain ⟨w, hw, rfl⟩ := List.mem_map.mp hb
    exact decide_eq_true (h w hw)
theorem rVal_ws (cs : List Nat) : rVal cs = (wsC cs).map wVal := by
  unfold rVal wsC
  split <;> rfl
theorem wsC_le {cs w : List Nat} (h : w ∈ wsC cs) : w.length ≤ cs.length := by
  unfold wsC at h
  split at h
  · exact nomatch h
  · exact wordsC_le h
theorem wsC_many (cs : List Nat) : (wsC cs).length ≤ cs.length + 1 := by
  unfold wsC
  split
  · exact Nat.zero_le _
  · exact wordsC_many cs
end Ur
namespace Ur
open PySem SX L2 PySem.Spec PyProof.Rows
/-! ### numbers of at most twenty-one figures -/
def Bd (x : Int) : Prop := -100000000000000000000 ≤ x ∧ x ≤ 100000000000000000000
theorem Bd.of {x : Int} (h : -100000000000000000000 ≤ x) (k : x ≤ 100000000000000000000) : Bd x := ⟨h, k⟩
theorem Bd.nat {x : Int} (h : Bd x) : x.natAbs < 10 ^ 21 := by
  unfold Bd at h
  omega
theorem Bd.lt {x : Int} (h : Bd x) {k : Nat} (hk : 21 ≤ k) : x.natAbs < 10 ^ k := Nat.lt_of_lt_of_le h.nat (Nat.pow_le_pow_right (by decide) hk)
theorem far_bd {i : Int} (h0 : 0 ≤ i) (h1 : i < 6) : Bd ([(10 : Int) ^ (20 : Int).toNat, -(10 : Int) ^ (20 : Int).toNat, (10 : Int) ^ (18 : Int).toNat + 1, -7, 100, 99999999999999999999].getD i.toNat 0) := by
  have h : i = 0 ∨ i = 1 ∨ i = 2 ∨ i = 3 ∨ i = 4 ∨ i = 5 := by omega
  unfold Bd
  rcases h with rfl | rfl | rfl | rfl | rfl | rfl <;> decide
theorem Bd.two {x y i : Int} (h : Bd x) (k0 : 0 ≤ i) (k1 : i < 2) (h0 : -500 ≤ y) (h1 : y ≤ 500) : Bd ([x, y].getD i.toNat 0) := by
  have h2 : i = 0 ∨ i = 1 := by omega
  rcases h2 with rfl | rfl
  · exact h
  · unfold Bd
    show _ ≤ y ∧ y ≤ _
    omega
theorem Bd.snoc {r : List Int} {x : Int} (h : ∀ y ∈ r, Bd y) (k : Bd x) : ∀ y ∈ r ++ [x], Bd y := fun y hy => by
  rcases List.mem_append.mp hy with hy | hy
  · exact h y hy
  · rw [List.mem_singleton.mp hy]
    exact k
section
variable {σ : L2.St} {H H1 : Hp} {Dl : Addr} {te : TE} {vs : List Nat} {j n : Nat} {lo : Int} {Qd : Hp → Prop}
/-- [e for k in range(..)], each a number of a kind -/
theorem lc_rngB (P : Int → Prop) (hn : n ≤ 1000000) (hD : H1 Dl = none) (hw : ∀ x, wipe ((wipe σ vs).set j (some x)) vs = wipe σ vs)
    (he : ∀ (k : Nat) H', k < n → Same H1 H' → ∀ Q' : VK, (∀ (v : Int) H4, P v → Same H' H4 → Q' (.int v) H4) → te ((wipe σ vs).set j (some (.int (lo + (k : Nat))))) H' Q')
    (hd : ∀ H' (ms : List Int), (∀ m ∈ ms, P m) → Same H1 H' → ms.length = n → H' Dl = some (.lst (ms.map V.int)) → Qd H') :
    ∃ W : Nat → Nat → Hp → Prop, (∃ m, W 0 m (upd H1 Dl (.lst []))) ∧ ∀ i m H, W i m H →
      ((Itr lo n).stop i H ∧ Qd H) ∨ ((Itr lo n).go i H ∧ ∃ Nx : Hp → Prop, (∀ H', Nx H' → ∃ m', m' < m ∧ W (i + 1) m' H') ∧ ∀ x H', (Itr lo n).yld i H x H' → gName j x (wipe σ vs) H' fun σ2 H2 => wipe σ2 vs = wipe σ vs ∧ tYes σ2 H2 fun b H3 =>
        if b = true then te σ2 H3 fun y H4 => ∃ acc, H4 Dl = some (.lst acc) ∧ acc.length < sizeLine ∧ Nx (upd H4 Dl (.lst (acc ++ [y]))) else Nx H3) := by
  refine lc_range (lo := lo) (n := n) (fun i H' => ∃ ms : List Int, H' Dl = some (.lst (ms.map V.int)) ∧ Same H1 H' ∧ ms.length = i ∧ ∀ m ∈ ms, P m) ⟨[], upd_same, same_new hD, rfl, fun m h => nomatch h⟩ (fun i H' hi p => ?_) (fun H' p => ?_)
  · obtain ⟨ms, e1, s, hl, hp⟩ := p
    refine ⟨hw _, tyes_ok ?_⟩
    refine he i H' hi s _ fun v H4 pv s4 => ⟨_, s4 _ _ e1, szl (by rw [List.length_map]; omega), ms ++ [v], upd_snoc, same_upd' hD (s.trans s4), by rw [List.length_append, hl]; rfl, fun m hm => ?_⟩
    rcases List.mem_append.mp hm with hm | hm
    · exact hp m hm
    · rw [List.mem_singleton.mp hm]; exact pv
  · obtain ⟨ms, e1, s, hl, hp⟩ := p
    exact hd H' ms hp s hl e1
end
end Ur
namespace Ur
open PySem SX L2 PySem.Spec PyProof.Rows
theorem Bd.get {r : List Int} {i : Int} (h : ∀ x ∈ r, Bd x) (h0 : 0 ≤ i) (h1 : i < r.length) : Bd (r.getD i.toNat 0) := by
  have hl : i.toNat < r.length := by omega
  rw [List.getD_eq_getElem?_getD, List.getElem?_eq_getElem hl]
  exact h _ (List.getElem_mem hl)
theorem Bd.up1 {x : Int} (h : Bd x) : Bd (x + if decide (x < (10 : Int) ^ (18 : Int).toNat) = true then 1 else 0) := by
  have e : (10 : Int) ^ (18 : Int).toNat = 1000000000000000000 := by decide
  rw [e]
  unfold Bd at h ⊢
  by_cases k : x < 1000000000000000000
  · rw [if_pos (decide_eq_true k)]; omega
  · rw [if_neg (by rw [decide_eq_false k]; decide)]; omega
theorem Bd.up0 {x : Int} (h : Bd x) : Bd (x + if false = true then 1 else 0) := by
  rw [if_neg (by decide), Int.add_zero]
  exact h
end Ur
namespace Ur
open PySem SX L2 PySem.Spec PyProof.Rows
theorem joinL_len {c : Nat} : ∀ ps : List (List Nat), (∀ p ∈ ps, p.length ≤ c) → (TL.joinL [32] ps).length ≤ ps.length * (c + 1)
  | [], _ => Nat.zero_le _
  | [p], h => by
    have := h p List.mem_cons_self
    show p.length ≤ _
    rw [List.length_singleton]
    omega
  | p :: q :: r, h => by
    have h1 := h p List.mem_cons_self
    have h2 := joinL_len (q :: r) fun y hy => h y (List.mem_cons_of_mem _ hy)
    show (p ++ ([32] ++ TL.joinL [32] (q :: r))).length ≤ _
    rw [List.length_append, List.length_append, List.length_singleton]
    rw [List.length_cons (a := p), Nat.add_mul]
    omega
theorem showC_len {ns : List Int} (h : ∀ n ∈ ns, Bd n) : (showC ns).length ≤ 1 + ns.length * 23 := by
  unfold showC
  split
  · show 1 ≤ _
    omega
  · have := joinL_len (c := 22) (ns.map intC) fun p hp => by
      obtain ⟨n, hn, rfl⟩ := List.mem_map.mp hp
      exact intC_len (by decide) (h n hn).nat
    rw [List.length_map] at this
    omega
end Ur
namespace Ur
open PySem SX L2 PySem.Spec PyProof.Rows
/-- it writes a number from 0 on of at most six figures -/
def FOk (cs : List Nat) : Prop := (1 ≤ cs.length ∧ cs.length ≤ 6) ∧ (∀ c ∈ cs, 48 ≤ c ∧ c ≤ 57) ∧ (cs.head? = some 48 → cs = [48])
instance (cs : List Nat) : Decidable (FOk cs) := by unfold FOk; infer_instance
theorem FOk.text {cs : List Nat} (h : FOk cs) : intText? (S cs) = some ((NumText.digitsVal cs : Nat) : Int) := by
  obtain ⟨⟨h1, h2⟩, h3, _⟩ := h
  exact int_S (List.all_eq_true.mpr fun c hc => by have := h3 c hc; simp only [Bool.and_eq_true, decide_eq_true_eq]; omega) (fun z => by rw [z] at h1; exact absurd h1 (by decide)) (by omega)
theorem fok_nat {n : Nat} (h : n < 10 ^ 6) : FOk (TL.numL n) ∧ NumText.digitsVal (TL.numL n) = n := by
  refine ⟨⟨⟨List.length_pos_iff.mpr (TL.numL_ne n), TL.numL_len (by decide) h⟩, TL.numL_digits n, fun e => ?_⟩, TL.numL_val n⟩
  have := numL_head _ _ (Nat.le_refl n) e
  rw [this]
  decide
end Ur

namespace RaiseN
open PySem PySem.Spec PyProof.Rows L2
/-! ### raise X(..) from None where an own refusal is caught -/
theorem tracedN {h B : Heap} {a : Addr} {Z Z' : Obj → Prop} {fl : Value} (i : ∀ o, Z o → Z' o) : HandSPX.TracedZ h B a Z fl → HandSPX.TracedZ h B a Z' fl
  | ⟨oe, vs, T, oT, ts, e, hz, r⟩ => ⟨oe, vs, T, oT, ts, e, i _ hz, r⟩
section
variable {P : Program} {w : World} {K : PySem.W.Frag} {mg : Str → Option Value} {base : Heap} {k : Nat} {f : Addr} {fd : FuncData} {ps : List Str} {sp : Sp}
/-- what lets out exceptions without a context lets out exceptions -/
theorem weak (F : FnOk P w K mg base (L2N.CX P w) k f fd ps sp) : FnOk P w K mg base (L2.CX P w) k f fd ps sp := by
  refine ⟨F.len, fun A outer s H args us vs Q E hr he hb hv hs => codeAny_mono (F.run A outer s H args us vs Q E hr he hb hv hs) fun r s' hq => ?_⟩
  cases r with
  | ok fl => cases fl <;> exact hq
  | error e =>
    obtain ⟨a, B, H', cls, d, ea, fl, r⟩ := hq
    exact ⟨a, B, H', cls, d, ea, ⟨fl.1, fl.2.1, fl.2.2.1, tracedN (fun _ z => z.zc) fl.2.2.2⟩, r⟩
theorem okN {x qual : Str} {st : Stmt} {N : List Str} (F : Fun K x qual st f fd) (S : FnScope N ps (defScope st)) (hlen : ∀ vs H Q E, sp vs H Q E → vs.length = ps.length)
    (hb : ∀ (cdv : Value) (A : Around) (outer : List Env) (s : Shared) (H : Hp) (vs : List V) (Q : VK) (E : XK), Room k (A.deeper (PyProof.Rows.envOfC qual (defScope st) s.heap.objs.size f cdv)) → sp vs H Q E →
      ∃ t, PSs (cxOf (L2N.CX P w) P w K mg base N qual (defScope st) f cdv A outer s H E) (defBody st) t ∧ t { nx := fun _ H' => Q .non H', rt := Q } (L2.start N vs) H) : FnOk P w K mg base (L2N.CX P w) (k + 1) f fd ps sp := by
  obtain ⟨oc, od, kV, doc, pm, an, cdv, ct, osl, rfl, look, code⟩ := F.ex
  exact fn_of look code S hlen fun A outer s H vs Q E room hsp => hb cdv A outer s H vs Q E room hsp
end
section
variable {X : Cx} {C : Addr} {bmB : List Value} {B newId initId : String}
theorem passesAt_of {Kx : Value → Shared → Prop} {E₁ : Value → Shared → Prop} (hx : X.xe = fun e s' => wpAny (model X.prog X.w) X.A (leaving X.env e) (fun _ s'' => Kx e s'') E₁ s') (hd : Option Value) : PassesOwnAt (model X.prog X.w) (X.A.mark hd) X.A X.env X.xe := by
  rw [hx]
  exact PassesOwnAt.leaving
/-- X('m'), all of its fields told -/
theorem mk5 {x m : Str} {j : Nat} {p1 p2 p3 : Pos} (facts : ExcBaseFacts B newId initId bmB) (own : PySem.W.excIn X.K C bmB newId = true) (gl : X.mg x = some (.ref C)) (kept : PySem.W.keepIn X.K (.ref C) = true) (r : Raises X (.ref C)) (hg : Gl X x)
    (hdb : (x == ("__debug__" : Str)) = false := by decide) : L2H.PMk5 X (.Call (.Name x p1) [.Constant (.str m) j p2] [] p3) (fun _ H Q => Q (.ref C) none H) := by
  intro pins s σ H Q I hq
  refine wpAny_Call_Name_kw (ld_glob I hg gl ?_ hdb)
  have arg : PA X [.Constant (.str m) j p2] (tCons (tC (.str m)) tNil) := pa_cons pe_str pa_nil
  refine PySem.W.callWith_K (h₀ := X.base) I.ok.mod.kin kept (thn (arg.run p3 pins s σ H (fun vs H1 => vs = [V.str m] ∧ H = H1) I ⟨rfl, rfl⟩) fun us s1 got => ?_)
  obtain ⟨vs, H1, I1, vals, ev, eh⟩ := got
  subst ev
  subst eh
  refine ⟨I1.kIn, ?_⟩
  cases vals with
  | cons v1 v2 =>
    rename_i u1 u2
    cases v2
    show wpAny _ _ (call (.ref C) [u1]) _ _ _
    obtain ⟨_, _, _, _, _, _, _, _, _, _, _, _, _, _, _, _, _, isC, isN, nin, tree⟩ := exc_obj I1.kIn own
    refine wpAny_call_exc_subT facts tree isC isN nin (fun h' e made => ?_) (by show 1 ≤ sizeLine; decide)
    exact L2H.mk_of5 I1 made r hq (I1.hok.gone made.new)
end
end RaiseN

namespace Ur
open PySem SX L2 PySem.Spec PyProof.Rows
/-! ### the desk -/
structure Dsk (C CL CR : Addr) (L : Addr → Prop) (o lo pc : Addr) (H : Hp) (ns : List Int) (hs : List (List Int)) : Prop where
  obj : ∃ dx, H o = some (.ins C dx [("live", .ref lo)])
  liv : ∃ cs, Liv CL CR (fun b => L b ∨ b = o) lo pc H ns cs ∧ Back ns cs hs
  off : ∀ b, L b → o ≠ b
  bd : ∀ n ∈ ns, n.natAbs < 10 ^ 30
  hbd : ∀ r ∈ hs, ∀ n ∈ r, n.natAbs < 10 ^ 30
  small : ns.length ≤ 400
section
variable {C CL CR : Addr} {L : Addr → Prop} {o lo pc : Addr} {H H' : Hp} {ns : List Int} {hs : List (List Int)}
theorem Dsk.same (d : Dsk C CL CR L o lo pc H ns hs) (s : Same H H') : Dsk C CL CR L o lo pc H' ns hs := by
  obtain ⟨⟨dx, e⟩, ⟨cs, v, b⟩, off, b1, b2, sm⟩ := d
  exact ⟨⟨dx, s _ _ e⟩, ⟨cs, v.same s, b⟩, off, b1, b2, sm⟩
theorem Dsk.ne (d : Dsk C CL CR L o lo pc H ns hs) : o ≠ lo ∧ o ≠ pc := by
  obtain ⟨cs, v, b⟩ := d.liv
  have := v.off o (.inr rfl)
  exact ⟨Ne.symm this.1, Ne.symm this.2⟩
theorem Dsk.next {ns' : List Int} {hs' : List (List Int)} {cs' : List (Int × Int × List Int)} (d : Dsk C CL CR L o lo pc H ns hs) (f : Fr lo pc H H') (v : Liv CL CR (fun b => L b ∨ b = o) lo pc H' ns' cs') (b : Back ns' cs' hs')
    (h1 : ∀ n ∈ ns', n.natAbs < 10 ^ 30) (h2 : ∀ r ∈ hs', ∀ n ∈ r, n.natAbs < 10 ^ 30) (h3 : ns'.length ≤ 400) : Dsk C CL CR L o lo pc H' ns' hs' := by
  obtain ⟨dx, e⟩ := d.obj
  exact ⟨⟨dx, f _ _ d.ne.1 d.ne.2 e⟩, ⟨cs', v, b⟩, d.off, h1, h2, h3⟩
theorem Dsk.still {cs : List (Int × Int × List Int)} (d : Dsk C CL CR L o lo pc H ns hs) (f : Fr lo pc H H') (v : Liv CL CR (fun b => L b ∨ b = o) lo pc H' ns cs) (b : Back ns cs hs) : Dsk C CL CR L o lo pc H' ns hs :=
  d.next f v b d.bd d.hbd d.small
theorem Dsk.obd (d : Dsk C CL CR L o lo pc H ns hs) : ∀ r ∈ hs ++ [ns], ∀ n ∈ r, n.natAbs < 10 ^ 30 := fun r hr => by
  rcases List.mem_append.mp hr with hr | hr
  · exact d.hbd r hr
  · rw [List.mem_singleton.mp hr]; exact d.bd
theorem layd_bd {B : Int → Prop} {ns gs : List Int} {p m : Int} (h : ∀ n ∈ ns, B n) (k : ∀ n ∈ gs, B n) : ∀ n ∈ layd ns p m gs, B n := fun n hn => by
  unfold layd at hn
  rcases List.mem_append.mp hn with hn | hn
  · rcases List.mem_append.mp hn with hn | hn
    · exact h n (List.mem_of_mem_take hn)
    · exact k n hn
  · exact h n (List.mem_of_mem_drop hn)
end
/-- what the desk says: a refusal, or a text and the row and the rows ahead behind it -/
inductive DAns where
  | bad (k : Nat)
  | ok (t : List Nat) (ns : List Int) (hs : List (List Int))
def excK (w0 w1 w2 w3 : Addr) : Nat → Addr
  | 0 => w0
  | 1 => w1
  | 2 => w2
  | _ => w3
def DOut (W : Nat → Addr) (C CL CR : Addr) (L : Addr → Prop) (o lo pc : Addr) (H : Hp) (ns : List Int) (hs : List (List Int)) (Q : VK) (E : XK) : DAns → Prop
  | .bad k => ∀ H', Dsk C CL CR L o lo pc H' ns hs → Fr lo pc H H' → E (.ref (W k)) none H'
  | .ok t ns' hs' => ∀ H', Dsk C CL CR L o lo pc H' ns' hs' → Fr lo pc H H' → Q (.str (S t)) H'
def okC : List Nat := [111, 107]
theorem ok_S : Str.ofString "ok" = S okC := by decide
/-- rows of three words -/
def askD (ns : List Int) (hs : List (List Int)) : Nat → Int → Int → DAns
  | 0, x, y => if x ≤ y ∧ y ≤ (ns.length : Int) then .ok (intC (wun ns x y : Nat)) ns hs else .bad 2
  | 1, x, y => if x ≤ y ∧ y ≤ (ns.length : Int) then .ok (showC (firP ns x y)) ns hs else .bad 2
  | 2, x, y => if x < (ns.length : Int) then .ok okC (layd ns x 1 [y]) (hs ++ [ns]) else .bad 3
  | _, x, y => if x ≤ (ns.length : Int) then .ok okC (layd ns x 0 [y]) (hs ++ [ns]) else .bad 3
def headS : Nat → Str
  | 0 => Str.ofString "unlike"
  | 1 => Str.ofString "firsts"
  | 2 => Str.ofString "change"
  | _ => Str.ofString "put"
/-- the greatest, the least -/
def mxI : List Int → Int
  | [] => 0
  | [a] => a
  | a :: b :: r => max a (mxI (b :: r))
def mnI : List Int → Int
  | [] => 0
  | [a] => a
  | a :: b :: r => min a (mnI (b :: r))
theorem mxI_is : ∀ (l : List Int), l ≠ [] → mxI l ∈ l ∧ ∀ y ∈ l, y ≤ mxI l
  | [], h => (h rfl).elim
  | [a], _ => ⟨List.mem_cons_self, fun y hy => by rw [List.mem_singleton.mp hy]; exact Int.le_refl _⟩
  | a :: b :: r, _ => by
    obtain ⟨h1, h2⟩ := mxI_is (b :: r) (List.cons_ne_nil _ _)
    show max a (mxI (b :: r)) ∈ _ ∧ ∀ y ∈ _, y ≤ max a (mxI (b :: r))
    constructor
    · rcases Int.le_total a (mxI (b :: r)) with h | h
      · rw [Int.max_eq_right h]; exact List.mem_cons_of_mem _ h1
      · rw [Int.max_eq_left h]; exact List.mem_cons_self
    · intro y hy
      rcases List.mem_cons.mp hy with rfl | hy
      · exact Int.le_max_left _ _
      · exact Int.le_trans (h2 y hy) (Int.le_max_right _ _)
theorem mnI_is : ∀ (l : List Int), l ≠ [] → mnI l ∈ l ∧ ∀ y ∈ l, mnI l ≤ y
  | [], h => (h rfl).elim
  | [a], _ => ⟨List.mem_cons_self, fun y hy => by rw [List.mem_singleton.mp hy]; exact Int.le_refl _⟩
  | a :: b :: r, _ => by
    obtain ⟨h1, h2⟩ := mnI_is (b :: r) (List.cons_ne_nil _ _)
    show min a (mnI (b :: r)) ∈ _ ∧ ∀ y ∈ _, min a (mnI (b :: r)) ≤ y
    constructor
    · rcases Int.le_total a (mnI (b :: r)) with h | h
      · rw [Int.min_eq_left h]; exact List.mem_cons_self
      · rw [Int.min_eq_right h]; exact List.mem_cons_of_mem _ h1
    · intro y hy
      rcases List.mem_cons.mp hy with rfl | hy
      · exact Int.min_le_left _ _
      · exact Int.le_trans (Int.min_le_right _ _) (h2 y hy)
theorem mxI_of {l : List Int} {m : Int} (h : m ∈ l) (k : ∀ y ∈ l, y ≤ m) : mxI l = m := by
  obtain ⟨a, b⟩ := mxI_is l (List.ne_nil_of_mem h)
  exact Int.le_antisymm (k _ a) (b _ h)
theorem mnI_of {l : List Int} {m : Int} (h : m ∈ l) (k : ∀ y ∈ l, m ≤ y) : mnI l = m := by
  obtain ⟨a, b⟩ := mnI_is l (List.ne_nil_of_mem h)
  exact Int.le_antisymm (b _ h) (k _ a)
theorem ofW_bd {ns : List Int} {w : Nat} {y : Int} (h : y ∈ ofW ns w) : 0 ≤ y ∧ y ≤ ns.length := by
  unfold ofW at h
  obtain ⟨f, _, rfl⟩ := List.mem_map.mp h
  refine ⟨Int.natCast_nonneg _, ?_⟩
  have := wun_le (ns := ns) (f := (f : Int)) (b := ((f + w : Nat) : Int))
  rw [wun_N, Int.toNat_natCast, Int.toNat_natCast] at this
  omega
theorem sumTo_bd {g : Nat → Int} {B : Nat} : ∀ n : Nat, (∀ t, t < n → 0 ≤ g t ∧ g t ≤ B) → 0 ≤ sumTo g n ∧ sumTo g n ≤ (n * B : Nat)
  | 0, _ => ⟨Int.le_refl _, by rw [Nat.zero_mul]; exact Int.le_refl _⟩
  | n + 1, h => by
    obtain ⟨h1, h2⟩ := sumTo_bd n fun t ht => h t (by omega)
    obtain ⟨h3, h4⟩ := h n (by omega)
    have e : sumTo g (n + 1) = sumTo g n + g n := rfl
    have e2 : (n + 1) * B = n * B + B := Nat.succ_mul n B
    rw [e, e2]
    omega
theorem hisN_bd {ns : List Int} {m : Int} (h0 : 0 ≤ m) : 0 ≤ hisN ns m ∧ hisN ns m ≤ (ns.length * ns.length : Nat) := by
  by_cases z : m = 0
  · rw [z, his_0]
    exact ⟨Int.le_refl _, Int.natCast_nonneg _⟩
  · rw [hisN_cnt (by omega)]
    refine sumTo_bd _ fun f hf => ?_
    unfold cntF
    obtain ⟨h1, h2⟩ := sumTo_bd (g := fun t => if (wunN ns f (f + 1 + t) : Int) = m then 1 else 0) (B := 1) (ns.length - f) fun t _ => by
      show 0 ≤ (if (wunN ns f (f + 1 + t) : Int) = m then (1 : Int) else 0) ∧ (if (wunN ns f (f + 1 + t) : Int) = m then (1 : Int) else 0) ≤ ((1 : Nat) : Int)
      split <;> decide
    rw [Nat.mul_one] at h2
    exact ⟨h1, Int.le_trans h2 (by omega)⟩
/-- rows of two words -/
def tellD (ns : List Int) (hs : List (List Int)) : Nat → Int → DAns
  | 0, x => if x < (ns.length : Int) then .ok (intC (ns.getD x.toNat 0)) (layd ns x 1 []) (hs ++ [ns]) else .bad 3
  | 1, x => .ok (intC (hisN ns x)) ns hs
  | 2, x => if x = 0 then .bad 0 else .ok (showC (parts ns x)) ns hs
  | 3, x => if x ≤ (ns.length : Int) then .ok (showC [mxI (ofW ns x.toNat), ((ofW ns x.toNat).idxOf (mxI (ofW ns x.toNat)) : Nat)]) ns hs else .bad 2
  | _, x => if x ≤ (ns.length : Int) then .ok (showC [mnI (ofW ns x.toNat), ((ofW ns x.toNat).idxOf (mnI (ofW ns x.toNat)) : Nat)]) ns hs else .bad 2
def headT : Nat → Str
  | 0 => Str.ofString "take"
  | 1 => Str.ofString "count"
  | 2 => Str.ofString "part"
  | 3 => Str.ofString "most"
  | _ => Str.ofString "least"
section
variable {K : PySem.W.Frag} {a : Addr} {σ : L2.St} {H H1 : Hp} {Dl : Addr} {te : TE} {vs : List Nat} {j : Nat} {ns : List Int} {Qd : Hp → Prop}
theorem seqT_same {K : PySem.W.Frag} {H H' : Hp} {a : Addr} {xs : List V} (s : Same H H') : SqT K H a xs → SqT K H' a xs
  | .inl (.inl e) => .inl (.inl (s _ _ e))
  | .inl (.inr ⟨o, e⟩) => .inl (.inr ⟨o, s _ _ e⟩)
  | .inr e => .inr e
/-- [e for x in a tuple of ints] -/
theorem lc_tints (f : Int → V) (hn : ns.length ≤ 1000000) (ha : SqT K H1 a (ns.map V.int)) (hD : H1 Dl = none) (hw : ∀ x, wipe ((wipe σ vs).set j (some x)) vs = wipe σ vs)
    (he : ∀ (x : Int) H', x ∈ ns → Same H1 H' → ∀ Q' : VK, (∀ H4, Same H' H4 → Q' (f x) H4) → te ((wipe σ vs).set j (some (.int x))) H' Q')
    (hd : ∀ H', Same H1 H' → H' Dl = some (.lst (ns.map f)) → Qd H') :
    ∃ W : Nat → Nat → Hp → Prop, (∃ m, W 0 m (upd H1 Dl (.lst []))) ∧ ∀ i m H, W i m H →
      ((Itt K a).stop i H ∧ Qd H) ∨ ((Itt K a).go i H ∧ ∃ Nx : Hp → Prop, (∀ H', Nx H' → ∃ m', m' < m ∧ W (i + 1) m' H') ∧ ∀ x H', (Itt K a).yld i H x H' → gName j x (wipe σ vs) H' fun σ2 H2 => wipe σ2 vs = wipe σ vs ∧ tYes σ2 H2 fun b H3 =>
        if b = true then te σ2 H3 fun y H4 => ∃ acc, H4 Dl = some (.lst acc) ∧ acc.length < sizeLine ∧ Nx (upd H4 Dl (.lst (acc ++ [y]))) else Nx H3) := by
  refine lc_tup (K := K) (a := a) (xs := ns.map V.int) (fun i H' => Same H1 H' ∧ H' Dl = some (.lst ((ns.take i).map f))) ⟨same_new hD, upd_same⟩ (fun i H' _ p => seqT_same p.1 ha) (fun i x H' hx p => ?_) (fun H' p => ?_)
  · obtain ⟨z, hz, rfl⟩ := iv_get hx
    have hi := (List.getElem?_eq_some_iff.mp hz).1
    refine ⟨hw _, tyes_ok ?_⟩
    refine he z H' (List.mem_of_getElem? hz) p.1 _ fun H4 s => ⟨_, s _ _ p.2, szl (by rw [List.length_map, List.length_take]; omega), same_upd' hD (p.1.trans s), ?_⟩
    rw [upd_same, List.take_add_one, hz, List.map_append]
    rfl
  · have h2 := p.2
    rw [List.length_map, List.take_length] at h2
    exact hd H' p.1 h2
end
/-! ### rows of words -/
def tabW : List (Str × Int) := [("unlike", 3), ("firsts", 3), ("change", 3), ("put", 3), ("take", 2), ("most", 2), ("least", 2), ("count", 2), ("part", 2)]
def wn (w : List Nat) : Int := (tabW.lookup (S w)).getD 0
def undoC : List Nat := [117, 110, 100, 111]
def showW : List Nat := [115, 104, 111, 119]
def rowW : List Nat := [114, 111, 119, 32]
def noneC : List Nat := [110, 111, 110, 101]
/-- which of the rows of three words, of two -/
def ix3 (w : List Nat) : Nat := if S w = headS 0 then 0 else if S w = headS 1 then 1 else if S w = headS 2 then 2 else 3
def ix2 (w : List Nat) : Nat := if S w = headT 0 then 0 else if S w = headT 1 then 1 else if S w = headT 2 then 2 else if S w = headT 3 then 3 else 4
def dv (w : List Nat) : Int := (NumText.digitsVal w : Nat)
def wordsD (ns : List Int) (hs : List (List Int)) (ws : List (List Nat)) : DAns :=
  if wn (ws.headD []) ≠ (ws.length : Int) then .bad 0
  else if ¬ FOk (ws.getD 1 []) then .bad 0
  else if ws.length = 2 then tellD ns hs (ix2 (ws.headD [])) (dv (ws.getD 1 []))
  else if 2 ≤ ix3 (ws.headD []) then (if WOk (ws.getD 2 []) then askD ns hs (ix3 (ws.headD [])) (dv (ws.getD 1 [])) (wVal (ws.getD 2 [])) else .bad 0)
  else if FOk (ws.getD 2 []) then askD ns hs (ix3 (ws.headD [])) (dv (ws.getD 1 [])) (dv (ws.getD 2 [])) else .bad 0
/-- what the desk says to a text -/
def sayD (ns : List Int) (hs : List (List Int)) (cs : List Nat) : DAns :=
  if cs = undoC then (match hs.getLast? with | none => .ok noneC ns hs | some m => .ok okC m hs.dropLast)
  else if cs = showW then .ok (showC ns) ns hs
  else if cs.take 4 = rowW then (if RowOk (cs.drop 4) then .ok okC (rVal (cs.drop 4)) [] else .bad 1)
  else wordsD ns hs (wordsC cs)
/-- what stays: all but the desk and its row -/
def DFr (o lo pc lo' pc' : Addr) (H H' : Hp) : Prop := ∀ b v, b ≠ o → b ≠ lo → b ≠ pc → H b = some v → H' b = some v ∧ b ≠ lo' ∧ b ≠ pc'
theorem DFr.fr {o lo pc : Addr} {H H' : Hp} (f : Fr lo pc H H') : DFr o lo pc lo pc H H' := fun b v _ h1 h2 e => ⟨f b v h1 h2 e, h1, h2⟩
def SOut (W : Nat → Addr) (C CL CR : Addr) (L : Addr → Prop) (o lo pc : Addr) (H : Hp) (ns : List Int) (hs : List (List Int)) (Q : VK) (E : XK) : DAns → Prop
  | .bad k => ∀ H', Dsk C CL CR L o lo pc H' ns hs → DFr o lo pc lo pc H H' → E (.ref (W k)) none H'
  | .ok t ns' hs' => ∀ lo' pc' H', Dsk C CL CR L o lo' pc' H' ns' hs' → DFr o lo pc lo' pc' H H' → Q (.str (S t)) H'
theorem SOut.dout {W : Nat → Addr} {C CL CR : Addr} {L : Addr → Prop} {o lo pc : Addr} {H H1 : Hp} {ns : List Int} {hs : List (List Int)} {Q : VK} {E : XK} {a : DAns} (h : SOut W C CL CR L o lo pc H ns hs Q E a) (s : Same H H1) :
    DOut W C CL CR L o lo pc H1 ns hs Q E a := by
  cases a with
  | bad k => exact fun H' d f => h H' d (DFr.fr ((Fr.same s).trans f))
  | ok t ns' hs' => exact fun H' d f => h lo pc H' d (DFr.fr ((Fr.same s).trans f))
theorem undo_L : (Str.ofString "undo").cps.toList = undoC := by rw [Str.ofString_eq_toList]; rfl
theorem show_L : (Str.ofString "show").cps.toList = showW := by rw [Str.ofString_eq_toList]; rfl
theorem none_S : Str.ofString "none" = S noneC := by decide
theorem Dsk.undone {C CL CR : Addr} {L : Addr → Prop} {o lo pc : Addr} {H H' : Hp} {ns m : List Int} {hs : List (List Int)} {cs' : List (Int × Int × List Int)} (d : Dsk C CL CR L o lo pc H ns (hs ++ [m])) (f : Fr lo pc H H') (v : Liv CL CR (fun b => L b ∨ b = o) lo pc H' m cs') (b : Back m cs' hs) (hl : m.length ≤ 400) : Dsk C CL CR L o lo pc H' m hs :=
  d.next f v b (d.hbd m (List.mem_append_right _ List.mem_cons_self)) (fun r hr => d.hbd r (List.mem_append_left _ hr)) hl
/-! ### the first word -/
def PartOf (cs A B C : List Nat) : Prop := (32 ∉ cs ∧ A = cs ∧ B = []) ∨ (cs = A ++ 32 :: C ∧ 32 ∉ A ∧ B = [32])
theorem par_spec : ∀ (cs acc : List Nat), (TL.par [32] acc cs = none ∧ 32 ∉ cs) ∨ ∃ p q, TL.par [32] acc cs = some (acc ++ p, q) ∧ cs = p ++ 32 :: q ∧ 32 ∉ p
  | [], acc => .inl ⟨rfl, fun h => nomatch h⟩
  | c :: r, acc => by
    by_cases z : c = 32
    · subst z
      exact .inr ⟨[], r, by rw [TL.par_hit (show TL.pre [32] (32 :: r) = true from TL.pre_self [32] r)]; simp, rfl, fun h => nomatch h⟩
    · have hm := TL.par_miss (acc := acc) (TL.pre_of_head [] r z)
      rcases par_spec r (acc ++ [c]) with ⟨h1, h2⟩ | ⟨p, q, h1, h2, h3⟩
      · refine .inl ⟨by rw [hm]; exact h1, fun h => ?_⟩
        rcases List.mem_cons.mp h with h | h
        · exact z h.symm
        · exact h2 h
      · refine .inr ⟨c :: p, q, by rw [hm, h1, List.append_assoc]; rfl, by rw [h2]; rfl, fun h => ?_⟩
        rcases List.mem_cons.mp h with h | h
        · exact z h.symm
        · exact h3 h
theorem part_of (cs : List Nat) : ∃ A B C, PartOf cs A B C ∧ Txt.partition (S cs) (Str.ofString " ") = (S A, S B, S C) := by
  have hb : Str.ofString " " = S [32] := by rw [← S_tl (Str.ofString " "), blank_L]
  rw [hb]
  rcases par_spec cs [] with ⟨h1, h2⟩ | ⟨p, q, h1, h2, h3⟩
  · exact ⟨cs, [], [], .inl ⟨h2, rfl, rfl⟩, SX.partition_none (by decide) h1⟩
  · exact ⟨p, [32], q, .inr ⟨h2, h3, rfl⟩, SX.partition_some (by decide) h1⟩
theorem PartOf.yes {cs A B C : List Nat} (h : PartOf cs A B C) (h1 : A = [114, 111, 119]) (h2 : B ≠ []) : cs.take 4 = rowW ∧ C = cs.drop 4 := by
  rcases h with ⟨_, _, hb⟩ | ⟨h, _, _⟩
  · exact absurd hb h2
  · subst h1
    subst h
    exact ⟨rfl, rfl⟩
theorem PartOf.no {cs A B C : List Nat} (h : PartOf cs A B C) (k : cs.take 4 = rowW) : A = [114, 111, 119] ∧ B ≠ [] := by
  have hc : cs = [114, 111, 119] ++ 32 :: cs.drop 4 := by
    have := List.take_append_drop 4 cs
    rw [k] at this
    exact this.symm
  rcases h with ⟨h, _, _⟩ | ⟨h, ha, hb⟩
  · refine absurd ?_ h
    rw [hc]
    simp
  · refine ⟨?_, by rw [hb]; decide⟩
    rw [h] at hc
    match A, ha, hc with
    | [], _, hc => injection hc with h1; exact absurd h1 (by decide)
    | [a], _, hc => injection hc with h1 h2; injection h2 with h2; exact absurd h2 (by decide)
    | [a, b], _, hc => injection hc with h1 h2; injection h2 with h2 h3; injection h3 with h3; exact absurd h3 (by decide)
    | [a, b, c], _, hc => injection hc with h1 h2; injection h2 with h2 h3; injection h3 with h3 h4; rw [h1, h2, h3]
    | a :: b :: c :: d :: r, ha, hc =>
      injection hc with h1 h2; injection h2 with h2 h3; injection h3 with h3 h4; injection h4 with h4 h5
      exact absurd (show 32 ∈ a :: b :: c :: d :: r by rw [h4]; simp) ha
theorem row_L : (Str.ofString "row").cps.toList = [114, 111, 119] := by rw [Str.ofString_eq_toList]; rfl
theorem empty_L : (Str.ofString "").cps.toList = [] := by rw [Str.ofString_eq_toList]; rfl
theorem Dsk.made {C CL CR : Addr} {L : Addr → Prop} {o lo pc x pc2 : Addr} {H H2 H3 H4 : Hp} {ns ms : List Int} {hs : List (List Int)} (d : Dsk C CL CR L o lo pc H ns hs) (s : Same H H2) (v3 : Liv CL CR (fun b => H2 b ≠ none) x pc2 H3 ms []) (s3 : Same H2 H3)
    (nx : H2 x = none) (npc : H2 pc2 = none) (b4 : But o H3 H4) (e4 : ∃ dx, H4 o = some (.ins C dx [("live", .ref x)])) (hb : ∀ n ∈ ms, n.natAbs < 10 ^ 30) (hl : ms.length ≤ 400) : Dsk C CL CR L o x pc2 H4 ms [] ∧ DFr o lo pc x pc2 H H4 := by
  obtain ⟨cs, lv, bk⟩ := d.liv
  have live : ∀ b, (L b ∨ b = o) → H2 b ≠ none := fun b l z => by
    obtain ⟨v, e⟩ := lv.live b l
    rw [s _ _ e] at z
    cases z
  obtain ⟨dx, e⟩ := e4
  have v4 : Liv CL CR (fun b => L b ∨ b = o) x pc2 H4 ms [] := (v3.sub live).but (.inr rfl) b4 e
  refine ⟨⟨⟨dx, e⟩, ⟨[], v4, .nil⟩, d.off, hb, fun r hr => (nomatch hr), hl⟩, fun b v h1 h2 h3 hv => ?_⟩
  have hb2 := s _ _ hv
  exact ⟨b4 _ _ h1 (s3 _ _ hb2), (fun z => by rw [z, nx] at hb2; cases hb2), (fun z => by rw [z, npc] at hb2; cases hb2)⟩
theorem dval_lt : ∀ (n : Nat) (l : List Nat), l.length = n → (∀ c ∈ l, 48 ≤ c ∧ c ≤ 57) → NumText.digitsVal l < 10 ^ n
  | 0, l, h, _ => by
    rw [List.length_eq_zero_iff.mp h]
    decide
  | n + 1, l, h, hl => by
    have hne : l ≠ [] := fun z => by rw [z] at h; cases h
    have h1 := dval_lt n l.dropLast (by rw [List.length_dropLast]; omega) fun c hc => hl c ((List.dropLast_sublist l).subset hc)
    have h2 := hl _ (List.getLast_mem hne)
    rw [← List.dropLast_concat_getLast hne, NumText.digitsVal_snoc, Nat.pow_succ]
    omega
theorem wok_bd {cs : List Nat} (h : WOk cs) : (wVal cs).natAbs < 10 ^ 30 := by
  have h1 := h.1.2
  have h3 := h.2.1
  have key : ∀ l : List Nat, (∀ c ∈ l, 48 ≤ c ∧ c ≤ 57) → NumText.digitsVal l < 10 ^ l.length := fun l hl => dval_lt _ l rfl hl
  have h4 := key _ h3
  have h5 : 10 ^ (figsC cs).length ≤ 10 ^ 30 := Nat.pow_le_pow_right (by decide) h1
  unfold wVal
  split <;> omega
theorem rval_bd {cs : List Nat} (h : RowOk cs) : ∀ n ∈ rVal cs, n.natAbs < 10 ^ 30 := fun n hn => by
  unfold rVal at hn
  split at hn
  · exact nomatch hn
  · rename_i z
    obtain ⟨w, hw, rfl⟩ := List.mem_map.mp hn
    exact wok_bd (h.elim (fun k => absurd k z) (fun k => k w hw))
theorem wn_cases (w : List Nat) : (wn w = 3 ∧ ∃ k, k < 4 ∧ S w = headS k ∧ ix3 w = k) ∨ (wn w = 2 ∧ ∃ k, k < 5 ∧ S w = headT k ∧ ix2 w = k) ∨ wn w = 0 := by
  unfold wn ix3 ix2
  generalize S w = z
  by_cases h0 : z = Str.ofString "unlike"
  · subst h0; exact .inl ⟨by decide, 0, by decide, rfl, by decide⟩
  by_cases h1 : z = Str.ofString "firsts"
  · subst h1; exact .inl ⟨by decide, 1, by decide, rfl, by decide⟩
  by_cases h2 : z = Str.ofString "change"
  · subst h2; exact .inl ⟨by decide, 2, by decide, rfl, by decide⟩
  by_cases h3 : z = Str.ofString "put"
  · subst h3; exact .inl ⟨by decide, 3, by decide, rfl, by decide⟩
  by_cases h4 : z = Str.ofString "take"
  · subst h4; exact .inr (.inl ⟨by decide, 0, by decide, rfl, by decide⟩)
  by_cases h5 : z = Str.ofString "most"
  · subst h5; exact .inr (.inl ⟨by decide, 3, by decide, rfl, by decide⟩)
  by_cases h6 : z = Str.ofString "least"
  · subst h6; exact .inr (.inl ⟨by decide, 4, by decide, rfl, by decide⟩)
  by_cases h7 : z = Str.ofString "count"
  · subst h7; exact .inr (.inl ⟨by decide, 1, by decide, rfl, by decide⟩)
  by_cases h8 : z = Str.ofString "part"
  · subst h8; exact .inr (.inl ⟨by decide, 2, by decide, rfl, by decide⟩)
  refine .inr (.inr ?_)
  have e : ∀ s : Str, z ≠ s → (z == s) = false := fun s h => by simpa using h
  unfold tabW
  simp only [List.lookup_cons, e _ h0, e _ h1, e _ h2, e _ h3, e _ h4, e _ h5, e _ h6, e _ h7, e _ h8]
  rfl
theorem dout_same {W : Nat → Addr} {C CL CR : Addr} {L : Addr → Prop} {o lo pc : Addr} {H H1 : Hp} {ns : List Int} {hs : List (List Int)} {Q : VK} {E : XK} {a : DAns} (h : DOut W C CL CR L o lo pc H ns hs Q E a) (s : Same H H1) : DOut W C CL CR L o lo pc H1 ns hs Q E a := by
  cases a with
  | bad k => exact fun H' d f => h H' d ((Fr.same s).trans f)
  | ok t ns' hs' => exact fun H' d f => h H' d ((Fr.same s).trans f)
theorem spl_pos (sep : List Nat) : ∀ (l : List Nat) (k : Nat) (acc : List Nat), TL.spl sep k acc l ≠ []
  | [], k, acc => by rw [TL.spl_nil]; exact List.cons_ne_nil _ _
  | c :: r, 0, acc => by
    cases q : TL.pre sep (c :: r) with
    | true => rw [TL.spl_hit q]; exact List.cons_ne_nil _ _
    | false => rw [TL.spl_miss q]; exact spl_pos sep r 0 _
  | c :: r, k + 1, acc => spl_pos sep r k acc
theorem wordsD_ne {ns : List Int} {hs : List (List Int)} {w0 : List Nat} {wr : List (List Nat)} (h : wn w0 ≠ (((w0 :: wr).length : Nat) : Int)) : wordsD ns hs (w0 :: wr) = .bad 0 := if_pos h
theorem wordsD_2 {ns : List Int} {hs : List (List Int)} {w0 w1 : List Nat} (h : wn w0 = 2) : wordsD ns hs [w0, w1] = if ¬ FOk w1 then .bad 0 else tellD ns hs (ix2 w0) (dv w1) := by
  unfold wordsD
  rw [if_neg (show ¬ wn ([w0, w1].headD []) ≠ (([w0, w1].length : Nat) : Int) from fun e => e h)]
  rfl
theorem wordsD_3 {ns : List Int} {hs : List (List Int)} {w0 w1 w2 : List Nat} (h : wn w0 = 3) : wordsD ns hs [w0, w1, w2] = if ¬ FOk w1 then .bad 0 else if 2 ≤ ix3 w0 then (if WOk w2 then askD ns hs (ix3 w0) (dv w1) (wVal w2) else .bad 0) else if FOk w2 then askD ns hs (ix3 w0) (dv w1) (dv w2) else .bad 0 := by
  unfold wordsD
  rw [if_neg (show ¬ wn ([w0, w1, w2].headD []) ≠ (([w0, w1, w2].length : Nat) : Int) from fun e => e h)]
  rfl
end Ur

namespace KGet
open PySem PySem.Spec PyProof.Rows L2
/-! ### D.get(text, 0), D a written dict of texts and ints -/
def kvOf (e : DictEntry) : Option (Str × Int) := match e.key, e.val with
  | .str x _, .int i _ => some (x, i)
  | _, _ => none
/-- D is such a dict, by the table tb -/
structure WTab (K : PySem.W.Frag) (w : World) (tb : List (Str × Int)) (d : Addr) : Prop where
  all : ∃ es n, K.lookup d = some ⟨.type "dict", none, .dict es n, #[]⟩ ∧ PySem.W.KeysLit w.params es.toList ∧ es.toList.map kvOf = tb.map some
  low : (d == sysModules) = false
theorem find_tab (z : Str) : ∀ {l : List DictEntry} {tb : List (Str × Int)}, l.map kvOf = tb.map some →
    (tb.lookup z = none ∧ (l.find? fun e => PySem.Value.isStrOf z e.key) = none) ∨ ∃ i t e, tb.lookup z = some i ∧ (l.find? fun e => PySem.Value.isStrOf z e.key) = some e ∧ e.val = .int i t
  | [], [], _ => .inl ⟨rfl, rfl⟩
  | [], _ :: _, h => nomatch h
  | _ :: _, [], h => nomatch h
  | e :: l, (x, i) :: tb, h => by
    rw [List.map_cons, List.map_cons] at h
    have h1 := (List.cons.inj h).1
    have h2 := (List.cons.inj h).2
    obtain ⟨hh, k, v⟩ := e
    unfold kvOf at h1
    cases k with
    | str y t =>
      cases v with
      | int j u =>
        have h3 : (y, j) = (x, i) := Option.some.inj h1
        have hy : y = x := congrArg Prod.fst h3
        have hj : j = i := congrArg Prod.snd h3
        subst hy
        subst hj
        rw [List.lookup_cons, List.find?_cons]
        show (_ ∧ (match y == z with | true => some _ | false => _) = none) ∨ _
        by_cases q : y = z
        · subst q
          refine .inr ⟨j, u, ⟨hh, .str y t, .int j u⟩, ?_, ?_, rfl⟩
          · simp
          · show (match PySem.Value.isStrOf y (.str y t) with | true => some _ | false => _) = _
            have : PySem.Value.isStrOf y (.str y t) = true := by simp [PySem.Value.isStrOf]
            rw [this]
        · have e1 : (z == y) = false := by simpa using fun k => q k.symm
          have e2 : PySem.Value.isStrOf z (.str y t) = false := by
            show (y == z) = false
            simpa using q
          have e3 : (y == z) = false := by simpa using q
          rw [e1]
          rcases find_tab z h2 with ⟨a, b⟩ | ⟨i', t', e', a, b, c⟩
          · exact .inl ⟨a, by rw [e3]; exact b⟩
          · refine .inr ⟨i', t', e', a, ?_, c⟩
            show (match PySem.Value.isStrOf z (.str y t) with | true => some _ | false => _) = _
            rw [e2]
            exact b
      | _ => cases h1
    | _ => cases h1
def tKG (tb : List (Str × Int)) (ty tx : TE) : TE := fun σ H Q => ty σ H fun y H2 => ∃ z, y = .str z ∧ tx σ H2 fun v H3 => v = .int 0 ∧ Q (.int ((tb.lookup z).getD 0)) H3
section
variable {X : Cx} {d : Addr} {x : Str} {e f : Expr} {apos cpos p : Pos} {ty tx : TE} {tb : List (Str × Int)}
theorem pe_kget (hg : Gl X x) (hm : X.mg x = some (.ref d)) (D : WTab X.K X.w tb d) (he : PE X e ty) (hf : PE X f tx) (m : M2 X (.Name x p) "get" apos e f cpos) (hdb : (x == ("__debug__" : Str)) = false := by decide) :
    PE X (.Call (.Attribute (.Name x p) "get" apos) [e, f] [] cpos) (tKG tb ty tx) := by
  refine ⟨fun pins s σ H Q I h => ?_⟩
  obtain ⟨es, n, hl, hk, ht⟩ := D.all
  refine wpAny_Call_method m.base m.few m.line PySem.F.plainAttrs_dict PySem.F.slot_dict_get PySem.F.type_dict_get (ld_glob I hg hm ?_ hdb)
  have M1 := PySem.W.mapOf_K (prog := X.prog) (w := X.w) I.kIn hl hk
  refine ⟨M1.typeIs, M1.noDict, ?_⟩
  rw [m.trees]
  refine Calls.callWith_builtin rfl (Calls.evalArgs_plain (Calls.spliced_cons (thn (he.run pins s σ H _ I h) fun u1 s1 ⟨y, H1, I1, r1, z, ez, q1⟩ =>
    Calls.spliced_cons (thn (hf.run pins s1 σ H1 _ I1 q1) fun u2 s2 ⟨v, H2, I2, r2, ev, q2⟩ => Calls.spliced_nil ?_))))
  subst ez
  subst ev
  obtain ⟨t1, e1⟩ := (show ∃ t, u1 = Value.str z t from r1)
  obtain ⟨t2, e2⟩ := (show ∃ t, u2 = Value.int 0 t from r2)
  subst e1
  subst e2
  have M2 := PySem.W.mapOf_K (prog := X.prog) (w := X.w) I2.kIn hl hk
  refine call_meetsIn PySem.F.slot_dict_get M2.typeIs PySem.F.entry_dict_get (PySem.F.args_dict_get_3 _ _ _) (meets_dict_get_default (strKind X.prog X.w) d (strKind_is X.prog X.w z t1) D.low (.int 0 t2)) ⟨_, M2, ?_⟩
  have hf : findBy PySem.Value.isStrOf es z = (es.toList.find? fun e => PySem.Value.isStrOf z e.key).map (·.val) := by
    obtain ⟨l⟩ := es
    simp [findBy]
  rcases find_tab z ht with ⟨a, b⟩ | ⟨i, t, e', a, b, c⟩
  · rw [a] at q2
    rw [hf, b]
    exact ⟨.int 0, H2, I2.tok _, ⟨t2, rfl⟩, q2⟩
  · rw [a] at q2
    rw [hf, b]
    show EP X pins σ Q e'.val _
    rw [c]
    exact ⟨.int i, H2, I2.tok _, ⟨t, rfl⟩, q2⟩
end
end KGet

namespace Ur
open PySem SX L2 PySem.Spec PyProof.Rows
/-! ### what is due of a text -/
def nameK : Nat → Str
  | 0 => Str.ofString "NoCommand"
  | 1 => Str.ofString "NoRow"
  | 2 => Str.ofString "NoWindow"
  | 3 => Str.ofString "NoPlace"
  | _ => Str.ofString ""
def tellN (n : Nat) : Nat → Int → Nat
  | 0, x => if x < (n : Int) then 4 else 3
  | 1, _ => 4
  | 2, x => if x = 0 then 0 else 4
  | _, x => if x ≤ (n : Int) then 4 else 2
def askN (n : Nat) : Nat → Int → Int → Nat
  | 0, x, y => if x ≤ y ∧ y ≤ (n : Int) then 4 else 2
  | 1, x, y => if x ≤ y ∧ y ≤ (n : Int) then 4 else 2
  | 2, x, _ => if x < (n : Int) then 4 else 3
  | _, x, _ => if x ≤ (n : Int) then 4 else 3
def dueWN (n : Nat) (ws : List (List Nat)) : Nat :=
  if wn (ws.headD []) ≠ (ws.length : Int) then 0
  else if ¬ FOk (ws.getD 1 []) then 0
  else if ws.length = 2 then tellN n (ix2 (ws.headD [])) (dv (ws.getD 1 []))
  else if 2 ≤ ix3 (ws.headD []) then (if WOk (ws.getD 2 []) then askN n (ix3 (ws.headD [])) (dv (ws.getD 1 [])) (wVal (ws.getD 2 [])) else 0)
  else if FOk (ws.getD 2 []) then askN n (ix3 (ws.headD [])) (dv (ws.getD 1 [])) (dv (ws.getD 2 [])) else 0
def dueN (n : Nat) (cs : List Nat) : Nat :=
  if cs = undoC then 4
  else if cs = showW then 4
  else if cs.take 4 = rowW then (if RowOk (cs.drop 4) then 4 else 1)
  else dueWN n (wordsC cs)
def kindA : DAns → Nat
  | .bad k => k
  | .ok _ _ _ => 4
theorem kind_ask (ns : List Int) (hs : List (List Int)) (k : Nat) (x y : Int) : kindA (askD ns hs k x y) = askN ns.length k x y := by
  match k with
  | 0 => simp only [askD, askN]; split <;> rfl
  | 1 => simp only [askD, askN]; split <;> rfl
  | 2 => simp only [askD, askN]; split <;> rfl
  | k + 3 => simp only [askD, askN]; split <;> rfl
theorem kind_tell (ns : List Int) (hs : List (List Int)) (k : Nat) (x : Int) : kindA (tellD ns hs k x) = tellN ns.length k x := by
  match k with
  | 0 => simp only [tellD, tellN]; split <;> rfl
  | 1 => rfl
  | 2 => simp only [tellD, tellN]; split <;> rfl
  | 3 => simp only [tellD, tellN]; split <;> rfl
  | k + 4 => simp only [tellD, tellN]; split <;> rfl
theorem kind_words (ns : List Int) (hs : List (List Int)) (ws : List (List Nat)) : kindA (wordsD ns hs ws) = dueWN ns.length ws := by
  unfold wordsD dueWN
  by_cases h1 : wn (ws.headD []) ≠ (ws.length : Int)
  · rw [if_pos h1, if_pos h1]; rfl
  rw [if_neg h1, if_neg h1]
  by_cases h2 : ¬ FOk (ws.getD 1 [])
  · rw [if_pos h2, if_pos h2]; rfl
  rw [if_neg h2, if_neg h2]
  by_cases h3 : ws.length = 2
  · rw [if_pos h3, if_pos h3]; exact kind_tell _ _ _ _
  rw [if_neg h3, if_neg h3]
  by_cases h4 : 2 ≤ ix3 (ws.headD [])
  · rw [if_pos h4, if_pos h4]
    by_cases h5 : WOk (ws.getD 2 [])
    · rw [if_pos h5, if_pos h5]; exact kind_ask _ _ _ _ _
    · rw [if_neg h5, if_neg h5]; rfl
  rw [if_neg h4, if_neg h4]
  by_cases h5 : FOk (ws.getD 2 [])
  · rw [if_pos h5, if_pos h5]; exact kind_ask _ _ _ _ _
  · rw [if_neg h5, if_neg h5]; rfl
theorem kind_say (ns : List Int) (hs : List (List Int)) (cs : List Nat) : kindA (sayD ns hs cs) = dueN ns.length cs := by
  unfold sayD dueN
  by_cases h1 : cs = undoC
  · rw [if_pos h1, if_pos h1]
    cases hs.getLast? <;> rfl
  rw [if_neg h1, if_neg h1]
  by_cases h2 : cs = showW
  · rw [if_pos h2, if_pos h2]; rfl
  rw [if_neg h2, if_neg h2]
  by_cases h3 : cs.take 4 = rowW
  · rw [if_pos h3, if_pos h3]
    by_cases h4 : RowOk (cs.drop 4)
    · rw [if_pos h4, if_pos h4]; rfl
    · rw [if_neg h4, if_neg h4]; rfl
  rw [if_neg h3, if_neg h3]
  exact kind_words _ _ _
theorem showC_len30 {ns : List Int} (h : ∀ n ∈ ns, n.natAbs < 10 ^ 30) : (showC ns).length ≤ 1 + ns.length * 32 := by
  unfold showC
  split
  · show 1 ≤ _
    omega
  · have := joinL_len (c := 31) (ns.map intC) fun p hp => by
      obtain ⟨n, hn, rfl⟩ := List.mem_map.mp hp
      exact intC_len (by decide) (h n hn)
    rw [List.length_map] at this
    omega
theorem show_dash {ns : List Int} (hb : ∀ n ∈ ns, n.natAbs < 10 ^ 30) (h : showC ns = [45]) : ns = [] := by
  by_cases z : ns = []
  · exact z
  · have h1 := (rowOk_show hb).2
    rw [h] at h1
    exact h1.symm
theorem dv_zero {w : List Nat} (h : FOk w) : dv w = 0 ↔ w = [48] := by
  constructor
  · intro e
    cases w with
    | nil => exact absurd h.1.1 (by decide)
    | cons c r =>
      by_cases z : c = 48
      · exact h.2.2 (by rw [z]; rfl)
      · have := h.2.1 c List.mem_cons_self
        have hp : 0 < NumText.digitsVal (c :: r) := NumText.digitsVal_pos (by omega)
        unfold dv at e
        omega
  · intro e
    rw [e]
    decide
theorem inV_strs (z : Str) (ss : List Str) : inV (.str z) (ss.map V.str) = decide (z ∈ ss) := by
  unfold inV
  rw [Bool.eq_iff_iff, decide_eq_true_eq, List.any_eq_true]
  constructor
  · rintro ⟨y, hy, e⟩
    obtain ⟨s, hs, rfl⟩ := List.mem_map.mp hy
    have e : (s == z) = true := e
    rw [← beq_iff_eq.mp e]
    exact hs
  · intro h
    refine ⟨.str z, List.mem_map.mpr ⟨z, h, rfl⟩, ?_⟩
    show (z == z) = true
    exact beq_self_eq_true z
theorem in_us (cs : List Nat) : inV (.str (S cs)) [V.str (Str.ofString "undo"), V.str (Str.ofString "show")] = decide (cs = undoC ∨ cs = showW) := by
  have := inV_strs (S cs) [Str.ofString "undo", Str.ofString "show"]
  rw [show [V.str (Str.ofString "undo"), V.str (Str.ofString "show")] = [Str.ofString "undo", Str.ofString "show"].map V.str from rfl, this]
  rw [Bool.eq_iff_iff, decide_eq_true_eq, decide_eq_true_eq]
  constructor
  · intro h
    rcases List.mem_cons.mp h with h | h
    · exact .inl ((S_eqP.mp (congrArg V.str h)).trans undo_L)
    · exact .inr ((S_eqP.mp (congrArg V.str (List.mem_singleton.mp h))).trans show_L)
  · intro h
    rcases h with rfl | rfl
    · exact List.mem_cons.mpr (.inl (V.str.inj (S_eqP.mpr undo_L.symm)))
    · exact List.mem_cons.mpr (.inr (List.mem_singleton.mpr (V.str.inj (S_eqP.mpr show_L.symm))))
theorem rowb_L : (Str.ofString "row ").cps.toList = rowW := by rw [Str.ofString_eq_toList]; rfl
theorem dueWN_ne {n : Nat} {w0 : List Nat} {wr : List (List Nat)} (h : wn w0 ≠ (((w0 :: wr).length : Nat) : Int)) : dueWN n (w0 :: wr) = 0 := if_pos h
theorem dueWN_2 {n : Nat} {w0 w1 : List Nat} (h : wn w0 = 2) : dueWN n [w0, w1] = if ¬ FOk w1 then 0 else tellN n (ix2 w0) (dv w1) := by
  unfold dueWN
  rw [if_neg (show ¬ wn ([w0, w1].headD []) ≠ (([w0, w1].length : Nat) : Int) from fun e => e h)]
  rfl
theorem dueWN_3 {n : Nat} {w0 w1 w2 : List Nat} (h : wn w0 = 3) : dueWN n [w0, w1, w2] = if ¬ FOk w1 then 0 else if 2 ≤ ix3 w0 then (if WOk w2 then askN n (ix3 w0) (dv w1) (wVal w2) else 0) else if FOk w2 then askN n (ix3 w0) (dv w1) (dv w2) else 0 := by
  unfold dueWN
  rw [if_neg (show ¬ wn ([w0, w1, w2].headD []) ≠ (([w0, w1, w2].length : Nat) : Int) from fun e => e h)]
  rfl
def heads3 : List Str := [Str.ofString "unlike", Str.ofString "firsts", Str.ofString "change", Str.ofString "put"]
def heads2 : List Str := [Str.ofString "take", Str.ofString "most", Str.ofString "least", Str.ofString "count", Str.ofString "part"]
theorem wn_zero {w : List Nat} (h : wn w = 0) : S w ∉ heads3 ∧ S w ∉ heads2 := by
  unfold wn at h
  generalize S w = z at h
  constructor
  · intro k
    simp only [heads3, List.mem_cons, List.not_mem_nil, or_false] at k
    rcases k with rfl | rfl | rfl | rfl <;> exact absurd h (by decide)
  · intro k
    simp only [heads2, List.mem_cons, List.not_mem_nil, or_false] at k
    rcases k with rfl | rfl | rfl | rfl | rfl <;> exact absurd h (by decide)
theorem sayD_undo {ns : List Int} {hs : List (List Int)} {m : List Int} : sayD ns (hs ++ [m]) undoC = .ok okC m hs := by
  unfold sayD
  rw [if_pos rfl, List.getLast?_concat, List.dropLast_concat]
theorem sayD_undo0 {ns : List Int} : sayD ns [] undoC = .ok noneC ns [] := by
  unfold sayD
  rw [if_pos rfl]
  rfl
theorem undo_S : Str.ofString "undo" = S undoC := by decide
theorem show_S : Str.ofString "show" = S showW := by decide
theorem DFr.trans {o lo pc lo1 pc1 lo2 pc2 : Addr} {H H1 H2 : Hp} (f : DFr o lo pc lo1 pc1 H H1) (g : DFr o lo1 pc1 lo2 pc2 H1 H2) : DFr o lo pc lo2 pc2 H H2 := fun b v h1 h2 h3 e => by
  obtain ⟨a1, a2, a3⟩ := f b v h1 h2 h3 e
  exact g b v h1 a2 a3 a1
theorem DFr.refl {o lo pc : Addr} {H : Hp} : DFr o lo pc lo pc H H := fun _ _ _ h2 h3 e => ⟨e, h2, h3⟩
theorem DFr.same {o lo pc lo1 pc1 : Addr} {H H1 H2 : Hp} (f : DFr o lo pc lo1 pc1 H H1) (s : Same H1 H2) : DFr o lo pc lo1 pc1 H H2 := fun b v h1 h2 h3 e => by
  obtain ⟨a1, a2, a3⟩ := f b v h1 h2 h3 e
  exact ⟨s _ _ a1, a2, a3⟩
def headsC : List Str := [Str.ofString "change", Str.ofString "put", Str.ofString "take"]
/-- how many changes can be undone behind a text that was let by -/
def chgN (m : Nat) (cs : List Nat) : Nat :=
  if cs.take 4 = rowW then 0
  else if cs = undoC then m - 1
  else if S ((wordsC cs).headD []) ∈ headsC then m + 1 else m
theorem layd_1 {ns : List Int} {x y : Int} (h0 : 0 ≤ x) (h : x < (ns.length : Int)) : (layd ns x 1 [y]).length = ns.length := by
  have := layd_len (ns := ns) (gs := [y]) (p := x) (m := 1) h0 (by decide) (by omega)
  rw [List.length_singleton] at this
  omega
/-- a text that is let by: how many rows ahead stand behind it -/
theorem chg_say {ns ms : List Int} {hs is : List (List Int)} {cs t : List Nat} (h : sayD ns hs cs = .ok t ms is) : is.length = chgN hs.length cs := by
  unfold sayD at h
  unfold chgN
  by_cases h1 : cs = undoC
  · rw [if_pos h1] at h
    rw [if_neg (by rw [h1]; decide), if_pos h1]
    rcases List.eq_nil_or_concat hs with rfl | ⟨hs', m, rfl⟩
    · injection h with _ _ h3
      rw [← h3]
      rfl
    · rw [List.concat_eq_append] at h ⊢
      rw [List.getLast?_concat, List.dropLast_concat] at h
      injection h with _ _ h3
      rw [← h3, List.length_append, List.length_singleton]
      omega
  rw [if_neg h1] at h
  by_cases h2 : cs = showW
  · rw [if_pos h2] at h
    injection h with _ _ h3
    rw [← h3, if_neg (by rw [h2]; decide), if_neg h1, if_neg (by rw [h2]; decide)]
  rw [if_neg h2] at h
  by_cases h3 : cs.take 4 = rowW
  · rw [if_pos h3] at h ⊢
    by_cases h4 : RowOk (cs.drop 4)
    · rw [if_pos h4] at h
      injection h with _ _ h5
      rw [← h5]
      rfl
    · rw [if_neg h4] at h
      cases h
  rw [if_neg h3] at h ⊢
  rw [if_neg h1]
  unfold wordsD at h
  by_cases k1 : wn ((wordsC cs).headD []) ≠ ((wordsC cs).length : Int)
  · rw [if_pos k1] at h; cases h
  rw [if_neg k1] at h
  by_cases k2 : ¬ FOk ((wordsC cs).getD 1 [])
  · rw [if_pos k2] at h; cases h
  rw [if_neg k2] at h
  have k1 : wn ((wordsC cs).headD []) = ((wordsC cs).length : Int) := Decidable.of_not_not k1
  generalize (wordsC cs).headD [] = w0 at *
  have ask : ∀ k x y, k < 4 → askD ns hs k x y = .ok t ms is → S w0 = headS k → is.length = if S w0 ∈ headsC then hs.length + 1 else hs.length := by
    intro k x y hk e hw
    rw [hw]
    have hk4 : k = 0 ∨ k = 1 ∨ k = 2 ∨ k = 3 := by omega
    rcases hk4 with rfl | rfl | rfl | rfl
    · rw [if_neg (by decide)]
      simp only [askD] at e
      split at e
      · injection e with _ _ e; rw [e]
      · cases e
    · rw [if_neg (by decide)]
      simp only [askD] at e
      split at e
      · injection e with _ _ e; rw [e]
      · cases e
    · rw [if_pos (by decide)]
      simp only [askD] at e
      split at e
      · injection e with _ _ e; rw [← e, List.length_append]; rfl
      · cases e
    · rw [if_pos (by decide)]
      simp only [askD] at e
      split at e
      · injection e with _ _ e; rw [← e, List.length_append]; rfl
      · cases e
  rcases wn_cases w0 with ⟨hn, k, hk, hs0, hix⟩ | ⟨hn, k, hk, hs0, hix⟩ | hn
  · rw [if_neg (by omega), hix] at h
    by_cases k3 : 2 ≤ k
    · rw [if_pos k3] at h
      by_cases k4 : WOk ((wordsC cs).getD 2 [])
      · rw [if_pos k4] at h; exact ask _ _ _ hk h hs0
      · rw [if_neg k4] at h; cases h
    · rw [if_neg k3] at h
      by_cases k4 : FOk ((wordsC cs).getD 2 [])
      · rw [if_pos k4] at h; exact ask _ _ _ hk h hs0
      · rw [if_neg k4] at h; cases h
  · rw [if_pos (by omega), hix] at h
    rw [hs0]
    have hk5 : k = 0 ∨ k = 1 ∨ k = 2 ∨ k = 3 ∨ k = 4 := by omega
    rcases hk5 with rfl | rfl | rfl | rfl | rfl
    · rw [if_pos (by decide)]
      simp only [tellD] at h
      split at h
      · injection h with _ _ e; rw [← e, List.length_append]; rfl
      · cases h
    · rw [if_neg (by decide)]
      simp only [tellD] at h
      injection h with _ _ e; rw [e]
    · rw [if_neg (by decide)]
      simp only [tellD] at h
      split at h
      · cases h
      · injection h with _ _ e; rw [e]
    · rw [if_neg (by decide)]
      simp only [tellD] at h
      split at h
      · injection h with _ _ e; rw [e]
      · cases h
    · rw [if_neg (by decide)]
      simp only [tellD] at h
      split at h
      · injection h with _ _ e; rw [e]
      · cases h
  · have hp : 0 < (wordsC cs).length := List.length_pos_iff.mpr (spl_pos _ _ _ _)
    omega
/-! ### small texts -/
def GT (m b : Nat) (cs : List Nat) : Prop := cs.length ≤ m ∧ (∀ c ∈ cs, c < 128) ∧ cs.count 32 ≤ b
instance (m b : Nat) (cs : List Nat) : Decidable (GT m b cs) := by unfold GT; infer_instance
theorem GT.mono {m b m' b' : Nat} {cs : List Nat} (h : GT m b cs) (h1 : m ≤ m') (h2 : b ≤ b') : GT m' b' cs := ⟨Nat.le_trans h.1 h1, h.2.1, Nat.le_trans h.2.2 h2⟩
theorem GT.app {m b m' b' : Nat} {cs ds : List Nat} (h : GT m b cs) (k : GT m' b' ds) : GT (m + m') (b + b') (cs ++ ds) := by
  refine ⟨?_, fun c hc => (List.mem_append.mp hc).elim (h.2.1 c) (k.2.1 c), ?_⟩
  · rw [List.length_append]; have := h.1; have := k.1; omega
  · rw [List.count_append]; have := h.2.2; have := k.2.2; omega
theorem GT.take {m b : Nat} {cs : List Nat} (h : GT m b cs) (i : Nat) : GT m b (cs.take i) :=
  ⟨Nat.le_trans (by rw [List.length_take]; omega) h.1, fun c hc => h.2.1 c (List.mem_of_mem_take hc), Nat.le_trans ((List.take_sublist i cs).count_le 32) h.2.2⟩
theorem GT.drop {m b : Nat} {cs : List Nat} (h : GT m b cs) (i : Nat) : GT m b (cs.drop i) :=
  ⟨Nat.le_trans (by rw [List.length_drop]; omega) h.1, fun c hc => h.2.1 c (List.mem_of_mem_drop hc), Nat.le_trans ((List.drop_sublist i cs).count_le 32) h.2.2⟩
theorem up1_32 {c : Nat} : PyProof.Rows.up1 c = 32 ↔ c = 32 := by
  unfold PyProof.Rows.up1
  constructor
  · intro h
    split at h
    · rename_i k
      omega
    · exact h
  · intro h
    rw [h]
    decide
theorem count_up : ∀ cs : List Nat, (cs.map PyProof.Rows.up1).count 32 = cs.count 32
  | [] => rfl
  | c :: r => by
    rw [List.map_cons, List.count_cons, List.count_cons, count_up r]
    by_cases h : c = 32
    · rw [h]; rfl
    · have h2 : PyProof.Rows.up1 c ≠ 32 := fun z => h (up1_32.mp z)
      simp [h, h2]
theorem spl_count : ∀ (l : List Nat) (k : Nat) (acc : List Nat), (TL.spl [32] k acc l).length ≤ l.count 32 + 1
  | [], k, acc => by rw [TL.spl_nil]; simp
  | c :: r, 0, acc => by
    by_cases z : c = 32
    · subst z
      rw [TL.spl_hit (show TL.pre [32] (32 :: r) = true from TL.pre_self [32] r), List.length_cons, List.count_cons_self]
      have := spl_count r 0 []
      show (TL.spl [32] 0 [] r).length + 1 ≤ _
      omega
    · rw [TL.spl_miss (TL.pre_of_head [] r z), List.count_cons_of_ne z]
      exact spl_count r 0 _
  | c :: r, k + 1, acc => by
    have := spl_count r k acc
    have h2 : r.count 32 ≤ (c :: r).count 32 := (List.sublist_cons_self c r).count_le 32
    show (TL.spl [32] k acc r).length ≤ _
    omega
theorem rVal_count (cs : List Nat) : (rVal cs).length ≤ cs.count 32 + 1 := by
  unfold rVal
  split
  · exact Nat.zero_le _
  · rw [List.length_map]
    exact spl_count _ _ _
def GX (m b : Nat) (x : V) : Prop := ∃ cs : List Nat, x = .str (S cs) ∧ GT m b cs
theorem GX.of {m b : Nat} {s : Str} (h : GT m b s.cps.toList) : GX m b (.str s) := ⟨s.cps.toList, by rw [S_tl], h⟩
theorem GX.at {m b : Nat} {xs : List V} (h : ∀ x ∈ xs, GX m b x) {n : Int} (h0 : 0 ≤ n) (h1 : n < xs.length) : ∃ cs : List Nat, atI xs n = some (.str (S cs)) ∧ GT m b cs := by
  rw [atI_pos h0 h1]
  have hl : n.toNat < xs.length := by omega
  rw [List.getElem?_eq_getElem hl]
  obtain ⟨cs, e, hc⟩ := h _ (List.getElem_mem hl)
  exact ⟨cs, by rw [e], hc⟩
theorem GX.cons {m b : Nat} {x : V} {xs : List V} (h : GX m b x) (k : ∀ x ∈ xs, GX m b x) : ∀ y ∈ x :: xs, GX m b y := List.forall_mem_cons.mpr ⟨h, k⟩
theorem GX.nil {m b : Nat} : ∀ y ∈ ([] : List V), GX m b y := fun y h => nomatch h
theorem GX.cat {m b : Nat} {xs ys : List V} (h : ∀ x ∈ xs, GX m b x) (k : ∀ x ∈ ys, GX m b x) : ∀ x ∈ xs ++ ys, GX m b x := fun x hx => (List.mem_append.mp hx).elim (h x) (k x)
/-- a sign so many times -/
theorem GT.rep {n : Nat} {c : Nat} {cs : List Nat} {z : Str} (e : (S cs).length = n) (k : ∀ x ∈ cs, z.cps.toList = [x]) (hz : z.cps.toList = [c]) (h1 : c < 128) (h2 : c ≠ 32) : GT n 0 cs := by
  have hx : ∀ x ∈ cs, x = c := fun x hx => by
    have := k x hx
    rw [hz] at this
    exact (List.cons.inj this).1.symm
  refine ⟨by rw [← S_len, e]; exact Nat.le_refl _, fun x h => by rw [hx x h]; exact h1, ?_⟩
  rw [Nat.le_zero, List.count_eq_zero]
  exact fun h => h2 (hx 32 h).symm
theorem cat_S (a b : List Nat) : S a ++ S b = S (a ++ b) := SX.S_cat a b
end Ur

namespace Ur
open PySem SX L2 PySem.Spec PyProof.Rows
/-! ### the desk, text by text -/
/-- the row and the rows ahead behind a text -/
def nextD (ns : List Int) (hs : List (List Int)) (cs : List Nat) : List Int × List (List Int) :=
  match sayD ns hs cs with
  | .bad _ => (ns, hs)
  | .ok _ ms is => (ms, is)
theorem nextD_of {ns ns2 : List Int} {hs hs2 : List (List Int)} {cs : List Nat} (h : match sayD ns hs cs with | .bad _ => ns2 = ns ∧ hs2 = hs | .ok _ ms is => ns2 = ms ∧ hs2 = is) : ns2 = (nextD ns hs cs).1 ∧ hs2 = (nextD ns hs cs).2 := by
  unfold nextD
  cases q : sayD ns hs cs with
  | bad k => rw [q] at h; exact h
  | ok t ms is => rw [q] at h; exact h
/-- no row is longer than so -/
def Sm (b m : Nat) (ns : List Int) (hs : List (List Int)) : Prop := ns.length ≤ b ∧ (∀ r ∈ hs, r.length ≤ b) ∧ hs.length ≤ m
theorem Sm.up {b m : Nat} {ns : List Int} {hs : List (List Int)} (h : Sm b m ns hs) : Sm (b + 1) (m + 1) ns hs :=
  ⟨Nat.le_succ_of_le h.1, fun r hr => Nat.le_succ_of_le (h.2.1 r hr), Nat.le_succ_of_le h.2.2⟩
theorem Sm.lay {b m : Nat} {ns ms : List Int} {hs : List (List Int)} (h : Sm b m ns hs) (k : ms.length ≤ b + 1) : Sm (b + 1) (m + 1) ms (hs ++ [ns]) := by
  refine ⟨k, fun r hr => ?_, by rw [List.length_append, List.length_singleton]; exact Nat.succ_le_succ h.2.2⟩
  rcases List.mem_append.mp hr with hr | hr
  · exact Nat.le_succ_of_le (h.2.1 r hr)
  · rw [List.mem_singleton.mp hr]; exact Nat.le_succ_of_le h.1
theorem layd_ub {ns gs : List Int} {p m : Int} (h0 : 0 ≤ m) (hp : 0 ≤ p) : (layd ns p m gs).length ≤ ns.length + gs.length := by
  unfold layd
  rw [List.length_append, List.length_append, List.length_take, List.length_drop]
  omega
theorem dv_nn (w : List Nat) : 0 ≤ dv w := Int.natCast_nonneg _
def SmA (b m : Nat) : DAns → Prop
  | .bad _ => True
  | .ok _ ms is => Sm b m ms is
theorem sm_ask {b m : Nat} {ns : List Int} {hs : List (List Int)} (h : Sm b m ns hs) (k : Nat) {x y : Int} (hx : 0 ≤ x) : SmA (b + 1) (m + 1) (askD ns hs k x y) := by
  have := h.1
  match k with
  | 0 => simp only [askD]; split; exact h.up; trivial
  | 1 => simp only [askD]; split; exact h.up; trivial
  | 2 =>
    simp only [askD]
    split
    · rename_i q
      have := layd_1 (y := y) hx q
      exact h.lay (by omega)
    · trivial
  | k + 3 =>
    simp only [askD]
    split
    · have := layd_ub (ns := ns) (gs := [y]) (m := 0) (by decide) hx
      rw [List.length_singleton] at this
      exact h.lay (by omega)
    · trivial
theorem sm_tell {b m : Nat} {ns : List Int} {hs : List (List Int)} (h : Sm b m ns hs) (k : Nat) {x : Int} (hx : 0 ≤ x) : SmA (b + 1) (m + 1) (tellD ns hs k x) := by
  have := h.1
  match k with
  | 0 =>
    simp only [tellD]
    split
    · have := layd_ub (ns := ns) (gs := []) (m := 1) (by decide) hx
      rw [List.length_nil] at this
      exact h.lay (by omega)
    · trivial
  | 1 => exact h.up
  | 2 => simp only [tellD]; split; trivial; exact h.up
  | 3 => simp only [tellD]; split; exact h.up; trivial
  | k + 4 => simp only [tellD]; split; exact h.up; trivial
theorem sm_say {b m : Nat} {ns : List Int} {hs : List (List Int)} (h : Sm b m ns hs) {cs : List Nat} (hr : (rVal (cs.drop 4)).length ≤ b + 1) : SmA (b + 1) (m + 1) (sayD ns hs cs) := by
  unfold sayD
  split
  · rcases List.eq_nil_or_concat hs with rfl | ⟨hs', r, rfl⟩
    · exact h.up
    · rw [List.concat_eq_append] at h ⊢
      rw [List.getLast?_concat, List.dropLast_concat]
      refine ⟨Nat.le_succ_of_le (h.2.1 r (List.mem_append_right _ (List.mem_singleton.mpr rfl))), fun q hq => Nat.le_succ_of_le (h.2.1 q (List.mem_append_left _ hq)), ?_⟩
      have := h.2.2
      rw [List.length_append, List.length_singleton] at this
      omega
  split
  · exact h.up
  split
  · split
    · exact ⟨hr, fun r hr => (nomatch hr), Nat.zero_le _⟩
    · trivial
  unfold wordsD
  split
  · trivial
  split
  · trivial
  split
  · exact sm_tell h _ (dv_nn _)
  split
  · split
    · exact sm_ask h _ (dv_nn _)
    · trivial
  split
  · exact sm_ask h _ (dv_nn _)
  · trivial
theorem sm_next {b m : Nat} {ns : List Int} {hs : List (List Int)} (h : Sm b m ns hs) {cs : List Nat} (hr : (rVal (cs.drop 4)).length ≤ b + 1) : Sm (b + 1) (m + 1) (nextD ns hs cs).1 (nextD ns hs cs).2 := by
  have k := sm_say h hr
  unfold nextD
  cases q : sayD ns hs cs with
  | bad j => exact h.up
  | ok t ms is => rw [q] at k; exact k
/-- the desk behind many texts -/
def manyD : List Int × List (List Int) → List (List Nat) → List Int × List (List Int)
  | s, [] => s
  | s, c :: r => manyD (nextD s.1 s.2 c) r
theorem manyD_app : ∀ (s : List Int × List (List Int)) (a b : List (List Nat)), manyD s (a ++ b) = manyD (manyD s a) b
  | s, [], b => rfl
  | s, c :: r, b => manyD_app (nextD s.1 s.2 c) r b
theorem manyD_take {s : List Int × List (List Int)} {cs : List (List Nat)} {i : Nat} {c : List Nat} (h : cs[i]? = some c) : manyD s (cs.take (i + 1)) = nextD (manyD s (cs.take i)).1 (manyD s (cs.take i)).2 c := by
  rw [List.take_add_one, h, manyD_app]
  rfl
theorem say_le {ns : List Int} {hs : List (List Int)} {cs : List Nat} {j : Nat} (h : sayD ns hs cs = .bad j) : j ≤ 3 := by
  have ask : ∀ i x y j, askD ns hs i x y = .bad j → j ≤ 3 := fun i x y j e => by
    match i with
    | 0 => simp only [askD] at e; split at e <;> (cases e; try decide)
    | 1 => simp only [askD] at e; split at e <;> (cases e; try decide)
    | 2 => simp only [askD] at e; split at e <;> (cases e; try decide)
    | i + 3 => simp only [askD] at e; split at e <;> (cases e; try decide)
  have tell : ∀ i x j, tellD ns hs i x = .bad j → j ≤ 3 := fun i x j e => by
    match i with
    | 0 => simp only [tellD] at e; split at e <;> (cases e; try decide)
    | 1 => simp only [tellD] at e; cases e
    | 2 => simp only [tellD] at e; split at e <;> (cases e; try decide)
    | 3 => simp only [tellD] at e; split at e <;> (cases e; try decide)
    | i + 4 => simp only [tellD] at e; split at e <;> (cases e; try decide)
  unfold sayD at h
  split at h
  · cases q : hs.getLast? with
    | none => rw [q] at h; cases h
    | some m => rw [q] at h; cases h
  split at h
  · cases h
  split at h
  · split at h
    · cases h
    · cases h; decide
  unfold wordsD at h
  split at h
  · cases h; decide
  split at h
  · cases h; decide
  split at h
  · exact tell _ _ _ h
  split at h
  · split at h
    · exact ask _ _ _ _ h
    · cases h; decide
  split at h
  · exact ask _ _ _ _ h
  · cases h; decide
theorem chg_next {ns : List Int} {hs : List (List Int)} {cs : List Nat} (h : dueN ns.length cs = 4) : (nextD ns hs cs).2.length = chgN hs.length cs := by
  have k := kind_say ns hs cs
  unfold nextD
  cases q : sayD ns hs cs with
  | bad j =>
    rw [q] at k
    have hj : j = 4 := k.trans h
    have := q
    exact absurd hj (Nat.ne_of_lt (Nat.lt_succ_of_le (say_le q)))
  | ok t ms is => exact chg_say q
theorem keep_next {ns : List Int} {hs : List (List Int)} {cs : List Nat} (h : dueN ns.length cs ≠ 4) : nextD ns hs cs = (ns, hs) := by
  have k := kind_say ns hs cs
  unfold nextD
  cases q : sayD ns hs cs with
  | bad j => rfl
  | ok t ms is =>
    rw [q] at k
    exact absurd k.symm h
end Ur

section WalkWords
local macro_rules | `(tactic| kct_strs) => `(tactic| first
  | (with_reducible assumption)
  | ((with_reducible show (_ : Option L2.HO) = some _); fin_run)
  | ((with_reducible show L2.SqL _ _ _ _); first
    | ((with_reducible apply Ur.sqlK); (focus (with_reducible assumption)); (focus (first | (with_reducible rfl) | rfl)))
    | ((with_reducible apply L2.SqL.of); kct_strs)
    | ((with_reducible apply L2.Same.seq); (focus (with_reducible assumption)); kct_strs)
    | ((with_reducible apply Ur.sql_new); (focus (with_reducible assumption)); kct_strs)
    | ((with_reducible apply Ur.sql_upd); (focus kcj_m); kct_strs))
  | ((with_reducible show L2.SqT _ _ _ _); (with_reducible apply L2.SqT.of); kct_strs))
local macro_rules | `(tactic| fin_run) => `(tactic| first
  | (with_reducible exact Ur.upd_snoc)
  | (with_reducible exact Ur.upd_cutto (by omega))
  | (with_reducible exact Ur.upd_cutmid (by omega) (by omega))
  | (with_reducible exact Ur.upd_cutfrom (by omega))
  | (with_reducible exact Ur.upd_cutall)
  | (with_reducible exact Ur.upd_set)
  | (with_reducible exact Ur.upd_app)
  | (with_reducible exact Ur.upd_rep)
  | (with_reducible exact Ur.upd_rep0)
  | (with_reducible exact Ur.upd_1cat)
  | (with_reducible exact L2.upd_same)
  | ((with_reducible apply Ur.dead_upd); exact L2.upd_same)
  | ((fail_if_success (with_reducible apply Ur.dead_upd)); (with_reducible apply Ur.get_upd); (focus kcj_m); kct_strs)
  | ((with_reducible apply Ur.same_get); (focus (with_reducible assumption)); kct_strs)
  | ((with_reducible apply Ur.but_get); (focus (with_reducible assumption)); (focus kcj_m); kct_strs))
local macro_rules | `(tactic| kcj_m) => `(tactic| ((with_reducible show _ ≠ _); (fail_if_success (with_reducible apply Ur.dead_ne)); first
  | (with_reducible assumption)
  | (with_reducible exact Ne.symm (by assumption))
  | ((with_reducible apply Ur.ne_new); (focus (with_reducible assumption)); kct_strs)
  | ((with_reducible apply Ur.ne_new'); (focus (with_reducible assumption)); kct_strs)
  | (refine L2.ne_of (by assumption) (by kct_strs) (by intro q; cases q))))
local macro_rules | `(tactic| tb_rel) => `(tactic| first
  | ((with_reducible show (_ : Option L2.HO) = Option.some _); kct_strs)
  | ((with_reducible show _ = _); k_upd)
  | (with_reducible assumption)
  | ((with_reducible show List.length (L2.putF _ _ _) < _); first | exact Ur.pf1 | exact Ur.pf2 | exact Ur.pf3)
  | ((with_reducible show List.length (Ur.livF _ _ _) < _); exact Ur.pfL)
  | ((with_reducible show List.length (L2.putF _ _ (Ur.livF _ _ _)) < _); exact Ur.pfM)
  | ((with_reducible show L2.SqL _ _ _ _); kct_strs)
  | ((with_reducible show ∃ xs, L2.SqL _ _ _ xs); exact ⟨_, by kct_strs⟩)
  | ((with_reducible show L2.SqT _ _ _ _); kct_strs)
  | ((with_reducible show ∃ xs, L2.SqT _ _ _ xs); exact ⟨_, by kct_strs⟩)
  | ((with_reducible show _ ≠ _); kcj_m)
  | ((with_reducible show L2.Same _ _); kcj_in)
  | k_updF)
local macro_rules | `(tactic| k_upd) => `(tactic| first
  | ((with_reducible show List.lookup _ _ = _); first | exact Ur.rdy_many | exact Ur.rdy_lasts | exact Ur.rdy_nexts | exact Ur.rdy_no (by decide) (by decide) (by decide) | exact Ur.hld_times | exact Ur.hld_no (by decide) | exact Ur.liv_numbers | exact Ur.liv_changes | exact Ur.liv_made | exact Ur.liv_no (by decide) (by decide) (by decide))
  | ((fail_if_success (with_reducible show (_ : Option L2.HO) = _)); exact rfl)
  | (with_reducible assumption)
  | k_updF)
local macro_rules | `(tactic| k_updF) => `(tactic| first
  | ((with_reducible show Ur.IsW _ _ _); first | (with_reducible assumption) | exact Ur.IsW.int | exact Ur.IsW.bl | exact Ur.IsW.str | exact Ur.IsW.non | exact Ur.IsW.lst (by kct_strs) | exact Ur.IsW.tup (by kct_strs) | exact Ur.IsW.dct (by kct_strs))
  | ((with_reducible show Ur.Kind _ _); first | (with_reducible assumption) | exact Ur.Kind.int | exact Ur.Kind.bl | exact Ur.Kind.str | exact Ur.Kind.non | ((with_reducible apply Ur.Kind.same); (focus (with_reducible assumption)); kcj_in) | exact Ur.Kind.lst (by kct_strs) | exact Ur.Kind.tup (by kct_strs) | exact Ur.Kind.dct (by kct_strs))
  | ((with_reducible show Ur.But _ _ _); cc_are)
  | ((with_reducible show (_ : Option L2.HO) = Option.none); cc_off)
  | ((fail_if_success (with_reducible show (_ : Option L2.HO) = _)); k_memK))
local macro_rules | `(tactic| k_memK) => `(tactic| first
  | (intros; omega)
  | assumption
  | exact Ur.at_int' (by omega) (by omega)
  | exact Ur.at_int' (by dsimp only; omega) (by dsimp only; omega)
  | exact Ur.ixN_iv (by omega) (by omega)
  | exact Ur.at2 (by omega) (by omega)
  | exact Ur.at3 (by omega) (by omega)
  | exact Ur.at4 (by omega) (by omega)
  | exact Ur.at6 (by omega) (by omega)
  | ((with_reducible show L2.IsD _ _); exact Ur.isD_of (by kct_strs))
  | ((with_reducible show L2.tyV _ _ _ _); exact Ur.tyL (by kct_strs))
  | ((with_reducible show L2.DGet _ _ _ _); exact Ur.dget_int (by kct_strs))
  | ((with_reducible show L2.DPut _ _ _ _ _); exact Ur.dput_int (by kct_strs) (Ur.szl (by omega)))
  | ((with_reducible show _ ∨ _); first | exact Or.inl (by kct_strs) | exact Or.inr (by kct_strs) | exact Or.inl ⟨by omega, by omega⟩ | exact Or.inr ⟨by omega, by omega⟩ | exact Or.inr ⟨by decide, by decide⟩ | exact Or.inl ⟨by decide, by decide⟩)
  | ((with_reducible show _ ∧ _); first | exact ⟨by omega, by omega⟩ | exact ⟨by decide, by decide⟩ | exact ⟨by decide, by decide, by decide⟩)
  | exact Ur.sz (by (try simp only [List.length_append, List.length_map, List.length_cons, List.length_nil, List.length_take, List.length_drop, List.length_range, List.length_replicate, List.length_set, List.length_reverse]); omega)
  | exact Ur.szl (by (try simp only [List.length_append, List.length_map, List.length_cons, List.length_nil, List.length_take, List.length_drop, List.length_range, List.length_replicate, List.length_set, List.length_reverse]); omega)
  | (apply Ur.szT; (focus (repeat (first | (apply Nat.add_le_add) | (apply Ur.lb_map) | (apply Ur.lb_filter) | (apply Ur.lb_app) | (apply Ur.lb_cons) | exact Ur.lb_nil | exact Ur.lb_range | exact Nat.le_refl _))); omega)
  | (apply Ur.szlT; (focus (repeat (first | (apply Nat.add_le_add) | (apply Ur.lb_map) | (apply Ur.lb_filter) | (apply Ur.lb_app) | (apply Ur.lb_cons) | exact Ur.lb_nil | exact Ur.lb_range | exact Nat.le_refl _))); omega)
  | ((with_reducible show List.length _ ≤ _); (first | (rw [List.length_take, List.length_drop]; omega) | (rw [List.length_take]; omega) | (rw [List.length_drop]; omega) | (rw [List.length_reverse]; omega)))
  | ((with_reducible show L2.RgOk _ _); exact L2.RgOk.of_le (by omega) (by omega) (by omega) (by omega))
  | exact Nat.succ_pos _
  | exact Ur.pos_app
  | exact ⟨by omega, by omega⟩
  | exact Or.inl ⟨by omega, by omega⟩
  | exact Or.inr ⟨by omega, by omega⟩
  | exact Or.inr ⟨by decide, by decide⟩
  | exact Or.inl ⟨by decide, by decide⟩
  | exact ⟨by decide, by decide⟩
  | exact ⟨by decide, by decide, by decide⟩
  | decide)
local macro_rules | `(tactic| tb_start) => `(tactic| repeat (first
  | ((with_reducible show _ ∧ _); refine And.intro ?_ ?_; (first | (focus tb_rel) | rotate_left 1))
  | (with_reducible refine Ur.tCi ?_)
  | (with_reducible refine Ur.tNilI ?_)
  | (with_reducible refine L2.iteF ?_)
  | (with_reducible refine L2.iteT ?_)
  | (with_reducible refine Ur.neg_same ?_)
  | (with_reducible refine Ur.pos_same ?_)
  | ((with_reducible apply Ur.isiK); (focus (first | exact Ur.tyx_int | exact Ur.tyx_bl | exact Ur.tyx_non | exact Ur.tyx_str | exact Ur.tyx_lst (by kct_strs) | exact Ur.tyx_tup (by kct_strs) | exact Ur.tyx_dK (by kct_strs))); (focus (first | exact Ur.kb_int_int | exact Ur.kb_int_bool | exact Ur.kb_int_str | exact Ur.kb_int_list | exact Ur.kb_int_tuple | exact Ur.kb_int_dict | exact Ur.kb_bool_int | exact Ur.kb_bool_bool | exact Ur.kb_bool_str | exact Ur.kb_bool_list | exact Ur.kb_bool_tuple | exact Ur.kb_bool_dict | exact Ur.kb_str_int | exact Ur.kb_str_bool | exact Ur.kb_str_str | exact Ur.kb_str_list | exact Ur.kb_str_tuple | exact Ur.kb_str_dict | exact Ur.kb_NoneType_int | exact Ur.kb_NoneType_bool | exact Ur.kb_NoneType_str | exact Ur.kb_NoneType_list | exact Ur.kb_NoneType_tuple | exact Ur.kb_NoneType_dict | exact Ur.kb_list_int | exact Ur.kb_list_bool | exact Ur.kb_list_str | exact Ur.kb_list_list | exact Ur.kb_list_tuple | exact Ur.kb_list_dict | exact Ur.kb_tuple_int | exact Ur.kb_tuple_bool | exact Ur.kb_tuple_str | exact Ur.kb_tuple_list | exact Ur.kb_tuple_tuple | exact Ur.kb_tuple_dict | exact Ur.kb_dict_int | exact Ur.kb_dict_bool | exact Ur.kb_dict_str | exact Ur.kb_dict_list | exact Ur.kb_dict_tuple | exact Ur.kb_dict_dict)))
  | ((with_reducible apply Ur.isiK); (focus (with_reducible assumption)); (focus (with_reducible assumption)))
  | ((with_reducible apply Ur.isK1); (focus kct_strs); (focus (with_reducible assumption)); (focus (with_reducible assumption)))
  | ((with_reducible apply Ur.isKT); (focus kct_strs); (focus (with_reducible assumption)); (focus (with_reducible assumption)))
  | ((with_reducible apply Ur.isK2); (focus kct_strs); (focus (with_reducible assumption)); (focus (with_reducible assumption)); (focus kct_strs); (focus rfl))
  | (with_reducible refine Ur.isN_ref ?_)
  | ((with_reducible apply Ur.isX1); (focus (with_reducible assumption)); (focus (with_reducible assumption)))
  | ((with_reducible apply Ur.isXT); (focus (with_reducible assumption)); (focus (with_reducible assumption)))
  | ((with_reducible apply Ur.isX2); (focus (with_reducible assumption)); (focus (with_reducible assumption)); (focus kct_strs); (focus rfl))
  | ((with_reducible apply Ur.rEq_kinds); (focus kct_strs); (focus kct_strs))
  | ((with_reducible apply Ur.len_ints); (focus kct_strs))
  | ((with_reducible apply Ur.len_refs); (focus kct_strs))
  | ((with_reducible apply Ur.in_int); (focus kct_strs))
  | ((with_reducible apply Ur.notin_int); (focus kct_strs))
  | ((with_reducible apply Ur.setd_int); (focus kct_strs))
  | ((with_reducible apply Ur.repr_pair); (focus kct_strs))
  | ((with_reducible apply Ur.pop1_int); (focus kct_strs); (focus assumption))
  | ((with_reducible apply Ur.index_int); (focus kct_strs))
  | ((with_reducible apply Ur.rEq_intsN); (focus kct_strs); (focus kct_strs))
  | ((with_reducible apply Ur.rNe_intsN); (focus kct_strs); (focus kct_strs))
  | ((with_reducible apply Ur.rEq_ints); (focus kct_strs); (focus kct_strs))
  | ((with_reducible apply Ur.rNe_ints); (focus kct_strs); (focus kct_strs))
  | (with_reducible refine Ur.noN ?_)
  | (with_reducible refine Ur.noNn ?_)
  | ((with_reducible refine Ur.brT ?_ ?_); (focus omega))
  | ((with_reducible refine Ur.brF ?_ ?_); (focus omega))
  | ((with_reducible refine Ur.brnT ?_ ?_); (focus omega))
  | ((with_reducible refine Ur.brnF ?_ ?_); (focus omega))
  | (refine And.intro ?_ ?_; (first | (focus tb_rel) | rotate_left 1))
  | refine Or.inl ⟨_, rfl, ?_⟩
  | refine Or.inr ⟨_, rfl, ?_⟩
  | ((fail_if_success (with_reducible show L2.rEqD _ _ _ _ _)); (fail_if_success (with_reducible show L2.rNeD _ _ _ _ _)); (fail_if_success (with_reducible show Ur.rRepr _ _ _ _)); (fail_if_success (with_reducible show Ur.rEqL _ _ _ _ _ _)); (fail_if_success (refine Ur.isWN ?_)); (fail_if_success (refine Ur.isW4 ?_)); apply Exists.intro)))
local macro_rules | `(tactic| kqd_all) => `(tactic| repeat (first
  | ((with_reducible show _ ∧ _); refine And.intro ?_ ?_; (first | (focus tb_rel) | rotate_left 1))
  | (with_reducible refine Ur.tCi ?_)
  | (with_reducible refine Ur.tNilI ?_)
  | (with_reducible refine L2.iteF ?_)
  | (with_reducible refine L2.iteT ?_)
  | (with_reducible refine Ur.neg_same ?_)
  | (with_reducible refine Ur.pos_same ?_)
  | ((with_reducible apply Ur.isiK); (focus (first | exact Ur.tyx_int | exact Ur.tyx_bl | exact Ur.tyx_non | exact Ur.tyx_str | exact Ur.tyx_lst (by kct_strs) | exact Ur.tyx_tup (by kct_strs) | exact Ur.tyx_dK (by kct_strs))); (focus (first | exact Ur.kb_int_int | exact Ur.kb_int_bool | exact Ur.kb_int_str | exact Ur.kb_int_list | exact Ur.kb_int_tuple | exact Ur.kb_int_dict | exact Ur.kb_bool_int | exact Ur.kb_bool_bool | exact Ur.kb_bool_str | exact Ur.kb_bool_list | exact Ur.kb_bool_tuple | exact Ur.kb_bool_dict | exact Ur.kb_str_int | exact Ur.kb_str_bool | exact Ur.kb_str_str | exact Ur.kb_str_list | exact Ur.kb_str_tuple | exact Ur.kb_str_dict | exact Ur.kb_NoneType_int | exact Ur.kb_NoneType_bool | exact Ur.kb_NoneType_str | exact Ur.kb_NoneType_list | exact Ur.kb_NoneType_tuple | exact Ur.kb_NoneType_dict | exact Ur.kb_list_int | exact Ur.kb_list_bool | exact Ur.kb_list_str | exact Ur.kb_list_list | exact Ur.kb_list_tuple | exact Ur.kb_list_dict | exact Ur.kb_tuple_int | exact Ur.kb_tuple_bool | exact Ur.kb_tuple_str | exact Ur.kb_tuple_list | exact Ur.kb_tuple_tuple | exact Ur.kb_tuple_dict | exact Ur.kb_dict_int | exact Ur.kb_dict_bool | exact Ur.kb_dict_str | exact Ur.kb_dict_list | exact Ur.kb_dict_tuple | exact Ur.kb_dict_dict)))
  | ((with_reducible apply Ur.isiK); (focus (with_reducible assumption)); (focus (with_reducible assumption)))
  | ((with_reducible apply Ur.isK1); (focus kct_strs); (focus (with_reducible assumption)); (focus (with_reducible assumption)))
  | ((with_reducible apply Ur.isKT); (focus kct_strs); (focus (with_reducible assumption)); (focus (with_reducible assumption)))
  | ((with_reducible apply Ur.isK2); (focus kct_strs); (focus (with_reducible assumption)); (focus (with_reducible assumption)); (focus kct_strs); (focus rfl))
  | (with_reducible refine Ur.isN_ref ?_)
  | ((with_reducible apply Ur.isX1); (focus (with_reducible assumption)); (focus (with_reducible assumption)))
  | ((with_reducible apply Ur.isXT); (focus (with_reducible assumption)); (focus (with_reducible assumption)))
  | ((with_reducible apply Ur.isX2); (focus (with_reducible assumption)); (focus (with_reducible assumption)); (focus kct_strs); (focus rfl))
  | ((with_reducible apply Ur.rEq_kinds); (focus kct_strs); (focus kct_strs))
  | ((with_reducible apply Ur.len_ints); (focus kct_strs))
  | ((with_reducible apply Ur.len_refs); (focus kct_strs))
  | ((with_reducible apply Ur.in_int); (focus kct_strs))
  | ((with_reducible apply Ur.notin_int); (focus kct_strs))
  | ((with_reducible apply Ur.setd_int); (focus kct_strs))
  | ((with_reducible apply Ur.repr_pair); (focus kct_strs))
  | ((with_reducible apply Ur.pop1_int); (focus kct_strs); (focus assumption))
  | ((with_reducible apply Ur.index_int); (focus kct_strs))
  | ((with_reducible apply Ur.rEq_intsN); (focus kct_strs); (focus kct_strs))
  | ((with_reducible apply Ur.rNe_intsN); (focus kct_strs); (focus kct_strs))
  | ((with_reducible apply Ur.rEq_ints); (focus kct_strs); (focus kct_strs))
  | ((with_reducible apply Ur.rNe_ints); (focus kct_strs); (focus kct_strs))
  | (with_reducible refine Ur.noN ?_)
  | (with_reducible refine Ur.noNn ?_)
  | ((with_reducible refine Ur.brT ?_ ?_); (focus omega))
  | ((with_reducible refine Ur.brF ?_ ?_); (focus omega))
  | ((with_reducible refine Ur.brnT ?_ ?_); (focus omega))
  | ((with_reducible refine Ur.brnF ?_ ?_); (focus omega))
  | (refine And.intro ?_ ?_; (first | (focus tb_rel) | rotate_left 1))
  | refine Or.inl ⟨_, rfl, ?_⟩
  | refine Or.inr ⟨_, rfl, ?_⟩
  | ((fail_if_success (with_reducible show L2.rEqD _ _ _ _ _)); (fail_if_success (with_reducible show L2.rNeD _ _ _ _ _)); (fail_if_success (with_reducible show Ur.rRepr _ _ _ _)); (fail_if_success (with_reducible show Ur.rEqL _ _ _ _ _ _)); (fail_if_success (refine Ur.isWN ?_)); (fail_if_success (refine Ur.isW4 ?_)); apply Exists.intro)
  | intro _))
local macro_rules | `(tactic| kcj_in) => `(tactic| first
  | (with_reducible exact L2.Same.refl _)
  | (with_reducible assumption)
  | ((with_reducible apply Ur.same_snoc); (focus (with_reducible assumption)); kcj_in)
  | ((with_reducible apply Ur.same_upd'); (focus cc_off); kcj_in)
  | ((with_reducible apply Ur.same_step); (focus (with_reducible assumption)); kcj_in)
  | ((with_reducible apply Ur.same_pairs); (focus (with_reducible assumption)); kcj_in)
  | ((with_reducible apply Ur.same_but); (focus (with_reducible assumption)); (focus cc_off); kcj_in))
local macro_rules | `(tactic| cc_off) => `(tactic| first
  | (with_reducible assumption)
  | ((with_reducible apply Ur.same_free); (focus (with_reducible assumption)); kcj_in)
  | ((with_reducible apply Ur.but_free); (focus (with_reducible assumption)); (focus cc_are); kct_strs))
local macro_rules | `(tactic| cc_are) => `(tactic| first
  | (with_reducible exact Ur.but_refl)
  | (with_reducible assumption)
  | ((with_reducible apply Ur.but_at); cc_are)
  | ((with_reducible apply Ur.but_snoc); (focus (with_reducible assumption)); cc_are)
  | ((with_reducible apply Ur.but_upd); (focus cc_off); cc_are)
  | ((with_reducible apply Ur.but_step); (focus (with_reducible assumption)); cc_are)
  | ((with_reducible apply Ur.but_step'); (focus (with_reducible assumption)); cc_are))
local macro_rules | `(tactic| kqd_in) => `(tactic| (kqd_all; try ((first | refine Ur.bri (fun _ => ?_) (fun _ => ?_) | refine Ur.brni (fun _ => ?_) (fun _ => ?_) | refine Ur.br (fun _ => ?_) (fun _ => ?_) | refine Ur.brn (fun _ => ?_) (fun _ => ?_) | refine Ur.brb (fun _ => ?_) (fun _ => ?_)) <;> kqd_in)))
namespace Ur
open PySem L2
def top (i : Nat) : Stmt := PySem.Challenge.pw_unlikerow_k60_words_refused.main.body.getD i (.Pass ⟨0, 0, 0, 0⟩)
abbrev s_Live___init__ : Stmt := inClass (top 16) 0
theorem sc_Live___init__ : FnScope ["self", "row"] ["self", "row"] (defScope s_Live___init__) := ⟨rfl, rfl, rfl, by decide +kernel, rfl, by decide +kernel, by decide +kernel⟩
abbrev s_Desk___init__ : Stmt := inClass (top 43) 0
theorem sc_Desk___init__ : FnScope ["self"] ["self"] (defScope s_Desk___init__) := ⟨rfl, rfl, rfl, by decide +kernel, rfl, by decide +kernel, by decide +kernel⟩
abbrev s_Live_need_place : Stmt := inClass (top 16) 1
theorem sc_Live_need_place : FnScope ["self", "place", "most"] ["self", "place", "most"] (defScope s_Live_need_place) := ⟨rfl, rfl, rfl, by decide +kernel, rfl, by decide +kernel, by decide +kernel⟩
abbrev s_Live_laid : Stmt := inClass (top 16) 2
theorem sc_Live_laid : FnScope ["self", "place", "many", "numbers", "gone"] ["self", "place", "many", "numbers"] (defScope s_Live_laid) := ⟨rfl, rfl, rfl, by decide +kernel, rfl, by decide +kernel, by decide +kernel⟩
abbrev s_Live_noted : Stmt := inClass (top 16) 3
theorem sc_Live_noted : FnScope ["self", "place", "many", "numbers", "gone"] ["self", "place", "many", "numbers"] (defScope s_Live_noted) := ⟨rfl, rfl, rfl, by decide +kernel, rfl, by decide +kernel, by decide +kernel⟩
abbrev s_Live_change : Stmt := inClass (top 16) 4
theorem sc_Live_change : FnScope ["self", "place", "number"] ["self", "place", "number"] (defScope s_Live_change) := ⟨rfl, rfl, rfl, by decide +kernel, rfl, by decide +kernel, by decide +kernel⟩
abbrev s_last_places : Stmt := top 11
theorem sc_last_places : FnScope ["row", "met", "found", "place", "number"] ["row"] (defScope s_last_places) := ⟨rfl, rfl, rfl, by decide +kernel, rfl, by decide +kernel, by decide +kernel⟩
abbrev s_next_places : Stmt := top 12
theorem sc_next_places : FnScope ["row", "found", "place", "last"] ["row"] (defScope s_next_places) := ⟨rfl, rfl, rfl, by decide +kernel, rfl, by decide +kernel, by decide +kernel⟩
abbrev s_Ready___init__ : Stmt := inClass (top 14) 0
theorem sc_Ready___init__ : FnScope ["self", "row"] ["self", "row"] (defScope s_Ready___init__) := ⟨rfl, rfl, rfl, by decide +kernel, rfl, by decide +kernel, by decide +kernel⟩
abbrev s_Live_ready : Stmt := inClass (top 16) 9
theorem sc_Live_ready : FnScope ["self"] ["self"] (defScope s_Live_ready) := ⟨rfl, rfl, rfl, by decide +kernel, rfl, by decide +kernel, by decide +kernel⟩
abbrev s_is_whole : Stmt := top 10
theorem sc_is_whole : FnScope ["thing"] ["thing"] (defScope s_is_whole) := ⟨rfl, rfl, rfl, by decide +kernel, rfl, by decide +kernel, by decide +kernel⟩
abbrev s_Ready_need_place : Stmt := inClass (top 14) 1
theorem sc_Ready_need_place : FnScope ["self", "place"] ["self", "place"] (defScope s_Ready_need_place) := ⟨rfl, rfl, rfl, by decide +kernel, rfl, by decide +kernel, by decide +kernel⟩
abbrev s_Ready_need_window : Stmt := inClass (top 14) 2
theorem sc_Ready_need_window : FnScope ["self", "first", "behind"] ["self", "first", "behind"] (defScope s_Ready_need_window) := ⟨rfl, rfl, rfl, by decide +kernel, rfl, by decide +kernel, by decide +kernel⟩
abbrev s_Ready_firsts : Stmt := inClass (top 14) 4
theorem sc_Ready_firsts : FnScope ["self", "first", "behind", "place"] ["self", "first", "behind"] (defScope s_Ready_firsts) := ⟨rfl, rfl, rfl, by decide +kernel, rfl, by decide +kernel, by decide +kernel⟩
abbrev s_Live_firsts : Stmt := inClass (top 16) 11
theorem sc_Live_firsts : FnScope ["self", "first", "behind"] ["self", "first", "behind"] (defScope s_Live_firsts) := ⟨rfl, rfl, rfl, by decide +kernel, rfl, by decide +kernel, by decide +kernel⟩
abbrev s_Live_put : Stmt := inClass (top 16) 5
theorem sc_Live_put : FnScope ["self", "place", "number"] ["self", "place", "number"] (defScope s_Live_put) := ⟨rfl, rfl, rfl, by decide +kernel, rfl, by decide +kernel, by decide +kernel⟩
abbrev s_Ready_unlike : Stmt := inClass (top 14) 3
theorem sc_Ready_unlike : FnScope ["self", "first", "behind", "last"] ["self", "first", "behind"] (defScope s_Ready_unlike) := ⟨rfl, rfl, rfl, by decide +kernel, rfl, by decide +kernel, by decide +kernel⟩
abbrev s_Live_unlike : Stmt := inClass (top 16) 10
theorem sc_Live_unlike : FnScope ["self", "first", "behind"] ["self", "first", "behind"] (defScope s_Live_unlike) := ⟨rfl, rfl, rfl, by decide +kernel, rfl, by decide +kernel, by decide +kernel⟩
abbrev s_show_row : Stmt := top 20
theorem sc_show_row : FnScope ["row", "number"] ["row"] (defScope s_show_row) := ⟨rfl, rfl, rfl, by decide +kernel, rfl, by decide +kernel, by decide +kernel⟩
abbrev s_Desk_asked : Stmt := inClass (top 43) 1
theorem sc_Desk_asked : FnScope ["self", "head", "one", "other"] ["self", "head", "one", "other"] (defScope s_Desk_asked) := ⟨rfl, rfl, rfl, by decide +kernel, rfl, by decide +kernel, by decide +kernel⟩
abbrev s_Live_row : Stmt := inClass (top 16) 8
theorem sc_Live_row : FnScope ["self"] ["self"] (defScope s_Live_row) := ⟨rfl, rfl, rfl, by decide +kernel, rfl, by decide +kernel, by decide +kernel⟩
abbrev s_Live_take : Stmt := inClass (top 16) 6
theorem sc_Live_take : FnScope ["self", "place"] ["self", "place"] (defScope s_Live_take) := ⟨rfl, rfl, rfl, by decide +kernel, rfl, by decide +kernel, by decide +kernel⟩
abbrev s_fewest : Stmt := top 24
theorem sc_fewest : FnScope ["row", "many", "found", "known", "place", "number"] ["row", "many"] (defScope s_fewest) := ⟨rfl, rfl, rfl, by decide +kernel, rfl, by decide +kernel, by decide +kernel⟩
abbrev s_Held___init__ : Stmt := inClass (top 26) 0
theorem sc_Held___init__ : FnScope ["self"] ["self"] (defScope s_Held___init__) := ⟨rfl, rfl, rfl, by decide +kernel, rfl, by decide +kernel, by decide +kernel⟩
abbrev s_Held_come : Stmt := inClass (top 26) 1
theorem sc_Held_come : FnScope ["self", "number"] ["self", "number"] (defScope s_Held_come) := ⟨rfl, rfl, rfl, by decide +kernel, rfl, by decide +kernel, by decide +kernel⟩
abbrev s_Held_gone : Stmt := inClass (top 26) 2
theorem sc_Held_gone : FnScope ["self", "number"] ["self", "number"] (defScope s_Held_gone) := ⟨rfl, rfl, rfl, by decide +kernel, rfl, by decide +kernel, by decide +kernel⟩
abbrev s_Held_unlike : Stmt := inClass (top 26) 3
theorem sc_Held_unlike : FnScope ["self"] ["self"] (defScope s_Held_unlike) := ⟨rfl, rfl, rfl, by decide +kernel, rfl, by decide +kernel, by decide +kernel⟩
abbrev s_ends_by : Stmt := top 27
theorem sc_ends_by : FnScope ["row", "many", "held", "behind", "found", "number"] ["row", "many"] (defScope s_ends_by) := ⟨rfl, rfl, rfl, by decide +kernel, rfl, by decide +kernel, by decide +kernel⟩
abbrev s_ends_within : Stmt := top 28
theorem sc_ends_within : FnScope ["row", "many", "end"] ["row", "many"] (defScope s_ends_within) := ⟨rfl, rfl, rfl, by decide +kernel, rfl, by decide +kernel, by decide +kernel⟩
abbrev s_stretches : Stmt := top 29
theorem sc_stretches : FnScope ["row", "many", "found", "lasts", "first", "least"] ["row", "many"] (defScope s_stretches) := ⟨rfl, rfl, rfl, by decide +kernel, rfl, by decide +kernel, by decide +kernel⟩
abbrev s_how_many : Stmt := top 30
theorem sc_how_many : FnScope ["row", "many", "first", "least", "last"] ["row", "many"] (defScope s_how_many) := ⟨rfl, rfl, rfl, by decide +kernel, rfl, by decide +kernel, by decide +kernel⟩
abbrev s_need_width : Stmt := top 32
theorem sc_need_width : FnScope ["row", "width"] ["row", "width"] (defScope s_need_width) := ⟨rfl, rfl, rfl, by decide +kernel, rfl, by decide +kernel, by decide +kernel⟩
abbrev s_slid : Stmt := top 33
theorem sc_slid : FnScope ["lasts", "nexts", "width", "number", "found", "first", "gone", "come", "last"] ["lasts", "nexts", "width"] (defScope s_slid) := ⟨rfl, rfl, rfl, by decide +kernel, rfl, by decide +kernel, by decide +kernel⟩
abbrev s_of_width : Stmt := top 34
theorem sc_of_width : FnScope ["row", "width"] ["row", "width"] (defScope s_of_width) := ⟨rfl, rfl, rfl, by decide +kernel, rfl, by decide +kernel, by decide +kernel⟩
abbrev s_least_of : Stmt := top 36
theorem sc_least_of : FnScope ["row", "width", "numbers", "least"] ["row", "width"] (defScope s_least_of) := ⟨rfl, rfl, rfl, by decide +kernel, rfl, by decide +kernel, by decide +kernel⟩
abbrev s_most_of : Stmt := top 35
theorem sc_most_of : FnScope ["row", "width", "numbers", "most"] ["row", "width"] (defScope s_most_of) := ⟨rfl, rfl, rfl, by decide +kernel, rfl, by decide +kernel, by decide +kernel⟩
abbrev s_Desk_told : Stmt := inClass (top 43) 2
theorem sc_Desk_told : FnScope ["self", "head", "one", "row", "found", "number"] ["self", "head", "one"] (defScope s_Desk_told) := ⟨rfl, rfl, rfl, by decide +kernel, rfl, by decide +kernel, by decide +kernel⟩
abbrev s_Live_undo : Stmt := inClass (top 16) 7
theorem sc_Live_undo : FnScope ["self", "place", "many", "numbers"] ["self"] (defScope s_Live_undo) := ⟨rfl, rfl, rfl, by decide +kernel, rfl, by decide +kernel, by decide +kernel⟩
abbrev s_figures_in : Stmt := top 41
theorem sc_figures_in : FnScope ["word", "figure"] ["word"] (defScope s_figures_in) := ⟨rfl, rfl, rfl, by decide +kernel, rfl, by decide +kernel, by decide +kernel⟩
abbrev s_read_number : Stmt := top 21
theorem sc_read_number : FnScope ["word", "figures", "figure"] ["word"] (defScope s_read_number) := ⟨rfl, rfl, rfl, by decide +kernel, rfl, by decide +kernel, by decide +kernel⟩
abbrev s_number_in : Stmt := top 42
theorem sc_number_in : FnScope ["word", "number"] ["word"] (defScope s_number_in) := ⟨rfl, rfl, rfl, by decide +kernel, rfl, by decide +kernel, by decide +kernel⟩
abbrev s_read_row : Stmt := top 22
theorem sc_read_row : FnScope ["text", "word"] ["text"] (defScope s_read_row) := ⟨rfl, rfl, rfl, by decide +kernel, rfl, by decide +kernel, by decide +kernel⟩
abbrev s_Desk_say : Stmt := inClass (top 43) 3
theorem sc_Desk_say : FnScope ["self", "words", "head", "blank", "rest", "parts", "one"] ["self", "words"] (defScope s_Desk_say) := ⟨rfl, rfl, rfl, by decide +kernel, rfl, by decide +kernel, by decide +kernel⟩
abbrev s__law_changes : Stmt := top 59
theorem sc__law_changes : FnScope ["many", "words"] ["many", "words"] (defScope s__law_changes) := ⟨rfl, rfl, rfl, by decide +kernel, rfl, by decide +kernel, by decide +kernel⟩
abbrev s__law_is_number : Stmt := top 53
theorem sc__law_is_number : FnScope ["word", "figures", "figure"] ["word"] (defScope s__law_is_number) := ⟨rfl, rfl, rfl, by decide +kernel, rfl, by decide +kernel, by decide +kernel⟩
abbrev s__law_is_place : Stmt := top 52
theorem sc__law_is_place : FnScope ["word", "figure"] ["word"] (defScope s__law_is_place) := ⟨rfl, rfl, rfl, by decide +kernel, rfl, by decide +kernel, by decide +kernel⟩
abbrev s__law_one_due : Stmt := top 55
theorem sc__law_one_due : FnScope ["head", "one", "size"] ["head", "one", "size"] (defScope s__law_one_due) := ⟨rfl, rfl, rfl, by decide +kernel, rfl, by decide +kernel, by decide +kernel⟩
abbrev s__law_two_due : Stmt := top 54
theorem sc__law_two_due : FnScope ["head", "one", "other", "size"] ["head", "one", "other", "size"] (defScope s__law_two_due) := ⟨rfl, rfl, rfl, by decide +kernel, rfl, by decide +kernel, by decide +kernel⟩
abbrev s__law_due : Stmt := top 56
theorem sc__law_due : FnScope ["words", "size", "text", "good", "parts", "word"] ["words", "size"] (defScope s__law_due) := ⟨rfl, rfl, rfl, by decide +kernel, rfl, by decide +kernel, by decide +kernel⟩
abbrev s__law_met : Stmt := top 57
theorem sc__law_met : FnScope ["desk", "words", "due", "answer", "kinds", "other", "e", "some", "word"] ["desk", "words", "due"] (defScope s__law_met) := ⟨rfl, rfl, rfl, by decide +kernel, rfl, by decide +kernel, by decide +kernel⟩
abbrev s__law_size : Stmt := top 58
theorem sc__law_size : FnScope ["shown"] ["shown"] (defScope s__law_size) := ⟨rfl, rfl, rfl, by decide +kernel, rfl, by decide +kernel, by decide +kernel⟩
abbrev s__law_things_right : Stmt := top 61
theorem sc__law_things_right : FnScope ["desk", "words", "thing"] [] (defScope s__law_things_right) := ⟨rfl, rfl, rfl, by decide +kernel, rfl, by decide +kernel, by decide +kernel⟩
abbrev s__law_undone : Stmt := top 60
theorem sc__law_undone : FnScope ["desk", "many", "k"] ["desk", "many"] (defScope s__law_undone) := ⟨rfl, rfl, rfl, by decide +kernel, rfl, by decide +kernel, by decide +kernel⟩
abbrev s__law_deck : Stmt := top 47
theorem sc__law_deck : FnScope ["cell", "k"] ["cell", "k"] (defScope s__law_deck) := ⟨rfl, rfl, rfl, by decide +kernel, rfl, by decide +kernel, by decide +kernel⟩
abbrev s__law_take : Stmt := top 46
theorem sc__law_take : FnScope ["deck", "many", "come", "number"] ["deck", "many"] (defScope s__law_take) := ⟨rfl, rfl, rfl, by decide +kernel, rfl, by decide +kernel, by decide +kernel⟩
abbrev s__law_figure : Stmt := top 49
theorem sc__law_figure : FnScope ["deck", "some"] ["deck"] (defScope s__law_figure) := ⟨rfl, rfl, rfl, by decide +kernel, rfl, by decide +kernel, by decide +kernel⟩
abbrev s__law_place : Stmt := top 48
theorem sc__law_place : FnScope ["deck", "some"] ["deck"] (defScope s__law_place) := ⟨rfl, rfl, rfl, by decide +kernel, rfl, by decide +kernel, by decide +kernel⟩
abbrev s__law_text : Stmt := top 50
theorem sc__law_text : FnScope ["deck", "some"] ["deck"] (defScope s__law_text) := ⟨rfl, rfl, rfl, by decide +kernel, rfl, by decide +kernel, by decide +kernel⟩
abbrev s__law_words : Stmt := top 51
theorem sc__law_words : FnScope ["cell", "deck", "way", "words", "heads", "odd", "at", "sign"] ["cell"] (defScope s__law_words) := ⟨rfl, rfl, rfl, by decide +kernel, rfl, by decide +kernel, by decide +kernel⟩
abbrev s_law : Stmt := top 62
theorem sc_law : FnScope ["script", "desk", "many", "cell", "words", "early", "due"] ["script"] (defScope s_law) := ⟨rfl, rfl, rfl, by decide +kernel, rfl, by decide +kernel, by decide +kernel⟩
def tab_WORDS : List (Str × Int) := [("unlike", 3), ("firsts", 3), ("change", 3), ("put", 3), ("take", 2), ("most", 2), ("least", 2), ("count", 2), ("part", 2)]
/-- where the defs and classes stand -/
structure Adr where
  f_Live___init__ : Addr
  d_Live___init__ : FuncData
  f_Desk___init__ : Addr
  d_Desk___init__ : FuncData
  f_Live_need_place : Addr
  d_Live_need_place : FuncData
  f_Live_laid : Addr
  d_Live_laid : FuncData
  f_Live_noted : Addr
  d_Live_noted : FuncData
  f_Live_change : Addr
  d_Live_change : FuncData
  f_last_places : Addr
  d_last_places : FuncData
  f_next_places : Addr
  d_next_places : FuncData
  f_Ready___init__ : Addr
  d_Ready___init__ : FuncData
  f_Live_ready : Addr
  d_Live_ready : FuncData
  f_is_whole : Addr
  d_is_whole : FuncData
  f_Ready_need_place : Addr
  d_Ready_need_place : FuncData
  f_Ready_need_window : Addr
  d_Ready_need_window : FuncData
  f_Ready_firsts : Addr
  d_Ready_firsts : FuncData
  f_Live_firsts : Addr
  d_Live_firsts : FuncData
  f_Live_put : Addr
  d_Live_put : FuncData
  f_Ready_unlike : Addr
  d_Ready_unlike : FuncData
  f_Live_unlike : Addr
  d_Live_unlike : FuncData
  f_show_row : Addr
  d_show_row : FuncData
  f_Desk_asked : Addr
  d_Desk_asked : FuncData
  f_Live_row : Addr
  d_Live_row : FuncData
  f_Live_take : Addr
  d_Live_take : FuncData
  f_fewest : Addr
  d_fewest : FuncData
  f_Held___init__ : Addr
  d_Held___init__ : FuncData
  f_Held_come : Addr
  d_Held_come : FuncData
  f_Held_gone : Addr
  d_Held_gone : FuncData
  f_Held_unlike : Addr
  d_Held_unlike : FuncData
  f_ends_by : Addr
  d_ends_by : FuncData
  f_ends_within : Addr
  d_ends_within : FuncData
  f_stretches : Addr
  d_stretches : FuncData
  f_how_many : Addr
  d_how_many : FuncData
  f_need_width : Addr
  d_need_width : FuncData
  f_slid : Addr
  d_slid : FuncData
  f_of_width : Addr
  d_of_width : FuncData
  f_least_of : Addr
  d_least_of : FuncData
  f_most_of : Addr
  d_most_of : FuncData
  f_Desk_told : Addr
  d_Desk_told : FuncData
  f_Live_undo : Addr
  d_Live_undo : FuncData
  f_figures_in : Addr
  d_figures_in : FuncData
  f_read_number : Addr
  d_read_number : FuncData
  f_number_in : Addr
  d_number_in : FuncData
  f_read_row : Addr
  d_read_row : FuncData
  f_Desk_say : Addr
  d_Desk_say : FuncData
  f__law_changes : Addr
  d__law_changes : FuncData
  f__law_is_number : Addr
  d__law_is_number : FuncData
  f__law_is_place : Addr
  d__law_is_place : FuncData
  f__law_one_due : Addr
  d__law_one_due : FuncData
  f__law_two_due : Addr
  d__law_two_due : FuncData
  f__law_due : Addr
  d__law_due : FuncData
  f__law_met : Addr
  d__law_met : FuncData
  f__law_size : Addr
  d__law_size : FuncData
  f__law_things_right : Addr
  d__law_things_right : FuncData
  f__law_undone : Addr
  d__law_undone : FuncData
  f__law_deck : Addr
  d__law_deck : FuncData
  f__law_take : Addr
  d__law_take : FuncData
  f__law_figure : Addr
  d__law_figure : FuncData
  f__law_place : Addr
  d__law_place : FuncData
  f__law_text : Addr
  d__law_text : FuncData
  f__law_words : Addr
  d__law_words : FuncData
  f_law : Addr
  d_law : FuncData
  c_Live : Addr
  c_Desk : Addr
  c_NoPlace : Addr
  c_Ready : Addr
  c_NoWindow : Addr
  c_Held : Addr
  c_NoCommand : Addr
  c_NoRow : Addr
  c_RowError : Addr
  c_NoNeeds : Addr
  c_NoTable : Addr
structure Txt (w : World) (K : PySem.W.Frag) (mg : Str → Option Value) (A : Adr) : Prop where
  F_Live___init__ : Fun K "__init__" "Live.__init__" s_Live___init__ A.f_Live___init__ A.d_Live___init__
  b_Live___init__ : Binds K A.d_Live___init__ ["self", "row"] []
  M_Live : Mk K A.c_Live A.f_Live___init__
  F_Desk___init__ : Fun K "__init__" "Desk.__init__" s_Desk___init__ A.f_Desk___init__ A.d_Desk___init__
  b_Desk___init__ : Binds K A.d_Desk___init__ ["self"] []
  M_Desk : Mk K A.c_Desk A.f_Desk___init__
  F_Live_need_place : Fun K "need_place" "Live.need_place" s_Live_need_place A.f_Live_need_place A.d_Live_need_place
  b_Live_need_place : Binds K A.d_Live_need_place ["self", "place", "most"] []
  M_Live_need_place : Meth K A.c_Live "need_place" A.f_Live_need_place
  F_Live_laid : Fun K "laid" "Live.laid" s_Live_laid A.f_Live_laid A.d_Live_laid
  b_Live_laid : Binds K A.d_Live_laid ["self", "place", "many", "numbers"] []
  M_Live_laid : Meth K A.c_Live "laid" A.f_Live_laid
  F_Live_noted : Fun K "noted" "Live.noted" s_Live_noted A.f_Live_noted A.d_Live_noted
  b_Live_noted : Binds K A.d_Live_noted ["self", "place", "many", "numbers"] []
  M_Live_noted : Meth K A.c_Live "noted" A.f_Live_noted
  F_Live_change : Fun K "change" "Live.change" s_Live_change A.f_Live_change A.d_Live_change
  b_Live_change : Binds K A.d_Live_change ["self", "place", "number"] []
  M_Live_change : Meth K A.c_Live "change" A.f_Live_change
  F_last_places : Fun K "last_places" "last_places" s_last_places A.f_last_places A.d_last_places
  b_last_places : Binds K A.d_last_places ["row"] []
  g_last_places : mg "last_places" = some (.ref A.f_last_places)
  F_next_places : Fun K "next_places" "next_places" s_next_places A.f_next_places A.d_next_places
  b_next_places : Binds K A.d_next_places ["row"] []
  g_next_places : mg "next_places" = some (.ref A.f_next_places)
  F_Ready___init__ : Fun K "__init__" "Ready.__init__" s_Ready___init__ A.f_Ready___init__ A.d_Ready___init__
  b_Ready___init__ : Binds K A.d_Ready___init__ ["self", "row"] []
  M_Ready : Mk K A.c_Ready A.f_Ready___init__
  F_Live_ready : Fun K "ready" "Live.ready" s_Live_ready A.f_Live_ready A.d_Live_ready
  b_Live_ready : Binds K A.d_Live_ready ["self"] []
  M_Live_ready : Meth K A.c_Live "ready" A.f_Live_ready
  F_is_whole : Fun K "is_whole" "is_whole" s_is_whole A.f_is_whole A.d_is_whole
  b_is_whole : Binds K A.d_is_whole ["thing"] []
  g_is_whole : mg "is_whole" = some (.ref A.f_is_whole)
  F_Ready_need_place : Fun K "need_place" "Ready.need_place" s_Ready_need_place A.f_Ready_need_place A.d_Ready_need_place
  b_Ready_need_place : Binds K A.d_Ready_need_place ["self", "place"] []
  M_Ready_need_place : Meth K A.c_Ready "need_place" A.f_Ready_need_place
  F_Ready_need_window : Fun K "need_window" "Ready.need_window" s_Ready_need_window A.f_Ready_need_window A.d_Ready_need_window
  b_Ready_need_window : Binds K A.d_Ready_need_window ["self", "first", "behind"] []
  M_Ready_need_window : Meth K A.c_Ready "need_window" A.f_Ready_need_window
  F_Ready_firsts : Fun K "firsts" "Ready.firsts" s_Ready_firsts A.f_Ready_firsts A.d_Ready_firsts
  b_Ready_firsts : Binds K A.d_Ready_firsts ["self", "first", "behind"] []
  M_Ready_firsts : Meth K A.c_Ready "firsts" A.f_Ready_firsts
  F_Live_firsts : Fun K "firsts" "Live.firsts" s_Live_firsts A.f_Live_firsts A.d_Live_firsts
  b_Live_firsts : Binds K A.d_Live_firsts ["self", "first", "behind"] []
  M_Live_firsts : Meth K A.c_Live "firsts" A.f_Live_firsts
  F_Live_put : Fun K "put" "Live.put" s_Live_put A.f_Live_put A.d_Live_put
  b_Live_put : Binds K A.d_Live_put ["self", "place", "number"] []
  M_Live_put : Meth K A.c_Live "put" A.f_Live_put
  F_Ready_unlike : Fun K "unlike" "Ready.unlike" s_Ready_unlike A.f_Ready_unlike A.d_Ready_unlike
  b_Ready_unlike : Binds K A.d_Ready_unlike ["self", "first", "behind"] []
  M_Ready_unlike : Meth K A.c_Ready "unlike" A.f_Ready_unlike
  F_Live_unlike : Fun K "unlike" "Live.unlike" s_Live_unlike A.f_Live_unlike A.d_Live_unlike
  b_Live_unlike : Binds K A.d_Live_unlike ["self", "first", "behind"] []
  M_Live_unlike : Meth K A.c_Live "unlike" A.f_Live_unlike
  F_show_row : Fun K "show_row" "show_row" s_show_row A.f_show_row A.d_show_row
  b_show_row : Binds K A.d_show_row ["row"] []
  g_show_row : mg "show_row" = some (.ref A.f_show_row)
  F_Desk_asked : Fun K "asked" "Desk.asked" s_Desk_asked A.f_Desk_asked A.d_Desk_asked
  b_Desk_asked : Binds K A.d_Desk_asked ["self", "head", "one", "other"] []
  M_Desk_asked : Meth K A.c_Desk "asked" A.f_Desk_asked
  F_Live_row : Fun K "row" "Live.row" s_Live_row A.f_Live_row A.d_Live_row
  b_Live_row : Binds K A.d_Live_row ["self"] []
  M_Live_row : Meth K A.c_Live "row" A.f_Live_row
  F_Live_take : Fun K "take" "Live.take" s_Live_take A.f_Live_take A.d_Live_take
  b_Live_take : Binds K A.d_Live_take ["self", "place"] []
  M_Live_take : Meth K A.c_Live "take" A.f_Live_take
  F_fewest : Fun K "fewest" "fewest" s_fewest A.f_fewest A.d_fewest
  b_fewest : Binds K A.d_fewest ["row", "many"] []
  g_fewest : mg "fewest" = some (.ref A.f_fewest)
  F_Held___init__ : Fun K "__init__" "Held.__init__" s_Held___init__ A.f_Held___init__ A.d_Held___init__
  b_Held___init__ : Binds K A.d_Held___init__ ["self"] []
  M_Held : Mk K A.c_Held A.f_Held___init__
  F_Held_come : Fun K "come" "Held.come" s_Held_come A.f_Held_come A.d_Held_come
  b_Held_come : Binds K A.d_Held_come ["self", "number"] []
  M_Held_come : Meth K A.c_Held "come" A.f_Held_come
  F_Held_gone : Fun K "gone" "Held.gone" s_Held_gone A.f_Held_gone A.d_Held_gone
  b_Held_gone : Binds K A.d_Held_gone ["self", "number"] []
  M_Held_gone : Meth K A.c_Held "gone" A.f_Held_gone
  F_Held_unlike : Fun K "unlike" "Held.unlike" s_Held_unlike A.f_Held_unlike A.d_Held_unlike
  b_Held_unlike : Binds K A.d_Held_unlike ["self"] []
  M_Held_unlike : Meth K A.c_Held "unlike" A.f_Held_unlike
  F_ends_by : Fun K "ends_by" "ends_by" s_ends_by A.f_ends_by A.d_ends_by
  b_ends_by : Binds K A.d_ends_by ["row", "many"] []
  g_ends_by : mg "ends_by" = some (.ref A.f_ends_by)
  F_ends_within : Fun K "ends_within" "ends_within" s_ends_within A.f_ends_within A.d_ends_within
  b_ends_within : Binds K A.d_ends_within ["row", "many"] []
  g_ends_within : mg "ends_within" = some (.ref A.f_ends_within)
  F_stretches : Fun K "stretches" "stretches" s_stretches A.f_stretches A.d_stretches
  b_stretches : Binds K A.d_stretches ["row", "many"] []
  g_stretches : mg "stretches" = some (.ref A.f_stretches)
  F_how_many : Fun K "how_many" "how_many" s_how_many A.f_how_many A.d_how_many
  b_how_many : Binds K A.d_how_many ["row", "many"] []
  g_how_many : mg "how_many" = some (.ref A.f_how_many)
  F_need_width : Fun K "need_width" "need_width" s_need_width A.f_need_width A.d_need_width
  b_need_width : Binds K A.d_need_width ["row", "width"] []
  g_need_width : mg "need_width" = some (.ref A.f_need_width)
  F_slid : Fun K "slid" "slid" s_slid A.f_slid A.d_slid
  b_slid : Binds K A.d_slid ["lasts", "nexts", "width"] []
  g_slid : mg "slid" = some (.ref A.f_slid)
  F_of_width : Fun K "of_width" "of_width" s_of_width A.f_of_width A.d_of_width
  b_of_width : Binds K A.d_of_width ["row", "width"] []
  g_of_width : mg "of_width" = some (.ref A.f_of_width)
  F_least_of : Fun K "least_of" "least_of" s_least_of A.f_least_of A.d_least_of
  b_least_of : Binds K A.d_least_of ["row", "width"] []
  g_least_of : mg "least_of" = some (.ref A.f_least_of)
  F_most_of : Fun K "most_of" "most_of" s_most_of A.f_most_of A.d_most_of
  b_most_of : Binds K A.d_most_of ["row", "width"] []
  g_most_of : mg "most_of" = some (.ref A.f_most_of)
  F_Desk_told : Fun K "told" "Desk.told" s_Desk_told A.f_Desk_told A.d_Desk_told
  b_Desk_told : Binds K A.d_Desk_told ["self", "head", "one"] []
  M_Desk_told : Meth K A.c_Desk "told" A.f_Desk_told
  F_Live_undo : Fun K "undo" "Live.undo" s_Live_undo A.f_Live_undo A.d_Live_undo
  b_Live_undo : Binds K A.d_Live_undo ["self"] []
  M_Live_undo : Meth K A.c_Live "undo" A.f_Live_undo
  F_figures_in : Fun K "figures_in" "figures_in" s_figures_in A.f_figures_in A.d_figures_in
  b_figures_in : Binds K A.d_figures_in ["word"] []
  g_figures_in : mg "figures_in" = some (.ref A.f_figures_in)
  F_read_number : Fun K "read_number" "read_number" s_read_number A.f_read_number A.d_read_number
  b_read_number : Binds K A.d_read_number ["word"] []
  g_read_number : mg "read_number" = some (.ref A.f_read_number)
  F_number_in : Fun K "number_in" "number_in" s_number_in A.f_number_in A.d_number_in
  b_number_in : Binds K A.d_number_in ["word"] []
  g_number_in : mg "number_in" = some (.ref A.f_number_in)
  F_read_row : Fun K "read_row" "read_row" s_read_row A.f_read_row A.d_read_row
  b_read_row : Binds K A.d_read_row ["text"] []
  g_read_row : mg "read_row" = some (.ref A.f_read_row)
  F_Desk_say : Fun K "say" "Desk.say" s_Desk_say A.f_Desk_say A.d_Desk_say
  b_Desk_say : Binds K A.d_Desk_say ["self", "words"] []
  M_Desk_say : Meth K A.c_Desk "say" A.f_Desk_say
  F__law_changes : Fun K "_law_changes" "_law_changes" s__law_changes A.f__law_changes A.d__law_changes
  b__law_changes : Binds K A.d__law_changes ["many", "words"] []
  g__law_changes : mg "_law_changes" = some (.ref A.f__law_changes)
  F__law_is_number : Fun K "_law_is_number" "_law_is_number" s__law_is_number A.f__law_is_number A.d__law_is_number
  b__law_is_number : Binds K A.d__law_is_number ["word"] []
  g__law_is_number : mg "_law_is_number" = some (.ref A.f__law_is_number)
  F__law_is_place : Fun K "_law_is_place" "_law_is_place" s__law_is_place A.f__law_is_place A.d__law_is_place
  b__law_is_place : Binds K A.d__law_is_place ["word"] []
  g__law_is_place : mg "_law_is_place" = some (.ref A.f__law_is_place)
  F__law_one_due : Fun K "_law_one_due" "_law_one_due" s__law_one_due A.f__law_one_due A.d__law_one_due
  b__law_one_due : Binds K A.d__law_one_due ["head", "one", "size"] []
  g__law_one_due : mg "_law_one_due" = some (.ref A.f__law_one_due)
  F__law_two_due : Fun K "_law_two_due" "_law_two_due" s__law_two_due A.f__law_two_due A.d__law_two_due
  b__law_two_due : Binds K A.d__law_two_due ["head", "one", "other", "size"] []
  g__law_two_due : mg "_law_two_due" = some (.ref A.f__law_two_due)
  F__law_due : Fun K "_law_due" "_law_due" s__law_due A.f__law_due A.d__law_due
  b__law_due : Binds K A.d__law_due ["words", "size"] []
  g__law_due : mg "_law_due" = some (.ref A.f__law_due)
  F__law_met : Fun K "_law_met" "_law_met" s__law_met A.f__law_met A.d__law_met
  b__law_met : Binds K A.d__law_met ["desk", "words", "due"] []
  g__law_met : mg "_law_met" = some (.ref A.f__law_met)
  F__law_size : Fun K "_law_size" "_law_size" s__law_size A.f__law_size A.d__law_size
  b__law_size : Binds K A.d__law_size ["shown"] []
  g__law_size : mg "_law_size" = some (.ref A.f__law_size)
  F__law_things_right : Fun K "_law_things_right" "_law_things_right" s__law_things_right A.f__law_things_right A.d__law_things_right
  b__law_things_right : Binds K A.d__law_things_right [] []
  g__law_things_right : mg "_law_things_right" = some (.ref A.f__law_things_right)
  F__law_undone : Fun K "_law_undone" "_law_undone" s__law_undone A.f__law_undone A.d__law_undone
  b__law_undone : Binds K A.d__law_undone ["desk", "many"] []
  g__law_undone : mg "_law_undone" = some (.ref A.f__law_undone)
  F__law_deck : Fun K "_law_deck" "_law_deck" s__law_deck A.f__law_deck A.d__law_deck
  b__law_deck : Binds K A.d__law_deck ["cell", "k"] []
  g__law_deck : mg "_law_deck" = some (.ref A.f__law_deck)
  F__law_take : Fun K "_law_take" "_law_take" s__law_take A.f__law_take A.d__law_take
  b__law_take : Binds K A.d__law_take ["deck", "many"] []
  g__law_take : mg "_law_take" = some (.ref A.f__law_take)
  F__law_figure : Fun K "_law_figure" "_law_figure" s__law_figure A.f__law_figure A.d__law_figure
  b__law_figure : Binds K A.d__law_figure ["deck"] []
  g__law_figure : mg "_law_figure" = some (.ref A.f__law_figure)
  F__law_place : Fun K "_law_place" "_law_place" s__law_place A.f__law_place A.d__law_place
  b__law_place : Binds K A.d__law_place ["deck"] []
  g__law_place : mg "_law_place" = some (.ref A.f__law_place)
  F__law_text : Fun K "_law_text" "_law_text" s__law_text A.f__law_text A.d__law_text
  b__law_text : Binds K A.d__law_text ["deck"] []
  g__law_text : mg "_law_text" = some (.ref A.f__law_text)
  F__law_words : Fun K "_law_words" "_law_words" s__law_words A.f__law_words A.d__law_words
  b__law_words : Binds K A.d__law_words ["cell"] []
  g__law_words : mg "_law_words" = some (.ref A.f__law_words)
  F_law : Fun K "law" "law" s_law A.f_law A.d_law
  b_law : Binds K A.d_law ["script"] []
  g_law : mg "law" = some (.ref A.f_law)
  g_Live : mg "Live" = some (.ref A.c_Live)
  C_Live : Cls K A.c_Live
  n_Live_numbers : NoAttr K A.c_Live "numbers"
  n_Live_changes : NoAttr K A.c_Live "changes"
  n_Live_made : NoAttr K A.c_Live "made"
  g_Desk : mg "Desk" = some (.ref A.c_Desk)
  C_Desk : Cls K A.c_Desk
  n_Desk_live : NoAttr K A.c_Desk "live"
  g_NoPlace : mg "NoPlace" = some (.ref A.c_NoPlace)
  g_Ready : mg "Ready" = some (.ref A.c_Ready)
  C_Ready : Cls K A.c_Ready
  n_Ready_many : NoAttr K A.c_Ready "many"
  n_Ready_lasts : NoAttr K A.c_Ready "lasts"
  n_Ready_nexts : NoAttr K A.c_Ready "nexts"
  g_NoWindow : mg "NoWindow" = some (.ref A.c_NoWindow)
  g_Held : mg "Held" = some (.ref A.c_Held)
  C_Held : Cls K A.c_Held
  n_Held_times : NoAttr K A.c_Held "times"
  g_NoCommand : mg "NoCommand" = some (.ref A.c_NoCommand)
  g_NoRow : mg "NoRow" = some (.ref A.c_NoRow)
  g_RowError : mg "RowError" = some (.ref A.c_RowError)
  g_NoNeeds : mg "NoNeeds" = some (.ref A.c_NoNeeds)
  g_NoTable : mg "NoTable" = some (.ref A.c_NoTable)
  m_ValueError : mg "ValueError" = none
  m_all : mg "all" = none
  m_bool : mg "bool" = none
  m_enumerate : mg "enumerate" = none
  m_int : mg "int" = none
  m_isinstance : mg "isinstance" = none
  m_len : mg "len" = none
  m_list : mg "list" = none
  m_max : mg "max" = none
  m_min : mg "min" = none
  m_range : mg "range" = none
  m_str : mg "str" = none
  m_sum : mg "sum" = none
  k_FIGURES_desk : ∃ t, mg "FIGURES_desk" = some (.str (Str.ofString "0123456789") t)
  k_MOST_FIGURES_desk : ∃ t, mg "MOST_FIGURES_desk" = some (.int 6 t)
  k_MOST_FIGURES_notes : ∃ t, mg "MOST_FIGURES_notes" = some (.int 30 t)
  k_FIGURES_notes : ∃ t, mg "FIGURES_notes" = some (.str (Str.ofString "0123456789") t)
  k_WORDS : ∃ d, mg "WORDS" = some (.ref d) ∧ KGet.WTab K w tab_WORDS d
  x_NoPlace : PySem.W.excIn K A.c_NoPlace [.type "ValueError", .type "Exception", .type "BaseException", .type "object"] "ValueError.__new__" = true
  k_NoPlace : PySem.W.keepIn K (.ref A.c_NoPlace) = true
  x_NoWindow : PySem.W.excIn K A.c_NoWindow [.type "ValueError", .type "Exception", .type "BaseException", .type "object"] "ValueError.__new__" = true
  k_NoWindow : PySem.W.keepIn K (.ref A.c_NoWindow) = true
  x_NoCommand : PySem.W.excIn K A.c_NoCommand [.type "ValueError", .type "Exception", .type "BaseException", .type "object"] "ValueError.__new__" = true
  k_NoCommand : PySem.W.keepIn K (.ref A.c_NoCommand) = true
  x_NoRow : PySem.W.excIn K A.c_NoRow [.type "ValueError", .type "Exception", .type "BaseException", .type "object"] "ValueError.__new__" = true
  k_NoRow : PySem.W.keepIn K (.ref A.c_NoRow) = true
  b_NoCommand : PySem.W.subIn K (.ref A.c_NoCommand) (.type "BaseException") = some true
  t_NoCommand : PySem.W.typeIn K (.ref A.c_NoCommand) = some (.type "type")
  h_NoCommand : PySem.W.hasDictIn K A.c_NoCommand = true
  b_NoPlace : PySem.W.subIn K (.ref A.c_NoPlace) (.type "BaseException") = some true
  t_NoPlace : PySem.W.typeIn K (.ref A.c_NoPlace) = some (.type "type")
  h_NoPlace : PySem.W.hasDictIn K A.c_NoPlace = true
  b_NoRow : PySem.W.subIn K (.ref A.c_NoRow) (.type "BaseException") = some true
  t_NoRow : PySem.W.typeIn K (.ref A.c_NoRow) = some (.type "type")
  h_NoRow : PySem.W.hasDictIn K A.c_NoRow = true
  b_NoWindow : PySem.W.subIn K (.ref A.c_NoWindow) (.type "BaseException") = some true
  t_NoWindow : PySem.W.typeIn K (.ref A.c_NoWindow) = some (.type "type")
  h_NoWindow : PySem.W.hasDictIn K A.c_NoWindow = true
  b_RowError : PySem.W.subIn K (.ref A.c_RowError) (.type "BaseException") = some true
  t_RowError : PySem.W.typeIn K (.ref A.c_RowError) = some (.type "type")
  h_RowError : PySem.W.hasDictIn K A.c_RowError = true
  s_NoPlace_NoRow : PySem.W.subIn K (.ref A.c_NoPlace) (.ref A.c_NoRow) = some false
  s_NoPlace_RowError : PySem.W.subIn K (.ref A.c_NoPlace) (.ref A.c_RowError) = some true
  q_NoPlace_NoCommand : PySem.W.kitOne K (.ref A.c_NoPlace) (.ref A.c_NoCommand) = some false
  q_NoPlace_NoRow : PySem.W.kitOne K (.ref A.c_NoPlace) (.ref A.c_NoRow) = some false
  q_NoPlace_NoNeeds : PySem.W.kitOne K (.ref A.c_NoPlace) (.ref A.c_NoNeeds) = some false
  q_NoPlace_NoTable : PySem.W.kitOne K (.ref A.c_NoPlace) (.ref A.c_NoTable) = some false
  q_NoPlace_NoWindow : PySem.W.kitOne K (.ref A.c_NoPlace) (.ref A.c_NoWindow) = some false
  q_NoPlace_NoPlace : PySem.W.kitOne K (.ref A.c_NoPlace) (.ref A.c_NoPlace) = some true
  q_NoPlace_ValueError : PySem.W.kitOne K (.ref A.c_NoPlace) (.type "ValueError") = some true
  Ehg_NoPlace : PySem.W.findIn K (.ref A.c_NoPlace) "__getattribute__" = some (some (.builtin "BaseException.__getattribute__"))
  Ehk_NoPlace : PySem.W.findIn K (.ref A.c_NoPlace) "__getattr__" = some none
  Eha_NoPlace : PySem.W.findIn K (.ref A.c_NoPlace) "__class__" = some (some (.builtin "object.__class__"))
  Ehm_NoPlace : PySem.W.mroIn K A.c_NoPlace (.type "object") = some true
  s_NoWindow_NoRow : PySem.W.subIn K (.ref A.c_NoWindow) (.ref A.c_NoRow) = some false
  s_NoWindow_RowError : PySem.W.subIn K (.ref A.c_NoWindow) (.ref A.c_RowError) = some true
  q_NoWindow_NoCommand : PySem.W.kitOne K (.ref A.c_NoWindow) (.ref A.c_NoCommand) = some false
  q_NoWindow_NoRow : PySem.W.kitOne K (.ref A.c_NoWindow) (.ref A.c_NoRow) = some false
  q_NoWindow_NoNeeds : PySem.W.kitOne K (.ref A.c_NoWindow) (.ref A.c_NoNeeds) = some false
  q_NoWindow_NoTable : PySem.W.kitOne K (.ref A.c_NoWindow) (.ref A.c_NoTable) = some false
  q_NoWindow_NoWindow : PySem.W.kitOne K (.ref A.c_NoWindow) (.ref A.c_NoWindow) = some true
  q_NoWindow_NoPlace : PySem.W.kitOne K (.ref A.c_NoWindow) (.ref A.c_NoPlace) = some false
  q_NoWindow_ValueError : PySem.W.kitOne K (.ref A.c_NoWindow) (.type "ValueError") = some true
  Ehg_NoWindow : PySem.W.findIn K (.ref A.c_NoWindow) "__getattribute__" = some (some (.builtin "BaseException.__getattribute__"))
  Ehk_NoWindow : PySem.W.findIn K (.ref A.c_NoWindow) "__getattr__" = some none
  Eha_NoWindow : PySem.W.findIn K (.ref A.c_NoWindow) "__class__" = some (some (.builtin "object.__class__"))
  Ehm_NoWindow : PySem.W.mroIn K A.c_NoWindow (.type "object") = some true
  s_NoCommand_NoRow : PySem.W.subIn K (.ref A.c_NoCommand) (.ref A.c_NoRow) = some false
  s_NoCommand_RowError : PySem.W.subIn K (.ref A.c_NoCommand) (.ref A.c_RowError) = some true
  q_NoCommand_NoCommand : PySem.W.kitOne K (.ref A.c_NoCommand) (.ref A.c_NoCommand) = some true
  q_NoCommand_NoRow : PySem.W.kitOne K (.ref A.c_NoCommand) (.ref A.c_NoRow) = some false
  q_NoCommand_NoNeeds : PySem.W.kitOne K (.ref A.c_NoCommand) (.ref A.c_NoNeeds) = some false
  q_NoCommand_NoTable : PySem.W.kitOne K (.ref A.c_NoCommand) (.ref A.c_NoTable) = some false
  q_NoCommand_NoWindow : PySem.W.kitOne K (.ref A.c_NoCommand) (.ref A.c_NoWindow) = some false
  q_NoCommand_NoPlace : PySem.W.kitOne K (.ref A.c_NoCommand) (.ref A.c_NoPlace) = some false
  q_NoCommand_ValueError : PySem.W.kitOne K (.ref A.c_NoCommand) (.type "ValueError") = some true
  Ehg_NoCommand : PySem.W.findIn K (.ref A.c_NoCommand) "__getattribute__" = some (some (.builtin "BaseException.__getattribute__"))
  Ehk_NoCommand : PySem.W.findIn K (.ref A.c_NoCommand) "__getattr__" = some none
  Eha_NoCommand : PySem.W.findIn K (.ref A.c_NoCommand) "__class__" = some (some (.builtin "object.__class__"))
  Ehm_NoCommand : PySem.W.mroIn K A.c_NoCommand (.type "object") = some true
  s_NoRow_NoRow : PySem.W.subIn K (.ref A.c_NoRow) (.ref A.c_NoRow) = some true
  s_NoRow_RowError : PySem.W.subIn K (.ref A.c_NoRow) (.ref A.c_RowError) = some true
  q_NoRow_NoCommand : PySem.W.kitOne K (.ref A.c_NoRow) (.ref A.c_NoCommand) = some false
  q_NoRow_NoRow : PySem.W.kitOne K (.ref A.c_NoRow) (.ref A.c_NoRow) = some true
  q_NoRow_NoNeeds : PySem.W.kitOne K (.ref A.c_NoRow) (.ref A.c_NoNeeds) = some false
  q_NoRow_NoTable : PySem.W.kitOne K (.ref A.c_NoRow) (.ref A.c_NoTable) = some false
  q_NoRow_NoWindow : PySem.W.kitOne K (.ref A.c_NoRow) (.ref A.c_NoWindow) = some false
  q_NoRow_NoPlace : PySem.W.kitOne K (.ref A.c_NoRow) (.ref A.c_NoPlace) = some false
  q_NoRow_ValueError : PySem.W.kitOne K (.ref A.c_NoRow) (.type "ValueError") = some true
  Ehg_NoRow : PySem.W.findIn K (.ref A.c_NoRow) "__getattribute__" = some (some (.builtin "BaseException.__getattribute__"))
  Ehk_NoRow : PySem.W.findIn K (.ref A.c_NoRow) "__getattr__" = some none
  Eha_NoRow : PySem.W.findIn K (.ref A.c_NoRow) "__class__" = some (some (.builtin "object.__class__"))
  Ehm_NoRow : PySem.W.mroIn K A.c_NoRow (.type "object") = some true
  Ehn : PySem.W.specialIn K (.builtin "object.__class__") "__get__" = some (some (.builtin "getset_descriptor.__get__"))
  Eht : PySem.W.takesIn K (.builtin "object.__class__") = some true
variable {w : World} {K : PySem.W.Frag} {mg : Str → Option Value} {A : Adr}
theorem Txt.m_NoPlace_NoRow (T : Txt w K mg A) : PySem.W.exmOne K (.ref A.c_NoPlace) (.ref A.c_NoRow) = some false := PySem.W.exm_ref T.b_NoRow T.h_NoRow T.t_NoRow T.s_NoPlace_NoRow
theorem Txt.m_NoPlace_RowError (T : Txt w K mg A) : PySem.W.exmOne K (.ref A.c_NoPlace) (.ref A.c_RowError) = some true := PySem.W.exm_ref T.b_RowError T.h_RowError T.t_RowError T.s_NoPlace_RowError
theorem Txt.E_NoPlace (T : Txt w K mg A) : ExcC K A.c_NoPlace := ⟨T.Ehg_NoPlace, T.Ehk_NoPlace, T.b_NoPlace, T.h_NoPlace, T.Eha_NoPlace, T.Ehn, T.Eht, T.Ehm_NoPlace⟩
theorem Txt.m_NoWindow_NoRow (T : Txt w K mg A) : PySem.W.exmOne K (.ref A.c_NoWindow) (.ref A.c_NoRow) = some false := PySem.W.exm_ref T.b_NoRow T.h_NoRow T.t_NoRow T.s_NoWindow_NoRow
theorem Txt.m_NoWindow_RowError (T : Txt w K mg A) : PySem.W.exmOne K (.ref A.c_NoWindow) (.ref A.c_RowError) = some true := PySem.W.exm_ref T.b_RowError T.h_RowError T.t_RowError T.s_NoWindow_RowError
theorem Txt.E_NoWindow (T : Txt w K mg A) : ExcC K A.c_NoWindow := ⟨T.Ehg_NoWindow, T.Ehk_NoWindow, T.b_NoWindow, T.h_NoWindow, T.Eha_NoWindow, T.Ehn, T.Eht, T.Ehm_NoWindow⟩
theorem Txt.m_NoCommand_NoRow (T : Txt w K mg A) : PySem.W.exmOne K (.ref A.c_NoCommand) (.ref A.c_NoRow) = some false := PySem.W.exm_ref T.b_NoRow T.h_NoRow T.t_NoRow T.s_NoCommand_NoRow
theorem Txt.m_NoCommand_RowError (T : Txt w K mg A) : PySem.W.exmOne K (.ref A.c_NoCommand) (.ref A.c_RowError) = some true := PySem.W.exm_ref T.b_RowError T.h_RowError T.t_RowError T.s_NoCommand_RowError
theorem Txt.E_NoCommand (T : Txt w K mg A) : ExcC K A.c_NoCommand := ⟨T.Ehg_NoCommand, T.Ehk_NoCommand, T.b_NoCommand, T.h_NoCommand, T.Eha_NoCommand, T.Ehn, T.Eht, T.Ehm_NoCommand⟩
theorem Txt.m_NoRow_NoRow (T : Txt w K mg A) : PySem.W.exmOne K (.ref A.c_NoRow) (.ref A.c_NoRow) = some true := PySem.W.exm_ref T.b_NoRow T.h_NoRow T.t_NoRow T.s_NoRow_NoRow
theorem Txt.m_NoRow_RowError (T : Txt w K mg A) : PySem.W.exmOne K (.ref A.c_NoRow) (.ref A.c_RowError) = some true := PySem.W.exm_ref T.b_RowError T.h_RowError T.t_RowError T.s_NoRow_RowError
theorem Txt.E_NoRow (T : Txt w K mg A) : ExcC K A.c_NoRow := ⟨T.Ehg_NoRow, T.Ehk_NoRow, T.b_NoRow, T.h_NoRow, T.Eha_NoRow, T.Ehn, T.Eht, T.Ehm_NoRow⟩
end Ur
namespace Ur
open PySem L2
/-- a live row is made -/
def sp_Live___init__ (K : PySem.W.Frag) (C : Addr) : Sp := fun vs H Q _ => ∃ (o a dx : Addr) (ns : List Int), vs = [.ref o, .ref a] ∧ H o = some (.ins C dx []) ∧ H a = some (.lst (ns.map V.int)) ∧ ∀ pn pc H', H' o = some (.ins C dx (livF pn pc .non)) → H' pn = some (.lst (ns.map V.int)) → H' pc = some (.lst []) → H pn = none → H pc = none → pn ≠ pc → But o H H' → Q .non H'
section
variable {P : Program} {w : World} {K : PySem.W.Frag} {mg : Str → Option Value} {base : Heap} {A : Adr}
theorem ok_Live___init__ (T : Txt w K mg A) : FnOk P w K mg base CX0 1 A.f_Live___init__ A.d_Live___init__ ["self", "row"] (sp_Live___init__ K A.c_Live) := by
  refine T.F_Live___init__.ok sc_Live___init__ (fun vs H Q E h => ?_) (fun cdv Ar outer s H vs Q E hr h => ?_)
  · obtain ⟨o, a, dx, ns, rfl, _⟩ := h
    rfl
  · have C_Live := T.C_Live
    have n_Live_numbers := T.n_Live_numbers
    have n_Live_changes := T.n_Live_changes
    have n_Live_made := T.n_Live_made
    obtain ⟨o, a, dx, ns, rfl, eo, ha, q⟩ := h
    refine ⟨_, (pss_cons (ps_fld (pv 0) (Ur.pe_t1 (Ur.call_list_ofK (K := K) rfl) (by rfl) T.m_list (by decide +kernel) (pv 1)) rfl)
    (pss_cons (ps_fld (pv 0) (pe_lst pa_nil) rfl)
    (pss_one (ps_fld (pv 0) pe_non rfl)))), ?_⟩
    tb_start
    intro pn npn
    have hop : o ≠ pn := by kcj_m
    tb_start
    intro pc npc
    have hoc : o ≠ pc := by kcj_m
    have hnc : pn ≠ pc := by kcj_m
    have fpc : H pc = none := by cc_off
    tb_start
    exact q pn pc _ (show _ = some (.ins A.c_Live dx (livF pn pc .non)) from upd_same) (by kct_strs) (by kct_strs) npn fpc hnc (by cc_are)
end
/-- a live row, where it is made -/
theorem mk_live {K : PySem.W.Frag} {C CR a x dx : Addr} {H : Hp} {ns : List Int} {R : Hp → Prop} {E : XK} (nx : H x = none) (nd : H dx = none) (ne : dx ≠ x) (ha : H a = some (.lst (ns.map V.int))) (hl : ns.length ≤ 1000)
    (q : ∀ pc H', Liv C CR (fun b => H b ≠ none) x pc H' ns [] → Same H H' → H pc = none → R H') :
    sp_Live___init__ K C ([.ref x, .ref a]) (upd (upd H dx (.own x)) x (.ins C dx [])) (fun v H2 => v = .non ∧ R H2) E := by
  have s1 : Same H (upd (upd H dx (.own x)) x (.ins C dx [])) := same_upd' nx (same_new nd)
  refine ⟨x, a, dx, ns, rfl, upd_same, s1 _ _ ha, fun pn pc H' e1 e2 e3 n1 n2 npc b => ⟨rfl, ?_⟩⟩
  have s2 : Same H H' := same_but b nx s1
  have f1 : H pn = none := s1.free n1
  have f2 : H pc = none := s1.free n2
  have hx : pn ≠ x := fun e => by rw [e, upd_same] at n1; cases n1
  have hcx : x ≠ pc := fun e => by rw [← e, upd_same] at n2; cases n2
  refine q pc H' ⟨⟨dx, pn, .non, e1, e2, fun b hb => ?_, .inl rfl⟩, ⟨[], e3, rfl, fun k t c h => nomatch h⟩, fun b hb => ⟨fun e => hb (e ▸ nx), fun e => hb (e ▸ f2)⟩, fun b hb => by
    cases e : H b with
    | none => exact absurd e hb
    | some v => exact ⟨v, s2 _ _ e⟩, hcx, hl, Nat.zero_le _⟩ s2 f2
  rcases hb with h | h | h
  · exact fun e => h (e ▸ f1)
  · rw [h]; exact hx
  · rw [h]; exact npc
end Ur
namespace Ur
open PySem L2
/-- a new desk -/
def sp_Desk___init__ (K : PySem.W.Frag) (C CL CR : Addr) : Sp := fun vs H Q _ => ∃ (o dx : Addr), vs = [.ref o] ∧ H o = some (.ins C dx []) ∧ ∀ lo pc H', Dsk C CL CR (fun b => H b ≠ none ∧ b ≠ o) o lo pc H' [] [] → But o H H' → H lo = none → H pc = none → Q .non H'
section
variable {P : Program} {w : World} {K : PySem.W.Frag} {mg : Str → Option Value} {base : Heap} {A : Adr}
theorem ok_Desk___init__ (T : Txt w K mg A) : FnOk P w K mg base CX0 3 A.f_Desk___init__ A.d_Desk___init__ ["self"] (sp_Desk___init__ K A.c_Desk A.c_Live A.c_Ready) := by
  have G_Live___init__ := ok_Live___init__ (P := P) (w := w) (base := base) T
  refine T.F_Desk___init__.ok sc_Desk___init__ (fun vs H Q E h => ?_) (fun cdv Ar outer s H vs Q E hr h => ?_)
  · obtain ⟨o, dx, rfl, _⟩ := h
    rfl
  · have C_Desk := T.C_Desk
    have n_Desk_live := T.n_Desk_live
    obtain ⟨o, dx, rfl, eo, q⟩ := h
    refine ⟨_, (pss_one (ps_fld (pv 0) (pe_make T.M_Live G_Live___init__ (hr.mono (by decide)) (by rfl) T.g_Live T.b_Live___init__ .nil pass0 (pa_cons (pe_lst pa_nil) pa_nil)) rfl)), ?_⟩
    tb_start
    intro p np
    tb_start
    intro x dx2 nx ndx hne
    have hxo : H x = none := upd_none nx
    refine mk_live (CR := A.c_Ready) (ns := []) nx ndx hne upd_same (by decide) (fun pc2 H3 v3 s3 npc => ?_)
    have hop : o ≠ p := by kcj_m
    have s1 : Same H (upd H p (.lst [])) := same_new np
    have eo3 := s3 _ _ (s1 _ _ eo)
    have hpc : H pc2 = none := upd_none npc
    tb_start
    have b4 : But o H3 (upd H3 o (.ins A.c_Desk dx (putF "live" (.ref x) []))) := but_at but_refl
    have e4 : (upd H3 o (.ins A.c_Desk dx (putF "live" (.ref x) []))) o = some (.ins A.c_Desk dx [("live", .ref x)]) := by rw [upd_same]; rfl
    have v4 := (v3.sub (L' := fun b => (H b ≠ none ∧ b ≠ o) ∨ b = o) (fun b hb => by
      rcases hb with hb | hb
      · cases q : H b with
        | none => exact absurd q hb.1
        | some w => rw [s1 _ _ q]; exact fun z => nomatch z
      · rw [hb, s1 _ _ eo]; exact fun z => nomatch z)).but (.inr rfl) b4 e4
    exact q x pc2 _ ⟨⟨dx, e4⟩, ⟨[], v4, .nil⟩, fun b hb => Ne.symm hb.2, fun n hn => (nomatch hn), fun n hn => (nomatch hn), by decide⟩ (fun b w hb e => b4 _ _ hb (s3 _ _ (s1 _ _ e))) hxo hpc
end
end Ur
namespace Ur
open PySem L2
/-- a place is let by, another thing is refused -/
def sp_Live_need_place (K : PySem.W.Frag) (C W : Addr) : Sp := fun vs H Q E => ∃ (o : Addr) (v : V) (m : Int), vs = [.ref o, v, .int m] ∧ ((∃ p : Int, v = .int p ∧ 0 ≤ p ∧ p ≤ m ∧ Q .non H) ∨ (Kind H v ∧ (∀ p : Int, v = .int p → ¬ (0 ≤ p ∧ p ≤ m)) ∧ E (.ref W) none H))
section
variable {P : Program} {w : World} {K : PySem.W.Frag} {mg : Str → Option Value} {base : Heap} {A : Adr}
theorem ok_Live_need_place (T : Txt w K mg A) : FnOk P w K mg base (L2.CX P w) 1 A.f_Live_need_place A.d_Live_need_place ["self", "place", "most"] (sp_Live_need_place K A.c_Live A.c_NoPlace) := by
  refine T.F_Live_need_place.okX sc_Live_need_place (fun vs H Q E h => ?_) (fun cdv Ar outer s H vs Q E hr h => ?_)
  · obtain ⟨o, v, m, rfl, _⟩ := h
    rfl
  · have C_Live := T.C_Live
    have n_Live_numbers := T.n_Live_numbers
    have n_Live_changes := T.n_Live_changes
    have n_Live_made := T.n_Live_made
    obtain ⟨o, v, m, rfl, h⟩ := h
    refine ⟨_, (pss_one (ps_if (PW.pt (pw_or (pt_not (pt_val (Ur.pe_b2 (Ur.call_isiK (K := K) rfl) (by rfl) T.m_isinstance (by decide +kernel) (pv 1) (pe_bltn (v := .ty "int") (by rfl) T.m_int (by decide +kernel) rfl)))) (pw_or (pt_val (Ur.pe_b2 (Ur.call_isiK (K := K) rfl) (by rfl) T.m_isinstance (by decide +kernel) (pv 1) (pe_bltn (v := .ty "bool") (by rfl) T.m_bool (by decide +kernel) rfl))) (pw_or1 (pt_not (pt_chain op_le op_le pe_int (pv 1) (pv 2))))))) (pss_one (ps_raise rfl (takes_of rfl rfl rfl rfl) (pmk_own PySem.F.excBase_ValueError T.x_NoPlace T.g_NoPlace T.k_NoPlace (raises_own T.b_NoPlace T.t_NoPlace) (by exact rfl)))) pss_nil)), ?_⟩
    rcases h with ⟨p, rfl, h0, h1, q⟩ | ⟨hk, hn, q⟩
    · tb_start
      exact q
    rcases hk with ⟨p, rfl⟩ | ⟨c, rfl⟩ | ⟨x, rfl⟩ | rfl | ⟨p, xs, rfl, hp⟩ | ⟨p, xs, rfl, hp⟩ | ⟨p, xs, rfl, hp⟩
    · by_cases h0 : 0 ≤ p
      · have h1 : ¬ p ≤ m := fun k => hn p rfl ⟨h0, k⟩
        tb_start
        exact q
      · tb_start
        exact q
    all_goals
      tb_start
      exact q
end
end Ur
namespace Ur
open PySem L2
/-- numbers laid in the place of some: tells these -/
def sp_Live_laid (K : PySem.W.Frag) (C : Addr) : Sp := fun vs H Q _ => ∃ (o dx pn pc b : Addr) (mv : V) (ns gs : List Int) (p m : Int), vs = [.ref o, .int p, .int m, .ref b] ∧ H o = some (.ins C dx (livF pn pc mv)) ∧ H pn = some (.lst (ns.map V.int)) ∧ H b = some (.lst (gs.map V.int)) ∧ 0 ≤ p ∧ 0 ≤ m ∧ p + m ≤ ns.length ∧ ns.length ≤ 2000 ∧ gs.length ≤ 2000 ∧ ∀ g r H', H' g = some (.lst ((gone ns p m).map V.int)) → H' r = some (.lst ((layd ns p m gs).map V.int)) → H' o = some (.ins C dx (livF r pc .non)) → H g = none → H r = none → g ≠ r → But o H H' → Q (.ref g) H'
section
variable {P : Program} {w : World} {K : PySem.W.Frag} {mg : Str → Option Value} {base : Heap} {A : Adr}
theorem ok_Live_laid (T : Txt w K mg A) : FnOk P w K mg base CX0 1 A.f_Live_laid A.d_Live_laid ["self", "place", "many", "numbers"] (sp_Live_laid K A.c_Live) := by
  refine T.F_Live_laid.ok sc_Live_laid (fun vs H Q E h => ?_) (fun cdv Ar outer s H vs Q E hr h => ?_)
  · obtain ⟨o, dx, pn, pc, b, mv, ns, gs, p, m, rfl, _⟩ := h
    rfl
  · have C_Live := T.C_Live
    have n_Live_numbers := T.n_Live_numbers
    have n_Live_changes := T.n_Live_changes
    have n_Live_made := T.n_Live_made
    obtain ⟨o, dx, pn, pc, b, mv, ns, gs, p, m, rfl, eo, en, eb, h0, h1, h2, l1, l2, q⟩ := h
    refine ⟨_, (pss_cons (ps_set (i := 4) sc_Live_laid.nd rfl (Or.inl rfl) (pe_slice (Ur.sl_listK (K := K) rfl) (Ur.pe_fldK (K := K) rfl (pv 0) rfl) (po_some (pv 1)) (po_some (pe_op op_add (pv 1) (pv 2)))))
    (pss_cons (ps_fld (pv 0) (pe_op op_cat (pe_op op_cat (pe_slice (Ur.sl_listK (K := K) rfl) (Ur.pe_fldK (K := K) rfl (pv 0) rfl) po_none (po_some (pv 1))) (pv 3)) (pe_slice (Ur.sl_listK (K := K) rfl) (Ur.pe_fldK (K := K) rfl (pv 0) rfl) (po_some (pe_op op_add (pv 1) (pv 2))) po_none)) rfl)
    (pss_cons (ps_fld (pv 0) pe_non rfl)
    (pss_one (ps_ret (pv 4)))))), ?_⟩
    tb_start
    intro g ng
    have hog : o ≠ g := by kcj_m
    have hbg : b ≠ g := by kcj_m
    have hng : pn ≠ g := by kcj_m
    have e1 : (upd H g (.lst (cutV (ns.map V.int) (some p) (some (p + m))))) g = some (.lst ((gone ns p m).map V.int)) := by
      rw [upd_same, cutI_mid ns h0 (by omega), show (p + m).toNat - p.toNat = m.toNat by omega]; rfl
    have s1 : Same H (upd H g (.lst (cutV (ns.map V.int) (some p) (some (p + m))))) := same_new ng
    have eo1 := s1 _ _ eo
    have en1 := s1 _ _ en
    have eb1 := s1 _ _ eb
    generalize (upd H g (.lst (cutV (ns.map V.int) (some p) (some (p + m))))) = H1 at *
    tb_start
    intro q2 nq2
    have t2 : Same H1 (upd H1 q2 (.lst (cutV (ns.map V.int) none (some p)))) := same_new nq2
    have e2 : (upd H1 q2 (.lst (cutV (ns.map V.int) none (some p)))) q2 = some (.lst ((ns.take p.toNat).map V.int)) := by rw [upd_same, cutI_to ns h0]
    replace eo1 := t2 _ _ eo1
    replace en1 := t2 _ _ en1
    replace eb1 := t2 _ _ eb1
    replace e1 := t2 _ _ e1
    have w2 := nq2
    replace s1 := s1.trans t2
    generalize (upd H1 q2 (.lst (cutV (ns.map V.int) none (some p)))) = H2 at *
    have hl2 : (ns.take p.toNat).length ≤ 2000 := by rw [List.length_take]; omega
    tb_start
    rw [← List.map_append]
    intro q3 nq3
    have t3 : Same H2 (upd H2 q3 (.lst ((ns.take p.toNat ++ gs).map V.int))) := same_new nq3
    have e3 : (upd H2 q3 (.lst ((ns.take p.toNat ++ gs).map V.int))) q3 = some (.lst ((ns.take p.toNat ++ gs).map V.int)) := upd_same
    replace eo1 := t3 _ _ eo1
    replace en1 := t3 _ _ en1
    replace e1 := t3 _ _ e1
    have w3 := nq3
    replace s1 := s1.trans t3
    generalize (upd H2 q3 (.lst ((ns.take p.toNat ++ gs).map V.int))) = H3 at *
    have hl3 : (ns.take p.toNat ++ gs).length ≤ 4000 := by rw [List.length_append]; omega
    tb_start
    intro q4 nq4
    have t4 : Same H3 (upd H3 q4 (.lst (cutV (ns.map V.int) (some (p + m)) none))) := same_new nq4
    have e4 : (upd H3 q4 (.lst (cutV (ns.map V.int) (some (p + m)) none))) q4 = some (.lst ((ns.drop (p + m).toNat).map V.int)) := by rw [upd_same, cutI_from ns (by omega)]
    replace eo1 := t4 _ _ eo1
    replace en1 := t4 _ _ en1
    replace e1 := t4 _ _ e1
    replace e3 := t4 _ _ e3
    have w4 := nq4
    replace s1 := s1.trans t4
    generalize (upd H3 q4 (.lst (cutV (ns.map V.int) (some (p + m)) none))) = H4 at *
    have hl4 : (ns.drop (p + m).toNat).length ≤ 2000 := by rw [List.length_drop]; omega
    tb_start
    rw [← List.map_append]
    intro q5 nq5
    have hg5 : g ≠ q5 := fun e => by rw [e, nq5] at e1; cases e1
    have t5 : Same H4 (upd H4 q5 (.lst ((ns.take p.toNat ++ gs ++ ns.drop (p + m).toNat).map V.int))) := same_new nq5
    have e5 : (upd H4 q5 (.lst ((ns.take p.toNat ++ gs ++ ns.drop (p + m).toNat).map V.int))) q5 = some (.lst ((layd ns p m gs).map V.int)) := upd_same
    replace eo1 := t5 _ _ eo1
    replace e1 := t5 _ _ e1
    have w5 := nq5
    have s1' : ∀ x : Addr, H4 x = none → H x = none := fun x e => s1.free e
    replace s1 := s1.trans t5
    generalize (upd H4 q5 (.lst ((ns.take p.toNat ++ gs ++ ns.drop (p + m).toNat).map V.int))) = H5 at *
    have ho5 : o ≠ q5 := fun e => by rw [e, e5] at eo1; cases eo1
    tb_start
    rw [liv_setN]
    tb_start
    rw [liv_setM]
    have hb : But o H (upd (upd H5 o (.ins A.c_Live dx (livF q5 pc mv))) o (.ins A.c_Live dx (livF q5 pc .non))) := but_at (but_at (Same.but s1))
    refine q g q5 _ ?_ ?_ upd_same ng (s1' _ w5) hg5 hb
    · rw [upd_ne (Ne.symm hog), upd_ne (Ne.symm hog)]; exact e1
    · rw [upd_ne (Ne.symm ho5), upd_ne (Ne.symm ho5)]; exact e5
end
end Ur
namespace Ur
open PySem L2
/-- .. and noted as a change -/
def sp_Live_noted (K : PySem.W.Frag) (C : Addr) : Sp := fun vs H Q _ => ∃ (o dx pn pc b : Addr) (mv : V) (ts : List Addr) (ns gs : List Int) (p m : Int), vs = [.ref o, .int p, .int m, .ref b] ∧ H o = some (.ins C dx (livF pn pc mv)) ∧ H pn = some (.lst (ns.map V.int)) ∧ H b = some (.lst (gs.map V.int)) ∧ H pc = some (.lst (ts.map V.ref)) ∧ ts.length ≤ 10000 ∧ 0 ≤ p ∧ 0 ≤ m ∧ p + m ≤ ns.length ∧ ns.length ≤ 2000 ∧ gs.length ≤ 2000 ∧ ∀ g r t H', H' g = some (.lst ((gone ns p m).map V.int)) → H' r = some (.lst ((layd ns p m gs).map V.int)) → H' o = some (.ins C dx (livF r pc .non)) → H' pc = some (.lst ((ts ++ [t]).map V.ref)) → H' t = some (.tup [.int p, .int gs.length, .ref g]) → H g = none → H r = none → H t = none → Fr o pc H H' → Q (.ref g) H'
section
variable {P : Program} {w : World} {K : PySem.W.Frag} {mg : Str → Option Value} {base : Heap} {A : Adr}
theorem ok_Live_noted (T : Txt w K mg A) : FnOk P w K mg base CX0 2 A.f_Live_noted A.d_Live_noted ["self", "place", "many", "numbers"] (sp_Live_noted K A.c_Live) := by
  have G_Live_laid := ok_Live_laid (P := P) (w := w) (base := base) T
  refine T.F_Live_noted.ok sc_Live_noted (fun vs H Q E h => ?_) (fun cdv Ar outer s H vs Q E hr h => ?_)
  · obtain ⟨o, dx, pn, pc, b, mv, ts, ns, gs, p, m, rfl, _⟩ := h
    rfl
  · have C_Live := T.C_Live
    have n_Live_numbers := T.n_Live_numbers
    have n_Live_changes := T.n_Live_changes
    have n_Live_made := T.n_Live_made
    obtain ⟨o, dx, pn, pc, b, mv, ts, ns, gs, p, m, rfl, eo, en, eb, ec, htl, h0, h1, h2, l1, l2, q⟩ := h
    have hoc : o ≠ pc := by kcj_m
    have hob : o ≠ b := by kcj_m
    refine ⟨_, (pss_cons (ps_set (i := 4) sc_Live_noted.nd rfl (Or.inl rfl) (pe_meth (pv 0) T.C_Live T.M_Live_laid G_Live_laid (hr.mono (by decide)) T.b_Live_laid .nil pass0 (pa_cons (pv 1) (pa_cons (pv 2) (pa_cons (pv 3) pa_nil)))))
    (pss_cons (ps_expr (pe_bm PySem.F.plainAttrs_list PySem.F.slot_list_append PySem.F.type_list_append mt_append (Ur.pe_fldK (K := K) rfl (pv 0) rfl) (pa_cons (pe_tup (pa_cons (pv 1) (pa_cons (Ur.pe_b1 (Ur.call_lenIK (K := K) rfl) (by rfl) T.m_len (by decide +kernel) (pv 3)) (pa_cons (pv 4) pa_nil)))) pa_nil)))
    (pss_one (ps_ret (pv 4))))), ?_⟩
    tb_start
    intro g r H1 e1 e2 eo1 ng nr hgr b1
    have hog : o ≠ g := by kcj_m
    have ec1 := b1 _ _ (Ne.symm hoc) ec
    have eb1 := b1 _ _ (Ne.symm hob) eb
    have hcg : pc ≠ g := by kcj_m
    have hcr : pc ≠ r := by kcj_m
    have hor : o ≠ r := by kcj_m
    tb_start
    intro t nt
    have hct : pc ≠ t := by kcj_m
    have hot : o ≠ t := by kcj_m
    have hgt : g ≠ t := by kcj_m
    have hrt : r ≠ t := by kcj_m
    have ft : H t = none := but_free nt b1 eo1
    have hlt : (ts.map V.ref).length < sizeLine := szl (by rw [List.length_map]; omega)
    tb_start
    refine q g r t _ (by kct_strs) (by kct_strs) (by kct_strs) ?_ (by kct_strs) ng nr ft ?_
    · rw [upd_same, List.map_append]; rfl
    · exact (Fr.but b1).trans ((Fr.same (same_new nt)).trans (Fr.but2 (but_at but_refl)))
end
end Ur
namespace Ur
open PySem L2
/-- another number at a place; another thing is refused -/
def sp_Live_change (K : PySem.W.Frag) (C W : Addr) : Sp := fun vs H Q E => ∃ (o : Addr) (v : V) (x : Int), vs = [.ref o, v, .int x] ∧ ((∃ (L : Addr → Prop) (CR pc : Addr) (ns : List Int) (cs : List (Int × Int × List Int)) (p : Int), v = .int p ∧ Liv C CR L o pc H ns cs ∧ 0 ≤ p ∧ p < ns.length ∧ cs.length + 1 ≤ 10000 ∧ ∀ H', Liv C CR L o pc H' (layd ns p 1 [x]) (cs ++ [(p, 1, gone ns p 1)]) → Fr o pc H H' → Q .non H') ∨ (∃ (L : Addr → Prop) (CR pc : Addr) (ns : List Int) (cs : List (Int × Int × List Int)), Liv C CR L o pc H ns cs ∧ Kind H v ∧ (∀ p : Int, v = .int p → ¬ (0 ≤ p ∧ p ≤ ((ns.length : Int) - 1))) ∧ E (.ref W) none H))
section
variable {P : Program} {w : World} {K : PySem.W.Frag} {mg : Str → Option Value} {base : Heap} {A : Adr}
theorem ok_Live_change (T : Txt w K mg A) : FnOk P w K mg base (L2.CX P w) 3 A.f_Live_change A.d_Live_change ["self", "place", "number"] (sp_Live_change K A.c_Live A.c_NoPlace) := by
  have G_Live_need_place := ok_Live_need_place (P := P) (w := w) (base := base) T
  have G_Live_noted := ok_Live_noted (P := P) (w := w) (base := base) T
  refine T.F_Live_change.okX sc_Live_change (fun vs H Q E h => ?_) (fun cdv Ar outer s H vs Q E hr h => ?_)
  · obtain ⟨o, v, x, rfl, _⟩ := h
    rfl
  · have C_Live := T.C_Live
    have n_Live_numbers := T.n_Live_numbers
    have n_Live_changes := T.n_Live_changes
    have n_Live_made := T.n_Live_made
    obtain ⟨o, v, x, rfl, h⟩ := h
    refine ⟨_, (pss_cons (ps_expr (Ur.pe_methA (pv 0) T.C_Live T.M_Live_need_place G_Live_need_place (hr.mono (by decide)) T.b_Live_need_place (fun σ => passAt (takes_of rfl rfl rfl rfl) σ) (pa_cons (pv 1) (pa_cons (pe_op op_sub (Ur.pe_b1 (Ur.call_lenIK (K := K) rfl) (by rfl) T.m_len (by decide +kernel) (Ur.pe_fldK (K := K) rfl (pv 0) rfl)) pe_int) pa_nil))))
    (pss_one (ps_expr (pe_meth (pv 0) T.C_Live T.M_Live_noted G_Live_noted (hr.mono (by decide)) T.b_Live_noted .nil pass0 (pa_cons (pv 1) (pa_cons pe_int (pa_cons (pe_lst (pa_cons (pv 2) pa_nil)) pa_nil))))))), ?_⟩
    rcases h with ⟨L, CR, pc, ns, cs, p, rfl, v, h0, h1, hc, q⟩ | ⟨L, CR, pc, ns, cs, lv, hk, hn, q⟩
    · skip
      obtain ⟨dx, pn, mv, eo, en, _, _⟩ := v.obj
      obtain ⟨ts, ec, htl, _⟩ := v.chs
      have hnl := v.len
      have hno := v.ne
      tb_start
      intro b nb
      have s1 : Same H (upd H b (.lst [.int x])) := same_new nb
      have eb : (upd H b (.lst [.int x])) b = some (.lst (([x] : List Int).map V.int)) := upd_same
      have eo1 := s1 _ _ eo
      have en1 := s1 _ _ en
      have ec1 := s1 _ _ ec
      have v1 := v.same s1
      generalize (upd H b (.lst [.int x])) = H1 at *
      have hlx : ([x] : List Int).length = 1 := rfl
      tb_start
      intro g r t H2 e1 e2 e3 e4 e5 ng nr nt f
      have hll := layd_len (ns := ns) (gs := [x]) (p := p) (m := 1) h0 (by omega) (by omega)
      rw [hlx] at hll
      have v2 := v1.note ec1 e1 e2 e3 e4 e5 ng nr nt f (by omega) hc
      tb_start
      exact q _ v2 ((Fr.same s1).trans f)
    · obtain ⟨dx, pn, mv, eo, en, _, _⟩ := lv.obj
      have hnl := lv.len
      tb_start
      refine .inr ?_
      tb_start
      exact q
end
end Ur
namespace Ur
open PySem L2
/-- the last places, a new list -/
def sp_last_places (K : PySem.W.Frag) : Sp := fun vs H Q _ => ∃ (a : Addr) (ns : List Int), vs = [.ref a] ∧ SqL K H a (ns.map V.int) ∧ ns.length ≤ 1000 ∧ ∀ p H', H' p = some (.lst ((lastP ns).map V.int)) → Same H H' → H p = none → Q (.ref p) H'
section
variable {P : Program} {w : World} {K : PySem.W.Frag} {mg : Str → Option Value} {base : Heap} {A : Adr}
theorem ok_last_places (T : Txt w K mg A) : FnOk P w K mg base CX0 1 A.f_last_places A.d_last_places ["row"] (sp_last_places K) := by
  refine T.F_last_places.ok sc_last_places (fun vs H Q E h => ?_) (fun cdv Ar outer s H vs Q E hr h => ?_)
  · obtain ⟨a, ns, rfl, _⟩ := h
    rfl
  · obtain ⟨a, ns, rfl, ha, hl, q⟩ := h
    refine ⟨_, (pss_cons (ps_set (i := 1) sc_last_places.nd rfl (Or.inl rfl) pe_dnewK)
    (pss_cons (ps_set (i := 2) sc_last_places.nd rfl (Or.inl rfl) (pe_lst pa_nil))
    (pss_cons (ps_for PassesOwn.never (by rfl) (pi_enum (by rfl) T.m_enumerate (pa_cons (pv 0) pa_nil)) (pg_tup (by rfl) (pgs_cons (pg_name (i := 3) sc_last_places.nd rfl (Or.inl rfl)) (pgs_cons (pg_name (i := 4) sc_last_places.nd rfl (Or.inl rfl)) pgs_nil))) (pss_cons (ps_expr (pe_bm PySem.F.plainAttrs_list PySem.F.slot_list_append PySem.F.type_list_append mt_append (pv 2) (pa_cons (pe_dget2 (hu_of hr) (pv 1) (pv 4) (pe_un un_neg pe_int) ⟨rfl, rfl, rfl, rfl⟩) pa_nil)))
    (pss_one (ps_dput (hu_of hr) (pv 1) (pv 4) (pv 3) rfl))))
    (pss_one (ps_ret (pv 2)))))), ?_⟩
    tb_start
    intro m nm
    tb_start
    intro l nl
    tb_start
    refine for_enum (xs := ns.map V.int) (fun i σ H' => Iv (∃ (kvs : List (Key × V)) (x y : Option V), σ = [some (.ref a), some (.ref m), some (.ref l), x, y] ∧ H' m = some (.dK kvs) ∧ H' l = some (.lst (((lastP ns).take i).map V.int)) ∧ Same H H' ∧ kvs.length ≤ i ∧ ∀ z : Int, valV kvs (Sum.inl z) = if lastAt ns i z = -1 then none else some (.int (lastAt ns i z)))) ?h0 ?hl ?hs ?hd
    case h0 => exact ⟨[], _, _, rfl, by kct_strs, upd_same, by kcj_in, Nat.le_refl _, fun z => rfl⟩
    case hl =>
      rintro i σ H' hi ⟨kvs, x, y, rfl, hm, hl', s, hk, hv⟩
      kct_strs
    case hs =>
      rintro i x σ H1 H' hx ⟨kvs, u, y, rfl, hm, hl', s, hk, hv⟩ s2
      obtain ⟨n, hn, rfl⟩ := iv_get hx
      have hi := (List.getElem?_eq_some_iff.mp hn).1
      have hg := getD_of hn
      have nlm : l ≠ m := by kcj_m
      have hln := lastP_len ns
      have hr := lastAt_range ns n i
      have hv' : (valV kvs (Sum.inl n)).getD (.int (-1)) = .int (lastAt ns i n) := by
        rw [hv n]
        by_cases e : lastAt ns i n = -1
        · rw [if_pos e, e]; rfl
        · rw [if_neg e]; rfl
      tb_start
      refine ⟨_, _, _, rfl, by kct_strs, lst_cast (by kct_strs) ?_, by kcj_in, ?_, fun z => ?_⟩
      · rw [lastP_take hi, hg, List.map_append]
        exact congrArg (fun v => (List.map V.int (List.take i (lastP ns))) ++ [v]) hv'
      · exact Nat.le_trans (putK_le _ _ _) (by omega)
      · rw [val_put, hv z]
        show _ = if (if ns.getD i 0 = z then (i : Int) else lastAt ns i z) = -1 then none else some (V.int (if ns.getD i 0 = z then (i : Int) else lastAt ns i z))
        rw [hg]
        by_cases e : z = n
        · rw [if_pos e, if_pos e.symm, if_neg (by omega)]
        · have e2 : ¬ n = z := fun h => e h.symm
          simp only [if_neg e, if_neg e2]
    case hd =>
      rintro σ H' ⟨kvs, x, y, rfl, hm, hl', s, hk, hv⟩
      rw [List.length_map, ← lastP_len ns, List.take_length] at hl'
      tb_start
      exact q _ _ hl' s (by cc_off)
end
end Ur
namespace Ur
open PySem L2
/-- the next places, a new list -/
def sp_next_places (K : PySem.W.Frag) : Sp := fun vs H Q _ => ∃ (a : Addr) (ns : List Int), vs = [.ref a] ∧ SqL K H a (ns.map V.int) ∧ ns.length ≤ 1000 ∧ ∀ p H', H' p = some (.lst ((nextP ns).map V.int)) → Same H H' → H p = none → Q (.ref p) H'
section
variable {P : Program} {w : World} {K : PySem.W.Frag} {mg : Str → Option Value} {base : Heap} {A : Adr}
theorem ok_next_places (T : Txt w K mg A) : FnOk P w K mg base CX0 2 A.f_next_places A.d_next_places ["row"] (sp_next_places K) := by
  have G_last_places := ok_last_places (P := P) (w := w) (base := base) T
  refine T.F_next_places.ok sc_next_places (fun vs H Q E h => ?_) (fun cdv Ar outer s H vs Q E hr h => ?_)
  · obtain ⟨a, ns, rfl, _⟩ := h
    rfl
  · obtain ⟨a, ns, rfl, ha, hl, q⟩ := h
    refine ⟨_, (pss_cons (ps_set (i := 1) sc_next_places.nd rfl (Or.inl rfl) (pe_op op_rep (pe_lst (pa_cons (Ur.pe_b1 (Ur.call_lenIK (K := K) rfl) (by rfl) T.m_len (by decide +kernel) (pv 0)) pa_nil)) (Ur.pe_b1 (Ur.call_lenIK (K := K) rfl) (by rfl) T.m_len (by decide +kernel) (pv 0))))
    (pss_cons (ps_for PassesOwn.never (by rfl) (pi_enum (by rfl) T.m_enumerate (pa_cons (pe_call G_last_places (hr.mono (by decide)) (by rfl) T.g_last_places T.F_last_places.kp T.b_last_places .nil pass0 (pa_cons (pv 0) pa_nil)) pa_nil)) (pg_tup (by rfl) (pgs_cons (pg_name (i := 2) sc_next_places.nd rfl (Or.inl rfl)) (pgs_cons (pg_name (i := 3) sc_next_places.nd rfl (Or.inl rfl)) pgs_nil))) (pss_one (ps_if (pt_cmpR op_ge (pv 3) pe_int (nomark _)) (pss_one (ps_asg (pv 2) (pg_sub (pv 1) (pv 3) set_list))) pss_nil)))
    (pss_one (ps_ret (pv 1))))), ?_⟩
    tb_start
    intro l0 nl0
    tb_start
    intro l nl
    tb_start
    intro p H2 e2 s2 np
    tb_start
    refine for_enum (xs := (lastP ns).map V.int) (fun i σ H' => Iv (∃ (x y : Option V), σ = [some (.ref a), some (.ref l), x, y] ∧ H' l = some (.lst (((List.range ns.length).map fun k => nextUp ns k i).map V.int)) ∧ H' p = some (.lst ((lastP ns).map V.int)) ∧ Same H H')) ?h0 ?hl ?hs ?hd
    case h0 =>
      refine ⟨_, _, rfl, lst_cast (by kct_strs) ?_, by kct_strs, by kcj_in⟩
      rw [Int.toNat_natCast]
      show _ = List.map V.int ((List.range ns.length).map fun _ => (ns.length : Int))
      rw [List.map_const', List.length_range]
    case hl =>
      rintro i σ H' hi ⟨x, y, rfl, hl', hp, s⟩
      kct_strs
    case hs =>
      rintro i x σ H1 H' hx ⟨u, y, rfl, hl', hp, s⟩ s3
      obtain ⟨n, hn, rfl⟩ := iv_get hx
      have hil : i < ns.length := by
        have h := (List.getElem?_eq_some_iff.mp hn).1
        rw [lastP_len] at h
        exact h
      have e : n = lastAt ns i (ns.getD i 0) := by
        rw [lastP_get hil] at hn
        exact (Option.some.inj hn).symm
      have hr := lastAt_range ns (ns.getD i 0) i
      rw [← e] at hr
      have hml : ((List.range ns.length).map fun k => nextUp ns k i).length = ns.length := by rw [List.length_map, List.length_range]
      have step : ((List.range ns.length).map fun k => nextUp ns k (i + 1)) = if 0 ≤ n then ((List.range ns.length).map fun k => nextUp ns k i).set n.toNat i else (List.range ns.length).map fun k => nextUp ns k i := by
        refine List.ext_getElem? fun k => ?_
        by_cases hk : k < ns.length
        · rw [List.getElem?_map, List.getElem?_range hk]
          show some (nextUp ns k (i + 1)) = _
          rw [nextUp_step hil hk, ← e]
          by_cases h0 : 0 ≤ n
          · rw [if_pos h0, List.getElem?_set, hml]
            by_cases hnk : n = (k : Int)
            · rw [if_pos hnk, if_pos (by omega), if_pos (by omega)]
            · rw [if_neg hnk, if_neg (by omega), List.getElem?_map, List.getElem?_range hk]
              rfl
          · rw [if_neg h0, if_neg (by omega), List.getElem?_map, List.getElem?_range hk]
            rfl
        · rw [List.getElem?_eq_none (by rw [List.length_map, List.length_range]; omega)]
          split
          · rw [List.getElem?_eq_none (by rw [List.length_set, hml]; omega)]
          · rw [List.getElem?_eq_none (by rw [hml]; omega)]
      tb_start
      refine br (fun h => ?_) (fun h => ?_)
      · tb_start
        refine ⟨_, _, rfl, lst_cast (by kct_strs) ?_, by kct_strs, by kcj_in⟩
        rw [step, if_pos h]
      · refine ⟨_, _, rfl, lst_cast (by kct_strs) ?_, by kct_strs, by kcj_in⟩
        rw [step, if_neg h]
    case hd =>
      rintro σ H' ⟨x, y, rfl, hl', hp, s⟩
      tb_start
      refine q _ _ (lst_cast hl' ?_) s (by cc_off)
      rw [List.length_map, lastP_len]
      rfl
end
end Ur
namespace Ur
open PySem L2
/-- made ready -/
def sp_Ready___init__ (K : PySem.W.Frag) (C : Addr) : Sp := fun vs H Q _ => ∃ (o a dx : Addr) (ns : List Int), vs = [.ref o, .ref a] ∧ H o = some (.ins C dx []) ∧ H a = some (.lst (ns.map V.int)) ∧ ns.length ≤ 1000 ∧ ∀ la na H', H' o = some (.ins C dx (rdyF ns.length la na)) → H' la = some (.lst ((lastP ns).map V.int)) → H' na = some (.lst ((nextP ns).map V.int)) → H la = none → H na = none → But o H H' → Q .non H'
section
variable {P : Program} {w : World} {K : PySem.W.Frag} {mg : Str → Option Value} {base : Heap} {A : Adr}
theorem ok_Ready___init__ (T : Txt w K mg A) : FnOk P w K mg base CX0 3 A.f_Ready___init__ A.d_Ready___init__ ["self", "row"] (sp_Ready___init__ K A.c_Ready) := by
  have G_last_places := ok_last_places (P := P) (w := w) (base := base) T
  have G_next_places := ok_next_places (P := P) (w := w) (base := base) T
  refine T.F_Ready___init__.ok sc_Ready___init__ (fun vs H Q E h => ?_) (fun cdv Ar outer s H vs Q E hr h => ?_)
  · obtain ⟨o, a, dx, ns, rfl, _⟩ := h
    rfl
  · have C_Ready := T.C_Ready
    have n_Ready_many := T.n_Ready_many
    have n_Ready_lasts := T.n_Ready_lasts
    have n_Ready_nexts := T.n_Ready_nexts
    obtain ⟨o, a, dx, ns, rfl, eo, ha, hl, q⟩ := h
    refine ⟨_, (pss_cons (ps_fld (pv 0) (Ur.pe_b1 (Ur.call_lenIK (K := K) rfl) (by rfl) T.m_len (by decide +kernel) (pv 1)) rfl)
    (pss_cons (ps_fld (pv 0) (pe_call G_last_places (hr.mono (by decide)) (by rfl) T.g_last_places T.F_last_places.kp T.b_last_places .nil pass0 (pa_cons (pv 1) pa_nil)) rfl)
    (pss_one (ps_fld (pv 0) (pe_call G_next_places (hr.mono (by decide)) (by rfl) T.g_next_places T.F_next_places.kp T.b_next_places .nil pass0 (pa_cons (pv 1) pa_nil)) rfl)))), ?_⟩
    tb_start
    intro la H1 e1 s1 f1
    have eo1 := s1 o _ upd_same
    have hf1 := upd_none f1
    repeat (rename H _ = some _ => hx; first | (have hA := Ur.adv0 s1 hx; obtain ⟨hz, hw, hv⟩ := hA; (first | have := hw _ f1 | have := hv _ f1); clear hw hv hx; rename H1 _ = some _ => hq) | (have hA := Ur.adv1 s1 (by kcj_m) hx; obtain ⟨hz, hw, hv⟩ := hA; (first | have := hw _ f1 | have := hv _ f1); clear hw hv hx; rename H1 _ = some _ => hq) | (have hA := Ur.adv2 s1 (by kcj_m) (by kcj_m) hx; obtain ⟨hz, hw, hv⟩ := hA; (first | have := hw _ f1 | have := hv _ f1); clear hw hv hx; rename H1 _ = some _ => hq) | (have hA := Ur.adv3 s1 (by kcj_m) (by kcj_m) (by kcj_m) hx; obtain ⟨hz, hw, hv⟩ := hA; (first | have := hw _ f1 | have := hv _ f1); clear hw hv hx; rename H1 _ = some _ => hq) | (have hA := Ur.adv4 s1 (by kcj_m) (by kcj_m) (by kcj_m) (by kcj_m) hx; obtain ⟨hz, hw, hv⟩ := hA; (first | have := hw _ f1 | have := hv _ f1); clear hw hv hx; rename H1 _ = some _ => hq) | (have hA := Ur.adv5 s1 (by kcj_m) (by kcj_m) (by kcj_m) (by kcj_m) (by kcj_m) hx; obtain ⟨hz, hw, hv⟩ := hA; (first | have := hw _ f1 | have := hv _ f1); clear hw hv hx; rename H1 _ = some _ => hq) | (have hA := Ur.adv6 s1 (by kcj_m) (by kcj_m) (by kcj_m) (by kcj_m) (by kcj_m) (by kcj_m) hx; obtain ⟨hz, hw, hv⟩ := hA; (first | have := hw _ f1 | have := hv _ f1); clear hw hv hx; rename H1 _ = some _ => hq) | (have hA := Ur.adv7 s1 (by kcj_m) (by kcj_m) (by kcj_m) (by kcj_m) (by kcj_m) (by kcj_m) (by kcj_m) hx; obtain ⟨hz, hw, hv⟩ := hA; (first | have := hw _ f1 | have := hv _ f1); clear hw hv hx; rename H1 _ = some _ => hq) | clear hx)
    tb_start
    intro na H2 e2 s2 f2
    have eo2 := s2 o _ upd_same
    have hf2 := upd_none (s1.free (upd_none f2))
    have ho2 : o ≠ na := by kcj_m
    repeat (rename H1 _ = some _ => hx; first | (have hA := Ur.adv0 s2 hx; obtain ⟨hz, hw, hv⟩ := hA; (first | have := hw _ f2 | have := hv _ f2); clear hw hv hx; rename H2 _ = some _ => hq) | (have hA := Ur.adv1 s2 (by kcj_m) hx; obtain ⟨hz, hw, hv⟩ := hA; (first | have := hw _ f2 | have := hv _ f2); clear hw hv hx; rename H2 _ = some _ => hq) | (have hA := Ur.adv2 s2 (by kcj_m) (by kcj_m) hx; obtain ⟨hz, hw, hv⟩ := hA; (first | have := hw _ f2 | have := hv _ f2); clear hw hv hx; rename H2 _ = some _ => hq) | (have hA := Ur.adv3 s2 (by kcj_m) (by kcj_m) (by kcj_m) hx; obtain ⟨hz, hw, hv⟩ := hA; (first | have := hw _ f2 | have := hv _ f2); clear hw hv hx; rename H2 _ = some _ => hq) | (have hA := Ur.adv4 s2 (by kcj_m) (by kcj_m) (by kcj_m) (by kcj_m) hx; obtain ⟨hz, hw, hv⟩ := hA; (first | have := hw _ f2 | have := hv _ f2); clear hw hv hx; rename H2 _ = some _ => hq) | (have hA := Ur.adv5 s2 (by kcj_m) (by kcj_m) (by kcj_m) (by kcj_m) (by kcj_m) hx; obtain ⟨hz, hw, hv⟩ := hA; (first | have := hw _ f2 | have := hv _ f2); clear hw hv hx; rename H2 _ = some _ => hq) | (have hA := Ur.adv6 s2 (by kcj_m) (by kcj_m) (by kcj_m) (by kcj_m) (by kcj_m) (by kcj_m) hx; obtain ⟨hz, hw, hv⟩ := hA; (first | have := hw _ f2 | have := hv _ f2); clear hw hv hx; rename H2 _ = some _ => hq) | (have hA := Ur.adv7 s2 (by kcj_m) (by kcj_m) (by kcj_m) (by kcj_m) (by kcj_m) (by kcj_m) (by kcj_m) hx; obtain ⟨hz, hw, hv⟩ := hA; (first | have := hw _ f2 | have := hv _ f2); clear hw hv hx; rename H2 _ = some _ => hq) | clear hx)
    tb_start
    exact q la na _ (show _ = some (.ins A.c_Ready dx (rdyF _ la na)) from upd_same) (by kct_strs) (by kct_strs) hf1 hf2 (by cc_are)
end
/-- a row made ready, where it is made -/
theorem mk_rdy {K : PySem.W.Frag} {C a x dx : Addr} {H : Hp} {ns : List Int} {R : Hp → Prop} {E : XK} (nx : H x = none) (nd : H dx = none) (ne : dx ≠ x) (ha : H a = some (.lst (ns.map V.int))) (hl : ns.length ≤ 1000)
    (q : ∀ H', Rdy C (fun b => H b ≠ none) H' x ns → Same H H' → R H') :
    sp_Ready___init__ K C ([.ref x, .ref a]) (upd (upd H dx (.own x)) x (.ins C dx [])) (fun v H2 => v = .non ∧ R H2) E := by
  have s1 : Same H (upd (upd H dx (.own x)) x (.ins C dx [])) := same_upd' nx (same_new nd)
  refine ⟨x, a, dx, ns, rfl, upd_same, s1 _ _ ha, hl, fun la na H' e1 e2 e3 n1 n2 b => ⟨rfl, ?_⟩⟩
  have s2 : Same H H' := same_but b nx s1
  refine q H' ⟨dx, la, na, e1, e2, e3, fun b hb => ?_⟩ s2
  refine ⟨fun e => hb (e ▸ nx), fun e => hb (e ▸ s1.free n1), fun e => hb (e ▸ s1.free n2)⟩
end Ur
namespace Ur
open PySem L2
/-- the row made ready -/
def sp_Live_ready (K : PySem.W.Frag) (C CR : Addr) : Sp := fun vs H Q _ => ∃ (L : Addr → Prop) (o pc : Addr) (ns : List Int) (cs : List (Int × Int × List Int)), vs = [.ref o] ∧ Liv C CR L o pc H ns cs ∧ ∀ r H', Rdy CR (Own L o pc) H' r ns → Liv C CR L o pc H' ns cs → Fr o pc H H' → Q (.ref r) H'
section
variable {P : Program} {w : World} {K : PySem.W.Frag} {mg : Str → Option Value} {base : Heap} {A : Adr}
theorem ok_Live_ready (T : Txt w K mg A) : FnOk P w K mg base CX0 5 A.f_Live_ready A.d_Live_ready ["self"] (sp_Live_ready K A.c_Live A.c_Ready) := by
  have G_Ready___init__ := ok_Ready___init__ (P := P) (w := w) (base := base) T
  refine T.F_Live_ready.ok sc_Live_ready (fun vs H Q E h => ?_) (fun cdv Ar outer s H vs Q E hr h => ?_)
  · obtain ⟨L, o, pc, ns, cs, rfl, _⟩ := h
    rfl
  · have C_Live := T.C_Live
    have n_Live_numbers := T.n_Live_numbers
    have n_Live_changes := T.n_Live_changes
    have n_Live_made := T.n_Live_made
    obtain ⟨L, o, pc, ns, cs, rfl, v, q⟩ := h
    obtain ⟨dx, pn, mv, eo, en, hpn, hm⟩ := v.obj
    have hnl := v.len
    refine ⟨_, (pss_cons (ps_if (pt_cmpR op_isN (Ur.pe_fldK (K := K) rfl (pv 0) rfl) pe_non (nomark _)) (pss_one (ps_fld (pv 0) (pe_make T.M_Ready G_Ready___init__ (hr.mono (by decide)) (by rfl) T.g_Ready T.b_Ready___init__ .nil pass0 (pa_cons (Ur.pe_fldK (K := K) rfl (pv 0) rfl) pa_nil)) rfl)) pss_nil)
    (pss_one (ps_ret (Ur.pe_fldK (K := K) rfl (pv 0) rfl)))), ?_⟩
    rcases hm with rfl | ⟨ro, rfl, r⟩
    · tb_start
      intro x dx2 nx ndx ne2
      refine mk_rdy (ns := ns) nx ndx ne2 en (by omega) (fun H1 r s1 => ?_)
      obtain ⟨r2, v2, f2⟩ := v.ready eo s1 r
      have eo1 := s1 _ _ eo
      tb_start
      rw [liv_setM]
      tb_start
      exact q x _ r2 v2 f2
    · tb_start
      exact q ro _ r v (fun _ _ _ _ e => e)
end
end Ur
namespace Ur
open PySem L2
/-- whether a thing is a whole number -/
def sp_is_whole (K : PySem.W.Frag) : Sp := fun vs H Q _ => ∃ (v : V) (b : Bool), vs = [v] ∧ IsW H v b ∧ Q (.bl b) H
section
variable {P : Program} {w : World} {K : PySem.W.Frag} {mg : Str → Option Value} {base : Heap} {A : Adr}
theorem ok_is_whole (T : Txt w K mg A) : FnOk P w K mg base CX0 1 A.f_is_whole A.d_is_whole ["thing"] (sp_is_whole K) := by
  refine T.F_is_whole.ok sc_is_whole (fun vs H Q E h => ?_) (fun cdv Ar outer s H vs Q E hr h => ?_)
  · obtain ⟨v, b, rfl, _⟩ := h
    rfl
  · obtain ⟨v, b, rfl, hw, q⟩ := h
    refine ⟨_, (pss_one (ps_ret (pe_and (Ur.pe_b2 (Ur.call_isiK (K := K) rfl) (by rfl) T.m_isinstance (by decide +kernel) (pv 0) (pe_bltn (v := .ty "int") (by rfl) T.m_int (by decide +kernel) rfl)) (pe_one (pe_not (Ur.pe_b2 (Ur.call_isiK (K := K) rfl) (by rfl) T.m_isinstance (by decide +kernel) (pv 0) (pe_bltn (v := .ty "bool") (by rfl) T.m_bool (by decide +kernel) rfl))))))), ?_⟩
    rcases hw with ⟨rfl, i, rfl⟩ | ⟨rfl, hk, hn⟩
    · tb_start
      exact q
    · rcases hk with ⟨i, rfl⟩ | ⟨c, rfl⟩ | ⟨x, rfl⟩ | rfl | ⟨p, xs, rfl, hp⟩ | ⟨p, xs, rfl, hp⟩ | ⟨p, xs, rfl, hp⟩
      · exact (hn i rfl).elim
      all_goals
        tb_start
        exact q
end
end Ur
namespace Ur
open PySem L2
/-- a place is let by, another thing is refused -/
def sp_Ready_need_place (K : PySem.W.Frag) (C W : Addr) : Sp := fun vs H Q E => ∃ (L : Addr → Prop) (o : Addr) (v : V) (ns : List Int), vs = [.ref o, v] ∧ Rdy C L H o ns ∧ Kind H v ∧ (∀ p : Int, v = .int p → 0 ≤ p → p ≤ ns.length → Q .non H) ∧ (NoPl ns.length v → E (.ref W) none H)
section
variable {P : Program} {w : World} {K : PySem.W.Frag} {mg : Str → Option Value} {base : Heap} {A : Adr}
theorem ok_Ready_need_place (T : Txt w K mg A) : FnOk P w K mg base (L2.CX P w) 2 A.f_Ready_need_place A.d_Ready_need_place ["self", "place"] (sp_Ready_need_place K A.c_Ready A.c_NoWindow) := by
  have G_is_whole := ok_is_whole (P := P) (w := w) (base := base) T
  refine T.F_Ready_need_place.okX sc_Ready_need_place (fun vs H Q E h => ?_) (fun cdv Ar outer s H vs Q E hr h => ?_)
  · obtain ⟨L, o, v, ns, rfl, _⟩ := h
    rfl
  · have C_Ready := T.C_Ready
    have n_Ready_many := T.n_Ready_many
    have n_Ready_lasts := T.n_Ready_lasts
    have n_Ready_nexts := T.n_Ready_nexts
    obtain ⟨L, o, v, ns, rfl, r, hk, qy, qn⟩ := h
    obtain ⟨dx, la, na, eo, el, en, _⟩ := r.all
    refine ⟨_, (pss_one (ps_if (PW.pt (pw_or (pt_not (pt_val (pe_call G_is_whole (hr.mono (by decide)) (by rfl) T.g_is_whole T.F_is_whole.kp T.b_is_whole .nil pass0 (pa_cons (pv 1) pa_nil)))) (pw_or1 (pt_not (pt_chain op_le op_le pe_int (pv 1) (Ur.pe_fldK (K := K) rfl (pv 0) rfl)))))) (pss_one (ps_raise rfl (takes_of rfl rfl rfl rfl) (pmk_own PySem.F.excBase_ValueError T.x_NoWindow T.g_NoWindow T.k_NoWindow (raises_own T.b_NoWindow T.t_NoWindow) (by exact rfl)))) pss_nil)), ?_⟩
    rcases hk.whole with ⟨p, rfl⟩ | ⟨hno, hw⟩
    · by_cases h0 : 0 ≤ p
      · by_cases h1 : p ≤ ns.length
        · tb_start
          exact qy p rfl h0 h1
        · tb_start
          exact qn (.int fun k => h1 k.2)
      · tb_start
        exact qn (.int fun k => h0 k.1)
    · tb_start
      exact qn (fun p e => (hno p e).elim)
end
end Ur
namespace Ur
open PySem L2
/-- a window is let by, other things are refused -/
def sp_Ready_need_window (K : PySem.W.Frag) (C W : Addr) : Sp := fun vs H Q E => ∃ (L : Addr → Prop) (o : Addr) (v w : V) (ns : List Int), vs = [.ref o, v, w] ∧ Rdy C L H o ns ∧ Kind H v ∧ Kind H w ∧ (∀ f b : Int, v = .int f → w = .int b → 0 ≤ f → f ≤ b → b ≤ ns.length → Q .non H) ∧ (NoWin ns.length v w → E (.ref W) none H)
section
variable {P : Program} {w : World} {K : PySem.W.Frag} {mg : Str → Option Value} {base : Heap} {A : Adr}
theorem ok_Ready_need_window (T : Txt w K mg A) : FnOk P w K mg base (L2.CX P w) 3 A.f_Ready_need_window A.d_Ready_need_window ["self", "first", "behind"] (sp_Ready_need_window K A.c_Ready A.c_NoWindow) := by
  have G_Ready_need_place := ok_Ready_need_place (P := P) (w := w) (base := base) T
  refine T.F_Ready_need_window.okX sc_Ready_need_window (fun vs H Q E h => ?_) (fun cdv Ar outer s H vs Q E hr h => ?_)
  · obtain ⟨L, o, v, w, ns, rfl, _⟩ := h
    rfl
  · have C_Ready := T.C_Ready
    have n_Ready_many := T.n_Ready_many
    have n_Ready_lasts := T.n_Ready_lasts
    have n_Ready_nexts := T.n_Ready_nexts
    obtain ⟨L, o, v, w, ns, rfl, r, hk, hk2, qy, qn⟩ := h
    obtain ⟨dx, la, na, eo, el, en, _⟩ := r.all
    refine ⟨_, (pss_cons (ps_expr (Ur.pe_methA (pv 0) T.C_Ready T.M_Ready_need_place G_Ready_need_place (hr.mono (by decide)) T.b_Ready_need_place (fun σ => passAt (takes_of rfl rfl rfl rfl) σ) (pa_cons (pv 1) pa_nil)))
    (pss_cons (ps_expr (Ur.pe_methA (pv 0) T.C_Ready T.M_Ready_need_place G_Ready_need_place (hr.mono (by decide)) T.b_Ready_need_place (fun σ => passAt (takes_of rfl rfl rfl rfl) σ) (pa_cons (pv 2) pa_nil)))
    (pss_one (ps_if (pt_cmpR op_gt (pv 1) (pv 2) (nomark _)) (pss_one (ps_raise rfl (takes_of rfl rfl rfl rfl) (pmk_own PySem.F.excBase_ValueError T.x_NoWindow T.g_NoWindow T.k_NoWindow (raises_own T.b_NoWindow T.t_NoWindow) (by exact rfl)))) pss_nil)))), ?_⟩
    tb_start
    · exact fun hn => qn hn.winL
    intro f rfl h0 h1
    tb_start
    · exact fun hn => qn hn.winR
    intro b rfl h2 h3
    by_cases h4 : f ≤ b
    · tb_start
      exact qy f b rfl rfl h0 h4 h3
    · tb_start
      exact qn (.ints fun k => h4 k.2.1)
end
end Ur
namespace Ur
open PySem L2
/-- the first places of a window, a new list; other things are refused -/
def sp_Ready_firsts (K : PySem.W.Frag) (C W : Addr) : Sp := fun vs H Q E => ∃ (L : Addr → Prop) (o : Addr) (v w : V) (ns : List Int), vs = [.ref o, v, w] ∧ Rdy C L H o ns ∧ Kind H v ∧ Kind H w ∧ ns.length ≤ 1000 ∧ (∀ f b : Int, v = .int f → w = .int b → 0 ≤ f → f ≤ b → b ≤ ns.length → ∀ p H', H' p = some (.lst ((firP ns f b).map V.int)) → Same H H' → H p = none → Q (.ref p) H') ∧ (NoWin ns.length v w → E (.ref W) none H)
section
variable {P : Program} {w : World} {K : PySem.W.Frag} {mg : Str → Option Value} {base : Heap} {A : Adr}
theorem ok_Ready_firsts (T : Txt w K mg A) : FnOk P w K mg base (L2.CX P w) 4 A.f_Ready_firsts A.d_Ready_firsts ["self", "first", "behind"] (sp_Ready_firsts K A.c_Ready A.c_NoWindow) := by
  have G_Ready_need_window := ok_Ready_need_window (P := P) (w := w) (base := base) T
  refine T.F_Ready_firsts.okX sc_Ready_firsts (fun vs H Q E h => ?_) (fun cdv Ar outer s H vs Q E hr h => ?_)
  · obtain ⟨L, o, v, w, ns, rfl, _⟩ := h
    rfl
  · have C_Ready := T.C_Ready
    have n_Ready_many := T.n_Ready_many
    have n_Ready_lasts := T.n_Ready_lasts
    have n_Ready_nexts := T.n_Ready_nexts
    obtain ⟨L, o, v, w, ns, rfl, r, hk, hk2, hl, qy, qn⟩ := h
    obtain ⟨dx, la, na, eo, el, en, _⟩ := r.all
    have hlp := lastP_len ns
    refine ⟨_, (pss_cons (ps_expr (Ur.pe_methA (pv 0) T.C_Ready T.M_Ready_need_window G_Ready_need_window (hr.mono (by decide)) T.b_Ready_need_window (fun σ => passAt (takes_of rfl rfl rfl rfl) σ) (pa_cons (pv 1) (pa_cons (pv 2) pa_nil))))
    (pss_one (ps_ret (pe_lc (own := [("place", 3)]) (g := gName 3) (by rfl) sc_Ready_firsts.nd (pi_range2 (by rfl) T.m_range (pa_cons (pv 1) (pa_cons (pv 2) pa_nil))) (blkOk_by (own := [("place", 3)]) (N := ["self", "first", "behind", "place"]) (by kernel_rfl)) (fun _ _ _ _ _ => pg_name (i := 3) sc_Ready_firsts.nd rfl (Or.inl rfl)) (fun _ _ _ _ _ => pts_one (pt_cmpR op_lt (pe_ix (Ur.ix_listK (K := K) rfl) (Ur.pe_fldK (K := K) rfl (pv 0) rfl) (pv 3) (fun _ _ => rfl)) (pv 1) (nomark _))) (fun _ _ _ _ _ => (pv 3)))))), ?_⟩
    tb_start
    · exact qn
    intro f b rfl rfl h0 h1 h2
    have q := qy f b rfl rfl h0 h1 h2
    tb_start
    intro D nD
    refine lc_rngIfI (fun k => decide (lp ns (f.toNat + k) < f)) (fun k => f + (k : Nat)) (by omega) nD (fun _ => rfl) ?ht ?he ?hd
    case ht =>
      intro k H' hk s Q2 q2
      have e : (lastP ns).getD (f + (k : Int)).toNat 0 = lp ns (f.toNat + k) := by
        rw [show (f + (k : Int)).toNat = f.toNat + k from by omega]
        exact lastP_getD (by omega)
      have eo' := s _ _ eo
      have el' := s _ _ el
      tb_start
      exact qbl (q2 _ (by kcj_in)) (by rw [e])
    case he =>
      intro k H' hk _ s Q2 q2
      tb_start
      exact q2 _ (by kcj_in)
    case hd =>
      intro H' s e
      exact q _ _ e (by kcj_in) nD
end
end Ur
namespace Ur
open PySem L2
/-- as the row made ready answers; another thing is refused -/
def sp_Live_firsts (K : PySem.W.Frag) (C CR W : Addr) : Sp := fun vs H Q E => ∃ (o : Addr) (x y : V), vs = [.ref o, x, y] ∧ ((∃ (L : Addr → Prop) (pc : Addr) (ns : List Int) (cs : List (Int × Int × List Int)) (f b : Int), x = .int f ∧ y = .int b ∧ Liv C CR L o pc H ns cs ∧ 0 ≤ f ∧ f ≤ b ∧ b ≤ ns.length ∧ ∀ p H', H' p = some (.lst ((firP ns f b).map V.int)) → H p = none → p ≠ o → p ≠ pc → Liv C CR L o pc H' ns cs → Liv C CR (fun b => L b ∨ b = p) o pc H' ns cs → Fr o pc H H' → Q (.ref p) H') ∨ (∃ (L : Addr → Prop) (pc : Addr) (ns : List Int) (cs : List (Int × Int × List Int)), Liv C CR L o pc H ns cs ∧ (∀ H', Liv C CR L o pc H' ns cs → Fr o pc H H' → Kind H' x ∧ Kind H' y) ∧ NoWin ns.length x y ∧ ∀ H', Liv C CR L o pc H' ns cs → Fr o pc H H' → E (.ref W) none H'))
section
variable {P : Program} {w : World} {K : PySem.W.Frag} {mg : Str → Option Value} {base : Heap} {A : Adr}
theorem ok_Live_firsts (T : Txt w K mg A) : FnOk P w K mg base (L2.CX P w) 6 A.f_Live_firsts A.d_Live_firsts ["self", "first", "behind"] (sp_Live_firsts K A.c_Live A.c_Ready A.c_NoWindow) := by
  have G_Live_ready := ok_Live_ready (P := P) (w := w) (base := base) T
  have G_Ready_firsts := ok_Ready_firsts (P := P) (w := w) (base := base) T
  refine T.F_Live_firsts.okX sc_Live_firsts (fun vs H Q E h => ?_) (fun cdv Ar outer s H vs Q E hr h => ?_)
  · obtain ⟨o, x, y, rfl, _⟩ := h
    rfl
  · have C_Live := T.C_Live
    have n_Live_numbers := T.n_Live_numbers
    have n_Live_changes := T.n_Live_changes
    have n_Live_made := T.n_Live_made
    obtain ⟨o, x, y, rfl, h⟩ := h
    refine ⟨_, (pss_one (ps_ret (Ur.pe_methA (pe_meth0 (pv 0) T.C_Live T.M_Live_ready G_Live_ready (hr.mono (by decide)) T.b_Live_ready .nil pass0) T.C_Ready T.M_Ready_firsts G_Ready_firsts (hr.mono (by decide)) T.b_Ready_firsts (fun σ => passAt (takes_of rfl rfl rfl rfl) σ) (pa_cons (pv 1) (pa_cons (pv 2) pa_nil))))), ?_⟩
    rcases h with ⟨L, pc, ns, cs, f, b, rfl, rfl, v, h0, h1, h2, q⟩ | ⟨L, pc, ns, cs, lv, hk, hn, q⟩
    · skip
      obtain ⟨dx, pn, mv, eo, en, _, _⟩ := v.obj
      have hnl := v.len
      tb_start
      intro r H1 r1 v1 f1
      obtain ⟨dx1, la, na, eo1, _, _, _⟩ := r1.all
      obtain ⟨dx2, pn2, mv2, eo2, _, _, _⟩ := v1.obj
      obtain ⟨ts2, ec2, _, _⟩ := v1.chs
      obtain ⟨ts0, ec0, _, _⟩ := v.chs
      tb_start
      · exact fun hw => (hw f b rfl rfl ⟨h0, h1, h2⟩).elim
      intro f' b' ef' eb' _ _ _
      cases ef'
      cases eb'
      intro p H2 e2 s2 n2
      have hpo : p ≠ o := fun e => by rw [e, eo2] at n2; cases n2
      have hpc : p ≠ pc := fun e => by rw [e, ec2] at n2; cases n2
      have np : H p = none := by
        cases k : H p with
        | none => rfl
        | some w => rw [f1 _ _ hpo hpc k] at n2; cases n2
      exact q p _ e2 np hpo hpc (v1.same s2) (v1.add n2 s2 e2) (f1.trans (Fr.same s2))
    · obtain ⟨dx, pn, mv, eo, en, _, _⟩ := lv.obj
      have hnl := lv.len
      tb_start
      intro r H1 r1 v1 f1
      obtain ⟨dx1, la, na, eo1, _, _, _⟩ := r1.all
      obtain ⟨kx, ky⟩ := hk _ v1 f1
      have qq := q _ v1 f1
      tb_start
      · exact fun _ => qq
      · exact fun f b e1 e2 h0 h1 h2 => (hn f b e1 e2 ⟨h0, h1, h2⟩).elim
end
end Ur
namespace Ur
open PySem L2
/-- a number put in; another thing is refused -/
def sp_Live_put (K : PySem.W.Frag) (C W : Addr) : Sp := fun vs H Q E => ∃ (o : Addr) (v : V) (x : Int), vs = [.ref o, v, .int x] ∧ ((∃ (L : Addr → Prop) (CR pc : Addr) (ns : List Int) (cs : List (Int × Int × List Int)) (p : Int), v = .int p ∧ Liv C CR L o pc H ns cs ∧ 0 ≤ p ∧ p ≤ ns.length ∧ ns.length + 1 ≤ 1000 ∧ cs.length + 1 ≤ 10000 ∧ ∀ H', Liv C CR L o pc H' (layd ns p 0 [x]) (cs ++ [(p, 1, gone ns p 0)]) → Fr o pc H H' → Q .non H') ∨ (∃ (L : Addr → Prop) (CR pc : Addr) (ns : List Int) (cs : List (Int × Int × List Int)), Liv C CR L o pc H ns cs ∧ Kind H v ∧ (∀ p : Int, v = .int p → ¬ (0 ≤ p ∧ p ≤ (ns.length : Int))) ∧ E (.ref W) none H))
section
variable {P : Program} {w : World} {K : PySem.W.Frag} {mg : Str → Option Value} {base : Heap} {A : Adr}
theorem ok_Live_put (T : Txt w K mg A) : FnOk P w K mg base (L2.CX P w) 3 A.f_Live_put A.d_Live_put ["self", "place", "number"] (sp_Live_put K A.c_Live A.c_NoPlace) := by
  have G_Live_need_place := ok_Live_need_place (P := P) (w := w) (base := base) T
  have G_Live_noted := ok_Live_noted (P := P) (w := w) (base := base) T
  refine T.F_Live_put.okX sc_Live_put (fun vs H Q E h => ?_) (fun cdv Ar outer s H vs Q E hr h => ?_)
  · obtain ⟨o, v, x, rfl, _⟩ := h
    rfl
  · have C_Live := T.C_Live
    have n_Live_numbers := T.n_Live_numbers
    have n_Live_changes := T.n_Live_changes
    have n_Live_made := T.n_Live_made
    obtain ⟨o, v, x, rfl, h⟩ := h
    refine ⟨_, (pss_cons (ps_expr (Ur.pe_methA (pv 0) T.C_Live T.M_Live_need_place G_Live_need_place (hr.mono (by decide)) T.b_Live_need_place (fun σ => passAt (takes_of rfl rfl rfl rfl) σ) (pa_cons (pv 1) (pa_cons (Ur.pe_b1 (Ur.call_lenIK (K := K) rfl) (by rfl) T.m_len (by decide +kernel) (Ur.pe_fldK (K := K) rfl (pv 0) rfl)) pa_nil))))
    (pss_one (ps_expr (pe_meth (pv 0) T.C_Live T.M_Live_noted G_Live_noted (hr.mono (by decide)) T.b_Live_noted .nil pass0 (pa_cons (pv 1) (pa_cons pe_int (pa_cons (pe_lst (pa_cons (pv 2) pa_nil)) pa_nil))))))), ?_⟩
    rcases h with ⟨L, CR, pc, ns, cs, p, rfl, v, h0, h1, hl1, hc, q⟩ | ⟨L, CR, pc, ns, cs, lv, hk, hn, q⟩
    · skip
      obtain ⟨dx, pn, mv, eo, en, _, _⟩ := v.obj
      obtain ⟨ts, ec, htl, _⟩ := v.chs
      have hnl := v.len
      have hno := v.ne
      tb_start
      intro b nb
      have s1 : Same H (upd H b (.lst [.int x])) := same_new nb
      have eb : (upd H b (.lst [.int x])) b = some (.lst (([x] : List Int).map V.int)) := upd_same
      have eo1 := s1 _ _ eo
      have en1 := s1 _ _ en
      have ec1 := s1 _ _ ec
      have v1 := v.same s1
      generalize (upd H b (.lst [.int x])) = H1 at *
      have hlx : ([x] : List Int).length = 1 := rfl
      tb_start
      intro g r t H2 e1 e2 e3 e4 e5 ng nr nt f
      have hll := layd_len (ns := ns) (gs := [x]) (p := p) (m := 0) h0 (by omega) (by omega)
      rw [hlx] at hll
      have v2 := v1.note ec1 e1 e2 e3 e4 e5 ng nr nt f (by omega) hc
      tb_start
      exact q _ v2 ((Fr.same s1).trans f)
    · obtain ⟨dx, pn, mv, eo, en, _, _⟩ := lv.obj
      have hnl := lv.len
      tb_start
      refine .inr ?_
      tb_start
      exact q
end
end Ur
namespace Ur
open PySem L2
/-- how many unlike numbers a window has; other things are refused -/
def sp_Ready_unlike (K : PySem.W.Frag) (C W : Addr) : Sp := fun vs H Q E => ∃ (L : Addr → Prop) (o : Addr) (v w : V) (ns : List Int), vs = [.ref o, v, w] ∧ Rdy C L H o ns ∧ Kind H v ∧ Kind H w ∧ ns.length ≤ 1000 ∧ (∀ f b : Int, v = .int f → w = .int b → 0 ≤ f → f ≤ b → b ≤ ns.length → ∀ H', Same H H' → Q (.int (wun ns f b : Nat)) H') ∧ (NoWin ns.length v w → E (.ref W) none H)
section
variable {P : Program} {w : World} {K : PySem.W.Frag} {mg : Str → Option Value} {base : Heap} {A : Adr}
theorem ok_Ready_unlike (T : Txt w K mg A) : FnOk P w K mg base (L2.CX P w) 4 A.f_Ready_unlike A.d_Ready_unlike ["self", "first", "behind"] (sp_Ready_unlike K A.c_Ready A.c_NoWindow) := by
  have G_Ready_need_window := ok_Ready_need_window (P := P) (w := w) (base := base) T
  refine T.F_Ready_unlike.okX sc_Ready_unlike (fun vs H Q E h => ?_) (fun cdv Ar outer s H vs Q E hr h => ?_)
  · obtain ⟨L, o, v, w, ns, rfl, _⟩ := h
    rfl
  · have C_Ready := T.C_Ready
    have n_Ready_many := T.n_Ready_many
    have n_Ready_lasts := T.n_Ready_lasts
    have n_Ready_nexts := T.n_Ready_nexts
    obtain ⟨L, o, v, w, ns, rfl, r, hk, hk2, hl, qy, qn⟩ := h
    obtain ⟨dx, la, na, eo, el, en, _⟩ := r.all
    have hlp := lastP_len ns
    refine ⟨_, (pss_cons (ps_expr (Ur.pe_methA (pv 0) T.C_Ready T.M_Ready_need_window G_Ready_need_window (hr.mono (by decide)) T.b_Ready_need_window (fun σ => passAt (takes_of rfl rfl rfl rfl) σ) (pa_cons (pv 1) (pa_cons (pv 2) pa_nil))))
    (pss_one (ps_ret (Ur.pe_b1 (Ur.call_lenIK (K := K) rfl) (by rfl) T.m_len (by decide +kernel) (pe_lc (own := [("last", 3)]) (g := gName 3) (by rfl) sc_Ready_unlike.nd (pi_list (pe_slice (Ur.sl_listK (K := K) rfl) (Ur.pe_fldK (K := K) rfl (pv 0) rfl) (po_some (pv 1)) (po_some (pv 2)))) (blkOk_by (own := [("last", 3)]) (N := ["self", "first", "behind", "last"]) (by kernel_rfl)) (fun _ _ _ _ _ => pg_name (i := 3) sc_Ready_unlike.nd rfl (Or.inl rfl)) (fun _ _ _ _ _ => pts_one (pt_cmpR op_lt (pv 3) (pv 1) (nomark _))) (fun _ _ _ _ _ => (pv 3))))))), ?_⟩
    tb_start
    · exact qn
    intro f b rfl rfl h0 h1 h2
    have q := qy f b rfl rfl h0 h1 h2
    tb_start
    intro p np
    tb_start
    intro D nD
    have hwl : (((lastP ns).drop f.toNat).take (b.toNat - f.toNat)).length ≤ 1000 := by rw [List.length_take, List.length_drop]; omega
    refine lc_intsIfI (ns := ((lastP ns).drop f.toNat).take (b.toNat - f.toNat)) (fun x => decide (x < f)) (fun x => x) (by omega) (by kct_strs) nD (fun _ => rfl) ?ht ?he ?hd
    case ht =>
      intro x H' hx s Q2 q2
      tb_start
      exact q2 _ (by kcj_in)
    case he =>
      intro x H' hx ht s Q2 q2
      tb_start
      exact q2 _ (by kcj_in)
    case hd =>
      intro H' s e
      tb_start
      rw [List.length_map, wun_lasts h0 h1 h2]
      exact q _ (by kcj_in)
end
end Ur
namespace Ur
open PySem L2
/-- as the row made ready answers; another thing is refused -/
def sp_Live_unlike (K : PySem.W.Frag) (C CR W : Addr) : Sp := fun vs H Q E => ∃ (o : Addr) (x y : V), vs = [.ref o, x, y] ∧ ((∃ (L : Addr → Prop) (pc : Addr) (ns : List Int) (cs : List (Int × Int × List Int)) (f b : Int), x = .int f ∧ y = .int b ∧ Liv C CR L o pc H ns cs ∧ 0 ≤ f ∧ f ≤ b ∧ b ≤ ns.length ∧ ∀ H', Liv C CR L o pc H' ns cs → Fr o pc H H' → Q (.int (wun ns f b : Nat)) H') ∨ (∃ (L : Addr → Prop) (pc : Addr) (ns : List Int) (cs : List (Int × Int × List Int)), Liv C CR L o pc H ns cs ∧ (∀ H', Liv C CR L o pc H' ns cs → Fr o pc H H' → Kind H' x ∧ Kind H' y) ∧ NoWin ns.length x y ∧ ∀ H', Liv C CR L o pc H' ns cs → Fr o pc H H' → E (.ref W) none H'))
section
variable {P : Program} {w : World} {K : PySem.W.Frag} {mg : Str → Option Value} {base : Heap} {A : Adr}
theorem ok_Live_unlike (T : Txt w K mg A) : FnOk P w K mg base (L2.CX P w) 6 A.f_Live_unlike A.d_Live_unlike ["self", "first", "behind"] (sp_Live_unlike K A.c_Live A.c_Ready A.c_NoWindow) := by
  have G_Live_ready := ok_Live_ready (P := P) (w := w) (base := base) T
  have G_Ready_unlike := ok_Ready_unlike (P := P) (w := w) (base := base) T
  refine T.F_Live_unlike.okX sc_Live_unlike (fun vs H Q E h => ?_) (fun cdv Ar outer s H vs Q E hr h => ?_)
  · obtain ⟨o, x, y, rfl, _⟩ := h
    rfl
  · have C_Live := T.C_Live
    have n_Live_numbers := T.n_Live_numbers
    have n_Live_changes := T.n_Live_changes
    have n_Live_made := T.n_Live_made
    obtain ⟨o, x, y, rfl, h⟩ := h
    refine ⟨_, (pss_one (ps_ret (Ur.pe_methA (pe_meth0 (pv 0) T.C_Live T.M_Live_ready G_Live_ready (hr.mono (by decide)) T.b_Live_ready .nil pass0) T.C_Ready T.M_Ready_unlike G_Ready_unlike (hr.mono (by decide)) T.b_Ready_unlike (fun σ => passAt (takes_of rfl rfl rfl rfl) σ) (pa_cons (pv 1) (pa_cons (pv 2) pa_nil))))), ?_⟩
    rcases h with ⟨L, pc, ns, cs, f, b, rfl, rfl, v, h0, h1, h2, q⟩ | ⟨L, pc, ns, cs, lv, hk, hn, q⟩
    · skip
      obtain ⟨dx, pn, mv, eo, en, _, _⟩ := v.obj
      have hnl := v.len
      tb_start
      intro r H1 r1 v1 f1
      obtain ⟨dx1, la, na, eo1, _, _, _⟩ := r1.all
      tb_start
      · exact fun hw => (hw f b rfl rfl ⟨h0, h1, h2⟩).elim
      intro f' b' ef' eb' _ _ _
      cases ef'
      cases eb'
      intro H2 s2
      exact q _ (v1.same s2) (f1.trans (Fr.same s2))
    · obtain ⟨dx, pn, mv, eo, en, _, _⟩ := lv.obj
      have hnl := lv.len
      tb_start
      intro r H1 r1 v1 f1
      obtain ⟨dx1, la, na, eo1, _, _, _⟩ := r1.all
      obtain ⟨kx, ky⟩ := hk _ v1 f1
      have qq := q _ v1 f1
      tb_start
      · exact fun _ => qq
      · exact fun f b e1 e2 h0 h1 h2 => (hn f b e1 e2 ⟨h0, h1, h2⟩).elim
end
end Ur
namespace Ur
open PySem L2
/-- a row as a text -/
def sp_show_row (K : PySem.W.Frag) : Sp := fun vs H Q _ => ∃ (a : Addr) (ns : List Int), vs = [.ref a] ∧ SqL K H a (ns.map V.int) ∧ ns.length ≤ 1000 ∧ (∀ n ∈ ns, n.natAbs < 10 ^ 40) ∧ ∀ H', Same H H' → Q (.str (SX.S (showC ns))) H'
section
variable {P : Program} {w : World} {K : PySem.W.Frag} {mg : Str → Option Value} {base : Heap} {A : Adr}
theorem ok_show_row (T : Txt w K mg A) : FnOk P w K mg base CX0 1 A.f_show_row A.d_show_row ["row"] (sp_show_row K) := by
  refine T.F_show_row.ok sc_show_row (fun vs H Q E h => ?_) (fun cdv Ar outer s H vs Q E hr h => ?_)
  · obtain ⟨a, ns, rfl, _⟩ := h
    rfl
  · obtain ⟨a, ns, rfl, ha, hl, hb, q⟩ := h
    refine ⟨_, (pss_cons (ps_if (pt_cmpR op_eq (Ur.pe_b1 (Ur.call_lenIK (K := K) rfl) (by rfl) T.m_len (by decide +kernel) (pv 0)) pe_int (nomark _)) (pss_one (ps_ret pe_str)) pss_nil)
    (pss_one (ps_ret (pe_join pe_str (pe_lc (own := [("number", 1)]) (g := gName 1) (by rfl) sc_show_row.nd (pi_list (pv 0)) (blkOk_by (own := [("number", 1)]) (N := ["row", "number"]) (by kernel_rfl)) (fun _ _ _ _ _ => pg_name (i := 1) sc_show_row.nd rfl (Or.inl rfl)) (fun _ _ _ _ _ => pts_nil) (fun _ _ _ _ _ => (Ur.pe_t1 call_str_int (by rfl) T.m_str (by decide +kernel) (pv 1)))))))), ?_⟩
    by_cases h0 : ns = []
    · subst h0
      tb_start
      exact q _ (by kcj_in)
    · have hpos : 0 < ns.length := List.length_pos_iff.mpr h0
      tb_start
      refine bri (fun h => absurd h (by omega)) (fun _ => ?_)
      tb_start
      intro D nD
      refine lc_ints (fun n => V.str (Str.ofString (toString n))) (by omega) ha nD (fun _ => rfl) ?he ?hd
      case he =>
        intro x H' hx s Q' q'
        have hlg := log_small (hb x hx) (by decide)
        tb_start
        exact q' _ (by kcj_in)
      case hd =>
        intro H' s e
        refine ⟨_, _, ns.map (fun n => Str.ofString (toString n)), rfl, rfl, .inl (SqL.of (by rw [e, List.map_map]; rfl)), ?_, ?_⟩
        · have h1 := sum_lens (c := 41) (ns.map fun n => Str.ofString (toString n)) fun y hy => by
            obtain ⟨n, hn, rfl⟩ := List.mem_map.mp hy
            rw [intC_S, SX.S_len]
            exact intC_len (by decide) (hb n hn)
          rw [List.length_map] at h1 ⊢
          have h2 : (Str.ofString " ").length = 1 := by decide
          rw [h2]
          omega
        · rw [show Str.ofString " " = SX.S [32] from by decide, join_show h0]
          exact q _ s
      exact ⟨_, rfl⟩
end
end Ur
namespace Ur
open PySem L2
/-- the answer to a row of three words -/
def sp_Desk_asked (K : PySem.W.Frag) (C CL CR W0 W1 W2 W3 : Addr) : Sp := fun vs H Q E => ∃ (L : Addr → Prop) (o lo pc : Addr) (ns : List Int) (hs : List (List Int)) (k : Nat) (x y : Int), vs = [.ref o, .str (headS k), .int x, .int y] ∧ Dsk C CL CR L o lo pc H ns hs ∧ k < 4 ∧ 0 ≤ x ∧ (2 ≤ k → y.natAbs < 10 ^ 30) ∧ ns.length + 1 ≤ 400 ∧ hs.length + 1 ≤ 10000 ∧ DOut (excK W0 W1 W2 W3) C CL CR L o lo pc H ns hs Q E (askD ns hs k x y)
section
variable {P : Program} {w : World} {K : PySem.W.Frag} {mg : Str → Option Value} {base : Heap} {A : Adr}
theorem ok_Desk_asked (T : Txt w K mg A) : FnOk P w K mg base (L2.CX P w) 7 A.f_Desk_asked A.d_Desk_asked ["self", "head", "one", "other"] (sp_Desk_asked K A.c_Desk A.c_Live A.c_Ready A.c_NoCommand A.c_NoRow A.c_NoWindow A.c_NoPlace) := by
  have G_Live_change := ok_Live_change (P := P) (w := w) (base := base) T
  have G_Live_firsts := ok_Live_firsts (P := P) (w := w) (base := base) T
  have G_Live_put := ok_Live_put (P := P) (w := w) (base := base) T
  have G_Live_unlike := ok_Live_unlike (P := P) (w := w) (base := base) T
  have G_show_row := ok_show_row (P := P) (w := w) (base := base) T
  refine T.F_Desk_asked.okX sc_Desk_asked (fun vs H Q E h => ?_) (fun cdv Ar outer s H vs Q E hr h => ?_)
  · obtain ⟨L, o, lo, pc, ns, hs, k, x, y, rfl, _⟩ := h
    rfl
  · have C_Desk := T.C_Desk
    have n_Desk_live := T.n_Desk_live
    obtain ⟨L, o, lo, pc, ns, hs, k, x, y, rfl, d, hk, hx, hy, hnl, hhl, out⟩ := h
    obtain ⟨dx, eo⟩ := d.obj
    obtain ⟨cs, lv, bk⟩ := d.liv
    have hcl := bk.len
    obtain ⟨dxl, pnl, mvl, el⟩ := lv.ob
    have hsm := d.small
    refine ⟨_, (pss_cons (ps_if (pt_cmpR op_eq (pv 1) pe_str (nomark _)) (pss_one (ps_ret (Ur.pe_t1 call_str_int (by rfl) T.m_str (by decide +kernel) (Ur.pe_methA (Ur.pe_fldK (K := K) rfl (pv 0) rfl) T.C_Live T.M_Live_unlike G_Live_unlike (hr.mono (by decide)) T.b_Live_unlike (fun σ => passAt (takes_of rfl rfl rfl rfl) σ) (pa_cons (pv 2) (pa_cons (pv 3) pa_nil)))))) pss_nil)
    (pss_cons (ps_if (pt_cmpR op_eq (pv 1) pe_str (nomark _)) (pss_one (ps_ret (pe_call G_show_row (hr.mono (by decide)) (by rfl) T.g_show_row T.F_show_row.kp T.b_show_row .nil pass0 (pa_cons (Ur.pe_methA (Ur.pe_fldK (K := K) rfl (pv 0) rfl) T.C_Live T.M_Live_firsts G_Live_firsts (hr.mono (by decide)) T.b_Live_firsts (fun σ => passAt (takes_of rfl rfl rfl rfl) σ) (pa_cons (pv 2) (pa_cons (pv 3) pa_nil))) pa_nil)))) pss_nil)
    (pss_cons (ps_if (pt_cmpR op_eq (pv 1) pe_str (nomark _)) (pss_one (ps_expr (Ur.pe_methA (Ur.pe_fldK (K := K) rfl (pv 0) rfl) T.C_Live T.M_Live_change G_Live_change (hr.mono (by decide)) T.b_Live_change (fun σ => passAt (takes_of rfl rfl rfl rfl) σ) (pa_cons (pv 2) (pa_cons (pv 3) pa_nil))))) (pss_one (ps_expr (Ur.pe_methA (Ur.pe_fldK (K := K) rfl (pv 0) rfl) T.C_Live T.M_Live_put G_Live_put (hr.mono (by decide)) T.b_Live_put (fun σ => passAt (takes_of rfl rfl rfl rfl) σ) (pa_cons (pv 2) (pa_cons (pv 3) pa_nil))))))
    (pss_one (ps_ret pe_str))))), ?_⟩
    have hk4 : k = 0 ∨ k = 1 ∨ k = 2 ∨ k = 3 := by omega
    rcases hk4 with rfl | rfl | rfl | rfl
    · have out : DOut (excK A.c_NoCommand A.c_NoRow A.c_NoWindow A.c_NoPlace) A.c_Desk A.c_Live A.c_Ready L o lo pc H ns hs Q E (if x ≤ y ∧ y ≤ (ns.length : Int) then .ok (intC (wun ns x y : Nat)) ns hs else .bad 2) := out
      by_cases hw : x ≤ y ∧ y ≤ (ns.length : Int)
      · rw [if_pos hw] at out
        tb_start
        refine .inl ?_
        tb_start
        intro H1 v1 f1
        have hwl := wun_le (ns := ns) (f := x) (b := y)
        have hlg : (((wun ns x y : Nat) : Int)).natAbs.log2 < 1920 := log_small (k := 4) (by omega) (by decide)
        tb_start
        rw [intC_S]
        exact out _ (d.still f1 v1 bk) f1
      · rw [if_neg hw] at out
        tb_start
        refine .inr ?_
        tb_start
        · exact fun H1 v1 f1 => out _ (d.still f1 v1 bk) f1
        · exact fun _ _ _ => ⟨Kind.int, Kind.int⟩
        · exact NoWin.ints fun k => hw ⟨k.2.1, k.2.2⟩
    · have out : DOut (excK A.c_NoCommand A.c_NoRow A.c_NoWindow A.c_NoPlace) A.c_Desk A.c_Live A.c_Ready L o lo pc H ns hs Q E (if x ≤ y ∧ y ≤ (ns.length : Int) then .ok (showC (firP ns x y)) ns hs else .bad 2) := out
      by_cases hw : x ≤ y ∧ y ≤ (ns.length : Int)
      · rw [if_pos hw] at out
        tb_start
        refine .inl ?_
        tb_start
        intro p H1 e1 n1 np1 np2 v1 _ f1
        have hfl := firP_len (ns := ns) hx hw.1 hw.2
        have hwl := wun_le (ns := ns) (f := x) (b := y)
        have hfb : ∀ n ∈ firP ns x y, n.natAbs < 10 ^ 40 := fun n hn => by
          have := firP_in hn
          have h3 : n.natAbs < 10 ^ 3 := by omega
          exact Nat.lt_of_lt_of_le h3 (Nat.pow_le_pow_right (by decide) (by decide))
        tb_start
        intro H2 s2
        exact out _ ((d.still f1 v1 bk).same s2) (f1.trans (Fr.same s2))
      · rw [if_neg hw] at out
        tb_start
        refine .inr ?_
        tb_start
        · exact fun H1 v1 f1 => out _ (d.still f1 v1 bk) f1
        · exact fun _ _ _ => ⟨Kind.int, Kind.int⟩
        · exact NoWin.ints fun k => hw ⟨k.2.1, k.2.2⟩
    · have out : DOut (excK A.c_NoCommand A.c_NoRow A.c_NoWindow A.c_NoPlace) A.c_Desk A.c_Live A.c_Ready L o lo pc H ns hs Q E (if x < (ns.length : Int) then .ok okC (layd ns x 1 [y]) (hs ++ [ns]) else .bad 3) := out
      by_cases hw : x < (ns.length : Int)
      · rw [if_pos hw] at out
        tb_start
        refine .inl ?_
        tb_start
        intro H1 v1 f1
        tb_start
        rw [ok_S]
        have ll := layd_len (ns := ns) (gs := [y]) (p := x) (m := 1) hx (by decide) (by omega)
        exact out _ (d.next f1 v1 (bk.note hx (by decide) (by omega) hsm) (layd_bd d.bd fun n hn => by rw [List.mem_singleton.mp hn]; exact hy (by decide)) d.obd (by rw [List.length_singleton] at ll; omega)) f1
      · rw [if_neg hw] at out
        tb_start
        refine .inr ?_
        tb_start
        · exact out _ d (Fr.same (Same.refl _))
        · exact fun p e k => hw (by cases e; omega)
    · have out : DOut (excK A.c_NoCommand A.c_NoRow A.c_NoWindow A.c_NoPlace) A.c_Desk A.c_Live A.c_Ready L o lo pc H ns hs Q E (if x ≤ (ns.length : Int) then .ok okC (layd ns x 0 [y]) (hs ++ [ns]) else .bad 3) := out
      by_cases hw : x ≤ (ns.length : Int)
      · rw [if_pos hw] at out
        tb_start
        refine .inl ?_
        tb_start
        intro H1 v1 f1
        tb_start
        rw [ok_S]
        have ll := layd_len (ns := ns) (gs := [y]) (p := x) (m := 0) hx (by decide) (by omega)
        exact out _ (d.next f1 v1 (bk.note hx (by decide) (by omega) hsm) (layd_bd d.bd fun n hn => by rw [List.mem_singleton.mp hn]; exact hy (by decide)) d.obd (by rw [List.length_singleton] at ll; omega)) f1
      · rw [if_neg hw] at out
        tb_start
        refine .inr ?_
        tb_start
        · exact out _ d (Fr.same (Same.refl _))
        · exact fun p e k => hw (by cases e; omega)
end
end Ur
namespace Ur
open PySem L2
/-- the row, a new list -/
def sp_Live_row (K : PySem.W.Frag) (C : Addr) : Sp := fun vs H Q _ => ∃ (L : Addr → Prop) (CR o pc : Addr) (ns : List Int) (cs : List (Int × Int × List Int)), vs = [.ref o] ∧ Liv C CR L o pc H ns cs ∧ ∀ p H', H' p = some (.lst (ns.map V.int)) → Same H H' → H p = none → Q (.ref p) H'
section
variable {P : Program} {w : World} {K : PySem.W.Frag} {mg : Str → Option Value} {base : Heap} {A : Adr}
theorem ok_Live_row (T : Txt w K mg A) : FnOk P w K mg base CX0 1 A.f_Live_row A.d_Live_row ["self"] (sp_Live_row K A.c_Live) := by
  refine T.F_Live_row.ok sc_Live_row (fun vs H Q E h => ?_) (fun cdv Ar outer s H vs Q E hr h => ?_)
  · obtain ⟨L, CR, o, pc, ns, cs, rfl, _⟩ := h
    rfl
  · have C_Live := T.C_Live
    have n_Live_numbers := T.n_Live_numbers
    have n_Live_changes := T.n_Live_changes
    have n_Live_made := T.n_Live_made
    obtain ⟨L, CR, o, pc, ns, cs, rfl, v, q⟩ := h
    obtain ⟨dx, pn, mv, eo, en, _, _⟩ := v.obj
    have hnl := v.len
    refine ⟨_, (pss_one (ps_ret (Ur.pe_t1 (Ur.call_list_ofK (K := K) rfl) (by rfl) T.m_list (by decide +kernel) (Ur.pe_fldK (K := K) rfl (pv 0) rfl)))), ?_⟩
    tb_start
    intro p np
    exact q p _ upd_same (same_new np) np
end
end Ur
namespace Ur
open PySem L2
/-- a number taken out: tells it; another thing is refused -/
def sp_Live_take (K : PySem.W.Frag) (C W : Addr) : Sp := fun vs H Q E => ∃ (o : Addr) (v : V), vs = [.ref o, v] ∧ ((∃ (L : Addr → Prop) (CR pc : Addr) (ns : List Int) (cs : List (Int × Int × List Int)) (p : Int), v = .int p ∧ Liv C CR L o pc H ns cs ∧ 0 ≤ p ∧ p < ns.length ∧ cs.length + 1 ≤ 10000 ∧ ∀ H', Liv C CR L o pc H' (layd ns p 1 []) (cs ++ [(p, 0, gone ns p 1)]) → Fr o pc H H' → Q (.int (ns.getD p.toNat 0)) H') ∨ (∃ (L : Addr → Prop) (CR pc : Addr) (ns : List Int) (cs : List (Int × Int × List Int)), Liv C CR L o pc H ns cs ∧ Kind H v ∧ (∀ p : Int, v = .int p → ¬ (0 ≤ p ∧ p ≤ ((ns.length : Int) - 1))) ∧ E (.ref W) none H))
section
variable {P : Program} {w : World} {K : PySem.W.Frag} {mg : Str → Option Value} {base : Heap} {A : Adr}
theorem ok_Live_take (T : Txt w K mg A) : FnOk P w K mg base (L2.CX P w) 3 A.f_Live_take A.d_Live_take ["self", "place"] (sp_Live_take K A.c_Live A.c_NoPlace) := by
  have G_Live_need_place := ok_Live_need_place (P := P) (w := w) (base := base) T
  have G_Live_noted := ok_Live_noted (P := P) (w := w) (base := base) T
  refine T.F_Live_take.okX sc_Live_take (fun vs H Q E h => ?_) (fun cdv Ar outer s H vs Q E hr h => ?_)
  · obtain ⟨o, v, rfl, _⟩ := h
    rfl
  · have C_Live := T.C_Live
    have n_Live_numbers := T.n_Live_numbers
    have n_Live_changes := T.n_Live_changes
    have n_Live_made := T.n_Live_made
    obtain ⟨o, v, rfl, h⟩ := h
    refine ⟨_, (pss_cons (ps_expr (Ur.pe_methA (pv 0) T.C_Live T.M_Live_need_place G_Live_need_place (hr.mono (by decide)) T.b_Live_need_place (fun σ => passAt (takes_of rfl rfl rfl rfl) σ) (pa_cons (pv 1) (pa_cons (pe_op op_sub (Ur.pe_b1 (Ur.call_lenIK (K := K) rfl) (by rfl) T.m_len (by decide +kernel) (Ur.pe_fldK (K := K) rfl (pv 0) rfl)) pe_int) pa_nil))))
    (pss_one (ps_ret (pe_ix (Ur.ix_listK (K := K) rfl) (pe_meth (pv 0) T.C_Live T.M_Live_noted G_Live_noted (hr.mono (by decide)) T.b_Live_noted .nil pass0 (pa_cons (pv 1) (pa_cons pe_int (pa_cons (pe_lst pa_nil) pa_nil)))) pe_int (fun _ _ => rfl))))), ?_⟩
    rcases h with ⟨L, CR, pc, ns, cs, p, rfl, v, h0, h1, hc, q⟩ | ⟨L, CR, pc, ns, cs, lv, hk, hn, q⟩
    · skip
      obtain ⟨dx, pn, mv, eo, en, _, _⟩ := v.obj
      obtain ⟨ts, ec, htl, _⟩ := v.chs
      have hnl := v.len
      have hno := v.ne
      tb_start
      intro b nb
      have s1 : Same H (upd H b (.lst [])) := same_new nb
      have eb : (upd H b (.lst [])) b = some (.lst (([] : List Int).map V.int)) := upd_same
      have eo1 := s1 _ _ eo
      have en1 := s1 _ _ en
      have ec1 := s1 _ _ ec
      have v1 := v.same s1
      generalize (upd H b (.lst [])) = H1 at *
      have hlx : ([] : List Int).length = 0 := rfl
      tb_start
      intro g r t H2 e1 e2 e3 e4 e5 ng nr nt f
      have hll := layd_len (ns := ns) (gs := []) (p := p) (m := 1) h0 (by omega) (by omega)
      rw [hlx] at hll
      have v2 := v1.note ec1 e1 e2 e3 e4 e5 ng nr nt f (by omega) hc
      have hg0 : gone ns p 1 = [ns.getD p.toNat 0] := by
        unfold gone
        show (ns.drop p.toNat).take 1 = _
        rw [List.drop_eq_getElem_cons (by omega), List.getD_eq_getElem?_getD, List.getElem?_eq_getElem (by omega)]
        rfl
      rw [hg0] at e1
      tb_start
      exact q _ v2 ((Fr.same s1).trans f)
    · obtain ⟨dx, pn, mv, eo, en, _, _⟩ := lv.obj
      have hnl := lv.len
      tb_start
      refine .inr ?_
      tb_start
      exact q
end
end Ur
namespace Ur
open PySem L2
/-- the parting, window by window as long as can be: a new list -/
def sp_fewest (K : PySem.W.Frag) : Sp := fun vs H Q _ => ∃ (a : Addr) (ns : List Int) (m : Int), vs = [.ref a, .int m] ∧ SqL K H a (ns.map V.int) ∧ ns.length ≤ 1000 ∧ 1 ≤ m ∧ ∀ p H', H' p = some (.lst ((parts ns m).map V.int)) → Same H H' → H p = none → Q (.ref p) H'
section
variable {P : Program} {w : World} {K : PySem.W.Frag} {mg : Str → Option Value} {base : Heap} {A : Adr}
theorem ok_fewest (T : Txt w K mg A) : FnOk P w K mg base CX0 1 A.f_fewest A.d_fewest ["row", "many"] (sp_fewest K) := by
  refine T.F_fewest.ok sc_fewest (fun vs H Q E h => ?_) (fun cdv Ar outer s H vs Q E hr h => ?_)
  · obtain ⟨a, ns, m, rfl, _⟩ := h
    rfl
  · obtain ⟨a, ns, m, rfl, ha, hl, hm, q⟩ := h
    refine ⟨_, (pss_cons (ps_set (i := 2) sc_fewest.nd rfl (Or.inl rfl) (pe_lst pa_nil))
    (pss_cons (ps_set (i := 3) sc_fewest.nd rfl (Or.inl rfl) pe_dnewK)
    (pss_cons (ps_for PassesOwn.never (by rfl) (pi_enum (by rfl) T.m_enumerate (pa_cons (pv 0) pa_nil)) (pg_tup (by rfl) (pgs_cons (pg_name (i := 4) sc_fewest.nd rfl (Or.inl rfl)) (pgs_cons (pg_name (i := 5) sc_fewest.nd rfl (Or.inl rfl)) pgs_nil))) (pss_cons (ps_if (PW.pt (pw_and (pt_cmp (pc_dnotin (hu_of hr) (pv 5) (pv 3))) (pw_and1 (pt_cmpR op_eq (Ur.pe_b1 call_lenD (by rfl) T.m_len (by decide +kernel) (pv 3)) (pv 1) (nomark _))))) (pss_cons (ps_expr (pe_bm PySem.F.plainAttrs_list PySem.F.slot_list_append PySem.F.type_list_append mt_append (pv 2) (pa_cons (pv 4) pa_nil)))
    (pss_one (ps_set (i := 3) sc_fewest.nd rfl (Or.inl rfl) pe_dnewK))) pss_nil)
    (pss_one (ps_dput (hu_of hr) (pv 3) (pv 5) pe_bl rfl))))
    (pss_one (ps_ret (pe_op op_cat (pv 2) (pe_slice (Ur.sl_listK (K := K) rfl) (pe_lst (pa_cons (Ur.pe_b1 (Ur.call_lenIK (K := K) rfl) (by rfl) T.m_len (by decide +kernel) (pv 0)) pa_nil)) po_none (po_some (Ur.pe_b1 (Ur.call_lenIK (K := K) rfl) (by rfl) T.m_len (by decide +kernel) (pv 0)))))))))), ?_⟩
    tb_start
    intro fo nfo
    tb_start
    intro kn0 nkn
    have hfk : fo ≠ kn0 := by kcj_m
    tb_start
    refine for_enum (xs := ns.map V.int) (fun i σ H' => Iv (∃ (kn : Addr) (kvs : List (Key × V)) (u4 u5 : Option V), σ = [some (.ref a), some (.int m), some (.ref fo), some (.ref kn), u4, u5] ∧ fo ≠ kn ∧ H kn = none ∧ H' fo = some (.lst ((gs ns m i).1.map V.int)) ∧ H' kn = some (.dK kvs) ∧ Met kvs (gwin ns m i) ∧ Same H H')) ?h0 ?hl ?hs ?hd
    case h0 =>
      have fk : H kn0 = none := by cc_off
      exact ⟨kn0, [], _, _, rfl, hfk, fk, by kct_strs, upd_same, (by show Met [] ((ns.drop 0).take 0); rw [List.take_zero]; exact Met.nil), by kcj_in⟩
    case hl =>
      rintro i σ H' hi ⟨kn, kvs, u4, u5, rfl, hfk, fk, ef, ek, mt, s⟩
      exact s.seq ha
    case hs =>
      rintro i x σ H1 H' hx ⟨kn, kvs, u4, u5, rfl, hfk, fk, ef, ek, mt, s⟩ s2
      obtain ⟨n, hn, rfl⟩ := iv_get hx
      have hi := (List.getElem?_eq_some_iff.mp hn).1
      have hgl := gs_len ns m i
      have hul := mt.len
      have hwl := gwin_le (ns := ns) hm i (by omega)
      have hkl : kvs.length ≤ 1000 := by
        have h := ulen_le (gwin ns m i)
        unfold gwin at h
        rw [List.length_take] at h
        have h2 := gs_le ns m i
        unfold gwin at hul
        omega
      have hh := mt.has n
      tb_start
      rw [hh]
      refine brn (fun h1 => ?_) (fun h1 => ?_)
      · tb_start
        refine bri (fun h2 => ?_) (fun h2 => ?_)
        · obtain ⟨c1, c2⟩ := gs_cut hn h1 (by omega)
          tb_start
          intro k2 nk2
          have hf2 : fo ≠ k2 := by kcj_m
          have fk2 : H k2 = none := by cc_off
          have h00 : ([] : List (Key × V)).length = 0 := rfl
          tb_start
          refine ⟨k2, _, _, _, rfl, hf2, fk2, lst_cast (by kct_strs) (by rw [c1, List.map_append]), by kct_strs, ?_, by kcj_in⟩
          rw [c2]
          exact Met.nil.put n (.bl true)
        · obtain ⟨c1, c2⟩ := gs_go (m := m) hn (fun z => h2 (by have := z.2; omega))
          tb_start
          refine ⟨kn, _, _, _, rfl, hfk, fk, lst_cast (by kct_strs) (by rw [c1]), by kct_strs, ?_, by kcj_in⟩
          rw [c2]
          exact mt.put n (.bl true)
      · obtain ⟨c1, c2⟩ := gs_go (m := m) hn (fun z => z.1 h1)
        tb_start
        refine ⟨kn, _, _, _, rfl, hfk, fk, lst_cast (by kct_strs) (by rw [c1]), by kct_strs, ?_, by kcj_in⟩
        rw [c2]
        exact mt.put n (.bl true)
    case hd =>
      rintro σ H1 ⟨kn, kvs, u4, u5, rfl, hfk, fk, ef, ek, mt, s⟩
      rw [List.length_map] at ef mt
      have hgl := gs_len ns m ns.length
      tb_start
      intro p1 np1
      have e1 : upd H1 p1 (.lst [V.int ns.length]) p1 = some (.lst (([(ns.length : Int)] : List Int).map V.int)) := upd_same
      have hf1 : fo ≠ p1 := by kcj_m
      tb_start
      intro p2 np2
      have hf2 : fo ≠ p2 := by kcj_m
      tb_start
      intro p3 np3
      exact q p3 _ (lst_cast upd_same (by rw [← List.map_append, parts_take])) (by kcj_in) (by cc_off)
end
end Ur
namespace Ur
open PySem L2
/-- nothing is held -/
def sp_Held___init__ (K : PySem.W.Frag) (C : Addr) : Sp := fun vs H Q _ => ∃ (o dx : Addr), vs = [.ref o] ∧ H o = some (.ins C dx []) ∧ ∀ d H', H' o = some (.ins C dx (hldF d)) → H' d = some (.dK []) → H d = none → d ≠ o → But o H H' → Q .non H'
section
variable {P : Program} {w : World} {K : PySem.W.Frag} {mg : Str → Option Value} {base : Heap} {A : Adr}
theorem ok_Held___init__ (T : Txt w K mg A) : FnOk P w K mg base CX0 1 A.f_Held___init__ A.d_Held___init__ ["self"] (sp_Held___init__ K A.c_Held) := by
  refine T.F_Held___init__.ok sc_Held___init__ (fun vs H Q E h => ?_) (fun cdv Ar outer s H vs Q E hr h => ?_)
  · obtain ⟨o, dx, rfl, _⟩ := h
    rfl
  · have C_Held := T.C_Held
    have n_Held_times := T.n_Held_times
    obtain ⟨o, dx, rfl, eo, q⟩ := h
    refine ⟨_, (pss_one (ps_fld (pv 0) pe_dnewK rfl)), ?_⟩
    tb_start
    intro d nd
    have hod : o ≠ d := by kcj_m
    tb_start
    exact q d _ (show _ = some (.ins A.c_Held dx (hldF d)) from upd_same) (by kct_strs) nd (Ne.symm hod) (by cc_are)
end
theorem mk_held {K : PySem.W.Frag} {C x dx : Addr} {H : Hp} {R : Hp → Prop} {E : XK} (nx : H x = none) (nd : H dx = none) (ne : dx ≠ x)
    (q : ∀ d H', H' x = some (.ins C dx (hldF d)) → H' d = some (.dK []) → H d = none → d ≠ x → Same H H' → R H') :
    sp_Held___init__ K C [.ref x] (upd (upd H dx (.own x)) x (.ins C dx [])) (fun v H2 => v = .non ∧ R H2) E := by
  have s1 : Same H (upd (upd H dx (.own x)) x (.ins C dx [])) := same_upd' nx (same_new nd)
  exact ⟨x, dx, rfl, upd_same, fun d H' e1 e2 n1 n2 b => ⟨rfl, q d H' e1 e2 (s1.free n1) n2 (same_but b nx s1)⟩⟩
end Ur
namespace Ur
open PySem L2
/-- a number comes -/
def sp_Held_come (K : PySem.W.Frag) (C : Addr) : Sp := fun vs H Q _ => ∃ (o dx d : Addr) (kvs : List (Key × V)) (W : List Int) (x : Int), vs = [.ref o, .int x] ∧ H o = some (.ins C dx (hldF d)) ∧ H d = some (.dK kvs) ∧ Cnt kvs W ∧ W.length ≤ 1000 ∧ ∀ kvs', Cnt kvs' (W ++ [x]) → Q .non (upd H d (.dK kvs'))
section
variable {P : Program} {w : World} {K : PySem.W.Frag} {mg : Str → Option Value} {base : Heap} {A : Adr}
theorem ok_Held_come (T : Txt w K mg A) : FnOk P w K mg base CX0 1 A.f_Held_come A.d_Held_come ["self", "number"] (sp_Held_come K A.c_Held) := by
  refine T.F_Held_come.ok sc_Held_come (fun vs H Q E h => ?_) (fun cdv Ar outer s H vs Q E hr h => ?_)
  · obtain ⟨o, dx, d, kvs, W, x, rfl, _⟩ := h
    rfl
  · have C_Held := T.C_Held
    have n_Held_times := T.n_Held_times
    obtain ⟨o, dx, d, kvs, W, x, rfl, eo, ed, c, hl, q⟩ := h
    have hul := ulen_le W
    have hcl := c.len
    have h0 := c.get0 x
    refine ⟨_, (pss_one (ps_dput (hu_of hr) (Ur.pe_fldK (K := K) rfl (pv 0) rfl) (pv 1) (pe_op op_add (pe_dget2 (hu_of hr) (Ur.pe_fldK (K := K) rfl (pv 0) rfl) (pv 1) pe_int ⟨rfl, rfl, rfl, rfl⟩) pe_int) rfl)), ?_⟩
    tb_start
    exact q _ (c.come x)
end
end Ur
namespace Ur
open PySem L2
/-- the first number goes -/
def sp_Held_gone (K : PySem.W.Frag) (C : Addr) : Sp := fun vs H Q _ => ∃ (o dx d : Addr) (kvs : List (Key × V)) (W : List Int) (x : Int), vs = [.ref o, .int x] ∧ H o = some (.ins C dx (hldF d)) ∧ H d = some (.dK kvs) ∧ Cnt kvs (x :: W) ∧ W.length ≤ 1000 ∧ ∀ kvs' H', Cnt kvs' W → H' d = some (.dK kvs') → But d H H' → Q .non H'
section
variable {P : Program} {w : World} {K : PySem.W.Frag} {mg : Str → Option Value} {base : Heap} {A : Adr}
theorem ok_Held_gone (T : Txt w K mg A) : FnOk P w K mg base CX0 1 A.f_Held_gone A.d_Held_gone ["self", "number"] (sp_Held_gone K A.c_Held) := by
  refine T.F_Held_gone.ok sc_Held_gone (fun vs H Q E h => ?_) (fun cdv Ar outer s H vs Q E hr h => ?_)
  · obtain ⟨o, dx, d, kvs, W, x, rfl, _⟩ := h
    rfl
  · have C_Held := T.C_Held
    have n_Held_times := T.n_Held_times
    obtain ⟨o, dx, d, kvs, W, x, rfl, eo, ed, c, hl, q⟩ := h
    have hod : o ≠ d := by kcj_m
    have hul := ulen_le (x :: W)
    rw [List.length_cons] at hul
    have hcl := c.len
    have hv : valV kvs (Sum.inl x) = some (.int ((x :: W).count x : Nat)) := by rw [c.val, if_pos List.mem_cons_self]
    have hg : DGet H d (.int x) (some (.int ((x :: W).count x : Nat))) := dget_some ed hv
    have hv2 : valV (putK kvs (Sum.inl x) (.int (((x :: W).count x : Nat) - 1 : Int))) (Sum.inl x) = some (.int (((x :: W).count x : Nat) - 1 : Int)) := by rw [val_put, if_pos rfl]
    have hg2 : DGet (upd H d (.dK (putK kvs (Sum.inl x) (.int (((x :: W).count x : Nat) - 1 : Int))))) d (.int x) (some (.int (((x :: W).count x : Nat) - 1 : Int))) := dget_some upd_same hv2
    have hcp := count_self_pos (W := W) (x := x)
    refine ⟨_, (pss_cons (ps_daug (hu_of hr) (Ur.pe_fldK (K := K) rfl (pv 0) rfl) (pv 1) pe_int in_sub (fun _ _ _ => rfl))
    (pss_one (ps_if (pt_cmpR op_eq (pe_dget (hu_of hr) (Ur.pe_fldK (K := K) rfl (pv 0) rfl) (pv 1) (fun _ _ => rfl)) pe_int (nomark _)) (pss_one (ps_expr (pe_dpop1 (Ur.pe_fldK (K := K) rfl (pv 0) rfl) (pv 1) ⟨rfl, rfl, rfl, rfl⟩))) pss_nil))), ?_⟩
    tb_start
    refine bri (fun h => ?_) (fun h => ?_)
    · have hx : x ∉ W := fun k => by
        have := List.count_pos_iff.mpr k
        omega
      tb_start
      exact q _ _ (c.gone hx _) upd_same (by cc_are)
    · have hx : x ∈ W := List.count_pos_iff.mp (by omega)
      tb_start
      exact q _ _ (c.less hx) upd_same (by cc_are)
end
end Ur
namespace Ur
open PySem L2
/-- how many unlike numbers there are -/
def sp_Held_unlike (K : PySem.W.Frag) (C : Addr) : Sp := fun vs H Q _ => ∃ (o dx d : Addr) (kvs : List (Key × V)) (W : List Int), vs = [.ref o] ∧ H o = some (.ins C dx (hldF d)) ∧ H d = some (.dK kvs) ∧ Cnt kvs W ∧ Q (.int (ulen W : Nat)) H
section
variable {P : Program} {w : World} {K : PySem.W.Frag} {mg : Str → Option Value} {base : Heap} {A : Adr}
theorem ok_Held_unlike (T : Txt w K mg A) : FnOk P w K mg base CX0 1 A.f_Held_unlike A.d_Held_unlike ["self"] (sp_Held_unlike K A.c_Held) := by
  refine T.F_Held_unlike.ok sc_Held_unlike (fun vs H Q E h => ?_) (fun cdv Ar outer s H vs Q E hr h => ?_)
  · obtain ⟨o, dx, d, kvs, W, rfl, _⟩ := h
    rfl
  · have C_Held := T.C_Held
    have n_Held_times := T.n_Held_times
    obtain ⟨o, dx, d, kvs, W, rfl, eo, ed, c, q⟩ := h
    refine ⟨_, (pss_one (ps_ret (Ur.pe_b1 call_lenD (by rfl) T.m_len (by decide +kernel) (Ur.pe_fldK (K := K) rfl (pv 0) rfl)))), ?_⟩
    tb_start
    exact qint q (by rw [c.len])
end
end Ur
namespace Ur
open PySem L2
/-- for each first place the least behind with so many unlike numbers, or None: a new list -/
def sp_ends_by (K : PySem.W.Frag) : Sp := fun vs H Q _ => ∃ (a : Addr) (ns : List Int) (m : Int), vs = [.ref a, .int m] ∧ SqL K H a (ns.map V.int) ∧ ns.length ≤ 1000 ∧ 1 ≤ m ∧ ∀ p H', H' p = some (.lst ((List.range ns.length).map fun f => optV (endAt ns f m))) → Same H H' → H p = none → Q (.ref p) H'
section
variable {P : Program} {w : World} {K : PySem.W.Frag} {mg : Str → Option Value} {base : Heap} {A : Adr}
theorem ok_ends_by (T : Txt w K mg A) : FnOk P w K mg base CX0 3 A.f_ends_by A.d_ends_by ["row", "many"] (sp_ends_by K) := by
  have G_Held___init__ := ok_Held___init__ (P := P) (w := w) (base := base) T
  have G_Held_come := ok_Held_come (P := P) (w := w) (base := base) T
  have G_Held_gone := ok_Held_gone (P := P) (w := w) (base := base) T
  have G_Held_unlike := ok_Held_unlike (P := P) (w := w) (base := base) T
  refine T.F_ends_by.ok sc_ends_by (fun vs H Q E h => ?_) (fun cdv Ar outer s H vs Q E hr h => ?_)
  · obtain ⟨a, ns, m, rfl, _⟩ := h
    rfl
  · have C_Held := T.C_Held
    have n_Held_times := T.n_Held_times
    obtain ⟨a, ns, m, rfl, ha, hl, hm, q⟩ := h
    refine ⟨_, (pss_cons (ps_set (i := 2) sc_ends_by.nd rfl (Or.inl rfl) (pe_make0 T.M_Held G_Held___init__ (hr.mono (by decide)) (by rfl) T.g_Held T.b_Held___init__ .nil pass0))
    (pss_cons (ps_set (i := 3) sc_ends_by.nd rfl (Or.inl rfl) pe_int)
    (pss_cons (ps_set (i := 4) sc_ends_by.nd rfl (Or.inl rfl) (pe_lst pa_nil))
    (pss_cons (ps_for PassesOwn.never (by rfl) (pi_list (pv 0)) (pg_name (i := 5) sc_ends_by.nd rfl (Or.inl rfl)) (pss_cons (ps_while PassesOwn.never (PW.pt (pw_and (pt_cmpR op_lt (pv 3) (Ur.pe_b1 (Ur.call_lenIK (K := K) rfl) (by rfl) T.m_len (by decide +kernel) (pv 0)) (nomark _)) (pw_and1 (pt_cmpR op_lt (pe_meth0 (pv 2) T.C_Held T.M_Held_unlike G_Held_unlike (hr.mono (by decide)) T.b_Held_unlike .nil pass0) (pv 1) (nomark _))))) (pss_cons (ps_expr (pe_meth (pv 2) T.C_Held T.M_Held_come G_Held_come (hr.mono (by decide)) T.b_Held_come .nil pass0 (pa_cons (pe_ix (Ur.ix_listK (K := K) rfl) (pv 0) (pv 3) (fun _ _ => rfl)) pa_nil)))
    (pss_one (ps_aug (i := 3) sc_ends_by.nd rfl (Or.inl rfl) pe_int ip_add))))
    (pss_cons (ps_expr (pe_bm PySem.F.plainAttrs_list PySem.F.slot_list_append PySem.F.type_list_append mt_append (pv 4) (pa_cons (pe_ifExp (pt_cmpR op_eq (pe_meth0 (pv 2) T.C_Held T.M_Held_unlike G_Held_unlike (hr.mono (by decide)) T.b_Held_unlike .nil pass0) (pv 1) (nomark _)) (pv 3) pe_non) pa_nil)))
    (pss_one (ps_expr (pe_meth (pv 2) T.C_Held T.M_Held_gone G_Held_gone (hr.mono (by decide)) T.b_Held_gone .nil pass0 (pa_cons (pv 5) pa_nil)))))))
    (pss_one (ps_ret (pv 4))))))), ?_⟩
    tb_start
    intro x dx nx ndx ne
    refine mk_held nx ndx ne (fun d H1 ex ed nd nxd s1 => ?_)
    tb_start
    intro fo nfo
    have hxfo : x ≠ fo := by kcj_m
    have hdfo : d ≠ fo := by kcj_m
    have nxH : H x = none := nx
    tb_start
    refine for_ints (ns := ns) (fun f σ H' => Iv (∃ (b : Nat) (kvs : List (Key × V)) (u5 : Option V), σ = [some (.ref a), some (.int m), some (.ref x), some (.int b), some (.ref fo), u5] ∧ H' x = some (.ins A.c_Held dx (hldF d)) ∧ H' d = some (.dK kvs) ∧ Cnt kvs ((ns.drop f).take (b - f)) ∧ H' fo = some (.lst ((List.range f).map fun g => optV (endAt ns g m))) ∧ f ≤ b ∧ b ≤ ns.length ∧ (wunN ns f b : Int) ≤ m ∧ (∀ j, f ≤ j → j < b → (wunN ns f j : Int) < m) ∧ Same H H')) ?i0 ?il ?is ?id
    case i0 =>
      refine ⟨0, [], _, rfl, by kct_strs, by kct_strs, Cnt.nil, upd_same, Nat.le_refl 0, Nat.zero_le _, ?_, fun j h1 h2 => by omega, by kcj_in⟩
      rw [wunN_none]
      show (0 : Int) ≤ m
      omega
    case il =>
      rintro f σ H' hf ⟨b, kvs, u5, rfl, ex, ed, c, ef, hfb, hb, hw, hj, s⟩
      exact s.seq ha
    case id =>
      rintro σ H' ⟨b, kvs, u5, rfl, ex, ed, c, ef, hfb, hb, hw, hj, s⟩
      tb_start
      exact q fo _ ef s (by cc_off)
    case is =>
      rintro f y σ H' hf ⟨b, kvs, u5, rfl, ex, ed, c, ef, hfb, hb, hw, hj, s⟩
      have hfn := (List.getElem?_eq_some_iff.mp hf).1
      tb_start
      refine while_iv (fun mu σ H' => Iv (∃ (b : Nat) (kvs : List (Key × V)), σ = [some (.ref a), some (.int m), some (.ref x), some (.int b), some (.ref fo), some (.int y)] ∧ H' x = some (.ins A.c_Held dx (hldF d)) ∧ H' d = some (.dK kvs) ∧ Cnt kvs ((ns.drop f).take (b - f)) ∧ H' fo = some (.lst ((List.range f).map fun g => optV (endAt ns g m))) ∧ f ≤ b ∧ b ≤ ns.length ∧ (wunN ns f b : Int) ≤ m ∧ (∀ j, f ≤ j → j < b → (wunN ns f j : Int) < m) ∧ mu = ns.length - b ∧ Same H H')) (ns.length - b) ?g0 ?gs
      case g0 => exact ⟨b, kvs, rfl, ex, ed, c, ef, hfb, hb, hw, hj, rfl, s⟩
      case gs =>
        clear hw hj hfb hb ef c ed ex s
        rintro mu σ H2 ⟨b, kvs, rfl, ex, ed, c, ef, hfb, hb, hw, hj, rfl, s⟩
        have ha2 := s.seq ha
        have hwl : ((ns.drop f).take (b - f)).length ≤ 1000 := by rw [List.length_take, List.length_drop]; omega
        refine ⟨decide (b < ns.length ∧ (wunN ns f b : Int) < m), fun Q' q' => ?_, fun hlt => ?_, fun hge => ?_⟩
        · tb_start
          refine br (fun h1 => ?_) (fun h1 => ?_)
          · tb_start
            exact qbl q' (decide_eq_decide.mpr ⟨fun h => ⟨by omega, h⟩, fun h => h.2⟩)
          · exact qbl q' (decide_eq_false (fun h => h1 (by have := h.1; omega))).symm
        · obtain ⟨h1, h2⟩ := of_decide_eq_true hlt
          have gb : ns.getD ((b : Nat) : Int).toNat 0 = ns.getD b 0 := rfl
          have e1 : (ns.drop f)[b - f]? = some (ns.getD b 0) := by rw [List.getElem?_drop, show f + (b - f) = b by omega]; exact get_of h1
          have st := wunN_step (ns := ns) hfb h1
          tb_start
          intro kvs' c'
          tb_start
          refine ⟨ns.length - (b + 1), by omega, b + 1, kvs', rfl, by kct_strs, by kct_strs, ?_, by kct_strs, by omega, by omega, by omega, fun j k1 k2 => ?_, rfl, ?_⟩
          · rw [show b + 1 - f = b - f + 1 by omega, take_snoc e1]
            exact c'
          · by_cases e : j = b
            · rw [e]; exact h2
            · exact hj j k1 (by omega)
          · exact same_upd' nd s
        · have hge' := of_decide_eq_false hge
          have hlt : f < b := by
            refine Nat.lt_of_le_of_ne hfb fun e => hge' ?_
            subst e
            refine ⟨hfn, ?_⟩
            rw [wunN_none]
            show (0 : Int) < m
            omega
          have ecut : (ns.drop f).take (b - f) = y :: (ns.drop (f + 1)).take (b - (f + 1)) := by
            obtain ⟨_, e⟩ := List.getElem?_eq_some_iff.mp hf
            rw [List.drop_eq_getElem_cons hfn, e, show b - f = (b - (f + 1)) + 1 by omega, List.take_succ_cons]
          have ew : ulen (y :: (ns.drop (f + 1)).take (b - (f + 1))) = wunN ns f b := by rw [← ecut]; rfl
          rw [ecut] at c
          have hwl2 : ((ns.drop (f + 1)).take (b - (f + 1))).length ≤ 1000 := by rw [List.length_take, List.length_drop]; omega
          have st := wunN_stepD (ns := ns) hlt hb
          have hj2 : ∀ j, f + 1 ≤ j → j < b → (wunN ns (f + 1) j : Int) < m := fun j k1 k2 => by
            have k3 := wunN_stepD (ns := ns) (f := f) (b := j) (by omega) (by omega)
            have := hj j (by omega) k2
            omega
          have hln : ((List.range f).map fun g => optV (endAt ns g m)).length ≤ 1000 := by rw [List.length_map, List.length_range]; omega
          tb_start
          refine bri (fun he => ?_) (fun he => ?_)
          · have ee : endAt ns f m = some b := endAt_is (by omega) hb (by omega) (fun j k1 k2 => by have := hj j k1 k2; omega)
            tb_start
            intro kvs' H3 c' e3 b3
            tb_start
            refine ⟨b, kvs', _, rfl, by kct_strs, e3, c', lst_cast (by kct_strs) ?_, by omega, hb, by omega, hj2, by kcj_in⟩
            rw [List.range_succ, List.map_append, List.map_cons, ee]
            rfl
          · have hbn : b = ns.length := by omega
            have ee : endAt ns f m = none := endAt_none (by omega) (by rw [← hbn]; omega)
            tb_start
            intro kvs' H3 c' e3 b3
            tb_start
            refine ⟨b, kvs', _, rfl, by kct_strs, e3, c', lst_cast (by kct_strs) ?_, by omega, hb, by omega, hj2, by kcj_in⟩
            rw [List.range_succ, List.map_append, List.map_cons, ee]
            rfl
end
end Ur
namespace Ur
open PySem L2
/-- for each first place the greatest behind with at most so many: a new list -/
def sp_ends_within (K : PySem.W.Frag) : Sp := fun vs H Q _ => ∃ (a : Addr) (ns : List Int) (m : Int), vs = [.ref a, .int m] ∧ SqL K H a (ns.map V.int) ∧ ns.length ≤ 1000 ∧ 0 ≤ m ∧ ∀ p H', H' p = some (.lst (((List.range ns.length).map (wi ns m)).map V.int)) → Same H H' → H p = none → Q (.ref p) H'
section
variable {P : Program} {w : World} {K : PySem.W.Frag} {mg : Str → Option Value} {base : Heap} {A : Adr}
theorem ok_ends_within (T : Txt w K mg A) : FnOk P w K mg base CX0 4 A.f_ends_within A.d_ends_within ["row", "many"] (sp_ends_within K) := by
  have G_ends_by := ok_ends_by (P := P) (w := w) (base := base) T
  refine T.F_ends_within.ok sc_ends_within (fun vs H Q E h => ?_) (fun cdv Ar outer s H vs Q E hr h => ?_)
  · obtain ⟨a, ns, m, rfl, _⟩ := h
    rfl
  · obtain ⟨a, ns, m, rfl, ha, hl, hm, q⟩ := h
    refine ⟨_, (pss_one (ps_ret (pe_lc (own := [("end", 2)]) (g := gName 2) (by rfl) sc_ends_within.nd (pi_list (pe_call G_ends_by (hr.mono (by decide)) (by rfl) T.g_ends_by T.F_ends_by.kp T.b_ends_by .nil pass0 (pa_cons (pv 0) (pa_cons (pe_op op_add (pv 1) pe_int) pa_nil)))) (blkOk_by (own := [("end", 2)]) (N := ["row", "many", "end"]) (by kernel_rfl)) (fun _ _ _ _ _ => pg_name (i := 2) sc_ends_within.nd rfl (Or.inl rfl)) (fun _ _ _ _ _ => pts_nil) (fun _ _ _ _ _ => (pe_ifExp (pt_cmpR op_isN (pv 2) pe_non (nomark _)) (Ur.pe_b1 (Ur.call_lenIK (K := K) rfl) (by rfl) T.m_len (by decide +kernel) (pv 0)) (pe_op op_sub (pv 2) pe_int)))))), ?_⟩
    tb_start
    intro p1 H1 e1 s1 n1
    have ha1 := s1.seq ha
    tb_start
    intro D nD
    refine lc_list (K := K) (a := p1) (xs := (List.range ns.length).map fun f => optV (endAt ns f (m + 1))) (fun i H' => Iv (H' D = some (.lst (((List.range i).map (wi ns m)).map V.int)) ∧ Same H1 H')) ⟨upd_same, same_new nD⟩ (fun i H' _ z => .of (z.out.2 _ _ e1)) (fun i x H' hx z => ?_) (fun H' z => ?_)
    · obtain ⟨eD, s⟩ := z.out
      have ha2 := s.seq ha1
      rw [List.getElem?_map] at hx
      obtain ⟨f, hf, rfl⟩ := Option.map_eq_some_iff.mp hx
      have hi := (List.getElem?_eq_some_iff.mp hf).1
      rw [List.length_range] at hi
      rw [List.getElem?_range hi] at hf
      cases hf
      refine ⟨rfl, tyes_ok ?_⟩
      have ew : wi ns m i = match endAt ns i (m + 1) with | none => (ns.length : Int) | some b => (b : Int) - 1 := rfl
      have hli : (((List.range i).map (wi ns m)).map V.int).length ≤ 1000 := by rw [List.length_map, List.length_map, List.length_range]; omega
      cases he : endAt ns i (m + 1) with
      | none =>
        rw [he] at ew
        tb_start
        exact ⟨lst_cast upd_same (by rw [List.range_succ, List.map_append, List.map_append, List.map_cons, ew]; rfl), same_upd' nD s⟩
      | some b =>
        rw [he] at ew
        tb_start
        exact ⟨lst_cast upd_same (by rw [List.range_succ, List.map_append, List.map_append, List.map_cons, ew]; rfl), same_upd' nD s⟩
    · obtain ⟨eD, s⟩ := z.out
      rw [List.length_map, List.length_range] at eD
      exact q D _ eD (by kcj_in) (by cc_off)
end
end Ur
namespace Ur
open PySem L2
/-- for each first place the least and the greatest behind of windows with just so many: a new list of new tuples -/
def sp_stretches (K : PySem.W.Frag) : Sp := fun vs H Q _ => ∃ (a : Addr) (ns : List Int) (m : Int), vs = [.ref a, .int m] ∧ SqL K H a (ns.map V.int) ∧ ns.length ≤ 1000 ∧ 0 ≤ m ∧ ∀ p ls H', H' p = some (.lst (ls.map V.ref)) → TripsF H' ls (strL ns m) → (∀ q ∈ ls, H q = none) → Same H H' → H p = none → Q (.ref p) H'
section
variable {P : Program} {w : World} {K : PySem.W.Frag} {mg : Str → Option Value} {base : Heap} {A : Adr}
theorem ok_stretches (T : Txt w K mg A) : FnOk P w K mg base CX0 5 A.f_stretches A.d_stretches ["row", "many"] (sp_stretches K) := by
  have G_ends_by := ok_ends_by (P := P) (w := w) (base := base) T
  have G_ends_within := ok_ends_within (P := P) (w := w) (base := base) T
  refine T.F_stretches.ok sc_stretches (fun vs H Q E h => ?_) (fun cdv Ar outer s H vs Q E hr h => ?_)
  · obtain ⟨a, ns, m, rfl, _⟩ := h
    rfl
  · obtain ⟨a, ns, m, rfl, ha, hl, hm, q⟩ := h
    refine ⟨_, (pss_cons (ps_if (pt_cmpR op_eq (pv 1) pe_int (nomark _)) (pss_one (ps_ret (pe_lst pa_nil))) pss_nil)
    (pss_cons (ps_set (i := 2) sc_stretches.nd rfl (Or.inl rfl) (pe_lst pa_nil))
    (pss_cons (ps_set (i := 3) sc_stretches.nd rfl (Or.inl rfl) (pe_call G_ends_within (hr.mono (by decide)) (by rfl) T.g_ends_within T.F_ends_within.kp T.b_ends_within .nil pass0 (pa_cons (pv 0) (pa_cons (pv 1) pa_nil))))
    (pss_cons (ps_for PassesOwn.never (by rfl) (pi_enum (by rfl) T.m_enumerate (pa_cons (pe_call G_ends_by (hr.mono (by decide)) (by rfl) T.g_ends_by T.F_ends_by.kp T.b_ends_by .nil pass0 (pa_cons (pv 0) (pa_cons (pv 1) pa_nil))) pa_nil)) (pg_tup (by rfl) (pgs_cons (pg_name (i := 4) sc_stretches.nd rfl (Or.inl rfl)) (pgs_cons (pg_name (i := 5) sc_stretches.nd rfl (Or.inl rfl)) pgs_nil))) (pss_one (ps_if (pt_cmpR op_notN (pv 5) pe_non (nomark _)) (pss_one (ps_expr (pe_bm PySem.F.plainAttrs_list PySem.F.slot_list_append PySem.F.type_list_append mt_append (pv 2) (pa_cons (pe_tup (pa_cons (pv 4) (pa_cons (pv 5) (pa_cons (pe_ix (Ur.ix_listK (K := K) rfl) (pv 3) (pv 4) (fun _ _ => rfl)) pa_nil)))) pa_nil)))) pss_nil)))
    (pss_one (ps_ret (pv 2))))))), ?_⟩
    tb_start
    refine bri (fun h0 => ?_) (fun h0 => ?_)
    · tb_start
      intro p np
      subst h0
      exact q p [] _ upd_same TripsF.nil (fun q h => nomatch h) (by kcj_in) np
    tb_start
    intro fo nfo
    tb_start
    intro p1 H1 e1 s1 n1
    have ef1 := s1 _ _ upd_same
    have hf1 : fo ≠ p1 := by kcj_m
    have ha1 : SqL K H1 a (ns.map V.int) := s1.seq ((same_new nfo).seq ha)
    tb_start
    intro p2 H2 e2 s2 n2
    have ef2 := s2 _ _ ef1
    have e12 := s2 _ _ e1
    have hf2 : fo ≠ p2 := by kcj_m
    tb_start
    refine for_enum (xs := (List.range ns.length).map fun f => optV (endAt ns f m)) (fun i σ H' => Iv (∃ (u4 u5 : Option V) (ls : List Addr), σ = [some (.ref a), some (.int m), some (.ref fo), some (.ref p1), u4, u5] ∧ H' p2 = some (.lst ((List.range ns.length).map fun f => optV (endAt ns f m))) ∧ H' p1 = some (.lst (((List.range ns.length).map (wi ns m)).map V.int)) ∧ H' fo = some (.lst (ls.map V.ref)) ∧ TripsF H' ls (strK ns m i) ∧ (∀ q ∈ ls, H q = none) ∧ Same H H')) ?h0 ?hl ?hs ?hd
    case h0 => exact ⟨_, _, [], rfl, e2, e12, ef2, TripsF.nil, (fun q h => nomatch h), by kcj_in⟩
    case hl =>
      rintro i σ H' hi ⟨u4, u5, ls, rfl, e2, e1, ef, r, f, s⟩
      kct_strs
    case hd =>
      rintro σ H' ⟨u4, u5, ls, rfl, e2, e1, ef, r, f, s⟩
      rw [List.length_map, List.length_range] at r
      tb_start
      exact q fo ls _ ef (by unfold strL; rw [if_neg h0]; exact r) f s (by cc_off)
    case hs =>
      rintro i x σ H3 H4 hx ⟨u4, u5, ls, rfl, e2, e1, ef, r, f, s⟩ s4
      rw [List.getElem?_map] at hx
      obtain ⟨g, hg, rfl⟩ := Option.map_eq_some_iff.mp hx
      have hi := (List.getElem?_eq_some_iff.mp hg).1
      rw [List.length_range] at hi
      rw [List.getElem?_range hi] at hg
      cases hg
      have hsk := strK_s ns m i
      have hlk := strK_len ns m i
      have hrl := r.len
      have r4 := ObjsF.same r s4
      repeat (rename H3 _ = some _ => hx; first | (have hA := Ur.adv0 s4 hx; obtain ⟨hz, hw, hv⟩ := hA; clear hw hv hx; rename H4 _ = some _ => hq) | (have hA := Ur.adv1 s4 (by kcj_m) hx; obtain ⟨hz, hw, hv⟩ := hA; clear hw hv hx; rename H4 _ = some _ => hq) | (have hA := Ur.adv2 s4 (by kcj_m) (by kcj_m) hx; obtain ⟨hz, hw, hv⟩ := hA; clear hw hv hx; rename H4 _ = some _ => hq) | (have hA := Ur.adv3 s4 (by kcj_m) (by kcj_m) (by kcj_m) hx; obtain ⟨hz, hw, hv⟩ := hA; clear hw hv hx; rename H4 _ = some _ => hq) | (have hA := Ur.adv4 s4 (by kcj_m) (by kcj_m) (by kcj_m) (by kcj_m) hx; obtain ⟨hz, hw, hv⟩ := hA; clear hw hv hx; rename H4 _ = some _ => hq) | (have hA := Ur.adv5 s4 (by kcj_m) (by kcj_m) (by kcj_m) (by kcj_m) (by kcj_m) hx; obtain ⟨hz, hw, hv⟩ := hA; clear hw hv hx; rename H4 _ = some _ => hq) | (have hA := Ur.adv6 s4 (by kcj_m) (by kcj_m) (by kcj_m) (by kcj_m) (by kcj_m) (by kcj_m) hx; obtain ⟨hz, hw, hv⟩ := hA; clear hw hv hx; rename H4 _ = some _ => hq) | (have hA := Ur.adv7 s4 (by kcj_m) (by kcj_m) (by kcj_m) (by kcj_m) (by kcj_m) (by kcj_m) (by kcj_m) hx; obtain ⟨hz, hw, hv⟩ := hA; clear hw hv hx; rename H4 _ = some _ => hq) | clear hx)
      have sH4 := s.trans s4
      clear s s4
      have gx : ((List.range ns.length).map (wi ns m)).getD ((i : Nat) : Int).toNat 0 = wi ns m i := getD_of (by rw [Int.toNat_natCast, List.getElem?_map, List.getElem?_range hi]; rfl)
      have hll : ((List.range ns.length).map (wi ns m)).length = ns.length := by rw [List.length_map, List.length_range]
      cases he : endAt ns i m with
      | none =>
        rw [he] at hsk
        tb_start
        exact ⟨_, _, ls, rfl, by kct_strs, by kct_strs, by kct_strs, by rw [hsk, Option.map_none, Option.toList_none, List.append_nil]; exact r4, f, sH4⟩
      | some e =>
        rw [he] at hsk
        tb_start
        rw [gx]
        intro pt npt
        have hft : fo ≠ pt := by kcj_m
        have h1t : p1 ≠ pt := by kcj_m
        have h2t : p2 ≠ pt := by kcj_m
        have efH4 : H4 fo = some (.lst (ls.map V.ref)) := by kct_strs
        have fpt : H pt = none := by cc_off
        tb_start
        refine ⟨_, _, ls ++ [pt], rfl, by kct_strs, by kct_strs, ?_, ?_, fun q h => ?_, by kcj_in⟩
        · rw [upd_same, List.map_append]; rfl
        · rw [hsk]
          exact ObjsF.upd (TripsF.snoc (ObjsF.same r4 (same_new npt)) (q := ((i : Int), (e : Int), wi ns m i)) upd_same) ⟨fun z hz => by
            rcases List.mem_append.mp hz with h | h
            · exact (TripsF.offL r4 efH4).out z h
            · rw [List.mem_singleton.mp h]; exact Ne.symm hft⟩
        · rcases List.mem_append.mp h with h | h
          · exact f q h
          · rw [List.mem_singleton.mp h]; exact fpt
end
end Ur
namespace Ur
open PySem L2
/-- how many windows have just so many -/
def sp_how_many (K : PySem.W.Frag) : Sp := fun vs H Q _ => ∃ (a : Addr) (ns : List Int) (m : Int), vs = [.ref a, .int m] ∧ SqL K H a (ns.map V.int) ∧ ns.length ≤ 1000 ∧ 0 ≤ m ∧ ∀ H', Same H H' → Q (.int (hisN ns m)) H'
section
variable {P : Program} {w : World} {K : PySem.W.Frag} {mg : Str → Option Value} {base : Heap} {A : Adr}
theorem ok_how_many (T : Txt w K mg A) : FnOk P w K mg base CX0 6 A.f_how_many A.d_how_many ["row", "many"] (sp_how_many K) := by
  have G_stretches := ok_stretches (P := P) (w := w) (base := base) T
  refine T.F_how_many.ok sc_how_many (fun vs H Q E h => ?_) (fun cdv Ar outer s H vs Q E hr h => ?_)
  · obtain ⟨a, ns, m, rfl, _⟩ := h
    rfl
  · obtain ⟨a, ns, m, rfl, ha, hl, hm, q⟩ := h
    refine ⟨_, (pss_one (ps_ret (Ur.pe_b1 (Ur.cr_sumK (K := K) rfl rfl) (by rfl) T.m_sum (by decide +kernel) (pe_lc (own := [("first", 2), ("least", 3), ("last", 4)]) (g := gTup K 3 (gCons (gName 2) (gCons (gName 3) (gCons (gName 4) gNil)))) (by rfl) sc_how_many.nd (pi_list (pe_call G_stretches (hr.mono (by decide)) (by rfl) T.g_stretches T.F_stretches.kp T.b_stretches .nil pass0 (pa_cons (pv 0) (pa_cons (pv 1) pa_nil)))) (blkOk_by (own := [("first", 2), ("least", 3), ("last", 4)]) (N := ["row", "many", "first", "least", "last"]) (by kernel_rfl)) (fun _ _ _ _ _ => Ur.pg_tupK (K := K) rfl (by rfl) (pgs_cons (pg_name (i := 2) sc_how_many.nd rfl (Or.inl rfl)) (pgs_cons (pg_name (i := 3) sc_how_many.nd rfl (Or.inl rfl)) (pgs_cons (pg_name (i := 4) sc_how_many.nd rfl (Or.inl rfl)) pgs_nil)))) (fun _ _ _ _ _ => pts_nil) (fun _ _ _ _ _ => (pe_op op_add (pe_op op_sub (pv 4) (pv 3)) pe_int)))))), ?_⟩
    tb_start
    intro p1 ls H1 e1 r f s1 n1
    have hsl := strL_len ns m
    have hrl := r.len
    tb_start
    intro D nD
    refine lc_list (K := K) (a := p1) (xs := ls.map V.ref) (fun i H' => Iv (H' D = some (.lst ((((strL ns m).take i).map fun q => q.2.2 - q.2.1 + 1).map V.int)) ∧ Same H1 H')) ⟨upd_same, same_new nD⟩ (fun i H' _ z => .of (z.out.2 _ _ e1)) (fun i x H' hx z => ?_) (fun H' z => ?_)
    · obtain ⟨eD, s⟩ := z.out
      rw [List.getElem?_map] at hx
      obtain ⟨l, hl2, rfl⟩ := Option.map_eq_some_iff.mp hx
      obtain ⟨h1, h2, h3⟩ := r.get hl2
      have e4 := s _ _ h3
      have hli : ((((strL ns m).take i).map fun q => q.2.2 - q.2.1 + 1).map V.int).length ≤ 1000 := by rw [List.length_map, List.length_map, List.length_take]; omega
      refine ⟨l, _, rfl, .of e4, rfl, _, _, rfl, _, _, rfl, _, _, rfl, rfl, rfl, tyes_ok ?_⟩
      tb_start
      exact ⟨lst_cast upd_same (by rw [List.take_add_one, h2, List.map_append, List.map_append]; rfl), same_upd' nD s⟩
    · obtain ⟨eD, s⟩ := z.out
      rw [List.length_map, hrl, List.take_length] at eD
      tb_start
      exact q _ (by kcj_in)
end
end Ur
namespace Ur
open PySem L2
/-- refuses what is no width of a row -/
def sp_need_width (K : PySem.W.Frag) (C : Addr) : Sp := fun vs H Q E => ∃ (a : Addr) (ns : List Int) (v : V), vs = [.ref a, v] ∧ SqL K H a (ns.map V.int) ∧ ns.length ≤ 1000 ∧ Kind H v ∧ (∀ w : Int, v = .int w → 0 ≤ w → w ≤ ns.length → ∀ H', Same H H' → Q .non H') ∧ ((∀ w : Int, v = .int w → ¬ (0 ≤ w ∧ w ≤ ns.length)) → ∀ H', Same H H' → E (.ref C) none H')
section
variable {P : Program} {w : World} {K : PySem.W.Frag} {mg : Str → Option Value} {base : Heap} {A : Adr}
theorem ok_need_width (T : Txt w K mg A) : FnOk P w K mg base (L2.CX P w) 1 A.f_need_width A.d_need_width ["row", "width"] (sp_need_width K A.c_NoWindow) := by
  refine T.F_need_width.okX sc_need_width (fun vs H Q E h => ?_) (fun cdv Ar outer s H vs Q E hr h => ?_)
  · obtain ⟨a, ns, v, rfl, _⟩ := h
    rfl
  · obtain ⟨a, ns, v, rfl, ha, hl, hk, qy, qn⟩ := h
    refine ⟨_, (pss_one (ps_if (PW.pt (pw_or (pt_not (pt_val (Ur.pe_b2 (Ur.call_isiK (K := K) rfl) (by rfl) T.m_isinstance (by decide +kernel) (pv 1) (pe_bltn (v := .ty "int") (by rfl) T.m_int (by decide +kernel) rfl)))) (pw_or (pt_val (Ur.pe_b2 (Ur.call_isiK (K := K) rfl) (by rfl) T.m_isinstance (by decide +kernel) (pv 1) (pe_bltn (v := .ty "bool") (by rfl) T.m_bool (by decide +kernel) rfl))) (pw_or1 (pt_not (pt_chain op_le op_le pe_int (pv 1) (Ur.pe_b1 (Ur.call_lenIK (K := K) rfl) (by rfl) T.m_len (by decide +kernel) (pv 0)))))))) (pss_one (ps_raise rfl (takes_of rfl rfl rfl rfl) (pmk_own PySem.F.excBase_ValueError T.x_NoWindow T.g_NoWindow T.k_NoWindow (raises_own T.b_NoWindow T.t_NoWindow) (by exact rfl)))) pss_nil)), ?_⟩
    rcases hk with ⟨i, rfl⟩ | ⟨b, rfl⟩ | ⟨x, rfl⟩ | rfl | ⟨p, xs, rfl, hp⟩ | ⟨p, xs, rfl, hp⟩ | ⟨p, xs, rfl, hp⟩
    · by_cases hw : 0 ≤ i ∧ i ≤ (ns.length : Int)
      · obtain ⟨h0, h1⟩ := hw
        tb_start
        exact qy i rfl h0 h1 _ (by kcj_in)
      · have hn : ∀ w : Int, V.int i = V.int w → ¬ (0 ≤ w ∧ w ≤ ns.length) := fun w e => by cases e; exact hw
        by_cases h0 : 0 ≤ i
        · have h1 : (ns.length : Int) < i := by omega
          tb_start
          exact qn hn _ (by kcj_in)
        · have h1 : i < 0 := by omega
          tb_start
          exact qn hn _ (by kcj_in)
    · tb_start
      exact qn (fun w e => nomatch e) _ (by kcj_in)
    · tb_start
      exact qn (fun w e => nomatch e) _ (by kcj_in)
    · tb_start
      exact qn (fun w e => nomatch e) _ (by kcj_in)
    · tb_start
      exact qn (fun w e => nomatch e) _ (by kcj_in)
    · tb_start
      exact qn (fun w e => nomatch e) _ (by kcj_in)
    · tb_start
      exact qn (fun w e => nomatch e) _ (by kcj_in)
end
end Ur
namespace Ur
open PySem L2
/-- the numbers of all windows of a width, a new list -/
def sp_slid (K : PySem.W.Frag) : Sp := fun vs H Q _ => ∃ (la na : Addr) (ns : List Int) (w : Int), vs = [.ref la, .ref na, .int w] ∧ SqL K H la ((lastP ns).map V.int) ∧ SqL K H na ((nextP ns).map V.int) ∧ ns.length ≤ 1000 ∧ 0 ≤ w ∧ w ≤ ns.length ∧ ∀ p H', H' p = some (.lst ((ofW ns w.toNat).map V.int)) → Same H H' → H p = none → Q (.ref p) H'
section
variable {P : Program} {w : World} {K : PySem.W.Frag} {mg : Str → Option Value} {base : Heap} {A : Adr}
theorem ok_slid (T : Txt w K mg A) : FnOk P w K mg base CX0 1 A.f_slid A.d_slid ["lasts", "nexts", "width"] (sp_slid K) := by
  refine T.F_slid.ok sc_slid (fun vs H Q E h => ?_) (fun cdv Ar outer s H vs Q E hr h => ?_)
  · obtain ⟨la, na, ns, w, rfl, _⟩ := h
    rfl
  · obtain ⟨la, na, ns, w, rfl, ha, hn, hl, h0, h1, q⟩ := h
    have hlp := lastP_len ns
    have hnp := nextP_len ns
    refine ⟨_, (pss_cons (ps_set (i := 3) sc_slid.nd rfl (Or.inl rfl) (Ur.pe_b1 (Ur.call_lenIK (K := K) rfl) (by rfl) T.m_len (by decide +kernel) (pe_lc (own := [("last", 8)]) (g := gName 8) (by rfl) sc_slid.nd (pi_list (pe_slice (Ur.sl_listK (K := K) rfl) (pv 0) po_none (po_some (pv 2)))) (blkOk_by (own := [("last", 8)]) (N := ["lasts", "nexts", "width", "number", "found", "first", "gone", "come", "last"]) (by kernel_rfl)) (fun _ _ _ _ _ => pg_name (i := 8) sc_slid.nd rfl (Or.inl rfl)) (fun _ _ _ _ _ => pts_one (pt_cmpR op_lt (pv 8) pe_int (nomark _))) (fun _ _ _ _ _ => (pv 8)))))
    (pss_cons (ps_set (i := 4) sc_slid.nd rfl (Or.inl rfl) (pe_lst (pa_cons (pv 3) pa_nil)))
    (pss_cons (ps_for PassesOwn.never (by rfl) (pi_range1 (by rfl) T.m_range (pa_cons (pe_op op_sub (Ur.pe_b1 (Ur.call_lenIK (K := K) rfl) (by rfl) T.m_len (by decide +kernel) (pv 0)) (pv 2)) pa_nil)) (pg_name (i := 5) sc_slid.nd rfl (Or.inl rfl)) (pss_cons (ps_set (i := 6) sc_slid.nd rfl (Or.inl rfl) (Ur.pe_t1 call_int1 (by rfl) T.m_int (by decide +kernel) (pe_cmpR op_ge (pe_ix (Ur.ix_listK (K := K) rfl) (pv 1) (pv 5) (fun _ _ => rfl)) (pe_op op_add (pv 5) (pv 2)) (nomark _))))
    (pss_cons (ps_set (i := 7) sc_slid.nd rfl (Or.inl rfl) (Ur.pe_t1 call_int1 (by rfl) T.m_int (by decide +kernel) (pe_cmpR op_le (pe_ix (Ur.ix_listK (K := K) rfl) (pv 0) (pe_op op_add (pv 5) (pv 2)) (fun _ _ => rfl)) (pv 5) (nomark _))))
    (pss_cons (ps_set (i := 3) sc_slid.nd rfl (Or.inl rfl) (pe_op op_add (pe_op op_sub (pv 3) (pv 6)) (pv 7)))
    (pss_one (ps_expr (pe_bm PySem.F.plainAttrs_list PySem.F.slot_list_append PySem.F.type_list_append mt_append (pv 4) (pa_cons (pv 3) pa_nil))))))))
    (pss_one (ps_ret (pv 4)))))), ?_⟩
    tb_start
    intro p1 np1
    tb_start
    intro D nD
    refine lc_intsIfI (ns := (lastP ns).take w.toNat) (fun x => decide (x < 0)) (fun x => x) (by rw [List.length_take]; omega) (.of (by kct_strs)) nD (fun _ => rfl) ?ct ?ce ?cd
    case ct =>
      intro x H' hx s Q2 q2
      tb_start
      exact q2 _ (by kcj_in)
    case ce =>
      intro x H' hx _ s Q2 q2
      tb_start
      exact q2 _ (by kcj_in)
    case cd =>
      intro H2 s2 e2
      rw [List.map_id'] at e2
      have hc : ((((lastP ns).take w.toNat).filter fun x => decide (x < 0)).length : Int) = (wunN ns 0 w.toNat : Int) := by
        have e := ulen_win (ns := ns) (f := 0) w.toNat (by omega)
        rw [List.drop_zero, List.drop_zero] at e
        show _ = ((ulen ((ns.drop 0).take (w.toNat - 0)) : Nat) : Int)
        rw [List.drop_zero, Nat.sub_zero, e]
        rfl
      tb_start
      rw [hc]
      tb_start
      intro p3 np3
      tb_start
      refine for_range (fun i σ H' => Iv (∃ (u5 u6 u7 u8 : Option V) (m : Int), σ = [some (.ref la), some (.ref na), some (.int w), some (.int m), some (.ref p3), u5, u6, u7, u8] ∧ m = (wunN ns i (i + w.toNat) : Int) ∧ H' p3 = some (.lst (((ofW ns w.toNat).take (i + 1)).map V.int)) ∧ Same H H')) ?h0 ?hs ?hd
      case h0 =>
        refine ⟨_, _, _, _, _, rfl, by rw [Nat.zero_add], lst_cast upd_same ?_, by kcj_in⟩
        rw [take_snoc (ofW_get (by omega)), Nat.zero_add]
        rfl
      case hs =>
        rintro i σ H' hi ⟨u5, u6, u7, u8, m, rfl, hm, e, s⟩
        have hiw : i + w.toNat < ns.length := by omega
        have hg1 : (nextP ns).getD ((0 : Int) + (i : Int)).toNat 0 = nx ns i := by rw [show ((0 : Int) + (i : Int)).toNat = i by omega]; exact nextP_getD (by omega)
        have hg2 : (lastP ns).getD ((0 : Int) + (i : Int) + w).toNat 0 = lp ns (i + w.toNat) := by rw [show ((0 : Int) + (i : Int) + w).toNat = i + w.toNat by omega]; exact lastP_getD (by omega)
        have hsl := wunN_slide hiw
        tb_start
        rw [hg1, hg2]
        tb_start
        have eN : m - (if decide (0 + (i : Int) + w ≤ nx ns i) = true then 1 else 0) + (if decide (lp ns (i + w.toNat) ≤ 0 + (i : Int)) = true then 1 else 0) = (wunN ns (i + 1) (i + 1 + w.toNat) : Int) := by
          rw [hsl, hm]
          have d1 : (if decide (0 + (i : Int) + w ≤ nx ns i) = true then (1 : Int) else 0) = if ((i + w.toNat : Nat) : Int) ≤ nx ns i then 1 else 0 := by
            by_cases c : ((i + w.toNat : Nat) : Int) ≤ nx ns i
            · rw [if_pos c, if_pos (decide_eq_true (by omega))]
            · rw [if_neg c, if_neg (by rw [decide_eq_false (by omega)]; exact Bool.false_ne_true)]
          have d2 : (if decide (lp ns (i + w.toNat) ≤ 0 + (i : Int)) = true then (1 : Int) else 0) = if lp ns (i + w.toNat) ≤ (i : Int) then 1 else 0 := by
            by_cases c : lp ns (i + w.toNat) ≤ (i : Int)
            · rw [if_pos c, if_pos (decide_eq_true (by omega))]
            · rw [if_neg c, if_neg (by rw [decide_eq_false (by omega)]; exact Bool.false_ne_true)]
          rw [d1, d2]
        refine ⟨_, _, _, _, _, rfl, eN, lst_cast (by kct_strs) ?_, by kcj_in⟩
        rw [take_snoc (ofW_get (show i + 1 + w.toNat ≤ ns.length by omega)), ← eN, List.map_append (l₂ := [_])]
      case hd =>
        rintro σ H' ⟨u5, u6, u7, u8, m, rfl, hm, e, s⟩
        tb_start
        refine q _ _ (lst_cast e ?_) s (by cc_off)
        rw [List.take_of_length_le (by rw [ofW_len]; omega)]
end
end Ur
namespace Ur
open PySem L2
/-- the numbers of all windows of a width, a new list -/
def sp_of_width (K : PySem.W.Frag) (C : Addr) : Sp := fun vs H Q E => ∃ (a : Addr) (ns : List Int) (v : V), vs = [.ref a, v] ∧ SqL K H a (ns.map V.int) ∧ ns.length ≤ 1000 ∧ Kind H v ∧ (∀ w : Int, v = .int w → 0 ≤ w → w ≤ ns.length → ∀ p H', H' p = some (.lst ((ofW ns w.toNat).map V.int)) → Same H H' → H p = none → Q (.ref p) H') ∧ ((∀ w : Int, v = .int w → ¬ (0 ≤ w ∧ w ≤ ns.length)) → ∀ H', Same H H' → E (.ref C) none H')
section
variable {P : Program} {w : World} {K : PySem.W.Frag} {mg : Str → Option Value} {base : Heap} {A : Adr}
theorem ok_of_width (T : Txt w K mg A) : FnOk P w K mg base (L2.CX P w) 3 A.f_of_width A.d_of_width ["row", "width"] (sp_of_width K A.c_NoWindow) := by
  have G_last_places := ok_last_places (P := P) (w := w) (base := base) T
  have G_need_width := ok_need_width (P := P) (w := w) (base := base) T
  have G_next_places := ok_next_places (P := P) (w := w) (base := base) T
  have G_slid := ok_slid (P := P) (w := w) (base := base) T
  refine T.F_of_width.okX sc_of_width (fun vs H Q E h => ?_) (fun cdv Ar outer s H vs Q E hr h => ?_)
  · obtain ⟨a, ns, v, rfl, _⟩ := h
    rfl
  · obtain ⟨a, ns, v, rfl, ha, hl, hk, qy, qn⟩ := h
    refine ⟨_, (pss_cons (ps_expr (pe_callS G_need_width (hr.mono (by decide)) (by rfl) T.g_need_width T.F_need_width.kp T.b_need_width (fun σ => passAt (takes_of rfl rfl rfl rfl) σ) (pa_cons (pv 0) (pa_cons (pv 1) pa_nil))))
    (pss_one (ps_ret (pe_call G_slid (hr.mono (by decide)) (by rfl) T.g_slid T.F_slid.kp T.b_slid .nil pass0 (pa_cons (pe_call G_last_places (hr.mono (by decide)) (by rfl) T.g_last_places T.F_last_places.kp T.b_last_places .nil pass0 (pa_cons (pv 0) pa_nil)) (pa_cons (pe_call G_next_places (hr.mono (by decide)) (by rfl) T.g_next_places T.F_next_places.kp T.b_next_places .nil pass0 (pa_cons (pv 0) pa_nil)) (pa_cons (pv 1) pa_nil))))))), ?_⟩
    tb_start
    · intro hn H1 s1
      exact qn hn _ s1
    · intro w e h0 h1 H1 s1
      cases e
      repeat (rename H _ = some _ => hx; first | (have hA := Ur.adv0 s1 hx; obtain ⟨hz, hw, hv⟩ := hA; clear hw hv hx; rename H1 _ = some _ => hq) | (have hA := Ur.adv1 s1 (by kcj_m) hx; obtain ⟨hz, hw, hv⟩ := hA; clear hw hv hx; rename H1 _ = some _ => hq) | (have hA := Ur.adv2 s1 (by kcj_m) (by kcj_m) hx; obtain ⟨hz, hw, hv⟩ := hA; clear hw hv hx; rename H1 _ = some _ => hq) | (have hA := Ur.adv3 s1 (by kcj_m) (by kcj_m) (by kcj_m) hx; obtain ⟨hz, hw, hv⟩ := hA; clear hw hv hx; rename H1 _ = some _ => hq) | (have hA := Ur.adv4 s1 (by kcj_m) (by kcj_m) (by kcj_m) (by kcj_m) hx; obtain ⟨hz, hw, hv⟩ := hA; clear hw hv hx; rename H1 _ = some _ => hq) | (have hA := Ur.adv5 s1 (by kcj_m) (by kcj_m) (by kcj_m) (by kcj_m) (by kcj_m) hx; obtain ⟨hz, hw, hv⟩ := hA; clear hw hv hx; rename H1 _ = some _ => hq) | (have hA := Ur.adv6 s1 (by kcj_m) (by kcj_m) (by kcj_m) (by kcj_m) (by kcj_m) (by kcj_m) hx; obtain ⟨hz, hw, hv⟩ := hA; clear hw hv hx; rename H1 _ = some _ => hq) | (have hA := Ur.adv7 s1 (by kcj_m) (by kcj_m) (by kcj_m) (by kcj_m) (by kcj_m) (by kcj_m) (by kcj_m) hx; obtain ⟨hz, hw, hv⟩ := hA; clear hw hv hx; rename H1 _ = some _ => hq) | clear hx)
      tb_start
      intro p2 H2 e2 s2 n2
      repeat (rename H1 _ = some _ => hx; first | (have hA := Ur.adv0 s2 hx; obtain ⟨hz, hw, hv⟩ := hA; (first | have := hw _ n2 | have := hv _ n2); clear hw hv hx; rename H2 _ = some _ => hq) | (have hA := Ur.adv1 s2 (by kcj_m) hx; obtain ⟨hz, hw, hv⟩ := hA; (first | have := hw _ n2 | have := hv _ n2); clear hw hv hx; rename H2 _ = some _ => hq) | (have hA := Ur.adv2 s2 (by kcj_m) (by kcj_m) hx; obtain ⟨hz, hw, hv⟩ := hA; (first | have := hw _ n2 | have := hv _ n2); clear hw hv hx; rename H2 _ = some _ => hq) | (have hA := Ur.adv3 s2 (by kcj_m) (by kcj_m) (by kcj_m) hx; obtain ⟨hz, hw, hv⟩ := hA; (first | have := hw _ n2 | have := hv _ n2); clear hw hv hx; rename H2 _ = some _ => hq) | (have hA := Ur.adv4 s2 (by kcj_m) (by kcj_m) (by kcj_m) (by kcj_m) hx; obtain ⟨hz, hw, hv⟩ := hA; (first | have := hw _ n2 | have := hv _ n2); clear hw hv hx; rename H2 _ = some _ => hq) | (have hA := Ur.adv5 s2 (by kcj_m) (by kcj_m) (by kcj_m) (by kcj_m) (by kcj_m) hx; obtain ⟨hz, hw, hv⟩ := hA; (first | have := hw _ n2 | have := hv _ n2); clear hw hv hx; rename H2 _ = some _ => hq) | (have hA := Ur.adv6 s2 (by kcj_m) (by kcj_m) (by kcj_m) (by kcj_m) (by kcj_m) (by kcj_m) hx; obtain ⟨hz, hw, hv⟩ := hA; (first | have := hw _ n2 | have := hv _ n2); clear hw hv hx; rename H2 _ = some _ => hq) | (have hA := Ur.adv7 s2 (by kcj_m) (by kcj_m) (by kcj_m) (by kcj_m) (by kcj_m) (by kcj_m) (by kcj_m) hx; obtain ⟨hz, hw, hv⟩ := hA; (first | have := hw _ n2 | have := hv _ n2); clear hw hv hx; rename H2 _ = some _ => hq) | clear hx)
      tb_start
      intro p3 H3 e3 s3 n3
      repeat (rename H2 _ = some _ => hx; first | (have hA := Ur.adv0 s3 hx; obtain ⟨hz, hw, hv⟩ := hA; (first | have := hw _ n3 | have := hv _ n3); clear hw hv hx; rename H3 _ = some _ => hq) | (have hA := Ur.adv1 s3 (by kcj_m) hx; obtain ⟨hz, hw, hv⟩ := hA; (first | have := hw _ n3 | have := hv _ n3); clear hw hv hx; rename H3 _ = some _ => hq) | (have hA := Ur.adv2 s3 (by kcj_m) (by kcj_m) hx; obtain ⟨hz, hw, hv⟩ := hA; (first | have := hw _ n3 | have := hv _ n3); clear hw hv hx; rename H3 _ = some _ => hq) | (have hA := Ur.adv3 s3 (by kcj_m) (by kcj_m) (by kcj_m) hx; obtain ⟨hz, hw, hv⟩ := hA; (first | have := hw _ n3 | have := hv _ n3); clear hw hv hx; rename H3 _ = some _ => hq) | (have hA := Ur.adv4 s3 (by kcj_m) (by kcj_m) (by kcj_m) (by kcj_m) hx; obtain ⟨hz, hw, hv⟩ := hA; (first | have := hw _ n3 | have := hv _ n3); clear hw hv hx; rename H3 _ = some _ => hq) | (have hA := Ur.adv5 s3 (by kcj_m) (by kcj_m) (by kcj_m) (by kcj_m) (by kcj_m) hx; obtain ⟨hz, hw, hv⟩ := hA; (first | have := hw _ n3 | have := hv _ n3); clear hw hv hx; rename H3 _ = some _ => hq) | (have hA := Ur.adv6 s3 (by kcj_m) (by kcj_m) (by kcj_m) (by kcj_m) (by kcj_m) (by kcj_m) hx; obtain ⟨hz, hw, hv⟩ := hA; (first | have := hw _ n3 | have := hv _ n3); clear hw hv hx; rename H3 _ = some _ => hq) | (have hA := Ur.adv7 s3 (by kcj_m) (by kcj_m) (by kcj_m) (by kcj_m) (by kcj_m) (by kcj_m) (by kcj_m) hx; obtain ⟨hz, hw, hv⟩ := hA; (first | have := hw _ n3 | have := hv _ n3); clear hw hv hx; rename H3 _ = some _ => hq) | clear hx)
      tb_start
      intro p4 H4 e4 s4 n4
      exact qy w rfl h0 h1 p4 _ e4 (by kcj_in) (by cc_off)
end
end Ur
namespace Ur
open PySem L2
/-- the least that a window of a width has, and the least first place of such: a new pair -/
def sp_least_of (K : PySem.W.Frag) (C : Addr) : Sp := fun vs H Q E => ∃ (a : Addr) (ns : List Int) (v : V), vs = [.ref a, v] ∧ SqL K H a (ns.map V.int) ∧ ns.length ≤ 1000 ∧ Kind H v ∧ (∀ w : Int, v = .int w → 0 ≤ w → w ≤ ns.length → ∀ p m H', m ∈ ofW ns w.toNat → (∀ y ∈ ofW ns w.toNat, m ≤ y) → H' p = some (.tup [.int m, .int ((ofW ns w.toNat).idxOf m : Nat)]) → Same H H' → H p = none → Q (.ref p) H') ∧ ((∀ w : Int, v = .int w → ¬ (0 ≤ w ∧ w ≤ ns.length)) → ∀ H', Same H H' → E (.ref C) none H')
section
variable {P : Program} {w : World} {K : PySem.W.Frag} {mg : Str → Option Value} {base : Heap} {A : Adr}
theorem ok_least_of (T : Txt w K mg A) : FnOk P w K mg base (L2.CX P w) 4 A.f_least_of A.d_least_of ["row", "width"] (sp_least_of K A.c_NoWindow) := by
  have G_of_width := ok_of_width (P := P) (w := w) (base := base) T
  refine T.F_least_of.okX sc_least_of (fun vs H Q E h => ?_) (fun cdv Ar outer s H vs Q E hr h => ?_)
  · obtain ⟨a, ns, v, rfl, _⟩ := h
    rfl
  · obtain ⟨a, ns, v, rfl, ha, hl, hk, qy, qn⟩ := h
    refine ⟨_, (pss_cons (ps_set (i := 2) sc_least_of.nd rfl (Or.inl rfl) (pe_callS G_of_width (hr.mono (by decide)) (by rfl) T.g_of_width T.F_of_width.kp T.b_of_width (fun σ => passAt (takes_of rfl rfl rfl rfl) σ) (pa_cons (pv 0) (pa_cons (pv 1) pa_nil))))
    (pss_cons (ps_set (i := 3) sc_least_of.nd rfl (Or.inl rfl) (Ur.pe_b1 (Ur.cr_minK (K := K) rfl rfl) (by rfl) T.m_min (by decide +kernel) (pv 2)))
    (pss_one (ps_ret (pe_tup (pa_cons (pv 3) (pa_cons (pe_bm PySem.F.plainAttrs_list PySem.F.slot_list_index PySem.F.type_list_index (Ur.mt_indexK (K := K) rfl) (pv 2) (pa_cons (pv 3) pa_nil)) pa_nil))))))), ?_⟩
    tb_start
    · intro hn H1 s1
      exact qn hn _ s1
    · intro w e h0 h1 p1 H1 e1 s1 n1
      cases e
      have hol := ofW_len ns w.toNat
      tb_start
      intro m hm hle
      tb_start
      intro p2 np2
      exact qy w rfl h0 h1 p2 m _ hm hle (by kct_strs) (by kcj_in) (by cc_off)
end
end Ur
namespace Ur
open PySem L2
/-- the most that a window of a width has, and the least first place of such: a new pair -/
def sp_most_of (K : PySem.W.Frag) (C : Addr) : Sp := fun vs H Q E => ∃ (a : Addr) (ns : List Int) (v : V), vs = [.ref a, v] ∧ SqL K H a (ns.map V.int) ∧ ns.length ≤ 1000 ∧ Kind H v ∧ (∀ w : Int, v = .int w → 0 ≤ w → w ≤ ns.length → ∀ p m H', m ∈ ofW ns w.toNat → (∀ y ∈ ofW ns w.toNat, y ≤ m) → H' p = some (.tup [.int m, .int ((ofW ns w.toNat).idxOf m : Nat)]) → Same H H' → H p = none → Q (.ref p) H') ∧ ((∀ w : Int, v = .int w → ¬ (0 ≤ w ∧ w ≤ ns.length)) → ∀ H', Same H H' → E (.ref C) none H')
section
variable {P : Program} {w : World} {K : PySem.W.Frag} {mg : Str → Option Value} {base : Heap} {A : Adr}
theorem ok_most_of (T : Txt w K mg A) : FnOk P w K mg base (L2.CX P w) 4 A.f_most_of A.d_most_of ["row", "width"] (sp_most_of K A.c_NoWindow) := by
  have G_of_width := ok_of_width (P := P) (w := w) (base := base) T
  refine T.F_most_of.okX sc_most_of (fun vs H Q E h => ?_) (fun cdv Ar outer s H vs Q E hr h => ?_)
  · obtain ⟨a, ns, v, rfl, _⟩ := h
    rfl
  · obtain ⟨a, ns, v, rfl, ha, hl, hk, qy, qn⟩ := h
    refine ⟨_, (pss_cons (ps_set (i := 2) sc_most_of.nd rfl (Or.inl rfl) (pe_callS G_of_width (hr.mono (by decide)) (by rfl) T.g_of_width T.F_of_width.kp T.b_of_width (fun σ => passAt (takes_of rfl rfl rfl rfl) σ) (pa_cons (pv 0) (pa_cons (pv 1) pa_nil))))
    (pss_cons (ps_set (i := 3) sc_most_of.nd rfl (Or.inl rfl) (Ur.pe_b1 (Ur.cr_maxK (K := K) rfl rfl) (by rfl) T.m_max (by decide +kernel) (pv 2)))
    (pss_one (ps_ret (pe_tup (pa_cons (pv 3) (pa_cons (pe_bm PySem.F.plainAttrs_list PySem.F.slot_list_index PySem.F.type_list_index (Ur.mt_indexK (K := K) rfl) (pv 2) (pa_cons (pv 3) pa_nil)) pa_nil))))))), ?_⟩
    tb_start
    · intro hn H1 s1
      exact qn hn _ s1
    · intro w e h0 h1 p1 H1 e1 s1 n1
      cases e
      have hol := ofW_len ns w.toNat
      tb_start
      intro m hm hle
      tb_start
      intro p2 np2
      exact qy w rfl h0 h1 p2 m _ hm hle (by kct_strs) (by kcj_in) (by cc_off)
end
end Ur
namespace Ur
open PySem L2
/-- the answer to a row of two words -/
def sp_Desk_told (K : PySem.W.Frag) (C CL CR W0 W1 W2 W3 : Addr) : Sp := fun vs H Q E => ∃ (L : Addr → Prop) (o lo pc : Addr) (ns : List Int) (hs : List (List Int)) (k : Nat) (x : Int), vs = [.ref o, .str (headT k), .int x] ∧ Dsk C CL CR L o lo pc H ns hs ∧ k < 5 ∧ 0 ≤ x ∧ hs.length + 1 ≤ 10000 ∧ DOut (excK W0 W1 W2 W3) C CL CR L o lo pc H ns hs Q E (tellD ns hs k x)
section
variable {P : Program} {w : World} {K : PySem.W.Frag} {mg : Str → Option Value} {base : Heap} {A : Adr}
theorem ok_Desk_told (T : Txt w K mg A) : FnOk P w K mg base (L2.CX P w) 7 A.f_Desk_told A.d_Desk_told ["self", "head", "one"] (sp_Desk_told K A.c_Desk A.c_Live A.c_Ready A.c_NoCommand A.c_NoRow A.c_NoWindow A.c_NoPlace) := by
  have G_Live_row := ok_Live_row (P := P) (w := w) (base := base) T
  have G_Live_take := ok_Live_take (P := P) (w := w) (base := base) T
  have G_fewest := ok_fewest (P := P) (w := w) (base := base) T
  have G_how_many := ok_how_many (P := P) (w := w) (base := base) T
  have G_least_of := ok_least_of (P := P) (w := w) (base := base) T
  have G_most_of := ok_most_of (P := P) (w := w) (base := base) T
  have G_show_row := ok_show_row (P := P) (w := w) (base := base) T
  refine T.F_Desk_told.okX sc_Desk_told (fun vs H Q E h => ?_) (fun cdv Ar outer s H vs Q E hr h => ?_)
  · obtain ⟨L, o, lo, pc, ns, hs, k, x, rfl, _⟩ := h
    rfl
  · have C_Desk := T.C_Desk
    have n_Desk_live := T.n_Desk_live
    obtain ⟨L, o, lo, pc, ns, hs, k, x, rfl, d, hk, hx, hhl, out⟩ := h
    obtain ⟨dx, eo⟩ := d.obj
    obtain ⟨cs, lv, bk⟩ := d.liv
    have hcl := bk.len
    obtain ⟨dxl, pnl, mvl, el⟩ := lv.ob
    have hsm := d.small
    refine ⟨_, (pss_cons (ps_if (pt_cmpR op_eq (pv 1) pe_str (nomark _)) (pss_one (ps_ret (Ur.pe_t1 call_str_int (by rfl) T.m_str (by decide +kernel) (Ur.pe_methA (Ur.pe_fldK (K := K) rfl (pv 0) rfl) T.C_Live T.M_Live_take G_Live_take (hr.mono (by decide)) T.b_Live_take (fun σ => passAt (takes_of rfl rfl rfl rfl) σ) (pa_cons (pv 2) pa_nil))))) pss_nil)
    (pss_cons (ps_set (i := 3) sc_Desk_told.nd rfl (Or.inl rfl) (pe_meth0 (Ur.pe_fldK (K := K) rfl (pv 0) rfl) T.C_Live T.M_Live_row G_Live_row (hr.mono (by decide)) T.b_Live_row .nil pass0))
    (pss_cons (ps_if (pt_cmpR op_eq (pv 1) pe_str (nomark _)) (pss_one (ps_ret (Ur.pe_t1 call_str_int (by rfl) T.m_str (by decide +kernel) (pe_call G_how_many (hr.mono (by decide)) (by rfl) T.g_how_many T.F_how_many.kp T.b_how_many .nil pass0 (pa_cons (pv 3) (pa_cons (pv 2) pa_nil)))))) pss_nil)
    (pss_cons (ps_if (pt_cmpR op_eq (pv 1) pe_str (nomark _)) (pss_cons (ps_if (pt_cmpR op_eq (pv 2) pe_int (nomark _)) (pss_one (ps_raise rfl (takes_of rfl rfl rfl rfl) (pmk_own PySem.F.excBase_ValueError T.x_NoCommand T.g_NoCommand T.k_NoCommand (raises_own T.b_NoCommand T.t_NoCommand) (by exact rfl)))) pss_nil)
    (pss_one (ps_ret (pe_call G_show_row (hr.mono (by decide)) (by rfl) T.g_show_row T.F_show_row.kp T.b_show_row .nil pass0 (pa_cons (pe_call G_fewest (hr.mono (by decide)) (by rfl) T.g_fewest T.F_fewest.kp T.b_fewest .nil pass0 (pa_cons (pv 3) (pa_cons (pv 2) pa_nil))) pa_nil))))) pss_nil)
    (pss_cons (ps_if (pt_cmpR op_eq (pv 1) pe_str (nomark _)) (pss_one (ps_set (i := 4) sc_Desk_told.nd rfl (Or.inl rfl) (pe_callS G_most_of (hr.mono (by decide)) (by rfl) T.g_most_of T.F_most_of.kp T.b_most_of (fun σ => passAt (takes_of rfl rfl rfl rfl) σ) (pa_cons (pv 3) (pa_cons (pv 2) pa_nil))))) (pss_one (ps_set (i := 4) sc_Desk_told.nd rfl (Or.inl rfl) (pe_callS G_least_of (hr.mono (by decide)) (by rfl) T.g_least_of T.F_least_of.kp T.b_least_of (fun σ => passAt (takes_of rfl rfl rfl rfl) σ) (pa_cons (pv 3) (pa_cons (pv 2) pa_nil))))))
    (pss_one (ps_ret (pe_join pe_str (pe_lc (own := [("number", 5)]) (g := gName 5) (by rfl) sc_Desk_told.nd (pi_tup (pv 4)) (blkOk_by (own := [("number", 5)]) (N := ["self", "head", "one", "row", "found", "number"]) (by kernel_rfl)) (fun _ _ _ _ _ => pg_name (i := 5) sc_Desk_told.nd rfl (Or.inl rfl)) (fun _ _ _ _ _ => pts_nil) (fun _ _ _ _ _ => (Ur.pe_t1 call_str_int (by rfl) T.m_str (by decide +kernel) (pv 5)))))))))))), ?_⟩
    have hk5 : k = 0 ∨ k = 1 ∨ k = 2 ∨ k = 3 ∨ k = 4 := by omega
    rcases hk5 with rfl | rfl | rfl | rfl | rfl
    · have out : DOut (excK A.c_NoCommand A.c_NoRow A.c_NoWindow A.c_NoPlace) A.c_Desk A.c_Live A.c_Ready L o lo pc H ns hs Q E (if x < (ns.length : Int) then .ok (intC (ns.getD x.toNat 0)) (layd ns x 1 []) (hs ++ [ns]) else .bad 3) := out
      by_cases hw : x < (ns.length : Int)
      · rw [if_pos hw] at out
        tb_start
        refine .inl ?_
        tb_start
        intro H1 v1 f1
        have hlg : (ns.getD x.toNat 0).natAbs.log2 < 1920 := log_small (k := 30) (d.bd _ (by rw [List.getD_eq_getElem?_getD, List.getElem?_eq_getElem (by omega)]; exact List.getElem_mem _)) (by decide)
        tb_start
        rw [intC_S]
        have ll := layd_len (ns := ns) (gs := []) (p := x) (m := 1) hx (by decide) (by omega)
        exact out _ (d.next f1 v1 (bk.note (gs := []) hx (by decide) (by omega) hsm) (layd_bd d.bd fun n hn => nomatch hn) d.obd (by rw [List.length_nil] at ll; omega)) f1
      · rw [if_neg hw] at out
        tb_start
        refine .inr ?_
        tb_start
        · exact out _ d (Fr.same (Same.refl _))
        · exact fun p e k => hw (by cases e; omega)
    · tb_start
      intro p H1 e1 s1 n1
      have hb := hisN_bd (ns := ns) hx
      have hlg : (hisN ns x).natAbs.log2 < 1920 := log_small (k := 6) (by
        have h2 : ns.length * ns.length ≤ 400 * 400 := Nat.mul_le_mul hsm hsm
        omega) (by decide)
      tb_start
      intro H2 s2
      tb_start
      rw [intC_S]
      have s12 := s1.trans s2
      exact out _ (d.same s12) (Fr.same s12)
    · have out : DOut (excK A.c_NoCommand A.c_NoRow A.c_NoWindow A.c_NoPlace) A.c_Desk A.c_Live A.c_Ready L o lo pc H ns hs Q E (if x = 0 then .bad 0 else .ok (showC (parts ns x)) ns hs) := out
      tb_start
      intro p H1 e1 s1 n1
      tb_start
      refine bri (fun h0 => ?_) (fun h0 => ?_)
      · rw [if_pos h0] at out
        tb_start
        exact out _ (d.same s1) (Fr.same s1)
      · rw [if_neg h0] at out
        have hpl := parts_len ns x
        have hpb : ∀ n ∈ parts ns x, n.natAbs < 10 ^ 40 := fun n hn => by
          obtain ⟨k, hk⟩ := List.getElem?_of_mem hn
          have := parts_ok (by omega) hk
          have h3 : n.natAbs < 10 ^ 3 := by omega
          exact Nat.lt_of_lt_of_le h3 (Nat.pow_le_pow_right (by decide) (by decide))
        tb_start
        intro p2 H2 e2 s2 n2
        tb_start
        intro H3 s3
        have s13 := (s1.trans s2).trans s3
        exact out _ (d.same s13) (Fr.same s13)
    · have out : DOut (excK A.c_NoCommand A.c_NoRow A.c_NoWindow A.c_NoPlace) A.c_Desk A.c_Live A.c_Ready L o lo pc H ns hs Q E (if x ≤ (ns.length : Int) then .ok (showC [mxI (ofW ns x.toNat), ((ofW ns x.toNat).idxOf (mxI (ofW ns x.toNat)) : Nat)]) ns hs else .bad 2) := out
      tb_start
      intro p H1 e1 s1 n1
      tb_start
      · intro nb H2 s2
        rw [if_neg fun h => nb x rfl ⟨hx, h⟩] at out
        exact out _ (d.same (s1.trans s2)) (Fr.same (s1.trans s2))
      · intro w ew hw0 hw1 p2 m H2 hm hmx e2 s2 n2
        cases ew
        rw [if_pos hw1, mxI_of hm hmx] at out
        have hmb := ofW_bd hm
        have hil := List.idxOf_lt_length_of_mem hm
        rw [ofW_len] at hil
        generalize hgi : (((ofW ns x.toNat).idxOf m : Nat) : Int) = ix at *
        have hib : 0 ≤ ix ∧ ix ≤ 401 := by omega
        have hnb : ∀ n ∈ [m, ix], n.natAbs < 10 ^ 4 := fun n hn => by
          rcases List.mem_cons.mp hn with rfl | hn
          · omega
          · rw [List.mem_singleton.mp hn]; omega
        have e2' : H2 p2 = some (.tup ([m, ix].map V.int)) := e2
        have s12 := s1.trans s2
        tb_start
        intro D nD
        refine lc_tints (ns := [m, ix]) (fun n => V.str (Str.ofString (toString n))) (by show 2 ≤ 1000000; decide) (SqT.of e2') nD (fun _ => rfl) ?he ?hd
        case he =>
          intro z H' hz s Q' q'
          have hlg := log_small (hnb z hz) (by decide)
          tb_start
          exact q' _ (by kcj_in)
        case hd =>
          intro H' s e
          refine ⟨_, _, [m, ix].map (fun n => Str.ofString (toString n)), rfl, rfl, .inl (SqL.of (by rw [e, List.map_map]; rfl)), ?_, ?_⟩
          · have h1 := sum_lens (c := 5) ([m, ix].map fun n => Str.ofString (toString n)) fun y hy => by
              obtain ⟨n, hn, rfl⟩ := List.mem_map.mp hy
              rw [intC_S, SX.S_len]
              exact intC_len (by decide) (hnb n hn)
            rw [List.length_map] at h1 ⊢
            have h2 : (Str.ofString " ").length = 1 := by decide
            have h3 : ([m, ix] : List Int).length = 2 := rfl
            rw [h3] at h1
            rw [h2, h3]
            omega
          · rw [show Str.ofString " " = SX.S [32] from by decide, join_show (List.cons_ne_nil _ _)]
            exact out _ (d.same (s12.trans s)) (Fr.same (s12.trans s))
        exact ⟨_, rfl⟩
    · have out : DOut (excK A.c_NoCommand A.c_NoRow A.c_NoWindow A.c_NoPlace) A.c_Desk A.c_Live A.c_Ready L o lo pc H ns hs Q E (if x ≤ (ns.length : Int) then .ok (showC [mnI (ofW ns x.toNat), ((ofW ns x.toNat).idxOf (mnI (ofW ns x.toNat)) : Nat)]) ns hs else .bad 2) := out
      tb_start
      intro p H1 e1 s1 n1
      tb_start
      · intro nb H2 s2
        rw [if_neg fun h => nb x rfl ⟨hx, h⟩] at out
        exact out _ (d.same (s1.trans s2)) (Fr.same (s1.trans s2))
      · intro w ew hw0 hw1 p2 m H2 hm hmx e2 s2 n2
        cases ew
        rw [if_pos hw1, mnI_of hm hmx] at out
        have hmb := ofW_bd hm
        have hil := List.idxOf_lt_length_of_mem hm
        rw [ofW_len] at hil
        generalize hgi : (((ofW ns x.toNat).idxOf m : Nat) : Int) = ix at *
        have hib : 0 ≤ ix ∧ ix ≤ 401 := by omega
        have hnb : ∀ n ∈ [m, ix], n.natAbs < 10 ^ 4 := fun n hn => by
          rcases List.mem_cons.mp hn with rfl | hn
          · omega
          · rw [List.mem_singleton.mp hn]; omega
        have e2' : H2 p2 = some (.tup ([m, ix].map V.int)) := e2
        have s12 := s1.trans s2
        tb_start
        intro D nD
        refine lc_tints (ns := [m, ix]) (fun n => V.str (Str.ofString (toString n))) (by show 2 ≤ 1000000; decide) (SqT.of e2') nD (fun _ => rfl) ?he ?hd
        case he =>
          intro z H' hz s Q' q'
          have hlg := log_small (hnb z hz) (by decide)
          tb_start
          exact q' _ (by kcj_in)
        case hd =>
          intro H' s e
          refine ⟨_, _, [m, ix].map (fun n => Str.ofString (toString n)), rfl, rfl, .inl (SqL.of (by rw [e, List.map_map]; rfl)), ?_, ?_⟩
          · have h1 := sum_lens (c := 5) ([m, ix].map fun n => Str.ofString (toString n)) fun y hy => by
              obtain ⟨n, hn, rfl⟩ := List.mem_map.mp hy
              rw [intC_S, SX.S_len]
              exact intC_len (by decide) (hnb n hn)
            rw [List.length_map] at h1 ⊢
            have h2 : (Str.ofString " ").length = 1 := by decide
            have h3 : ([m, ix] : List Int).length = 2 := rfl
            rw [h3] at h1
            rw [h2, h3]
            omega
          · rw [show Str.ofString " " = SX.S [32] from by decide, join_show (List.cons_ne_nil _ _)]
            exact out _ (d.same (s12.trans s)) (Fr.same (s12.trans s))
        exact ⟨_, rfl⟩
end
end Ur
namespace Ur
open PySem L2
/-- the last change taken back, if there is one -/
def sp_Live_undo (K : PySem.W.Frag) (C : Addr) : Sp := fun vs H Q _ => ∃ (L : Addr → Prop) (CR o pc : Addr) (ns : List Int) (cs : List (Int × Int × List Int)), vs = [.ref o] ∧ Liv C CR L o pc H ns cs ∧ UndoQ C CR L o pc H ns cs Q
section
variable {P : Program} {w : World} {K : PySem.W.Frag} {mg : Str → Option Value} {base : Heap} {A : Adr}
theorem ok_Live_undo (T : Txt w K mg A) : FnOk P w K mg base CX0 2 A.f_Live_undo A.d_Live_undo ["self"] (sp_Live_undo K A.c_Live) := by
  have G_Live_laid := ok_Live_laid (P := P) (w := w) (base := base) T
  refine T.F_Live_undo.ok sc_Live_undo (fun vs H Q E h => ?_) (fun cdv Ar outer s H vs Q E hr h => ?_)
  · obtain ⟨L, CR, o, pc, ns, cs, rfl, _⟩ := h
    rfl
  · have C_Live := T.C_Live
    have n_Live_numbers := T.n_Live_numbers
    have n_Live_changes := T.n_Live_changes
    have n_Live_made := T.n_Live_made
    obtain ⟨L, CR, o, pc, ns, cs, rfl, v, uq⟩ := h
    obtain ⟨dx, pn, mv, eo, en, hpn, _⟩ := v.obj
    have hpnc : pn ≠ pc := hpn pc (.inr (.inr rfl))
    clear hpn
    obtain ⟨ts, ec, htl, hch⟩ := v.chs
    have hnl := v.len
    have hno := v.ne
    refine ⟨_, (pss_cons (ps_if (pt_cmpR (Ur.op_eqDK (K := K) rfl hr.units) (Ur.pe_fldK (K := K) rfl (pv 0) rfl) (pe_lst pa_nil) (nomark _)) (pss_one (ps_ret pe_bl)) pss_nil)
    (pss_cons (ps_asg (pe_bm0 PySem.F.plainAttrs_list PySem.F.slot_list_pop PySem.F.type_list_pop mt_pop (Ur.pe_fldK (K := K) rfl (pv 0) rfl)) (pg_tup (by rfl) (pgs_cons (pg_name (i := 1) sc_Live_undo.nd rfl (Or.inl rfl)) (pgs_cons (pg_name (i := 2) sc_Live_undo.nd rfl (Or.inl rfl)) (pgs_cons (pg_name (i := 3) sc_Live_undo.nd rfl (Or.inl rfl)) pgs_nil)))))
    (pss_cons (ps_expr (pe_meth (pv 0) T.C_Live T.M_Live_laid G_Live_laid (hr.mono (by decide)) T.b_Live_laid .nil pass0 (pa_cons (pv 1) (pa_cons (pv 2) (pa_cons (pv 3) pa_nil)))))
    (pss_one (ps_ret pe_bl))))), ?_⟩
    tb_start
    intro b nb
    have s1 : Same H (upd H b (.lst [])) := same_new nb
    have eb : (upd H b (.lst [])) b = some (.lst []) := upd_same
    have eo1 := s1 _ _ eo
    have en1 := s1 _ _ en
    have ec1 := s1 _ _ ec
    have v1 := v.same s1
    generalize (upd H b (.lst [])) = H1 at *
    refine v1.noChanges (.of eb) ?_
    by_cases hcs : cs = []
    · rw [decide_eq_true hcs]
      tb_start
      exact uq.no hcs _ v1 (Fr.same s1)
    · rw [decide_eq_false hcs]
      obtain ⟨ds, c, rfl⟩ : ∃ ds c, cs = ds ++ [c] := ⟨cs.dropLast, cs.getLast hcs, (List.dropLast_concat_getLast hcs).symm⟩
      rw [List.length_append] at htl
      obtain ⟨us, t, rfl⟩ : ∃ us t, ts = us ++ [t] := by
        have hne : ts ≠ [] := fun e => by rw [e] at htl; cases htl
        exact ⟨ts.dropLast, ts.getLast hne, (List.dropLast_concat_getLast hne).symm⟩
      obtain ⟨⟨c0, c1, c2, c3, c4⟩, q2⟩ := uq.yes ds c rfl
      rw [List.length_append] at htl
      have hul : us.length + 1 = ds.length + 1 := htl
      obtain ⟨g, et, eg, hoff⟩ := (hch us.length t c (by rw [List.getElem?_append_right (Nat.le_refl _), Nat.sub_self]; rfl) (by rw [List.getElem?_append_right (by omega), show us.length - ds.length = 0 by omega]; rfl)).all
      have et1 := s1 _ _ et
      have eg1 := s1 _ _ eg
      have htc : t ≠ pc := (hoff pc (.inr (.inr rfl))).1
      have hgc : g ≠ pc := (hoff pc (.inr (.inr rfl))).2
      clear hch hoff et eg
      have hlast : ((us ++ [t]).map V.ref)[((us ++ [t]).map V.ref).length - 1]? = some (.ref t) := by
        rw [List.length_map, List.length_append, List.getElem?_map, List.getElem?_append_right (by show us.length ≤ us.length + 1 - 1; omega)]
        show Option.map V.ref ([t][us.length + 1 - 1 - us.length]?) = _
        rw [show us.length + 1 - 1 - us.length = 0 by omega]
        rfl
      have hdl : ((us ++ [t]).map V.ref).dropLast = us.map V.ref := by rw [List.map_append]; exact List.dropLast_concat
      tb_start
      intro g2 r2 H2 e1 e2 e3 n1 n2 ngr b2
      have nr2 : H1 r2 = none := upd_none n2
      have e4 : H2 pc = some (.lst (us.map V.ref)) := by rw [← hdl]; exact b2 _ _ (Ne.symm hno) upd_same
      have f2 : Fr o pc H1 H2 := (Fr.but2 (but_at but_refl)).trans (Fr.but b2)
      have v2 := v1.unnote ec1 e2 e3 e4 nr2 f2 c3
      tb_start
      exact q2 _ v2 ((Fr.same s1).trans f2)
end
end Ur
namespace Ur
open PySem L2
/-- the number from 0 on that a word writes; others are refused -/
def sp_figures_in (K : PySem.W.Frag) (C : Addr) : Sp := fun vs H Q E => ∃ (cs : List Nat), vs = [.str (SX.S cs)] ∧ cs.length ≤ 20000 ∧ (FOk cs → Q (.int (NumText.digitsVal cs : Nat)) H) ∧ (¬ FOk cs → E (.ref C) none H)
section
variable {P : Program} {w : World} {K : PySem.W.Frag} {mg : Str → Option Value} {base : Heap} {A : Adr}
theorem ok_figures_in (T : Txt w K mg A) : FnOk P w K mg base (L2.CX P w) 1 A.f_figures_in A.d_figures_in ["word"] (sp_figures_in K A.c_NoCommand) := by
  refine T.F_figures_in.okX sc_figures_in (fun vs H Q E h => ?_) (fun cdv Ar outer s H vs Q E hr h => ?_)
  · obtain ⟨cs, rfl, _⟩ := h
    rfl
  · obtain ⟨cs, rfl, hl, q, r⟩ := h
    have hz : (SX.S cs).length = cs.length := SX.S_len cs
    have szc : (SX.S cs).length ≤ sizeLine := Nat.le_of_lt (szl (by omega))
    refine ⟨_, (Evl.pss_cut (ps_if (PW.pt (pw_or (pt_not (pt_chain op_le op_le pe_int (Ur.pe_b1 call_len_str (by rfl) T.m_len (by decide +kernel) (pv 0)) (pe_glob (v := .int 6) (by rfl) T.k_MOST_FIGURES_desk.choose_spec ⟨_, rfl⟩))) (pw_or1 (PW.pt (pw_and (pt_cmpR op_eq (pe_ix ix_str (pv 0) pe_int (fun _ _ => rfl)) pe_str (nomark _)) (pw_and1 (pt_cmpR op_ne (pv 0) pe_str (nomark _)))))))) (pss_one (ps_raise rfl (takes_of rfl rfl rfl rfl) (pmk_own PySem.F.excBase_ValueError T.x_NoCommand T.g_NoCommand T.k_NoCommand (raises_own T.b_NoCommand T.t_NoCommand) (by exact rfl)))) pss_nil)
    (pss_cons (ps_for (passes_of rfl) (by rfl) (pi_str (pv 0)) (pg_name (i := 1) sc_figures_in.nd rfl (Or.inl rfl)) (pss_one (ps_if (pt_cmpR op_notIn_sign (pv 1) (pe_glob (v := .str (Str.ofString "0123456789")) (by rfl) T.k_FIGURES_desk.choose_spec ⟨_, rfl⟩) rfl) (pss_one (ps_raise rfl (takes_of rfl rfl rfl rfl) (pmk_own PySem.F.excBase_ValueError T.x_NoCommand T.g_NoCommand T.k_NoCommand (raises_own T.b_NoCommand T.t_NoCommand) (by exact rfl)))) pss_nil)))
    (pss_one (ps_ret (Ur.pe_t1 call_int_str (by rfl) T.m_int (by decide +kernel) (pv 0)))))), ?_⟩
    tb_start
    refine ⟨fun σ H' => Iv (σ = [some (.str (SX.S cs)), none] ∧ H' = H ∧ (1 ≤ cs.length ∧ cs.length ≤ 6) ∧ (cs.head? = some 48 → cs = [48])), ?_, ?_⟩
    · tb_start
      refine br (fun h1 => ?_) (fun h1 => ?_)
      · tb_start
        refine brn (fun h2 => ?_) (fun h2 => ?_)
        · tb_start
          exact r fun z => h2 (by have := z.1; omega)
        · obtain ⟨c0, r0, e0⟩ : ∃ c0 r0, cs = c0 :: r0 := by
            cases cs with
            | nil => rw [hz] at h1; exact absurd h1 (by decide)
            | cons a b => exact ⟨a, b, rfl⟩
          have a0 : atI (SX.S cs).cps.toList 0 = some c0 := by rw [e0]; exact atI_pos (by decide) (by show (0 : Int) < ((c0 :: r0).length : Nat); rw [List.length_cons]; omega)
          have hb : 1 ≤ cs.length ∧ cs.length ≤ 6 := by omega
          tb_start
          refine br (fun k0 => ?_) (fun k0 => ?_)
          · have c48 : c0 = 48 := by
              have := (S_eqP (a := [c0]) (b := Str.ofString "0")).mp k0
              rw [zero_L] at this
              simpa using this
            tb_start
            refine brn (fun k1 => ?_) (fun k1 => ?_)
            · tb_start
              exact r fun z => k1 (S_eqP.mpr (by rw [zero_L]; exact z.2.2 (by rw [e0, c48]; rfl)))
            · tb_start
              exact ⟨rfl, rfl, hb, fun _ => by have := S_eqP.mp k1; rwa [zero_L] at this⟩
          · tb_start
            exact ⟨rfl, rfl, hb, fun z => absurd (by rw [e0] at z; have z : c0 = 48 := Option.some.inj z; rw [z]; exact S_eqP.mpr zero_L.symm) k0⟩
      · tb_start
        exact r fun z => h1 (by have := z.1; omega)
    · rintro σ H' ⟨rfl, rfl, hb, hz0⟩
      tb_start
      refine for_str (fun i σ H1 => Iv (∃ u, σ = [some (.str (SX.S cs)), u] ∧ H1 = H' ∧ ∀ c ∈ cs.take i, 48 ≤ c ∧ c ≤ 57)) ?l0 ?ls ?ld
      case l0 => exact ⟨_, rfl, rfl, fun c hc => by simp at hc⟩
      case ls =>
        rintro i c σ H1 hc ⟨u, rfl, rfl, hd⟩
        have hm : c ∈ cs := List.mem_of_getElem? hc
        tb_start
        refine brn (fun hn => ?_) (fun hy => ?_)
        · tb_start
          exact r fun z => hn (digs_iff.mpr (z.2.1 c hm))
        · tb_start
          refine ⟨_, rfl, rfl, fun y hy2 => ?_⟩
          rw [List.take_add_one, show cs[i]? = some c from hc] at hy2
          rcases List.mem_append.mp hy2 with hy2 | hy2
          · exact hd y hy2
          · have : y = c := by simpa using hy2
            rw [this]
            exact digs_iff.mp hy
      case ld =>
        rintro σ H1 ⟨u, rfl, rfl, hd⟩
        rw [show (SX.S cs).cps.toList.length = cs.length from rfl, List.take_length] at hd
        have ok : FOk cs := ⟨hb, hd, hz0⟩
        have tx := ok.text
        tb_start
        exact q ok
end
end Ur
namespace Ur
open PySem L2
/-- the number that a word writes; others are refused -/
def sp_read_number (K : PySem.W.Frag) (C : Addr) : Sp := fun vs H Q E => ∃ (cs : List Nat), vs = [.str (SX.S cs)] ∧ cs.length ≤ 100000 ∧ (WOk cs → Q (.int (wVal cs)) H) ∧ (¬ WOk cs → E (.ref C) none H)
section
variable {P : Program} {w : World} {K : PySem.W.Frag} {mg : Str → Option Value} {base : Heap} {A : Adr}
theorem okn_read_number (T : Txt w K mg A) : FnOk P w K mg base (L2N.CX P w) 1 A.f_read_number A.d_read_number ["word"] (sp_read_number K A.c_NoRow) := by
  refine RaiseN.okN T.F_read_number sc_read_number (fun vs H Q E h => ?_) (fun cdv Ar outer s H vs Q E hr h => ?_)
  · obtain ⟨cs, rfl, _⟩ := h
    rfl
  · obtain ⟨cs, rfl, hl, q, r⟩ := h
    have hz : (SX.S cs).length = cs.length := SX.S_len cs
    have hlf := figsC_le cs
    have hzf : (SX.S (figsC cs)).length = (figsC cs).length := SX.S_len _
    have szf : (SX.S (figsC cs)).length ≤ sizeLine := Nat.le_of_lt (szl (by omega))
    have szc : (SX.S cs).length ≤ sizeLine := Nat.le_of_lt (szl (by omega))
    refine ⟨_, (pss_cons (ps_set (i := 1) sc_read_number.nd rfl (Or.inl rfl) (pv 0))
    (Evl.pss_cut (ps_if (pt_cmpR op_eq (pe_slice sl_str (pv 0) po_none (po_some pe_int)) pe_str (nomark _)) (pss_one (ps_set (i := 1) sc_read_number.nd rfl (Or.inl rfl) (pe_slice sl_str (pv 0) (po_some pe_int) po_none))) pss_nil)
    (pss_cons (ps_if (pt_not (pt_chain op_le op_le pe_int (Ur.pe_b1 call_len_str (by rfl) T.m_len (by decide +kernel) (pv 1)) (pe_glob (v := .int 30) (by rfl) T.k_MOST_FIGURES_notes.choose_spec ⟨_, rfl⟩))) (pss_one (L2N.ps_raise rfl (L2N.takes_of rfl rfl rfl rfl) (L2N.pmk_own PySem.F.excBase_ValueError T.x_NoRow T.g_NoRow T.k_NoRow (raises_own T.b_NoRow T.t_NoRow) (by exact rfl)))) pss_nil)
    (pss_cons (ps_for (passes_of rfl) (by rfl) (pi_str (pv 1)) (pg_name (i := 2) sc_read_number.nd rfl (Or.inl rfl)) (pss_one (ps_if (pt_cmpR op_notIn_sign (pv 2) (pe_glob (v := .str (Str.ofString "0123456789")) (by rfl) T.k_FIGURES_notes.choose_spec ⟨_, rfl⟩) rfl) (pss_one (L2N.ps_raise rfl (L2N.takes_of rfl rfl rfl rfl) (L2N.pmk_own PySem.F.excBase_ValueError T.x_NoRow T.g_NoRow T.k_NoRow (raises_own T.b_NoRow T.t_NoRow) (by exact rfl)))) pss_nil)))
    (pss_cons (ps_if (PW.pt (pw_and (pt_cmpR op_eq (pe_ix ix_str (pv 1) pe_int (fun _ _ => rfl)) pe_str (nomark _)) (pw_and1 (pt_cmpR op_ne (pv 0) pe_str (nomark _))))) (pss_one (L2N.ps_raise rfl (L2N.takes_of rfl rfl rfl rfl) (L2N.pmk_own PySem.F.excBase_ValueError T.x_NoRow T.g_NoRow T.k_NoRow (raises_own T.b_NoRow T.t_NoRow) (by exact rfl)))) pss_nil)
    (pss_one (ps_ret (Ur.pe_t1 call_int_str (by rfl) T.m_int (by decide +kernel) (pv 0))))))))), ?_⟩
    tb_start
    refine ⟨fun σ H' => Iv (σ = [some (.str (SX.S cs)), some (.str (SX.S (figsC cs))), none] ∧ H' = H), ?_, ?_⟩
    · tb_start
      refine br (fun e => ?_) (fun e => ?_)
      · have z := neg_iff.mp e
        tb_start
        refine ⟨?_, rfl⟩
        rw [cutS_from _ (by decide), show figsC cs = cs.drop 1 from if_pos z]
        rfl
      · have z := fun h => e (neg_iff.mpr h)
        tb_start
        refine ⟨?_, rfl⟩
        rw [show figsC cs = cs from if_neg z]
        rfl
    · rintro σ H' ⟨rfl, rfl⟩
      tb_start
      refine br (fun h1 => ?_) (fun h1 => ?_)
      · tb_start
        refine brn (fun h2 => ?_) (fun h2 => ?_)
        · tb_start
          exact r fun z => h2 (by have := z.1; omega)
        · tb_start
          refine for_str (fun i σ H1 => Iv (∃ u, σ = [some (.str (SX.S cs)), some (.str (SX.S (figsC cs))), u] ∧ H1 = H' ∧ ∀ c ∈ (figsC cs).take i, 48 ≤ c ∧ c ≤ 57)) ?l0 ?ls ?ld
          case l0 => exact ⟨_, rfl, rfl, fun c hc => by simp at hc⟩
          case ls =>
            rintro i c σ H1 hc ⟨u, rfl, rfl, hd⟩
            have hm : c ∈ figsC cs := List.mem_of_getElem? hc
            tb_start
            refine brn (fun hn => ?_) (fun hy => ?_)
            · tb_start
              exact r fun z => hn (digs_iff.mpr (z.2.1 c hm))
            · tb_start
              refine ⟨_, rfl, rfl, fun y hy2 => ?_⟩
              rw [List.take_add_one, show (figsC cs)[i]? = some c from hc] at hy2
              rcases List.mem_append.mp hy2 with hy2 | hy2
              · exact hd y hy2
              · have : y = c := by simpa using hy2
                rw [this]
                exact digs_iff.mp hy
          case ld =>
            rintro σ H1 ⟨u, rfl, rfl, hd⟩
            rw [show (SX.S (figsC cs)).cps.toList.length = (figsC cs).length from rfl, List.take_length] at hd
            obtain ⟨c0, r0, e0⟩ : ∃ c0 r0, figsC cs = c0 :: r0 := by
              cases q : figsC cs with
              | nil => rw [hzf, q] at h1; exact absurd h1 (by decide)
              | cons a b => exact ⟨a, b, rfl⟩
            have a0 : atI (SX.S (figsC cs)).cps.toList 0 = some c0 := by rw [e0]; exact atI_pos (by decide) (by show (0 : Int) < ((c0 :: r0).length : Nat); rw [List.length_cons]; omega)
            have hb : 1 ≤ (figsC cs).length ∧ (figsC cs).length ≤ 30 := by omega
            have fin : WOk cs → Q (.int (wVal cs)) H1 := q
            tb_start
            refine br (fun k0 => ?_) (fun k0 => ?_)
            · have c48 : c0 = 48 := by
                have := S_eqP (a := [c0]) (b := Str.ofString "0")
                rw [zero_L] at this
                have := this.mp k0
                simpa using this
              tb_start
              refine brn (fun k1 => ?_) (fun k1 => ?_)
              · tb_start
                exact r fun z => k1 (S_eqP.mpr (by rw [zero_L]; exact z.2.2 (by rw [e0, c48]; rfl)))
              · have ok : WOk cs := ⟨hb, hd, fun _ => by have := S_eqP.mp k1; rwa [zero_L] at this⟩
                have tx := ok.text
                have := ok.len
                tb_start
                exact fin ok
            · have ok : WOk cs := ⟨hb, hd, fun z => absurd (by rw [e0] at z; have z : c0 = 48 := Option.some.inj z; rw [z]; exact S_eqP.mpr zero_L.symm) k0⟩
              have tx := ok.text
              have := ok.len
              tb_start
              exact fin ok
      · tb_start
        exact r fun z => h1 (by have := z.1; omega)
theorem ok_read_number (T : Txt w K mg A) : FnOk P w K mg base (L2.CX P w) 1 A.f_read_number A.d_read_number ["word"] (sp_read_number K A.c_NoRow) := RaiseN.weak (okn_read_number T)
end
end Ur
namespace Ur
open PySem L2
/-- the number that a word writes; others are refused -/
def sp_number_in (K : PySem.W.Frag) (C : Addr) : Sp := fun vs H Q E => ∃ (cs : List Nat), vs = [.str (SX.S cs)] ∧ cs.length ≤ 20000 ∧ (WOk cs → Q (.int (wVal cs)) H) ∧ (¬ WOk cs → E (.ref C) none H)
section
variable {P : Program} {w : World} {K : PySem.W.Frag} {mg : Str → Option Value} {base : Heap} {A : Adr}
theorem ok_number_in (T : Txt w K mg A) : FnOk P w K mg base (L2.CX P w) 2 A.f_number_in A.d_number_in ["word"] (sp_number_in K A.c_NoCommand) := by
  have G_read_number := ok_read_number (P := P) (w := w) (base := base) T
  have Gn_read_number := okn_read_number (P := P) (w := w) (base := base) T
  refine T.F_number_in.okX sc_number_in (fun vs H Q E h => ?_) (fun cdv Ar outer s H vs Q E hr h => ?_)
  · obtain ⟨cs, rfl, _⟩ := h
    rfl
  · obtain ⟨cs, rfl, hl, q, r⟩ := h
    refine ⟨_, (pss_cons (L2H.ps_try_onlyX rfl rfl ⟨rfl, by decide, .inl T.g_NoRow⟩ (RaiseN.passesAt_of rfl) (takes_of rfl rfl rfl rfl) (fun W pn xe tkn tkp po => (pss_one (ps_set (i := 1) sc_number_in.nd rfl (Or.inl rfl) (pe_callS Gn_read_number (hr.mono (by decide)) (by rfl) T.g_read_number T.F_read_number.kp T.b_read_number (fun σ => L2N.passAt tkn σ) (pa_cons (pv 0) pa_nil))))) (fun ea oe cls d pn hz hf tks hot => pss_one (L2H.ps_raiseHN hot tks (RaiseN.mk5 PySem.F.excBase_ValueError T.x_NoCommand T.g_NoCommand T.k_NoCommand (raises_own T.b_NoCommand T.t_NoCommand) (by exact rfl)))))
    (pss_one (ps_ret (pv 1)))), ?_⟩
    tb_start
    · intro no
      refine ⟨true, T.m_NoRow_NoRow, fun _ ea nea => ?_, fun z => nomatch z⟩
      exact r no
    · intro ok
      tb_start
      exact q ok
end
end Ur
namespace Ur
open PySem L2
/-- the row that a text writes; others are refused -/
def sp_read_row (K : PySem.W.Frag) (C : Addr) : Sp := fun vs H Q E => ∃ (cs : List Nat), vs = [.str (SX.S cs)] ∧ cs.length ≤ 20000 ∧ (RowOk cs → ∀ p H', H' p = some (.lst ((rVal cs).map V.int)) → Same H H' → H p = none → Q (.ref p) H') ∧ (¬ RowOk cs → ∀ H', Same H H' → E (.ref C) none H')
section
variable {P : Program} {w : World} {K : PySem.W.Frag} {mg : Str → Option Value} {base : Heap} {A : Adr}
theorem ok_read_row (T : Txt w K mg A) : FnOk P w K mg base (L2.CX P w) 2 A.f_read_row A.d_read_row ["text"] (sp_read_row K A.c_NoRow) := by
  have G_read_number := ok_read_number (P := P) (w := w) (base := base) T
  have Gn_read_number := okn_read_number (P := P) (w := w) (base := base) T
  refine T.F_read_row.okX sc_read_row (fun vs H Q E h => ?_) (fun cdv Ar outer s H vs Q E hr h => ?_)
  · obtain ⟨cs, rfl, _⟩ := h
    rfl
  · obtain ⟨cs, rfl, hl, q, r⟩ := h
    have hz : (SX.S cs).length = cs.length := SX.S_len cs
    have szc : (SX.S cs).length ≤ sizeLine := Nat.le_of_lt (szl (by omega))
    refine ⟨_, (pss_cons (ps_if (pt_cmpR op_eq (pv 0) pe_str (nomark _)) (pss_one (ps_ret (pe_lst pa_nil))) pss_nil)
    (pss_one (ps_ret (CompX.pe_lcx (own := [("word", 1)]) (g := gName 1) rfl rfl (takes_of rfl rfl rfl rfl) (by rfl) sc_read_row.nd (pi_list (pe_split (pv 0) pe_str)) (blkOk_by (own := [("word", 1)]) (N := ["text", "word"]) (by kernel_rfl)) (fun _ _ _ _ _ _ => pg_name (i := 1) sc_read_row.nd rfl (Or.inl rfl)) (fun _ _ _ _ _ _ hx => (pe_call G_read_number (hr.mono (by decide)) (by rfl) T.g_read_number T.F_read_number.kp T.b_read_number .nil hx (pa_cons (pv 1) pa_nil))))))), ?_⟩
    tb_start
    refine br (fun e => ?_) (fun e => ?_)
    · have z : cs = [45] := (S_eqP.mp e).trans dash_L
      tb_start
      intro p np
      exact q (.inl z) _ _ (lst_cast upd_same (by rw [z]; rfl)) (same_new np) np
    · have z : cs ≠ [45] := fun h => e (S_eqP.mpr (h.trans dash_L.symm))
      have sz2 : (SX.S cs).length + 2 ≤ sizeLine := Nat.le_of_lt (szl (by omega))
      tb_start
      intro p np
      rw [wordsC_split, List.map_map]
      have hm := wordsC_many cs
      tb_start
      intro D nD
      refine lc_texts (ws := wordsC cs) WOk (fun w => V.int (wVal w)) (by omega) (SqL.of upd_same) nD (fun _ => rfl) ?he ?hd
      case he =>
        intro x H' hx s Q' q'
        have hxl := wordsC_le hx
        tb_start
        · exact fun no => r (fun k => k.elim z fun h => no (h x hx)) _ (by kcj_in)
        · exact fun ok => q' ok _ (Same.refl _)
      case hd =>
        intro H' ok s e
        exact q (.inr ok) _ _ (lst_cast e (by unfold rVal; rw [if_neg z, List.map_map]; rfl)) (by kcj_in) (by cc_off)
      exact ⟨_, rfl⟩
end
end Ur
namespace Ur
open PySem L2
/-- the answer to a row of words -/
def sp_Desk_say (K : PySem.W.Frag) (C CL CR W0 W1 W2 W3 : Addr) : Sp := fun vs H Q E => ∃ (L : Addr → Prop) (o lo pc : Addr) (ns : List Int) (hs : List (List Int)) (v : V), vs = [.ref o, v] ∧ Dsk C CL CR L o lo pc H ns hs ∧ ns.length + 1 ≤ 400 ∧ hs.length + 1 ≤ 10000 ∧ Kind H v ∧ (∀ cs : List Nat, v = .str (SX.S cs) → cs.length ≤ 19000 ∧ (rVal (cs.drop 4)).length ≤ 390 ∧ SOut (excK W0 W1 W2 W3) C CL CR L o lo pc H ns hs Q E (sayD ns hs cs)) ∧ ((∀ s, v ≠ .str s) → ∀ H', Same H H' → E (.ref W0) none H')
section
variable {P : Program} {w : World} {K : PySem.W.Frag} {mg : Str → Option Value} {base : Heap} {A : Adr}
theorem ok_Desk_say (T : Txt w K mg A) : FnOk P w K mg base (L2.CX P w) 8 A.f_Desk_say A.d_Desk_say ["self", "words"] (sp_Desk_say K A.c_Desk A.c_Live A.c_Ready A.c_NoCommand A.c_NoRow A.c_NoWindow A.c_NoPlace) := by
  have G_Desk_asked := ok_Desk_asked (P := P) (w := w) (base := base) T
  have G_Desk_told := ok_Desk_told (P := P) (w := w) (base := base) T
  have G_Live___init__ := ok_Live___init__ (P := P) (w := w) (base := base) T
  have G_Live_row := ok_Live_row (P := P) (w := w) (base := base) T
  have G_Live_undo := ok_Live_undo (P := P) (w := w) (base := base) T
  have G_figures_in := ok_figures_in (P := P) (w := w) (base := base) T
  have G_number_in := ok_number_in (P := P) (w := w) (base := base) T
  have G_read_row := ok_read_row (P := P) (w := w) (base := base) T
  have G_show_row := ok_show_row (P := P) (w := w) (base := base) T
  refine T.F_Desk_say.okX sc_Desk_say (fun vs H Q E h => ?_) (fun cdv Ar outer s H vs Q E hr h => ?_)
  · obtain ⟨L, o, lo, pc, ns, hs, v, rfl, _⟩ := h
    rfl
  · have C_Desk := T.C_Desk
    have n_Desk_live := T.n_Desk_live
    obtain ⟨L, o, lo, pc, ns, hs, v, rfl, d, hnl, hhl, hk, hv, hn⟩ := h
    obtain ⟨dx, eo⟩ := d.obj
    obtain ⟨cls, lv, bk⟩ := d.liv
    have hcl := bk.len
    obtain ⟨dxl, pnl, mvl, el⟩ := lv.ob
    have hsm := d.small
    refine ⟨_, (pss_cons (ps_if (pt_not (pt_val (Ur.pe_b2 (Ur.call_isiK (K := K) rfl) (by rfl) T.m_isinstance (by decide +kernel) (pv 1) (pe_bltn (v := .ty "str") (by rfl) T.m_str (by decide +kernel) rfl)))) (pss_one (ps_raise rfl (takes_of rfl rfl rfl rfl) (pmk_own PySem.F.excBase_ValueError T.x_NoCommand T.g_NoCommand T.k_NoCommand (raises_own T.b_NoCommand T.t_NoCommand) (by exact rfl)))) pss_nil)
    (pss_cons (ps_if (pt_cmpR op_eq (pv 1) pe_str (nomark _)) (pss_one (ps_ret (pe_ifExp (pt_val (pe_meth0 (Ur.pe_fldK (K := K) rfl (pv 0) rfl) T.C_Live T.M_Live_undo G_Live_undo (hr.mono (by decide)) T.b_Live_undo .nil pass0)) pe_str pe_str))) pss_nil)
    (pss_cons (ps_if (pt_cmpR op_eq (pv 1) pe_str (nomark _)) (pss_one (ps_ret (pe_call G_show_row (hr.mono (by decide)) (by rfl) T.g_show_row T.F_show_row.kp T.b_show_row .nil pass0 (pa_cons (pe_meth0 (Ur.pe_fldK (K := K) rfl (pv 0) rfl) T.C_Live T.M_Live_row G_Live_row (hr.mono (by decide)) T.b_Live_row .nil pass0) pa_nil)))) pss_nil)
    (Evl.pss_cut (ps_asg (pe_partition (pv 1) pe_str) (pg_tup (by rfl) (pgs_cons (pg_name (i := 2) sc_Desk_say.nd rfl (Or.inl rfl)) (pgs_cons (pg_name (i := 3) sc_Desk_say.nd rfl (Or.inl rfl)) (pgs_cons (pg_name (i := 4) sc_Desk_say.nd rfl (Or.inl rfl)) pgs_nil)))))
    (Evl.pss_cut (ps_if (PW.pt (pw_and (pt_cmpR op_eq (pv 2) pe_str (nomark _)) (pw_and1 (pt_cmpR op_ne (pv 3) pe_str (nomark _))))) (pss_cons (ps_fld (pv 0) (pe_make T.M_Live G_Live___init__ (hr.mono (by decide)) (by rfl) T.g_Live T.b_Live___init__ .nil pass0 (pa_cons (pe_callS G_read_row (hr.mono (by decide)) (by rfl) T.g_read_row T.F_read_row.kp T.b_read_row (fun σ => passAt (takes_of rfl rfl rfl rfl) σ) (pa_cons (pv 4) pa_nil)) pa_nil)) rfl)
    (pss_one (ps_ret pe_str))) pss_nil)
    (pss_cons (ps_set (i := 5) sc_Desk_say.nd rfl (Or.inl rfl) (pe_split (pv 1) pe_str))
    (pss_cons (ps_if (pt_cmpR op_ne (KGet.pe_kget (by rfl) T.k_WORDS.choose_spec.1 T.k_WORDS.choose_spec.2 (pe_ix (Ur.ix_listK (K := K) rfl) (pv 5) pe_int (fun _ _ => rfl)) pe_int ⟨rfl, rfl, rfl, rfl⟩) (Ur.pe_b1 (Ur.call_lenIK (K := K) rfl) (by rfl) T.m_len (by decide +kernel) (pv 5)) (nomark _)) (pss_one (ps_raise rfl (takes_of rfl rfl rfl rfl) (pmk_own PySem.F.excBase_ValueError T.x_NoCommand T.g_NoCommand T.k_NoCommand (raises_own T.b_NoCommand T.t_NoCommand) (by exact rfl)))) pss_nil)
    (pss_cons (ps_set (i := 6) sc_Desk_say.nd rfl (Or.inl rfl) (pe_callS G_figures_in (hr.mono (by decide)) (by rfl) T.g_figures_in T.F_figures_in.kp T.b_figures_in (fun σ => passAt (takes_of rfl rfl rfl rfl) σ) (pa_cons (pe_ix (Ur.ix_listK (K := K) rfl) (pv 5) pe_int (fun _ _ => rfl)) pa_nil)))
    (pss_cons (ps_if (pt_cmpR op_eq (Ur.pe_b1 (Ur.call_lenIK (K := K) rfl) (by rfl) T.m_len (by decide +kernel) (pv 5)) pe_int (nomark _)) (pss_one (ps_ret (Ur.pe_methA (pv 0) T.C_Desk T.M_Desk_told G_Desk_told (hr.mono (by decide)) T.b_Desk_told (fun σ => passAt (takes_of rfl rfl rfl rfl) σ) (pa_cons (pe_ix (Ur.ix_listK (K := K) rfl) (pv 5) pe_int (fun _ _ => rfl)) (pa_cons (pv 6) pa_nil))))) pss_nil)
    (pss_cons (ps_if (pt_cmpR (Ur.op_in_seqK (K := K) rfl) (pe_ix (Ur.ix_listK (K := K) rfl) (pv 5) pe_int (fun _ _ => rfl)) (pe_tup (pa_cons pe_str (pa_cons pe_str pa_nil))) rfl) (pss_one (ps_ret (Ur.pe_methA (pv 0) T.C_Desk T.M_Desk_asked G_Desk_asked (hr.mono (by decide)) T.b_Desk_asked (fun σ => passAt (takes_of rfl rfl rfl rfl) σ) (pa_cons (pe_ix (Ur.ix_listK (K := K) rfl) (pv 5) pe_int (fun _ _ => rfl)) (pa_cons (pv 6) (pa_cons (pe_callS G_number_in (hr.mono (by decide)) (by rfl) T.g_number_in T.F_number_in.kp T.b_number_in (fun σ => passAt (takes_of rfl rfl rfl rfl) σ) (pa_cons (pe_ix (Ur.ix_listK (K := K) rfl) (pv 5) pe_int (fun _ _ => rfl)) pa_nil)) pa_nil)))))) pss_nil)
    (pss_one (ps_ret (Ur.pe_methA (pv 0) T.C_Desk T.M_Desk_asked G_Desk_asked (hr.mono (by decide)) T.b_Desk_asked (fun σ => passAt (takes_of rfl rfl rfl rfl) σ) (pa_cons (pe_ix (Ur.ix_listK (K := K) rfl) (pv 5) pe_int (fun _ _ => rfl)) (pa_cons (pv 6) (pa_cons (pe_callS G_figures_in (hr.mono (by decide)) (by rfl) T.g_figures_in T.F_figures_in.kp T.b_figures_in (fun σ => passAt (takes_of rfl rfl rfl rfl) σ) (pa_cons (pe_ix (Ur.ix_listK (K := K) rfl) (pv 5) pe_int (fun _ _ => rfl)) pa_nil)) pa_nil)))))))))))))))), ?_⟩
    rcases hk with ⟨i, rfl⟩ | ⟨c, rfl⟩ | ⟨s, rfl⟩ | rfl | ⟨p, xs, rfl, hp⟩ | ⟨p, xs, rfl, hp⟩ | ⟨p, kvs, rfl, hp⟩
    rotate_left 2
    · obtain ⟨cs, rfl⟩ : ∃ cs, s = SX.S cs := ⟨s.cps.toList, (SX.S_tl s).symm⟩
      obtain ⟨hl, hrl, out⟩ := hv cs rfl
      clear hv hn
      unfold sayD at out
      have hz : (SX.S cs).length = cs.length := SX.S_len cs
      have szc : (SX.S cs).length ≤ sizeLine := Nat.le_of_lt (szl (by omega))
      have sz2 : (SX.S cs).length + 2 ≤ sizeLine := Nat.le_of_lt (szl (by omega))
      tb_start
      refine br (fun e => ?_) (fun e => ?_)
      · have z : cs = undoC := (S_eqP.mp e).trans undo_L
        rw [if_pos z] at out
        rcases bk.last with ⟨rfl, rfl⟩ | ⟨c, m, cs', hs', rfl, rfl, bk', hlay, hcc, hml⟩
        · tb_start
          refine ⟨fun _ H1 v1 f1 => ?_, fun ds c hds => absurd hds (by simp)⟩
          tb_start
          rw [none_S]
          exact out lo pc H1 (d.still f1 v1 bk) (DFr.fr f1)
        · tb_start
          refine ⟨fun hcs => absurd hcs (by simp), fun ds c2 hds => ?_⟩
          obtain ⟨rfl, hc2⟩ := List.append_inj' hds rfl
          have hc2 : c = c2 := by simpa using hc2
          subst hc2
          refine ⟨hcc, fun H1 v1 f1 => ?_⟩
          rw [hlay] at v1
          rw [List.getLast?_concat] at out
          rw [List.dropLast_concat] at out
          tb_start
          rw [ok_S]
          exact out lo pc H1 (d.undone f1 v1 bk' hml) (DFr.fr f1)
      · have z1 : cs ≠ undoC := fun h => e (S_eqP.mpr (h.trans undo_L.symm))
        rw [if_neg z1] at out
        tb_start
        refine br (fun e2 => ?_) (fun e2 => ?_)
        · have z : cs = showW := (S_eqP.mp e2).trans show_L
          rw [if_pos z] at out
          have hb40 : ∀ n ∈ ns, n.natAbs < 10 ^ 40 := fun n hn => Nat.lt_of_lt_of_le (d.bd n hn) (Nat.pow_le_pow_right (by decide) (by decide))
          tb_start
          intro p H1 e1 s1 n1
          tb_start
          intro H2 s2
          have s12 := s1.trans s2
          exact out lo pc H2 (d.same s12) (DFr.fr (Fr.same s12))
        · have z2 : cs ≠ showW := fun h => e2 (S_eqP.mpr (h.trans show_L.symm))
          rw [if_neg z2] at out
          tb_start
          refine ⟨fun σ H' => Iv (∃ (wa wb wc : List Nat), σ = [some (.ref o), some (.str (SX.S cs)), some (.str (SX.S wa)), some (.str (SX.S wb)), some (.str (SX.S wc)), none, none] ∧ PartOf cs wa wb wc ∧ Same H H'), ?_, ?_⟩
          · obtain ⟨wa, wb, wc, hpo, hpe⟩ := part_of cs
            tb_start
            intro p np
            generalize hX : (upd H p _) = H1
            have s1 : Same H H1 := by rw [← hX]; exact same_new np
            have ep : H1 p = some (.tup [.str (SX.S wa), .str (SX.S wb), .str (SX.S wc)]) := by rw [← hX, hpe]; exact upd_same
            clear hX np
            tb_start
            · exact ⟨_, _, _, rfl, hpo, s1⟩
            · exact ⟨_, rfl⟩
          · rintro σ H1 ⟨wa, wb, wc, rfl, hpo, s1⟩
            have d1 := d.same s1
            have lv1 := lv.same s1
            have eo1 := s1 _ _ eo
            have el1 := s1 _ _ el
            tb_start
            refine ⟨fun σ H' => Iv (σ = [some (.ref o), some (.str (SX.S cs)), some (.str (SX.S wa)), some (.str (SX.S wb)), some (.str (SX.S wc)), none, none] ∧ cs.take 4 ≠ rowW ∧ H' = H1), ?_, ?_⟩
            · tb_start
              refine br (fun e3 => ?_) (fun e3 => ?_)
              · have zA : wa = [114, 111, 119] := (S_eqP.mp e3).trans row_L
                tb_start
                refine brn (fun e4 => ?_) (fun e4 => ?_)
                · have zB : wb ≠ [] := fun h => e4 (S_eqP.mpr (h.trans empty_L.symm))
                  obtain ⟨hrow, hC⟩ := hpo.yes zA zB
                  rw [if_pos hrow] at out
                  subst hC
                  have hdl : (cs.drop 4).length ≤ cs.length := by rw [List.length_drop]; omega
                  tb_start
                  · intro no H2 s2
                    rw [if_neg no] at out
                    exact out H2 (d.same (s1.trans s2)) (DFr.fr (Fr.same (s1.trans s2)))
                  · intro ok p2 H2 e2 s2 n2 x dx2 nx ndx hne
                    rw [if_pos ok] at out
                    refine mk_live (CR := A.c_Ready) (ns := rVal (cs.drop 4)) nx ndx hne e2 (by omega) (fun pc2 H3 v3 s3 npc => ?_)
                    have eo3 := s3 _ _ (s2 _ _ eo1)
                    tb_start
                    · have hmade := d.made (s1.trans s2) v3 s3 nx npc (show But o H3 (upd H3 o (.ins A.c_Desk dx (putF "live" (.ref x) [("live", .ref lo)]))) from but_at but_refl) ⟨dx, by rw [upd_same, putF_eq]⟩ (rval_bd ok) (by omega)
                      tb_start
                      rw [ok_S]
                      exact out x pc2 _ hmade.1 hmade.2
                    · show 1 < 1000
                      decide
                · have zB : wb = [] := (S_eqP.mp e4).trans empty_L
                  tb_start
                  exact ⟨rfl, fun h => (hpo.no h).2 zB, rfl⟩
              · have zA : wa ≠ [114, 111, 119] := fun h => e3 (S_eqP.mpr (h.trans row_L.symm))
                tb_start
                exact ⟨rfl, fun h => zA (hpo.no h).1, rfl⟩
            · rintro σ H2 ⟨rfl, hrow, rfl⟩
              rw [if_neg hrow] at out
              have out : SOut (excK A.c_NoCommand A.c_NoRow A.c_NoWindow A.c_NoPlace) A.c_Desk A.c_Live A.c_Ready L o lo pc H ns hs Q E (wordsD ns hs (wordsC cs)) := out
              replace out := out.dout s1
              tb_start
              · intro p np
                rw [wordsC_split, List.map_map]
                have hm := wordsC_many cs
                have hwl : ∀ w ∈ wordsC cs, w.length ≤ cs.length := fun w hw => wordsC_le hw
                obtain ⟨w0, wr, hws⟩ : ∃ w0 wr, wordsC cs = w0 :: wr := by
                  cases q : wordsC cs with
                  | nil => exact absurd q (spl_pos _ _ _ _)
                  | cons a b => exact ⟨a, b, rfl⟩
                rw [hws] at out hm hwl ⊢
                generalize hX : (upd H2 p _) = H3
                have s3 : Same H2 H3 := by rw [← hX]; exact same_new np
                have ep : H3 p = some (.lst ((w0 :: wr).map fun w => V.str (SX.S w))) := by rw [← hX]; exact upd_same
                replace out := dout_same out s3
                replace d1 := d1.same s3
                replace eo1 := s3 _ _ eo1
                replace el1 := s3 _ _ el1
                clear hX np lv1
                have lp : ((w0 :: wr).map fun w => V.str (SX.S w)).length = wr.length + 1 := by rw [List.length_map, List.length_cons]
                have at0 : atI ((w0 :: wr).map fun w => V.str (SX.S w)) 0 = some (.str (SX.S w0)) := atI_pos (by decide) (by rw [lp]; omega)
                rcases wn_cases w0 with ⟨hn, k, hk, hs0, hix⟩ | ⟨hn, k, hk, hs0, hix⟩ | hn
                · rw [hs0] at at0
                  have hlk : (tab_WORDS.lookup (headS k)).getD 0 = 3 := by rw [← hs0]; exact hn
                  tb_start
                  rw [hlk]
                  refine brni (fun h => ?_) (fun h => ?_)
                  · rw [wordsD_ne (fun e => h (by rw [lp, ← hn, e, List.length_cons]))] at out
                    tb_start
                    exact out _ d1 (Fr.same (Same.refl _))
                  · rw [lp] at h
                    obtain ⟨w1, w2, rfl⟩ : ∃ w1 w2, wr = [w1, w2] := by
                      match wr, h with
                      | [w1, w2], _ => exact ⟨w1, w2, rfl⟩
                      | [], h => exact absurd h (by decide)
                      | [w1], h => rw [List.length_singleton] at h; exact absurd h (by decide)
                      | w1 :: w2 :: w3 :: r, h => rw [List.length_cons, List.length_cons, List.length_cons] at h; omega
                    rw [wordsD_3 hn, hix] at out
                    have at1 : atI ([w0, w1, w2].map fun w => V.str (SX.S w)) 1 = some (.str (SX.S w1)) := rfl
                    have at2 : atI ([w0, w1, w2].map fun w => V.str (SX.S w)) 2 = some (.str (SX.S w2)) := rfl
                    have hw1 := hwl w1 (List.mem_cons_of_mem _ List.mem_cons_self)
                    have hw2 := hwl w2 (List.mem_cons_of_mem _ (List.mem_cons_of_mem _ List.mem_cons_self))
                    have hle : ((([w0, w1, w2].map fun w => V.str (SX.S w)).length : Nat) : Int) = 3 := rfl
                    tb_start
                    · intro no
                      rw [if_pos no] at out
                      exact out _ d1 (Fr.same (Same.refl _))
                    · intro ok
                      rw [if_neg (fun k => k ok)] at out
                      have hdv : (0 : Int) ≤ dv w1 := Int.natCast_nonneg _
                      refine ⟨_, rfl, ?_⟩
                      refine ⟨p, _, rfl, .inl (.of ep), ?_⟩
                      tb_start
                      intro p5 n5
                      generalize hX : (upd H3 p5 _) = H5
                      have s5 : Same H3 H5 := by rw [← hX]; exact same_new n5
                      have e5 : H5 p5 = some (.tup [V.str (Str.ofString "change"), V.str (Str.ofString "put")]) := by rw [← hX]; exact upd_same
                      replace out := dout_same out s5
                      replace d1 := d1.same s5
                      replace eo1 := s5 _ _ eo1
                      replace el1 := s5 _ _ el1
                      replace ep := s5 _ _ ep
                      clear hX n5
                      have hk4 : k = 0 ∨ k = 1 ∨ k = 2 ∨ k = 3 := by omega
                      have hin : inV (V.str (SX.S w0)) [V.str (Str.ofString "change"), V.str (Str.ofString "put")] = decide (2 ≤ k) := by
                        rw [hs0]
                        rcases hk4 with rfl | rfl | rfl | rfl <;> decide
                      refine ⟨p5, _, rfl, .inr (SqT.of e5), rfl, rfl, ?_⟩
                      refine ⟨decide (2 ≤ k), by rw [← hin]; rfl, ?_⟩
                      clear e5 s5
                      refine br (fun h2 => ?_) (fun h2 => ?_)
                      · rw [if_pos h2] at out
                        tb_start
                        · intro no2
                          rw [if_neg no2] at out
                          exact out _ d1 (Fr.same (Same.refl _))
                        · intro ok2
                          rw [if_pos ok2] at out
                          have hwb := wok_bd ok2
                          tb_start
                          · exact out
                          · show [V.ref o, V.str (SX.S w0), V.int (dv w1), V.int (wVal w2)] = _
                            rw [hs0]
                      · rw [if_neg h2] at out
                        tb_start
                        · intro no2
                          rw [if_neg no2] at out
                          exact out _ d1 (Fr.same (Same.refl _))
                        · intro ok2
                          rw [if_pos ok2] at out
                          tb_start
                          · exact out
                          · show [V.ref o, V.str (SX.S w0), V.int (dv w1), V.int (dv w2)] = _
                            rw [hs0]
                · rw [hs0] at at0
                  have hlk : (tab_WORDS.lookup (headT k)).getD 0 = 2 := by rw [← hs0]; exact hn
                  tb_start
                  rw [hlk]
                  refine brni (fun h => ?_) (fun h => ?_)
                  · rw [wordsD_ne (fun e => h (by rw [lp, ← hn, e, List.length_cons]))] at out
                    tb_start
                    exact out _ d1 (Fr.same (Same.refl _))
                  · rw [lp] at h
                    obtain ⟨w1, rfl⟩ : ∃ w1, wr = [w1] := by
                      match wr, h with
                      | [w1], _ => exact ⟨w1, rfl⟩
                      | [], h => exact absurd h (by decide)
                      | w1 :: w2 :: r, h => rw [List.length_cons, List.length_cons] at h; omega
                    rw [wordsD_2 hn, hix] at out
                    have at1 : atI ([w0, w1].map fun w => V.str (SX.S w)) 1 = some (.str (SX.S w1)) := rfl
                    have hw1 := hwl w1 (List.mem_cons_of_mem _ List.mem_cons_self)
                    have hle : ((([w0, w1].map fun w => V.str (SX.S w)).length : Nat) : Int) = 2 := rfl
                    tb_start
                    · intro no
                      rw [if_pos no] at out
                      exact out _ d1 (Fr.same (Same.refl _))
                    · intro ok
                      rw [if_neg (fun k => k ok)] at out
                      have hdv : (0 : Int) ≤ dv w1 := Int.natCast_nonneg _
                      refine ⟨_, rfl, ?_⟩
                      refine ⟨p, _, rfl, .inl (.of ep), ?_⟩
                      tb_start
                      · exact out
                      · show [V.ref o, V.str (SX.S w0), V.int (dv w1)] = _
                        rw [hs0]
                · have hlk : (tab_WORDS.lookup (SX.S w0)).getD 0 = 0 := hn
                  tb_start
                  rw [hlk]
                  refine brni (fun h => ?_) (fun h => ?_)
                  · rw [wordsD_ne (fun e => h (by rw [lp, ← hn, e, List.length_cons]))] at out
                    tb_start
                    exact out _ d1 (Fr.same (Same.refl _))
                  · rw [lp] at h
                    omega
              · exact ⟨_, rfl⟩
    all_goals
      tb_start
      exact hn (fun s z => nomatch z) _ (Same.refl _)
end
end Ur
namespace Ur
open PySem L2
/-- how many changes can be undone behind a text -/
def sp__law_changes (K : PySem.W.Frag) : Sp := fun vs H Q _ => ∃ (m : Nat) (cs : List Nat), vs = [.int m, .str (SX.S cs)] ∧ cs.length ≤ 19000 ∧ ∀ H', Same H H' → Q (.int (chgN m cs : Nat)) H'
section
variable {P : Program} {w : World} {K : PySem.W.Frag} {mg : Str → Option Value} {base : Heap} {A : Adr}
theorem ok__law_changes (T : Txt w K mg A) : FnOk P w K mg base CX0 1 A.f__law_changes A.d__law_changes ["many", "words"] (sp__law_changes K) := by
  refine T.F__law_changes.ok sc__law_changes (fun vs H Q E h => ?_) (fun cdv Ar outer s H vs Q E hr h => ?_)
  · obtain ⟨m, cs, rfl, _⟩ := h
    rfl
  · obtain ⟨m, cs, rfl, hl, q⟩ := h
    have hz : (SX.S cs).length = cs.length := SX.S_len cs
    have szc : (SX.S cs).length ≤ sizeLine := Nat.le_of_lt (szl (by omega))
    have sz2 : (SX.S cs).length + 2 ≤ sizeLine := Nat.le_of_lt (szl (by omega))
    unfold chgN at q
    refine ⟨_, (pss_cons (ps_if (pt_cmpR op_eq (pe_slice sl_str (pv 1) po_none (po_some pe_int)) pe_str (nomark _)) (pss_one (ps_ret pe_int)) pss_nil)
    (pss_cons (ps_if (pt_cmpR op_eq (pv 1) pe_str (nomark _)) (pss_one (ps_ret (Ur.pe_b2 (Ur.call_max2K rfl) (by rfl) T.m_max (by decide +kernel) pe_int (pe_op op_sub (pv 0) pe_int)))) pss_nil)
    (pss_one (ps_ret (pe_op op_add (pv 0) (Ur.pe_t1 call_int1 (by rfl) T.m_int (by decide +kernel) (pe_cmpR (Ur.op_in_seqK (K := K) rfl) (pe_ix (Ur.ix_listK (K := K) rfl) (pe_split (pv 1) pe_str) pe_int (fun _ _ => rfl)) (pe_tup (pa_cons pe_str (pa_cons pe_str (pa_cons pe_str pa_nil)))) rfl))))))), ?_⟩
    tb_start
    refine br (fun h4 => ?_) (fun h4 => ?_)
    · rw [cutS_to _ (by decide)] at h4
      have hrow : cs.take 4 = rowW := (S_eqP.mp h4).trans rowb_L
      rw [if_pos hrow] at q
      tb_start
      exact q _ (Same.refl _)
    · rw [cutS_to _ (by decide)] at h4
      have hrow : ¬ cs.take 4 = rowW := fun z => h4 (S_eqP.mpr (z.trans rowb_L.symm))
      rw [if_neg hrow] at q
      tb_start
      refine br (fun h5 => ?_) (fun h5 => ?_)
      · have hu : cs = undoC := (S_eqP.mp h5).trans undo_L
        rw [if_pos hu] at q
        tb_start
        exact qint (q _ (Same.refl _)) (by split <;> omega)
      · have hu : ¬ cs = undoC := fun z => h5 (S_eqP.mpr (z.trans undo_L.symm))
        rw [if_neg hu] at q
        tb_start
        · intro p np
          rw [wordsC_split, List.map_map]
          have hm := wordsC_many cs
          obtain ⟨w0, wr, hws⟩ : ∃ w0 wr, wordsC cs = w0 :: wr := by
            cases q : wordsC cs with
            | nil => exact absurd q (spl_pos _ _ _ _)
            | cons a b => exact ⟨a, b, rfl⟩
          rw [hws] at q hm ⊢
          generalize hX : (upd H p _) = H6
          have s6 : Same H H6 := by rw [← hX]; exact same_new np
          have ep : H6 p = some (.lst ((w0 :: wr).map fun w => V.str (SX.S w))) := by rw [← hX]; exact upd_same
          clear hX np
          have lp : ((w0 :: wr).map fun w => V.str (SX.S w)).length = wr.length + 1 := by rw [List.length_map, List.length_cons]
          have at0 : atI ((w0 :: wr).map fun w => V.str (SX.S w)) 0 = some (.str (SX.S w0)) := atI_pos (by decide) (by rw [lp]; omega)
          tb_start
          intro p7 n7
          generalize hX : (upd H6 p7 _) = H7
          have s7 : Same H6 H7 := by rw [← hX]; exact same_new n7
          have e7 : H7 p7 = some (.tup (headsC.map V.str)) := by rw [← hX]; exact upd_same
          replace q := q _ (s6.trans s7)
          clear hX n7 s7
          refine ⟨p7, _, rfl, .inr (SqT.of e7), rfl, rfl, ?_⟩
          have q : Q (.int ((if SX.S w0 ∈ headsC then m + 1 else m : Nat) : Int)) H7 := q
          refine .inr ⟨decide (SX.S w0 ∈ headsC), by show [V.bl (inV (V.str (SX.S w0)) (headsC.map V.str))] = _; rw [inV_strs], ?_⟩
          tb_start
          refine qint q ?_
          by_cases hw : SX.S w0 ∈ headsC
          · rw [if_pos hw, if_pos (decide_eq_true hw)]; omega
          · rw [if_neg hw, if_neg (by rw [decide_eq_false hw]; decide)]; omega
        · exact ⟨_, rfl⟩
end
end Ur
namespace Ur
open PySem L2
/-- whether a word writes a number -/
def sp__law_is_number (K : PySem.W.Frag) : Sp := fun vs H Q _ => ∃ (cs : List Nat), vs = [.str (SX.S cs)] ∧ cs.length ≤ 20000 ∧ ∀ H', Same H H' → Q (.bl (decide (WOk cs))) H'
section
variable {P : Program} {w : World} {K : PySem.W.Frag} {mg : Str → Option Value} {base : Heap} {A : Adr}
theorem ok__law_is_number (T : Txt w K mg A) : FnOk P w K mg base CX0 1 A.f__law_is_number A.d__law_is_number ["word"] (sp__law_is_number K) := by
  refine T.F__law_is_number.ok sc__law_is_number (fun vs H Q E h => ?_) (fun cdv Ar outer s H vs Q E hr h => ?_)
  · obtain ⟨cs, rfl, _⟩ := h
    rfl
  · obtain ⟨cs, rfl, hl, q⟩ := h
    have hz : (SX.S cs).length = cs.length := SX.S_len cs
    have hlf := figsC_le cs
    have hzf : (SX.S (figsC cs)).length = (figsC cs).length := SX.S_len _
    have szf : (SX.S (figsC cs)).length ≤ sizeLine := Nat.le_of_lt (szl (by omega))
    have szc : (SX.S cs).length ≤ sizeLine := Nat.le_of_lt (szl (by omega))
    refine ⟨_, (Evl.pss_cut (ps_set (i := 1) sc__law_is_number.nd rfl (Or.inl rfl) (pe_ifExp (pt_cmpR op_eq (pe_slice sl_str (pv 0) po_none (po_some pe_int)) pe_str (nomark _)) (pe_slice sl_str (pv 0) (po_some pe_int) po_none) (pv 0)))
    (pss_cons (ps_if (PW.pt (pw_or (pt_not (pt_chain op_le op_le pe_int (Ur.pe_b1 call_len_str (by rfl) T.m_len (by decide +kernel) (pv 1)) pe_int)) (pw_or1 (pt_not (pt_val (Ur.pe_b1 (Ur.cr_allK (K := K) rfl rfl) (by rfl) T.m_all (by decide +kernel) (pe_lc (own := [("figure", 2)]) (g := gName 2) (by rfl) sc__law_is_number.nd (pi_str (pv 1)) (blkOk_by (own := [("figure", 2)]) (N := ["word", "figures", "figure"]) (by kernel_rfl)) (fun _ _ _ _ _ => pg_name (i := 2) sc__law_is_number.nd rfl (Or.inl rfl)) (fun _ _ _ _ _ => pts_nil) (fun _ _ _ _ _ => (pe_cmpR op_in_sign (pv 2) pe_str rfl))))))))) (pss_one (ps_ret pe_bl)) pss_nil)
    (pss_one (ps_ret (pe_or (pe_cmpR op_eq (pv 0) pe_str (nomark _)) (pe_one (pe_cmpR op_ne (pe_ix ix_str (pv 1) pe_int (fun _ _ => rfl)) pe_str (nomark _)))))))), ?_⟩
    tb_start
    refine ⟨fun σ H' => Iv (σ = [some (.str (SX.S cs)), some (.str (SX.S (figsC cs))), none] ∧ H' = H), ?_, ?_⟩
    · tb_start
      refine br (fun e => ?_) (fun e => ?_)
      · have z := neg_iff.mp e
        tb_start
        refine ⟨?_, rfl⟩
        rw [cutS_from _ (by decide), show figsC cs = cs.drop 1 from if_pos z]
        rfl
      · have z := fun h => e (neg_iff.mpr h)
        tb_start
        refine ⟨?_, rfl⟩
        rw [show figsC cs = cs from if_neg z]
        rfl
    · rintro σ H' ⟨rfl, rfl⟩
      tb_start
      refine br (fun h1 => ?_) (fun h1 => ?_)
      · tb_start
        refine brn (fun h2 => ?_) (fun h2 => ?_)
        · tb_start
          exact qbv (q _ (Same.refl _)) (decide_eq_false fun z => h2 (by have := z.1; omega)).symm
        · have hb : 1 ≤ (figsC cs).length ∧ (figsC cs).length ≤ 30 := by omega
          tb_start
          intro D nD
          refine lc_signs (l := figsC cs) (fun c => V.bl (decide (c ∈ (Str.ofString "0123456789").cps.toList))) (by omega) nD (fun _ => rfl) ?he ?hd
          case he =>
            intro c H1 hc s Q' q'
            tb_start
            exact q' _ (by kcj_in)
          case hd =>
            intro H1 s1 e1
            refine ⟨D, (figsC cs).map (fun c => decide (c ∈ (Str.ofString "0123456789").cps.toList)), rfl, SqL.of (by rw [e1, List.map_map]; rfl), ?_⟩
            rw [digs_all]
            refine ⟨_, rfl, ?_⟩
            refine brn (fun h3 => ?_) (fun h3 => ?_)
            · tb_start
              exact qbv (q _ s1) (decide_eq_false fun z => h3 z.2.1).symm
            · obtain ⟨c0, r0, e0⟩ : ∃ c0 r0, figsC cs = c0 :: r0 := by
                cases q : figsC cs with
                | nil => rw [hzf, q] at h1; exact absurd h1 (by decide)
                | cons a b => exact ⟨a, b, rfl⟩
              have a0 : atI (SX.S (figsC cs)).cps.toList 0 = some c0 := by rw [e0]; exact atI_pos (by decide) (by show (0 : Int) < ((c0 :: r0).length : Nat); rw [List.length_cons]; omega)
              tb_start
              refine br (fun k0 => ?_) (fun k0 => ?_)
              · exact qbv (q _ s1) (decide_eq_true ⟨hb, h3, fun _ => by have := S_eqP.mp k0; rwa [zero_L] at this⟩).symm
              · tb_start
                refine qbv (q _ s1) ?_
                by_cases c48 : c0 = 48
                · have n1 : ¬ WOk cs := fun z => k0 (S_eqP.mpr (by rw [zero_L]; exact z.2.2 (by rw [e0, c48]; rfl)))
                  rw [decide_eq_false n1, decide_eq_true (show V.str (SX.S [c0]) = V.str (Str.ofString "0") from S_eqP.mpr (by rw [zero_L, c48]))]
                  rfl
                · have n1 : WOk cs := ⟨hb, h3, fun z => absurd (by rw [e0] at z; exact Option.some.inj z) c48⟩
                  rw [decide_eq_true n1, decide_eq_false (show ¬ V.str (SX.S [c0]) = V.str (Str.ofString "0") from fun z => c48 (by have := (S_eqP (a := [c0])).mp z; rw [zero_L] at this; simpa using this))]
                  rfl
      · tb_start
        exact qbv (q _ (Same.refl _)) (decide_eq_false fun z => h1 (by have := z.1; omega)).symm
end
end Ur
namespace Ur
open PySem L2
/-- whether a word writes a place -/
def sp__law_is_place (K : PySem.W.Frag) : Sp := fun vs H Q _ => ∃ (cs : List Nat), vs = [.str (SX.S cs)] ∧ cs.length ≤ 20000 ∧ ∀ H', Same H H' → Q (.bl (decide (FOk cs))) H'
section
variable {P : Program} {w : World} {K : PySem.W.Frag} {mg : Str → Option Value} {base : Heap} {A : Adr}
theorem ok__law_is_place (T : Txt w K mg A) : FnOk P w K mg base CX0 1 A.f__law_is_place A.d__law_is_place ["word"] (sp__law_is_place K) := by
  refine T.F__law_is_place.ok sc__law_is_place (fun vs H Q E h => ?_) (fun cdv Ar outer s H vs Q E hr h => ?_)
  · obtain ⟨cs, rfl, _⟩ := h
    rfl
  · obtain ⟨cs, rfl, hl, q⟩ := h
    have hz : (SX.S cs).length = cs.length := SX.S_len cs
    have szc : (SX.S cs).length ≤ sizeLine := Nat.le_of_lt (szl (by omega))
    refine ⟨_, (Evl.pss_cut (ps_if (PW.pt (pw_or (pt_not (pt_chain op_le op_le pe_int (Ur.pe_b1 call_len_str (by rfl) T.m_len (by decide +kernel) (pv 0)) pe_int)) (pw_or1 (PW.pt (pw_and (pt_cmpR op_eq (pe_ix ix_str (pv 0) pe_int (fun _ _ => rfl)) pe_str (nomark _)) (pw_and1 (pt_cmpR op_ne (pv 0) pe_str (nomark _)))))))) (pss_one (ps_ret pe_bl)) pss_nil)
    (pss_one (ps_ret (Ur.pe_b1 (Ur.cr_allK (K := K) rfl rfl) (by rfl) T.m_all (by decide +kernel) (pe_lc (own := [("figure", 1)]) (g := gName 1) (by rfl) sc__law_is_place.nd (pi_str (pv 0)) (blkOk_by (own := [("figure", 1)]) (N := ["word", "figure"]) (by kernel_rfl)) (fun _ _ _ _ _ => pg_name (i := 1) sc__law_is_place.nd rfl (Or.inl rfl)) (fun _ _ _ _ _ => pts_nil) (fun _ _ _ _ _ => (pe_cmpR op_in_sign (pv 1) pe_str rfl))))))), ?_⟩
    tb_start
    refine ⟨fun σ H' => Iv (σ = [some (.str (SX.S cs)), none] ∧ H' = H ∧ (1 ≤ cs.length ∧ cs.length ≤ 6) ∧ (cs.head? = some 48 → cs = [48])), ?_, ?_⟩
    · tb_start
      refine br (fun h1 => ?_) (fun h1 => ?_)
      · tb_start
        refine brn (fun h2 => ?_) (fun h2 => ?_)
        · tb_start
          exact qbv (q _ (Same.refl _)) (decide_eq_false fun z => h2 (by have := z.1; omega)).symm
        · obtain ⟨c0, r0, e0⟩ : ∃ c0 r0, cs = c0 :: r0 := by
            cases cs with
            | nil => rw [hz] at h1; exact absurd h1 (by decide)
            | cons a b => exact ⟨a, b, rfl⟩
          have a0 : atI (SX.S cs).cps.toList 0 = some c0 := by rw [e0]; exact atI_pos (by decide) (by show (0 : Int) < ((c0 :: r0).length : Nat); rw [List.length_cons]; omega)
          have hb : 1 ≤ cs.length ∧ cs.length ≤ 6 := by omega
          tb_start
          refine br (fun k0 => ?_) (fun k0 => ?_)
          · have c48 : c0 = 48 := by
              have := (S_eqP (a := [c0]) (b := Str.ofString "0")).mp k0
              rw [zero_L] at this
              simpa using this
            tb_start
            refine brn (fun k1 => ?_) (fun k1 => ?_)
            · tb_start
              exact qbv (q _ (Same.refl _)) (decide_eq_false fun z => k1 (S_eqP.mpr (by rw [zero_L]; exact z.2.2 (by rw [e0, c48]; rfl)))).symm
            · tb_start
              exact ⟨rfl, rfl, hb, fun _ => by have := S_eqP.mp k1; rwa [zero_L] at this⟩
          · tb_start
            exact ⟨rfl, rfl, hb, fun z => absurd (by rw [e0] at z; have z : c0 = 48 := Option.some.inj z; rw [z]; exact S_eqP.mpr zero_L.symm) k0⟩
      · tb_start
        exact qbv (q _ (Same.refl _)) (decide_eq_false fun z => h1 (by have := z.1; omega)).symm
    · rintro σ H' ⟨rfl, rfl, hb, hz0⟩
      tb_start
      intro D nD
      refine lc_signs (l := cs) (fun c => V.bl (decide (c ∈ (Str.ofString "0123456789").cps.toList))) (by omega) nD (fun _ => rfl) ?he ?hd
      case he =>
        intro c H1 hc s Q' q'
        tb_start
        exact q' _ (by kcj_in)
      case hd =>
        intro H1 s1 e1
        refine ⟨D, cs.map (fun c => decide (c ∈ (Str.ofString "0123456789").cps.toList)), rfl, SqL.of (by rw [e1, List.map_map]; rfl), ?_⟩
        rw [digs_all]
        refine qbv (q _ s1) ?_
        rw [Bool.eq_iff_iff, decide_eq_true_eq, decide_eq_true_eq]
        exact ⟨fun h => ⟨hb, h, hz0⟩, fun h => h.2.1⟩
end
end Ur
namespace Ur
open PySem L2
/-- what is due of two words -/
def sp__law_one_due (K : PySem.W.Frag) : Sp := fun vs H Q _ => ∃ (k n : Nat) (w : List Nat), vs = [.str (headT k), .str (SX.S w), .int n] ∧ k < 5 ∧ w.length ≤ 20000 ∧ ∀ H', Same H H' → Q (.str (nameK (if ¬ FOk w then 0 else tellN n k (dv w)))) H'
section
variable {P : Program} {w : World} {K : PySem.W.Frag} {mg : Str → Option Value} {base : Heap} {A : Adr}
theorem ok__law_one_due (T : Txt w K mg A) : FnOk P w K mg base CX0 2 A.f__law_one_due A.d__law_one_due ["head", "one", "size"] (sp__law_one_due K) := by
  have G__law_is_place := ok__law_is_place (P := P) (w := w) (base := base) T
  refine T.F__law_one_due.ok sc__law_one_due (fun vs H Q E h => ?_) (fun cdv Ar outer s H vs Q E hr h => ?_)
  · obtain ⟨k, n, w, rfl, _⟩ := h
    rfl
  · obtain ⟨k, n, w, rfl, hk, hl, q⟩ := h
    refine ⟨_, (pss_cons (ps_if (PW.pt (pw_or (pt_not (pt_val (pe_call G__law_is_place (hr.mono (by decide)) (by rfl) T.g__law_is_place T.F__law_is_place.kp T.b__law_is_place .nil pass0 (pa_cons (pv 1) pa_nil)))) (pw_or1 (PW.pt (pw_and (pt_cmpR op_eq (pv 0) pe_str (nomark _)) (pw_and1 (pt_cmpR op_eq (pv 1) pe_str (nomark _)))))))) (pss_one (ps_ret pe_str)) pss_nil)
    (pss_cons (ps_if (pt_cmpR op_eq (pv 0) pe_str (nomark _)) (pss_one (ps_ret (pe_ifExp (pt_cmpR op_lt (Ur.pe_t1 call_int_str (by rfl) T.m_int (by decide +kernel) (pv 1)) (pv 2) (nomark _)) pe_str pe_str))) pss_nil)
    (pss_one (ps_ret (pe_ifExp (PW.pt (pw_and (pt_cmpR (Ur.op_in_seqK (K := K) rfl) (pv 0) (pe_tup (pa_cons pe_str (pa_cons pe_str pa_nil))) rfl) (pw_and1 (pt_cmpR op_gt (Ur.pe_t1 call_int_str (by rfl) T.m_int (by decide +kernel) (pv 1)) (pv 2) (nomark _))))) pe_str pe_str))))), ?_⟩
    tb_start
    intro H1 s1
    replace q := fun H' s => q H' (s1.trans s)
    refine ⟨_, rfl, ?_⟩
    refine brn (fun no => ?_) (fun ok => ?_)
    · rw [if_pos no] at q
      tb_start
      exact q _ (Same.refl _)
    rw [if_neg (fun z => z ok)] at q
    have tx := ok.text
    have h06 : w.length ≤ 6 := ok.1.2
    have hz : (SX.S w).length = w.length := SX.S_len w
    have hk5 : k = 0 ∨ k = 1 ∨ k = 2 ∨ k = 3 ∨ k = 4 := by omega
    rcases hk5 with rfl | rfl | rfl | rfl | rfl
    · have q : ∀ H', Same H1 H' → Q (.str (nameK (if dv w < (n : Int) then 4 else 3))) H' := q
      tb_start
      refine br (fun h => ?_) (fun h => ?_)
      · rw [if_pos (show dv w < (n : Int) from h)] at q
        tb_start
        exact q _ (Same.refl _)
      · rw [if_neg (show ¬ dv w < (n : Int) from h)] at q
        tb_start
        exact q _ (Same.refl _)
    · tb_start
      intro p5 n5
      generalize hX : (upd H1 p5 _) = H5
      have s5 : Same H1 H5 := by rw [← hX]; exact same_new n5
      have e5 : H5 p5 = some (.tup [V.str (Str.ofString "most"), V.str (Str.ofString "least")]) := by rw [← hX]; exact upd_same
      clear hX n5
      replace q := fun H' s => q H' (s5.trans s)
      have hin : inV (V.str (headT 1)) [V.str (Str.ofString "most"), V.str (Str.ofString "least")] = false := by decide
      refine ⟨p5, _, rfl, .inr (SqT.of e5), rfl, rfl, ?_⟩
      refine ⟨false, by rw [← hin]; rfl, ?_⟩
      tb_start
      exact q _ (Same.refl _)
    · have q : ∀ H', Same H1 H' → Q (.str (nameK (if dv w = 0 then 0 else 4))) H' := q
      tb_start
      refine br (fun h => ?_) (fun h => ?_)
      · have z : w = [48] := (S_eqP.mp h).trans zero_L
        rw [if_pos ((dv_zero ok).mpr z)] at q
        tb_start
        exact q _ (Same.refl _)
      · have z : ¬ dv w = 0 := fun k => h (S_eqP.mpr (((dv_zero ok).mp k).trans zero_L.symm))
        rw [if_neg z] at q
        tb_start
        intro p5 n5
        generalize hX : (upd H1 p5 _) = H5
        have s5 : Same H1 H5 := by rw [← hX]; exact same_new n5
        have e5 : H5 p5 = some (.tup [V.str (Str.ofString "most"), V.str (Str.ofString "least")]) := by rw [← hX]; exact upd_same
        clear hX n5
        replace q := fun H' s => q H' (s5.trans s)
        have hin : inV (V.str (headT 2)) [V.str (Str.ofString "most"), V.str (Str.ofString "least")] = false := by decide
        refine ⟨p5, _, rfl, .inr (SqT.of e5), rfl, rfl, ?_⟩
        refine ⟨false, by rw [← hin]; rfl, ?_⟩
        tb_start
        exact q _ (Same.refl _)
    · have q : ∀ H', Same H1 H' → Q (.str (nameK (if dv w ≤ (n : Int) then 4 else 2))) H' := q
      tb_start
      intro p5 n5
      generalize hX : (upd H1 p5 _) = H5
      have s5 : Same H1 H5 := by rw [← hX]; exact same_new n5
      have e5 : H5 p5 = some (.tup [V.str (Str.ofString "most"), V.str (Str.ofString "least")]) := by rw [← hX]; exact upd_same
      clear hX n5
      replace q := fun H' s => q H' (s5.trans s)
      have hin : inV (V.str (headT 3)) [V.str (Str.ofString "most"), V.str (Str.ofString "least")] = true := by decide
      refine ⟨p5, _, rfl, .inr (SqT.of e5), rfl, rfl, ?_⟩
      refine ⟨true, by rw [← hin]; rfl, ?_⟩
      tb_start
      refine br (fun h => ?_) (fun h => ?_)
      · rw [if_neg (show ¬ dv w ≤ (n : Int) from Int.not_le.mpr h)] at q
        tb_start
        exact q _ (Same.refl _)
      · rw [if_pos (show dv w ≤ (n : Int) from Int.not_lt.mp h)] at q
        tb_start
        exact q _ (Same.refl _)
    · have q : ∀ H', Same H1 H' → Q (.str (nameK (if dv w ≤ (n : Int) then 4 else 2))) H' := q
      tb_start
      intro p5 n5
      generalize hX : (upd H1 p5 _) = H5
      have s5 : Same H1 H5 := by rw [← hX]; exact same_new n5
      have e5 : H5 p5 = some (.tup [V.str (Str.ofString "most"), V.str (Str.ofString "least")]) := by rw [← hX]; exact upd_same
      clear hX n5
      replace q := fun H' s => q H' (s5.trans s)
      have hin : inV (V.str (headT 4)) [V.str (Str.ofString "most"), V.str (Str.ofString "least")] = true := by decide
      refine ⟨p5, _, rfl, .inr (SqT.of e5), rfl, rfl, ?_⟩
      refine ⟨true, by rw [← hin]; rfl, ?_⟩
      tb_start
      refine br (fun h => ?_) (fun h => ?_)
      · rw [if_neg (show ¬ dv w ≤ (n : Int) from Int.not_le.mpr h)] at q
        tb_start
        exact q _ (Same.refl _)
      · rw [if_pos (show dv w ≤ (n : Int) from Int.not_lt.mp h)] at q
        tb_start
        exact q _ (Same.refl _)
end
end Ur
namespace Ur
open PySem L2
/-- what is due of three words -/
def sp__law_two_due (K : PySem.W.Frag) : Sp := fun vs H Q _ => ∃ (k n : Nat) (w u : List Nat), vs = [.str (headS k), .str (SX.S w), .str (SX.S u), .int n] ∧ k < 4 ∧ w.length ≤ 20000 ∧ u.length ≤ 20000 ∧ ∀ H', Same H H' → Q (.str (nameK (if ¬ FOk w then 0 else if 2 ≤ k then (if WOk u then askN n k (dv w) (wVal u) else 0) else if FOk u then askN n k (dv w) (dv u) else 0))) H'
section
variable {P : Program} {w : World} {K : PySem.W.Frag} {mg : Str → Option Value} {base : Heap} {A : Adr}
theorem ok__law_two_due (T : Txt w K mg A) : FnOk P w K mg base CX0 2 A.f__law_two_due A.d__law_two_due ["head", "one", "other", "size"] (sp__law_two_due K) := by
  have G__law_is_number := ok__law_is_number (P := P) (w := w) (base := base) T
  have G__law_is_place := ok__law_is_place (P := P) (w := w) (base := base) T
  refine T.F__law_two_due.ok sc__law_two_due (fun vs H Q E h => ?_) (fun cdv Ar outer s H vs Q E hr h => ?_)
  · obtain ⟨k, n, w, u, rfl, _⟩ := h
    rfl
  · obtain ⟨k, n, w, u, rfl, hk, hl, hu, q⟩ := h
    refine ⟨_, (pss_cons (ps_if (pt_not (pt_val (pe_call G__law_is_place (hr.mono (by decide)) (by rfl) T.g__law_is_place T.F__law_is_place.kp T.b__law_is_place .nil pass0 (pa_cons (pv 1) pa_nil)))) (pss_one (ps_ret pe_str)) pss_nil)
    (pss_cons (ps_if (pt_cmpR (Ur.op_in_seqK (K := K) rfl) (pv 0) (pe_tup (pa_cons pe_str (pa_cons pe_str pa_nil))) rfl) (pss_cons (ps_if (pt_not (pt_val (pe_call G__law_is_number (hr.mono (by decide)) (by rfl) T.g__law_is_number T.F__law_is_number.kp T.b__law_is_number .nil pass0 (pa_cons (pv 2) pa_nil)))) (pss_one (ps_ret pe_str)) pss_nil)
    (pss_one (ps_ret (pe_ifExp (pt_cmpR op_lt (Ur.pe_t1 call_int_str (by rfl) T.m_int (by decide +kernel) (pv 1)) (pe_op op_add (pv 3) (Ur.pe_t1 call_int1 (by rfl) T.m_int (by decide +kernel) (pe_cmpR op_eq (pv 0) pe_str (nomark _)))) (nomark _)) pe_str pe_str)))) pss_nil)
    (pss_cons (ps_if (pt_not (pt_val (pe_call G__law_is_place (hr.mono (by decide)) (by rfl) T.g__law_is_place T.F__law_is_place.kp T.b__law_is_place .nil pass0 (pa_cons (pv 2) pa_nil)))) (pss_one (ps_ret pe_str)) pss_nil)
    (pss_one (ps_ret (pe_ifExp (pt_chain op_le op_le (Ur.pe_t1 call_int_str (by rfl) T.m_int (by decide +kernel) (pv 1)) (Ur.pe_t1 call_int_str (by rfl) T.m_int (by decide +kernel) (pv 2)) (pv 3)) pe_str pe_str)))))), ?_⟩
    tb_start
    intro H1 s1
    replace q := fun H' s => q H' (s1.trans s)
    refine ⟨_, rfl, ?_⟩
    refine brn (fun no => ?_) (fun ok => ?_)
    · rw [if_pos no] at q
      tb_start
      exact q _ (Same.refl _)
    rw [if_neg (fun z => z ok)] at q
    have tx := ok.text
    have h06 : w.length ≤ 6 := ok.1.2
    have hz : (SX.S w).length = w.length := SX.S_len w
    tb_start
    intro p5 n5
    generalize hX : (upd H1 p5 _) = H5
    have s5 : Same H1 H5 := by rw [← hX]; exact same_new n5
    have e5 : H5 p5 = some (.tup [V.str (Str.ofString "change"), V.str (Str.ofString "put")]) := by rw [← hX]; exact upd_same
    clear hX n5
    have hk4 : k = 0 ∨ k = 1 ∨ k = 2 ∨ k = 3 := by omega
    have hin : inV (V.str (headS k)) [V.str (Str.ofString "change"), V.str (Str.ofString "put")] = decide (2 ≤ k) := by
      rcases hk4 with rfl | rfl | rfl | rfl <;> decide
    replace q := fun H' s => q H' (s5.trans s)
    refine ⟨p5, _, rfl, .inr (SqT.of e5), rfl, rfl, ?_⟩
    refine ⟨decide (2 ≤ k), by rw [← hin]; rfl, ?_⟩
    clear e5 s5
    refine br (fun h2 => ?_) (fun h2 => ?_)
    · rw [if_pos h2] at q
      tb_start
      intro H6 s6
      refine ⟨_, rfl, ?_⟩
      refine brn (fun no2 => ?_) (fun ok2 => ?_)
      · rw [if_neg no2] at q
        tb_start
        exact q _ s6
      · rw [if_pos ok2] at q
        tb_start
        have hk2 : k = 2 ∨ k = 3 := by omega
        rcases hk2 with rfl | rfl
        · have q : ∀ H', Same _ H' → Q (.str (nameK (if dv w < (n : Int) then 4 else 3))) H' := q
          have hb : (if decide (V.str (headS 2) = V.str (Str.ofString "put")) = true then (1 : Int) else 0) = 0 := by decide
          refine br (fun h => ?_) (fun h => ?_)
          · rw [if_pos (show dv w < (n : Int) by unfold dv; omega)] at q
            tb_start
            exact q _ s6
          · rw [if_neg (show ¬ dv w < (n : Int) by unfold dv; omega)] at q
            tb_start
            exact q _ s6
        · have q : ∀ H', Same _ H' → Q (.str (nameK (if dv w ≤ (n : Int) then 4 else 3))) H' := q
          have hb : (if decide (V.str (headS 3) = V.str (Str.ofString "put")) = true then (1 : Int) else 0) = 1 := by decide
          refine br (fun h => ?_) (fun h => ?_)
          · rw [if_pos (show dv w ≤ (n : Int) by unfold dv; omega)] at q
            tb_start
            exact q _ s6
          · rw [if_neg (show ¬ dv w ≤ (n : Int) by unfold dv; omega)] at q
            tb_start
            exact q _ s6
    · rw [if_neg h2] at q
      tb_start
      intro H6 s6
      refine ⟨_, rfl, ?_⟩
      refine brn (fun no2 => ?_) (fun ok2 => ?_)
      · rw [if_neg no2] at q
        tb_start
        exact q _ s6
      · rw [if_pos ok2] at q
        have tx2 := ok2.text
        have h16 : u.length ≤ 6 := ok2.1.2
        have hz2 : (SX.S u).length = u.length := SX.S_len u
        tb_start
        have hk2 : k = 0 ∨ k = 1 := by omega
        have q : ∀ H', Same H5 H' → Q (.str (nameK (if dv w ≤ dv u ∧ dv u ≤ (n : Int) then 4 else 2))) H' := by
          rcases hk2 with rfl | rfl <;> exact q
        refine br (fun h => ?_) (fun h => ?_)
        · tb_start
          refine br (fun h3 => ?_) (fun h3 => ?_)
          · rw [if_pos (show dv w ≤ dv u ∧ dv u ≤ (n : Int) from ⟨h, h3⟩)] at q
            tb_start
            exact q _ s6
          · rw [if_neg (show ¬ (dv w ≤ dv u ∧ dv u ≤ (n : Int)) from fun z => h3 z.2)] at q
            tb_start
            exact q _ s6
        · rw [if_neg (show ¬ (dv w ≤ dv u ∧ dv u ≤ (n : Int)) from fun z => h z.1)] at q
          tb_start
          exact q _ s6
end
end Ur
namespace Ur
open PySem L2
/-- what is due of a text -/
def sp__law_due (K : PySem.W.Frag) : Sp := fun vs H Q _ => ∃ (n : Nat) (cs : List Nat), vs = [.str (SX.S cs), .int n] ∧ cs.length ≤ 19000 ∧ ∀ H', Same H H' → Q (.str (nameK (dueN n cs))) H'
section
variable {P : Program} {w : World} {K : PySem.W.Frag} {mg : Str → Option Value} {base : Heap} {A : Adr}
theorem ok__law_due (T : Txt w K mg A) : FnOk P w K mg base CX0 3 A.f__law_due A.d__law_due ["words", "size"] (sp__law_due K) := by
  have G__law_is_number := ok__law_is_number (P := P) (w := w) (base := base) T
  have G__law_one_due := ok__law_one_due (P := P) (w := w) (base := base) T
  have G__law_two_due := ok__law_two_due (P := P) (w := w) (base := base) T
  refine T.F__law_due.ok sc__law_due (fun vs H Q E h => ?_) (fun cdv Ar outer s H vs Q E hr h => ?_)
  · obtain ⟨n, cs, rfl, _⟩ := h
    rfl
  · obtain ⟨n, cs, rfl, hl, q⟩ := h
    have hz : (SX.S cs).length = cs.length := SX.S_len cs
    have szc : (SX.S cs).length ≤ sizeLine := Nat.le_of_lt (szl (by omega))
    have sz2 : (SX.S cs).length + 2 ≤ sizeLine := Nat.le_of_lt (szl (by omega))
    unfold dueN at q
    refine ⟨_, (pss_cons (ps_if (pt_cmpR (Ur.op_in_seqK (K := K) rfl) (pv 0) (pe_tup (pa_cons pe_str (pa_cons pe_str pa_nil))) rfl) (pss_one (ps_ret pe_str)) pss_nil)
    (pss_cons (ps_if (pt_cmpR op_eq (pe_slice sl_str (pv 0) po_none (po_some pe_int)) pe_str (nomark _)) (pss_cons (ps_set (i := 2) sc__law_due.nd rfl (Or.inl rfl) (pe_slice sl_str (pv 0) (po_some pe_int) po_none))
    (pss_cons (ps_set (i := 3) sc__law_due.nd rfl (Or.inl rfl) (pe_or (pe_cmpR op_eq (pv 2) pe_str (nomark _)) (pe_one (Ur.pe_b1 (Ur.cr_allK (K := K) rfl rfl) (by rfl) T.m_all (by decide +kernel) (pe_lc (own := [("word", 5)]) (g := gName 5) (by rfl) sc__law_due.nd (pi_list (pe_split (pv 2) pe_str)) (blkOk_by (own := [("word", 5)]) (N := ["words", "size", "text", "good", "parts", "word"]) (by kernel_rfl)) (fun _ _ _ _ _ => pg_name (i := 5) sc__law_due.nd rfl (Or.inl rfl)) (fun _ _ _ _ _ => pts_nil) (fun _ _ _ _ _ => (pe_call G__law_is_number (hr.mono (by decide)) (by rfl) T.g__law_is_number T.F__law_is_number.kp T.b__law_is_number .nil pass0 (pa_cons (pv 5) pa_nil))))))))
    (pss_one (ps_ret (pe_ifExp (pt_val (pv 3)) pe_str pe_str))))) pss_nil)
    (pss_cons (ps_set (i := 4) sc__law_due.nd rfl (Or.inl rfl) (pe_split (pv 0) pe_str))
    (pss_cons (ps_if (PW.pt (pw_and (pt_cmpR (Ur.op_in_seqK (K := K) rfl) (pe_ix (Ur.ix_listK (K := K) rfl) (pv 4) pe_int (fun _ _ => rfl)) (pe_tup (pa_cons pe_str (pa_cons pe_str (pa_cons pe_str (pa_cons pe_str pa_nil))))) rfl) (pw_and1 (pt_cmpR op_eq (Ur.pe_b1 (Ur.call_lenIK (K := K) rfl) (by rfl) T.m_len (by decide +kernel) (pv 4)) pe_int (nomark _))))) (pss_one (ps_ret (pe_call G__law_two_due (hr.mono (by decide)) (by rfl) T.g__law_two_due T.F__law_two_due.kp T.b__law_two_due .nil pass0 (pa_cons (pe_ix (Ur.ix_listK (K := K) rfl) (pv 4) pe_int (fun _ _ => rfl)) (pa_cons (pe_ix (Ur.ix_listK (K := K) rfl) (pv 4) pe_int (fun _ _ => rfl)) (pa_cons (pe_ix (Ur.ix_listK (K := K) rfl) (pv 4) pe_int (fun _ _ => rfl)) (pa_cons (pv 1) pa_nil))))))) pss_nil)
    (pss_cons (ps_if (PW.pt (pw_and (pt_cmpR (Ur.op_in_seqK (K := K) rfl) (pe_ix (Ur.ix_listK (K := K) rfl) (pv 4) pe_int (fun _ _ => rfl)) (pe_tup (pa_cons pe_str (pa_cons pe_str (pa_cons pe_str (pa_cons pe_str (pa_cons pe_str pa_nil)))))) rfl) (pw_and1 (pt_cmpR op_eq (Ur.pe_b1 (Ur.call_lenIK (K := K) rfl) (by rfl) T.m_len (by decide +kernel) (pv 4)) pe_int (nomark _))))) (pss_one (ps_ret (pe_call G__law_one_due (hr.mono (by decide)) (by rfl) T.g__law_one_due T.F__law_one_due.kp T.b__law_one_due .nil pass0 (pa_cons (pe_ix (Ur.ix_listK (K := K) rfl) (pv 4) pe_int (fun _ _ => rfl)) (pa_cons (pe_ix (Ur.ix_listK (K := K) rfl) (pv 4) pe_int (fun _ _ => rfl)) (pa_cons (pv 1) pa_nil)))))) pss_nil)
    (pss_one (ps_ret pe_str))))))), ?_⟩
    tb_start
    intro p5 n5
    generalize hX : (upd H p5 _) = H5
    have s5 : Same H H5 := by rw [← hX]; exact same_new n5
    have e5 : H5 p5 = some (.tup [V.str (Str.ofString "undo"), V.str (Str.ofString "show")]) := by rw [← hX]; exact upd_same
    clear hX n5
    replace q := fun H' s => q H' (s5.trans s)
    refine ⟨p5, _, rfl, .inr (SqT.of e5), rfl, rfl, ?_⟩
    refine ⟨decide (cs = undoC ∨ cs = showW), by rw [← in_us]; rfl, ?_⟩
    clear e5 s5
    refine br (fun h => ?_) (fun h => ?_)
    · have hd : (if cs = undoC then 4 else if cs = showW then 4 else if cs.take 4 = rowW then (if RowOk (cs.drop 4) then 4 else 1) else dueWN n (wordsC cs)) = 4 := by
        by_cases h1 : cs = undoC
        · rw [if_pos h1]
        · rw [if_neg h1, if_pos (h.resolve_left h1)]
      rw [hd] at q
      tb_start
      exact q _ (Same.refl _)
    rw [if_neg (fun z => h (.inl z)), if_neg (fun z => h (.inr z))] at q
    tb_start
    refine br (fun h4 => ?_) (fun h4 => ?_)
    · rw [cutS_to _ (by decide)] at h4
      have hrow : cs.take 4 = rowW := (S_eqP.mp h4).trans rowb_L
      rw [if_pos hrow] at q
      tb_start
      have hcf : cutS (SX.S cs) (some 4) none = SX.S (cs.drop 4) := cutS_from cs (by decide)
      rw [hcf]
      have hdl : (cs.drop 4).length ≤ cs.length := by rw [List.length_drop]; omega
      have hz4 : (SX.S (cs.drop 4)).length = (cs.drop 4).length := SX.S_len _
      have sz4 : (SX.S (cs.drop 4)).length + 2 ≤ sizeLine := Nat.le_of_lt (szl (by omega))
      generalize cs.drop 4 = ds at *
      refine br (fun h6 => ?_) (fun h6 => ?_)
      · have z6 : ds = [45] := (S_eqP.mp h6).trans dash_L
        rw [if_pos (show RowOk ds from .inl z6)] at q
        tb_start
        exact q _ (Same.refl _)
      · have z6 : ds ≠ [45] := fun k => h6 (S_eqP.mpr (k.trans dash_L.symm))
        tb_start
        · intro p np
          rw [wordsC_split, List.map_map]
          have hm := wordsC_many ds
          have s7 : Same H5 (upd H5 p (.lst ((wordsC ds).map fun w => V.str (SX.S w)))) := same_new np
          tb_start
          intro D nD
          refine lc_texts (ws := wordsC ds) (fun _ => True) (fun w => V.bl (decide (WOk w))) (by omega) (SqL.of upd_same) nD (fun _ => rfl) ?he ?hd
          case he =>
            intro x H' hx s Q' q'
            have hxl := wordsC_le hx
            tb_start
            intro H4 s4
            exact q' trivial _ s4
          case hd =>
            intro H' _ s e
            refine ⟨D, (wordsC ds).map (fun w => decide (WOk w)), rfl, SqL.of (by rw [e, List.map_map]; rfl), ?_⟩
            have hall : ((wordsC ds).map fun w => decide (WOk w)).all id = decide (RowOk ds) := by
              have := wsC_all ds
              unfold wsC at this
              rwa [if_neg z6] at this
            rw [hall]
            have s57 := s7.trans s
            tb_start
            refine br (fun ok => ?_) (fun no => ?_)
            · rw [if_pos ok] at q
              tb_start
              exact q _ s57
            · rw [if_neg no] at q
              tb_start
              exact q _ s57
        · exact ⟨_, rfl⟩
    · rw [cutS_to _ (by decide)] at h4
      have hrow : ¬ cs.take 4 = rowW := fun z => h4 (S_eqP.mpr (z.trans rowb_L.symm))
      rw [if_neg hrow] at q
      tb_start
      · intro p np
        rw [wordsC_split, List.map_map]
        have hm := wordsC_many cs
        have hwl : ∀ w ∈ wordsC cs, w.length ≤ cs.length := fun w hw => wordsC_le hw
        obtain ⟨w0, wr, hws⟩ : ∃ w0 wr, wordsC cs = w0 :: wr := by
          cases q : wordsC cs with
          | nil => exact absurd q (spl_pos _ _ _ _)
          | cons a b => exact ⟨a, b, rfl⟩
        rw [hws] at q hm hwl ⊢
        generalize hX : (upd H5 p _) = H6
        have s6 : Same H5 H6 := by rw [← hX]; exact same_new np
        have ep : H6 p = some (.lst ((w0 :: wr).map fun w => V.str (SX.S w))) := by rw [← hX]; exact upd_same
        replace q := fun H' s => q H' (s6.trans s)
        clear hX np s6
        have lp : ((w0 :: wr).map fun w => V.str (SX.S w)).length = wr.length + 1 := by rw [List.length_map, List.length_cons]
        have at0 : atI ((w0 :: wr).map fun w => V.str (SX.S w)) 0 = some (.str (SX.S w0)) := atI_pos (by decide) (by rw [lp]; omega)
        tb_start
        intro p7 n7
        generalize hX : (upd H6 p7 _) = H7
        have s7 : Same H6 H7 := by rw [← hX]; exact same_new n7
        have e7 : H7 p7 = some (.tup (heads3.map V.str)) := by rw [← hX]; exact upd_same
        replace ep := s7 _ _ ep
        replace q := fun H' s => q H' (s7.trans s)
        clear hX n7 s7
        refine ⟨p7, _, rfl, .inr (SqT.of e7), rfl, rfl, ?_⟩
        have hne : ∀ c : Int, wn w0 = c → ((((w0 :: wr).map fun w => V.str (SX.S w)).length : Nat) : Int) ≠ c → dueWN n (w0 :: wr) = 0 := fun c h1 h2 => dueWN_ne fun e => h2 (by rw [lp, ← h1, e, List.length_cons])
        clear e7
        rcases wn_cases w0 with ⟨hn, k, hk, hs0, hix⟩ | ⟨hn, k, hk, hs0, hix⟩ | hn
        · have hin3 : SX.S w0 ∈ heads3 := by
            rw [hs0]
            have hk4 : k = 0 ∨ k = 1 ∨ k = 2 ∨ k = 3 := by omega
            rcases hk4 with rfl | rfl | rfl | rfl <;> decide
          have hin2 : SX.S w0 ∉ heads2 := by
            rw [hs0]
            have hk4 : k = 0 ∨ k = 1 ∨ k = 2 ∨ k = 3 := by omega
            rcases hk4 with rfl | rfl | rfl | rfl <;> decide
          refine ⟨true, by show V.bl (inV (V.str (SX.S w0)) (heads3.map V.str)) = V.bl true; rw [inV_strs, decide_eq_true hin3], ?_⟩
          tb_start
          refine bri (fun h => ?_) (fun h => ?_)
          · rw [lp] at h
            obtain ⟨w1, w2, rfl⟩ : ∃ w1 w2, wr = [w1, w2] := by
              match wr, h with
              | [w1, w2], _ => exact ⟨w1, w2, rfl⟩
              | [], h => exact absurd h (by decide)
              | [w1], h => rw [List.length_singleton] at h; exact absurd h (by decide)
              | w1 :: w2 :: w3 :: r, h => rw [List.length_cons, List.length_cons, List.length_cons] at h; omega
            rw [dueWN_3 hn, hix] at q
            have at1 : atI ([w0, w1, w2].map fun w => V.str (SX.S w)) 1 = some (.str (SX.S w1)) := rfl
            have at2 : atI ([w0, w1, w2].map fun w => V.str (SX.S w)) 2 = some (.str (SX.S w2)) := rfl
            have hw1 := hwl w1 (List.mem_cons_of_mem _ List.mem_cons_self)
            have hw2 := hwl w2 (List.mem_cons_of_mem _ (List.mem_cons_of_mem _ List.mem_cons_self))
            rw [hs0] at at0
            tb_start
            · exact q
            all_goals first | omega | (show [V.str (SX.S w0), V.str (SX.S w1), V.str (SX.S w2), V.int (n : Int)] = _; rw [hs0])
          · rw [hne 3 hn h] at q
            tb_start
            intro p9 n9
            generalize hX : (upd H7 p9 _) = H9
            have s9 : Same H7 H9 := by rw [← hX]; exact same_new n9
            have e9 : H9 p9 = some (.tup (heads2.map V.str)) := by rw [← hX]; exact upd_same
            have ep9 := s9 _ _ ep
            have q9 := fun H' s => q H' (s9.trans s)
            clear hX n9 s9
            refine ⟨p9, _, rfl, .inr (SqT.of e9), rfl, rfl, ?_⟩
            refine ⟨false, by show V.bl (inV (V.str (SX.S w0)) (heads2.map V.str)) = V.bl false; rw [inV_strs, decide_eq_false hin2], ?_⟩
            clear e9
            tb_start
            exact q9 _ (Same.refl _)
        · have hin3 : SX.S w0 ∉ heads3 := by
            rw [hs0]
            have hk4 : k = 0 ∨ k = 1 ∨ k = 2 ∨ k = 3 ∨ k = 4 := by omega
            rcases hk4 with rfl | rfl | rfl | rfl | rfl <;> decide
          have hin2 : SX.S w0 ∈ heads2 := by
            rw [hs0]
            have hk4 : k = 0 ∨ k = 1 ∨ k = 2 ∨ k = 3 ∨ k = 4 := by omega
            rcases hk4 with rfl | rfl | rfl | rfl | rfl <;> decide
          refine ⟨false, by show V.bl (inV (V.str (SX.S w0)) (heads3.map V.str)) = V.bl false; rw [inV_strs, decide_eq_false hin3], ?_⟩
          tb_start
          intro p9 n9
          generalize hX : (upd H7 p9 _) = H9
          have s9 : Same H7 H9 := by rw [← hX]; exact same_new n9
          have e9 : H9 p9 = some (.tup (heads2.map V.str)) := by rw [← hX]; exact upd_same
          have ep9 := s9 _ _ ep
          have q9 := fun H' s => q H' (s9.trans s)
          clear hX n9 s9
          refine ⟨p9, _, rfl, .inr (SqT.of e9), rfl, rfl, ?_⟩
          refine ⟨true, by show V.bl (inV (V.str (SX.S w0)) (heads2.map V.str)) = V.bl true; rw [inV_strs, decide_eq_true hin2], ?_⟩
          clear e9
          tb_start
          refine bri (fun h => ?_) (fun h => ?_)
          · rw [lp] at h
            obtain ⟨w1, rfl⟩ : ∃ w1, wr = [w1] := by
              match wr, h with
              | [w1], _ => exact ⟨w1, rfl⟩
              | [], h => exact absurd h (by decide)
              | w1 :: w2 :: r, h => rw [List.length_cons, List.length_cons] at h; omega
            rw [dueWN_2 hn, hix] at q9
            have at1 : atI ([w0, w1].map fun w => V.str (SX.S w)) 1 = some (.str (SX.S w1)) := rfl
            have hw1 := hwl w1 (List.mem_cons_of_mem _ List.mem_cons_self)
            rw [hs0] at at0
            tb_start
            · exact q9
            all_goals first | omega | (show [V.str (SX.S w0), V.str (SX.S w1), V.int (n : Int)] = _; rw [hs0])
          · rw [hne 2 hn h] at q9
            tb_start
            exact q9 _ (Same.refl _)
        · obtain ⟨hin3, hin2⟩ := wn_zero hn
          refine ⟨false, by show V.bl (inV (V.str (SX.S w0)) (heads3.map V.str)) = V.bl false; rw [inV_strs, decide_eq_false hin3], ?_⟩
          have hz0 : dueWN n (w0 :: wr) = 0 := hne 0 hn (by rw [lp]; omega)
          rw [hz0] at q
          tb_start
          intro p9 n9
          generalize hX : (upd H7 p9 _) = H9
          have s9 : Same H7 H9 := by rw [← hX]; exact same_new n9
          have e9 : H9 p9 = some (.tup (heads2.map V.str)) := by rw [← hX]; exact upd_same
          have ep9 := s9 _ _ ep
          have q9 := fun H' s => q H' (s9.trans s)
          clear hX n9 s9
          refine ⟨p9, _, rfl, .inr (SqT.of e9), rfl, rfl, ?_⟩
          refine ⟨false, by show V.bl (inV (V.str (SX.S w0)) (heads2.map V.str)) = V.bl false; rw [inV_strs, decide_eq_false hin2], ?_⟩
          clear e9
          tb_start
          exact q9 _ (Same.refl _)
      · exact ⟨_, rfl⟩
end
end Ur
namespace Ur
open PySem L2
theorem bad_le {ns : List Int} {hs : List (List Int)} {cs : List Nat} {j : Nat} (h : sayD ns hs cs = .bad j) : j = dueN ns.length cs ∧ j ≤ 3 := by
  have k := kind_say ns hs cs
  rw [h] at k
  refine ⟨k, ?_⟩
  have ask : ∀ i x y j, askD ns hs i x y = .bad j → j ≤ 3 := fun i x y j e => by
    match i with
    | 0 => simp only [askD] at e; split at e <;> (cases e; try decide)
    | 1 => simp only [askD] at e; split at e <;> (cases e; try decide)
    | 2 => simp only [askD] at e; split at e <;> (cases e; try decide)
    | i + 3 => simp only [askD] at e; split at e <;> (cases e; try decide)
  have tell : ∀ i x j, tellD ns hs i x = .bad j → j ≤ 3 := fun i x j e => by
    match i with
    | 0 => simp only [tellD] at e; split at e <;> (cases e; try decide)
    | 1 => simp only [tellD] at e; cases e
    | 2 => simp only [tellD] at e; split at e <;> (cases e; try decide)
    | 3 => simp only [tellD] at e; split at e <;> (cases e; try decide)
    | i + 4 => simp only [tellD] at e; split at e <;> (cases e; try decide)
  unfold sayD at h
  split at h
  · cases q : hs.getLast? with
    | none => rw [q] at h; cases h
    | some m => rw [q] at h; cases h
  split at h
  · cases h
  split at h
  · split at h
    · cases h
    · cases h; decide
  unfold wordsD at h
  split at h
  · cases h; decide
  split at h
  · cases h; decide
  split at h
  · exact tell _ _ _ h
  split at h
  · split at h
    · exact ask _ _ _ _ h
    · cases h; decide
  split at h
  · exact ask _ _ _ _ h
  · cases h; decide
theorem ok_four {ns ms : List Int} {hs is : List (List Int)} {cs t : List Nat} (h : sayD ns hs cs = .ok t ms is) : dueN ns.length cs = 4 := by
  have k := kind_say ns hs cs
  rw [h] at k
  exact k.symm
theorem rEq_00 {K : PySem.W.Frag} {H : Hp} {a b : Addr} {Q : VK} (h1 : H a = some (.lst [])) (h2 : H b = some (.lst [])) (q : Q (.bl true) H) : rEqD K (.ref a) (.ref b) H Q :=
  ⟨.list [], .list [], .lst (SqL.of h1) .nil, .lst (SqL.of h2) .nil, by decide, by decide, q⟩
theorem rEq_40 {K : PySem.W.Frag} {H : Hp} {a b : Addr} {x y z u : Bool} {Q : VK} (h1 : H a = some (.lst [.bl x, .bl y, .bl z, .bl u])) (h2 : H b = some (.lst [])) (q : Q (.bl false) H) : rEqD K (.ref a) (.ref b) H Q :=
  ⟨.list [.bool x, .bool y, .bool z, .bool u], .list [], .lst (SqL.of h1) (.cons (.bl _) (.cons (.bl _) (.cons (.bl _) (.cons (.bl _) .nil)))), .lst (SqL.of h2) .nil, by cases x <;> cases y <;> cases z <;> cases u <;> decide, by decide, q⟩
theorem rEq_44 {K : PySem.W.Frag} {H : Hp} {a b : Addr} {x y z u : Bool} {Q : VK} (h1 : H a = some (.lst [.bl x, .bl y, .bl z, .bl u])) (h2 : H b = some (.lst [.bl x, .bl y, .bl z, .bl u])) (q : Q (.bl true) H) : rEqD K (.ref a) (.ref b) H Q :=
  ⟨.list [.bool x, .bool y, .bool z, .bool u], .list [.bool x, .bool y, .bool z, .bool u], .lst (SqL.of h1) (.cons (.bl _) (.cons (.bl _) (.cons (.bl _) (.cons (.bl _) .nil)))), .lst (SqL.of h2) (.cons (.bl _) (.cons (.bl _) (.cons (.bl _) (.cons (.bl _) .nil)))),
    by cases x <;> cases y <;> cases z <;> cases u <;> decide, by cases x <;> cases y <;> cases z <;> cases u <;> decide, by
    have e : PyData.eqv (.list [.bool x, .bool y, .bool z, .bool u]) (.list [.bool x, .bool y, .bool z, .bool u]) = true := by cases x <;> cases y <;> cases z <;> cases u <;> decide
    rw [e]; exact q⟩
/-- the desk answers or refuses as is due: True -/
def sp__law_met (K : PySem.W.Frag) (C CL CR : Addr) : Sp := fun vs H Q _ => ∃ (L : Addr → Prop) (o lo pc : Addr) (ns : List Int) (hs : List (List Int)) (v : V) (k : Nat), vs = [.ref o, v, .str (nameK k)] ∧ Dsk C CL CR L o lo pc H ns hs ∧ ns.length + 1 ≤ 400 ∧ hs.length + 1 ≤ 10000 ∧ Kind H v ∧ ((∃ cs : List Nat, v = .str (SX.S cs) ∧ cs.length ≤ 19000 ∧ (rVal (cs.drop 4)).length ≤ 390 ∧ k = dueN ns.length cs ∧ ∀ lo2 pc2 ns2 hs2 H', (match sayD ns hs cs with | .bad _ => ns2 = ns ∧ hs2 = hs | .ok _ ms is => ns2 = ms ∧ hs2 = is) → Dsk C CL CR L o lo2 pc2 H' ns2 hs2 → DFr o lo pc lo2 pc2 H H' → Q (.bl true) H') ∨ ((∀ s, v ≠ .str s) ∧ k = 0 ∧ ∀ H', Same H H' → Q (.bl true) H'))
section
variable {P : Program} {w : World} {K : PySem.W.Frag} {mg : Str → Option Value} {base : Heap} {A : Adr}
theorem ok__law_met (T : Txt w K mg A) : FnOk P w K mg base CX0 9 A.f__law_met A.d__law_met ["desk", "words", "due"] (sp__law_met K A.c_Desk A.c_Live A.c_Ready) := by
  have G_Desk_say := ok_Desk_say (P := P) (w := w) (base := base) T
  refine T.F__law_met.ok sc__law_met (fun vs H Q E h => ?_) (fun cdv Ar outer s H vs Q E hr h => ?_)
  · obtain ⟨L, o, lo, pc, ns, hs, v, k, rfl, _⟩ := h
    rfl
  · have C_Desk := T.C_Desk
    have n_Desk_live := T.n_Desk_live
    obtain ⟨L, o, lo, pc, ns, hs, v, k, rfl, d, hnl, hhl, hk, h⟩ := h
    have hE0 := T.E_NoCommand
    have q0a := T.q_NoCommand_NoCommand
    have q0b := T.q_NoCommand_NoRow
    have q0c := T.q_NoCommand_NoWindow
    have q0d := T.q_NoCommand_NoPlace
    have q0e := T.q_NoCommand_ValueError
    have q0f : NoneOf K A.c_NoCommand [A.c_NoNeeds, A.c_NoTable] := .cons T.q_NoCommand_NoNeeds (.cons T.q_NoCommand_NoTable .nil)
    have hE1 := T.E_NoRow
    have q1a := T.q_NoRow_NoCommand
    have q1b := T.q_NoRow_NoRow
    have q1c := T.q_NoRow_NoWindow
    have q1d := T.q_NoRow_NoPlace
    have q1e := T.q_NoRow_ValueError
    have q1f : NoneOf K A.c_NoRow [A.c_NoNeeds, A.c_NoTable] := .cons T.q_NoRow_NoNeeds (.cons T.q_NoRow_NoTable .nil)
    have hE2 := T.E_NoWindow
    have q2a := T.q_NoWindow_NoCommand
    have q2b := T.q_NoWindow_NoRow
    have q2c := T.q_NoWindow_NoWindow
    have q2d := T.q_NoWindow_NoPlace
    have q2e := T.q_NoWindow_ValueError
    have q2f : NoneOf K A.c_NoWindow [A.c_NoNeeds, A.c_NoTable] := .cons T.q_NoWindow_NoNeeds (.cons T.q_NoWindow_NoTable .nil)
    have hE3 := T.E_NoPlace
    have q3a := T.q_NoPlace_NoCommand
    have q3b := T.q_NoPlace_NoRow
    have q3c := T.q_NoPlace_NoWindow
    have q3d := T.q_NoPlace_NoPlace
    have q3e := T.q_NoPlace_ValueError
    have q3f : NoneOf K A.c_NoPlace [A.c_NoNeeds, A.c_NoTable] := .cons T.q_NoPlace_NoNeeds (.cons T.q_NoPlace_NoTable .nil)
    obtain ⟨dx, eo⟩ := d.obj
    obtain ⟨cls, lv, bk⟩ := d.liv
    obtain ⟨dxl, pnl, mvl, el⟩ := lv.ob
    obtain ⟨tsl, ec, _⟩ := lv.chs
    refine ⟨_, (pss_cons (ps_set (i := 3) sc__law_met.nd rfl (Or.inl rfl) pe_non)
    (pss_cons (ps_set (i := 4) sc__law_met.nd rfl (Or.inl rfl) (pe_lst pa_nil))
    (pss_cons (ps_set (i := 5) sc__law_met.nd rfl (Or.inl rfl) pe_bl)
    (Evl.pss_cut (ps_try_as (i := 6) rfl rfl sc__law_met.nd rfl rfl ⟨rfl, by decide, .inl T.g_RowError⟩ takes0 (fun W pn xe tk po => (pss_one (ps_set (i := 3) sc__law_met.nd rfl (Or.inl rfl) (Ur.pe_methA (pv 0) T.C_Desk T.M_Desk_say G_Desk_say (hr.mono (by decide)) T.b_Desk_say (fun σ => passAt tk σ) (pa_cons (pv 1) pa_nil))))) (fun ea oe cls d pn hz hf => (pss_cons (ps_set (i := 4) sc__law_met.nd rfl (Or.inl rfl) (pe_lst (pa_cons (Ur.pe_b2 (Ur.call_isX (K := K) (by rfl) (a := ea) hz hf (by exact List.mem_cons_self)) (by rfl) T.m_isinstance (by decide +kernel) (pv 6) (pe_glob (v := .ref A.c_NoCommand) (by rfl) T.g_NoCommand rfl)) (pa_cons (Ur.pe_b2 (Ur.call_isX (K := K) (by rfl) (a := ea) hz hf (by exact List.mem_cons_self)) (by rfl) T.m_isinstance (by decide +kernel) (pv 6) (pe_glob (v := .ref A.c_NoRow) (by rfl) T.g_NoRow rfl)) pa_nil))))
    (pss_cons (ps_set (i := 4) sc__law_met.nd rfl (Or.inl rfl) (pe_op op_cat (pv 4) (pe_lst (pa_cons (Ur.pe_b2 (Ur.call_isX (K := K) (by rfl) (a := ea) hz hf (by exact List.mem_cons_self)) (by rfl) T.m_isinstance (by decide +kernel) (pv 6) (pe_glob (v := .ref A.c_NoWindow) (by rfl) T.g_NoWindow rfl)) (pa_cons (Ur.pe_b2 (Ur.call_isX (K := K) (by rfl) (a := ea) hz hf (by exact List.mem_cons_self)) (by rfl) T.m_isinstance (by decide +kernel) (pv 6) (pe_glob (v := .ref A.c_NoPlace) (by rfl) T.g_NoPlace rfl)) pa_nil)))))
    (pss_one (ps_set (i := 5) sc__law_met.nd rfl (Or.inl rfl) (pe_or (Ur.pe_b2 (Ur.call_isX (K := K) (by rfl) (a := ea) hz hf (by exact List.mem_cons_self)) (by rfl) T.m_isinstance (by decide +kernel) (pv 6) (pe_tup (pa_cons (pe_glob (v := .ref A.c_NoNeeds) (by rfl) T.g_NoNeeds rfl) (pa_cons (pe_glob (v := .ref A.c_NoTable) (by rfl) T.g_NoTable rfl) pa_nil)))) (pe_one (pe_not (Ur.pe_b2 (Ur.call_isX (K := K) (by rfl) (a := ea) hz hf (by exact List.mem_cons_self)) (by rfl) T.m_isinstance (by decide +kernel) (pv 6) (pe_bltn (v := .ty "ValueError") (by rfl) T.m_ValueError (by decide +kernel) rfl)))))))))))
    (pss_cons (ps_if (pt_cmpR (Ur.op_eqDK (K := K) rfl hr.units) (pv 4) (pe_lst pa_nil) (nomark _)) (pss_one (ps_ret (pe_and (pe_cmpR op_eq (pv 2) pe_str (nomark _)) (pe_one (Ur.pe_b2 (Ur.call_isiK (K := K) rfl) (by rfl) T.m_isinstance (by decide +kernel) (pv 3) (pe_bltn (v := .ty "str") (by rfl) T.m_str (by decide +kernel) rfl)))))) pss_nil)
    (pss_cons (ps_set (i := 7) sc__law_met.nd rfl (Or.inl rfl) (pe_lst (pa_cons pe_str (pa_cons pe_str (pa_cons pe_str (pa_cons pe_str pa_nil))))))
    (pss_one (ps_ret (pe_and (pe_not (pv 5)) (pe_one (pe_cmpR (Ur.op_eqDK (K := K) rfl hr.units) (pv 4) (pe_lc (own := [("word", 8)]) (g := gName 8) (by rfl) sc__law_met.nd (pi_list (pv 7)) (blkOk_by (own := [("word", 8)]) (N := ["desk", "words", "due", "answer", "kinds", "other", "e", "some", "word"]) (by kernel_rfl)) (fun _ _ _ _ _ => pg_name (i := 8) sc__law_met.nd rfl (Or.inl rfl)) (fun _ _ _ _ _ => pts_nil) (fun _ _ _ _ _ => (pe_cmpR op_eq (pv 8) (pv 2) (nomark _)))) (nomark _)))))))))))), ?_⟩
    tb_start
    intro pk nk
    have ko : pk ≠ o := by kcj_m
    have kl : pk ≠ lo := by kcj_m
    have kc : pk ≠ pc := by kcj_m
    generalize hX : (upd H pk _) = H1
    have s1 : Same H H1 := by rw [← hX]; exact same_new nk
    have ek : H1 pk = some (.lst []) := by rw [← hX]; exact upd_same
    have d1 := d.same s1
    have eo1 := s1 _ _ eo
    have hk1 := hk.same s1
    clear hX nk
    tb_start
    refine ⟨fun σ H' => Iv (∃ (av : V) (kd : Addr) (ot : Bool) (u6 u7 u8 : Option V), σ = [some (.ref o), some v, some (.str (nameK k)), some av, some (.ref kd), some (.bl ot), u6, u7, u8] ∧ (∀ H2, Same H' H2 → Q (.bl true) H2) ∧ ((k = 4 ∧ H' kd = some (.lst []) ∧ ∃ s, av = .str s) ∨ (k ≤ 3 ∧ ot = false ∧ H' kd = some (.lst ([decide (k = 0), decide (k = 1), decide (k = 2), decide (k = 3)].map V.bl))))), ?_, ?_⟩
    · rcases h with ⟨cs, rfl, hcl, hrl, hkd, q⟩ | ⟨hns, rfl, q⟩
      · tb_start
        · exact fun h => absurd rfl (h _)
        · intro cs2 e
          have z : cs2 = cs := (SX.S_inj (V.str.inj e)).symm
          subst z
          refine ⟨hcl, hrl, ?_⟩
          cases hsay : sayD ns hs cs2 with
          | ok t ms is =>
            rw [hsay] at q
            have hk4 : k = 4 := hkd.trans (ok_four hsay)
            intro lo2 pc2 H2 d2 f2
            have ek2 := (f2 _ _ ko kl kc ek).1
            tb_start
            exact ⟨_, _, _, _, _, _, rfl, fun H3 s3 => q lo2 pc2 ms is H3 ⟨rfl, rfl⟩ (d2.same s3) (((DFr.fr (Fr.same s1)).trans f2).same s3), .inl ⟨hk4, ek2, _, rfl⟩⟩
          | bad j =>
            rw [hsay] at q
            obtain ⟨hj, hj3⟩ := bad_le hsay
            have hkj : k = j := hkd.trans hj.symm
            subst hkj
            intro H2 d2 f2
            have ek2 := (f2 _ _ ko kl kc ek).1
            have done' : ∀ H3, Same H2 H3 → Q (.bl true) H3 := fun H3 s3 => q lo pc ns hs H3 ⟨rfl, rfl⟩ (d2.same s3) (((DFr.fr (Fr.same s1)).trans f2).same s3)
            have hk4 : k = 0 ∨ k = 1 ∨ k = 2 ∨ k = 3 := by omega
            rcases hk4 with rfl | rfl | rfl | rfl
            · skip
              rw [show excK A.c_NoCommand A.c_NoRow A.c_NoWindow A.c_NoPlace 0 = A.c_NoCommand from rfl]
              refine ⟨true, T.m_NoCommand_RowError, fun _ ea nea => ?_, fun z => nomatch z⟩
              tb_start
              intro p1 n1
              have s01 : Same H2 (upd H2 p1 (.lst ([decide (0 = 0), decide (0 = 1)].map V.bl))) := same_new n1
              tb_start
              intro p2 n2
              have h12 : p1 ≠ p2 := by kcj_m
              tb_start
              intro p3 n3
              have h13 : p1 ≠ p3 := by kcj_m
              have h23 : p2 ≠ p3 := by kcj_m
              tb_start
              intro p4 n4
              have h34 : p3 ≠ p4 := by kcj_m
              tb_start
              exact ⟨.non, p3, false, _, _, _, rfl, fun H3 s3 => done' H3 (Same.trans (by kcj_in) s3), .inr ⟨by decide, rfl, lst_cast (by kct_strs) rfl⟩⟩
            · skip
              rw [show excK A.c_NoCommand A.c_NoRow A.c_NoWindow A.c_NoPlace 1 = A.c_NoRow from rfl]
              refine ⟨true, T.m_NoRow_RowError, fun _ ea nea => ?_, fun z => nomatch z⟩
              tb_start
              intro p1 n1
              have s01 : Same H2 (upd H2 p1 (.lst ([decide (1 = 0), decide (1 = 1)].map V.bl))) := same_new n1
              tb_start
              intro p2 n2
              have h12 : p1 ≠ p2 := by kcj_m
              tb_start
              intro p3 n3
              have h13 : p1 ≠ p3 := by kcj_m
              have h23 : p2 ≠ p3 := by kcj_m
              tb_start
              intro p4 n4
              have h34 : p3 ≠ p4 := by kcj_m
              tb_start
              exact ⟨.non, p3, false, _, _, _, rfl, fun H3 s3 => done' H3 (Same.trans (by kcj_in) s3), .inr ⟨by decide, rfl, lst_cast (by kct_strs) rfl⟩⟩
            · skip
              rw [show excK A.c_NoCommand A.c_NoRow A.c_NoWindow A.c_NoPlace 2 = A.c_NoWindow from rfl]
              refine ⟨true, T.m_NoWindow_RowError, fun _ ea nea => ?_, fun z => nomatch z⟩
              tb_start
              intro p1 n1
              have s01 : Same H2 (upd H2 p1 (.lst ([decide (2 = 0), decide (2 = 1)].map V.bl))) := same_new n1
              tb_start
              intro p2 n2
              have h12 : p1 ≠ p2 := by kcj_m
              tb_start
              intro p3 n3
              have h13 : p1 ≠ p3 := by kcj_m
              have h23 : p2 ≠ p3 := by kcj_m
              tb_start
              intro p4 n4
              have h34 : p3 ≠ p4 := by kcj_m
              tb_start
              exact ⟨.non, p3, false, _, _, _, rfl, fun H3 s3 => done' H3 (Same.trans (by kcj_in) s3), .inr ⟨by decide, rfl, lst_cast (by kct_strs) rfl⟩⟩
            · skip
              rw [show excK A.c_NoCommand A.c_NoRow A.c_NoWindow A.c_NoPlace 3 = A.c_NoPlace from rfl]
              refine ⟨true, T.m_NoPlace_RowError, fun _ ea nea => ?_, fun z => nomatch z⟩
              tb_start
              intro p1 n1
              have s01 : Same H2 (upd H2 p1 (.lst ([decide (3 = 0), decide (3 = 1)].map V.bl))) := same_new n1
              tb_start
              intro p2 n2
              have h12 : p1 ≠ p2 := by kcj_m
              tb_start
              intro p3 n3
              have h13 : p1 ≠ p3 := by kcj_m
              have h23 : p2 ≠ p3 := by kcj_m
              tb_start
              intro p4 n4
              have h34 : p3 ≠ p4 := by kcj_m
              tb_start
              exact ⟨.non, p3, false, _, _, _, rfl, fun H3 s3 => done' H3 (Same.trans (by kcj_in) s3), .inr ⟨by decide, rfl, lst_cast (by kct_strs) rfl⟩⟩
      · tb_start
        · intro _ H2 s2
          have ek2 := s2 _ _ ek
          have done' : ∀ H3, Same H2 H3 → Q (.bl true) H3 := fun H3 s3 => q H3 ((s1.trans s2).trans s3)
          refine ⟨true, T.m_NoCommand_RowError, fun _ ea nea => ?_, fun z => nomatch z⟩
          tb_start
          intro p1 n1
          tb_start
          intro p2 n2
          have h12 : p1 ≠ p2 := by kcj_m
          tb_start
          intro p3 n3
          have h13 : p1 ≠ p3 := by kcj_m
          have h23 : p2 ≠ p3 := by kcj_m
          tb_start
          intro p4 n4
          have h34 : p3 ≠ p4 := by kcj_m
          tb_start
          exact ⟨.non, p3, false, _, _, _, rfl, fun H3 s3 => done' H3 (Same.trans (by kcj_in) s3), .inr ⟨by decide, rfl, lst_cast (by kct_strs) rfl⟩⟩
        · intro cs e
          exact absurd e (hns _)
    · rintro σ H2 ⟨av, kd, ot, u6, u7, u8, rfl, fin, hh⟩
      rcases hh with ⟨rfl, ek, s, rfl⟩ | ⟨hk3, rfl, ek⟩
      · tb_start
        intro p5 n5
        have s5 : Same H2 (upd H2 p5 (.lst [])) := same_new n5
        have ek5 := s5 _ _ ek
        tb_start
        refine rEq_00 ek5 upd_same ?_
        refine ⟨true, rfl, ?_⟩
        tb_start
        exact fin _ s5
      · tb_start
        intro p5 n5
        have s5 : Same H2 (upd H2 p5 (.lst [])) := same_new n5
        have ek5 := s5 _ _ ek
        tb_start
        refine rEq_40 ek5 upd_same ?_
        refine ⟨false, rfl, ?_⟩
        tb_start
        intro p6 n6
        generalize hX : (upd (upd H2 p5 (.lst [])) p6 _) = H6
        have s6 : Same (upd H2 p5 (.lst [])) H6 := by rw [← hX]; exact same_new n6
        have e6 : H6 p6 = some (.lst ([Str.ofString "NoCommand", Str.ofString "NoRow", Str.ofString "NoWindow", Str.ofString "NoPlace"].map V.str)) := by rw [← hX]; exact upd_same
        have ek6 := s6 _ _ ek5
        have fin6 := fun H' s => fin H' ((s5.trans s6).trans s)
        clear hX n6 s6 ek5 s5 fin
        tb_start
        intro D nD
        refine lc_vals (xs := [Str.ofString "NoCommand", Str.ofString "NoRow", Str.ofString "NoWindow", Str.ofString "NoPlace"].map V.str) (fun x => V.bl (decide (x = V.str (nameK k)))) (by decide) (SqL.of e6) nD (fun _ => rfl) ?he ?hd
        case he =>
          intro x H' hx s' Q' q'
          obtain ⟨z, _, rfl⟩ := List.mem_map.mp hx
          tb_start
          exact q' _ (by kcj_in)
        case hd =>
          intro H' s' e'
          have hk4 : k = 0 ∨ k = 1 ∨ k = 2 ∨ k = 3 := by omega
          refine rEq_44 (s' _ _ ek6) (lst_cast e' ?_) (fin6 _ s')
          rcases hk4 with rfl | rfl | rfl | rfl <;> decide
end
end Ur
namespace Ur
open PySem L2
/-- how many numbers a shown row has -/
def sp__law_size (K : PySem.W.Frag) : Sp := fun vs H Q _ => ∃ (ns : List Int), vs = [.str (SX.S (showC ns))] ∧ ns.length ≤ 1000 ∧ (∀ n ∈ ns, n.natAbs < 10 ^ 30) ∧ ∀ H', Same H H' → Q (.int ns.length) H'
section
variable {P : Program} {w : World} {K : PySem.W.Frag} {mg : Str → Option Value} {base : Heap} {A : Adr}
theorem ok__law_size (T : Txt w K mg A) : FnOk P w K mg base CX0 1 A.f__law_size A.d__law_size ["shown"] (sp__law_size K) := by
  refine T.F__law_size.ok sc__law_size (fun vs H Q E h => ?_) (fun cdv Ar outer s H vs Q E hr h => ?_)
  · obtain ⟨ns, rfl, _⟩ := h
    rfl
  · obtain ⟨ns, rfl, hl, hb, q⟩ := h
    have hsl := showC_len30 hb
    have hz : (SX.S (showC ns)).length = (showC ns).length := SX.S_len _
    have sz2 : (SX.S (showC ns)).length + 2 ≤ sizeLine := Nat.le_of_lt (szl (by omega))
    refine ⟨_, (pss_one (ps_ret (pe_ifExp (pt_cmpR op_eq (pv 0) pe_str (nomark _)) pe_int (Ur.pe_b1 (Ur.call_lenIK (K := K) rfl) (by rfl) T.m_len (by decide +kernel) (pe_split (pv 0) pe_str))))), ?_⟩
    tb_start
    refine br (fun e => ?_) (fun e => ?_)
    · have z := show_dash hb ((S_eqP.mp e).trans dash_L)
      tb_start
      exact qint (q _ (Same.refl _)) (by rw [z]; rfl)
    · have z : ns ≠ [] := fun h => e (S_eqP.mpr (by rw [h, dash_L]; rfl))
      tb_start
      intro p np
      have hsp : Txt.split (SX.S (showC ns)) (Str.ofString " ") = (ns.map intC).map SX.S := by
        rw [show Str.ofString " " = SX.S [32] from by decide]
        exact split_show z
      rw [hsp]
      tb_start
      · exact qint (q _ (same_new np)) (by simp)
      · exact ⟨_, rfl⟩
end
end Ur
namespace Ur
open PySem L2
def T8 : List (List Nat) := [[114, 111, 119, 32, 51, 32, 49, 32, 51], [99, 104, 97, 110, 103, 101, 32, 48, 32, 55], [116, 97, 107, 101, 32, 57], [112, 117, 116, 32, 53, 32, 49], [99, 104, 97, 110, 103, 101, 32, 51, 32, 49], [117, 110, 100, 111, 32, 49], [114, 111, 119, 32, 120], [117, 110, 108, 105, 107, 101, 32, 51, 32, 49]]
theorem t8_S : [V.str (Str.ofString "row 3 1 3"), V.str (Str.ofString "change 0 7"), V.str (Str.ofString "take 9"), V.str (Str.ofString "put 5 1"), V.str (Str.ofString "change 3 1"), V.str (Str.ofString "undo 1"), V.str (Str.ofString "row x"), V.str (Str.ofString "unlike 3 1")] = T8.map (fun c => V.str (SX.S c)) := by
  unfold T8
  simp only [List.map_cons, List.map_nil]
  rw [show Str.ofString "row 3 1 3" = SX.S [114, 111, 119, 32, 51, 32, 49, 32, 51] from by decide]
  rw [show Str.ofString "change 0 7" = SX.S [99, 104, 97, 110, 103, 101, 32, 48, 32, 55] from by decide]
  rw [show Str.ofString "take 9" = SX.S [116, 97, 107, 101, 32, 57] from by decide]
  rw [show Str.ofString "put 5 1" = SX.S [112, 117, 116, 32, 53, 32, 49] from by decide]
  rw [show Str.ofString "change 3 1" = SX.S [99, 104, 97, 110, 103, 101, 32, 51, 32, 49] from by decide]
  rw [show Str.ofString "undo 1" = SX.S [117, 110, 100, 111, 32, 49] from by decide]
  rw [show Str.ofString "row x" = SX.S [114, 111, 119, 32, 120] from by decide]
  rw [show Str.ofString "unlike 3 1" = SX.S [117, 110, 108, 105, 107, 101, 32, 51, 32, 49] from by decide]
theorem t8_ok : ∀ c ∈ T8, c.length ≤ 19000 ∧ (rVal (c.drop 4)).length ≤ 10 := by decide +kernel
theorem t8_due : ∀ i, i < 8 → dueN (manyD ([], []) (T8.take i)).1.length (T8.getD i []) = dueN 3 (T8.getD i []) := by decide +kernel
theorem t8_end : manyD ([], []) (T8.take 8) = ([7, 1, 3], [[3, 1, 3]]) := by decide +kernel
theorem sayD_show {ns : List Int} {hs : List (List Int)} : sayD ns hs showW = .ok (showC ns) ns hs := by
  unfold sayD
  rw [if_neg (by decide), if_pos rfl]
theorem s713 : Str.ofString "7 1 3" = SX.S (showC [7, 1, 3]) := by decide +kernel
theorem s313 : Str.ofString "3 1 3" = SX.S (showC [3, 1, 3]) := by decide +kernel
theorem nx_nil : nextD [7, 1, 3] [[3, 1, 3]] [] = ([7, 1, 3], [[3, 1, 3]]) := by decide +kernel
theorem due_nil : dueN 3 [] = 0 := by decide +kernel
/-- texts and things are met as is due: True -/
def sp__law_things_right (K : PySem.W.Frag) (C CL CR : Addr) : Sp := fun vs H Q _ => vs = [] ∧ ∀ H', Q (.bl true) H'
section
variable {P : Program} {w : World} {K : PySem.W.Frag} {mg : Str → Option Value} {base : Heap} {A : Adr}
theorem ok__law_things_right (T : Txt w K mg A) : FnOk P w K mg base CX0 10 A.f__law_things_right A.d__law_things_right [] (sp__law_things_right K A.c_Desk A.c_Live A.c_Ready) := by
  have G_Desk___init__ := ok_Desk___init__ (P := P) (w := w) (base := base) T
  have G_Desk_say := ok_Desk_say (P := P) (w := w) (base := base) T
  have G__law_due := ok__law_due (P := P) (w := w) (base := base) T
  have G__law_met := ok__law_met (P := P) (w := w) (base := base) T
  refine T.F__law_things_right.ok sc__law_things_right (fun vs H Q E h => ?_) (fun cdv Ar outer s H vs Q E hr h => ?_)
  · obtain ⟨rfl, _⟩ := h
    rfl
  · have C_Desk := T.C_Desk
    have n_Desk_live := T.n_Desk_live
    obtain ⟨rfl, q⟩ := h
    refine ⟨_, (pss_cons (ps_set (i := 0) sc__law_things_right.nd rfl (Or.inl rfl) (pe_make0 T.M_Desk G_Desk___init__ (hr.mono (by decide)) (by rfl) T.g_Desk T.b_Desk___init__ .nil pass0))
    (pss_cons (ps_for PassesOwn.never (by rfl) (pi_list (pe_lst (pa_cons pe_str (pa_cons pe_str (pa_cons pe_str (pa_cons pe_str (pa_cons pe_str (pa_cons pe_str (pa_cons pe_str (pa_cons pe_str pa_nil)))))))))) (pg_name (i := 1) sc__law_things_right.nd rfl (Or.inl rfl)) (pss_one (ps_if (pt_not (pt_val (pe_call G__law_met (hr.mono (by decide)) (by rfl) T.g__law_met T.F__law_met.kp T.b__law_met .nil pass0 (pa_cons (pv 0) (pa_cons (pv 1) (pa_cons (pe_call G__law_due (hr.mono (by decide)) (by rfl) T.g__law_due T.F__law_due.kp T.b__law_due .nil pass0 (pa_cons (pv 1) (pa_cons pe_int pa_nil))) pa_nil)))))) (pss_one (ps_ret pe_bl)) pss_nil)))
    (pss_cons (ps_for PassesOwn.never (by rfl) (pi_list (pe_lst (pa_cons pe_non (pa_cons pe_bl (pa_cons pe_int (pa_cons (pe_lst (pa_cons pe_str pa_nil)) (pa_cons (pe_tup (pa_cons pe_str pa_nil)) (pa_cons pe_dnewK (pa_cons pe_str pa_nil))))))))) (pg_name (i := 2) sc__law_things_right.nd rfl (Or.inl rfl)) (pss_one (ps_if (PW.pt (pw_or (pt_not (pt_val (pe_call G__law_met (hr.mono (by decide)) (by rfl) T.g__law_met T.F__law_met.kp T.b__law_met .nil pass0 (pa_cons (pv 0) (pa_cons (pv 2) (pa_cons pe_str pa_nil)))))) (pw_or1 (pt_cmpR op_ne (pe_meth (pv 0) T.C_Desk T.M_Desk_say G_Desk_say (hr.mono (by decide)) T.b_Desk_say .nil passL (pa_cons pe_str pa_nil)) pe_str (nomark _))))) (pss_one (ps_ret pe_bl)) pss_nil)))
    (pss_one (ps_ret (pe_and (pe_cmpR op_eq (pe_meth (pv 0) T.C_Desk T.M_Desk_say G_Desk_say (hr.mono (by decide)) T.b_Desk_say .nil passL (pa_cons pe_str pa_nil)) pe_str (nomark _)) (pe_and (pe_cmpR op_eq (pe_meth (pv 0) T.C_Desk T.M_Desk_say G_Desk_say (hr.mono (by decide)) T.b_Desk_say .nil passL (pa_cons pe_str pa_nil)) pe_str (nomark _)) (pe_one (pe_cmpR op_eq (pe_meth (pv 0) T.C_Desk T.M_Desk_say G_Desk_say (hr.mono (by decide)) T.b_Desk_say .nil passL (pa_cons pe_str pa_nil)) pe_str (nomark _)))))))))), ?_⟩
    show ∀ o dx, H o = none → H dx = none → dx ≠ o → _
    intro o dx no ndo neo
    have eo : (upd (upd H dx (.own o)) o (.ins A.c_Desk dx [])) o = some (.ins A.c_Desk dx []) := upd_same
    have s0 : Same H (upd (upd H dx (.own o)) o (.ins A.c_Desk dx [])) := by kcj_in
    generalize hX : (upd (upd H dx (.own o)) o (.ins A.c_Desk dx [])) = H0 at *
    refine ⟨o, dx, rfl, eo, fun lo pc H1 d1 b1 nlo npc => ⟨rfl, ?_⟩⟩
    have s1 : Same H H1 := fun b v e => by
      have hbo : b ≠ o := fun z => by rw [z, no] at e; cases e
      exact b1 b v hbo (s0 b v e)
    generalize (fun b => H0 b ≠ none ∧ b ≠ o) = L at *
    clear hX eo s0 b1 nlo npc neo ndo no
    tb_start
    intro p np
    have hpo : p ≠ o := by
      obtain ⟨dx1, eo1⟩ := d1.obj
      kcj_m
    have hpl : p ≠ lo := by
      obtain ⟨cls, lv, bk⟩ := d1.liv
      obtain ⟨dxl, pnl, mvl, el⟩ := lv.ob
      kcj_m
    have hpc : p ≠ pc := by
      obtain ⟨cls, lv, bk⟩ := d1.liv
      obtain ⟨tsl, ec, _⟩ := lv.chs
      kcj_m
    generalize hX : (upd H1 p _) = H2
    have s2 : Same H1 H2 := by rw [← hX]; exact same_new np
    have e2 : H2 p = some (.lst (T8.map (fun c => V.str (SX.S c)))) := by rw [← hX, ← t8_S]; exact upd_same
    have d2 := d1.same s2
    replace s1 := s1.trans s2
    clear hX np d1 s2
    tb_start
    refine for_list (K := K) (a := p) (xs := T8.map (fun c => V.str (SX.S c))) (fun i σ H' => Iv (∃ u1 u2 lo1 pc1, σ = [some (.ref o), u1, u2] ∧ Dsk A.c_Desk A.c_Live A.c_Ready L o lo1 pc1 H' (manyD ([], []) (T8.take i)).1 (manyD ([], []) (T8.take i)).2 ∧ Sm (10 + i) i (manyD ([], []) (T8.take i)).1 (manyD ([], []) (T8.take i)).2 ∧ DFr o lo pc lo1 pc1 H2 H')) ?l0 ?ll ?ls ?ld
    case l0 => exact ⟨_, _, lo, pc, rfl, d2, ⟨by decide, fun r hr => (nomatch hr), by decide⟩, DFr.refl⟩
    case ll =>
      rintro i σ H' hi ⟨u1, u2, lo1, pc1, rfl, d3, sm3, f3⟩
      exact SqL.of (f3 _ _ hpo hpl hpc e2).1
    case ls =>
      rintro i x σ H3 hx ⟨u1, u2, lo1, pc1, rfl, d3, sm3, f3⟩
      obtain ⟨c, hc, rfl⟩ : ∃ c, T8[i]? = some c ∧ x = V.str (SX.S c) := by
        rw [List.getElem?_map] at hx
        cases q : T8[i]? with
        | none => rw [q] at hx; cases hx
        | some c => rw [q] at hx; exact ⟨c, rfl, (Option.some.inj hx).symm⟩
      have hi : i < 8 := by
        have := (List.getElem?_eq_some_iff.mp hc).1
        exact this
      obtain ⟨hcl, hcr⟩ := t8_ok c (List.mem_of_getElem? hc)
      have hdue : dueN (manyD ([], []) (T8.take i)).1.length c = dueN 3 c := by
        have := t8_due i hi
        rwa [List.getD_eq_getElem?_getD, hc] at this
      have hnx := manyD_take (s := ([], [])) hc
      have hsm := sm_next sm3 (cs := c) (by omega)
      rw [← hnx] at hsm
      have hl1 : (manyD ([], []) (T8.take i)).1.length + 1 ≤ 400 := by have := sm3.1; omega
      have hl2 : (manyD ([], []) (T8.take i)).2.length + 1 ≤ 10000 := by have := sm3.2.2; omega
      have n3 : (3 : Int) = ((3 : Nat) : Int) := rfl
      generalize hA : manyD ([], []) (T8.take i) = A0 at *
      obtain ⟨dx3, eo3⟩ := d3.obj
      rw [n3]
      have hdue2 := hdue.symm
      tb_start
      intro H4 s4
      replace d3 := d3.same s4
      replace f3 := f3.same s4
      replace eo3 := s4 _ _ eo3
      clear s4 d2
      tb_start
      intro lo2 pc2 ns2 hs2 H6 hm d6 f6
      obtain ⟨rfl, rfl⟩ := nextD_of hm
      rw [← hnx] at d6
      tb_start
      exact ⟨_, _, lo2, pc2, rfl, d6, hsm, f3.trans f6⟩
    case ld =>
      rintro σ H3 ⟨u1, u2, lo1, pc1, rfl, d3, sm3, f3⟩
      have d3 : Dsk A.c_Desk A.c_Live A.c_Ready L o lo1 pc1 H3 [7, 1, 3] [[3, 1, 3]] := by
        have := t8_end
        rw [show (T8.map (fun c => V.str (SX.S c))).length = 8 from rfl, this] at d3
        exact d3
      clear sm3 e2 hpo hpl hpc d2
      replace f3 := (DFr.fr (Fr.same s1)).trans f3
      tb_start
      intro q1 n1
      have g1o : q1 ≠ o := by
        obtain ⟨dx1, eo1⟩ := d3.obj
        kcj_m
      have g1l : q1 ≠ lo1 := by
        obtain ⟨cls, lv, bk⟩ := d3.liv
        obtain ⟨dxl, pnl, mvl, el⟩ := lv.ob
        kcj_m
      have g1c : q1 ≠ pc1 := by
        obtain ⟨cls, lv, bk⟩ := d3.liv
        obtain ⟨tsl, ec, _⟩ := lv.chs
        kcj_m
      generalize hX : (upd H3 q1 _) = H4
      have s4 : Same H3 H4 := by rw [← hX]; exact same_new n1
      have g1 : H4 q1 = some (.lst [.str (Str.ofString "show")]) := by rw [← hX]; exact upd_same
      clear hX n1
      replace d3 := d3.same s4
      replace s1 := f3.same s4
      clear s4 f3
      tb_start
      intro q2 n2
      have g2o : q2 ≠ o := by
        obtain ⟨dx1, eo1⟩ := d3.obj
        kcj_m
      have g2l : q2 ≠ lo1 := by
        obtain ⟨cls, lv, bk⟩ := d3.liv
        obtain ⟨dxl, pnl, mvl, el⟩ := lv.ob
        kcj_m
      have g2c : q2 ≠ pc1 := by
        obtain ⟨cls, lv, bk⟩ := d3.liv
        obtain ⟨tsl, ec, _⟩ := lv.chs
        kcj_m
      generalize hX : (upd H4 q2 _) = H5
      have s5 : Same H4 H5 := by rw [← hX]; exact same_new n2
      have g2 : H5 q2 = some (.tup [.str (Str.ofString "show")]) := by rw [← hX]; exact upd_same
      replace g1 := s5 _ _ g1
      clear hX n2
      replace d3 := d3.same s5
      replace s1 := s1.same s5
      clear s5
      show ∀ p, H5 p = none → _
      intro q3 n3
      have g3o : q3 ≠ o := by
        obtain ⟨dx1, eo1⟩ := d3.obj
        kcj_m
      have g3l : q3 ≠ lo1 := by
        obtain ⟨cls, lv, bk⟩ := d3.liv
        obtain ⟨dxl, pnl, mvl, el⟩ := lv.ob
        kcj_m
      have g3c : q3 ≠ pc1 := by
        obtain ⟨cls, lv, bk⟩ := d3.liv
        obtain ⟨tsl, ec, _⟩ := lv.chs
        kcj_m
      generalize hX : (upd H5 q3 (.dK [])) = H6
      have s6 : Same H5 H6 := by rw [← hX]; exact same_new n3
      have g3 : H6 q3 = some (.dK []) := by rw [← hX]; exact upd_same
      replace g1 := s6 _ _ g1
      replace g2 := s6 _ _ g2
      clear hX n3
      replace d3 := d3.same s6
      replace s1 := s1.same s6
      clear s6
      tb_start
      intro q4 n4
      have hpo : q4 ≠ o := by
        obtain ⟨dx1, eo1⟩ := d3.obj
        kcj_m
      have hpl : q4 ≠ lo1 := by
        obtain ⟨cls, lv, bk⟩ := d3.liv
        obtain ⟨dxl, pnl, mvl, el⟩ := lv.ob
        kcj_m
      have hpc : q4 ≠ pc1 := by
        obtain ⟨cls, lv, bk⟩ := d3.liv
        obtain ⟨tsl, ec, _⟩ := lv.chs
        kcj_m
      generalize hX : (upd H6 q4 _) = H7
      have s7 : Same H6 H7 := by rw [← hX]; exact same_new n4
      have g4 : H7 q4 = some (.lst [.non, .bl true, .int 0, .ref q1, .ref q2, .ref q3, .str (Str.ofString "")]) := by rw [← hX]; exact upd_same
      replace g1 := s7 _ _ g1
      replace g2 := s7 _ _ g2
      replace g3 := s7 _ _ g3
      clear hX n4
      replace d3 := d3.same s7
      replace s1 := s1.same s7
      clear s7
      tb_start
      refine for_list (K := K) (a := q4) (xs := [.non, .bl true, .int 0, .ref q1, .ref q2, .ref q3, .str (Str.ofString "")]) (fun i σ H' => Iv (∃ u1 u2, σ = [some (.ref o), u1, u2] ∧ ∃ lo2 pc2, Dsk A.c_Desk A.c_Live A.c_Ready L o lo2 pc2 H' [7, 1, 3] [[3, 1, 3]] ∧ DFr o lo1 pc1 lo2 pc2 H7 H')) ?m0 ?ml ?ms ?md
      case m0 => exact ⟨_, _, rfl, lo1, pc1, d3, DFr.refl⟩
      case ml =>
        rintro i σ H' hi ⟨u1, u2, rfl, lo2, pc2, d4, f4⟩
        exact SqL.of (f4 _ _ hpo hpl hpc g4).1
      case ms =>
        rintro i x σ H8 hx ⟨u1, u2, rfl, lo2, pc2, d4, f4⟩
        have hkx : Kind H8 x ∧ (x = .str (SX.S []) ∨ ∀ s, x ≠ .str s) := by
          have h := List.mem_of_getElem? hx
          simp only [List.mem_cons, List.not_mem_nil, or_false] at h
          rcases h with rfl | rfl | rfl | rfl | rfl | rfl | rfl
          · exact ⟨.non, .inr (fun s z => nomatch z)⟩
          · exact ⟨.bl, .inr (fun s z => nomatch z)⟩
          · exact ⟨.int, .inr (fun s z => nomatch z)⟩
          · exact ⟨.lst (f4 _ _ g1o g1l g1c g1).1, .inr (fun s z => nomatch z)⟩
          · exact ⟨.tup (f4 _ _ g2o g2l g2c g2).1, .inr (fun s z => nomatch z)⟩
          · exact ⟨.dct (f4 _ _ g3o g3l g3c g3).1, .inr (fun s z => nomatch z)⟩
          · exact ⟨.str, .inl (congrArg V.str (by decide))⟩
        obtain ⟨hkd, hx2⟩ := hkx
        have zl1 : ([7, 1, 3] : List Int).length + 1 ≤ 400 := by decide
        have zl2 : ([[3, 1, 3]] : List (List Int)).length + 1 ≤ 10000 := by decide
        obtain ⟨dx1, eo1⟩ := d4.obj
        clear g1 g2 g3 g4 hx
        rw [show Str.ofString "NoCommand" = nameK 0 from rfl]
        rcases hx2 with rfl | hns
        · tb_start
          intro lo3 pc3 ns2 hs2 H9 hm d9 f9
          obtain ⟨rfl, rfl⟩ := nextD_of (ns := [7, 1, 3]) (hs := [[3, 1, 3]]) (cs := []) (ns2 := ns2) (hs2 := hs2) hm
          rw [nx_nil] at d9
          obtain ⟨dx2, eo2⟩ := d9.obj
          clear eo1 d4
          tb_start
          · exact fun h => absurd rfl (h _)
          · intro cs e
            have z : cs = showW := (S_eqP.mp e.symm).trans show_L
            subst z
            refine ⟨by decide, by decide, ?_⟩
            rw [sayD_show]
            intro lo4 pc4 H10 d10 f10
            rw [← s713]
            tb_start
            exact ⟨_, _, rfl, lo4, pc4, d10, f4.trans (f9.trans f10)⟩
        · tb_start
          refine .inr ⟨hns, rfl, fun H9 s9 => ?_⟩
          have d9 := d4.same s9
          obtain ⟨dx2, eo2⟩ := d9.obj
          clear eo1 d4
          tb_start
          · exact fun h => absurd rfl (h _)
          · intro cs e
            have z : cs = showW := (S_eqP.mp e.symm).trans show_L
            subst z
            refine ⟨by decide, by decide, ?_⟩
            rw [sayD_show]
            intro lo4 pc4 H10 d10 f10
            rw [← s713]
            tb_start
            exact ⟨_, _, rfl, lo4, pc4, d10, (f4.same s9).trans f10⟩
      case md =>
        rintro σ H8 ⟨u1, u2, rfl, lo2, pc2, d4, f4⟩
        clear g1 g2 g3 g4 hpo hpl hpc d3
        obtain ⟨dx1, eo1⟩ := d4.obj
        have zl1 : ([7, 1, 3] : List Int).length + 1 ≤ 400 := by decide
        have zl2 : ([[3, 1, 3]] : List (List Int)).length + 1 ≤ 10000 := by decide
        have zl3 : ([3, 1, 3] : List Int).length + 1 ≤ 400 := by decide
        have zl4 : ([] : List (List Int)).length + 1 ≤ 10000 := by decide
        tb_start
        · exact fun h => absurd rfl (h _)
        · intro cs e
          have z : cs = undoC := (S_eqP.mp e.symm).trans undo_L
          subst z
          refine ⟨by decide, by decide, ?_⟩
          rw [show sayD [7, 1, 3] [[3, 1, 3]] undoC = .ok okC [3, 1, 3] [] from sayD_undo (hs := [])]
          intro lo3 pc3 H9 d9 f9
          rw [← ok_S]
          obtain ⟨dx2, eo2⟩ := d9.obj
          clear eo1 d4
          tb_start
          · exact fun h => absurd rfl (h _)
          · intro cs e
            have z : cs = showW := (S_eqP.mp e.symm).trans show_L
            subst z
            refine ⟨by decide, by decide, ?_⟩
            rw [sayD_show]
            intro lo4 pc4 H10 d10 f10
            rw [← s313]
            obtain ⟨dx3, eo3⟩ := d10.obj
            clear eo2 d9
            tb_start
            · exact fun h => absurd rfl (h _)
            · intro cs e
              have z : cs = undoC := (S_eqP.mp e.symm).trans undo_L
              subst z
              refine ⟨by decide, by decide, ?_⟩
              rw [sayD_undo0]
              intro lo5 pc5 H11 d11 f11
              rw [← none_S]
              tb_start
              exact qbv (q _) (decide_eq_true rfl)
end
end Ur
namespace Ur
open PySem L2
/-- as many changes are undone as were done -/
def sp__law_undone (K : PySem.W.Frag) (C CL CR : Addr) : Sp := fun vs H Q _ => ∃ (L : Addr → Prop) (o lo pc : Addr) (ns : List Int) (hs : List (List Int)), vs = [.ref o, .int hs.length] ∧ Dsk C CL CR L o lo pc H ns hs ∧ ns.length ≤ 300 ∧ (∀ r ∈ hs, r.length ≤ 300) ∧ hs.length ≤ 1000 ∧ ∀ lo2 pc2 ms H', Dsk C CL CR L o lo2 pc2 H' ms [] → DFr o lo pc lo2 pc2 H H' → Q (.bl true) H'
section
variable {P : Program} {w : World} {K : PySem.W.Frag} {mg : Str → Option Value} {base : Heap} {A : Adr}
theorem ok__law_undone (T : Txt w K mg A) : FnOk P w K mg base CX0 9 A.f__law_undone A.d__law_undone ["desk", "many"] (sp__law_undone K A.c_Desk A.c_Live A.c_Ready) := by
  have G_Desk_say := ok_Desk_say (P := P) (w := w) (base := base) T
  refine T.F__law_undone.ok sc__law_undone (fun vs H Q E h => ?_) (fun cdv Ar outer s H vs Q E hr h => ?_)
  · obtain ⟨L, o, lo, pc, ns, hs, rfl, _⟩ := h
    rfl
  · have C_Desk := T.C_Desk
    have n_Desk_live := T.n_Desk_live
    obtain ⟨L, o, lo, pc, ns, hs, rfl, d, hnl, hrl, hhl, q⟩ := h
    refine ⟨_, (pss_cons (ps_for PassesOwn.never (by rfl) (pi_range1 (by rfl) T.m_range (pa_cons (pv 1) pa_nil)) (pg_name (i := 2) sc__law_undone.nd rfl (Or.inl rfl)) (pss_one (ps_if (pt_cmpR op_ne (pe_meth (pv 0) T.C_Desk T.M_Desk_say G_Desk_say (hr.mono (by decide)) T.b_Desk_say .nil passL (pa_cons pe_str pa_nil)) pe_str (nomark _)) (pss_one (ps_ret pe_bl)) pss_nil)))
    (pss_one (ps_ret (pe_cmpR op_eq (pe_meth (pv 0) T.C_Desk T.M_Desk_say G_Desk_say (hr.mono (by decide)) T.b_Desk_say .nil passL (pa_cons pe_str pa_nil)) pe_str (nomark _))))), ?_⟩
    tb_start
    refine for_range (fun i σ H' => Iv (∃ (u2 : Option V) (ms : List Int) (lo1 pc1 : Addr), σ = [some (.ref o), some (.int hs.length), u2] ∧ Dsk A.c_Desk A.c_Live A.c_Ready L o lo1 pc1 H' ms (hs.take (hs.length - i)) ∧ ms.length ≤ 300 ∧ DFr o lo pc lo1 pc1 H H')) ?h0 ?hs ?hd
    case h0 => exact ⟨_, ns, lo, pc, rfl, by rw [Nat.sub_zero, List.take_length]; exact d, hnl, DFr.refl⟩
    case hs =>
      rintro i σ H1 hi ⟨u2, ms, lo1, pc1, rfl, d1, hml, f1⟩
      have hi2 : i < hs.length := by omega
      obtain ⟨m, hm⟩ : ∃ m, hs[hs.length - (i + 1)]? = some m := ⟨_, List.getElem?_eq_getElem (by omega)⟩
      have hmm : m ∈ hs := List.mem_of_getElem? hm
      have ht : hs.take (hs.length - i) = hs.take (hs.length - (i + 1)) ++ [m] := by
        rw [show hs.length - i = (hs.length - (i + 1)) + 1 by omega, List.take_add_one, hm]
        rfl
      rw [ht] at d1
      have htl : (hs.take (hs.length - (i + 1)) ++ [m]).length + 1 ≤ 10000 := by rw [List.length_append, List.length_take, List.length_singleton]; omega
      obtain ⟨dx1, eo1⟩ := d1.obj
      tb_start
      · exact fun h => absurd rfl (h _)
      · intro cs e
        have z : cs = undoC := (S_eqP.mp e.symm).trans undo_L
        subst z
        refine ⟨by decide, by decide, ?_⟩
        rw [sayD_undo]
        intro lo2 pc2 H2 d2 f2
        rw [← ok_S]
        tb_start
        exact ⟨_, m, lo2, pc2, rfl, d2, hrl m hmm, f1.trans f2⟩
    case hd =>
      rintro σ H1 ⟨u2, ms, lo1, pc1, rfl, d1, hml, f1⟩
      rw [Int.toNat_natCast, Nat.sub_self] at d1
      have htl : (hs.take 0).length + 1 ≤ 10000 := by rw [List.take_zero]; decide
      obtain ⟨dx1, eo1⟩ := d1.obj
      tb_start
      · exact fun h => absurd rfl (h _)
      · intro cs e
        have z : cs = undoC := (S_eqP.mp e.symm).trans undo_L
        subst z
        refine ⟨by decide, by decide, ?_⟩
        rw [show hs.take 0 = [] from rfl, sayD_undo0]
        intro lo2 pc2 H2 d2 f2
        rw [← none_S]
        tb_start
        exact qbv (q lo2 pc2 ms H2 d2 (f1.trans f2)) (decide_eq_true rfl)
end
end Ur
namespace Ur
open PySem L2
/-- a deck -/
def sp__law_deck (K : PySem.W.Frag) : Sp := fun vs H Q _ => ∃ (c k : Int), vs = [.int c, .int k] ∧ ∀ p (d f : Int) H', H' p = some (.lst ([d, f, k].map V.int)) → Same H H' → H p = none → Q (.ref p) H'
section
variable {P : Program} {w : World} {K : PySem.W.Frag} {mg : Str → Option Value} {base : Heap} {A : Adr}
theorem ok__law_deck (T : Txt w K mg A) : FnOk P w K mg base CX0 1 A.f__law_deck A.d__law_deck ["cell", "k"] (sp__law_deck K) := by
  refine T.F__law_deck.ok sc__law_deck (fun vs H Q E h => ?_) (fun cdv Ar outer s H vs Q E hr h => ?_)
  · obtain ⟨c, k, rfl, _⟩ := h
    rfl
  · obtain ⟨c, k, rfl, q⟩ := h
    refine ⟨_, (pss_cons (ps_if (pt_cmpR op_ge (pv 0) (pe_op op_pow pe_int pe_int) (nomark _)) (pss_one (ps_ret (pe_lst (pa_cons (pe_op op_sub (pv 0) (pe_op op_pow pe_int pe_int)) (pa_cons pe_int (pa_cons (pv 1) pa_nil)))))) pss_nil)
    (pss_one (ps_ret (pe_lst (pa_cons (pv 0) (pa_cons pe_int (pa_cons (pv 1) pa_nil))))))), ?_⟩
    tb_start
    refine br (fun _ => ?_) (fun _ => ?_)
    · tb_start
      intro p np
      exact q p _ _ _ upd_same (same_new np) np
    · tb_start
      intro p np
      exact q p _ _ _ upd_same (same_new np) np
end
end Ur
namespace Ur
open PySem L2
/-- the next draw of a deck, below many -/
def sp__law_take (K : PySem.W.Frag) : Sp := fun vs H Q _ => ∃ (a : Addr) (d f k m : Int), vs = [.ref a, .int m] ∧ H a = some (.lst ([d, f, k].map V.int)) ∧ 0 < m ∧ m ≤ 1000000 ∧ 0 ≤ k ∧ k ≤ 100000 ∧ ∀ (n d' k' : Int) H', 0 ≤ n → n < m → H' a = some (.lst ([d', f, k'].map V.int)) → 0 ≤ k' → k' ≤ k + 1 → But a H H' → Q (.int n) H'
section
variable {P : Program} {w : World} {K : PySem.W.Frag} {mg : Str → Option Value} {base : Heap} {A : Adr}
theorem ok__law_take (T : Txt w K mg A) : FnOk P w K mg base CX0 1 A.f__law_take A.d__law_take ["deck", "many"] (sp__law_take K) := by
  refine T.F__law_take.ok sc__law_take (fun vs H Q E h => ?_) (fun cdv Ar outer s H vs Q E hr h => ?_)
  · obtain ⟨a, d, f, k, m, rfl, _⟩ := h
    rfl
  · obtain ⟨a, d, f, k, m, rfl, ha, hm0, hm1, hk0, hk1, q⟩ := h
    have h3 : ([d, f, k] : List Int).length = 3 := rfl
    have a0 : atI (([d, f, k] : List Int).map V.int) 0 = some (.int d) := rfl
    have a1 : atI (([d, f, k] : List Int).map V.int) 1 = some (.int f) := rfl
    have a2 : atI (([d, f, k] : List Int).map V.int) 2 = some (.int k) := rfl
    refine ⟨_, (pss_cons (ps_if (pt_cmpR op_eq (pe_ix (Ur.ix_listK (K := K) rfl) (pv 0) pe_int (fun _ _ => rfl)) pe_int (nomark _)) (pss_cons (ps_set (i := 2) sc__law_take.nd rfl (Or.inl rfl) (pe_op op_mod (pe_ix (Ur.ix_listK (K := K) rfl) (pv 0) pe_int (fun _ _ => rfl)) (pv 1)))
    (pss_cons (ps_asg (pe_op op_fdiv (pe_ix (Ur.ix_listK (K := K) rfl) (pv 0) pe_int (fun _ _ => rfl)) (pv 1)) (pg_sub (pv 0) pe_int set_list))
    (pss_one (ps_ret (pv 2))))) pss_nil)
    (pss_cons (ps_asg (pe_op op_add (pe_ix (Ur.ix_listK (K := K) rfl) (pv 0) pe_int (fun _ _ => rfl)) pe_int) (pg_sub (pv 0) pe_int set_list))
    (pss_cons (ps_set (i := 3) sc__law_take.nd rfl (Or.inl rfl) (pe_op op_mul (pe_op op_mod (pe_ix (Ur.ix_listK (K := K) rfl) (pv 0) pe_int (fun _ _ => rfl)) pe_int) (pe_op op_add (pe_op op_mul (pe_ix (Ur.ix_listK (K := K) rfl) (pv 0) pe_int (fun _ _ => rfl)) (pe_ix (Ur.ix_listK (K := K) rfl) (pv 0) pe_int (fun _ _ => rfl))) pe_int)))
    (pss_cons (ps_set (i := 3) sc__law_take.nd rfl (Or.inl rfl) (pe_op op_mod (pe_op op_add (pe_op op_add (pv 3) (pe_ix (Ur.ix_listK (K := K) rfl) (pv 0) pe_int (fun _ _ => rfl))) pe_int) pe_int))
    (pss_cons (ps_set (i := 3) sc__law_take.nd rfl (Or.inl rfl) (pe_op op_mod (pe_op op_mul (pv 3) (pv 3)) pe_int))
    (pss_one (ps_ret (pe_op op_mod (pe_op op_fdiv (pe_op op_mod (pe_op op_mul (pv 3) pe_int) pe_int) pe_int) (pv 1))))))))), ?_⟩
    tb_start
    refine bri (fun h => ?_) (fun h => ?_)
    · tb_start
      exact q _ (d / m) k _ (Int.emod_nonneg _ (by omega)) (Int.emod_lt_of_pos _ hm0) upd_same hk0 (by omega) (but_at but_refl)
    · have b3 : ([d, f, k + 1] : List Int).length = 3 := rfl
      have b0 : atI (([d, f, k + 1] : List Int).map V.int) 0 = some (.int d) := rfl
      have b2 : atI (([d, f, k + 1] : List Int).map V.int) 2 = some (.int (k + 1)) := rfl
      have eb : (upd H a (.lst ((([d, f, k] : List Int).map V.int).set (2 : Int).toNat (.int (k + 1))))) a = some (.lst (([d, f, k + 1] : List Int).map V.int)) := upd_same
      tb_start
      exact q _ d (k + 1) _ (Int.emod_nonneg _ (by omega)) (Int.emod_lt_of_pos _ hm0) upd_same (by omega) (by omega) (but_at but_refl)
end
end Ur
namespace Ur
open PySem L2
/-- a figure's text -/
def sp__law_figure (K : PySem.W.Frag) : Sp := fun vs H Q _ => ∃ (a : Addr) (d f k : Int), vs = [.ref a] ∧ H a = some (.lst ([d, f, k].map V.int)) ∧ 0 ≤ k ∧ k ≤ 90000 ∧ ∀ (cs : List Nat) (d' k' : Int) H', GT 2500 20 cs → H' a = some (.lst ([d', f, k'].map V.int)) → 0 ≤ k' → k' ≤ k + 2 → But a H H' → Q (.str (SX.S cs)) H'
section
variable {P : Program} {w : World} {K : PySem.W.Frag} {mg : Str → Option Value} {base : Heap} {A : Adr}
theorem ok__law_figure (T : Txt w K mg A) : FnOk P w K mg base CX0 2 A.f__law_figure A.d__law_figure ["deck"] (sp__law_figure K) := by
  have G__law_take := ok__law_take (P := P) (w := w) (base := base) T
  refine T.F__law_figure.ok sc__law_figure (fun vs H Q E h => ?_) (fun cdv Ar outer s H vs Q E hr h => ?_)
  · obtain ⟨a, d, f, k, rfl, _⟩ := h
    rfl
  · obtain ⟨a, d, f, k, rfl, ha, h0, h1, q⟩ := h
    refine ⟨_, (pss_cons (ps_set (i := 1) sc__law_figure.nd rfl (Or.inl rfl) (pe_lst (pa_cons pe_str (pa_cons pe_str (pa_cons pe_str (pa_cons pe_str (pa_cons pe_str (pa_cons pe_str (pa_cons pe_str (pa_cons pe_str (pa_cons (pe_op Ur.op_rep_str pe_str pe_int) (pa_cons (pe_op Ur.op_rep_str pe_str pe_int) pa_nil))))))))))))
    (pss_cons (ps_set (i := 1) sc__law_figure.nd rfl (Or.inl rfl) (pe_op op_cat (pv 1) (pe_lst (pa_cons (pe_op op_add_str pe_str (pe_op Ur.op_rep_str pe_str pe_int)) (pa_cons pe_str (pa_cons pe_str (pa_cons pe_str pa_nil)))))))
    (pss_one (ps_ret (pe_ix (Ur.ix_listK (K := K) rfl) (pv 1) (pe_call G__law_take (hr.mono (by decide)) (by rfl) T.g__law_take T.F__law_take.kp T.b__law_take .nil pass0 (pa_cons (pv 0) (pa_cons (pe_ix (Ur.ix_listK (K := K) rfl) (pe_lst (pa_cons pe_int (pa_cons pe_int pa_nil))) (pe_call G__law_take (hr.mono (by decide)) (by rfl) T.g__law_take T.F__law_take.kp T.b__law_take .nil pass0 (pa_cons (pv 0) (pa_cons pe_int pa_nil))) (fun _ _ => rfl)) pa_nil))) (fun _ _ => rfl)))))), ?_⟩
    tb_start
    intro ra hra
    have gra : GX 2500 20 (.str (SX.S ra)) := ⟨ra, rfl, (GT.rep (n := 30) (c := 57) hra.1 hra.2 (by rw [Str.ofString_eq_toList]; rfl) (by decide) (by decide)).mono (by decide) (by decide)⟩
    tb_start
    intro rb hrb
    have grb : GX 2500 20 (.str (SX.S rb)) := ⟨rb, rfl, (GT.rep (n := 31) (c := 57) hrb.1 hrb.2 (by rw [Str.ofString_eq_toList]; rfl) (by decide) (by decide)).mono (by decide) (by decide)⟩
    tb_start
    intro p np
    have hap : a ≠ p := by kcj_m
    generalize hX : (upd H p _) = H1
    have s1 : Same H H1 := by rw [← hX]; exact same_new np
    obtain ⟨L1, e1, t1, l1⟩ : ∃ L : List V, H1 p = some (.lst L) ∧ (∀ x ∈ L, GX 2500 20 x) ∧ L.length = 10 := ⟨_, by rw [← hX]; exact upd_same, by repeat (first | exact GX.nil | refine GX.cons (by first | assumption | exact GX.of (by decide)) ?_), rfl⟩
    have ha1 := s1 _ _ ha
    have b1 : But a H H1 := but_step' s1 but_refl
    clear hX
    have d1 : (Str.ofString "-").length = 1 := by decide
    tb_start
    intro rc hrc
    have grc : GX 2500 20 (.str (SX.S rc)) := ⟨rc, rfl, (GT.rep (n := 30) (c := 56) hrc.1 hrc.2 (by rw [Str.ofString_eq_toList]; rfl) (by decide) (by decide)).mono (by decide) (by decide)⟩
    have hrc2 : (SX.S rc).length = 30 := hrc.1
    have gd : GX 2500 20 (.str (Str.ofString "-" ++ SX.S rc)) := ⟨[45] ++ rc, by rw [show Str.ofString "-" = SX.S [45] from by decide, cat_S], ((show GT 1 0 [45] by decide).app (GT.rep (n := 30) (c := 56) hrc.1 hrc.2 (by rw [Str.ofString_eq_toList]; rfl) (by decide) (by decide))).mono (by decide) (by decide)⟩
    have yrc : (Str.ofString "-").length + (SX.S rc).length ≤ sizeLine := Nat.le_of_lt (szl (by omega))
    tb_start
    intro p2 n2
    have hap2 : a ≠ p2 := by kcj_m
    have dp2 : p ≠ p2 := by kcj_m
    generalize hX : (upd H1 p2 _) = H2
    have s2 : Same H1 H2 := by rw [← hX]; exact same_new n2
    obtain ⟨L2, e2, t2, l2⟩ : ∃ L : List V, H2 p2 = some (.lst L) ∧ (∀ x ∈ L, GX 2500 20 x) ∧ L.length = 4 := ⟨_, by rw [← hX]; exact upd_same, by repeat (first | exact GX.nil | refine GX.cons (by first | assumption | exact GX.of (by decide)) ?_), rfl⟩
    have e12 := s2 _ _ e1
    have ha2 := s2 _ _ ha1
    have b2 : But a H H2 := but_step' s2 b1
    clear hX n2
    tb_start
    intro p3 n3
    have hap3 : a ≠ p3 := by kcj_m
    generalize hX : (upd H2 p3 _) = H3
    have s3 : Same H2 H3 := by rw [← hX]; exact same_new n3
    obtain ⟨L3, e3, t3, l3⟩ : ∃ L : List V, H3 p3 = some (.lst L) ∧ (∀ x ∈ L, GX 2500 20 x) ∧ L.length = 14 := ⟨_, by rw [← hX]; exact upd_same, GX.cat t1 t2, by rw [List.length_append, l1, l2]⟩
    have ha3 := s3 _ _ ha2
    have b3 : But a H H3 := but_step' s3 b2
    clear hX n3 e12 e2 s2 s3 s1
    tb_start
    intro p5 n5
    have hap5 : a ≠ p5 := by kcj_m
    generalize hX : (upd H3 p5 _) = H5
    have s5 : Same H3 H5 := by rw [← hX]; exact same_new n5
    have e5 : H5 p5 = some (.lst [.int 3, .int 14]) := by rw [← hX]; exact upd_same
    have e25 := s5 _ _ e3
    have ha5 := s5 _ _ ha3
    have b5 : But a H H5 := but_step' s5 b3
    clear hX n5
    tb_start
    intro j d1 k1 H6 hj0 hj1 ha6 hk1 hk2 b6
    have e56 := b6 _ _ (Ne.symm hap5) e5
    have e26 := b6 _ _ (Ne.symm hap3) e25
    obtain ⟨z, hz, hz0, hz1⟩ : ∃ z : Int, atI [V.int 3, V.int 14] j = some (.int z) ∧ 0 < z ∧ z ≤ 14 := by
      have : j = 0 ∨ j = 1 := by omega
      rcases this with rfl | rfl
      · exact ⟨3, rfl, by decide, by decide⟩
      · exact ⟨14, rfl, by decide, by decide⟩
    tb_start
    intro m d2 k2 H7 hm0 hm1 ha7 hk3 hk4 b7
    obtain ⟨cs, hcs, hgt⟩ := GX.at t3 hm0 (by rw [l3]; omega)
    have e27 := b7 _ _ (Ne.symm hap3) e26
    tb_start
    exact q cs d2 k2 _ hgt ha7 hk3 (by omega) (but_step b7 (but_step b6 b5))
end
end Ur
namespace Ur
open PySem L2
/-- a place's text -/
def sp__law_place (K : PySem.W.Frag) : Sp := fun vs H Q _ => ∃ (a : Addr) (d f k : Int), vs = [.ref a] ∧ H a = some (.lst ([d, f, k].map V.int)) ∧ 0 ≤ k ∧ k ≤ 90000 ∧ ∀ (cs : List Nat) (d' k' : Int) H', GT 2500 20 cs → H' a = some (.lst ([d', f, k'].map V.int)) → 0 ≤ k' → k' ≤ k + 2 → But a H H' → Q (.str (SX.S cs)) H'
section
variable {P : Program} {w : World} {K : PySem.W.Frag} {mg : Str → Option Value} {base : Heap} {A : Adr}
theorem ok__law_place (T : Txt w K mg A) : FnOk P w K mg base CX0 2 A.f__law_place A.d__law_place ["deck"] (sp__law_place K) := by
  have G__law_take := ok__law_take (P := P) (w := w) (base := base) T
  refine T.F__law_place.ok sc__law_place (fun vs H Q E h => ?_) (fun cdv Ar outer s H vs Q E hr h => ?_)
  · obtain ⟨a, d, f, k, rfl, _⟩ := h
    rfl
  · obtain ⟨a, d, f, k, rfl, ha, h0, h1, q⟩ := h
    refine ⟨_, (pss_cons (ps_set (i := 1) sc__law_place.nd rfl (Or.inl rfl) (pe_lst (pa_cons pe_str (pa_cons pe_str (pa_cons pe_str (pa_cons pe_str (pa_cons pe_str (pa_cons pe_str (pa_cons pe_str (pa_cons pe_str (pa_cons pe_str (pa_cons pe_str (pa_cons pe_str (pa_cons pe_str (pa_cons pe_str (pa_cons pe_str (pa_cons pe_str (pa_cons pe_str pa_nil))))))))))))))))))
    (pss_cons (ps_expr (pe_bm PySem.F.plainAttrs_list PySem.F.slot_list_append PySem.F.type_list_append mt_append (pv 1) (pa_cons (pe_op Ur.op_rep_str pe_str pe_int) pa_nil)))
    (pss_one (ps_ret (pe_ix (Ur.ix_listK (K := K) rfl) (pv 1) (pe_call G__law_take (hr.mono (by decide)) (by rfl) T.g__law_take T.F__law_take.kp T.b__law_take .nil pass0 (pa_cons (pv 0) (pa_cons (pe_ix (Ur.ix_listK (K := K) rfl) (pe_lst (pa_cons pe_int (pa_cons pe_int pa_nil))) (pe_call G__law_take (hr.mono (by decide)) (by rfl) T.g__law_take T.F__law_take.kp T.b__law_take .nil pass0 (pa_cons (pv 0) (pa_cons pe_int pa_nil))) (fun _ _ => rfl)) pa_nil))) (fun _ _ => rfl)))))), ?_⟩
    tb_start
    intro p np
    have hap : a ≠ p := by kcj_m
    generalize hX : (upd H p _) = H1
    have s1 : Same H H1 := by rw [← hX]; exact same_new np
    obtain ⟨L1, e1, t1, l1⟩ : ∃ L : List V, H1 p = some (.lst L) ∧ (∀ x ∈ L, GX 2500 20 x) ∧ L.length = 16 := ⟨_, by rw [← hX]; exact upd_same, by repeat (first | exact GX.nil | refine GX.cons (by first | assumption | exact GX.of (by decide)) ?_), rfl⟩
    have ha1 := s1 _ _ ha
    have b1 : But a H H1 := but_step' s1 but_refl
    clear hX
    tb_start
    intro r1 hr1
    have g1 : GX 2500 20 (.str (SX.S r1)) := ⟨r1, rfl, (GT.rep (n := 2000) (c := 55) hr1.1 hr1.2 (by rw [Str.ofString_eq_toList]; rfl) (by decide) (by decide)).mono (by decide) (by decide)⟩
    have hll : L1.length < sizeLine := szl (by omega)
    tb_start
    generalize hX : (upd H1 p _) = H2
    have e2 : H2 p = some (.lst (L1 ++ [.str (SX.S r1)])) := by rw [← hX]; exact upd_same
    have ha2 : H2 a = some (.lst ([d, f, k].map V.int)) := by rw [← hX]; exact (upd_ne hap).trans ha1
    have b2 : But a H H2 := fun b v hb e => by
      have hbp : b ≠ p := fun z => by rw [z, np] at e; cases e
      rw [← hX]; exact (upd_ne hbp).trans (b1 b v hb e)
    have t2 : ∀ x ∈ L1 ++ [V.str (SX.S r1)], GX 2500 20 x := GX.cat t1 (GX.cons g1 GX.nil)
    have l2 : (L1 ++ [V.str (SX.S r1)]).length = 17 := by rw [List.length_append, l1]; rfl
    generalize L1 ++ [V.str (SX.S r1)] = L2 at *
    clear hX e1 ha1
    intro p5 n5
    have hap5 : a ≠ p5 := by kcj_m
    have dp5 : p ≠ p5 := by kcj_m
    generalize hX : (upd H2 p5 _) = H5
    have s5 : Same H2 H5 := by rw [← hX]; exact same_new n5
    have e5 : H5 p5 = some (.lst [.int 7, .int 17]) := by rw [← hX]; exact upd_same
    have e25 := s5 _ _ e2
    have ha5 := s5 _ _ ha2
    have b5 : But a H H5 := but_step' s5 b2
    clear hX n5
    tb_start
    intro j d1 k1 H6 hj0 hj1 ha6 hk1 hk2 b6
    have e56 := b6 _ _ (Ne.symm hap5) e5
    have e26 := b6 _ _ (Ne.symm hap) e25
    obtain ⟨z, hz, hz0, hz1⟩ : ∃ z : Int, atI [V.int 7, V.int 17] j = some (.int z) ∧ 0 < z ∧ z ≤ 17 := by
      have : j = 0 ∨ j = 1 := by omega
      rcases this with rfl | rfl
      · exact ⟨7, rfl, by decide, by decide⟩
      · exact ⟨17, rfl, by decide, by decide⟩
    tb_start
    intro m d2 k2 H7 hm0 hm1 ha7 hk3 hk4 b7
    obtain ⟨cs, hcs, hgt⟩ := GX.at t2 hm0 (by rw [l2]; omega)
    have e27 := b7 _ _ (Ne.symm hap) e26
    tb_start
    exact q cs d2 k2 _ hgt ha7 hk3 (by omega) (but_step b7 (but_step b6 b5))
end
end Ur
namespace Ur
open PySem L2
/-- a row's text -/
def sp__law_text (K : PySem.W.Frag) : Sp := fun vs H Q _ => ∃ (a : Addr) (d f k : Int), vs = [.ref a] ∧ H a = some (.lst ([d, f, k].map V.int)) ∧ 0 ≤ k ∧ k ≤ 90000 ∧ ∀ (cs : List Nat) (d' k' : Int) H', GT 2500 20 cs → H' a = some (.lst ([d', f, k'].map V.int)) → 0 ≤ k' → k' ≤ k + 2 → But a H H' → Q (.str (SX.S cs)) H'
section
variable {P : Program} {w : World} {K : PySem.W.Frag} {mg : Str → Option Value} {base : Heap} {A : Adr}
theorem ok__law_text (T : Txt w K mg A) : FnOk P w K mg base CX0 2 A.f__law_text A.d__law_text ["deck"] (sp__law_text K) := by
  have G__law_take := ok__law_take (P := P) (w := w) (base := base) T
  refine T.F__law_text.ok sc__law_text (fun vs H Q E h => ?_) (fun cdv Ar outer s H vs Q E hr h => ?_)
  · obtain ⟨a, d, f, k, rfl, _⟩ := h
    rfl
  · obtain ⟨a, d, f, k, rfl, ha, h0, h1, q⟩ := h
    refine ⟨_, (pss_cons (ps_set (i := 1) sc__law_text.nd rfl (Or.inl rfl) (pe_lst (pa_cons pe_str (pa_cons pe_str (pa_cons pe_str (pa_cons pe_str (pa_cons pe_str (pa_cons pe_str (pa_cons pe_str (pa_cons pe_str (pa_cons pe_str (pa_cons pe_str (pa_cons pe_str (pa_cons (pe_op Ur.op_rep_str pe_str pe_int) pa_nil))))))))))))))
    (pss_cons (ps_set (i := 1) sc__law_text.nd rfl (Or.inl rfl) (pe_op op_cat (pv 1) (pe_lst (pa_cons pe_str (pa_cons pe_str (pa_cons pe_str (pa_cons pe_str (pa_cons pe_str (pa_cons pe_str pa_nil)))))))))
    (pss_one (ps_ret (pe_ix (Ur.ix_listK (K := K) rfl) (pv 1) (pe_call G__law_take (hr.mono (by decide)) (by rfl) T.g__law_take T.F__law_take.kp T.b__law_take .nil pass0 (pa_cons (pv 0) (pa_cons (Ur.pe_b1 (Ur.call_lenIK (K := K) rfl) (by rfl) T.m_len (by decide +kernel) (pv 1)) pa_nil))) (fun _ _ => rfl)))))), ?_⟩
    tb_start
    intro r0 hr0
    have g0 : GX 2500 20 (.str (SX.S r0)) := ⟨r0, rfl, (GT.rep (n := 31) (c := 57) hr0.1 hr0.2 (by rw [Str.ofString_eq_toList]; rfl) (by decide) (by decide)).mono (by decide) (by decide)⟩
    tb_start
    intro p np
    have hap : a ≠ p := by kcj_m
    generalize hX : (upd H p _) = H1
    have s1 : Same H H1 := by rw [← hX]; exact same_new np
    obtain ⟨L1, e1, t1, l1⟩ : ∃ L : List V, H1 p = some (.lst L) ∧ (∀ x ∈ L, GX 2500 20 x) ∧ L.length = 12 := ⟨_, by rw [← hX]; exact upd_same, by repeat (first | exact GX.nil | refine GX.cons (by first | assumption | exact GX.of (by decide)) ?_), rfl⟩
    have ha1 := s1 _ _ ha
    have b1 : But a H H1 := but_step' s1 but_refl
    clear hX
    tb_start
    intro p2 n2
    have hap2 : a ≠ p2 := by kcj_m
    have dp2 : p ≠ p2 := by kcj_m
    generalize hX : (upd H1 p2 _) = H2
    have s2 : Same H1 H2 := by rw [← hX]; exact same_new n2
    obtain ⟨L2, e2, t2, l2⟩ : ∃ L : List V, H2 p2 = some (.lst L) ∧ (∀ x ∈ L, GX 2500 20 x) ∧ L.length = 6 := ⟨_, by rw [← hX]; exact upd_same, by repeat (first | exact GX.nil | refine GX.cons (by first | assumption | exact GX.of (by decide)) ?_), rfl⟩
    have e12 := s2 _ _ e1
    have ha2 := s2 _ _ ha1
    have b2 : But a H H2 := but_step' s2 b1
    clear hX n2
    tb_start
    intro p3 n3
    have hap3 : a ≠ p3 := by kcj_m
    generalize hX : (upd H2 p3 _) = H3
    have s3 : Same H2 H3 := by rw [← hX]; exact same_new n3
    obtain ⟨L3, e3, t3, l3⟩ : ∃ L : List V, H3 p3 = some (.lst L) ∧ (∀ x ∈ L, GX 2500 20 x) ∧ L.length = 18 := ⟨_, by rw [← hX]; exact upd_same, GX.cat t1 t2, by rw [List.length_append, l1, l2]⟩
    have ha3 := s3 _ _ ha2
    have b3 : But a H H3 := but_step' s3 b2
    clear hX n3 e12 e2 s2 s3 s1
    tb_start
    intro m d2 k2 H7 hm0 hm1 ha7 hk3 hk4 b7
    obtain ⟨cs, hcs, hgt⟩ := GX.at t3 hm0 hm1
    have e37 := b7 _ _ (Ne.symm hap3) e3
    tb_start
    exact q cs d2 k2 _ hgt ha7 hk3 (by omega) (but_step b7 b3)
end
end Ur
namespace Ur
open PySem L2
theorem GX.catS {m b m' b' : Nat} {x y : Str} (h : GX m b (.str x)) (k : GX m' b' (.str y)) : GX (m + m') (b + b') (.str (x ++ y)) := by
  obtain ⟨cs, e, hg⟩ := h
  obtain ⟨ds, e2, kg⟩ := k
  cases e
  cases e2
  exact ⟨cs ++ ds, by rw [cat_S], hg.app kg⟩
theorem GX.len {m b : Nat} {x : Str} (h : GX m b (.str x)) : x.length ≤ m := by
  obtain ⟨cs, e, hg⟩ := h
  cases e
  rw [SX.S_len]
  exact hg.1
theorem GX.mono {m b m' b' : Nat} {x : V} (h : GX m b x) (h1 : m ≤ m') (h2 : b ≤ b') : GX m' b' x := by
  obtain ⟨cs, e, hg⟩ := h
  exact ⟨cs, e, hg.mono h1 h2⟩
theorem but_tr {a : Addr} {H H1 H2 : Hp} (x : But a H H1) (y : But a H1 H2) : But a H H2 := but_step y x
theorem GX.g {m b : Nat} {cs : List Nat} (h : GT m b cs) : GX m b (.str (SX.S cs)) := ⟨cs, rfl, h⟩
theorem GX.to {m b : Nat} {x : Str} {i : Int} (h : GX m b (.str x)) (hi : 0 ≤ i) : GX m b (.str (cutS x none (some i))) := by
  obtain ⟨cs, e, hg⟩ := h
  cases e
  rw [cutS_to _ hi]
  exact ⟨_, rfl, hg.take _⟩
theorem GX.fro {m b : Nat} {x : Str} {i : Int} (h : GX m b (.str x)) (hi : 0 ≤ i) : GX m b (.str (cutS x (some i) none)) := by
  obtain ⟨cs, e, hg⟩ := h
  cases e
  rw [cutS_from _ hi]
  exact ⟨_, rfl, hg.drop _⟩
theorem up1_le (c : Nat) : PyProof.Rows.up1 c ≤ c := by
  unfold PyProof.Rows.up1
  split <;> omega
theorem GX.up {m b : Nat} {x : Str} (h : GX m b (.str x)) : GX m b (.str (Txt.upper x)) := by
  obtain ⟨cs, e, hg⟩ := h
  cases e
  rw [SX.upper_S (List.all_eq_true.mpr fun c hc => decide_eq_true (hg.2.1 c hc))]
  refine ⟨_, rfl, by rw [List.length_map]; exact hg.1, fun c hc => ?_, by rw [count_up]; exact hg.2.2⟩
  obtain ⟨x, hx, rfl⟩ := List.mem_map.mp hc
  exact Nat.lt_of_le_of_lt (up1_le x) (hg.2.1 x hx)
theorem GX.out {m b : Nat} {x : V} {H : Hp} {Q : VK} (h : GX m b x) (q : ∀ (ds : List Nat), GT m b ds → Q (.str (SX.S ds)) H) : Q x H := by
  obtain ⟨cs, e, hg⟩ := h
  rw [e]
  exact q cs hg
theorem atI_GX {m b : Nat} {xs : List V} (h : ∀ x ∈ xs, GX m b x) {n : Int} (h0 : 0 ≤ n) (h1 : n < xs.length) : ∃ z : Str, atI xs n = some (.str z) ∧ GX m b (.str z) := by
  obtain ⟨cs, e, hg⟩ := GX.at h h0 h1
  exact ⟨_, e, cs, rfl, hg⟩
/-- a row of words -/
def sp__law_words (K : PySem.W.Frag) : Sp := fun vs H Q _ => ∃ (c : Int), vs = [.int c] ∧ ∀ (cs : List Nat) H', GT 14000 130 cs → Same H H' → Q (.str (SX.S cs)) H'
section
variable {P : Program} {w : World} {K : PySem.W.Frag} {mg : Str → Option Value} {base : Heap} {A : Adr}
theorem ok__law_words (T : Txt w K mg A) : FnOk P w K mg base CX0 3 A.f__law_words A.d__law_words ["cell"] (sp__law_words K) := by
  have G__law_deck := ok__law_deck (P := P) (w := w) (base := base) T
  have G__law_figure := ok__law_figure (P := P) (w := w) (base := base) T
  have G__law_place := ok__law_place (P := P) (w := w) (base := base) T
  have G__law_take := ok__law_take (P := P) (w := w) (base := base) T
  have G__law_text := ok__law_text (P := P) (w := w) (base := base) T
  refine T.F__law_words.ok sc__law_words (fun vs H Q E h => ?_) (fun cdv Ar outer s H vs Q E hr h => ?_)
  · obtain ⟨c, rfl, _⟩ := h
    rfl
  · obtain ⟨c, rfl, q⟩ := h
    refine ⟨_, (pss_cons (ps_set (i := 1) sc__law_words.nd rfl (Or.inl rfl) (pe_call G__law_deck (hr.mono (by decide)) (by rfl) T.g__law_deck T.F__law_deck.kp T.b__law_deck .nil pass0 (pa_cons (pv 0) (pa_cons pe_int pa_nil))))
    (pss_cons (ps_set (i := 2) sc__law_words.nd rfl (Or.inl rfl) (pe_call G__law_take (hr.mono (by decide)) (by rfl) T.g__law_take T.F__law_take.kp T.b__law_take .nil pass0 (pa_cons (pv 1) (pa_cons pe_int pa_nil))))
    (Evl.pss_cut (ps_if (pt_cmpR op_eq (pv 2) pe_int (nomark _)) (pss_one (ps_set (i := 3) sc__law_words.nd rfl (Or.inl rfl) (pe_op op_add_str pe_str (pe_call G__law_text (hr.mono (by decide)) (by rfl) T.g__law_text T.F__law_text.kp T.b__law_text .nil pass0 (pa_cons (pv 1) pa_nil))))) (pss_one (ps_if (pt_cmpR op_lt (pv 2) pe_int (nomark _)) (pss_one (ps_set (i := 3) sc__law_words.nd rfl (Or.inl rfl) (pe_op op_add_str (pe_op op_add_str (pe_op op_add_str (pe_ix (Ur.ix_listK (K := K) rfl) (pe_lst (pa_cons pe_str (pa_cons pe_str pa_nil))) (pe_op op_sub (pv 2) pe_int) (fun _ _ => rfl)) (pe_call G__law_place (hr.mono (by decide)) (by rfl) T.g__law_place T.F__law_place.kp T.b__law_place .nil pass0 (pa_cons (pv 1) pa_nil))) pe_str) (pe_call G__law_place (hr.mono (by decide)) (by rfl) T.g__law_place T.F__law_place.kp T.b__law_place .nil pass0 (pa_cons (pv 1) pa_nil))))) (pss_one (ps_if (pt_cmpR op_lt (pv 2) pe_int (nomark _)) (pss_one (ps_set (i := 3) sc__law_words.nd rfl (Or.inl rfl) (pe_op op_add_str (pe_op op_add_str (pe_op op_add_str (pe_ix (Ur.ix_listK (K := K) rfl) (pe_lst (pa_cons pe_str (pa_cons pe_str pa_nil))) (pe_op op_sub (pv 2) pe_int) (fun _ _ => rfl)) (pe_call G__law_place (hr.mono (by decide)) (by rfl) T.g__law_place T.F__law_place.kp T.b__law_place .nil pass0 (pa_cons (pv 1) pa_nil))) pe_str) (pe_call G__law_figure (hr.mono (by decide)) (by rfl) T.g__law_figure T.F__law_figure.kp T.b__law_figure .nil pass0 (pa_cons (pv 1) pa_nil))))) (pss_one (ps_if (pt_cmpR op_lt (pv 2) pe_int (nomark _)) (pss_cons (ps_set (i := 4) sc__law_words.nd rfl (Or.inl rfl) (pe_lst (pa_cons pe_str (pa_cons pe_str (pa_cons pe_str (pa_cons pe_str (pa_cons pe_str pa_nil)))))))
    (pss_one (ps_set (i := 3) sc__law_words.nd rfl (Or.inl rfl) (pe_op op_add_str (pe_ix (Ur.ix_listK (K := K) rfl) (pv 4) (pe_op op_sub (pv 2) pe_int) (fun _ _ => rfl)) (pe_call G__law_place (hr.mono (by decide)) (by rfl) T.g__law_place T.F__law_place.kp T.b__law_place .nil pass0 (pa_cons (pv 1) pa_nil)))))) (pss_cons (ps_set (i := 5) sc__law_words.nd rfl (Or.inl rfl) (pe_lst (pa_cons pe_str (pa_cons pe_str (pa_cons pe_str (pa_cons pe_str (pa_cons pe_str (pa_cons pe_str (pa_cons pe_str (pa_cons pe_str (pa_cons pe_str (pa_cons pe_str pa_nil))))))))))))
    (pss_cons (ps_set (i := 5) sc__law_words.nd rfl (Or.inl rfl) (pe_op op_cat (pv 5) (pe_lst (pa_cons pe_str (pa_cons pe_str (pa_cons pe_str (pa_cons pe_str (pa_cons pe_str (pa_cons pe_str (pa_cons pe_str pa_nil))))))))))
    (pss_cons (ps_set (i := 5) sc__law_words.nd rfl (Or.inl rfl) (pe_op op_cat (pv 5) (pe_lst (pa_cons pe_str (pa_cons pe_str (pa_cons pe_str (pa_cons pe_str pa_nil)))))))
    (pss_one (ps_set (i := 3) sc__law_words.nd rfl (Or.inl rfl) (pe_ix (Ur.ix_listK (K := K) rfl) (pv 5) (pe_call G__law_take (hr.mono (by decide)) (by rfl) T.g__law_take T.F__law_take.kp T.b__law_take .nil pass0 (pa_cons (pv 1) (pa_cons (Ur.pe_b1 (Ur.call_lenIK (K := K) rfl) (by rfl) T.m_len (by decide +kernel) (pv 5)) pa_nil))) (fun _ _ => rfl))))))))))))))
    (pss_cons (ps_if (pt_cmpR op_eq (pe_call G__law_take (hr.mono (by decide)) (by rfl) T.g__law_take T.F__law_take.kp T.b__law_take .nil pass0 (pa_cons (pv 1) (pa_cons pe_int pa_nil))) pe_int (nomark _)) (pss_cons (ps_set (i := 6) sc__law_words.nd rfl (Or.inl rfl) (pe_call G__law_take (hr.mono (by decide)) (by rfl) T.g__law_take T.F__law_take.kp T.b__law_take .nil pass0 (pa_cons (pv 1) (pa_cons (pe_op op_add (Ur.pe_b1 call_len_str (by rfl) T.m_len (by decide +kernel) (pv 3)) pe_int) pa_nil))))
    (pss_cons (ps_set (i := 7) sc__law_words.nd rfl (Or.inl rfl) (pe_ix ix_str pe_str (pe_call G__law_take (hr.mono (by decide)) (by rfl) T.g__law_take T.F__law_take.kp T.b__law_take .nil pass0 (pa_cons (pv 1) (pa_cons pe_int pa_nil))) (fun _ _ => rfl)))
    (pss_cons (ps_set (i := 2) sc__law_words.nd rfl (Or.inl rfl) (pe_call G__law_take (hr.mono (by decide)) (by rfl) T.g__law_take T.F__law_take.kp T.b__law_take .nil pass0 (pa_cons (pv 1) (pa_cons pe_int pa_nil))))
    (pss_cons (ps_if (pt_cmpR op_eq (pv 2) pe_int (nomark _)) (pss_one (ps_ret (pe_op op_add_str (pe_slice sl_str (pv 3) po_none (po_some (pv 6))) (pe_slice sl_str (pv 3) (po_some (pe_op op_add (pv 6) pe_int)) po_none)))) pss_nil)
    (pss_one (ps_set (i := 3) sc__law_words.nd rfl (Or.inl rfl) (pe_ix (Ur.ix_listK (K := K) rfl) (pe_lst (pa_cons (pe_op op_add_str (pe_op op_add_str (pe_slice sl_str (pv 3) po_none (po_some (pv 6))) (pv 7)) (pe_slice sl_str (pv 3) (po_some (pv 6)) po_none)) (pa_cons (pe_upper (pv 3)) pa_nil))) (pe_op op_sub (pv 2) pe_int) (fun _ _ => rfl)))))))) pss_nil)
    (pss_one (ps_ret (pv 3))))))), ?_⟩
    tb_start
    intro a d f H1 e1 s1 n1
    tb_start
    intro w d2 k2 H2 hw0 hw1 ha2 hk1 hk2 b2
    clear e1
    tb_start
    refine ⟨fun σ H' => Iv (∃ (z : Str) (d' k' w' : Int) (u4 u5 u6 u7 : Option V), σ = [some (.int c), some (.ref a), some (.int w'), some (.str z), u4, u5, u6, u7] ∧ GX 6000 60 (.str z) ∧ H' a = some (.lst ([d', f, k'].map V.int)) ∧ 0 ≤ k' ∧ k' ≤ 100 ∧ But a H1 H'), ?_, ?_⟩
    · tb_start
      refine bri (fun h => ?_) (fun h => ?_)
      · tb_start
        intro c4 d4 k4 H4 hg4 hH4a hk4a hk4b bH4
        have g4 := GX.g hg4
        have y4 := g4.len
        have l1 : (Str.ofString "row ").length = 4 := by decide
        have g0 : GX 4 1 (.str (Str.ofString "row ")) := GX.of (by decide)
        have y5 : (Str.ofString "row ").length + (SX.S c4).length ≤ sizeLine := Nat.le_of_lt (szl (by omega))
        tb_start
        exact ⟨_, d4, k4, _, _, _, _, _, rfl, (g0.catS g4).mono (by decide) (by decide), hH4a, hk4a, by omega, but_tr b2 bH4⟩
      · tb_start
        refine br (fun h2 => ?_) (fun h2 => ?_)
        · tb_start
          intro p np
          have hap : a ≠ p := by kcj_m
          generalize hX : (upd H2 p _) = H3
          have sp : Same H2 H3 := by rw [← hX]; exact same_new np
          obtain ⟨Lp, ep, tp, lp⟩ : ∃ L : List V, H3 p = some (.lst L) ∧ (∀ x ∈ L, GX 100 10 x) ∧ L.length = 2 := ⟨_, by rw [← hX]; exact upd_same, by repeat (first | exact GX.nil | refine GX.cons (by first | assumption | exact GX.of (by decide)) ?_), rfl⟩
          have h3a := sp _ _ ha2
          have b23 : But a H2 H3 := but_step' sp but_refl
          clear hX np ha2
          obtain ⟨z, ez, gz⟩ := atI_GX tp (n := w - 1) (by omega) (by rw [lp]; omega)
          have yz := gz.len
          tb_start
          intro c4 d4 k4 H4 hg4 hH4a hk4a hk4b bH4
          have g4 := GX.g hg4
          have y4 := g4.len
          have l1 : (Str.ofString " ").length = 1 := by decide
          have g0 : GX 1 1 (.str (Str.ofString " ")) := GX.of (by decide)
          have y5 : z.length + (SX.S c4).length ≤ sizeLine := Nat.le_of_lt (szl (by omega))
          have y6 : (z ++ SX.S c4).length + (Str.ofString " ").length ≤ sizeLine := Nat.le_of_lt (szl (by rw [app_len]; omega))
          tb_start
          intro c5 d5 k5 H5 hg5 hH5a hk5a hk5b bH5
          have g5 := GX.g hg5
          have y5 := g5.len
          have y7 : (z ++ SX.S c4 ++ Str.ofString " ").length + (SX.S c5).length ≤ sizeLine := Nat.le_of_lt (szl (by rw [app_len, app_len]; omega))
          tb_start
          exact ⟨_, d5, k5, _, _, _, _, _, rfl, (((gz.catS g4).catS g0).catS g5).mono (by decide) (by decide), hH5a, hk5a, by omega, but_tr b2 (but_tr b23 (but_tr bH4 bH5))⟩
        · tb_start
          refine br (fun h3 => ?_) (fun h3 => ?_)
          · tb_start
            intro p np
            have hap : a ≠ p := by kcj_m
            generalize hX : (upd H2 p _) = H3
            have sp : Same H2 H3 := by rw [← hX]; exact same_new np
            obtain ⟨Lp, ep, tp, lp⟩ : ∃ L : List V, H3 p = some (.lst L) ∧ (∀ x ∈ L, GX 100 10 x) ∧ L.length = 2 := ⟨_, by rw [← hX]; exact upd_same, by repeat (first | exact GX.nil | refine GX.cons (by first | assumption | exact GX.of (by decide)) ?_), rfl⟩
            have h3a := sp _ _ ha2
            have b23 : But a H2 H3 := but_step' sp but_refl
            clear hX np ha2
            obtain ⟨z, ez, gz⟩ := atI_GX tp (n := w - 3) (by omega) (by rw [lp]; omega)
            have yz := gz.len
            tb_start
            intro c4 d4 k4 H4 hg4 hH4a hk4a hk4b bH4
            have g4 := GX.g hg4
            have y4 := g4.len
            have l1 : (Str.ofString " ").length = 1 := by decide
            have g0 : GX 1 1 (.str (Str.ofString " ")) := GX.of (by decide)
            have y5 : z.length + (SX.S c4).length ≤ sizeLine := Nat.le_of_lt (szl (by omega))
            have y6 : (z ++ SX.S c4).length + (Str.ofString " ").length ≤ sizeLine := Nat.le_of_lt (szl (by rw [app_len]; omega))
            tb_start
            intro c5 d5 k5 H5 hg5 hH5a hk5a hk5b bH5
            have g5 := GX.g hg5
            have y5 := g5.len
            have y7 : (z ++ SX.S c4 ++ Str.ofString " ").length + (SX.S c5).length ≤ sizeLine := Nat.le_of_lt (szl (by rw [app_len, app_len]; omega))
            tb_start
            exact ⟨_, d5, k5, _, _, _, _, _, rfl, (((gz.catS g4).catS g0).catS g5).mono (by decide) (by decide), hH5a, hk5a, by omega, but_tr b2 (but_tr b23 (but_tr bH4 bH5))⟩
          · tb_start
            refine br (fun h4 => ?_) (fun h4 => ?_)
            · tb_start
              intro p np
              have hap : a ≠ p := by kcj_m
              generalize hX : (upd H2 p _) = H3
              have sp : Same H2 H3 := by rw [← hX]; exact same_new np
              obtain ⟨Lp, ep, tp, lp⟩ : ∃ L : List V, H3 p = some (.lst L) ∧ (∀ x ∈ L, GX 100 10 x) ∧ L.length = 5 := ⟨_, by rw [← hX]; exact upd_same, by repeat (first | exact GX.nil | refine GX.cons (by first | assumption | exact GX.of (by decide)) ?_), rfl⟩
              have h3a := sp _ _ ha2
              have b23 : But a H2 H3 := but_step' sp but_refl
              clear hX np ha2
              obtain ⟨z, ez, gz⟩ := atI_GX tp (n := w - 5) (by omega) (by rw [lp]; omega)
              have yz := gz.len
              tb_start
              intro c4 d4 k4 H4 hg4 hH4a hk4a hk4b bH4
              have g4 := GX.g hg4
              have y4 := g4.len
              have y5 : z.length + (SX.S c4).length ≤ sizeLine := Nat.le_of_lt (szl (by omega))
              tb_start
              exact ⟨_, d4, k4, _, _, _, _, _, rfl, (gz.catS g4).mono (by decide) (by decide), hH4a, hk4a, by omega, but_tr b2 (but_tr b23 bH4)⟩
            · tb_start
              intro p np
              have hap : a ≠ p := by kcj_m
              generalize hX : (upd H2 p _) = H3
              have sp : Same H2 H3 := by rw [← hX]; exact same_new np
              obtain ⟨Lp, ep, tp, lp⟩ : ∃ L : List V, H3 p = some (.lst L) ∧ (∀ x ∈ L, GX 100 10 x) ∧ L.length = 10 := ⟨_, by rw [← hX]; exact upd_same, by repeat (first | exact GX.nil | refine GX.cons (by first | assumption | exact GX.of (by decide)) ?_), rfl⟩
              have h3a := sp _ _ ha2
              have b3 : But a H2 H3 := but_step' sp but_refl
              clear hX np ha2
              tb_start
              intro r nr
              have har : a ≠ r := by kcj_m
              generalize hX : (upd H3 r _) = H4
              have sr : Same H3 H4 := by rw [← hX]; exact same_new nr
              obtain ⟨Lr, er, tr, lr⟩ : ∃ L : List V, H4 r = some (.lst L) ∧ (∀ x ∈ L, GX 100 10 x) ∧ L.length = 7 := ⟨_, by rw [← hX]; exact upd_same, by repeat (first | exact GX.nil | refine GX.cons (by first | assumption | exact GX.of (by decide)) ?_), rfl⟩
              have h4a := sr _ _ h3a
              have b4 : But a H2 H4 := but_step' sr b3
              have dpr : p ≠ r := by kcj_m
              have ep4 := sr _ _ ep
              clear hX nr h3a ep
              tb_start
              intro p5 n5
              have hap5 : a ≠ p5 := by kcj_m
              generalize hX : (upd H4 p5 _) = H5
              have s5 : Same H4 H5 := by rw [← hX]; exact same_new n5
              obtain ⟨L5, e5, t5, l5⟩ : ∃ L : List V, H5 p5 = some (.lst L) ∧ (∀ x ∈ L, GX 100 10 x) ∧ L.length = 17 := ⟨_, by rw [← hX]; exact upd_same, GX.cat tp tr, by rw [List.length_append, lp, lr]⟩
              have h5a := s5 _ _ h4a
              have b5 : But a H2 H5 := but_step' s5 b4
              clear hX n5 h4a ep4 er s5 sr sp
              tb_start
              intro t nt
              have hat : a ≠ t := by kcj_m
              generalize hX : (upd H5 t _) = H6
              have st : Same H5 H6 := by rw [← hX]; exact same_new nt
              obtain ⟨Lt, et, tt, lt⟩ : ∃ L : List V, H6 t = some (.lst L) ∧ (∀ x ∈ L, GX 100 10 x) ∧ L.length = 4 := ⟨_, by rw [← hX]; exact upd_same, by repeat (first | exact GX.nil | refine GX.cons (by first | assumption | exact GX.of (by decide)) ?_), rfl⟩
              have h6a := st _ _ h5a
              have b6 : But a H2 H6 := but_step' st b5
              have dpt : p5 ≠ t := by kcj_m
              have e56 := st _ _ e5
              clear hX nt h5a e5
              tb_start
              intro p7 n7
              have hap7 : a ≠ p7 := by kcj_m
              generalize hX : (upd H6 p7 _) = H7
              have s7 : Same H6 H7 := by rw [← hX]; exact same_new n7
              obtain ⟨L7, e7, t7, l7⟩ : ∃ L : List V, H7 p7 = some (.lst L) ∧ (∀ x ∈ L, GX 100 10 x) ∧ L.length = 21 := ⟨_, by rw [← hX]; exact upd_same, GX.cat t5 tt, by rw [List.length_append, l5, lt]⟩
              have h7a := s7 _ _ h6a
              have b7 : But a H2 H7 := but_step' s7 b6
              clear hX n7 h6a e56 et s7 st
              tb_start
              intro m d8 k8 H8 hm0 hm1 h8a hk8 hk9 b8
              obtain ⟨z, ez, gz⟩ := atI_GX t7 hm0 (by omega)
              have e78 := b8 _ _ (Ne.symm hap7) e7
              tb_start
              exact ⟨_, d8, k8, _, _, _, _, _, rfl, gz.mono (by decide) (by decide), h8a, hk8, by omega, but_tr b2 (but_tr b7 b8)⟩
    · rintro σ H3 ⟨z, d3, k3, w3, u4, u5, u6, u7, rfl, hg, ha3, hk3, hk4, b3⟩
      have q3 : ∀ (ds : List Nat) H', GT 14000 130 ds → But a H3 H' → Q (.str (SX.S ds)) H' := fun ds H' hgd b => q ds H' hgd (same_but (but_step b b3) n1 s1)
      clear ha2 b2 q
      have hz := hg.len
      have szc : z.length ≤ sizeLine := Nat.le_of_lt (szl (by omega))
      tb_start
      intro m d4 k4 H4 hm0 hm1 ha4 hk5 hk6 b4
      tb_start
      refine bri (fun h => ?_) (fun h => ?_)
      · clear ha3
        tb_start
        intro at_ d5 k5 H5 hat0 hat1 ha5 hk7 hk8 b5
        clear ha4
        have sg : (Str.ofString " 0-t\nZ").cps.toList.length = 6 := by rw [len_L]; decide
        have sg2 : (Str.ofString " 0-t\nZ").length ≤ sizeLine := by rw [← len_L, sg]; exact Nat.le_of_lt (szl (by omega))
        tb_start
        intro j d6 k6 H6 hj0 hj1 ha6 hk9 hk10 b6
        clear ha5
        obtain ⟨c2, hc, hc2⟩ : ∃ c2, atI (Str.ofString " 0-t\nZ").cps.toList j = some c2 ∧ c2 < 128 := by
          have hjl : j.toNat < (Str.ofString " 0-t\nZ").cps.toList.length := by rw [sg]; omega
          refine ⟨_, (atI_pos hj0 (by rw [sg]; omega)).trans (List.getElem?_eq_getElem hjl), ?_⟩
          exact (show ∀ x ∈ (Str.ofString " 0-t\nZ").cps.toList, x < 128 by decide) _ (List.getElem_mem hjl)
        have gs : GX 1 1 (.str ({ cps := #[c2] } : Str)) := ⟨[c2], rfl, Nat.le_refl _, fun x hx => by rw [List.mem_singleton.mp hx]; exact hc2, List.count_le_length⟩
        tb_start
        intro v d7 k7 H7 hv0 hv1 ha7 hk11 hk12 b7
        have b37 : But a H3 H7 := but_tr b4 (but_tr b5 (but_tr b6 b7))
        have gt : GX 6000 60 (.str (cutS z none (some at_))) := hg.to hat0
        have gf : GX 6000 60 (.str (cutS z (some at_) none)) := hg.fro hat0
        have gf1 : GX 6000 60 (.str (cutS z (some (at_ + 1)) none)) := hg.fro (by omega)
        have yt := gt.len
        have yf := gf.len
        have yf1 := gf1.len
        have ys := gs.len
        have z1 : (cutS z none (some at_)).length + (cutS z (some (at_ + 1)) none).length ≤ sizeLine := Nat.le_of_lt (szl (by omega))
        have z2 : (cutS z none (some at_)).length + ({ cps := #[c2] } : Str).length ≤ sizeLine := Nat.le_of_lt (szl (by omega))
        have z3 : (cutS z none (some at_) ++ ({ cps := #[c2] } : Str)).length + (cutS z (some at_) none).length ≤ sizeLine := Nat.le_of_lt (szl (by rw [app_len]; omega))
        clear ha6
        tb_start
        refine bri (fun h => ?_) (fun h => ?_)
        · tb_start
          exact GX.out (gt.catS gf1) fun ds hd => q3 ds _ (hd.mono (by decide) (by decide)) b37
        · have gu : GX 6000 60 (.str (Txt.upper z)) := hg.up
          have gw := (gt.catS gs).catS gf
          tb_start
          · intro p np
            generalize hX : (upd H7 p _) = H8
            have s8 : Same H7 H8 := by rw [← hX]; exact same_new np
            obtain ⟨L8, e8, t8, l8⟩ : ∃ L : List V, H8 p = some (.lst L) ∧ (∀ x ∈ L, GX 13000 121 x) ∧ L.length = 2 := ⟨_, by rw [← hX]; exact upd_same, GX.cons (gw.mono (by decide) (by decide)) (GX.cons (gu.mono (by decide) (by decide)) GX.nil), rfl⟩
            have b8 : But a H3 H8 := but_step' s8 b37
            clear hX np
            obtain ⟨y, ey, gy⟩ := atI_GX t8 (n := v - 1) (by omega) (by rw [l8]; omega)
            have yy := gy.len
            tb_start
            exact GX.out gy fun ds hd => q3 ds _ (hd.mono (by decide) (by decide)) b8
          · exact ⟨_, rfl⟩
      · tb_start
        exact GX.out hg fun ds hd => q3 ds _ (hd.mono (by decide) (by decide)) b4
end
end Ur
namespace Ur
open PySem L2
def t1 : List Nat := [114, 111, 119, 32, 51, 32, 49, 32, 51, 32, 51, 32, 50, 32, 49, 32, 52]
def t2 : List Nat := [99, 104, 97, 110, 103, 101, 32, 48, 32, 55]
theorem t1_S : Str.ofString "row 3 1 3 3 2 1 4" = SX.S t1 := by decide
theorem t2_S : Str.ofString "change 0 7" = SX.S t2 := by decide
theorem say1 : sayD [] [] t1 = .ok okC [3, 1, 3, 3, 2, 1, 4] [] := by rfl
theorem say2 : sayD [3, 1, 3, 3, 2, 1, 4] [] t2 = .ok okC [7, 1, 3, 3, 2, 1, 4] [[3, 1, 3, 3, 2, 1, 4]] := by rfl
theorem rv1 : (rVal (t1.drop 4)).length ≤ 390 := by decide +kernel
theorem rv2 : (rVal (t2.drop 4)).length ≤ 390 := by decide +kernel
theorem seq_far {K : PySem.W.Frag} {o lo pc lo1 pc1 a : Addr} {H H1 H3 : Hp} {xs : List V} (f : DFr o lo pc lo1 pc1 H1 H3) (s : Same H H1) (no : H o = none) (nl : H lo = none) (np : H pc = none) (h : SqL K H a xs) : SqL K H3 a xs := by
  have ne : ∀ v b, H a = some v → H b = none → a ≠ b := fun v b e n z => by rw [z, n] at e; cases e
  rcases h with (h | ⟨o2, h⟩) | h
  · exact .inl (.inl (f _ _ (ne _ _ h no) (ne _ _ h nl) (ne _ _ h np) (s _ _ h)).1)
  · exact .inl (.inr ⟨o2, (f _ _ (ne _ _ h no) (ne _ _ h nl) (ne _ _ h np) (s _ _ h)).1⟩)
  · exact .inr h
theorem due_no {n : Nat} {cs : List Nat} (h : dueN n cs ≠ 4) : nameK (dueN n cs) ≠ Str.ofString "" := by
  have k := kind_say (List.replicate n 0) [] cs
  rw [List.length_replicate] at k
  cases q : sayD (List.replicate n 0) [] cs with
  | bad j =>
    have hj := say_le q
    rw [q] at k
    rw [← k]
    show nameK j ≠ _
    have : j = 0 ∨ j = 1 ∨ j = 2 ∨ j = 3 := by omega
    rcases this with rfl | rfl | rfl | rfl <;> decide
  | ok t ms is =>
    rw [q] at k
    exact absurd k.symm h
/-- the law holds -/
def sp_law (K : PySem.W.Frag) : Sp := fun vs H Q _ => ∃ (a : Addr) (ns : List Int), vs = [.ref a] ∧ SqL K H a (ns.map V.int) ∧ ns.length ≤ 63 ∧ ∀ H', Q (.bl true) H'
section
variable {P : Program} {w : World} {K : PySem.W.Frag} {mg : Str → Option Value} {base : Heap} {A : Adr}
theorem ok_law (T : Txt w K mg A) : FnOk P w K mg base CX0 11 A.f_law A.d_law ["script"] (sp_law K) := by
  have G_Desk___init__ := ok_Desk___init__ (P := P) (w := w) (base := base) T
  have G_Desk_say := ok_Desk_say (P := P) (w := w) (base := base) T
  have G__law_changes := ok__law_changes (P := P) (w := w) (base := base) T
  have G__law_due := ok__law_due (P := P) (w := w) (base := base) T
  have G__law_met := ok__law_met (P := P) (w := w) (base := base) T
  have G__law_size := ok__law_size (P := P) (w := w) (base := base) T
  have G__law_things_right := ok__law_things_right (P := P) (w := w) (base := base) T
  have G__law_undone := ok__law_undone (P := P) (w := w) (base := base) T
  have G__law_words := ok__law_words (P := P) (w := w) (base := base) T
  refine T.F_law.ok sc_law (fun vs H Q E h => ?_) (fun cdv Ar outer s H vs Q E hr h => ?_)
  · obtain ⟨a, ns, rfl, _⟩ := h
    rfl
  · have C_Desk := T.C_Desk
    have n_Desk_live := T.n_Desk_live
    obtain ⟨a, ns, rfl, ha, hl, q⟩ := h
    refine ⟨_, (pss_cons (ps_set (i := 1) sc_law.nd rfl (Or.inl rfl) (pe_make0 T.M_Desk G_Desk___init__ (hr.mono (by decide)) (by rfl) T.g_Desk T.b_Desk___init__ .nil pass0))
    (pss_cons (ps_if (PW.pt (pw_or (pt_cmpR op_ne (pe_meth (pv 1) T.C_Desk T.M_Desk_say G_Desk_say (hr.mono (by decide)) T.b_Desk_say .nil passL (pa_cons pe_str pa_nil)) pe_str (nomark _)) (pw_or1 (pt_cmpR op_ne (pe_meth (pv 1) T.C_Desk T.M_Desk_say G_Desk_say (hr.mono (by decide)) T.b_Desk_say .nil passL (pa_cons pe_str pa_nil)) pe_str (nomark _))))) (pss_one (ps_ret pe_bl)) pss_nil)
    (pss_cons (ps_set (i := 2) sc_law.nd rfl (Or.inl rfl) pe_int)
    (pss_cons (ps_for PassesOwn.never (by rfl) (pi_list (pe_slice (Ur.sl_listK (K := K) rfl) (pv 0) (po_some pe_int) (po_some pe_int))) (pg_name (i := 3) sc_law.nd rfl (Or.inl rfl)) (pss_cons (ps_set (i := 4) sc_law.nd rfl (Or.inl rfl) (pe_call G__law_words (hr.mono (by decide)) (by rfl) T.g__law_words T.F__law_words.kp T.b__law_words .nil pass0 (pa_cons (pv 3) pa_nil)))
    (pss_cons (ps_set (i := 5) sc_law.nd rfl (Or.inl rfl) (pe_meth (pv 1) T.C_Desk T.M_Desk_say G_Desk_say (hr.mono (by decide)) T.b_Desk_say .nil passL (pa_cons pe_str pa_nil)))
    (pss_cons (ps_set (i := 6) sc_law.nd rfl (Or.inl rfl) (pe_call G__law_due (hr.mono (by decide)) (by rfl) T.g__law_due T.F__law_due.kp T.b__law_due .nil pass0 (pa_cons (pv 4) (pa_cons (pe_call G__law_size (hr.mono (by decide)) (by rfl) T.g__law_size T.F__law_size.kp T.b__law_size .nil pass0 (pa_cons (pv 5) pa_nil)) pa_nil))))
    (pss_cons (ps_if (pt_not (pt_val (pe_call G__law_met (hr.mono (by decide)) (by rfl) T.g__law_met T.F__law_met.kp T.b__law_met .nil pass0 (pa_cons (pv 1) (pa_cons (pv 4) (pa_cons (pv 6) pa_nil)))))) (pss_one (ps_ret pe_bl)) pss_nil)
    (pss_cons (ps_if (PW.pt (pw_and (pt_cmpR op_ne (pv 6) pe_str (nomark _)) (pw_and1 (pt_cmpR op_ne (pe_meth (pv 1) T.C_Desk T.M_Desk_say G_Desk_say (hr.mono (by decide)) T.b_Desk_say .nil passL (pa_cons pe_str pa_nil)) (pv 5) (nomark _))))) (pss_one (ps_ret pe_bl)) pss_nil)
    (pss_one (ps_if (pt_cmpR op_eq (pv 6) pe_str (nomark _)) (pss_one (ps_set (i := 2) sc_law.nd rfl (Or.inl rfl) (pe_call G__law_changes (hr.mono (by decide)) (by rfl) T.g__law_changes T.F__law_changes.kp T.b__law_changes .nil pass0 (pa_cons (pv 2) (pa_cons (pv 4) pa_nil))))) pss_nil))))))))
    (pss_one (ps_ret (pe_and (pe_call G__law_undone (hr.mono (by decide)) (by rfl) T.g__law_undone T.F__law_undone.kp T.b__law_undone .nil pass0 (pa_cons (pv 1) (pa_cons (pv 2) pa_nil))) (pe_one (pe_call0 G__law_things_right (hr.mono (by decide)) (by rfl) T.g__law_things_right T.F__law_things_right.kp T.b__law_things_right .nil pass0))))))))), ?_⟩
    show ∀ o dx, H o = none → H dx = none → dx ≠ o → _
    intro o dx no ndo neo
    have eo : (upd (upd H dx (.own o)) o (.ins A.c_Desk dx [])) o = some (.ins A.c_Desk dx []) := upd_same
    have s0 : Same H (upd (upd H dx (.own o)) o (.ins A.c_Desk dx [])) := by kcj_in
    generalize hX : (upd (upd H dx (.own o)) o (.ins A.c_Desk dx [])) = H0 at *
    refine ⟨o, dx, rfl, eo, fun lo pc H1 d1 b1 nlo npc => ⟨rfl, ?_⟩⟩
    have s1 : Same H H1 := fun b v e => by
      have hbo : b ≠ o := fun z => by rw [z, no] at e; cases e
      exact b1 b v hbo (s0 b v e)
    have nl : H lo = none := s0.free nlo
    have npp : H pc = none := s0.free npc
    generalize (fun b => H0 b ≠ none ∧ b ≠ o) = L at *
    clear hX eo s0 b1 nlo npc neo ndo
    obtain ⟨dx1, eo1⟩ := d1.obj
    have zl1 : ([] : List Int).length + 1 ≤ 400 := by decide
    have zl2 : ([] : List (List Int)).length + 1 ≤ 10000 := by decide
    have zl3 : ([3, 1, 3, 3, 2, 1, 4] : List Int).length + 1 ≤ 400 := by decide
    tb_start
    · exact fun h => absurd rfl (h _)
    · intro cs e
      rw [t1_S] at e
      have z : cs = t1 := (SX.S_inj (V.str.inj e)).symm
      subst z
      refine ⟨by decide, rv1, ?_⟩
      rw [say1]
      intro lo2 pc2 H2 d2 f2
      rw [← ok_S]
      obtain ⟨dx2, eo2⟩ := d2.obj
      clear eo1 d1
      tb_start
      · exact fun h => absurd rfl (h _)
      · intro cs e
        rw [t2_S] at e
        have z : cs = t2 := (SX.S_inj (V.str.inj e)).symm
        subst z
        refine ⟨by decide, rv2, ?_⟩
        rw [say2]
        intro lo3 pc3 H3 d3 f3
        rw [← ok_S]
        clear eo2 d2
        replace ha := seq_far (f2.trans f3) s1 no nl npp ha
        clear f2 f3 no nl npp s1
        tb_start
        intro p np
        have hpo : p ≠ o := by
          obtain ⟨dx1, eo1⟩ := d3.obj
          kcj_m
        have hpl : p ≠ lo3 := by
          obtain ⟨cls, lv, bk⟩ := d3.liv
          obtain ⟨dxl, pnl, mvl, el⟩ := lv.ob
          kcj_m
        have hpc : p ≠ pc3 := by
          obtain ⟨cls, lv, bk⟩ := d3.liv
          obtain ⟨tsl, ec, _⟩ := lv.chs
          kcj_m
        have hcut : cutV (ns.map V.int) (some 1) (some 51) = ((ns.drop 1).take 50).map V.int := cutI_mid ns (by decide) (by decide)
        generalize hX : (upd H3 p _) = H4
        have s4 : Same H3 H4 := by rw [← hX]; exact same_new np
        have e4 : H4 p = some (.lst (((ns.drop 1).take 50).map V.int)) := by rw [← hX]; exact lst_cast upd_same hcut
        have hcl : ((ns.drop 1).take 50).length ≤ 50 := by rw [List.length_take]; omega
        generalize (ns.drop 1).take 50 = cells at *
        have d4 := d3.same s4
        clear hX np s4 d3 ha
        tb_start
        refine for_list (K := K) (a := p) (xs := cells.map V.int) (fun i σ H' => Iv (∃ u3 u4 u5 u6 lo1 pc1 ms hs, σ = [some (.ref a), some (.ref o), some (.int (hs.length : Nat)), u3, u4, u5, u6] ∧ Dsk A.c_Desk A.c_Live A.c_Ready L o lo1 pc1 H' ms hs ∧ Sm (140 + i) (1 + i) ms hs ∧ DFr o lo3 pc3 lo1 pc1 H4 H')) ?l0 ?ll ?ls ?ld
        case l0 => exact ⟨_, _, _, _, lo3, pc3, _, _, rfl, d4, ⟨by decide, by decide, by decide⟩, DFr.refl⟩
        case ll =>
          rintro i σ H' hi ⟨u3, u4, u5, u6, lo1, pc1, ms, hs, rfl, d5, sm5, f5⟩
          exact SqL.of (f5 _ _ hpo hpl hpc e4).1
        case ls =>
          rintro i x σ H5 hx ⟨u3, u4, u5, u6, lo1, pc1, ms, hs, rfl, d5, sm5, f5⟩
          have hi : i < 50 := by
            have := (List.getElem?_eq_some_iff.mp hx).1
            rw [List.length_map] at this
            omega
          obtain ⟨c, hc, rfl⟩ := iv_get hx
          have zl1 : ms.length + 1 ≤ 400 := by have := sm5.1; omega
          have zl2 : hs.length + 1 ≤ 10000 := by have := sm5.2.2; omega
          have zl3 : ms.length ≤ 1000 := by omega
          clear hx hc e4 d4
          tb_start
          intro cs H6 hg s6
          replace d5 := d5.same s6
          replace f5 := f5.same s6
          clear s6
          obtain ⟨dx1, eo1⟩ := d5.obj
          have hgl : cs.length ≤ 19000 := Nat.le_trans hg.1 (by decide)
          have hrl : (rVal (cs.drop 4)).length ≤ 131 := by
            have h1 := rVal_count (cs.drop 4)
            have h2 := (hg.drop 4).2.2
            omega
          have hrl2 : (rVal (cs.drop 4)).length ≤ 390 := by omega
          clear hg
          tb_start
          · exact fun h => absurd rfl (h _)
          · intro cs2 e
            have z : cs2 = showW := (S_eqP.mp e.symm).trans show_L
            subst z
            refine ⟨by decide, by decide, ?_⟩
            rw [sayD_show]
            intro lo2 pc2 H7 d7 f7
            clear eo1 d5
            have hb7 := d7.bd
            tb_start
            intro H8 s8
            replace d7 := d7.same s8
            replace f7 := f7.same s8
            clear s8
            tb_start
            intro H9 s9
            replace d7 := d7.same s9
            replace f7 := f7.same s9
            clear s9
            obtain ⟨dx7, eo7⟩ := d7.obj
            have hsm := sm_next sm5 (cs := cs) (by omega)
            tb_start
            intro lo4 pc4 ns2 hs2 H10 hm d10 f10
            obtain ⟨rfl, rfl⟩ := nextD_of (ns := ms) (hs := hs) (cs := cs) (ns2 := ns2) (hs2 := hs2) hm
            clear hm
            replace f10 := (f5.trans f7).trans f10
            clear f5 f7 eo7 d7
            by_cases hk : dueN ms.length cs = 4
            · rw [show nameK (dueN ms.length cs) = Str.ofString "" from by rw [hk]; rfl]
              tb_start
              intro H11 s11
              tb_start
              rw [← chg_next (hs := hs) hk]
              exact ⟨_, _, _, _, lo4, pc4, _, _, rfl, d10.same s11, hsm, f10.same s11⟩
            · have hno := due_no hk
              have hkp := keep_next (hs := hs) hk
              rw [hkp] at d10 hsm
              generalize nameK (dueN ms.length cs) = z at *
              obtain ⟨dx7, eo7⟩ := d10.obj
              have hno2 : V.str z ≠ V.str (Str.ofString "") := fun e => hno (V.str.inj e)
              have zl1 : (ms, hs).1.length + 1 ≤ 400 := by have := sm5.1; show ms.length + 1 ≤ 400; omega
              have zl2 : (ms, hs).2.length + 1 ≤ 10000 := by have := sm5.2.2; show hs.length + 1 ≤ 10000; omega
              tb_start
              · exact fun h => absurd rfl (h _)
              · intro cs2 e
                have z : cs2 = showW := (S_eqP.mp e.symm).trans show_L
                subst z
                refine ⟨by decide, by decide, ?_⟩
                rw [sayD_show]
                intro lo6 pc6 H11 d11 f11
                clear eo7 d10
                tb_start
                exact ⟨_, _, _, _, lo6, pc6, ms, hs, rfl, d11, hsm, f10.trans f11⟩
        case ld =>
          rintro σ H5 ⟨u3, u4, u5, u6, lo1, pc1, ms, hs, rfl, d5, sm5, f5⟩
          rw [List.length_map] at sm5
          have zl1 : ms.length ≤ 300 := by have := sm5.1; omega
          have zl2 : ∀ r ∈ hs, r.length ≤ 300 := fun r hr => by have := sm5.2.1 r hr; omega
          have zl3 : hs.length ≤ 1000 := by have := sm5.2.2; omega
          clear e4 d4 hpo hpl hpc
          tb_start
          intro lo2 pc2 ns2 H6 d6 f6
          tb_start
          intro H7
          tb_start
          exact q _
end
end Ur
end WalkWords
namespace Ur
open PySem L2
theorem all_mk {l : PySem.W.OpenLaw} {w : World} {K : PySem.W.Frag} {h : Heap} {mg : Str → Option Value} {fa : Addr} {c_Live c_Desk c_NoPlace c_Ready c_NoWindow c_Held c_NoCommand c_NoRow c_RowError c_NoNeeds c_NoTable : Addr} (X : K.In h) (G : h.Ns mainGlobals mg) (hfa : mg "law" = some (.ref fa))
    {f_Live___init__ : Addr} {oc_Live___init__ kV_Live___init__ dc_Live___init__ pm_Live___init__ cd_Live___init__ ct_Live___init__ : Value} {od_Live___init__ an_Live___init__ : Option Addr} {sl_Live___init__ : Array (Option Value)}
    {f_Desk___init__ : Addr} {oc_Desk___init__ kV_Desk___init__ dc_Desk___init__ pm_Desk___init__ cd_Desk___init__ ct_Desk___init__ : Value} {od_Desk___init__ an_Desk___init__ : Option Addr} {sl_Desk___init__ : Array (Option Value)}
    {f_Live_need_place : Addr} {oc_Live_need_place kV_Live_need_place dc_Live_need_place pm_Live_need_place cd_Live_need_place ct_Live_need_place : Value} {od_Live_need_place an_Live_need_place : Option Addr} {sl_Live_need_place : Array (Option Value)}
    {f_Live_laid : Addr} {oc_Live_laid kV_Live_laid dc_Live_laid pm_Live_laid cd_Live_laid ct_Live_laid : Value} {od_Live_laid an_Live_laid : Option Addr} {sl_Live_laid : Array (Option Value)}
    {f_Live_noted : Addr} {oc_Live_noted kV_Live_noted dc_Live_noted pm_Live_noted cd_Live_noted ct_Live_noted : Value} {od_Live_noted an_Live_noted : Option Addr} {sl_Live_noted : Array (Option Value)}
    {f_Live_change : Addr} {oc_Live_change kV_Live_change dc_Live_change pm_Live_change cd_Live_change ct_Live_change : Value} {od_Live_change an_Live_change : Option Addr} {sl_Live_change : Array (Option Value)}
    {f_last_places : Addr} {oc_last_places kV_last_places dc_last_places pm_last_places cd_last_places ct_last_places : Value} {od_last_places an_last_places : Option Addr} {sl_last_places : Array (Option Value)}
    {f_next_places : Addr} {oc_next_places kV_next_places dc_next_places pm_next_places cd_next_places ct_next_places : Value} {od_next_places an_next_places : Option Addr} {sl_next_places : Array (Option Value)}
    {f_Ready___init__ : Addr} {oc_Ready___init__ kV_Ready___init__ dc_Ready___init__ pm_Ready___init__ cd_Ready___init__ ct_Ready___init__ : Value} {od_Ready___init__ an_Ready___init__ : Option Addr} {sl_Ready___init__ : Array (Option Value)}
    {f_Live_ready : Addr} {oc_Live_ready kV_Live_ready dc_Live_ready pm_Live_ready cd_Live_ready ct_Live_ready : Value} {od_Live_ready an_Live_ready : Option Addr} {sl_Live_ready : Array (Option Value)}
    {f_is_whole : Addr} {oc_is_whole kV_is_whole dc_is_whole pm_is_whole cd_is_whole ct_is_whole : Value} {od_is_whole an_is_whole : Option Addr} {sl_is_whole : Array (Option Value)}
    {f_Ready_need_place : Addr} {oc_Ready_need_place kV_Ready_need_place dc_Ready_need_place pm_Ready_need_place cd_Ready_need_place ct_Ready_need_place : Value} {od_Ready_need_place an_Ready_need_place : Option Addr} {sl_Ready_need_place : Array (Option Value)}
    {f_Ready_need_window : Addr} {oc_Ready_need_window kV_Ready_need_window dc_Ready_need_window pm_Ready_need_window cd_Ready_need_window ct_Ready_need_window : Value} {od_Ready_need_window an_Ready_need_window : Option Addr} {sl_Ready_need_window : Array (Option Value)}
    {f_Ready_firsts : Addr} {oc_Ready_firsts kV_Ready_firsts dc_Ready_firsts pm_Ready_firsts cd_Ready_firsts ct_Ready_firsts : Value} {od_Ready_firsts an_Ready_firsts : Option Addr} {sl_Ready_firsts : Array (Option Value)}
    {f_Live_firsts : Addr} {oc_Live_firsts kV_Live_firsts dc_Live_firsts pm_Live_firsts cd_Live_firsts ct_Live_firsts : Value} {od_Live_firsts an_Live_firsts : Option Addr} {sl_Live_firsts : Array (Option Value)}
    {f_Live_put : Addr} {oc_Live_put kV_Live_put dc_Live_put pm_Live_put cd_Live_put ct_Live_put : Value} {od_Live_put an_Live_put : Option Addr} {sl_Live_put : Array (Option Value)}
    {f_Ready_unlike : Addr} {oc_Ready_unlike kV_Ready_unlike dc_Ready_unlike pm_Ready_unlike cd_Ready_unlike ct_Ready_unlike : Value} {od_Ready_unlike an_Ready_unlike : Option Addr} {sl_Ready_unlike : Array (Option Value)}
    {f_Live_unlike : Addr} {oc_Live_unlike kV_Live_unlike dc_Live_unlike pm_Live_unlike cd_Live_unlike ct_Live_unlike : Value} {od_Live_unlike an_Live_unlike : Option Addr} {sl_Live_unlike : Array (Option Value)}
    {f_show_row : Addr} {oc_show_row kV_show_row dc_show_row pm_show_row cd_show_row ct_show_row : Value} {od_show_row an_show_row : Option Addr} {sl_show_row : Array (Option Value)}
    {f_Desk_asked : Addr} {oc_Desk_asked kV_Desk_asked dc_Desk_asked pm_Desk_asked cd_Desk_asked ct_Desk_asked : Value} {od_Desk_asked an_Desk_asked : Option Addr} {sl_Desk_asked : Array (Option Value)}
    {f_Live_row : Addr} {oc_Live_row kV_Live_row dc_Live_row pm_Live_row cd_Live_row ct_Live_row : Value} {od_Live_row an_Live_row : Option Addr} {sl_Live_row : Array (Option Value)}
    {f_Live_take : Addr} {oc_Live_take kV_Live_take dc_Live_take pm_Live_take cd_Live_take ct_Live_take : Value} {od_Live_take an_Live_take : Option Addr} {sl_Live_take : Array (Option Value)}
    {f_fewest : Addr} {oc_fewest kV_fewest dc_fewest pm_fewest cd_fewest ct_fewest : Value} {od_fewest an_fewest : Option Addr} {sl_fewest : Array (Option Value)}
    {f_Held___init__ : Addr} {oc_Held___init__ kV_Held___init__ dc_Held___init__ pm_Held___init__ cd_Held___init__ ct_Held___init__ : Value} {od_Held___init__ an_Held___init__ : Option Addr} {sl_Held___init__ : Array (Option Value)}
    {f_Held_come : Addr} {oc_Held_come kV_Held_come dc_Held_come pm_Held_come cd_Held_come ct_Held_come : Value} {od_Held_come an_Held_come : Option Addr} {sl_Held_come : Array (Option Value)}
    {f_Held_gone : Addr} {oc_Held_gone kV_Held_gone dc_Held_gone pm_Held_gone cd_Held_gone ct_Held_gone : Value} {od_Held_gone an_Held_gone : Option Addr} {sl_Held_gone : Array (Option Value)}
    {f_Held_unlike : Addr} {oc_Held_unlike kV_Held_unlike dc_Held_unlike pm_Held_unlike cd_Held_unlike ct_Held_unlike : Value} {od_Held_unlike an_Held_unlike : Option Addr} {sl_Held_unlike : Array (Option Value)}
    {f_ends_by : Addr} {oc_ends_by kV_ends_by dc_ends_by pm_ends_by cd_ends_by ct_ends_by : Value} {od_ends_by an_ends_by : Option Addr} {sl_ends_by : Array (Option Value)}
    {f_ends_within : Addr} {oc_ends_within kV_ends_within dc_ends_within pm_ends_within cd_ends_within ct_ends_within : Value} {od_ends_within an_ends_within : Option Addr} {sl_ends_within : Array (Option Value)}
    {f_stretches : Addr} {oc_stretches kV_stretches dc_stretches pm_stretches cd_stretches ct_stretches : Value} {od_stretches an_stretches : Option Addr} {sl_stretches : Array (Option Value)}
    {f_how_many : Addr} {oc_how_many kV_how_many dc_how_many pm_how_many cd_how_many ct_how_many : Value} {od_how_many an_how_many : Option Addr} {sl_how_many : Array (Option Value)}
    {f_need_width : Addr} {oc_need_width kV_need_width dc_need_width pm_need_width cd_need_width ct_need_width : Value} {od_need_width an_need_width : Option Addr} {sl_need_width : Array (Option Value)}
    {f_slid : Addr} {oc_slid kV_slid dc_slid pm_slid cd_slid ct_slid : Value} {od_slid an_slid : Option Addr} {sl_slid : Array (Option Value)}
    {f_of_width : Addr} {oc_of_width kV_of_width dc_of_width pm_of_width cd_of_width ct_of_width : Value} {od_of_width an_of_width : Option Addr} {sl_of_width : Array (Option Value)}
    {f_least_of : Addr} {oc_least_of kV_least_of dc_least_of pm_least_of cd_least_of ct_least_of : Value} {od_least_of an_least_of : Option Addr} {sl_least_of : Array (Option Value)}
    {f_most_of : Addr} {oc_most_of kV_most_of dc_most_of pm_most_of cd_most_of ct_most_of : Value} {od_most_of an_most_of : Option Addr} {sl_most_of : Array (Option Value)}
    {f_Desk_told : Addr} {oc_Desk_told kV_Desk_told dc_Desk_told pm_Desk_told cd_Desk_told ct_Desk_told : Value} {od_Desk_told an_Desk_told : Option Addr} {sl_Desk_told : Array (Option Value)}
    {f_Live_undo : Addr} {oc_Live_undo kV_Live_undo dc_Live_undo pm_Live_undo cd_Live_undo ct_Live_undo : Value} {od_Live_undo an_Live_undo : Option Addr} {sl_Live_undo : Array (Option Value)}
    {f_figures_in : Addr} {oc_figures_in kV_figures_in dc_figures_in pm_figures_in cd_figures_in ct_figures_in : Value} {od_figures_in an_figures_in : Option Addr} {sl_figures_in : Array (Option Value)}
    {f_read_number : Addr} {oc_read_number kV_read_number dc_read_number pm_read_number cd_read_number ct_read_number : Value} {od_read_number an_read_number : Option Addr} {sl_read_number : Array (Option Value)}
    {f_number_in : Addr} {oc_number_in kV_number_in dc_number_in pm_number_in cd_number_in ct_number_in : Value} {od_number_in an_number_in : Option Addr} {sl_number_in : Array (Option Value)}
    {f_read_row : Addr} {oc_read_row kV_read_row dc_read_row pm_read_row cd_read_row ct_read_row : Value} {od_read_row an_read_row : Option Addr} {sl_read_row : Array (Option Value)}
    {f_Desk_say : Addr} {oc_Desk_say kV_Desk_say dc_Desk_say pm_Desk_say cd_Desk_say ct_Desk_say : Value} {od_Desk_say an_Desk_say : Option Addr} {sl_Desk_say : Array (Option Value)}
    {f__law_changes : Addr} {oc__law_changes kV__law_changes dc__law_changes pm__law_changes cd__law_changes ct__law_changes : Value} {od__law_changes an__law_changes : Option Addr} {sl__law_changes : Array (Option Value)}
    {f__law_is_number : Addr} {oc__law_is_number kV__law_is_number dc__law_is_number pm__law_is_number cd__law_is_number ct__law_is_number : Value} {od__law_is_number an__law_is_number : Option Addr} {sl__law_is_number : Array (Option Value)}
    {f__law_is_place : Addr} {oc__law_is_place kV__law_is_place dc__law_is_place pm__law_is_place cd__law_is_place ct__law_is_place : Value} {od__law_is_place an__law_is_place : Option Addr} {sl__law_is_place : Array (Option Value)}
    {f__law_one_due : Addr} {oc__law_one_due kV__law_one_due dc__law_one_due pm__law_one_due cd__law_one_due ct__law_one_due : Value} {od__law_one_due an__law_one_due : Option Addr} {sl__law_one_due : Array (Option Value)}
    {f__law_two_due : Addr} {oc__law_two_due kV__law_two_due dc__law_two_due pm__law_two_due cd__law_two_due ct__law_two_due : Value} {od__law_two_due an__law_two_due : Option Addr} {sl__law_two_due : Array (Option Value)}
    {f__law_due : Addr} {oc__law_due kV__law_due dc__law_due pm__law_due cd__law_due ct__law_due : Value} {od__law_due an__law_due : Option Addr} {sl__law_due : Array (Option Value)}
    {f__law_met : Addr} {oc__law_met kV__law_met dc__law_met pm__law_met cd__law_met ct__law_met : Value} {od__law_met an__law_met : Option Addr} {sl__law_met : Array (Option Value)}
    {f__law_size : Addr} {oc__law_size kV__law_size dc__law_size pm__law_size cd__law_size ct__law_size : Value} {od__law_size an__law_size : Option Addr} {sl__law_size : Array (Option Value)}
    {f__law_things_right : Addr} {oc__law_things_right kV__law_things_right dc__law_things_right pm__law_things_right cd__law_things_right ct__law_things_right : Value} {od__law_things_right an__law_things_right : Option Addr} {sl__law_things_right : Array (Option Value)}
    {f__law_undone : Addr} {oc__law_undone kV__law_undone dc__law_undone pm__law_undone cd__law_undone ct__law_undone : Value} {od__law_undone an__law_undone : Option Addr} {sl__law_undone : Array (Option Value)}
    {f__law_deck : Addr} {oc__law_deck kV__law_deck dc__law_deck pm__law_deck cd__law_deck ct__law_deck : Value} {od__law_deck an__law_deck : Option Addr} {sl__law_deck : Array (Option Value)}
    {f__law_take : Addr} {oc__law_take kV__law_take dc__law_take pm__law_take cd__law_take ct__law_take : Value} {od__law_take an__law_take : Option Addr} {sl__law_take : Array (Option Value)}
    {f__law_figure : Addr} {oc__law_figure kV__law_figure dc__law_figure pm__law_figure cd__law_figure ct__law_figure : Value} {od__law_figure an__law_figure : Option Addr} {sl__law_figure : Array (Option Value)}
    {f__law_place : Addr} {oc__law_place kV__law_place dc__law_place pm__law_place cd__law_place ct__law_place : Value} {od__law_place an__law_place : Option Addr} {sl__law_place : Array (Option Value)}
    {f__law_text : Addr} {oc__law_text kV__law_text dc__law_text pm__law_text cd__law_text ct__law_text : Value} {od__law_text an__law_text : Option Addr} {sl__law_text : Array (Option Value)}
    {f__law_words : Addr} {oc__law_words kV__law_words dc__law_words pm__law_words cd__law_words ct__law_words : Value} {od__law_words an__law_words : Option Addr} {sl__law_words : Array (Option Value)}
    {f_law : Addr} {oc_law kV_law dc_law pm_law cd_law ct_law : Value} {od_law an_law : Option Addr} {sl_law : Array (Option Value)}
    {t_FIGURES_desk : Tok}
    {t_MOST_FIGURES_desk : Tok}
    {t_MOST_FIGURES_notes : Tok}
    {t_FIGURES_notes : Tok}
    {d_WORDS : Addr} {es_WORDS : Array DictEntry} {n_WORDS : Nat}
    (aC_Live : PySem.W.nsIn K mainGlobals "Live" = some (some (.ref c_Live)))
    (pg_Live : PySem.W.plainGet K c_Live Str.empty = true)
    (hd_Live : PySem.W.hasDictIn K c_Live = true)
    (po_Live : PySem.W.plainOver K c_Live = true)
    (sa_Live : PySem.W.findIn K (.ref c_Live) "__setattr__" = some (some (.builtin "object.__setattr__")))
    (mk_Live : PySem.W.makesIn K c_Live = true)
    (kc_Live : PySem.W.keepIn K (.ref c_Live) = true)
    (n_Live_numbers : PySem.W.findIn K (.ref c_Live) "numbers" = some none)
    (n_Live_changes : PySem.W.findIn K (.ref c_Live) "changes" = some none)
    (n_Live_made : PySem.W.findIn K (.ref c_Live) "made" = some none)
    (aC_Desk : PySem.W.nsIn K mainGlobals "Desk" = some (some (.ref c_Desk)))
    (pg_Desk : PySem.W.plainGet K c_Desk Str.empty = true)
    (hd_Desk : PySem.W.hasDictIn K c_Desk = true)
    (po_Desk : PySem.W.plainOver K c_Desk = true)
    (sa_Desk : PySem.W.findIn K (.ref c_Desk) "__setattr__" = some (some (.builtin "object.__setattr__")))
    (mk_Desk : PySem.W.makesIn K c_Desk = true)
    (kc_Desk : PySem.W.keepIn K (.ref c_Desk) = true)
    (n_Desk_live : PySem.W.findIn K (.ref c_Desk) "live" = some none)
    (aC_NoPlace : PySem.W.nsIn K mainGlobals "NoPlace" = some (some (.ref c_NoPlace)))
    (aC_Ready : PySem.W.nsIn K mainGlobals "Ready" = some (some (.ref c_Ready)))
    (pg_Ready : PySem.W.plainGet K c_Ready Str.empty = true)
    (hd_Ready : PySem.W.hasDictIn K c_Ready = true)
    (po_Ready : PySem.W.plainOver K c_Ready = true)
    (sa_Ready : PySem.W.findIn K (.ref c_Ready) "__setattr__" = some (some (.builtin "object.__setattr__")))
    (mk_Ready : PySem.W.makesIn K c_Ready = true)
    (kc_Ready : PySem.W.keepIn K (.ref c_Ready) = true)
    (n_Ready_many : PySem.W.findIn K (.ref c_Ready) "many" = some none)
    (n_Ready_lasts : PySem.W.findIn K (.ref c_Ready) "lasts" = some none)
    (n_Ready_nexts : PySem.W.findIn K (.ref c_Ready) "nexts" = some none)
    (aC_NoWindow : PySem.W.nsIn K mainGlobals "NoWindow" = some (some (.ref c_NoWindow)))
    (aC_Held : PySem.W.nsIn K mainGlobals "Held" = some (some (.ref c_Held)))
    (pg_Held : PySem.W.plainGet K c_Held Str.empty = true)
    (hd_Held : PySem.W.hasDictIn K c_Held = true)
    (po_Held : PySem.W.plainOver K c_Held = true)
    (sa_Held : PySem.W.findIn K (.ref c_Held) "__setattr__" = some (some (.builtin "object.__setattr__")))
    (mk_Held : PySem.W.makesIn K c_Held = true)
    (kc_Held : PySem.W.keepIn K (.ref c_Held) = true)
    (n_Held_times : PySem.W.findIn K (.ref c_Held) "times" = some none)
    (aC_NoCommand : PySem.W.nsIn K mainGlobals "NoCommand" = some (some (.ref c_NoCommand)))
    (aC_NoRow : PySem.W.nsIn K mainGlobals "NoRow" = some (some (.ref c_NoRow)))
    (aC_RowError : PySem.W.nsIn K mainGlobals "RowError" = some (some (.ref c_RowError)))
    (aC_NoNeeds : PySem.W.nsIn K mainGlobals "NoNeeds" = some (some (.ref c_NoNeeds)))
    (aC_NoTable : PySem.W.nsIn K mainGlobals "NoTable" = some (some (.ref c_NoTable)))
    (a_Live___init__ : PySem.W.findIn K (.ref c_Live) "__init__" = some (some (.ref f_Live___init__)))
    (i_Live___init__ : PySem.W.isFn K (.ref f_Live___init__) = true)
    (l_Live___init__ : K.lookup f_Live___init__ = some ⟨oc_Live___init__, od_Live___init__, .func (PySem.W.fnOf "__init__" "Live.__init__" (defArgs s_Live___init__) (defBody s_Live___init__) (defScope s_Live___init__) .none kV_Live___init__ dc_Live___init__ pm_Live___init__ an_Live___init__ cd_Live___init__ ct_Live___init__), sl_Live___init__⟩)
    (q_Live___init__ : PySem.W.codeIn K cd_Live___init__ "Live.__init__" = true)
    (k_Live___init__ : PySem.W.keepIn K (.ref f_Live___init__) = true)
    (a_Desk___init__ : PySem.W.findIn K (.ref c_Desk) "__init__" = some (some (.ref f_Desk___init__)))
    (i_Desk___init__ : PySem.W.isFn K (.ref f_Desk___init__) = true)
    (l_Desk___init__ : K.lookup f_Desk___init__ = some ⟨oc_Desk___init__, od_Desk___init__, .func (PySem.W.fnOf "__init__" "Desk.__init__" (defArgs s_Desk___init__) (defBody s_Desk___init__) (defScope s_Desk___init__) .none kV_Desk___init__ dc_Desk___init__ pm_Desk___init__ an_Desk___init__ cd_Desk___init__ ct_Desk___init__), sl_Desk___init__⟩)
    (q_Desk___init__ : PySem.W.codeIn K cd_Desk___init__ "Desk.__init__" = true)
    (k_Desk___init__ : PySem.W.keepIn K (.ref f_Desk___init__) = true)
    (a_Live_need_place : PySem.W.findIn K (.ref c_Live) "need_place" = some (some (.ref f_Live_need_place)))
    (i_Live_need_place : PySem.W.isFn K (.ref f_Live_need_place) = true)
    (l_Live_need_place : K.lookup f_Live_need_place = some ⟨oc_Live_need_place, od_Live_need_place, .func (PySem.W.fnOf "need_place" "Live.need_place" (defArgs s_Live_need_place) (defBody s_Live_need_place) (defScope s_Live_need_place) .none kV_Live_need_place dc_Live_need_place pm_Live_need_place an_Live_need_place cd_Live_need_place ct_Live_need_place), sl_Live_need_place⟩)
    (q_Live_need_place : PySem.W.codeIn K cd_Live_need_place "Live.need_place" = true)
    (k_Live_need_place : PySem.W.keepIn K (.ref f_Live_need_place) = true)
    (a_Live_laid : PySem.W.findIn K (.ref c_Live) "laid" = some (some (.ref f_Live_laid)))
    (i_Live_laid : PySem.W.isFn K (.ref f_Live_laid) = true)
    (l_Live_laid : K.lookup f_Live_laid = some ⟨oc_Live_laid, od_Live_laid, .func (PySem.W.fnOf "laid" "Live.laid" (defArgs s_Live_laid) (defBody s_Live_laid) (defScope s_Live_laid) .none kV_Live_laid dc_Live_laid pm_Live_laid an_Live_laid cd_Live_laid ct_Live_laid), sl_Live_laid⟩)
    (q_Live_laid : PySem.W.codeIn K cd_Live_laid "Live.laid" = true)
    (k_Live_laid : PySem.W.keepIn K (.ref f_Live_laid) = true)
    (a_Live_noted : PySem.W.findIn K (.ref c_Live) "noted" = some (some (.ref f_Live_noted)))
    (i_Live_noted : PySem.W.isFn K (.ref f_Live_noted) = true)
    (l_Live_noted : K.lookup f_Live_noted = some ⟨oc_Live_noted, od_Live_noted, .func (PySem.W.fnOf "noted" "Live.noted" (defArgs s_Live_noted) (defBody s_Live_noted) (defScope s_Live_noted) .none kV_Live_noted dc_Live_noted pm_Live_noted an_Live_noted cd_Live_noted ct_Live_noted), sl_Live_noted⟩)
    (q_Live_noted : PySem.W.codeIn K cd_Live_noted "Live.noted" = true)
    (k_Live_noted : PySem.W.keepIn K (.ref f_Live_noted) = true)
    (a_Live_change : PySem.W.findIn K (.ref c_Live) "change" = some (some (.ref f_Live_change)))
    (i_Live_change : PySem.W.isFn K (.ref f_Live_change) = true)
    (l_Live_change : K.lookup f_Live_change = some ⟨oc_Live_change, od_Live_change, .func (PySem.W.fnOf "change" "Live.change" (defArgs s_Live_change) (defBody s_Live_change) (defScope s_Live_change) .none kV_Live_change dc_Live_change pm_Live_change an_Live_change cd_Live_change ct_Live_change), sl_Live_change⟩)
    (q_Live_change : PySem.W.codeIn K cd_Live_change "Live.change" = true)
    (k_Live_change : PySem.W.keepIn K (.ref f_Live_change) = true)
    (a_last_places : PySem.W.nsIn K mainGlobals "last_places" = some (some (.ref f_last_places)))
    (l_last_places : K.lookup f_last_places = some ⟨oc_last_places, od_last_places, .func (PySem.W.fnOf "last_places" "last_places" (defArgs s_last_places) (defBody s_last_places) (defScope s_last_places) .none kV_last_places dc_last_places pm_last_places an_last_places cd_last_places ct_last_places), sl_last_places⟩)
    (q_last_places : PySem.W.codeIn K cd_last_places "last_places" = true)
    (k_last_places : PySem.W.keepIn K (.ref f_last_places) = true)
    (a_next_places : PySem.W.nsIn K mainGlobals "next_places" = some (some (.ref f_next_places)))
    (l_next_places : K.lookup f_next_places = some ⟨oc_next_places, od_next_places, .func (PySem.W.fnOf "next_places" "next_places" (defArgs s_next_places) (defBody s_next_places) (defScope s_next_places) .none kV_next_places dc_next_places pm_next_places an_next_places cd_next_places ct_next_places), sl_next_places⟩)
    (q_next_places : PySem.W.codeIn K cd_next_places "next_places" = true)
    (k_next_places : PySem.W.keepIn K (.ref f_next_places) = true)
    (a_Ready___init__ : PySem.W.findIn K (.ref c_Ready) "__init__" = some (some (.ref f_Ready___init__)))
    (i_Ready___init__ : PySem.W.isFn K (.ref f_Ready___init__) = true)
    (l_Ready___init__ : K.lookup f_Ready___init__ = some ⟨oc_Ready___init__, od_Ready___init__, .func (PySem.W.fnOf "__init__" "Ready.__init__" (defArgs s_Ready___init__) (defBody s_Ready___init__) (defScope s_Ready___init__) .none kV_Ready___init__ dc_Ready___init__ pm_Ready___init__ an_Ready___init__ cd_Ready___init__ ct_Ready___init__), sl_Ready___init__⟩)
    (q_Ready___init__ : PySem.W.codeIn K cd_Ready___init__ "Ready.__init__" = true)
    (k_Ready___init__ : PySem.W.keepIn K (.ref f_Ready___init__) = true)
    (a_Live_ready : PySem.W.findIn K (.ref c_Live) "ready" = some (some (.ref f_Live_ready)))
    (i_Live_ready : PySem.W.isFn K (.ref f_Live_ready) = true)
    (l_Live_ready : K.lookup f_Live_ready = some ⟨oc_Live_ready, od_Live_ready, .func (PySem.W.fnOf "ready" "Live.ready" (defArgs s_Live_ready) (defBody s_Live_ready) (defScope s_Live_ready) .none kV_Live_ready dc_Live_ready pm_Live_ready an_Live_ready cd_Live_ready ct_Live_ready), sl_Live_ready⟩)
    (q_Live_ready : PySem.W.codeIn K cd_Live_ready "Live.ready" = true)
    (k_Live_ready : PySem.W.keepIn K (.ref f_Live_ready) = true)
    (a_is_whole : PySem.W.nsIn K mainGlobals "is_whole" = some (some (.ref f_is_whole)))
    (l_is_whole : K.lookup f_is_whole = some ⟨oc_is_whole, od_is_whole, .func (PySem.W.fnOf "is_whole" "is_whole" (defArgs s_is_whole) (defBody s_is_whole) (defScope s_is_whole) .none kV_is_whole dc_is_whole pm_is_whole an_is_whole cd_is_whole ct_is_whole), sl_is_whole⟩)
    (q_is_whole : PySem.W.codeIn K cd_is_whole "is_whole" = true)
    (k_is_whole : PySem.W.keepIn K (.ref f_is_whole) = true)
    (a_Ready_need_place : PySem.W.findIn K (.ref c_Ready) "need_place" = some (some (.ref f_Ready_need_place)))
    (i_Ready_need_place : PySem.W.isFn K (.ref f_Ready_need_place) = true)
    (l_Ready_need_place : K.lookup f_Ready_need_place = some ⟨oc_Ready_need_place, od_Ready_need_place, .func (PySem.W.fnOf "need_place" "Ready.need_place" (defArgs s_Ready_need_place) (defBody s_Ready_need_place) (defScope s_Ready_need_place) .none kV_Ready_need_place dc_Ready_need_place pm_Ready_need_place an_Ready_need_place cd_Ready_need_place ct_Ready_need_place), sl_Ready_need_place⟩)
    (q_Ready_need_place : PySem.W.codeIn K cd_Ready_need_place "Ready.need_place" = true)
    (k_Ready_need_place : PySem.W.keepIn K (.ref f_Ready_need_place) = true)
    (a_Ready_need_window : PySem.W.findIn K (.ref c_Ready) "need_window" = some (some (.ref f_Ready_need_window)))
    (i_Ready_need_window : PySem.W.isFn K (.ref f_Ready_need_window) = true)
    (l_Ready_need_window : K.lookup f_Ready_need_window = some ⟨oc_Ready_need_window, od_Ready_need_window, .func (PySem.W.fnOf "need_window" "Ready.need_window" (defArgs s_Ready_need_window) (defBody s_Ready_need_window) (defScope s_Ready_need_window) .none kV_Ready_need_window dc_Ready_need_window pm_Ready_need_window an_Ready_need_window cd_Ready_need_window ct_Ready_need_window), sl_Ready_need_window⟩)
    (q_Ready_need_window : PySem.W.codeIn K cd_Ready_need_window "Ready.need_window" = true)
    (k_Ready_need_window : PySem.W.keepIn K (.ref f_Ready_need_window) = true)
    (a_Ready_firsts : PySem.W.findIn K (.ref c_Ready) "firsts" = some (some (.ref f_Ready_firsts)))
    (i_Ready_firsts : PySem.W.isFn K (.ref f_Ready_firsts) = true)
    (l_Ready_firsts : K.lookup f_Ready_firsts = some ⟨oc_Ready_firsts, od_Ready_firsts, .func (PySem.W.fnOf "firsts" "Ready.firsts" (defArgs s_Ready_firsts) (defBody s_Ready_firsts) (defScope s_Ready_firsts) .none kV_Ready_firsts dc_Ready_firsts pm_Ready_firsts an_Ready_firsts cd_Ready_firsts ct_Ready_firsts), sl_Ready_firsts⟩)
    (q_Ready_firsts : PySem.W.codeIn K cd_Ready_firsts "Ready.firsts" = true)
    (k_Ready_firsts : PySem.W.keepIn K (.ref f_Ready_firsts) = true)
    (a_Live_firsts : PySem.W.findIn K (.ref c_Live) "firsts" = some (some (.ref f_Live_firsts)))
    (i_Live_firsts : PySem.W.isFn K (.ref f_Live_firsts) = true)
    (l_Live_firsts : K.lookup f_Live_firsts = some ⟨oc_Live_firsts, od_Live_firsts, .func (PySem.W.fnOf "firsts" "Live.firsts" (defArgs s_Live_firsts) (defBody s_Live_firsts) (defScope s_Live_firsts) .none kV_Live_firsts dc_Live_firsts pm_Live_firsts an_Live_firsts cd_Live_firsts ct_Live_firsts), sl_Live_firsts⟩)
    (q_Live_firsts : PySem.W.codeIn K cd_Live_firsts "Live.firsts" = true)
    (k_Live_firsts : PySem.W.keepIn K (.ref f_Live_firsts) = true)
    (a_Live_put : PySem.W.findIn K (.ref c_Live) "put" = some (some (.ref f_Live_put)))
    (i_Live_put : PySem.W.isFn K (.ref f_Live_put) = true)
    (l_Live_put : K.lookup f_Live_put = some ⟨oc_Live_put, od_Live_put, .func (PySem.W.fnOf "put" "Live.put" (defArgs s_Live_put) (defBody s_Live_put) (defScope s_Live_put) .none kV_Live_put dc_Live_put pm_Live_put an_Live_put cd_Live_put ct_Live_put), sl_Live_put⟩)
    (q_Live_put : PySem.W.codeIn K cd_Live_put "Live.put" = true)
    (k_Live_put : PySem.W.keepIn K (.ref f_Live_put) = true)
    (a_Ready_unlike : PySem.W.findIn K (.ref c_Ready) "unlike" = some (some (.ref f_Ready_unlike)))
    (i_Ready_unlike : PySem.W.isFn K (.ref f_Ready_unlike) = true)
    (l_Ready_unlike : K.lookup f_Ready_unlike = some ⟨oc_Ready_unlike, od_Ready_unlike, .func (PySem.W.fnOf "unlike" "Ready.unlike" (defArgs s_Ready_unlike) (defBody s_Ready_unlike) (defScope s_Ready_unlike) .none kV_Ready_unlike dc_Ready_unlike pm_Ready_unlike an_Ready_unlike cd_Ready_unlike ct_Ready_unlike), sl_Ready_unlike⟩)
    (q_Ready_unlike : PySem.W.codeIn K cd_Ready_unlike "Ready.unlike" = true)
    (k_Ready_unlike : PySem.W.keepIn K (.ref f_Ready_unlike) = true)
    (a_Live_unlike : PySem.W.findIn K (.ref c_Live) "unlike" = some (some (.ref f_Live_unlike)))
    (i_Live_unlike : PySem.W.isFn K (.ref f_Live_unlike) = true)
    (l_Live_unlike : K.lookup f_Live_unlike = some ⟨oc_Live_unlike, od_Live_unlike, .func (PySem.W.fnOf "unlike" "Live.unlike" (defArgs s_Live_unlike) (defBody s_Live_unlike) (defScope s_Live_unlike) .none kV_Live_unlike dc_Live_unlike pm_Live_unlike an_Live_unlike cd_Live_unlike ct_Live_unlike), sl_Live_unlike⟩)
    (q_Live_unlike : PySem.W.codeIn K cd_Live_unlike "Live.unlike" = true)
    (k_Live_unlike : PySem.W.keepIn K (.ref f_Live_unlike) = true)
    (a_show_row : PySem.W.nsIn K mainGlobals "show_row" = some (some (.ref f_show_row)))
    (l_show_row : K.lookup f_show_row = some ⟨oc_show_row, od_show_row, .func (PySem.W.fnOf "show_row" "show_row" (defArgs s_show_row) (defBody s_show_row) (defScope s_show_row) .none kV_show_row dc_show_row pm_show_row an_show_row cd_show_row ct_show_row), sl_show_row⟩)
    (q_show_row : PySem.W.codeIn K cd_show_row "show_row" = true)
    (k_show_row : PySem.W.keepIn K (.ref f_show_row) = true)
    (a_Desk_asked : PySem.W.findIn K (.ref c_Desk) "asked" = some (some (.ref f_Desk_asked)))
    (i_Desk_asked : PySem.W.isFn K (.ref f_Desk_asked) = true)
    (l_Desk_asked : K.lookup f_Desk_asked = some ⟨oc_Desk_asked, od_Desk_asked, .func (PySem.W.fnOf "asked" "Desk.asked" (defArgs s_Desk_asked) (defBody s_Desk_asked) (defScope s_Desk_asked) .none kV_Desk_asked dc_Desk_asked pm_Desk_asked an_Desk_asked cd_Desk_asked ct_Desk_asked), sl_Desk_asked⟩)
    (q_Desk_asked : PySem.W.codeIn K cd_Desk_asked "Desk.asked" = true)
    (k_Desk_asked : PySem.W.keepIn K (.ref f_Desk_asked) = true)
    (a_Live_row : PySem.W.findIn K (.ref c_Live) "row" = some (some (.ref f_Live_row)))
    (i_Live_row : PySem.W.isFn K (.ref f_Live_row) = true)
    (l_Live_row : K.lookup f_Live_row = some ⟨oc_Live_row, od_Live_row, .func (PySem.W.fnOf "row" "Live.row" (defArgs s_Live_row) (defBody s_Live_row) (defScope s_Live_row) .none kV_Live_row dc_Live_row pm_Live_row an_Live_row cd_Live_row ct_Live_row), sl_Live_row⟩)
    (q_Live_row : PySem.W.codeIn K cd_Live_row "Live.row" = true)
    (k_Live_row : PySem.W.keepIn K (.ref f_Live_row) = true)
    (a_Live_take : PySem.W.findIn K (.ref c_Live) "take" = some (some (.ref f_Live_take)))
    (i_Live_take : PySem.W.isFn K (.ref f_Live_take) = true)
    (l_Live_take : K.lookup f_Live_take = some ⟨oc_Live_take, od_Live_take, .func (PySem.W.fnOf "take" "Live.take" (defArgs s_Live_take) (defBody s_Live_take) (defScope s_Live_take) .none kV_Live_take dc_Live_take pm_Live_take an_Live_take cd_Live_take ct_Live_take), sl_Live_take⟩)
    (q_Live_take : PySem.W.codeIn K cd_Live_take "Live.take" = true)
    (k_Live_take : PySem.W.keepIn K (.ref f_Live_take) = true)
    (a_fewest : PySem.W.nsIn K mainGlobals "fewest" = some (some (.ref f_fewest)))
    (l_fewest : K.lookup f_fewest = some ⟨oc_fewest, od_fewest, .func (PySem.W.fnOf "fewest" "fewest" (defArgs s_fewest) (defBody s_fewest) (defScope s_fewest) .none kV_fewest dc_fewest pm_fewest an_fewest cd_fewest ct_fewest), sl_fewest⟩)
    (q_fewest : PySem.W.codeIn K cd_fewest "fewest" = true)
    (k_fewest : PySem.W.keepIn K (.ref f_fewest) = true)
    (a_Held___init__ : PySem.W.findIn K (.ref c_Held) "__init__" = some (some (.ref f_Held___init__)))
    (i_Held___init__ : PySem.W.isFn K (.ref f_Held___init__) = true)
    (l_Held___init__ : K.lookup f_Held___init__ = some ⟨oc_Held___init__, od_Held___init__, .func (PySem.W.fnOf "__init__" "Held.__init__" (defArgs s_Held___init__) (defBody s_Held___init__) (defScope s_Held___init__) .none kV_Held___init__ dc_Held___init__ pm_Held___init__ an_Held___init__ cd_Held___init__ ct_Held___init__), sl_Held___init__⟩)
    (q_Held___init__ : PySem.W.codeIn K cd_Held___init__ "Held.__init__" = true)
    (k_Held___init__ : PySem.W.keepIn K (.ref f_Held___init__) = true)
    (a_Held_come : PySem.W.findIn K (.ref c_Held) "come" = some (some (.ref f_Held_come)))
    (i_Held_come : PySem.W.isFn K (.ref f_Held_come) = true)
    (l_Held_come : K.lookup f_Held_come = some ⟨oc_Held_come, od_Held_come, .func (PySem.W.fnOf "come" "Held.come" (defArgs s_Held_come) (defBody s_Held_come) (defScope s_Held_come) .none kV_Held_come dc_Held_come pm_Held_come an_Held_come cd_Held_come ct_Held_come), sl_Held_come⟩)
    (q_Held_come : PySem.W.codeIn K cd_Held_come "Held.come" = true)
    (k_Held_come : PySem.W.keepIn K (.ref f_Held_come) = true)
    (a_Held_gone : PySem.W.findIn K (.ref c_Held) "gone" = some (some (.ref f_Held_gone)))
    (i_Held_gone : PySem.W.isFn K (.ref f_Held_gone) = true)
    (l_Held_gone : K.lookup f_Held_gone = some ⟨oc_Held_gone, od_Held_gone, .func (PySem.W.fnOf "gone" "Held.gone" (defArgs s_Held_gone) (defBody s_Held_gone) (defScope s_Held_gone) .none kV_Held_gone dc_Held_gone pm_Held_gone an_Held_gone cd_Held_gone ct_Held_gone), sl_Held_gone⟩)
    (q_Held_gone : PySem.W.codeIn K cd_Held_gone "Held.gone" = true)
    (k_Held_gone : PySem.W.keepIn K (.ref f_Held_gone) = true)
    (a_Held_unlike : PySem.W.findIn K (.ref c_Held) "unlike" = some (some (.ref f_Held_unlike)))
    (i_Held_unlike : PySem.W.isFn K (.ref f_Held_unlike) = true)
    (l_Held_unlike : K.lookup f_Held_unlike = some ⟨oc_Held_unlike, od_Held_unlike, .func (PySem.W.fnOf "unlike" "Held.unlike" (defArgs s_Held_unlike) (defBody s_Held_unlike) (defScope s_Held_unlike) .none kV_Held_unlike dc_Held_unlike pm_Held_unlike an_Held_unlike cd_Held_unlike ct_Held_unlike), sl_Held_unlike⟩)
    (q_Held_unlike : PySem.W.codeIn K cd_Held_unlike "Held.unlike" = true)
    (k_Held_unlike : PySem.W.keepIn K (.ref f_Held_unlike) = true)
    (a_ends_by : PySem.W.nsIn K mainGlobals "ends_by" = some (some (.ref f_ends_by)))
    (l_ends_by : K.lookup f_ends_by = some ⟨oc_ends_by, od_ends_by, .func (PySem.W.fnOf "ends_by" "ends_by" (defArgs s_ends_by) (defBody s_ends_by) (defScope s_ends_by) .none kV_ends_by dc_ends_by pm_ends_by an_ends_by cd_ends_by ct_ends_by), sl_ends_by⟩)
    (q_ends_by : PySem.W.codeIn K cd_ends_by "ends_by" = true)
    (k_ends_by : PySem.W.keepIn K (.ref f_ends_by) = true)
    (a_ends_within : PySem.W.nsIn K mainGlobals "ends_within" = some (some (.ref f_ends_within)))
    (l_ends_within : K.lookup f_ends_within = some ⟨oc_ends_within, od_ends_within, .func (PySem.W.fnOf "ends_within" "ends_within" (defArgs s_ends_within) (defBody s_ends_within) (defScope s_ends_within) .none kV_ends_within dc_ends_within pm_ends_within an_ends_within cd_ends_within ct_ends_within), sl_ends_within⟩)
    (q_ends_within : PySem.W.codeIn K cd_ends_within "ends_within" = true)
    (k_ends_within : PySem.W.keepIn K (.ref f_ends_within) = true)
    (a_stretches : PySem.W.nsIn K mainGlobals "stretches" = some (some (.ref f_stretches)))
    (l_stretches : K.lookup f_stretches = some ⟨oc_stretches, od_stretches, .func (PySem.W.fnOf "stretches" "stretches" (defArgs s_stretches) (defBody s_stretches) (defScope s_stretches) .none kV_stretches dc_stretches pm_stretches an_stretches cd_stretches ct_stretches), sl_stretches⟩)
    (q_stretches : PySem.W.codeIn K cd_stretches "stretches" = true)
    (k_stretches : PySem.W.keepIn K (.ref f_stretches) = true)
    (a_how_many : PySem.W.nsIn K mainGlobals "how_many" = some (some (.ref f_how_many)))
    (l_how_many : K.lookup f_how_many = some ⟨oc_how_many, od_how_many, .func (PySem.W.fnOf "how_many" "how_many" (defArgs s_how_many) (defBody s_how_many) (defScope s_how_many) .none kV_how_many dc_how_many pm_how_many an_how_many cd_how_many ct_how_many), sl_how_many⟩)
    (q_how_many : PySem.W.codeIn K cd_how_many "how_many" = true)
    (k_how_many : PySem.W.keepIn K (.ref f_how_many) = true)
    (a_need_width : PySem.W.nsIn K mainGlobals "need_width" = some (some (.ref f_need_width)))
    (l_need_width : K.lookup f_need_width = some ⟨oc_need_width, od_need_width, .func (PySem.W.fnOf "need_width" "need_width" (defArgs s_need_width) (defBody s_need_width) (defScope s_need_width) .none kV_need_width dc_need_width pm_need_width an_need_width cd_need_width ct_need_width), sl_need_width⟩)
    (q_need_width : PySem.W.codeIn K cd_need_width "need_width" = true)
    (k_need_width : PySem.W.keepIn K (.ref f_need_width) = true)
    (a_slid : PySem.W.nsIn K mainGlobals "slid" = some (some (.ref f_slid)))
    (l_slid : K.lookup f_slid = some ⟨oc_slid, od_slid, .func (PySem.W.fnOf "slid" "slid" (defArgs s_slid) (defBody s_slid) (defScope s_slid) .none kV_slid dc_slid pm_slid an_slid cd_slid ct_slid), sl_slid⟩)
    (q_slid : PySem.W.codeIn K cd_slid "slid" = true)
    (k_slid : PySem.W.keepIn K (.ref f_slid) = true)
    (a_of_width : PySem.W.nsIn K mainGlobals "of_width" = some (some (.ref f_of_width)))
    (l_of_width : K.lookup f_of_width = some ⟨oc_of_width, od_of_width, .func (PySem.W.fnOf "of_width" "of_width" (defArgs s_of_width) (defBody s_of_width) (defScope s_of_width) .none kV_of_width dc_of_width pm_of_width an_of_width cd_of_width ct_of_width), sl_of_width⟩)
    (q_of_width : PySem.W.codeIn K cd_of_width "of_width" = true)
    (k_of_width : PySem.W.keepIn K (.ref f_of_width) = true)
    (a_least_of : PySem.W.nsIn K mainGlobals "least_of" = some (some (.ref f_least_of)))
    (l_least_of : K.lookup f_least_of = some ⟨oc_least_of, od_least_of, .func (PySem.W.fnOf "least_of" "least_of" (defArgs s_least_of) (defBody s_least_of) (defScope s_least_of) .none kV_least_of dc_least_of pm_least_of an_least_of cd_least_of ct_least_of), sl_least_of⟩)
    (q_least_of : PySem.W.codeIn K cd_least_of "least_of" = true)
    (k_least_of : PySem.W.keepIn K (.ref f_least_of) = true)
    (a_most_of : PySem.W.nsIn K mainGlobals "most_of" = some (some (.ref f_most_of)))
    (l_most_of : K.lookup f_most_of = some ⟨oc_most_of, od_most_of, .func (PySem.W.fnOf "most_of" "most_of" (defArgs s_most_of) (defBody s_most_of) (defScope s_most_of) .none kV_most_of dc_most_of pm_most_of an_most_of cd_most_of ct_most_of), sl_most_of⟩)
    (q_most_of : PySem.W.codeIn K cd_most_of "most_of" = true)
    (k_most_of : PySem.W.keepIn K (.ref f_most_of) = true)
    (a_Desk_told : PySem.W.findIn K (.ref c_Desk) "told" = some (some (.ref f_Desk_told)))
    (i_Desk_told : PySem.W.isFn K (.ref f_Desk_told) = true)
    (l_Desk_told : K.lookup f_Desk_told = some ⟨oc_Desk_told, od_Desk_told, .func (PySem.W.fnOf "told" "Desk.told" (defArgs s_Desk_told) (defBody s_Desk_told) (defScope s_Desk_told) .none kV_Desk_told dc_Desk_told pm_Desk_told an_Desk_told cd_Desk_told ct_Desk_told), sl_Desk_told⟩)
    (q_Desk_told : PySem.W.codeIn K cd_Desk_told "Desk.told" = true)
    (k_Desk_told : PySem.W.keepIn K (.ref f_Desk_told) = true)
    (a_Live_undo : PySem.W.findIn K (.ref c_Live) "undo" = some (some (.ref f_Live_undo)))
    (i_Live_undo : PySem.W.isFn K (.ref f_Live_undo) = true)
    (l_Live_undo : K.lookup f_Live_undo = some ⟨oc_Live_undo, od_Live_undo, .func (PySem.W.fnOf "undo" "Live.undo" (defArgs s_Live_undo) (defBody s_Live_undo) (defScope s_Live_undo) .none kV_Live_undo dc_Live_undo pm_Live_undo an_Live_undo cd_Live_undo ct_Live_undo), sl_Live_undo⟩)
    (q_Live_undo : PySem.W.codeIn K cd_Live_undo "Live.undo" = true)
    (k_Live_undo : PySem.W.keepIn K (.ref f_Live_undo) = true)
    (a_figures_in : PySem.W.nsIn K mainGlobals "figures_in" = some (some (.ref f_figures_in)))
    (l_figures_in : K.lookup f_figures_in = some ⟨oc_figures_in, od_figures_in, .func (PySem.W.fnOf "figures_in" "figures_in" (defArgs s_figures_in) (defBody s_figures_in) (defScope s_figures_in) .none kV_figures_in dc_figures_in pm_figures_in an_figures_in cd_figures_in ct_figures_in), sl_figures_in⟩)
    (q_figures_in : PySem.W.codeIn K cd_figures_in "figures_in" = true)
    (k_figures_in : PySem.W.keepIn K (.ref f_figures_in) = true)
    (a_read_number : PySem.W.nsIn K mainGlobals "read_number" = some (some (.ref f_read_number)))
    (l_read_number : K.lookup f_read_number = some ⟨oc_read_number, od_read_number, .func (PySem.W.fnOf "read_number" "read_number" (defArgs s_read_number) (defBody s_read_number) (defScope s_read_number) .none kV_read_number dc_read_number pm_read_number an_read_number cd_read_number ct_read_number), sl_read_number⟩)
    (q_read_number : PySem.W.codeIn K cd_read_number "read_number" = true)
    (k_read_number : PySem.W.keepIn K (.ref f_read_number) = true)
    (a_number_in : PySem.W.nsIn K mainGlobals "number_in" = some (some (.ref f_number_in)))
    (l_number_in : K.lookup f_number_in = some ⟨oc_number_in, od_number_in, .func (PySem.W.fnOf "number_in" "number_in" (defArgs s_number_in) (defBody s_number_in) (defScope s_number_in) .none kV_number_in dc_number_in pm_number_in an_number_in cd_number_in ct_number_in), sl_number_in⟩)
    (q_number_in : PySem.W.codeIn K cd_number_in "number_in" = true)
    (k_number_in : PySem.W.keepIn K (.ref f_number_in) = true)
    (a_read_row : PySem.W.nsIn K mainGlobals "read_row" = some (some (.ref f_read_row)))
    (l_read_row : K.lookup f_read_row = some ⟨oc_read_row, od_read_row, .func (PySem.W.fnOf "read_row" "read_row" (defArgs s_read_row) (defBody s_read_row) (defScope s_read_row) .none kV_read_row dc_read_row pm_read_row an_read_row cd_read_row ct_read_row), sl_read_row⟩)
    (q_read_row : PySem.W.codeIn K cd_read_row "read_row" = true)
    (k_read_row : PySem.W.keepIn K (.ref f_read_row) = true)
    (a_Desk_say : PySem.W.findIn K (.ref c_Desk) "say" = some (some (.ref f_Desk_say)))
    (i_Desk_say : PySem.W.isFn K (.ref f_Desk_say) = true)
    (l_Desk_say : K.lookup f_Desk_say = some ⟨oc_Desk_say, od_Desk_say, .func (PySem.W.fnOf "say" "Desk.say" (defArgs s_Desk_say) (defBody s_Desk_say) (defScope s_Desk_say) .none kV_Desk_say dc_Desk_say pm_Desk_say an_Desk_say cd_Desk_say ct_Desk_say), sl_Desk_say⟩)
    (q_Desk_say : PySem.W.codeIn K cd_Desk_say "Desk.say" = true)
    (k_Desk_say : PySem.W.keepIn K (.ref f_Desk_say) = true)
    (a__law_changes : PySem.W.nsIn K mainGlobals "_law_changes" = some (some (.ref f__law_changes)))
    (l__law_changes : K.lookup f__law_changes = some ⟨oc__law_changes, od__law_changes, .func (PySem.W.fnOf "_law_changes" "_law_changes" (defArgs s__law_changes) (defBody s__law_changes) (defScope s__law_changes) .none kV__law_changes dc__law_changes pm__law_changes an__law_changes cd__law_changes ct__law_changes), sl__law_changes⟩)
    (q__law_changes : PySem.W.codeIn K cd__law_changes "_law_changes" = true)
    (k__law_changes : PySem.W.keepIn K (.ref f__law_changes) = true)
    (a__law_is_number : PySem.W.nsIn K mainGlobals "_law_is_number" = some (some (.ref f__law_is_number)))
    (l__law_is_number : K.lookup f__law_is_number = some ⟨oc__law_is_number, od__law_is_number, .func (PySem.W.fnOf "_law_is_number" "_law_is_number" (defArgs s__law_is_number) (defBody s__law_is_number) (defScope s__law_is_number) .none kV__law_is_number dc__law_is_number pm__law_is_number an__law_is_number cd__law_is_number ct__law_is_number), sl__law_is_number⟩)
    (q__law_is_number : PySem.W.codeIn K cd__law_is_number "_law_is_number" = true)
    (k__law_is_number : PySem.W.keepIn K (.ref f__law_is_number) = true)
    (a__law_is_place : PySem.W.nsIn K mainGlobals "_law_is_place" = some (some (.ref f__law_is_place)))
    (l__law_is_place : K.lookup f__law_is_place = some ⟨oc__law_is_place, od__law_is_place, .func (PySem.W.fnOf "_law_is_place" "_law_is_place" (defArgs s__law_is_place) (defBody s__law_is_place) (defScope s__law_is_place) .none kV__law_is_place dc__law_is_place pm__law_is_place an__law_is_place cd__law_is_place ct__law_is_place), sl__law_is_place⟩)
    (q__law_is_place : PySem.W.codeIn K cd__law_is_place "_law_is_place" = true)
    (k__law_is_place : PySem.W.keepIn K (.ref f__law_is_place) = true)
    (a__law_one_due : PySem.W.nsIn K mainGlobals "_law_one_due" = some (some (.ref f__law_one_due)))
    (l__law_one_due : K.lookup f__law_one_due = some ⟨oc__law_one_due, od__law_one_due, .func (PySem.W.fnOf "_law_one_due" "_law_one_due" (defArgs s__law_one_due) (defBody s__law_one_due) (defScope s__law_one_due) .none kV__law_one_due dc__law_one_due pm__law_one_due an__law_one_due cd__law_one_due ct__law_one_due), sl__law_one_due⟩)
    (q__law_one_due : PySem.W.codeIn K cd__law_one_due "_law_one_due" = true)
    (k__law_one_due : PySem.W.keepIn K (.ref f__law_one_due) = true)
    (a__law_two_due : PySem.W.nsIn K mainGlobals "_law_two_due" = some (some (.ref f__law_two_due)))
    (l__law_two_due : K.lookup f__law_two_due = some ⟨oc__law_two_due, od__law_two_due, .func (PySem.W.fnOf "_law_two_due" "_law_two_due" (defArgs s__law_two_due) (defBody s__law_two_due) (defScope s__law_two_due) .none kV__law_two_due dc__law_two_due pm__law_two_due an__law_two_due cd__law_two_due ct__law_two_due), sl__law_two_due⟩)
    (q__law_two_due : PySem.W.codeIn K cd__law_two_due "_law_two_due" = true)
    (k__law_two_due : PySem.W.keepIn K (.ref f__law_two_due) = true)
    (a__law_due : PySem.W.nsIn K mainGlobals "_law_due" = some (some (.ref f__law_due)))
    (l__law_due : K.lookup f__law_due = some ⟨oc__law_due, od__law_due, .func (PySem.W.fnOf "_law_due" "_law_due" (defArgs s__law_due) (defBody s__law_due) (defScope s__law_due) .none kV__law_due dc__law_due pm__law_due an__law_due cd__law_due ct__law_due), sl__law_due⟩)
    (q__law_due : PySem.W.codeIn K cd__law_due "_law_due" = true)
    (k__law_due : PySem.W.keepIn K (.ref f__law_due) = true)
    (a__law_met : PySem.W.nsIn K mainGlobals "_law_met" = some (some (.ref f__law_met)))
    (l__law_met : K.lookup f__law_met = some ⟨oc__law_met, od__law_met, .func (PySem.W.fnOf "_law_met" "_law_met" (defArgs s__law_met) (defBody s__law_met) (defScope s__law_met) .none kV__law_met dc__law_met pm__law_met an__law_met cd__law_met ct__law_met), sl__law_met⟩)
    (q__law_met : PySem.W.codeIn K cd__law_met "_law_met" = true)
    (k__law_met : PySem.W.keepIn K (.ref f__law_met) = true)
    (a__law_size : PySem.W.nsIn K mainGlobals "_law_size" = some (some (.ref f__law_size)))
    (l__law_size : K.lookup f__law_size = some ⟨oc__law_size, od__law_size, .func (PySem.W.fnOf "_law_size" "_law_size" (defArgs s__law_size) (defBody s__law_size) (defScope s__law_size) .none kV__law_size dc__law_size pm__law_size an__law_size cd__law_size ct__law_size), sl__law_size⟩)
    (q__law_size : PySem.W.codeIn K cd__law_size "_law_size" = true)
    (k__law_size : PySem.W.keepIn K (.ref f__law_size) = true)
    (a__law_things_right : PySem.W.nsIn K mainGlobals "_law_things_right" = some (some (.ref f__law_things_right)))
    (l__law_things_right : K.lookup f__law_things_right = some ⟨oc__law_things_right, od__law_things_right, .func (PySem.W.fnOf "_law_things_right" "_law_things_right" (defArgs s__law_things_right) (defBody s__law_things_right) (defScope s__law_things_right) .none kV__law_things_right dc__law_things_right pm__law_things_right an__law_things_right cd__law_things_right ct__law_things_right), sl__law_things_right⟩)
    (q__law_things_right : PySem.W.codeIn K cd__law_things_right "_law_things_right" = true)
    (k__law_things_right : PySem.W.keepIn K (.ref f__law_things_right) = true)
    (a__law_undone : PySem.W.nsIn K mainGlobals "_law_undone" = some (some (.ref f__law_undone)))
    (l__law_undone : K.lookup f__law_undone = some ⟨oc__law_undone, od__law_undone, .func (PySem.W.fnOf "_law_undone" "_law_undone" (defArgs s__law_undone) (defBody s__law_undone) (defScope s__law_undone) .none kV__law_undone dc__law_undone pm__law_undone an__law_undone cd__law_undone ct__law_undone), sl__law_undone⟩)
    (q__law_undone : PySem.W.codeIn K cd__law_undone "_law_undone" = true)
    (k__law_undone : PySem.W.keepIn K (.ref f__law_undone) = true)
    (a__law_deck : PySem.W.nsIn K mainGlobals "_law_deck" = some (some (.ref f__law_deck)))
    (l__law_deck : K.lookup f__law_deck = some ⟨oc__law_deck, od__law_deck, .func (PySem.W.fnOf "_law_deck" "_law_deck" (defArgs s__law_deck) (defBody s__law_deck) (defScope s__law_deck) .none kV__law_deck dc__law_deck pm__law_deck an__law_deck cd__law_deck ct__law_deck), sl__law_deck⟩)
    (q__law_deck : PySem.W.codeIn K cd__law_deck "_law_deck" = true)
    (k__law_deck : PySem.W.keepIn K (.ref f__law_deck) = true)
    (a__law_take : PySem.W.nsIn K mainGlobals "_law_take" = some (some (.ref f__law_take)))
    (l__law_take : K.lookup f__law_take = some ⟨oc__law_take, od__law_take, .func (PySem.W.fnOf "_law_take" "_law_take" (defArgs s__law_take) (defBody s__law_take) (defScope s__law_take) .none kV__law_take dc__law_take pm__law_take an__law_take cd__law_take ct__law_take), sl__law_take⟩)
    (q__law_take : PySem.W.codeIn K cd__law_take "_law_take" = true)
    (k__law_take : PySem.W.keepIn K (.ref f__law_take) = true)
    (a__law_figure : PySem.W.nsIn K mainGlobals "_law_figure" = some (some (.ref f__law_figure)))
    (l__law_figure : K.lookup f__law_figure = some ⟨oc__law_figure, od__law_figure, .func (PySem.W.fnOf "_law_figure" "_law_figure" (defArgs s__law_figure) (defBody s__law_figure) (defScope s__law_figure) .none kV__law_figure dc__law_figure pm__law_figure an__law_figure cd__law_figure ct__law_figure), sl__law_figure⟩)
    (q__law_figure : PySem.W.codeIn K cd__law_figure "_law_figure" = true)
    (k__law_figure : PySem.W.keepIn K (.ref f__law_figure) = true)
    (a__law_place : PySem.W.nsIn K mainGlobals "_law_place" = some (some (.ref f__law_place)))
    (l__law_place : K.lookup f__law_place = some ⟨oc__law_place, od__law_place, .func (PySem.W.fnOf "_law_place" "_law_place" (defArgs s__law_place) (defBody s__law_place) (defScope s__law_place) .none kV__law_place dc__law_place pm__law_place an__law_place cd__law_place ct__law_place), sl__law_place⟩)
    (q__law_place : PySem.W.codeIn K cd__law_place "_law_place" = true)
    (k__law_place : PySem.W.keepIn K (.ref f__law_place) = true)
    (a__law_text : PySem.W.nsIn K mainGlobals "_law_text" = some (some (.ref f__law_text)))
    (l__law_text : K.lookup f__law_text = some ⟨oc__law_text, od__law_text, .func (PySem.W.fnOf "_law_text" "_law_text" (defArgs s__law_text) (defBody s__law_text) (defScope s__law_text) .none kV__law_text dc__law_text pm__law_text an__law_text cd__law_text ct__law_text), sl__law_text⟩)
    (q__law_text : PySem.W.codeIn K cd__law_text "_law_text" = true)
    (k__law_text : PySem.W.keepIn K (.ref f__law_text) = true)
    (a__law_words : PySem.W.nsIn K mainGlobals "_law_words" = some (some (.ref f__law_words)))
    (l__law_words : K.lookup f__law_words = some ⟨oc__law_words, od__law_words, .func (PySem.W.fnOf "_law_words" "_law_words" (defArgs s__law_words) (defBody s__law_words) (defScope s__law_words) .none kV__law_words dc__law_words pm__law_words an__law_words cd__law_words ct__law_words), sl__law_words⟩)
    (q__law_words : PySem.W.codeIn K cd__law_words "_law_words" = true)
    (k__law_words : PySem.W.keepIn K (.ref f__law_words) = true)
    (a_law : PySem.W.nsIn K mainGlobals "law" = some (some (.ref f_law)))
    (l_law : K.lookup f_law = some ⟨oc_law, od_law, .func (PySem.W.fnOf "law" "law" (defArgs s_law) (defBody s_law) (defScope s_law) .none kV_law dc_law pm_law an_law cd_law ct_law), sl_law⟩)
    (q_law : PySem.W.codeIn K cd_law "law" = true)
    (k_law : PySem.W.keepIn K (.ref f_law) = true)
    (x_NoPlace : PySem.W.excIn K c_NoPlace [.type "ValueError", .type "Exception", .type "BaseException", .type "object"] "ValueError.__new__" = true)
    (k_NoPlace : PySem.W.keepIn K (.ref c_NoPlace) = true)
    (x_NoWindow : PySem.W.excIn K c_NoWindow [.type "ValueError", .type "Exception", .type "BaseException", .type "object"] "ValueError.__new__" = true)
    (k_NoWindow : PySem.W.keepIn K (.ref c_NoWindow) = true)
    (x_NoCommand : PySem.W.excIn K c_NoCommand [.type "ValueError", .type "Exception", .type "BaseException", .type "object"] "ValueError.__new__" = true)
    (k_NoCommand : PySem.W.keepIn K (.ref c_NoCommand) = true)
    (x_NoRow : PySem.W.excIn K c_NoRow [.type "ValueError", .type "Exception", .type "BaseException", .type "object"] "ValueError.__new__" = true)
    (k_NoRow : PySem.W.keepIn K (.ref c_NoRow) = true)
    (b_NoCommand : PySem.W.subIn K (.ref c_NoCommand) (.type "BaseException") = some true)
    (t_NoCommand : PySem.W.typeIn K (.ref c_NoCommand) = some (.type "type"))
    (h_NoCommand : PySem.W.hasDictIn K c_NoCommand = true)
    (b_NoPlace : PySem.W.subIn K (.ref c_NoPlace) (.type "BaseException") = some true)
    (t_NoPlace : PySem.W.typeIn K (.ref c_NoPlace) = some (.type "type"))
    (h_NoPlace : PySem.W.hasDictIn K c_NoPlace = true)
    (b_NoRow : PySem.W.subIn K (.ref c_NoRow) (.type "BaseException") = some true)
    (t_NoRow : PySem.W.typeIn K (.ref c_NoRow) = some (.type "type"))
    (h_NoRow : PySem.W.hasDictIn K c_NoRow = true)
    (b_NoWindow : PySem.W.subIn K (.ref c_NoWindow) (.type "BaseException") = some true)
    (t_NoWindow : PySem.W.typeIn K (.ref c_NoWindow) = some (.type "type"))
    (h_NoWindow : PySem.W.hasDictIn K c_NoWindow = true)
    (b_RowError : PySem.W.subIn K (.ref c_RowError) (.type "BaseException") = some true)
    (t_RowError : PySem.W.typeIn K (.ref c_RowError) = some (.type "type"))
    (h_RowError : PySem.W.hasDictIn K c_RowError = true)
    (s_NoPlace_NoRow : PySem.W.subIn K (.ref c_NoPlace) (.ref c_NoRow) = some false)
    (s_NoPlace_RowError : PySem.W.subIn K (.ref c_NoPlace) (.ref c_RowError) = some true)
    (q_NoPlace_NoCommand : PySem.W.kitOne K (.ref c_NoPlace) (.ref c_NoCommand) = some false)
    (q_NoPlace_NoRow : PySem.W.kitOne K (.ref c_NoPlace) (.ref c_NoRow) = some false)
    (q_NoPlace_NoNeeds : PySem.W.kitOne K (.ref c_NoPlace) (.ref c_NoNeeds) = some false)
    (q_NoPlace_NoTable : PySem.W.kitOne K (.ref c_NoPlace) (.ref c_NoTable) = some false)
    (q_NoPlace_NoWindow : PySem.W.kitOne K (.ref c_NoPlace) (.ref c_NoWindow) = some false)
    (q_NoPlace_NoPlace : PySem.W.kitOne K (.ref c_NoPlace) (.ref c_NoPlace) = some true)
    (q_NoPlace_ValueError : PySem.W.kitOne K (.ref c_NoPlace) (.type "ValueError") = some true)
    (Ehg_NoPlace : PySem.W.findIn K (.ref c_NoPlace) "__getattribute__" = some (some (.builtin "BaseException.__getattribute__")))
    (Ehk_NoPlace : PySem.W.findIn K (.ref c_NoPlace) "__getattr__" = some none)
    (Eha_NoPlace : PySem.W.findIn K (.ref c_NoPlace) "__class__" = some (some (.builtin "object.__class__")))
    (Ehm_NoPlace : PySem.W.mroIn K c_NoPlace (.type "object") = some true)
    (s_NoWindow_NoRow : PySem.W.subIn K (.ref c_NoWindow) (.ref c_NoRow) = some false)
    (s_NoWindow_RowError : PySem.W.subIn K (.ref c_NoWindow) (.ref c_RowError) = some true)
    (q_NoWindow_NoCommand : PySem.W.kitOne K (.ref c_NoWindow) (.ref c_NoCommand) = some false)
    (q_NoWindow_NoRow : PySem.W.kitOne K (.ref c_NoWindow) (.ref c_NoRow) = some false)
    (q_NoWindow_NoNeeds : PySem.W.kitOne K (.ref c_NoWindow) (.ref c_NoNeeds) = some false)
    (q_NoWindow_NoTable : PySem.W.kitOne K (.ref c_NoWindow) (.ref c_NoTable) = some false)
    (q_NoWindow_NoWindow : PySem.W.kitOne K (.ref c_NoWindow) (.ref c_NoWindow) = some true)
    (q_NoWindow_NoPlace : PySem.W.kitOne K (.ref c_NoWindow) (.ref c_NoPlace) = some false)
    (q_NoWindow_ValueError : PySem.W.kitOne K (.ref c_NoWindow) (.type "ValueError") = some true)
    (Ehg_NoWindow : PySem.W.findIn K (.ref c_NoWindow) "__getattribute__" = some (some (.builtin "BaseException.__getattribute__")))
    (Ehk_NoWindow : PySem.W.findIn K (.ref c_NoWindow) "__getattr__" = some none)
    (Eha_NoWindow : PySem.W.findIn K (.ref c_NoWindow) "__class__" = some (some (.builtin "object.__class__")))
    (Ehm_NoWindow : PySem.W.mroIn K c_NoWindow (.type "object") = some true)
    (s_NoCommand_NoRow : PySem.W.subIn K (.ref c_NoCommand) (.ref c_NoRow) = some false)
    (s_NoCommand_RowError : PySem.W.subIn K (.ref c_NoCommand) (.ref c_RowError) = some true)
    (q_NoCommand_NoCommand : PySem.W.kitOne K (.ref c_NoCommand) (.ref c_NoCommand) = some true)
    (q_NoCommand_NoRow : PySem.W.kitOne K (.ref c_NoCommand) (.ref c_NoRow) = some false)
    (q_NoCommand_NoNeeds : PySem.W.kitOne K (.ref c_NoCommand) (.ref c_NoNeeds) = some false)
    (q_NoCommand_NoTable : PySem.W.kitOne K (.ref c_NoCommand) (.ref c_NoTable) = some false)
    (q_NoCommand_NoWindow : PySem.W.kitOne K (.ref c_NoCommand) (.ref c_NoWindow) = some false)
    (q_NoCommand_NoPlace : PySem.W.kitOne K (.ref c_NoCommand) (.ref c_NoPlace) = some false)
    (q_NoCommand_ValueError : PySem.W.kitOne K (.ref c_NoCommand) (.type "ValueError") = some true)
    (Ehg_NoCommand : PySem.W.findIn K (.ref c_NoCommand) "__getattribute__" = some (some (.builtin "BaseException.__getattribute__")))
    (Ehk_NoCommand : PySem.W.findIn K (.ref c_NoCommand) "__getattr__" = some none)
    (Eha_NoCommand : PySem.W.findIn K (.ref c_NoCommand) "__class__" = some (some (.builtin "object.__class__")))
    (Ehm_NoCommand : PySem.W.mroIn K c_NoCommand (.type "object") = some true)
    (s_NoRow_NoRow : PySem.W.subIn K (.ref c_NoRow) (.ref c_NoRow) = some true)
    (s_NoRow_RowError : PySem.W.subIn K (.ref c_NoRow) (.ref c_RowError) = some true)
    (q_NoRow_NoCommand : PySem.W.kitOne K (.ref c_NoRow) (.ref c_NoCommand) = some false)
    (q_NoRow_NoRow : PySem.W.kitOne K (.ref c_NoRow) (.ref c_NoRow) = some true)
    (q_NoRow_NoNeeds : PySem.W.kitOne K (.ref c_NoRow) (.ref c_NoNeeds) = some false)
    (q_NoRow_NoTable : PySem.W.kitOne K (.ref c_NoRow) (.ref c_NoTable) = some false)
    (q_NoRow_NoWindow : PySem.W.kitOne K (.ref c_NoRow) (.ref c_NoWindow) = some false)
    (q_NoRow_NoPlace : PySem.W.kitOne K (.ref c_NoRow) (.ref c_NoPlace) = some false)
    (q_NoRow_ValueError : PySem.W.kitOne K (.ref c_NoRow) (.type "ValueError") = some true)
    (Ehg_NoRow : PySem.W.findIn K (.ref c_NoRow) "__getattribute__" = some (some (.builtin "BaseException.__getattribute__")))
    (Ehk_NoRow : PySem.W.findIn K (.ref c_NoRow) "__getattr__" = some none)
    (Eha_NoRow : PySem.W.findIn K (.ref c_NoRow) "__class__" = some (some (.builtin "object.__class__")))
    (Ehm_NoRow : PySem.W.mroIn K c_NoRow (.type "object") = some true)
    (Ehn : PySem.W.specialIn K (.builtin "object.__class__") "__get__" = some (some (.builtin "getset_descriptor.__get__")))
    (Eht : PySem.W.takesIn K (.builtin "object.__class__") = some true)
    (a_FIGURES_desk : PySem.W.nsIn K mainGlobals "FIGURES_desk" = some (some (.str (Str.ofString "0123456789") t_FIGURES_desk)))
    (a_MOST_FIGURES_desk : PySem.W.nsIn K mainGlobals "MOST_FIGURES_desk" = some (some (.int 6 t_MOST_FIGURES_desk)))
    (a_MOST_FIGURES_notes : PySem.W.nsIn K mainGlobals "MOST_FIGURES_notes" = some (some (.int 30 t_MOST_FIGURES_notes)))
    (a_FIGURES_notes : PySem.W.nsIn K mainGlobals "FIGURES_notes" = some (some (.str (Str.ofString "0123456789") t_FIGURES_notes)))
    (a_WORDS : PySem.W.nsIn K mainGlobals "WORDS" = some (some (.ref d_WORDS)))
    (l_WORDS : K.lookup d_WORDS = some ⟨.type "dict", none, .dict es_WORDS n_WORDS, #[]⟩)
    (y_WORDS : PySem.W.KeysLit w.params es_WORDS.toList) (w_WORDS : es_WORDS.toList.map KGet.kvOf = tab_WORDS.map some) (o_WORDS : (d_WORDS == sysModules) = false)
    (z_ValueError : PySem.W.nsIn K mainGlobals "ValueError" = some none)
    (z_all : PySem.W.nsIn K mainGlobals "all" = some none)
    (z_bool : PySem.W.nsIn K mainGlobals "bool" = some none)
    (z_enumerate : PySem.W.nsIn K mainGlobals "enumerate" = some none)
    (z_int : PySem.W.nsIn K mainGlobals "int" = some none)
    (z_isinstance : PySem.W.nsIn K mainGlobals "isinstance" = some none)
    (z_len : PySem.W.nsIn K mainGlobals "len" = some none)
    (z_list : PySem.W.nsIn K mainGlobals "list" = some none)
    (z_max : PySem.W.nsIn K mainGlobals "max" = some none)
    (z_min : PySem.W.nsIn K mainGlobals "min" = some none)
    (z_range : PySem.W.nsIn K mainGlobals "range" = some none)
    (z_str : PySem.W.nsIn K mainGlobals "str" = some none)
    (z_sum : PySem.W.nsIn K mainGlobals "sum" = some none)
    : ∃ fd : FuncData, (∀ (s : Shared) (v : Value), BindsTo s fd ⟨[v], []⟩ [("script", v)]) ∧ ∀ base : Heap, K.In base → base.Ns mainGlobals mg → FnOk l.prog w K mg base CX0 11 fa fd ["script"] (sp_law K) := by
  have e0 := (PySem.W.mg_of X G a_law).symm.trans hfa
  have e : f_law = fa := by injection e0 with e0; injection e0
  subst e
  have F_Live___init__ := fun_mk (st := s_Live___init__) l_Live___init__ q_Live___init__ k_Live___init__
  have b_Live___init__ := F_Live___init__.binds (ps := ["self", "row"]) fun _ _ _ _ _ _ us hl => match us, hl with | [_, _], _ => rfl
  have F_Desk___init__ := fun_mk (st := s_Desk___init__) l_Desk___init__ q_Desk___init__ k_Desk___init__
  have b_Desk___init__ := F_Desk___init__.binds (ps := ["self"]) fun _ _ _ _ _ _ us hl => match us, hl with | [_], _ => rfl
  have F_Live_need_place := fun_mk (st := s_Live_need_place) l_Live_need_place q_Live_need_place k_Live_need_place
  have b_Live_need_place := F_Live_need_place.binds (ps := ["self", "place", "most"]) fun _ _ _ _ _ _ us hl => match us, hl with | [_, _, _], _ => rfl
  have F_Live_laid := fun_mk (st := s_Live_laid) l_Live_laid q_Live_laid k_Live_laid
  have b_Live_laid := F_Live_laid.binds (ps := ["self", "place", "many", "numbers"]) fun _ _ _ _ _ _ us hl => match us, hl with | [_, _, _, _], _ => rfl
  have F_Live_noted := fun_mk (st := s_Live_noted) l_Live_noted q_Live_noted k_Live_noted
  have b_Live_noted := F_Live_noted.binds (ps := ["self", "place", "many", "numbers"]) fun _ _ _ _ _ _ us hl => match us, hl with | [_, _, _, _], _ => rfl
  have F_Live_change := fun_mk (st := s_Live_change) l_Live_change q_Live_change k_Live_change
  have b_Live_change := F_Live_change.binds (ps := ["self", "place", "number"]) fun _ _ _ _ _ _ us hl => match us, hl with | [_, _, _], _ => rfl
  have F_last_places := fun_mk (st := s_last_places) l_last_places q_last_places k_last_places
  have b_last_places := F_last_places.binds (ps := ["row"]) fun _ _ _ _ _ _ us hl => match us, hl with | [_], _ => rfl
  have F_next_places := fun_mk (st := s_next_places) l_next_places q_next_places k_next_places
  have b_next_places := F_next_places.binds (ps := ["row"]) fun _ _ _ _ _ _ us hl => match us, hl with | [_], _ => rfl
  have F_Ready___init__ := fun_mk (st := s_Ready___init__) l_Ready___init__ q_Ready___init__ k_Ready___init__
  have b_Ready___init__ := F_Ready___init__.binds (ps := ["self", "row"]) fun _ _ _ _ _ _ us hl => match us, hl with | [_, _], _ => rfl
  have F_Live_ready := fun_mk (st := s_Live_ready) l_Live_ready q_Live_ready k_Live_ready
  have b_Live_ready := F_Live_ready.binds (ps := ["self"]) fun _ _ _ _ _ _ us hl => match us, hl with | [_], _ => rfl
  have F_is_whole := fun_mk (st := s_is_whole) l_is_whole q_is_whole k_is_whole
  have b_is_whole := F_is_whole.binds (ps := ["thing"]) fun _ _ _ _ _ _ us hl => match us, hl with | [_], _ => rfl
  have F_Ready_need_place := fun_mk (st := s_Ready_need_place) l_Ready_need_place q_Ready_need_place k_Ready_need_place
  have b_Ready_need_place := F_Ready_need_place.binds (ps := ["self", "place"]) fun _ _ _ _ _ _ us hl => match us, hl with | [_, _], _ => rfl
  have F_Ready_need_window := fun_mk (st := s_Ready_need_window) l_Ready_need_window q_Ready_need_window k_Ready_need_window
  have b_Ready_need_window := F_Ready_need_window.binds (ps := ["self", "first", "behind"]) fun _ _ _ _ _ _ us hl => match us, hl with | [_, _, _], _ => rfl
  have F_Ready_firsts := fun_mk (st := s_Ready_firsts) l_Ready_firsts q_Ready_firsts k_Ready_firsts
  have b_Ready_firsts := F_Ready_firsts.binds (ps := ["self", "first", "behind"]) fun _ _ _ _ _ _ us hl => match us, hl with | [_, _, _], _ => rfl
  have F_Live_firsts := fun_mk (st := s_Live_firsts) l_Live_firsts q_Live_firsts k_Live_firsts
  have b_Live_firsts := F_Live_firsts.binds (ps := ["self", "first", "behind"]) fun _ _ _ _ _ _ us hl => match us, hl with | [_, _, _], _ => rfl
  have F_Live_put := fun_mk (st := s_Live_put) l_Live_put q_Live_put k_Live_put
  have b_Live_put := F_Live_put.binds (ps := ["self", "place", "number"]) fun _ _ _ _ _ _ us hl => match us, hl with | [_, _, _], _ => rfl
  have F_Ready_unlike := fun_mk (st := s_Ready_unlike) l_Ready_unlike q_Ready_unlike k_Ready_unlike
  have b_Ready_unlike := F_Ready_unlike.binds (ps := ["self", "first", "behind"]) fun _ _ _ _ _ _ us hl => match us, hl with | [_, _, _], _ => rfl
  have F_Live_unlike := fun_mk (st := s_Live_unlike) l_Live_unlike q_Live_unlike k_Live_unlike
  have b_Live_unlike := F_Live_unlike.binds (ps := ["self", "first", "behind"]) fun _ _ _ _ _ _ us hl => match us, hl with | [_, _, _], _ => rfl
  have F_show_row := fun_mk (st := s_show_row) l_show_row q_show_row k_show_row
  have b_show_row := F_show_row.binds (ps := ["row"]) fun _ _ _ _ _ _ us hl => match us, hl with | [_], _ => rfl
  have F_Desk_asked := fun_mk (st := s_Desk_asked) l_Desk_asked q_Desk_asked k_Desk_asked
  have b_Desk_asked := F_Desk_asked.binds (ps := ["self", "head", "one", "other"]) fun _ _ _ _ _ _ us hl => match us, hl with | [_, _, _, _], _ => rfl
  have F_Live_row := fun_mk (st := s_Live_row) l_Live_row q_Live_row k_Live_row
  have b_Live_row := F_Live_row.binds (ps := ["self"]) fun _ _ _ _ _ _ us hl => match us, hl with | [_], _ => rfl
  have F_Live_take := fun_mk (st := s_Live_take) l_Live_take q_Live_take k_Live_take
  have b_Live_take := F_Live_take.binds (ps := ["self", "place"]) fun _ _ _ _ _ _ us hl => match us, hl with | [_, _], _ => rfl
  have F_fewest := fun_mk (st := s_fewest) l_fewest q_fewest k_fewest
  have b_fewest := F_fewest.binds (ps := ["row", "many"]) fun _ _ _ _ _ _ us hl => match us, hl with | [_, _], _ => rfl
  have F_Held___init__ := fun_mk (st := s_Held___init__) l_Held___init__ q_Held___init__ k_Held___init__
  have b_Held___init__ := F_Held___init__.binds (ps := ["self"]) fun _ _ _ _ _ _ us hl => match us, hl with | [_], _ => rfl
  have F_Held_come := fun_mk (st := s_Held_come) l_Held_come q_Held_come k_Held_come
  have b_Held_come := F_Held_come.binds (ps := ["self", "number"]) fun _ _ _ _ _ _ us hl => match us, hl with | [_, _], _ => rfl
  have F_Held_gone := fun_mk (st := s_Held_gone) l_Held_gone q_Held_gone k_Held_gone
  have b_Held_gone := F_Held_gone.binds (ps := ["self", "number"]) fun _ _ _ _ _ _ us hl => match us, hl with | [_, _], _ => rfl
  have F_Held_unlike := fun_mk (st := s_Held_unlike) l_Held_unlike q_Held_unlike k_Held_unlike
  have b_Held_unlike := F_Held_unlike.binds (ps := ["self"]) fun _ _ _ _ _ _ us hl => match us, hl with | [_], _ => rfl
  have F_ends_by := fun_mk (st := s_ends_by) l_ends_by q_ends_by k_ends_by
  have b_ends_by := F_ends_by.binds (ps := ["row", "many"]) fun _ _ _ _ _ _ us hl => match us, hl with | [_, _], _ => rfl
  have F_ends_within := fun_mk (st := s_ends_within) l_ends_within q_ends_within k_ends_within
  have b_ends_within := F_ends_within.binds (ps := ["row", "many"]) fun _ _ _ _ _ _ us hl => match us, hl with | [_, _], _ => rfl
  have F_stretches := fun_mk (st := s_stretches) l_stretches q_stretches k_stretches
  have b_stretches := F_stretches.binds (ps := ["row", "many"]) fun _ _ _ _ _ _ us hl => match us, hl with | [_, _], _ => rfl
  have F_how_many := fun_mk (st := s_how_many) l_how_many q_how_many k_how_many
  have b_how_many := F_how_many.binds (ps := ["row", "many"]) fun _ _ _ _ _ _ us hl => match us, hl with | [_, _], _ => rfl
  have F_need_width := fun_mk (st := s_need_width) l_need_width q_need_width k_need_width
  have b_need_width := F_need_width.binds (ps := ["row", "width"]) fun _ _ _ _ _ _ us hl => match us, hl with | [_, _], _ => rfl
  have F_slid := fun_mk (st := s_slid) l_slid q_slid k_slid
  have b_slid := F_slid.binds (ps := ["lasts", "nexts", "width"]) fun _ _ _ _ _ _ us hl => match us, hl with | [_, _, _], _ => rfl
  have F_of_width := fun_mk (st := s_of_width) l_of_width q_of_width k_of_width
  have b_of_width := F_of_width.binds (ps := ["row", "width"]) fun _ _ _ _ _ _ us hl => match us, hl with | [_, _], _ => rfl
  have F_least_of := fun_mk (st := s_least_of) l_least_of q_least_of k_least_of
  have b_least_of := F_least_of.binds (ps := ["row", "width"]) fun _ _ _ _ _ _ us hl => match us, hl with | [_, _], _ => rfl
  have F_most_of := fun_mk (st := s_most_of) l_most_of q_most_of k_most_of
  have b_most_of := F_most_of.binds (ps := ["row", "width"]) fun _ _ _ _ _ _ us hl => match us, hl with | [_, _], _ => rfl
  have F_Desk_told := fun_mk (st := s_Desk_told) l_Desk_told q_Desk_told k_Desk_told
  have b_Desk_told := F_Desk_told.binds (ps := ["self", "head", "one"]) fun _ _ _ _ _ _ us hl => match us, hl with | [_, _, _], _ => rfl
  have F_Live_undo := fun_mk (st := s_Live_undo) l_Live_undo q_Live_undo k_Live_undo
  have b_Live_undo := F_Live_undo.binds (ps := ["self"]) fun _ _ _ _ _ _ us hl => match us, hl with | [_], _ => rfl
  have F_figures_in := fun_mk (st := s_figures_in) l_figures_in q_figures_in k_figures_in
  have b_figures_in := F_figures_in.binds (ps := ["word"]) fun _ _ _ _ _ _ us hl => match us, hl with | [_], _ => rfl
  have F_read_number := fun_mk (st := s_read_number) l_read_number q_read_number k_read_number
  have b_read_number := F_read_number.binds (ps := ["word"]) fun _ _ _ _ _ _ us hl => match us, hl with | [_], _ => rfl
  have F_number_in := fun_mk (st := s_number_in) l_number_in q_number_in k_number_in
  have b_number_in := F_number_in.binds (ps := ["word"]) fun _ _ _ _ _ _ us hl => match us, hl with | [_], _ => rfl
  have F_read_row := fun_mk (st := s_read_row) l_read_row q_read_row k_read_row
  have b_read_row := F_read_row.binds (ps := ["text"]) fun _ _ _ _ _ _ us hl => match us, hl with | [_], _ => rfl
  have F_Desk_say := fun_mk (st := s_Desk_say) l_Desk_say q_Desk_say k_Desk_say
  have b_Desk_say := F_Desk_say.binds (ps := ["self", "words"]) fun _ _ _ _ _ _ us hl => match us, hl with | [_, _], _ => rfl
  have F__law_changes := fun_mk (st := s__law_changes) l__law_changes q__law_changes k__law_changes
  have b__law_changes := F__law_changes.binds (ps := ["many", "words"]) fun _ _ _ _ _ _ us hl => match us, hl with | [_, _], _ => rfl
  have F__law_is_number := fun_mk (st := s__law_is_number) l__law_is_number q__law_is_number k__law_is_number
  have b__law_is_number := F__law_is_number.binds (ps := ["word"]) fun _ _ _ _ _ _ us hl => match us, hl with | [_], _ => rfl
  have F__law_is_place := fun_mk (st := s__law_is_place) l__law_is_place q__law_is_place k__law_is_place
  have b__law_is_place := F__law_is_place.binds (ps := ["word"]) fun _ _ _ _ _ _ us hl => match us, hl with | [_], _ => rfl
  have F__law_one_due := fun_mk (st := s__law_one_due) l__law_one_due q__law_one_due k__law_one_due
  have b__law_one_due := F__law_one_due.binds (ps := ["head", "one", "size"]) fun _ _ _ _ _ _ us hl => match us, hl with | [_, _, _], _ => rfl
  have F__law_two_due := fun_mk (st := s__law_two_due) l__law_two_due q__law_two_due k__law_two_due
  have b__law_two_due := F__law_two_due.binds (ps := ["head", "one", "other", "size"]) fun _ _ _ _ _ _ us hl => match us, hl with | [_, _, _, _], _ => rfl
  have F__law_due := fun_mk (st := s__law_due) l__law_due q__law_due k__law_due
  have b__law_due := F__law_due.binds (ps := ["words", "size"]) fun _ _ _ _ _ _ us hl => match us, hl with | [_, _], _ => rfl
  have F__law_met := fun_mk (st := s__law_met) l__law_met q__law_met k__law_met
  have b__law_met := F__law_met.binds (ps := ["desk", "words", "due"]) fun _ _ _ _ _ _ us hl => match us, hl with | [_, _, _], _ => rfl
  have F__law_size := fun_mk (st := s__law_size) l__law_size q__law_size k__law_size
  have b__law_size := F__law_size.binds (ps := ["shown"]) fun _ _ _ _ _ _ us hl => match us, hl with | [_], _ => rfl
  have F__law_things_right := fun_mk (st := s__law_things_right) l__law_things_right q__law_things_right k__law_things_right
  have b__law_things_right := F__law_things_right.binds (ps := []) fun _ _ _ _ _ _ us hl => match us, hl with | [], _ => rfl
  have F__law_undone := fun_mk (st := s__law_undone) l__law_undone q__law_undone k__law_undone
  have b__law_undone := F__law_undone.binds (ps := ["desk", "many"]) fun _ _ _ _ _ _ us hl => match us, hl with | [_, _], _ => rfl
  have F__law_deck := fun_mk (st := s__law_deck) l__law_deck q__law_deck k__law_deck
  have b__law_deck := F__law_deck.binds (ps := ["cell", "k"]) fun _ _ _ _ _ _ us hl => match us, hl with | [_, _], _ => rfl
  have F__law_take := fun_mk (st := s__law_take) l__law_take q__law_take k__law_take
  have b__law_take := F__law_take.binds (ps := ["deck", "many"]) fun _ _ _ _ _ _ us hl => match us, hl with | [_, _], _ => rfl
  have F__law_figure := fun_mk (st := s__law_figure) l__law_figure q__law_figure k__law_figure
  have b__law_figure := F__law_figure.binds (ps := ["deck"]) fun _ _ _ _ _ _ us hl => match us, hl with | [_], _ => rfl
  have F__law_place := fun_mk (st := s__law_place) l__law_place q__law_place k__law_place
  have b__law_place := F__law_place.binds (ps := ["deck"]) fun _ _ _ _ _ _ us hl => match us, hl with | [_], _ => rfl
  have F__law_text := fun_mk (st := s__law_text) l__law_text q__law_text k__law_text
  have b__law_text := F__law_text.binds (ps := ["deck"]) fun _ _ _ _ _ _ us hl => match us, hl with | [_], _ => rfl
  have F__law_words := fun_mk (st := s__law_words) l__law_words q__law_words k__law_words
  have b__law_words := F__law_words.binds (ps := ["cell"]) fun _ _ _ _ _ _ us hl => match us, hl with | [_], _ => rfl
  have F_law := fun_mk (st := s_law) l_law q_law k_law
  have b_law := F_law.binds (ps := ["script"]) fun _ _ _ _ _ _ us hl => match us, hl with | [_], _ => rfl
  have T : Txt w K mg { f_Live___init__ := f_Live___init__, d_Live___init__ := (PySem.W.fnOf "__init__" "Live.__init__" (defArgs s_Live___init__) (defBody s_Live___init__) (defScope s_Live___init__) .none kV_Live___init__ dc_Live___init__ pm_Live___init__ an_Live___init__ cd_Live___init__ ct_Live___init__), f_Desk___init__ := f_Desk___init__, d_Desk___init__ := (PySem.W.fnOf "__init__" "Desk.__init__" (defArgs s_Desk___init__) (defBody s_Desk___init__) (defScope s_Desk___init__) .none kV_Desk___init__ dc_Desk___init__ pm_Desk___init__ an_Desk___init__ cd_Desk___init__ ct_Desk___init__), f_Live_need_place := f_Live_need_place, d_Live_need_place := (PySem.W.fnOf "need_place" "Live.need_place" (defArgs s_Live_need_place) (defBody s_Live_need_place) (defScope s_Live_need_place) .none kV_Live_need_place dc_Live_need_place pm_Live_need_place an_Live_need_place cd_Live_need_place ct_Live_need_place), f_Live_laid := f_Live_laid, d_Live_laid := (PySem.W.fnOf "laid" "Live.laid" (defArgs s_Live_laid) (defBody s_Live_laid) (defScope s_Live_laid) .none kV_Live_laid dc_Live_laid pm_Live_laid an_Live_laid cd_Live_laid ct_Live_laid), f_Live_noted := f_Live_noted, d_Live_noted := (PySem.W.fnOf "noted" "Live.noted" (defArgs s_Live_noted) (defBody s_Live_noted) (defScope s_Live_noted) .none kV_Live_noted dc_Live_noted pm_Live_noted an_Live_noted cd_Live_noted ct_Live_noted), f_Live_change := f_Live_change, d_Live_change := (PySem.W.fnOf "change" "Live.change" (defArgs s_Live_change) (defBody s_Live_change) (defScope s_Live_change) .none kV_Live_change dc_Live_change pm_Live_change an_Live_change cd_Live_change ct_Live_change), f_last_places := f_last_places, d_last_places := (PySem.W.fnOf "last_places" "last_places" (defArgs s_last_places) (defBody s_last_places) (defScope s_last_places) .none kV_last_places dc_last_places pm_last_places an_last_places cd_last_places ct_last_places), f_next_places := f_next_places, d_next_places := (PySem.W.fnOf "next_places" "next_places" (defArgs s_next_places) (defBody s_next_places) (defScope s_next_places) .none kV_next_places dc_next_places pm_next_places an_next_places cd_next_places ct_next_places), f_Ready___init__ := f_Ready___init__, d_Ready___init__ := (PySem.W.fnOf "__init__" "Ready.__init__" (defArgs s_Ready___init__) (defBody s_Ready___init__) (defScope s_Ready___init__) .none kV_Ready___init__ dc_Ready___init__ pm_Ready___init__ an_Ready___init__ cd_Ready___init__ ct_Ready___init__), f_Live_ready := f_Live_ready, d_Live_ready := (PySem.W.fnOf "ready" "Live.ready" (defArgs s_Live_ready) (defBody s_Live_ready) (defScope s_Live_ready) .none kV_Live_ready dc_Live_ready pm_Live_ready an_Live_ready cd_Live_ready ct_Live_ready), f_is_whole := f_is_whole, d_is_whole := (PySem.W.fnOf "is_whole" "is_whole" (defArgs s_is_whole) (defBody s_is_whole) (defScope s_is_whole) .none kV_is_whole dc_is_whole pm_is_whole an_is_whole cd_is_whole ct_is_whole), f_Ready_need_place := f_Ready_need_place, d_Ready_need_place := (PySem.W.fnOf "need_place" "Ready.need_place" (defArgs s_Ready_need_place) (defBody s_Ready_need_place) (defScope s_Ready_need_place) .none kV_Ready_need_place dc_Ready_need_place pm_Ready_need_place an_Ready_need_place cd_Ready_need_place ct_Ready_need_place), f_Ready_need_window := f_Ready_need_window, d_Ready_need_window := (PySem.W.fnOf "need_window" "Ready.need_window" (defArgs s_Ready_need_window) (defBody s_Ready_need_window) (defScope s_Ready_need_window) .none kV_Ready_need_window dc_Ready_need_window pm_Ready_need_window an_Ready_need_window cd_Ready_need_window ct_Ready_need_window), f_Ready_firsts := f_Ready_firsts, d_Ready_firsts := (PySem.W.fnOf "firsts" "Ready.firsts" (defArgs s_Ready_firsts) (defBody s_Ready_firsts) (defScope s_Ready_firsts) .none kV_Ready_firsts dc_Ready_firsts pm_Ready_firsts an_Ready_firsts cd_Ready_firsts ct_Ready_firsts), f_Live_firsts := f_Live_firsts, d_Live_firsts := (PySem.W.fnOf "firsts" "Live.firsts" (defArgs s_Live_firsts) (defBody s_Live_firsts) (defScope s_Live_firsts) .none kV_Live_firsts dc_Live_firsts pm_Live_firsts an_Live_firsts cd_Live_firsts ct_Live_firsts), f_Live_put := f_Live_put, d_Live_put := (PySem.W.fnOf "put" "Live.put" (defArgs s_Live_put) (defBody s_Live_put) (defScope s_Live_put) .none kV_Live_put dc_Live_put pm_Live_put an_Live_put cd_Live_put ct_Live_put), f_Ready_unlike := f_Ready_unlike, d_Ready_unlike := (PySem.W.fnOf "unlike" "Ready.unlike" (defArgs s_Ready_unlike) (defBody s_Ready_unlike) (defScope s_Ready_unlike) .none kV_Ready_unlike dc_Ready_unlike pm_Ready_unlike an_Ready_unlike cd_Ready_unlike ct_Ready_unlike), f_Live_unlike := f_Live_unlike, d_Live_unlike := (PySem.W.fnOf "unlike" "Live.unlike" (defArgs s_Live_unlike) (defBody s_Live_unlike) (defScope s_Live_unlike) .none kV_Live_unlike dc_Live_unlike pm_Live_unlike an_Live_unlike cd_Live_unlike ct_Live_unlike), f_show_row := f_show_row, d_show_row := (PySem.W.fnOf "show_row" "show_row" (defArgs s_show_row) (defBody s_show_row) (defScope s_show_row) .none kV_show_row dc_show_row pm_show_row an_show_row cd_show_row ct_show_row), f_Desk_asked := f_Desk_asked, d_Desk_asked := (PySem.W.fnOf "asked" "Desk.asked" (defArgs s_Desk_asked) (defBody s_Desk_asked) (defScope s_Desk_asked) .none kV_Desk_asked dc_Desk_asked pm_Desk_asked an_Desk_asked cd_Desk_asked ct_Desk_asked), f_Live_row := f_Live_row, d_Live_row := (PySem.W.fnOf "row" "Live.row" (defArgs s_Live_row) (defBody s_Live_row) (defScope s_Live_row) .none kV_Live_row dc_Live_row pm_Live_row an_Live_row cd_Live_row ct_Live_row), f_Live_take := f_Live_take, d_Live_take := (PySem.W.fnOf "take" "Live.take" (defArgs s_Live_take) (defBody s_Live_take) (defScope s_Live_take) .none kV_Live_take dc_Live_take pm_Live_take an_Live_take cd_Live_take ct_Live_take), f_fewest := f_fewest, d_fewest := (PySem.W.fnOf "fewest" "fewest" (defArgs s_fewest) (defBody s_fewest) (defScope s_fewest) .none kV_fewest dc_fewest pm_fewest an_fewest cd_fewest ct_fewest), f_Held___init__ := f_Held___init__, d_Held___init__ := (PySem.W.fnOf "__init__" "Held.__init__" (defArgs s_Held___init__) (defBody s_Held___init__) (defScope s_Held___init__) .none kV_Held___init__ dc_Held___init__ pm_Held___init__ an_Held___init__ cd_Held___init__ ct_Held___init__), f_Held_come := f_Held_come, d_Held_come := (PySem.W.fnOf "come" "Held.come" (defArgs s_Held_come) (defBody s_Held_come) (defScope s_Held_come) .none kV_Held_come dc_Held_come pm_Held_come an_Held_come cd_Held_come ct_Held_come), f_Held_gone := f_Held_gone, d_Held_gone := (PySem.W.fnOf "gone" "Held.gone" (defArgs s_Held_gone) (defBody s_Held_gone) (defScope s_Held_gone) .none kV_Held_gone dc_Held_gone pm_Held_gone an_Held_gone cd_Held_gone ct_Held_gone), f_Held_unlike := f_Held_unlike, d_Held_unlike := (PySem.W.fnOf "unlike" "Held.unlike" (defArgs s_Held_unlike) (defBody s_Held_unlike) (defScope s_Held_unlike) .none kV_Held_unlike dc_Held_unlike pm_Held_unlike an_Held_unlike cd_Held_unlike ct_Held_unlike), f_ends_by := f_ends_by, d_ends_by := (PySem.W.fnOf "ends_by" "ends_by" (defArgs s_ends_by) (defBody s_ends_by) (defScope s_ends_by) .none kV_ends_by dc_ends_by pm_ends_by an_ends_by cd_ends_by ct_ends_by), f_ends_within := f_ends_within, d_ends_within := (PySem.W.fnOf "ends_within" "ends_within" (defArgs s_ends_within) (defBody s_ends_within) (defScope s_ends_within) .none kV_ends_within dc_ends_within pm_ends_within an_ends_within cd_ends_within ct_ends_within), f_stretches := f_stretches, d_stretches := (PySem.W.fnOf "stretches" "stretches" (defArgs s_stretches) (defBody s_stretches) (defScope s_stretches) .none kV_stretches dc_stretches pm_stretches an_stretches cd_stretches ct_stretches), f_how_many := f_how_many, d_how_many := (PySem.W.fnOf "how_many" "how_many" (defArgs s_how_many) (defBody s_how_many) (defScope s_how_many) .none kV_how_many dc_how_many pm_how_many an_how_many cd_how_many ct_how_many), f_need_width := f_need_width, d_need_width := (PySem.W.fnOf "need_width" "need_width" (defArgs s_need_width) (defBody s_need_width) (defScope s_need_width) .none kV_need_width dc_need_width pm_need_width an_need_width cd_need_width ct_need_width), f_slid := f_slid, d_slid := (PySem.W.fnOf "slid" "slid" (defArgs s_slid) (defBody s_slid) (defScope s_slid) .none kV_slid dc_slid pm_slid an_slid cd_slid ct_slid), f_of_width := f_of_width, d_of_width := (PySem.W.fnOf "of_width" "of_width" (defArgs s_of_width) (defBody s_of_width) (defScope s_of_width) .none kV_of_width dc_of_width pm_of_width an_of_width cd_of_width ct_of_width), f_least_of := f_least_of, d_least_of := (PySem.W.fnOf "least_of" "least_of" (defArgs s_least_of) (defBody s_least_of) (defScope s_least_of) .none kV_least_of dc_least_of pm_least_of an_least_of cd_least_of ct_least_of), f_most_of := f_most_of, d_most_of := (PySem.W.fnOf "most_of" "most_of" (defArgs s_most_of) (defBody s_most_of) (defScope s_most_of) .none kV_most_of dc_most_of pm_most_of an_most_of cd_most_of ct_most_of), f_Desk_told := f_Desk_told, d_Desk_told := (PySem.W.fnOf "told" "Desk.told" (defArgs s_Desk_told) (defBody s_Desk_told) (defScope s_Desk_told) .none kV_Desk_told dc_Desk_told pm_Desk_told an_Desk_told cd_Desk_told ct_Desk_told), f_Live_undo := f_Live_undo, d_Live_undo := (PySem.W.fnOf "undo" "Live.undo" (defArgs s_Live_undo) (defBody s_Live_undo) (defScope s_Live_undo) .none kV_Live_undo dc_Live_undo pm_Live_undo an_Live_undo cd_Live_undo ct_Live_undo), f_figures_in := f_figures_in, d_figures_in := (PySem.W.fnOf "figures_in" "figures_in" (defArgs s_figures_in) (defBody s_figures_in) (defScope s_figures_in) .none kV_figures_in dc_figures_in pm_figures_in an_figures_in cd_figures_in ct_figures_in), f_read_number := f_read_number, d_read_number := (PySem.W.fnOf "read_number" "read_number" (defArgs s_read_number) (defBody s_read_number) (defScope s_read_number) .none kV_read_number dc_read_number pm_read_number an_read_number cd_read_number ct_read_number), f_number_in := f_number_in, d_number_in := (PySem.W.fnOf "number_in" "number_in" (defArgs s_number_in) (defBody s_number_in) (defScope s_number_in) .none kV_number_in dc_number_in pm_number_in an_number_in cd_number_in ct_number_in), f_read_row := f_read_row, d_read_row := (PySem.W.fnOf "read_row" "read_row" (defArgs s_read_row) (defBody s_read_row) (defScope s_read_row) .none kV_read_row dc_read_row pm_read_row an_read_row cd_read_row ct_read_row), f_Desk_say := f_Desk_say, d_Desk_say := (PySem.W.fnOf "say" "Desk.say" (defArgs s_Desk_say) (defBody s_Desk_say) (defScope s_Desk_say) .none kV_Desk_say dc_Desk_say pm_Desk_say an_Desk_say cd_Desk_say ct_Desk_say), f__law_changes := f__law_changes, d__law_changes := (PySem.W.fnOf "_law_changes" "_law_changes" (defArgs s__law_changes) (defBody s__law_changes) (defScope s__law_changes) .none kV__law_changes dc__law_changes pm__law_changes an__law_changes cd__law_changes ct__law_changes), f__law_is_number := f__law_is_number, d__law_is_number := (PySem.W.fnOf "_law_is_number" "_law_is_number" (defArgs s__law_is_number) (defBody s__law_is_number) (defScope s__law_is_number) .none kV__law_is_number dc__law_is_number pm__law_is_number an__law_is_number cd__law_is_number ct__law_is_number), f__law_is_place := f__law_is_place, d__law_is_place := (PySem.W.fnOf "_law_is_place" "_law_is_place" (defArgs s__law_is_place) (defBody s__law_is_place) (defScope s__law_is_place) .none kV__law_is_place dc__law_is_place pm__law_is_place an__law_is_place cd__law_is_place ct__law_is_place), f__law_one_due := f__law_one_due, d__law_one_due := (PySem.W.fnOf "_law_one_due" "_law_one_due" (defArgs s__law_one_due) (defBody s__law_one_due) (defScope s__law_one_due) .none kV__law_one_due dc__law_one_due pm__law_one_due an__law_one_due cd__law_one_due ct__law_one_due), f__law_two_due := f__law_two_due, d__law_two_due := (PySem.W.fnOf "_law_two_due" "_law_two_due" (defArgs s__law_two_due) (defBody s__law_two_due) (defScope s__law_two_due) .none kV__law_two_due dc__law_two_due pm__law_two_due an__law_two_due cd__law_two_due ct__law_two_due), f__law_due := f__law_due, d__law_due := (PySem.W.fnOf "_law_due" "_law_due" (defArgs s__law_due) (defBody s__law_due) (defScope s__law_due) .none kV__law_due dc__law_due pm__law_due an__law_due cd__law_due ct__law_due), f__law_met := f__law_met, d__law_met := (PySem.W.fnOf "_law_met" "_law_met" (defArgs s__law_met) (defBody s__law_met) (defScope s__law_met) .none kV__law_met dc__law_met pm__law_met an__law_met cd__law_met ct__law_met), f__law_size := f__law_size, d__law_size := (PySem.W.fnOf "_law_size" "_law_size" (defArgs s__law_size) (defBody s__law_size) (defScope s__law_size) .none kV__law_size dc__law_size pm__law_size an__law_size cd__law_size ct__law_size), f__law_things_right := f__law_things_right, d__law_things_right := (PySem.W.fnOf "_law_things_right" "_law_things_right" (defArgs s__law_things_right) (defBody s__law_things_right) (defScope s__law_things_right) .none kV__law_things_right dc__law_things_right pm__law_things_right an__law_things_right cd__law_things_right ct__law_things_right), f__law_undone := f__law_undone, d__law_undone := (PySem.W.fnOf "_law_undone" "_law_undone" (defArgs s__law_undone) (defBody s__law_undone) (defScope s__law_undone) .none kV__law_undone dc__law_undone pm__law_undone an__law_undone cd__law_undone ct__law_undone), f__law_deck := f__law_deck, d__law_deck := (PySem.W.fnOf "_law_deck" "_law_deck" (defArgs s__law_deck) (defBody s__law_deck) (defScope s__law_deck) .none kV__law_deck dc__law_deck pm__law_deck an__law_deck cd__law_deck ct__law_deck), f__law_take := f__law_take, d__law_take := (PySem.W.fnOf "_law_take" "_law_take" (defArgs s__law_take) (defBody s__law_take) (defScope s__law_take) .none kV__law_take dc__law_take pm__law_take an__law_take cd__law_take ct__law_take), f__law_figure := f__law_figure, d__law_figure := (PySem.W.fnOf "_law_figure" "_law_figure" (defArgs s__law_figure) (defBody s__law_figure) (defScope s__law_figure) .none kV__law_figure dc__law_figure pm__law_figure an__law_figure cd__law_figure ct__law_figure), f__law_place := f__law_place, d__law_place := (PySem.W.fnOf "_law_place" "_law_place" (defArgs s__law_place) (defBody s__law_place) (defScope s__law_place) .none kV__law_place dc__law_place pm__law_place an__law_place cd__law_place ct__law_place), f__law_text := f__law_text, d__law_text := (PySem.W.fnOf "_law_text" "_law_text" (defArgs s__law_text) (defBody s__law_text) (defScope s__law_text) .none kV__law_text dc__law_text pm__law_text an__law_text cd__law_text ct__law_text), f__law_words := f__law_words, d__law_words := (PySem.W.fnOf "_law_words" "_law_words" (defArgs s__law_words) (defBody s__law_words) (defScope s__law_words) .none kV__law_words dc__law_words pm__law_words an__law_words cd__law_words ct__law_words), f_law := f_law, d_law := (PySem.W.fnOf "law" "law" (defArgs s_law) (defBody s_law) (defScope s_law) .none kV_law dc_law pm_law an_law cd_law ct_law), c_Live := c_Live, c_Desk := c_Desk, c_NoPlace := c_NoPlace, c_Ready := c_Ready, c_NoWindow := c_NoWindow, c_Held := c_Held, c_NoCommand := c_NoCommand, c_NoRow := c_NoRow, c_RowError := c_RowError, c_NoNeeds := c_NoNeeds, c_NoTable := c_NoTable } := {
    F_Live___init__ := F_Live___init__,
    b_Live___init__ := b_Live___init__,
    M_Live := ⟨mk_Live, a_Live___init__, i_Live___init__, kc_Live⟩,
    F_Desk___init__ := F_Desk___init__,
    b_Desk___init__ := b_Desk___init__,
    M_Desk := ⟨mk_Desk, a_Desk___init__, i_Desk___init__, kc_Desk⟩,
    F_Live_need_place := F_Live_need_place,
    b_Live_need_place := b_Live_need_place,
    M_Live_need_place := ⟨a_Live_need_place, i_Live_need_place, k_Live_need_place⟩,
    F_Live_laid := F_Live_laid,
    b_Live_laid := b_Live_laid,
    M_Live_laid := ⟨a_Live_laid, i_Live_laid, k_Live_laid⟩,
    F_Live_noted := F_Live_noted,
    b_Live_noted := b_Live_noted,
    M_Live_noted := ⟨a_Live_noted, i_Live_noted, k_Live_noted⟩,
    F_Live_change := F_Live_change,
    b_Live_change := b_Live_change,
    M_Live_change := ⟨a_Live_change, i_Live_change, k_Live_change⟩,
    F_last_places := F_last_places,
    b_last_places := b_last_places,
    g_last_places := PySem.W.mg_of X G a_last_places,
    F_next_places := F_next_places,
    b_next_places := b_next_places,
    g_next_places := PySem.W.mg_of X G a_next_places,
    F_Ready___init__ := F_Ready___init__,
    b_Ready___init__ := b_Ready___init__,
    M_Ready := ⟨mk_Ready, a_Ready___init__, i_Ready___init__, kc_Ready⟩,
    F_Live_ready := F_Live_ready,
    b_Live_ready := b_Live_ready,
    M_Live_ready := ⟨a_Live_ready, i_Live_ready, k_Live_ready⟩,
    F_is_whole := F_is_whole,
    b_is_whole := b_is_whole,
    g_is_whole := PySem.W.mg_of X G a_is_whole,
    F_Ready_need_place := F_Ready_need_place,
    b_Ready_need_place := b_Ready_need_place,
    M_Ready_need_place := ⟨a_Ready_need_place, i_Ready_need_place, k_Ready_need_place⟩,
    F_Ready_need_window := F_Ready_need_window,
    b_Ready_need_window := b_Ready_need_window,
    M_Ready_need_window := ⟨a_Ready_need_window, i_Ready_need_window, k_Ready_need_window⟩,
    F_Ready_firsts := F_Ready_firsts,
    b_Ready_firsts := b_Ready_firsts,
    M_Ready_firsts := ⟨a_Ready_firsts, i_Ready_firsts, k_Ready_firsts⟩,
    F_Live_firsts := F_Live_firsts,
    b_Live_firsts := b_Live_firsts,
    M_Live_firsts := ⟨a_Live_firsts, i_Live_firsts, k_Live_firsts⟩,
    F_Live_put := F_Live_put,
    b_Live_put := b_Live_put,
    M_Live_put := ⟨a_Live_put, i_Live_put, k_Live_put⟩,
    F_Ready_unlike := F_Ready_unlike,
    b_Ready_unlike := b_Ready_unlike,
    M_Ready_unlike := ⟨a_Ready_unlike, i_Ready_unlike, k_Ready_unlike⟩,
    F_Live_unlike := F_Live_unlike,
    b_Live_unlike := b_Live_unlike,
    M_Live_unlike := ⟨a_Live_unlike, i_Live_unlike, k_Live_unlike⟩,
    F_show_row := F_show_row,
    b_show_row := b_show_row,
    g_show_row := PySem.W.mg_of X G a_show_row,
    F_Desk_asked := F_Desk_asked,
    b_Desk_asked := b_Desk_asked,
    M_Desk_asked := ⟨a_Desk_asked, i_Desk_asked, k_Desk_asked⟩,
    F_Live_row := F_Live_row,
    b_Live_row := b_Live_row,
    M_Live_row := ⟨a_Live_row, i_Live_row, k_Live_row⟩,
    F_Live_take := F_Live_take,
    b_Live_take := b_Live_take,
    M_Live_take := ⟨a_Live_take, i_Live_take, k_Live_take⟩,
    F_fewest := F_fewest,
    b_fewest := b_fewest,
    g_fewest := PySem.W.mg_of X G a_fewest,
    F_Held___init__ := F_Held___init__,
    b_Held___init__ := b_Held___init__,
    M_Held := ⟨mk_Held, a_Held___init__, i_Held___init__, kc_Held⟩,
    F_Held_come := F_Held_come,
    b_Held_come := b_Held_come,
    M_Held_come := ⟨a_Held_come, i_Held_come, k_Held_come⟩,
    F_Held_gone := F_Held_gone,
    b_Held_gone := b_Held_gone,
    M_Held_gone := ⟨a_Held_gone, i_Held_gone, k_Held_gone⟩,
    F_Held_unlike := F_Held_unlike,
    b_Held_unlike := b_Held_unlike,
    M_Held_unlike := ⟨a_Held_unlike, i_Held_unlike, k_Held_unlike⟩,
    F_ends_by := F_ends_by,
    b_ends_by := b_ends_by,
    g_ends_by := PySem.W.mg_of X G a_ends_by,
    F_ends_within := F_ends_within,
    b_ends_within := b_ends_within,
    g_ends_within := PySem.W.mg_of X G a_ends_within,
    F_stretches := F_stretches,
    b_stretches := b_stretches,
    g_stretches := PySem.W.mg_of X G a_stretches,
    F_how_many := F_how_many,
    b_how_many := b_how_many,
    g_how_many := PySem.W.mg_of X G a_how_many,
    F_need_width := F_need_width,
    b_need_width := b_need_width,
    g_need_width := PySem.W.mg_of X G a_need_width,
    F_slid := F_slid,
    b_slid := b_slid,
    g_slid := PySem.W.mg_of X G a_slid,
    F_of_width := F_of_width,
    b_of_width := b_of_width,
    g_of_width := PySem.W.mg_of X G a_of_width,
    F_least_of := F_least_of,
    b_least_of := b_least_of,
    g_least_of := PySem.W.mg_of X G a_least_of,
    F_most_of := F_most_of,
    b_most_of := b_most_of,
    g_most_of := PySem.W.mg_of X G a_most_of,
    F_Desk_told := F_Desk_told,
    b_Desk_told := b_Desk_told,
    M_Desk_told := ⟨a_Desk_told, i_Desk_told, k_Desk_told⟩,
    F_Live_undo := F_Live_undo,
    b_Live_undo := b_Live_undo,
    M_Live_undo := ⟨a_Live_undo, i_Live_undo, k_Live_undo⟩,
    F_figures_in := F_figures_in,
    b_figures_in := b_figures_in,
    g_figures_in := PySem.W.mg_of X G a_figures_in,
    F_read_number := F_read_number,
    b_read_number := b_read_number,
    g_read_number := PySem.W.mg_of X G a_read_number,
    F_number_in := F_number_in,
    b_number_in := b_number_in,
    g_number_in := PySem.W.mg_of X G a_number_in,
    F_read_row := F_read_row,
    b_read_row := b_read_row,
    g_read_row := PySem.W.mg_of X G a_read_row,
    F_Desk_say := F_Desk_say,
    b_Desk_say := b_Desk_say,
    M_Desk_say := ⟨a_Desk_say, i_Desk_say, k_Desk_say⟩,
    F__law_changes := F__law_changes,
    b__law_changes := b__law_changes,
    g__law_changes := PySem.W.mg_of X G a__law_changes,
    F__law_is_number := F__law_is_number,
    b__law_is_number := b__law_is_number,
    g__law_is_number := PySem.W.mg_of X G a__law_is_number,
    F__law_is_place := F__law_is_place,
    b__law_is_place := b__law_is_place,
    g__law_is_place := PySem.W.mg_of X G a__law_is_place,
    F__law_one_due := F__law_one_due,
    b__law_one_due := b__law_one_due,
    g__law_one_due := PySem.W.mg_of X G a__law_one_due,
    F__law_two_due := F__law_two_due,
    b__law_two_due := b__law_two_due,
    g__law_two_due := PySem.W.mg_of X G a__law_two_due,
    F__law_due := F__law_due,
    b__law_due := b__law_due,
    g__law_due := PySem.W.mg_of X G a__law_due,
    F__law_met := F__law_met,
    b__law_met := b__law_met,
    g__law_met := PySem.W.mg_of X G a__law_met,
    F__law_size := F__law_size,
    b__law_size := b__law_size,
    g__law_size := PySem.W.mg_of X G a__law_size,
    F__law_things_right := F__law_things_right,
    b__law_things_right := b__law_things_right,
    g__law_things_right := PySem.W.mg_of X G a__law_things_right,
    F__law_undone := F__law_undone,
    b__law_undone := b__law_undone,
    g__law_undone := PySem.W.mg_of X G a__law_undone,
    F__law_deck := F__law_deck,
    b__law_deck := b__law_deck,
    g__law_deck := PySem.W.mg_of X G a__law_deck,
    F__law_take := F__law_take,
    b__law_take := b__law_take,
    g__law_take := PySem.W.mg_of X G a__law_take,
    F__law_figure := F__law_figure,
    b__law_figure := b__law_figure,
    g__law_figure := PySem.W.mg_of X G a__law_figure,
    F__law_place := F__law_place,
    b__law_place := b__law_place,
    g__law_place := PySem.W.mg_of X G a__law_place,
    F__law_text := F__law_text,
    b__law_text := b__law_text,
    g__law_text := PySem.W.mg_of X G a__law_text,
    F__law_words := F__law_words,
    b__law_words := b__law_words,
    g__law_words := PySem.W.mg_of X G a__law_words,
    F_law := F_law,
    b_law := b_law,
    g_law := PySem.W.mg_of X G a_law,
    g_Live := PySem.W.mg_of X G aC_Live,
    C_Live := ⟨pg_Live, hd_Live, po_Live, sa_Live⟩,
    n_Live_numbers := n_Live_numbers,
    n_Live_changes := n_Live_changes,
    n_Live_made := n_Live_made,
    g_Desk := PySem.W.mg_of X G aC_Desk,
    C_Desk := ⟨pg_Desk, hd_Desk, po_Desk, sa_Desk⟩,
    n_Desk_live := n_Desk_live,
    g_NoPlace := PySem.W.mg_of X G aC_NoPlace,
    g_Ready := PySem.W.mg_of X G aC_Ready,
    C_Ready := ⟨pg_Ready, hd_Ready, po_Ready, sa_Ready⟩,
    n_Ready_many := n_Ready_many,
    n_Ready_lasts := n_Ready_lasts,
    n_Ready_nexts := n_Ready_nexts,
    g_NoWindow := PySem.W.mg_of X G aC_NoWindow,
    g_Held := PySem.W.mg_of X G aC_Held,
    C_Held := ⟨pg_Held, hd_Held, po_Held, sa_Held⟩,
    n_Held_times := n_Held_times,
    g_NoCommand := PySem.W.mg_of X G aC_NoCommand,
    g_NoRow := PySem.W.mg_of X G aC_NoRow,
    g_RowError := PySem.W.mg_of X G aC_RowError,
    g_NoNeeds := PySem.W.mg_of X G aC_NoNeeds,
    g_NoTable := PySem.W.mg_of X G aC_NoTable,
    x_NoPlace := x_NoPlace,
    k_NoPlace := k_NoPlace,
    x_NoWindow := x_NoWindow,
    k_NoWindow := k_NoWindow,
    x_NoCommand := x_NoCommand,
    k_NoCommand := k_NoCommand,
    x_NoRow := x_NoRow,
    k_NoRow := k_NoRow,
    b_NoCommand := b_NoCommand,
    t_NoCommand := t_NoCommand,
    h_NoCommand := h_NoCommand,
    b_NoPlace := b_NoPlace,
    t_NoPlace := t_NoPlace,
    h_NoPlace := h_NoPlace,
    b_NoRow := b_NoRow,
    t_NoRow := t_NoRow,
    h_NoRow := h_NoRow,
    b_NoWindow := b_NoWindow,
    t_NoWindow := t_NoWindow,
    h_NoWindow := h_NoWindow,
    b_RowError := b_RowError,
    t_RowError := t_RowError,
    h_RowError := h_RowError,
    s_NoPlace_NoRow := s_NoPlace_NoRow,
    s_NoPlace_RowError := s_NoPlace_RowError,
    q_NoPlace_NoCommand := q_NoPlace_NoCommand,
    q_NoPlace_NoRow := q_NoPlace_NoRow,
    q_NoPlace_NoNeeds := q_NoPlace_NoNeeds,
    q_NoPlace_NoTable := q_NoPlace_NoTable,
    q_NoPlace_NoWindow := q_NoPlace_NoWindow,
    q_NoPlace_NoPlace := q_NoPlace_NoPlace,
    q_NoPlace_ValueError := q_NoPlace_ValueError,
    Ehg_NoPlace := Ehg_NoPlace,
    Ehk_NoPlace := Ehk_NoPlace,
    Eha_NoPlace := Eha_NoPlace,
    Ehm_NoPlace := Ehm_NoPlace,
    s_NoWindow_NoRow := s_NoWindow_NoRow,
    s_NoWindow_RowError := s_NoWindow_RowError,
    q_NoWindow_NoCommand := q_NoWindow_NoCommand,
    q_NoWindow_NoRow := q_NoWindow_NoRow,
    q_NoWindow_NoNeeds := q_NoWindow_NoNeeds,
    q_NoWindow_NoTable := q_NoWindow_NoTable,
    q_NoWindow_NoWindow := q_NoWindow_NoWindow,
    q_NoWindow_NoPlace := q_NoWindow_NoPlace,
    q_NoWindow_ValueError := q_NoWindow_ValueError,
    Ehg_NoWindow := Ehg_NoWindow,
    Ehk_NoWindow := Ehk_NoWindow,
    Eha_NoWindow := Eha_NoWindow,
    Ehm_NoWindow := Ehm_NoWindow,
    s_NoCommand_NoRow := s_NoCommand_NoRow,
    s_NoCommand_RowError := s_NoCommand_RowError,
    q_NoCommand_NoCommand := q_NoCommand_NoCommand,
    q_NoCommand_NoRow := q_NoCommand_NoRow,
    q_NoCommand_NoNeeds := q_NoCommand_NoNeeds,
    q_NoCommand_NoTable := q_NoCommand_NoTable,
    q_NoCommand_NoWindow := q_NoCommand_NoWindow,
    q_NoCommand_NoPlace := q_NoCommand_NoPlace,
    q_NoCommand_ValueError := q_NoCommand_ValueError,
    Ehg_NoCommand := Ehg_NoCommand,
    Ehk_NoCommand := Ehk_NoCommand,
    Eha_NoCommand := Eha_NoCommand,
    Ehm_NoCommand := Ehm_NoCommand,
    s_NoRow_NoRow := s_NoRow_NoRow,
    s_NoRow_RowError := s_NoRow_RowError,
    q_NoRow_NoCommand := q_NoRow_NoCommand,
    q_NoRow_NoRow := q_NoRow_NoRow,
    q_NoRow_NoNeeds := q_NoRow_NoNeeds,
    q_NoRow_NoTable := q_NoRow_NoTable,
    q_NoRow_NoWindow := q_NoRow_NoWindow,
    q_NoRow_NoPlace := q_NoRow_NoPlace,
    q_NoRow_ValueError := q_NoRow_ValueError,
    Ehg_NoRow := Ehg_NoRow,
    Ehk_NoRow := Ehk_NoRow,
    Eha_NoRow := Eha_NoRow,
    Ehm_NoRow := Ehm_NoRow,
    Ehn := Ehn,
    Eht := Eht,
    k_FIGURES_desk := ⟨_, PySem.W.mg_of X G a_FIGURES_desk⟩,
    k_MOST_FIGURES_desk := ⟨_, PySem.W.mg_of X G a_MOST_FIGURES_desk⟩,
    k_MOST_FIGURES_notes := ⟨_, PySem.W.mg_of X G a_MOST_FIGURES_notes⟩,
    k_FIGURES_notes := ⟨_, PySem.W.mg_of X G a_FIGURES_notes⟩,
    k_WORDS := ⟨_, PySem.W.mg_of X G a_WORDS, ⟨⟨_, _, l_WORDS, y_WORDS, w_WORDS⟩, o_WORDS⟩⟩,
    m_ValueError := PySem.W.mg_none_of X G z_ValueError,
    m_all := PySem.W.mg_none_of X G z_all,
    m_bool := PySem.W.mg_none_of X G z_bool,
    m_enumerate := PySem.W.mg_none_of X G z_enumerate,
    m_int := PySem.W.mg_none_of X G z_int,
    m_isinstance := PySem.W.mg_none_of X G z_isinstance,
    m_len := PySem.W.mg_none_of X G z_len,
    m_list := PySem.W.mg_none_of X G z_list,
    m_max := PySem.W.mg_none_of X G z_max,
    m_min := PySem.W.mg_none_of X G z_min,
    m_range := PySem.W.mg_none_of X G z_range,
    m_str := PySem.W.mg_none_of X G z_str,
    m_sum := PySem.W.mg_none_of X G z_sum }
  exact ⟨(PySem.W.fnOf "law" "law" (defArgs s_law) (defBody s_law) (defScope s_law) .none kV_law dc_law pm_law an_law cd_law ct_law), fun s v => .of_eq rfl, fun base _ _ => ok_law T⟩
theorem walk {l : PySem.W.OpenLaw} {q : Program} {loose : List Str} {XP : (Str → Option Value) → Heap → Prop} {YP : World → Heap → Prop} {d : DefRec} {K : Params → PySem.W.Frag} (hn : l.most = some 63) (hdf : d.params.defaults = [])
    (hY : ∀ (w : World) (h : Heap), YP w h → (K w.params).In h)
    (F : ∀ (w : World) (mg : Str → Option Value) (fa : Addr) (h : Heap), (K w.params).In h → h.Ns mainGlobals mg → mg d.name = some (.ref fa) →
      ∃ fd : FuncData, (∀ (s : Shared) (u : Value), BindsTo s fd ⟨[u], []⟩ [("script", u)]) ∧ ∀ base : Heap, (K w.params).In base → base.Ns mainGlobals mg → FnOk l.prog w (K w.params) mg base CX0 11 fa fd ["script"] (sp_law (K w.params))) :
    PySem.W.WalkO q loose XP YP l.row.toRowW d [] (fun f vs => PySem.call f vs) :=
  L2.walk_of (n := 63) (k := 11) (x := "script") (CX := fun _ => CX0) (sp := fun w => sp_law (K w.params)) hn (by decide) hdf ⟨rfl, by decide, by decide⟩ hY F (fun _ _ a ns hl _ hS => ⟨a, ns, rfl, hS, hl, fun _ => rfl⟩) fun _ _ _ _ _ z => z
end Ur
open PySem PySem.W PyProof.Rows in
set_option maxRecDepth 100000 in
set_option maxHeartbeats 0 in
theorem PySem.Challenge.cw_unlikerow_k60_words_refused_holds : PySem.Challenge.rw_unlikerow_k60_words_refused.Holds := by
  w_on; o_law; k_head; (case hw => w_witness2)
  k_fill
  refine Ur.walk (l := PySem.Challenge.rw_unlikerow_k60_words_refused) rfl rfl (fun w h Y => PySem.W.kIn_of Y) ?F
  case F =>
    intro w mg fa h KX G hmg
    refine' Ur.all_mk KX G hmg ?aC_Live ?pg_Live ?hd_Live ?po_Live ?sa_Live ?mk_Live ?kc_Live ?n_Live_numbers ?n_Live_changes ?n_Live_made ?aC_Desk ?pg_Desk ?hd_Desk ?po_Desk ?sa_Desk ?mk_Desk ?kc_Desk ?n_Desk_live ?aC_NoPlace ?aC_Ready ?pg_Ready ?hd_Ready ?po_Ready ?sa_Ready ?mk_Ready ?kc_Ready ?n_Ready_many ?n_Ready_lasts ?n_Ready_nexts ?aC_NoWindow ?aC_Held ?pg_Held ?hd_Held ?po_Held ?sa_Held ?mk_Held ?kc_Held ?n_Held_times ?aC_NoCommand ?aC_NoRow ?aC_RowError ?aC_NoNeeds ?aC_NoTable ?a_Live___init__ ?i_Live___init__ ?l_Live___init__ ?q_Live___init__ ?k_Live___init__ ?a_Desk___init__ ?i_Desk___init__ ?l_Desk___init__ ?q_Desk___init__ ?k_Desk___init__ ?a_Live_need_place ?i_Live_need_place ?l_Live_need_place ?q_Live_need_place ?k_Live_need_place ?a_Live_laid ?i_Live_laid ?l_Live_laid ?q_Live_laid ?k_Live_laid ?a_Live_noted ?i_Live_noted ?l_Live_noted ?q_Live_noted ?k_Live_noted ?a_Live_change ?i_Live_change ?l_Live_change ?q_Live_change ?k_Live_change ?a_last_places ?l_last_places ?q_last_places ?k_last_places ?a_next_places ?l_next_places ?q_next_places ?k_next_places ?a_Ready___init__ ?i_Ready___init__ ?l_Ready___init__ ?q_Ready___init__ ?k_Ready___init__ ?a_Live_ready ?i_Live_ready ?l_Live_ready ?q_Live_ready ?k_Live_ready ?a_is_whole ?l_is_whole ?q_is_whole ?k_is_whole ?a_Ready_need_place ?i_Ready_need_place ?l_Ready_need_place ?q_Ready_need_place ?k_Ready_need_place ?a_Ready_need_window ?i_Ready_need_window ?l_Ready_need_window ?q_Ready_need_window ?k_Ready_need_window ?a_Ready_firsts ?i_Ready_firsts ?l_Ready_firsts ?q_Ready_firsts ?k_Ready_firsts ?a_Live_firsts ?i_Live_firsts ?l_Live_firsts ?q_Live_firsts ?k_Live_firsts ?a_Live_put ?i_Live_put ?l_Live_put ?q_Live_put ?k_Live_put ?a_Ready_unlike ?i_Ready_unlike ?l_Ready_unlike ?q_Ready_unlike ?k_Ready_unlike ?a_Live_unlike ?i_Live_unlike ?l_Live_unlike ?q_Live_unlike ?k_Live_unlike ?a_show_row ?l_show_row ?q_show_row ?k_show_row ?a_Desk_asked ?i_Desk_asked ?l_Desk_asked ?q_Desk_asked ?k_Desk_asked ?a_Live_row ?i_Live_row ?l_Live_row ?q_Live_row ?k_Live_row ?a_Live_take ?i_Live_take ?l_Live_take ?q_Live_take ?k_Live_take ?a_fewest ?l_fewest ?q_fewest ?k_fewest ?a_Held___init__ ?i_Held___init__ ?l_Held___init__ ?q_Held___init__ ?k_Held___init__ ?a_Held_come ?i_Held_come ?l_Held_come ?q_Held_come ?k_Held_come ?a_Held_gone ?i_Held_gone ?l_Held_gone ?q_Held_gone ?k_Held_gone ?a_Held_unlike ?i_Held_unlike ?l_Held_unlike ?q_Held_unlike ?k_Held_unlike ?a_ends_by ?l_ends_by ?q_ends_by ?k_ends_by ?a_ends_within ?l_ends_within ?q_ends_within ?k_ends_within ?a_stretches ?l_stretches ?q_stretches ?k_stretches ?a_how_many ?l_how_many ?q_how_many ?k_how_many ?a_need_width ?l_need_width ?q_need_width ?k_need_width ?a_slid ?l_slid ?q_slid ?k_slid ?a_of_width ?l_of_width ?q_of_width ?k_of_width ?a_least_of ?l_least_of ?q_least_of ?k_least_of ?a_most_of ?l_most_of ?q_most_of ?k_most_of ?a_Desk_told ?i_Desk_told ?l_Desk_told ?q_Desk_told ?k_Desk_told ?a_Live_undo ?i_Live_undo ?l_Live_undo ?q_Live_undo ?k_Live_undo ?a_figures_in ?l_figures_in ?q_figures_in ?k_figures_in ?a_read_number ?l_read_number ?q_read_number ?k_read_number ?a_number_in ?l_number_in ?q_number_in ?k_number_in ?a_read_row ?l_read_row ?q_read_row ?k_read_row ?a_Desk_say ?i_Desk_say ?l_Desk_say ?q_Desk_say ?k_Desk_say ?a__law_changes ?l__law_changes ?q__law_changes ?k__law_changes ?a__law_is_number ?l__law_is_number ?q__law_is_number ?k__law_is_number ?a__law_is_place ?l__law_is_place ?q__law_is_place ?k__law_is_place ?a__law_one_due ?l__law_one_due ?q__law_one_due ?k__law_one_due ?a__law_two_due ?l__law_two_due ?q__law_two_due ?k__law_two_due ?a__law_due ?l__law_due ?q__law_due ?k__law_due ?a__law_met ?l__law_met ?q__law_met ?k__law_met ?a__law_size ?l__law_size ?q__law_size ?k__law_size ?a__law_things_right ?l__law_things_right ?q__law_things_right ?k__law_things_right ?a__law_undone ?l__law_undone ?q__law_undone ?k__law_undone ?a__law_deck ?l__law_deck ?q__law_deck ?k__law_deck ?a__law_take ?l__law_take ?q__law_take ?k__law_take ?a__law_figure ?l__law_figure ?q__law_figure ?k__law_figure ?a__law_place ?l__law_place ?q__law_place ?k__law_place ?a__law_text ?l__law_text ?q__law_text ?k__law_text ?a__law_words ?l__law_words ?q__law_words ?k__law_words ?a_law ?l_law ?q_law ?k_law ?x_NoPlace ?k_NoPlace ?x_NoWindow ?k_NoWindow ?x_NoCommand ?k_NoCommand ?x_NoRow ?k_NoRow ?b_NoCommand ?t_NoCommand ?h_NoCommand ?b_NoPlace ?t_NoPlace ?h_NoPlace ?b_NoRow ?t_NoRow ?h_NoRow ?b_NoWindow ?t_NoWindow ?h_NoWindow ?b_RowError ?t_RowError ?h_RowError ?s_NoPlace_NoRow ?s_NoPlace_RowError ?q_NoPlace_NoCommand ?q_NoPlace_NoRow ?q_NoPlace_NoNeeds ?q_NoPlace_NoTable ?q_NoPlace_NoWindow ?q_NoPlace_NoPlace ?q_NoPlace_ValueError ?Ehg_NoPlace ?Ehk_NoPlace ?Eha_NoPlace ?Ehm_NoPlace ?s_NoWindow_NoRow ?s_NoWindow_RowError ?q_NoWindow_NoCommand ?q_NoWindow_NoRow ?q_NoWindow_NoNeeds ?q_NoWindow_NoTable ?q_NoWindow_NoWindow ?q_NoWindow_NoPlace ?q_NoWindow_ValueError ?Ehg_NoWindow ?Ehk_NoWindow ?Eha_NoWindow ?Ehm_NoWindow ?s_NoCommand_NoRow ?s_NoCommand_RowError ?q_NoCommand_NoCommand ?q_NoCommand_NoRow ?q_NoCommand_NoNeeds ?q_NoCommand_NoTable ?q_NoCommand_NoWindow ?q_NoCommand_NoPlace ?q_NoCommand_ValueError ?Ehg_NoCommand ?Ehk_NoCommand ?Eha_NoCommand ?Ehm_NoCommand ?s_NoRow_NoRow ?s_NoRow_RowError ?q_NoRow_NoCommand ?q_NoRow_NoRow ?q_NoRow_NoNeeds ?q_NoRow_NoTable ?q_NoRow_NoWindow ?q_NoRow_NoPlace ?q_NoRow_ValueError ?Ehg_NoRow ?Ehk_NoRow ?Eha_NoRow ?Ehm_NoRow ?Ehn ?Eht ?a_FIGURES_desk ?a_MOST_FIGURES_desk ?a_MOST_FIGURES_notes ?a_FIGURES_notes ?a_WORDS ?l_WORDS ?y_WORDS ?w_WORDS ?o_WORDS ?z_ValueError ?z_all ?z_bool ?z_enumerate ?z_int ?z_isinstance ?z_len ?z_list ?z_max ?z_min ?z_range ?z_str ?z_sum
    (case aC_Live => k_is)
    (case pg_Live => k_is)
    (case hd_Live => k_is)
    (case po_Live => k_is)
    (case sa_Live => k_is)
    (case mk_Live => k_is)
    (case kc_Live => k_is)
    (case n_Live_numbers => k_is)
    (case n_Live_changes => k_is)
    (case n_Live_made => k_is)
    (case aC_Desk => k_is)
    (case pg_Desk => k_is)
    (case hd_Desk => k_is)
    (case po_Desk => k_is)
    (case sa_Desk => k_is)
    (case mk_Desk => k_is)
    (case kc_Desk => k_is)
    (case n_Desk_live => k_is)
    (case aC_NoPlace => k_is)
    (case aC_Ready => k_is)
    (case pg_Ready => k_is)
    (case hd_Ready => k_is)
    (case po_Ready => k_is)
    (case sa_Ready => k_is)
    (case mk_Ready => k_is)
    (case kc_Ready => k_is)
    (case n_Ready_many => k_is)
    (case n_Ready_lasts => k_is)
    (case n_Ready_nexts => k_is)
    (case aC_NoWindow => k_is)
    (case aC_Held => k_is)
    (case pg_Held => k_is)
    (case hd_Held => k_is)
    (case po_Held => k_is)
    (case sa_Held => k_is)
    (case mk_Held => k_is)
    (case kc_Held => k_is)
    (case n_Held_times => k_is)
    (case aC_NoCommand => k_is)
    (case aC_NoRow => k_is)
    (case aC_RowError => k_is)
    (case aC_NoNeeds => k_is)
    (case aC_NoTable => k_is)
    (case a_Live___init__ => k_is)
    (case i_Live___init__ => k_is)
    (case l_Live___init__ => k_is)
    (case q_Live___init__ => k_is)
    (case k_Live___init__ => k_is)
    (case a_Desk___init__ => k_is)
    (case i_Desk___init__ => k_is)
    (case l_Desk___init__ => k_is)
    (case q_Desk___init__ => k_is)
    (case k_Desk___init__ => k_is)
    (case a_Live_need_place => k_is)
    (case i_Live_need_place => k_is)
    (case l_Live_need_place => k_is)
    (case q_Live_need_place => k_is)
    (case k_Live_need_place => k_is)
    (case a_Live_laid => k_is)
    (case i_Live_laid => k_is)
    (case l_Live_laid => k_is)
    (case q_Live_laid => k_is)
    (case k_Live_laid => k_is)
    (case a_Live_noted => k_is)
    (case i_Live_noted => k_is)
    (case l_Live_noted => k_is)
    (case q_Live_noted => k_is)
    (case k_Live_noted => k_is)
    (case a_Live_change => k_is)
    (case i_Live_change => k_is)
    (case l_Live_change => k_is)
    (case q_Live_change => k_is)
    (case k_Live_change => k_is)
    (case a_last_places => k_is)
    (case l_last_places => k_is)
    (case q_last_places => k_is)
    (case k_last_places => k_is)
    (case a_next_places => k_is)
    (case l_next_places => k_is)
    (case q_next_places => k_is)
    (case k_next_places => k_is)
    (case a_Ready___init__ => k_is)
    (case i_Ready___init__ => k_is)
    (case l_Ready___init__ => k_is)
    (case q_Ready___init__ => k_is)
    (case k_Ready___init__ => k_is)
    (case a_Live_ready => k_is)
    (case i_Live_ready => k_is)
    (case l_Live_ready => k_is)
    (case q_Live_ready => k_is)
    (case k_Live_ready => k_is)
    (case a_is_whole => k_is)
    (case l_is_whole => k_is)
    (case q_is_whole => k_is)
    (case k_is_whole => k_is)
    (case a_Ready_need_place => k_is)
    (case i_Ready_need_place => k_is)
    (case l_Ready_need_place => k_is)
    (case q_Ready_need_place => k_is)
    (case k_Ready_need_place => k_is)
    (case a_Ready_need_window => k_is)
    (case i_Ready_need_window => k_is)
    (case l_Ready_need_window => k_is)
    (case q_Ready_need_window => k_is)
    (case k_Ready_need_window => k_is)
    (case a_Ready_firsts => k_is)
    (case i_Ready_firsts => k_is)
    (case l_Ready_firsts => k_is)
    (case q_Ready_firsts => k_is)
    (case k_Ready_firsts => k_is)
    (case a_Live_firsts => k_is)
    (case i_Live_firsts => k_is)
    (case l_Live_firsts => k_is)
    (case q_Live_firsts => k_is)
    (case k_Live_firsts => k_is)
    (case a_Live_put => k_is)
    (case i_Live_put => k_is)
    (case l_Live_put => k_is)
    (case q_Live_put => k_is)
    (case k_Live_put => k_is)
    (case a_Ready_unlike => k_is)
    (case i_Ready_unlike => k_is)
    (case l_Ready_unlike => k_is)
    (case q_Ready_unlike => k_is)
    (case k_Ready_unlike => k_is)
    (case a_Live_unlike => k_is)
    (case i_Live_unlike => k_is)
    (case l_Live_unlike => k_is)
    (case q_Live_unlike => k_is)
    (case k_Live_unlike => k_is)
    (case a_show_row => k_is)
    (case l_show_row => k_is)
    (case q_show_row => k_is)
    (case k_show_row => k_is)
    (case a_Desk_asked => k_is)
    (case i_Desk_asked => k_is)
    (case l_Desk_asked => k_is)
    (case q_Desk_asked => k_is)
    (case k_Desk_asked => k_is)
    (case a_Live_row => k_is)
    (case i_Live_row => k_is)
    (case l_Live_row => k_is)
    (case q_Live_row => k_is)
    (case k_Live_row => k_is)
    (case a_Live_take => k_is)
    (case i_Live_take => k_is)
    (case l_Live_take => k_is)
    (case q_Live_take => k_is)
    (case k_Live_take => k_is)
    (case a_fewest => k_is)
    (case l_fewest => k_is)
    (case q_fewest => k_is)
    (case k_fewest => k_is)
    (case a_Held___init__ => k_is)
    (case i_Held___init__ => k_is)
    (case l_Held___init__ => k_is)
    (case q_Held___init__ => k_is)
    (case k_Held___init__ => k_is)
    (case a_Held_come => k_is)
    (case i_Held_come => k_is)
    (case l_Held_come => k_is)
    (case q_Held_come => k_is)
    (case k_Held_come => k_is)
    (case a_Held_gone => k_is)
    (case i_Held_gone => k_is)
    (case l_Held_gone => k_is)
    (case q_Held_gone => k_is)
    (case k_Held_gone => k_is)
    (case a_Held_unlike => k_is)
    (case i_Held_unlike => k_is)
    (case l_Held_unlike => k_is)
    (case q_Held_unlike => k_is)
    (case k_Held_unlike => k_is)
    (case a_ends_by => k_is)
    (case l_ends_by => k_is)
    (case q_ends_by => k_is)
    (case k_ends_by => k_is)
    (case a_ends_within => k_is)
    (case l_ends_within => k_is)
    (case q_ends_within => k_is)
    (case k_ends_within => k_is)
    (case a_stretches => k_is)
    (case l_stretches => k_is)
    (case q_stretches => k_is)
    (case k_stretches => k_is)
    (case a_how_many => k_is)
    (case l_how_many => k_is)
    (case q_how_many => k_is)
    (case k_how_many => k_is)
    (case a_need_width => k_is)
    (case l_need_width => k_is)
    (case q_need_width => k_is)
    (case k_need_width => k_is)
    (case a_slid => k_is)
    (case l_slid => k_is)
    (case q_slid => k_is)
    (case k_slid => k_is)
    (case a_of_width => k_is)
    (case l_of_width => k_is)
    (case q_of_width => k_is)
    (case k_of_width => k_is)
    (case a_least_of => k_is)
    (case l_least_of => k_is)
    (case q_least_of => k_is)
    (case k_least_of => k_is)
    (case a_most_of => k_is)
    (case l_most_of => k_is)
    (case q_most_of => k_is)
    (case k_most_of => k_is)
    (case a_Desk_told => k_is)
    (case i_Desk_told => k_is)
    (case l_Desk_told => k_is)
    (case q_Desk_told => k_is)
    (case k_Desk_told => k_is)
    (case a_Live_undo => k_is)
    (case i_Live_undo => k_is)
    (case l_Live_undo => k_is)
    (case q_Live_undo => k_is)
    (case k_Live_undo => k_is)
    (case a_figures_in => k_is)
    (case l_figures_in => k_is)
    (case q_figures_in => k_is)
    (case k_figures_in => k_is)
    (case a_read_number => k_is)
    (case l_read_number => k_is)
    (case q_read_number => k_is)
    (case k_read_number => k_is)
    (case a_number_in => k_is)
    (case l_number_in => k_is)
    (case q_number_in => k_is)
    (case k_number_in => k_is)
    (case a_read_row => k_is)
    (case l_read_row => k_is)
    (case q_read_row => k_is)
    (case k_read_row => k_is)
    (case a_Desk_say => k_is)
    (case i_Desk_say => k_is)
    (case l_Desk_say => k_is)
    (case q_Desk_say => k_is)
    (case k_Desk_say => k_is)
    (case a__law_changes => k_is)
    (case l__law_changes => k_is)
    (case q__law_changes => k_is)
    (case k__law_changes => k_is)
    (case a__law_is_number => k_is)
    (case l__law_is_number => k_is)
    (case q__law_is_number => k_is)
    (case k__law_is_number => k_is)
    (case a__law_is_place => k_is)
    (case l__law_is_place => k_is)
    (case q__law_is_place => k_is)
    (case k__law_is_place => k_is)
    (case a__law_one_due => k_is)
    (case l__law_one_due => k_is)
    (case q__law_one_due => k_is)
    (case k__law_one_due => k_is)
    (case a__law_two_due => k_is)
    (case l__law_two_due => k_is)
    (case q__law_two_due => k_is)
    (case k__law_two_due => k_is)
    (case a__law_due => k_is)
    (case l__law_due => k_is)
    (case q__law_due => k_is)
    (case k__law_due => k_is)
    (case a__law_met => k_is)
    (case l__law_met => k_is)
    (case q__law_met => k_is)
    (case k__law_met => k_is)
    (case a__law_size => k_is)
    (case l__law_size => k_is)
    (case q__law_size => k_is)
    (case k__law_size => k_is)
    (case a__law_things_right => k_is)
    (case l__law_things_right => k_is)
    (case q__law_things_right => k_is)
    (case k__law_things_right => k_is)
    (case a__law_undone => k_is)
    (case l__law_undone => k_is)
    (case q__law_undone => k_is)
    (case k__law_undone => k_is)
    (case a__law_deck => k_is)
    (case l__law_deck => k_is)
    (case q__law_deck => k_is)
    (case k__law_deck => k_is)
    (case a__law_take => k_is)
    (case l__law_take => k_is)
    (case q__law_take => k_is)
    (case k__law_take => k_is)
    (case a__law_figure => k_is)
    (case l__law_figure => k_is)
    (case q__law_figure => k_is)
    (case k__law_figure => k_is)
    (case a__law_place => k_is)
    (case l__law_place => k_is)
    (case q__law_place => k_is)
    (case k__law_place => k_is)
    (case a__law_text => k_is)
    (case l__law_text => k_is)
    (case q__law_text => k_is)
    (case k__law_text => k_is)
    (case a__law_words => k_is)
    (case l__law_words => k_is)
    (case q__law_words => k_is)
    (case k__law_words => k_is)
    (case a_law => k_is)
    (case l_law => k_is)
    (case q_law => k_is)
    (case k_law => k_is)
    (case x_NoPlace => k_exc)
    (case k_NoPlace => k_is)
    (case x_NoWindow => k_exc)
    (case k_NoWindow => k_is)
    (case x_NoCommand => k_exc)
    (case k_NoCommand => k_is)
    (case x_NoRow => k_exc)
    (case k_NoRow => k_is)
    (case b_NoCommand => k_is)
    (case t_NoCommand => k_is)
    (case h_NoCommand => k_is)
    (case b_NoPlace => k_is)
    (case t_NoPlace => k_is)
    (case h_NoPlace => k_is)
    (case b_NoRow => k_is)
    (case t_NoRow => k_is)
    (case h_NoRow => k_is)
    (case b_NoWindow => k_is)
    (case t_NoWindow => k_is)
    (case h_NoWindow => k_is)
    (case b_RowError => k_is)
    (case t_RowError => k_is)
    (case h_RowError => k_is)
    (case s_NoPlace_NoRow => k_is)
    (case s_NoPlace_RowError => k_is)
    (case q_NoPlace_NoCommand => kit_is)
    (case q_NoPlace_NoRow => kit_is)
    (case q_NoPlace_NoNeeds => kit_is)
    (case q_NoPlace_NoTable => kit_is)
    (case q_NoPlace_NoWindow => kit_is)
    (case q_NoPlace_NoPlace => kit_is)
    (case q_NoPlace_ValueError => kit_is)
    (case Ehg_NoPlace => k_is)
    (case Ehk_NoPlace => k_is)
    (case Eha_NoPlace => k_is)
    (case Ehm_NoPlace => k_is)
    (case s_NoWindow_NoRow => k_is)
    (case s_NoWindow_RowError => k_is)
    (case q_NoWindow_NoCommand => kit_is)
    (case q_NoWindow_NoRow => kit_is)
    (case q_NoWindow_NoNeeds => kit_is)
    (case q_NoWindow_NoTable => kit_is)
    (case q_NoWindow_NoWindow => kit_is)
    (case q_NoWindow_NoPlace => kit_is)
    (case q_NoWindow_ValueError => kit_is)
    (case Ehg_NoWindow => k_is)
    (case Ehk_NoWindow => k_is)
    (case Eha_NoWindow => k_is)
    (case Ehm_NoWindow => k_is)
    (case s_NoCommand_NoRow => k_is)
    (case s_NoCommand_RowError => k_is)
    (case q_NoCommand_NoCommand => kit_is)
    (case q_NoCommand_NoRow => kit_is)
    (case q_NoCommand_NoNeeds => kit_is)
    (case q_NoCommand_NoTable => kit_is)
    (case q_NoCommand_NoWindow => kit_is)
    (case q_NoCommand_NoPlace => kit_is)
    (case q_NoCommand_ValueError => kit_is)
    (case Ehg_NoCommand => k_is)
    (case Ehk_NoCommand => k_is)
    (case Eha_NoCommand => k_is)
    (case Ehm_NoCommand => k_is)
    (case s_NoRow_NoRow => k_is)
    (case s_NoRow_RowError => k_is)
    (case q_NoRow_NoCommand => kit_is)
    (case q_NoRow_NoRow => kit_is)
    (case q_NoRow_NoNeeds => kit_is)
    (case q_NoRow_NoTable => kit_is)
    (case q_NoRow_NoWindow => kit_is)
    (case q_NoRow_NoPlace => kit_is)
    (case q_NoRow_ValueError => kit_is)
    (case Ehg_NoRow => k_is)
    (case Ehk_NoRow => k_is)
    (case Eha_NoRow => k_is)
    (case Ehm_NoRow => k_is)
    (case Ehn => k_is)
    (case Eht => k_is)
    (case a_FIGURES_desk => k_is)
    (case a_MOST_FIGURES_desk => k_is)
    (case a_MOST_FIGURES_notes => k_is)
    (case a_FIGURES_notes => k_is)
    (case a_WORDS => k_is)
    (case l_WORDS => k_is)
    (case y_WORDS => repeat (first | exact trivial | refine ⟨⟨_, _, rfl, rfl⟩, ?_⟩))
    (case w_WORDS => kernel_rfl)
    (case o_WORDS => kernel_rfl)
    (case z_ValueError => k_is)
    (case z_all => k_is)
    (case z_bool => k_is)
    (case z_enumerate => k_is)
    (case z_int => k_is)
    (case z_isinstance => k_is)
    (case z_len => k_is)
    (case z_list => k_is)
    (case z_max => k_is)
    (case z_min => k_is)
    (case z_range => k_is)
    (case z_str => k_is)
    (case z_sum => k_is)
