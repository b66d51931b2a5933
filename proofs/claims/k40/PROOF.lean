import PyProof.Rows.All
import Wide.All
import OpenK.AllK
import Wide.FinOn
import PyProof.EqAt
import PyProof.EqKinds
import PyProof.TupleCall
import PyProof.WalksEnum
import KE.KItemsList
import KE.KDictZip
import KE.KDictItemsList
import KE.KCallChange
import KE.KCallJoin
import HandS.ForMost
import HandS.Walk
import HandS.Evl
import HandS.IsInst
import HandS.SortInts
import HandS.Exc
import HandS.TryOnly
import HandS.ExcOwn
import HandS.WordsExc
import HandS.Zip
import HandS.Rev
import HandS.SetKeys
import HandS.Style
import HandS.Conv
import HandS.ExcIs
import HandS.SetFor
import HandS.Set
import HandS.More
import HandS.Wide
import KE.DataMinMax
import PySem.Challenge.RW_unlikerow_k40_needs_that_are_none
set_option Elab.async false
set_option linter.all false
set_option maxRecDepth 100000
set_option maxHeartbeats 4000000
/-! list(enumerate(l)), l a list: a new list of new pairs -/
namespace UrE
open PySem PySem.W PySem.Calls PyProof.Rows
open Sem (wp)
theorem enum_no_len : typeLookup (.type "enumerate") "__len__" = pure none := by rw [typeLookup_type, builtinLookup_eq_fast]; kernel_rfl
theorem enum_no_hint : typeLookup (.type "enumerate") "__length_hint__" = pure none := by rw [typeLookup_type, builtinLookup_eq_fast]; kernel_rfl
/-- the enumerate object at e between two turns, the tuples handed out still alive: f the first two fields -/
def Out (h : Heap) (e it S : Addr) (i : Nat) : Prop := ∃ (f0 f1 old : Value), h.get? e = some { cls := .type "enumerate", dict := none, data := .fields #[f0, f1, .ref it, rawInt i, .none, old], slots := #[] } ∧
  ((f0 = .none) ∨ ∃ (a : Addr) (b : Bool) (oa : Obj), f0 = rawInt a ∧ f1 = .bool b ∧ h.get? a = some oa ∧ a ≠ e ∧ a ≠ it ∧ a ≠ S)
section
variable {prog : Program} {w : World} {A : Around} {E : Value → Shared → Prop} {s : Shared}
theorem out_item {e it l S : Addr} {i : Nat} {items : Array Value} {x : Value} {Q : Option Value → Shared → Prop}
    (ho : Out s.heap e it S i) (hit : s.heap.IsListIter it l i) (hl : s.heap.IsList l items) (hx : items[i]? = some x) (hne : e ≠ it) (hSl : S < s.heap.objs.size)
    (hQ : ∀ h' tk, Out h' e it S (i + 1) → h'.IsListIter it l (i + 1) →
      (∃ t, h'.get? s.heap.objs.size = some { cls := .type "tuple", data := .seq #[.int i t, x] }) → h'.objs.size = s.heap.objs.size + 1 →
      (∀ b o, b ≠ e → b ≠ it → s.heap.get? b = some o → h'.get? b = some o) → Q (some (.ref s.heap.objs.size)) { s with heap := h', toks := tk }) :
    wpAny (model prog w) A (pyNext (.ref e)) Q E s := by
  obtain ⟨f0, f1, old, he, hf⟩ := ho
  rcases hf with rfl | ⟨a, b, oa, rfl, rfl, ha, hae, hai, haS⟩
  · have hT : s.TypeIs (.ref e) "enumerate" := ⟨_, he, rfl⟩
    unfold pyNext
    refine wpAny_bind (wpAny_attempt (wpAny_callSpecial?_slot (name := Str.ofString "__next__") hT PySem.F.slot_enumerate_next
      (wpAny_call_entry PySem.F.slot_enumerate_next hT PySem.F.entry_enumerate_next ?_ (PySem.F.args_enumerate_next_1 _))))
    obtain ⟨hp, g, d, tk, os⟩ := s
    show wpAny _ _ (field (.ref e) 2 >>= _) _ _ _
    refine wpAny_bind (wpAny_field he rfl (x := .ref it) rfl ?_)
    refine wpAny_bind (wpAny_nextOf_list_item hit hl hx fun h₁ hit₁ hs₁ => ?_)
    replace hs₁ : Heap.SameBut it hp h₁ := hs₁
    have he₁ := (hs₁.2 e hne).trans he
    show wpAny _ _ (field (.ref e) 3 >>= _) _ _ ⟨h₁, g, d, tk, os⟩
    refine wpAny_bind (wpAny_field he₁ rfl (x := rawInt i) rfl ?_)
    show wpAny _ _ (field (.ref e) 4 >>= _) _ _ ⟨h₁, g, d, tk, os⟩
    refine wpAny_bind (wpAny_field he₁ rfl (x := .none) rfl ?_)
    show wpAny _ _ (mkInt i >>= _) _ _ ⟨h₁, g, d, tk, os⟩
    refine wpAny_bind (wpAny_mkInt ?_)
    show wpAny _ _ (setField (.ref e) 3 (rawInt ((i : Int) + 1)) >>= _) _ _ ⟨h₁, g, d, tk + 1, os⟩
    refine wpAny_bind (wpAny_setField_rec he₁ (by simp) fun h₂ he₂ hs₂ => ?_)
    replace hs₂ : Heap.SameBut e h₁ h₂ := hs₂
    simp only [Array.set!, rawInt] at he₂
    show wpAny _ _ (setField (.ref e) 4 .none >>= _) _ _ ⟨h₂, g, d, tk + 1, os⟩
    refine wpAny_bind (wpAny_setField_rec he₂ (by simp) fun h₃ he₃ hs₃ => ?_)
    replace hs₃ : Heap.SameBut e h₂ h₃ := hs₃
    show wpAny _ _ (newTuple [.int i tk, x] >>= _) _ _ ⟨h₃, g, d, tk + 1, os⟩
    refine wpAny_bind (wpAny_newTuple ?_)
    have he₄ := Heap.get?_push_of_some { cls := .type "tuple", data := .seq #[.int i tk, x] } he₃
    have hel : e < hp.objs.size := Heap.lt_size he
    have hsz : h₃.objs.size = hp.objs.size := by rw [hs₃.1, hs₂.1, hs₁.1]
    generalize hh₄ : h₃.push { cls := .type "tuple", data := .seq #[.int i tk, x] } = h₄ at he₄
    have ht₄ : h₄.get? hp.objs.size = some { cls := .type "tuple", data := .seq #[.int i tk, x] } := by rw [← hh₄, ← hsz]; exact Heap.get?_push_size _ rfl
    have hz₄ : h₄.objs.size = hp.objs.size + 1 := by rw [← hh₄, Heap.size_push, hsz]
    have hk₄ : ∀ b o, b ≠ e → b ≠ it → hp.get? b = some o → h₄.get? b = some o := fun b o hbe hbi hb => by
      rw [← hh₄]; exact Heap.get?_push_of_some _ (hs₃.extBut b o hbe (hs₂.extBut b o hbe (hs₁.extBut b o hbi hb)))
    have hit₄ : h₄.IsListIter it l (i + 1) := by
      rw [← hh₄]; obtain ⟨o, ho, r⟩ := (hit₁.extBut hs₂.extBut (Ne.symm hne)).extBut hs₃.extBut (Ne.symm hne); exact ⟨o, Heap.get?_push_of_some _ ho, r⟩
    show wpAny _ _ (Builtin.SmallTypes.ownedTupleIsFree (.ref e) >>= _) _ _ ⟨h₄, g, d, tk + 1, os⟩
    rw [hsz]
    refine wpAny_bind ?_
    unfold Builtin.SmallTypes.ownedTupleIsFree
    refine wpAny_bind (wpAny_field he₄ rfl (x := .none) rfl (wpAny_pure ?_))
    simp only [if_true]
    refine wpAny_bind (wpAny_rule ?_)
    refine wpAny_bind (wpAny_field he₄ rfl (x := old) rfl ?_)
    refine wpAny_bind (wpAny_setField_rec he₄ (by simp) fun h₅ he₅ hs₅ => ?_)
    replace hs₅ : Heap.SameBut e h₄ h₅ := hs₅
    show wpAny _ _ (Builtin.SmallTypes.ownedTupleHandOut (.ref e) (.ref hp.objs.size) >>= _) _ _ ⟨h₅, g, d, tk + 1, os⟩
    refine wpAny_bind ?_
    unfold Builtin.SmallTypes.ownedTupleHandOut
    refine wpAny_bind (wpAny_setField_rec he₅ (by simp) fun h₆ he₆ hs₆ => ?_)
    replace hs₆ : Heap.SameBut e h₅ h₆ := hs₆
    refine wpAny_setField_rec he₆ (by simp) fun h₇ he₇ hs₇ => ?_
    replace hs₇ : Heap.SameBut e h₆ h₇ := hs₇
    have t7 : h₇.get? hp.objs.size = some { cls := .type "tuple", data := .seq #[.int i tk, x] } := hs₇.extBut _ _ (Nat.ne_of_gt hel) (hs₆.extBut _ _ (Nat.ne_of_gt hel) (hs₅.extBut _ _ (Nat.ne_of_gt hel) ht₄))
    have hil : it < hp.objs.size := by obtain ⟨o, z, _⟩ := hit; exact Heap.lt_size z
    refine wpAny_bind (wpAny_letGo (wpAny_pure ⟨_, rfl, wpAny_pure (hQ h₇ (tk + 1) ⟨rawInt hp.objs.size, .bool false, x, ?_, Or.inr ⟨hp.objs.size, false, _, rfl, rfl, t7, Nat.ne_of_gt hel, Nat.ne_of_gt hil, Nat.ne_of_gt hSl⟩⟩ ?_ ⟨tk, t7⟩ ?_ ?_)⟩))
    · simpa [rawInt, Array.set!] using he₇
    · exact ((hit₄.extBut hs₅.extBut (Ne.symm hne)).extBut hs₆.extBut (Ne.symm hne)).extBut hs₇.extBut (Ne.symm hne)
    · rw [hs₇.1, hs₆.1, hs₅.1, hz₄]
    · exact fun b o hbe hbi hb => hs₇.extBut b o hbe (hs₆.extBut b o hbe (hs₅.extBut b o hbe (hk₄ b o hbe hbi hb)))
  · have hT : s.TypeIs (.ref e) "enumerate" := ⟨_, he, rfl⟩
    unfold pyNext
    refine wpAny_bind (wpAny_attempt (wpAny_callSpecial?_slot (name := Str.ofString "__next__") hT PySem.F.slot_enumerate_next
      (wpAny_call_entry PySem.F.slot_enumerate_next hT PySem.F.entry_enumerate_next ?_ (PySem.F.args_enumerate_next_1 _))))
    obtain ⟨hp, g, d, tk, os⟩ := s
    show wpAny _ _ (field (.ref e) 2 >>= _) _ _ _
    refine wpAny_bind (wpAny_field he rfl (x := .ref it) rfl ?_)
    refine wpAny_bind (wpAny_nextOf_list_item hit hl hx fun h₁ hit₁ hs₁ => ?_)
    replace hs₁ : Heap.SameBut it hp h₁ := hs₁
    have he₁ := (hs₁.2 e hne).trans he
    show wpAny _ _ (field (.ref e) 3 >>= _) _ _ ⟨h₁, g, d, tk, os⟩
    refine wpAny_bind (wpAny_field he₁ rfl (x := rawInt i) rfl ?_)
    show wpAny _ _ (field (.ref e) 4 >>= _) _ _ ⟨h₁, g, d, tk, os⟩
    refine wpAny_bind (wpAny_field he₁ rfl (x := .none) rfl ?_)
    show wpAny _ _ (mkInt i >>= _) _ _ ⟨h₁, g, d, tk, os⟩
    refine wpAny_bind (wpAny_mkInt ?_)
    show wpAny _ _ (setField (.ref e) 3 (rawInt ((i : Int) + 1)) >>= _) _ _ ⟨h₁, g, d, tk + 1, os⟩
    refine wpAny_bind (wpAny_setField_rec he₁ (by simp) fun h₂ he₂ hs₂ => ?_)
    replace hs₂ : Heap.SameBut e h₁ h₂ := hs₂
    simp only [Array.set!, rawInt] at he₂
    show wpAny _ _ (setField (.ref e) 4 .none >>= _) _ _ ⟨h₂, g, d, tk + 1, os⟩
    refine wpAny_bind (wpAny_setField_rec he₂ (by simp) fun h₃ he₃ hs₃ => ?_)
    replace hs₃ : Heap.SameBut e h₂ h₃ := hs₃
    show wpAny _ _ (newTuple [.int i tk, x] >>= _) _ _ ⟨h₃, g, d, tk + 1, os⟩
    refine wpAny_bind (wpAny_newTuple ?_)
    have he₄ := Heap.get?_push_of_some { cls := .type "tuple", data := .seq #[.int i tk, x] } he₃
    have hel : e < hp.objs.size := Heap.lt_size he
    have hsz : h₃.objs.size = hp.objs.size := by rw [hs₃.1, hs₂.1, hs₁.1]
    generalize hh₄ : h₃.push { cls := .type "tuple", data := .seq #[.int i tk, x] } = h₄ at he₄
    have ht₄ : h₄.get? hp.objs.size = some { cls := .type "tuple", data := .seq #[.int i tk, x] } := by rw [← hh₄, ← hsz]; exact Heap.get?_push_size _ rfl
    have hz₄ : h₄.objs.size = hp.objs.size + 1 := by rw [← hh₄, Heap.size_push, hsz]
    have hk₄ : ∀ b o, b ≠ e → b ≠ it → hp.get? b = some o → h₄.get? b = some o := fun b o hbe hbi hb => by
      rw [← hh₄]; exact Heap.get?_push_of_some _ (hs₃.extBut b o hbe (hs₂.extBut b o hbe (hs₁.extBut b o hbi hb)))
    have hit₄ : h₄.IsListIter it l (i + 1) := by
      rw [← hh₄]; obtain ⟨o, ho, r⟩ := (hit₁.extBut hs₂.extBut (Ne.symm hne)).extBut hs₃.extBut (Ne.symm hne); exact ⟨o, Heap.get?_push_of_some _ ho, r⟩
    have ha₄ := hk₄ a oa hae hai ha
    have hil : it < hp.objs.size := by obtain ⟨o, z, _⟩ := hit; exact Heap.lt_size z
    show wpAny _ _ (Builtin.SmallTypes.ownedTupleIsFree (.ref e) >>= _) _ _ ⟨h₄, g, d, tk + 1, os⟩
    rw [hsz]
    refine wpAny_bind ?_
    unfold Builtin.SmallTypes.ownedTupleIsFree
    refine wpAny_bind (wpAny_field he₄ rfl (x := rawInt a) rfl ?_)
    show wpAny _ _ (loadIfAlive a >>= _) _ _ _
    refine wpAny_bind (kdx_alive ha₄ ?_)
    show wpAny _ _ (field (.ref e) 1 >>= _) _ _ _
    refine wpAny_bind (wpAny_field he₄ rfl (x := .bool b) rfl ?_)
    refine wpAny_ite_split (fun _ => ?_) (fun hb => ?_)
    · refine wpAny_bind (wpAny_setField_rec he₄ (by simp) fun h₅ he₅ hs₅ => ?_)
      replace hs₅ : Heap.SameBut e h₄ h₅ := hs₅
      have t5 := hs₅.extBut _ _ (Nat.ne_of_gt hel) ht₄
      refine wpAny_pure ?_
      simp only [Bool.false_eq_true, if_false]
      refine wpAny_pure ⟨_, rfl, wpAny_pure (hQ h₅ (tk + 1) ⟨rawInt a, .bool true, old, ?_, Or.inr ⟨a, true, oa, rfl, rfl, hs₅.extBut _ _ hae ha₄, hae, hai, haS⟩⟩ (hit₄.extBut hs₅.extBut (Ne.symm hne)) ⟨tk, t5⟩ ?_ ?_)⟩
      · simpa [rawInt, Array.set!] using he₅
      · rw [hs₅.1, hz₄]
      · exact fun b o hbe hbi hb => hs₅.extBut b o hbe (hk₄ b o hbe hbi hb)
    · refine wpAny_pure ?_
      simp only [Bool.false_eq_true, if_false]
      refine wpAny_pure ⟨_, rfl, wpAny_pure (hQ h₄ (tk + 1) ⟨rawInt a, .bool b, old, ?_, Or.inr ⟨a, b, oa, rfl, rfl, ha₄, hae, hai, haS⟩⟩ hit₄ ⟨tk, ht₄⟩ hz₄ hk₄)⟩
      simpa [rawInt, Array.set!] using he₄
theorem out_end {e it l S : Addr} {i : Nat} {items : Array Value} {Q : Option Value → Shared → Prop} (hh : A.handled = none)
    (ho : Out s.heap e it S i) (hit : s.heap.IsListIter it l i) (hl : s.heap.IsList l items) (hx : items[i]? = none)
    (hQ : ∀ h', Heap.ExtBut it s.heap h' → Q none { s with heap := h' }) : wpAny (model prog w) A (pyNext (.ref e)) Q E s := by
  obtain ⟨f0, f1, old, he, _⟩ := ho
  have hT : s.TypeIs (.ref e) "enumerate" := ⟨_, he, rfl⟩
  unfold pyNext
  refine wpAny_bind (wpAny_attempt (wpAny_callSpecial?_slot (name := Str.ofString "__next__") hT PySem.F.slot_enumerate_next
    (wpAny_call_entry PySem.F.slot_enumerate_next hT PySem.F.entry_enumerate_next ?_ (PySem.F.args_enumerate_next_1 _))))
  show wpAny _ _ (field (.ref e) 2 >>= _) _ _ _
  refine wpAny_bind (wpAny_field he rfl (x := .ref it) rfl ?_)
  refine wpAny_bind (wpAny_nextOf_list_end hh hit hl hx fun h' x he' hx' => ?_)
  obtain ⟨o, ho, hc⟩ := hx'
  refine wpAny_bind (wpAny_isInstance (T := "StopIteration") (b := true) ⟨o, ho, hc⟩ isSubtype_stop ?_)
  exact wpAny_pure (hQ _ he')
end
end UrE
namespace UrE
open PySem PySem.W PySem.Calls PyProof.Rows
structure EnG (items : Array Value) (lo : Addr) (h : Heap) (as : List Addr) : Prop where
  rise : as.Pairwise (· < ·)
  above : ∀ a ∈ as, lo < a
  pairs : ∀ (j : Nat) (a : Addr), as[j]? = some a → ∃ t x, items[j]? = some x ∧ h.get? a = some { cls := .type "tuple", data := .seq #[.int j t, x] }
theorem EnG.there {items : Array Value} {lo : Addr} {h : Heap} {as : List Addr} (g : EnG items lo h as) {a : Addr} (ha : a ∈ as) : a < h.objs.size := by
  obtain ⟨j, hj⟩ := List.mem_iff_getElem?.mp ha
  obtain ⟨_, _, _, e⟩ := g.pairs j a hj
  exact Heap.lt_size e
section
variable {prog : Program} {w : World} {A : Around} {s : Shared} {R : Result → Shared → Prop} {items : Array Value}
theorem en_loop {S e it l : Addr} (hh : A.handled = none) (hei : e ≠ it) (hle : l ≠ e) (hli : l ≠ it) (heS : e < S) (hiS : it < S) (hlS : l ≠ S) (hn : items.size ≤ sizeLine) (res : Value) {h₁ : Heap}
    (hR : ∀ h' tk acc c as, (∀ b o, b ≠ S → b ≠ e → b ≠ it → h₁.get? b = some o → h'.get? b = some o) → h'.get? S = some { cls := .type "list", dict := none, data := .seq acc c, slots := #[] } → as.length = items.size → EnG items S h' as →
      acc.toList = as.map Value.ref → R (.ok (.ret res)) { s with heap := h', toks := tk }) :
    ∀ (k i : Nat) (h : Heap) (tk c : Nat) (acc : Array Value) (as : List Addr), items.size - i = k → i ≤ items.size → Out h e it S i → h.IsListIter it l i → h.IsList l items → (∀ b o, b ≠ S → b ≠ e → b ≠ it → h₁.get? b = some o → h.get? b = some o) →
      h.get? S = some { cls := .type "list", dict := none, data := .seq acc c, slots := #[] } → acc.toList = as.map Value.ref → as.length = i → EnG items S h as →
      codeAny (model prog w) A (.builtin "list.extend.loop" ⟨[.ref S, .ref e, res], []⟩) R { s with heap := h, toks := tk } := by
  intro k
  induction k with
  | zero =>
    intro i h tk c acc as hk hi hst hit hl hkeep hS hacc hal hG
    have hin : i = items.size := by omega
    refine codeAny_builtin PySem.F.entry_extend_loop ?_
    rw [Around.under_plainId PySem.F.plain_extend_loop _]
    show wpAny _ A.in1 (pyNext (.ref e) >>= _) _ _ _
    refine wpAny_bind (out_end (s := { s with heap := h, toks := tk }) (A := A.in1) hh hst hit hl (Array.getElem?_eq_none (by omega)) fun h' he => ?_)
    refine wpAny_pure (hR h' tk acc c as (fun b o h1 h2 h3 e => he b o h3 (hkeep b o h1 h2 h3 e)) (he S _ (Nat.ne_of_gt hiS) hS) (by omega) ⟨hG.rise, hG.above, fun j a hj => ?_⟩ hacc)
    obtain ⟨t, x, e2, e3⟩ := hG.pairs j a hj
    exact ⟨t, x, e2, he a _ (Nat.ne_of_gt (Nat.lt_trans hiS (hG.above a (List.mem_of_getElem? hj)))) e3⟩
  | succ k ih =>
    intro i h tk c acc as hk hi hst hit hl hkeep hS hacc hal hG
    have hlt : i < items.size := by omega
    have hsz : acc.size = i := by rw [← Array.length_toList, hacc, List.length_map, hal]
    refine codeAny_builtin PySem.F.entry_extend_loop ?_
    rw [Around.under_plainId PySem.F.plain_extend_loop _]
    show wpAny _ A.in1 (pyNext (.ref e) >>= _) _ _ _
    refine wpAny_bind (out_item (s := { s with heap := h, toks := tk }) hst hit hl (Array.getElem?_eq_getElem hlt) hei (Heap.lt_size hS) fun h' tk' hst' hit' ht hz hkp => ?_)
    dsimp only at ht hz hkp ⊢
    obtain ⟨t, ht⟩ := ht
    have hSl : S < h.objs.size := Heap.lt_size hS
    have hS' := hkp S _ (Nat.ne_of_gt heS) (Nat.ne_of_gt hiS) hS
    have up : ∀ b o, b ≠ S → h'.get? b = some o → (h'.update S (Obj.mapSeq (·.push (Value.ref h.objs.size)))).get? b = some o := fun b o hb e => (Heap.get?_update_other _ _ (Ne.symm hb)).trans e
    have upI : ∀ (h2 : Heap), (∀ b o, b ≠ S → h'.get? b = some o → h2.get? b = some o) → Out h2 e it S (i + 1) := fun h2 k2 => by
      obtain ⟨f0, f1, old, e1, hf⟩ := hst'
      refine ⟨f0, f1, old, k2 _ _ (Nat.ne_of_lt heS) e1, ?_⟩
      rcases hf with z | ⟨a, b, oa, z1, z2, z3, z4, z5, z6⟩
      · exact Or.inl z
      · exact Or.inr ⟨a, b, oa, z1, z2, k2 a oa z6 z3, z4, z5, z6⟩
    show wpAny _ A.in1 (updateSeq S (·.push (Value.ref h.objs.size)) >>= _) _ _ _
    refine wpAny_bind ?_
    refine wpAny_updateSeq hS' rfl (wpAny_pure ⟨plainId_quiet PySem.F.plain_extend_loop _, ih (i + 1) _ tk' _ (acc.push (Value.ref h.objs.size)) (as ++ [h.objs.size]) (by omega) hlt (upI _ up)
      (hit'.at fun o z => up it o (Nat.ne_of_lt hiS) z) ((hl.at fun o z => hkp l o hle hli z).at fun o z => up l o hlS z)
      (fun b o h1 h2 h3 z => up b o h1 (hkp b o h2 h3 (hkeep b o h1 h2 h3 z))) (Heap.get?_update_self _ hS' rfl) (by rw [Array.toList_push, hacc, List.map_append]; rfl) (by rw [List.length_append, hal]; rfl) ⟨?_, ?_, ?_⟩⟩) (by rw [hsz]; omega) (by show (acc.push (Value.ref h.objs.size)).size ≤ sizeLine + 1; rw [Array.size_push, hsz]; omega)
    · refine List.pairwise_append.mpr ⟨hG.rise, List.pairwise_singleton _ _, fun a ha b hb => ?_⟩
      rw [List.mem_singleton.mp hb]
      exact hG.there ha
    · intro a ha
      rcases List.mem_append.mp ha with ha | ha
      · exact hG.above a ha
      · rw [List.mem_singleton.mp ha]; exact hSl
    · intro j b hj
      rcases Nat.lt_trichotomy j as.length with h1 | h1 | h1
      · rw [List.getElem?_append_left h1] at hj
        obtain ⟨t3, x3, e2, e3⟩ := hG.pairs j b hj
        have hb := hG.above b (List.mem_of_getElem? hj)
        exact ⟨t3, x3, e2, up b _ (Nat.ne_of_gt hb) (hkp b _ (Nat.ne_of_gt (Nat.lt_trans heS hb)) (Nat.ne_of_gt (Nat.lt_trans hiS hb)) e3)⟩
      · subst h1
        have hb : h.objs.size = b := by simpa using hj
        subst hb
        subst hal
        exact ⟨t, _, Array.getElem?_eq_getElem hlt, up _ _ (Nat.ne_of_gt hSl) ht⟩
      · have hnone : (as ++ [h.objs.size])[j]? = none := List.getElem?_eq_none (by rw [List.length_append, List.length_singleton]; omega)
        rw [hnone] at hj; cases hj
end
section
variable {prog : Program} {w : World} {A : Around} {E : Value → Shared → Prop} {s : Shared} {items : Array Value} {e it l : Addr}
theorem en_extend {R : Result → Shared → Prop} (hh : A.handled = none) (he : IsEnum s.heap e it 0 .none) (hit : s.heap.IsListIter it l 0) (hl : s.heap.IsList l items) (hei : e ≠ it) (hle : l ≠ e) (hli : l ≠ it) (S : Addr) (heS : e < S) (hiS : it < S) (hlS : l ≠ S) (res : Value) (c₀ : Nat) (hS : s.heap.get? S = some { cls := .type "list", data := .seq #[] c₀ })
    (hR : ∀ h' tk acc c as, (∀ b o, b ≠ S → b ≠ e → b ≠ it → s.heap.get? b = some o → h'.get? b = some o) → h'.get? S = some { cls := .type "list", dict := none, data := .seq acc c, slots := #[] } → as.length = items.size → EnG items S h' as →
      acc.toList = as.map Value.ref → R (.ok (.ret res)) { s with heap := h', toks := tk }) (hn : items.size ≤ sizeLine) :
    wpAny (model prog w) A.in1 (Builtin.List.listExtendWith (.ref S) (.ref e) res)
      (fun fin s' => match fin with | .done f => R (.ok f) s' | .again c' => c'.quiet = true ∧ codeAny (model prog w) A c' R s') (fun e s' => R (.error e) s') s := by
  have hT : ∀ (h : Heap) (g : Shared), g.heap = h → IsEnum h e it 0 .none → g.TypeIs (.ref e) "enumerate" := fun h g e1 e2 => by
    subst e1
    exact ⟨_, e2, rfl⟩
  unfold Builtin.List.listExtendWith
  refine wpAny_bind (wpAny_typeOf (T := "enumerate") (hT _ _ rfl he) ?_)
  have h1 : Builtin.List.listSameRef (.ref S) (.ref e) = false := by simp [Builtin.List.listSameRef, Nat.ne_of_gt heS]
  have h2 : (Value.type "enumerate" == Value.type "list") = false := by decide
  have h3 : (Value.type "enumerate" == Value.type "tuple") = false := by decide
  simp only [h1, h2, h3, Bool.or_false, Bool.false_eq_true, if_false]
  refine wpAny_bind (wpAny_pyIter_enum he ?_)
  refine wpAny_bind (wpAny_holding ?_)
  unfold Builtin.List.listLengthHint
  refine wpAny_bind (wpAny_specialOf (hT _ _ rfl he) enum_no_len ?_)
  show wpAny _ _ (specialOf (Value.ref e) (Str.ofString "__length_hint__") >>= _) _ _ _
  refine wpAny_bind (wpAny_specialOf (hT _ _ rfl he) enum_no_hint ?_)
  refine wpAny_pure ?_
  show wpAny _ _ (rule "list.extend.makes-room" >>= fun _ => Builtin.List.listTouch (.ref S) >>= fun _ =>
    again (.builtin "list.extend.loop" ⟨[.ref S, .ref e, res], []⟩)) _ _ _
  refine wpAny_bind (wpAny_rule ?_)
  refine wpAny_bind ?_
  show wpAny _ _ (updateSeq S (·.push .none) >>= fun _ => updateSeq S (·.pop)) _ _ _
  refine wpAny_bind (wpAny_updateSeq hS rfl ?_)
  have hS₂ := Heap.get?_update_self (Obj.mapSeq (·.push Value.none)) hS rfl
  refine wpAny_updateSeq (hz := by seq_fits) hS₂ rfl ?_
  have hS₃ := Heap.get?_update_self (Obj.mapSeq (·.pop)) hS₂ rfl
  have oth : ∀ b o, b ≠ S → s.heap.get? b = some o → ((s.heap.update S (Obj.mapSeq (·.push Value.none))).update S (Obj.mapSeq (·.pop))).get? b = some o :=
    fun b o hb e => (Heap.get?_update_other _ _ (Ne.symm hb)).trans ((Heap.get?_update_other _ _ (Ne.symm hb)).trans e)
  refine wpAny_pure ⟨plainId_quiet PySem.F.plain_extend_loop _, ?_⟩
  exact en_loop (s := s) (h₁ := s.heap) hh hei hle hli heS hiS hlS hn res hR items.size 0 _ _ _ #[] [] (Nat.sub_zero _) (Nat.zero_le _) ⟨.none, .bool false, .none, oth e _ (Nat.ne_of_lt heS) he, Or.inl rfl⟩
    (hit.at fun o z => oth it o (Nat.ne_of_lt hiS) z) (hl.at fun o z => oth l o hlS z) (fun b o hb _ _ z => oth b o hb z) hS₃ rfl rfl ⟨List.Pairwise.nil, (fun _ ha => nomatch ha), (fun j a hj => by simp at hj)⟩
theorem en_call {Q : Value → Shared → Prop} (hh : A.handled = none) (he : IsEnum s.heap e it 0 .none) (hit : s.heap.IsListIter it l 0) (hl : s.heap.IsList l items) (hei : e ≠ it) (hle : l ≠ e) (hli : l ≠ it) (hn : items.size ≤ sizeLine)
    (hQ : ∀ h' tk acc c as, (∀ b o, b ≠ e → b ≠ it → s.heap.get? b = some o → h'.get? b = some o) → h'.get? s.heap.objs.size = some { cls := .type "list", dict := none, data := .seq acc c, slots := #[] } → as.length = items.size → EnG items s.heap.objs.size h' as →
      acc.toList = as.map Value.ref → Q (.ref s.heap.objs.size) { s with heap := h', toks := tk }) :
    wpAny (model prog w) A (call (.type "list") [.ref e]) Q E s := by
  refine callType_codes (Q₁ := fun obj s₁ => obj = .ref s.heap.objs.size ∧ s₁ = { s with heap := s.heap.push { cls := .type "list", data := .seq #[] } }) PySem.F.called_list (PySem.F.typeCall_list_1 _) PySem.F.entry_list_init
    (code_list_new _ ⟨rfl, rfl⟩) fun obj s₁ h₁ => ?_
  obtain ⟨rfl, rfl⟩ := h₁
  have hS : (s.heap.push { cls := .type "list", data := .seq #[] }).get? s.heap.objs.size = some { cls := .type "list", data := .seq #[] } := Heap.get?_push_size _ rfl
  have hel : e < s.heap.objs.size := Heap.lt_size he
  have hil : it < s.heap.objs.size := let ⟨_, z, _⟩ := hit; Heap.lt_size z
  have hll : l < s.heap.objs.size := let ⟨_, z, _⟩ := hl; Heap.lt_size z
  refine ⟨⟨_, hS, rfl⟩, PySem.F.args_list_init_2 _ _, ?_⟩
  show wpAny _ _ (do let old ← Builtin.List.listItems (.ref s.heap.objs.size); Builtin.List.listUpdate (.ref s.heap.objs.size) (fun _ => #[]); letGo old.toList.reverse; Builtin.List.listExtendWith (.ref s.heap.objs.size) (.ref e) .none) _ _ _
  refine wpAny_bind ?_
  unfold Builtin.List.listItems
  refine wpAny_bind (wpAny_seqItems hS rfl (wpAny_pure ?_))
  show wpAny _ _ (updateSeq s.heap.objs.size (fun _ => #[]) >>= fun _ => letGo (#[] : Array Value).toList.reverse >>= fun _ => Builtin.List.listExtendWith (.ref s.heap.objs.size) (.ref e) .none) _ _ _
  refine wpAny_bind (wpAny_updateSeq hS rfl ?_)
  have hS₂ := Heap.get?_update_self (Obj.mapSeq (fun _ => (#[] : Array Value))) hS rfl
  have oth : ∀ b o, s.heap.get? b = some o → ((s.heap.push { cls := .type "list", data := .seq #[] }).update s.heap.objs.size (Obj.mapSeq (fun _ => (#[] : Array Value)))).get? b = some o :=
    fun b o z => (Heap.get?_update_other _ _ (Nat.ne_of_gt (Heap.lt_size z))).trans (Heap.get?_push_of_some _ z)
  refine wpAny_bind (wpAny_letGo ?_)
  refine en_extend (A := A.in1) hh (oth e _ he) (hit.at fun o z => oth it o z) (hl.at fun o z => oth l o z) hei hle hli _ hel hil (Nat.ne_of_lt hll) .none _ hS₂ (fun h' tk acc c as hk hS' hl2 hG hacc => ?_) hn
  exact ⟨rfl, hQ h' tk acc c as (fun b o h1 h2 z => hk b o (Nat.ne_of_lt (Heap.lt_size z)) h1 h2 (oth b o z)) hS' hl2 hG hacc⟩
end
end UrE
namespace UrE
open PySem PySem.Spec PyProof.Rows L2
/-- tuples tracked at their addresses -/
def putG : Hp → List Addr → List (List V) → Hp
  | H, a :: as, c :: cs => putG (upd H a (.tup c)) as cs
  | H, _, _ => H
theorem putG_off {b : Addr} : ∀ (as : List Addr) (cs : List (List V)) (H : Hp), b ∉ as → putG H as cs b = H b
  | [], _, _, _ => rfl
  | _ :: _, [], _, _ => rfl
  | a :: as, c :: cs, H, h => by
    show putG (upd H a (.tup c)) as cs b = H b
    rw [putG_off as cs _ (fun z => h (List.mem_cons_of_mem _ z)), upd_ne (fun z => h (by rw [z]; exact List.mem_cons_self))]
theorem putG_at : ∀ (as : List Addr) (cs : List (List V)) (H : Hp), as.length = cs.length → as.Nodup → ∀ (j : Nat) (a : Addr), as[j]? = some a → ∃ c, cs[j]? = some c ∧ putG H as cs a = some (.tup c)
  | [], _, _, _, _, j, a, h => by simp at h
  | _ :: _, [], _, h, _, _, _, _ => by cases h
  | a :: as, c :: cs, H, h, hn, 0, b, e => by
    have hn' := List.nodup_cons.mp hn
    have e' : a = b := by simpa using e
    subst e'
    refine ⟨c, rfl, ?_⟩
    show putG (upd H a (.tup c)) as cs a = some (.tup c)
    rw [putG_off as cs _ hn'.1, upd_same]
  | a :: as, c :: cs, H, h, hn, j + 1, b, e => by
    have hn' := List.nodup_cons.mp hn
    exact putG_at as cs (upd H a (.tup c)) (Nat.succ.inj h) hn'.2 j b (by simpa using e)
/-- a new list of new tuples -/
def NewPairs (H : Hp) (cs : List (List V)) (p : Addr) (ts : List Addr) (H' : Hp) : Prop :=
  Same H H' ∧ H p = none ∧ (∀ t ∈ ts, H t = none) ∧ p ∉ ts ∧ ts.Nodup ∧ ts.length = cs.length ∧ H' p = some (.lst (ts.map V.ref)) ∧ ∀ (j : Nat) (c : List V), cs[j]? = some c → ∃ t, ts[j]? = some t ∧ H' t = some (.tup c)
theorem refs_vals : ∀ as : List Addr, Vals (as.map V.ref) (as.map Value.ref)
  | [] => .nil
  | _ :: as => .cons rfl (refs_vals as)
section
variable {X : Cx} {e : Expr} {ta : TA} {p p2 cpos pos : Pos}
theorem laid_pairs {pins : List (Addr × Obj)} {σ : L2.St} {H : Hp} {s : Shared} {h' : Heap} {tk : Nat} {cs : List (List V)} {acc : Array Value} {c S : Nat} {as : List Addr} (I : Inv X pins σ H s) (hz : cs.length ≤ sizeLine) (hS0 : s.heap.objs.size ≤ S)
    (hk : ∀ b o, s.heap.get? b = some o → h'.get? b = some o) (hS : h'.get? S = some { cls := .type "list", dict := none, data := .seq acc c, slots := #[] }) (hl : as.length = cs.length) (hr : as.Pairwise (· < ·)) (hab : ∀ a ∈ as, S < a)
    (ht : ∀ (j : Nat) (a : Addr) (c : List V), as[j]? = some a → cs[j]? = some c → c.length ≤ sizeLine ∧ ∃ us, Vals c us ∧ IsTup h' a us.toArray) (hacc : acc.toList = as.map Value.ref) :
    ∃ H' : Hp, NewPairs H cs S as H' ∧ Inv X pins σ H' { s with heap := h', toks := tk } := by
  have hSn : S ∉ as := fun z => Nat.lt_irrefl _ (hab _ z)
  have nd : as.Nodup := List.Pairwise.imp (fun {a b} (h : a < b) => Nat.ne_of_lt h) hr
  have new : ∀ t ∈ as, H t = none := fun t ht => I.hok.fresh (Nat.le_of_lt (Nat.lt_of_le_of_lt hS0 (hab t ht)))
  have newS : H S = none := I.hok.fresh hS0
  have atP := putG_at as cs (upd H S (.lst (as.map V.ref))) hl nd
  have off : ∀ b, b ∉ as → b ≠ S → putG (upd H S (.lst (as.map V.ref))) as cs b = H b := fun b h1 h2 => by rw [putG_off as cs _ h1, upd_ne h2]
  have low : ∀ b o, s.heap.get? b = some o → b ∉ as ∧ b ≠ S := fun b o e => ⟨fun z => absurd (Heap.lt_size e) (Nat.not_lt.mpr (Nat.le_of_lt (Nat.lt_of_le_of_lt hS0 (hab b z)))), Nat.ne_of_lt (Nat.lt_of_lt_of_le (Heap.lt_size e) hS0)⟩
  have kp : ∀ b u, H b = some u → (putG (upd H S (.lst (as.map V.ref))) as cs) b = some u := fun b u e => by
    rw [off b (fun z => by rw [new b z] at e; cases e) (fun z => by rw [z, newS] at e; cases e)]
    exact e
  have eS : putG (upd H S (.lst (as.map V.ref))) as cs S = some (.lst (as.map V.ref)) := by rw [putG_off as cs _ hSn, upd_same]
  refine ⟨putG (upd H S (.lst (as.map V.ref))) as cs, ⟨kp, newS, new, hSn, nd, hl, eS, fun j c hc => ?_⟩, ?_⟩
  · have hj : j < as.length := by rw [hl]; exact (List.getElem?_eq_some_iff.mp hc).1
    obtain ⟨c', h1, h2⟩ := atP j as[j] (List.getElem?_eq_getElem hj)
    rw [hc] at h1
    cases h1
    exact ⟨as[j], List.getElem?_eq_getElem hj, h2⟩
  refine I.call' (ch := []) rfl ⟨fun b o q _ _ _ => hk b o q, fun b o q _ _ _ => ⟨o.slots, hk b o q⟩, fun b o q n _ => ?_, fun b o q _ => ⟨o, hk b o q⟩, fun b xs q => kp b _ q, fun b o u q => kp b _ q, fun b ps q => ⟨#[], by rw [kp b _ q]; simp⟩⟩ (fun b u q => ?_) I.bare fun b z => by simp at z
  · obtain ⟨z1, z2⟩ := low b o q
    rw [off b z1 z2]
    exact n
  · by_cases hb : b ∈ as
    · obtain ⟨j, e1⟩ := List.mem_iff_getElem?.mp hb
      obtain ⟨c', e2, e3⟩ := atP j b e1
      rw [e3] at q
      cases q
      obtain ⟨z, us, r, tt⟩ := ht j b c' e1 e2
      exact ⟨z, us, r, tt⟩
    · by_cases hb2 : b = S
      · rw [hb2] at q ⊢
        rw [eS] at q
        cases q
        refine ⟨by rw [List.length_map]; omega, acc.toList, c, by rw [hacc]; exact refs_vals as, ?_⟩
        rw [Array.toArray_toList]
        exact hS
      · rw [off b hb hb2] at q
        exact (I.hok b u q).stay (fun d v _ y => hk d v y) (fun d y => kp d _ y) fun d xs y => kp d _ y
/-- the pairs (i, x) of a list -/
def enumC (xs : List V) : List (List V) := xs.zipIdx.map fun p => [.int (p.2 : Nat), p.1]
theorem enumC_len (xs : List V) : (enumC xs).length = xs.length := by simp [enumC]
theorem enumC_get {xs : List V} {j : Nat} : (enumC xs)[j]? = (xs[j]?).map fun x => [.int (j : Nat), x] := by
  unfold enumC
  rw [List.getElem?_map, List.getElem?_zipIdx]
  cases xs[j]? with
  | none => rfl
  | some x => simp
def tListEnum (K : PySem.W.Frag) (ta : TA) : TE := fun σ H Q => ta σ H fun vs H1 => ∃ a xs, vs = [.ref a] ∧ SqL K H1 a xs ∧ ∀ p ts H', NewPairs H1 (enumC xs) p ts H' → Q (.ref p) H'
theorem pe_list_enum (hc : X.calm = true) (hm : X.mg "list" = none) (hm2 : X.mg "enumerate" = none) (hg2 : Gl X "enumerate") (ha : PA X [e] ta) (hg : Gl X "list" := by rfl) (hs : starEach [e] X.env = [(false, eval e X.env)] := by rfl)
    (hs2 : starEach [.Call (.Name "enumerate" p2) [e] [] cpos] X.env = (false, eval (.Call (.Name "enumerate" p2) [e] [] cpos) X.env) :: starEach [] X.env := by rfl) :
    PE X (.Call (.Name "list" p) [.Call (.Name "enumerate" p2) [e] [] cpos] [] pos) (tListEnum X.K ta) := by
  refine ⟨fun pins s σ H Q I h => ?_⟩
  refine wpAny_Call_Name_kw (ld_blt I hg hm (by decide +kernel : bootBuiltins "list" = some (.type "list")) ?_)
  refine PyProof.Rows.callWith_type1 ?_ hs2 rfl
  rw [hs2]
  show wpAny _ _ (spliced ((false, eval (.Call (.Name "enumerate" p2) [e] [] cpos) X.env) :: backTo pos (starEach [] X.env))) _ _ s
  refine Calls.spliced_cons ?_
  refine Call_ (ld_blt I hg2 hm2 boot_enumerate (PyProof.Rows.callWith_type1 (thn (ha.run cpos pins s σ H _ I h) fun us s1 ⟨vs, H1, I1, r1, q1⟩ => ?_) hs rfl))
  obtain ⟨a, xs, ex, hq, q⟩ := q1
  subst ex
  cases r1 with
  | cons r rr =>
    cases rr
    cases r
    obtain ⟨its, rv, p', hz⟩ := I1.list hq
    refine call_enumerate_list p'.isList fun h' he hit hsz hk => ?_
    refine Calls.spliced_nil ?_
    have hla : a < s1.heap.objs.size := let ⟨_, z, _⟩ := p'.isList; Heap.lt_size z
    have hL' : h'.IsList a its.toArray := p'.isList.at fun o z => hk a o z
    have hlen : its.length = xs.length := (Vals.length rv).symm
    refine en_call (s := { s1 with heap := h' }) (I1.ok.hd hc) he hit hL' (Nat.succ_ne_self _) (Nat.ne_of_lt (Nat.lt_succ_of_lt hla)) (Nat.ne_of_lt hla) (by rw [List.size_toArray, hlen]; exact hz) fun h2 tk acc c as hk2 hS hl hG hacc => ?_
    have hsz' : h'.objs.size = s1.heap.objs.size + 2 := hsz
    obtain ⟨H', N, J⟩ := laid_pairs (I := I1) (h' := h2) (tk := tk) (cs := enumC xs) (acc := acc) (c := c) (S := h'.objs.size) (as := as) (by rw [enumC_len]; exact hz) (by omega)
      (fun b o z => hk2 b o (Nat.ne_of_lt (Nat.lt_succ_of_lt (Heap.lt_size z))) (Nat.ne_of_lt (Heap.lt_size z)) (hk b o z)) hS (by rw [hl, enumC_len, List.size_toArray, hlen]) hG.rise hG.above
      (fun j b c e1 e2 => by
        rw [enumC_get] at e2
        cases hx : xs[j]? with
        | none => rw [hx] at e2; cases e2
        | some x =>
          rw [hx] at e2
          have e3 : [V.int (j : Nat), x] = c := by simpa using e2
          subst e3
          obtain ⟨t, y, f1, f2⟩ := hG.pairs j b e1
          obtain ⟨u, g1, g2⟩ := rv.get hx
          have f1' : its[j]? = some y := by simpa using f1
          rw [f1'] at g1
          cases g1
          exact ⟨by show 2 ≤ sizeLine; decide, [.int j t, y], .cons ⟨t, rfl⟩ (.cons g2 .nil), ⟨_, f2, rfl, _, rfl⟩⟩) hacc
    exact ⟨.ref _, H', J, rfl, q _ as H' N⟩
end
end UrE

namespace Ur
open PySem L2

/-! ### frames -/
/-- all that was tracked stands as it was but at a -/
def But (a : Addr) (H H' : Hp) : Prop := ∀ b o, b ≠ a → H b = some o → H' b = some o
theorem same_get {H H' : Hp} {b : Addr} {o : HO} (s : Same H H') (h : H b = some o) : H' b = some o := s b o h
theorem but_get {H H' : Hp} {a b : Addr} {o : HO} (s : But a H H') (n : b ≠ a) (h : H b = some o) : H' b = some o := s b o n h
theorem ne_new {H : Hp} {a b : Addr} {o : HO} (h' : H b = none) (h : H a = some o) : a ≠ b := ne_of_none h h'
theorem at_nat {α : Type} {xs : List α} {j : Nat} {v : α} (h : xs[j]? = some v) : atI xs (j : Int) = some v := atI_nat h
theorem dead_upd {H : Hp} {a : Addr} {o u : HO} (h : upd H a o a = some u) : upd H a o a = some u := h
theorem dead_ne {a : Addr} (h : a ≠ a) : a ≠ a := h
theorem sz {n : Nat} (h : n ≤ 1000000) : n ≤ sizeLine := Nat.le_trans h (by decide)
theorem szl {n : Nat} (h : n < 1000000) : n < sizeLine := Nat.lt_of_lt_of_le h (by decide)
theorem ne_new' {H : Hp} {a b : Addr} {o : HO} (h' : H a = none) (h : H b = some o) : a ≠ b := fun e => ne_of_none h h' e.symm
theorem get_upd {H : Hp} {a b : Addr} {o u : HO} (n : b ≠ a) (h : H b = some u) : upd H a o b = some u := (upd_ne n).trans h
theorem b01 (b : Bool) : 0 ≤ (if b = true then (1 : Int) else 0) ∧ (if b = true then (1 : Int) else 0) ≤ 1 := by cases b <;> decide
/-! ### frames, for the search -/
theorem same_snoc {H0 H : Hp} {p : Addr} {o : HO} (n : H p = none) (s : Same H0 H) : Same H0 (upd H p o) := fun b u e => by
  have e' := s b u e
  rw [upd_ne (ne_of_none e' n)]
  exact e'
theorem same_upd' {H0 H : Hp} {p : Addr} {o : HO} (n : H0 p = none) (s : Same H0 H) : Same H0 (upd H p o) := fun b u e => by
  rw [upd_ne (ne_of_none e n)]
  exact s b u e
theorem same_step {H0 H1 H2 : Hp} (s2 : Same H1 H2) (s1 : Same H0 H1) : Same H0 H2 := s1.trans s2
theorem same_pairs {H0 H1 H2 : Hp} {cs : List (List V)} {p : Addr} {ts : List Addr} (n : UrE.NewPairs H1 cs p ts H2) (s1 : Same H0 H1) : Same H0 H2 := s1.trans n.1
theorem same_but {H0 H1 H2 : Hp} {a : Addr} (b : But a H1 H2) (n : H0 a = none) (s : Same H0 H1) : Same H0 H2 := fun x o e =>
  b x o (fun k => by rw [k, n] at e; cases e) (s x o e)
theorem adv0 {H H1 : Hp} {b : Addr} {o : HO} (s : Same H H1) (h : H b = some o) : H1 b = some o ∧ (∀ p, H p = none → b ≠ p) ∧ ∀ p, H p = none → b ≠ p := ⟨s _ _ h, fun _ k => ne_new k h, fun _ k => ne_new k h⟩
theorem adv1 {H H1 : Hp} {a0 : Addr} {o0 : HO} {b : Addr} {o : HO} (s : Same (upd H a0 o0) H1) (n0 : b ≠ a0) (h : H b = some o) : H1 b = some o ∧ (∀ p, (upd H a0 o0) p = none → b ≠ p) ∧ ∀ p, H p = none → b ≠ p := ⟨s _ _ (get_upd n0 h), fun _ k => ne_new k (get_upd n0 h), fun _ k => ne_new k h⟩
theorem adv2 {H H1 : Hp} {a0 : Addr} {o0 : HO} {a1 : Addr} {o1 : HO} {b : Addr} {o : HO} (s : Same (upd (upd H a0 o0) a1 o1) H1) (n0 : b ≠ a0) (n1 : b ≠ a1) (h : H b = some o) : H1 b = some o ∧ (∀ p, (upd (upd H a0 o0) a1 o1) p = none → b ≠ p) ∧ ∀ p, H p = none → b ≠ p := ⟨s _ _ (get_upd n1 (get_upd n0 h)), fun _ k => ne_new k (get_upd n1 (get_upd n0 h)), fun _ k => ne_new k h⟩
theorem adv3 {H H1 : Hp} {a0 : Addr} {o0 : HO} {a1 : Addr} {o1 : HO} {a2 : Addr} {o2 : HO} {b : Addr} {o : HO} (s : Same (upd (upd (upd H a0 o0) a1 o1) a2 o2) H1) (n0 : b ≠ a0) (n1 : b ≠ a1) (n2 : b ≠ a2) (h : H b = some o) : H1 b = some o ∧ (∀ p, (upd (upd (upd H a0 o0) a1 o1) a2 o2) p = none → b ≠ p) ∧ ∀ p, H p = none → b ≠ p := ⟨s _ _ (get_upd n2 (get_upd n1 (get_upd n0 h))), fun _ k => ne_new k (get_upd n2 (get_upd n1 (get_upd n0 h))), fun _ k => ne_new k h⟩
theorem adv4 {H H1 : Hp} {a0 : Addr} {o0 : HO} {a1 : Addr} {o1 : HO} {a2 : Addr} {o2 : HO} {a3 : Addr} {o3 : HO} {b : Addr} {o : HO} (s : Same (upd (upd (upd (upd H a0 o0) a1 o1) a2 o2) a3 o3) H1) (n0 : b ≠ a0) (n1 : b ≠ a1) (n2 : b ≠ a2) (n3 : b ≠ a3) (h : H b = some o) : H1 b = some o ∧ (∀ p, (upd (upd (upd (upd H a0 o0) a1 o1) a2 o2) a3 o3) p = none → b ≠ p) ∧ ∀ p, H p = none → b ≠ p := ⟨s _ _ (get_upd n3 (get_upd n2 (get_upd n1 (get_upd n0 h)))), fun _ k => ne_new k (get_upd n3 (get_upd n2 (get_upd n1 (get_upd n0 h)))), fun _ k => ne_new k h⟩
theorem adv5 {H H1 : Hp} {a0 : Addr} {o0 : HO} {a1 : Addr} {o1 : HO} {a2 : Addr} {o2 : HO} {a3 : Addr} {o3 : HO} {a4 : Addr} {o4 : HO} {b : Addr} {o : HO} (s : Same (upd (upd (upd (upd (upd H a0 o0) a1 o1) a2 o2) a3 o3) a4 o4) H1) (n0 : b ≠ a0) (n1 : b ≠ a1) (n2 : b ≠ a2) (n3 : b ≠ a3) (n4 : b ≠ a4) (h : H b = some o) : H1 b = some o ∧ (∀ p, (upd (upd (upd (upd (upd H a0 o0) a1 o1) a2 o2) a3 o3) a4 o4) p = none → b ≠ p) ∧ ∀ p, H p = none → b ≠ p := ⟨s _ _ (get_upd n4 (get_upd n3 (get_upd n2 (get_upd n1 (get_upd n0 h))))), fun _ k => ne_new k (get_upd n4 (get_upd n3 (get_upd n2 (get_upd n1 (get_upd n0 h))))), fun _ k => ne_new k h⟩
theorem adv6 {H H1 : Hp} {a0 : Addr} {o0 : HO} {a1 : Addr} {o1 : HO} {a2 : Addr} {o2 : HO} {a3 : Addr} {o3 : HO} {a4 : Addr} {o4 : HO} {a5 : Addr} {o5 : HO} {b : Addr} {o : HO} (s : Same (upd (upd (upd (upd (upd (upd H a0 o0) a1 o1) a2 o2) a3 o3) a4 o4) a5 o5) H1) (n0 : b ≠ a0) (n1 : b ≠ a1) (n2 : b ≠ a2) (n3 : b ≠ a3) (n4 : b ≠ a4) (n5 : b ≠ a5) (h : H b = some o) : H1 b = some o ∧ (∀ p, (upd (upd (upd (upd (upd (upd H a0 o0) a1 o1) a2 o2) a3 o3) a4 o4) a5 o5) p = none → b ≠ p) ∧ ∀ p, H p = none → b ≠ p := ⟨s _ _ (get_upd n5 (get_upd n4 (get_upd n3 (get_upd n2 (get_upd n1 (get_upd n0 h)))))), fun _ k => ne_new k (get_upd n5 (get_upd n4 (get_upd n3 (get_upd n2 (get_upd n1 (get_upd n0 h)))))), fun _ k => ne_new k h⟩
theorem adv7 {H H1 : Hp} {a0 : Addr} {o0 : HO} {a1 : Addr} {o1 : HO} {a2 : Addr} {o2 : HO} {a3 : Addr} {o3 : HO} {a4 : Addr} {o4 : HO} {a5 : Addr} {o5 : HO} {a6 : Addr} {o6 : HO} {b : Addr} {o : HO} (s : Same (upd (upd (upd (upd (upd (upd (upd H a0 o0) a1 o1) a2 o2) a3 o3) a4 o4) a5 o5) a6 o6) H1) (n0 : b ≠ a0) (n1 : b ≠ a1) (n2 : b ≠ a2) (n3 : b ≠ a3) (n4 : b ≠ a4) (n5 : b ≠ a5) (n6 : b ≠ a6) (h : H b = some o) : H1 b = some o ∧ (∀ p, (upd (upd (upd (upd (upd (upd (upd H a0 o0) a1 o1) a2 o2) a3 o3) a4 o4) a5 o5) a6 o6) p = none → b ≠ p) ∧ ∀ p, H p = none → b ≠ p := ⟨s _ _ (get_upd n6 (get_upd n5 (get_upd n4 (get_upd n3 (get_upd n2 (get_upd n1 (get_upd n0 h))))))), fun _ k => ne_new k (get_upd n6 (get_upd n5 (get_upd n4 (get_upd n3 (get_upd n2 (get_upd n1 (get_upd n0 h))))))), fun _ k => ne_new k h⟩
theorem same_free {H0 H : Hp} {p : Addr} (n : H p = none) (s : Same H0 H) : H0 p = none := s.free n
theorem but_refl {a : Addr} {H : Hp} : But a H H := fun _ _ _ e => e
theorem but_at {a : Addr} {H0 H : Hp} {o : HO} (s : But a H0 H) : But a H0 (upd H a o) := fun b u n e => by
  rw [upd_ne n]
  exact s b u n e
theorem but_snoc {a : Addr} {H0 H : Hp} {p : Addr} {o : HO} (n : H p = none) (s : But a H0 H) : But a H0 (upd H p o) := fun b u nb e => by
  have e' := s b u nb e
  rw [upd_ne (ne_of_none e' n)]
  exact e'
theorem but_upd {a : Addr} {H0 H : Hp} {p : Addr} {o : HO} (n : H0 p = none) (s : But a H0 H) : But a H0 (upd H p o) := fun b u nb e => by
  rw [upd_ne (ne_of_none e n)]
  exact s b u nb e
theorem but_step {a : Addr} {H0 H1 H2 : Hp} (s2 : But a H1 H2) (s1 : But a H0 H1) : But a H0 H2 := fun b u n e => s2 b u n (s1 b u n e)
theorem but_step' {a : Addr} {H0 H1 H2 : Hp} (s2 : Same H1 H2) (s1 : But a H0 H1) : But a H0 H2 := fun b u n e => s2 b u (s1 b u n e)
theorem but_free {a : Addr} {H0 H1 : Hp} {p : Addr} {o : HO} (h : H1 p = none) (x : But a H0 H1) (ha : H1 a = some o) : H0 p = none := by
  by_cases e : p = a
  · rw [e, ha] at h; cases h
  · cases q : H0 p with
    | none => rfl
    | some u => rw [x p u e q] at h; cases h
/-- a word that the search does not open -/
structure Iv (P : Prop) : Prop where
  out : P
/-! ### a loop's invariant is asked here -/
theorem isW1 {P : (Nat → Nat → Hp → Prop) → Prop} (h : ∃ W, P W) : ∃ W, P W := h
theorem isW2 {P : (Nat → Nat → L2.St → Hp → Prop) → Prop} (h : ∃ W, P W) : ∃ W, P W := h
theorem isW3 {P : (Nat → L2.St → Hp → Prop) → Prop} (h : ∃ W, P W) : ∃ W, P W := h
theorem isW4 {P : (L2.St → Hp → Prop) → Prop} (h : ∃ W, P W) : ∃ W, P W := h
/-! ### branches -/
theorem br {c : Prop} [Decidable c] {A B : Prop} (h1 : c → A) (h2 : ¬ c → B) : if decide c = true then A else B := by
  by_cases h : c
  · rw [if_pos (decide_eq_true h)]
    exact h1 h
  · rw [if_neg (by rw [decide_eq_false h]; exact Bool.false_ne_true)]
    exact h2 h
theorem brn {c : Prop} [Decidable c] {A B : Prop} (h1 : ¬ c → A) (h2 : c → B) : if (!decide c) = true then A else B := by
  by_cases h : c
  · rw [if_neg (by rw [decide_eq_true h]; decide)]
    exact h2 h
  · rw [if_pos (by rw [decide_eq_false h]; decide)]
    exact h1 h
theorem bri {i j : Int} {A B : Prop} (h1 : i = j → A) (h2 : ¬ i = j → B) : if decide (V.int i = V.int j) = true then A else B :=
  br (fun h => h1 (V.int.inj h)) (fun h => h2 fun e => h (by rw [e]))
theorem brni {i j : Int} {A B : Prop} (h1 : ¬ i = j → A) (h2 : i = j → B) : if (!decide (V.int i = V.int j)) = true then A else B :=
  brn (fun h => h1 fun e => h (by rw [e])) (fun h => h2 (V.int.inj h))
theorem brb {b : Bool} {A B : Prop} (h1 : b = true → A) (h2 : b = false → B) : if b = true then A else B := by
  cases b with
  | true => exact (if_pos rfl).mpr (h1 rfl)
  | false => exact (if_neg Bool.false_ne_true).mpr (h2 rfl)
/-! ### branches that are known -/
theorem brT {c : Prop} [Decidable c] {A B : Prop} (h : c) (a : A) : if decide c = true then A else B := by rw [if_pos (decide_eq_true h)]; exact a
theorem brF {c : Prop} [Decidable c] {A B : Prop} (h : ¬ c) (b : B) : if decide c = true then A else B := by rw [if_neg (by rw [decide_eq_false h]; exact Bool.false_ne_true)]; exact b
theorem brnT {c : Prop} [Decidable c] {A B : Prop} (h : c) (b : B) : if (!decide c) = true then A else B := by rw [if_neg (by rw [decide_eq_true h]; decide)]; exact b
theorem brnF {c : Prop} [Decidable c] {A B : Prop} (h : ¬ c) (a : A) : if (!decide c) = true then A else B := by rw [if_pos (by rw [decide_eq_false h]; decide)]; exact a
theorem noN {A B : Prop} {i : Int} (b : B) : if decide (V.int i = V.non) = true then A else B := by rw [if_neg (by rw [decide_eq_false (by intro e; cases e)]; exact Bool.false_ne_true)]; exact b
theorem noNn {A B : Prop} {i : Int} (a : A) : if (!decide (V.int i = V.non)) = true then A else B := by rw [if_pos (by rw [decide_eq_false (by intro e; cases e)]; decide)]; exact a
end Ur

namespace Ur
open PySem L2
/-! ### lists of ints: ==, slices, loops -/
/-- the list of ints as values -/
abbrev iv (ns : List Int) : List V := ns.map V.int
theorem dpAll_ints {K : PySem.W.Frag} {H : Hp} : ∀ ns : List Int, DpAll K H (ns.map V.int) (ns.map PyData.int)
  | [] => .nil
  | n :: ns => .cons (.int n) (dpAll_ints ns)
theorem dp_ints {K : PySem.W.Frag} {H : Hp} {a : Addr} {ns : List Int} (h : SqL K H a (ns.map V.int)) : Dp K H (.ref a) (.list (ns.map PyData.int)) := .lst h (dpAll_ints ns)
theorem canLayAll_ints : ∀ ns : List Int, PyData.canLayAll0 (ns.map PyData.int) = true
  | [] => rfl
  | n :: ns => by
    show (PyData.canLay0 (.int n) && PyData.canLayAll0 (ns.map PyData.int)) = true
    rw [canLayAll_ints ns]
    rfl
theorem depthAll_ints : ∀ ns : List Int, PyData.depthAll (ns.map PyData.int) ≤ 1
  | [] => by decide
  | n :: ns => by
    have h := depthAll_ints ns
    rw [List.map_cons, PyData.depthAll]
    exact Nat.max_le.mpr ⟨by simp [PyData.depth], h⟩
theorem depth_ints (ns : List Int) : PyData.depth (.list (ns.map PyData.int)) ≤ 2 := by
  have h := depthAll_ints ns
  rw [PyData.depth]
  omega
theorem shaped_of {d : PyData} (c : PyData.canLay0 d = true) (h : PyData.depth d ≤ 64) : SeqAt.shaped d = true := by
  unfold SeqAt.shaped
  rw [c, decide_eq_true h]
  rfl
theorem shaped_ints (ns : List Int) : SeqAt.shaped (.list (ns.map PyData.int)) = true := shaped_of (canLayAll_ints ns) (Nat.le_trans (depth_ints ns) (by decide))
theorem eqvAll_ints : ∀ ns ms : List Int, PyData.eqvAll (ns.map PyData.int) (ms.map PyData.int) = decide (ns = ms)
  | [], [] => rfl
  | [], _ :: _ => rfl
  | _ :: _, [] => rfl
  | n :: ns, m :: ms => by
    show (PyData.eqv (.int n) (.int m) && PyData.eqvAll (ns.map PyData.int) (ms.map PyData.int)) = decide (n :: ns = m :: ms)
    rw [eqvAll_ints ns ms]
    show ((n == m) && decide (ns = ms)) = decide (n :: ns = m :: ms)
    by_cases h : n = m <;> by_cases h2 : ns = ms <;> simp [h, h2]
theorem eqv_ints (ns ms : List Int) : PyData.eqv (.list (ns.map PyData.int)) (.list (ms.map PyData.int)) = decide (ns = ms) := eqvAll_ints ns ms
theorem rEq_ints {K : PySem.W.Frag} {H : Hp} {a b : Addr} {ns ms : List Int} {Q : VK} (h1 : SqL K H a (ns.map V.int)) (h2 : SqL K H b (ms.map V.int)) (q : Q (.bl (decide (ns = ms))) H) : rEqD K (.ref a) (.ref b) H Q :=
  ⟨_, _, dp_ints h1, dp_ints h2, shaped_ints ns, shaped_ints ms, by rw [eqv_ints]; exact q⟩
theorem rNe_ints {K : PySem.W.Frag} {H : Hp} {a b : Addr} {ns ms : List Int} {Q : VK} (h1 : SqL K H a (ns.map V.int)) (h2 : SqL K H b (ms.map V.int)) (q : Q (.bl (!decide (ns = ms))) H) : rNeD K (.ref a) (.ref b) H Q :=
  ⟨_, _, dp_ints h1, dp_ints h2, shaped_ints ns, shaped_ints ms, by rw [eqv_ints]; exact q⟩
theorem SqL.nil_of {K : PySem.W.Frag} {H : Hp} {a : Addr} (h : SqL K H a []) : SqL K H a (([] : List Int).map V.int) := h

theorem iv_get {ns : List Int} {i : Nat} {x : V} (h : (ns.map V.int)[i]? = some x) : ∃ n, ns[i]? = some n ∧ x = .int n := by
  rw [List.getElem?_map] at h
  cases e : ns[i]? with
  | none => rw [e] at h; cases h
  | some n => rw [e] at h; exact ⟨n, rfl, (Option.some.inj h).symm⟩
theorem iv_get' {ns : List Int} {i : Nat} {n : Int} (h : ns[i]? = some n) : (ns.map V.int)[i]? = some (.int n) := by rw [List.getElem?_map, h]; rfl
theorem at_int {ns : List Int} {j : Nat} {n : Int} (h : ns[j]? = some n) : atI (ns.map V.int) (j : Int) = some (.int n) := atI_nat (iv_get' h)
/-- an item at an int place -/
theorem at_int' {ns : List Int} {i : Int} (h0 : 0 ≤ i) (h1 : i < ns.length) : atI (ns.map V.int) i = some (.int (ns.getD i.toNat 0)) := by
  have hj : i.toNat < ns.length := by omega
  have e : i = ((i.toNat : Nat) : Int) := by omega
  have e2 : ns[i.toNat]? = some (ns.getD i.toNat 0) := by rw [List.getD_eq_getElem?_getD, List.getElem?_eq_getElem hj]; rfl
  rw [e]
  exact at_int (by rw [Int.toNat_natCast]; exact e2)
theorem at2 {x y i : Int} (h0 : 0 ≤ i) (h1 : i < 2) : atI [V.int x, V.int y] i = some (.int ([x, y].getD i.toNat 0)) := at_int' (ns := [x, y]) h0 h1
theorem at3 {x y z i : Int} (h0 : 0 ≤ i) (h1 : i < 3) : atI [V.int x, V.int y, V.int z] i = some (.int ([x, y, z].getD i.toNat 0)) := at_int' (ns := [x, y, z]) h0 h1
theorem at4 {x y z w i : Int} (h0 : 0 ≤ i) (h1 : i < 4) : atI [V.int x, V.int y, V.int z, V.int w] i = some (.int ([x, y, z, w].getD i.toNat 0)) := at_int' (ns := [x, y, z, w]) h0 h1
theorem at6 {x y z w u v i : Int} (h0 : 0 ≤ i) (h1 : i < 6) : atI [V.int x, V.int y, V.int z, V.int w, V.int u, V.int v] i = some (.int ([x, y, z, w, u, v].getD i.toNat 0)) := at_int' (ns := [x, y, z, w, u, v]) h0 h1
theorem getD4 {x y z w i lo hi : Int} (h0 : 0 ≤ i) (h1 : i < 4) (hx : lo ≤ x ∧ x ≤ hi) (hy : lo ≤ y ∧ y ≤ hi) (hz : lo ≤ z ∧ z ≤ hi) (hw : lo ≤ w ∧ w ≤ hi) : lo ≤ [x, y, z, w].getD i.toNat 0 ∧ [x, y, z, w].getD i.toNat 0 ≤ hi := by
  have h : i = 0 ∨ i = 1 ∨ i = 2 ∨ i = 3 := by omega
  rcases h with rfl | rfl | rfl | rfl
  · exact hx
  · exact hy
  · exact hz
  · exact hw
theorem getD2 {x y i lo hi : Int} (h0 : 0 ≤ i) (h1 : i < 2) (hx : lo ≤ x ∧ x ≤ hi) (hy : lo ≤ y ∧ y ≤ hi) : lo ≤ [x, y].getD i.toNat 0 ∧ [x, y].getD i.toNat 0 ≤ hi := by
  have h : i = 0 ∨ i = 1 := by omega
  rcases h with rfl | rfl
  · exact hx
  · exact hy
theorem getD3 {x y z i lo hi : Int} (h0 : 0 ≤ i) (h1 : i < 3) (hx : lo ≤ x ∧ x ≤ hi) (hy : lo ≤ y ∧ y ≤ hi) (hz : lo ≤ z ∧ z ≤ hi) : lo ≤ [x, y, z].getD i.toNat 0 ∧ [x, y, z].getD i.toNat 0 ≤ hi := by
  have h : i = 0 ∨ i = 1 ∨ i = 2 := by omega
  rcases h with e | e | e <;> subst e
  · exact hx
  · exact hy
  · exact hz
theorem getD6 {x y z w u v i lo hi : Int} (h0 : 0 ≤ i) (h1 : i < 6) (hx : lo ≤ x ∧ x ≤ hi) (hy : lo ≤ y ∧ y ≤ hi) (hz : lo ≤ z ∧ z ≤ hi) (hw : lo ≤ w ∧ w ≤ hi) (hu : lo ≤ u ∧ u ≤ hi) (hv : lo ≤ v ∧ v ≤ hi) : lo ≤ [x, y, z, w, u, v].getD i.toNat 0 ∧ [x, y, z, w, u, v].getD i.toNat 0 ≤ hi := by
  have h : i = 0 ∨ i = 1 ∨ i = 2 ∨ i = 3 ∨ i = 4 ∨ i = 5 := by omega
  rcases h with e | e | e | e | e | e <;> subst e
  · exact hx
  · exact hy
  · exact hz
  · exact hw
  · exact hu
  · exact hv
theorem ixN_of {n : Nat} {i : Int} (h0 : 0 ≤ i) (h1 : i < n) : ixN n i = some i.toNat := by
  unfold ixN
  rw [if_pos h0, if_pos h1]

theorem ixN_iv {ns : List Int} {i : Int} (h0 : 0 ≤ i) (h1 : i < ns.length) : ixN (ns.map V.int).length i = some i.toNat := by
  rw [List.length_map]
  unfold ixN
  rw [if_pos h0, if_pos h1]
theorem upd_snoc {H : Hp} {a : Addr} {ns : List Int} {v : Int} : upd H a (.lst (ns.map V.int ++ [V.int v])) a = some (.lst ((ns ++ [v]).map V.int)) := by
  rw [upd_same, List.map_append]
  rfl
theorem upd_set {H : Hp} {a : Addr} {ns : List Int} {j : Nat} {v : Int} : upd H a (.lst ((ns.map V.int).set j (V.int v))) a = some (.lst ((ns.set j v).map V.int)) := by
  rw [upd_same, List.map_set]
/-- .. against a list without items -/
theorem rEq_intsN {K : PySem.W.Frag} {H : Hp} {a b : Addr} {ns : List Int} {Q : VK} (h1 : SqL K H a (ns.map V.int)) (h2 : SqL K H b []) (q : Q (.bl (decide (ns = []))) H) : rEqD K (.ref a) (.ref b) H Q :=
  rEq_ints (ms := []) h1 h2 q
theorem rNe_intsN {K : PySem.W.Frag} {H : Hp} {a b : Addr} {ns : List Int} {Q : VK} (h1 : SqL K H a (ns.map V.int)) (h2 : SqL K H b []) (q : Q (.bl (!decide (ns = []))) H) : rNeD K (.ref a) (.ref b) H Q :=
  rNe_ints (ms := []) h1 h2 q
/-! ### built-ins of one argument, of two -/
def tB1 (r : List V → Hp → VK → Prop) (te : TE) : TE := fun σ H Q => te σ H fun x H1 => r [x] H1 Q
def tB2 (r : List V → Hp → VK → Prop) (ta tb : TE) : TE := fun σ H Q => ta σ H fun x H1 => tb σ H1 fun y H2 => r [x, y] H2 Q
section
variable {X : Cx} {x : Str} {id T : String} {e f : Expr} {te tf : TE} {r : List V → Hp → VK → Prop} {p pos : Pos}
theorem pe_b1 (hc : CallR X (.builtin id) r) (hg : Gl X x) (hm : X.mg x = none) (hv : bootBuiltins x = some (.builtin id)) (ha : PE X e te) (hn : x ≠ "__name__" := by decide) (hdb : (x == ("__debug__" : Str)) = false := by decide)
    (he : starEach [e] X.env = (false, eval e X.env) :: starEach [] X.env := by rfl) : PE X (.Call (.Name x p) [e] [] pos) (tB1 r te) := pe_callB hc hg hm hv (pa_cons ha pa_nil he) hn hdb he rfl
theorem pe_b2 (hc : CallR X (.builtin id) r) (hg : Gl X x) (hm : X.mg x = none) (hv : bootBuiltins x = some (.builtin id)) (ha : PE X e te) (hb : PE X f tf) (hn : x ≠ "__name__" := by decide) (hdb : (x == ("__debug__" : Str)) = false := by decide)
    (he : starEach [e, f] X.env = (false, eval e X.env) :: starEach [f] X.env := by rfl) (hf : starEach [f] X.env = (false, eval f X.env) :: starEach [] X.env := by rfl) (hpl : (backTo pos (starEach [f] X.env)).any (·.1) = false := by rfl) :
    PE X (.Call (.Name x p) [e, f] [] pos) (tB2 r te tf) := pe_callB hc hg hm hv (pa_cons ha (pa_cons hb pa_nil hf) he) hn hdb he hpl
theorem pe_t1 (hc : CallR X (.type T) r) (hg : Gl X x) (hm : X.mg x = none) (hv : bootBuiltins x = some (.type T)) (ha : PE X e te) (hn : x ≠ "__name__" := by decide) (hdb : (x == ("__debug__" : Str)) = false := by decide)
    (he : starEach [e] X.env = (false, eval e X.env) :: starEach [] X.env := by rfl) : PE X (.Call (.Name x p) [e] [] pos) (tB1 r te) := pe_callTy hc hg hm hv (pa_cons ha pa_nil he) hn hdb he rfl
end
theorem tyL {K : PySem.W.Frag} {H : Hp} {l : Addr} {xs : List V} (h : SqL K H l xs) : tyV K "list" (.ref l) H := Or.inl ⟨rfl, _, h⟩
/-! ### len -/
def rLenI (K : PySem.W.Frag) : List V → Hp → VK → Prop := fun xs H Q => ∃ p ys, xs = [.ref p] ∧ (SqL K H p ys ∨ SqT K H p ys) ∧ Q (.int ys.length) H
theorem call_lenI {X : Cx} : CallR X (.builtin "len") (rLenI X.K) := call_len_seq
theorem len_ints {K : PySem.W.Frag} {H : Hp} {p : Addr} {ns : List Int} {Q : VK} (h : SqL K H p (ns.map V.int)) (q : Q (.int ns.length) H) : rLenI K [.ref p] H Q :=
  ⟨p, _, rfl, Or.inl h, by rw [List.length_map]; exact q⟩
theorem upd_app {H : Hp} {a : Addr} {ns ms : List Int} : upd H a (.lst (ns.map V.int ++ ms.map V.int)) a = some (.lst ((ns ++ ms).map V.int)) := by
  rw [upd_same, List.map_append]
theorem upd_1cat {H : Hp} {a : Addr} {x : Int} {ms : List Int} : upd H a (.lst ([V.int x] ++ ms.map V.int)) a = some (.lst ((x :: ms).map V.int)) := upd_same
theorem rep_iv (k : Nat) (v : Int) : (List.replicate k [V.int v]).flatten = (List.replicate k v).map V.int := by
  induction k with
  | zero => rfl
  | succ k ih => rw [List.replicate_succ, List.flatten_cons, ih, List.replicate_succ, List.map_cons]; rfl
theorem upd_rep {H : Hp} {a : Addr} {ns : List Int} {k : Nat} {v : Int} : upd H a (.lst (ns.map V.int ++ (List.replicate k [V.int v]).flatten)) a = some (.lst ((ns ++ List.replicate k v).map V.int)) := by
  rw [upd_same, rep_iv, List.map_append]
theorem upd_rep0 {H : Hp} {a : Addr} {k : Nat} {v : Int} : upd H a (.lst (List.replicate k [V.int v]).flatten) a = some (.lst ((List.replicate k v).map V.int)) := by
  rw [upd_same, rep_iv]
/-! ### slices -/
theorem sIx_pos (n d : Nat) {m : Int} (h : 0 ≤ m) : HT.sIx n d (some m) = min m.toNat n := by
  show (if m < 0 then (m + (n : Int)).toNat else min m.toNat n) = min m.toNat n
  rw [if_neg (by omega)]
theorem cut_all (xs : List V) : cutV xs none none = xs := by
  unfold cutV
  rw [HT.sIx_none, HT.sIx_none]
  simp
theorem cut_to (xs : List V) {m : Int} (h : 0 ≤ m) : cutV xs none (some m) = xs.take m.toNat := by
  unfold cutV
  rw [HT.sIx_none, sIx_pos _ _ h, List.drop_zero, Nat.sub_zero]
  by_cases hm : m.toNat ≤ xs.length
  · rw [Nat.min_eq_left hm]
  · rw [Nat.min_eq_right (by omega), List.take_of_length_le (Nat.le_refl _), List.take_of_length_le (by omega)]
theorem cut_from (xs : List V) {m : Int} (h : 0 ≤ m) : cutV xs (some m) none = xs.drop m.toNat := by
  unfold cutV
  rw [HT.sIx_none, sIx_pos _ _ h]
  by_cases hm : m.toNat ≤ xs.length
  · rw [Nat.min_eq_left hm, List.take_of_length_le (by rw [List.length_drop]; omega)]
  · rw [Nat.min_eq_right (by omega), List.drop_of_length_le (Nat.le_refl _), List.drop_of_length_le (by omega)]
    simp
theorem cut_mid (xs : List V) {a b : Int} (h : 0 ≤ a) (h2 : 0 ≤ b) : cutV xs (some a) (some b) = (xs.drop a.toNat).take (b.toNat - a.toNat) := by
  unfold cutV
  rw [sIx_pos _ _ h, sIx_pos _ _ h2]
  by_cases ha : a.toNat ≤ xs.length
  · rw [Nat.min_eq_left ha]
    by_cases hb : b.toNat ≤ xs.length
    · rw [Nat.min_eq_left hb]
    · rw [Nat.min_eq_right (by omega), List.take_of_length_le (by rw [List.length_drop]; omega), List.take_of_length_le (by rw [List.length_drop]; omega)]
  · rw [Nat.min_eq_right (a := a.toNat) (by omega), List.drop_of_length_le (Nat.le_refl _), List.drop_of_length_le (by omega)]
    simp
theorem cutI_all (ns : List Int) : cutV (ns.map V.int) none none = ns.map V.int := cut_all _
theorem cutI_to (ns : List Int) {m : Int} (h : 0 ≤ m) : cutV (ns.map V.int) none (some m) = (ns.take m.toNat).map V.int := by rw [cut_to _ h, List.map_take]
theorem cutI_from (ns : List Int) {m : Int} (h : 0 ≤ m) : cutV (ns.map V.int) (some m) none = (ns.drop m.toNat).map V.int := by rw [cut_from _ h, List.map_drop]
theorem cutI_mid (ns : List Int) {a b : Int} (h : 0 ≤ a) (h2 : 0 ≤ b) : cutV (ns.map V.int) (some a) (some b) = ((ns.drop a.toNat).take (b.toNat - a.toNat)).map V.int := by
  rw [cut_mid _ h h2, List.map_take, List.map_drop]

/-! ### pairs made by list(enumerate(..)) -/
theorem NewPairs_of {H H1 H' : Hp} {cs : List (List V)} {p : Addr} {ts : List Addr} (s : Same H H1) (n : UrE.NewPairs H1 cs p ts H') : UrE.NewPairs H cs p ts H' := by
  obtain ⟨a, b, c, d, e⟩ := n
  exact ⟨s.trans a, s.free b, fun t ht => s.free (c t ht), d, e⟩
theorem same_new {H : Hp} {p : Addr} {o : HO} (h : H p = none) : Same H (upd H p o) := fun b u e => by
  rw [upd_ne (ne_of_none e h)]
  exact e
theorem sql_new {K : PySem.W.Frag} {H : Hp} {p b : Addr} {o : HO} {xs : List V} (h : H p = none) (q : SqL K H b xs) : SqL K (upd H p o) b xs := (same_new h).seq q
theorem sql_upd {K : PySem.W.Frag} {H : Hp} {p b : Addr} {o : HO} {xs : List V} (n : b ≠ p) (q : SqL K H b xs) : SqL K (upd H p o) b xs := by
  rcases q with (h | ⟨u, h⟩) | h
  · exact .inl (.inl ((upd_ne n).trans h))
  · exact .inl (.inr ⟨u, (upd_ne n).trans h⟩)
  · exact .inr h
/-- a change at what H0 does not know -/
theorem same_upd {H0 H : Hp} {p : Addr} {o : HO} (s : Same H0 H) (h : H0 p = none) : Same H0 (upd H p o) := fun b u e => by
  rw [upd_ne (ne_of_none e h)]
  exact s b u e
theorem upd_none {H : Hp} {a p : Addr} {o : HO} (h : upd H a o p = none) : H p = none := by
  by_cases e : p = a
  · rw [e, upd_same] at h; cases h
  · rw [upd_ne e] at h; exact h
theorem upd_none_ne {H : Hp} {a p : Addr} {o : HO} (h : upd H a o p = none) : p ≠ a := fun e => by rw [e, upd_same] at h; cases h
theorem upd_cutto {H : Hp} {a : Addr} {ns : List Int} {m : Int} (h : 0 ≤ m) : upd H a (.lst (cutV (ns.map V.int) none (some m))) a = some (.lst ((ns.take m.toNat).map V.int)) := by rw [cutI_to ns h, upd_same]
theorem upd_cutfrom {H : Hp} {a : Addr} {ns : List Int} {m : Int} (h : 0 ≤ m) : upd H a (.lst (cutV (ns.map V.int) (some m) none)) a = some (.lst ((ns.drop m.toNat).map V.int)) := by rw [cutI_from ns h, upd_same]
theorem upd_cutmid {H : Hp} {a : Addr} {ns : List Int} {m k : Int} (h : 0 ≤ m) (h2 : 0 ≤ k) : upd H a (.lst (cutV (ns.map V.int) (some m) (some k))) a = some (.lst (((ns.drop m.toNat).take (k.toNat - m.toNat)).map V.int)) := by rw [cutI_mid ns h h2, upd_same]
theorem upd_cutall {H : Hp} {a : Addr} {ns : List Int} : upd H a (.lst (cutV (ns.map V.int) none none)) a = some (.lst (ns.map V.int)) := by rw [cutI_all ns, upd_same]
end Ur

namespace Ur
open PySem L2 PyProof.Rows PySem.Spec
/-! ### the rules of a block, by the fragment alone -/
def rMax2 : List V → Hp → VK → Prop := fun xs H Q => ∃ i j, xs = [.int i, .int j] ∧ Q (.int (if j > i then j else i)) H
def rMin2 : List V → Hp → VK → Prop := fun xs H Q => ∃ i j, xs = [.int i, .int j] ∧ Q (.int (if j < i then j else i)) H
def rListOf (K : PySem.W.Frag) : List V → Hp → VK → Prop := fun xs H Q => ∃ p ys, xs = [.ref p] ∧ (SqL K H p ys ∨ SqT K H p ys) ∧ ∀ l, H l = none → Q (.ref l) (upd H l (.lst ys))
def rTupOf (K : PySem.W.Frag) : List V → Hp → VK → Prop := fun xs H Q => ∃ p ys, xs = [.ref p] ∧ ((SqL K H p ys ∧ ∀ l, H l = none → Q (.ref l) (upd H l (.tup ys))) ∨ (SqT K H p ys ∧ Q (.ref p) H))
theorem ix_listK {X : Cx} {K : PySem.W.Frag} (hk : X.K = K) : IxR X (rIxL K) := by subst hk; exact L2.ix_list
theorem ix_tupK {X : Cx} {K : PySem.W.Frag} (hk : X.K = K) : IxR X (rIxT K) := by subst hk; exact L2.ix_tup
theorem sl_listK {X : Cx} {K : PySem.W.Frag} (hk : X.K = K) : SlR X (rSlL K) := by subst hk; exact L2.sl_list
theorem sl_tupK {X : Cx} {K : PySem.W.Frag} (hk : X.K = K) : SlR X (rSlT K) := by subst hk; exact L2.sl_tup
theorem op_in_seqK {X : Cx} {K : PySem.W.Frag} (hk : X.K = K) : OpR X (compareOp .In) (rIn K false) := by subst hk; exact L2.op_in_seq
theorem op_notIn_seqK {X : Cx} {K : PySem.W.Frag} (hk : X.K = K) : OpR X (compareOp .NotIn) (rIn K true) := by subst hk; exact L2.op_notIn_seq
theorem call_lenIK {X : Cx} {K : PySem.W.Frag} (hk : X.K = K) : CallR X (.builtin "len") (rLenI K) := by subst hk; exact Ur.call_lenI
theorem call_isiK {X : Cx} {K : PySem.W.Frag} (hk : X.K = K) : CallR X (.builtin "isinstance") (rIsi K) := by subst hk; exact L2.call_isi
theorem cr_maxK {X : Cx} {K : PySem.W.Frag} (hk : X.K = K) (hc : X.calm = true) : CallR X (.builtin "max") (rMax K) := by subst hk; exact L2.cr_max hc
theorem cr_minK {X : Cx} {K : PySem.W.Frag} (hk : X.K = K) (hc : X.calm = true) : CallR X (.builtin "min") (rMin K) := by subst hk; exact L2.cr_min hc
theorem cr_sumK {X : Cx} {K : PySem.W.Frag} (hk : X.K = K) (hc : X.calm = true) : CallR X (.builtin "sum") (rSum K) := by subst hk; exact L2.cr_sum hc
theorem cr_anyK {X : Cx} {K : PySem.W.Frag} (hk : X.K = K) (hc : X.calm = true) : CallR X (.builtin "any") (rAny K) := by subst hk; exact L2.cr_any hc
theorem cr_allK {X : Cx} {K : PySem.W.Frag} (hk : X.K = K) (hc : X.calm = true) : CallR X (.builtin "all") (rAll K) := by subst hk; exact L2.cr_all hc
theorem op_eqDK {X : Cx} {K : PySem.W.Frag} (hk : X.K = K) (hu : X.A.units + 64 < cLine) : OpR X (compareOp .Eq) (rEqD K) := by subst hk; exact L2.op_eqD hu
theorem op_neDK {X : Cx} {K : PySem.W.Frag} (hk : X.K = K) (hu : X.A.units + 64 < cLine) : OpR X (compareOp .NotEq) (rNeD K) := by subst hk; exact L2.op_neD hu
theorem cr_sortedIK {X : Cx} {K : PySem.W.Frag} (hk : X.K = K) : CallR X (.builtin "sorted") (rSortedI K) := by subst hk; exact L2.cr_sortedI
theorem mt_indexK {X : Cx} {K : PySem.W.Frag} (hk : X.K = K) : MtR X "list.index" (rIndex K) := by subst hk; exact L2.mt_index
theorem call_max2K {X : Cx}  (hc : X.calm = true) : CallR X (.builtin "max") rMax2 := by exact L2.call_max2 hc
theorem call_min2K {X : Cx}  (hc : X.calm = true) : CallR X (.builtin "min") rMin2 := by exact L2.call_min2 hc
theorem call_list_ofK {X : Cx} {K : PySem.W.Frag} (hk : X.K = K) : CallR X (.type "list") (rListOf K) := by subst hk; exact L2.call_list_of
theorem call_tuple_ofK {X : Cx} {K : PySem.W.Frag} (hk : X.K = K) : CallR X (.type "tuple") (rTupOf K) := by subst hk; exact L2.call_tuple_of
theorem pe_fldK {X : Cx} {K : PySem.W.Frag} {e : Expr} {f : Str} {pos : Pos} {ta : TE} (hk : X.K = K) (he : PE X e ta) (hb : attributeBase e f X.env (eval e X.env) = eval e X.env) : PE X (.Attribute e f pos) (tFld K ta f) := by subst hk; exact L2.pe_fld he hb
theorem tNilI {σ : L2.St} {H : Hp} {Q : List V → Hp → Prop} (h : Q [] H) : tNil σ H Q := h
theorem tCi {v : V} {σ : L2.St} {H : Hp} {Q : VK} (h : Q v H) : tC v σ H Q := h
/-! bounds of lengths -/
theorem szT {m n : Nat} (h : m ≤ n) (k : n ≤ 1000000) : m ≤ sizeLine := sz (Nat.le_trans h k)
theorem szlT {m n : Nat} (h : m ≤ n) (k : n < 1000000) : m < sizeLine := szl (Nat.lt_of_le_of_lt h k)
theorem lb_map {α β : Type} {f : α → β} {l : List α} {n : Nat} (h : l.length ≤ n) : (l.map f).length ≤ n := by rw [List.length_map]; exact h
theorem lb_filter {α : Type} {f : α → Bool} {l : List α} {n : Nat} (h : l.length ≤ n) : (l.filter f).length ≤ n := Nat.le_trans (List.length_filter_le f l) h
theorem lb_app {α : Type} {l r : List α} {m n : Nat} (h : l.length ≤ m) (k : r.length ≤ n) : (l ++ r).length ≤ m + n := by rw [List.length_append]; exact Nat.add_le_add h k
theorem lb_cons {α : Type} {x : α} {l : List α} {n : Nat} (h : l.length ≤ n) : (x :: l).length ≤ n + 1 := Nat.succ_le_succ h
theorem lb_nil {α : Type} : ([] : List α).length ≤ 0 := Nat.le_refl 0
theorem lb_range {n : Nat} : (List.range n).length ≤ n := by rw [List.length_range]; exact Nat.le_refl n
theorem pos_app {α : Type} {x : α} {l : List α} : 0 < (l ++ [x]).length := by simp
theorem neg_same {α : Type} {x : α} [Decidable (x = x)] {A B : Prop} (h : B) : if (!decide (x = x)) = true then A else B := by
  rw [decide_eq_true rfl]
  exact h
theorem pos_same {α : Type} {x : α} [Decidable (x = x)] {A B : Prop} (h : A) : if decide (x = x) = true then A else B := by
  rw [decide_eq_true rfl]
  exact h
theorem isWN {α β : Type} {P : (Nat → α → β) → Prop} (h : ∃ W, P W) : ∃ W, P W := h
theorem sqlK {K K' : PySem.W.Frag} {H : Hp} {a : Addr} {xs : List V} (h : SqL K H a xs) (e : K = K') : SqL K' H a xs := e ▸ h
end Ur

namespace Ur
open PySem L2 PySem.Spec PyProof.Rows
/-! ### isinstance of known kinds -/
theorem kb_int_int : kitB "int" "int" = some true := by decide +kernel
theorem kb_int_bool : kitB "int" "bool" = some false := by decide +kernel
theorem kb_int_str : kitB "int" "str" = some false := by decide +kernel
theorem kb_int_list : kitB "int" "list" = some false := by decide +kernel
theorem kb_int_tuple : kitB "int" "tuple" = some false := by decide +kernel
theorem kb_int_dict : kitB "int" "dict" = some false := by decide +kernel
theorem kb_bool_int : kitB "bool" "int" = some true := by decide +kernel
theorem kb_bool_bool : kitB "bool" "bool" = some true := by decide +kernel
theorem kb_bool_str : kitB "bool" "str" = some false := by decide +kernel
theorem kb_bool_list : kitB "bool" "list" = some false := by decide +kernel
theorem kb_bool_tuple : kitB "bool" "tuple" = some false := by decide +kernel
theorem kb_bool_dict : kitB "bool" "dict" = some false := by decide +kernel
theorem kb_str_int : kitB "str" "int" = some false := by decide +kernel
theorem kb_str_bool : kitB "str" "bool" = some false := by decide +kernel
theorem kb_str_str : kitB "str" "str" = some true := by decide +kernel
theorem kb_str_list : kitB "str" "list" = some false := by decide +kernel
theorem kb_str_tuple : kitB "str" "tuple" = some false := by decide +kernel
theorem kb_str_dict : kitB "str" "dict" = some false := by decide +kernel
theorem kb_NoneType_int : kitB "NoneType" "int" = some false := by decide +kernel
theorem kb_NoneType_bool : kitB "NoneType" "bool" = some false := by decide +kernel
theorem kb_NoneType_str : kitB "NoneType" "str" = some false := by decide +kernel
theorem kb_NoneType_list : kitB "NoneType" "list" = some false := by decide +kernel
theorem kb_NoneType_tuple : kitB "NoneType" "tuple" = some false := by decide +kernel
theorem kb_NoneType_dict : kitB "NoneType" "dict" = some false := by decide +kernel
theorem kb_list_int : kitB "list" "int" = some false := by decide +kernel
theorem kb_list_bool : kitB "list" "bool" = some false := by decide +kernel
theorem kb_list_str : kitB "list" "str" = some false := by decide +kernel
theorem kb_list_list : kitB "list" "list" = some true := by decide +kernel
theorem kb_list_tuple : kitB "list" "tuple" = some false := by decide +kernel
theorem kb_list_dict : kitB "list" "dict" = some false := by decide +kernel
theorem kb_tuple_int : kitB "tuple" "int" = some false := by decide +kernel
theorem kb_tuple_bool : kitB "tuple" "bool" = some false := by decide +kernel
theorem kb_tuple_str : kitB "tuple" "str" = some false := by decide +kernel
theorem kb_tuple_list : kitB "tuple" "list" = some false := by decide +kernel
theorem kb_tuple_tuple : kitB "tuple" "tuple" = some true := by decide +kernel
theorem kb_tuple_dict : kitB "tuple" "dict" = some false := by decide +kernel
theorem kb_dict_int : kitB "dict" "int" = some false := by decide +kernel
theorem kb_dict_bool : kitB "dict" "bool" = some false := by decide +kernel
theorem kb_dict_str : kitB "dict" "str" = some false := by decide +kernel
theorem kb_dict_list : kitB "dict" "list" = some false := by decide +kernel
theorem kb_dict_tuple : kitB "dict" "tuple" = some false := by decide +kernel
theorem kb_dict_dict : kitB "dict" "dict" = some true := by decide +kernel
theorem isiK {K : PySem.W.Frag} {H : Hp} {x : V} {t T : String} {b : Bool} {Q : VK} (ty : TyX K H x (.type t)) (h : kitB t T = some b) (q : Q (.bl b) H) : rIsi K [x, .ty T] H Q :=
  ⟨x, .ty T, _, _, b, rfl, .ty _, ty, kit_ty h, q⟩
theorem tyx_lst {K : PySem.W.Frag} {H : Hp} {a : Addr} {xs : List V} (h : H a = some (.lst xs)) : TyX K H (.ref a) (.type "list") := .base (.lst h)
theorem tyx_tup {K : PySem.W.Frag} {H : Hp} {a : Addr} {xs : List V} (h : H a = some (.tup xs)) : TyX K H (.ref a) (.type "tuple") := .base (.tup h)
theorem tyx_dK {K : PySem.W.Frag} {H : Hp} {a : Addr} {xs : List (Key × V)} (h : H a = some (.dK xs)) : TyX K H (.ref a) (.type "dict") := .base (.dK h)
theorem tyx_int {K : PySem.W.Frag} {H : Hp} {i : Int} : TyX K H (.int i) (.type "int") := .base (.int i)
theorem tyx_bl {K : PySem.W.Frag} {H : Hp} {b : Bool} : TyX K H (.bl b) (.type "bool") := .base (.bl b)
theorem tyx_str {K : PySem.W.Frag} {H : Hp} {x : Str} : TyX K H (.str x) (.type "str") := .base (.str x)
theorem tyx_non {K : PySem.W.Frag} {H : Hp} : TyX K H .non (.type "NoneType") := .base .non
end Ur

namespace Ur
open PySem L2
/-! ### dicts with int keys -/
theorem isD_of {H : Hp} {a : Addr} {kvs : List (Key × V)} (h : H a = some (.dK kvs)) : IsD H a := Or.inl ⟨kvs, Or.inl h⟩
theorem dget_int {H : Hp} {a : Addr} {kvs : List (Key × V)} {n : Int} (h : H a = some (.dK kvs)) : DGet H a (.int n) (valV kvs (Sum.inl n)) := DGet.k (k := Sum.inl n) h
theorem dget_some {H : Hp} {a : Addr} {kvs : List (Key × V)} {n : Int} {v : V} (h : H a = some (.dK kvs)) (e : valV kvs (Sum.inl n) = some v) : DGet H a (.int n) (some v) := by
  rw [← e]
  exact dget_int h
theorem dput_int {H : Hp} {a : Addr} {kvs : List (Key × V)} {n : Int} {v : V} (h : H a = some (.dK kvs)) (l : kvs.length < sizeLine) : DPut H a (.int n) v (upd H a (.dK (putK kvs (Sum.inl n) v))) := DPut.k (k := Sum.inl n) h l
theorem putK_le (c : List (Key × V)) (k : Key) (x : V) : (putK c k x).length ≤ c.length + 1 := by
  unfold putK
  split
  · rw [List.length_map]; omega
  · rw [List.length_append]; exact Nat.le_refl _
theorem val_put (kvs : List (Key × V)) (k j : Int) (y : V) : valV (putK kvs (Sum.inl k) y) (Sum.inl j) = if j = k then some y else valV kvs (Sum.inl j) := by
  rw [valV_put]
  by_cases h : j = k
  · rw [if_pos h, if_pos (by rw [h])]
  · rw [if_neg h, if_neg (fun e => h (Sum.inl.inj e))]

/-! ### loops -/
section
variable {K : PySem.W.Frag} {a b : Addr} {xs ys : List V} {ns : List Int} {tb : TS} {D : Ends} {σ : L2.St} {H : Hp} {ti tv : Nat}
/-- for i, x in enumerate(list) -/
theorem for_enum (Pv : Nat → L2.St → Hp → Prop) (h0 : Pv 0 σ H) (hl : ∀ i σ H, i ≤ xs.length → Pv i σ H → SqL K H a xs)
    (hs : ∀ i x σ H H', xs[i]? = some x → Pv i σ H → Same H H' → tb { D with nx := Pv (i + 1), ct := Pv (i + 1), bk := D.nx } ((σ.set ti (some (.int (i : Nat)))).set tv (some x)) H') (hd : ∀ σ H, Pv xs.length σ H → D.nx σ H) :
    ∃ W : Nat → Nat → L2.St → Hp → Prop, (∃ m, W 0 m σ H) ∧ ∀ i m σ H, W i m σ H →
      ((Ite K a).stop i H ∧ D.nx σ H) ∨ ((Ite K a).go i H ∧ ∃ N : L2.St → Hp → Prop, (∀ σ' H', N σ' H' → ∃ m', m' < m ∧ W (i + 1) m' σ' H') ∧ ∀ x H', (Ite K a).yld i H x H' → gTup K 2 (gCons (gName ti) (gCons (gName tv) gNil)) x σ H' fun σ2 H2 => tb { D with nx := N, ct := N, bk := D.nx } σ2 H2) :=
  for_it (walk_enum (K := K) (a := a) (xs := xs)) Pv h0 hl (fun i v σ H H' hi p y => by
    obtain ⟨T, x, z, rfl, hT, rfl, hx, hz⟩ := y
    have hx' : some (V.int (i : Nat)) = some x := hx
    cases hx'
    have hz' : xs[i]? = some z := hz
    refine ⟨T, [.int (i : Nat), z], rfl, SqT.of upd_same, rfl, _, _, rfl, _, _, rfl, rfl, ?_⟩
    exact hs i z σ H _ hz' p (same_new hT)) hd
/-- for n in a list of ints -/
theorem for_ints (Pv : Nat → L2.St → Hp → Prop) (h0 : Pv 0 σ H) (hl : ∀ i σ H, i ≤ ns.length → Pv i σ H → SqL K H a (ns.map V.int))
    (hs : ∀ i n σ H, ns[i]? = some n → Pv i σ H → tb { D with nx := Pv (i + 1), ct := Pv (i + 1), bk := D.nx } (σ.set tv (some (.int n))) H) (hd : ∀ σ H, Pv ns.length σ H → D.nx σ H) :
    ∃ W : Nat → Nat → L2.St → Hp → Prop, (∃ m, W 0 m σ H) ∧ ∀ i m σ H, W i m σ H →
      ((Itl K a).stop i H ∧ D.nx σ H) ∨ ((Itl K a).go i H ∧ ∃ N : L2.St → Hp → Prop, (∀ σ' H', N σ' H' → ∃ m', m' < m ∧ W (i + 1) m' σ' H') ∧ ∀ x H', (Itl K a).yld i H x H' → gName tv x σ H' fun σ2 H2 => tb { D with nx := N, ct := N, bk := D.nx } σ2 H2) :=
  for_list (xs := ns.map V.int) Pv h0 (fun i σ H hi p => hl i σ H (by rw [List.length_map] at hi; exact hi) p) (fun i x σ H hx p => by
    obtain ⟨n, hn, rfl⟩ := iv_get hx
    exact hs i n σ H hn p) (fun σ H p => hd σ H (by rw [List.length_map] at p; exact p))
/-- while, the test's answer told; Pv by a measure -/
theorem while_ans {c : TT} (Pv : Nat → L2.St → Hp → Prop) (m0 : Nat) (h0 : Pv m0 σ H)
    (hs : ∀ m σ H, Pv m σ H → ∃ b, (∀ Q : Bool → Hp → Prop, Q b H → c σ H Q) ∧
      (b = true → tb { D with nx := fun σ' H' => ∃ m', m' < m ∧ Pv m' σ' H', ct := fun σ' H' => ∃ m', m' < m ∧ Pv m' σ' H', bk := D.nx } σ H) ∧ (b = false → D.nx σ H)) : tWhile c tb D σ H := by
  refine ⟨Pv, ⟨m0, h0⟩, fun m σ H p => ?_⟩
  obtain ⟨b, hb, h1, h2⟩ := hs m σ H p
  refine hb _ ?_
  cases b with
  | true => exact (if_pos rfl).mpr ⟨_, fun _ _ n => n, h1 rfl⟩
  | false => exact (if_neg Bool.false_ne_true).mpr (h2 rfl)
end

/-! ### comprehensions -/
section
variable {K : PySem.W.Frag} {a : Addr} {xs : List V} {ns : List Int} {σ : L2.St} {H1 : Hp} {Dl : Addr} {te : TE} {tt : TT} {vs : List Nat} {j : Nat} {lo : Int} {n : Nat} {Qd : Hp → Prop}
theorem tyes_ok {σ : L2.St} {H : Hp} {A B : Hp → Prop} (h : A H) : tYes σ H (fun b H3 => if b = true then A H3 else B H3) := by
  show (if true = true then A H else B H)
  rw [if_pos rfl]
  exact h
/-- [e for k in range(..)], e a value that leaves all as it was -/
theorem lc_rng (f : Nat → V) (hn : n ≤ 1000000) (hD : H1 Dl = none) (hw : ∀ x, wipe ((wipe σ vs).set j (some x)) vs = wipe σ vs)
    (he : ∀ (k : Nat) H', k < n → Same H1 H' → ∀ Q' : VK, (∀ H4, Same H' H4 → Q' (f k) H4) → te ((wipe σ vs).set j (some (.int (lo + (k : Nat))))) H' Q')
    (hd : ∀ H', Same H1 H' → H' Dl = some (.lst ((List.range n).map f)) → Qd H') :
    ∃ W : Nat → Nat → Hp → Prop, (∃ m, W 0 m (upd H1 Dl (.lst []))) ∧ ∀ i m H, W i m H →
      ((Itr lo n).stop i H ∧ Qd H) ∨ ((Itr lo n).go i H ∧ ∃ Nx : Hp → Prop, (∀ H', Nx H' → ∃ m', m' < m ∧ W (i + 1) m' H') ∧ ∀ x H', (Itr lo n).yld i H x H' → gName j x (wipe σ vs) H' fun σ2 H2 => wipe σ2 vs = wipe σ vs ∧ tYes σ2 H2 fun b H3 =>
        if b = true then te σ2 H3 fun y H4 => ∃ acc, H4 Dl = some (.lst acc) ∧ acc.length < sizeLine ∧ Nx (upd H4 Dl (.lst (acc ++ [y]))) else Nx H3) := by
  refine lc_range (lo := lo) (n := n) (fun i H' => Same H1 H' ∧ H' Dl = some (.lst ((List.range i).map f))) ⟨same_new hD, upd_same⟩ (fun i H' hi p => ?_) (fun H' p => hd H' p.1 p.2)
  refine ⟨hw _, ?_⟩
  refine tyes_ok ?_
  refine he i H' hi p.1 _ fun H4 s => ⟨_, s _ _ p.2, szl (by rw [List.length_map, List.length_range]; omega), same_upd' hD (p.1.trans s), ?_⟩
  rw [upd_same, List.range_succ, List.map_append]
  rfl
/-- [e for x in a list of ints] -/
theorem lc_ints (f : Int → V) (hn : ns.length ≤ 1000000) (ha : SqL K H1 a (ns.map V.int)) (hD : H1 Dl = none) (hw : ∀ x, wipe ((wipe σ vs).set j (some x)) vs = wipe σ vs)
    (he : ∀ (x : Int) H', x ∈ ns → Same H1 H' → ∀ Q' : VK, (∀ H4, Same H' H4 → Q' (f x) H4) → te ((wipe σ vs).set j (some (.int x))) H' Q')
    (hd : ∀ H', Same H1 H' → H' Dl = some (.lst (ns.map f)) → Qd H') :
    ∃ W : Nat → Nat → Hp → Prop, (∃ m, W 0 m (upd H1 Dl (.lst []))) ∧ ∀ i m H, W i m H →
      ((Itl K a).stop i H ∧ Qd H) ∨ ((Itl K a).go i H ∧ ∃ Nx : Hp → Prop, (∀ H', Nx H' → ∃ m', m' < m ∧ W (i + 1) m' H') ∧ ∀ x H', (Itl K a).yld i H x H' → gName j x (wipe σ vs) H' fun σ2 H2 => wipe σ2 vs = wipe σ vs ∧ tYes σ2 H2 fun b H3 =>
        if b = true then te σ2 H3 fun y H4 => ∃ acc, H4 Dl = some (.lst acc) ∧ acc.length < sizeLine ∧ Nx (upd H4 Dl (.lst (acc ++ [y]))) else Nx H3) := by
  refine lc_list (K := K) (a := a) (xs := ns.map V.int) (fun i H' => Same H1 H' ∧ H' Dl = some (.lst ((ns.take i).map f))) ⟨same_new hD, upd_same⟩ (fun i H' _ p => p.1.seq ha) (fun i x H' hx p => ?_) (fun H' p => ?_)
  · obtain ⟨z, hz, rfl⟩ := iv_get hx
    have hi := (List.getElem?_eq_some_iff.mp hz).1
    refine ⟨hw _, ?_⟩
    refine tyes_ok ?_
    refine he z H' (List.mem_of_getElem? hz) p.1 _ fun H4 s => ⟨_, s _ _ p.2, szl (by rw [List.length_map, List.length_take]; omega), same_upd' hD (p.1.trans s), ?_⟩
    rw [upd_same, List.take_add_one, hz, List.map_append]
    rfl
  · have h2 := p.2
    rw [List.length_map, List.take_length] at h2
    exact hd H' p.1 h2
/-- [e for k in range(..) if t] -/
theorem lc_rngIf (t : Nat → Bool) (f : Nat → V) (hn : n ≤ 1000000) (hD : H1 Dl = none) (hw : ∀ x, wipe ((wipe σ vs).set j (some x)) vs = wipe σ vs)
    (ht : ∀ (k : Nat) H', k < n → Same H1 H' → ∀ Q' : Bool → Hp → Prop, (∀ H4, Same H' H4 → Q' (t k) H4) → tt ((wipe σ vs).set j (some (.int (lo + (k : Nat))))) H' Q')
    (he : ∀ (k : Nat) H', k < n → t k = true → Same H1 H' → ∀ Q' : VK, (∀ H4, Same H' H4 → Q' (f k) H4) → te ((wipe σ vs).set j (some (.int (lo + (k : Nat))))) H' Q')
    (hd : ∀ H', Same H1 H' → H' Dl = some (.lst (((List.range n).filter t).map f)) → Qd H') :
    ∃ W : Nat → Nat → Hp → Prop, (∃ m, W 0 m (upd H1 Dl (.lst []))) ∧ ∀ i m H, W i m H →
      ((Itr lo n).stop i H ∧ Qd H) ∨ ((Itr lo n).go i H ∧ ∃ Nx : Hp → Prop, (∀ H', Nx H' → ∃ m', m' < m ∧ W (i + 1) m' H') ∧ ∀ x H', (Itr lo n).yld i H x H' → gName j x (wipe σ vs) H' fun σ2 H2 => wipe σ2 vs = wipe σ vs ∧ tt σ2 H2 fun b H3 =>
        if b = true then te σ2 H3 fun y H4 => ∃ acc, H4 Dl = some (.lst acc) ∧ acc.length < sizeLine ∧ Nx (upd H4 Dl (.lst (acc ++ [y]))) else Nx H3) := by
  refine lc_range (lo := lo) (n := n) (fun i H' => Same H1 H' ∧ H' Dl = some (.lst (((List.range i).filter t).map f))) ⟨same_new hD, upd_same⟩ (fun i H' hi p => ?_) (fun H' p => hd H' p.1 p.2)
  refine ⟨hw _, ?_⟩
  refine ht i H' hi p.1 _ fun H3 s3 => ?_
  cases hb : t i with
  | true =>
    refine (if_pos rfl).mpr ?_
    refine he i H3 hi hb (p.1.trans s3) _ fun H4 s => ⟨_, s _ _ (s3 _ _ p.2), szl ?_, same_upd' hD ((p.1.trans s3).trans s), ?_⟩
    · have := List.length_filter_le t (List.range i)
      rw [List.length_range] at this
      rw [List.length_map]; omega
    rw [upd_same, List.range_succ, List.filter_append, List.map_append, List.filter_cons, if_pos hb]
    rfl
  | false =>
    refine (if_neg Bool.false_ne_true).mpr ⟨p.1.trans s3, ?_⟩
    rw [List.range_succ, List.filter_append, List.map_append, List.filter_cons, if_neg (by rw [hb]; exact Bool.false_ne_true)]
    simpa using s3 _ _ p.2
/-- [e for x in a list of ints if t] -/
theorem lc_intsIf (t : Int → Bool) (f : Int → V) (hn : ns.length ≤ 1000000) (ha : SqL K H1 a (ns.map V.int)) (hD : H1 Dl = none) (hw : ∀ x, wipe ((wipe σ vs).set j (some x)) vs = wipe σ vs)
    (ht : ∀ (x : Int) H', x ∈ ns → Same H1 H' → ∀ Q' : Bool → Hp → Prop, (∀ H4, Same H' H4 → Q' (t x) H4) → tt ((wipe σ vs).set j (some (.int x))) H' Q')
    (he : ∀ (x : Int) H', x ∈ ns → t x = true → Same H1 H' → ∀ Q' : VK, (∀ H4, Same H' H4 → Q' (f x) H4) → te ((wipe σ vs).set j (some (.int x))) H' Q')
    (hd : ∀ H', Same H1 H' → H' Dl = some (.lst ((ns.filter t).map f)) → Qd H') :
    ∃ W : Nat → Nat → Hp → Prop, (∃ m, W 0 m (upd H1 Dl (.lst []))) ∧ ∀ i m H, W i m H →
      ((Itl K a).stop i H ∧ Qd H) ∨ ((Itl K a).go i H ∧ ∃ Nx : Hp → Prop, (∀ H', Nx H' → ∃ m', m' < m ∧ W (i + 1) m' H') ∧ ∀ x H', (Itl K a).yld i H x H' → gName j x (wipe σ vs) H' fun σ2 H2 => wipe σ2 vs = wipe σ vs ∧ tt σ2 H2 fun b H3 =>
        if b = true then te σ2 H3 fun y H4 => ∃ acc, H4 Dl = some (.lst acc) ∧ acc.length < sizeLine ∧ Nx (upd H4 Dl (.lst (acc ++ [y]))) else Nx H3) := by
  refine lc_list (K := K) (a := a) (xs := ns.map V.int) (fun i H' => Same H1 H' ∧ H' Dl = some (.lst (((ns.take i).filter t).map f))) ⟨same_new hD, upd_same⟩ (fun i H' _ p => p.1.seq ha) (fun i x H' hx p => ?_) (fun H' p => ?_)
  · obtain ⟨z, hz, rfl⟩ := iv_get hx
    have hi := (List.getElem?_eq_some_iff.mp hz).1
    have hm := List.mem_of_getElem? hz
    refine ⟨hw _, ?_⟩
    refine ht z H' hm p.1 _ fun H3 s3 => ?_
    have e1 : ns.take (i + 1) = ns.take i ++ [z] := by rw [List.take_add_one, hz]; rfl
    cases hb : t z with
    | true =>
      refine (if_pos rfl).mpr ?_
      refine he z H3 hm hb (p.1.trans s3) _ fun H4 s => ⟨_, s _ _ (s3 _ _ p.2), szl ?_, same_upd' hD ((p.1.trans s3).trans s), ?_⟩
      · have := List.length_filter_le t (ns.take i)
        rw [List.length_take] at this
        rw [List.length_map]; omega
      rw [upd_same, e1, List.filter_append, List.map_append, List.filter_cons, if_pos hb]
      rfl
    | false =>
      refine (if_neg Bool.false_ne_true).mpr ⟨p.1.trans s3, ?_⟩
      rw [e1, List.filter_append, List.map_append, List.filter_cons, if_neg (by rw [hb]; exact Bool.false_ne_true)]
      simpa using s3 _ _ p.2
  · have h2 := p.2
    rw [List.length_map, List.take_length] at h2
    exact hd H' p.1 h2
/-- [e for x in a list if t], t never -/
theorem lc_none (ha : SqL K H1 a xs) (hD : H1 Dl = none) (hw : ∀ x, wipe ((wipe σ vs).set j (some x)) vs = wipe σ vs)
    (ht : ∀ (x : V) H', x ∈ xs → Same H1 H' → ∀ Q' : Bool → Hp → Prop, (∀ H4, Same H' H4 → Q' false H4) → tt ((wipe σ vs).set j (some x)) H' Q')
    (hd : ∀ H', Same H1 H' → H' Dl = some (.lst []) → Qd H') :
    ∃ W : Nat → Nat → Hp → Prop, (∃ m, W 0 m (upd H1 Dl (.lst []))) ∧ ∀ i m H, W i m H →
      ((Itl K a).stop i H ∧ Qd H) ∨ ((Itl K a).go i H ∧ ∃ Nx : Hp → Prop, (∀ H', Nx H' → ∃ m', m' < m ∧ W (i + 1) m' H') ∧ ∀ x H', (Itl K a).yld i H x H' → gName j x (wipe σ vs) H' fun σ2 H2 => wipe σ2 vs = wipe σ vs ∧ tt σ2 H2 fun b H3 =>
        if b = true then te σ2 H3 fun y H4 => ∃ acc, H4 Dl = some (.lst acc) ∧ acc.length < sizeLine ∧ Nx (upd H4 Dl (.lst (acc ++ [y]))) else Nx H3) := by
  refine lc_list (K := K) (a := a) (xs := xs) (fun _ H' => Same H1 H' ∧ H' Dl = some (.lst [])) ⟨same_new hD, upd_same⟩ (fun i H' _ p => p.1.seq ha) (fun i x H' hx p => ?_) (fun H' p => hd H' p.1 p.2)
  refine ⟨hw _, ?_⟩
  refine ht x H' (List.mem_of_getElem? hx) p.1 _ fun H3 s3 => ?_
  exact (if_neg Bool.false_ne_true).mpr ⟨p.1.trans s3, s3 _ _ p.2⟩
end
/-! the same, the items ints -/
section
variable {K : PySem.W.Frag} {a : Addr} {xs : List V} {ns : List Int} {σ : L2.St} {H1 : Hp} {Dl : Addr} {te : TE} {tt : TT} {vs : List Nat} {j : Nat} {lo : Int} {n : Nat} {Qd : Hp → Prop}
theorem lc_rngI (f : Nat → Int) (hn : n ≤ 1000000) (hD : H1 Dl = none) (hw : ∀ x, wipe ((wipe σ vs).set j (some x)) vs = wipe σ vs)
    (he : ∀ (k : Nat) H', k < n → Same H1 H' → ∀ Q' : VK, (∀ H4, Same H' H4 → Q' (.int (f k)) H4) → te ((wipe σ vs).set j (some (.int (lo + (k : Nat))))) H' Q')
    (hd : ∀ H', Same H1 H' → H' Dl = some (.lst (((List.range n).map f).map V.int)) → Qd H') :
    ∃ W : Nat → Nat → Hp → Prop, (∃ m, W 0 m (upd H1 Dl (.lst []))) ∧ ∀ i m H, W i m H →
      ((Itr lo n).stop i H ∧ Qd H) ∨ ((Itr lo n).go i H ∧ ∃ Nx : Hp → Prop, (∀ H', Nx H' → ∃ m', m' < m ∧ W (i + 1) m' H') ∧ ∀ x H', (Itr lo n).yld i H x H' → gName j x (wipe σ vs) H' fun σ2 H2 => wipe σ2 vs = wipe σ vs ∧ tYes σ2 H2 fun b H3 =>
        if b = true then te σ2 H3 fun y H4 => ∃ acc, H4 Dl = some (.lst acc) ∧ acc.length < sizeLine ∧ Nx (upd H4 Dl (.lst (acc ++ [y]))) else Nx H3) :=
  lc_rng (fun k => V.int (f k)) hn hD hw he fun H' s e => hd H' s (by rw [e, List.map_map]; rfl)
theorem lc_intsI (f : Int → Int) (hn : ns.length ≤ 1000000) (ha : SqL K H1 a (ns.map V.int)) (hD : H1 Dl = none) (hw : ∀ x, wipe ((wipe σ vs).set j (some x)) vs = wipe σ vs)
    (he : ∀ (x : Int) H', x ∈ ns → Same H1 H' → ∀ Q' : VK, (∀ H4, Same H' H4 → Q' (.int (f x)) H4) → te ((wipe σ vs).set j (some (.int x))) H' Q')
    (hd : ∀ H', Same H1 H' → H' Dl = some (.lst ((ns.map f).map V.int)) → Qd H') :
    ∃ W : Nat → Nat → Hp → Prop, (∃ m, W 0 m (upd H1 Dl (.lst []))) ∧ ∀ i m H, W i m H →
      ((Itl K a).stop i H ∧ Qd H) ∨ ((Itl K a).go i H ∧ ∃ Nx : Hp → Prop, (∀ H', Nx H' → ∃ m', m' < m ∧ W (i + 1) m' H') ∧ ∀ x H', (Itl K a).yld i H x H' → gName j x (wipe σ vs) H' fun σ2 H2 => wipe σ2 vs = wipe σ vs ∧ tYes σ2 H2 fun b H3 =>
        if b = true then te σ2 H3 fun y H4 => ∃ acc, H4 Dl = some (.lst acc) ∧ acc.length < sizeLine ∧ Nx (upd H4 Dl (.lst (acc ++ [y]))) else Nx H3) :=
  lc_ints (fun k => V.int (f k)) hn ha hD hw he fun H' s e => hd H' s (by rw [e, List.map_map]; rfl)
theorem lc_rngIfI (t : Nat → Bool) (f : Nat → Int) (hn : n ≤ 1000000) (hD : H1 Dl = none) (hw : ∀ x, wipe ((wipe σ vs).set j (some x)) vs = wipe σ vs)
    (ht : ∀ (k : Nat) H', k < n → Same H1 H' → ∀ Q' : Bool → Hp → Prop, (∀ H4, Same H' H4 → Q' (t k) H4) → tt ((wipe σ vs).set j (some (.int (lo + (k : Nat))))) H' Q')
    (he : ∀ (k : Nat) H', k < n → t k = true → Same H1 H' → ∀ Q' : VK, (∀ H4, Same H' H4 → Q' (.int (f k)) H4) → te ((wipe σ vs).set j (some (.int (lo + (k : Nat))))) H' Q')
    (hd : ∀ H', Same H1 H' → H' Dl = some (.lst ((((List.range n).filter t).map f).map V.int)) → Qd H') :
    ∃ W : Nat → Nat → Hp → Prop, (∃ m, W 0 m (upd H1 Dl (.lst []))) ∧ ∀ i m H, W i m H →
      ((Itr lo n).stop i H ∧ Qd H) ∨ ((Itr lo n).go i H ∧ ∃ Nx : Hp → Prop, (∀ H', Nx H' → ∃ m', m' < m ∧ W (i + 1) m' H') ∧ ∀ x H', (Itr lo n).yld i H x H' → gName j x (wipe σ vs) H' fun σ2 H2 => wipe σ2 vs = wipe σ vs ∧ tt σ2 H2 fun b H3 =>
        if b = true then te σ2 H3 fun y H4 => ∃ acc, H4 Dl = some (.lst acc) ∧ acc.length < sizeLine ∧ Nx (upd H4 Dl (.lst (acc ++ [y]))) else Nx H3) :=
  lc_rngIf t (fun k => V.int (f k)) hn hD hw ht he fun H' s e => hd H' s (by rw [e, List.map_map]; rfl)
theorem lc_intsIfI (t : Int → Bool) (f : Int → Int) (hn : ns.length ≤ 1000000) (ha : SqL K H1 a (ns.map V.int)) (hD : H1 Dl = none) (hw : ∀ x, wipe ((wipe σ vs).set j (some x)) vs = wipe σ vs)
    (ht : ∀ (x : Int) H', x ∈ ns → Same H1 H' → ∀ Q' : Bool → Hp → Prop, (∀ H4, Same H' H4 → Q' (t x) H4) → tt ((wipe σ vs).set j (some (.int x))) H' Q')
    (he : ∀ (x : Int) H', x ∈ ns → t x = true → Same H1 H' → ∀ Q' : VK, (∀ H4, Same H' H4 → Q' (.int (f x)) H4) → te ((wipe σ vs).set j (some (.int x))) H' Q')
    (hd : ∀ H', Same H1 H' → H' Dl = some (.lst (((ns.filter t).map f).map V.int)) → Qd H') :
    ∃ W : Nat → Nat → Hp → Prop, (∃ m, W 0 m (upd H1 Dl (.lst []))) ∧ ∀ i m H, W i m H →
      ((Itl K a).stop i H ∧ Qd H) ∨ ((Itl K a).go i H ∧ ∃ Nx : Hp → Prop, (∀ H', Nx H' → ∃ m', m' < m ∧ W (i + 1) m' H') ∧ ∀ x H', (Itl K a).yld i H x H' → gName j x (wipe σ vs) H' fun σ2 H2 => wipe σ2 vs = wipe σ vs ∧ tt σ2 H2 fun b H3 =>
        if b = true then te σ2 H3 fun y H4 => ∃ acc, H4 Dl = some (.lst acc) ∧ acc.length < sizeLine ∧ Nx (upd H4 Dl (.lst (acc ++ [y]))) else Nx H3) :=
  lc_intsIf t (fun k => V.int (f k)) hn ha hD hw ht he fun H' s e => hd H' s (by rw [e, List.map_map]; rfl)
end
/-! the same, a state at a changing with each item: S tells what it may be, R the items -/
section
variable {K : PySem.W.Frag} {a st : Addr} {xs : List V} {ns : List Int} {σ : L2.St} {H1 : Hp} {Dl : Addr} {te : TE} {tt : TT} {vs : List Nat} {j : Nat} {lo : Int} {n : Nat} {Qd : Hp → Prop}
theorem lc_rngS (S : HO → Prop) (R : Int → Prop) {o1 : HO} (ha : H1 st = some o1) (hS : S o1) (hn : n ≤ 1000000) (hD : H1 Dl = none) (hw : ∀ x, wipe ((wipe σ vs).set j (some x)) vs = wipe σ vs)
    (he : ∀ (k : Nat) H' o, k < n → But st H1 H' → H' st = some o → S o → ∀ Q' : VK, (∀ v H4 o4, R v → But st H' H4 → H4 st = some o4 → S o4 → Q' (.int v) H4) → te ((wipe σ vs).set j (some (.int (lo + (k : Nat))))) H' Q')
    (hd : ∀ H' (ms : List Int) o, ms.length = n → (∀ x ∈ ms, R x) → But st H1 H' → H' Dl = some (.lst (ms.map V.int)) → H' st = some o → S o → Qd H') :
    ∃ W : Nat → Nat → Hp → Prop, (∃ m, W 0 m (upd H1 Dl (.lst []))) ∧ ∀ i m H, W i m H →
      ((Itr lo n).stop i H ∧ Qd H) ∨ ((Itr lo n).go i H ∧ ∃ Nx : Hp → Prop, (∀ H', Nx H' → ∃ m', m' < m ∧ W (i + 1) m' H') ∧ ∀ x H', (Itr lo n).yld i H x H' → gName j x (wipe σ vs) H' fun σ2 H2 => wipe σ2 vs = wipe σ vs ∧ tYes σ2 H2 fun b H3 =>
        if b = true then te σ2 H3 fun y H4 => ∃ acc, H4 Dl = some (.lst acc) ∧ acc.length < sizeLine ∧ Nx (upd H4 Dl (.lst (acc ++ [y]))) else Nx H3) := by
  have hne : Dl ≠ st := (ne_of_none ha hD).symm
  refine lc_range (lo := lo) (n := n) (fun i H' => ∃ (ms : List Int) (o : HO), H' Dl = some (.lst (ms.map V.int)) ∧ H' st = some o ∧ S o ∧ But st H1 H' ∧ ms.length = i ∧ ∀ x ∈ ms, R x)
    ⟨[], o1, upd_same, (upd_ne hne.symm).trans ha, hS, but_snoc hD but_refl, rfl, fun _ h => by cases h⟩ (fun i H' hi p => ?_) (fun H' p => ?_)
  · obtain ⟨ms, o, e1, e2, e3, e4, e5, e6⟩ := p
    refine ⟨hw _, ?_⟩
    refine tyes_ok ?_
    refine he i H' o hi e4 e2 e3 _ fun v H4 o4 rv b4 s4 z4 => ⟨_, b4 _ _ hne e1, szl (by rw [List.length_map]; omega), ms ++ [v], o4, upd_snoc, (upd_ne hne.symm).trans s4, z4, but_upd hD (but_step b4 e4), by rw [List.length_append, e5]; rfl, fun x hx => ?_⟩
    rcases List.mem_append.mp hx with h | h
    · exact e6 x h
    · rw [List.mem_singleton.mp h]; exact rv
  · obtain ⟨ms, o, e1, e2, e3, e4, e5, e6⟩ := p
    exact hd H' ms o e5 e6 e4 e1 e2 e3
end
end Ur

namespace Ur
open PySem L2
structure HandOk (d m : Int) : Prop where
  d0 : 0 ≤ d
  m0 : 0 ≤ m
  m1 : m < 2147483587
end Ur

namespace Ur
open PySem L2
/-! ### last and next places: the plain functions -/
/-- the greatest place below i with the number x, or -1 -/
def lastAt (ns : List Int) : Nat → Int → Int
  | 0, _ => -1
  | i + 1, x => if ns.getD i 0 = x then (i : Int) else lastAt ns i x
def lastP (ns : List Int) : List Int := (List.range ns.length).map fun k => lastAt ns k (ns.getD k 0)
theorem lastP_len (ns : List Int) : (lastP ns).length = ns.length := by simp [lastP]
theorem lastP_get {ns : List Int} {k : Nat} (h : k < ns.length) : (lastP ns)[k]? = some (lastAt ns k (ns.getD k 0)) := by
  unfold lastP
  rw [List.getElem?_map, List.getElem?_range h]
  rfl
theorem lastP_take {ns : List Int} {i : Nat} (h : i < ns.length) : (lastP ns).take (i + 1) = (lastP ns).take i ++ [lastAt ns i (ns.getD i 0)] := by
  rw [List.take_add_one, lastP_get h]
  rfl
theorem lastAt_spec (ns : List Int) (x : Int) : ∀ i : Nat, (lastAt ns i x = -1 ∧ ∀ j, j < i → ns.getD j 0 ≠ x) ∨ ∃ v : Nat, lastAt ns i x = v ∧ v < i ∧ ns.getD v 0 = x ∧ ∀ j, v < j → j < i → ns.getD j 0 ≠ x
  | 0 => Or.inl ⟨rfl, fun _ h => absurd h (Nat.not_lt_zero _)⟩
  | i + 1 => by
    by_cases h : ns.getD i 0 = x
    · refine Or.inr ⟨i, ?_, Nat.lt_succ_self _, h, fun j h1 h2 => by omega⟩
      show (if ns.getD i 0 = x then (i : Int) else lastAt ns i x) = i
      rw [if_pos h]
    · have e : lastAt ns (i + 1) x = lastAt ns i x := by
        show (if ns.getD i 0 = x then (i : Int) else lastAt ns i x) = _
        rw [if_neg h]
      rcases lastAt_spec ns x i with ⟨h1, h2⟩ | ⟨v, h1, h2, h3, h4⟩
      · refine Or.inl ⟨e.trans h1, fun j hj => ?_⟩
        by_cases hji : j = i
        · rw [hji]; exact h
        · exact h2 j (by omega)
      · refine Or.inr ⟨v, e.trans h1, by omega, h3, fun j hj1 hj2 => ?_⟩
        by_cases hji : j = i
        · rw [hji]; exact h
        · exact h4 j hj1 (by omega)
theorem lastAt_range (ns : List Int) (x : Int) (i : Nat) : -1 ≤ lastAt ns i x ∧ lastAt ns i x < i := by
  rcases lastAt_spec ns x i with ⟨h1, _⟩ | ⟨v, h1, h2, _⟩ <;> omega
/-- what is it and nothing greater -/
theorem lastAt_uniq {ns : List Int} {x : Int} {i : Nat} {m : Int} (h1 : m = -1 ∨ ∃ v : Nat, m = v ∧ v < i ∧ ns.getD v 0 = x) (h2 : ∀ j : Nat, j < i → ns.getD j 0 = x → (j : Int) ≤ m) : lastAt ns i x = m := by
  rcases lastAt_spec ns x i with ⟨a1, a2⟩ | ⟨v, a1, a2, a3, a4⟩
  · rcases h1 with e | ⟨v, e, hv, hx⟩
    · omega
    · exact absurd hx (a2 v hv)
  · have q := h2 v a2 a3
    rcases h1 with e | ⟨u, e, hu, hx⟩
    · omega
    · by_cases huv : v < u
      · exact absurd hx (a4 u huv hu)
      · omega
/-- the least place above k, below i, with k's number, or the length -/
def nextUp (ns : List Int) (k : Nat) : Nat → Int
  | 0 => ns.length
  | i + 1 => if nextUp ns k i < ns.length then nextUp ns k i else if k < i ∧ ns.getD i 0 = ns.getD k 0 then (i : Int) else ns.length
def nextP (ns : List Int) : List Int := (List.range ns.length).map fun k => nextUp ns k ns.length
theorem nextP_len (ns : List Int) : (nextP ns).length = ns.length := by simp [nextP]
theorem nextP_get {ns : List Int} {k : Nat} (h : k < ns.length) : (nextP ns)[k]? = some (nextUp ns k ns.length) := by
  unfold nextP
  rw [List.getElem?_map, List.getElem?_range h]
  rfl
theorem nextUp_spec (ns : List Int) (k : Nat) : ∀ i : Nat, i ≤ ns.length → (nextUp ns k i = ns.length ∧ ∀ j, k < j → j < i → ns.getD j 0 ≠ ns.getD k 0) ∨ ∃ v : Nat, nextUp ns k i = v ∧ k < v ∧ v < i ∧ ns.getD v 0 = ns.getD k 0 ∧ ∀ j, k < j → j < v → ns.getD j 0 ≠ ns.getD k 0
  | 0, _ => Or.inl ⟨rfl, fun _ _ h => absurd h (Nat.not_lt_zero _)⟩
  | i + 1, hi => by
    have e : nextUp ns k (i + 1) = if nextUp ns k i < ns.length then nextUp ns k i else if k < i ∧ ns.getD i 0 = ns.getD k 0 then (i : Int) else ns.length := rfl
    rcases nextUp_spec ns k i (by omega) with ⟨h1, h2⟩ | ⟨v, h1, h2, h3, h4, h5⟩
    · rw [if_neg (by omega)] at e
      by_cases h : k < i ∧ ns.getD i 0 = ns.getD k 0
      · rw [if_pos h] at e
        exact Or.inr ⟨i, e, h.1, Nat.lt_succ_self _, h.2, h2⟩
      · rw [if_neg h] at e
        refine Or.inl ⟨e, fun j hj1 hj2 => ?_⟩
        by_cases hji : j = i
        · rw [hji]; exact fun z => h ⟨by omega, z⟩
        · exact h2 j hj1 (by omega)
    · rw [if_pos (by omega)] at e
      exact Or.inr ⟨v, e.trans h1, h2, by omega, h4, h5⟩
theorem nextUp_uniq {ns : List Int} {k i : Nat} (hi : i ≤ ns.length) {m : Int} (h1 : m = ns.length ∨ ∃ v : Nat, m = v ∧ k < v ∧ v < i ∧ ns.getD v 0 = ns.getD k 0) (h2 : ∀ j : Nat, k < j → j < i → ns.getD j 0 = ns.getD k 0 → m ≤ (j : Int)) (h3 : m ≤ ns.length) : nextUp ns k i = m := by
  rcases nextUp_spec ns k i hi with ⟨a1, a2⟩ | ⟨v, a1, a2, a3, a4, a5⟩
  · rcases h1 with e | ⟨v, e, hv, hv2, hx⟩
    · omega
    · exact absurd hx (a2 v hv hv2)
  · have q := h2 v a2 a3 a4
    rcases h1 with e | ⟨u, e, hu, hu2, hx⟩
    · omega
    · by_cases huv : u < v
      · exact absurd hx (a5 u hu huv)
      · omega
/-- one place on: the next place of k is i just where k is i's last place -/
theorem nextUp_step {ns : List Int} {k i : Nat} (hi : i < ns.length) (hk : k < ns.length) : nextUp ns k (i + 1) = if lastAt ns i (ns.getD i 0) = (k : Int) then (i : Int) else nextUp ns k i := by
  have e : nextUp ns k (i + 1) = if nextUp ns k i < ns.length then nextUp ns k i else if k < i ∧ ns.getD i 0 = ns.getD k 0 then (i : Int) else ns.length := rfl
  rw [e]
  rcases nextUp_spec ns k i (by omega) with ⟨a1, a2⟩ | ⟨v, a1, a2, a3, a4, a5⟩
  · rw [if_neg (by omega)]
    by_cases h : k < i ∧ ns.getD i 0 = ns.getD k 0
    · rw [if_pos h, if_pos]
      refine lastAt_uniq (Or.inr ⟨k, rfl, h.1, h.2.symm⟩) fun j hj hx => ?_
      by_cases hkj : k < j
      · exact absurd (hx.trans h.2) (a2 j hkj hj)
      · omega
    · rw [if_neg h, if_neg, a1]
      intro q
      rcases lastAt_spec ns (ns.getD i 0) i with ⟨b1, _⟩ | ⟨u, b1, b2, b3, _⟩
      · omega
      · have : u = k := by omega
        subst this
        exact h ⟨b2, b3.symm⟩
  · rw [if_pos (by omega), if_neg]
    intro q
    rcases lastAt_spec ns (ns.getD i 0) i with ⟨b1, _⟩ | ⟨u, b1, b2, b3, b4⟩
    · omega
    · have : u = k := by omega
      subst this
      exact b4 v a2 a3 (a4.trans b3)
theorem getD_of {ns : List Int} {i : Nat} {n : Int} (h : ns[i]? = some n) : ns.getD i 0 = n := by
  rw [List.getD_eq_getElem?_getD, h]; rfl
theorem get_of {ns : List Int} {i : Nat} (h : i < ns.length) : ns[i]? = some (ns.getD i 0) := by
  rw [List.getD_eq_getElem?_getD, List.getElem?_eq_getElem h]; rfl
theorem ext_getD {ns ms : List Int} (hl : ns.length = ms.length) (h : ∀ i, i < ns.length → ns.getD i 0 = ms.getD i 0) : ns = ms := by
  refine List.ext_getElem? fun i => ?_
  by_cases hi : i < ns.length
  · rw [get_of hi, get_of (by omega), h i hi]
  · rw [List.getElem?_eq_none (by omega), List.getElem?_eq_none (by omega)]
/-- a list of ints at an address, its items told otherwise -/
theorem lst_cast {H : Hp} {a : Addr} {xs ys : List V} (h : H a = some (.lst xs)) (e : xs = ys) : H a = some (.lst ys) := by rw [h, e]
/-! what the laws' own ways of reckoning come to -/
theorem tn0 (k : Nat) : ((0 : Int) + (k : Int)).toNat = k := by omega
theorem dvi {a b : Int} : decide (V.int a = V.int b) = decide (a = b) := by
  by_cases h : a = b
  · rw [h]; simp
  · rw [decide_eq_false h]
    exact decide_eq_false (fun e => h (V.int.inj e))
theorem lasts_max {ns : List Int} {k : Nat} {m : Int}
    (h1 : m ∈ (-1 : Int) :: ((List.range ((0 : Int) + (k : Int)).toNat).filter fun j : Nat => decide (V.int (ns.getD ((0 : Int) + (j : Int)).toNat 0) = V.int (ns.getD ((0 : Int) + (k : Int)).toNat 0))).map fun j : Nat => (0 : Int) + (j : Int))
    (h2 : ∀ x ∈ (-1 : Int) :: ((List.range ((0 : Int) + (k : Int)).toNat).filter fun j : Nat => decide (V.int (ns.getD ((0 : Int) + (j : Int)).toNat 0) = V.int (ns.getD ((0 : Int) + (k : Int)).toNat 0))).map fun j : Nat => (0 : Int) + (j : Int), x ≤ m) :
    lastAt ns k (ns.getD k 0) = m := by
  simp only [tn0, dvi] at h1 h2
  refine lastAt_uniq ?_ (fun j hj e => ?_)
  · rcases List.mem_cons.mp h1 with e | e
    · exact Or.inl e
    · obtain ⟨j, hj, rfl⟩ := List.mem_map.mp e
      obtain ⟨hj1, hj2⟩ := List.mem_filter.mp hj
      exact Or.inr ⟨j, by omega, List.mem_range.mp hj1, of_decide_eq_true hj2⟩
  · have h := h2 (0 + (j : Int)) (List.mem_cons_of_mem _ (List.mem_map.mpr ⟨j, List.mem_filter.mpr ⟨List.mem_range.mpr hj, decide_eq_true e⟩, rfl⟩))
    omega
theorem tn1 (n k : Nat) : ((n : Int) - ((0 : Int) + (k : Int) + 1)).toNat = n - (k + 1) := by omega
theorem tn2 (k j : Nat) : ((0 : Int) + (k : Int) + 1 + (j : Int)).toNat = k + 1 + j := by omega
theorem nexts_min {ns : List Int} {k : Nat} {m : Int} (hk : k < ns.length)
    (h1 : m ∈ ((List.range ((ns.length : Int) - ((0 : Int) + (k : Int) + 1)).toNat).filter fun j : Nat => decide (V.int (ns.getD ((0 : Int) + (k : Int) + 1 + (j : Int)).toNat 0) = V.int (ns.getD ((0 : Int) + (k : Int)).toNat 0))).map (fun j : Nat => (0 : Int) + (k : Int) + 1 + (j : Int)) ++ [(ns.length : Int)])
    (h2 : ∀ x ∈ ((List.range ((ns.length : Int) - ((0 : Int) + (k : Int) + 1)).toNat).filter fun j : Nat => decide (V.int (ns.getD ((0 : Int) + (k : Int) + 1 + (j : Int)).toNat 0) = V.int (ns.getD ((0 : Int) + (k : Int)).toNat 0))).map (fun j : Nat => (0 : Int) + (k : Int) + 1 + (j : Int)) ++ [(ns.length : Int)], m ≤ x) :
    nextUp ns k ns.length = m := by
  simp only [tn0, tn1, tn2, dvi] at h1 h2
  have hm : m ≤ ns.length := h2 _ (List.mem_append.mpr (Or.inr (List.mem_singleton.mpr rfl)))
  refine nextUp_uniq (Nat.le_refl _) ?_ (fun j h3 h4 e => ?_) hm
  · rcases List.mem_append.mp h1 with e | e
    · obtain ⟨j, hj, rfl⟩ := List.mem_map.mp e
      obtain ⟨hj1, hj2⟩ := List.mem_filter.mp hj
      have := List.mem_range.mp hj1
      exact Or.inr ⟨k + 1 + j, by omega, by omega, by omega, of_decide_eq_true hj2⟩
    · exact Or.inl (List.mem_singleton.mp e)
  · have h := h2 (0 + (k : Int) + 1 + ((j - (k + 1) : Nat) : Int)) (List.mem_append.mpr (Or.inl (List.mem_map.mpr ⟨j - (k + 1), List.mem_filter.mpr ⟨List.mem_range.mpr (by omega), decide_eq_true (by rw [show k + 1 + (j - (k + 1)) = j by omega]; exact e)⟩, rfl⟩)))
    omega
theorem same_dec {ns ms : List Int} (hl : (ns.length : Int) = (ms.length : Int)) :
    decide ((((List.range (ms.length : Int).toNat).filter fun j : Nat => !decide (V.int (ns.getD ((0 : Int) + (j : Int)).toNat 0) = V.int (ms.getD ((0 : Int) + (j : Int)).toNat 0))).map fun j : Nat => (0 : Int) + (j : Int)) = []) = decide (ns = ms) := by
  simp only [tn0, dvi, Int.toNat_natCast]
  refine decide_eq_decide.mpr ⟨fun h => ?_, fun h => ?_⟩
  · refine ext_getD (by omega) (fun i hi => ?_)
    have h2 := List.filter_eq_nil_iff.mp (List.map_eq_nil_iff.mp h) i (List.mem_range.mpr (by omega))
    simpa using h2
  · subst h
    simp
end Ur

namespace Ur
open PySem L2
/-! ### told lists that are held, each with what is due -/
/-- a pair of lists of the same ints, none of them the list that holds -/
structure PairOk (h : Addr) (H : Hp) (p : Addr) : Prop where
  off : p ≠ h
  both : ∃ (a b : Addr) (ns : List Int), a ≠ h ∧ b ≠ h ∧ H p = some (.lst [.ref a, .ref b]) ∧ H a = some (.lst (ns.map V.int)) ∧ H b = some (.lst (ns.map V.int))
/-- the list that holds at most n pairs -/
structure HeldOk (h : Addr) (H : Hp) (n : Nat) : Prop where
  all : ∃ ps : List Addr, H h = some (.lst (ps.map V.ref)) ∧ ps.length ≤ n ∧ ∀ p ∈ ps, PairOk h H p
theorem PairOk.step {h p : Addr} {H H' : Hp} (k : PairOk h H p) (b : But h H H') : PairOk h H' p := by
  obtain ⟨x, y, ns, hx, hy, e, e1, e2⟩ := k.both
  exact ⟨k.off, x, y, ns, hx, hy, b _ _ k.off e, b _ _ hx e1, b _ _ hy e2⟩
theorem Same.but {h : Addr} {H H' : Hp} (s : Same H H') : But h H H' := fun b o _ e => s b o e
theorem HeldOk.same {h : Addr} {H H' : Hp} {n : Nat} (k : HeldOk h H n) (s : Same H H') : HeldOk h H' n := by
  obtain ⟨ps, e, l, f⟩ := k.all
  exact ⟨ps, s _ _ e, l, fun p hp => (f p hp).step (Same.but s)⟩
theorem HeldOk.mono {h : Addr} {H : Hp} {n m : Nat} (k : HeldOk h H n) (l : n ≤ m) : HeldOk h H m := by
  obtain ⟨ps, e, q, f⟩ := k.all
  exact ⟨ps, e, Nat.le_trans q l, f⟩
/-- .. with more pairs behind -/
theorem HeldOk.grow {h : Addr} {H H' : Hp} {m : Nat} {ps qs : List Addr} (e : H h = some (.lst (ps.map V.ref))) (l : ps.length + qs.length ≤ m) (f : ∀ p ∈ ps, PairOk h H p) (b : But h H H') (e' : H' h = some (.lst ((ps ++ qs).map V.ref))) (g : ∀ p ∈ qs, PairOk h H' p) : HeldOk h H' m :=
  ⟨ps ++ qs, e', by rw [List.length_append]; exact l, fun p hp => by
    rcases List.mem_append.mp hp with k | k
    · exact (f p k).step b
    · exact g p k⟩
theorem HeldOk.new {h : Addr} {H : Hp} (e : H h = some (.lst [])) : HeldOk h H 0 := ⟨[], e, Nat.le_refl 0, fun p hp => nomatch hp⟩
end Ur

namespace Ur
open PySem L2
/-- over the cells, each with its place: what is new in H1 stays as the loop goes on -/
theorem for_cells {K : PySem.W.Frag} {H0 H1 : Hp} {cs : List Int} {p : Addr} {ts : List Addr} {i j : Nat} {tb : TS} {D : Ends} {σ : L2.St} (N : UrE.NewPairs H0 (UrE.enumC (cs.map V.int)) p ts H1)
    (Pv : Nat → L2.St → Hp → Prop) (h0 : Pv 0 σ H1) (hb : ∀ n σ H, Pv n σ H → ∀ b o, H0 b = none → H1 b = some o → H b = some o)
    (hs : ∀ n c σ H, cs[n]? = some c → Pv n σ H → tb { D with nx := Pv (n + 1), ct := Pv (n + 1), bk := D.nx } ((σ.set i (some (.int (n : Nat)))).set j (some (.int c))) H) (hd : ∀ σ H, Pv cs.length σ H → D.nx σ H) :
    ∃ W : Nat → Nat → L2.St → Hp → Prop, (∃ m, W 0 m σ H1) ∧ ∀ k m σ H, W k m σ H →
      ((Itl K p).stop k H ∧ D.nx σ H) ∨ ((Itl K p).go k H ∧ ∃ N : L2.St → Hp → Prop, (∀ σ' H', N σ' H' → ∃ m', m' < m ∧ W (k + 1) m' σ' H') ∧ ∀ x H', (Itl K p).yld k H x H' → gTup K 2 (gCons (gName i) (gCons (gName j) gNil)) x σ H' fun σ2 H2 => tb { D with nx := N, ct := N, bk := D.nx } σ2 H2) := by
  obtain ⟨n1, n2, n3, n4, n5, n6, n7, n8⟩ := N
  have hl : ts.length = cs.length := by rw [n6, UrE.enumC_len, List.length_map]
  refine for_list (xs := ts.map V.ref) Pv h0 (fun k σ H hk q => .of (hb k σ H q p _ n2 n7)) (fun k x σ H hx q => ?_) (fun σ H q => hd σ H (by rw [List.length_map, hl] at q; exact q))
  rw [List.getElem?_map] at hx
  cases ht : ts[k]? with
  | none => rw [ht] at hx; cases hx
  | some t =>
    rw [ht] at hx
    cases hx
    have hk : k < cs.length := by rw [← hl]; exact (List.getElem?_eq_some_iff.mp ht).1
    have hc : cs[k]? = some cs[k] := List.getElem?_eq_getElem hk
    have he : (UrE.enumC (cs.map V.int))[k]? = some [.int (k : Nat), .int cs[k]] := by rw [UrE.enumC_get, List.getElem?_map, hc]; rfl
    obtain ⟨t', e1, e2⟩ := n8 k _ he
    rw [ht] at e1
    cases e1
    have hn : H0 t = none := n3 t (List.mem_of_getElem? ht)
    exact ⟨t, _, rfl, .of (hb k σ H q t _ hn e2), rfl, _, _, rfl, _, _, rfl, rfl, hs k _ σ H hc q⟩
end Ur
namespace Ur
open PySem L2
theorem sql_fresh {K : PySem.W.Frag} {H0 H : Hp} {a h : Addr} {o : HO} {xs : List V} (nh : H0 h = none) (b : But h (upd H0 h o) H) (q : SqL K H0 a xs) : SqL K H a xs := by
  have st : ∀ (x : Addr) (u : HO), H0 x = some u → H x = some u := fun x u e => by
    have ne : x ≠ h := fun k => by rw [k, nh] at e; cases e
    exact b x u ne (by rw [upd_ne ne]; exact e)
  rcases q with (q | ⟨o, q⟩) | q
  · exact .inl (.inl (st _ _ q))
  · exact .inl (.inr ⟨o, st _ _ q⟩)
  · exact .inr q
end Ur

namespace Ur
open PySem L2
/-! ### unlike ints of a list -/
/-- the unlike ones, in the order in which they come -/
def uni (ns : List Int) : List Int := ns.foldl PyProof.Rows.step_dedup []
/-- how many -/
def ulen (ns : List Int) : Nat := (uni ns).length
theorem uni_snoc_any (ns : List Int) (x : Int) : uni (ns ++ [x]) = if (uni ns).any (· == x) = true then uni ns else uni ns ++ [x] := by
  unfold uni
  rw [List.foldl_append]
  rfl
theorem rev_ind {P : List Int → Prop} (h0 : P []) (hs : ∀ ns x, P ns → P (ns ++ [x])) (ns : List Int) : P ns := by
  have k : ∀ l : List Int, P l.reverse := by
    intro l
    induction l with
    | nil => exact h0
    | cons x l ih => rw [List.reverse_cons]; exact hs _ _ ih
  have := k ns.reverse
  rwa [List.reverse_reverse] at this
theorem mem_uni (ns : List Int) : ∀ x, x ∈ uni ns ↔ x ∈ ns := by
  refine rev_ind (P := fun ns => ∀ x, x ∈ uni ns ↔ x ∈ ns) (fun x => by simp [uni]) (fun ns y ih x => ?_) ns
  rw [uni_snoc_any]
  by_cases h : (uni ns).any (· == y) = true
  · rw [if_pos h, ih, List.mem_append]
    obtain ⟨z, hz, e⟩ := List.any_eq_true.mp h
    have e2 : z = y := eq_of_beq e
    rw [e2] at hz
    constructor
    · exact fun k => Or.inl k
    · rintro (k | k)
      · exact k
      · rw [List.mem_singleton.mp k]; exact (ih y).mp hz
  · rw [if_neg h, List.mem_append, List.mem_append, ih]
theorem uni_snoc (ns : List Int) (x : Int) : uni (ns ++ [x]) = if x ∈ ns then uni ns else uni ns ++ [x] := by
  rw [uni_snoc_any]
  by_cases h : x ∈ ns
  · have k : (uni ns).any (· == x) = true := List.any_eq_true.mpr ⟨x, (mem_uni ns x).mpr h, beq_self_eq_true x⟩
    rw [if_pos h, if_pos k]
  · rw [if_neg h, if_neg]
    intro k
    obtain ⟨z, hz, e⟩ := List.any_eq_true.mp k
    have e2 : z = x := eq_of_beq e
    exact h (e2 ▸ (mem_uni ns z).mp hz)
theorem ulen_snoc (ns : List Int) (x : Int) : ulen (ns ++ [x]) = if x ∈ ns then ulen ns else ulen ns + 1 := by
  unfold ulen
  rw [uni_snoc]
  by_cases h : x ∈ ns
  · rw [if_pos h, if_pos h]
  · rw [if_neg h, if_neg h, List.length_append]; rfl
theorem ulen_le (ns : List Int) : ulen ns ≤ ns.length := by
  refine rev_ind (P := fun ns => ulen ns ≤ ns.length) (Nat.le_refl 0) (fun ns x ih => ?_) ns
  rw [ulen_snoc, List.length_append]
  have : [x].length = 1 := rfl
  split <;> omega
theorem uni_nodup (ns : List Int) : (uni ns).Nodup := by
  refine rev_ind (P := fun ns => (uni ns).Nodup) List.nodup_nil (fun ns x ih => ?_) ns
  rw [uni_snoc]
  by_cases h : x ∈ ns
  · rw [if_pos h]; exact ih
  · rw [if_neg h, List.nodup_append]
    refine ⟨ih, List.nodup_cons.mpr ⟨by simp, List.nodup_nil⟩, fun a ha b hb e => ?_⟩
    rw [List.mem_singleton.mp hb] at e
    exact h (e ▸ (mem_uni ns a).mp ha)
theorem map_getD (ns : List Int) : (List.range ns.length).map (fun i => ns.getD i 0) = ns := by
  refine List.ext_getElem (by simp) fun i h1 h2 => ?_
  rw [List.getElem_map, List.getElem_range, List.getD_eq_getElem?_getD, List.getElem?_eq_getElem h2]
  rfl
theorem firstMet_uni (ns : List Int) : PyProof.Rows.firstMet (fun i => ns.getD i 0) ns.length = uni ns := by
  unfold PyProof.Rows.firstMet uni
  rw [map_getD]
/-! ### len(set(xs)) -/
def tLenSetU (K : PySem.W.Frag) (ta : TE) : TE := fun σ H Q => ta σ H fun x H1 => ∃ (l : Addr) (ns : List Int), x = .ref l ∧ SqL K H1 l (ns.map V.int) ∧ ns.length ≤ 4000 ∧ Q (.int (ulen ns : Nat)) H1
open PySem.Spec PyProof.Rows in
theorem pe_lenSetU {X : Cx} {K : PySem.W.Frag} {a : Expr} {ta : TE} {p p2 q pos : Pos} (hk : X.K = K) (hg : Gl X "len") (hm : X.mg "len" = none) (hg2 : Gl X "set") (hm2 : X.mg "set" = none) (ha : PE X a ta) (hc : X.calm = true := by rfl)
    (na : starEach [a] X.env = (false, eval a X.env) :: starEach [] X.env := by rfl) : PE X (.Call (.Name "len" p) [.Call (.Name "set" p2) [a] [] q] [] pos) (tLenSetU K ta) := by
  subst hk
  refine ⟨fun pins s σ H Q I h => ?_⟩
  refine Call_ (ld_blt I hg hm boot_len ?_)
  refine PyProof.Rows.callWith_builtin1 (PyProof.Rows.args_cons ?_ rfl) rfl rfl
  refine Call_ (ld_blt I hg2 hm2 boot_set ?_)
  refine PyProof.Rows.callWith_type1 (PyProof.Rows.args_cons (thn (ha.run pins s σ H _ I h) fun v s1 ⟨x, H1, I1, r1, q1⟩ => PyProof.Rows.args_nil ?_) na) na rfl
  obtain ⟨l, ns, rfl, hq, hl, q1⟩ := q1
  cases r1
  obtain ⟨its, r, pl, hz⟩ := I1.list hq
  have hlen : its.toArray.size = ns.length := by rw [List.size_toArray, ← r.length, List.length_map]
  refine call_set_list (I1.ok.hd hc) pl.isList (by simpa using RZ.intsAre_vals r) (by rw [hlen]; unfold scanBound; omega) fun h' tk hS hk => ?_
  refine PyProof.Rows.args_nil ?_
  rw [hlen, firstMet_uni] at hS
  obtain ⟨o, es, ep, t, ho, hex, hd, _, _, _, hf, hn⟩ := hS
  have I2 : Inv X pins σ H1 { s1 with heap := h', toks := tk } := I1.kept fun b o e => hk b o (Heap.lt_size e) e
  exact call_len_set ho hex hd hf (by rw [hn]; have := ulen_le ns; unfold ulen at this; omega) ⟨.int (ulen ns : Nat), H1, I2.tok _, ⟨_, by rw [hn]; rfl⟩, q1⟩
end Ur

namespace Ur
open PySem L2
/-! ### plain rows -/
/-- how many unlike ones stand ahead of the place at which x stands first -/
def plainAt (ns : List Int) (x : Int) : Nat := ulen (ns.take (ns.idxOf x))
def plainP (ns : List Int) : List Int := ns.map fun x => (plainAt ns x : Int)
theorem plainP_len (ns : List Int) : (plainP ns).length = ns.length := by simp [plainP]
theorem take_snoc {ns : List Int} {i : Nat} {x : Int} (h : ns[i]? = some x) : ns.take (i + 1) = ns.take i ++ [x] := by
  rw [List.take_add_one, h]; rfl
theorem idx_first {ns : List Int} {i : Nat} {x : Int} (h : ns[i]? = some x) (n : x ∉ ns.take i) : ns.idxOf x = i := by
  obtain ⟨hi, e⟩ := List.getElem?_eq_some_iff.mp h
  have e2 : ns = ns.take i ++ ns.drop i := (List.take_append_drop i ns).symm
  have e3 : ns.drop i = x :: ns.drop (i + 1) := by rw [List.drop_eq_getElem_cons hi, e]
  have hl : (ns.take i).length = i := by rw [List.length_take]; omega
  have e4 : (ns.take i ++ ns.drop i).idxOf x = i := by
    rw [List.idxOf_append, if_neg n, e3, List.idxOf_cons_self, hl]; omega
  rwa [← e2] at e4
theorem idx_lt {ns : List Int} {x : Int} (h : x ∈ ns) : ns.idxOf x < ns.length := List.idxOf_lt_length_of_mem h
theorem idx_get {ns : List Int} {x : Int} (h : x ∈ ns) : ns[ns.idxOf x]? = some x := by
  rw [List.getElem?_eq_getElem (idx_lt h), List.getElem_idxOf]
theorem idx_not {ns : List Int} {x : Int} : x ∉ ns.take (ns.idxOf x) := fun k => by
  obtain ⟨j, hj, e⟩ := List.getElem_of_mem k
  rw [List.getElem_take] at e
  have h1 : j < ns.idxOf x := by rw [List.length_take] at hj; omega
  have h2 := List.not_of_lt_findIdx (p := (· == x)) (xs := ns) h1
  simp [e] at h2
theorem putK_len {kvs : List (Key × V)} {k : Key} {v : V} (h : valV kvs k = none) : (putK kvs k v).length = kvs.length + 1 := by
  have e : (kvs.any fun kv => decide (kv.1 = k)) = false := by
    cases q : (kvs.any fun kv => decide (kv.1 = k)) with
    | false => rfl
    | true =>
      obtain ⟨p, hp, e⟩ := List.any_eq_true.mp q
      unfold valV at h
      rw [Option.map_eq_none_iff, List.find?_eq_none] at h
      exact absurd e (h p hp)
  unfold putK
  rw [e, if_neg Bool.false_ne_true, List.length_append]
  rfl
theorem ulen_mono {ns : List Int} : ∀ {j i : Nat}, i ≤ j → ulen (ns.take i) ≤ ulen (ns.take j)
  | 0, i, h => by rw [Nat.le_zero.mp h]; exact Nat.le_refl _
  | j + 1, i, h => by
    rcases Nat.lt_or_eq_of_le h with h | rfl
    · refine Nat.le_trans (ulen_mono (Nat.le_of_lt_succ h)) ?_
      cases e : ns[j]? with
      | none => rw [List.take_add_one, e]; simp
      | some x => rw [take_snoc e, ulen_snoc]; split <;> omega
    · exact Nat.le_refl _
theorem plainAt_lt {ns : List Int} {x y : Int} (hx : x ∈ ns) (h : ns.idxOf x < ns.idxOf y) : plainAt ns x < plainAt ns y := by
  unfold plainAt
  have h1 : ulen (ns.take (ns.idxOf x + 1)) = ulen (ns.take (ns.idxOf x)) + 1 := by
    rw [take_snoc (idx_get hx), ulen_snoc, if_neg idx_not]
  have h2 := ulen_mono (ns := ns) (show ns.idxOf x + 1 ≤ ns.idxOf y from h)
  omega
theorem plainAt_inj {ns : List Int} {x y : Int} (hx : x ∈ ns) (hy : y ∈ ns) (h : plainAt ns x = plainAt ns y) : x = y := by
  rcases Nat.lt_trichotomy (ns.idxOf x) (ns.idxOf y) with k | k | k
  · exact absurd (plainAt_lt hx k) (by omega)
  · have e := idx_get hx
    rw [k, idx_get hy] at e
    exact (Option.some.inj e).symm
  · exact absurd (plainAt_lt hy k) (by omega)
/-- f calls the numbers of ns otherwise, one for one -/
def InjOn (f : Int → Int) (ns : List Int) : Prop := ∀ x ∈ ns, ∀ y ∈ ns, f x = f y → x = y
theorem mem_map_inj {f : Int → Int} {ns ms : List Int} {x : Int} (h : InjOn f ns) (hx : x ∈ ns) (hs : ∀ y ∈ ms, y ∈ ns) : f x ∈ ms.map f ↔ x ∈ ms := by
  constructor
  · intro k
    obtain ⟨y, hy, e⟩ := List.mem_map.mp k
    exact h y (hs y hy) x hx e ▸ hy
  · exact fun k => List.mem_map.mpr ⟨x, k, rfl⟩
theorem ulen_map {f : Int → Int} {ns : List Int} (h : InjOn f ns) : ulen (ns.map f) = ulen ns := by
  have k : ∀ ms : List Int, (∀ y ∈ ms, y ∈ ns) → ulen (ms.map f) = ulen ms := fun ms => by
    refine rev_ind (P := fun ms => (∀ y ∈ ms, y ∈ ns) → ulen (ms.map f) = ulen ms) (fun _ => rfl) (fun ms x ih hs => ?_) ms
    have hs' : ∀ y ∈ ms, y ∈ ns := fun y hy => hs y (List.mem_append.mpr (Or.inl hy))
    have hx : x ∈ ns := hs x (List.mem_append.mpr (Or.inr (List.mem_singleton.mpr rfl)))
    have e := mem_map_inj h hx hs'
    rw [List.map_append, List.map_cons, List.map_nil, ulen_snoc, ulen_snoc, ih hs']
    by_cases q : x ∈ ms
    · rw [if_pos q, if_pos (e.mpr q)]
    · rw [if_neg q, if_neg (fun z => q (e.mp z))]
  exact k ns fun _ z => z
theorem InjOn.take {f : Int → Int} {ns : List Int} (h : InjOn f ns) (i : Nat) : InjOn f (ns.take i) := fun x hx y hy e => h x (List.mem_of_mem_take hx) y (List.mem_of_mem_take hy) e
theorem idx_map {f : Int → Int} {ns : List Int} {x : Int} (h : InjOn f ns) (hx : x ∈ ns) : (ns.map f).idxOf (f x) = ns.idxOf x := by
  refine idx_first ?_ ?_
  · rw [List.getElem?_map, idx_get hx]; rfl
  · rw [← List.map_take]
    exact fun k => idx_not ((mem_map_inj h hx (fun y hy => List.mem_of_mem_take hy)).mp k)
theorem plainP_map {f : Int → Int} {ns : List Int} (h : InjOn f ns) : plainP (ns.map f) = plainP ns := by
  unfold plainP
  rw [List.map_map]
  refine List.map_congr_left fun x hx => ?_
  show ((plainAt (ns.map f) (f x) : Nat) : Int) = (plainAt ns x : Nat)
  unfold plainAt
  rw [idx_map h hx, ← List.map_take, ulen_map (h.take _)]
theorem plainP_own (ns : List Int) : plainP (plainP ns) = plainP ns :=
  plainP_map (f := fun x => (plainAt ns x : Int)) fun x hx y hy e => plainAt_inj hx hy (by have e2 : ((plainAt ns x : Nat) : Int) = (plainAt ns y : Nat) := e; omega)
/-! ### their rules -/
theorem setd_int {H : Hp} {a : Addr} {kvs : List (Key × V)} {n : Int} {z : V} {Q : VK} (h : H a = some (.dK kvs))
    (q : kvs.length < sizeLine ∧ (∀ v, valV kvs (Sum.inl n) = some v → Q v H) ∧ (valV kvs (Sum.inl n) = none → Q z (upd H a (.dK (putK kvs (Sum.inl n) z))))) :
    ∃ (kvs : List (Key × V)) (k : Key), H a = some (.dK kvs) ∧ V.int n = kV k ∧ kvs.length < sizeLine ∧ (∀ v, valV kvs k = some v → Q v H) ∧ (valV kvs k = none → Q z (upd H a (.dK (putK kvs k z)))) :=
  ⟨kvs, Sum.inl n, h, rfl, q.1, q.2.1, q.2.2⟩
theorem index_int {K : PySem.W.Frag} {H : Hp} {a : Addr} {ns : List Int} {x : Int} {Q : VK} (h : SqL K H a (ns.map V.int)) (q : x ∈ ns ∧ Q (.int (ns.idxOf x : Nat)) H) : rIndex K (.ref a) [.int x] H Q := by
  refine ⟨a, ns.map V.int, .int x, ns.idxOf x, .int x, rfl, rfl, h, rfl, ?_, ?_, ?_, ?_, q.2⟩
  · rw [List.all_map]
    exact List.all_eq_true.mpr fun _ _ => rfl
  · rw [List.getElem?_map, idx_get q.1]; rfl
  · show (x == x) = true
    exact beq_self_eq_true x
  · intro m z' hm hz
    obtain ⟨n, hn, rfl⟩ := iv_get hz
    have ne : ¬ n = x := fun e => by
      rw [e] at hn
      refine idx_not (ns := ns) (x := x) (List.mem_of_getElem? (i := m) ?_)
      rw [List.getElem?_take, if_pos hm, hn]
    show (n == x) = false
    exact beq_eq_false_iff_ne.mpr ne
end Ur

namespace Ur
open PySem L2
theorem ps_never {X : Cx} {st : Stmt} : PS X st (fun _ _ _ => False) := ⟨fun _ _ _ _ _ _ h => h.elim⟩
theorem putF_le (k : Str) (v : V) : ∀ fs : List (Str × V), (putF k v fs).length ≤ fs.length + 1
  | [] => Nat.le_refl 1
  | (k', v') :: r => by
    unfold putF
    split
    · exact Nat.le_succ _
    · exact Nat.succ_le_succ (putF_le k v r)
theorem pf1 {k : Str} {v : V} : (putF k v []).length < 1000 := Nat.lt_of_le_of_lt (putF_le _ _ _) (by decide)
theorem pf2 {k k2 : Str} {v v2 : V} : (putF k v (putF k2 v2 [])).length < 1000 := Nat.lt_of_le_of_lt (putF_le _ _ _) (Nat.lt_of_le_of_lt (Nat.succ_le_succ (putF_le _ _ _)) (by decide))
theorem pf3 {k k2 k3 : Str} {v v2 v3 : V} : (putF k v (putF k2 v2 (putF k3 v3 []))).length < 1000 := Nat.lt_of_le_of_lt (putF_le _ _ _) (Nat.lt_of_le_of_lt (Nat.succ_le_succ (putF_le _ _ _)) (Nat.lt_of_le_of_lt (Nat.succ_le_succ (Nat.succ_le_succ (putF_le _ _ _))) (by decide)))
/-! ### a row made ready -/
def rdyF (n : Int) (la na : Addr) : List (Str × V) := putF "nexts" (.ref na) (putF "lasts" (.ref la) (putF "many" (.int n) []))
theorem rdy_many {n : Int} {la na : Addr} : (rdyF n la na).lookup ("many" : Str) = some (.int n) := by
  unfold rdyF
  rw [lookup_putF, if_neg (by decide), lookup_putF, if_neg (by decide), lookup_putF, if_pos rfl]
theorem rdy_lasts {n : Int} {la na : Addr} : (rdyF n la na).lookup ("lasts" : Str) = some (.ref la) := by
  unfold rdyF
  rw [lookup_putF, if_neg (by decide), lookup_putF, if_pos rfl]
theorem rdy_nexts {n : Int} {la na : Addr} : (rdyF n la na).lookup ("nexts" : Str) = some (.ref na) := by
  unfold rdyF
  rw [lookup_putF, if_pos rfl]
theorem rdy_no {n : Int} {la na : Addr} {m : Str} (h1 : ¬ m = "many") (h2 : ¬ m = "lasts") (h3 : ¬ m = "nexts") : (rdyF n la na).lookup m = none := by
  unfold rdyF
  rw [lookup_putF, if_neg h3, lookup_putF, if_neg h2, lookup_putF, if_neg h1]
  rfl
/-- at o a row made ready; its parts are none of L -/
structure Rdy (C : Addr) (L : Addr → Prop) (H : Hp) (o : Addr) (ns : List Int) : Prop where
  all : ∃ dx la na : Addr, H o = some (.ins C dx (rdyF ns.length la na)) ∧ H la = some (.lst ((lastP ns).map V.int)) ∧ H na = some (.lst ((nextP ns).map V.int)) ∧ ∀ b, L b → o ≠ b ∧ la ≠ b ∧ na ≠ b
theorem Rdy.same {C : Addr} {L : Addr → Prop} {H H' : Hp} {o : Addr} {ns : List Int} (r : Rdy C L H o ns) (s : Same H H') : Rdy C L H' o ns := by
  obtain ⟨dx, la, na, e1, e2, e3, f⟩ := r.all
  exact ⟨dx, la, na, s _ _ e1, s _ _ e2, s _ _ e3, f⟩
theorem Rdy.but {C : Addr} {L : Addr → Prop} {H H' : Hp} {o b : Addr} {ns : List Int} (r : Rdy C L H o ns) (l : L b) (s : But b H H') : Rdy C L H' o ns := by
  obtain ⟨dx, la, na, e1, e2, e3, f⟩ := r.all
  obtain ⟨f1, f2, f3⟩ := f b l
  exact ⟨dx, la, na, s _ _ f1 e1, s _ _ f2 e2, s _ _ f3 e3, f⟩
theorem Rdy.sub {C : Addr} {L L' : Addr → Prop} {H : Hp} {o : Addr} {ns : List Int} (r : Rdy C L H o ns) (l : ∀ b, L' b → L b) : Rdy C L' H o ns := by
  obtain ⟨dx, la, na, e1, e2, e3, f⟩ := r.all
  exact ⟨dx, la, na, e1, e2, e3, fun b k => f b (l b k)⟩
/-! ### windows -/
/-- the numbers of a window -/
def win (ns : List Int) (f b : Int) : List Int := (ns.drop f.toNat).take (b.toNat - f.toNat)
/-- how many unlike ones -/
def wun (ns : List Int) (f b : Int) : Nat := ulen (win ns f b)
theorem win_len {ns : List Int} {f b : Int} (h0 : 0 ≤ f) (h1 : f ≤ b) (h2 : b ≤ ns.length) : (win ns f b).length = (b - f).toNat := by
  unfold win
  rw [List.length_take, List.length_drop]
  omega
theorem mem_win {ns : List Int} {f k : Nat} {x : Int} : x ∈ (ns.drop f).take k ↔ ∃ j, f ≤ j ∧ j < f + k ∧ ns[j]? = some x := by
  constructor
  · intro h
    obtain ⟨j, hj⟩ := List.mem_iff_getElem?.mp h
    rw [List.getElem?_take] at hj
    by_cases hk : j < k
    · rw [if_pos hk, List.getElem?_drop] at hj
      exact ⟨f + j, by omega, by omega, hj⟩
    · rw [if_neg hk] at hj; cases hj
  · rintro ⟨j, h1, h2, e⟩
    refine List.mem_iff_getElem?.mpr ⟨j - f, ?_⟩
    rw [List.getElem?_take, if_pos (by omega), List.getElem?_drop, show f + (j - f) = j from by omega]
    exact e
theorem last_in {ns : List Int} {f k : Nat} (h : f + k < ns.length) : (ns.getD (f + k) 0 ∈ (ns.drop f).take k) ↔ ¬ lastAt ns (f + k) (ns.getD (f + k) 0) < (f : Int) := by
  rw [mem_win]
  rcases lastAt_spec ns (ns.getD (f + k) 0) (f + k) with ⟨e, n⟩ | ⟨v, e, h1, h2, n⟩
  · constructor
    · rintro ⟨j, h1, h2, e2⟩
      exact absurd (getD_of e2) (n j h2)
    · intro hn
      omega
  · constructor
    · rintro ⟨j, h3, h4, e2⟩ hlt
      rw [e] at hlt
      exact absurd (getD_of e2) (n j (by omega) h4)
    · intro hn
      refine ⟨v, by omega, h1, ?_⟩
      rw [get_of (by omega), h2]
/-- .. by the last places -/
theorem ulen_win {ns : List Int} {f : Nat} : ∀ k : Nat, f + k ≤ ns.length → ulen ((ns.drop f).take k) = ((((lastP ns).drop f).take k).filter (fun x => decide (x < (f : Int)))).length
  | 0, _ => by rw [List.take_zero, List.take_zero]; rfl
  | k + 1, h => by
    have hk : f + k < ns.length := h
    have e1 : (ns.drop f)[k]? = some (ns.getD (f + k) 0) := by rw [List.getElem?_drop]; exact get_of hk
    have e2 : ((lastP ns).drop f)[k]? = some (lastAt ns (f + k) (ns.getD (f + k) 0)) := by rw [List.getElem?_drop]; exact lastP_get hk
    rw [take_snoc e1, take_snoc e2, ulen_snoc, List.filter_append, List.length_append, ulen_win k (by omega)]
    have q := last_in hk
    by_cases hl : lastAt ns (f + k) (ns.getD (f + k) 0) < (f : Int)
    · rw [if_neg (fun z => q.mp z hl), List.filter_cons_of_pos (by exact decide_eq_true hl)]
      rfl
    · rw [if_pos (q.mpr hl), List.filter_cons_of_neg (by rw [decide_eq_false hl]; exact Bool.false_ne_true)]
      rfl
theorem wun_lasts {ns : List Int} {f b : Int} (h0 : 0 ≤ f) (h1 : f ≤ b) (h2 : b ≤ ns.length) : ((((lastP ns).drop f.toNat).take (b.toNat - f.toNat)).filter (fun x => decide (x < f))).length = wun ns f b := by
  have e := ulen_win (ns := ns) (f := f.toNat) (b.toNat - f.toNat) (by omega)
  rw [Int.toNat_of_nonneg h0] at e
  exact e.symm
end Ur

namespace Ur
open PySem L2
/-! ### sums -/
def sumTo (F : Nat → Int) : Nat → Int
  | 0 => 0
  | k + 1 => sumTo F k + F k
theorem sum_snoc (xs : List Int) (x : Int) : (xs ++ [x]).sum = xs.sum + x := by
  rw [List.sum_append]; simp
theorem sum_range (F : Nat → Int) : ∀ n : Nat, ((List.range n).map F).sum = sumTo F n
  | 0 => rfl
  | n + 1 => by rw [List.range_succ, List.map_append, List.map_cons, List.map_nil, sum_snoc, sum_range F n]; rfl
theorem sum_filter (t : Nat → Bool) (F : Nat → Int) : ∀ n : Nat, (((List.range n).filter t).map F).sum = sumTo (fun k => if t k = true then F k else 0) n
  | 0 => rfl
  | n + 1 => by
    rw [List.range_succ, List.filter_append, List.map_append, List.sum_append, sum_filter t F n]
    show _ = _ + (if t n = true then F n else 0)
    cases h : t n with
    | true => rw [List.filter_cons_of_pos h]; simp
    | false => rw [List.filter_cons_of_neg (by rw [h]; exact Bool.false_ne_true)]; simp
theorem sumTo_congr {F G : Nat → Int} : ∀ {n : Nat}, (∀ k, k < n → F k = G k) → sumTo F n = sumTo G n
  | 0, _ => rfl
  | n + 1, h => by
    show sumTo F n + F n = sumTo G n + G n
    rw [sumTo_congr (fun k hk => h k (Nat.lt_succ_of_lt hk)), h n (Nat.lt_succ_self n)]
theorem sumTo_add (F G : Nat → Int) : ∀ n : Nat, sumTo (fun k => F k + G k) n = sumTo F n + sumTo G n
  | 0 => rfl
  | n + 1 => by
    show sumTo (fun k => F k + G k) n + (F n + G n) = sumTo F n + F n + (sumTo G n + G n)
    rw [sumTo_add F G n]; omega
theorem sumTo_mul (F : Nat → Int) (c : Int) : ∀ n : Nat, sumTo (fun k => F k * c) n = sumTo F n * c
  | 0 => (Int.zero_mul c).symm
  | n + 1 => by
    show sumTo (fun k => F k * c) n + F n * c = (sumTo F n + F n) * c
    rw [sumTo_mul F c n, Int.add_mul]
theorem sumTo_zero : ∀ n : Nat, sumTo (fun _ => 0) n = 0
  | 0 => rfl
  | n + 1 => by show sumTo (fun _ => 0) n + 0 = 0; rw [sumTo_zero n]; rfl
theorem sumTo_swap (F : Nat → Nat → Int) (m : Nat) : ∀ n : Nat, sumTo (fun i => sumTo (fun j => F i j) m) n = sumTo (fun j => sumTo (fun i => F i j) n) m
  | 0 => (sumTo_zero m).symm
  | n + 1 => by
    show sumTo (fun i => sumTo (fun j => F i j) m) n + sumTo (fun j => F n j) m = sumTo (fun j => sumTo (fun i => F i j) n + F n j) m
    rw [sumTo_swap F m n, sumTo_add]
theorem sumTo_shift (F : Nat → Int) (f : Nat) : ∀ m : Nat, sumTo F (f + m) = sumTo F f + sumTo (fun k => F (f + k)) m
  | 0 => by show sumTo F f = sumTo F f + 0; omega
  | m + 1 => by
    show sumTo F (f + m) + F (f + m) = sumTo F f + (sumTo (fun k => F (f + k)) m + F (f + m))
    rw [sumTo_shift F f m]; omega
/-- how many k below n lie in [lo, hi) -/
theorem sumTo_count (lo hi : Int) (h0 : 0 ≤ lo) (h1 : lo ≤ hi) : ∀ n : Nat, hi ≤ n → sumTo (fun k => if lo ≤ (k : Int) ∧ (k : Int) < hi then 1 else 0) n = hi - lo := by
  have key : ∀ n : Nat, sumTo (fun k => if lo ≤ (k : Int) ∧ (k : Int) < hi then 1 else 0) n = if (n : Int) ≤ lo then 0 else if (n : Int) ≤ hi then n - lo else hi - lo := by
    intro n
    induction n with
    | zero => rw [if_pos (by omega)]; rfl
    | succ n ih =>
      show sumTo _ n + (if lo ≤ (n : Int) ∧ (n : Int) < hi then 1 else 0) = _
      rw [ih]
      (repeat' split) <;> omega
  intro n hn
  rw [key]
  (repeat' split) <;> omega
/-! ### windows, counted -/
theorem ulen_congr {a b : List Int} (h : ∀ x, x ∈ a ↔ x ∈ b) : ulen a = ulen b := by
  have p : (uni a).Perm (uni b) := (List.perm_ext_iff_of_nodup (uni_nodup a) (uni_nodup b)).mpr fun x => by rw [mem_uni, mem_uni]; exact h x
  exact p.length_eq
theorem ulen_cons (x : Int) (ns : List Int) : ulen (x :: ns) = if x ∈ ns then ulen ns else ulen ns + 1 := by
  rw [← ulen_snoc]
  exact ulen_congr fun y => by simp [or_comm]
/-- how many unlike ones stand from f on, ahead of b -/
def wunN (ns : List Int) (f b : Nat) : Nat := ulen ((ns.drop f).take (b - f))
theorem wun_N (ns : List Int) (f b : Int) : wun ns f b = wunN ns f.toNat b.toNat := rfl
theorem wunN_none (ns : List Int) (f : Nat) : wunN ns f f = 0 := by unfold wunN; rw [Nat.sub_self, List.take_zero]; rfl
theorem wunN_up {ns : List Int} {f b : Nat} (h : f ≤ b) (hb : b < ns.length) : wunN ns f (b + 1) = wunN ns f b + if lastAt ns b (ns.getD b 0) < (f : Int) then 1 else 0 := by
  unfold wunN
  have e : (ns.drop f)[b - f]? = some (ns.getD b 0) := by rw [List.getElem?_drop, show f + (b - f) = b from by omega]; exact get_of hb
  rw [show b + 1 - f = (b - f) + 1 from by omega, take_snoc e, ulen_snoc]
  have q := last_in (ns := ns) (f := f) (k := b - f) (by omega)
  rw [show f + (b - f) = b from by omega] at q
  by_cases hl : lastAt ns b (ns.getD b 0) < (f : Int)
  · rw [if_pos hl, if_neg (fun z => q.mp z hl)]
  · rw [if_neg hl, if_pos (q.mpr hl)]; rfl
theorem next_in {ns : List Int} {p b : Nat} (hp : p < b) (hb : b ≤ ns.length) : (ns.getD p 0 ∈ (ns.drop (p + 1)).take (b - (p + 1))) ↔ ¬ (b : Int) ≤ nextUp ns p ns.length := by
  rw [mem_win]
  rcases nextUp_spec ns p ns.length (Nat.le_refl _) with ⟨e, n⟩ | ⟨v, e, h1, h2, h3, n⟩
  · constructor
    · rintro ⟨j, h1, h2, e2⟩
      exact absurd (getD_of e2) (n j (by omega) (List.getElem?_eq_some_iff.mp e2).1)
    · intro hn; omega
  · constructor
    · rintro ⟨j, h4, h5, e2⟩ hlt
      rw [e] at hlt
      exact absurd (getD_of e2) (n j (by omega) (by omega))
    · intro hn
      refine ⟨v, by omega, by omega, ?_⟩
      rw [get_of h2, h3]
theorem wunN_down {ns : List Int} {p b : Nat} (hp : p < b) (hb : b ≤ ns.length) : wunN ns p b = wunN ns (p + 1) b + if (b : Int) ≤ nextUp ns p ns.length then 1 else 0 := by
  unfold wunN
  have hl : p < ns.length := by omega
  have e : (ns.drop p).take (b - p) = ns.getD p 0 :: (ns.drop (p + 1)).take (b - (p + 1)) := by
    have e1 : ns.drop p = ns.getD p 0 :: ns.drop (p + 1) := by
      rw [List.drop_eq_getElem_cons hl, List.getD_eq_getElem?_getD, List.getElem?_eq_getElem hl]
      rfl
    rw [e1, show b - p = (b - (p + 1)) + 1 from by omega]
    rfl
  rw [e, ulen_cons]
  have q := next_in hp hb
  by_cases hc : (b : Int) ≤ nextUp ns p ns.length
  · rw [if_pos hc, if_neg (fun z => q.mp z hc)]
  · rw [if_neg hc, if_pos (q.mpr hc)]; rfl
/-- .. by the last places -/
theorem wunN_lasts {ns : List Int} {f : Nat} : ∀ b : Nat, f ≤ b → b ≤ ns.length → (wunN ns f b : Int) = sumTo (fun p => if f ≤ p ∧ lastAt ns p (ns.getD p 0) < (f : Int) then 1 else 0) b := by
  intro b hb
  obtain ⟨k, rfl⟩ : ∃ k, b = f + k := ⟨b - f, by omega⟩
  clear hb
  induction k with
  | zero =>
    intro _
    rw [Nat.add_zero, wunN_none, sumTo_congr (G := fun _ => 0) (fun k hk => if_neg (fun z => by omega)), sumTo_zero]
    rfl
  | succ k ih =>
    intro h
    rw [show f + (k + 1) = (f + k) + 1 from rfl, wunN_up (by omega) (by omega)]
    show _ = sumTo _ (f + k) + (if f ≤ f + k ∧ lastAt ns (f + k) (ns.getD (f + k) 0) < (f : Int) then 1 else 0)
    rw [← ih (by omega)]
    by_cases hl : lastAt ns (f + k) (ns.getD (f + k) 0) < (f : Int)
    · rw [if_pos hl, if_pos ⟨by omega, hl⟩]; rfl
    · rw [if_neg hl, if_neg (fun z => hl z.2)]; rfl
/-- .. by the next places -/
theorem wunN_nexts {ns : List Int} {b : Nat} (hb : b ≤ ns.length) : ∀ k f : Nat, f + k = b → (wunN ns f b : Int) = sumTo (fun j => if (b : Int) ≤ nextUp ns (f + j) ns.length then 1 else 0) k
  | 0, f, h => by rw [show f = b from h, wunN_none]; rfl
  | k + 1, f, h => by
    rw [wunN_down (by omega) hb, Int.natCast_add, wunN_nexts hb k (f + 1) (by omega)]
    have e := sumTo_shift (fun j => if (b : Int) ≤ nextUp ns (f + j) ns.length then (1 : Int) else 0) 1 k
    rw [show k + 1 = 1 + k from by omega, e]
    have e2 : sumTo (fun j => if (b : Int) ≤ nextUp ns (f + j) ns.length then (1 : Int) else 0) 1 = if (b : Int) ≤ nextUp ns f ns.length then 1 else 0 := by
      show (0 : Int) + _ = _
      rw [Int.zero_add]; rfl
    rw [e2]
    have e3 : sumTo (fun k => if (b : Int) ≤ nextUp ns (f + (1 + k)) ns.length then (1 : Int) else 0) k = sumTo (fun j => if (b : Int) ≤ nextUp ns (f + 1 + j) ns.length then (1 : Int) else 0) k := sumTo_congr fun j _ => by rw [Nat.add_assoc]
    rw [e3]
    split <;> omega
end Ur

namespace Ur
open PySem L2
theorem qint {Q : VK} {H : Hp} {i j : Int} (h : Q (.int j) H) (e : i = j) : Q (.int i) H := e ▸ h
theorem qbv {Q : VK} {H : Hp} {i j : Bool} (h : Q (.bl j) H) (e : i = j) : Q (.bl i) H := e ▸ h
theorem qbl {Q : Bool → Hp → Prop} {H : Hp} {i j : Bool} (h : Q j H) (e : i = j) : Q i H := e ▸ h
/-- where the number at p stood last, stands next -/
def lp (ns : List Int) (p : Nat) : Int := lastAt ns p (ns.getD p 0)
def nx (ns : List Int) (p : Nat) : Int := nextUp ns p ns.length
theorem lp_range (ns : List Int) (p : Nat) : -1 ≤ lp ns p ∧ lp ns p < p := lastAt_range ns _ p
theorem lastP_getD {ns : List Int} {k : Nat} (h : k < ns.length) : (lastP ns).getD k 0 = lp ns k := getD_of (lastP_get h)
theorem nextP_getD {ns : List Int} {k : Nat} (h : k < ns.length) : (nextP ns).getD k 0 = nx ns k := getD_of (nextP_get h)
theorem wun_nat (ns : List Int) {x y : Int} {i j : Nat} (hx : x = i) (hy : y = j) : (wun ns x y : Int) = wunN ns i j := by
  subst hx hy
  rfl
theorem sumTo_cut (F : Nat → Int) {b n : Nat} (h : b ≤ n) : sumTo F b = sumTo (fun p => if p < b then F p else 0) n := by
  obtain ⟨m, rfl⟩ : ∃ m, n = b + m := ⟨n - b, by omega⟩
  rw [sumTo_shift, sumTo_congr (F := fun p => if p < b then F p else 0) (G := F) (fun k hk => if_pos hk), sumTo_congr (F := fun k => if b + k < b then F (b + k) else 0) (G := fun _ => 0) (fun k _ => if_neg (by omega)), sumTo_zero]
  omega
/-- Σ over k below n of c, where lo ≤ k < hi -/
theorem sumTo_some (c lo hi : Int) (h0 : 0 ≤ lo) (h1 : lo ≤ hi) {n : Nat} (hn : hi ≤ n) : sumTo (fun k => if lo ≤ (k : Int) ∧ (k : Int) < hi then c else 0) n = (hi - lo) * c := by
  rw [← sumTo_count lo hi h0 h1 n hn, ← sumTo_mul]
  exact sumTo_congr fun k _ => by split <;> simp
/-- the windows from i on, together -/
def herF (ns : List Int) (i : Nat) : Int := sumTo (fun p => if i ≤ p ∧ lp ns p < (i : Int) then (ns.length : Int) - p else 0) ns.length
theorem her_wins {ns : List Int} {i : Nat} (hi : i ≤ ns.length) : sumTo (fun k => (wunN ns i (i + k) : Int)) (ns.length + 1 - i) = herF ns i := by
  have e1 : sumTo (fun k => (wunN ns i (i + k) : Int)) (ns.length + 1 - i) = sumTo (fun k => sumTo (fun p => if p < i + k then (if i ≤ p ∧ lp ns p < (i : Int) then (1 : Int) else 0) else 0) ns.length) (ns.length + 1 - i) :=
    sumTo_congr fun k hk => by rw [wunN_lasts (i + k) (by omega) (by omega), sumTo_cut _ (show i + k ≤ ns.length by omega)]; rfl
  rw [e1, sumTo_swap]
  refine sumTo_congr fun p hp => ?_
  by_cases h : i ≤ p ∧ lp ns p < (i : Int)
  · rw [if_pos h]
    rw [sumTo_congr (G := fun k => if ((p + 1 - i : Nat) : Int) ≤ (k : Int) ∧ (k : Int) < ((ns.length + 1 - i : Nat) : Int) then 1 else 0) (fun k hk => ?_), sumTo_count _ _ (by omega) (by omega) _ (Int.le_refl _)]
    · omega
    · have := h.1
      by_cases q : p < i + k
      · rw [if_pos q, if_pos ⟨by omega, by omega⟩]
      · rw [if_neg q, if_neg (fun z => by omega)]
  · simp only [if_neg h]
    rw [sumTo_congr (G := fun _ => 0) (fun k _ => by simp), sumTo_zero]
theorem her_firsts {ns : List Int} {i : Nat} (hi : i ≤ ns.length) : sumTo (fun k => if decide (lp ns (i + k) < (i : Int)) = true then (ns.length : Int) - ((i + k : Nat) : Int) else 0) (ns.length - i) = herF ns i := by
  unfold herF
  have e := sumTo_shift (fun p => if i ≤ p ∧ lp ns p < (i : Int) then (ns.length : Int) - (p : Int) else 0) i (ns.length - i)
  rw [show i + (ns.length - i) = ns.length from by omega] at e
  rw [e, sumTo_congr (n := i) (G := fun _ => 0) (fun k hk => if_neg (fun z => by omega)), sumTo_zero, Int.zero_add]
  refine sumTo_congr fun k _ => ?_
  by_cases h : lp ns (i + k) < (i : Int)
  · rw [if_pos (decide_eq_true h), if_pos ⟨by omega, h⟩]
  · rw [if_neg (by rw [decide_eq_false h]; exact Bool.false_ne_true), if_neg (fun z => h z.2)]
theorem her_all (ns : List Int) : sumTo (herF ns) (ns.length + 1) = sumTo (fun p => ((p : Int) - lp ns p) * ((ns.length : Int) - p)) ns.length := by
  show sumTo (fun i => sumTo (fun p => if i ≤ p ∧ lp ns p < (i : Int) then (ns.length : Int) - p else 0) ns.length) (ns.length + 1) = _
  rw [sumTo_swap]
  refine sumTo_congr fun p hp => ?_
  have hr := lp_range ns p
  rw [sumTo_congr (G := fun i => if lp ns p + 1 ≤ (i : Int) ∧ (i : Int) < (p : Int) + 1 then (ns.length : Int) - p else 0) (fun i _ => ?_), sumTo_some _ _ _ (by omega) (by omega) (by omega)]
  · rw [show (p : Int) + 1 - (lp ns p + 1) = (p : Int) - lp ns p from by omega]
  · by_cases h : i ≤ p ∧ lp ns p < (i : Int)
    · rw [if_pos h, if_pos ⟨by omega, by omega⟩]
    · rw [if_neg h, if_neg (fun z => h ⟨by omega, by omega⟩)]
theorem end_wins {ns : List Int} {b : Nat} (hb : b ≤ ns.length) : sumTo (fun f => (wunN ns f b : Int)) (b + 1) = sumTo (fun p => if decide ((b : Int) ≤ nx ns p) = true then (p : Int) + 1 else 0) b := by
  have e1 : sumTo (fun f => (wunN ns f b : Int)) (b + 1) = sumTo (fun f => sumTo (fun p => if f ≤ p then (if (b : Int) ≤ nx ns p then (1 : Int) else 0) else 0) b) (b + 1) :=
    sumTo_congr fun f hf => by
      rw [wunN_nexts hb (b - f) f (by omega)]
      have e := sumTo_shift (fun p => if f ≤ p then (if (b : Int) ≤ nx ns p then (1 : Int) else 0) else 0) f (b - f)
      rw [show f + (b - f) = b from by omega] at e
      rw [e, sumTo_congr (n := f) (G := fun _ => 0) (fun k hk => if_neg (by omega)), sumTo_zero, Int.zero_add]
      exact sumTo_congr fun k _ => (if_pos (by omega)).symm
  rw [e1, sumTo_swap]
  refine sumTo_congr fun p hp => ?_
  by_cases h : (b : Int) ≤ nx ns p
  · rw [if_pos (decide_eq_true h)]
    rw [sumTo_congr (G := fun f => if (0 : Int) ≤ (f : Int) ∧ (f : Int) < (p : Int) + 1 then 1 else 0) (fun f _ => ?_), sumTo_count _ _ (by omega) (by omega) _ (by omega)]
    · omega
    · by_cases q : f ≤ p
      · rw [if_pos q, if_pos h, if_pos ⟨by omega, by omega⟩]
      · rw [if_neg q, if_neg (fun z => by omega)]
  · have hd : ¬ decide ((b : Int) ≤ nx ns p) = true := by simp [h]
    rw [if_neg hd]
    simp only [if_neg h]
    rw [sumTo_congr (G := fun _ => 0) (fun k _ => by simp), sumTo_zero]
end Ur

namespace Ur
open PySem L2
/-! ### ends and begins -/
def optV : Option Nat → V
  | none => .non
  | some b => .int (b : Nat)
/-- the least behind with m unlike ones, from k places ahead of the row's end on -/
def endK (ns : List Int) (f : Nat) (m : Int) : Nat → Option Nat
  | 0 => if m ≤ (wunN ns f ns.length : Int) then some ns.length else none
  | k + 1 => if m ≤ (wunN ns f (ns.length - (k + 1)) : Int) then some (ns.length - (k + 1)) else endK ns f m k
def endAt (ns : List Int) (f : Nat) (m : Int) : Option Nat := endK ns f m (ns.length - f)
theorem endK_yes {ns : List Int} {f k : Nat} {m : Int} (h : m ≤ (wunN ns f (ns.length - k) : Int)) : endK ns f m k = some (ns.length - k) := by
  cases k with
  | zero => exact if_pos h
  | succ k => exact if_pos h
theorem endK_no {ns : List Int} {f k : Nat} {m : Int} (h : ¬ m ≤ (wunN ns f (ns.length - (k + 1)) : Int)) : endK ns f m (k + 1) = endK ns f m k := if_neg h
theorem endK_none {ns : List Int} {f : Nat} {m : Int} (h : ¬ m ≤ (wunN ns f ns.length : Int)) : endK ns f m 0 = none := if_neg h
/-- the greatest first, from g on down -/
def begK (ns : List Int) (b : Nat) (m : Int) : Nat → Option Nat
  | 0 => if m ≤ (wunN ns 0 b : Int) then some 0 else none
  | g + 1 => if m ≤ (wunN ns (g + 1) b : Int) then some (g + 1) else begK ns b m g
def begAt (ns : List Int) (b : Nat) (m : Int) : Option Nat := begK ns b m b
theorem begK_yes {ns : List Int} {b g : Nat} {m : Int} (h : m ≤ (wunN ns g b : Int)) : begK ns b m g = some g := by
  cases g with
  | zero => exact if_pos h
  | succ g => exact if_pos h
theorem begK_no {ns : List Int} {b g : Nat} {m : Int} (h : ¬ m ≤ (wunN ns (g + 1) b : Int)) : begK ns b m (g + 1) = begK ns b m g := if_neg h
theorem begK_none {ns : List Int} {b : Nat} {m : Int} (h : ¬ m ≤ (wunN ns 0 b : Int)) : begK ns b m 0 = none := if_neg h
theorem wunN_step {ns : List Int} {f b : Nat} (h : f ≤ b) (hb : b < ns.length) : wunN ns f b ≤ wunN ns f (b + 1) ∧ wunN ns f (b + 1) ≤ wunN ns f b + 1 := by
  rw [wunN_up h hb]
  split <;> omega
theorem wunN_stepD {ns : List Int} {f b : Nat} (h : f < b) (hb : b ≤ ns.length) : wunN ns (f + 1) b ≤ wunN ns f b ∧ wunN ns f b ≤ wunN ns (f + 1) b + 1 := by
  rw [wunN_down h hb]
  split <;> omega
theorem wunN_monoB {ns : List Int} {f : Nat} : ∀ {k b : Nat}, f ≤ b → b + k ≤ ns.length → wunN ns f b ≤ wunN ns f (b + k)
  | 0, _, _, _ => Nat.le_refl _
  | k + 1, b, h, hb => Nat.le_trans (wunN_monoB (k := k) h (by omega)) (wunN_step (b := b + k) (by omega) (by omega)).1
theorem wunN_monoF {ns : List Int} {b : Nat} (hb : b ≤ ns.length) : ∀ {k f : Nat}, f + k ≤ b → wunN ns (f + k) b ≤ wunN ns f b
  | 0, _, _ => Nat.le_refl _
  | k + 1, f, h => Nat.le_trans (wunN_stepD (f := f + k) (by omega) hb).1 (wunN_monoF hb (k := k) (by omega))
/-- what an end is -/
theorem endK_spec {ns : List Int} {f : Nat} {m : Int} : ∀ k : Nat, k ≤ ns.length →
    (endK ns f m k = none ∧ ∀ b, ns.length - k ≤ b → b ≤ ns.length → ¬ m ≤ (wunN ns f b : Int)) ∨
    ∃ e, endK ns f m k = some e ∧ ns.length - k ≤ e ∧ e ≤ ns.length ∧ m ≤ (wunN ns f e : Int) ∧ ∀ b, ns.length - k ≤ b → b < e → ¬ m ≤ (wunN ns f b : Int)
  | 0, _ => by
    by_cases h : m ≤ (wunN ns f ns.length : Int)
    · exact .inr ⟨ns.length, if_pos h, Nat.le_refl _, Nat.le_refl _, h, fun b h1 h2 => absurd h1 (by omega)⟩
    · refine .inl ⟨if_neg h, fun b h1 h2 => ?_⟩
      rw [show b = ns.length from by omega]
      exact h
  | k + 1, hk => by
    by_cases h : m ≤ (wunN ns f (ns.length - (k + 1)) : Int)
    · exact .inr ⟨ns.length - (k + 1), if_pos h, Nat.le_refl _, by omega, h, fun b h1 h2 => absurd h1 (by omega)⟩
    · have er := endK_no h
      rcases endK_spec (ns := ns) (f := f) (m := m) k (by omega) with ⟨e1, e2⟩ | ⟨e, e1, e2, e3, e4, e5⟩
      · refine .inl ⟨er.trans e1, fun b h1 h2 => ?_⟩
        by_cases q : b = ns.length - (k + 1)
        · rw [q]; exact h
        · exact e2 b (by omega) h2
      · refine .inr ⟨e, er.trans e1, by omega, e3, e4, fun b h1 h2 => ?_⟩
        by_cases q : b = ns.length - (k + 1)
        · rw [q]; exact h
        · exact e5 b (by omega) h2
theorem endAt_spec {ns : List Int} {f : Nat} {m : Int} (hf : f ≤ ns.length) :
    (endAt ns f m = none ∧ ∀ b, f ≤ b → b ≤ ns.length → ¬ m ≤ (wunN ns f b : Int)) ∨
    ∃ e, endAt ns f m = some e ∧ f ≤ e ∧ e ≤ ns.length ∧ m ≤ (wunN ns f e : Int) ∧ ∀ b, f ≤ b → b < e → ¬ m ≤ (wunN ns f b : Int) := by
  have h := endK_spec (ns := ns) (f := f) (m := m) (ns.length - f) (by omega)
  rw [show ns.length - (ns.length - f) = f from by omega] at h
  exact h
theorem begK_spec {ns : List Int} {b : Nat} {m : Int} : ∀ g : Nat,
    (begK ns b m g = none ∧ ∀ j, j ≤ g → ¬ m ≤ (wunN ns j b : Int)) ∨
    ∃ e, begK ns b m g = some e ∧ e ≤ g ∧ m ≤ (wunN ns e b : Int) ∧ ∀ j, e < j → j ≤ g → ¬ m ≤ (wunN ns j b : Int)
  | 0 => by
    by_cases h : m ≤ (wunN ns 0 b : Int)
    · exact .inr ⟨0, if_pos h, Nat.le_refl _, h, fun j h1 h2 => absurd h1 (by omega)⟩
    · refine .inl ⟨if_neg h, fun j h1 => ?_⟩
      rw [show j = 0 from by omega]
      exact h
  | g + 1 => by
    by_cases h : m ≤ (wunN ns (g + 1) b : Int)
    · exact .inr ⟨g + 1, if_pos h, Nat.le_refl _, h, fun j h1 h2 => absurd h1 (by omega)⟩
    · have er := begK_no h
      rcases begK_spec (ns := ns) (b := b) (m := m) g with ⟨e1, e2⟩ | ⟨e, e1, e2, e3, e4⟩
      · refine .inl ⟨er.trans e1, fun j h1 => ?_⟩
        by_cases q : j = g + 1
        · rw [q]; exact h
        · exact e2 j (by omega)
      · refine .inr ⟨e, er.trans e1, by omega, e3, fun j h1 h2 => ?_⟩
        by_cases q : j = g + 1
        · rw [q]; exact h
        · exact e4 j h1 (by omega)
/-- an end by what it is -/
theorem endAt_is {ns : List Int} {f e : Nat} {m : Int} (h1 : f ≤ e) (h2 : e ≤ ns.length) (h3 : m ≤ (wunN ns f e : Int)) (h4 : ∀ b, f ≤ b → b < e → ¬ m ≤ (wunN ns f b : Int)) : endAt ns f m = some e := by
  rcases endAt_spec (ns := ns) (f := f) (m := m) (by omega) with ⟨_, e2⟩ | ⟨e', e1, g1, g2, g3, g4⟩
  · exact absurd h3 (e2 e h1 h2)
  · rcases Nat.lt_trichotomy e e' with k | k | k
    · exact absurd h3 (g4 e h1 k)
    · rw [e1, k]
    · exact absurd g3 (h4 e' g1 k)
/-- at an end there are just so many, one ahead of it one less -/
theorem end_just {ns : List Int} {f e : Nat} {m : Int} (h0 : 0 ≤ m) (h1 : f ≤ e) (h2 : e ≤ ns.length) (h3 : m ≤ (wunN ns f e : Int)) (h4 : ∀ b, f ≤ b → b < e → ¬ m ≤ (wunN ns f b : Int)) :
    (wunN ns f e : Int) = m ∧ (0 < m → f < e ∧ (wunN ns f (e - 1) : Int) = m - 1) := by
  by_cases h : f = e
  · rw [← h] at h3 ⊢
    rw [wunN_none] at h3 ⊢
    refine ⟨by omega, fun k => by omega⟩
  · have hb := h4 (e - 1) (by omega) (by omega)
    have hs := wunN_step (ns := ns) (f := f) (b := e - 1) (by omega) (by omega)
    rw [show e - 1 + 1 = e from by omega] at hs
    refine ⟨by omega, fun k => ⟨by omega, by omega⟩⟩
theorem beg_just {ns : List Int} {g b : Nat} {m : Int} (h0 : 0 ≤ m) (h1 : g ≤ b) (h2 : b ≤ ns.length) (h3 : m ≤ (wunN ns g b : Int)) (h4 : ∀ j, g < j → j ≤ b → ¬ m ≤ (wunN ns j b : Int)) :
    (wunN ns g b : Int) = m ∧ (0 < m → g < b ∧ (wunN ns (g + 1) b : Int) = m - 1) := by
  by_cases h : g = b
  · rw [← h] at h3 ⊢
    rw [wunN_none] at h3 ⊢
    refine ⟨by omega, fun k => by omega⟩
  · have hb := h4 (g + 1) (by omega) (by omega)
    have hs := wunN_stepD (ns := ns) (f := g) (b := b) (by omega) h2
    refine ⟨by omega, fun k => ⟨by omega, by omega⟩⟩
end Ur
namespace Ur
open PySem L2
theorem wunN_all (ns : List Int) : wunN ns 0 ns.length = ulen ns := by
  unfold wunN
  rw [List.drop_zero, Nat.sub_zero, List.take_length]
theorem wunN_le {ns : List Int} {f b : Nat} (h : f ≤ b) (hb : b ≤ ns.length) : wunN ns f b ≤ ulen ns := by
  have h1 := wunN_monoB (ns := ns) (f := f) (b := b) (k := ns.length - b) h (by omega)
  rw [show b + (ns.length - b) = ns.length from by omega] at h1
  have h2 := wunN_monoF (ns := ns) (b := ns.length) (Nat.le_refl _) (k := f) (f := 0) (by omega)
  rw [Nat.zero_add, wunN_all] at h2
  omega
theorem end_more (ns : List Int) : endAt ns 0 ((ulen ns : Nat) + 1 : Int) = none := by
  rcases endAt_spec (ns := ns) (f := 0) (m := (ulen ns : Nat) + 1) (Nat.zero_le _) with ⟨e1, _⟩ | ⟨e, _, h1, h2, h3, _⟩
  · exact e1
  · have := wunN_le h1 h2
    omega
theorem beg_more (ns : List Int) : begAt ns ns.length ((ulen ns : Nat) + 1 : Int) = none := by
  rcases begK_spec (ns := ns) (b := ns.length) (m := (ulen ns : Nat) + 1) ns.length with ⟨e1, _⟩ | ⟨e, _, h1, h2, _⟩
  · exact e1
  · have := wunN_le h1 (Nat.le_refl _)
    omega
theorem rgV_ints {b : Int} {n : Nat} (h : b = n) : rgV 0 b = ((List.range n).map fun k => ((k : Nat) : Int)).map V.int := by
  subst h
  unfold rgV
  rw [List.map_map, Int.sub_zero, Int.toNat_natCast]
  exact List.map_congr_left fun k _ => by rw [Int.zero_add]; rfl
end Ur
namespace Ur
open PySem L2
theorem inV_int {ns : List Int} {x : Int} : inV (.int x) (ns.map V.int) = decide (x ∈ ns) := by
  unfold inV
  rw [List.any_map, Bool.eq_iff_iff, List.any_eq_true, decide_eq_true_iff]
  constructor
  · rintro ⟨y, hy, e⟩
    have e2 : (y == x) = true ∨ (x == y) = true := by first | exact Or.inl e | exact Or.inr e
    rcases e2 with e2 | e2
    · exact eq_of_beq e2 ▸ hy
    · exact (eq_of_beq e2).symm ▸ hy
  · intro h
    refine ⟨x, h, ?_⟩
    exact beq_self_eq_true x
theorem in_int {K : PySem.W.Frag} {H : Hp} {a : Addr} {ns : List Int} {x : Int} {Q : VK} (h : SqL K H a (ns.map V.int)) (q : Q (.bl (decide (x ∈ ns))) H) : rIn K false (.int x) (.ref a) H Q :=
  ⟨a, _, rfl, .inl h, rfl, by rw [List.all_map]; exact List.all_eq_true.mpr fun _ _ => rfl, by rw [inV_int]; exact q⟩
theorem notin_int {K : PySem.W.Frag} {H : Hp} {a : Addr} {ns : List Int} {x : Int} {Q : VK} (h : SqL K H a (ns.map V.int)) (q : Q (.bl (!decide (x ∈ ns))) H) : rIn K true (.int x) (.ref a) H Q :=
  ⟨a, _, rfl, .inl h, rfl, by rw [List.all_map]; exact List.all_eq_true.mpr fun _ _ => rfl, by rw [inV_int]; exact q⟩
/-! ### from behind -/
theorem ulen_rev (ns : List Int) : ulen ns.reverse = ulen ns := ulen_congr fun x => List.mem_reverse
theorem wunN_rev {ns : List Int} {b j : Nat} (hj : j ≤ b) (hb : b ≤ ns.length) : wunN (ns.take b).reverse 0 j = wunN ns (b - j) b := by
  unfold wunN
  rw [List.drop_zero, Nat.sub_zero, List.take_reverse, ulen_rev]
  rw [List.length_take, Nat.min_eq_left hb, show b - (b - j) = j from by omega, List.drop_take, show b - (b - j) = j from by omega]
theorem begAt_is {ns : List Int} {b e : Nat} {m : Int} (h1 : e ≤ b) (h3 : m ≤ (wunN ns e b : Int)) (h4 : ∀ j, e < j → j ≤ b → ¬ m ≤ (wunN ns j b : Int)) : begAt ns b m = some e := by
  rcases begK_spec (ns := ns) (b := b) (m := m) b with ⟨_, e2⟩ | ⟨e', e1, g1, g2, g3⟩
  · exact absurd h3 (e2 e h1)
  · rcases Nat.lt_trichotomy e e' with k | k | k
    · exact absurd g2 (h4 e' k g1)
    · exact e1.trans (by rw [k])
    · exact absurd h3 (g3 e k h1)
theorem begAt_rev {ns : List Int} {b : Nat} {m : Int} (hb : b ≤ ns.length) :
    (endAt (ns.take b).reverse 0 m = none ∧ begAt ns b m = none) ∨ ∃ e, endAt (ns.take b).reverse 0 m = some e ∧ e ≤ b ∧ begAt ns b m = some (b - e) := by
  have hl : (ns.take b).reverse.length = b := by rw [List.length_reverse, List.length_take]; omega
  rcases endAt_spec (ns := (ns.take b).reverse) (f := 0) (m := m) (Nat.zero_le _) with ⟨e1, e2⟩ | ⟨e, e1, h1, h2, h3, h4⟩
  · refine .inl ⟨e1, ?_⟩
    rcases begK_spec (ns := ns) (b := b) (m := m) b with ⟨k, _⟩ | ⟨g, _, g1, g2, _⟩
    · exact k
    · have := e2 (b - g) (Nat.zero_le _) (by omega)
      rw [wunN_rev (by omega) hb, show b - (b - g) = g from by omega] at this
      exact absurd g2 this
  · rw [hl] at h2
    refine .inr ⟨e, e1, h2, begAt_is (by omega) ?_ fun j k1 k2 => ?_⟩
    · rw [wunN_rev h2 hb] at h3
      exact h3
    · have := h4 (b - j) (Nat.zero_le _) (by omega)
      rw [wunN_rev (by omega) hb, show b - (b - j) = j from by omega] at this
      exact this
theorem endAt_0 {ns : List Int} {f : Nat} (h : f ≤ ns.length) : endAt ns f 0 = some f := endAt_is (Nat.le_refl f) h (by omega) fun b h1 h2 => absurd h1 (by omega)
theorem begAt_0 (ns : List Int) (b : Nat) : begAt ns b 0 = some b := begAt_is (Nat.le_refl b) (by omega) fun j h1 h2 => absurd h1 (by omega)
/-- the unlike ones of a window, one more -/
theorem uni_up {ns : List Int} {f b : Nat} {x : Int} (h : f ≤ b) (e : ns[b]? = some x) : uni ((ns.drop f).take (b + 1 - f)) = if x ∈ uni ((ns.drop f).take (b - f)) then uni ((ns.drop f).take (b - f)) else uni ((ns.drop f).take (b - f)) ++ [x] := by
  have e1 : (ns.drop f)[b - f]? = some x := by rw [List.getElem?_drop, show f + (b - f) = b from by omega]; exact e
  rw [show b + 1 - f = (b - f) + 1 from by omega, take_snoc e1, uni_snoc]
  by_cases k : x ∈ (ns.drop f).take (b - f)
  · rw [if_pos k, if_pos ((mem_uni _ x).mpr k)]
  · rw [if_neg k, if_neg (fun z => k ((mem_uni _ x).mp z))]
end Ur
namespace Ur
open PySem L2
/-- None or a whole number -/
structure IsO (v : V) : Prop where
  or : v = .non ∨ ∃ i : Int, v = .int i
theorem IsO.opt (x : Option Nat) : IsO (optV x) := by
  cases x with
  | none => exact ⟨.inl rfl⟩
  | some b => exact ⟨.inr ⟨_, rfl⟩⟩
end Ur

namespace Ur
open PySem L2
/-! ### xs[::c] -/
theorem vals_pick {xs : List V} {us : List Value} (r : Vals xs us) : ∀ ids : List Nat, Vals (ids.filterMap fun i => xs[i]?) (ids.filterMap fun i => us.toArray[i]?)
  | [] => .nil
  | i :: ids => by
    have hl := Vals.length r
    have e2 : us.toArray[i]? = us[i]? := by simp
    cases h : xs[i]? with
    | none =>
      have h2 : us[i]? = none := by
        rw [List.getElem?_eq_none_iff] at h ⊢
        omega
      rw [List.filterMap_cons_none h, List.filterMap_cons_none (by rw [e2, h2])]
      exact vals_pick r ids
    | some x =>
      obtain ⟨u, h2, h3⟩ := r.get h
      rw [List.filterMap_cons_some h, List.filterMap_cons_some (b := u) (by rw [e2, h2])]
      exact .cons h3 (vals_pick r ids)
def tStep (K : PySem.W.Frag) (te : TE) : TE := fun σ H Q => te σ H fun x H1 => ∃ a xs, x = .ref a ∧ SqL K H1 a xs ∧ ∀ p ys, (∀ y ∈ ys, y ∈ xs) → ys.length ≤ xs.length → H1 p = none → Q (.ref p) (upd H1 p (.lst ys))
open PySem.Spec PyProof.Rows in
theorem pe_step2 {X : Cx} {e : Expr} {te : TE} {k : Nat} {p1 p3 pos : Pos} (he : PE X e te) : PE X (.Subscript e (.Slice none none (some (.Constant (.int 2) k p1)) p3) pos) (tStep X.K te) := by
  refine ⟨fun pins s σ H Q I h => ?_⟩
  refine Subscript_ (thn (he.run pins s σ H _ I h) fun v s1 ⟨x, H1, I1, r1, q1⟩ => ?_)
  obtain ⟨a, xs, ex, hx, q⟩ := q1
  subst ex
  cases r1
  have hst : PO X (some (.Constant (.int 2) k p1)) (tPart (tC (.int 2))) := po_some pe_int
  refine wpAny_Slice (thn (po_none.run pins s1 σ H1 (fun o H2 => o = none ∧ H2 = H1) I1 ⟨rfl, rfl⟩) fun vl s2 ⟨l, H2, I2, pl, el, e2⟩ => ?_)
  subst el e2
  refine thn (po_none.run pins s2 σ H2 (fun o H3 => o = none ∧ H3 = H2) I2 ⟨rfl, rfl⟩) fun vu s3 ⟨u, H3, I3, pu, eu, e3⟩ => ?_
  subst eu e3
  refine thn (hst.run pins s3 σ H3 (fun o H4 => o = some 2 ∧ H4 = H3) I3 ⟨2, rfl, rfl, rfl⟩) fun vs s4 ⟨o, H4, I4, ps, eo, e4⟩ => ?_
  subst eo e4
  have I5 : Inv X pins σ H4 { s4 with heap := s4.heap.push { cls := .type "slice", data := .fields #[vl, vu, vs] } } := I4.kept (t' := s4.toks) fun b ob q => Heap.get?_push_of_some _ q
  obtain ⟨its, r, ht, hz⟩ := I5.list hx
  have hlen := r.length
  show wpAny (model X.prog X.w) X.A (subscriptTail e (.Slice none none (some (.Constant (.int 2) k p1)) p3) (.ref a) (.ref s4.heap.objs.size)) (EP X pins σ Q) X.xe { s4 with heap := s4.heap.push { cls := .type "slice", data := .fields #[vl, vu, vs] } }
  refine tail_any (ops := [.ref a, .ref s4.heap.objs.size]) ht.isList.typeIs (PySem.slot_list_getitem.lookup) ?_ (by with_unfolding_all rfl)
  refine wpAny_getItem_list_slice ht.isList (Heap.IsSliceOf.new _ vl vu vs) pl pu ps (by decide) ?_ (by rw [List.size_toArray]; omega)
  have hid : ∀ n : Nat, (sliceRange (sliceBounds none none (some 2) n).1 (sliceBounds none none (some 2) n).2.1 (sliceBounds none none (some 2) n).2.2).length ≤ n := fun n => by
    have e : sliceBounds none none (some 2) n = (0, (n : Int), 2) := by simp [sliceBounds]
    rw [e]
    exact sliceRange_length_le 0 n 2 n (fun _ => ⟨by omega, by omega⟩) (fun h => absurd (by decide) h)
  have hid2 := hid its.toArray.size
  unfold slicePick
  generalize hI : sliceRange (sliceBounds none none (some 2) its.toArray.size).1 (sliceBounds none none (some 2) its.toArray.size).2.1 (sliceBounds none none (some 2) its.toArray.size).2.2 = ids at hid2
  have hv := vals_pick r ids
  have hly : (ids.filterMap fun i => xs[i]?).length ≤ xs.length := by
    refine Nat.le_trans (List.length_filterMap_le _ _) ?_
    rw [List.size_toArray] at hid2
    omega
  refine ⟨.ref _, _, I5.laid (t' := s4.toks) (o := .lst (ids.filterMap fun i => xs[i]?)) (fun b ob q => Heap.get?_push_of_some _ q) (Nat.le_refl _) ?_, rfl, q _ _ (fun y hy => ?_) hly (I5.hok.fresh (Nat.le_refl _))⟩
  · exact ⟨by omega, _, 0, hv, Heap.get?_push_size _ rfl⟩
  · obtain ⟨i, _, e⟩ := List.mem_filterMap.mp hy
    exact List.mem_of_getElem? e
end Ur

namespace Ur
open PySem L2
/-! ### windows that were drawn -/
/-- at t a window of a row of n -/
structure WinAt (n : Int) (H : Hp) (t : Addr) : Prop where
  at_ : ∃ f b : Int, H t = some (.tup [.int f, .int b]) ∧ 0 ≤ f ∧ f ≤ b ∧ b ≤ n
theorem WinAt.same {n : Int} {H H' : Hp} {t : Addr} (w : WinAt n H t) (s : Same H H') : WinAt n H' t := by
  obtain ⟨f, b, e, h⟩ := w.at_
  exact ⟨f, b, s _ _ e, h⟩
theorem WinAt.but {n : Int} {H H' : Hp} {t a : Addr} {xs : List V} (w : WinAt n H t) (s : But a H H') (ha : H a = some (.lst xs)) : WinAt n H' t := by
  obtain ⟨f, b, e, h⟩ := w.at_
  exact ⟨f, b, s _ _ (fun k => by rw [k, ha] at e; cases e) e, h⟩
theorem WinAt.upd {n : Int} {H : Hp} {t a : Addr} {xs : List V} {o : HO} (w : WinAt n H t) (ha : H a = some (.lst xs)) : WinAt n (upd H a o) t := by
  obtain ⟨f, b, e, h⟩ := w.at_
  exact ⟨f, b, by rw [upd_ne (fun k => by rw [k, ha] at e; cases e)]; exact e, h⟩
end Ur

namespace Ur
open PySem L2
/-! ### lists of last places -/
theorem lastAt_succ (ns : List Int) (i : Nat) (x : Int) : lastAt ns (i + 1) x = if ns.getD i 0 = x then (i : Int) else lastAt ns i x := rfl
theorem getD_app {r s : List Int} {j : Nat} (h : j < r.length) : (r ++ s).getD j 0 = r.getD j 0 := by
  rw [List.getD_eq_getElem?_getD, List.getD_eq_getElem?_getD, List.getElem?_append_left h]
theorem lastAt_app {r s : List Int} {x : Int} : ∀ {i : Nat}, i ≤ r.length → lastAt (r ++ s) i x = lastAt r i x
  | 0, _ => rfl
  | i + 1, h => by rw [lastAt_succ, lastAt_succ, getD_app h, lastAt_app (Nat.le_of_lt h)]
theorem lastP_snoc (r : List Int) (x : Int) : lastP (r ++ [x]) = lastP r ++ [lastAt r r.length x] := by
  have hl : (r ++ [x]).length = r.length + 1 := by rw [List.length_append]; rfl
  have h := lastP_take (ns := r ++ [x]) (i := r.length) (by omega)
  have e1 : (lastP (r ++ [x])).take (r.length + 1) = lastP (r ++ [x]) := by rw [← hl, ← lastP_len, List.take_length]
  have e2 : (lastP (r ++ [x])).take r.length = lastP r := by
    refine List.ext_getElem? fun k => ?_
    by_cases hk : k < r.length
    · rw [List.getElem?_take, if_pos hk, lastP_get (by omega), lastP_get hk, getD_app hk, lastAt_app (Nat.le_of_lt hk)]
    · rw [List.getElem?_take, if_neg hk, List.getElem?_eq_none (by rw [lastP_len]; omega)]
  have e3 : (r ++ [x]).getD r.length 0 = x := by
    rw [List.getD_eq_getElem?_getD, List.getElem?_append_right (Nat.le_refl _), Nat.sub_self]; rfl
  rw [e1, e2, e3, lastAt_app (Nat.le_refl _)] at h
  exact h
theorem lastAt_not {r : List Int} {x : Int} (h : x ∉ r) : lastAt r r.length x = -1 := by
  rcases lastAt_spec r x r.length with ⟨e, _⟩ | ⟨v, _, h1, h2, _⟩
  · exact e
  · exact absurd (h2 ▸ List.mem_of_getElem? (get_of h1)) h
theorem fresh_int (r : List Int) : ∃ x : Int, x ∉ r := by
  have k : ∀ r : List Int, ∃ b : Int, ∀ y ∈ r, y < b := by
    intro r
    induction r with
    | nil => exact ⟨0, fun y h => nomatch h⟩
    | cons z r ih =>
      obtain ⟨b, hb⟩ := ih
      refine ⟨max b (z + 1), fun y hy => ?_⟩
      rcases List.mem_cons.mp hy with e | e
      · rw [e]; omega
      · have := hb y e; omega
  obtain ⟨b, hb⟩ := k r
  exact ⟨b, fun h => absurd (hb b h) (by omega)⟩
/-- a list of last places, one more: a new number -/
theorem lasts_new (r : List Int) : ∃ x, lastP (r ++ [x]) = lastP r ++ [-1] := by
  obtain ⟨x, hx⟩ := fresh_int r
  exact ⟨x, by rw [lastP_snoc, lastAt_not hx]⟩
/-- .. or that of a place that is none yet -/
theorem lasts_old {r : List Int} {l : Nat} (hl : l < r.length) (hn : (l : Int) ∉ lastP r) : lastP (r ++ [r.getD l 0]) = lastP r ++ [(l : Int)] := by
  rw [lastP_snoc]
  have e : lastAt r r.length (r.getD l 0) = l := by
    refine lastAt_uniq (.inr ⟨l, rfl, hl, rfl⟩) fun j hj hx => ?_
    by_cases h : j ≤ l
    · omega
    · exfalso
      have key : ∀ d j, j = l + 1 + d → j < r.length → r.getD j 0 = r.getD l 0 → False := by
        intro d
        induction d using Nat.strongRecOn with
        | _ d ih =>
          intro j hjd hj hx
          refine hn ?_
          have hg := lastP_get hj
          have : lastAt r j (r.getD j 0) = l := by
            rw [hx]
            refine lastAt_uniq (.inr ⟨l, rfl, by omega, rfl⟩) fun i hi hxi => ?_
            by_cases q : i ≤ l
            · omega
            · exact (ih (i - (l + 1)) (by omega) i (by omega) (by omega) hxi).elim
          rw [this] at hg
          exact List.mem_of_getElem? hg
      exact key (j - (l + 1)) j (by omega) hj hx
  rw [e]
/-- what a last place is -/
theorem lastP_ok {r : List Int} {i : Nat} {l : Int} (h : (lastP r)[i]? = some l) : -1 ≤ l ∧ l < i ∧ (0 ≤ l → l ∉ (lastP r).take i) := by
  have hi : i < r.length := by
    have := (List.getElem?_eq_some_iff.mp h).1
    rwa [lastP_len] at this
  have e := lastP_get hi
  rw [h] at e
  have e := Option.some.inj e
  have hr := lastAt_range r (r.getD i 0) i
  refine ⟨by omega, by omega, fun h0 hm => ?_⟩
  obtain ⟨j, hj⟩ := List.mem_iff_getElem?.mp hm
  rw [List.getElem?_take] at hj
  by_cases q : j < i
  · rw [if_pos q, lastP_get (by omega)] at hj
    have e2 := Option.some.inj hj
    rcases lastAt_spec r (r.getD i 0) i with ⟨k, _⟩ | ⟨v, k1, k2, k3, k4⟩
    · omega
    · rcases lastAt_spec r (r.getD j 0) j with ⟨m, _⟩ | ⟨w, m1, m2, m3, _⟩
      · omega
      · have hvw : v = w := by omega
        exact k4 j (by omega) q (by rw [← m3, ← hvw, k3])
  · rw [if_neg q] at hj; cases hj
theorem lastP_map {f : Int → Int} {r : List Int} (h : InjOn f r) : lastP (r.map f) = lastP r := by
  have g : ∀ j, j < r.length → (r.map f).getD j 0 = f (r.getD j 0) := fun j hj => by
    rw [List.getD_eq_getElem?_getD, List.getElem?_map, get_of hj]; rfl
  have k : ∀ i x, i ≤ r.length → x ∈ r → lastAt (r.map f) i (f x) = lastAt r i x := by
    intro i x
    induction i with
    | zero => intro _ _; rfl
    | succ i ih =>
      intro hi hx
      rw [lastAt_succ, lastAt_succ, g i hi, ih (Nat.le_of_lt hi) hx]
      have hm : r.getD i 0 ∈ r := List.mem_of_getElem? (get_of hi)
      by_cases q : r.getD i 0 = x
      · rw [if_pos q, if_pos (by rw [q])]
      · rw [if_neg q, if_neg (fun z => q (h _ hm _ hx z))]
  refine List.ext_getElem? fun i => ?_
  by_cases hi : i < r.length
  · rw [lastP_get (by rw [List.length_map]; exact hi), lastP_get hi, g i hi, k i _ (Nat.le_of_lt hi) (List.mem_of_getElem? (get_of hi))]
  · rw [List.getElem?_eq_none (by rw [lastP_len, List.length_map]; omega), List.getElem?_eq_none (by rw [lastP_len]; omega)]
theorem plain_inj (r : List Int) : InjOn (fun x => (plainAt r x : Int)) r := fun x hx y hy e => plainAt_inj hx hy (by have e2 : ((plainAt r x : Nat) : Int) = (plainAt r y : Nat) := e; omega)
theorem lastP_plain (r : List Int) : lastP (plainP r) = lastP r := lastP_map (plain_inj r)
/-- -1 stands just where a number is new -/
theorem last_new {r : List Int} {i : Nat} (hi : i < r.length) : lastAt r i (r.getD i 0) < 0 ↔ r.getD i 0 ∉ r.take i := by
  rcases lastAt_spec r (r.getD i 0) i with ⟨e, n⟩ | ⟨v, e, h1, h2, _⟩
  · refine ⟨fun _ hm => ?_, fun _ => by omega⟩
    obtain ⟨j, hj⟩ := List.mem_iff_getElem?.mp hm
    rw [List.getElem?_take] at hj
    by_cases q : j < i
    · rw [if_pos q] at hj; exact n j q (getD_of hj)
    · rw [if_neg q] at hj; cases hj
  · refine ⟨fun h => by omega, fun h => absurd ?_ h⟩
    exact List.mem_iff_getElem?.mpr ⟨v, by rw [List.getElem?_take, if_pos h1, get_of (by omega), h2]⟩
theorem lastP_takeR (r : List Int) (n : Nat) : lastP (r.take n) = (lastP r).take n := by
  by_cases h : n ≤ r.length
  · have e := List.take_append_drop n r
    have hl : (r.take n).length = n := by rw [List.length_take]; omega
    refine List.ext_getElem? fun k => ?_
    rw [List.getElem?_take]
    by_cases hk : k < n
    · have g : (r.take n).getD k 0 = r.getD k 0 := by
        rw [List.getD_eq_getElem?_getD, List.getD_eq_getElem?_getD, List.getElem?_take, if_pos hk]
      have a : lastAt r k (r.getD k 0) = lastAt (r.take n) k (r.getD k 0) := by
        have := lastAt_app (r := r.take n) (s := r.drop n) (x := r.getD k 0) (i := k) (by omega)
        rwa [e] at this
      rw [if_pos hk, lastP_get (by omega), lastP_get (by omega), g, a]
    · rw [if_neg hk, List.getElem?_eq_none (by rw [lastP_len]; omega)]
  · rw [List.take_of_length_le (by omega), List.take_of_length_le (by rw [lastP_len]; omega)]
theorem lastP_drop (r : List Int) (n : Nat) : lastP (r.drop n) = ((lastP r).drop n).map fun l => max (-1) (l - (n : Int)) := by
  refine List.ext_getElem? fun k => ?_
  rw [List.getElem?_map, List.getElem?_drop]
  by_cases hk : n + k < r.length
  · have hkd : k < (r.drop n).length := by rw [List.length_drop]; omega
    have g : ∀ j, (r.drop n).getD j 0 = r.getD (n + j) 0 := fun j => by
      rw [List.getD_eq_getElem?_getD, List.getD_eq_getElem?_getD, List.getElem?_drop]
    rw [lastP_get hkd, lastP_get hk, g]
    show some (lastAt (r.drop n) k (r.getD (n + k) 0)) = some (max (-1) (lastAt r (n + k) (r.getD (n + k) 0) - (n : Int)))
    congr 1
    rcases lastAt_spec r (r.getD (n + k) 0) (n + k) with ⟨e, m⟩ | ⟨v, e, h1, h2, m⟩
    · rw [e]
      refine lastAt_uniq (.inl (by omega)) fun j hj hx => ?_
      rw [g] at hx
      exact absurd hx (m (n + j) (by omega))
    · rw [e]
      by_cases q : n ≤ v
      · refine lastAt_uniq (.inr ⟨v - n, by omega, by omega, by rw [g, show n + (v - n) = v from by omega]; exact h2⟩) fun j hj hx => ?_
        rw [g] at hx
        by_cases p : n + j ≤ v
        · omega
        · exact absurd hx (m (n + j) (by omega) (by omega))
      · refine lastAt_uniq (.inl (by omega)) fun j hj hx => ?_
        rw [g] at hx
        exact absurd hx (m (n + j) (by omega) (by omega))
  · rw [List.getElem?_eq_none (by rw [lastP_len, List.length_drop]; omega), List.getElem?_eq_none (by rw [lastP_len]; omega)]
    rfl
end Ur
namespace Ur
open PySem L2
theorem pop_at {fs : List Int} {i : Int} (h0 : 0 ≤ i) (h1 : i < fs.length) : seqIndex? i (fs.map V.int).length = some i.toNat := by
  rw [List.length_map]
  simp [seqIndex?, show ¬ i < 0 from by omega, h0, h1]
theorem pop_get {fs : List Int} {k : Nat} (h : k < fs.length) : (fs.map V.int)[k]? = some (V.int (fs.getD k 0)) := iv_get' (get_of h)
theorem erase_map (fs : List Int) (k : Nat) : (fs.map V.int).eraseIdx k = (fs.eraseIdx k).map V.int := by
  induction fs generalizing k with
  | nil => rfl
  | cons x fs ih => cases k with
    | zero => rfl
    | succ k => show V.int x :: (fs.map V.int).eraseIdx k = _; rw [ih]; rfl
theorem mem_erase {fs : List Int} {k : Nat} {f : Int} (h : f ∈ fs.eraseIdx k) : f ∈ fs := (List.eraseIdx_sublist fs k).mem h
theorem erase_nodup : ∀ {fs : List Int} {k : Nat}, k < fs.length → fs.Nodup → (fs.eraseIdx k).Nodup ∧ fs.getD k 0 ∉ fs.eraseIdx k
  | x :: fs, 0, _, d => by
    have h := List.nodup_cons.mp d
    exact ⟨h.2, h.1⟩
  | x :: fs, k + 1, h, d => by
    obtain ⟨d1, d2⟩ := List.nodup_cons.mp d
    have hk : k < fs.length := Nat.lt_of_succ_lt_succ h
    obtain ⟨e1, e2⟩ := erase_nodup hk d2
    refine ⟨List.nodup_cons.mpr ⟨fun m => d1 (mem_erase m), e1⟩, fun m => ?_⟩
    have m2 : fs.getD k 0 ∈ x :: fs.eraseIdx k := m
    rcases List.mem_cons.mp m2 with e | e
    · exact d1 (e ▸ List.mem_of_getElem? (get_of hk))
    · exact e2 e
end Ur
namespace Ur
open PySem L2
theorem next_of_last {r : List Int} {i : Nat} (hi : i < r.length) (h : 0 ≤ lp r i) : nx r (lp r i).toNat = i := by
  rcases lastAt_spec r (r.getD i 0) i with ⟨e, _⟩ | ⟨l, e, h1, h2, h3⟩
  · have : lp r i = -1 := e
    omega
  · have e' : lp r i = l := e
    rw [e', Int.toNat_natCast]
    rcases nextUp_spec r l r.length (Nat.le_refl _) with ⟨_, n⟩ | ⟨v, k, k1, k2, k3, k4⟩
    · exact absurd h2.symm (n i h1 hi)
    · have k' : nx r l = v := k
      rw [k']
      rcases Nat.lt_trichotomy v i with q | q | q
      · exact absurd (k3.trans h2) (h3 v k1 q)
      · rw [q]
      · exact absurd h2.symm (k4 i h1 q)
theorem count_map (g : Nat → Int) (t : Int → Bool) : ∀ n : Nat, ((((List.range n).map g).filter t).length : Int) = sumTo (fun k => if t (g k) = true then 1 else 0) n
  | 0 => rfl
  | n + 1 => by
    rw [List.range_succ, List.map_append, List.filter_append, List.length_append, Int.natCast_add, count_map g t n]
    show _ + _ = _ + (if t (g n) = true then 1 else 0)
    cases h : t (g n) with
    | true => rw [List.map_cons, List.filter_cons_of_pos h]; rfl
    | false => rw [List.map_cons, List.filter_cons_of_neg (by rw [h]; exact Bool.false_ne_true)]; rfl
theorem nx_le {r : List Int} {p : Nat} : nx r p ≤ r.length := by
  rcases nextUp_spec r p r.length (Nat.le_refl _) with ⟨e, _⟩ | ⟨v, e, h1, h2, _⟩
  · exact Int.le_of_eq e
  · have : nx r p = v := e
    omega
theorem count_ends (r : List Int) : ((nextP r).filter (fun x => decide (x = (r.length : Int)))).length = ulen r := by
  have h := wunN_nexts (ns := r) (b := r.length) (Nat.le_refl _) r.length 0 (Nat.zero_add _)
  rw [wunN_all] at h
  have c := count_map (fun k => nextUp r k r.length) (fun x => decide (x = (r.length : Int))) r.length
  have e : sumTo (fun k => if decide (nextUp r k r.length = (r.length : Int)) = true then (1 : Int) else 0) r.length = sumTo (fun j => if (r.length : Int) ≤ nextUp r (0 + j) r.length then (1 : Int) else 0) r.length := sumTo_congr fun k _ => by
    have := nx_le (r := r) (p := k)
    have this : nextUp r k r.length ≤ (r.length : Int) := this
    rw [Nat.zero_add]
    by_cases q : (r.length : Int) ≤ nextUp r k r.length
    · rw [if_pos q, if_pos (decide_eq_true (by omega))]
    · rw [if_neg q, if_neg (by rw [decide_eq_false (by omega)]; exact Bool.false_ne_true)]
  have c2 : (((nextP r).filter (fun x => decide (x = (r.length : Int)))).length : Int) = (ulen r : Int) := c.trans (e.trans h.symm)
  omega
theorem count_news (r : List Int) : ((lastP r).filter (fun x => decide (x = -1))).length = ulen r := by
  have h := wunN_lasts (ns := r) (f := 0) r.length (Nat.zero_le _) (Nat.le_refl _)
  rw [wunN_all] at h
  have c := count_map (fun k => lastAt r k (r.getD k 0)) (fun x => decide (x = -1)) r.length
  have e : sumTo (fun k => if decide (lastAt r k (r.getD k 0) = -1) = true then (1 : Int) else 0) r.length = sumTo (fun p => if 0 ≤ p ∧ lastAt r p (r.getD p 0) < ((0 : Nat) : Int) then (1 : Int) else 0) r.length := sumTo_congr fun k _ => by
    have := lastAt_range r (r.getD k 0) k
    by_cases q : lastAt r k (r.getD k 0) < ((0 : Nat) : Int)
    · have hd : decide (lastAt r k (r.getD k 0) = -1) = true := decide_eq_true (by omega)
      rw [if_pos hd, if_pos ⟨Nat.zero_le _, q⟩]
    · have hd : ¬ decide (lastAt r k (r.getD k 0) = -1) = true := fun z => by
        have := of_decide_eq_true z
        omega
      rw [if_neg hd, if_neg (fun z => q z.2)]
  have c2 : (((lastP r).filter (fun x => decide (x = -1))).length : Int) = (ulen r : Int) := c.trans (e.trans h.symm)
  omega
theorem idx_take {r : List Int} {x : Int} {n : Nat} (h : x ∈ r.take n) : (r.take n).idxOf x = r.idxOf x := by
  have hm := List.mem_of_mem_take h
  have hlt : r.idxOf x < n := by
    obtain ⟨j, hj⟩ := List.mem_iff_getElem?.mp h
    rw [List.getElem?_take] at hj
    by_cases q : j < n
    · rw [if_pos q] at hj
      by_cases p : r.idxOf x ≤ j
      · omega
      · exact absurd (List.mem_iff_getElem?.mpr ⟨j, by rw [List.getElem?_take, if_pos (by omega)]; exact hj⟩) (idx_not (ns := r) (x := x))
    · rw [if_neg q] at hj; cases hj
  refine idx_first (by rw [List.getElem?_take, if_pos hlt]; exact idx_get hm) ?_
  rw [List.take_take, Nat.min_eq_left (Nat.le_of_lt hlt)]
  exact idx_not
theorem plainP_take (r : List Int) (n : Nat) : plainP (r.take n) = (plainP r).take n := by
  unfold plainP
  rw [← List.map_take]
  refine List.map_congr_left fun x hx => ?_
  show ((plainAt (r.take n) x : Nat) : Int) = (plainAt r x : Nat)
  unfold plainAt
  have hlt : r.idxOf x ≤ n := by
    have := idx_lt hx
    rw [idx_take hx, List.length_take] at this
    omega
  rw [idx_take hx, List.take_take, Nat.min_eq_left hlt]
end Ur

namespace UrS
open PySem PySem.Spec PyProof.Rows L2
section
variable {prog : Program} {w : World} {A : Around} {E : Value → Shared → Prop} {s : Shared}
/-- xs[:0] = ys, both lists, at the library's level -/
theorem setFront {l sl b : Addr} {xs ys : Array Value} {n m : Nat} {vl vu vs : Value} {Q : Unit → Shared → Prop}
    (h1 : s.heap.get? l = some { cls := .type "list", data := .seq xs n }) (h2 : s.heap.get? b = some { cls := .type "list", data := .seq ys m }) (hne : b ≠ l)
    (h3 : s.heap.IsSliceOf sl vl vu vs) (pl : IsPart vl none) (pu : IsPart vu (some 0)) (ps : IsPart vs none) (hz : xs.size + ys.size ≤ 1000000)
    (q : Q () { s with heap := s.heap.update l (Obj.mapSeq fun zs => zs.extract 0 (0 : Int).toNat ++ ys ++ zs.extract (max (0 : Int) 0).toNat zs.size) }) :
    wpAny (model prog w) A (setItem (.ref l) (.ref sl) (.ref b)) Q E s := by
  have t1 : s.TypeIs (.ref l) "list" := ⟨_, h1, rfl⟩
  have t2 : s.TypeIs (.ref b) "list" := ⟨_, h2, rfl⟩
  obtain ⟨os, g1, g2, g3⟩ := id h3
  have t3 : s.TypeIs (.ref sl) "slice" := ⟨os, g1, g2⟩
  unfold setItem
  try with_reducible refine wpAny_holding ?_
  first | refine wpAny_bind (wpAny_pure ?_) | skip
  refine wpAny_bind (wpAny_sequenceKey t1 (by decide) ?_)
  refine wpAny_bind (wpAny_callSpecial?_slot (name := Str.ofString "__setitem__") t1 PySem.F.slot_list_setitem
    (wpAny_call_entry PySem.F.slot_list_setitem t1 PySem.F.entry_list_setitem ?_ (PySem.args_list_setitem _ _ _)))
  show wpAny _ _ (Builtin.List.listSubscript? (.ref sl) >>= _) _ _ s
  unfold Builtin.List.listSubscript?
  refine wpAny_bind (wpAny_bind (wpAny_specialOf t3 slice_no_index ?_))
  simp only [Option.isNone_none, if_true]
  refine wpAny_pure ?_
  show wpAny _ _ (typeOf (.ref sl) >>= fun _ => _) _ _ s
  refine wpAny_bind (wpAny_typeOf t3 ?_)
  rw [if_neg (by decide)]
  rw [listSliceParts_eq]
  have hst : ¬ ((rawPart none == rawInt 0) = true) := Bool.false_ne_true
  refine wpAny_bind (wpAny_bind (wpAny_field g1 g3 (x := vs) rfl (wpAny_bind (wpAny_listPart ps ?_))))
  rw [if_neg hst]
  refine wpAny_bind (wpAny_field g1 g3 (x := vl) rfl (wpAny_bind (wpAny_listPart pl ?_)))
  refine wpAny_bind (wpAny_field g1 g3 (x := vu) rfl (wpAny_bind (wpAny_listPart pu (wpAny_pure ?_))))
  have hs : ¬ (Builtin.List.listSameRef (.ref l) (.ref b) = true) := fun k => hne (eq_of_beq k).symm
  rw [if_neg hs]
  refine wpAny_bind ?_
  unfold Builtin.List.listAllItems
  refine wpAny_bind (wpAny_typeOf t2 ?_)
  rw [if_pos (by decide)]
  unfold Builtin.List.listItems
  first
  | refine wpAny_bind (wpAny_bind (wpAny_seqItems h2 rfl (wpAny_pure (wpAny_pure ?_))))
  | refine wpAny_bind (wpAny_seqItems h2 rfl (wpAny_pure ?_))
  first
  | refine wpAny_bind (wpAny_bind (wpAny_seqItems h1 rfl (wpAny_pure ?_)))
  | refine wpAny_bind (wpAny_seqItems h1 rfl (wpAny_pure ?_))
  have hb : sliceBounds none (some 0) none xs.size = (0, 0, 1) := by simp [sliceBounds]; omega
  refine wpAny_bind (wpAny_of_eq (sliceIndices_raw none (some 0) none xs.size (by decide)) ?_)
  rw [hb]
  rw [if_pos (by decide)]
  refine wpAny_bind (wpAny_rule ?_)
  have hlong : ¬ (Builtin.List.listTooLong (xs.size + ys.size) = true) := by
    unfold Builtin.List.listTooLong
    rw [sizeLine_eq]
    simp
    omega
  rw [if_neg hlong]
  refine wpAny_bind ?_
  unfold Builtin.List.listUpdate
  refine wpAny_updateSeq h1 rfl ?_ (by rw [sizeLine_eq]; omega) (by rw [sizeLine_eq]; simp; omega)
  refine wpAny_bind ?_
  have he : (xs.extract ((0 : Int), (0 : Int), (1 : Int)).fst.toNat (max ((0 : Int), (0 : Int), (1 : Int)).fst ((0 : Int), (0 : Int), (1 : Int)).2.fst).toNat).toList.reverse = [] := by simp
  rw [he]
  exact wpAny_pure (wpAny_pure ⟨.none, rfl, wpAny_pure q⟩)
end
section
variable {X : Cx}
def gFront (to : TE) : TG := fun v σ H Q => to σ H fun x H1 => ∃ (l b : Addr) (xs ys : List V), x = .ref l ∧ v = .ref b ∧ H1 l = some (.lst xs) ∧ H1 b = some (.lst ys) ∧ b ≠ l ∧ xs.length + ys.length ≤ 1000000 ∧ Q σ (upd H1 l (.lst (ys ++ xs)))
theorem pg_front {o : Expr} {to : TE} {k : Nat} {p1 p3 pos : Pos} (ho : PE X o to)
    (ha : ∀ v, assign (.Subscript o (.Slice none (some (.Constant (.int 0) k p1)) none p3) pos) X.env v = (do
      let ov ← holding [v] (eval o X.env)
      let iv ← holding [v, ov] (eval (.Slice none (some (.Constant (.int 0) k p1)) none p3) X.env)
      standAt pos
      holding [v, ov, iv] (setItem ov iv v)
      release [iv, v, ov] []) := by intro _; rfl) : PG X (.Subscript o (.Slice none (some (.Constant (.int 0) k p1)) none p3) pos) (gFront to) := by
  refine ⟨fun pins s σ H v u Q I r h => ?_⟩
  rw [ha]
  refine wpAny_bind (wpAny_holding (thn (ho.run pins s σ H _ I h) fun ov s1 ⟨x, H1, I1, r1, q1⟩ => ?_))
  refine wpAny_bind (wpAny_holding ?_)
  have hst : PO X (some (.Constant (.int 0) k p1)) (tPart (tC (.int 0))) := po_some pe_int
  refine wpAny_Slice (thn (po_none.run pins s1 σ H1 (fun o H2 => o = none ∧ H2 = H1) I1 ⟨rfl, rfl⟩) fun vl s2 ⟨l0, H2, I2, pl, el, e2⟩ => ?_)
  subst el e2
  refine thn (hst.run pins s2 σ H2 (fun o H3 => o = some 0 ∧ H3 = H2) I2 ⟨0, rfl, rfl, rfl⟩) fun vu s3 ⟨u0, H3, I3, pu, eu, e3⟩ => ?_
  subst eu e3
  refine thn (po_none.run pins s3 σ H3 (fun o H4 => o = none ∧ H4 = H3) I3 ⟨rfl, rfl⟩) fun vs s4 ⟨st, H4, I4, ps, eo, e4⟩ => ?_
  subst eo e4
  obtain ⟨l, b, xs, ys, rfl, rfl, hl, hb, hne, hz, q⟩ := q1
  cases r1
  cases r
  have I5 : Inv X pins σ H4 { s4 with heap := s4.heap.push { cls := .type "slice", data := .fields #[vl, vu, vs] } } := I4.kept (t' := s4.toks) fun c ob z => Heap.get?_push_of_some _ z
  obtain ⟨its, n, rv, ho5, hz5⟩ := I5.lst hl
  obtain ⟨its2, n2, rv2, hb5, _⟩ := I5.lst hb
  have e1 := rv.length
  have e2 := rv2.length
  refine wpAny_bind (wpAny_standAt (wpAny_bind (wpAny_holding ?_)))
  refine setFront ho5 hb5 hne (Heap.IsSliceOf.new _ vl vu vs) pl pu ps (by rw [List.size_toArray, List.size_toArray]; omega) ?_
  refine wpAny_release ⟨σ, _, ?_, q⟩
  refine I5.lstUpd (its' := its2 ++ its) (n' := if ((its2 ++ its).toArray.size == its.toArray.size) = true then n else n + 1) hl ho5 ?_ (rv2.append rv) (by rw [List.length_append]; exact Ur.sz (by omega)) _
  have a1 : its.toArray.extract 0 (Int.toNat 0) = #[] := by simp
  have a2 : its.toArray.extract (max (0 : Int) 0).toNat its.toArray.size = its.toArray := by
    show its.toArray.extract 0 its.toArray.size = its.toArray
    simp
  have a3 : #[] ++ its2.toArray ++ its.toArray = (its2 ++ its).toArray := by simp
  have a4 : its.toArray.extract 0 (Int.toNat 0) ++ its2.toArray ++ its.toArray.extract (max (0 : Int) 0).toNat its.toArray.size = (its2 ++ its).toArray := by rw [a1, a2, a3]
  exact congrArg (fun z : Array Value => ({ cls := .type "list", data := .seq z (if (z.size == its.toArray.size) = true then n else n + 1) } : Obj)) a4
end
end UrS

namespace Ur
open PySem L2
/-! ### first places of a window -/
def firP (ns : List Int) (f b : Int) : List Int := ((List.range (b - f).toNat).filter fun k => decide (lp ns (f.toNat + k) < f)).map fun k => f + (k : Nat)
theorem firP_len {ns : List Int} {f b : Int} (h0 : 0 ≤ f) (h1 : f ≤ b) (h2 : b ≤ ns.length) : (firP ns f b).length = wun ns f b := by
  have e := ulen_win (ns := ns) (f := f.toNat) (b.toNat - f.toNat) (by omega)
  unfold firP
  rw [List.length_map]
  show _ = ulen ((ns.drop f.toNat).take (b.toNat - f.toNat))
  rw [e, show (b - f).toNat = b.toNat - f.toNat from by omega, Int.toNat_of_nonneg h0]
  have e2 : ((lastP ns).drop f.toNat).take (b.toNat - f.toNat) = (List.range (b.toNat - f.toNat)).map fun k => lp ns (f.toNat + k) := by
    refine List.ext_getElem? fun k => ?_
    rw [List.getElem?_take]
    by_cases hk : k < b.toNat - f.toNat
    · rw [if_pos hk, List.getElem?_drop, lastP_get (by omega), List.getElem?_map, List.getElem?_range hk]
      rfl
    · rw [if_neg hk, List.getElem?_eq_none (by rw [List.length_map, List.length_range]; omega)]
  rw [e2, List.filter_map, List.length_map]
  rfl
theorem fir_not {ns : List Int} {f k : Nat} (h : f + k < ns.length) : (!decide (ns.getD (f + k) 0 ∈ (ns.drop f).take k)) = decide (lp ns (f + k) < (f : Int)) := by
  have q := last_in h
  by_cases hl : lp ns (f + k) < (f : Int)
  · have hm : ¬ ns.getD (f + k) 0 ∈ (ns.drop f).take k := fun z => q.mp z hl
    rw [decide_eq_true hl, decide_eq_false hm]; rfl
  · have hm : ns.getD (f + k) 0 ∈ (ns.drop f).take k := q.mpr hl
    rw [decide_eq_false hl, decide_eq_true hm]; rfl
/-! ### frames but at some places -/
def ButL (L : Addr → Prop) (H H' : Hp) : Prop := ∀ b o, ¬ L b → H b = some o → H' b = some o
theorem ButL.refl {L : Addr → Prop} {H : Hp} : ButL L H H := fun _ _ _ e => e
theorem ButL.trans {L : Addr → Prop} {H H1 H2 : Hp} (s : ButL L H H1) (t : ButL L H1 H2) : ButL L H H2 := fun b o n e => t b o n (s b o n e)
theorem ButL.same {L : Addr → Prop} {H H' : Hp} (s : Same H H') : ButL L H H' := fun b o _ e => s b o e
theorem ButL.but {L : Addr → Prop} {H H' : Hp} {a : Addr} (s : But a H H') (l : L a) : ButL L H H' := fun b o n e => s b o (fun k => n (k ▸ l)) e
structure PairL (L : Addr → Prop) (H : Hp) (p : Addr) : Prop where
  both : ¬ L p ∧ ∃ (a b : Addr) (ns : List Int), ¬ L a ∧ ¬ L b ∧ H p = some (.lst [.ref a, .ref b]) ∧ H a = some (.lst (ns.map V.int)) ∧ H b = some (.lst (ns.map V.int))
structure HeldL (L : Addr → Prop) (h : Addr) (H : Hp) (n : Nat) : Prop where
  all : ∃ ps : List Addr, H h = some (.lst (ps.map V.ref)) ∧ ps.length ≤ n ∧ ∀ p ∈ ps, PairL L H p
theorem PairL.step {L : Addr → Prop} {p : Addr} {H H' : Hp} (k : PairL L H p) (b : ButL L H H') : PairL L H' p := by
  obtain ⟨n, x, y, ns, hx, hy, e, e1, e2⟩ := k.both
  exact ⟨n, x, y, ns, hx, hy, b _ _ n e, b _ _ hx e1, b _ _ hy e2⟩
theorem HeldL.step {L : Addr → Prop} {h : Addr} {H H' : Hp} {n : Nat} (k : HeldL L h H n) (b : ButL L H H') (hh : ∀ xs, H h = some (.lst xs) → H' h = some (.lst xs)) : HeldL L h H' n := by
  obtain ⟨ps, e, l, f⟩ := k.all
  exact ⟨ps, hh _ e, l, fun p hp => (f p hp).step b⟩
theorem HeldL.mono {L : Addr → Prop} {h : Addr} {H : Hp} {n m : Nat} (k : HeldL L h H n) (l : n ≤ m) : HeldL L h H m := by
  obtain ⟨ps, e, q, f⟩ := k.all
  exact ⟨ps, e, Nat.le_trans q l, f⟩
theorem HeldL.sub {L L' : Addr → Prop} {h : Addr} {H : Hp} {n : Nat} (k : HeldL L h H n) (l : ∀ b, L' b → L b) : HeldL L' h H n := by
  obtain ⟨ps, e, q, f⟩ := k.all
  refine ⟨ps, e, q, fun p hp => ?_⟩
  obtain ⟨n, x, y, ns, hx, hy, g⟩ := (f p hp).both
  exact ⟨fun z => n (l _ z), x, y, ns, fun z => hx (l _ z), fun z => hy (l _ z), g⟩
/-- .. of a place that is new, too -/
theorem HeldL.more {L : Addr → Prop} {h a : Addr} {H : Hp} {n : Nat} (k : HeldL L h H n) (ha : H a = none) : HeldL (fun x => L x ∨ x = a) h H n := by
  obtain ⟨ps, e, q, f⟩ := k.all
  refine ⟨ps, e, q, fun p hp => ?_⟩
  obtain ⟨n, x, y, ns, hx, hy, g1, g2, g3⟩ := (f p hp).both
  have ne : ∀ z (o : HO), H z = some o → z ≠ a := fun z o e1 e2 => by rw [e2, ha] at e1; cases e1
  exact ⟨fun z => z.elim n (ne _ _ g1), x, y, ns, fun z => z.elim hx (ne _ _ g2), fun z => z.elim hy (ne _ _ g3), g1, g2, g3⟩
end Ur
namespace Ur
open PySem L2
theorem Rdy.butL {C : Addr} {L L' : Addr → Prop} {H H' : Hp} {o : Addr} {ns : List Int} (r : Rdy C L H o ns) (l : ∀ b, L' b → L b) (s : ButL L' H H') : Rdy C L H' o ns := by
  obtain ⟨dx, la, na, e1, e2, e3, f⟩ := r.all
  exact ⟨dx, la, na, s _ _ (fun z => (f o (l _ z)).1 rfl) e1, s _ _ (fun z => (f la (l _ z)).2.1 rfl) e2, s _ _ (fun z => (f na (l _ z)).2.2 rfl) e3, f⟩
theorem HeldL.grow {L : Addr → Prop} {h p : Addr} {H H' : Hp} {n : Nat} {ps : List Addr} (l : ps.length ≤ n) (f : ∀ p ∈ ps, PairL L H p) (b : ButL L H H') (e : H' h = some (.lst ((ps ++ [p]).map V.ref))) (k : PairL L H' p) : HeldL L h H' (n + 1) :=
  ⟨ps ++ [p], e, by rw [List.length_append]; exact Nat.succ_le_succ l, fun q hq => by
    rcases List.mem_append.mp hq with z | z
    · exact (f q z).step b
    · rw [List.mem_singleton.mp z]; exact k⟩
theorem ButL.at_ {L : Addr → Prop} {H H' : Hp} {a : Addr} {o : HO} (s : ButL L H H') (l : L a) : ButL L H (upd H' a o) := fun b u n e => by
  have ne : b ≠ a := fun k => n (by rw [k]; exact l)
  rw [upd_ne ne]; exact s b u n e
theorem ButL.new {L : Addr → Prop} {H H' : Hp} {a : Addr} {o : HO} (s : ButL L H H') (na : H' a = none) : ButL L H (upd H' a o) := fun b u n e => by
  have e' := s b u n e
  rw [upd_ne (ne_of_none e' na)]; exact e'
end Ur
namespace Ur
open PySem L2
theorem PairL.more {L : Addr → Prop} {H : Hp} {p a : Addr} (k : PairL L H p) (ha : H a = none) : PairL (fun x => L x ∨ x = a) H p := by
  obtain ⟨n, x, y, ns, hx, hy, g1, g2, g3⟩ := k.both
  have ne : ∀ z (o : HO), H z = some o → z ≠ a := fun z o e1 e2 => by rw [e2, ha] at e1; cases e1
  exact ⟨fun z => z.elim n (ne _ _ g1), x, y, ns, fun z => z.elim hx (ne _ _ g2), fun z => z.elim hy (ne _ _ g3), g1, g2, g3⟩
theorem ButL.out {L : Addr → Prop} {H H' : Hp} {a : Addr} (s : ButL (fun x => L x ∨ x = a) H H') (ha : H a = none) : ButL L H H' := fun b o n e =>
  s b o (fun z => z.elim n (fun k => by rw [k, ha] at e; cases e)) e
theorem wun_le {ns : List Int} {f b : Int} : wun ns f b ≤ ns.length := by
  refine Nat.le_trans (ulen_le _) ?_
  unfold win
  rw [List.length_take, List.length_drop]
  omega
end Ur

namespace Ur
open PySem L2
/-! ### xs[l:u:c], c above 0 -/
def tStep3 (K : PySem.W.Frag) (te tl tu tc : TE) : TE := fun σ H Q => te σ H fun x H1 => tPart tl σ H1 fun l H2 => tPart tu σ H2 fun u H3 => tPart tc σ H3 fun c H4 =>
  ∃ a xs c', x = .ref a ∧ c = some c' ∧ 0 < c' ∧ SqL K H4 a xs ∧ ∀ p ys, (∀ y ∈ ys, y ∈ xs) → ys.length ≤ xs.length → H4 p = none → Q (.ref p) (upd H4 p (.lst ys))
open PySem.Spec PyProof.Rows in
theorem pe_step3 {X : Cx} {e el eu ec : Expr} {te tl tu tc : TE} {p3 pos : Pos} (he : PE X e te) (hl : PE X el tl) (hu : PE X eu tu) (hc : PE X ec tc) : PE X (.Subscript e (.Slice (some el) (some eu) (some ec) p3) pos) (tStep3 X.K te tl tu tc) := by
  refine ⟨fun pins s σ H Q I h => ?_⟩
  refine Subscript_ (thn (he.run pins s σ H _ I h) fun v s1 ⟨x, H1, I1, r1, q1⟩ => ?_)
  refine wpAny_Slice (thn ((po_some hl).run pins s1 σ H1 _ I1 q1) fun vl s2 ⟨l, H2, I2, pl, q2⟩ => ?_)
  refine thn ((po_some hu).run pins s2 σ H2 _ I2 q2) fun vu s3 ⟨u, H3, I3, pu, q3⟩ => ?_
  refine thn ((po_some hc).run pins s3 σ H3 _ I3 q3) fun vs s4 ⟨c, H4, I4, ps, q4⟩ => ?_
  obtain ⟨a, xs, c', rfl, rfl, hpos, hx, q⟩ := q4
  cases r1
  have I5 : Inv X pins σ H4 { s4 with heap := s4.heap.push { cls := .type "slice", data := .fields #[vl, vu, vs] } } := I4.kept (t' := s4.toks) fun b ob z => Heap.get?_push_of_some _ z
  obtain ⟨its, r, ht, hz⟩ := I5.list hx
  have hlen := r.length
  show wpAny (model X.prog X.w) X.A (subscriptTail e (.Slice (some el) (some eu) (some ec) p3) (.ref a) (.ref s4.heap.objs.size)) (EP X pins σ Q) X.xe { s4 with heap := s4.heap.push { cls := .type "slice", data := .fields #[vl, vu, vs] } }
  refine tail_any (ops := [.ref a, .ref s4.heap.objs.size]) ht.isList.typeIs (PySem.slot_list_getitem.lookup) ?_ (by with_unfolding_all rfl)
  refine wpAny_getItem_list_slice ht.isList (Heap.IsSliceOf.new _ vl vu vs) pl pu ps (fun k => by cases k; omega) ?_ (by rw [List.size_toArray]; omega)
  have hid : ∀ n : Nat, (sliceRange (sliceBounds l u (some c') n).1 (sliceBounds l u (some c') n).2.1 (sliceBounds l u (some c') n).2.2).length ≤ n := fun n => by
    have e1 : (sliceBounds l u (some c') n).2.2 = c' := rfl
    refine sliceRange_length_le _ _ _ n (fun _ => ⟨?_, ?_⟩) (fun k => absurd (by rw [e1]; exact hpos) k)
    · unfold sliceBounds
      cases l with
      | none => simp [hpos]
      | some i => simp [hpos]; omega
    · unfold sliceBounds
      cases u with
      | none => simp [hpos]
      | some i => simp [hpos]; omega
  have hid2 := hid its.toArray.size
  unfold slicePick
  generalize hI : sliceRange (sliceBounds l u (some c') its.toArray.size).1 (sliceBounds l u (some c') its.toArray.size).2.1 (sliceBounds l u (some c') its.toArray.size).2.2 = ids at hid2
  have hv := vals_pick r ids
  have hly : (ids.filterMap fun i => xs[i]?).length ≤ xs.length := by
    refine Nat.le_trans (List.length_filterMap_le _ _) ?_
    rw [List.size_toArray] at hid2
    omega
  refine ⟨.ref _, _, I5.laid (t' := s4.toks) (o := .lst (ids.filterMap fun i => xs[i]?)) (fun b ob z => Heap.get?_push_of_some _ z) (Nat.le_refl _) ?_, rfl, q _ _ (fun y hy => ?_) hly (I5.hok.fresh (Nat.le_refl _))⟩
  · exact ⟨by omega, _, 0, hv, Heap.get?_push_size _ rfl⟩
  · obtain ⟨i, _, e⟩ := List.mem_filterMap.mp hy
    exact List.mem_of_getElem? e
end Ur

/-! list(reversed(l)), l a list: a new list -/
namespace UrV
open PySem PySem.W PySem.Calls PyProof.Rows RT
section
variable {prog : Program} {w : World} {A : Around} {E : Value → Shared → Prop} {s : Shared}
theorem rv_extend {R : Result → Shared → Prop} {it l S : Addr} {items : Array Value} (hh : A.handled = none) (hit : s.heap.IsRevIter it l ((items.size : Int) - 1)) (hl : s.heap.IsList l items) (hne : l ≠ it) (hn : items.size ≤ sizeLine) (hSi : S ≠ it) (hSl : S ≠ l) (res : Value) (c₀ : Nat)
    (hS : s.heap.get? S = some { cls := .type "list", data := .seq #[] c₀ })
    (hR : ∀ h' tk acc c, (∀ b o, b ≠ S → b ≠ it → s.heap.get? b = some o → h'.get? b = some o) → h'.get? S = some { cls := .type "list", dict := none, data := .seq acc c, slots := #[] } → ItemsOf (fun i v => items[items.size - 1 - i]? = some v) acc items.size → R (.ok (.ret res)) { s with heap := h', toks := tk }) :
    wpAny (model prog w) A.in1 (Builtin.List.listExtendWith (.ref S) (.ref it) res)
      (fun fin s' => match fin with | .done f => R (.ok f) s' | .again c' => c'.quiet = true ∧ codeAny (model prog w) A c' R s') (fun e s' => R (.error e) s') s := by
  have W := (Walks.listRev (prog := prog) (w := w) (A := A.in1) hh it l hne items).toS
  have hSf : S ∉ [it, l] := by simp only [List.mem_cons, List.not_mem_nil, or_false, not_or]; exact ⟨hSi, hSl⟩
  have hT : s.TypeIs (.ref it) "list_reverseiterator" := Heap.IsRevIter.typeIs hit
  have h1 : Builtin.List.listSameRef (.ref S) (.ref it) = false := by simp [Builtin.List.listSameRef, hSi]
  unfold Builtin.List.listExtendWith
  refine wpAny_bind (wpAny_typeOf hT ?_)
  rw [if_neg (by rw [h1]; decide)]
  refine wpAny_bind (wpAny_pyIter_revIter hit ?_)
  refine wpAny_bind (wpAny_holding ?_)
  unfold Builtin.List.listLengthHint
  refine wpAny_bind (wpAny_specialOf hT nolen_lri ?_)
  show wpAny _ A.in1 (specialOf (Value.ref it) (Str.ofString "__length_hint__") >>= _) _ _ _
  refine wpAny_bind (wpAny_specialOf hT hint_lri ?_)
  generalize hid : ("list_reverseiterator.__length_hint__" : String) = id0
  wp_delta
  rw [show splitId id0 = some ("list_reverseiterator", "__length_hint__") from by subst hid; decide +kernel]
  subst hid
  refine wpAny_bind (wpAny_isInstance (b := true) hT (by rw [isSubtype_type]; kernel_rfl) ?_)
  refine wpAny_pure ?_
  rw [if_neg (by decide)]
  have e0 : ((items.size : Nat) : Int) - 1 - ((0 : Nat) : Int) = (items.size : Int) - 1 := by omega
  refine wpAny_pure ⟨plainId_quiet PySem.F.plain_extend_loop _, codeAny_extend_loopS W hn _ hSf _ items.size 0 _ _ _ rfl (Nat.zero_le _) ⟨Nat.zero_le _, by rw [e0]; exact hit, hl⟩ hS (ItemsOf.nil _) fun s' acc' c' hm hS' hacc => ?_⟩
  rw [Moved.eq_with hm]
  refine hR s'.heap s'.toks acc' c' (fun b o hb1 hb2 e => hm.heap b o (fun hmem => ?_) e) hS' hacc
  rcases List.mem_cons.mp hmem with e' | hmem
  · exact hb1 e'
  · exact hb2 (List.mem_singleton.mp hmem)
theorem call_list_rev {it l : Addr} {items : Array Value} {Q : Value → Shared → Prop} (hh : A.handled = none) (hit : s.heap.IsRevIter it l ((items.size : Int) - 1)) (hl : s.heap.IsList l items) (hne : l ≠ it) (hn : items.size ≤ sizeLine)
    (hQ : ∀ (h' : Heap) (tk c : Nat) (acc : Array Value), (∀ b o, b ≠ it → s.heap.get? b = some o → h'.get? b = some o) → ItemsOf (fun i v => items[items.size - 1 - i]? = some v) acc items.size →
      h'.get? s.heap.objs.size = some { cls := .type "list", dict := none, data := .seq acc c, slots := #[] } → Q (.ref s.heap.objs.size) { s with heap := h', toks := tk }) :
    wpAny (model prog w) A (call (.type "list") [.ref it]) Q E s := by
  refine callType_codes (Q₁ := fun obj s₁ => obj = .ref s.heap.objs.size ∧ s₁ = { s with heap := s.heap.push { cls := .type "list", data := .seq #[] } }) PySem.F.called_list (PySem.F.typeCall_list_1 _) PySem.F.entry_list_init
    (code_list_new _ ⟨rfl, rfl⟩) fun obj s₁ h₁ => ?_
  obtain ⟨rfl, rfl⟩ := h₁
  have hS : (s.heap.push { cls := .type "list", data := .seq #[] }).get? s.heap.objs.size = some { cls := .type "list", data := .seq #[] } := Heap.get?_push_size _ rfl
  have hil : it < s.heap.objs.size := let ⟨_, z, _⟩ := hit; Heap.lt_size z
  have hll : l < s.heap.objs.size := let ⟨_, z, _⟩ := hl; Heap.lt_size z
  refine ⟨⟨_, hS, rfl⟩, PySem.F.args_list_init_2 _ _, ?_⟩
  show wpAny _ _ (do let old ← Builtin.List.listItems (.ref s.heap.objs.size); Builtin.List.listUpdate (.ref s.heap.objs.size) (fun _ => #[]); letGo old.toList.reverse; Builtin.List.listExtendWith (.ref s.heap.objs.size) (.ref it) .none) _ _ _
  refine wpAny_bind ?_
  unfold Builtin.List.listItems
  refine wpAny_bind (wpAny_seqItems hS rfl (wpAny_pure ?_))
  show wpAny _ _ (updateSeq s.heap.objs.size (fun _ => #[]) >>= fun _ => letGo (#[] : Array Value).toList.reverse >>= fun _ => Builtin.List.listExtendWith (.ref s.heap.objs.size) (.ref it) .none) _ _ _
  refine wpAny_bind (wpAny_updateSeq hS rfl ?_)
  have hS₂ := Heap.get?_update_self (Obj.mapSeq (fun _ => (#[] : Array Value))) hS rfl
  have oth : ∀ b o, s.heap.get? b = some o → ((s.heap.push { cls := .type "list", data := .seq #[] }).update s.heap.objs.size (Obj.mapSeq (fun _ => (#[] : Array Value)))).get? b = some o :=
    fun b o z => (Heap.get?_update_other _ _ (Nat.ne_of_gt (Heap.lt_size z))).trans (Heap.get?_push_of_some _ z)
  refine wpAny_bind (wpAny_letGo ?_)
  refine rv_extend (A := A.in1) hh (hit.at fun o z => oth it o z) (hl.at fun o z => oth l o z) hne hn (Nat.ne_of_gt hil) (Nat.ne_of_gt hll) .none _ hS₂ fun h' tk acc c hk hS' hacc => ?_
  exact ⟨rfl, hQ h' tk c acc (fun b o h1 z => hk b o (Nat.ne_of_lt (Heap.lt_size z)) h1 (oth b o z)) hacc hS'⟩
end
open PySem.Spec L2
def tListRev (K : PySem.W.Frag) (te : TE) : TE := fun σ H Q => te σ H fun v H1 => ∃ (a : Addr) (xs : List V), v = .ref a ∧ SqL K H1 a xs ∧ ∀ q, H1 q = none → Q (.ref q) (upd H1 q (.lst xs.reverse))
theorem pe_listRev {X : Cx} {K : PySem.W.Frag} {e : Expr} {te : TE} {p p2 pos pos2 : Pos} (hk : X.K = K) (hc : X.calm = true) (hm : X.mg "list" = none) (hm2 : X.mg "reversed" = none) (he : PE X e te) (hg : Gl X "list" := by rfl) (hg2 : Gl X "reversed" := by rfl)
    (hs : starEach [e] X.env = (false, eval e X.env) :: starEach [] X.env := by rfl)
    (hs2 : starEach [.Call (.Name "reversed" p2) [e] [] pos2] X.env = (false, eval (.Call (.Name "reversed" p2) [e] [] pos2) X.env) :: starEach [] X.env := by rfl) :
    PE X (.Call (.Name "list" p) [.Call (.Name "reversed" p2) [e] [] pos2] [] pos) (tListRev K te) := by
  subst hk
  refine ⟨fun pins s σ H Q I h => ?_⟩
  refine Call_ (ld_blt I hg hm boot_list (PyProof.Rows.callWith_type1 (args_cons (Call_ (ld_blt I hg2 hm2 PyProof.Rows.boot_reversed (PyProof.Rows.callWith_type1 (args_cons (thn (he.run pins s σ H _ I h) fun u s1 ⟨v, H1, I1, r1, q1⟩ => args_nil ?_) hs) hs rfl))) hs2) hs2 rfl))
  obtain ⟨a, xs, ev, hq, q⟩ := q1
  subst ev
  obtain rfl : u = Value.ref a := r1
  obtain ⟨its, rv, p', hz⟩ := I1.list hq
  refine call_reversed_list p'.isList (args_nil ?_)
  have hl := p'.isList
  obtain ⟨ol, hol, _⟩ := id hl
  have hne : a ≠ s1.heap.objs.size := Nat.ne_of_lt (Heap.lt_size hol)
  have hn : its.toArray.size ≤ sizeLine := by rw [List.size_toArray, ← rv.length]; exact hz
  refine call_list_rev (s := { s1 with heap := s1.heap.push (revObj a ((its.toArray.size : Int) - 1)) }) (I1.ok.hd hc) ⟨_, Heap.get?_push_size _ rfl, rfl, rfl⟩ (hl.push _) hne hn fun h' tk c acc hk hi hS => ?_
  have hsz : (s1.heap.push (revObj a ((its.toArray.size : Int) - 1))).objs.size = s1.heap.objs.size + 1 := Heap.size_push _ _
  have hsz1 : s1.heap.objs.size ≤ (s1.heap.push (revObj a ((its.toArray.size : Int) - 1))).objs.size := by omega
  refine ⟨.ref _, upd H1 _ (.lst xs.reverse), I1.laid (t' := tk) (fun b o e => hk b o (Nat.ne_of_lt (Heap.lt_size e)) (Heap.get?_push_of_some _ e)) hsz1 (show ObjOk X.prog X.w _ _ _ (.lst xs.reverse) from ⟨by rw [List.length_reverse]; exact hz, acc.toList, c, vals_rev rv hi, ?_⟩), rfl, q _ (I1.hok.fresh hsz1)⟩
  rw [Array.toArray_toList]
  exact hS
end UrV

namespace Ur
open PySem L2
/-! ### windows of one width -/
/-- how many unlike numbers all windows of a width have -/
def ofW (ns : List Int) (w : Nat) : List Int := (List.range (ns.length + 1 - w)).map fun f => (wunN ns f (f + w) : Int)
theorem ofW_len (ns : List Int) (w : Nat) : (ofW ns w).length = ns.length + 1 - w := by simp [ofW]
theorem ofW_get {ns : List Int} {w f : Nat} (h : f + w ≤ ns.length) : (ofW ns w)[f]? = some (wunN ns f (f + w) : Int) := by
  unfold ofW
  rw [List.getElem?_map, List.getElem?_range (by omega)]
  rfl
theorem ofW_getD {ns : List Int} {w f : Nat} (h : f + w ≤ ns.length) : (ofW ns w).getD f 0 = (wunN ns f (f + w) : Int) := getD_of (ofW_get h)
/-- a window one further on -/
theorem wunN_slide {ns : List Int} {f w : Nat} (h : f + w < ns.length) : (wunN ns (f + 1) (f + 1 + w) : Int) = (wunN ns f (f + w) : Int) - (if ((f + w : Nat) : Int) ≤ nx ns f then 1 else 0) + (if lp ns (f + w) ≤ (f : Int) then 1 else 0) := by
  rcases Nat.eq_zero_or_pos w with rfl | hw
  · have h1 := lp_range ns f
    have e1 : ((f + 0 : Nat) : Int) ≤ nx ns f := by
      unfold nx
      rcases nextUp_spec ns f ns.length (Nat.le_refl _) with ⟨e, _⟩ | ⟨v, e, h1, _⟩ <;> rw [e] <;> omega
    simp only [Nat.add_zero] at e1 ⊢
    rw [wunN_none, wunN_none, if_pos e1, if_pos (show lp ns f ≤ (f : Int) by omega)]
    rfl
  · have d := wunN_down (ns := ns) (p := f) (b := f + w) (by omega) (by omega)
    have u := wunN_up (ns := ns) (f := f + 1) (b := f + w) (by omega) h
    rw [show f + w + 1 = f + 1 + w from by omega] at u
    rw [u, d]
    have e : (lastAt ns (f + w) (ns.getD (f + w) 0) < ((f + 1 : Nat) : Int)) = (lp ns (f + w) ≤ (f : Int)) := by
      unfold lp
      exact propext ⟨fun h => by omega, fun h => by omega⟩
    show ((_ + (if lastAt ns (f + w) (ns.getD (f + w) 0) < ((f + 1 : Nat) : Int) then 1 else 0) : Nat) : Int) = _
    simp only [e]
    show _ = ((_ + (if ((f + w : Nat) : Int) ≤ nextUp ns f ns.length then 1 else 0) : Nat) : Int) - (if ((f + w : Nat) : Int) ≤ nextUp ns f ns.length then 1 else 0) + _
    (repeat' split) <;> omega
/-- the sums for each width -/
def sumsW (ns : List Int) : List Int := (List.range (ns.length + 1)).map fun w => (ofW ns w).sum
/-- a line of the law's table: the windows from f on -/
def lineW (ns : List Int) (f : Nat) : List Int := (List.range (ns.length - f + 1)).map fun k => (wunN ns f (f + k) : Int)
theorem lineW_len (ns : List Int) (f : Nat) : (lineW ns f).length = ns.length - f + 1 := by simp [lineW]
theorem lineW_get {ns : List Int} {f k : Nat} (h : k < ns.length - f + 1) : (lineW ns f)[k]? = some (wunN ns f (f + k) : Int) := by
  unfold lineW
  rw [List.getElem?_map, List.getElem?_range h]
  rfl
theorem lineW_getD {ns : List Int} {f k : Nat} (h : k < ns.length - f + 1) : (lineW ns f).getD k 0 = (wunN ns f (f + k) : Int) := getD_of (lineW_get h)
/-- what is due of a width, behind the lines ahead of f and k numbers of the line f -/
def dueW (ns : List Int) (f k w : Nat) : Int := sumTo (fun g => if g + w ≤ ns.length then (wunN ns g (g + w) : Int) else 0) f + if w < k then (wunN ns f (f + w) : Int) else 0
theorem dueW_up {ns : List Int} {f w : Nat} (hf : f ≤ ns.length) : dueW ns f (ns.length - f + 1) w = dueW ns (f + 1) 0 w := by
  unfold dueW
  show _ = sumTo _ f + (if f + w ≤ ns.length then (wunN ns f (f + w) : Int) else 0) + 0
  by_cases h : w < ns.length - f + 1
  · rw [if_pos h, if_pos (by omega)]; omega
  · rw [if_neg h, if_neg (by omega)]; omega
theorem dueW_end {ns : List Int} {w : Nat} (hw : w ≤ ns.length) : dueW ns (ns.length + 1) 0 w = (ofW ns w).sum := by
  unfold dueW ofW
  rw [sum_range, sumTo_cut _ (show ns.length + 1 - w ≤ ns.length + 1 by omega)]
  rw [show (if w < 0 then (wunN ns (ns.length + 1) (ns.length + 1 + w) : Int) else 0) = 0 from rfl, Int.add_zero]
  exact sumTo_congr fun g hg => by
    by_cases h : g + w ≤ ns.length
    · rw [if_pos h, if_pos (by omega)]
    · rw [if_neg h, if_neg (by omega)]
/-! ### told things that are held, each a tuple of two lists of the same ints -/
structure PairT (h : Addr) (H : Hp) (p : Addr) : Prop where
  both : ∃ (a b : Addr) (ns : List Int), a ≠ h ∧ b ≠ h ∧ p ≠ h ∧ H p = some (.tup [.ref a, .ref b]) ∧ H a = some (.lst (ns.map V.int)) ∧ H b = some (.lst (ns.map V.int))
structure HeldT (h : Addr) (H : Hp) (n : Nat) : Prop where
  all : ∃ ps : List Addr, H h = some (.lst (ps.map V.ref)) ∧ ps.length ≤ n ∧ ∀ p ∈ ps, PairT h H p
theorem PairT.step {h p : Addr} {H H' : Hp} (k : PairT h H p) (b : But h H H') : PairT h H' p := by
  obtain ⟨x, y, ns, hx, hy, hp, e, e1, e2⟩ := k.both
  exact ⟨x, y, ns, hx, hy, hp, b _ _ hp e, b _ _ hx e1, b _ _ hy e2⟩
theorem HeldT.same {h : Addr} {H H' : Hp} {n : Nat} (k : HeldT h H n) (s : Same H H') : HeldT h H' n := by
  obtain ⟨ps, e, l, f⟩ := k.all
  exact ⟨ps, s _ _ e, l, fun p hp => (f p hp).step (Same.but s)⟩
theorem HeldT.snoc {h p : Addr} {H H' : Hp} {m n : Nat} {ps : List Addr} (e : H h = some (.lst (ps.map V.ref))) (l : ps.length ≤ n) (f : ∀ p ∈ ps, PairT h H p) (b : But h H H') (e' : H' h = some (.lst (ps.map V.ref ++ [V.ref p]))) (g : PairT h H' p) (hm : n + 1 ≤ m) : HeldT h H' m :=
  ⟨ps ++ [p], by rw [e', List.map_append]; rfl, by rw [List.length_append]; exact Nat.le_trans (Nat.succ_le_succ l) hm, fun q hq => by
    rcases List.mem_append.mp hq with k | k
    · exact (f q k).step b
    · rw [List.mem_singleton.mp k]; exact g⟩
end Ur
namespace Ur
open PySem L2
theorem putK_same {kvs : List (Key × V)} {k : Key} {v : V} (h : (valV kvs k).isSome = true) : (putK kvs k v).length = kvs.length := by
  have e : (kvs.any fun kv => decide (kv.1 = k)) = true := (valV_any k kvs).trans h
  unfold putK
  rw [e, if_pos rfl, List.length_map]
theorem putK_none {kvs : List (Key × V)} {k : Key} {v : V} (h : (valV kvs k).isSome = false) : (putK kvs k v).length = kvs.length + 1 :=
  putK_len (Option.not_isSome_iff_eq_none.mp (by rw [h]; exact Bool.false_ne_true))
/-- a dict of the ints that were met -/
structure Met (kvs : List (Key × V)) (W : List Int) : Prop where
  has : ∀ z : Int, (valV kvs (Sum.inl z)).isSome = decide (z ∈ W)
  len : kvs.length = ulen W
theorem Met.nil : Met [] [] := ⟨fun z => by simp [valV_nil], rfl⟩
theorem Met.put {kvs : List (Key × V)} {W : List Int} (m : Met kvs W) (x : Int) (v : V) : Met (putK kvs (Sum.inl x) v) (W ++ [x]) := by
  refine ⟨fun z => ?_, ?_⟩
  · rw [val_put]
    by_cases h : z = x
    · subst h; simp
    · rw [if_neg h, m.has]; simp [h]
  · rw [ulen_snoc]
    by_cases h : x ∈ W
    · rw [if_pos h, putK_same (by rw [m.has]; exact decide_eq_true h), m.len]
    · rw [if_neg h, putK_none (by rw [m.has]; exact decide_eq_false h), m.len]
end Ur
namespace Ur
open PySem L2
/-- what is due of all widths -/
def dueL (ns : List Int) (f k : Nat) : List Int := (List.range (ns.length + 1)).map (dueW ns f k)
theorem dueL_len (ns : List Int) (f k : Nat) : (dueL ns f k).length = ns.length + 1 := by simp [dueL]
theorem dueL_get {ns : List Int} {f k w : Nat} (h : w < ns.length + 1) : (dueL ns f k)[w]? = some (dueW ns f k w) := by
  unfold dueL
  rw [List.getElem?_map, List.getElem?_range h]
  rfl
theorem dueL_0 (ns : List Int) : dueL ns 0 0 = List.replicate (ns.length + 1) 0 := by
  refine List.ext_getElem? fun w => ?_
  by_cases h : w < ns.length + 1
  · rw [dueL_get h, List.getElem?_replicate, if_pos h]
    rfl
  · rw [List.getElem?_eq_none (by rw [dueL_len]; omega), List.getElem?_eq_none (by rw [List.length_replicate]; omega)]
theorem dueL_set {ns : List Int} {f k : Nat} (h : k < ns.length - f + 1) : (dueL ns f k).set k ((dueL ns f k).getD k 0 + (lineW ns f).getD k 0) = dueL ns f (k + 1) := by
  refine List.ext_getElem? fun w => ?_
  by_cases hw : w < ns.length + 1
  · rw [List.getElem?_set, dueL_len, dueL_get hw, dueL_get hw, getD_of (dueL_get (show k < ns.length + 1 by omega)), lineW_getD h]
    unfold dueW
    by_cases e : k = w
    · subst e
      rw [if_pos rfl, if_pos (by omega), if_neg (Nat.lt_irrefl _), if_pos (Nat.lt_succ_self _)]
      simp
    · rw [if_neg e]
      by_cases c : w < k
      · rw [if_pos c, if_pos (by omega)]
      · rw [if_neg c, if_neg (by omega)]
  · rw [List.getElem?_eq_none (by rw [List.length_set, dueL_len]; omega), List.getElem?_eq_none (by rw [dueL_len]; omega)]
theorem dueL_up {ns : List Int} {f : Nat} (hf : f ≤ ns.length) : dueL ns f (ns.length - f + 1) = dueL ns (f + 1) 0 :=
  List.map_congr_left fun _ _ => dueW_up hf
theorem dueL_end (ns : List Int) : dueL ns (ns.length + 1) 0 = sumsW ns :=
  List.map_congr_left fun _ h => dueW_end (by have := List.mem_range.mp h; omega)
theorem sumsW_len (ns : List Int) : (sumsW ns).length = ns.length + 1 := by simp [sumsW]
end Ur

namespace Ur
open PySem PySem.Spec PyProof.Rows L2
/-- xs[i], by values: for xs[i] += e -/
theorem get_list {X : Cx} : PGet X (rIxL X.K) := by
  intro pins s σ H x y v u Q I rx ry h
  obtain ⟨p, xs, i, z, rfl, rfl, hq, he, q⟩ := h
  cases rx
  obtain ⟨t, rfl⟩ := ry
  obtain ⟨its, r, pl, hz⟩ := I.list hq
  obtain ⟨j, h1, h2, h3, h4, h5⟩ := atI_get he
  obtain ⟨w, ew, rw'⟩ := r.get h2
  have hl := r.length
  have hn := line63
  have fin : EP X pins σ Q w s := ⟨z, H, I, rw', q⟩
  by_cases h0 : 0 ≤ i
  · have hj : i.toNat = j := by
      rw [seqIndex_of h0 h5] at h1
      exact Option.some.inj h1
    exact wpAny_getItem_list pl.isList h0 (by omega) (by rw [hj]; simpa using ew) fin
  · have hj : (i + (its.toArray.size : Int)).toNat = j := by
      rw [seqIndex_neg (by omega) h4] at h1
      rw [List.size_toArray, ← hl]
      exact Option.some.inj h1
    exact wpAny_getItem_list_neg pl.isList (by omega) (by rw [List.size_toArray] <;> omega) (by omega) (by rw [hj]; simpa using ew) fin
end Ur

namespace Ur
open PySem L2
/-! ### things of a known kind -/
def Kind (H : Hp) (v : V) : Prop :=
  (∃ i, v = .int i) ∨ (∃ b, v = .bl b) ∨ (∃ x, v = .str x) ∨ v = .non ∨ (∃ p xs, v = .ref p ∧ H p = some (.lst xs)) ∨ (∃ p xs, v = .ref p ∧ H p = some (.tup xs)) ∨ ∃ p kvs, v = .ref p ∧ H p = some (.dK kvs)
theorem Kind.int {H : Hp} {i : Int} : Kind H (.int i) := .inl ⟨i, rfl⟩
theorem Kind.bl {H : Hp} {b : Bool} : Kind H (.bl b) := .inr (.inl ⟨b, rfl⟩)
theorem Kind.str {H : Hp} {x : Str} : Kind H (.str x) := .inr (.inr (.inl ⟨x, rfl⟩))
theorem Kind.non {H : Hp} : Kind H .non := .inr (.inr (.inr (.inl rfl)))
theorem Kind.lst {H : Hp} {p : Addr} {xs : List V} (e : H p = some (.lst xs)) : Kind H (.ref p) := .inr (.inr (.inr (.inr (.inl ⟨p, xs, rfl, e⟩))))
theorem Kind.tup {H : Hp} {p : Addr} {xs : List V} (e : H p = some (.tup xs)) : Kind H (.ref p) := .inr (.inr (.inr (.inr (.inr (.inl ⟨p, xs, rfl, e⟩)))))
theorem Kind.dct {H : Hp} {p : Addr} {kvs : List (Key × V)} (e : H p = some (.dK kvs)) : Kind H (.ref p) := .inr (.inr (.inr (.inr (.inr (.inr ⟨p, kvs, rfl, e⟩)))))
theorem Kind.same {H H' : Hp} {v : V} (k : Kind H v) (s : Same H H') : Kind H' v := by
  rcases k with ⟨i, rfl⟩ | ⟨b, rfl⟩ | ⟨x, rfl⟩ | rfl | ⟨p, xs, rfl, e⟩ | ⟨p, xs, rfl, e⟩ | ⟨p, xs, rfl, e⟩
  · exact .int
  · exact .bl
  · exact .str
  · exact .non
  · exact .lst (s _ _ e)
  · exact .tup (s _ _ e)
  · exact .dct (s _ _ e)
theorem Kind.but {a : Addr} {H H' : Hp} {v : V} (k : Kind H v) (b : But a H H') (h : v ≠ .ref a) : Kind H' v := by
  rcases k with ⟨i, rfl⟩ | ⟨c, rfl⟩ | ⟨x, rfl⟩ | rfl | ⟨p, xs, rfl, e⟩ | ⟨p, xs, rfl, e⟩ | ⟨p, xs, rfl, e⟩
  · exact .int
  · exact .bl
  · exact .str
  · exact .non
  · exact .lst (b _ _ (fun z => h (by rw [z])) e)
  · exact .tup (b _ _ (fun z => h (by rw [z])) e)
  · exact .dct (b _ _ (fun z => h (by rw [z])) e)
/-- a fact laid aside -/
structure Bx (P : Prop) : Prop where
  out : P
theorem nwA {H : Hp} {x p : Addr} {o : HO} (h : H x = some o) (n : H p = none) : x ≠ p := fun e => by rw [e, n] at h; cases h
/-! ### told things that are held, each a tuple of two lists of the same ints, none of them there in B -/
/-- no place of B -/
structure NoneIn (B : Hp) (x : Addr) : Prop where
  out : B x = none
structure PairN (B : Hp) (h : Addr) (H : Hp) (p : Addr) : Prop where
  both : ∃ (a b : Addr) (ns : List Int), a ≠ h ∧ b ≠ h ∧ p ≠ h ∧ NoneIn B a ∧ NoneIn B b ∧ NoneIn B p ∧ H p = some (.tup [.ref a, .ref b]) ∧ H a = some (.lst (ns.map V.int)) ∧ H b = some (.lst (ns.map V.int))
structure HeldN (B : Hp) (h : Addr) (H : Hp) (n : Nat) : Prop where
  all : ∃ ps : List Addr, H h = some (.lst (ps.map V.ref)) ∧ ps.length ≤ n ∧ ∀ p ∈ ps, PairN B h H p
theorem PairN.step {B : Hp} {h p : Addr} {H H' : Hp} (k : PairN B h H p) (b : But h H H') : PairN B h H' p := by
  obtain ⟨x, y, ns, hx, hy, hp, k1, k2, k3, e, e1, e2⟩ := k.both
  exact ⟨x, y, ns, hx, hy, hp, k1, k2, k3, b _ _ hp e, b _ _ hx e1, b _ _ hy e2⟩
theorem HeldN.same {B : Hp} {h : Addr} {H H' : Hp} {n : Nat} (k : HeldN B h H n) (s : Same H H') : HeldN B h H' n := by
  obtain ⟨ps, e, l, f⟩ := k.all
  exact ⟨ps, s _ _ e, l, fun p hp => (f p hp).step (Same.but s)⟩
theorem HeldN.le {B : Hp} {h : Addr} {H : Hp} {n m : Nat} (k : HeldN B h H n) (l : n ≤ m) : HeldN B h H m := by
  obtain ⟨ps, e, l', f⟩ := k.all
  exact ⟨ps, e, Nat.le_trans l' l, f⟩
/-- another object changes, that was there in B -/
theorem HeldN.other {B : Hp} {h a : Addr} {H H' : Hp} {n : Nat} {o : HO} (k : HeldN B h H n) (b : But a H H') (e : B a = some o) (ne : h ≠ a) : HeldN B h H' n := by
  obtain ⟨ps, eh, l, f⟩ := k.all
  refine ⟨ps, b _ _ ne eh, l, fun p hp => ?_⟩
  obtain ⟨x, y, ns, hx, hy, hp, k1, k2, k3, e0, e1, e2⟩ := (f p hp).both
  have no : ∀ {z : Addr}, NoneIn B z → z ≠ a := fun k z => by have k := k.out; rw [z, e] at k; cases k
  exact ⟨x, y, ns, hx, hy, hp, k1, k2, k3, b _ _ (no k3) e0, b _ _ (no k1) e1, b _ _ (no k2) e2⟩
theorem HeldN.snoc {B : Hp} {h p : Addr} {H H' : Hp} {m n : Nat} {ps : List Addr} (l : ps.length ≤ n) (f : ∀ p ∈ ps, PairN B h H p) (b : But h H H') (e' : H' h = some (.lst (ps.map V.ref ++ [V.ref p]))) (g : PairN B h H' p) (hm : n + 1 ≤ m) : HeldN B h H' m :=
  ⟨ps ++ [p], by rw [e', List.map_append]; rfl, by rw [List.length_append]; exact Nat.le_trans (Nat.succ_le_succ l) hm, fun q hq => by
    rcases List.mem_append.mp hq with k | k
    · exact (f q k).step b
    · rw [List.mem_singleton.mp k]; exact g⟩
/-- what there is in B is there in H -/
structure Within (B H : Hp) : Prop where
  free : ∀ x, H x = none → B x = none
theorem Within.none {B H : Hp} {x : Addr} (w : Within B H) (e : H x = none) : NoneIn B x := ⟨w.free x e⟩
theorem Within.refl {B : Hp} : Within B B := ⟨fun _ e => e⟩
theorem Within.upd {B H : Hp} {a : Addr} {o : HO} (w : Within B H) : Within B (upd H a o) := ⟨fun _ e => w.free _ (upd_none e)⟩
theorem Within.same {B H H' : Hp} (w : Within B H) (s : Same H H') : Within B H' := ⟨fun _ e => w.free _ (s.free e)⟩
theorem Within.but {a : Addr} {o : HO} {B H H' : Hp} (w : Within B H) (b : But a H H') (e : H' a = some o) : Within B H' := ⟨fun x n => by
  refine w.free x ?_
  cases k : H x with
  | none => rfl
  | some u =>
    have ne : x ≠ a := fun z => by rw [z, e] at n; cases n
    rw [b _ _ ne k] at n; cases n⟩
theorem HeldN.within {B : Hp} {h : Addr} {H H' : Hp} {n : Nat} (k : HeldN B h H' n) (w : Within B H) (b : But h H H') : Within B H' := by
  obtain ⟨ps, eh, _, _⟩ := k.all
  exact w.but b eh
end Ur

namespace Ur
open PySem L2 PySem.Spec PyProof.Rows
/-! ### an exception in hand -/
/-- isinstance of the exception that the suite holds: a class, or a tuple of classes -/
def rIsX (K : PySem.W.Frag) (cls : Value) (d : Option Addr) (a : Addr) : List V → Hp → VK → Prop := fun xs H Q =>
  ∃ (D : Addr) (c : V) (b : Bool), xs = [.ref a, c] ∧ cls = .ref D ∧ d = none ∧ ExcC K D ∧
    ((∃ u, ClsV c u ∧ PySem.W.kitOne K (.ref D) u = some b) ∨ ∃ (tp : Addr) (cs : List V) (us : List Value), c = .ref tp ∧ H tp = some (.tup cs) ∧ Paired ClsV cs us ∧ PySem.W.kitAny K (.ref D) us = some b) ∧ Q (.bl b) H
theorem call_isX {X : Cx} {K : PySem.W.Frag} (hK : X.K = K) {a : Addr} {cls : Value} {d : Option Addr} {oe : Obj} (hz : Zc cls d oe) (hf : ∃ vs, oe.data = .fields vs) (hp : (a, oe) ∈ X.pn) : CallR X (.builtin "isinstance") (rIsX K cls d a) := by
  subst hK
  intro pins s σ H xs us Q I r h
  obtain ⟨D, c, b, rfl, rfl, rfl, C, hc, q⟩ := h
  obtain ⟨u1, u2, rfl, r1, r2⟩ := vals2 r
  cases (show u1 = Value.ref a from r1)
  obtain ⟨hget, _⟩ := I.pin (a, oe) (List.mem_append.mpr (.inl hp))
  obtain ⟨vs, hv⟩ := hf
  have J : PySem.W.InstAt s.heap a oe D none := by
    obtain ⟨oc, od, oda, osl⟩ := oe
    obtain ⟨h1, h2⟩ := hz
    dsimp only at h1 h2 hv
    subst h1 h2 hv
    exact ⟨hget, rfl, rfl, trivial⟩
  have Z := PySem.W.handS_kitx_exc (x := a) (ox := oe) C.hg C.hk C.hs C.hd C.ha C.hn C.ht C.hm
  rcases hc with ⟨u, k, e⟩ | ⟨tp, cs, ws, rfl, hT, k, e⟩
  · have e2 := k.eq r2
    subst e2
    exact PySem.W.kia_one Z I.kIn J e (fun z => nomatch z) fun tk => ⟨.bl b, H, I.kept (t' := tk) fun _ _ z => z, rfl, q⟩
  · cases (show u2 = Value.ref tp from r2)
    obtain ⟨_, its, rv, o, h1, h2, n, h3⟩ := (show ObjOk X.prog X.w H s.heap tp (.tup cs) from I.hok tp _ hT)
    have e3 := ClsV.all k rv
    subst e3
    obtain ⟨oc, od, dt, sl⟩ := o
    simp only at h2 h3
    subst h2 h3
    exact PySem.W.kia_tup Z I.kIn J h1 e (fun z => nomatch z) fun tk => ⟨.bl b, H, I.kept (t' := tk) fun _ _ z => z, rfl, q⟩
/-- a method of a built-in object, the fragment told -/
theorem pe_bmK {X : Cx} {K : PySem.W.Frag} {o e : Expr} {es : List Expr} {to : TE} {t : TA} {name : Str} {apos cpos : Pos} {T id : String} {r : V → List V → Hp → VK → Prop} (hK : X.K = K) (pa : PlainAttrs T) (slot : Slot T name id) (hty : typeOf (.builtin id) = pure (.type "method_descriptor")) (hm : MtR X id r) (ho : PE X o to) (ha : PA X (e :: es) t)
    (h1 : attributeBase o name X.env (eval o X.env) = eval o X.env := by rfl)
    (h2 : ((backTo cpos (starEach (e :: es) X.env)).all (fun x => !x.1) && (backToKw cpos (keywordEach [] X.env)).all (fun x => x.1.isSome) && decide ((e :: es).length + ([] : List Keyword).length + (if ([] : List Keyword).isEmpty then 0 else 1) < 30)) = true := by rfl)
    (h3 : (apos.endLine == cpos.line) = true := by rfl) (h4 : starEach (e :: es) X.env = (false, eval e X.env) :: starEach es X.env := by rfl) (h5 : (backTo cpos (starEach es X.env)).any (·.1) = false := by rfl) :
    PE X (.Call (.Attribute o name apos) (e :: es) [] cpos) (tBM K T r to t) := by
  subst hK
  exact pe_bm pa slot hty hm ho ha h1 h2 h3 h4 h5
theorem isX1 {K : PySem.W.Frag} {D a C : Addr} {b : Bool} {H : Hp} {Q : VK} (E : ExcC K D) (h : PySem.W.kitOne K (.ref D) (.ref C) = some b) (q : Q (.bl b) H) : rIsX K (.ref D) none a [.ref a, .ref C] H Q :=
  ⟨D, _, b, rfl, rfl, rfl, E, .inl ⟨_, .own C, h⟩, q⟩
theorem isXT {K : PySem.W.Frag} {D a : Addr} {n : String} {b : Bool} {H : Hp} {Q : VK} (E : ExcC K D) (h : PySem.W.kitOne K (.ref D) (.type n) = some b) (q : Q (.bl b) H) : rIsX K (.ref D) none a [.ref a, .ty n] H Q :=
  ⟨D, _, b, rfl, rfl, rfl, E, .inl ⟨_, .ty n, h⟩, q⟩
/-- of none of these classes -/
def NoneOf (K : PySem.W.Frag) (D : Addr) (cs : List Addr) : Prop := ∀ c ∈ cs, PySem.W.kitOne K (.ref D) (.ref c) = some false
theorem NoneOf.any {K : PySem.W.Frag} {D : Addr} : ∀ {cs : List Addr}, NoneOf K D cs → PySem.W.kitAny K (.ref D) (cs.map Value.ref) = some false
  | [], _ => rfl
  | c :: cs, h => kitAny_cons (h c List.mem_cons_self) (fun _ => NoneOf.any fun x hx => h x (List.mem_cons_of_mem _ hx)) (fun z => nomatch z)
theorem NoneOf.pair : ∀ (cs : List Addr), Paired ClsV (cs.map V.ref) (cs.map Value.ref)
  | [] => .nil
  | c :: cs => .cons (.own c) (NoneOf.pair cs)
theorem isX2 {K : PySem.W.Frag} {D a p : Addr} {vs : List V} {cs : List Addr} {H : Hp} {Q : VK} (E : ExcC K D) (h : NoneOf K D cs) (e : H p = some (.tup vs)) (hv : vs = cs.map V.ref) (q : Q (.bl false) H) : rIsX K (.ref D) none a [.ref a, .ref p] H Q :=
  ⟨D, _, false, rfl, rfl, rfl, E, .inr ⟨p, _, _, rfl, by rw [e, hv], NoneOf.pair cs, h.any⟩, q⟩
theorem NoneOf.nil {K : PySem.W.Frag} {D : Addr} : NoneOf K D [] := fun _ h => nomatch h
theorem NoneOf.cons {K : PySem.W.Frag} {D c : Addr} {cs : List Addr} (h : PySem.W.kitOne K (.ref D) (.ref c) = some false) (t : NoneOf K D cs) : NoneOf K D (c :: cs) := fun x hx => by
  rcases List.mem_cons.mp hx with rfl | k
  · exact h
  · exact t x k
theorem rEq_kinds {K : PySem.W.Frag} {H : Hp} {a b : Addr} {Q : VK} (h1 : H a = some (.lst [.bl true, .bl true, .bl false])) (h2 : H b = some (.lst [.bl true, .bl true, .bl false])) (q : Q (.bl true) H) : rEqD K (.ref a) (.ref b) H Q :=
  ⟨_, _, .lst (SqL.of h1) (.cons (.bl _) (.cons (.bl _) (.cons (.bl _) .nil))), .lst (SqL.of h2) (.cons (.bl _) (.cons (.bl _) (.cons (.bl _) .nil))), by decide, by decide, q⟩
end Ur

namespace Ur
open PySem L2
/-! ### range(0, b, c) -/
theorem rgc_up {b c : Int} (hb : 0 ≤ b) (hb' : b ≤ 1000000) (hc : 0 < c) (hc' : c ≤ 1000000) : ∃ n : Nat, (n : Int) ≤ b ∧ (∀ i : Nat, i < n → 0 ≤ 0 + (i : Int) * c ∧ 0 + (i : Int) * c < b) ∧ RgC 0 b c n := by
  by_cases h : 0 < b
  · have h1 : 0 ≤ (b - 0 - 1) / c := Int.ediv_nonneg (by omega) (by omega)
    have h2 : (b - 0 - 1) / c ≤ b - 0 - 1 := Int.ediv_le_self c (by omega)
    have e : Builtin.Range.rangeSize 0 b c = (b - 0 - 1) / c + 1 := by
      unfold Builtin.Range.rangeSize
      rw [if_pos hc, if_pos h]
    refine ⟨((b - 0 - 1) / c + 1).toNat, by omega, fun i hi => ⟨by have := Int.mul_nonneg (Int.natCast_nonneg i) (Int.le_of_lt hc); omega, ?_⟩, by omega, by omega, ?_, ?_⟩
    · have k1 : (i : Int) ≤ (b - 0 - 1) / c := by omega
      have k2 : (i : Int) * c ≤ (b - 0 - 1) / c * c := Int.mul_le_mul_of_nonneg_right k1 (by omega)
      have k3 := Int.ediv_mul_le (b - 0 - 1) (show c ≠ 0 by omega)
      omega
    · unfold Builtin.Range.small
      rw [e, if_pos hc]
      simp only [Builtin.Range.rangeFitsLong, Bool.and_eq_true, Bool.or_eq_true, decide_eq_true_eq, beq_iff_eq]
      omega
    · rw [e]; omega
  · have hb0 : b = 0 := by omega
    subst hb0
    refine ⟨0, by omega, fun i hi => absurd hi (Nat.not_lt_zero _), by omega, by omega, ?_, ?_⟩
    · unfold Builtin.Range.small Builtin.Range.rangeSize
      rw [if_pos hc, if_pos hc]
      simp only [Builtin.Range.rangeFitsLong, Bool.and_eq_true, Bool.or_eq_true, decide_eq_true_eq, beq_iff_eq]
      omega
    · unfold Builtin.Range.rangeSize
      rw [if_pos hc]
      rfl
end Ur

namespace Ur
open PySem L2
/-! ### lists of lists of ints -/
/-- n lists at ls, the k-th of them F k -/
structure RowsF (H : Hp) (ls : List Addr) (n : Nat) (F : Nat → List Int) : Prop where
  len : ls.length = n
  row : ∀ k p, ls[k]? = some p → H p = some (.lst ((F k).map V.int))
theorem RowsF.same {H H' : Hp} {ls : List Addr} {n : Nat} {F : Nat → List Int} (r : RowsF H ls n F) (s : Same H H') : RowsF H' ls n F := ⟨r.len, fun k p e => s _ _ (r.row k p e)⟩
theorem RowsF.but {a : Addr} {H H' : Hp} {ls : List Addr} {n : Nat} {F : Nat → List Int} (r : RowsF H ls n F) (b : But a H H') (no : ∀ p ∈ ls, p ≠ a) : RowsF H' ls n F := ⟨r.len, fun k p e => b _ _ (no p (List.mem_of_getElem? e)) (r.row k p e)⟩
theorem RowsF.congr {H : Hp} {ls : List Addr} {n : Nat} {F G : Nat → List Int} (r : RowsF H ls n F) (e : ∀ k, k < n → F k = G k) : RowsF H ls n G := ⟨r.len, fun k p h => by
  have hk := (List.getElem?_eq_some_iff.mp h).1
  rw [← e k (by have := r.len; omega)]
  exact r.row k p h⟩
theorem RowsF.is {H : Hp} {ls : List Addr} {n : Nat} {F : Nat → List Int} (r : RowsF H ls n F) {p : Addr} (hp : p ∈ ls) : ∃ ns : List Int, H p = some (.lst (ns.map V.int)) := by
  obtain ⟨k, hk⟩ := List.getElem?_of_mem hp
  exact ⟨F k, r.row k p hk⟩
theorem RowsF.snoc {H H4 : Hp} {Dl q : Addr} {qs : List Addr} {i : Nat} {F : Nat → List Int} {o : HO} (r : RowsF H qs i F) (s : Same H H4) (no : ∀ p ∈ qs, p ≠ Dl) (e : H4 q = some (.lst ((F i).map V.int))) (hq : q ≠ Dl) : RowsF (upd H4 Dl o) (qs ++ [q]) (i + 1) F := by
  refine ⟨by rw [List.length_append, r.len]; rfl, fun k p h => ?_⟩
  by_cases hk : k < qs.length
  · rw [List.getElem?_append_left hk] at h
    rw [upd_ne (no p (List.mem_of_getElem? h))]
    exact s _ _ (r.row k p h)
  · have h2 := (List.getElem?_eq_some_iff.mp h).1
    rw [List.length_append] at h2
    have h3 : [q].length = 1 := rfl
    have hk2 : k = qs.length := by omega
    subst hk2
    rw [List.getElem?_append_right (Nat.le_refl _), Nat.sub_self] at h
    cases h
    rw [upd_ne hq, r.len]
    exact e
theorem dpAll_of {K : PySem.W.Frag} {H : Hp} : ∀ (vs : List V) (ds : List PyData), vs.length = ds.length → (∀ (k : Nat) (v : V) (d : PyData), vs[k]? = some v → ds[k]? = some d → Dp K H v d) → DpAll K H vs ds
  | [], [], _, _ => .nil
  | [], _ :: _, h, _ => by cases h
  | _ :: _, [], h, _ => by cases h
  | v :: vs, d :: ds, h, f => .cons (f 0 v d rfl rfl) (dpAll_of vs ds (Nat.succ.inj h) fun k v d h1 h2 => f (k + 1) v d h1 h2)
theorem canLayAll_of : ∀ ds : List PyData, (∀ d ∈ ds, PyData.canLay0 d = true) → PyData.canLayAll0 ds = true
  | [], _ => rfl
  | d :: ds, f => by
    show (PyData.canLay0 d && PyData.canLayAll0 ds) = true
    rw [canLayAll_of ds fun x h => f x (List.mem_cons_of_mem _ h), f d List.mem_cons_self]
    rfl
theorem depthAll_of {m : Nat} : ∀ ds : List PyData, (∀ d ∈ ds, PyData.depth d ≤ m) → PyData.depthAll ds ≤ m
  | [], _ => by
    rw [PyData.depthAll]
    exact Nat.zero_le _
  | d :: ds, f => by
    rw [PyData.depthAll]
    exact Nat.max_le.mpr ⟨f d List.mem_cons_self, depthAll_of ds fun x h => f x (List.mem_cons_of_mem _ h)⟩
theorem eqvAll_refl : ∀ ds : List PyData, (∀ d ∈ ds, PyData.eqv d d = true) → PyData.eqvAll ds ds = true
  | [], _ => rfl
  | d :: ds, f => by
    show (PyData.eqv d d && PyData.eqvAll ds ds) = true
    rw [eqvAll_refl ds fun x h => f x (List.mem_cons_of_mem _ h), f d List.mem_cons_self]
    rfl
/-- the data of such a list -/
def rowsD (n : Nat) (F : Nat → List Int) : List PyData := (List.range n).map fun k => PyData.list ((F k).map PyData.int)
theorem dp_rows {K : PySem.W.Frag} {H : Hp} {a : Addr} {ls : List Addr} {n : Nat} {F : Nat → List Int} (h : SqL K H a (ls.map V.ref)) (r : RowsF H ls n F) : Dp K H (.ref a) (.list (rowsD n F)) := by
  refine .lst h (dpAll_of _ _ (by rw [rowsD, List.length_map, List.length_map, List.length_range, r.len]) fun k v d h1 h2 => ?_)
  rw [List.getElem?_map] at h1
  obtain ⟨p, hp, rfl⟩ := Option.map_eq_some_iff.mp h1
  have hk := (List.getElem?_eq_some_iff.mp hp).1
  rw [rowsD, List.getElem?_map, List.getElem?_range (by have := r.len; omega)] at h2
  cases h2
  exact dp_ints (SqL.of (r.row k p hp))
theorem shaped_rows (n : Nat) (F : Nat → List Int) : SeqAt.shaped (.list (rowsD n F)) = true := by
  refine shaped_of (canLayAll_of _ fun d h => ?_) ?_
  · obtain ⟨k, _, rfl⟩ := List.mem_map.mp h
    exact canLayAll_ints _
  · have h := depthAll_of (m := 2) (rowsD n F) fun d h => by
      obtain ⟨k, _, rfl⟩ := List.mem_map.mp h
      exact depth_ints _
    rw [PyData.depth]
    omega
theorem eqv_rows (n : Nat) (F : Nat → List Int) : PyData.eqv (.list (rowsD n F)) (.list (rowsD n F)) = true := by
  show PyData.eqvAll _ _ = true
  refine eqvAll_refl _ fun d h => ?_
  obtain ⟨k, _, rfl⟩ := List.mem_map.mp h
  rw [eqv_ints]
  exact decide_eq_true rfl
theorem rEq_rows {K : PySem.W.Frag} {H : Hp} {a b : Addr} {ls ms : List Addr} {n : Nat} {F : Nat → List Int} {Q : VK} (h1 : SqL K H a (ls.map V.ref)) (h2 : SqL K H b (ms.map V.ref)) (r1 : RowsF H ls n F) (r2 : RowsF H ms n F) (q : Q (.bl true) H) : rEqD K (.ref a) (.ref b) H Q :=
  ⟨_, _, dp_rows h1 r1, dp_rows h2 r2, shaped_rows n F, shaped_rows n F, by rw [eqv_rows]; exact q⟩
theorem rNe_rows {K : PySem.W.Frag} {H : Hp} {a b : Addr} {ls ms : List Addr} {n : Nat} {F : Nat → List Int} {Q : VK} (h1 : SqL K H a (ls.map V.ref)) (h2 : SqL K H b (ms.map V.ref)) (r1 : RowsF H ls n F) (r2 : RowsF H ms n F) (q : Q (.bl false) H) : rNeD K (.ref a) (.ref b) H Q :=
  ⟨_, _, dp_rows h1 r1, dp_rows h2 r2, shaped_rows n F, shaped_rows n F, by rw [eqv_rows]; exact q⟩
section
variable {K : PySem.W.Frag} {a : Addr} {σ : L2.St} {H1 : Hp} {Dl : Addr} {te : TE} {vs : List Nat} {j : Nat} {lo : Int} {n : Nat} {Qd : Hp → Prop}
/-- [e for k in range(..)], each e a new list of ints -/
theorem lc_rngL (F : Nat → List Int) (hn : n ≤ 1000000) (hD : H1 Dl = none) (hw : ∀ x, wipe ((wipe σ vs).set j (some x)) vs = wipe σ vs)
    (he : ∀ (k : Nat) H', k < n → Same H1 H' → ∀ Q' : VK, (∀ q H4, Same H' H4 → H4 q = some (.lst ((F k).map V.int)) → H' q = none → Q' (.ref q) H4) → te ((wipe σ vs).set j (some (.int (lo + (k : Nat))))) H' Q')
    (hd : ∀ H' qs, Same H1 H' → H' Dl = some (.lst (qs.map V.ref)) → RowsF H' qs n F → (∀ q ∈ qs, H1 q = none ∧ q ≠ Dl) → qs.Nodup → Qd H') :
    ∃ W : Nat → Nat → Hp → Prop, (∃ m, W 0 m (upd H1 Dl (.lst []))) ∧ ∀ i m H, W i m H →
      ((Itr lo n).stop i H ∧ Qd H) ∨ ((Itr lo n).go i H ∧ ∃ Nx : Hp → Prop, (∀ H', Nx H' → ∃ m', m' < m ∧ W (i + 1) m' H') ∧ ∀ x H', (Itr lo n).yld i H x H' → gName j x (wipe σ vs) H' fun σ2 H2 => wipe σ2 vs = wipe σ vs ∧ tYes σ2 H2 fun b H3 =>
        if b = true then te σ2 H3 fun y H4 => ∃ acc, H4 Dl = some (.lst acc) ∧ acc.length < sizeLine ∧ Nx (upd H4 Dl (.lst (acc ++ [y]))) else Nx H3) := by
  refine lc_range (lo := lo) (n := n) (fun i H' => ∃ qs : List Addr, Same H1 H' ∧ H' Dl = some (.lst (qs.map V.ref)) ∧ RowsF H' qs i F ∧ (∀ q ∈ qs, H1 q = none ∧ q ≠ Dl) ∧ qs.Nodup) ⟨[], same_new hD, upd_same, ⟨rfl, fun k p h => nomatch h⟩, (fun q h => nomatch h), List.nodup_nil⟩ (fun i H' hi p => ?_) (fun H' p => ?_)
  · obtain ⟨qs, s1, eD, r, f, nd⟩ := p
    refine ⟨hw _, ?_⟩
    refine tyes_ok ?_
    refine he i H' hi s1 _ fun q H4 s e nq => ?_
    have qD : q ≠ Dl := fun z => by rw [z, eD] at nq; cases nq
    refine ⟨_, s _ _ eD, szl (by rw [List.length_map, r.len]; omega), qs ++ [q], same_upd' hD (s1.trans s), ?_, r.snoc s (fun p hp => (f p hp).2) e qD, fun p hp => ?_, ?_⟩
    · rw [upd_same, List.map_append]; rfl
    · rcases List.mem_append.mp hp with h | h
      · exact f p h
      · rw [List.mem_singleton.mp h]; exact ⟨s1.free nq, qD⟩
    · rw [List.nodup_append]
      refine ⟨nd, List.nodup_cons.mpr ⟨List.not_mem_nil, List.nodup_nil⟩, fun x hx y hy z => ?_⟩
      rw [List.mem_singleton.mp hy] at z
      obtain ⟨ms, em⟩ := r.is hx
      rw [z, nq] at em
      cases em
  · obtain ⟨qs, s1, eD, r, f, nd⟩ := p
    exact hd H' qs s1 eD r f nd
/-- [e for p in a list], each e a new list of ints -/
theorem lc_refsL {ls : List Addr} (F : Nat → List Int) (hn : ls.length ≤ 1000000) (ha : SqL K H1 a (ls.map V.ref)) (hD : H1 Dl = none) (hw : ∀ x, wipe ((wipe σ vs).set j (some x)) vs = wipe σ vs)
    (he : ∀ (k : Nat) p H', ls[k]? = some p → Same H1 H' → ∀ Q' : VK, (∀ q H4, Same H' H4 → H4 q = some (.lst ((F k).map V.int)) → H' q = none → Q' (.ref q) H4) → te ((wipe σ vs).set j (some (.ref p))) H' Q')
    (hd : ∀ H' qs, Same H1 H' → H' Dl = some (.lst (qs.map V.ref)) → RowsF H' qs ls.length F → (∀ q ∈ qs, H1 q = none ∧ q ≠ Dl) → qs.Nodup → Qd H') :
    ∃ W : Nat → Nat → Hp → Prop, (∃ m, W 0 m (upd H1 Dl (.lst []))) ∧ ∀ i m H, W i m H →
      ((Itl K a).stop i H ∧ Qd H) ∨ ((Itl K a).go i H ∧ ∃ Nx : Hp → Prop, (∀ H', Nx H' → ∃ m', m' < m ∧ W (i + 1) m' H') ∧ ∀ x H', (Itl K a).yld i H x H' → gName j x (wipe σ vs) H' fun σ2 H2 => wipe σ2 vs = wipe σ vs ∧ tYes σ2 H2 fun b H3 =>
        if b = true then te σ2 H3 fun y H4 => ∃ acc, H4 Dl = some (.lst acc) ∧ acc.length < sizeLine ∧ Nx (upd H4 Dl (.lst (acc ++ [y]))) else Nx H3) := by
  refine lc_list (K := K) (a := a) (xs := ls.map V.ref) (fun i H' => ∃ qs : List Addr, Same H1 H' ∧ H' Dl = some (.lst (qs.map V.ref)) ∧ RowsF H' qs i F ∧ (∀ q ∈ qs, H1 q = none ∧ q ≠ Dl) ∧ qs.Nodup) ⟨[], same_new hD, upd_same, ⟨rfl, fun k p h => nomatch h⟩, (fun q h => nomatch h), List.nodup_nil⟩ (fun i H' _ p => ?_) (fun i x H' hx p => ?_) (fun H' p => ?_)
  · obtain ⟨qs, s1, _⟩ := p
    exact s1.seq ha
  · obtain ⟨qs, s1, eD, r, f, nd⟩ := p
    rw [List.getElem?_map] at hx
    obtain ⟨p0, hp0, rfl⟩ := Option.map_eq_some_iff.mp hx
    have hi := (List.getElem?_eq_some_iff.mp hp0).1
    refine ⟨hw _, ?_⟩
    refine tyes_ok ?_
    refine he i p0 H' hp0 s1 _ fun q H4 s e nq => ?_
    have qD : q ≠ Dl := fun z => by rw [z, eD] at nq; cases nq
    refine ⟨_, s _ _ eD, szl (by rw [List.length_map, r.len]; omega), qs ++ [q], same_upd' hD (s1.trans s), ?_, r.snoc s (fun p hp => (f p hp).2) e qD, fun p hp => ?_, ?_⟩
    · rw [upd_same, List.map_append]; rfl
    · rcases List.mem_append.mp hp with h | h
      · exact f p h
      · rw [List.mem_singleton.mp h]; exact ⟨s1.free nq, qD⟩
    · rw [List.nodup_append]
      refine ⟨nd, List.nodup_cons.mpr ⟨List.not_mem_nil, List.nodup_nil⟩, fun x hx y hy z => ?_⟩
      rw [List.mem_singleton.mp hy] at z
      obtain ⟨ms, em⟩ := r.is hx
      rw [z, nq] at em
      cases em
  · obtain ⟨qs, s1, eD, r, f, nd⟩ := p
    rw [List.length_map] at r
    exact hd H' qs s1 eD r f nd
end
end Ur
namespace Ur
open PySem L2
theorem lineW_drop {ns : List Int} {k : Nat} (h : k ≤ ns.length) : lineW (ns.drop k) 0 = lineW ns k := by
  unfold lineW
  rw [List.length_drop, Nat.sub_zero]
  refine List.map_congr_left fun j _ => ?_
  show ((ulen (((ns.drop k).drop 0).take (0 + j - 0)) : Nat) : Int) = ((ulen ((ns.drop k).take (k + j - k)) : Nat) : Int)
  rw [List.drop_zero, show 0 + j - 0 = j by omega, show k + j - k = j by omega]
end Ur
namespace Ur
open PySem L2
/-- all of ls are other places than a -/
structure Off (ls : List Addr) (a : Addr) : Prop where
  out : ∀ p ∈ ls, p ≠ a
theorem RowsF.offNew {H : Hp} {x : Addr} {ls : List Addr} {n : Nat} {F : Nat → List Int} (r : RowsF H ls n F) (e : H x = none) : Off ls x := ⟨fun p hp z => by
  obtain ⟨ms, em⟩ := r.is hp
  rw [z, e] at em
  cases em⟩
theorem offOld {H : Hp} {x : Addr} {o : HO} {ls : List Addr} (f : ∀ p ∈ ls, H p = none) (e : H x = some o) : Off ls x := ⟨fun p hp z => by
  have h := f p hp
  rw [z, e] at h
  cases h⟩
theorem RowsF.upd {H : Hp} {x : Addr} {o : HO} {ls : List Addr} {n : Nat} {F : Nat → List Int} (r : RowsF H ls n F) (f : Off ls x) : RowsF (upd H x o) ls n F := ⟨r.len, fun k p e => by
  rw [upd_ne (f.out p (List.mem_of_getElem? e))]
  exact r.row k p e⟩
theorem nodup_idx {α : Type} {ls : List α} (nd : ls.Nodup) {i k : Nat} {p : α} (h1 : ls[i]? = some p) (h2 : ls[k]? = some p) : i = k := by
  obtain ⟨a1, b1⟩ := List.getElem?_eq_some_iff.mp h1
  obtain ⟨a2, b2⟩ := List.getElem?_eq_some_iff.mp h2
  have w := List.pairwise_iff_getElem.mp nd
  rcases Nat.lt_trichotomy i k with c | c | c
  · exact absurd (b1.trans b2.symm) (w i k a1 a2 c)
  · exact c
  · exact absurd (b2.trans b1.symm) (w k i a2 a1 c)
/-- one of the lists has changed -/
theorem RowsF.set {H H' : Hp} {qs : List Addr} {n i : Nat} {l : Addr} {F : Nat → List Int} {ns : List Int} (r : RowsF H qs n F) (nd : qs.Nodup) (hl : qs[i]? = some l) (e : H' l = some (.lst (ns.map V.int))) (b : But l H H') : RowsF H' qs n (fun k => if k = i then ns else F k) := ⟨r.len, fun k p h => by
  show _ = some (HO.lst ((if k = i then ns else F k).map V.int))
  by_cases hk : k = i
  · subst hk
    rw [hl] at h
    cases h
    rw [if_pos rfl]
    exact e
  · rw [if_neg hk]
    refine b _ _ (fun z => hk ?_) (r.row k p h)
    exact nodup_idx nd h (by rw [hl, z])⟩
/-! ### told tables that are held, each a tuple of two of the same -/
structure PairR (h : Addr) (H : Hp) (p : Addr) : Prop where
  both : ∃ (a b : Addr) (ls ms : List Addr) (n : Nat) (F : Nat → List Int), a ≠ h ∧ b ≠ h ∧ p ≠ h ∧ Off ls h ∧ Off ms h ∧ H p = some (.tup [.ref a, .ref b]) ∧ H a = some (.lst (ls.map V.ref)) ∧ H b = some (.lst (ms.map V.ref)) ∧ RowsF H ls n F ∧ RowsF H ms n F
structure HeldR (h : Addr) (H : Hp) (n : Nat) : Prop where
  all : ∃ ps : List Addr, H h = some (.lst (ps.map V.ref)) ∧ ps.length ≤ n ∧ ∀ p ∈ ps, PairR h H p
theorem PairR.step {h p : Addr} {H H' : Hp} (k : PairR h H p) (b : But h H H') : PairR h H' p := by
  obtain ⟨x, y, ls, ms, n, F, hx, hy, hp, o1, o2, e, e1, e2, r1, r2⟩ := k.both
  exact ⟨x, y, ls, ms, n, F, hx, hy, hp, o1, o2, b _ _ hp e, b _ _ hx e1, b _ _ hy e2, r1.but b o1.out, r2.but b o2.out⟩
theorem HeldR.same {h : Addr} {H H' : Hp} {n : Nat} (k : HeldR h H n) (s : Same H H') : HeldR h H' n := by
  obtain ⟨ps, e, l, f⟩ := k.all
  exact ⟨ps, s _ _ e, l, fun p hp => (f p hp).step (Same.but s)⟩
theorem HeldR.snoc {h p : Addr} {H H' : Hp} {m n : Nat} {ps : List Addr} (l : ps.length ≤ n) (f : ∀ p ∈ ps, PairR h H p) (b : But h H H') (e' : H' h = some (.lst (ps.map V.ref ++ [V.ref p]))) (g : PairR h H' p) (hm : n + 1 ≤ m) : HeldR h H' m :=
  ⟨ps ++ [p], by rw [e', List.map_append]; rfl, by rw [List.length_append]; exact Nat.le_trans (Nat.succ_le_succ l) hm, fun q hq => by
    rcases List.mem_append.mp hq with k | k
    · exact (f q k).step b
    · rw [List.mem_singleton.mp k]; exact g⟩
end Ur
namespace Ur
open PySem L2
theorem len_refs {K : PySem.W.Frag} {H : Hp} {p : Addr} {ls : List Addr} {Q : VK} (h : SqL K H p (ls.map V.ref)) (q : Q (.int ls.length) H) : rLenI K [.ref p] H Q :=
  ⟨p, _, rfl, Or.inl h, by rw [List.length_map]; exact q⟩
end Ur
namespace Ur
open PySem L2
/-- while, the test's answer told; Pv by a measure; the search does not open what is due of a turn -/
theorem while_iv {tb : TS} {D : Ends} {σ : L2.St} {H : Hp} {c : TT} (Pv : Nat → L2.St → Hp → Prop) (m0 : Nat) (h0 : Pv m0 σ H)
    (hs : ∀ m σ H, Pv m σ H → ∃ b, (∀ Q : Bool → Hp → Prop, Q b H → c σ H Q) ∧
      (b = true → tb { D with nx := fun σ' H' => Iv (∃ m', m' < m ∧ Pv m' σ' H'), ct := fun σ' H' => Iv (∃ m', m' < m ∧ Pv m' σ' H'), bk := D.nx } σ H) ∧ (b = false → D.nx σ H)) : tWhile c tb D σ H := by
  refine ⟨Pv, ⟨m0, h0⟩, fun m σ H p => ?_⟩
  obtain ⟨b, hb, h1, h2⟩ := hs m σ H p
  refine hb _ ?_
  cases b with
  | true => exact (if_pos rfl).mpr ⟨_, fun _ _ n => n.out, h1 rfl⟩
  | false => exact (if_neg Bool.false_ne_true).mpr (h2 rfl)
theorem getD_mem {ns : List Int} {k : Nat} (h : k < ns.length) : ns.getD k 0 ∈ ns := List.mem_of_getElem? (get_of h)
theorem getD_all {ns : List Int} {k : Nat} {P : Int → Prop} (h : k < ns.length) (f : ∀ x ∈ ns, P x) : P (ns.getD k 0) := f _ (getD_mem h)
end Ur
namespace Ur
open PySem L2
/-- while, the test may lay new things; the body is reached where the measure is above 0 only -/
theorem while_t {tb : TS} {D : Ends} {σ : L2.St} {H : Hp} {c : TT} (Pv : Nat → L2.St → Hp → Prop) (m0 : Nat) (h0 : Pv m0 σ H)
    (ht : ∀ m σ H, Pv m σ H → ∀ Q : Bool → Hp → Prop, (∀ b H', Same H H' → (b = true → 0 < m) → Q b H') → c σ H Q)
    (hs : ∀ m σ H H', Pv m σ H → 0 < m → Same H H' → tb { D with nx := fun σ' H' => Iv (∃ m', m' < m ∧ Pv m' σ' H'), ct := fun σ' H' => Iv (∃ m', m' < m ∧ Pv m' σ' H'), bk := D.nx } σ H')
    (hd : ∀ m σ H H', Pv m σ H → Same H H' → D.nx σ H') : tWhile c tb D σ H := by
  refine ⟨Pv, ⟨m0, h0⟩, fun m σ H p => ht m σ H p _ fun b H' s hb => ?_⟩
  cases b with
  | true => exact (if_pos rfl).mpr ⟨_, fun _ _ n => n.out, hs m σ H H' p (hb rfl) s⟩
  | false => exact (if_neg Bool.false_ne_true).mpr (hd m σ H H' p s)
end Ur
namespace Ur
open PySem L2
/-! ### a window's numbers, held -/
def hldF (d : Addr) : List (Str × V) := putF "times" (.ref d) []
theorem hld_times {d : Addr} : (hldF d).lookup ("times" : Str) = some (.ref d) := by
  unfold hldF
  rw [lookup_putF, if_pos rfl]
theorem hld_no {d : Addr} {m : Str} (h : ¬ m = "times") : (hldF d).lookup m = none := by
  unfold hldF
  rw [lookup_putF, if_neg h]
  rfl
end Ur
namespace Ur
open PySem L2
theorem pop1_int {H : Hp} {a : Addr} {kvs : List (Key × V)} {n : Int} {v : V} {Q : VK} (h : H a = some (.dK kvs)) (hv : valV kvs (Sum.inl n) = some v) (q : Q v (upd H a (.dK (dropK kvs (Sum.inl n))))) :
    ∃ (kvs : List (Key × V)) (k : Key) (v : V), H a = some (.dK kvs) ∧ V.int n = kV k ∧ valV kvs k = some v ∧ Q v (upd H a (.dK (dropK kvs k))) := ⟨kvs, Sum.inl n, v, h, rfl, hv, q⟩
end Ur
namespace Ur
open PySem L2
theorem pg_tupK {X : Cx} {K : PySem.W.Frag} (hk : X.K = K) {es : List Expr} {k : Nat} {pos : Pos} {t : TGs} {n : Nat} (hc : X.calm = true) (h : PGs X es t)
    (hn : (assignEach es X.env).length = n := by rfl) (hst : (assignEach es X.env).findIdx? (·.1) = none := by rfl) : PG X (.Tuple es k pos) (gTup K n t) := by
  subst hk
  exact pg_tup hc h hn hst
end Ur
namespace Ur
open PySem L2
/-! ### repr -/
/-- repr of data laid in the heap -/
def rRepr (K : PySem.W.Frag) : List V → Hp → VK → Prop := fun xs H Q => ∃ (p : Addr) (d : PyData), xs = [.ref p] ∧ Dp K H (.ref p) d ∧
  d.showable = true ∧ d.hasDict = false ∧ d.depth ≤ 64 ∧ d.shown.length ≤ sizeLine ∧ Q (.str d.shown) H
/-- data whose repr is told -/
structure GoodD (d : PyData) : Prop where
  show_ : d.showable = true
  dict : d.hasDict = false
  deep : d.depth ≤ 64
  fits : d.shown.length ≤ sizeLine
abbrev SmI (i : Int) : Prop := -1000000 < i ∧ i < 1000000
theorem weight_sm {i : Int} (h : SmI i) : PyData.weight (.int i) ≤ 20 := by
  rw [PyData.weight]
  by_cases c : (i == 0) = true
  · rw [if_pos c]; omega
  · rw [if_neg c]
    have c2 : i ≠ 0 := fun e => c (by rw [e]; rfl)
    have k := (Nat.log2_lt (n := i.natAbs) (k := 20) (by omega)).mpr (by have e : (2 : Nat) ^ 20 = 1048576 := by decide
                                                                         omega)
    omega
theorem weightAll_sm : ∀ {ns : List Int}, (∀ n ∈ ns, SmI n) → PyData.weightAll (ns.map .int) ≤ 21 * ns.length
  | [], _ => by rw [List.map_nil, PyData.weightAll]; exact Nat.zero_le _
  | n :: r, h => by
    have k1 := weight_sm (h n List.mem_cons_self)
    have k2 := weightAll_sm (ns := r) fun m hm => h m (List.mem_cons_of_mem _ hm)
    rw [List.map_cons, PyData.weightAll, List.length_cons]
    omega
theorem showAll_sm : ∀ {ns : List Int}, (∀ n ∈ ns, SmI n) → PyData.showableAll (ns.map .int) = true
  | [], _ => by rw [List.map_nil, PyData.showableAll]
  | n :: r, h => by
    have h1 := h n List.mem_cons_self
    rw [List.map_cons, PyData.showableAll, showAll_sm (ns := r) fun m hm => h m (List.mem_cons_of_mem _ hm), Bool.and_true, PyData.showable]
    refine decide_eq_true ?_
    by_cases c : n.natAbs = 0
    · rw [c]; decide
    · exact Nat.lt_of_lt_of_le ((Nat.log2_lt (n := n.natAbs) (k := 20) c).mpr (by have e : (2 : Nat) ^ 20 = 1048576 := by decide
                                                                                  omega)) (by decide)
theorem shortAll_sm {ns : List Int} (h : ∀ n ∈ ns, SmI n) : PyData.intsShortAll 13 (ns.map .int) = true :=
  PyData.intsShortAll_ints ns fun n hn => by
    have := h n hn
    have e : (10 : Nat) ^ 12 = 1000000000000 := by decide
    omega
theorem good_of {d : PyData} (c : d.canLay0 = true) (dp : d.depth ≤ 64) (w : d.weight ≤ 2 ^ 20) (s : d.showable = true) (i : d.intsShort 13 = true) : GoodD d := by
  refine ⟨s, PyData.hasDict_of_canLay d c, dp, PyData.shown_fits_of_layable0 (B := 13) (by decide) (by decide) ?_ i⟩
  show (d.canLay0 && decide (d.depth ≤ 64) && decide (d.weight ≤ 2 ^ 20)) = true
  rw [c, decide_eq_true dp, decide_eq_true w]
  rfl
/-- a tuple of ints -/
def tupD (ns : List Int) : PyData := .tuple (ns.map .int)
theorem depth_tup (ns : List Int) : (tupD ns).depth ≤ 2 := by
  have h := depthAll_ints ns
  unfold tupD
  rw [PyData.depth]
  omega
theorem good_tup {ns : List Int} (h : ∀ n ∈ ns, SmI n) (hl : ns.length ≤ 1000) : GoodD (tupD ns) := by
  have w := weightAll_sm h
  refine good_of (canLayAll_ints ns) (Nat.le_trans (depth_tup ns) (by decide)) ?_ ?_ ?_
  · unfold tupD
    rw [PyData.weight]
    have e : (2 : Nat) ^ 20 = 1048576 := by decide
    omega
  · unfold tupD
    rw [PyData.showable]
    exact showAll_sm h
  · unfold tupD
    rw [PyData.intsShort]
    exact shortAll_sm h
theorem goodAll {ts : List (List Int)} (h : ∀ ns ∈ ts, ns.length ≤ 3 ∧ ∀ n ∈ ns, SmI n) : PyData.weightAll (ts.map tupD) ≤ 64 * ts.length ∧ PyData.showableAll (ts.map tupD) = true ∧ PyData.intsShortAll 13 (ts.map tupD) = true := by
  induction ts with
  | nil => exact ⟨by rw [List.map_nil, PyData.weightAll]; exact Nat.zero_le _, by rw [List.map_nil, PyData.showableAll], by rw [List.map_nil, PyData.intsShortAll]⟩
  | cons ns ts ih =>
    obtain ⟨h1, h2⟩ := h ns List.mem_cons_self
    obtain ⟨i1, i2, i3⟩ := ih fun m hm => h m (List.mem_cons_of_mem _ hm)
    have w := weightAll_sm h2
    have g := good_tup h2 (by omega)
    refine ⟨?_, ?_, ?_⟩
    · have e : PyData.weight (tupD ns) = PyData.weightAll (ns.map .int) := by unfold tupD; rw [PyData.weight]
      rw [List.map_cons, PyData.weightAll, List.length_cons, e]
      omega
    · rw [List.map_cons, PyData.showableAll, g.show_, i2]; rfl
    · have e : PyData.intsShort 13 (tupD ns) = true := by unfold tupD; rw [PyData.intsShort]; exact shortAll_sm h2
      rw [List.map_cons, PyData.intsShortAll, e, i3]; rfl
theorem good_tups {ts : List (List Int)} (h : ∀ ns ∈ ts, ns.length ≤ 3 ∧ ∀ n ∈ ns, SmI n) (hl : ts.length ≤ 1000) : GoodD (.list (ts.map tupD)) := by
  obtain ⟨w, s, i⟩ := goodAll h
  refine good_of (canLayAll_of _ fun d hd => ?_) ?_ ?_ ?_ ?_
  · obtain ⟨ns, _, rfl⟩ := List.mem_map.mp hd
    exact canLayAll_ints ns
  · have k := depthAll_of (m := 2) (ts.map tupD) fun d hd => by
      obtain ⟨ns, _, rfl⟩ := List.mem_map.mp hd
      exact depth_tup ns
    rw [PyData.depth]
    omega
  · rw [PyData.weight]
    have e : (2 : Nat) ^ 20 = 1048576 := by decide
    omega
  · rw [PyData.showable]; exact s
  · rw [PyData.intsShort]; exact i
theorem repr_good {K : PySem.W.Frag} {H : Hp} {p : Addr} {d : PyData} {Q : VK} (h : Dp K H (.ref p) d) (g : GoodD d) (q : Q (.str d.shown) H) : rRepr K [.ref p] H Q :=
  ⟨p, d, rfl, h, g.show_, g.dict, g.deep, g.fits, q⟩
theorem dp_tup {K : PySem.W.Frag} {H : Hp} {p : Addr} {ns : List Int} (h : H p = some (.tup (ns.map V.int))) : Dp K H (.ref p) (tupD ns) := .tup (SqT.of h) (dpAll_ints ns)
theorem repr_pair {K : PySem.W.Frag} {H : Hp} {p : Addr} {x y : Int} {Q : VK} (h : H p = some (.tup [.int x, .int y])) (q : (SmI x ∧ SmI y) ∧ Q (.str (tupD [x, y]).shown) H) : rRepr K [.ref p] H Q :=
  repr_good (dp_tup (ns := [x, y]) h) (good_tup (fun n hn => by
    rcases List.mem_cons.mp hn with rfl | hn
    · exact q.1.1
    · rw [List.mem_singleton.mp hn]; exact q.1.2) (by show 2 ≤ 1000; omega)) q.2
theorem units66 {k : Nat} {A : Around} (r : Room k A) : A.units + 66 < cLine := by have := r.un; omega
end Ur

namespace Ur
open PySem L2 PySem.Spec PyProof.Rows
/-! ### things of any kind: whole or not, lists of such -/
/-- whether a thing is a whole number -/
def IsW (H : Hp) (v : V) (b : Bool) : Prop := (b = true ∧ ∃ i, v = .int i) ∨ (b = false ∧ Kind H v ∧ ∀ i, v ≠ .int i)
theorem IsW.int {H : Hp} {i : Int} : IsW H (.int i) true := .inl ⟨rfl, i, rfl⟩
theorem IsW.bl {H : Hp} {c : Bool} : IsW H (.bl c) false := .inr ⟨rfl, .bl, fun _ z => nomatch z⟩
theorem IsW.str {H : Hp} {x : Str} : IsW H (.str x) false := .inr ⟨rfl, .str, fun _ z => nomatch z⟩
theorem IsW.non {H : Hp} : IsW H .non false := .inr ⟨rfl, .non, fun _ z => nomatch z⟩
theorem IsW.lst {H : Hp} {p : Addr} {xs : List V} (e : H p = some (.lst xs)) : IsW H (.ref p) false := .inr ⟨rfl, .lst e, fun _ z => nomatch z⟩
theorem IsW.tup {H : Hp} {p : Addr} {xs : List V} (e : H p = some (.tup xs)) : IsW H (.ref p) false := .inr ⟨rfl, .tup e, fun _ z => nomatch z⟩
theorem IsW.dct {H : Hp} {p : Addr} {xs : List (Key × V)} (e : H p = some (.dK xs)) : IsW H (.ref p) false := .inr ⟨rfl, .dct e, fun _ z => nomatch z⟩
theorem IsW.same {H H' : Hp} {v : V} {b : Bool} (w : IsW H v b) (s : Same H H') : IsW H' v b := by
  rcases w with w | ⟨e, k, n⟩
  · exact .inl w
  · exact .inr ⟨e, k.same s, n⟩
theorem Kind.whole {H : Hp} {v : V} (k : Kind H v) : (∃ i, v = .int i) ∨ ((∀ i, v ≠ .int i) ∧ IsW H v false) := by
  by_cases h : ∃ i, v = .int i
  · exact .inl h
  · exact .inr ⟨fun i e => h ⟨i, e⟩, .inr ⟨rfl, k, fun i e => h ⟨i, e⟩⟩⟩
theorem Kind.some {H : Hp} {p : Addr} (k : Kind H (.ref p)) : ∃ o, H p = Option.some o := by
  rcases k with ⟨i, e⟩ | ⟨c, e⟩ | ⟨x, e⟩ | e | ⟨q, xs, e, h⟩ | ⟨q, xs, e, h⟩ | ⟨q, xs, e, h⟩
  · cases e
  · cases e
  · cases e
  · cases e
  · cases e; exact ⟨_, h⟩
  · cases e; exact ⟨_, h⟩
  · cases e; exact ⟨_, h⟩
/-- the kind of a thing, a list told apart -/
theorem Kind.isList {K : PySem.W.Frag} {H : Hp} {v : V} (k : Kind H v) : (∃ p xs, v = .ref p ∧ H p = Option.some (.lst xs)) ∨ ((∀ p xs, v = .ref p → H p ≠ Option.some (.lst xs)) ∧ ∃ t, TyX K H v (.type t) ∧ kitB t "list" = Option.some false) := by
  rcases k with ⟨i, rfl⟩ | ⟨c, rfl⟩ | ⟨x, rfl⟩ | rfl | ⟨q, xs, rfl, h⟩ | ⟨q, xs, rfl, h⟩ | ⟨q, xs, rfl, h⟩
  · exact .inr ⟨fun _ _ e => (nomatch e), _, tyx_int, kb_int_list⟩
  · exact .inr ⟨fun _ _ e => (nomatch e), _, tyx_bl, kb_bool_list⟩
  · exact .inr ⟨fun _ _ e => (nomatch e), _, tyx_str, kb_str_list⟩
  · exact .inr ⟨fun _ _ e => (nomatch e), _, tyx_non, kb_NoneType_list⟩
  · exact .inl ⟨q, xs, rfl, h⟩
  · exact .inr ⟨fun p ys e z => (by cases e; rw [h] at z; cases z), _, tyx_tup h, kb_tuple_list⟩
  · exact .inr ⟨fun p ys e z => (by cases e; rw [h] at z; cases z), _, tyx_dK h, kb_dict_list⟩
/-- .. a tuple told apart -/
theorem Kind.isTup {K : PySem.W.Frag} {H : Hp} {v : V} (k : Kind H v) : (∃ p xs, v = .ref p ∧ H p = Option.some (.tup xs)) ∨ ((∀ p xs, v = .ref p → H p ≠ Option.some (.tup xs)) ∧ ∃ t, TyX K H v (.type t) ∧ kitB t "tuple" = Option.some false) := by
  rcases k with ⟨i, rfl⟩ | ⟨c, rfl⟩ | ⟨x, rfl⟩ | rfl | ⟨q, xs, rfl, h⟩ | ⟨q, xs, rfl, h⟩ | ⟨q, xs, rfl, h⟩
  · exact .inr ⟨fun _ _ e => (nomatch e), _, tyx_int, kb_int_tuple⟩
  · exact .inr ⟨fun _ _ e => (nomatch e), _, tyx_bl, kb_bool_tuple⟩
  · exact .inr ⟨fun _ _ e => (nomatch e), _, tyx_str, kb_str_tuple⟩
  · exact .inr ⟨fun _ _ e => (nomatch e), _, tyx_non, kb_NoneType_tuple⟩
  · exact .inr ⟨fun p ys e z => (by cases e; rw [h] at z; cases z), _, tyx_lst h, kb_list_tuple⟩
  · exact .inl ⟨q, xs, rfl, h⟩
  · exact .inr ⟨fun p ys e z => (by cases e; rw [h] at z; cases z), _, tyx_dK h, kb_dict_tuple⟩
/-- all these addresses are taken -/
structure Old (L : Addr → Prop) (H : Hp) : Prop where
  has : ∀ b, L b → ∃ o, H b = some o
theorem Old.free {L : Addr → Prop} {H : Hp} {p : Addr} (o : Old L H) (n : H p = none) : ∀ b, L b → p ≠ b := fun b l e => by
  obtain ⟨u, h⟩ := o.has b l
  rw [← e, n] at h
  cases h
theorem Old.freeV {L : Addr → Prop} {H : Hp} {p : Addr} (o : Old L H) (n : H p = none) : ∀ b, L b → V.ref p ≠ .ref b := fun b l e => o.free n b l (by injection e)
theorem Old.same {L : Addr → Prop} {H H' : Hp} (o : Old L H) (s : Same H H') : Old L H' := ⟨fun b l => by
  obtain ⟨u, h⟩ := o.has b l
  exact ⟨u, s _ _ h⟩⟩
theorem Old.but {L : Addr → Prop} {a : Addr} {u : HO} {H H' : Hp} (o : Old L H) (b : But a H H') (h : H' a = some u) : Old L H' := ⟨fun c l => by
  by_cases e : c = a
  · rw [e]; exact ⟨u, h⟩
  · obtain ⟨w, k⟩ := o.has c l
    exact ⟨w, b _ _ e k⟩⟩
def Bar0 : Addr → Prop := fun _ => False
def Bar1 (a : Addr) : Addr → Prop := fun b => b = a
def Bar2 (a c : Addr) : Addr → Prop := fun b => b = a ∨ b = c
theorem Bar1.self {a : Addr} : Bar1 a a := rfl
theorem Bar1.ne {a p : Addr} (h : p ≠ a) : ∀ b, Bar1 a b → p ≠ b := fun b e z => h (z.trans e)
theorem Bar1.old {a : Addr} {o : HO} {H : Hp} (e : H a = some o) : Old (Bar1 a) H := ⟨fun b l => by cases l; exact ⟨o, e⟩⟩
theorem Bar2.l {a c : Addr} : Bar2 a c a := .inl rfl
theorem Bar2.r {a c : Addr} : Bar2 a c c := .inr rfl
theorem Bar2.ne {a c p : Addr} (h : p ≠ a) (k : p ≠ c) : ∀ b, Bar2 a c b → p ≠ b := fun b e z => e.elim (fun e => h (z.trans e)) fun e => k (z.trans e)
theorem Bar2.old {a c : Addr} {o u : HO} {H : Hp} (e : H a = some o) (f : H c = some u) : Old (Bar2 a c) H := ⟨fun b l => by
  rcases l with rfl | rfl
  · exact ⟨o, e⟩
  · exact ⟨u, f⟩⟩
theorem neV {L : Addr → Prop} {p : Addr} (n : ∀ b, L b → p ≠ b) : ∀ b, L b → V.ref p ≠ .ref b := fun b l e => n b l (by injection e)
/-- items of known kinds, none of them at L -/
structure Its (L : Addr → Prop) (H : Hp) (xs : List V) : Prop where
  all : ∀ x ∈ xs, Kind H x ∧ ∀ b, L b → x ≠ .ref b
theorem Its.nil {L : Addr → Prop} {H : Hp} : Its L H [] := ⟨fun _ h => nomatch h⟩
theorem Its.ints {L : Addr → Prop} {H : Hp} (ns : List Int) : Its L H (ns.map V.int) := ⟨fun x h => by
  obtain ⟨n, _, rfl⟩ := List.mem_map.mp h
  exact ⟨.int, fun _ _ z => nomatch z⟩⟩
theorem Its.sub {L : Addr → Prop} {H : Hp} {xs ys : List V} (t : Its L H xs) (f : ∀ y ∈ ys, y ∈ xs) : Its L H ys := ⟨fun y h => t.all y (f y h)⟩
theorem Its.app {L : Addr → Prop} {H : Hp} {xs ys : List V} (t : Its L H xs) (u : Its L H ys) : Its L H (xs ++ ys) := ⟨fun y h => by
  rcases List.mem_append.mp h with k | k
  · exact t.all y k
  · exact u.all y k⟩
theorem Its.one {L : Addr → Prop} {H : Hp} {x : V} (k : Kind H x) (n : ∀ b, L b → x ≠ .ref b) : Its L H [x] := ⟨fun y h => by rw [List.mem_singleton.mp h]; exact ⟨k, n⟩⟩
theorem Its.two {L : Addr → Prop} {H : Hp} {x y : V} (kx : Kind H x) (nx : ∀ b, L b → x ≠ .ref b) (ky : Kind H y) (ny : ∀ b, L b → y ≠ .ref b) : Its L H [x, y] := (Its.one kx nx).app (.one ky ny)
theorem Its.rep {L : Addr → Prop} {H : Hp} {xs : List V} (t : Its L H xs) (k : Nat) : Its L H (List.replicate k xs).flatten := ⟨fun y h => by
  obtain ⟨l, h1, h2⟩ := List.mem_flatten.mp h
  rw [List.eq_of_mem_replicate h1] at h2
  exact t.all y h2⟩
theorem Its.same {L : Addr → Prop} {H H' : Hp} {xs : List V} (t : Its L H xs) (s : Same H H') : Its L H' xs := ⟨fun x h => ⟨(t.all x h).1.same s, (t.all x h).2⟩⟩
theorem Its.but {L : Addr → Prop} {a : Addr} {H H' : Hp} {xs : List V} (t : Its L H xs) (l : L a) (b : But a H H') : Its L H' xs := ⟨fun x h => ⟨(t.all x h).1.but b ((t.all x h).2 a l), (t.all x h).2⟩⟩
theorem Its.less {L M : Addr → Prop} {H : Hp} {xs : List V} (t : Its L H xs) (f : ∀ b, M b → L b) : Its M H xs := ⟨fun x h => ⟨(t.all x h).1, fun b m => (t.all x h).2 b (f b m)⟩⟩
/-- a thing, a list's items of known kinds; none of this is at L -/
structure Th (L : Addr → Prop) (H : Hp) (v : V) : Prop where
  kind : Kind H v
  ne : ∀ b, L b → v ≠ .ref b
  items : ∀ p xs, v = .ref p → H p = some (.lst xs) → xs.length ≤ 2000 ∧ Its L H xs
theorem Th.same {L : Addr → Prop} {H H' : Hp} {v : V} (t : Th L H v) (s : Same H H') : Th L H' v := ⟨t.kind.same s, t.ne, fun p xs e h => by
  subst e
  obtain ⟨o, ho⟩ := t.kind.some
  have z := s _ _ ho
  rw [h] at z
  cases z
  obtain ⟨l, f⟩ := t.items p xs rfl ho
  exact ⟨l, f.same s⟩⟩
theorem Th.but {L : Addr → Prop} {a : Addr} {H H' : Hp} {v : V} (t : Th L H v) (la : L a) (b : But a H H') : Th L H' v := ⟨t.kind.but b (t.ne a la), t.ne, fun p xs e h => by
  subst e
  obtain ⟨o, ho⟩ := t.kind.some
  have z := b _ _ (fun z => t.ne a la (by rw [z])) ho
  rw [h] at z
  cases z
  obtain ⟨l, f⟩ := t.items p xs rfl ho
  exact ⟨l, f.but la b⟩⟩
theorem Th.less {L M : Addr → Prop} {H : Hp} {v : V} (t : Th L H v) (f : ∀ b, M b → L b) : Th M H v := ⟨t.kind, fun b m => t.ne b (f b m), fun p xs e h => ⟨(t.items p xs e h).1, (t.items p xs e h).2.less f⟩⟩
theorem Th.lst {L : Addr → Prop} {H : Hp} {p : Addr} {xs : List V} (e : H p = some (.lst xs)) (n : ∀ b, L b → p ≠ b) (l : xs.length ≤ 2000) (t : Its L H xs) : Th L H (.ref p) :=
  ⟨.lst e, neV n, fun q ys z h => by cases z; rw [e] at h; cases h; exact ⟨l, t⟩⟩
theorem Th.of {L : Addr → Prop} {H : Hp} {v : V} (k : Kind H v) (n : ∀ b, L b → v ≠ .ref b) (f : ∀ p xs, v = .ref p → H p ≠ some (.lst xs)) : Th L H v := ⟨k, n, fun p xs e h => (f p xs e h).elim⟩
theorem Th.int {L : Addr → Prop} {H : Hp} {i : Int} : Th L H (.int i) := .of .int (fun _ _ z => nomatch z) fun _ _ z => nomatch z
theorem Th.bl {L : Addr → Prop} {H : Hp} {c : Bool} : Th L H (.bl c) := .of .bl (fun _ _ z => nomatch z) fun _ _ z => nomatch z
theorem Th.str {L : Addr → Prop} {H : Hp} {x : Str} : Th L H (.str x) := .of .str (fun _ _ z => nomatch z) fun _ _ z => nomatch z
theorem Th.non {L : Addr → Prop} {H : Hp} : Th L H .non := .of .non (fun _ _ z => nomatch z) fun _ _ z => nomatch z
theorem Th.tup {L : Addr → Prop} {H : Hp} {p : Addr} {xs : List V} (e : H p = some (.tup xs)) (n : ∀ b, L b → p ≠ b) : Th L H (.ref p) := .of (.tup e) (neV n) fun q ys z h => by cases z; rw [e] at h; cases h
theorem Th.dct {L : Addr → Prop} {H : Hp} {p : Addr} {xs : List (Key × V)} (e : H p = some (.dK xs)) (n : ∀ b, L b → p ≠ b) : Th L H (.ref p) := .of (.dct e) (neV n) fun q ys z h => by cases z; rw [e] at h; cases h
/-! lists of values -/
theorem atI_get {xs : List V} {i : Int} (h0 : 0 ≤ i) (h1 : i < xs.length) : ∃ v, atI xs i = some v ∧ v ∈ xs ∧ xs[i.toNat]? = some v := by
  obtain ⟨k, rfl⟩ := Int.eq_ofNat_of_zero_le h0
  have hj : k < xs.length := by omega
  exact ⟨xs[k], atI_nat (List.getElem?_eq_getElem hj), List.getElem_mem hj, by rw [Int.toNat_natCast]; exact List.getElem?_eq_getElem hj⟩
theorem mem_cut {xs : List V} {lo hi : Option Int} {x : V} (h : x ∈ cutV xs lo hi) : x ∈ xs := by
  unfold cutV at h
  exact List.mem_of_mem_drop (List.mem_of_mem_take h)
/-- a cut of a list, its contents no longer looked at -/
theorem cut_is (xs : List V) (lo hi : Option Int) : ∃ ys, cutV xs lo hi = ys ∧ ys.length ≤ xs.length ∧ ∀ y ∈ ys, y ∈ xs := ⟨_, rfl, cutV_length _ _ _, fun _ h => mem_cut h⟩
theorem rep01 (b : Bool) (xs : List V) : ((List.replicate (if b = true then (1 : Int) else 0).toNat xs).flatten).length ≤ xs.length := by
  cases b <;> simp
theorem len_any {K : PySem.W.Frag} {H : Hp} {p : Addr} {xs : List V} {Q : VK} (h : SqL K H p xs) (q : Q (.int xs.length) H) : rLenI K [.ref p] H Q := ⟨p, _, rfl, Or.inl h, q⟩
end Ur
namespace Ur
open PySem L2
theorem nwA' {H : Hp} {x p : Addr} {o : HO} (h : H x = some o) (n : H p = none) : p ≠ x := fun e => by rw [e, h] at n; cases n
theorem ints_of : ∀ {xs : List V}, (∀ x ∈ xs, ∃ n : Int, x = .int n) → ∃ ns : List Int, xs = ns.map V.int
  | [], _ => ⟨[], rfl⟩
  | x :: xs, h => by
    obtain ⟨n, rfl⟩ := h x List.mem_cons_self
    obtain ⟨ns, e⟩ := ints_of fun y hy => h y (List.mem_cons_of_mem _ hy)
    exact ⟨n :: ns, by rw [e]; rfl⟩
theorem int_mem {ns : List Int} {n : Int} : V.int n ∈ ns.map V.int ↔ n ∈ ns := ⟨fun h => by
  obtain ⟨m, hm, e⟩ := List.mem_map.mp h
  cases e; exact hm, fun h => List.mem_map.mpr ⟨n, h, rfl⟩⟩
theorem take_snocV {xs : List V} {i : Nat} {x : V} (h : xs[i]? = some x) : xs.take (i + 1) = xs.take i ++ [x] := by
  rw [List.take_succ, h]; rfl
end Ur

namespace Ur
open PySem PySem.Spec PyProof.Rows L2
/-! ### == and != of lists of things of any kind: of unlike lengths, or with the very same items -/
def rEqL (K : PySem.W.Frag) (neg : Bool) : R2 := fun x y H Q => ∃ (a b : Addr) (xs ys : List V), x = .ref a ∧ y = .ref b ∧ SqL K H a xs ∧ SqL K H b ys ∧
  ((xs.length ≠ ys.length ∧ Q (.bl neg) H) ∨ (xs = ys ∧ (∀ v ∈ xs, flatV v = true ∨ ∃ p, v = .ref p) ∧ Q (.bl (!neg)) H))
theorem eqV_self : ∀ {v : V}, flatV v = true → eqV v v = true
  | .non, _ => rfl
  | .bl b, _ => by simp [eqV]
  | .int i, _ => by simp [eqV]
  | .str x, _ => by simp [eqV]
theorem eqAt_ref {A : Around} {s : Shared} {p : Addr} : SeqAt.EqAt A s (.ref p) (.ref p) true := fun prog w E Q h => by
  unfold eqBool
  refine wpAny_holding ?_
  rw [if_pos (by simp)]
  exact wpAny_pure (M := model prog w) (E := E) h
theorem items_same {A : Around} {s : Shared} {xs : List V} {us ws : List Value} (r1 : Vals xs us) (r2 : Vals xs ws) (f : ∀ v ∈ xs, flatV v = true ∨ ∃ p, v = .ref p) :
    ∀ j (h1 : j < us.toArray.size) (h2 : j < ws.toArray.size), SeqAt.EqAt A s us.toArray[j] ws.toArray[j] true := fun j h1 h2 => by
  have hx : j < xs.length := by rw [r1.length]; simpa using h1
  have e0 := List.getElem?_eq_getElem hx
  obtain ⟨u, e1, ru⟩ := r1.get e0
  obtain ⟨v, e2, rv⟩ := r2.get e0
  have g1 : us.toArray[j] = u := by
    have := (List.getElem?_eq_some_iff.mp e1).2
    simpa using this
  have g2 : ws.toArray[j] = v := by
    have := (List.getElem?_eq_some_iff.mp e2).2
    simpa using this
  rw [g1, g2]
  rcases f _ (List.getElem_mem hx) with k | ⟨p, k⟩
  · have z := eqAt_V (A := A) (s := s) ru rv k k
    rwa [eqV_self k] at z
  · rw [k] at ru rv
    cases (show u = Value.ref p from ru)
    cases (show v = Value.ref p from rv)
    exact eqAt_ref
section
variable {X : Cx} {K : PySem.W.Frag}
theorem op_eqL (hK : X.K = K) (hu : X.A.units + 64 < cLine) : OpR X (compareOp .Eq) (rEqL K false) := by
  subst hK
  intro pins s σ H x y v u Q I rx ry h
  obtain ⟨a, b, xs, ys, rfl, rfl, ha, hb, h⟩ := h
  cases (show v = Value.ref a from rx)
  cases (show u = Value.ref b from ry)
  obtain ⟨i1, r1, p1, _⟩ := I.list ha
  obtain ⟨i2, r2, p2, _⟩ := I.list hb
  have l1 := r1.length
  have l2 := r2.length
  rcases h with ⟨hn, q⟩ | ⟨rfl, f, q⟩
  · exact SeqAt.RcAt.lists_lengths p1.isList p2.isList (by simp; omega) (by omega) X.prog X.w _ _ ⟨.bl _, H, I, rfl, q⟩
  · have z := SeqAt.RcAt.lists (A := X.A) (e := fun _ => true) p1.isList p2.isList (by simp; omega) (by omega) (items_same r1 r2 f) X.prog X.w
    have all : (List.range i1.toArray.size).all (fun _ => true) = true := List.all_eq_true.mpr fun _ _ => rfl
    rw [all] at z
    exact z _ _ ⟨.bl _, H, I, rfl, q⟩
theorem op_neL (hK : X.K = K) (hu : X.A.units + 64 < cLine) : OpR X (compareOp .NotEq) (rEqL K true) := by
  subst hK
  intro pins s σ H x y v u Q I rx ry h
  obtain ⟨a, b, xs, ys, rfl, rfl, ha, hb, h⟩ := h
  cases (show v = Value.ref a from rx)
  cases (show u = Value.ref b from ry)
  obtain ⟨i1, r1, p1, _⟩ := I.list ha
  obtain ⟨i2, r2, p2, _⟩ := I.list hb
  have l1 := r1.length
  have l2 := r2.length
  rcases h with ⟨hn, q⟩ | ⟨rfl, f, q⟩
  · exact SeqAt.RcNeAt.lists_lengths p1.isList p2.isList (by simp; omega) (by omega) X.prog X.w _ _ ⟨.bl _, H, I, rfl, q⟩
  · have z := SeqAt.RcNeAt.lists (A := X.A) (e := fun _ => true) p1.isList p2.isList (by simp; omega) (by omega) (items_same r1 r2 f) X.prog X.w
    have all : (List.range i1.toArray.size).all (fun _ => true) = true := List.all_eq_true.mpr fun _ _ => rfl
    rw [all] at z
    exact z _ _ ⟨.bl _, H, I, rfl, q⟩
end
/-- against a list without items -/
theorem rEqL_nil {K : PySem.W.Frag} {H : Hp} {a b : Addr} {xs : List V} {Q : VK} (h1 : SqL K H a xs) (h2 : SqL K H b []) (q : Q (.bl xs.isEmpty) H) : rEqL K false (.ref a) (.ref b) H Q := by
  cases xs with
  | nil => exact ⟨a, b, [], [], rfl, rfl, h1, h2, .inr ⟨rfl, (fun _ h => nomatch h), q⟩⟩
  | cons x xs => exact ⟨a, b, _, [], rfl, rfl, h1, h2, .inl ⟨by simp, q⟩⟩
theorem rNeL_nil {K : PySem.W.Frag} {H : Hp} {a b : Addr} {xs : List V} {Q : VK} (h1 : SqL K H a xs) (h2 : SqL K H b []) (q : Q (.bl (!xs.isEmpty)) H) : rEqL K true (.ref a) (.ref b) H Q := by
  cases xs with
  | nil => exact ⟨a, b, [], [], rfl, rfl, h1, h2, .inr ⟨rfl, (fun _ h => nomatch h), q⟩⟩
  | cons x xs => exact ⟨a, b, _, [], rfl, rfl, h1, h2, .inl ⟨by simp, q⟩⟩
theorem Kind.flat {H : Hp} {v : V} (k : Kind H v) : flatV v = true ∨ ∃ p, v = .ref p := by
  rcases k with ⟨i, rfl⟩ | ⟨b, rfl⟩ | ⟨x, rfl⟩ | rfl | ⟨p, xs, rfl, _⟩ | ⟨p, xs, rfl, _⟩ | ⟨p, xs, rfl, _⟩
  · exact .inl rfl
  · exact .inl rfl
  · exact .inl rfl
  · exact .inl rfl
  · exact .inr ⟨p, rfl⟩
  · exact .inr ⟨p, rfl⟩
  · exact .inr ⟨p, rfl⟩
theorem rEqL_same {K : PySem.W.Frag} {H : Hp} {neg : Bool} {a b : Addr} {xs : List V} {Q : VK} (h1 : SqL K H a xs) (h2 : SqL K H b xs) (f : ∀ x ∈ xs, Kind H x) (q : Q (.bl (!neg)) H) : rEqL K neg (.ref a) (.ref b) H Q :=
  ⟨a, b, xs, xs, rfl, rfl, h1, h2, .inr ⟨rfl, fun v hv => (f v hv).flat, q⟩⟩
section
variable {K : PySem.W.Frag} {a : Addr} {xs : List V} {σ : L2.St} {H1 : Hp} {Dl : Addr} {te : TE} {tt : TT} {vs : List Nat} {j : Nat} {Qd : Hp → Prop}
/-- [e for x in a list of things if t] -/
theorem lc_valsIf (t : V → Bool) (f : V → V) (hn : xs.length ≤ 1000000) (ha : SqL K H1 a xs) (hD : H1 Dl = none) (hw : ∀ x, wipe ((wipe σ vs).set j (some x)) vs = wipe σ vs)
    (ht : ∀ (x : V) H', x ∈ xs → Same H1 H' → ∀ Q' : Bool → Hp → Prop, (∀ H4, Same H' H4 → Q' (t x) H4) → tt ((wipe σ vs).set j (some x)) H' Q')
    (he : ∀ (x : V) H', x ∈ xs → t x = true → Same H1 H' → ∀ Q' : VK, (∀ H4, Same H' H4 → Q' (f x) H4) → te ((wipe σ vs).set j (some x)) H' Q')
    (hd : ∀ H', Same H1 H' → H' Dl = some (.lst ((xs.filter t).map f)) → Qd H') :
    ∃ W : Nat → Nat → Hp → Prop, (∃ m, W 0 m (upd H1 Dl (.lst []))) ∧ ∀ i m H, W i m H →
      ((Itl K a).stop i H ∧ Qd H) ∨ ((Itl K a).go i H ∧ ∃ Nx : Hp → Prop, (∀ H', Nx H' → ∃ m', m' < m ∧ W (i + 1) m' H') ∧ ∀ x H', (Itl K a).yld i H x H' → gName j x (wipe σ vs) H' fun σ2 H2 => wipe σ2 vs = wipe σ vs ∧ tt σ2 H2 fun b H3 =>
        if b = true then te σ2 H3 fun y H4 => ∃ acc, H4 Dl = some (.lst acc) ∧ acc.length < sizeLine ∧ Nx (upd H4 Dl (.lst (acc ++ [y]))) else Nx H3) := by
  refine lc_list (K := K) (a := a) (xs := xs) (fun i H' => Same H1 H' ∧ H' Dl = some (.lst (((xs.take i).filter t).map f))) ⟨same_new hD, upd_same⟩ (fun i H' _ p => p.1.seq ha) (fun i x H' hx p => ?_) (fun H' p => ?_)
  · have hi := (List.getElem?_eq_some_iff.mp hx).1
    have hm := List.mem_of_getElem? hx
    refine ⟨hw _, ?_⟩
    refine ht x H' hm p.1 _ fun H3 s3 => ?_
    have e1 := take_snocV hx
    cases hb : t x with
    | true =>
      refine (if_pos rfl).mpr ?_
      refine he x H3 hm hb (p.1.trans s3) _ fun H4 s => ⟨_, s _ _ (s3 _ _ p.2), szl ?_, same_upd' hD ((p.1.trans s3).trans s), ?_⟩
      · have := List.length_filter_le t (xs.take i)
        rw [List.length_take] at this
        rw [List.length_map]; omega
      rw [upd_same, e1, List.filter_append, List.map_append, List.filter_cons, if_pos hb]
      rfl
    | false =>
      refine (if_neg Bool.false_ne_true).mpr ⟨p.1.trans s3, ?_⟩
      rw [e1, List.filter_append, List.map_append, List.filter_cons, if_neg (by rw [hb]; exact Bool.false_ne_true)]
      simpa using s3 _ _ p.2
  · rw [List.take_length] at p
    exact hd H' p.1 p.2
/-- [e for x in a list of things] -/
theorem lc_vals (f : V → V) (hn : xs.length ≤ 1000000) (ha : SqL K H1 a xs) (hD : H1 Dl = none) (hw : ∀ x, wipe ((wipe σ vs).set j (some x)) vs = wipe σ vs)
    (he : ∀ (x : V) H', x ∈ xs → Same H1 H' → ∀ Q' : VK, (∀ H4, Same H' H4 → Q' (f x) H4) → te ((wipe σ vs).set j (some x)) H' Q')
    (hd : ∀ H', Same H1 H' → H' Dl = some (.lst (xs.map f)) → Qd H') :
    ∃ W : Nat → Nat → Hp → Prop, (∃ m, W 0 m (upd H1 Dl (.lst []))) ∧ ∀ i m H, W i m H →
      ((Itl K a).stop i H ∧ Qd H) ∨ ((Itl K a).go i H ∧ ∃ Nx : Hp → Prop, (∀ H', Nx H' → ∃ m', m' < m ∧ W (i + 1) m' H') ∧ ∀ x H', (Itl K a).yld i H x H' → gName j x (wipe σ vs) H' fun σ2 H2 => wipe σ2 vs = wipe σ vs ∧ tYes σ2 H2 fun b H3 =>
        if b = true then te σ2 H3 fun y H4 => ∃ acc, H4 Dl = some (.lst acc) ∧ acc.length < sizeLine ∧ Nx (upd H4 Dl (.lst (acc ++ [y]))) else Nx H3) := by
  refine lc_list (K := K) (a := a) (xs := xs) (fun i H' => Same H1 H' ∧ H' Dl = some (.lst ((xs.take i).map f))) ⟨same_new hD, upd_same⟩ (fun i H' _ p => p.1.seq ha) (fun i x H' hx p => ?_) (fun H' p => ?_)
  · have hi := (List.getElem?_eq_some_iff.mp hx).1
    have hm := List.mem_of_getElem? hx
    refine ⟨hw _, tyes_ok ?_⟩
    refine he x H' hm p.1 _ fun H4 s => ⟨_, s _ _ p.2, szl ?_, same_upd' hD (p.1.trans s), ?_⟩
    · rw [List.length_map, List.length_take]; omega
    rw [upd_same, take_snocV hx, List.map_append]
    rfl
  · rw [List.take_length] at p
    exact hd H' p.1 p.2
end
/-- whether a value is a whole number -/
def isI : V → Bool
  | .int _ => true
  | _ => false
theorem isI_int {v : V} (h : isI v = true) : ∃ i, v = .int i := by
  cases v <;> first | exact ⟨_, rfl⟩ | cases h
theorem Kind.isW {H : Hp} {v : V} (k : Kind H v) : IsW H v (isI v) := by
  rcases k.whole with ⟨i, rfl⟩ | ⟨hn, w⟩
  · exact .int
  · have : isI v = false := by
      cases h : isI v with
      | false => rfl
      | true => obtain ⟨i, e⟩ := isI_int h; exact (hn i e).elim
    rw [this]; exact w
end Ur

namespace Ur
open PySem L2
/-! ### lists of pairs of ints -/
/-- objects at ls, the k-th of them O k -/
structure ObjsF (H : Hp) (ls : List Addr) (n : Nat) (O : Nat → HO) : Prop where
  len : ls.length = n
  row : ∀ k p, ls[k]? = some p → H p = some (O k)
theorem ObjsF.same {H H' : Hp} {ls : List Addr} {n : Nat} {O : Nat → HO} (r : ObjsF H ls n O) (s : Same H H') : ObjsF H' ls n O := ⟨r.len, fun k p e => s _ _ (r.row k p e)⟩
theorem ObjsF.but {a : Addr} {H H' : Hp} {ls : List Addr} {n : Nat} {O : Nat → HO} (r : ObjsF H ls n O) (b : But a H H') (no : ∀ p ∈ ls, p ≠ a) : ObjsF H' ls n O := ⟨r.len, fun k p e => b _ _ (no p (List.mem_of_getElem? e)) (r.row k p e)⟩
theorem ObjsF.is {H : Hp} {ls : List Addr} {n : Nat} {O : Nat → HO} (r : ObjsF H ls n O) {p : Addr} (hp : p ∈ ls) : ∃ k, k < n ∧ H p = some (O k) := by
  obtain ⟨k, hk⟩ := List.getElem?_of_mem hp
  exact ⟨k, by have := (List.getElem?_eq_some_iff.mp hk).1; have := r.len; omega, r.row k p hk⟩
theorem ObjsF.offNew {H : Hp} {x : Addr} {ls : List Addr} {n : Nat} {O : Nat → HO} (r : ObjsF H ls n O) (e : H x = none) : Off ls x := ⟨fun p hp z => by
  obtain ⟨k, _, em⟩ := r.is hp
  rw [z, e] at em
  cases em⟩
/-- .. of another kind than what lies at x -/
theorem ObjsF.offKind {H : Hp} {x : Addr} {o : HO} {ls : List Addr} {n : Nat} {O : Nat → HO} (r : ObjsF H ls n O) (e : H x = some o) (h : ∀ k, O k ≠ o) : Off ls x := ⟨fun p hp z => by
  obtain ⟨k, _, em⟩ := r.is hp
  rw [z, e] at em
  exact h k (Option.some.inj em).symm⟩
theorem ObjsF.upd {H : Hp} {x : Addr} {o : HO} {ls : List Addr} {n : Nat} {O : Nat → HO} (r : ObjsF H ls n O) (f : Off ls x) : ObjsF (upd H x o) ls n O := ⟨r.len, fun k p e => by
  rw [upd_ne (f.out p (List.mem_of_getElem? e))]
  exact r.row k p e⟩
/-- a pair -/
def pr (q : Int × Int) : HO := .tup [.int q.1, .int q.2]
abbrev PairsF (H : Hp) (ls : List Addr) (ps : List (Int × Int)) : Prop := ObjsF H ls ps.length (fun k => pr (ps.getD k (0, 0)))
theorem PairsF.nil {H : Hp} : PairsF H [] [] := ⟨rfl, fun k p h => nomatch h⟩
theorem PairsF.snoc {H : Hp} {ls : List Addr} {ps : List (Int × Int)} {p : Addr} {x y : Int} (r : PairsF H ls ps) (e : H p = some (.tup [.int x, .int y])) : PairsF H (ls ++ [p]) (ps ++ [(x, y)]) := by
  have hl := r.len
  refine ⟨by rw [List.length_append, List.length_append, hl]; rfl, fun k q h => ?_⟩
  by_cases hk : k < ls.length
  · rw [List.getElem?_append_left hk] at h
    have h2 := r.row k q h
    have h3 : (ps ++ [(x, y)]).getD k (0, 0) = ps.getD k (0, 0) := by
      rw [List.getD_eq_getElem?_getD, List.getD_eq_getElem?_getD, List.getElem?_append_left (by omega)]
    show H q = some (pr ((ps ++ [(x, y)]).getD k (0, 0)))
    rw [h3]
    exact h2
  · have h2 := (List.getElem?_eq_some_iff.mp h).1
    rw [List.length_append] at h2
    have h3 : [p].length = 1 := rfl
    have hk2 : k = ls.length := by omega
    subst hk2
    rw [List.getElem?_append_right (Nat.le_refl _), Nat.sub_self] at h
    cases h
    have h4 : (ps ++ [(x, y)]).getD ls.length (0, 0) = (x, y) := by
      rw [List.getD_eq_getElem?_getD, List.getElem?_append_right (by omega), hl, Nat.sub_self]
      rfl
    show H p = some (pr ((ps ++ [(x, y)]).getD ls.length (0, 0)))
    rw [h4]
    exact e
theorem PairsF.get {H : Hp} {ls : List Addr} {ps : List (Int × Int)} {k : Nat} {p : Addr} (r : PairsF H ls ps) (h : ls[k]? = some p) : k < ps.length ∧ H p = some (.tup [.int (ps.getD k (0, 0)).1, .int (ps.getD k (0, 0)).2]) :=
  ⟨by have := (List.getElem?_eq_some_iff.mp h).1; have := r.len; omega, r.row k p h⟩
theorem PairsF.offL {H : Hp} {x : Addr} {xs : List V} {ls : List Addr} {ps : List (Int × Int)} (r : PairsF H ls ps) (e : H x = some (.lst xs)) : Off ls x := ObjsF.offKind r e fun k z => nomatch z
/-- the data of such a list -/
def pairsD (ps : List (Int × Int)) : List PyData := ps.map fun q => PyData.tuple [.int q.1, .int q.2]
theorem dp_pairs {K : PySem.W.Frag} {H : Hp} {a : Addr} {ls : List Addr} {ps : List (Int × Int)} (h : SqL K H a (ls.map V.ref)) (r : PairsF H ls ps) : Dp K H (.ref a) (.list (pairsD ps)) := by
  refine .lst h (dpAll_of _ _ (by rw [pairsD, List.length_map, List.length_map, r.len]) fun k v d h1 h2 => ?_)
  rw [List.getElem?_map] at h1
  obtain ⟨p, hp, rfl⟩ := Option.map_eq_some_iff.mp h1
  obtain ⟨hk, e⟩ := r.get hp
  rw [pairsD, List.getElem?_map, List.getElem?_eq_getElem hk] at h2
  cases h2
  have e2 : ps.getD k (0, 0) = ps[k] := by rw [List.getD_eq_getElem?_getD, List.getElem?_eq_getElem hk]; rfl
  rw [e2] at e
  exact .tup (SqT.of e) (.cons (.int _) (.cons (.int _) .nil))
theorem shaped_pairs (ps : List (Int × Int)) : SeqAt.shaped (.list (pairsD ps)) = true := by
  refine shaped_of (canLayAll_of _ fun d h => ?_) ?_
  · obtain ⟨q, _, rfl⟩ := List.mem_map.mp h
    rfl
  · have h := depthAll_of (m := 2) (pairsD ps) fun d h => by
      obtain ⟨q, _, rfl⟩ := List.mem_map.mp h
      rw [PyData.depth]
      have := depthAll_of (m := 1) [PyData.int q.1, .int q.2] fun d h => by
        rcases List.mem_cons.mp h with rfl | h
        · simp [PyData.depth]
        · rw [List.mem_singleton.mp h]; simp [PyData.depth]
      omega
    rw [PyData.depth]
    omega
theorem eqv_pairs (ps : List (Int × Int)) : PyData.eqv (.list (pairsD ps)) (.list (pairsD ps)) = true := by
  show PyData.eqvAll _ _ = true
  refine eqvAll_refl _ fun d h => ?_
  obtain ⟨q, _, rfl⟩ := List.mem_map.mp h
  show PyData.eqvAll _ _ = true
  refine eqvAll_refl _ fun d h => ?_
  rcases List.mem_cons.mp h with rfl | h
  · show (q.1 == q.1) = true
    exact beq_self_eq_true _
  · rw [List.mem_singleton.mp h]
    show (q.2 == q.2) = true
    exact beq_self_eq_true _
theorem rEq_pairs {K : PySem.W.Frag} {H : Hp} {a b : Addr} {ls ms : List Addr} {ps : List (Int × Int)} {Q : VK} (h1 : SqL K H a (ls.map V.ref)) (h2 : SqL K H b (ms.map V.ref)) (r1 : PairsF H ls ps) (r2 : PairsF H ms ps) (q : Q (.bl true) H) : rEqD K (.ref a) (.ref b) H Q :=
  ⟨_, _, dp_pairs h1 r1, dp_pairs h2 r2, shaped_pairs ps, shaped_pairs ps, by rw [eqv_pairs]; exact q⟩
theorem rNe_pairs {K : PySem.W.Frag} {H : Hp} {a b : Addr} {ls ms : List Addr} {ps : List (Int × Int)} {Q : VK} (h1 : SqL K H a (ls.map V.ref)) (h2 : SqL K H b (ms.map V.ref)) (r1 : PairsF H ls ps) (r2 : PairsF H ms ps) (q : Q (.bl false) H) : rNeD K (.ref a) (.ref b) H Q :=
  ⟨_, _, dp_pairs h1 r1, dp_pairs h2 r2, shaped_pairs ps, shaped_pairs ps, by rw [eqv_pairs]; exact q⟩
/-! ### xs[:-1] -/
theorem cut_m1 (xs : List V) : cutV xs none (some (-1)) = xs.dropLast := by
  unfold cutV
  rw [HT.sIx_none]
  have e : HT.sIx xs.length xs.length (some (-1)) = xs.length - 1 := by
    show (if (-1 : Int) < 0 then ((-1 : Int) + (xs.length : Int)).toNat else min (-1 : Int).toNat xs.length) = xs.length - 1
    rw [if_pos (by decide)]
    omega
  rw [e, List.drop_zero, Nat.sub_zero, List.dropLast_eq_take]
end Ur

namespace Ur
open PySem L2
/-! ### how often each number stands in a window -/
theorem putK_keys (kvs : List (Key × V)) (k : Key) (v : V) (h : (kvs.map (·.1)).Nodup) : ((putK kvs k v).map (·.1)).Nodup := by
  unfold putK
  split
  · rw [List.map_map]
    have e : (kvs.map ((·.1) ∘ fun kv : Key × V => if kv.1 = k then (kv.1, v) else kv)) = kvs.map (·.1) := List.map_congr_left fun kv _ => by
      show (if kv.1 = k then (kv.1, v) else kv).1 = kv.1
      split <;> rfl
    rw [e]; exact h
  · rename_i hn
    rw [List.map_append, List.nodup_append]
    refine ⟨h, List.nodup_cons.mpr ⟨List.not_mem_nil, List.nodup_nil⟩, fun x hx y hy e => hn ?_⟩
    obtain ⟨kv, hkv, rfl⟩ := List.mem_map.mp hx
    have e2 : y = k := List.mem_singleton.mp hy
    exact List.any_eq_true.mpr ⟨kv, hkv, decide_eq_true (e.trans e2)⟩
theorem dropK_keys (kvs : List (Key × V)) (k : Key) (h : (kvs.map (·.1)).Nodup) : ((dropK kvs k).map (·.1)).Nodup := by
  unfold dropK
  exact List.Nodup.sublist (List.Sublist.map _ List.filter_sublist) h
theorem valV_dropK (k j : Key) : ∀ kvs : List (Key × V), valV (dropK kvs k) j = if j = k then none else valV kvs j
  | [] => by split <;> rfl
  | p :: r => by
    have ih := valV_dropK k j r
    by_cases e : p.1 = k
    · rw [dropK_pos e, ih]
      by_cases q : j = k
      · rw [if_pos q, if_pos q]
      · rw [if_neg q, if_neg q, valV_neg (fun z => q (z.symm.trans e))]
    · rw [dropK_neg e]
      by_cases q : p.1 = j
      · rw [valV_pos q, valV_pos q, if_neg (fun z => e (q.trans z))]
      · rw [valV_neg q, valV_neg q, ih]
theorem dropK_len (k : Key) : ∀ kvs : List (Key × V), (kvs.map (·.1)).Nodup → (valV kvs k).isSome = true → (dropK kvs k).length + 1 = kvs.length
  | [], _, h => by cases h
  | p :: r, nd, h => by
    rw [List.map_cons, List.nodup_cons] at nd
    by_cases e : p.1 = k
    · rw [dropK_pos e]
      have e2 : dropK r k = r := by
        unfold dropK
        refine List.filter_eq_self.mpr fun q hq => decide_eq_true fun z => nd.1 ?_
        exact List.mem_map.mpr ⟨q, hq, z.trans e.symm⟩
      rw [e2]; rfl
    · rw [dropK_neg e, List.length_cons, List.length_cons]
      rw [valV_neg e] at h
      have := dropK_len k r nd.2 h
      omega
structure Cnt (kvs : List (Key × V)) (W : List Int) : Prop where
  val : ∀ z : Int, valV kvs (Sum.inl z) = if z ∈ W then some (.int (W.count z : Nat)) else none
  len : kvs.length = ulen W
  nd : (kvs.map (·.1)).Nodup
theorem Cnt.nil : Cnt [] [] := ⟨fun z => by rw [if_neg (fun h => nomatch h)]; rfl, rfl, List.nodup_nil⟩
theorem Cnt.has {kvs : List (Key × V)} {W : List Int} (c : Cnt kvs W) (z : Int) : (valV kvs (Sum.inl z)).isSome = decide (z ∈ W) := by
  rw [c.val]
  by_cases h : z ∈ W
  · rw [if_pos h, decide_eq_true h]; rfl
  · rw [if_neg h, decide_eq_false h]; rfl
theorem Cnt.get0 {kvs : List (Key × V)} {W : List Int} (c : Cnt kvs W) (z : Int) : (valV kvs (Sum.inl z)).getD (.int 0) = .int (W.count z : Nat) := by
  rw [c.val]
  by_cases h : z ∈ W
  · rw [if_pos h]; rfl
  · rw [if_neg h, List.count_eq_zero.mpr h]; rfl
theorem Cnt.come {kvs : List (Key × V)} {W : List Int} (c : Cnt kvs W) (x : Int) : Cnt (putK kvs (Sum.inl x) (.int ((W.count x : Nat) + 1 : Int))) (W ++ [x]) := by
  refine ⟨fun z => ?_, ?_, putK_keys _ _ _ c.nd⟩
  · rw [val_put, c.val z]
    by_cases e : z = x
    · rw [if_pos e, if_pos (List.mem_append.mpr (.inr (List.mem_singleton.mpr e))), e, List.count_append, List.count_singleton_self]
      rfl
    · rw [if_neg e]
      by_cases h : z ∈ W
      · rw [if_pos h, if_pos (List.mem_append.mpr (.inl h)), List.count_append, List.count_eq_zero.mpr (fun k => e (List.mem_singleton.mp k)), Nat.add_zero]
      · rw [if_neg h, if_neg]
        intro k
        rcases List.mem_append.mp k with k | k
        · exact h k
        · exact e (List.mem_singleton.mp k)
  · rw [ulen_snoc]
    by_cases h : x ∈ W
    · rw [if_pos h, putK_same (by rw [c.has]; exact decide_eq_true h), c.len]
    · rw [if_neg h, putK_none (by rw [c.has]; exact decide_eq_false h), c.len]
/-- one less, and it is still there -/
theorem Cnt.less {kvs : List (Key × V)} {W : List Int} {x : Int} (c : Cnt kvs (x :: W)) (h : x ∈ W) : Cnt (putK kvs (Sum.inl x) (.int (((x :: W).count x : Nat) - 1 : Int))) W := by
  have hx : (valV kvs (Sum.inl x)).isSome = true := by rw [c.has]; exact decide_eq_true List.mem_cons_self
  refine ⟨fun z => ?_, ?_, putK_keys _ _ _ c.nd⟩
  · rw [val_put, c.val z]
    by_cases e : z = x
    · subst e
      rw [if_pos rfl, if_pos h, List.count_cons_self]
      congr 2
      omega
    · rw [if_neg e]
      by_cases k : z ∈ W
      · rw [if_pos k, if_pos (List.mem_cons_of_mem _ k), List.count_cons_of_ne (fun q => e q.symm)]
      · rw [if_neg k, if_neg]
        intro q
        rcases List.mem_cons.mp q with q | q
        · exact e q
        · exact k q
  · rw [putK_same hx, c.len, ulen_cons, if_pos h]
/-- one less, and it is gone -/
theorem Cnt.gone {kvs : List (Key × V)} {W : List Int} {x : Int} (c : Cnt kvs (x :: W)) (h : x ∉ W) (v : V) : Cnt (dropK (putK kvs (Sum.inl x) v) (Sum.inl x)) W := by
  have hx : (valV kvs (Sum.inl x)).isSome = true := by rw [c.has]; exact decide_eq_true List.mem_cons_self
  refine ⟨fun z => ?_, ?_, dropK_keys _ _ (putK_keys _ _ _ c.nd)⟩
  · rw [valV_dropK]
    by_cases e : z = x
    · rw [if_pos (by rw [e]), if_neg (by rw [e]; exact h)]
    · rw [if_neg (fun q => e (Sum.inl.inj q)), val_put, if_neg e, c.val z]
      by_cases k : z ∈ W
      · rw [if_pos k, if_pos (List.mem_cons_of_mem _ k), List.count_cons_of_ne (fun q => e q.symm)]
      · rw [if_neg k, if_neg]
        intro q
        rcases List.mem_cons.mp q with q | q
        · exact e q
        · exact k q
  · have hl := dropK_len (Sum.inl x) (putK kvs (Sum.inl x) v) (putK_keys _ _ _ c.nd) (by rw [val_put, if_pos rfl]; rfl)
    have h2 := c.len
    rw [ulen_cons, if_neg h] at h2
    rw [putK_same hx] at hl
    omega
theorem count_self_pos {W : List Int} {x : Int} : ((x :: W).count x : Nat) = W.count x + 1 := List.count_cons_self
/-! ### ends, and greatest ends -/
/-- the greatest behind with at most m unlike numbers -/
def wi (ns : List Int) (m : Int) (f : Nat) : Int := match endAt ns f (m + 1) with
  | none => ns.length
  | some b => (b : Int) - 1
theorem endAt_none {ns : List Int} {f : Nat} {m : Int} (hf : f ≤ ns.length) (h : (wunN ns f ns.length : Int) < m) : endAt ns f m = none := by
  rcases endAt_spec (m := m) hf with ⟨e, _⟩ | ⟨e, h1, h2, h3, h4, _⟩
  · exact e
  · have k := wunN_monoB (ns := ns) (f := f) (b := e) (k := ns.length - e) h2 (by omega)
    rw [show e + (ns.length - e) = ns.length by omega] at k
    omega
/-- at an end there are just so many -/
theorem endAt_just {ns : List Int} {f e : Nat} {m : Int} (hf : f ≤ ns.length) (h0 : 0 ≤ m) (h : endAt ns f m = some e) : f ≤ e ∧ e ≤ ns.length ∧ (wunN ns f e : Int) = m ∧ ∀ b, f ≤ b → b < e → (wunN ns f b : Int) < m := by
  rcases endAt_spec (m := m) hf with ⟨e2, _⟩ | ⟨e2, h1, h2, h3, h4, h5⟩
  · rw [e2] at h; cases h
  · rw [h1] at h
    cases h
    refine ⟨h2, h3, ?_, fun b k1 k2 => by have := h5 b k1 k2; omega⟩
    by_cases c : f < e
    · have k := wunN_step (ns := ns) (f := f) (b := e - 1) (by omega) (by omega)
      rw [show e - 1 + 1 = e by omega] at k
      have := h5 (e - 1) (by omega) (by omega)
      omega
    · have : f = e := by omega
      subst this
      rw [wunN_none] at h4 ⊢
      omega
/-- what a greatest end is -/
theorem wi_spec {ns : List Int} {m : Int} {f : Nat} (hf : f ≤ ns.length) (h0 : 0 ≤ m) : (f : Int) ≤ wi ns m f ∧ wi ns m f ≤ ns.length ∧ ∀ b : Nat, f ≤ b → b ≤ ns.length → ((wunN ns f b : Int) ≤ m ↔ (b : Int) ≤ wi ns m f) := by
  unfold wi
  cases e : endAt ns f (m + 1) with
  | none =>
    refine ⟨by show (f : Int) ≤ (ns.length : Int); omega, Int.le_refl _, fun b h1 h2 => ⟨fun _ => by show (b : Int) ≤ (ns.length : Int); omega, fun _ => ?_⟩⟩
    rcases endAt_spec (m := m + 1) hf with ⟨_, k⟩ | ⟨e2, k1, _⟩
    · have := k b h1 h2; omega
    · rw [e] at k1; cases k1
  | some b0 =>
    obtain ⟨h1, h2, h3, h4⟩ := endAt_just hf (by omega) e
    have hlt : f < b0 := by
      refine Nat.lt_of_le_of_ne h1 fun z => ?_
      subst z
      rw [wunN_none] at h3
      omega
    refine ⟨by show (f : Int) ≤ (b0 : Int) - 1; omega, by show (b0 : Int) - 1 ≤ _; omega, fun b k1 k2 => ⟨fun k => ?_, fun k => ?_⟩⟩
    · show (b : Int) ≤ (b0 : Int) - 1
      by_cases c : b < b0
      · omega
      · have q := wunN_monoB (ns := ns) (f := f) (b := b0) (k := b - b0) h1 (by omega)
        rw [show b0 + (b - b0) = b by omega] at q
        omega
    · have k' : (b : Int) ≤ (b0 : Int) - 1 := k
      have := h4 b k1 (by omega)
      omega
/-- just so many: from the least end to the greatest -/
theorem just_iff {ns : List Int} {m : Int} {f b : Nat} (hf : f ≤ b) (hb : b ≤ ns.length) (h0 : 0 ≤ m) : (wunN ns f b : Int) = m ↔ ∃ e, endAt ns f m = some e ∧ e ≤ b ∧ (b : Int) ≤ wi ns m f := by
  obtain ⟨w1, w2, w3⟩ := wi_spec (ns := ns) (m := m) (f := f) (by omega) h0
  constructor
  · intro h
    rcases endAt_spec (ns := ns) (f := f) (m := m) (by omega) with ⟨_, k⟩ | ⟨e, k1, k2, k3, k4, k5⟩
    · have := k b hf hb; omega
    · refine ⟨e, k1, ?_, (w3 b hf hb).mp (by omega)⟩
      by_cases c : b < e
      · have := k5 b hf c; omega
      · omega
  · rintro ⟨e, k1, k2, k3⟩
    obtain ⟨h1, h2, h3, h4⟩ := endAt_just (by omega) h0 k1
    have q := wunN_monoB (ns := ns) (f := f) (b := e) (k := b - e) h1 (by omega)
    rw [show e + (b - e) = b by omega] at q
    have := (w3 b hf hb).mpr k3
    omega
/-- the least end lies at or below the greatest -/
theorem end_le_wi {ns : List Int} {m : Int} {f e : Nat} (hf : f ≤ ns.length) (h0 : 0 ≤ m) (h : endAt ns f m = some e) : (e : Int) ≤ wi ns m f := by
  obtain ⟨h1, h2, h3, h4⟩ := endAt_just hf h0 h
  exact ((wi_spec hf h0).2.2 e h1 h2).mp (by omega)
/-! ### stretches -/
def tr (q : Int × Int × Int) : HO := .tup [.int q.1, .int q.2.1, .int q.2.2]
abbrev TripsF (H : Hp) (ls : List Addr) (ps : List (Int × Int × Int)) : Prop := ObjsF H ls ps.length (fun k => tr (ps.getD k (0, 0, 0)))
theorem TripsF.nil {H : Hp} : TripsF H [] [] := ⟨rfl, fun k p h => nomatch h⟩
theorem TripsF.snoc {H : Hp} {ls : List Addr} {ps : List (Int × Int × Int)} {p : Addr} {q : Int × Int × Int} (r : TripsF H ls ps) (e : H p = some (tr q)) : TripsF H (ls ++ [p]) (ps ++ [q]) := by
  have hl := r.len
  refine ⟨by rw [List.length_append, List.length_append, hl]; rfl, fun k x h => ?_⟩
  by_cases hk : k < ls.length
  · rw [List.getElem?_append_left hk] at h
    have h2 := r.row k x h
    have h3 : (ps ++ [q]).getD k (0, 0, 0) = ps.getD k (0, 0, 0) := by
      rw [List.getD_eq_getElem?_getD, List.getD_eq_getElem?_getD, List.getElem?_append_left (by omega)]
    show H x = some (tr ((ps ++ [q]).getD k (0, 0, 0)))
    rw [h3]
    exact h2
  · have h2 := (List.getElem?_eq_some_iff.mp h).1
    rw [List.length_append] at h2
    have h3 : [p].length = 1 := rfl
    have hk2 : k = ls.length := by omega
    subst hk2
    rw [List.getElem?_append_right (Nat.le_refl _), Nat.sub_self] at h
    cases h
    have h4 : (ps ++ [q]).getD ls.length (0, 0, 0) = q := by
      rw [List.getD_eq_getElem?_getD, List.getElem?_append_right (by omega), hl, Nat.sub_self]
      rfl
    show H p = some (tr ((ps ++ [q]).getD ls.length (0, 0, 0)))
    rw [h4]
    exact e
theorem TripsF.get {H : Hp} {ls : List Addr} {ps : List (Int × Int × Int)} {k : Nat} {p : Addr} (r : TripsF H ls ps) (h : ls[k]? = some p) : k < ps.length ∧ ps[k]? = some (ps.getD k (0, 0, 0)) ∧ H p = some (.tup [.int (ps.getD k (0, 0, 0)).1, .int (ps.getD k (0, 0, 0)).2.1, .int (ps.getD k (0, 0, 0)).2.2]) := by
  have h1 : k < ps.length := by have := (List.getElem?_eq_some_iff.mp h).1; have := r.len; omega
  exact ⟨h1, by rw [List.getD_eq_getElem?_getD, List.getElem?_eq_getElem h1]; rfl, r.row k p h⟩
theorem TripsF.offL {H : Hp} {x : Addr} {xs : List V} {ls : List Addr} {ps : List (Int × Int × Int)} (r : TripsF H ls ps) (e : H x = some (.lst xs)) : Off ls x := ObjsF.offKind r e fun k z => nomatch z
/-- for each first place that has some: the least and the greatest behind -/
def strK (ns : List Int) (m : Int) (k : Nat) : List (Int × Int × Int) := (List.range k).filterMap fun (f : Nat) => (endAt ns f m).map fun (e : Nat) => ((f : Int), (e : Int), wi ns m f)
def strL (ns : List Int) (m : Int) : List (Int × Int × Int) := if m = 0 then [] else strK ns m ns.length
theorem strK_s (ns : List Int) (m : Int) (k : Nat) : strK ns m (k + 1) = strK ns m k ++ ((endAt ns k m).map fun (e : Nat) => ((k : Int), (e : Int), wi ns m k)).toList := by
  unfold strK
  rw [List.range_succ, List.filterMap_append]
  congr 1
theorem strK_len (ns : List Int) (m : Int) (k : Nat) : (strK ns m k).length ≤ k := by
  unfold strK
  exact Nat.le_trans (List.length_filterMap_le _ _) (by rw [List.length_range]; exact Nat.le_refl k)
theorem strL_len (ns : List Int) (m : Int) : (strL ns m).length ≤ ns.length := by
  unfold strL
  split
  · exact Nat.zero_le _
  · exact strK_len _ _ _
theorem strL_mem {ns : List Int} {m : Int} {q : Int × Int × Int} (h : q ∈ strL ns m) : m ≠ 0 ∧ ∃ f e : Nat, f < ns.length ∧ endAt ns f m = some e ∧ q = ((f : Int), (e : Int), wi ns m f) := by
  unfold strL at h
  by_cases c : m = 0
  · rw [if_pos c] at h; cases h
  · rw [if_neg c] at h
    unfold strK at h
    obtain ⟨f, hf, e⟩ := List.mem_filterMap.mp h
    obtain ⟨e0, h1, h2⟩ := Option.map_eq_some_iff.mp e
    exact ⟨c, f, e0, List.mem_range.mp hf, h1, h2.symm⟩
/-- how many windows from f on have just so many -/
def hisF (ns : List Int) (m : Int) (f : Nat) : Int := match endAt ns f m with
  | none => 0
  | some e => wi ns m f - (e : Int) + 1
theorem strK_sum (ns : List Int) (m : Int) : ∀ k, ((strK ns m k).map fun q => q.2.2 - q.2.1 + 1).sum = sumTo (hisF ns m) k
  | 0 => rfl
  | k + 1 => by
    have ih := strK_sum ns m k
    rw [strK_s, List.map_append, List.sum_append, ih]
    show _ = sumTo (hisF ns m) k + hisF ns m k
    congr 1
    unfold hisF
    cases h : endAt ns k m with
    | none => rfl
    | some e => show (wi ns m k - (e : Int) + 1) + 0 = wi ns m k - (e : Int) + 1; omega
def hisN (ns : List Int) (m : Int) : Int := ((strL ns m).map fun q => q.2.2 - q.2.1 + 1).sum
/-- .. counted -/
def cntF (ns : List Int) (m : Int) (f j : Nat) : Int := sumTo (fun t => if (wunN ns f (f + 1 + t) : Int) = m then 1 else 0) j
theorem hisF_cnt {ns : List Int} {m : Int} {f : Nat} (hf : f < ns.length) (hm : 1 ≤ m) : hisF ns m f = cntF ns m f (ns.length - f) := by
  unfold hisF cntF
  obtain ⟨w1, w2, w3⟩ := wi_spec (ns := ns) (m := m) (f := f) (by omega) (by omega)
  cases h : endAt ns f m with
  | none =>
    have e : sumTo (fun t => if (wunN ns f (f + 1 + t) : Int) = m then 1 else 0) (ns.length - f) = sumTo (fun _ => 0) (ns.length - f) := sumTo_congr fun t ht => by
      rw [if_neg]
      intro k
      obtain ⟨e, h1, _⟩ := (just_iff (by omega) (by omega) (by omega)).mp k
      rw [h] at h1; cases h1
    rw [e, sumTo_zero]
  | some e =>
    obtain ⟨h1, h2, h3, h4⟩ := endAt_just (by omega) (by omega) h
    have hfe : f < e := by
      refine Nat.lt_of_le_of_ne h1 fun z => ?_
      subst z
      rw [wunN_none] at h3
      omega
    have hew := end_le_wi (by omega) (by omega) h
    have e2 : sumTo (fun t => if (wunN ns f (f + 1 + t) : Int) = m then 1 else 0) (ns.length - f) = sumTo (fun t => if ((e : Int) - (f + 1)) ≤ (t : Int) ∧ (t : Int) < wi ns m f - f then 1 else 0) (ns.length - f) := sumTo_congr fun t ht => by
      have k := just_iff (ns := ns) (m := m) (f := f) (b := f + 1 + t) (by omega) (by omega) (by omega)
      by_cases c : (wunN ns f (f + 1 + t) : Int) = m
      · obtain ⟨e3, k1, k2, k3⟩ := k.mp c
        rw [h] at k1
        cases k1
        rw [if_pos c, if_pos ⟨by omega, by omega⟩]
      · rw [if_neg c, if_neg]
        rintro ⟨k1, k2⟩
        exact c (k.mpr ⟨e, h, by omega, by omega⟩)
    rw [e2, sumTo_count _ _ (by omega) (by omega) _ (by omega)]
    show wi ns m f - (e : Int) + 1 = _
    omega
theorem hisN_cnt {ns : List Int} {m : Int} (hm : 1 ≤ m) : hisN ns m = sumTo (fun f => cntF ns m f (ns.length - f)) ns.length := by
  unfold hisN strL
  rw [if_neg (by omega), strK_sum]
  exact sumTo_congr fun f hf => hisF_cnt hf hm
/-! ### counts -/
/-- behind the lines ahead of f and j windows from f on -/
def dueC (ns : List Int) (f j k : Nat) : Int := sumTo (fun g => cntF ns k g (ns.length - g)) f + cntF ns k f j
def dueCL (ns : List Int) (f j : Nat) : List Int := (List.range (ulen ns + 1)).map (dueC ns f j)
theorem dueCL_len (ns : List Int) (f j : Nat) : (dueCL ns f j).length = ulen ns + 1 := by simp [dueCL]
theorem dueCL_get {ns : List Int} {f j k : Nat} (h : k < ulen ns + 1) : (dueCL ns f j)[k]? = some (dueC ns f j k) := by
  unfold dueCL
  rw [List.getElem?_map, List.getElem?_range h]
  rfl
theorem dueCL_0 (ns : List Int) : dueCL ns 0 0 = List.replicate (ulen ns + 1) 0 := by
  refine List.ext_getElem? fun w => ?_
  by_cases h : w < ulen ns + 1
  · rw [dueCL_get h, List.getElem?_replicate, if_pos h]
    rfl
  · rw [List.getElem?_eq_none (by rw [dueCL_len]; omega), List.getElem?_eq_none (by rw [List.length_replicate]; omega)]
theorem dueCL_set {ns : List Int} {f j : Nat} (h : f + 1 + j ≤ ns.length) : (dueCL ns f j).set (wunN ns f (f + 1 + j)) ((dueCL ns f j).getD (wunN ns f (f + 1 + j)) 0 + 1) = dueCL ns f (j + 1) := by
  have hw : wunN ns f (f + 1 + j) < ulen ns + 1 := by have := wunN_le (ns := ns) (f := f) (b := f + 1 + j) (by omega) h; omega
  refine List.ext_getElem? fun w => ?_
  by_cases hw2 : w < ulen ns + 1
  · rw [List.getElem?_set, dueCL_len, dueCL_get hw2, dueCL_get hw2, getD_of (dueCL_get hw)]
    by_cases e : wunN ns f (f + 1 + j) = w
    · rw [if_pos e, if_pos (by omega), e]
      unfold dueC cntF
      show some _ = some (_ + (_ + (if (wunN ns f (f + 1 + j) : Int) = (w : Int) then 1 else 0)))
      rw [if_pos (by omega)]
      congr 1
      omega
    · rw [if_neg e]
      unfold dueC cntF
      show some _ = some (_ + (_ + (if (wunN ns f (f + 1 + j) : Int) = (w : Int) then 1 else 0)))
      rw [if_neg (by omega), Int.add_zero]
  · rw [List.getElem?_eq_none (by rw [List.length_set, dueCL_len]; omega), List.getElem?_eq_none (by rw [dueCL_len]; omega)]
theorem dueCL_up (ns : List Int) (f : Nat) : dueCL ns f (ns.length - f) = dueCL ns (f + 1) 0 :=
  List.map_congr_left fun k _ => by
    show sumTo _ f + cntF ns k f (ns.length - f) = (sumTo _ f + cntF ns k f (ns.length - f)) + 0
    omega
/-- how many windows have so many, for each number there is -/
def cntW (ns : List Int) : List Int := dueCL ns ns.length 0
theorem cntW_len (ns : List Int) : (cntW ns).length = ulen ns + 1 := dueCL_len ns _ _
theorem cntW_get {ns : List Int} {k : Nat} (h : k < ulen ns + 1) : (cntW ns).getD k 0 = sumTo (fun f => cntF ns k f (ns.length - f)) ns.length := by
  unfold cntW
  rw [getD_of (dueCL_get h)]
  show sumTo _ ns.length + 0 = _
  omega
theorem cntW_his {ns : List Int} {k : Nat} (h : k < ulen ns + 1) (h1 : 1 ≤ k) : (cntW ns).getD k 0 = hisN ns k := by
  rw [cntW_get h, hisN_cnt (by omega)]
theorem his_0 (ns : List Int) : hisN ns 0 = 0 := rfl
theorem cntW_0 (ns : List Int) : (cntW ns).getD 0 0 = 0 := by
  rw [cntW_get (Nat.succ_pos _)]
  have e : sumTo (fun f => cntF ns (0 : Nat) f (ns.length - f)) ns.length = sumTo (fun _ => 0) ns.length := sumTo_congr fun f hf => by
    unfold cntF
    have e2 : sumTo (fun t => if (wunN ns f (f + 1 + t) : Int) = ((0 : Nat) : Int) then 1 else 0) (ns.length - f) = sumTo (fun _ => 0) (ns.length - f) := sumTo_congr fun t ht => by
      rw [if_neg]
      have k1 := wunN_up (ns := ns) (f := f) (b := f) (Nat.le_refl f) hf
      rw [wunN_none, if_pos (by have := lastAt_range ns (ns.getD f 0) f; omega)] at k1
      have k2 := wunN_monoB (ns := ns) (f := f) (b := f + 1) (k := t) (by omega) (by omega)
      omega
    rw [e2, sumTo_zero]
  rw [e, sumTo_zero]
/-- beyond there is none -/
theorem his_none {ns : List Int} {m : Int} (h : (ulen ns : Int) < m) : hisN ns m = 0 := by
  rw [hisN_cnt (by omega)]
  have e : sumTo (fun f => cntF ns m f (ns.length - f)) ns.length = sumTo (fun _ => 0) ns.length := sumTo_congr fun f hf => by
    unfold cntF
    have e2 : sumTo (fun t => if (wunN ns f (f + 1 + t) : Int) = m then 1 else 0) (ns.length - f) = sumTo (fun _ => 0) (ns.length - f) := sumTo_congr fun t ht => by
      rw [if_neg]
      have := wunN_le (ns := ns) (f := f) (b := f + 1 + t) (by omega) (by omega)
      omega
    rw [e2, sumTo_zero]
  rw [e, sumTo_zero]
theorem his_due {ns : List Int} {m : Int} (h : 0 ≤ m) : (cntW ns ++ [0]).getD (if ((cntW ns).length : Int) < m then ((cntW ns).length : Int) else m).toNat 0 = hisN ns m := by
  have hl := cntW_len ns
  by_cases c : ((cntW ns).length : Int) < m
  · rw [if_pos c, Int.toNat_natCast, his_none (by omega), List.getD_eq_getElem?_getD, List.getElem?_append_right (Nat.le_refl _), Nat.sub_self]
    rfl
  · rw [if_neg c]
    by_cases e : m = ((cntW ns).length : Int)
    · rw [e, Int.toNat_natCast, his_none (by omega), List.getD_eq_getElem?_getD, List.getElem?_append_right (Nat.le_refl _), Nat.sub_self]
      rfl
    · have e2 : m = ((m.toNat : Nat) : Int) := by omega
      rw [List.getD_eq_getElem?_getD, List.getElem?_append_left (by omega), ← List.getD_eq_getElem?_getD]
      by_cases z : m.toNat = 0
      · rw [z, cntW_0, e2, z]; exact (his_0 ns).symm
      · rw [cntW_his (by omega) (by omega), ← e2]
/-! ### the longest window with at most so many -/
def better (b : Int × Int) (f e : Int) : Int × Int := if e - f > b.2 - b.1 then (f, e) else b
def lwK (ns : List Int) (m : Int) : Nat → Int × Int
  | 0 => (0, 0)
  | k + 1 => better (lwK ns m k) k (wi ns m k)
def lwin (ns : List Int) (m : Int) : Int × Int := lwK ns m ns.length
theorem better_ok {b : Int × Int} {f e n : Int} (h : 0 ≤ b.1 ∧ b.1 ≤ b.2 ∧ b.2 ≤ n) (h1 : 0 ≤ f) (h2 : f ≤ e) (h3 : e ≤ n) : 0 ≤ (better b f e).1 ∧ (better b f e).1 ≤ (better b f e).2 ∧ (better b f e).2 ≤ n := by
  unfold better
  split
  · exact ⟨h1, h2, h3⟩
  · exact h
theorem lwK_ok {ns : List Int} {m : Int} (h0 : 0 ≤ m) : ∀ k, k ≤ ns.length → 0 ≤ (lwK ns m k).1 ∧ (lwK ns m k).1 ≤ (lwK ns m k).2 ∧ (lwK ns m k).2 ≤ ns.length
  | 0, _ => ⟨Int.le_refl 0, Int.le_refl 0, by show (0 : Int) ≤ ns.length; omega⟩
  | k + 1, h => by
    have ih := lwK_ok (ns := ns) h0 k (by omega)
    obtain ⟨w1, w2, _⟩ := wi_spec (ns := ns) (m := m) (f := k) (by omega) h0
    exact better_ok ih (by omega) w1 w2
/-- by widths: the widest so far below j that has at most so many -/
def lwJ (ns : List Int) (m : Int) (b : Int × Int) (f j : Nat) : Int × Int := better b f (f + (min (j - 1) (wi ns m f - f).toNat : Nat))
theorem lwJ_0 {ns : List Int} {m : Int} {b : Int × Int} {f : Nat} (h : b.1 ≤ b.2) : lwJ ns m b f 0 = b := by
  unfold lwJ better
  rw [if_neg]
  rw [show min (0 - 1) (wi ns m f - f).toNat = 0 by omega]
  show ¬ (f : Int) + 0 - f > b.2 - b.1
  omega
theorem lwJ_s {ns : List Int} {m : Int} {b : Int × Int} {f j : Nat} (h : b.1 ≤ b.2) (h0 : 0 ≤ m) (hj : f + j ≤ ns.length) : lwJ ns m b f (j + 1) = if (wunN ns f (f + j) : Int) ≤ m ∧ (j : Int) > (lwJ ns m b f j).2 - (lwJ ns m b f j).1 then ((f : Int), (f : Int) + j) else lwJ ns m b f j := by
  obtain ⟨w1, w2, w3⟩ := wi_spec (ns := ns) (m := m) (f := f) (by omega) h0
  have k := w3 (f + j) (by omega) hj
  unfold lwJ
  rw [show j + 1 - 1 = j by omega]
  by_cases c : (wunN ns f (f + j) : Int) ≤ m
  · have k1 := k.mp c
    rw [show min j (wi ns m f - f).toNat = j by omega]
    rw [show min (j - 1) (wi ns m f - f).toNat = j - 1 by omega]
    unfold better
    by_cases d : (f : Int) + ((j : Nat) : Int) - f > b.2 - b.1
    · rw [if_pos d, if_pos]
      refine ⟨c, ?_⟩
      split
      · show (j : Int) > (f : Int) + ((j - 1 : Nat) : Int) - f
        omega
      · omega
    · have d2 : ¬ (f : Int) + ((j - 1 : Nat) : Int) - f > b.2 - b.1 := by omega
      rw [if_neg d, if_neg d2, if_neg]
      rintro ⟨_, z⟩
      omega
  · have k1 : ¬ ((f + j : Nat) : Int) ≤ wi ns m f := fun z => c (k.mpr z)
    rw [if_neg (fun z => c z.1)]
    rw [show min j (wi ns m f - f).toNat = min (j - 1) (wi ns m f - f).toNat by omega]
theorem lwJ_end {ns : List Int} {m : Int} {b : Int × Int} {f : Nat} (h0 : 0 ≤ m) (hf : f ≤ ns.length) : lwJ ns m b f (ns.length - f + 1) = better b f (wi ns m f) := by
  obtain ⟨w1, w2, _⟩ := wi_spec (ns := ns) (m := m) (f := f) hf h0
  unfold lwJ
  rw [show ((f : Int) + ((min (ns.length - f + 1 - 1) (wi ns m f - f).toNat : Nat) : Int)) = wi ns m f by omega]
theorem lwJ_ok {ns : List Int} {m : Int} {b : Int × Int} {f j : Nat} (h0 : 0 ≤ m) (hf : f ≤ ns.length) (h : 0 ≤ b.1 ∧ b.1 ≤ b.2 ∧ b.2 ≤ ns.length) : 0 ≤ (lwJ ns m b f j).1 ∧ (lwJ ns m b f j).1 ≤ (lwJ ns m b f j).2 ∧ (lwJ ns m b f j).2 ≤ ns.length := by
  obtain ⟨w1, w2, _⟩ := wi_spec (ns := ns) (m := m) (f := f) hf h0
  unfold lwJ better
  split
  · refine ⟨?_, ?_, ?_⟩
    · show (0 : Int) ≤ (f : Int); omega
    · show (f : Int) ≤ (f : Int) + _; omega
    · show (f : Int) + ((min (j - 1) (wi ns m f - f).toNat : Nat) : Int) ≤ ns.length; omega
  · exact h
/-- the last first place has no window wider than 0 -/
theorem lw_last {ns : List Int} {m : Int} (h0 : 0 ≤ m) : better (lwin ns m) ns.length (wi ns m ns.length) = lwin ns m := by
  obtain ⟨w1, w2, _⟩ := wi_spec (ns := ns) (m := m) (f := ns.length) (Nat.le_refl _) h0
  have k := lwK_ok (ns := ns) h0 ns.length (Nat.le_refl _)
  unfold better
  rw [if_neg]
  unfold lwin
  omega
/-! ### the longest and the shortest window with just so many -/
/-- a pair or None -/
structure OptP (H : Hp) (v : V) (o : Option (Int × Int)) : Prop where
  is : (o = none ∧ v = .non) ∨ ∃ (x y : Int) (p : Addr), o = some (x, y) ∧ v = .ref p ∧ H p = some (.tup [.int x, .int y])
theorem OptP.same {H H' : Hp} {v : V} {o : Option (Int × Int)} (k : OptP H v o) (s : Same H H') : OptP H' v o := by
  rcases k.is with h | ⟨x, y, p, h1, h2, h3⟩
  · exact ⟨.inl h⟩
  · exact ⟨.inr ⟨x, y, p, h1, h2, s _ _ h3⟩⟩
theorem OptP.non {H : Hp} : OptP H .non none := ⟨.inl ⟨rfl, rfl⟩⟩
theorem OptP.pair {H : Hp} {p : Addr} {x y : Int} (h : H p = some (.tup [.int x, .int y])) : OptP H (.ref p) (some (x, y)) := ⟨.inr ⟨x, y, p, rfl, rfl, h⟩⟩
def wbo (o : Option (Int × Int)) (f e : Int) : Option (Int × Int) := match o with
  | none => some (f, e)
  | some b => if e - f > b.2 - b.1 then some (f, e) else some b
def sbo (o : Option (Int × Int)) (f e : Int) : Option (Int × Int) := match o with
  | none => some (f, e)
  | some b => if e - f < b.2 - b.1 then some (f, e) else some b
def lonL (qs : List (Int × Int × Int)) : Option (Int × Int) := qs.foldl (fun o q => wbo o q.1 q.2.2) none
def shoL (qs : List (Int × Int × Int)) : Option (Int × Int) := qs.foldl (fun o q => sbo o q.1 q.2.1) none
def lon (ns : List Int) (m : Int) : Option (Int × Int) := lonL (strL ns m)
def sho (ns : List Int) (m : Int) : Option (Int × Int) := shoL (strL ns m)
theorem lonL_snoc (qs : List (Int × Int × Int)) (q : Int × Int × Int) : lonL (qs ++ [q]) = wbo (lonL qs) q.1 q.2.2 := by unfold lonL; rw [List.foldl_append]; rfl
theorem shoL_snoc (qs : List (Int × Int × Int)) (q : Int × Int × Int) : shoL (qs ++ [q]) = sbo (shoL qs) q.1 q.2.1 := by unfold shoL; rw [List.foldl_append]; rfl
/-- bounds -/
def OkP (n : Nat) (o : Option (Int × Int)) : Prop := ∀ x y, o = some (x, y) → 0 ≤ x ∧ x ≤ y ∧ y ≤ n
theorem OkP.none {n : Nat} : OkP n none := fun _ _ h => nomatch h
theorem OkP.wbo {n : Nat} {o : Option (Int × Int)} {f e : Int} (k : OkP n o) (h1 : 0 ≤ f) (h2 : f ≤ e) (h3 : e ≤ n) : OkP n (wbo o f e) := by
  intro x y h
  cases o with
  | none => cases h; exact ⟨h1, h2, h3⟩
  | some b =>
    have h' : (if e - f > b.2 - b.1 then some (f, e) else some b) = some (x, y) := h
    split at h'
    · cases h'; exact ⟨h1, h2, h3⟩
    · exact k x y h'
theorem OkP.sbo {n : Nat} {o : Option (Int × Int)} {f e : Int} (k : OkP n o) (h1 : 0 ≤ f) (h2 : f ≤ e) (h3 : e ≤ n) : OkP n (sbo o f e) := by
  intro x y h
  cases o with
  | none => cases h; exact ⟨h1, h2, h3⟩
  | some b =>
    have h' : (if e - f < b.2 - b.1 then some (f, e) else some b) = some (x, y) := h
    split at h'
    · cases h'; exact ⟨h1, h2, h3⟩
    · exact k x y h'
theorem okP_str {ns : List Int} {m : Int} (h0 : 0 ≤ m) : ∀ k, k ≤ ns.length → OkP ns.length (lonL (strK ns m k)) ∧ OkP ns.length (shoL (strK ns m k))
  | 0, _ => ⟨OkP.none, OkP.none⟩
  | k + 1, h => by
    obtain ⟨i1, i2⟩ := okP_str (ns := ns) h0 k (by omega)
    rw [strK_s]
    cases e : endAt ns k m with
    | none => rw [Option.map_none, Option.toList_none, List.append_nil]; exact ⟨i1, i2⟩
    | some b =>
      obtain ⟨w1, w2, _⟩ := wi_spec (ns := ns) (m := m) (f := k) (by omega) h0
      obtain ⟨e1, e2, _, _⟩ := endAt_just (ns := ns) (f := k) (by omega) h0 e
      rw [Option.map_some, Option.toList_some, lonL_snoc, shoL_snoc]
      exact ⟨i1.wbo (by show (0 : Int) ≤ (k : Int); omega) w1 w2, i2.sbo (by show (0 : Int) ≤ (k : Int); omega) (by show (k : Int) ≤ (b : Int); omega) (by show (b : Int) ≤ _; omega)⟩
theorem okP_lon {ns : List Int} {m : Int} (h0 : 0 ≤ m) : OkP ns.length (lon ns m) ∧ OkP ns.length (sho ns m) := by
  unfold lon sho strL
  split
  · exact ⟨OkP.none, OkP.none⟩
  · exact okP_str h0 _ (Nat.le_refl _)
/-- a line, by widths: behind the widths up to j -/
def lonJ (ns : List Int) (m : Int) (o : Option (Int × Int)) (f j : Nat) : Option (Int × Int) := match endAt ns f m with
  | none => o
  | some e => if e ≤ f + j then wbo o f (min ((f : Int) + j) (wi ns m f)) else o
def shoJ (ns : List Int) (m : Int) (o : Option (Int × Int)) (f j : Nat) : Option (Int × Int) := match endAt ns f m with
  | none => o
  | some e => if e ≤ f + j then sbo o f e else o
theorem endAt_pos {ns : List Int} {f e : Nat} {m : Int} (hf : f ≤ ns.length) (h1 : 1 ≤ m) (h : endAt ns f m = some e) : f < e := by
  obtain ⟨k1, _, k3, _⟩ := endAt_just hf (by omega) h
  refine Nat.lt_of_le_of_ne k1 fun z => ?_
  subst z
  rw [wunN_none] at k3
  omega
theorem lonJ_0 {ns : List Int} {m : Int} {o : Option (Int × Int)} {f : Nat} (hf : f ≤ ns.length) (h1 : 1 ≤ m) : lonJ ns m o f 0 = o ∧ shoJ ns m o f 0 = o := by
  unfold lonJ shoJ
  cases e : endAt ns f m with
  | none => exact ⟨rfl, rfl⟩
  | some b =>
    have := endAt_pos hf h1 e
    exact ⟨if_neg (by omega), if_neg (by omega)⟩
theorem lonJ_s {ns : List Int} {m : Int} {o : Option (Int × Int)} {f j : Nat} (hj : f + (j + 1) ≤ ns.length) (h1 : 1 ≤ m) : lonJ ns m o f (j + 1) = if (wunN ns f (f + (j + 1)) : Int) = m then wbo (lonJ ns m o f j) f ((f : Int) + ((j : Int) + 1)) else lonJ ns m o f j := by
  have k := just_iff (ns := ns) (m := m) (f := f) (b := f + (j + 1)) (by omega) hj (by omega)
  obtain ⟨w1, w2, _⟩ := wi_spec (ns := ns) (m := m) (f := f) (by omega) (show 0 ≤ m by omega)
  unfold lonJ
  cases e : endAt ns f m with
  | none =>
    rw [if_neg]
    intro z
    obtain ⟨e2, h, _⟩ := k.mp z
    rw [e] at h; cases h
  | some b =>
    have hew := end_le_wi (by omega) (by omega) e
    show (if b ≤ f + (j + 1) then wbo o f (min ((f : Int) + ((j + 1 : Nat) : Int)) (wi ns m f)) else o) = if _ then wbo (if b ≤ f + j then wbo o f (min ((f : Int) + j) (wi ns m f)) else o) f _ else (if b ≤ f + j then wbo o f (min ((f : Int) + j) (wi ns m f)) else o)
    by_cases c : (wunN ns f (f + (j + 1)) : Int) = m
    · obtain ⟨e2, h, h2, h3⟩ := k.mp c
      rw [e] at h
      cases h
      rw [if_pos c, if_pos h2]
      rw [show min ((f : Int) + ((j + 1 : Nat) : Int)) (wi ns m f) = (f : Int) + ((j : Int) + 1) by omega]
      by_cases d : b ≤ f + j
      · rw [if_pos d, show min ((f : Int) + j) (wi ns m f) = (f : Int) + j by omega]
        cases o with
        | none =>
          show some _ = (if _ then _ else _)
          rw [if_pos (by show (f : Int) + ((j : Int) + 1) - f > (f : Int) + j - f; omega)]
        | some p =>
          show (if (f : Int) + ((j : Int) + 1) - f > p.2 - p.1 then some ((f : Int), (f : Int) + ((j : Int) + 1)) else some p) = wbo (if (f : Int) + j - f > p.2 - p.1 then some ((f : Int), (f : Int) + j) else some p) f ((f : Int) + ((j : Int) + 1))
          by_cases q : (f : Int) + j - f > p.2 - p.1
          · rw [if_pos q, if_pos (by omega)]
            show _ = (if _ then _ else _)
            rw [if_pos (by show (f : Int) + ((j : Int) + 1) - f > (f : Int) + j - f; omega)]
          · rw [if_neg q]
            rfl
      · rw [if_neg d]
    · rw [if_neg c]
      by_cases d : b ≤ f + j
      · have hw : ¬ ((f + (j + 1) : Nat) : Int) ≤ wi ns m f := fun z => c (k.mpr ⟨b, e, by omega, z⟩)
        rw [if_pos d, if_pos (by omega), show min ((f : Int) + ((j + 1 : Nat) : Int)) (wi ns m f) = min ((f : Int) + j) (wi ns m f) by omega]
      · rw [if_neg d, if_neg]
        intro z
        exact c (k.mpr ⟨b, e, z, by omega⟩)
theorem shoJ_s {ns : List Int} {m : Int} {o : Option (Int × Int)} {f j : Nat} (hj : f + (j + 1) ≤ ns.length) (h1 : 1 ≤ m) : shoJ ns m o f (j + 1) = if (wunN ns f (f + (j + 1)) : Int) = m then sbo (shoJ ns m o f j) f ((f : Int) + ((j : Int) + 1)) else shoJ ns m o f j := by
  have k := just_iff (ns := ns) (m := m) (f := f) (b := f + (j + 1)) (by omega) hj (by omega)
  unfold shoJ
  cases e : endAt ns f m with
  | none =>
    rw [if_neg]
    intro z
    obtain ⟨e2, h, _⟩ := k.mp z
    rw [e] at h; cases h
  | some b =>
    have hew := end_le_wi (by omega) (by omega) e
    show (if b ≤ f + (j + 1) then sbo o f b else o) = if _ then sbo (if b ≤ f + j then sbo o f b else o) f _ else (if b ≤ f + j then sbo o f b else o)
    by_cases c : (wunN ns f (f + (j + 1)) : Int) = m
    · obtain ⟨e2, h, h2, h3⟩ := k.mp c
      rw [e] at h
      cases h
      rw [if_pos c, if_pos h2]
      by_cases d : b ≤ f + j
      · rw [if_pos d]
        cases o with
        | none =>
          show some _ = (if _ then _ else _)
          rw [if_neg (by show ¬ (f : Int) + ((j : Int) + 1) - f < (b : Int) - f; omega)]
        | some p =>
          show (if (b : Int) - f < p.2 - p.1 then some ((f : Int), (b : Int)) else some p) = sbo (if (b : Int) - f < p.2 - p.1 then some ((f : Int), (b : Int)) else some p) f ((f : Int) + ((j : Int) + 1))
          by_cases q : (b : Int) - f < p.2 - p.1
          · rw [if_pos q]
            show _ = (if _ then _ else _)
            rw [if_neg (by show ¬ (f : Int) + ((j : Int) + 1) - f < (b : Int) - f; omega)]
          · rw [if_neg q]
            show _ = (if _ then _ else _)
            rw [if_neg (by omega)]
      · rw [if_neg d, show (b : Int) = (f : Int) + ((j : Int) + 1) by omega]
    · rw [if_neg c]
      by_cases d : b ≤ f + j
      · rw [if_pos d, if_pos (by omega)]
      · rw [if_neg d, if_neg]
        intro z
        exact c (k.mpr ⟨b, e, z, by omega⟩)
theorem lonJ_end {ns : List Int} {m : Int} {f : Nat} (hf : f ≤ ns.length) (h1 : 1 ≤ m) : lonJ ns m (lonL (strK ns m f)) f (ns.length - f) = lonL (strK ns m (f + 1)) ∧ shoJ ns m (shoL (strK ns m f)) f (ns.length - f) = shoL (strK ns m (f + 1)) := by
  obtain ⟨w1, w2, _⟩ := wi_spec (ns := ns) (m := m) (f := f) hf (show 0 ≤ m by omega)
  rw [strK_s]
  unfold lonJ shoJ
  cases e : endAt ns f m with
  | none => rw [Option.map_none, Option.toList_none, List.append_nil]; exact ⟨rfl, rfl⟩
  | some b =>
    obtain ⟨_, e2, _, _⟩ := endAt_just (ns := ns) (f := f) hf (by omega) e
    rw [Option.map_some, Option.toList_some, lonL_snoc, shoL_snoc]
    refine ⟨?_, ?_⟩
    · show (if b ≤ f + (ns.length - f) then _ else _) = _
      rw [if_pos (by omega), show min ((f : Int) + ((ns.length - f : Nat) : Int)) (wi ns m f) = wi ns m f by omega]
    · show (if b ≤ f + (ns.length - f) then _ else _) = _
      rw [if_pos (by omega)]
/-- the last first place has none -/
theorem strK_last {ns : List Int} {m : Int} (h1 : 1 ≤ m) : strK ns m (ns.length + 1) = strK ns m ns.length := by
  rw [strK_s]
  cases e : endAt ns ns.length m with
  | none => rw [Option.map_none, Option.toList_none, List.append_nil]
  | some b =>
    have k1 := endAt_pos (Nat.le_refl _) h1 e
    obtain ⟨_, e2, _, _⟩ := endAt_just (ns := ns) (f := ns.length) (Nat.le_refl _) (by omega) e
    omega
end Ur

/-! sum(d.values()) of a dict of ints -/
namespace UrD
open PySem PySem.Spec PyProof.Rows L2
def tSumVals (te : TE) : TE := fun σ H Q => te σ H fun x H1 => ∃ (d : Addr) (kvs : List (Key × V)) (ns : List Int), x = .ref d ∧ H1 d = some (.dK kvs) ∧ kvs.map Prod.snd = ns.map V.int ∧ Q (.int ns.sum) H1
theorem kv_val {kvs : List (Key × V)} {vs : List (Key × Value)} {ns : List Int} (kv : KV kvs vs) (h : kvs.map Prod.snd = ns.map V.int) {i : Nat} {k : Key} {v : Value} (hv : vs[i]? = some (k, v)) : ∃ n t, ns[i]? = some n ∧ v = .int n t := by
  have hl : kvs.length = vs.length := Paired.length kv
  have hi := (List.getElem?_eq_some_iff.mp hv).1
  obtain ⟨⟨k2, x⟩, hk⟩ : ∃ p, kvs[i]? = some p := ⟨kvs[i], List.getElem?_eq_getElem (by omega)⟩
  obtain ⟨u, hu, ru⟩ := kv_get kv hk
  rw [hv] at hu
  cases hu
  have hx : (kvs.map Prod.snd)[i]? = some x := by rw [List.getElem?_map, hk]; rfl
  rw [h, List.getElem?_map] at hx
  obtain ⟨n, hn, e⟩ := Option.map_eq_some_iff.mp hx
  subst e
  obtain ⟨t, rfl⟩ := ru
  exact ⟨n, t, hn, rfl⟩
theorem preSum_ns (ns : List Int) : ∀ n, preSum (fun i => ns.getD i 0) n = (ns.take n).sum
  | 0 => by simp [preSum]
  | n + 1 => by
    rw [preSum, preSum_ns ns n, List.take_add_one, List.sum_append, List.getD_eq_getElem?_getD]
    cases ns[n]? <;> simp
theorem pe_sumVals {X : Cx} {e : Expr} {td : TE} {p pos apos cpos : Pos} (hg : Gl X "sum") (hm : X.mg "sum" = none) (he : PE X e td) (hc : X.calm = true := by rfl)
    (hbase : attributeBase e "values" X.env (eval e X.env) = eval e X.env := by rfl) (hline : (apos.endLine == cpos.line) = true := by rfl) :
    PE X (.Call (.Name "sum" p) [.Call (.Attribute e "values" apos) [] [] cpos] [] pos) (tSumVals td) := by
  refine ⟨fun pins s σ H Q I h => ?_⟩
  refine Call_ (ld_blt I hg hm boot_sum ?_)
  refine PyProof.Rows.callWith_builtin1 (PyProof.Rows.args_cons ?_ rfl) rfl rfl
  refine wpAny_Call_method (T := "dict") (id := "dict.values") hbase rfl hline F.plainAttrs_dict F.slot_dict_values F.type_dict_values (thn (he.run pins s σ H _ I h) fun u s1 ⟨x, H1, I1, rx, d, kvs, ns, ex, hd, hns, q⟩ => ?_)
  subst ex
  obtain rfl : u = Value.ref d := rx
  obtain ⟨hsz, hs, vs, kv, hdo⟩ := I1.hok d _ hd
  obtain ⟨ep, hm1⟩ := hdo.dictAt
  have hl : kvs.length = vs.length := Paired.length kv
  have hnl : ns.length = vs.length := by rw [← hl]; have := congrArg List.length hns; simpa using this.symm
  refine ⟨hm1.dictOf.typeIs, hm1.dictOf.mapOf.noDict, ?_⟩
  show wpAny _ _ (callWith cpos (.builtin "dict.values") [.ref d] [] []) _ X.xe s1
  refine method_meetsIn F.slot_dict_values F.entry_dict_values rfl (PySem.evalArgs_none ⟨rfl, hm1.dictOf.typeIs, F.args_dict_values_1 _, _, meets_dict_values (mixKind X.prog X.w) d hs, ⟨vs, hm1.dictOf⟩, ?_⟩)
  refine PyProof.Rows.args_nil ?_
  have I2 : Inv X pins σ H1 { s1 with heap := s1.heap.push { cls := .type "dict_values", data := .fields #[.ref d] } } := I1.kept (t' := s1.toks) fun b ob q => Heap.get?_push_of_some _ q
  refine call_sum_walkAnyS (wpAny_pyIter_values (d := d) (knd := mixKind X.prog X.w) ⟨_, Heap.get?_push_size _ rfl, rfl, rfl⟩ (hm1.push _) ?_)
  have hh : X.A.in1.handled = none := I1.ok.hd hc
  have hdlt : d < s1.heap.objs.size := by
    obtain ⟨o, _, e, _⟩ := hm1
    exact Heap.lt_size e
  refine ⟨_, _, _, _, vs.length, _, _, fun i => ns.getD i 0, rfl, (Walks.dictValues (knd := mixKind X.prog X.w) hh _ d ?_ vs ep).toS, ⟨⟨_, Heap.get?_push_size _ rfl, rfl, rfl⟩, (hm1.push _).push _⟩, fun b hb => ?_, fun i v ⟨k, hk⟩ => ?_, fun s' t' mv => ?_⟩
  · rw [Heap.size_push]
    exact Nat.ne_of_lt (Nat.lt_succ_of_lt hdlt)
  · rw [Heap.size_push]
    rcases List.mem_cons.mp hb with e | hb
    · rw [e]; exact Nat.lt_succ_self _
    · rw [List.mem_singleton.mp hb, Heap.size_push]
      exact Nat.lt_succ_of_lt (Nat.lt_succ_of_lt hdlt)
  · obtain ⟨n, t, hn, rfl⟩ := kv_val kv hns hk
    exact ⟨t, by show Value.int n t = Value.int (ns.getD i 0) t; rw [List.getD_eq_getElem?_getD, hn]; rfl⟩
  · rw [Moved.eq_with mv, preSum_ns, ← hnl, List.take_length]
    refine ⟨.int ns.sum, H1, I2.kept (t' := s'.toks) fun b o e => ?_, ⟨t', rfl⟩, q⟩
    refine mv.heap b o (fun hb => ?_) (Heap.get?_push_of_some _ e)
    rw [List.mem_singleton.mp hb] at e
    exact absurd (Heap.lt_size e) (by rw [Heap.size_push]; exact Nat.lt_irrefl _)
/-! ### a dict against one without entries -/
def rEqDE : R2 := fun x y H Q => ∃ a b ks, x = .ref a ∧ y = .ref b ∧ H a = some (.dK ks) ∧ H b = some (.dK []) ∧ Q (.bl (decide (ks = []))) H
def rNeDE : R2 := fun x y H Q => ∃ a b ks, x = .ref a ∧ y = .ref b ∧ H a = some (.dK ks) ∧ H b = some (.dK []) ∧ Q (.bl (!decide (ks = []))) H
theorem len_nil {ks : List (Key × V)} {va vb : List (Key × Value)} (ra : KV ks va) (rb : KV ([] : List (Key × V)) vb) : (va.length == vb.length && true) = decide (ks = []) := by
  have h1 : ks.length = va.length := Paired.length ra
  have h2 : ([] : List (Key × V)).length = vb.length := Paired.length rb
  rw [← h1, ← h2]
  cases ks with
  | nil => rfl
  | cons x ks =>
    rw [decide_eq_false (fun e => nomatch e)]
    rfl
theorem nil_of {ks : List (Key × V)} {va vb : List (Key × Value)} (ra : KV ks va) (rb : KV ([] : List (Key × V)) vb) (h : va.length = vb.length) : ks = [] := by
  have h1 : ks.length = va.length := Paired.length ra
  have h2 : ([] : List (Key × V)).length = vb.length := Paired.length rb
  cases ks with
  | nil => rfl
  | cons x ks => simp at h1 h2; omega
theorem op_eqDE {X : Cx} (hu : X.A.units + 1 < cLine) : OpR X (compareOp .Eq) rEqDE := by
  intro pins s σ H x y v u Q I rx ry h
  obtain ⟨a, b, ks, rfl, rfl, ea, eb, q⟩ := h
  obtain rfl : v = Value.ref a := rx
  obtain rfl : u = Value.ref b := ry
  obtain ⟨_, ya, va, ra, da⟩ := (show ObjOk X.prog X.w H s.heap a (.dK ks) from I.hok a _ ea)
  obtain ⟨_, yb, vb, rb, db⟩ := (show ObjOk X.prog X.w H s.heap b (.dK []) from I.hok b _ eb)
  exact PySem.W.keq_eq (knd := mixKind X.prog X.w) (r := true) ya yb da db (Nat.lt_of_succ_lt hu) (fun e => hits_all rb ra (fun p hp => by rw [nil_of ra rb e] at hp; exact nomatch hp)) (fin_bl I q (len_nil ra rb).symm)
theorem op_neDE {X : Cx} (hu : X.A.units + 1 < cLine) : OpR X (compareOp .NotEq) rNeDE := by
  intro pins s σ H x y v u Q I rx ry h
  obtain ⟨a, b, ks, rfl, rfl, ea, eb, q⟩ := h
  obtain rfl : v = Value.ref a := rx
  obtain rfl : u = Value.ref b := ry
  obtain ⟨_, ya, va, ra, da⟩ := (show ObjOk X.prog X.w H s.heap a (.dK ks) from I.hok a _ ea)
  obtain ⟨_, yb, vb, rb, db⟩ := (show ObjOk X.prog X.w H s.heap b (.dK []) from I.hok b _ eb)
  exact PySem.W.keq_ne (knd := mixKind X.prog X.w) (r := true) ya yb da db (Nat.lt_of_succ_lt hu) (fun e => hits_all rb ra (fun p hp => by rw [nil_of ra rb e] at hp; exact nomatch hp)) (fin_bl I q (by rw [len_nil ra rb]))
end UrD

/-! min of a list of pairs of ints -/
namespace UrM
open PySem PySem.W PySem.Spec PyProof.Rows L2
/-- p ahead of q -/
def pl (p q : Int × Int) : Bool := decide (p.1 < q.1 ∨ (p.1 = q.1 ∧ p.2 < q.2))
def pD (q : Int × Int) : PyData := .tuple [.int q.1, .int q.2]
theorem lt_pair (p q : Int × Int) : dataLt (pD p) (pD q) = pl p q := by
  obtain ⟨a, b⟩ := p
  obtain ⟨c, d⟩ := q
  have e1 : keyToks (pD (a, b)) = [.inl 1, .inl a, .inl 1, .inl b, .inl 0] := by
    simp [pD, keyToks, keyToksAll]
  have e2 : keyToks (pD (c, d)) = [.inl 1, .inl c, .inl 1, .inl d, .inl 0] := by
    simp [pD, keyToks, keyToksAll]
  unfold dataLt pl
  rw [e1, e2, lex_self (O := itemOrd)]
  by_cases h : a = c
  · subst h
    rw [lex_self (O := itemOrd), lex_self (O := itemOrd)]
    by_cases h2 : b = d
    · subst h2
      rw [lex_self (O := itemOrd), lex_self (O := itemOrd)]
      simp [PyProof.Rows.lexLt]
    · rw [lex_diff (O := itemOrd) (by intro k; injection k with k; exact h2 k)]
      show decide (b < d) = _
      simp
  · rw [lex_diff (O := itemOrd) (by intro k; injection k with k; exact h k)]
    show decide (a < c) = _
    refine decide_eq_decide.mpr ⟨Or.inl, fun k => k.elim id fun k => absurd k.1 h⟩
/-- the least, the first of several -/
theorem best_least (f : Nat → Int × Int) : ∀ k, argBest (fun i j => pl (f i) (f j)) k ≤ k ∧ ∀ j, j ≤ k → (f (argBest (fun i j => pl (f i) (f j)) k)).1 < (f j).1 ∨ ((f (argBest (fun i j => pl (f i) (f j)) k)).1 = (f j).1 ∧ (f (argBest (fun i j => pl (f i) (f j)) k)).2 ≤ (f j).2)
  | 0 => ⟨Nat.le_refl 0, fun j h => by
    rw [Nat.le_zero.mp h]
    exact .inr ⟨rfl, Int.le_refl _⟩⟩
  | k + 1 => by
    obtain ⟨h1, h2⟩ := best_least f k
    have e : argBest (fun i j => pl (f i) (f j)) (k + 1) = if pl (f (k + 1)) (f (argBest (fun i j => pl (f i) (f j)) k)) then k + 1 else argBest (fun i j => pl (f i) (f j)) k := rfl
    rw [e]
    by_cases h : pl (f (k + 1)) (f (argBest (fun i j => pl (f i) (f j)) k)) = true
    · rw [if_pos h]
      have h3 := of_decide_eq_true h
      refine ⟨Nat.le_refl _, fun j hj => ?_⟩
      by_cases hk : j = k + 1
      · rw [hk]; exact .inr ⟨rfl, Int.le_refl _⟩
      · have := h2 j (by omega)
        omega
    · rw [if_neg h]
      have h3 : ¬ ((f (k + 1)).1 < (f (argBest (fun i j => pl (f i) (f j)) k)).1 ∨ ((f (k + 1)).1 = (f (argBest (fun i j => pl (f i) (f j)) k)).1 ∧ (f (k + 1)).2 < (f (argBest (fun i j => pl (f i) (f j)) k)).2)) := fun z => h (decide_eq_true z)
      refine ⟨by omega, fun j hj => ?_⟩
      by_cases hk : j = k + 1
      · rw [hk]; omega
      · exact h2 j (by omega)
def rMinP (K : PySem.W.Frag) : List V → Hp → VK → Prop := fun vs H Q => ∃ (a : Addr) (ls : List Addr) (ps : List (Int × Int)), vs = [.ref a] ∧ SqL K H a (ls.map V.ref) ∧ Dp K H (.ref a) (.list (ps.map pD)) ∧ ls.length = ps.length ∧ 0 < ps.length ∧
  ∀ (i : Nat) (l : Addr) (q : Int × Int), ls[i]? = some l → ps[i]? = some q → (∀ p ∈ ps, q.1 < p.1 ∨ (q.1 = p.1 ∧ q.2 ≤ p.2)) → Q (.ref l) H
theorem depth_pD (ps : List (Int × Int)) : PyData.depthAll (ps.map pD) ≤ 2 := by
  induction ps with
  | nil =>
    rw [List.map_nil, PyData.depthAll]
    exact Nat.zero_le _
  | cons q ps ih =>
    rw [List.map_cons, PyData.depthAll]
    refine Nat.max_le.mpr ⟨?_, ih⟩
    simp [pD, PyData.depth, PyData.depthAll]
theorem alike_pD (ps : List (Int × Int)) : AlikeAll (ps.map pD) := by
  refine ⟨fun x hx y hy => ?_, fun x hx => ?_⟩
  · obtain ⟨p, _, rfl⟩ := List.mem_map.mp hx
    obtain ⟨q, _, rfl⟩ := List.mem_map.mp hy
    simp [pD, alike, alikeAll]
  · obtain ⟨p, _, rfl⟩ := List.mem_map.mp hx
    exact fun k => nomatch k
theorem cr_minP {X : Cx} {K : PySem.W.Frag} (hk : X.K = K) (hc : X.calm = true) (hu : X.A.units + 64 < cLine) : CallR X (.builtin "min") (rMinP K) := by
  subst hk
  intro pins s σ H vs us Q I r h
  obtain ⟨a, ls, ps, rfl, hs, hd, hll, hne, q⟩ := h
  obtain ⟨its, rv, hl, _⟩ := I.list hs
  rw [Vals.ref1 r]
  have hl2 := hl.isList
  obtain ⟨as0, hr0⟩ : ∃ as, ReadsAll s.heap its (ps.map pD) as := by
    cases hd with
    | lst hs2 ha =>
      obtain ⟨its2, rv2, hl3, _⟩ := I.list hs2
      have e : its2 = its := by
        have h1 := hl.isList
        have h2 := hl3.isList
        obtain ⟨o1, g1, _, n1, d1⟩ := h1
        obtain ⟨o2, g2, _, n2, d2⟩ := h2
        rw [g1] at g2
        injection g2 with g2
        rw [← g2, d1] at d2
        injection d2 with d2 _
        have := congrArg Array.toList d2
        simpa using this.symm
      subst e
      exact Dp.readsAll I _ _ _ ha rv2
  have hr : ReadsAll s.heap its.toArray.toList (ps.map pD) as0 := by simpa using hr0
  have hn : its.length = ps.length := by
    have := rv.length
    rw [List.length_map] at this
    omega
  have hh : X.A.in1.handled = none := I.ok.hd hc
  refine call_min_walkH (iter_listW (A := X.A.in1) hh hl2 fun s₂ e W st hfp hw hk => ?_)
  refine ⟨_, _, _, _, _, _, _, s.heap, _, rfl, W, st, hfp, by simpa [hn] using hne, hw, hk, cmpIn_lt (A := X.A.in1) hr (alike_pD ps) (by
    have h1 := depth_pD ps
    show X.A.units + 1 + _ < _
    omega), fun v s' hP m => ?_⟩
  obtain ⟨h', tk, rfl, hk'⟩ := moved_old e rfl m
  have eb : (fun i j => dataLt ((ps.map pD).getD i .none) ((ps.map pD).getD j .none)) = fun i j => dataLt ((ps.map pD).getD i .none) ((ps.map pD).getD j .none) := rfl
  obtain ⟨g1, g2⟩ := best_least (fun i => ps.getD i (0, 0)) (its.toArray.size - 1)
  have hsz : its.toArray.size = ps.length := by simpa using hn
  have hcong : ∀ k, k < ps.length → argBest (fun i j => dataLt ((ps.map pD).getD i .none) ((ps.map pD).getD j .none)) k = argBest (fun i j => pl (ps.getD i (0, 0)) (ps.getD j (0, 0))) k := by
    intro k
    induction k with
    | zero => intro _; rfl
    | succ k ih =>
      intro hk1
      have ihk := ih (by omega)
      have hb := (best_least (fun i => ps.getD i (0, 0)) k).1
      have hg : ∀ j, j < ps.length → (ps.map pD).getD j .none = pD (ps.getD j (0, 0)) := fun j hj => by
        rw [List.getD_eq_getElem?_getD, List.getElem?_map, List.getElem?_eq_getElem hj, List.getD_eq_getElem?_getD, List.getElem?_eq_getElem hj]; rfl
      show (if dataLt ((ps.map pD).getD (k + 1) .none) ((ps.map pD).getD (argBest _ k) .none) then k + 1 else argBest _ k) = (if pl (ps.getD (k + 1) (0, 0)) (ps.getD (argBest _ k) (0, 0)) then k + 1 else argBest _ k)
      rw [ihk, hg _ hk1, hg _ (by omega), lt_pair]
  rw [hcong _ (by omega)] at hP
  generalize argBest (fun i j => pl (ps.getD i (0, 0)) (ps.getD j (0, 0))) (its.toArray.size - 1) = i at *
  have hi : i < ls.length := by omega
  have e1 : (ls.map V.ref)[i]? = some (V.ref ls[i]) := by rw [List.getElem?_map, List.getElem?_eq_getElem hi]; rfl
  obtain ⟨u, hu2, ru⟩ := Vals.get rv e1
  have hv : v = u := by
    have h1 : its[i]? = some v := by simpa using hP
    rw [h1] at hu2
    injection hu2
  subst hv
  have hru : v = Value.ref ls[i] := ru
  subst hru
  refine ⟨.ref ls[i], H, I.kept hk', rfl, q i ls[i] (ps.getD i (0, 0)) (List.getElem?_eq_getElem hi) ?_ fun p hp => ?_⟩
  · rw [List.getD_eq_getElem?_getD, List.getElem?_eq_getElem (by omega)]; rfl
  · obtain ⟨j, hj⟩ := List.getElem?_of_mem hp
    have hjl := (List.getElem?_eq_some_iff.mp hj).1
    have := g2 j (by omega)
    have ej : ps.getD j (0, 0) = p := by rw [List.getD_eq_getElem?_getD, hj]; rfl
    rw [ej] at this
    exact this
end UrM

namespace Ur
open PySem L2
/-! ### windows that hold needs -/
structure NeedsOk (ps : List (Int × Int)) : Prop where
  nd : (ps.map Prod.fst).Nodup
  pos : ∀ q ∈ ps, 1 ≤ q.2
/-- each number so often at least -/
def hold (ps : List (Int × Int)) (W : List Int) : Bool := ps.all fun q => decide (q.2 ≤ (W.count q.1 : Int))
/-- how many are lacking -/
def lackN (ps : List (Int × Int)) (W : List Int) : Int := (ps.map fun q => if q.2 - (W.count q.1 : Int) > 0 then q.2 - (W.count q.1 : Int) else 0).sum
/-- the dict of what is lacking -/
def lackK (ps : List (Int × Int)) (W : List Int) : List (Key × V) := ps.map fun q => (Sum.inl q.1, V.int (q.2 - (W.count q.1 : Int)))
theorem hold_iff {ps : List (Int × Int)} {W : List Int} : hold ps W = true ↔ ∀ q ∈ ps, q.2 ≤ (W.count q.1 : Int) := by
  unfold hold
  rw [List.all_eq_true]
  exact ⟨fun h q hq => of_decide_eq_true (h q hq), fun h q hq => decide_eq_true (h q hq)⟩
theorem lackN_cons (q : Int × Int) (ps : List (Int × Int)) (W : List Int) : lackN (q :: ps) W = (if q.2 - (W.count q.1 : Int) > 0 then q.2 - (W.count q.1 : Int) else 0) + lackN ps W := by
  unfold lackN
  rw [List.map_cons, List.sum_cons]
theorem lackN_nn : ∀ (ps : List (Int × Int)) (W : List Int), 0 ≤ lackN ps W
  | [], W => Int.le_refl 0
  | q :: ps, W => by
    have := lackN_nn ps W
    rw [lackN_cons]
    split <;> omega
theorem lackN_hold : ∀ (ps : List (Int × Int)) (W : List Int), lackN ps W = 0 ↔ hold ps W = true
  | [], W => ⟨fun _ => rfl, fun _ => rfl⟩
  | q :: ps, W => by
    have ih := lackN_hold ps W
    have nn := lackN_nn ps W
    have e : hold (q :: ps) W = (decide (q.2 ≤ (W.count q.1 : Int)) && hold ps W) := rfl
    rw [lackN_cons, e, Bool.and_eq_true, decide_eq_true_iff, ← ih]
    split <;> constructor <;> intro h <;> (try constructor) <;> omega
/-- counts alone -/
theorem lackN_congr {ps : List (Int × Int)} {W W' : List Int} (h : ∀ z, W.count z = W'.count z) : lackN ps W = lackN ps W' := by
  unfold lackN
  congr 1
  exact List.map_congr_left fun q _ => by rw [h]
theorem hold_congr {ps : List (Int × Int)} {W W' : List Int} (h : ∀ z, W.count z = W'.count z) : hold ps W = hold ps W' := by
  unfold hold
  congr 1
  funext q
  rw [h]
theorem lackK_congr {ps : List (Int × Int)} {W W' : List Int} (h : ∀ z, W.count z = W'.count z) : lackK ps W = lackK ps W' := by
  unfold lackK
  exact List.map_congr_left fun q _ => by rw [h]
theorem count_snoc (W : List Int) (x z : Int) : (W ++ [x]).count z = W.count z + if x = z then 1 else 0 := by
  rw [List.count_append, List.count_cons, List.count_nil]
  simp
theorem count_swap (W : List Int) (x z : Int) : (x :: W).count z = (W ++ [x]).count z := by
  rw [count_snoc, List.count_cons]
  simp
/-- what a number needs -/
def needOf : List (Int × Int) → Int → Option Int
  | [], _ => none
  | q :: ps, z => if q.1 = z then some q.2 else needOf ps z
theorem needOf_cons (q : Int × Int) (ps : List (Int × Int)) (z : Int) : needOf (q :: ps) z = if q.1 = z then some q.2 else needOf ps z := rfl
theorem needOf_mem : ∀ {ps : List (Int × Int)} {z t : Int}, needOf ps z = some t → (z, t) ∈ ps
  | [], z, t, h => nomatch h
  | q :: ps, z, t, h => by
    rw [needOf_cons] at h
    by_cases e : q.1 = z
    · rw [if_pos e] at h
      injection h with h
      rw [← e, ← h]
      exact List.mem_cons_self
    · rw [if_neg e] at h
      exact List.mem_cons_of_mem _ (needOf_mem h)
theorem needOf_none : ∀ {ps : List (Int × Int)} {z : Int}, needOf ps z = none ↔ z ∉ ps.map Prod.fst
  | [], z => ⟨fun _ h => (nomatch h), fun _ => rfl⟩
  | q :: ps, z => by
    rw [needOf_cons]
    by_cases e : q.1 = z
    · rw [if_pos e]
      exact ⟨fun h => (by cases h), fun h => (h (by rw [List.map_cons, e]; exact List.mem_cons_self)).elim⟩
    · rw [if_neg e, needOf_none, List.map_cons, List.mem_cons]
      exact ⟨fun h k => k.elim (fun k => e k.symm) h, fun h k => h (.inr k)⟩
theorem needOf_of {ps : List (Int × Int)} (nd : (ps.map Prod.fst).Nodup) {q : Int × Int} (h : q ∈ ps) : needOf ps q.1 = some q.2 := by
  induction ps with
  | nil => cases h
  | cons p ps ih =>
    rw [List.map_cons, List.nodup_cons] at nd
    rw [needOf_cons]
    rcases List.mem_cons.mp h with e | h
    · rw [e, if_pos rfl]
    · rw [if_neg (fun e => nd.1 (by rw [e]; exact List.mem_map_of_mem h))]
      exact ih nd.2 h
theorem valV_lack : ∀ (ps : List (Int × Int)) (W : List Int) (z : Int), valV (lackK ps W) (Sum.inl z) = (needOf ps z).map fun t => V.int (t - (W.count z : Int))
  | [], W, z => rfl
  | q :: ps, W, z => by
    have ih := valV_lack ps W z
    have e1 : lackK (q :: ps) W = (Sum.inl q.1, V.int (q.2 - (W.count q.1 : Int))) :: lackK ps W := rfl
    rw [e1, needOf_cons]
    by_cases e : q.1 = z
    · rw [if_pos e]
      unfold valV
      rw [List.find?_cons_of_pos (by rw [e]; exact decide_eq_true rfl), e]
      rfl
    · rw [if_neg e, ← ih]
      unfold valV
      rw [List.find?_cons_of_neg (by
        intro h
        have := of_decide_eq_true h
        injection this with this
        exact e this)]
theorem lackK_any (ps : List (Int × Int)) (W : List Int) (z : Int) : ((lackK ps W).any fun kv => decide (kv.1 = Sum.inl z)) = (needOf ps z).isSome := by
  induction ps with
  | nil => rfl
  | cons q ps ih =>
    have e1 : lackK (q :: ps) W = (Sum.inl q.1, V.int (q.2 - (W.count q.1 : Int))) :: lackK ps W := rfl
    rw [e1, List.any_cons, ih, needOf_cons]
    by_cases e : q.1 = z
    · rw [if_pos e, e, decide_eq_true rfl]; rfl
    · rw [if_neg e]
      have : decide ((Sum.inl q.1 : Key) = Sum.inl z) = false := decide_eq_false fun h => e (by injection h)
      rw [this]; rfl
/-- one more in the window -/
theorem put_lack {ps : List (Int × Int)} {W : List Int} {x t : Int} (nd : (ps.map Prod.fst).Nodup) (h : needOf ps x = some t) : putK (lackK ps W) (Sum.inl x) (V.int (t - (W.count x : Int) - 1)) = lackK ps (W ++ [x]) := by
  unfold putK
  rw [lackK_any, h]
  show List.map _ _ = _
  unfold lackK
  rw [List.map_map]
  refine List.map_congr_left fun q hq => ?_
  show (if (Sum.inl q.1 : Key) = Sum.inl x then (Sum.inl q.1, V.int (t - (W.count x : Int) - 1)) else (Sum.inl q.1, V.int (q.2 - (W.count q.1 : Int)))) = _
  rw [count_snoc]
  by_cases e : q.1 = x
  · have h2 := needOf_of nd hq
    rw [e, h] at h2
    injection h2 with h2
    rw [if_pos (by rw [e]), e, if_pos rfl, ← h2]
    congr 2
    omega
  · rw [if_neg (fun k => e (by injection k)), if_neg (fun k => e k.symm)]
    rfl
theorem lack_none {ps : List (Int × Int)} {W : List Int} {x : Int} (h : needOf ps x = none) : lackK ps (W ++ [x]) = lackK ps W ∧ lackN ps (W ++ [x]) = lackN ps W := by
  have k : ∀ q ∈ ps, (W ++ [x]).count q.1 = W.count q.1 := fun q hq => by
    rw [count_snoc, if_neg]
    · rfl
    · intro e
      exact needOf_none.mp h (by rw [e]; exact List.mem_map_of_mem hq)
  constructor
  · unfold lackK
    exact List.map_congr_left fun q hq => by rw [k q hq]
  · unfold lackN
    congr 1
    exact List.map_congr_left fun q hq => by rw [k q hq]
theorem lackN_snoc : ∀ {ps : List (Int × Int)} {W : List Int} {x t : Int}, (ps.map Prod.fst).Nodup → needOf ps x = some t → lackN ps (W ++ [x]) = lackN ps W - if t - (W.count x : Int) > 0 then 1 else 0
  | [], W, x, t, nd, h => nomatch h
  | q :: ps, W, x, t, nd, h => by
    rw [List.map_cons, List.nodup_cons] at nd
    rw [lackN_cons, lackN_cons, count_snoc]
    rw [needOf_cons] at h
    by_cases e : q.1 = x
    · rw [if_pos e] at h
      injection h with h
      have hn : needOf ps x = none := needOf_none.mpr (by rw [← e]; exact nd.1)
      rw [(lack_none hn).2, e, if_pos rfl, h]
      split <;> split <;> omega
    · rw [if_neg e] at h
      have hc : W.count q.1 + (if x = q.1 then 1 else 0) = W.count q.1 := by rw [if_neg (fun k => e k.symm)]; rfl
      rw [lackN_snoc nd.2 h, hc]
      omega
/-- the dict at the begin, and its sum -/
theorem lackN_0 {ps : List (Int × Int)} (ok : ∀ q ∈ ps, 1 ≤ q.2) : lackN ps [] = (ps.map Prod.snd).sum := by
  unfold lackN
  congr 1
  refine List.map_congr_left fun q hq => ?_
  have := ok q hq
  rw [List.count_nil, if_pos (by show q.2 - 0 > 0; omega)]
  show q.2 - 0 = q.2
  omega
theorem lackK_snd (ps : List (Int × Int)) : (lackK ps []).map Prod.snd = (ps.map Prod.snd).map V.int := by
  unfold lackK
  rw [List.map_map, List.map_map]
  refine List.map_congr_left fun q _ => ?_
  show V.int (q.2 - (([] : List Int).count q.1 : Int)) = V.int q.2
  rw [List.count_nil]
  congr 1
  show q.2 - 0 = q.2
  omega
/-! the least behind with a property -/
def firstB (p : Nat → Bool) (n : Nat) : Nat → Option Nat
  | 0 => if p n then some n else none
  | k + 1 => if p (n - (k + 1)) then some (n - (k + 1)) else firstB p n k
theorem firstB_spec (p : Nat → Bool) (n : Nat) : ∀ k, k ≤ n → (firstB p n k = none ∧ ∀ b, n - k ≤ b → b ≤ n → p b = false) ∨ ∃ e, firstB p n k = some e ∧ n - k ≤ e ∧ e ≤ n ∧ p e = true ∧ ∀ b, n - k ≤ b → b < e → p b = false
  | 0, _ => by
    unfold firstB
    by_cases h : p n = true
    · rw [if_pos h]
      exact .inr ⟨n, rfl, by omega, by omega, h, fun b h1 h2 => by omega⟩
    · rw [if_neg h]
      exact .inl ⟨rfl, fun b h1 h2 => by rw [show b = n from by omega]; exact Bool.eq_false_iff.mpr h⟩
  | k + 1, hk => by
    unfold firstB
    by_cases h : p (n - (k + 1)) = true
    · rw [if_pos h]
      exact .inr ⟨_, rfl, by omega, by omega, h, fun b h1 h2 => by omega⟩
    · rw [if_neg h]
      have hf := Bool.eq_false_iff.mpr h
      rcases firstB_spec p n k (by omega) with ⟨e1, e2⟩ | ⟨e, e1, e2, e3, e4, e5⟩
      · refine .inl ⟨e1, fun b h1 h2 => ?_⟩
        by_cases q : b = n - (k + 1)
        · rw [q]; exact hf
        · exact e2 b (by omega) h2
      · refine .inr ⟨e, e1, by omega, e3, e4, fun b h1 h2 => ?_⟩
        by_cases q : b = n - (k + 1)
        · rw [q]; exact hf
        · exact e5 b (by omega) h2
/-- the least behind of a window from f on that holds the needs -/
def hWin (ns : List Int) (f b : Nat) : List Int := (ns.drop f).take (b - f)
def hEnd (ns : List Int) (ps : List (Int × Int)) (f : Nat) : Option Nat := firstB (fun b => hold ps (hWin ns f b)) ns.length (ns.length - f)
theorem hEnd_spec {ns : List Int} {ps : List (Int × Int)} {f : Nat} (hf : f ≤ ns.length) :
    (hEnd ns ps f = none ∧ ∀ b, f ≤ b → b ≤ ns.length → hold ps (hWin ns f b) = false) ∨ ∃ e, hEnd ns ps f = some e ∧ f ≤ e ∧ e ≤ ns.length ∧ hold ps (hWin ns f e) = true ∧ ∀ b, f ≤ b → b < e → hold ps (hWin ns f b) = false := by
  have h := firstB_spec (fun b => hold ps (hWin ns f b)) ns.length (ns.length - f) (by omega)
  rw [show ns.length - (ns.length - f) = f from by omega] at h
  exact h
theorem hEnd_is {ns : List Int} {ps : List (Int × Int)} {f e : Nat} (h1 : f ≤ e) (h2 : e ≤ ns.length) (h3 : hold ps (hWin ns f e) = true) (h4 : ∀ b, f ≤ b → b < e → hold ps (hWin ns f b) = false) : hEnd ns ps f = some e := by
  rcases hEnd_spec (ns := ns) (ps := ps) (f := f) (by omega) with ⟨_, k⟩ | ⟨e', k1, k2, k3, k4, k5⟩
  · rw [k e h1 h2] at h3; cases h3
  · rcases Nat.lt_trichotomy e e' with q | q | q
    · rw [k5 e h1 q] at h3; cases h3
    · rw [k1, q]
    · rw [h4 e' k2 q] at k4; cases k4
theorem hEnd_no {ns : List Int} {ps : List (Int × Int)} {f : Nat} (hf : f ≤ ns.length) (h : ∀ b, f ≤ b → b ≤ ns.length → hold ps (hWin ns f b) = false) : hEnd ns ps f = none := by
  rcases hEnd_spec (ns := ns) (ps := ps) (f := f) hf with ⟨k, _⟩ | ⟨e', k1, k2, k3, k4, k5⟩
  · exact k
  · rw [h e' k2 k3] at k4; cases k4
theorem hold_mono {ps : List (Int × Int)} {W W' : List Int} (h : ∀ z, W.count z ≤ W'.count z) (k : hold ps W = true) : hold ps W' = true := by
  rw [hold_iff] at k ⊢
  intro q hq
  have := k q hq
  have := h q.1
  omega
theorem hWin_up {ns : List Int} {f b : Nat} (h : f ≤ b) (hb : b < ns.length) : hWin ns f (b + 1) = hWin ns f b ++ [ns.getD b 0] := by
  unfold hWin
  rw [show b + 1 - f = (b - f) + 1 from by omega, List.take_add_one, List.getElem?_drop, show f + (b - f) = b from by omega, get_of hb]
  rfl
theorem hWin_down {ns : List Int} {f b : Nat} (h : f < b) (hf : f < ns.length) : hWin ns f b = ns.getD f 0 :: hWin ns (f + 1) b := by
  unfold hWin
  rw [List.drop_eq_getElem_cons hf, show b - f = (b - (f + 1)) + 1 from by omega, List.take_succ_cons]
  rw [List.getD_eq_getElem?_getD, List.getElem?_eq_getElem hf]
  rfl
theorem hWin_nil (ns : List Int) {f b : Nat} (h : b ≤ f) : hWin ns f b = [] := by
  unfold hWin
  rw [show b - f = 0 from by omega, List.take_zero]
theorem hold_down {ns : List Int} {ps : List (Int × Int)} {f b : Nat} (h : hold ps (hWin ns (f + 1) b) = true) : hold ps (hWin ns f b) = true := by
  by_cases hf : f < ns.length
  · by_cases hb : f < b
    · rw [hWin_down hb hf]
      exact hold_mono (fun z => by rw [List.count_cons]; omega) h
    · rw [hWin_nil ns (by omega)] at h ⊢
      exact h
  · have e : ∀ g, f ≤ g → hWin ns g b = [] := fun g hg => by
      unfold hWin
      rw [List.drop_eq_nil_of_le (by omega), List.take_nil]
    rw [e (f + 1) (by omega)] at h
    rw [e f (Nat.le_refl f)]
    exact h
theorem hold_up {ns : List Int} {ps : List (Int × Int)} {f b : Nat} (h : hold ps (hWin ns f b) = true) : hold ps (hWin ns f (b + 1)) = true := by
  refine hold_mono (fun z => ?_) h
  unfold hWin
  by_cases hb : f ≤ b
  · rw [show b + 1 - f = (b - f) + 1 from by omega, List.take_add_one, List.count_append]
    omega
  · rw [show b - f = 0 from by omega, List.take_zero, List.count_nil]
    omega
theorem hold_upTo {ns : List Int} {ps : List (Int × Int)} {f b : Nat} (h : hold ps (hWin ns f b) = true) : ∀ k, hold ps (hWin ns f (b + k)) = true
  | 0 => h
  | k + 1 => hold_up (hold_upTo h k)
/-- none with a need -/
theorem hold_none {ps : List (Int × Int)} (ok : ∀ q ∈ ps, 1 ≤ q.2) (h : ps ≠ []) : hold ps [] = false := by
  rw [Bool.eq_false_iff]
  intro k
  rw [hold_iff] at k
  cases ps with
  | nil => exact h rfl
  | cons q ps =>
    have h1 := k q List.mem_cons_self
    have h2 := ok q List.mem_cons_self
    rw [List.count_nil] at h1
    omega
/-! ### the two places go on -/
structure HInv (ns : List Int) (ps : List (Int × Int)) (f b : Nat) : Prop where
  le : b ≤ ns.length
  ne : ps ≠ [] → f ≤ b
  no : ps = [] → b = 0
  min : ∀ c, f ≤ c → c < b → hold ps (hWin ns f c) = false
theorem HInv.zero (ns : List Int) (ps : List (Int × Int)) : HInv ns ps 0 0 := ⟨Nat.zero_le _, fun _ => Nat.le_refl 0, fun _ => rfl, fun c _ h => absurd h (Nat.not_lt_zero c)⟩
theorem HInv.step {ns : List Int} {ps : List (Int × Int)} {f b : Nat} (v : HInv ns ps f b) (hb : b < ns.length) (h : 0 < lackN ps (hWin ns f b)) : HInv ns ps f (b + 1) := by
  have hh : hold ps (hWin ns f b) = false := by
    rw [Bool.eq_false_iff]
    intro k
    rw [← lackN_hold] at k
    omega
  have hp : ps ≠ [] := fun e => by subst e; cases hh
  refine ⟨hb, fun _ => Nat.le_succ_of_le (v.ne hp), fun e => absurd e hp, fun c h1 h2 => ?_⟩
  by_cases e : c = b
  · rw [e]; exact hh
  · exact v.min c h1 (by omega)
/-- what is told at the end of the while -/
theorem HInv.told {ns : List Int} {ps : List (Int × Int)} {f b : Nat} (ok : NeedsOk ps) (v : HInv ns ps f b) (hf : f ≤ ns.length) (h : ¬ (0 < lackN ps (hWin ns f b) ∧ b < ns.length)) :
    (lackN ps (hWin ns f b) = 0 ∧ hEnd ns ps f = some (if b > f then b else f)) ∨ (0 < lackN ps (hWin ns f b) ∧ hEnd ns ps f = none) := by
  have nn := lackN_nn ps (hWin ns f b)
  by_cases h0 : lackN ps (hWin ns f b) = 0
  · refine .inl ⟨h0, ?_⟩
    have hh := (lackN_hold _ _).mp h0
    by_cases hp : ps = []
    · subst hp
      rw [v.no rfl, if_neg (by omega)]
      exact hEnd_is (Nat.le_refl f) hf rfl fun c h1 h2 => by omega
    · have := v.ne hp
      have e : (if b > f then b else f) = b := by split <;> omega
      rw [e]
      exact hEnd_is this v.le hh v.min
  · refine .inr ⟨by omega, hEnd_no hf fun c h1 h2 => ?_⟩
    have hb : b = ns.length := by
      have := v.le
      omega
    by_cases e : c = b
    · rw [e, Bool.eq_false_iff]
      intro k
      exact h0 ((lackN_hold _ _).mpr k)
    · exact v.min c h1 (by omega)
/-- the first place goes on -/
theorem HInv.next {ns : List Int} {ps : List (Int × Int)} {f b : Nat} (ok : NeedsOk ps) (v : HInv ns ps f b) (hf : f < ns.length) (h : ¬ (0 < lackN ps (hWin ns f b) ∧ b < ns.length)) :
    HInv ns ps (f + 1) b ∧ (ps ≠ [] → f < b) := by
  have hlt : ps ≠ [] → f < b := fun hp => by
    have h1 := v.ne hp
    by_cases e : f = b
    · subst e
      have h2 := hold_none ok.pos hp
      rw [← hWin_nil ns (Nat.le_refl f)] at h2
      have h3 := lackN_nn ps (hWin ns f f)
      by_cases h4 : lackN ps (hWin ns f f) = 0
      · rw [(lackN_hold _ _).mp h4] at h2; cases h2
      · exact absurd ⟨by omega, hf⟩ h
    · omega
  refine ⟨⟨v.le, fun hp => hlt hp, v.no, fun c h1 h2 => ?_⟩, hlt⟩
  rw [Bool.eq_false_iff]
  intro k
  have := v.min c (by omega) h2
  rw [hold_down k] at this
  cases this
/-- the ends as told -/
def endsH (ns : List Int) (ps : List (Int × Int)) : List V := (List.range (ns.length + 1)).map fun f => optV (hEnd ns ps f)
theorem endsH_len (ns : List Int) (ps : List (Int × Int)) : (endsH ns ps).length = ns.length + 1 := by simp [endsH]
theorem endsH_get {ns : List Int} {ps : List (Int × Int)} {f : Nat} (h : f ≤ ns.length) : (endsH ns ps)[f]? = some (optV (hEnd ns ps f)) := by
  unfold endsH
  rw [List.getElem?_map, List.getElem?_range (by omega)]
  rfl
def endsTo (ns : List Int) (ps : List (Int × Int)) (k : Nat) : List V := (List.range k).map fun f => optV (hEnd ns ps f)
theorem endsTo_s (ns : List Int) (ps : List (Int × Int)) (k : Nat) : endsTo ns ps (k + 1) = endsTo ns ps k ++ [optV (hEnd ns ps k)] := by
  unfold endsTo
  rw [List.range_succ, List.map_append]
  rfl
/-- the windows with no other one within them that holds -/
def nxtH (ns : List Int) (ps : List (Int × Int)) (f : Nat) : Option Nat := if f < ns.length then hEnd ns ps (f + 1) else none
def tightAt (ns : List Int) (ps : List (Int × Int)) (f : Nat) : Option (Int × Int) := match hEnd ns ps f with
  | none => none
  | some e => if nxtH ns ps f = some e then none else some ((f : Int), (e : Int))
def tightK (ns : List Int) (ps : List (Int × Int)) (k : Nat) : List (Int × Int) := (List.range k).filterMap (tightAt ns ps)
def tightL (ns : List Int) (ps : List (Int × Int)) : List (Int × Int) := tightK ns ps (ns.length + 1)
theorem tightK_s (ns : List Int) (ps : List (Int × Int)) (k : Nat) : tightK ns ps (k + 1) = tightK ns ps k ++ (tightAt ns ps k).toList := by
  unfold tightK
  have e : [k].filterMap (tightAt ns ps) = (tightAt ns ps k).toList := by
    simp only [List.filterMap_cons, List.filterMap_nil]
    cases tightAt ns ps k <;> rfl
  rw [List.range_succ, List.filterMap_append, e]
theorem tightK_len (ns : List Int) (ps : List (Int × Int)) (k : Nat) : (tightK ns ps k).length ≤ k := by
  unfold tightK
  exact Nat.le_trans (List.length_filterMap_le _ _) (by rw [List.length_range]; exact Nat.le_refl k)
/-- the shortest, the first of several -/
def shoP (qs : List (Int × Int)) : Option (Int × Int) := qs.foldl (fun o q => sbo o q.1 q.2) none
theorem shoP_snoc (qs : List (Int × Int)) (q : Int × Int) : shoP (qs ++ [q]) = sbo (shoP qs) q.1 q.2 := by unfold shoP; rw [List.foldl_append]; rfl
theorem put_new {ps : List (Int × Int)} {x y : Int} (h : needOf ps x = none) : putK (lackK ps []) (Sum.inl x) (V.int y) = lackK (ps ++ [(x, y)]) [] := by
  unfold putK
  rw [lackK_any, h]
  show _ ++ _ = _
  unfold lackK
  rw [List.map_append]
  congr 1
  show [(Sum.inl x, V.int y)] = [(Sum.inl x, V.int (y - (([] : List Int).count x : Int)))]
  rw [List.count_nil]
  congr 3
  show y = y - 0
  omega
theorem need_take {ps : List (Int × Int)} (nd : (ps.map Prod.fst).Nodup) {k : Nat} {q : Int × Int} (h : ps[k]? = some q) : needOf (ps.take k) q.1 = none := by
  refine needOf_none.mpr fun hm => ?_
  obtain ⟨j, hj⟩ := List.getElem?_of_mem hm
  rw [List.map_take, List.getElem?_take] at hj
  by_cases c : j < k
  · rw [if_pos c] at hj
    have h2 : (ps.map Prod.fst)[k]? = some q.1 := by rw [List.getElem?_map, h]; rfl
    have := nodup_idx nd hj h2
    omega
  · rw [if_neg c] at hj; cases hj
theorem lackK_len (ps : List (Int × Int)) (W : List Int) : (lackK ps W).length = ps.length := by simp [lackK]
theorem val_none {ps : List (Int × Int)} {W : List Int} {x : Int} (h : needOf ps x = none) : valV (lackK ps W) (Sum.inl x) = none := by rw [valV_lack, h]; rfl
theorem val_some {ps : List (Int × Int)} {W : List Int} {x t : Int} (h : needOf ps x = some t) : valV (lackK ps W) (Sum.inl x) = some (V.int (t - (W.count x : Int))) := by rw [valV_lack, h]; rfl
end Ur
namespace Ur
open PySem L2
theorem endsTo_len (ns : List Int) (ps : List (Int × Int)) (k : Nat) : (endsTo ns ps k).length = k := by simp [endsTo]
theorem endsTo_get {ns : List Int} {ps : List (Int × Int)} {k i : Nat} (h : i < k) : (endsTo ns ps k)[i]? = some (optV (hEnd ns ps i)) := by
  unfold endsTo
  rw [List.getElem?_map, List.getElem?_range h]
  rfl
/-- the next entry, None behind the last -/
theorem ends_next (ns : List Int) (ps : List (Int × Int)) {i : Nat} (h : i < ns.length + 1) : atI (endsTo ns ps (ns.length + 1) ++ [V.non]) ((i : Int) + 1) = some (optV (nxtH ns ps i)) := by
  have e : (endsTo ns ps (ns.length + 1) ++ [V.non])[i + 1]? = some (optV (nxtH ns ps i)) := by
    unfold nxtH
    by_cases hi : i < ns.length
    · rw [if_pos hi, List.getElem?_append_left (by rw [endsTo_len]; omega)]
      exact endsTo_get (by omega)
    · rw [if_neg hi, List.getElem?_append_right (by rw [endsTo_len]; omega), endsTo_len, show i + 1 - (ns.length + 1) = 0 from by omega]
      rfl
  exact atI_nat (j := i + 1) e
theorem put_gen {ps : List (Int × Int)} {W W' : List Int} {x t v : Int} (nd : (ps.map Prod.fst).Nodup) (h : needOf ps x = some t) (hv : v = t - (W'.count x : Int)) (ho : ∀ z, z ≠ x → W.count z = W'.count z) : putK (lackK ps W) (Sum.inl x) (V.int v) = lackK ps W' := by
  unfold putK
  rw [lackK_any, h]
  show List.map _ _ = _
  unfold lackK
  rw [List.map_map]
  refine List.map_congr_left fun q hq => ?_
  show (if (Sum.inl q.1 : Key) = Sum.inl x then (Sum.inl q.1, V.int v) else (Sum.inl q.1, V.int (q.2 - (W.count q.1 : Int)))) = _
  by_cases e : q.1 = x
  · have h2 := needOf_of nd hq
    rw [e, h] at h2
    injection h2 with h2
    rw [if_pos (by rw [e]), e, ← h2, hv]
  · rw [if_neg (fun k => e (by injection k)), ho _ e]
/-- the first place goes: a number that is not needed -/
theorem HInv.drop0 {ns : List Int} {ps : List (Int × Int)} {f b : Nat} (hlt : ps ≠ [] → f < b) (hf : f < ns.length) (h : needOf ps (ns.getD f 0) = none) :
    lackK ps (hWin ns (f + 1) b) = lackK ps (hWin ns f b) ∧ lackN ps (hWin ns (f + 1) b) = lackN ps (hWin ns f b) := by
  by_cases hp : ps = []
  · subst hp; exact ⟨rfl, rfl⟩
  · have e := hWin_down (hlt hp) hf
    obtain ⟨k1, k2⟩ := lack_none (W := hWin ns (f + 1) b) h
    rw [e, lackK_congr (count_swap _ _), lackN_congr (count_swap _ _), k1, k2]
    exact ⟨rfl, rfl⟩
/-- .. one that is -/
theorem HInv.drop1 {ns : List Int} {ps : List (Int × Int)} {f b : Nat} {t : Int} (nd : (ps.map Prod.fst).Nodup) (hlt : ps ≠ [] → f < b) (hf : f < ns.length) (h : needOf ps (ns.getD f 0) = some t) :
    putK (lackK ps (hWin ns f b)) (Sum.inl (ns.getD f 0)) (V.int (t - ((hWin ns f b).count (ns.getD f 0) : Int) + 1)) = lackK ps (hWin ns (f + 1) b) ∧
      lackN ps (hWin ns (f + 1) b) = lackN ps (hWin ns f b) + if decide (0 < t - ((hWin ns f b).count (ns.getD f 0) : Int) + 1) = true then 1 else 0 := by
  have hp : ps ≠ [] := fun e => by subst e; cases h
  have e := hWin_down (hlt hp) hf
  have hc : (hWin ns f b).count (ns.getD f 0) = (hWin ns (f + 1) b).count (ns.getD f 0) + 1 := by rw [e, List.count_cons_self]
  have hk := lackN_snoc (W := hWin ns (f + 1) b) nd h
  rw [← lackN_congr (count_swap (hWin ns (f + 1) b) (ns.getD f 0)), ← e] at hk
  constructor
  · refine put_gen nd h (by omega) fun z hz => ?_
    rw [e, List.count_cons_of_ne (fun k => hz k.symm)]
  · rw [hk]
    by_cases c : t - ((hWin ns (f + 1) b).count (ns.getD f 0) : Int) > 0
    · rw [if_pos c, if_pos (decide_eq_true (by omega))]; omega
    · rw [if_neg c, if_neg (by rw [decide_eq_false (by omega)]; exact Bool.false_ne_true)]; omega
theorem lackN_up {ps : List (Int × Int)} {W : List Int} {x t : Int} (nd : (ps.map Prod.fst).Nodup) (h : needOf ps x = some t) : lackN ps (W ++ [x]) = lackN ps W - if decide (0 < t - (W.count x : Int)) = true then 1 else 0 := by
  rw [lackN_snoc nd h]
  simp only [decide_eq_true_eq, gt_iff_lt]
end Ur
namespace Ur
open PySem L2
/-! ### how often each number stands in a list, as a dict -/
def cntK (W : List Int) : List (Key × V) := (uni W).map fun z => (Sum.inl z, V.int (W.count z : Nat))
theorem cntK_nil : cntK [] = [] := rfl
theorem valV_map (c : Int → Int) (z : Int) : ∀ us : List Int, valV (us.map fun z => ((Sum.inl z : Key), V.int (c z))) (Sum.inl z) = if z ∈ us then some (V.int (c z)) else none
  | [] => rfl
  | u :: us => by
    have ih := valV_map c z us
    rw [List.map_cons]
    unfold valV at ih ⊢
    by_cases e : u = z
    · rw [List.find?_cons_of_pos (by rw [e]; exact decide_eq_true rfl), if_pos (by rw [e]; exact List.mem_cons_self), e]
      rfl
    · rw [List.find?_cons_of_neg (by
        intro h
        have := of_decide_eq_true h
        injection this with this
        exact e this), ih]
      by_cases h : z ∈ us
      · rw [if_pos h, if_pos (List.mem_cons_of_mem _ h)]
      · rw [if_neg h, if_neg (fun k => (List.mem_cons.mp k).elim (fun k => e k.symm) h)]
theorem cntK_val (W : List Int) (z : Int) : valV (cntK W) (Sum.inl z) = if z ∈ W then some (.int (W.count z : Nat)) else none := by
  unfold cntK
  rw [valV_map (fun z => (W.count z : Nat)) z (uni W)]
  by_cases h : z ∈ W
  · rw [if_pos h, if_pos ((mem_uni W z).mpr h)]
  · rw [if_neg h, if_neg (fun k => h ((mem_uni W z).mp k))]
theorem cntK_get (W : List Int) (z : Int) : (valV (cntK W) (Sum.inl z)).getD (.int 0) = .int (W.count z : Nat) := by
  rw [cntK_val]
  by_cases h : z ∈ W
  · rw [if_pos h]; rfl
  · rw [if_neg h, List.count_eq_zero.mpr h]; rfl
theorem cntK_len (W : List Int) : (cntK W).length = ulen W := by
  unfold cntK ulen
  rw [List.length_map]
theorem any_map (c : Int → Int) (z : Int) (us : List Int) : ((us.map fun z => ((Sum.inl z : Key), V.int (c z))).any fun kv => decide (kv.1 = Sum.inl z)) = decide (z ∈ us) := by
  induction us with
  | nil => rfl
  | cons u us ih =>
    rw [List.map_cons, List.any_cons, ih]
    by_cases e : u = z
    · rw [e, decide_eq_true rfl, decide_eq_true (List.mem_cons_self)]; rfl
    · have h1 : decide ((Sum.inl u : Key) = Sum.inl z) = false := decide_eq_false fun h => e (by injection h)
      rw [h1, Bool.false_or]
      refine decide_eq_decide.mpr ⟨fun h => List.mem_cons_of_mem _ h, fun h => (List.mem_cons.mp h).elim (fun k => absurd k.symm e) id⟩
theorem cntK_put (W : List Int) (x : Int) : putK (cntK W) (Sum.inl x) (.int ((W.count x : Nat) + 1)) = cntK (W ++ [x]) := by
  unfold putK cntK
  rw [any_map (fun z => (W.count z : Nat)) x (uni W), uni_snoc]
  by_cases h : x ∈ W
  · rw [if_pos (decide_eq_true ((mem_uni W x).mpr h)), if_pos h, List.map_map]
    refine List.map_congr_left fun z _ => ?_
    show (if (Sum.inl z : Key) = Sum.inl x then (Sum.inl z, V.int ((W.count x : Nat) + 1)) else (Sum.inl z, V.int (W.count z : Nat))) = _
    rw [count_snoc]
    by_cases e : z = x
    · rw [if_pos (by rw [e]), e, if_pos rfl]; rfl
    · rw [if_neg (fun k => e (by injection k)), if_neg (fun k => e k.symm)]; rfl
  · rw [if_neg (by rw [decide_eq_false (fun k => h ((mem_uni W x).mp k))]; exact Bool.false_ne_true), if_neg h, List.map_append]
    congr 1
    · refine List.map_congr_left fun z hz => ?_
      have hz2 := (mem_uni W z).mp hz
      rw [count_snoc, if_neg (fun k : x = z => h (by rw [k]; exact hz2))]; rfl
    · show [(Sum.inl x, V.int ((W.count x : Nat) + 1))] = [(Sum.inl x, V.int ((W ++ [x]).count x : Nat))]
      rw [count_snoc, if_pos rfl]; rfl
/-- needs out of counts -/
def cntN (W : List Int) (o : Int) : List (Int × Int) := (uni W).map fun z => (z, [((W.count z : Nat) : Int), 1].getD o.toNat 0)
theorem cntN_len (W : List Int) (o : Int) : (cntN W o).length = ulen W := by
  unfold cntN ulen
  rw [List.length_map]
theorem cntN_ok (W : List Int) {o : Int} (h0 : 0 ≤ o) (h1 : o < 2) : NeedsOk (cntN W o) := by
  refine ⟨?_, fun q hq => ?_⟩
  · unfold cntN
    rw [List.map_map]
    have e : (uni W).map (Prod.fst ∘ fun z => (z, [((W.count z : Nat) : Int), 1].getD o.toNat 0)) = uni W := List.map_id (uni W)
    rw [e]
    exact uni_nodup W
  · obtain ⟨z, hz, rfl⟩ := List.mem_map.mp hq
    have := List.count_pos_iff.mpr ((mem_uni W z).mp hz)
    have ho : o = 0 ∨ o = 1 := by omega
    rcases ho with rfl | rfl
    · show 1 ≤ ((W.count z : Nat) : Int)
      omega
    · show (1 : Int) ≤ 1
      omega
theorem NeedsOk.nil : NeedsOk [] := ⟨List.nodup_nil, fun q h => nomatch h⟩
theorem NeedsOk.snoc {ps : List (Int × Int)} {x y : Int} (ok : NeedsOk ps) (h : x ∉ ps.map Prod.fst) (hy : 1 ≤ y) : NeedsOk (ps ++ [(x, y)]) := by
  refine ⟨?_, fun q hq => ?_⟩
  · rw [List.map_append, List.nodup_append]
    refine ⟨ok.nd, List.nodup_cons.mpr ⟨List.not_mem_nil, List.nodup_nil⟩, fun a ha b hb e => ?_⟩
    rw [List.mem_singleton.mp hb] at e
    have e2 : a = x := e
    exact h (e2 ▸ ha)
  · rcases List.mem_append.mp hq with k | k
    · exact ok.pos q k
    · rw [List.mem_singleton.mp k]; exact hy
/-- a locked dict laid back -/
theorem same_lock {H H' : Hp} {d : Addr} {u : HO} {o : Obj} (hd : H d = some u) (s : Same (upd H d (.frz o u)) H') : Same H (upd H' d u) := fun b v e => by
  by_cases h : b = d
  · rw [h] at e ⊢
    rw [hd] at e
    cases e
    exact upd_same
  · rw [upd_ne h]
    exact s b v (by rw [upd_ne h]; exact e)
theorem dget_frz {H : Hp} {a : Addr} {o : Obj} {kvs : List (Key × V)} {n : Int} {v : V} (h : H a = some (.frz o (.dK kvs))) (e : valV kvs (Sum.inl n) = some v) : DGet H a (.int n) (some v) := by
  rw [← e]
  exact .inl ⟨kvs, Sum.inl n, .inr ⟨o, h⟩, rfl, rfl⟩
section
variable {K : PySem.W.Frag} {a : Addr} {σ : L2.St} {H1 : Hp} {Dl : Addr} {te : TE} {vs : List Nat} {Qd : Hp → Prop}
/-- [e for x, y in a list of pairs], each e an int -/
theorem lc_pairsI {j l : Nat} {ls : List Addr} {ps : List (Int × Int)} (f : Int × Int → Int) (hn : ps.length ≤ 1000000) (ha : SqL K H1 a (ls.map V.ref)) (r : PairsF H1 ls ps) (hD : H1 Dl = none)
    (hw : ∀ x y, wipe (((wipe σ vs).set j (some x)).set l (some y)) vs = wipe σ vs)
    (he : ∀ (q : Int × Int) H', q ∈ ps → Same H1 H' → ∀ Q' : VK, (∀ H4, Same H' H4 → Q' (.int (f q)) H4) → te (((wipe σ vs).set j (some (.int q.1))).set l (some (.int q.2))) H' Q')
    (hd : ∀ H', Same H1 H' → H' Dl = some (.lst ((ps.map f).map V.int)) → Qd H') :
    ∃ W : Nat → Nat → Hp → Prop, (∃ m, W 0 m (upd H1 Dl (.lst []))) ∧ ∀ i m H, W i m H →
      ((Itl K a).stop i H ∧ Qd H) ∨ ((Itl K a).go i H ∧ ∃ Nx : Hp → Prop, (∀ H', Nx H' → ∃ m', m' < m ∧ W (i + 1) m' H') ∧ ∀ x H', (Itl K a).yld i H x H' → gTup K 2 (gCons (gName j) (gCons (gName l) gNil)) x (wipe σ vs) H' fun σ2 H2 => wipe σ2 vs = wipe σ vs ∧ tYes σ2 H2 fun b H3 =>
        if b = true then te σ2 H3 fun y H4 => ∃ acc, H4 Dl = some (.lst acc) ∧ acc.length < sizeLine ∧ Nx (upd H4 Dl (.lst (acc ++ [y]))) else Nx H3) := by
  refine lc_list (K := K) (a := a) (xs := ls.map V.ref) (fun i H' => Same H1 H' ∧ H' Dl = some (.lst (((ps.take i).map f).map V.int))) ⟨same_new hD, upd_same⟩ (fun i H' _ z => z.1.seq ha) (fun i x H' hx z => ?_) (fun H' z => ?_)
  · obtain ⟨s, eD⟩ := z
    rw [List.getElem?_map] at hx
    obtain ⟨p, hp, rfl⟩ := Option.map_eq_some_iff.mp hx
    obtain ⟨h2, h3⟩ := r.get hp
    have e4 := s _ _ h3
    have hq : ps[i]? = some (ps.getD i (0, 0)) := by rw [List.getD_eq_getElem?_getD, List.getElem?_eq_getElem h2]; rfl
    refine ⟨p, _, rfl, .of e4, rfl, _, _, rfl, _, _, rfl, rfl, hw _ _, tyes_ok ?_⟩
    refine he _ H' (List.mem_of_getElem? hq) s _ fun H4 s4 => ⟨_, s4 _ _ eD, szl (by rw [List.length_map, List.length_map, List.length_take]; omega), same_upd' hD (s.trans s4), ?_⟩
    exact lst_cast upd_same (by rw [List.take_add_one, hq, List.map_append, List.map_append]; rfl)
  · obtain ⟨s, eD⟩ := z
    have hl := r.len
    rw [List.length_map, hl, List.take_length] at eD
    exact hd H' s eD
/-- [e for x in a locked dict], each e a new pair -/
theorem lc_keysP {d : Addr} {o : Obj} {j : Nat} {kvs : List (Key × V)} {us : List Int} (g : Int → Int × Int) (hk : kvs.map Prod.fst = us.map Sum.inl) (hn : us.length ≤ 1000000) (hd0 : H1 d = some (.frz o (.dK kvs))) (hD : H1 Dl = none)
    (hw : ∀ x, wipe ((wipe σ vs).set j (some x)) vs = wipe σ vs)
    (he : ∀ (z : Int) H', z ∈ us → Same H1 H' → ∀ Q' : VK, (∀ q H4, Same H' H4 → H4 q = some (pr (g z)) → H' q = none → Q' (.ref q) H4) → te ((wipe σ vs).set j (some (.int z))) H' Q')
    (hd : ∀ H' qs, Same H1 H' → H' Dl = some (.lst (qs.map V.ref)) → PairsF H' qs (us.map g) → (∀ q ∈ qs, H1 q = none) → Qd H') :
    ∃ W : Nat → Nat → Hp → Prop, (∃ m, W 0 m (upd H1 Dl (.lst []))) ∧ ∀ i m H, W i m H →
      ((Itk d o kvs).stop i H ∧ Qd H) ∨ ((Itk d o kvs).go i H ∧ ∃ Nx : Hp → Prop, (∀ H', Nx H' → ∃ m', m' < m ∧ W (i + 1) m' H') ∧ ∀ x H', (Itk d o kvs).yld i H x H' → gName j x (wipe σ vs) H' fun σ2 H2 => wipe σ2 vs = wipe σ vs ∧ tYes σ2 H2 fun b H3 =>
        if b = true then te σ2 H3 fun y H4 => ∃ acc, H4 Dl = some (.lst acc) ∧ acc.length < sizeLine ∧ Nx (upd H4 Dl (.lst (acc ++ [y]))) else Nx H3) := by
  have hlk : kvs.length = us.length := by have := congrArg List.length hk; simpa using this
  refine lc_it walk_keys (fun i H' => ∃ qs : List Addr, Same H1 H' ∧ H' Dl = some (.lst (qs.map V.ref)) ∧ PairsF H' qs ((us.take i).map g) ∧ (∀ q ∈ qs, H1 q = none)) ⟨[], same_new hD, upd_same, PairsF.nil, fun q h => nomatch h⟩ (fun i H' _ z => ?_) (fun i x H2 H' hi z y => ?_) (fun H' z => ?_)
  · obtain ⟨qs, s, _⟩ := z
    exact s _ _ hd0
  · obtain ⟨qs, s, eD, r, f⟩ := z
    obtain ⟨rfl, k, v, hkv, rfl⟩ := y
    have hi2 : i < us.length := by omega
    have hki : (kvs.map Prod.fst)[i]? = some k := by rw [List.getElem?_map, hkv]; rfl
    rw [hk, List.getElem?_map, get_of hi2] at hki
    injection hki with hki
    subst hki
    have hrl := r.len
    rw [List.length_map, List.length_take] at hrl
    refine ⟨hw _, tyes_ok ?_⟩
    refine he _ H' (getD_mem hi2) s _ fun q H4 s4 e4 nq => ?_
    have hqD : q ≠ Dl := fun e => by rw [e, eD] at nq; cases nq
    refine ⟨_, s4 _ _ eD, szl (by rw [List.length_map]; omega), qs ++ [q], same_upd' hD (s.trans s4), by rw [upd_same, List.map_append]; rfl, ?_, fun p hp => ?_⟩
    · rw [take_snoc (get_of hi2), List.map_append]
      have e5 : H4 q = some (.tup [.int (g (us.getD i 0)).1, .int (g (us.getD i 0)).2]) := e4
      refine ObjsF.upd (PairsF.snoc (ObjsF.same r s4) e5) ⟨fun z hz => ?_⟩
      rcases List.mem_append.mp hz with h | h
      · exact (PairsF.offL r eD).out z h
      · rw [List.mem_singleton.mp h]; exact hqD
    · rcases List.mem_append.mp hp with h | h
      · exact f p h
      · rw [List.mem_singleton.mp h]; exact s.free nq
  · obtain ⟨qs, s, eD, r, f⟩ := z
    rw [hlk, List.take_length] at r
    exact hd H' qs s eD r f
end
end Ur
namespace Ur
open PySem L2
/-- while, the test's answer told; the test may lay new things -/
theorem while_ta {tb : TS} {D : Ends} {σ : L2.St} {H : Hp} {c : TT} (Pv : Nat → L2.St → Hp → Prop) (m0 : Nat) (h0 : Pv m0 σ H)
    (hs : ∀ m σ H, Pv m σ H → ∃ b, (∀ Q : Bool → Hp → Prop, (∀ H', Same H H' → Q b H') → c σ H Q) ∧
      (b = true → ∀ H', Same H H' → tb { D with nx := fun σ' H' => Iv (∃ m', m' < m ∧ Pv m' σ' H'), ct := fun σ' H' => Iv (∃ m', m' < m ∧ Pv m' σ' H'), bk := D.nx } σ H') ∧ (b = false → ∀ H', Same H H' → D.nx σ H')) : tWhile c tb D σ H := by
  refine ⟨Pv, ⟨m0, h0⟩, fun m σ H p => ?_⟩
  obtain ⟨b, hb, h1, h2⟩ := hs m σ H p
  refine hb _ fun H' s => ?_
  cases b with
  | true => exact (if_pos rfl).mpr ⟨_, fun _ _ n => n.out, h1 rfl H' s⟩
  | false => exact (if_neg Bool.false_ne_true).mpr (h2 rfl H' s)
/-! ### what is left, counted down -/
def remF (W : List Int) (q : Int × Int) : Option (Key × V) := if q.2 - (W.count q.1 : Int) > 0 then some (Sum.inl q.1, V.int (q.2 - (W.count q.1 : Int))) else none
def remK (ps : List (Int × Int)) (W : List Int) : List (Key × V) := ps.filterMap (remF W)
theorem remK_cons (q : Int × Int) (ps : List (Int × Int)) (W : List Int) : remK (q :: ps) W = if q.2 - (W.count q.1 : Int) > 0 then (Sum.inl q.1, V.int (q.2 - (W.count q.1 : Int))) :: remK ps W else remK ps W := by
  unfold remK
  rw [List.filterMap_cons]
  unfold remF
  split
  · rename_i h
    split at h
    · cases h
    · rename_i h2
      rw [if_neg h2]
  · rename_i b h
    split at h
    · rename_i h2
      injection h with h
      rw [if_pos h2, h]
    · cases h
theorem remK_hold : ∀ (ps : List (Int × Int)) (W : List Int), remK ps W = [] ↔ hold ps W = true
  | [], W => ⟨fun _ => rfl, fun _ => rfl⟩
  | q :: ps, W => by
    have ih := remK_hold ps W
    have e : hold (q :: ps) W = (decide (q.2 ≤ (W.count q.1 : Int)) && hold ps W) := rfl
    rw [remK_cons, e, Bool.and_eq_true, decide_eq_true_iff, ← ih]
    by_cases h : q.2 - (W.count q.1 : Int) > 0
    · rw [if_pos h]
      exact ⟨fun k => (nomatch k), fun k => by omega⟩
    · rw [if_neg h]
      exact ⟨fun k => ⟨by omega, k⟩, fun k => k.2⟩
theorem remK_all {ps : List (Int × Int)} (ok : ∀ q ∈ ps, 1 ≤ q.2) : remK ps [] = ps.map fun q => (Sum.inl q.1, V.int q.2) := by
  induction ps with
  | nil => rfl
  | cons q ps ih =>
    have h1 := ok q List.mem_cons_self
    have e : q.2 - (([] : List Int).count q.1 : Int) = q.2 := by
      rw [List.count_nil]
      show q.2 - 0 = q.2
      omega
    rw [remK_cons, e, if_pos (by omega), ih fun p hp => ok p (List.mem_cons_of_mem _ hp), List.map_cons]
theorem remK_len (ps : List (Int × Int)) (W : List Int) : (remK ps W).length ≤ ps.length := List.length_filterMap_le _ _
theorem remK_val : ∀ {ps : List (Int × Int)} (W : List Int) (x : Int), (ps.map Prod.fst).Nodup → valV (remK ps W) (Sum.inl x) = match needOf ps x with
    | none => none
    | some t => if t - (W.count x : Int) > 0 then some (V.int (t - (W.count x : Int))) else none
  | [], W, x, _ => rfl
  | q :: ps, W, x, nd => by
    rw [List.map_cons, List.nodup_cons] at nd
    have ih := remK_val (ps := ps) W x nd.2
    rw [remK_cons, needOf_cons]
    by_cases e : q.1 = x
    · have hn : needOf ps x = none := needOf_none.mpr (by rw [← e]; exact nd.1)
      rw [hn] at ih
      rw [if_pos e, e]
      show _ = if q.2 - (W.count x : Int) > 0 then _ else _
      by_cases h : q.2 - (W.count x : Int) > 0
      · rw [if_pos h, if_pos h]
        unfold valV
        rw [List.find?_cons_of_pos (by exact decide_eq_true rfl)]
        rfl
      · rw [if_neg h, if_neg h, ih]
    · rw [if_neg e, ← ih]
      by_cases h : q.2 - (W.count q.1 : Int) > 0
      · rw [if_pos h]
        unfold valV
        rw [List.find?_cons_of_neg (by
          intro h
          have := of_decide_eq_true h
          injection this with this
          exact e this)]
      · rw [if_neg h]
theorem remK_any {ps : List (Int × Int)} {W : List Int} {x : Int} {v : V} (h : valV (remK ps W) (Sum.inl x) = some v) : ((remK ps W).any fun kv => decide (kv.1 = Sum.inl x)) = true := by
  unfold valV at h
  obtain ⟨p, hp, _⟩ := Option.map_eq_some_iff.mp h
  have h2 := @List.find?_some _ (fun kv : Key × V => decide (kv.1 = Sum.inl x)) _ _ hp
  exact List.any_eq_true.mpr ⟨p, List.mem_of_find?_eq_some hp, h2⟩
theorem remF_put {W : List Int} {x t : Int} {q : Int × Int} (hq : q.1 = x → q.2 = t) (h : t - (W.count x : Int) > 0) :
    (remF W q).map (fun kv => if kv.1 = Sum.inl x then (kv.1, V.int (t - (W.count x : Int) - 1)) else kv) = if t - (W.count x : Int) - 1 > 0 then remF (W ++ [x]) q else (if q.1 = x then some (Sum.inl x, V.int (t - (W.count x : Int) - 1)) else remF (W ++ [x]) q) := by
  unfold remF
  rw [count_snoc]
  by_cases e : q.1 = x
  · have ht := hq e
    rw [e, ht, if_pos h, if_pos rfl]
    show some (if (Sum.inl x : Key) = Sum.inl x then (Sum.inl x, V.int (t - (W.count x : Int) - 1)) else _) = _
    rw [if_pos rfl]
    by_cases h1 : t - (W.count x : Int) - 1 > 0
    · rw [if_pos h1, if_pos (by omega)]
      congr 3
      omega
    · rw [if_neg h1, if_pos rfl]
  · have hc : W.count q.1 + (if x = q.1 then 1 else 0) = W.count q.1 := by rw [if_neg (fun k : x = q.1 => e k.symm)]; rfl
    rw [hc]
    have k : (if q.2 - (W.count q.1 : Int) > 0 then some ((Sum.inl q.1 : Key), V.int (q.2 - (W.count q.1 : Int))) else none).map (fun kv => if kv.1 = Sum.inl x then (kv.1, V.int (t - (W.count x : Int) - 1)) else kv) = if q.2 - (W.count q.1 : Int) > 0 then some ((Sum.inl q.1 : Key), V.int (q.2 - (W.count q.1 : Int))) else none := by
      by_cases h2 : q.2 - (W.count q.1 : Int) > 0
      · rw [if_pos h2]
        show some (if (Sum.inl q.1 : Key) = Sum.inl x then _ else _) = _
        rw [if_neg (fun k => e (by injection k))]
      · rw [if_neg h2]; rfl
    rw [k, if_neg e]
    exact (ite_self _).symm
theorem filterMap_eq {α β : Type} {f g : α → Option β} : ∀ {l : List α}, (∀ x ∈ l, f x = g x) → l.filterMap f = l.filterMap g
  | [], _ => rfl
  | x :: l, h => by
    rw [List.filterMap_cons, List.filterMap_cons, h x List.mem_cons_self, filterMap_eq fun y hy => h y (List.mem_cons_of_mem _ hy)]
/-- one more in the window: counted down .. -/
theorem remK_put {ps : List (Int × Int)} {W : List Int} {x t : Int} (nd : (ps.map Prod.fst).Nodup) (hn : needOf ps x = some t) (h : t - (W.count x : Int) > 0) (h1 : t - (W.count x : Int) - 1 > 0) :
    putK (remK ps W) (Sum.inl x) (V.int (t - (W.count x : Int) - 1)) = remK ps (W ++ [x]) := by
  have hv := remK_val W x nd
  rw [hn] at hv
  have hv2 : valV (remK ps W) (Sum.inl x) = some (V.int (t - (W.count x : Int))) := by
    rw [hv]
    exact if_pos h
  unfold putK
  rw [remK_any hv2, if_pos rfl]
  unfold remK
  rw [List.map_filterMap]
  refine filterMap_eq fun q hq => ?_
  have k := remF_put (W := W) (q := q) (fun e => by
    have h2 := needOf_of nd hq
    rw [e, hn] at h2
    injection h2 with h2
    exact h2.symm) h
  rw [if_pos h1] at k
  exact k
/-- .. and out -/
theorem remK_drop {ps : List (Int × Int)} {W : List Int} {x t : Int} (nd : (ps.map Prod.fst).Nodup) (hn : needOf ps x = some t) (h : t - (W.count x : Int) > 0) (h1 : t - (W.count x : Int) - 1 = 0) :
    dropK (putK (remK ps W) (Sum.inl x) (V.int (t - (W.count x : Int) - 1))) (Sum.inl x) = remK ps (W ++ [x]) := by
  have hv := remK_val W x nd
  rw [hn] at hv
  have hv2 : valV (remK ps W) (Sum.inl x) = some (V.int (t - (W.count x : Int))) := by
    rw [hv]
    exact if_pos h
  unfold putK
  rw [remK_any hv2, if_pos rfl]
  unfold dropK remK
  rw [List.map_filterMap, List.filter_filterMap]
  refine filterMap_eq fun q hq => ?_
  have hq2 : q.1 = x → q.2 = t := fun e => by
    have h2 := needOf_of nd hq
    rw [e, hn] at h2
    injection h2 with h2
    exact h2.symm
  have k := remF_put (W := W) (q := q) hq2 h
  rw [if_neg (by omega)] at k
  rw [k]
  by_cases e : q.1 = x
  · rw [if_pos e]
    have k2 : remF (W ++ [x]) q = none := by
      unfold remF
      rw [count_snoc, e, hq2 e, if_pos rfl, if_neg (by omega)]
    rw [k2]
    show Option.filter _ (some _) = none
    rw [Option.filter_some, if_neg (by simp)]
  · rw [if_neg e]
    cases k3 : remF (W ++ [x]) q with
    | none => rfl
    | some kv =>
      have k4 : kv.1 = Sum.inl q.1 := by
        unfold remF at k3
        split at k3
        · injection k3 with k3
          rw [← k3]
        · cases k3
      rw [Option.filter_some, if_pos]
      rw [k4]
      exact decide_eq_true fun h => e (by injection h)
/-- one that is not needed any more -/
theorem remK_no {ps : List (Int × Int)} {W : List Int} {x : Int} (nd : (ps.map Prod.fst).Nodup) (h : valV (remK ps W) (Sum.inl x) = none) : remK ps (W ++ [x]) = remK ps W := by
  have hv := remK_val W x nd
  rw [h] at hv
  unfold remK
  refine filterMap_eq fun q hq => ?_
  unfold remF
  rw [count_snoc]
  by_cases e : x = q.1
  · have h2 := needOf_of nd hq
    rw [← e] at h2
    rw [h2] at hv
    have h3 : ¬ q.2 - (W.count x : Int) > 0 := fun k => by
      have hv2 : none = if q.2 - (W.count x : Int) > 0 then some (V.int (q.2 - (W.count x : Int))) else none := hv
      rw [if_pos k] at hv2
      cases hv2
    rw [← e, if_pos rfl, if_neg (by omega), if_neg h3]
  · rw [if_neg e]; rfl
theorem mergeK_nd : ∀ {more acc : List (Key × V)}, ((acc ++ more).map Prod.fst).Nodup → mergeK acc more = acc ++ more
  | [], acc, _ => by
    unfold mergeK
    rw [List.append_nil]; rfl
  | kv :: more, acc, nd => by
    have hn : (acc.any fun p => decide (p.1 = kv.1)) = false := by
      rw [Bool.eq_false_iff]
      intro h
      obtain ⟨p, hp, e⟩ := List.any_eq_true.mp h
      have e2 := of_decide_eq_true e
      rw [List.map_append, List.nodup_append] at nd
      exact nd.2.2 p.1 (List.mem_map_of_mem hp) kv.1 (List.mem_map_of_mem List.mem_cons_self) e2
    have e1 : putK acc kv.1 kv.2 = acc ++ [kv] := by
      unfold putK
      rw [hn]
      rfl
    have e2 : mergeK acc (kv :: more) = mergeK (putK acc kv.1 kv.2) more := rfl
    rw [e2, e1, mergeK_nd (by rw [List.append_assoc]; exact nd), List.append_assoc]
    rfl
/-- dict(needs) -/
theorem merge_needs {ps : List (Int × Int)} (ok : NeedsOk ps) : mergeK [] (ps.map fun q => ((Sum.inl q.1 : Key), V.int q.2)) = remK ps [] := by
  rw [remK_all ok.pos, mergeK_nd]
  · rfl
  · show ((ps.map fun q => ((Sum.inl q.1 : Key), V.int q.2)).map Prod.fst).Nodup
    rw [List.map_map]
    have e : ps.map (Prod.fst ∘ fun q => ((Sum.inl q.1 : Key), V.int q.2)) = (ps.map Prod.fst).map Sum.inl := by rw [List.map_map]; rfl
    rw [e]
    exact List.Pairwise.map _ (fun a b h k => h (by injection k)) ok.nd
theorem paired_needs {K : PySem.W.Frag} {H : Hp} : ∀ {ls : List Addr} {ps : List (Int × Int)}, PairsF H ls ps → Paired (fun p (kv : Key × V) => SqT K H p [kV kv.1, kv.2]) ls (ps.map fun q => ((Sum.inl q.1 : Key), V.int q.2))
  | [], [], _ => .nil
  | [], q :: ps, r => by cases r.len
  | l :: ls, [], r => by cases r.len
  | l :: ls, q :: ps, r => by
    refine .cons (SqT.of (r.get (k := 0) rfl).2) (paired_needs ⟨Nat.succ.inj r.len, fun k p e => ?_⟩)
    exact r.row (k + 1) p e
end Ur
namespace Ur
open PySem L2
section
variable {K : PySem.W.Frag} {a : Addr} {σ : L2.St} {H1 : Hp} {Dl : Addr} {te : TE} {tt : TT} {vs : List Nat} {Qd : Hp → Prop}
/-- [e for x, y in a list of pairs if t], each e an int -/
theorem lc_pairsIfI {j l : Nat} {ls : List Addr} {ps : List (Int × Int)} (t : Int × Int → Bool) (f : Int × Int → Int) (hn : ps.length ≤ 1000000) (ha : SqL K H1 a (ls.map V.ref)) (r : PairsF H1 ls ps) (hD : H1 Dl = none)
    (hw : ∀ x y, wipe (((wipe σ vs).set j (some x)).set l (some y)) vs = wipe σ vs)
    (ht : ∀ (q : Int × Int) H', q ∈ ps → Same H1 H' → ∀ Q' : Bool → Hp → Prop, (∀ H4, Same H' H4 → Q' (t q) H4) → tt (((wipe σ vs).set j (some (.int q.1))).set l (some (.int q.2))) H' Q')
    (he : ∀ (q : Int × Int) H', q ∈ ps → Same H1 H' → ∀ Q' : VK, (∀ H4, Same H' H4 → Q' (.int (f q)) H4) → te (((wipe σ vs).set j (some (.int q.1))).set l (some (.int q.2))) H' Q')
    (hd : ∀ H', Same H1 H' → H' Dl = some (.lst (((ps.filter t).map f).map V.int)) → Qd H') :
    ∃ W : Nat → Nat → Hp → Prop, (∃ m, W 0 m (upd H1 Dl (.lst []))) ∧ ∀ i m H, W i m H →
      ((Itl K a).stop i H ∧ Qd H) ∨ ((Itl K a).go i H ∧ ∃ Nx : Hp → Prop, (∀ H', Nx H' → ∃ m', m' < m ∧ W (i + 1) m' H') ∧ ∀ x H', (Itl K a).yld i H x H' → gTup K 2 (gCons (gName j) (gCons (gName l) gNil)) x (wipe σ vs) H' fun σ2 H2 => wipe σ2 vs = wipe σ vs ∧ tt σ2 H2 fun b H3 =>
        if b = true then te σ2 H3 fun y H4 => ∃ acc, H4 Dl = some (.lst acc) ∧ acc.length < sizeLine ∧ Nx (upd H4 Dl (.lst (acc ++ [y]))) else Nx H3) := by
  refine lc_list (K := K) (a := a) (xs := ls.map V.ref) (fun i H' => Same H1 H' ∧ H' Dl = some (.lst ((((ps.take i).filter t).map f).map V.int))) ⟨same_new hD, upd_same⟩ (fun i H' _ z => z.1.seq ha) (fun i x H' hx z => ?_) (fun H' z => ?_)
  · obtain ⟨s, eD⟩ := z
    rw [List.getElem?_map] at hx
    obtain ⟨p, hp, rfl⟩ := Option.map_eq_some_iff.mp hx
    obtain ⟨h2, h3⟩ := r.get hp
    have e4 := s _ _ h3
    have hq : ps[i]? = some (ps.getD i (0, 0)) := by rw [List.getD_eq_getElem?_getD, List.getElem?_eq_getElem h2]; rfl
    have e1 : ps.take (i + 1) = ps.take i ++ [ps.getD i (0, 0)] := by rw [List.take_add_one, hq]; rfl
    refine ⟨p, _, rfl, .of e4, rfl, _, _, rfl, _, _, rfl, rfl, hw _ _, ?_⟩
    refine ht _ H' (List.mem_of_getElem? hq) s _ fun H3 s3 => ?_
    cases hb : t (ps.getD i (0, 0)) with
    | true =>
      refine (if_pos rfl).mpr ?_
      refine he _ H3 (List.mem_of_getElem? hq) (s.trans s3) _ fun H4 s4 => ⟨_, s4 _ _ (s3 _ _ eD), szl ?_, same_upd' hD ((s.trans s3).trans s4), ?_⟩
      · have := List.length_filter_le t (ps.take i)
        rw [List.length_take] at this
        rw [List.length_map, List.length_map]; omega
      exact lst_cast upd_same (by rw [e1, List.filter_append, List.map_append, List.map_append, List.filter_cons, if_pos hb]; rfl)
    | false =>
      refine (if_neg Bool.false_ne_true).mpr ⟨s.trans s3, ?_⟩
      rw [e1, List.filter_append, List.map_append, List.map_append, List.filter_cons, if_neg (by rw [hb]; exact Bool.false_ne_true)]
      simpa using s3 _ _ eD
  · obtain ⟨s, eD⟩ := z
    have hl := r.len
    rw [List.length_map, hl, List.take_length] at eD
    exact hd H' s eD
end
theorem hold_filter (ps : List (Int × Int)) (W : List Int) : decide (((ps.filter fun q => decide ((W.count q.1 : Int) < q.2)).map Prod.fst) = []) = hold ps W := by
  rw [Bool.eq_iff_iff, decide_eq_true_iff, List.map_eq_nil_iff, List.filter_eq_nil_iff, hold_iff]
  constructor
  · intro h q hq
    have := h q hq
    rw [decide_eq_true_iff] at this
    omega
  · intro h q hq
    have := h q hq
    rw [decide_eq_true_iff]
    omega
/-- tight: the next one has another end -/
theorem tight_iff {ns : List Int} {ps : List (Int × Int)} {f e : Nat} (hf : f ≤ ns.length) (he : hEnd ns ps f = some e) : (f = e ∨ hold ps (hWin ns (f + 1) e) = false) ↔ nxtH ns ps f ≠ some e := by
  rcases hEnd_spec (ns := ns) (ps := ps) hf with ⟨k, _⟩ | ⟨e', k, h1, h2, h3, h4⟩
  · rw [k] at he; cases he
  rw [k] at he
  injection he with he
  subst he
  unfold nxtH
  by_cases hn : f < ns.length
  · rw [if_pos hn]
    rcases hEnd_spec (ns := ns) (ps := ps) (f := f + 1) hn with ⟨q, q2⟩ | ⟨g, q, g1, g2, g3, g4⟩
    · rw [q]
      refine ⟨fun _ z => (by cases z), fun _ => ?_⟩
      by_cases hfe : f = e'
      · exact .inl hfe
      · exact .inr (q2 e' (by omega) h2)
    · rw [q]
      constructor
      · rintro (z | z) w
        · injection w with w
          omega
        · injection w with w
          rw [w, z] at g3
          cases g3
      · intro w
        by_cases hfe : f = e'
        · exact .inl hfe
        · refine .inr ?_
          rw [Bool.eq_false_iff]
          intro z
          refine w ?_
          congr 1
          rcases Nat.lt_trichotomy g e' with c | c | c
          · have := h4 g (by omega) c
            rw [hold_down g3] at this
            cases this
          · exact c
          · have := g4 e' (by omega) c
            rw [z] at this
            cases this
  · rw [if_neg hn]
    exact ⟨fun _ z => (by cases z), fun _ => .inl (by omega)⟩
theorem tightAt_some {ns : List Int} {ps : List (Int × Int)} {f e : Nat} (hf : f ≤ ns.length) (he : hEnd ns ps f = some e) : tightAt ns ps f = if f = e ∨ hold ps (hWin ns (f + 1) e) = false then some ((f : Int), (e : Int)) else none := by
  unfold tightAt
  rw [he]
  show (if nxtH ns ps f = some e then none else _) = _
  have h := tight_iff hf he
  by_cases c : nxtH ns ps f = some e
  · rw [if_pos c, if_neg (fun z => h.mp z c)]
  · rw [if_neg c, if_pos (h.mpr c)]
/-- a row and needs, in a list -/
structure RowNd (H : Hp) (p : Addr) (ns : List Int) (ps : List (Int × Int)) : Prop where
  all : ∃ (a c : Addr) (ls : List Addr), H p = some (.lst [.ref a, .ref c]) ∧ H a = some (.lst (ns.map V.int)) ∧ H c = some (.lst (ls.map V.ref)) ∧ PairsF H ls ps
theorem RowNd.same {H H' : Hp} {p : Addr} {ns : List Int} {ps : List (Int × Int)} (k : RowNd H p ns ps) (s : Same H H') : RowNd H' p ns ps := by
  obtain ⟨a, c, ls, h1, h2, h3, h4⟩ := k.all
  exact ⟨a, c, ls, s _ _ h1, s _ _ h2, s _ _ h3, ObjsF.same h4 s⟩
def rowNdD (ns : List Int) (ps : List (Int × Int)) : PyData := .list [.list (ns.map .int), .list (pairsD ps)]
theorem RowNd.dp {K : PySem.W.Frag} {H : Hp} {p : Addr} {ns : List Int} {ps : List (Int × Int)} (k : RowNd H p ns ps) : Dp K H (.ref p) (rowNdD ns ps) := by
  obtain ⟨a, c, ls, h1, h2, h3, h4⟩ := k.all
  exact .lst (.of h1) (.cons (dp_ints (.of h2)) (.cons (dp_pairs (.of h3) h4) .nil))
theorem depth_pairsD (ps : List (Int × Int)) : PyData.depth (.list (pairsD ps)) ≤ 3 := by
  have h := depthAll_of (m := 2) (pairsD ps) fun d h => by
    unfold pairsD at h
    obtain ⟨q, _, rfl⟩ := List.mem_map.mp h
    exact depth_tup [q.1, q.2]
  rw [PyData.depth]
  omega
theorem lay_pairsD (ps : List (Int × Int)) : PyData.canLay0 (.list (pairsD ps)) = true := by
  refine canLayAll_of _ fun d h => ?_
  unfold pairsD at h
  obtain ⟨q, _, rfl⟩ := List.mem_map.mp h
  exact canLayAll_ints [q.1, q.2]
theorem rowNdD_ok (ns : List Int) (ps : List (Int × Int)) : SeqAt.shaped (rowNdD ns ps) = true ∧ PyData.eqv (rowNdD ns ps) (rowNdD ns ps) = true := by
  have hc : ∀ d ∈ [PyData.list (ns.map .int), PyData.list (pairsD ps)], PyData.canLay0 d = true ∧ PyData.depth d ≤ 3 ∧ PyData.eqv d d = true := by
    intro d hd
    simp only [List.mem_cons, List.not_mem_nil, or_false] at hd
    rcases hd with rfl | rfl
    · exact ⟨canLayAll_ints _, Nat.le_trans (depth_ints _) (by decide), by rw [eqv_ints]; exact decide_eq_true rfl⟩
    · exact ⟨lay_pairsD ps, depth_pairsD ps, eqv_pairs ps⟩
  refine ⟨shaped_of (canLayAll_of _ fun d h => (hc d h).1) ?_, eqvAll_refl _ fun d h => (hc d h).2.2⟩
  have h := depthAll_of (m := 3) _ fun d h => (hc d h).2.1
  show PyData.depth (.list _) ≤ 64
  rw [PyData.depth]
  omega
theorem rNe_rowNd {K : PySem.W.Frag} {H : Hp} {p q : Addr} {ns : List Int} {ps : List (Int × Int)} {Q : VK} (h1 : RowNd H p ns ps) (h2 : RowNd H q ns ps) (k : Q (.bl false) H) : rNeD K (.ref p) (.ref q) H Q :=
  ⟨_, _, h1.dp, h2.dp, (rowNdD_ok ns ps).1, (rowNdD_ok ns ps).1, by rw [(rowNdD_ok ns ps).2]; exact k⟩
theorem rEq_rowNd {K : PySem.W.Frag} {H : Hp} {p q : Addr} {ns : List Int} {ps : List (Int × Int)} {Q : VK} (h1 : RowNd H p ns ps) (h2 : RowNd H q ns ps) (k : Q (.bl true) H) : rEqD K (.ref p) (.ref q) H Q :=
  ⟨_, _, h1.dp, h2.dp, (rowNdD_ok ns ps).1, (rowNdD_ok ns ps).1, by rw [(rowNdD_ok ns ps).2]; exact k⟩
end Ur

namespace Ur
open PySem L2
/-! ### the shortest of the tight ones is the least of all -/
/-- by width, then by the first place -/
def leW (p q : Int × Int) : Prop := p.2 - p.1 < q.2 - q.1 ∨ (p.2 - p.1 = q.2 - q.1 ∧ p.1 ≤ q.1)
theorem revP {P : List (Int × Int) → Prop} (h0 : P []) (hs : ∀ ns x, P ns → P (ns ++ [x])) (ns : List (Int × Int)) : P ns := by
  have k : ∀ l : List (Int × Int), P l.reverse := by
    intro l
    induction l with
    | nil => exact h0
    | cons x l ih => rw [List.reverse_cons]; exact hs _ _ ih
  have := k ns.reverse
  rwa [List.reverse_reverse] at this
theorem shoP_spec (qs : List (Int × Int)) : qs.Pairwise (fun p q => p.1 < q.1) → (shoP qs = none ∧ qs = []) ∨ ∃ b, shoP qs = some b ∧ b ∈ qs ∧ ∀ q ∈ qs, leW b q := by
  refine revP (P := fun qs => qs.Pairwise (fun p q => p.1 < q.1) → (shoP qs = none ∧ qs = []) ∨ ∃ b, shoP qs = some b ∧ b ∈ qs ∧ ∀ q ∈ qs, leW b q) (fun _ => .inl ⟨rfl, rfl⟩) (fun qs x ih pw => ?_) qs
  rw [List.pairwise_append] at pw
  obtain ⟨p1, _, p3⟩ := pw
  rw [shoP_snoc]
  rcases ih p1 with ⟨e, e2⟩ | ⟨b, e, hb, hle⟩
  · subst e2
    refine .inr ⟨x, ?_, List.mem_append.mpr (.inr List.mem_cons_self), fun q hq => ?_⟩
    · rw [e]; rfl
    · rw [List.nil_append, List.mem_singleton] at hq
      rw [hq]
      exact .inr ⟨rfl, Int.le_refl _⟩
  · rw [e]
    have hs : sbo (some b) x.1 x.2 = if x.2 - x.1 < b.2 - b.1 then some (x.1, x.2) else some b := rfl
    have hbx := p3 b hb x List.mem_cons_self
    rw [hs]
    by_cases h : x.2 - x.1 < b.2 - b.1
    · rw [if_pos h]
      refine .inr ⟨x, rfl, List.mem_append.mpr (.inr List.mem_cons_self), fun q hq => ?_⟩
      rcases List.mem_append.mp hq with k | k
      · have := hle q k
        unfold leW at this ⊢
        omega
      · rw [List.mem_singleton.mp k]
        exact .inr ⟨rfl, Int.le_refl _⟩
    · rw [if_neg h]
      refine .inr ⟨b, rfl, List.mem_append.mpr (.inl hb), fun q hq => ?_⟩
      rcases List.mem_append.mp hq with k | k
      · exact hle q k
      · rw [List.mem_singleton.mp k]
        unfold leW
        omega
theorem tight_mem {ns : List Int} {ps : List (Int × Int)} {x : Int × Int} : x ∈ tightL ns ps ↔ ∃ f e : Nat, f ≤ ns.length ∧ hEnd ns ps f = some e ∧ nxtH ns ps f ≠ some e ∧ x = ((f : Int), (e : Int)) := by
  unfold tightL tightK
  rw [List.mem_filterMap]
  constructor
  · rintro ⟨f, hf, h⟩
    have hf2 := List.mem_range.mp hf
    unfold tightAt at h
    cases he : hEnd ns ps f with
    | none => rw [he] at h; cases h
    | some e =>
      rw [he] at h
      have h2 : (if nxtH ns ps f = some e then none else some ((f : Int), (e : Int))) = some x := h
      by_cases c : nxtH ns ps f = some e
      · rw [if_pos c] at h2; cases h2
      · rw [if_neg c] at h2
        injection h2 with h2
        exact ⟨f, e, by omega, he, c, h2.symm⟩
  · rintro ⟨f, e, hf, he, hn, rfl⟩
    refine ⟨f, List.mem_range.mpr (by omega), ?_⟩
    unfold tightAt
    rw [he]
    show (if nxtH ns ps f = some e then none else some ((f : Int), (e : Int))) = _
    rw [if_neg hn]
theorem tight_pair (ns : List Int) (ps : List (Int × Int)) : (tightL ns ps).Pairwise fun p q => p.1 < q.1 := by
  unfold tightL tightK
  rw [List.pairwise_filterMap]
  refine List.pairwise_lt_range.imp fun {a b} hab p hp q hq => ?_
  have k : ∀ {f : Nat} {x : Int × Int}, tightAt ns ps f = some x → x.1 = f := fun {f x} h => by
    unfold tightAt at h
    cases he : hEnd ns ps f with
    | none => rw [he] at h; cases h
    | some e =>
      rw [he] at h
      have h2 : (if nxtH ns ps f = some e then none else some ((f : Int), (e : Int))) = some x := h
      by_cases c : nxtH ns ps f = some e
      · rw [if_pos c] at h2; cases h2
      · rw [if_neg c] at h2
        injection h2 with h2
        rw [← h2]
  rw [k hp, k hq]
  omega
theorem hEnd_range {ns : List Int} {ps : List (Int × Int)} {f e : Nat} (hf : f ≤ ns.length) (h : hEnd ns ps f = some e) : f ≤ e ∧ e ≤ ns.length ∧ hold ps (hWin ns f e) = true ∧ ∀ b, f ≤ b → b < e → hold ps (hWin ns f b) = false := by
  rcases hEnd_spec (ns := ns) (ps := ps) hf with ⟨k, _⟩ | ⟨e', k, h1, h2, h3, h4⟩
  · rw [k] at h; cases h
  · rw [k] at h
    injection h with h
    subst h
    exact ⟨h1, h2, h3, h4⟩
/-- a tight one within each told window -/
theorem tight_in {ns : List Int} {ps : List (Int × Int)} {e : Nat} : ∀ (k f : Nat), f + k = ns.length → hEnd ns ps f = some e → ∃ g : Nat, f ≤ g ∧ g ≤ e ∧ ((g : Int), (e : Int)) ∈ tightL ns ps
  | 0, f, hk, h => by
    have hr := hEnd_range (by omega) h
    refine ⟨f, Nat.le_refl f, hr.1, tight_mem.mpr ⟨f, e, by omega, h, ?_, rfl⟩⟩
    unfold nxtH
    rw [if_neg (by omega)]
    exact fun z => nomatch z
  | k + 1, f, hk, h => by
    have hr := hEnd_range (by omega) h
    by_cases c : nxtH ns ps f = some e
    · have c2 := c
      unfold nxtH at c2
      rw [if_pos (by omega)] at c2
      obtain ⟨g, h1, h2, h3⟩ := tight_in k (f + 1) (by omega) c2
      exact ⟨g, by omega, h2, h3⟩
    · exact ⟨f, Nat.le_refl f, hr.1, tight_mem.mpr ⟨f, e, by omega, h, c, rfl⟩⟩
/-- all told windows: width and first place -/
def someT (ns : List Int) (ps : List (Int × Int)) (f : Nat) : Bool := (hEnd ns ps f).isSome
def someG (ns : List Int) (ps : List (Int × Int)) (f : Nat) : Int × Int := ((((hEnd ns ps f).getD 0 : Nat) : Int) - f, (f : Int))
def someL (ns : List Int) (ps : List (Int × Int)) : List (Int × Int) := ((List.range (ns.length + 1)).filter (someT ns ps)).map (someG ns ps)
theorem someL_mem {ns : List Int} {ps : List (Int × Int)} {x : Int × Int} : x ∈ someL ns ps ↔ ∃ f e : Nat, f ≤ ns.length ∧ hEnd ns ps f = some e ∧ x = ((e : Int) - f, (f : Int)) := by
  unfold someL
  rw [List.mem_map]
  constructor
  · rintro ⟨f, hf, rfl⟩
    obtain ⟨h1, h2⟩ := List.mem_filter.mp hf
    have hf2 := List.mem_range.mp h1
    obtain ⟨e, he⟩ := Option.isSome_iff_exists.mp h2
    refine ⟨f, e, by omega, he, ?_⟩
    unfold someG
    rw [he]; rfl
  · rintro ⟨f, e, hf, he, rfl⟩
    refine ⟨f, List.mem_filter.mpr ⟨List.mem_range.mpr (by omega), ?_⟩, ?_⟩
    · unfold someT; rw [he]; rfl
    · unfold someG; rw [he]; rfl
theorem sho_some {ns : List Int} {ps : List (Int × Int)} : (shoP (tightL ns ps) = none ∧ someL ns ps = []) ∨ ∃ x y : Int, shoP (tightL ns ps) = some (x, y) ∧ (y - x, x) ∈ someL ns ps ∧ ∀ q ∈ someL ns ps, (y - x) < q.1 ∨ ((y - x) = q.1 ∧ x ≤ q.2) := by
  rcases shoP_spec (tightL ns ps) (tight_pair ns ps) with ⟨h1, h2⟩ | ⟨⟨x, y⟩, h1, h2, h3⟩
  · refine .inl ⟨h1, ?_⟩
    cases hs : someL ns ps with
    | nil => rfl
    | cons q qs =>
      exfalso
      have hq : q ∈ someL ns ps := by rw [hs]; exact List.mem_cons_self
      obtain ⟨f, e, hf, he, _⟩ := someL_mem.mp hq
      obtain ⟨g, _, _, hg⟩ := tight_in (ns.length - f) f (by omega) he
      rw [h2] at hg
      cases hg
  · refine .inr ⟨x, y, h1, ?_, fun q hq => ?_⟩
    · obtain ⟨f, e, hf, he, _, hx⟩ := tight_mem.mp h2
      injection hx with hx hy
      subst hx
      subst hy
      exact someL_mem.mpr ⟨f, e, hf, he, rfl⟩
    · obtain ⟨f, e, hf, he, rfl⟩ := someL_mem.mp hq
      obtain ⟨g, g1, g2, hg⟩ := tight_in (ns.length - f) f (by omega) he
      have := h3 _ hg
      unfold leW at this
      show _ < (e : Int) - f ∨ (_ = (e : Int) - f ∧ x ≤ (f : Int))
      have t : y - x < (e : Int) - g ∨ (y - x = (e : Int) - g ∧ x ≤ g) := this
      omega
section
variable {K : PySem.W.Frag} {σ : L2.St} {H1 : Hp} {Dl : Addr} {te : TE} {tt : TT} {vs : List Nat} {Qd : Hp → Prop}
/-- [e for k in range(..) if t], each e a new pair -/
theorem lc_rngIfP {j : Nat} {lo : Int} {n : Nat} (t : Nat → Bool) (g : Nat → Int × Int) (hn : n ≤ 1000000) (hD : H1 Dl = none) (hw : ∀ x, wipe ((wipe σ vs).set j (some x)) vs = wipe σ vs)
    (ht : ∀ (k : Nat) H', k < n → Same H1 H' → ∀ Q' : Bool → Hp → Prop, (∀ H4, Same H' H4 → Q' (t k) H4) → tt ((wipe σ vs).set j (some (.int (lo + (k : Nat))))) H' Q')
    (he : ∀ (k : Nat) H', k < n → t k = true → Same H1 H' → ∀ Q' : VK, (∀ q H4, Same H' H4 → H4 q = some (pr (g k)) → H' q = none → Q' (.ref q) H4) → te ((wipe σ vs).set j (some (.int (lo + (k : Nat))))) H' Q')
    (hd : ∀ H' qs, Same H1 H' → H' Dl = some (.lst (qs.map V.ref)) → PairsF H' qs (((List.range n).filter t).map g) → (∀ q ∈ qs, H1 q = none) → Qd H') :
    ∃ W : Nat → Nat → Hp → Prop, (∃ m, W 0 m (upd H1 Dl (.lst []))) ∧ ∀ i m H, W i m H →
      ((Itr lo n).stop i H ∧ Qd H) ∨ ((Itr lo n).go i H ∧ ∃ Nx : Hp → Prop, (∀ H', Nx H' → ∃ m', m' < m ∧ W (i + 1) m' H') ∧ ∀ x H', (Itr lo n).yld i H x H' → gName j x (wipe σ vs) H' fun σ2 H2 => wipe σ2 vs = wipe σ vs ∧ tt σ2 H2 fun b H3 =>
        if b = true then te σ2 H3 fun y H4 => ∃ acc, H4 Dl = some (.lst acc) ∧ acc.length < sizeLine ∧ Nx (upd H4 Dl (.lst (acc ++ [y]))) else Nx H3) := by
  refine lc_range (lo := lo) (n := n) (fun i H' => ∃ qs : List Addr, Same H1 H' ∧ H' Dl = some (.lst (qs.map V.ref)) ∧ PairsF H' qs (((List.range i).filter t).map g) ∧ (∀ q ∈ qs, H1 q = none)) ⟨[], same_new hD, upd_same, PairsF.nil, fun q h => nomatch h⟩ (fun i H' hi p => ?_) (fun H' p => ?_)
  · obtain ⟨qs, s, eD, r, f⟩ := p
    refine ⟨hw _, ?_⟩
    refine ht i H' hi s _ fun H3 s3 => ?_
    cases hb : t i with
    | true =>
      refine (if_pos rfl).mpr ?_
      refine he i H3 hi hb (s.trans s3) _ fun q H4 s4 e4 nq => ?_
      have eD3 := s3 _ _ eD
      have hqD : q ≠ Dl := fun e => by rw [e, eD3] at nq; cases nq
      have hrl := r.len
      have hfl := List.length_filter_le t (List.range i)
      rw [List.length_range] at hfl
      rw [List.length_map] at hrl
      refine ⟨_, s4 _ _ eD3, szl (by rw [List.length_map]; omega), qs ++ [q], same_upd' hD ((s.trans s3).trans s4), by rw [upd_same, List.map_append]; rfl, ?_, fun p hp => ?_⟩
      · rw [List.range_succ, List.filter_append, List.map_append, List.filter_cons, if_pos hb]
        have e5 : H4 q = some (.tup [.int (g i).1, .int (g i).2]) := e4
        refine ObjsF.upd (PairsF.snoc (ObjsF.same r (s3.trans s4)) e5) ⟨fun z hz => ?_⟩
        rcases List.mem_append.mp hz with h | h
        · exact (PairsF.offL r eD).out z h
        · rw [List.mem_singleton.mp h]; exact hqD
      · rcases List.mem_append.mp hp with h | h
        · exact f p h
        · rw [List.mem_singleton.mp h]; exact (s.trans s3).free nq
    | false =>
      refine (if_neg Bool.false_ne_true).mpr ⟨qs, s.trans s3, s3 _ _ eD, ?_, f⟩
      rw [List.range_succ, List.filter_append, List.map_append, List.filter_cons, if_neg (by rw [hb]; exact Bool.false_ne_true)]
      rw [List.filter_nil, List.map_nil, List.append_nil]
      exact ObjsF.same r s3
  · obtain ⟨qs, s, eD, r, f⟩ := p
    exact hd H' qs s eD r f
end
theorem dp_pair {K : PySem.W.Frag} {H : Hp} {p : Addr} {x y : Int} (h : H p = some (.tup [.int x, .int y])) : Dp K H (.ref p) (tupD [x, y]) := dp_tup (ns := [x, y]) h
theorem shaped_tup (ns : List Int) : SeqAt.shaped (tupD ns) = true := shaped_of (canLayAll_ints ns) (Nat.le_trans (depth_tup ns) (by decide))
theorem rNe_pair {K : PySem.W.Frag} {H : Hp} {p q : Addr} {x y : Int} {Q : VK} (h1 : H p = some (.tup [.int x, .int y])) (h2 : H q = some (.tup [.int x, .int y])) (k : Q (.bl false) H) : rNeD K (.ref p) (.ref q) H Q :=
  ⟨_, _, dp_pair h1, dp_pair h2, shaped_tup _, shaped_tup _, by
    have e : PyData.eqv (tupD [x, y]) (tupD [x, y]) = true := by
      show PyData.eqvAll _ _ = true
      rw [eqvAll_ints]
      exact decide_eq_true rfl
    rw [e]; exact k⟩
theorem dp_pD {K : PySem.W.Frag} {H : Hp} {a : Addr} {ls : List Addr} {ps : List (Int × Int)} (h : SqL K H a (ls.map V.ref)) (r : PairsF H ls ps) : Dp K H (.ref a) (.list (ps.map UrM.pD)) := dp_pairs h r
theorem rEq_pairsN {K : PySem.W.Frag} {H : Hp} {a b : Addr} {ls : List Addr} {ps : List (Int × Int)} {Q : VK} (h1 : SqL K H a (ls.map V.ref)) (h2 : SqL K H b []) (r1 : PairsF H ls ps) (q : Q (.bl (decide (ps = []))) H) : rEqD K (.ref a) (.ref b) H Q :=
  ⟨_, _, dp_pairs h1 r1, .lst h2 .nil, shaped_pairs ps, shaped_pairs [], by
    have e : PyData.eqv (.list (pairsD ps)) (.list []) = decide (ps = []) := by
      cases ps with
      | nil => rfl
      | cons p ps => rfl
    rw [e]; exact q⟩
theorem rNe_pairsN {K : PySem.W.Frag} {H : Hp} {a b : Addr} {ls : List Addr} {ps : List (Int × Int)} {Q : VK} (h1 : SqL K H a (ls.map V.ref)) (h2 : SqL K H b []) (r1 : PairsF H ls ps) (q : Q (.bl (!decide (ps = []))) H) : rNeD K (.ref a) (.ref b) H Q :=
  ⟨_, _, dp_pairs h1 r1, .lst h2 .nil, shaped_pairs ps, shaped_pairs [], by
    have e : PyData.eqv (.list (pairsD ps)) (.list []) = decide (ps = []) := by
      cases ps with
      | nil => rfl
      | cons p ps => rfl
    rw [e]; exact q⟩
end Ur
namespace Ur
open PySem L2
/-! ### tight windows rise; needs that ask more -/
theorem tight_rise {ns : List Int} {ps : List (Int × Int)} {f e f' e' : Nat} (hf : f ≤ ns.length) (hf' : f' ≤ ns.length) (he : hEnd ns ps f = some e) (ht : nxtH ns ps f ≠ some e) (he' : hEnd ns ps f' = some e') (h : f < f') : e < e' := by
  have r1 := hEnd_range hf he
  have r2 := hEnd_range hf' he'
  have t := (tight_iff hf he).mpr ht
  by_cases c : e < e'
  · exact c
  · exfalso
    rcases t with t | t
    · omega
    · have h1 : hold ps (hWin ns (f + 1) e') = true := by
        have k : ∀ k g : Nat, g + k = f' → hold ps (hWin ns g e') = true := by
          intro k
          induction k with
          | zero => intro g hg; rw [show g = f' from by omega]; exact r2.2.2.1
          | succ k ih => intro g hg; exact hold_down (ih (g + 1) (by omega))
        exact k (f' - (f + 1)) (f + 1) (by omega)
      have h2 := hold_upTo h1 (e - e')
      rw [show e' + (e - e') = e from by omega, t] at h2
      cases h2
theorem tight_pair2 (ns : List Int) (ps : List (Int × Int)) : (tightL ns ps).Pairwise fun p q => p.1 < q.1 ∧ p.2 < q.2 := by
  refine List.Pairwise.imp_of_mem (R := fun p q => p.1 < q.1) (fun {p q} hp hq h => ⟨h, ?_⟩) (tight_pair ns ps)
  obtain ⟨f, e, hf, he, ht, rfl⟩ := tight_mem.mp hp
  obtain ⟨f', e', hf', he', ht', rfl⟩ := tight_mem.mp hq
  have h2 : (f : Int) < f' := h
  have := tight_rise hf hf' he ht he' (by omega)
  show (e : Int) < e'
  omega
/-- what a told window is -/
theorem tight_ok {ns : List Int} {ps : List (Int × Int)} {x y : Int} (h : (x, y) ∈ tightL ns ps) : 0 ≤ x ∧ x ≤ y ∧ y ≤ ns.length ∧ hold ps (hWin ns x.toNat y.toNat) = true ∧ (x < y → hold ps (hWin ns (x + 1).toNat y.toNat) = false ∧ hold ps (hWin ns x.toNat (y - 1).toNat) = false) := by
  obtain ⟨f, e, hf, he, ht, hx⟩ := tight_mem.mp h
  injection hx with hx hy
  subst hx
  subst hy
  have r1 := hEnd_range hf he
  have t := (tight_iff hf he).mpr ht
  rw [Int.toNat_natCast, Int.toNat_natCast, show ((f : Int) + 1).toNat = f + 1 from by omega]
  refine ⟨by omega, by omega, by omega, r1.2.2.1, fun hlt => ⟨?_, ?_⟩⟩
  · rcases t with t | t
    · omega
    · exact t
  · exact r1.2.2.2 _ (by omega) (by omega)
/-- some window is told just where the whole row holds -/
theorem tight_some {ns : List Int} {ps : List (Int × Int)} : tightL ns ps = [] ↔ hold ps ns = false := by
  have hw : hWin ns 0 ns.length = ns := by
    unfold hWin
    rw [List.drop_zero, Nat.sub_zero, List.take_length]
  constructor
  · intro h
    rw [Bool.eq_false_iff]
    intro k
    rcases hEnd_spec (ns := ns) (ps := ps) (f := 0) (Nat.zero_le _) with ⟨_, k2⟩ | ⟨e, k1, _⟩
    · have := k2 ns.length (Nat.zero_le _) (Nat.le_refl _)
      rw [hw, k] at this
      cases this
    · obtain ⟨g, _, _, hg⟩ := tight_in ns.length 0 (by omega) k1
      rw [h] at hg
      cases hg
  · intro h
    cases ht : tightL ns ps with
    | nil => rfl
    | cons q qs =>
      exfalso
      have hq : q ∈ tightL ns ps := by rw [ht]; exact List.mem_cons_self
      obtain ⟨f, e, hf, he, _, _⟩ := tight_mem.mp hq
      have r1 := hEnd_range hf he
      have h1 : hold ps (hWin ns 0 e) = true := by
        have k : ∀ k g : Nat, g + k = f → hold ps (hWin ns g e) = true := by
          intro k
          induction k with
          | zero => intro g hg; rw [show g = f from by omega]; exact r1.2.2.1
          | succ k ih => intro g hg; exact hold_down (ih (g + 1) (by omega))
        exact k f 0 (by omega)
      have h2 := hold_upTo h1 (ns.length - e)
      rw [show e + (ns.length - e) = ns.length from by omega, hw, h] at h2
      cases h2
/-- within each window that holds there is a told one -/
theorem tight_of_hold {ns : List Int} {ps : List (Int × Int)} {f b : Nat} (h1 : f ≤ b) (h2 : b ≤ ns.length) (h : hold ps (hWin ns f b) = true) : ∃ g e : Nat, f ≤ g ∧ g ≤ e ∧ e ≤ b ∧ ((g : Int), (e : Int)) ∈ tightL ns ps := by
  rcases hEnd_spec (ns := ns) (ps := ps) (f := f) (by omega) with ⟨_, k⟩ | ⟨e, k1, k2, k3, k4, k5⟩
  · rw [k b h1 h2] at h; cases h
  · have heb : e ≤ b := by
      by_cases c : e ≤ b
      · exact c
      · have := k5 b h1 (by omega)
        rw [h] at this
        cases this
    obtain ⟨g, g1, g2, g3⟩ := tight_in (ns.length - f) f (by omega) k1
    exact ⟨g, e, g1, g2, heb, g3⟩
/-- needs that ask no less -/
def Asks (ps' ps : List (Int × Int)) : Prop := ∀ W, hold ps' W = true → hold ps W = true
theorem Asks.in_ {ns : List Int} {ps ps' : List (Int × Int)} (a : Asks ps' ps) {x y : Int} (h : (x, y) ∈ tightL ns ps') : ∃ q ∈ tightL ns ps, x ≤ q.1 ∧ q.2 ≤ y ∧ q.1 ≤ q.2 := by
  obtain ⟨h0, h1, h2, h3, _⟩ := tight_ok h
  obtain ⟨g, e, g1, g2, g3, g4⟩ := tight_of_hold (ps := ps) (by omega) (by omega) (a _ h3)
  exact ⟨_, g4, by show x ≤ (g : Int); omega, by show (e : Int) ≤ y; omega, by show (g : Int) ≤ e; omega⟩
/-- the shortest with more needs is no shorter -/
theorem Asks.sho {ns : List Int} {ps ps' : List (Int × Int)} (a : Asks ps' ps) {x y : Int} (h : shoP (tightL ns ps') = some (x, y)) : ∃ u v : Int, shoP (tightL ns ps) = some (u, v) ∧ v - u ≤ y - x := by
  rcases shoP_spec (tightL ns ps') (tight_pair ns ps') with ⟨h1, _⟩ | ⟨b, h1, h2, _⟩
  · rw [h1] at h; cases h
  · rw [h1] at h
    injection h with h
    subst h
    obtain ⟨q, hq, q1, q2, q3⟩ := a.in_ h2
    rcases shoP_spec (tightL ns ps) (tight_pair ns ps) with ⟨_, k2⟩ | ⟨⟨u, v⟩, k1, _, k3⟩
    · rw [k2] at hq; cases hq
    · refine ⟨u, v, k1, ?_⟩
      have := k3 q hq
      unfold leW at this
      have t : v - u < q.2 - q.1 ∨ (v - u = q.2 - q.1 ∧ u ≤ q.1) := this
      omega
theorem Asks.refl (ps : List (Int × Int)) : Asks ps ps := fun _ h => h
theorem Asks.snoc (ps : List (Int × Int)) (q : Int × Int) : Asks (ps ++ [q]) ps := fun W h => by
  rw [hold_iff] at h ⊢
  exact fun p hp => h p (List.mem_append.mpr (.inl hp))
theorem Asks.set {ps : List (Int × Int)} {x y : Int} (h : ps[0]? = some (x, y)) : Asks (ps.set 0 (x, y + 1)) ps := fun W k => by
  cases ps with
  | nil => cases h
  | cons p ps =>
    injection h with h
    subst h
    rw [hold_iff] at k ⊢
    intro q hq
    rcases List.mem_cons.mp hq with e | e
    · have := k (x, y + 1) List.mem_cons_self
      rw [e]
      show y ≤ (W.count x : Int)
      have t : y + 1 ≤ (W.count x : Int) := this
      omega
    · exact k q (List.mem_cons_of_mem _ e)
theorem NeedsOk.set {ps : List (Int × Int)} {x y : Int} (ok : NeedsOk ps) (h : ps[0]? = some (x, y)) : NeedsOk (ps.set 0 (x, y + 1)) := by
  cases ps with
  | nil => cases h
  | cons p ps =>
    injection h with h
    subst h
    refine ⟨ok.nd, fun q hq => ?_⟩
    rcases List.mem_cons.mp hq with e | e
    · have := ok.pos (x, y) List.mem_cons_self
      rw [e]
      show 1 ≤ y + 1
      have t : 1 ≤ y := this
      omega
    · exact ok.pos q (List.mem_cons_of_mem _ e)
theorem PairsF.set0 {H : Hp} {ls : List Addr} {ps : List (Int × Int)} {p : Addr} {q : Int × Int} (r : PairsF H ls ps) (e : H p = some (pr q)) : PairsF H (ls.set 0 p) (ps.set 0 q) := by
  refine ⟨by rw [List.length_set, List.length_set]; exact r.len, fun k l hk => ?_⟩
  have hl := r.len
  have hk1 := (List.getElem?_eq_some_iff.mp hk).1
  rw [List.length_set] at hk1
  rw [List.getElem?_set] at hk
  by_cases c : 0 = k
  · subst c
    rw [if_pos rfl, if_pos hk1] at hk
    injection hk with hk
    subst hk
    rw [e, List.getD_eq_getElem?_getD, List.getElem?_set, if_pos rfl, if_pos (by omega)]
    rfl
  · rw [if_neg c] at hk
    have := r.row k l hk
    rw [this, List.getD_eq_getElem?_getD, List.getD_eq_getElem?_getD, List.getElem?_set, if_neg c]
section
variable {K : PySem.W.Frag} {a : Addr} {σ : L2.St} {H1 : Hp} {Dl : Addr} {te : TE} {tt : TT} {vs : List Nat} {Qd : Hp → Prop}
/-- [x for x in a list of pairs if t]: the pairs themselves -/
theorem lc_pairsIfR {j : Nat} {ls : List Addr} {ps : List (Int × Int)} (t : Int × Int → Bool) (hn : ps.length ≤ 1000000) (ha : SqL K H1 a (ls.map V.ref)) (r : PairsF H1 ls ps) (hD : H1 Dl = none)
    (hw : ∀ x, wipe ((wipe σ vs).set j (some x)) vs = wipe σ vs)
    (ht : ∀ (q : Int × Int) p H', q ∈ ps → Same H1 H' → H' p = some (.tup [.int q.1, .int q.2]) → ∀ Q' : Bool → Hp → Prop, (∀ H4, Same H' H4 → Q' (t q) H4) → tt ((wipe σ vs).set j (some (.ref p))) H' Q')
    (he : ∀ p H', Same H1 H' → ∀ Q' : VK, (∀ H4, Same H' H4 → Q' (.ref p) H4) → te ((wipe σ vs).set j (some (.ref p))) H' Q')
    (hd : ∀ H' qs, Same H1 H' → H' Dl = some (.lst (qs.map V.ref)) → PairsF H' qs (ps.filter t) → Qd H') :
    ∃ W : Nat → Nat → Hp → Prop, (∃ m, W 0 m (upd H1 Dl (.lst []))) ∧ ∀ i m H, W i m H →
      ((Itl K a).stop i H ∧ Qd H) ∨ ((Itl K a).go i H ∧ ∃ Nx : Hp → Prop, (∀ H', Nx H' → ∃ m', m' < m ∧ W (i + 1) m' H') ∧ ∀ x H', (Itl K a).yld i H x H' → gName j x (wipe σ vs) H' fun σ2 H2 => wipe σ2 vs = wipe σ vs ∧ tt σ2 H2 fun b H3 =>
        if b = true then te σ2 H3 fun y H4 => ∃ acc, H4 Dl = some (.lst acc) ∧ acc.length < sizeLine ∧ Nx (upd H4 Dl (.lst (acc ++ [y]))) else Nx H3) := by
  refine lc_list (K := K) (a := a) (xs := ls.map V.ref) (fun i H' => ∃ qs : List Addr, Same H1 H' ∧ H' Dl = some (.lst (qs.map V.ref)) ∧ PairsF H' qs ((ps.take i).filter t)) ⟨[], same_new hD, upd_same, by rw [List.take_zero]; exact PairsF.nil⟩ (fun i H' _ z => ?_) (fun i x H' hx z => ?_) (fun H' z => ?_)
  · obtain ⟨qs, s, _⟩ := z
    exact s.seq ha
  · obtain ⟨qs, s, eD, rq⟩ := z
    rw [List.getElem?_map] at hx
    obtain ⟨p, hp, rfl⟩ := Option.map_eq_some_iff.mp hx
    obtain ⟨h2, h3⟩ := PairsF.get r hp
    have e4 := s _ _ h3
    have hq : ps[i]? = some (ps.getD i (0, 0)) := by rw [List.getD_eq_getElem?_getD, List.getElem?_eq_getElem h2]; rfl
    have e1 : ps.take (i + 1) = ps.take i ++ [ps.getD i (0, 0)] := by rw [List.take_add_one, hq]; rfl
    refine ⟨hw _, ?_⟩
    refine ht _ p H' (List.mem_of_getElem? hq) s e4 _ fun H3 s3 => ?_
    cases hb : t (ps.getD i (0, 0)) with
    | true =>
      refine (if_pos rfl).mpr ?_
      refine he p H3 (s.trans s3) _ fun H4 s4 => ?_
      have hrl := rq.len
      have hfl := List.length_filter_le t (ps.take i)
      rw [List.length_take] at hfl
      have e5 : H4 p = some (.tup [.int (ps.getD i (0, 0)).1, .int (ps.getD i (0, 0)).2]) := s4 _ _ (s3 _ _ e4)
      refine ⟨_, s4 _ _ (s3 _ _ eD), szl (by rw [List.length_map]; omega), qs ++ [p], same_upd' hD ((s.trans s3).trans s4), by rw [upd_same, List.map_append]; rfl, ?_⟩
      rw [e1, List.filter_append, List.filter_cons, if_pos hb]
      have hpD : p ≠ Dl := fun e => by rw [e, hD] at h3; cases h3
      refine ObjsF.upd (PairsF.snoc (ObjsF.same rq (s3.trans s4)) e5) ⟨fun z hz => ?_⟩
      rcases List.mem_append.mp hz with h | h
      · exact (PairsF.offL rq eD).out z h
      · rw [List.mem_singleton.mp h]; exact hpD
    | false =>
      refine (if_neg Bool.false_ne_true).mpr ⟨qs, s.trans s3, s3 _ _ eD, ?_⟩
      rw [e1, List.filter_append, List.filter_cons, if_neg (by rw [hb]; exact Bool.false_ne_true), List.filter_nil, List.append_nil]
      exact ObjsF.same rq s3
  · obtain ⟨qs, s, eD, rq⟩ := z
    have hl := r.len
    rw [List.length_map, hl, List.take_length] at rq
    exact hd H' qs s eD rq
/-- [e for x, y in a list of pairs], each e a new pair -/
theorem lc_pairsP {j l : Nat} {ls : List Addr} {ps : List (Int × Int)} (g : Int × Int → Int × Int) (hn : ps.length ≤ 1000000) (ha : SqL K H1 a (ls.map V.ref)) (r : PairsF H1 ls ps) (hD : H1 Dl = none)
    (hw : ∀ x y, wipe (((wipe σ vs).set j (some x)).set l (some y)) vs = wipe σ vs)
    (he : ∀ (q : Int × Int) H', q ∈ ps → Same H1 H' → ∀ Q' : VK, (∀ p H4, Same H' H4 → H4 p = some (pr (g q)) → H' p = none → Q' (.ref p) H4) → te (((wipe σ vs).set j (some (.int q.1))).set l (some (.int q.2))) H' Q')
    (hd : ∀ H' qs, Same H1 H' → H' Dl = some (.lst (qs.map V.ref)) → PairsF H' qs (ps.map g) → (∀ q ∈ qs, H1 q = none) → Qd H') :
    ∃ W : Nat → Nat → Hp → Prop, (∃ m, W 0 m (upd H1 Dl (.lst []))) ∧ ∀ i m H, W i m H →
      ((Itl K a).stop i H ∧ Qd H) ∨ ((Itl K a).go i H ∧ ∃ Nx : Hp → Prop, (∀ H', Nx H' → ∃ m', m' < m ∧ W (i + 1) m' H') ∧ ∀ x H', (Itl K a).yld i H x H' → gTup K 2 (gCons (gName j) (gCons (gName l) gNil)) x (wipe σ vs) H' fun σ2 H2 => wipe σ2 vs = wipe σ vs ∧ tYes σ2 H2 fun b H3 =>
        if b = true then te σ2 H3 fun y H4 => ∃ acc, H4 Dl = some (.lst acc) ∧ acc.length < sizeLine ∧ Nx (upd H4 Dl (.lst (acc ++ [y]))) else Nx H3) := by
  refine lc_list (K := K) (a := a) (xs := ls.map V.ref) (fun i H' => ∃ qs : List Addr, Same H1 H' ∧ H' Dl = some (.lst (qs.map V.ref)) ∧ PairsF H' qs ((ps.take i).map g) ∧ (∀ q ∈ qs, H1 q = none)) ⟨[], same_new hD, upd_same, by rw [List.take_zero]; exact PairsF.nil, fun q h => nomatch h⟩ (fun i H' _ z => ?_) (fun i x H' hx z => ?_) (fun H' z => ?_)
  · obtain ⟨qs, s, _⟩ := z
    exact s.seq ha
  · obtain ⟨qs, s, eD, rq, f⟩ := z
    rw [List.getElem?_map] at hx
    obtain ⟨p, hp, rfl⟩ := Option.map_eq_some_iff.mp hx
    obtain ⟨h2, h3⟩ := PairsF.get r hp
    have e4 := s _ _ h3
    have hq : ps[i]? = some (ps.getD i (0, 0)) := by rw [List.getD_eq_getElem?_getD, List.getElem?_eq_getElem h2]; rfl
    have e1 : ps.take (i + 1) = ps.take i ++ [ps.getD i (0, 0)] := by rw [List.take_add_one, hq]; rfl
    refine ⟨p, _, rfl, .of e4, rfl, _, _, rfl, _, _, rfl, rfl, hw _ _, tyes_ok ?_⟩
    refine he _ H' (List.mem_of_getElem? hq) s _ fun n H4 s4 e5 nn => ?_
    have hrl := rq.len
    rw [List.length_map, List.length_take] at hrl
    have hnD : n ≠ Dl := fun e => by rw [e, eD] at nn; cases nn
    refine ⟨_, s4 _ _ eD, szl (by rw [List.length_map]; omega), qs ++ [n], same_upd' hD (s.trans s4), by rw [upd_same, List.map_append]; rfl, ?_, fun z hz => ?_⟩
    · rw [e1, List.map_append]
      have e6 : H4 n = some (.tup [.int (g (ps.getD i (0, 0))).1, .int (g (ps.getD i (0, 0))).2]) := e5
      refine ObjsF.upd (PairsF.snoc (ObjsF.same rq s4) e6) ⟨fun z hz => ?_⟩
      rcases List.mem_append.mp hz with h | h
      · exact (PairsF.offL rq eD).out z h
      · rw [List.mem_singleton.mp h]; exact hnD
    · rcases List.mem_append.mp hz with h | h
      · exact f z h
      · rw [List.mem_singleton.mp h]; exact s.free nn
  · obtain ⟨qs, s, eD, rq, f⟩ := z
    have hl := r.len
    rw [List.length_map, hl, List.take_length] at rq
    exact hd H' qs s eD rq f
end
end Ur
namespace Ur
open PySem L2
theorem OptP.but {a : Addr} {xs : List V} {H H' : Hp} {v : V} {o : Option (Int × Int)} (k : OptP H v o) (b : But a H H') (ha : H a = some (.lst xs)) : OptP H' v o := by
  rcases k.is with ⟨h1, h2⟩ | ⟨x, y, p, h1, h2, h3⟩
  · rw [h1, h2]; exact OptP.non
  · rw [h1, h2]
    exact OptP.pair (b _ _ (fun e => by rw [e, ha] at h3; cases h3) h3)
theorem tight_dec (ns : List Int) (ps : List (Int × Int)) : decide (tightL ns ps = []) = !hold ps ns := by
  by_cases h : tightL ns ps = []
  · rw [decide_eq_true h, tight_some.mp h]; rfl
  · rw [decide_eq_false h]
    cases hh : hold ps ns with
    | true => rfl
    | false => exact absurd (tight_some.mpr hh) h
theorem sho_min {ns : List Int} {ps : List (Int × Int)} {x y : Int} (h : shoP (tightL ns ps) = some (x, y)) {q : Int × Int} (hq : q ∈ (tightL ns ps).map fun q => (q.2 - q.1, q.1)) (hm : ∀ p ∈ (tightL ns ps).map (fun q => (q.2 - q.1, q.1)), q.1 < p.1 ∨ (q.1 = p.1 ∧ q.2 ≤ p.2)) : q = (y - x, x) := by
  rcases shoP_spec (tightL ns ps) (tight_pair ns ps) with ⟨k, _⟩ | ⟨b, k, k2, k3⟩
  · rw [k] at h; cases h
  · rw [k] at h
    injection h with h
    subst h
    have m1 := hm _ (List.mem_map_of_mem k2)
    obtain ⟨p, hp, rfl⟩ := List.mem_map.mp hq
    have m2 := k3 p hp
    unfold leW at m2
    have t1 : p.2 - p.1 < y - x ∨ (p.2 - p.1 = y - x ∧ p.1 ≤ x) := m1
    have t2 : y - x < p.2 - p.1 ∨ (y - x = p.2 - p.1 ∧ x ≤ p.1) := m2
    have e1 : p.2 - p.1 = y - x := by omega
    have e2 : p.1 = x := by omega
    rw [e1, e2]
end Ur
namespace Ur
open PySem L2
theorem PairsF.take {H : Hp} {ls : List Addr} {ps : List (Int × Int)} (r : PairsF H ls ps) (n : Nat) : PairsF H (ls.take n) (ps.take n) := by
  refine ⟨by rw [List.length_take, List.length_take, r.len], fun k p h => ?_⟩
  rw [List.getElem?_take] at h
  by_cases c : k < n
  · rw [if_pos c] at h
    rw [r.row k p h, List.getD_eq_getElem?_getD, List.getD_eq_getElem?_getD, List.getElem?_take, if_pos c]
  · rw [if_neg c] at h
    cases h
end Ur

namespace Ur
open PySem L2 PySem.Spec PyProof.Rows
/-! ### needs that are none -/
/-- behind good needs, a thing that is no need -/
def BadI (H : Hp) (ps : List (Int × Int)) (x : V) : Prop := Kind H x ∧ ((∀ p ys, x = .ref p → H p ≠ some (.tup ys)) ∨ ∃ p ys, x = .ref p ∧ H p = some (.tup ys) ∧ ys.length ≤ 1000 ∧ (ys.length ≠ 2 ∨ ∃ u w, ys = [u, w] ∧ Kind H u ∧ Kind H w ∧ ∀ i j : Int, u = .int i → w = .int j → j < 1 ∨ i ∈ ps.map Prod.fst))
def BadNs (H : Hp) (v : V) : Prop :=
  (Kind H v ∧ ∀ p xs, v = .ref p → H p ≠ some (.lst xs)) ∨ ∃ p ls ps x post, v = .ref p ∧ H p = some (.lst ((ls : List Addr).map V.ref ++ x :: post)) ∧ PairsF H ls ps ∧ NeedsOk ps ∧ ls.length + 1 + post.length ≤ 2000 ∧ BadI H ps x
theorem upT {H H' : Hp} {v : V} (k : Kind H v) (s : Same H H') (n : ∀ p ys, v = .ref p → H p ≠ some (.tup ys)) : ∀ p ys, v = .ref p → H' p ≠ some (.tup ys) := fun p ys e h => by
  subst e
  obtain ⟨o, ho⟩ := k.some
  have := s _ _ ho
  rw [h] at this
  cases this
  exact n p ys rfl ho
theorem BadI.same {H H' : Hp} {ps : List (Int × Int)} {x : V} (b : BadI H ps x) (s : Same H H') : BadI H' ps x := by
  obtain ⟨k, n | ⟨p, ys, e, h, l, r⟩⟩ := b
  · exact ⟨k.same s, .inl (upT k s n)⟩
  · refine ⟨k.same s, .inr ⟨p, ys, e, s _ _ h, l, r.imp id fun ⟨u, w, a, ku, kw, f⟩ => ⟨u, w, a, ku.same s, kw.same s, f⟩⟩⟩
theorem val_lack {ps : List (Int × Int)} {n : Int} (h : n ∈ ps.map Prod.fst) : ∃ v, valV (lackK ps []) (Sum.inl n) = some v := by
  rw [valV_lack]
  cases e : needOf ps n with
  | some t => exact ⟨_, rfl⟩
  | none =>
    exfalso
    revert e h
    induction ps with
    | nil => intro h; cases h
    | cons q ps ih =>
      intro h e
      by_cases hq : q.1 = n
      · simp [needOf, hq] at e
      · refine ih ?_ (by simpa [needOf, hq] using e)
        rw [List.map_cons] at h
        rcases List.mem_cons.mp h with z | z
        · exact (hq z.symm).elim
        · exact z
theorem badi_non {H : Hp} {ps : List (Int × Int)} {x : V} (k : Kind H x) (n : ∀ p, x ≠ .ref p) : BadI H ps x := ⟨k, .inl fun p _ e _ => n p e⟩
theorem badi_lst {H : Hp} {ps : List (Int × Int)} {p : Addr} {xs : List V} (e : H p = some (.lst xs)) : BadI H ps (.ref p) := ⟨.lst e, .inl fun q ys z h => by cases z; rw [e] at h; cases h⟩
theorem badi_dct {H : Hp} {ps : List (Int × Int)} {p : Addr} {xs : List (Key × V)} (e : H p = some (.dK xs)) : BadI H ps (.ref p) := ⟨.dct e, .inl fun q ys z h => by cases z; rw [e] at h; cases h⟩
theorem badi_len {H : Hp} {ps : List (Int × Int)} {p : Addr} {ys : List V} (e : H p = some (.tup ys)) (l : ys.length ≤ 1000) (h : ys.length ≠ 2) : BadI H ps (.ref p) := ⟨.tup e, .inr ⟨p, ys, rfl, e, l, .inl h⟩⟩
theorem badi_two {H : Hp} {ps : List (Int × Int)} {p : Addr} {u w : V} (e : H p = some (.tup [u, w])) (ku : Kind H u) (kw : Kind H w) (f : ∀ i j : Int, u = .int i → w = .int j → j < 1) : BadI H ps (.ref p) := ⟨.tup e, .inr ⟨p, [u, w], rfl, e, by simp, .inr ⟨u, w, rfl, ku, kw, fun i j a b => .inl (f i j a b)⟩⟩⟩
/-- bad, and with nothing of a in it -/
def BadA (a : Addr) (H : Hp) (ps : List (Int × Int)) (x : V) : Prop := BadI H ps x ∧ x ≠ .ref a ∧ ∀ p u w, x = .ref p → H p = some (.tup [u, w]) → u ≠ .ref a ∧ w ≠ .ref a
theorem BadA.same {a : Addr} {H H' : Hp} {ps : List (Int × Int)} {x : V} (b : BadA a H ps x) (s : Same H H') : BadA a H' ps x := by
  obtain ⟨i, n, f⟩ := b
  refine ⟨i.same s, n, fun p u w e h => ?_⟩
  subst e
  obtain ⟨o, ho⟩ := i.1.some
  have := s _ _ ho
  rw [h] at this
  cases this
  exact f p u w rfl ho
theorem BadA.but {a : Addr} {H H' : Hp} {ps : List (Int × Int)} {x : V} (b : BadA a H ps x) (s : But a H H') : BadA a H' ps x := by
  obtain ⟨⟨k, i⟩, n, f⟩ := b
  have back : ∀ p o, x = .ref p → H' p = some o → H p = some o := fun p o e h => by
    subst e
    obtain ⟨o', ho⟩ := k.some
    have := s _ _ (fun z => n (by rw [z])) ho
    rw [h] at this
    cases this
    exact ho
  refine ⟨⟨k.but s n, ?_⟩, n, fun p u w e h => f p u w e (back p _ e h)⟩
  rcases i with i | ⟨p, ys, e, h, l, r⟩
  · exact .inl fun p ys e h => i p ys e (back p _ e h)
  · refine .inr ⟨p, ys, e, s _ _ (fun z => n (by rw [e, z])) h, l, r.imp id fun ⟨u, w, q, ku, kw, g⟩ => ?_⟩
    have fw := f p u w e (by rw [h, q])
    exact ⟨u, w, q, ku.but s fw.1, kw.but s fw.2, g⟩
theorem bada_non {a : Addr} {H : Hp} {ps : List (Int × Int)} {x : V} (k : Kind H x) (n : ∀ p, x ≠ .ref p) : BadA a H ps x := ⟨badi_non k n, n a, fun p _ _ e _ => (n p e).elim⟩
theorem bada_lst {a : Addr} {H : Hp} {ps : List (Int × Int)} {p : Addr} {xs : List V} (e : H p = some (.lst xs)) (n : p ≠ a) : BadA a H ps (.ref p) := ⟨badi_lst e, fun z => n (by injection z), fun q _ _ z h => by cases z; rw [e] at h; cases h⟩
theorem bada_dct {a : Addr} {H : Hp} {ps : List (Int × Int)} {p : Addr} {xs : List (Key × V)} (e : H p = some (.dK xs)) (n : p ≠ a) : BadA a H ps (.ref p) := ⟨badi_dct e, fun z => n (by injection z), fun q _ _ z h => by cases z; rw [e] at h; cases h⟩
theorem bada_len {a : Addr} {H : Hp} {ps : List (Int × Int)} {p : Addr} {ys : List V} (e : H p = some (.tup ys)) (n : p ≠ a) (l : ys.length ≤ 1000) (h : ys.length ≠ 2) : BadA a H ps (.ref p) := ⟨badi_len e l h, fun z => n (by injection z), fun q _ _ z k => by cases z; rw [e] at k; cases k; exact absurd rfl h⟩
theorem bada_two {a : Addr} {H : Hp} {ps : List (Int × Int)} {p : Addr} {u w : V} (e : H p = some (.tup [u, w])) (n : p ≠ a) (ku : Kind H u) (nu : u ≠ .ref a) (kw : Kind H w) (nw : w ≠ .ref a) (f : ∀ i j : Int, u = .int i → w = .int j → j < 1) : BadA a H ps (.ref p) := ⟨badi_two e ku kw f, fun z => n (by injection z), fun q _ _ z k => by cases z; rw [e] at k; cases k; exact ⟨nu, nw⟩⟩
theorem rEq_kinds0 {K : PySem.W.Frag} {H : Hp} {a b : Addr} {Q : VK} (h1 : H a = some (.lst [])) (h2 : H b = some (.lst [.bl true, .bl true, .bl false])) (q : Q (.bl false) H) : rEqD K (.ref a) (.ref b) H Q :=
  ⟨.list [], .list [.bool true, .bool true, .bool false], .lst (SqL.of h1) .nil, .lst (SqL.of h2) (.cons (.bl _) (.cons (.bl _) (.cons (.bl _) .nil))), by decide, by decide, q⟩
theorem BadNs.same {H H' : Hp} {v : V} (b : BadNs H v) (s : Same H H') : BadNs H' v := by
  rcases b with ⟨k, n⟩ | ⟨p, ls, ps, x, post, e, h, r, ok, l, bi⟩
  · refine .inl ⟨k.same s, fun p xs e h => ?_⟩
    subst e
    obtain ⟨o, ho⟩ := k.some
    have := s _ _ ho
    rw [h] at this
    cases this
    exact n p xs rfl ho
  · exact .inr ⟨p, ls, ps, x, post, e, s _ _ h, ObjsF.same r s, ok, l, bi.same s⟩
theorem pairs_take {H : Hp} {ls : List Addr} {ps : List (Int × Int)} (r : PairsF H ls ps) (k : Nat) : PairsF H (ls.take k) (ps.take k) := ⟨by rw [List.length_take, List.length_take, r.len], fun i p h => by
  have hi : i < k := by
    have := (List.getElem?_eq_some_iff.mp h).1
    rw [List.length_take] at this
    omega
  rw [List.getElem?_take_of_lt hi] at h
  rw [r.row i p h]
  simp only [List.getD_eq_getElem?_getD, List.getElem?_take_of_lt hi]⟩
theorem NeedsOk.take {ps : List (Int × Int)} (o : NeedsOk ps) (k : Nat) : NeedsOk (ps.take k) := ⟨by
  rw [List.map_take]
  exact o.nd.sublist (List.take_sublist _ _), fun q h => o.pos q (List.mem_of_mem_take h)⟩
theorem BadI.mono {H : Hp} {ps : List (Int × Int)} {x : V} (b : BadI H [] x) : BadI H ps x := ⟨b.1, b.2.imp id fun ⟨p, ys, e, h, l, r⟩ => ⟨p, ys, e, h, l, r.imp id fun ⟨u, w, q, ku, kw, f⟩ => ⟨u, w, q, ku, kw, fun i j a c => .inl ((f i j a c).resolve_right (fun z => nomatch z))⟩⟩⟩
theorem pairs_one {H : Hp} {p : Addr} {x y : Int} (e : H p = some (.tup [.int x, .int y])) : PairsF H [p] [(x, y)] := PairsF.snoc .nil e
theorem badi_dup {H : Hp} {ps : List (Int × Int)} {p : Addr} {n t : Int} (e : H p = some (.tup [.int n, .int t])) (h : n ∈ ps.map Prod.fst) : BadI H ps (.ref p) := ⟨.tup e, .inr ⟨p, _, rfl, e, by simp, .inr ⟨_, _, rfl, .int, .int, fun i j a _ => by cases a; exact .inr h⟩⟩⟩
theorem BadNs.copy {H : Hp} {p p' : Addr} {xs : List V} (b : BadNs H (.ref p)) (e : H p = some (.lst xs)) (e' : H p' = some (.lst xs)) : BadNs H (.ref p') := by
  rcases b with ⟨_, n⟩ | ⟨q, ls, ps, x, post, z, h, r, ok, l, bi⟩
  · exact (n p xs rfl e).elim
  · cases z
    rw [e] at h
    cases h
    exact .inr ⟨p', ls, ps, x, post, rfl, e', r, ok, l, bi⟩
theorem badNs_non {H : Hp} {v : V} (k : Kind H v) (n : ∀ p, v ≠ .ref p) : BadNs H v := .inl ⟨k, fun p _ e _ => n p e⟩
theorem badNs_tup {H : Hp} {p : Addr} {xs : List V} (e : H p = some (.tup xs)) : BadNs H (.ref p) := .inl ⟨.tup e, fun q ys z h => by cases z; rw [e] at h; cases h⟩
theorem badNs_dct {H : Hp} {p : Addr} {xs : List (Key × V)} (e : H p = some (.dK xs)) : BadNs H (.ref p) := .inl ⟨.dct e, fun q ys z h => by cases z; rw [e] at h; cases h⟩
theorem badNs_deep {H : Hp} {p z : Addr} {xs : List V} (e : H p = some (.lst [.ref z])) (ez : H z = some (.lst xs)) : BadNs H (.ref p) := .inr ⟨p, [], [], .ref z, [], rfl, e, .nil, ⟨List.nodup_nil, fun _ h => nomatch h⟩, by simp, badi_lst ez⟩
end Ur

namespace Ur
open PySem PySem.Spec PyProof.Rows L2
/-! ### [p, q] == [p2, q2], lists of the very same items -/
structure RP (K : PySem.W.Frag) (neg : Bool) (x y : V) (H : Hp) (Q : VK) : Prop where
  h : ∃ (a b p q p2 q2 : Addr) (xs ys : List V), x = .ref a ∧ y = .ref b ∧ SqL K H a [.ref p, .ref q] ∧ SqL K H b [.ref p2, .ref q2] ∧ SqL K H p xs ∧ SqL K H p2 xs ∧ SqL K H q ys ∧ SqL K H q2 ys ∧
  (∀ v ∈ xs, flatV v = true ∨ ∃ p, v = .ref p) ∧ (∀ v ∈ ys, flatV v = true ∨ ∃ p, v = .ref p) ∧ Q (.bl (!neg)) H
def rEqP (K : PySem.W.Frag) (neg : Bool) : R2 := fun x y H Q => RP K neg x y H Q
section
variable {X : Cx} {pins : List (Addr × Obj)} {σ : L2.St} {H : Hp} {s : Shared}
theorem eqAt_lists {A : Around} (I : Inv X pins σ H s) {p q : Addr} {xs : List V} (h1 : SqL X.K H p xs) (h2 : SqL X.K H q xs) (f : ∀ v ∈ xs, flatV v = true ∨ ∃ p, v = .ref p) (hu : A.units < cLine) : SeqAt.EqAt A s (.ref p) (.ref q) true := by
  by_cases e : p = q
  · subst e; exact eqAt_ref
  obtain ⟨i1, r1, p1, _⟩ := I.list h1
  obtain ⟨i2, r2, p2, _⟩ := I.list h2
  have l1 := r1.length
  have l2 := r2.length
  have z := SeqAt.RcAt.lists (A := A) (e := fun _ => true) p1.isList p2.isList (by simp; omega) hu (items_same r1 r2 f)
  have all : (List.range i1.toArray.size).all (fun _ => true) = true := List.all_eq_true.mpr fun _ _ => rfl
  rw [all] at z
  exact SeqAt.EqAt.of_refs e z
end
theorem items_two {A : Around} {X : Cx} {pins : List (Addr × Obj)} {σ : L2.St} {H : Hp} {s : Shared} (I : Inv X pins σ H s) {p q p2 q2 : Addr} {xs ys : List V} {us ws : List Value} (r1 : Vals [.ref p, .ref q] us) (r2 : Vals [.ref p2, .ref q2] ws)
    (e1 : SqL X.K H p xs) (e2 : SqL X.K H p2 xs) (e3 : SqL X.K H q ys) (e4 : SqL X.K H q2 ys) (f : ∀ v ∈ xs, flatV v = true ∨ ∃ p, v = .ref p) (g : ∀ v ∈ ys, flatV v = true ∨ ∃ p, v = .ref p) (hu : A.units < cLine) :
    ∀ j (h1 : j < us.toArray.size) (h2 : j < ws.toArray.size), SeqAt.EqAt A s us.toArray[j] ws.toArray[j] true := by
  cases r1 with
  | cons a1 t1 =>
    cases t1 with
    | cons b1 t1 =>
      cases t1
      cases r2 with
      | cons a2 t2 =>
        cases t2 with
        | cons b2 t2 =>
          cases t2
          cases a1; cases b1; cases a2; cases b2
          intro j h1 h2
          match j with
          | 0 => exact eqAt_lists I e1 e2 f hu
          | 1 => exact eqAt_lists I e3 e4 g hu
          | n + 2 => exact absurd h1 (by simp)
theorem op_neP {X : Cx} {K : PySem.W.Frag} (hK : X.K = K) (hu : X.A.units + 64 < cLine) : OpR X (compareOp .NotEq) (rEqP K true) := by
  subst hK
  intro pins s σ H x y v u Q I rx ry h
  obtain ⟨a, b, p, q, p2, q2, xs, ys, rfl, rfl, ha, hb, e1, e2, e3, e4, f, g, w⟩ := h.h
  cases (show v = Value.ref a from rx)
  cases (show u = Value.ref b from ry)
  obtain ⟨i1, r1, p1, _⟩ := I.list ha
  obtain ⟨i2, r2, pp2, _⟩ := I.list hb
  have l1 := r1.length
  have l2 := r2.length
  have l12 : i1.length = i2.length := by rw [← l1, ← l2]; rfl
  have z := SeqAt.RcNeAt.lists (A := X.A) (e := fun _ => true) p1.isList pp2.isList (by simpa using l12) (by omega) (fun j h1 h2 => items_two I r1 r2 e1 e2 e3 e4 f g (by first | omega | (simp; omega)) j h1 h2) X.prog X.w
  have all : (List.range i1.toArray.size).all (fun _ => true) = true := List.all_eq_true.mpr fun _ _ => rfl
  rw [all] at z
  exact z _ _ ⟨.bl _, H, I, rfl, w⟩
end Ur

local macro_rules | `(tactic| kct_strs) => `(tactic| first
  | (with_reducible assumption)
  | ((with_reducible show (_ : Option L2.HO) = some _); first
    | (with_reducible exact Ur.upd_snoc)
    | (with_reducible exact Ur.upd_cutto (by omega))
    | (with_reducible exact Ur.upd_cutmid (by omega) (by omega))
    | (with_reducible exact Ur.upd_cutfrom (by omega))
    | (with_reducible exact Ur.upd_cutall)
    | (with_reducible exact Ur.upd_set)
    | (with_reducible exact Ur.upd_app)
    | (with_reducible exact Ur.upd_rep)
    | (with_reducible exact Ur.upd_rep0)
    | (with_reducible exact Ur.upd_1cat)
    | (with_reducible exact L2.upd_same)
    | ((with_reducible apply Ur.dead_upd); exact L2.upd_same)
    | ((fail_if_success (with_reducible apply Ur.dead_upd)); (with_reducible apply Ur.get_upd); (focus kcj_m); kct_strs)
    | ((with_reducible apply Ur.same_get); (focus (with_reducible assumption)); kct_strs)
    | ((with_reducible apply Ur.but_get); (focus (with_reducible assumption)); (focus kcj_m); kct_strs))
  | ((with_reducible show L2.SqL _ _ _ _); first
    | ((with_reducible apply Ur.sqlK); (focus (with_reducible assumption)); (focus (first | (with_reducible rfl) | rfl)))
    | ((with_reducible apply L2.SqL.of); kct_strs)
    | ((with_reducible apply L2.Same.seq); (focus (with_reducible assumption)); kct_strs)
    | ((with_reducible apply Ur.sql_new); (focus (with_reducible assumption)); kct_strs)
    | ((with_reducible apply Ur.sql_upd); (focus kcj_m); kct_strs))
  | ((with_reducible show L2.SqT _ _ _ _); (with_reducible apply L2.SqT.of); kct_strs))
local macro_rules | `(tactic| kcj_m) => `(tactic| ((with_reducible show _ ≠ _); (fail_if_success (with_reducible apply Ur.dead_ne)); first
  | (with_reducible assumption)
  | (with_reducible exact Ne.symm (by assumption))
  | ((with_reducible apply Ur.ne_new); (focus (with_reducible assumption)); kct_strs)
  | ((with_reducible apply Ur.ne_new'); (focus (with_reducible assumption)); kct_strs)
  | (refine L2.ne_of (by assumption) (by kct_strs) (by intro q; cases q))))
local macro_rules | `(tactic| tb_rel) => `(tactic| first
  | ((with_reducible show List.length (L2.putF _ _ _) < _); first | exact Ur.pf1 | exact Ur.pf2 | exact Ur.pf3)
  | ((with_reducible show List.length (Ur.livF _ _ _) < _); exact Ur.pfL)
  | ((with_reducible show List.length (L2.putF _ _ (Ur.livF _ _ _)) < _); exact Ur.pfM)
  | ((with_reducible show List.lookup _ _ = _); first | exact Ur.rdy_many | exact Ur.rdy_lasts | exact Ur.rdy_nexts | exact Ur.rdy_no (by decide) (by decide) (by decide) | exact Ur.hld_times | exact Ur.hld_no (by decide) | exact Ur.liv_numbers | exact Ur.liv_changes | exact Ur.liv_made | exact Ur.liv_no (by decide) (by decide) (by decide))
  | ((fail_if_success (with_reducible show (_ : Option L2.HO) = _)); (with_reducible show _ = _); exact rfl)
  | (with_reducible assumption)
  | ((with_reducible show (_ : Option L2.HO) = Option.some _); kct_strs)
  | ((with_reducible show L2.SqL _ _ _ _); kct_strs)
  | ((with_reducible show ∃ xs, L2.SqL _ _ _ xs); exact ⟨_, by kct_strs⟩)
  | ((with_reducible show L2.SqT _ _ _ _); kct_strs)
  | ((with_reducible show ∃ xs, L2.SqT _ _ _ xs); exact ⟨_, by kct_strs⟩)
  | ((with_reducible show _ ≠ _); kcj_m)
  | ((with_reducible show L2.Same _ _); kcj_in)
  | ((with_reducible show Ur.IsW _ _ _); first | (with_reducible assumption) | exact Ur.IsW.int | exact Ur.IsW.bl | exact Ur.IsW.str | exact Ur.IsW.non | exact Ur.IsW.lst (by kct_strs) | exact Ur.IsW.tup (by kct_strs) | exact Ur.IsW.dct (by kct_strs))
  | ((with_reducible show Ur.Kind _ _); first | (with_reducible assumption) | exact Ur.Kind.int | exact Ur.Kind.bl | exact Ur.Kind.str | exact Ur.Kind.non | ((with_reducible apply Ur.Kind.same); (focus (with_reducible assumption)); kcj_in) | exact Ur.Kind.lst (by kct_strs) | exact Ur.Kind.tup (by kct_strs) | exact Ur.Kind.dct (by kct_strs))
  | ((with_reducible show Ur.But _ _ _); cc_are)
  | ((with_reducible show (_ : Option L2.HO) = Option.none); cc_off)
  | ((fail_if_success (with_reducible show (_ : Option L2.HO) = _)); first
    | (intros; omega)
    | assumption
    | exact Ur.at_int' (by omega) (by omega)
    | exact Ur.at_int' (by dsimp only; omega) (by dsimp only; omega)
    | exact Ur.ixN_iv (by omega) (by omega)
    | exact Ur.at2 (by omega) (by omega)
    | exact Ur.at3 (by omega) (by omega)
    | exact Ur.at4 (by omega) (by omega)
    | exact Ur.at6 (by omega) (by omega)
    | ((with_reducible show L2.IsD _ _); exact Ur.isD_of (by kct_strs))
    | ((with_reducible show L2.tyV _ _ _ _); exact Ur.tyL (by kct_strs))
    | ((with_reducible show L2.DGet _ _ _ _); exact Ur.dget_int (by kct_strs))
    | ((with_reducible show L2.DPut _ _ _ _ _); exact Ur.dput_int (by kct_strs) (Ur.szl (by omega)))
    | ((with_reducible show _ ∨ _); first | exact Or.inl (by kct_strs) | exact Or.inr (by kct_strs) | exact Or.inl ⟨by omega, by omega⟩ | exact Or.inr ⟨by omega, by omega⟩ | exact Or.inr ⟨by decide, by decide⟩ | exact Or.inl ⟨by decide, by decide⟩)
    | ((with_reducible show _ ∧ _); first | exact ⟨by omega, by omega⟩ | exact ⟨by decide, by decide⟩ | exact ⟨by decide, by decide, by decide⟩)
    | exact Ur.sz (by (try simp only [List.length_append, List.length_map, List.length_cons, List.length_nil, List.length_take, List.length_drop, List.length_range, List.length_replicate, List.length_set, List.length_reverse]); omega)
    | exact Ur.szl (by (try simp only [List.length_append, List.length_map, List.length_cons, List.length_nil, List.length_take, List.length_drop, List.length_range, List.length_replicate, List.length_set, List.length_reverse]); omega)
    | (apply Ur.szT; (focus (repeat (first | (apply Nat.add_le_add) | (apply Ur.lb_map) | (apply Ur.lb_filter) | (apply Ur.lb_app) | (apply Ur.lb_cons) | exact Ur.lb_nil | exact Ur.lb_range | exact Nat.le_refl _))); omega)
    | (apply Ur.szlT; (focus (repeat (first | (apply Nat.add_le_add) | (apply Ur.lb_map) | (apply Ur.lb_filter) | (apply Ur.lb_app) | (apply Ur.lb_cons) | exact Ur.lb_nil | exact Ur.lb_range | exact Nat.le_refl _))); omega)
    | ((with_reducible show List.length _ ≤ _); (first | (rw [List.length_take, List.length_drop]; omega) | (rw [List.length_take]; omega) | (rw [List.length_drop]; omega) | (rw [List.length_reverse]; omega)))
    | ((with_reducible show L2.RgOk _ _); exact L2.RgOk.of_le (by omega) (by omega) (by omega) (by omega))
    | exact Nat.succ_pos _
    | exact Ur.pos_app
    | exact ⟨by omega, by omega⟩
    | exact Or.inl ⟨by omega, by omega⟩
    | exact Or.inr ⟨by omega, by omega⟩
    | exact Or.inr ⟨by decide, by decide⟩
    | exact Or.inl ⟨by decide, by decide⟩
    | exact ⟨by decide, by decide⟩
    | exact ⟨by decide, by decide, by decide⟩
    | decide))
local macro_rules | `(tactic| tb_start) => `(tactic| repeat (first
  | (with_reducible refine Ur.tCi ?_)
  | (with_reducible refine Ur.tNilI ?_)
  | (with_reducible refine L2.iteF ?_)
  | (with_reducible refine L2.iteT ?_)
  | (with_reducible refine Ur.neg_same ?_)
  | (with_reducible refine Ur.pos_same ?_)
  | ((with_reducible apply Ur.isiK); (focus (first | exact Ur.tyx_int | exact Ur.tyx_bl | exact Ur.tyx_non | exact Ur.tyx_str | exact Ur.tyx_lst (by kct_strs) | exact Ur.tyx_tup (by kct_strs) | exact Ur.tyx_dK (by kct_strs))); (focus (first | exact Ur.kb_int_int | exact Ur.kb_int_bool | exact Ur.kb_int_str | exact Ur.kb_int_list | exact Ur.kb_int_tuple | exact Ur.kb_int_dict | exact Ur.kb_bool_int | exact Ur.kb_bool_bool | exact Ur.kb_bool_str | exact Ur.kb_bool_list | exact Ur.kb_bool_tuple | exact Ur.kb_bool_dict | exact Ur.kb_str_int | exact Ur.kb_str_bool | exact Ur.kb_str_str | exact Ur.kb_str_list | exact Ur.kb_str_tuple | exact Ur.kb_str_dict | exact Ur.kb_NoneType_int | exact Ur.kb_NoneType_bool | exact Ur.kb_NoneType_str | exact Ur.kb_NoneType_list | exact Ur.kb_NoneType_tuple | exact Ur.kb_NoneType_dict | exact Ur.kb_list_int | exact Ur.kb_list_bool | exact Ur.kb_list_str | exact Ur.kb_list_list | exact Ur.kb_list_tuple | exact Ur.kb_list_dict | exact Ur.kb_tuple_int | exact Ur.kb_tuple_bool | exact Ur.kb_tuple_str | exact Ur.kb_tuple_list | exact Ur.kb_tuple_tuple | exact Ur.kb_tuple_dict | exact Ur.kb_dict_int | exact Ur.kb_dict_bool | exact Ur.kb_dict_str | exact Ur.kb_dict_list | exact Ur.kb_dict_tuple | exact Ur.kb_dict_dict)))
  | ((with_reducible apply Ur.isiK); (focus (with_reducible assumption)); (focus (with_reducible assumption)))
  | ((with_reducible apply Ur.isK1); (focus kct_strs); (focus (with_reducible assumption)); (focus (with_reducible assumption)))
  | ((with_reducible apply Ur.isKT); (focus kct_strs); (focus (with_reducible assumption)); (focus (with_reducible assumption)))
  | ((with_reducible apply Ur.isK2); (focus kct_strs); (focus (with_reducible assumption)); (focus (with_reducible assumption)); (focus kct_strs); (focus rfl))
  | (with_reducible refine Ur.isN_ref ?_)
  | ((with_reducible apply Ur.isX1); (focus (with_reducible assumption)); (focus (with_reducible assumption)))
  | ((with_reducible apply Ur.isXT); (focus (with_reducible assumption)); (focus (with_reducible assumption)))
  | ((with_reducible apply Ur.isX2); (focus (with_reducible assumption)); (focus (with_reducible assumption)); (focus kct_strs); (focus rfl))
  | ((with_reducible apply Ur.rEq_kinds); (focus kct_strs); (focus kct_strs))
  | ((with_reducible apply Ur.len_ints); (focus kct_strs))
  | ((with_reducible apply Ur.len_refs); (focus kct_strs))
  | ((with_reducible apply Ur.in_int); (focus kct_strs))
  | ((with_reducible apply Ur.notin_int); (focus kct_strs))
  | ((with_reducible apply Ur.setd_int); (focus kct_strs))
  | ((with_reducible apply Ur.repr_pair); (focus kct_strs))
  | ((with_reducible apply Ur.pop1_int); (focus kct_strs); (focus assumption))
  | ((with_reducible apply Ur.index_int); (focus kct_strs))
  | ((with_reducible apply Ur.rEq_intsN); (focus kct_strs); (focus kct_strs))
  | ((with_reducible apply Ur.rNe_intsN); (focus kct_strs); (focus kct_strs))
  | ((with_reducible apply Ur.rEq_ints); (focus kct_strs); (focus kct_strs))
  | ((with_reducible apply Ur.rNe_ints); (focus kct_strs); (focus kct_strs))
  | (with_reducible refine Ur.noN ?_)
  | (with_reducible refine Ur.noNn ?_)
  | ((with_reducible refine Ur.brT ?_ ?_); (focus omega))
  | ((with_reducible refine Ur.brF ?_ ?_); (focus omega))
  | ((with_reducible refine Ur.brnT ?_ ?_); (focus omega))
  | ((with_reducible refine Ur.brnF ?_ ?_); (focus omega))
  | (refine And.intro ?_ ?_; (first | (focus tb_rel) | rotate_left 1))
  | refine Or.inl ⟨_, rfl, ?_⟩
  | refine Or.inr ⟨_, rfl, ?_⟩
  | ((fail_if_success (with_reducible show L2.rEqD _ _ _ _ _)); (fail_if_success (with_reducible show L2.rNeD _ _ _ _ _)); (fail_if_success (with_reducible show Ur.rRepr _ _ _ _)); (fail_if_success (with_reducible show Ur.rEqL _ _ _ _ _ _)); (fail_if_success (refine Ur.isWN ?_)); (fail_if_success (refine Ur.isW4 ?_)); apply Exists.intro)))
local macro_rules | `(tactic| kqd_all) => `(tactic| repeat (first
  | (with_reducible refine Ur.tCi ?_)
  | (with_reducible refine Ur.tNilI ?_)
  | (with_reducible refine L2.iteF ?_)
  | (with_reducible refine L2.iteT ?_)
  | (with_reducible refine Ur.neg_same ?_)
  | (with_reducible refine Ur.pos_same ?_)
  | ((with_reducible apply Ur.isiK); (focus (first | exact Ur.tyx_int | exact Ur.tyx_bl | exact Ur.tyx_non | exact Ur.tyx_str | exact Ur.tyx_lst (by kct_strs) | exact Ur.tyx_tup (by kct_strs) | exact Ur.tyx_dK (by kct_strs))); (focus (first | exact Ur.kb_int_int | exact Ur.kb_int_bool | exact Ur.kb_int_str | exact Ur.kb_int_list | exact Ur.kb_int_tuple | exact Ur.kb_int_dict | exact Ur.kb_bool_int | exact Ur.kb_bool_bool | exact Ur.kb_bool_str | exact Ur.kb_bool_list | exact Ur.kb_bool_tuple | exact Ur.kb_bool_dict | exact Ur.kb_str_int | exact Ur.kb_str_bool | exact Ur.kb_str_str | exact Ur.kb_str_list | exact Ur.kb_str_tuple | exact Ur.kb_str_dict | exact Ur.kb_NoneType_int | exact Ur.kb_NoneType_bool | exact Ur.kb_NoneType_str | exact Ur.kb_NoneType_list | exact Ur.kb_NoneType_tuple | exact Ur.kb_NoneType_dict | exact Ur.kb_list_int | exact Ur.kb_list_bool | exact Ur.kb_list_str | exact Ur.kb_list_list | exact Ur.kb_list_tuple | exact Ur.kb_list_dict | exact Ur.kb_tuple_int | exact Ur.kb_tuple_bool | exact Ur.kb_tuple_str | exact Ur.kb_tuple_list | exact Ur.kb_tuple_tuple | exact Ur.kb_tuple_dict | exact Ur.kb_dict_int | exact Ur.kb_dict_bool | exact Ur.kb_dict_str | exact Ur.kb_dict_list | exact Ur.kb_dict_tuple | exact Ur.kb_dict_dict)))
  | ((with_reducible apply Ur.isiK); (focus (with_reducible assumption)); (focus (with_reducible assumption)))
  | ((with_reducible apply Ur.isK1); (focus kct_strs); (focus (with_reducible assumption)); (focus (with_reducible assumption)))
  | ((with_reducible apply Ur.isKT); (focus kct_strs); (focus (with_reducible assumption)); (focus (with_reducible assumption)))
  | ((with_reducible apply Ur.isK2); (focus kct_strs); (focus (with_reducible assumption)); (focus (with_reducible assumption)); (focus kct_strs); (focus rfl))
  | (with_reducible refine Ur.isN_ref ?_)
  | ((with_reducible apply Ur.isX1); (focus (with_reducible assumption)); (focus (with_reducible assumption)))
  | ((with_reducible apply Ur.isXT); (focus (with_reducible assumption)); (focus (with_reducible assumption)))
  | ((with_reducible apply Ur.isX2); (focus (with_reducible assumption)); (focus (with_reducible assumption)); (focus kct_strs); (focus rfl))
  | ((with_reducible apply Ur.rEq_kinds); (focus kct_strs); (focus kct_strs))
  | ((with_reducible apply Ur.len_ints); (focus kct_strs))
  | ((with_reducible apply Ur.len_refs); (focus kct_strs))
  | ((with_reducible apply Ur.in_int); (focus kct_strs))
  | ((with_reducible apply Ur.notin_int); (focus kct_strs))
  | ((with_reducible apply Ur.setd_int); (focus kct_strs))
  | ((with_reducible apply Ur.repr_pair); (focus kct_strs))
  | ((with_reducible apply Ur.pop1_int); (focus kct_strs); (focus assumption))
  | ((with_reducible apply Ur.index_int); (focus kct_strs))
  | ((with_reducible apply Ur.rEq_intsN); (focus kct_strs); (focus kct_strs))
  | ((with_reducible apply Ur.rNe_intsN); (focus kct_strs); (focus kct_strs))
  | ((with_reducible apply Ur.rEq_ints); (focus kct_strs); (focus kct_strs))
  | ((with_reducible apply Ur.rNe_ints); (focus kct_strs); (focus kct_strs))
  | (with_reducible refine Ur.noN ?_)
  | (with_reducible refine Ur.noNn ?_)
  | ((with_reducible refine Ur.brT ?_ ?_); (focus omega))
  | ((with_reducible refine Ur.brF ?_ ?_); (focus omega))
  | ((with_reducible refine Ur.brnT ?_ ?_); (focus omega))
  | ((with_reducible refine Ur.brnF ?_ ?_); (focus omega))
  | (refine And.intro ?_ ?_; (first | (focus tb_rel) | rotate_left 1))
  | refine Or.inl ⟨_, rfl, ?_⟩
  | refine Or.inr ⟨_, rfl, ?_⟩
  | ((fail_if_success (with_reducible show L2.rEqD _ _ _ _ _)); (fail_if_success (with_reducible show L2.rNeD _ _ _ _ _)); (fail_if_success (with_reducible show Ur.rRepr _ _ _ _)); (fail_if_success (with_reducible show Ur.rEqL _ _ _ _ _ _)); (fail_if_success (refine Ur.isWN ?_)); (fail_if_success (refine Ur.isW4 ?_)); apply Exists.intro)
  | intro _))
local macro_rules | `(tactic| kcj_in) => `(tactic| first
  | (with_reducible exact L2.Same.refl _)
  | (with_reducible assumption)
  | ((with_reducible apply Ur.same_snoc); (focus (with_reducible assumption)); kcj_in)
  | ((with_reducible apply Ur.same_upd'); (focus cc_off); kcj_in)
  | ((with_reducible apply Ur.same_step); (focus (with_reducible assumption)); kcj_in)
  | ((with_reducible apply Ur.same_pairs); (focus (with_reducible assumption)); kcj_in)
  | ((with_reducible apply Ur.same_but); (focus (with_reducible assumption)); (focus cc_off); kcj_in))
local macro_rules | `(tactic| cc_off) => `(tactic| first
  | (with_reducible assumption)
  | ((with_reducible apply Ur.same_free); (focus (with_reducible assumption)); kcj_in)
  | ((with_reducible apply Ur.but_free); (focus (with_reducible assumption)); (focus cc_are); kct_strs))
local macro_rules | `(tactic| cc_are) => `(tactic| first
  | (with_reducible exact Ur.but_refl)
  | (with_reducible assumption)
  | ((with_reducible apply Ur.but_at); cc_are)
  | ((with_reducible apply Ur.but_snoc); (focus (with_reducible assumption)); cc_are)
  | ((with_reducible apply Ur.but_upd); (focus cc_off); cc_are)
  | ((with_reducible apply Ur.but_step); (focus (with_reducible assumption)); cc_are)
  | ((with_reducible apply Ur.but_step'); (focus (with_reducible assumption)); cc_are))
local macro_rules | `(tactic| kqd_in) => `(tactic| (kqd_all; try ((first | refine Ur.bri (fun _ => ?_) (fun _ => ?_) | refine Ur.brni (fun _ => ?_) (fun _ => ?_) | refine Ur.br (fun _ => ?_) (fun _ => ?_) | refine Ur.brn (fun _ => ?_) (fun _ => ?_) | refine Ur.brb (fun _ => ?_) (fun _ => ?_)) <;> kqd_in)))
namespace Ur
open PySem L2
def top (i : Nat) : Stmt := PySem.Challenge.pw_unlikerow_k40_needs_that_are_none.main.body.getD i (.Pass ⟨0, 0, 0, 0⟩)
abbrev s__law_take : Stmt := top 16
theorem sc__law_take : FnScope ["draws", "many"] ["draws", "many"] (defScope s__law_take) := ⟨rfl, rfl, rfl, by decide +kernel, rfl, by decide +kernel, by decide +kernel⟩
abbrev s__law_bad : Stmt := top 21
theorem sc__law_bad : FnScope ["draws", "needs", "far", "some", "at", "bad"] ["draws", "needs"] (defScope s__law_bad) := ⟨rfl, rfl, rfl, by decide +kernel, rfl, by decide +kernel, by decide +kernel⟩
abbrev s__law_deep : Stmt := top 22
theorem sc__law_deep : FnScope ["many", "found", "k"] ["many"] (defScope s__law_deep) := ⟨rfl, rfl, rfl, by decide +kernel, rfl, by decide +kernel, by decide +kernel⟩
abbrev s__law_draws : Stmt := top 15
theorem sc__law_draws : FnScope ["script", "draws", "k", "rest", "stir", "many"] ["script"] (defScope s__law_draws) := ⟨rfl, rfl, rfl, by decide +kernel, rfl, by decide +kernel, by decide +kernel⟩
abbrev s__law_number : Stmt := top 17
theorem sc__law_number : FnScope ["kind", "k"] ["kind", "k"] (defScope s__law_number) := ⟨rfl, rfl, rfl, by decide +kernel, rfl, by decide +kernel, by decide +kernel⟩
abbrev s__law_needs : Stmt := top 19
theorem sc__law_needs : FnScope ["draws", "row", "found", "first", "often", "number", "once", "k", "times", "one"] ["draws", "row"] (defScope s__law_needs) := ⟨rfl, rfl, rfl, by decide +kernel, rfl, by decide +kernel, by decide +kernel⟩
abbrev s_is_whole : Stmt := top 9
theorem sc_is_whole : FnScope ["thing"] ["thing"] (defScope s_is_whole) := ⟨rfl, rfl, rfl, by decide +kernel, rfl, by decide +kernel, by decide +kernel⟩
abbrev s_times_needed : Stmt := top 10
theorem sc_times_needed : FnScope ["needs", "found", "need"] ["needs"] (defScope s_times_needed) := ⟨rfl, rfl, rfl, by decide +kernel, rfl, by decide +kernel, by decide +kernel⟩
abbrev s_ends_holding : Stmt := top 11
theorem sc_ends_holding : FnScope ["row", "needs", "lacking", "left", "ends", "behind", "first", "number"] ["row", "needs"] (defScope s_ends_holding) := ⟨rfl, rfl, rfl, by decide +kernel, rfl, by decide +kernel, by decide +kernel⟩
abbrev s_tight_holding : Stmt := top 12
theorem sc_tight_holding : FnScope ["row", "needs", "ends", "found", "first", "behind"] ["row", "needs"] (defScope s_tight_holding) := ⟨rfl, rfl, rfl, by decide +kernel, rfl, by decide +kernel, by decide +kernel⟩
abbrev s_shortest_holding : Stmt := top 13
theorem sc_shortest_holding : FnScope ["row", "needs", "best", "first", "behind"] ["row", "needs"] (defScope s_shortest_holding) := ⟨rfl, rfl, rfl, by decide +kernel, rfl, by decide +kernel, by decide +kernel⟩
abbrev s__law_refused : Stmt := top 20
theorem sc__law_refused : FnScope ["way", "row", "needs", "kinds", "e"] ["way", "row", "needs"] (defScope s__law_refused) := ⟨rfl, rfl, rfl, by decide +kernel, rfl, by decide +kernel, by decide +kernel⟩
abbrev s__law_row : Stmt := top 18
theorem sc__law_row : FnScope ["draws", "most", "many", "kind", "base", "one", "other", "k"] ["draws", "most"] (defScope s__law_row) := ⟨rfl, rfl, rfl, by decide +kernel, rfl, by decide +kernel, by decide +kernel⟩
abbrev s_law : Stmt := top 23
theorem sc_law : FnScope ["script", "draws", "many", "row", "needs", "turn", "bad", "handed", "way", "thing"] ["script"] (defScope s_law) := ⟨rfl, rfl, rfl, by decide +kernel, rfl, by decide +kernel, by decide +kernel⟩
/-- where the defs and classes stand -/
structure Adr where
  f__law_take : Addr
  d__law_take : FuncData
  f__law_bad : Addr
  d__law_bad : FuncData
  f__law_deep : Addr
  d__law_deep : FuncData
  f__law_draws : Addr
  d__law_draws : FuncData
  f__law_number : Addr
  d__law_number : FuncData
  f__law_needs : Addr
  d__law_needs : FuncData
  f_is_whole : Addr
  d_is_whole : FuncData
  f_times_needed : Addr
  d_times_needed : FuncData
  f_ends_holding : Addr
  d_ends_holding : FuncData
  f_tight_holding : Addr
  d_tight_holding : FuncData
  f_shortest_holding : Addr
  d_shortest_holding : FuncData
  f__law_refused : Addr
  d__law_refused : FuncData
  f__law_row : Addr
  d__law_row : FuncData
  f_law : Addr
  d_law : FuncData
  c_NoNeeds : Addr
  c_RowError : Addr
  c_NoCommand : Addr
  c_NoPlace : Addr
  c_NoRow : Addr
  c_NoTable : Addr
  c_NoWindow : Addr
structure Txt (K : PySem.W.Frag) (mg : Str → Option Value) (A : Adr) : Prop where
  F__law_take : Fun K "_law_take" "_law_take" s__law_take A.f__law_take A.d__law_take
  b__law_take : Binds K A.d__law_take ["draws", "many"] []
  g__law_take : mg "_law_take" = some (.ref A.f__law_take)
  F__law_bad : Fun K "_law_bad" "_law_bad" s__law_bad A.f__law_bad A.d__law_bad
  b__law_bad : Binds K A.d__law_bad ["draws", "needs"] []
  g__law_bad : mg "_law_bad" = some (.ref A.f__law_bad)
  F__law_deep : Fun K "_law_deep" "_law_deep" s__law_deep A.f__law_deep A.d__law_deep
  b__law_deep : Binds K A.d__law_deep ["many"] []
  g__law_deep : mg "_law_deep" = some (.ref A.f__law_deep)
  F__law_draws : Fun K "_law_draws" "_law_draws" s__law_draws A.f__law_draws A.d__law_draws
  b__law_draws : Binds K A.d__law_draws ["script"] []
  g__law_draws : mg "_law_draws" = some (.ref A.f__law_draws)
  F__law_number : Fun K "_law_number" "_law_number" s__law_number A.f__law_number A.d__law_number
  b__law_number : Binds K A.d__law_number ["kind", "k"] []
  g__law_number : mg "_law_number" = some (.ref A.f__law_number)
  F__law_needs : Fun K "_law_needs" "_law_needs" s__law_needs A.f__law_needs A.d__law_needs
  b__law_needs : Binds K A.d__law_needs ["draws", "row"] []
  g__law_needs : mg "_law_needs" = some (.ref A.f__law_needs)
  F_is_whole : Fun K "is_whole" "is_whole" s_is_whole A.f_is_whole A.d_is_whole
  b_is_whole : Binds K A.d_is_whole ["thing"] []
  g_is_whole : mg "is_whole" = some (.ref A.f_is_whole)
  F_times_needed : Fun K "times_needed" "times_needed" s_times_needed A.f_times_needed A.d_times_needed
  b_times_needed : Binds K A.d_times_needed ["needs"] []
  g_times_needed : mg "times_needed" = some (.ref A.f_times_needed)
  F_ends_holding : Fun K "ends_holding" "ends_holding" s_ends_holding A.f_ends_holding A.d_ends_holding
  b_ends_holding : Binds K A.d_ends_holding ["row", "needs"] []
  g_ends_holding : mg "ends_holding" = some (.ref A.f_ends_holding)
  F_tight_holding : Fun K "tight_holding" "tight_holding" s_tight_holding A.f_tight_holding A.d_tight_holding
  b_tight_holding : Binds K A.d_tight_holding ["row", "needs"] []
  g_tight_holding : mg "tight_holding" = some (.ref A.f_tight_holding)
  F_shortest_holding : Fun K "shortest_holding" "shortest_holding" s_shortest_holding A.f_shortest_holding A.d_shortest_holding
  b_shortest_holding : Binds K A.d_shortest_holding ["row", "needs"] []
  g_shortest_holding : mg "shortest_holding" = some (.ref A.f_shortest_holding)
  F__law_refused : Fun K "_law_refused" "_law_refused" s__law_refused A.f__law_refused A.d__law_refused
  b__law_refused : Binds K A.d__law_refused ["way", "row", "needs"] []
  g__law_refused : mg "_law_refused" = some (.ref A.f__law_refused)
  F__law_row : Fun K "_law_row" "_law_row" s__law_row A.f__law_row A.d__law_row
  b__law_row : Binds K A.d__law_row ["draws", "most"] []
  g__law_row : mg "_law_row" = some (.ref A.f__law_row)
  F_law : Fun K "law" "law" s_law A.f_law A.d_law
  b_law : Binds K A.d_law ["script"] []
  g_law : mg "law" = some (.ref A.f_law)
  g_NoNeeds : mg "NoNeeds" = some (.ref A.c_NoNeeds)
  g_RowError : mg "RowError" = some (.ref A.c_RowError)
  g_NoCommand : mg "NoCommand" = some (.ref A.c_NoCommand)
  g_NoPlace : mg "NoPlace" = some (.ref A.c_NoPlace)
  g_NoRow : mg "NoRow" = some (.ref A.c_NoRow)
  g_NoTable : mg "NoTable" = some (.ref A.c_NoTable)
  g_NoWindow : mg "NoWindow" = some (.ref A.c_NoWindow)
  m_ValueError : mg "ValueError" = none
  m_abs : mg "abs" = none
  m_bool : mg "bool" = none
  m_enumerate : mg "enumerate" = none
  m_int : mg "int" = none
  m_isinstance : mg "isinstance" = none
  m_len : mg "len" = none
  m_list : mg "list" = none
  m_max : mg "max" = none
  m_min : mg "min" = none
  m_range : mg "range" = none
  m_sum : mg "sum" = none
  m_tuple : mg "tuple" = none
  x_NoNeeds : PySem.W.excIn K A.c_NoNeeds [.type "ValueError", .type "Exception", .type "BaseException", .type "object"] "ValueError.__new__" = true
  k_NoNeeds : PySem.W.keepIn K (.ref A.c_NoNeeds) = true
  b_NoNeeds : PySem.W.subIn K (.ref A.c_NoNeeds) (.type "BaseException") = some true
  t_NoNeeds : PySem.W.typeIn K (.ref A.c_NoNeeds) = some (.type "type")
  h_NoNeeds : PySem.W.hasDictIn K A.c_NoNeeds = true
  b_RowError : PySem.W.subIn K (.ref A.c_RowError) (.type "BaseException") = some true
  t_RowError : PySem.W.typeIn K (.ref A.c_RowError) = some (.type "type")
  h_RowError : PySem.W.hasDictIn K A.c_RowError = true
  s_NoNeeds_RowError : PySem.W.subIn K (.ref A.c_NoNeeds) (.ref A.c_RowError) = some true
  q_NoNeeds_NoNeeds : PySem.W.kitOne K (.ref A.c_NoNeeds) (.ref A.c_NoNeeds) = some true
  q_NoNeeds_ValueError : PySem.W.kitOne K (.ref A.c_NoNeeds) (.type "ValueError") = some true
  q_NoNeeds_NoCommand : PySem.W.kitOne K (.ref A.c_NoNeeds) (.ref A.c_NoCommand) = some false
  q_NoNeeds_NoPlace : PySem.W.kitOne K (.ref A.c_NoNeeds) (.ref A.c_NoPlace) = some false
  q_NoNeeds_NoRow : PySem.W.kitOne K (.ref A.c_NoNeeds) (.ref A.c_NoRow) = some false
  q_NoNeeds_NoTable : PySem.W.kitOne K (.ref A.c_NoNeeds) (.ref A.c_NoTable) = some false
  q_NoNeeds_NoWindow : PySem.W.kitOne K (.ref A.c_NoNeeds) (.ref A.c_NoWindow) = some false
  Ehg_NoNeeds : PySem.W.findIn K (.ref A.c_NoNeeds) "__getattribute__" = some (some (.builtin "BaseException.__getattribute__"))
  Ehk_NoNeeds : PySem.W.findIn K (.ref A.c_NoNeeds) "__getattr__" = some none
  Eha_NoNeeds : PySem.W.findIn K (.ref A.c_NoNeeds) "__class__" = some (some (.builtin "object.__class__"))
  Ehm_NoNeeds : PySem.W.mroIn K A.c_NoNeeds (.type "object") = some true
  Ehn : PySem.W.specialIn K (.builtin "object.__class__") "__get__" = some (some (.builtin "getset_descriptor.__get__"))
  Eht : PySem.W.takesIn K (.builtin "object.__class__") = some true
variable {K : PySem.W.Frag} {mg : Str → Option Value} {A : Adr}
theorem Txt.m_NoNeeds_RowError (T : Txt K mg A) : PySem.W.exmOne K (.ref A.c_NoNeeds) (.ref A.c_RowError) = some true := PySem.W.exm_ref T.b_RowError T.h_RowError T.t_RowError T.s_NoNeeds_RowError
theorem Txt.E_NoNeeds (T : Txt K mg A) : ExcC K A.c_NoNeeds := ⟨T.Ehg_NoNeeds, T.Ehk_NoNeeds, T.b_NoNeeds, T.h_NoNeeds, T.Eha_NoNeeds, T.Ehn, T.Eht, T.Ehm_NoNeeds⟩
end Ur
namespace Ur
open PySem L2
/-- the next draw, below many, or 0 -/
def sp__law_take (K : PySem.W.Frag) : Sp := fun vs H Q _ => ∃ (a : Addr) (ns : List Int) (m : Int), vs = [.ref a, .int m] ∧ H a = some (.lst (ns.map V.int)) ∧ 0 < m ∧ ∀ (n : Int) (ms : List Int) H', 0 ≤ n → n < m → H' a = some (.lst (ms.map V.int)) → But a H H' → Q (.int n) H'
section
variable {P : Program} {w : World} {K : PySem.W.Frag} {mg : Str → Option Value} {base : Heap} {A : Adr}
theorem ok__law_take (T : Txt K mg A) : FnOk P w K mg base CX0 1 A.f__law_take A.d__law_take ["draws", "many"] (sp__law_take K) := by
  refine T.F__law_take.ok sc__law_take (fun vs H Q E h => ?_) (fun cdv Ar outer s H vs Q E hr h => ?_)
  · obtain ⟨a, ns, m, rfl, _⟩ := h
    rfl
  · obtain ⟨a, ns, m, rfl, ha, hm, q⟩ := h
    refine ⟨_, (pss_cons (ps_if (pt_cmpR (Ur.op_eqDK (K := K) rfl hr.units) (pv 0) (pe_lst pa_nil) (nomark _)) (pss_one (ps_ret pe_int)) pss_nil)
    (pss_one (ps_ret (pe_op op_mod (pe_bm PySem.F.plainAttrs_list PySem.F.slot_list_pop PySem.F.type_list_pop mt_popAt (pv 0) (pa_cons pe_int pa_nil)) (pv 1))))), ?_⟩
    tb_start
    intro p np
    have hap : a ≠ p := by kcj_m
    tb_start
    refine br (fun hq => ?_) (fun hq => ?_)
    · tb_start
      exact q 0 ns _ (by omega) hm (by kct_strs) (by cc_are)
    · have hpos : 0 < ns.length := by
        cases ns with
        | nil => exact absurd rfl hq
        | cons y ns => exact Nat.succ_pos _
      have hp1 := pop_at (fs := ns) (i := 0) (by omega) (by omega)
      have hp2 := pop_get (fs := ns) (k := (0 : Int).toNat) hpos
      tb_start
      exact q _ (ns.eraseIdx (0 : Int).toNat) _ (Int.emod_nonneg _ (by omega)) (Int.emod_lt_of_pos _ hm) (lst_cast (by kct_strs) (erase_map _ _)) (by cc_are)
end
end Ur
namespace Ur
open PySem L2
/-- needs with one thing that is none -/
def sp__law_bad (K : PySem.W.Frag) : Sp := fun vs H Q _ => ∃ (a c : Addr) (ds : List Int) (ls : List Addr) (ps : List (Int × Int)), vs = [.ref a, .ref c] ∧ H a = some (.lst (ds.map V.int)) ∧ H c = some (.lst (ls.map V.ref)) ∧ a ≠ c ∧ (∀ l ∈ ls, l ≠ a) ∧ PairsF H ls ps ∧ NeedsOk ps ∧ ps.length ≤ 300 ∧ ∀ p xs (ms : List Int) H', H' p = some (.lst xs) → H' a = some (.lst (ms.map V.int)) → BadNs H' (.ref p) → xs.length ≤ 400 → (∀ x ∈ xs, flatV x = true ∨ ∃ q, x = .ref q) → But a H H' → H p = none → Q (.ref p) H'
section
variable {P : Program} {w : World} {K : PySem.W.Frag} {mg : Str → Option Value} {base : Heap} {A : Adr}
theorem ok__law_bad (T : Txt K mg A) : FnOk P w K mg base CX0 2 A.f__law_bad A.d__law_bad ["draws", "needs"] (sp__law_bad K) := by
  have G__law_take := ok__law_take (P := P) (w := w) (base := base) T
  refine T.F__law_bad.ok sc__law_bad (fun vs H Q E h => ?_) (fun cdv Ar outer s H vs Q E hr h => ?_)
  · obtain ⟨a, c, ds, ls, ps, rfl, _⟩ := h
    rfl
  · obtain ⟨a, c, ds, ls, ps, rfl, ha, hc, hac, hla, r, ok, hl, q⟩ := h
    refine ⟨_, (pss_cons (ps_set (i := 2) sc__law_bad.nd rfl (Or.inl rfl) (pe_op op_add (pe_op op_pow pe_int pe_int) (pe_call G__law_take (hr.mono (by decide)) (by rfl) T.g__law_take T.F__law_take.kp T.b__law_take .nil pass0 (pa_cons (pv 0) (pa_cons pe_int pa_nil)))))
    (pss_cons (ps_set (i := 3) sc__law_bad.nd rfl (Or.inl rfl) (pe_lst (pa_cons pe_non (pa_cons pe_int (pa_cons pe_str (pa_cons (pe_lst (pa_cons pe_int (pa_cons pe_int pa_nil))) (pa_cons (pe_tup (pa_cons pe_int pa_nil)) (pa_cons (pe_tup (pa_cons pe_int (pa_cons pe_int (pa_cons pe_int pa_nil)))) (pa_cons (pe_tup pa_nil) (pa_cons (pe_tup (pa_cons pe_bl (pa_cons pe_int pa_nil))) (pa_cons (pe_tup (pa_cons pe_bl (pa_cons pe_int pa_nil))) (pa_cons (pe_tup (pa_cons pe_str (pa_cons pe_int pa_nil))) (pa_cons (pe_tup (pa_cons pe_non (pa_cons pe_int pa_nil))) (pa_cons (pe_tup (pa_cons (pe_tup (pa_cons pe_int pa_nil)) (pa_cons pe_int pa_nil))) pa_nil))))))))))))))
    (pss_cons (ps_set (i := 3) sc__law_bad.nd rfl (Or.inl rfl) (pe_op op_cat (pv 3) (pe_lst (pa_cons (pe_tup (pa_cons (pv 2) (pa_cons pe_int pa_nil))) (pa_cons (pe_tup (pa_cons (pv 2) (pa_cons (pe_un un_neg pe_int) pa_nil))) (pa_cons (pe_tup (pa_cons (pv 2) (pa_cons (pe_op op_sub pe_int (pv 2)) pa_nil))) (pa_cons (pe_tup (pa_cons (pv 2) (pa_cons pe_bl pa_nil))) (pa_cons (pe_tup (pa_cons (pv 2) (pa_cons pe_str pa_nil))) (pa_cons (pe_tup (pa_cons (pv 2) (pa_cons pe_non pa_nil))) (pa_cons (pe_tup (pa_cons (pv 2) (pa_cons (pe_lst (pa_cons pe_int pa_nil)) pa_nil))) (pa_cons pe_dnewK pa_nil)))))))))))
    (pss_cons (ps_set (i := 3) sc__law_bad.nd rfl (Or.inl rfl) (pe_op op_cat (pv 3) (pe_lst (pa_cons (pe_disp (pps_cons pe_int pe_int pps_nil) rfl rfl (by simp) (by decide)) (pa_cons (pe_tup (pa_cons (pe_lst (pa_cons pe_int pa_nil)) (pa_cons pe_int pa_nil))) (pa_cons (pe_tup (pa_cons (pv 2) (pa_cons (pe_tup (pa_cons pe_int pa_nil)) pa_nil))) (pa_cons (pe_tup (pa_cons pe_bl (pa_cons pe_bl pa_nil))) pa_nil)))))))
    (pss_cons (ps_set (i := 4) sc__law_bad.nd rfl (Or.inl rfl) (pe_call G__law_take (hr.mono (by decide)) (by rfl) T.g__law_take T.F__law_take.kp T.b__law_take .nil pass0 (pa_cons (pv 0) (pa_cons (pe_op op_add (Ur.pe_b1 (Ur.call_lenIK (K := K) rfl) (by rfl) T.m_len (by decide +kernel) (pv 1)) pe_int) pa_nil))))
    (pss_cons (ps_set (i := 5) sc__law_bad.nd rfl (Or.inl rfl) (pe_ix (Ur.ix_listK (K := K) rfl) (pv 3) (pe_call G__law_take (hr.mono (by decide)) (by rfl) T.g__law_take T.F__law_take.kp T.b__law_take .nil pass0 (pa_cons (pv 0) (pa_cons (Ur.pe_b1 (Ur.call_lenIK (K := K) rfl) (by rfl) T.m_len (by decide +kernel) (pv 3)) pa_nil))) (fun _ _ => rfl)))
    (Evl.pss_cut (ps_if (PW.pt (pw_and (pt_cmpR (Ur.op_neDK (K := K) rfl hr.units) (pv 1) (pe_lst pa_nil) (nomark _)) (pw_and1 (pt_cmpR op_eq (pe_call G__law_take (hr.mono (by decide)) (by rfl) T.g__law_take T.F__law_take.kp T.b__law_take .nil pass0 (pa_cons (pv 0) (pa_cons pe_int pa_nil))) pe_int (nomark _))))) (pss_one (ps_set (i := 5) sc__law_bad.nd rfl (Or.inl rfl) (pe_tup (pa_cons (pe_ix (Ur.ix_tupK (K := K) rfl) (pe_ix (Ur.ix_listK (K := K) rfl) (pv 1) pe_int (fun _ _ => rfl)) pe_int (fun _ _ => rfl)) (pa_cons (pe_op op_add (pe_ix (Ur.ix_tupK (K := K) rfl) (pe_ix (Ur.ix_listK (K := K) rfl) (pv 1) pe_int (fun _ _ => rfl)) pe_int (fun _ _ => rfl)) (pe_call G__law_take (hr.mono (by decide)) (by rfl) T.g__law_take T.F__law_take.kp T.b__law_take .nil pass0 (pa_cons (pv 0) (pa_cons pe_int pa_nil)))) pa_nil))))) pss_nil)
    (pss_one (ps_ret (pe_op op_cat (pe_op op_cat (pe_slice (Ur.sl_listK (K := K) rfl) (pv 1) po_none (po_some (pv 4))) (pe_lst (pa_cons (pv 5) pa_nil))) (pe_slice (Ur.sl_listK (K := K) rfl) (pv 1) (po_some (pv 4)) po_none))))))))))), ?_⟩
    tb_start
    intro x1 m1 H1 h10 h11 a1 b1
    have ec := b1 _ _ (Ne.symm hac) hc
    have r1 : PairsF H1 ls ps := ⟨r.len, fun k p h => b1 _ _ (hla p (List.mem_of_getElem? h)) (r.row k p h)⟩
    have g20 : (10 : Int) ^ (20 : Int).toNat = 100000000000000000000 := by decide
    tb_start
    intro A1 nA1
    have fA1 : H A1 = none := but_free nA1 b1 a1
    have mA1 : A1 ≠ a := fun z => by rw [z, ha] at fA1; cases fA1
    generalize hX : (upd _ A1 _) = HW0
    have sw : Same H1 HW0 := by rw [← hX]; exact same_new nA1
    have eA1 : HW0 A1 = some (.lst [V.int 3, V.int 1]) := by rw [← hX]; exact upd_same
    replace ec := sw _ _ ec
    have bw0 := but_step' sw b1
    have aw0 := sw _ _ a1
    have rw0 := ObjsF.same r1 sw
    clear hX sw nA1 b1 a1 r1
    have xA1 : BadA a HW0 [] (.ref A1) := bada_lst eA1 mA1
    clear eA1
    tb_start
    intro A2 nA2
    have fA2 : H A2 = none := but_free nA2 bw0 aw0
    have mA2 : A2 ≠ a := fun z => by rw [z, ha] at fA2; cases fA2
    generalize hX : (upd _ A2 _) = HW1
    have sw : Same HW0 HW1 := by rw [← hX]; exact same_new nA2
    have eA2 : HW1 A2 = some (.tup [V.int 3]) := by rw [← hX]; exact upd_same
    replace ec := sw _ _ ec
    replace xA1 := xA1.same sw
    have bw1 := but_step' sw bw0
    have aw1 := sw _ _ aw0
    have rw1 := ObjsF.same rw0 sw
    clear hX sw nA2 bw0 aw0 rw0
    have xA2 : BadA a HW1 [] (.ref A2) := bada_len eA2 mA2 (by simp) (by simp)
    clear eA2
    tb_start
    intro A3 nA3
    have fA3 : H A3 = none := but_free nA3 bw1 aw1
    have mA3 : A3 ≠ a := fun z => by rw [z, ha] at fA3; cases fA3
    generalize hX : (upd _ A3 _) = HW2
    have sw : Same HW1 HW2 := by rw [← hX]; exact same_new nA3
    have eA3 : HW2 A3 = some (.tup [V.int 3, V.int 1, V.int 1]) := by rw [← hX]; exact upd_same
    replace ec := sw _ _ ec
    replace xA1 := xA1.same sw
    replace xA2 := xA2.same sw
    have bw2 := but_step' sw bw1
    have aw2 := sw _ _ aw1
    have rw2 := ObjsF.same rw1 sw
    clear hX sw nA3 bw1 aw1 rw1
    have xA3 : BadA a HW2 [] (.ref A3) := bada_len eA3 mA3 (by simp) (by simp)
    clear eA3
    tb_start
    intro A4 nA4
    have fA4 : H A4 = none := but_free nA4 bw2 aw2
    have mA4 : A4 ≠ a := fun z => by rw [z, ha] at fA4; cases fA4
    generalize hX : (upd _ A4 _) = HW3
    have sw : Same HW2 HW3 := by rw [← hX]; exact same_new nA4
    have eA4 : HW3 A4 = some (.tup []) := by rw [← hX]; exact upd_same
    replace ec := sw _ _ ec
    replace xA1 := xA1.same sw
    replace xA2 := xA2.same sw
    replace xA3 := xA3.same sw
    have bw3 := but_step' sw bw2
    have aw3 := sw _ _ aw2
    have rw3 := ObjsF.same rw2 sw
    clear hX sw nA4 bw2 aw2 rw2
    have xA4 : BadA a HW3 [] (.ref A4) := bada_len eA4 mA4 (by simp) (by simp)
    clear eA4
    tb_start
    intro A5 nA5
    have fA5 : H A5 = none := but_free nA5 bw3 aw3
    have mA5 : A5 ≠ a := fun z => by rw [z, ha] at fA5; cases fA5
    generalize hX : (upd _ A5 _) = HW4
    have sw : Same HW3 HW4 := by rw [← hX]; exact same_new nA5
    have eA5 : HW4 A5 = some (.tup [V.bl true, V.int 1]) := by rw [← hX]; exact upd_same
    replace ec := sw _ _ ec
    replace xA1 := xA1.same sw
    replace xA2 := xA2.same sw
    replace xA3 := xA3.same sw
    replace xA4 := xA4.same sw
    have bw4 := but_step' sw bw3
    have aw4 := sw _ _ aw3
    have rw4 := ObjsF.same rw3 sw
    clear hX sw nA5 bw3 aw3 rw3
    have xA5 : BadA a HW4 [] (.ref A5) := bada_two eA5 mA5 .bl (fun z => nomatch z) .int (fun z => nomatch z) (fun _ _ z => (nomatch z))
    clear eA5
    tb_start
    intro A6 nA6
    have fA6 : H A6 = none := but_free nA6 bw4 aw4
    have mA6 : A6 ≠ a := fun z => by rw [z, ha] at fA6; cases fA6
    generalize hX : (upd _ A6 _) = HW5
    have sw : Same HW4 HW5 := by rw [← hX]; exact same_new nA6
    have eA6 : HW5 A6 = some (.tup [V.bl false, V.int 1]) := by rw [← hX]; exact upd_same
    replace ec := sw _ _ ec
    replace xA1 := xA1.same sw
    replace xA2 := xA2.same sw
    replace xA3 := xA3.same sw
    replace xA4 := xA4.same sw
    replace xA5 := xA5.same sw
    have bw5 := but_step' sw bw4
    have aw5 := sw _ _ aw4
    have rw5 := ObjsF.same rw4 sw
    clear hX sw nA6 bw4 aw4 rw4
    have xA6 : BadA a HW5 [] (.ref A6) := bada_two eA6 mA6 .bl (fun z => nomatch z) .int (fun z => nomatch z) (fun _ _ z => (nomatch z))
    clear eA6
    tb_start
    intro A7 nA7
    have fA7 : H A7 = none := but_free nA7 bw5 aw5
    have mA7 : A7 ≠ a := fun z => by rw [z, ha] at fA7; cases fA7
    generalize hX : (upd _ A7 _) = HW6
    have sw : Same HW5 HW6 := by rw [← hX]; exact same_new nA7
    have eA7 : HW6 A7 = some (.tup [V.str (Str.ofString "3"), V.int 1]) := by rw [← hX]; exact upd_same
    replace ec := sw _ _ ec
    replace xA1 := xA1.same sw
    replace xA2 := xA2.same sw
    replace xA3 := xA3.same sw
    replace xA4 := xA4.same sw
    replace xA5 := xA5.same sw
    replace xA6 := xA6.same sw
    have bw6 := but_step' sw bw5
    have aw6 := sw _ _ aw5
    have rw6 := ObjsF.same rw5 sw
    clear hX sw nA7 bw5 aw5 rw5
    have xA7 : BadA a HW6 [] (.ref A7) := bada_two eA7 mA7 .str (fun z => nomatch z) .int (fun z => nomatch z) (fun _ _ z => (nomatch z))
    clear eA7
    tb_start
    intro A8 nA8
    have fA8 : H A8 = none := but_free nA8 bw6 aw6
    have mA8 : A8 ≠ a := fun z => by rw [z, ha] at fA8; cases fA8
    generalize hX : (upd _ A8 _) = HW7
    have sw : Same HW6 HW7 := by rw [← hX]; exact same_new nA8
    have eA8 : HW7 A8 = some (.tup [V.non, V.int 1]) := by rw [← hX]; exact upd_same
    replace ec := sw _ _ ec
    replace xA1 := xA1.same sw
    replace xA2 := xA2.same sw
    replace xA3 := xA3.same sw
    replace xA4 := xA4.same sw
    replace xA5 := xA5.same sw
    replace xA6 := xA6.same sw
    replace xA7 := xA7.same sw
    have bw7 := but_step' sw bw6
    have aw7 := sw _ _ aw6
    have rw7 := ObjsF.same rw6 sw
    clear hX sw nA8 bw6 aw6 rw6
    have xA8 : BadA a HW7 [] (.ref A8) := bada_two eA8 mA8 .non (fun z => nomatch z) .int (fun z => nomatch z) (fun _ _ z => (nomatch z))
    clear eA8
    tb_start
    intro A9 nA9
    have fA9 : H A9 = none := but_free nA9 bw7 aw7
    have mA9 : A9 ≠ a := fun z => by rw [z, ha] at fA9; cases fA9
    generalize hX : (upd _ A9 _) = HW8
    have sw : Same HW7 HW8 := by rw [← hX]; exact same_new nA9
    have eA9 : HW8 A9 = some (.tup [V.int 3]) := by rw [← hX]; exact upd_same
    replace ec := sw _ _ ec
    replace xA1 := xA1.same sw
    replace xA2 := xA2.same sw
    replace xA3 := xA3.same sw
    replace xA4 := xA4.same sw
    replace xA5 := xA5.same sw
    replace xA6 := xA6.same sw
    replace xA7 := xA7.same sw
    replace xA8 := xA8.same sw
    have bw8 := but_step' sw bw7
    have aw8 := sw _ _ aw7
    have rw8 := ObjsF.same rw7 sw
    clear hX sw nA9 bw7 aw7 rw7
    tb_start
    intro A10 nA10
    have fA10 : H A10 = none := but_free nA10 bw8 aw8
    have mA10 : A10 ≠ a := fun z => by rw [z, ha] at fA10; cases fA10
    generalize hX : (upd _ A10 _) = HW9
    have sw : Same HW8 HW9 := by rw [← hX]; exact same_new nA10
    have eA10 : HW9 A10 = some (.tup [V.ref A9, V.int 1]) := by rw [← hX]; exact upd_same
    replace ec := sw _ _ ec
    replace eA9 := sw _ _ eA9
    replace xA1 := xA1.same sw
    replace xA2 := xA2.same sw
    replace xA3 := xA3.same sw
    replace xA4 := xA4.same sw
    replace xA5 := xA5.same sw
    replace xA6 := xA6.same sw
    replace xA7 := xA7.same sw
    replace xA8 := xA8.same sw
    have bw9 := but_step' sw bw8
    have aw9 := sw _ _ aw8
    have rw9 := ObjsF.same rw8 sw
    clear hX sw nA10 bw8 aw8 rw8
    have xA10 : BadA a HW9 [] (.ref A10) := bada_two eA10 mA10 (.tup eA9) (fun z => mA9 (by injection z)) .int (fun z => nomatch z) (fun _ _ z => (nomatch z))
    clear eA10
    clear eA9
    tb_start
    intro S1 nS1
    have fS1 : H S1 = none := but_free nS1 bw9 aw9
    have mS1 : S1 ≠ a := fun z => by rw [z, ha] at fS1; cases fS1
    generalize hX : (upd _ S1 _) = HW10
    have sw : Same HW9 HW10 := by rw [← hX]; exact same_new nS1
    have eS1 : HW10 S1 = some (.lst [V.non, V.int 3, V.str (Str.ofString "3 1"), V.ref A1, V.ref A2, V.ref A3, V.ref A4, V.ref A5, V.ref A6, V.ref A7, V.ref A8, V.ref A10]) := by rw [← hX]; exact upd_same
    replace ec := sw _ _ ec
    replace xA1 := xA1.same sw
    replace xA2 := xA2.same sw
    replace xA3 := xA3.same sw
    replace xA4 := xA4.same sw
    replace xA5 := xA5.same sw
    replace xA6 := xA6.same sw
    replace xA7 := xA7.same sw
    replace xA8 := xA8.same sw
    replace xA10 := xA10.same sw
    have bw10 := but_step' sw bw9
    have aw10 := sw _ _ aw9
    have rw10 := ObjsF.same rw9 sw
    clear hX sw nS1 bw9 aw9 rw9
    tb_start
    intro B1 nB1
    have fB1 : H B1 = none := but_free nB1 bw10 aw10
    have mB1 : B1 ≠ a := fun z => by rw [z, ha] at fB1; cases fB1
    generalize hX : (upd _ B1 _) = HW11
    have sw : Same HW10 HW11 := by rw [← hX]; exact same_new nB1
    have eB1 : HW11 B1 = some (.tup [V.int (10 ^ (20 : Int).toNat + x1), V.int 0]) := by rw [← hX]; exact upd_same
    replace ec := sw _ _ ec
    replace eS1 := sw _ _ eS1
    replace xA1 := xA1.same sw
    replace xA2 := xA2.same sw
    replace xA3 := xA3.same sw
    replace xA4 := xA4.same sw
    replace xA5 := xA5.same sw
    replace xA6 := xA6.same sw
    replace xA7 := xA7.same sw
    replace xA8 := xA8.same sw
    replace xA10 := xA10.same sw
    have bw11 := but_step' sw bw10
    have aw11 := sw _ _ aw10
    have rw11 := ObjsF.same rw10 sw
    clear hX sw nB1 bw10 aw10 rw10
    have xB1 : BadA a HW11 [] (.ref B1) := bada_two eB1 mB1 .int (fun z => nomatch z) .int (fun z => nomatch z) (fun _ _ _ z => by cases z; omega)
    clear eB1
    tb_start
    intro B2 nB2
    have fB2 : H B2 = none := but_free nB2 bw11 aw11
    have mB2 : B2 ≠ a := fun z => by rw [z, ha] at fB2; cases fB2
    generalize hX : (upd _ B2 _) = HW12
    have sw : Same HW11 HW12 := by rw [← hX]; exact same_new nB2
    have eB2 : HW12 B2 = some (.tup [V.int (10 ^ (20 : Int).toNat + x1), V.int (-1)]) := by rw [← hX]; exact upd_same
    replace ec := sw _ _ ec
    replace eS1 := sw _ _ eS1
    replace xA1 := xA1.same sw
    replace xA2 := xA2.same sw
    replace xA3 := xA3.same sw
    replace xA4 := xA4.same sw
    replace xA5 := xA5.same sw
    replace xA6 := xA6.same sw
    replace xA7 := xA7.same sw
    replace xA8 := xA8.same sw
    replace xA10 := xA10.same sw
    replace xB1 := xB1.same sw
    have bw12 := but_step' sw bw11
    have aw12 := sw _ _ aw11
    have rw12 := ObjsF.same rw11 sw
    clear hX sw nB2 bw11 aw11 rw11
    have xB2 : BadA a HW12 [] (.ref B2) := bada_two eB2 mB2 .int (fun z => nomatch z) .int (fun z => nomatch z) (fun _ _ _ z => by cases z; omega)
    clear eB2
    tb_start
    intro B3 nB3
    have fB3 : H B3 = none := but_free nB3 bw12 aw12
    have mB3 : B3 ≠ a := fun z => by rw [z, ha] at fB3; cases fB3
    generalize hX : (upd _ B3 _) = HW13
    have sw : Same HW12 HW13 := by rw [← hX]; exact same_new nB3
    have eB3 : HW13 B3 = some (.tup [V.int (10 ^ (20 : Int).toNat + x1), V.int (0 - (10 ^ (20 : Int).toNat + x1))]) := by rw [← hX]; exact upd_same
    replace ec := sw _ _ ec
    replace eS1 := sw _ _ eS1
    replace xA1 := xA1.same sw
    replace xA2 := xA2.same sw
    replace xA3 := xA3.same sw
    replace xA4 := xA4.same sw
    replace xA5 := xA5.same sw
    replace xA6 := xA6.same sw
    replace xA7 := xA7.same sw
    replace xA8 := xA8.same sw
    replace xA10 := xA10.same sw
    replace xB1 := xB1.same sw
    replace xB2 := xB2.same sw
    have bw13 := but_step' sw bw12
    have aw13 := sw _ _ aw12
    have rw13 := ObjsF.same rw12 sw
    clear hX sw nB3 bw12 aw12 rw12
    have xB3 : BadA a HW13 [] (.ref B3) := bada_two eB3 mB3 .int (fun z => nomatch z) .int (fun z => nomatch z) (fun _ _ _ z => by cases z; rw [g20]; omega)
    clear eB3
    tb_start
    intro B4 nB4
    have fB4 : H B4 = none := but_free nB4 bw13 aw13
    have mB4 : B4 ≠ a := fun z => by rw [z, ha] at fB4; cases fB4
    generalize hX : (upd _ B4 _) = HW14
    have sw : Same HW13 HW14 := by rw [← hX]; exact same_new nB4
    have eB4 : HW14 B4 = some (.tup [V.int (10 ^ (20 : Int).toNat + x1), V.bl true]) := by rw [← hX]; exact upd_same
    replace ec := sw _ _ ec
    replace eS1 := sw _ _ eS1
    replace xA1 := xA1.same sw
    replace xA2 := xA2.same sw
    replace xA3 := xA3.same sw
    replace xA4 := xA4.same sw
    replace xA5 := xA5.same sw
    replace xA6 := xA6.same sw
    replace xA7 := xA7.same sw
    replace xA8 := xA8.same sw
    replace xA10 := xA10.same sw
    replace xB1 := xB1.same sw
    replace xB2 := xB2.same sw
    replace xB3 := xB3.same sw
    have bw14 := but_step' sw bw13
    have aw14 := sw _ _ aw13
    have rw14 := ObjsF.same rw13 sw
    clear hX sw nB4 bw13 aw13 rw13
    have xB4 : BadA a HW14 [] (.ref B4) := bada_two eB4 mB4 .int (fun z => nomatch z) .bl (fun z => nomatch z) (fun _ _ _ z => (nomatch z))
    clear eB4
    tb_start
    intro B5 nB5
    have fB5 : H B5 = none := but_free nB5 bw14 aw14
    have mB5 : B5 ≠ a := fun z => by rw [z, ha] at fB5; cases fB5
    generalize hX : (upd _ B5 _) = HW15
    have sw : Same HW14 HW15 := by rw [← hX]; exact same_new nB5
    have eB5 : HW15 B5 = some (.tup [V.int (10 ^ (20 : Int).toNat + x1), V.str (Str.ofString "1")]) := by rw [← hX]; exact upd_same
    replace ec := sw _ _ ec
    replace eS1 := sw _ _ eS1
    replace xA1 := xA1.same sw
    replace xA2 := xA2.same sw
    replace xA3 := xA3.same sw
    replace xA4 := xA4.same sw
    replace xA5 := xA5.same sw
    replace xA6 := xA6.same sw
    replace xA7 := xA7.same sw
    replace xA8 := xA8.same sw
    replace xA10 := xA10.same sw
    replace xB1 := xB1.same sw
    replace xB2 := xB2.same sw
    replace xB3 := xB3.same sw
    replace xB4 := xB4.same sw
    have bw15 := but_step' sw bw14
    have aw15 := sw _ _ aw14
    have rw15 := ObjsF.same rw14 sw
    clear hX sw nB5 bw14 aw14 rw14
    have xB5 : BadA a HW15 [] (.ref B5) := bada_two eB5 mB5 .int (fun z => nomatch z) .str (fun z => nomatch z) (fun _ _ _ z => (nomatch z))
    clear eB5
    tb_start
    intro B6 nB6
    have fB6 : H B6 = none := but_free nB6 bw15 aw15
    have mB6 : B6 ≠ a := fun z => by rw [z, ha] at fB6; cases fB6
    generalize hX : (upd _ B6 _) = HW16
    have sw : Same HW15 HW16 := by rw [← hX]; exact same_new nB6
    have eB6 : HW16 B6 = some (.tup [V.int (10 ^ (20 : Int).toNat + x1), V.non]) := by rw [← hX]; exact upd_same
    replace ec := sw _ _ ec
    replace eS1 := sw _ _ eS1
    replace xA1 := xA1.same sw
    replace xA2 := xA2.same sw
    replace xA3 := xA3.same sw
    replace xA4 := xA4.same sw
    replace xA5 := xA5.same sw
    replace xA6 := xA6.same sw
    replace xA7 := xA7.same sw
    replace xA8 := xA8.same sw
    replace xA10 := xA10.same sw
    replace xB1 := xB1.same sw
    replace xB2 := xB2.same sw
    replace xB3 := xB3.same sw
    replace xB4 := xB4.same sw
    replace xB5 := xB5.same sw
    have bw16 := but_step' sw bw15
    have aw16 := sw _ _ aw15
    have rw16 := ObjsF.same rw15 sw
    clear hX sw nB6 bw15 aw15 rw15
    have xB6 : BadA a HW16 [] (.ref B6) := bada_two eB6 mB6 .int (fun z => nomatch z) .non (fun z => nomatch z) (fun _ _ _ z => (nomatch z))
    clear eB6
    tb_start
    intro B7 nB7
    have fB7 : H B7 = none := but_free nB7 bw16 aw16
    have mB7 : B7 ≠ a := fun z => by rw [z, ha] at fB7; cases fB7
    generalize hX : (upd _ B7 _) = HW17
    have sw : Same HW16 HW17 := by rw [← hX]; exact same_new nB7
    have eB7 : HW17 B7 = some (.lst [V.int 1]) := by rw [← hX]; exact upd_same
    replace ec := sw _ _ ec
    replace eS1 := sw _ _ eS1
    replace xA1 := xA1.same sw
    replace xA2 := xA2.same sw
    replace xA3 := xA3.same sw
    replace xA4 := xA4.same sw
    replace xA5 := xA5.same sw
    replace xA6 := xA6.same sw
    replace xA7 := xA7.same sw
    replace xA8 := xA8.same sw
    replace xA10 := xA10.same sw
    replace xB1 := xB1.same sw
    replace xB2 := xB2.same sw
    replace xB3 := xB3.same sw
    replace xB4 := xB4.same sw
    replace xB5 := xB5.same sw
    replace xB6 := xB6.same sw
    have bw17 := but_step' sw bw16
    have aw17 := sw _ _ aw16
    have rw17 := ObjsF.same rw16 sw
    clear hX sw nB7 bw16 aw16 rw16
    tb_start
    intro B8 nB8
    have fB8 : H B8 = none := but_free nB8 bw17 aw17
    have mB8 : B8 ≠ a := fun z => by rw [z, ha] at fB8; cases fB8
    generalize hX : (upd _ B8 _) = HW18
    have sw : Same HW17 HW18 := by rw [← hX]; exact same_new nB8
    have eB8 : HW18 B8 = some (.tup [V.int (10 ^ (20 : Int).toNat + x1), V.ref B7]) := by rw [← hX]; exact upd_same
    replace ec := sw _ _ ec
    replace eS1 := sw _ _ eS1
    replace eB7 := sw _ _ eB7
    replace xA1 := xA1.same sw
    replace xA2 := xA2.same sw
    replace xA3 := xA3.same sw
    replace xA4 := xA4.same sw
    replace xA5 := xA5.same sw
    replace xA6 := xA6.same sw
    replace xA7 := xA7.same sw
    replace xA8 := xA8.same sw
    replace xA10 := xA10.same sw
    replace xB1 := xB1.same sw
    replace xB2 := xB2.same sw
    replace xB3 := xB3.same sw
    replace xB4 := xB4.same sw
    replace xB5 := xB5.same sw
    replace xB6 := xB6.same sw
    have bw18 := but_step' sw bw17
    have aw18 := sw _ _ aw17
    have rw18 := ObjsF.same rw17 sw
    clear hX sw nB8 bw17 aw17 rw17
    have xB8 : BadA a HW18 [] (.ref B8) := bada_two eB8 mB8 .int (fun z => nomatch z) (.lst eB7) (fun z => mB7 (by injection z)) (fun _ _ _ z => (nomatch z))
    clear eB8
    clear eB7
    tb_start
    intro B9 nB9
    have fB9 : H B9 = none := but_free nB9 bw18 aw18
    have mB9 : B9 ≠ a := fun z => by rw [z, ha] at fB9; cases fB9
    generalize hX : (upd _ B9 _) = HW19
    have sw : Same HW18 HW19 := by rw [← hX]; exact same_new nB9
    have eB9 : HW19 B9 = some (.dK []) := by rw [← hX]; exact upd_same
    replace ec := sw _ _ ec
    replace eS1 := sw _ _ eS1
    replace xA1 := xA1.same sw
    replace xA2 := xA2.same sw
    replace xA3 := xA3.same sw
    replace xA4 := xA4.same sw
    replace xA5 := xA5.same sw
    replace xA6 := xA6.same sw
    replace xA7 := xA7.same sw
    replace xA8 := xA8.same sw
    replace xA10 := xA10.same sw
    replace xB1 := xB1.same sw
    replace xB2 := xB2.same sw
    replace xB3 := xB3.same sw
    replace xB4 := xB4.same sw
    replace xB5 := xB5.same sw
    replace xB6 := xB6.same sw
    replace xB8 := xB8.same sw
    have bw19 := but_step' sw bw18
    have aw19 := sw _ _ aw18
    have rw19 := ObjsF.same rw18 sw
    clear hX sw nB9 bw18 aw18 rw18
    have xB9 : BadA a HW19 [] (.ref B9) := bada_dct eB9 mB9
    clear eB9
    tb_start
    intro S2 nS2
    have fS2 : H S2 = none := but_free nS2 bw19 aw19
    have mS2 : S2 ≠ a := fun z => by rw [z, ha] at fS2; cases fS2
    generalize hX : (upd _ S2 _) = HW20
    have sw : Same HW19 HW20 := by rw [← hX]; exact same_new nS2
    have eS2 : HW20 S2 = some (.lst [V.ref B1, V.ref B2, V.ref B3, V.ref B4, V.ref B5, V.ref B6, V.ref B8, V.ref B9]) := by rw [← hX]; exact upd_same
    replace ec := sw _ _ ec
    replace eS1 := sw _ _ eS1
    replace xA1 := xA1.same sw
    replace xA2 := xA2.same sw
    replace xA3 := xA3.same sw
    replace xA4 := xA4.same sw
    replace xA5 := xA5.same sw
    replace xA6 := xA6.same sw
    replace xA7 := xA7.same sw
    replace xA8 := xA8.same sw
    replace xA10 := xA10.same sw
    replace xB1 := xB1.same sw
    replace xB2 := xB2.same sw
    replace xB3 := xB3.same sw
    replace xB4 := xB4.same sw
    replace xB5 := xB5.same sw
    replace xB6 := xB6.same sw
    replace xB8 := xB8.same sw
    replace xB9 := xB9.same sw
    have bw20 := but_step' sw bw19
    have aw20 := sw _ _ aw19
    have rw20 := ObjsF.same rw19 sw
    clear hX sw nS2 bw19 aw19 rw19
    have dS12 : S1 ≠ S2 := fun z => by rw [z, eS2] at eS1; cases eS1
    tb_start
    intro S3 nS3
    have fS3 : H S3 = none := but_free nS3 bw20 aw20
    have mS3 : S3 ≠ a := fun z => by rw [z, ha] at fS3; cases fS3
    generalize hX : (upd _ S3 _) = HW21
    have sw : Same HW20 HW21 := by rw [← hX]; exact same_new nS3
    have eS3 : HW21 S3 = some (.lst ([V.non, V.int 3, V.str (Str.ofString "3 1"), V.ref A1, V.ref A2, V.ref A3, V.ref A4, V.ref A5, V.ref A6, V.ref A7, V.ref A8, V.ref A10] ++ [V.ref B1, V.ref B2, V.ref B3, V.ref B4, V.ref B5, V.ref B6, V.ref B8, V.ref B9])) := by rw [← hX]; exact upd_same
    replace ec := sw _ _ ec
    replace eS1 := sw _ _ eS1
    replace eS2 := sw _ _ eS2
    replace xA1 := xA1.same sw
    replace xA2 := xA2.same sw
    replace xA3 := xA3.same sw
    replace xA4 := xA4.same sw
    replace xA5 := xA5.same sw
    replace xA6 := xA6.same sw
    replace xA7 := xA7.same sw
    replace xA8 := xA8.same sw
    replace xA10 := xA10.same sw
    replace xB1 := xB1.same sw
    replace xB2 := xB2.same sw
    replace xB3 := xB3.same sw
    replace xB4 := xB4.same sw
    replace xB5 := xB5.same sw
    replace xB6 := xB6.same sw
    replace xB8 := xB8.same sw
    replace xB9 := xB9.same sw
    have bw21 := but_step' sw bw20
    have aw21 := sw _ _ aw20
    have rw21 := ObjsF.same rw20 sw
    clear hX sw nS3 bw20 aw20 rw20
    clear eS1 eS2
    tb_start
    intro C1 nC1
    refine (show _ ∧ ∃ kvs : List (Key × V), _ ∧ _ ∧ _ from ⟨upd_same, [(.inl 3, .int 1)], rfl, by decide, ?_⟩)
    rw [upd_upd]
    have fC1 : H C1 = none := but_free nC1 bw21 aw21
    have mC1 : C1 ≠ a := fun z => by rw [z, ha] at fC1; cases fC1
    generalize hX : (upd _ C1 _) = HW22
    have sw : Same HW21 HW22 := by rw [← hX]; exact same_new nC1
    have eC1 : HW22 C1 = some (.dK [(.inl 3, .int 1)]) := by rw [← hX]; exact upd_same
    replace ec := sw _ _ ec
    replace eS3 := sw _ _ eS3
    replace xA1 := xA1.same sw
    replace xA2 := xA2.same sw
    replace xA3 := xA3.same sw
    replace xA4 := xA4.same sw
    replace xA5 := xA5.same sw
    replace xA6 := xA6.same sw
    replace xA7 := xA7.same sw
    replace xA8 := xA8.same sw
    replace xA10 := xA10.same sw
    replace xB1 := xB1.same sw
    replace xB2 := xB2.same sw
    replace xB3 := xB3.same sw
    replace xB4 := xB4.same sw
    replace xB5 := xB5.same sw
    replace xB6 := xB6.same sw
    replace xB8 := xB8.same sw
    replace xB9 := xB9.same sw
    have bw22 := but_step' sw bw21
    have aw22 := sw _ _ aw21
    have rw22 := ObjsF.same rw21 sw
    clear hX sw nC1 bw21 aw21 rw21
    have xC1 : BadA a HW22 [] (.ref C1) := bada_dct eC1 mC1
    clear eC1
    tb_start
    intro C2 nC2
    have fC2 : H C2 = none := but_free nC2 bw22 aw22
    have mC2 : C2 ≠ a := fun z => by rw [z, ha] at fC2; cases fC2
    generalize hX : (upd _ C2 _) = HW23
    have sw : Same HW22 HW23 := by rw [← hX]; exact same_new nC2
    have eC2 : HW23 C2 = some (.lst [V.int 3]) := by rw [← hX]; exact upd_same
    replace ec := sw _ _ ec
    replace eS3 := sw _ _ eS3
    replace xA1 := xA1.same sw
    replace xA2 := xA2.same sw
    replace xA3 := xA3.same sw
    replace xA4 := xA4.same sw
    replace xA5 := xA5.same sw
    replace xA6 := xA6.same sw
    replace xA7 := xA7.same sw
    replace xA8 := xA8.same sw
    replace xA10 := xA10.same sw
    replace xB1 := xB1.same sw
    replace xB2 := xB2.same sw
    replace xB3 := xB3.same sw
    replace xB4 := xB4.same sw
    replace xB5 := xB5.same sw
    replace xB6 := xB6.same sw
    replace xB8 := xB8.same sw
    replace xB9 := xB9.same sw
    replace xC1 := xC1.same sw
    have bw23 := but_step' sw bw22
    have aw23 := sw _ _ aw22
    have rw23 := ObjsF.same rw22 sw
    clear hX sw nC2 bw22 aw22 rw22
    tb_start
    intro C3 nC3
    have fC3 : H C3 = none := but_free nC3 bw23 aw23
    have mC3 : C3 ≠ a := fun z => by rw [z, ha] at fC3; cases fC3
    generalize hX : (upd _ C3 _) = HW24
    have sw : Same HW23 HW24 := by rw [← hX]; exact same_new nC3
    have eC3 : HW24 C3 = some (.tup [V.ref C2, V.int 1]) := by rw [← hX]; exact upd_same
    replace ec := sw _ _ ec
    replace eS3 := sw _ _ eS3
    replace eC2 := sw _ _ eC2
    replace xA1 := xA1.same sw
    replace xA2 := xA2.same sw
    replace xA3 := xA3.same sw
    replace xA4 := xA4.same sw
    replace xA5 := xA5.same sw
    replace xA6 := xA6.same sw
    replace xA7 := xA7.same sw
    replace xA8 := xA8.same sw
    replace xA10 := xA10.same sw
    replace xB1 := xB1.same sw
    replace xB2 := xB2.same sw
    replace xB3 := xB3.same sw
    replace xB4 := xB4.same sw
    replace xB5 := xB5.same sw
    replace xB6 := xB6.same sw
    replace xB8 := xB8.same sw
    replace xB9 := xB9.same sw
    replace xC1 := xC1.same sw
    have bw24 := but_step' sw bw23
    have aw24 := sw _ _ aw23
    have rw24 := ObjsF.same rw23 sw
    clear hX sw nC3 bw23 aw23 rw23
    have xC3 : BadA a HW24 [] (.ref C3) := bada_two eC3 mC3 (.lst eC2) (fun z => mC2 (by injection z)) .int (fun z => nomatch z) (fun _ _ z => (nomatch z))
    clear eC3
    clear eC2
    tb_start
    intro C4 nC4
    have fC4 : H C4 = none := but_free nC4 bw24 aw24
    have mC4 : C4 ≠ a := fun z => by rw [z, ha] at fC4; cases fC4
    generalize hX : (upd _ C4 _) = HW25
    have sw : Same HW24 HW25 := by rw [← hX]; exact same_new nC4
    have eC4 : HW25 C4 = some (.tup [V.int 1]) := by rw [← hX]; exact upd_same
    replace ec := sw _ _ ec
    replace eS3 := sw _ _ eS3
    replace xA1 := xA1.same sw
    replace xA2 := xA2.same sw
    replace xA3 := xA3.same sw
    replace xA4 := xA4.same sw
    replace xA5 := xA5.same sw
    replace xA6 := xA6.same sw
    replace xA7 := xA7.same sw
    replace xA8 := xA8.same sw
    replace xA10 := xA10.same sw
    replace xB1 := xB1.same sw
    replace xB2 := xB2.same sw
    replace xB3 := xB3.same sw
    replace xB4 := xB4.same sw
    replace xB5 := xB5.same sw
    replace xB6 := xB6.same sw
    replace xB8 := xB8.same sw
    replace xB9 := xB9.same sw
    replace xC1 := xC1.same sw
    replace xC3 := xC3.same sw
    have bw25 := but_step' sw bw24
    have aw25 := sw _ _ aw24
    have rw25 := ObjsF.same rw24 sw
    clear hX sw nC4 bw24 aw24 rw24
    tb_start
    intro C5 nC5
    have fC5 : H C5 = none := but_free nC5 bw25 aw25
    have mC5 : C5 ≠ a := fun z => by rw [z, ha] at fC5; cases fC5
    generalize hX : (upd _ C5 _) = HW26
    have sw : Same HW25 HW26 := by rw [← hX]; exact same_new nC5
    have eC5 : HW26 C5 = some (.tup [V.int (10 ^ (20 : Int).toNat + x1), V.ref C4]) := by rw [← hX]; exact upd_same
    replace ec := sw _ _ ec
    replace eS3 := sw _ _ eS3
    replace eC4 := sw _ _ eC4
    replace xA1 := xA1.same sw
    replace xA2 := xA2.same sw
    replace xA3 := xA3.same sw
    replace xA4 := xA4.same sw
    replace xA5 := xA5.same sw
    replace xA6 := xA6.same sw
    replace xA7 := xA7.same sw
    replace xA8 := xA8.same sw
    replace xA10 := xA10.same sw
    replace xB1 := xB1.same sw
    replace xB2 := xB2.same sw
    replace xB3 := xB3.same sw
    replace xB4 := xB4.same sw
    replace xB5 := xB5.same sw
    replace xB6 := xB6.same sw
    replace xB8 := xB8.same sw
    replace xB9 := xB9.same sw
    replace xC1 := xC1.same sw
    replace xC3 := xC3.same sw
    have bw26 := but_step' sw bw25
    have aw26 := sw _ _ aw25
    have rw26 := ObjsF.same rw25 sw
    clear hX sw nC5 bw25 aw25 rw25
    have xC5 : BadA a HW26 [] (.ref C5) := bada_two eC5 mC5 .int (fun z => nomatch z) (.tup eC4) (fun z => mC4 (by injection z)) (fun _ _ _ z => (nomatch z))
    clear eC5
    clear eC4
    tb_start
    intro C6 nC6
    have fC6 : H C6 = none := but_free nC6 bw26 aw26
    have mC6 : C6 ≠ a := fun z => by rw [z, ha] at fC6; cases fC6
    generalize hX : (upd _ C6 _) = HW27
    have sw : Same HW26 HW27 := by rw [← hX]; exact same_new nC6
    have eC6 : HW27 C6 = some (.tup [V.bl true, V.bl true]) := by rw [← hX]; exact upd_same
    replace ec := sw _ _ ec
    replace eS3 := sw _ _ eS3
    replace xA1 := xA1.same sw
    replace xA2 := xA2.same sw
    replace xA3 := xA3.same sw
    replace xA4 := xA4.same sw
    replace xA5 := xA5.same sw
    replace xA6 := xA6.same sw
    replace xA7 := xA7.same sw
    replace xA8 := xA8.same sw
    replace xA10 := xA10.same sw
    replace xB1 := xB1.same sw
    replace xB2 := xB2.same sw
    replace xB3 := xB3.same sw
    replace xB4 := xB4.same sw
    replace xB5 := xB5.same sw
    replace xB6 := xB6.same sw
    replace xB8 := xB8.same sw
    replace xB9 := xB9.same sw
    replace xC1 := xC1.same sw
    replace xC3 := xC3.same sw
    replace xC5 := xC5.same sw
    have bw27 := but_step' sw bw26
    have aw27 := sw _ _ aw26
    have rw27 := ObjsF.same rw26 sw
    clear hX sw nC6 bw26 aw26 rw26
    have xC6 : BadA a HW27 [] (.ref C6) := bada_two eC6 mC6 .bl (fun z => nomatch z) .bl (fun z => nomatch z) (fun _ _ z => (nomatch z))
    clear eC6
    tb_start
    intro S4 nS4
    have fS4 : H S4 = none := but_free nS4 bw27 aw27
    have mS4 : S4 ≠ a := fun z => by rw [z, ha] at fS4; cases fS4
    generalize hX : (upd _ S4 _) = HW28
    have sw : Same HW27 HW28 := by rw [← hX]; exact same_new nS4
    have eS4 : HW28 S4 = some (.lst [V.ref C1, V.ref C3, V.ref C5, V.ref C6]) := by rw [← hX]; exact upd_same
    replace ec := sw _ _ ec
    replace eS3 := sw _ _ eS3
    replace xA1 := xA1.same sw
    replace xA2 := xA2.same sw
    replace xA3 := xA3.same sw
    replace xA4 := xA4.same sw
    replace xA5 := xA5.same sw
    replace xA6 := xA6.same sw
    replace xA7 := xA7.same sw
    replace xA8 := xA8.same sw
    replace xA10 := xA10.same sw
    replace xB1 := xB1.same sw
    replace xB2 := xB2.same sw
    replace xB3 := xB3.same sw
    replace xB4 := xB4.same sw
    replace xB5 := xB5.same sw
    replace xB6 := xB6.same sw
    replace xB8 := xB8.same sw
    replace xB9 := xB9.same sw
    replace xC1 := xC1.same sw
    replace xC3 := xC3.same sw
    replace xC5 := xC5.same sw
    replace xC6 := xC6.same sw
    have bw28 := but_step' sw bw27
    have aw28 := sw _ _ aw27
    have rw28 := ObjsF.same rw27 sw
    clear hX sw nS4 bw27 aw27 rw27
    tb_start
    intro S5 nS5
    have fS5 : H S5 = none := but_free nS5 bw28 aw28
    have mS5 : S5 ≠ a := fun z => by rw [z, ha] at fS5; cases fS5
    generalize hX : (upd _ S5 _) = HW29
    have sw : Same HW28 HW29 := by rw [← hX]; exact same_new nS5
    have eS5 : HW29 S5 = some (.lst ([V.non, V.int 3, V.str (Str.ofString "3 1"), V.ref A1, V.ref A2, V.ref A3, V.ref A4, V.ref A5, V.ref A6, V.ref A7, V.ref A8, V.ref A10] ++ [V.ref B1, V.ref B2, V.ref B3, V.ref B4, V.ref B5, V.ref B6, V.ref B8, V.ref B9] ++ [V.ref C1, V.ref C3, V.ref C5, V.ref C6])) := by rw [← hX]; exact upd_same
    replace ec := sw _ _ ec
    replace eS3 := sw _ _ eS3
    replace eS4 := sw _ _ eS4
    replace xA1 := xA1.same sw
    replace xA2 := xA2.same sw
    replace xA3 := xA3.same sw
    replace xA4 := xA4.same sw
    replace xA5 := xA5.same sw
    replace xA6 := xA6.same sw
    replace xA7 := xA7.same sw
    replace xA8 := xA8.same sw
    replace xA10 := xA10.same sw
    replace xB1 := xB1.same sw
    replace xB2 := xB2.same sw
    replace xB3 := xB3.same sw
    replace xB4 := xB4.same sw
    replace xB5 := xB5.same sw
    replace xB6 := xB6.same sw
    replace xB8 := xB8.same sw
    replace xB9 := xB9.same sw
    replace xC1 := xC1.same sw
    replace xC3 := xC3.same sw
    replace xC5 := xC5.same sw
    replace xC6 := xC6.same sw
    have bw29 := but_step' sw bw28
    have aw29 := sw _ _ aw28
    have rw29 := ObjsF.same rw28 sw
    clear hX sw nS5 bw28 aw28 rw28
    clear eS3 eS4
    have hall : ∀ x ∈ [V.non, V.int 3, V.str (Str.ofString "3 1"), V.ref A1, V.ref A2, V.ref A3, V.ref A4, V.ref A5, V.ref A6, V.ref A7, V.ref A8, V.ref A10] ++ [V.ref B1, V.ref B2, V.ref B3, V.ref B4, V.ref B5, V.ref B6, V.ref B8, V.ref B9] ++ [V.ref C1, V.ref C3, V.ref C5, V.ref C6], BadA a HW29 [] x ∧ (flatV x = true ∨ ∃ q, x = .ref q) := by
      intro x hx
      simp only [List.mem_append, List.mem_cons, List.not_mem_nil, or_false] at hx
      rcases hx with ((rfl | rfl | rfl | rfl | rfl | rfl | rfl | rfl | rfl | rfl | rfl | rfl) | rfl | rfl | rfl | rfl | rfl | rfl | rfl | rfl) | rfl | rfl | rfl | rfl
      · exact ⟨bada_non .non (fun _ z => nomatch z), .inl rfl⟩
      · exact ⟨bada_non .int (fun _ z => nomatch z), .inl rfl⟩
      · exact ⟨bada_non .str (fun _ z => nomatch z), .inl rfl⟩
      · exact ⟨xA1, .inr ⟨_, rfl⟩⟩
      · exact ⟨xA2, .inr ⟨_, rfl⟩⟩
      · exact ⟨xA3, .inr ⟨_, rfl⟩⟩
      · exact ⟨xA4, .inr ⟨_, rfl⟩⟩
      · exact ⟨xA5, .inr ⟨_, rfl⟩⟩
      · exact ⟨xA6, .inr ⟨_, rfl⟩⟩
      · exact ⟨xA7, .inr ⟨_, rfl⟩⟩
      · exact ⟨xA8, .inr ⟨_, rfl⟩⟩
      · exact ⟨xA10, .inr ⟨_, rfl⟩⟩
      · exact ⟨xB1, .inr ⟨_, rfl⟩⟩
      · exact ⟨xB2, .inr ⟨_, rfl⟩⟩
      · exact ⟨xB3, .inr ⟨_, rfl⟩⟩
      · exact ⟨xB4, .inr ⟨_, rfl⟩⟩
      · exact ⟨xB5, .inr ⟨_, rfl⟩⟩
      · exact ⟨xB6, .inr ⟨_, rfl⟩⟩
      · exact ⟨xB8, .inr ⟨_, rfl⟩⟩
      · exact ⟨xB9, .inr ⟨_, rfl⟩⟩
      · exact ⟨xC1, .inr ⟨_, rfl⟩⟩
      · exact ⟨xC3, .inr ⟨_, rfl⟩⟩
      · exact ⟨xC5, .inr ⟨_, rfl⟩⟩
      · exact ⟨xC6, .inr ⟨_, rfl⟩⟩
    clear xA1 xA2 xA3 xA4 xA5 xA6 xA7 xA8 xA10 xB1 xB2 xB3 xB4 xB5 xB6 xB8 xB9 xC1 xC3 xC5 xC6
    -- now HW29 bw29 aw29 rw29
    tb_start
    intro x40 m40 H40 h400 h401 a40 b40
    replace eS5 := b40 _ _ mS5 eS5
    replace ec := b40 _ _ (Ne.symm hac) ec
    have r40 : PairsF H40 ls ps := ObjsF.but rw29 b40 hla
    have bb40 := but_step b40 bw29
    have hall40 := fun x hx => (hall x hx).1.but b40
    have hflat := fun x hx => (hall x hx).2
    clear hall b40 bw29 rw29 aw29
    have h24 : (0 : Int) < ((([V.non, V.int 3, V.str (Str.ofString "3 1"), V.ref A1, V.ref A2, V.ref A3, V.ref A4, V.ref A5, V.ref A6, V.ref A7, V.ref A8, V.ref A10] ++ [V.ref B1, V.ref B2, V.ref B3, V.ref B4, V.ref B5, V.ref B6, V.ref B8, V.ref B9] ++ [V.ref C1, V.ref C3, V.ref C5, V.ref C6]).length : Nat) : Int) := by show (0 : Int) < 24; decide
    tb_start
    intro x41 m41 H41 h410 h411 a41 b41
    replace eS5 := b41 _ _ mS5 eS5
    replace ec := b41 _ _ (Ne.symm hac) ec
    have r41 : PairsF H41 ls ps := ObjsF.but r40 b41 hla
    have bb41 := but_step b41 bb40
    obtain ⟨v, hv, hm, _⟩ := atI_get (xs := [V.non, V.int 3, V.str (Str.ofString "3 1"), V.ref A1, V.ref A2, V.ref A3, V.ref A4, V.ref A5, V.ref A6, V.ref A7, V.ref A8, V.ref A10] ++ [V.ref B1, V.ref B2, V.ref B3, V.ref B4, V.ref B5, V.ref B6, V.ref B8, V.ref B9] ++ [V.ref C1, V.ref C3, V.ref C5, V.ref C6]) (i := x41) (by omega) h411
    have xv := (hall40 v hm).but b41
    have fv := hflat v hm
    clear hall40 hflat hm b41 bb40 r40 a40
    tb_start
    refine ⟨fun σ H' => Iv (∃ (w : V) (ms : List Int), σ = [some (.ref a), some (.ref c), some (.int (10 ^ (20 : Int).toNat + x1)), some (.ref S5), some (.int x40), some w] ∧ H' a = some (.lst (ms.map V.int)) ∧ H' c = some (.lst (ls.map V.ref)) ∧ PairsF H' ls ps ∧ But a H H' ∧ (flatV w = true ∨ ∃ q, w = .ref q) ∧ (BadA a H' [] w ∨ ∃ q n t, w = .ref q ∧ H' q = some (.tup [.int n, .int t]) ∧ 1 ≤ t ∧ ∃ t0, ps[0]? = some (n, t0))), ?_, ?_⟩
    · tb_start
      intro p6 n6
      have s6 : Same H41 (upd H41 p6 (.lst [])) := same_new n6
      have e6 : (upd H41 p6 (.lst [])) p6 = some (.lst []) := upd_same
      have ec6 := s6 _ _ ec
      have a6 := s6 _ _ a41
      have r6 := ObjsF.same r41 s6
      have b6 := but_step' s6 bb41
      have x6 := xv.same s6
      clear n6 s6
      generalize (upd H41 p6 (.lst [])) = H6 at *
      refine rNe_pairsN (SqL.of ec6) (SqL.of e6) r6 ?_
      by_cases hps : ps = []
      · rw [decide_eq_true hps]
        tb_start
        exact ⟨_, _, rfl, a6, ec6, r6, b6, fv, .inl x6⟩
      · rw [decide_eq_false hps]
        tb_start
        intro x7 m7 H7 h70 h71 a7 b7
        have ec7 := b7 _ _ (Ne.symm hac) ec6
        have r7 : PairsF H7 ls ps := ObjsF.but r6 b7 hla
        have bb7 := but_step b7 b6
        have x7' := x6.but b7
        clear b7 a6 ec6 r6 b6 x6 e6
        tb_start
        refine bri (fun _ => ?_) (fun _ => ?_)
        · obtain ⟨n0, t0⟩ : ∃ n0 : Int × Int, ps[0]? = some n0 := ⟨_, List.getElem?_eq_getElem (List.length_pos_iff.mpr hps)⟩
          obtain ⟨n0, tt⟩ := n0
          have hl0 : 0 < ls.length := by rw [r7.len]; exact List.length_pos_iff.mpr hps
          have g0 := List.getElem?_eq_getElem hl0
          have e0 := r7.row 0 _ g0
          rw [show ps.getD 0 (0, 0) = (n0, tt) by rw [List.getD_eq_getElem?_getD, t0]; rfl] at e0
          have e0' : H7 ls[0] = some (.tup [.int n0, .int tt]) := e0
          have ht := ok.pos _ (List.mem_of_getElem? t0)
          have at0 : atI (ls.map V.ref) 0 = some (.ref ls[0]) := atI_nat (j := 0) (by rw [List.getElem?_map, g0]; rfl)
          have nl0 := hla _ (List.getElem_mem hl0)
          generalize ls[0] = l0 at *
          clear e0
          tb_start
          intro x9 m9 H9 h90 h91 a9 b9
          have ec9 := b9 _ _ (Ne.symm hac) ec7
          have r9 : PairsF H9 ls ps := ObjsF.but r7 b9 hla
          have bb9 := but_step b9 bb7
          tb_start
          intro pz nz
          have sz : Same H9 (upd H9 pz (.tup [.int n0, .int (tt + x9)])) := same_new nz
          have ez : (upd H9 pz (.tup [.int n0, .int (tt + x9)])) pz = some (.tup [.int n0, .int (tt + x9)]) := upd_same
          tb_start
          exact ⟨_, _, rfl, sz _ _ a9, sz _ _ ec9, ObjsF.same r9 sz, but_step' sz bb9, .inr ⟨_, rfl⟩, .inr ⟨pz, n0, _, rfl, ez, by have : 1 ≤ tt := ht; omega, tt, t0⟩⟩
        · tb_start
          exact ⟨_, _, rfl, a7, ec7, r7, bb7, fv, .inl x7'⟩
    rintro σ H8 ⟨w, m8, rfl, a8, ec8, r8, b8, fw, hw⟩
    clear xv fv ec r41 bb41 a41 eS5 hv
    have hxk : x40 = ((x40.toNat : Nat) : Int) := by omega
    have hrl := r8.len
    tb_start
    intro q1 n1
    have e1 : (upd H8 q1 (.lst (cutV (ls.map V.ref) none (some x40)))) c = some (.lst (ls.map V.ref)) := by kct_strs
    tb_start
    intro q2 n2
    have d12 : q1 ≠ q2 := by kcj_m
    have c1 := cutV_length (ls.map V.ref) none (some x40)
    have c2 := cutV_length (ls.map V.ref) (some x40) none
    rw [List.length_map] at c1 c2
    tb_start
    intro q3 n3
    generalize hX : (upd _ q3 _) = HX
    have sX : Same H8 HX := by rw [← hX]; kcj_in
    have eX : HX q3 = some (.lst (cutV (ls.map V.ref) none (some x40) ++ [w])) := by rw [← hX]; exact upd_same
    have ecX := sX _ _ ec8
    have aX := sX _ _ a8
    have rX := ObjsF.same r8 sX
    have bX := but_step' sX b8
    clear hX n1 n2 n3 e1 d12
    tb_start
    intro q4 n4
    have d34 : q3 ≠ q4 := by kcj_m
    tb_start
    intro q5 n5
    generalize hY : (upd _ q5 _) = HY
    have sY : Same HX HY := by rw [← hY]; kcj_in
    have f5 : H q5 = none := by cc_off
    have eY : HY q5 = some (.lst ((ls.take x40.toNat).map V.ref ++ w :: (ls.drop x40.toNat).map V.ref)) := by
      rw [← hY, upd_same, cut_to _ h400, cut_from _ h400, List.map_take, List.map_drop, List.append_assoc]; rfl
    have aY := sY _ _ aX
    have bY := but_step' sY bX
    have rY := ObjsF.same rX sY
    clear hY n4 n5 d34
    refine q q5 _ _ _ eY aY ?_ ?_ ?_ bY f5
    · have hw2 : BadA a HY [] w ∨ ∃ q n t, w = V.ref q ∧ HY q = some (.tup [.int n, .int t]) ∧ 1 ≤ t ∧ ∃ t0, ps[0]? = some (n, t0) :=
        hw.imp (fun b => (b.same sX).same sY) fun ⟨q, n, t, e1, e2, e3⟩ => ⟨q, n, t, e1, sY _ _ (sX _ _ e2), e3⟩
      rcases hw2 with hb | ⟨qd, n, t, rfl, eq, ht, t0, hp0⟩
      · exact .inr ⟨q5, ls.take x40.toNat, ps.take x40.toNat, w, (ls.drop x40.toNat).map V.ref, rfl, eY, pairs_take rY _, ok.take _, by rw [List.length_take, List.length_map, List.length_drop]; omega, hb.1.mono⟩
      · by_cases hx0 : x40.toNat = 0
        · rw [hx0] at eY
          cases hls : ls with
          | nil =>
            rw [hls] at hrl
            have : ps = [] := List.eq_nil_of_length_eq_zero hrl.symm
            rw [this] at hp0
            cases hp0
          | cons l0 lt =>
            have g0 : ls[0]? = some l0 := by rw [hls]; rfl
            have e0 := rY.row 0 _ g0
            rw [show ps.getD 0 (0, 0) = (n, t0) by rw [List.getD_eq_getElem?_getD, hp0]; rfl] at e0
            have e0' : HY l0 = some (.tup [.int n, .int t0]) := e0
            rw [hls] at eY
            exact .inr ⟨q5, [qd], [(n, t)], .ref l0, lt.map V.ref, rfl, eY, pairs_one eq, ⟨by simp, fun z hz => by rw [List.mem_singleton.mp hz]; exact ht⟩, by rw [hls] at hrl; rw [List.length_map]; have : (l0 :: lt).length = lt.length + 1 := rfl; have h1 : [qd].length = 1 := rfl; omega, badi_dup e0' (by simp)⟩
        · refine .inr ⟨q5, ls.take x40.toNat, ps.take x40.toNat, .ref qd, (ls.drop x40.toNat).map V.ref, rfl, eY, pairs_take rY _, ok.take _, by rw [List.length_take, List.length_map, List.length_drop]; omega, badi_dup eq ?_⟩
          have : (ps.take x40.toNat)[0]? = some (n, t0) := by rw [List.getElem?_take_of_lt (by omega)]; exact hp0
          exact List.mem_map.mpr ⟨(n, t0), List.mem_of_getElem? this, rfl⟩
    · rw [List.length_append, List.length_cons, List.length_map, List.length_map, List.length_take, List.length_drop]; omega
    · intro x hx
      rcases List.mem_append.mp hx with h | h
      · obtain ⟨l, _, rfl⟩ := List.mem_map.mp h; exact .inr ⟨l, rfl⟩
      · rcases List.mem_cons.mp h with rfl | h
        · exact fw
        · obtain ⟨l, _, rfl⟩ := List.mem_map.mp h; exact .inr ⟨l, rfl⟩
end
end Ur
namespace Ur
open PySem L2
/-- a list so many deep -/
def sp__law_deep (K : PySem.W.Frag) : Sp := fun vs H Q _ => ∃ m : Int, vs = [.int m] ∧ 1 ≤ m ∧ m ≤ 5000 ∧ ∀ p z zs H', H' p = some (.lst [.ref z]) → H' z = some (.lst zs) → H p = none → H z = none → Same H H' → Q (.ref p) H'
section
variable {P : Program} {w : World} {K : PySem.W.Frag} {mg : Str → Option Value} {base : Heap} {A : Adr}
theorem ok__law_deep (T : Txt K mg A) : FnOk P w K mg base CX0 1 A.f__law_deep A.d__law_deep ["many"] (sp__law_deep K) := by
  refine T.F__law_deep.ok sc__law_deep (fun vs H Q E h => ?_) (fun cdv Ar outer s H vs Q E hr h => ?_)
  · obtain ⟨m, rfl, _⟩ := h
    rfl
  · obtain ⟨m, rfl, h1, h2, q⟩ := h
    refine ⟨_, (pss_cons (ps_set (i := 1) sc__law_deep.nd rfl (Or.inl rfl) (pe_lst pa_nil))
    (pss_cons (ps_for PassesOwn.never (by rfl) (pi_range1 (by rfl) T.m_range (pa_cons (pv 0) pa_nil)) (pg_name (i := 2) sc__law_deep.nd rfl (Or.inl rfl)) (pss_one (ps_set (i := 1) sc__law_deep.nd rfl (Or.inl rfl) (pe_lst (pa_cons (pv 1) pa_nil)))))
    (pss_one (ps_ret (pv 1))))), ?_⟩
    tb_start
    intro d0 m0
    tb_start
    refine for_range (n := m.toNat) (fun i σ H3 => Iv (∃ (r : Addr) (us : List V) (x : Option V), σ = [some (.int m), some (.ref r), x] ∧ H3 r = some (.lst us) ∧ H r = none ∧ (i = 0 ∨ ∃ z zs, us = [.ref z] ∧ H3 z = some (.lst zs) ∧ H z = none) ∧ Same H H3)) ?g0 ?gs ?gd
    case g0 => exact ⟨d0, [], _, rfl, upd_same, m0, .inl rfl, same_new m0⟩
    case gs =>
      rintro i σ H3 hi ⟨r, us, x, rfl, er, nr, _, s3⟩
      tb_start
      intro d1 m1
      tb_start
      exact ⟨d1, _, _, rfl, upd_same, s3.free m1, .inr ⟨r, us, rfl, by kct_strs, nr⟩, by kcj_in⟩
    case gd =>
      rintro σ H3 ⟨r, us, x, rfl, er, nr, hz, s3⟩
      obtain ⟨z, zs, rfl, ez, nz⟩ : ∃ z zs, us = [.ref z] ∧ H3 z = some (.lst zs) ∧ H z = none := by
        rcases hz with h | h
        · omega
        · exact h
      tb_start
      exact q r z zs _ er ez nr nz s3
end
end Ur
namespace Ur
open PySem L2
/-- at most 240 numbers, a new list -/
def sp__law_draws (K : PySem.W.Frag) : Sp := fun vs H Q _ => ∃ (a : Addr) (ns : List Int), vs = [.ref a] ∧ SqL K H a (ns.map V.int) ∧ ns.length ≤ 63 ∧ ∀ p (ds : List Int) H', H' p = some (.lst (ds.map V.int)) → ds.length ≤ 240 → Same H H' → H p = none → Q (.ref p) H'
section
variable {P : Program} {w : World} {K : PySem.W.Frag} {mg : Str → Option Value} {base : Heap} {A : Adr}
theorem ok__law_draws (T : Txt K mg A) : FnOk P w K mg base CX0 1 A.f__law_draws A.d__law_draws ["script"] (sp__law_draws K) := by
  refine T.F__law_draws.ok sc__law_draws (fun vs H Q E h => ?_) (fun cdv Ar outer s H vs Q E hr h => ?_)
  · obtain ⟨a, ns, rfl, _⟩ := h
    rfl
  · obtain ⟨a, ns, rfl, ha, hl, q⟩ := h
    refine ⟨_, (pss_cons (ps_set (i := 1) sc__law_draws.nd rfl (Or.inl rfl) (pe_lst pa_nil))
    (pss_cons (ps_for PassesOwn.never (by rfl) (pi_range1 (by rfl) T.m_range (pa_cons (Ur.pe_b2 (Ur.call_min2K rfl) (by rfl) T.m_min (by decide +kernel) (Ur.pe_b1 (Ur.call_lenIK (K := K) rfl) (by rfl) T.m_len (by decide +kernel) (pv 0)) pe_int) pa_nil)) (pg_name (i := 2) sc__law_draws.nd rfl (Or.inl rfl)) (pss_cons (ps_set (i := 3) sc__law_draws.nd rfl (Or.inl rfl) (Ur.pe_b1 call_abs (by rfl) T.m_abs (by decide +kernel) (pe_ix (Ur.ix_listK (K := K) rfl) (pv 0) (pv 2) (fun _ _ => rfl))))
    (pss_one (ps_if (pt_cmpR op_lt (pv 3) (pe_op op_pow pe_int pe_int) (nomark _)) (pss_cons (ps_set (i := 4) sc__law_draws.nd rfl (Or.inl rfl) (pe_op op_mod (pe_op op_mul (pe_op op_mod (pe_op op_add (pe_op op_add (pv 3) (pe_op op_mul pe_int (pv 2))) pe_int) pe_int) pe_int) pe_int))
    (pss_cons (ps_set (i := 4) sc__law_draws.nd rfl (Or.inl rfl) (pe_op op_mod (pe_op op_mul (pv 4) (pv 4)) pe_int))
    (pss_cons (ps_expr (pe_bm PySem.F.plainAttrs_list PySem.F.slot_list_append PySem.F.type_list_append mt_append (pv 1) (pa_cons (pe_op op_mod (pe_op op_fdiv (pv 4) pe_int) pe_int) pa_nil)))
    (pss_cons (ps_expr (pe_bm PySem.F.plainAttrs_list PySem.F.slot_list_append PySem.F.type_list_append mt_append (pv 1) (pa_cons (pe_op op_mod (pe_op op_fdiv (pv 4) pe_int) pe_int) pa_nil)))
    (pss_cons (ps_set (i := 4) sc__law_draws.nd rfl (Or.inl rfl) (pe_op op_mod (pe_op op_add (pv 4) (pe_op op_mul pe_int (pe_op op_add (pv 2) pe_int))) pe_int))
    (pss_one (ps_expr (pe_bm PySem.F.plainAttrs_list PySem.F.slot_list_append PySem.F.type_list_append mt_append (pv 1) (pa_cons (pe_op op_mod (pe_op op_fdiv (pe_op op_mod (pe_op op_mul (pv 4) (pv 4)) pe_int) pe_int) pe_int) pa_nil))))))))) (pss_cons (ps_set (i := 5) sc__law_draws.nd rfl (Or.inl rfl) pe_int)
    (pss_one (ps_while PassesOwn.never (PW.pt (pw_and (pt_cmpR op_ge (pv 3) pe_int (nomark _)) (pw_and1 (pt_cmpR op_lt (pv 5) pe_int (nomark _))))) (pss_cons (ps_expr (pe_bm PySem.F.plainAttrs_list PySem.F.slot_list_append PySem.F.type_list_append mt_append (pv 1) (pa_cons (pe_op op_mod (pv 3) pe_int) pa_nil)))
    (pss_cons (ps_set (i := 3) sc__law_draws.nd rfl (Or.inl rfl) (pe_op op_fdiv (pv 3) pe_int))
    (pss_one (ps_set (i := 5) sc__law_draws.nd rfl (Or.inl rfl) (pe_op op_add (pv 5) pe_int))))))))))))
    (pss_one (ps_ret (pe_slice (Ur.sl_listK (K := K) rfl) (pv 1) po_none (po_some pe_int)))))), ?_⟩
    tb_start
    intro D nD
    tb_start
    refine for_range (fun i σ H' => Iv (∃ (u2 u3 u4 u5 : Option V) (ds : List Int), σ = [some (.ref a), some (.ref D), u2, u3, u4, u5] ∧ H' D = some (.lst (ds.map V.int)) ∧ ds.length ≤ 60 * i ∧ Same H H')) ?h0 ?hs ?hd
    case h0 => exact ⟨_, _, _, _, [], rfl, upd_same, Nat.zero_le _, by kcj_in⟩
    case hs =>
      rintro i σ H1 hi ⟨u2, u3, u4, u5, ds, rfl, eD, hdl, s1⟩
      have hi2 : i < 63 := by omega
      have ha1 := s1.seq ha
      tb_start
      refine br (fun hc => ?_) (fun hc => ?_)
      · tb_start
        exact ⟨_, _, _, _, ds ++ [_] ++ [_] ++ [_], rfl, by kct_strs, by simp only [List.length_append, List.length_cons, List.length_nil]; omega, by kcj_in⟩
      · tb_start
        refine while_iv (fun mu σ H' => Iv (∃ (r j : Int) (u4 : Option V) (ds : List Int), σ = [some (.ref a), some (.ref D), some (.int (0 + (i : Int))), some (.int r), u4, some (.int j)] ∧ H' D = some (.lst (ds.map V.int)) ∧ (ds.length : Int) ≤ 60 * i + j ∧ 0 ≤ j ∧ j ≤ 60 ∧ mu = 60 - j.toNat ∧ Same H H')) 60 ?g0 ?gs
        case g0 => exact ⟨_, 0, _, ds, rfl, eD, by omega, by omega, by omega, rfl, s1⟩
        case gs =>
          rintro mu σ H2 ⟨r, j, u4, ds2, rfl, eD2, hd2, j0, j1, rfl, s2⟩
          refine ⟨decide (1000 ≤ r ∧ j < 60), fun Q' q' => ?_, fun hlt => ?_, fun hge => ?_⟩
          · tb_start
            refine br (fun h1 => ?_) (fun h1 => ?_)
            · tb_start
              exact qbl q' (decide_eq_decide.mpr ⟨fun h => ⟨h1, h⟩, fun h => h.2⟩)
            · exact qbl q' (decide_eq_false (fun h => h1 h.1)).symm
          · have hlt' := of_decide_eq_true hlt
            tb_start
            exact ⟨_, by omega, _, _, _, ds2 ++ [_], rfl, by kct_strs, by simp only [List.length_append, List.length_cons, List.length_nil]; omega, by omega, by omega, rfl, by kcj_in⟩
          · exact ⟨_, _, _, _, ds2, rfl, eD2, by omega, s2⟩
    case hd =>
      rintro σ H1 ⟨u2, u3, u4, u5, ds, rfl, eD, hdl, s1⟩
      tb_start
      intro p np
      tb_start
      exact q p (ds.take (240 : Int).toNat) _ (by kct_strs) (by rw [List.length_take]; exact Nat.min_le_left _ _) (by kcj_in) (by cc_off)
end
end Ur
namespace Ur
open PySem L2
/-- a number -/
def sp__law_number (K : PySem.W.Frag) : Sp := fun vs H Q _ => ∃ (w i : Int), vs = [.int w, .int i] ∧ 0 ≤ w ∧ w < 4 ∧ ∀ (n : Int) H', Same H H' → Q (.int n) H'
section
variable {P : Program} {w : World} {K : PySem.W.Frag} {mg : Str → Option Value} {base : Heap} {A : Adr}
theorem ok__law_number (T : Txt K mg A) : FnOk P w K mg base CX0 1 A.f__law_number A.d__law_number ["kind", "k"] (sp__law_number K) := by
  refine T.F__law_number.ok sc__law_number (fun vs H Q E h => ?_) (fun cdv Ar outer s H vs Q E hr h => ?_)
  · obtain ⟨w, i, rfl, _⟩ := h
    rfl
  · obtain ⟨w, i, rfl, h0, h1, q⟩ := h
    refine ⟨_, (pss_one (ps_ret (pe_ix (Ur.ix_listK (K := K) rfl) (pe_lst (pa_cons (pv 1) (pa_cons (pe_op op_sub (pv 1) pe_int) (pa_cons (pe_op op_sub (pe_op op_mul (pv 1) (pe_op op_pow pe_int pe_int)) (pe_op op_pow pe_int pe_int)) (pa_cons (pe_op op_mul (pe_op op_sub (pe_op op_mul (pe_op op_mod (pv 1) pe_int) pe_int) pe_int) (pe_op op_sub (pe_op op_pow pe_int pe_int) (pv 1))) pa_nil))))) (pv 0) (fun _ _ => rfl)))), ?_⟩
    tb_start
    · intro p np
      tb_start
      exact q _ _ (by kcj_in)
end
end Ur
namespace Ur
open PySem L2
/-- needs of a row: a new list of new pairs -/
def sp__law_needs (K : PySem.W.Frag) : Sp := fun vs H Q _ => ∃ (a b : Addr) (ds ns : List Int), vs = [.ref a, .ref b] ∧ H a = some (.lst (ds.map V.int)) ∧ H b = some (.lst (ns.map V.int)) ∧ a ≠ b ∧ ns.length ≤ 300 ∧ ∀ p ls ps (ms : List Int) H', H' p = some (.lst (ls.map V.ref)) → PairsF H' ls ps → NeedsOk ps → ps.length ≤ 300 → H' a = some (.lst (ms.map V.int)) → But a H H' → H p = none → (∀ q ∈ ls, H q = none) → Q (.ref p) H'
section
variable {P : Program} {w : World} {K : PySem.W.Frag} {mg : Str → Option Value} {base : Heap} {A : Adr}
theorem ok__law_needs (T : Txt K mg A) : FnOk P w K mg base CX0 2 A.f__law_needs A.d__law_needs ["draws", "row"] (sp__law_needs K) := by
  have G__law_number := ok__law_number (P := P) (w := w) (base := base) T
  have G__law_take := ok__law_take (P := P) (w := w) (base := base) T
  refine T.F__law_needs.ok sc__law_needs (fun vs H Q E h => ?_) (fun cdv Ar outer s H vs Q E hr h => ?_)
  · obtain ⟨a, b, ds, ns, rfl, _⟩ := h
    rfl
  · obtain ⟨a, b, ds, ns, rfl, ha, hb, hab, hl, q⟩ := h
    refine ⟨_, (pss_cons (ps_set (i := 2) sc__law_needs.nd rfl (Or.inl rfl) (pe_lst pa_nil))
    (Evl.pss_cut (ps_if (PW.pt (pw_and (pt_cmpR (Ur.op_neDK (K := K) rfl hr.units) (pv 1) (pe_lst pa_nil) (nomark _)) (pw_and1 (pt_cmpR op_eq (pe_call G__law_take (hr.mono (by decide)) (by rfl) T.g__law_take T.F__law_take.kp T.b__law_take .nil pass0 (pa_cons (pv 0) (pa_cons pe_int pa_nil))) pe_int (nomark _))))) (pss_cons (ps_set (i := 3) sc__law_needs.nd rfl (Or.inl rfl) (pe_op op_mod (pe_call G__law_take (hr.mono (by decide)) (by rfl) T.g__law_take T.F__law_take.kp T.b__law_take .nil pass0 (pa_cons (pv 0) (pa_cons pe_int pa_nil))) (Ur.pe_b1 (Ur.call_lenIK (K := K) rfl) (by rfl) T.m_len (by decide +kernel) (pv 1))))
    (pss_cons (ps_set (i := 4) sc__law_needs.nd rfl (Or.inr rfl) pe_dnewK)
    (pss_cons (ps_for PassesOwn.never (by rfl) (pi_list (pe_slice (Ur.sl_listK (K := K) rfl) (pv 1) (po_some (pv 3)) (po_some (pe_op op_add (pe_op op_add (pv 3) pe_int) (pe_op op_mod (pe_call G__law_take (hr.mono (by decide)) (by rfl) T.g__law_take T.F__law_take.kp T.b__law_take .nil pass0 (pa_cons (pv 0) (pa_cons pe_int pa_nil))) (pe_op op_sub (Ur.pe_b1 (Ur.call_lenIK (K := K) rfl) (by rfl) T.m_len (by decide +kernel) (pv 1)) (pv 3))))))) (pg_name (i := 5) sc__law_needs.nd rfl (Or.inl rfl)) (pss_one (ps_dput (hu_of hr) (pv 4) (pv 5) (pe_op op_add (pe_dget2 (hu_of hr) (pv 4) (pv 5) pe_int ⟨rfl, rfl, rfl, rfl⟩) pe_int) rfl)))
    (pss_cons (ps_set (i := 6) sc__law_needs.nd rfl (Or.inr rfl) (pe_call G__law_take (hr.mono (by decide)) (by rfl) T.g__law_take T.F__law_take.kp T.b__law_take .nil pass0 (pa_cons (pv 0) (pa_cons pe_int pa_nil))))
    (pss_one (ps_ret (pe_lock (pe_lc (own := [("number", 5)]) (g := gName 5) (by rfl) sc__law_needs.nd (pi_keys (pv 4)) (blkOk_by (own := [("number", 5)]) (N := ["draws", "row", "found", "first", "often", "number", "once", "k", "times", "one"]) (by kernel_rfl)) (fun _ _ _ _ _ => pg_name (i := 5) sc__law_needs.nd rfl (Or.inl rfl)) (fun _ _ _ _ _ => pts_nil) (fun _ _ _ _ _ => (pe_tup (pa_cons (pv 5) (pa_cons (pe_ix (Ur.ix_listK (K := K) rfl) (pe_lst (pa_cons (pe_dget (hu_of hr) (pv 4) (pv 5) (fun _ _ => rfl)) (pa_cons pe_int pa_nil))) (pv 6) (fun _ _ => rfl)) pa_nil)))))))))))) pss_nil)
    (pss_cons (ps_for PassesOwn.never (by rfl) (pi_range1 (by rfl) T.m_range (pa_cons (pe_call G__law_take (hr.mono (by decide)) (by rfl) T.g__law_take T.F__law_take.kp T.b__law_take .nil pass0 (pa_cons (pv 0) (pa_cons pe_int pa_nil))) pa_nil)) (pg_name (i := 7) sc__law_needs.nd rfl (Or.inl rfl)) (pss_cons (ps_set (i := 5) sc__law_needs.nd rfl (Or.inl rfl) (pe_call G__law_number (hr.mono (by decide)) (by rfl) T.g__law_number T.F__law_number.kp T.b__law_number .nil pass0 (pa_cons (pe_call G__law_take (hr.mono (by decide)) (by rfl) T.g__law_take T.F__law_take.kp T.b__law_take .nil pass0 (pa_cons (pv 0) (pa_cons pe_int pa_nil))) (pa_cons (pe_call G__law_take (hr.mono (by decide)) (by rfl) T.g__law_take T.F__law_take.kp T.b__law_take .nil pass0 (pa_cons (pv 0) (pa_cons pe_int pa_nil))) pa_nil))))
    (Evl.pss_cut (ps_if (PW.pt (pw_and (pt_cmpR (Ur.op_neDK (K := K) rfl hr.units) (pv 1) (pe_lst pa_nil) (nomark _)) (pw_and1 (pt_cmpR op_gt (pe_call G__law_take (hr.mono (by decide)) (by rfl) T.g__law_take T.F__law_take.kp T.b__law_take .nil pass0 (pa_cons (pv 0) (pa_cons pe_int pa_nil))) pe_int (nomark _))))) (pss_one (ps_set (i := 5) sc__law_needs.nd rfl (Or.inl rfl) (pe_ix (Ur.ix_listK (K := K) rfl) (pv 1) (pe_call G__law_take (hr.mono (by decide)) (by rfl) T.g__law_take T.F__law_take.kp T.b__law_take .nil pass0 (pa_cons (pv 0) (pa_cons (Ur.pe_b1 (Ur.call_lenIK (K := K) rfl) (by rfl) T.m_len (by decide +kernel) (pv 1)) pa_nil))) (fun _ _ => rfl)))) pss_nil)
    (pss_one (ps_if (pt_cmpR (Ur.op_notIn_seqK (K := K) rfl) (pv 5) (pe_lc (own := [("one", 9), ("times", 8)]) (g := gTup K 2 (gCons (gName 9) (gCons (gName 8) gNil))) (by rfl) sc__law_needs.nd (pi_list (pv 2)) (blkOk_by (own := [("one", 9), ("times", 8)]) (N := ["draws", "row", "found", "first", "often", "number", "once", "k", "times", "one"]) (by kernel_rfl)) (fun _ _ _ _ _ => Ur.pg_tupK (K := K) rfl (by rfl) (pgs_cons (pg_name (i := 9) sc__law_needs.nd rfl (Or.inl rfl)) (pgs_cons (pg_name (i := 8) sc__law_needs.nd rfl (Or.inl rfl)) pgs_nil))) (fun _ _ _ _ _ => pts_nil) (fun _ _ _ _ _ => (pv 9))) rfl) (pss_cons (ps_set (i := 4) sc__law_needs.nd rfl (Or.inr rfl) (pe_bm PySem.F.plainAttrs_list PySem.F.slot_list_count PySem.F.type_list_count mt_lcount (pv 1) (pa_cons (pv 5) pa_nil)))
    (pss_cons (ps_set (i := 8) sc__law_needs.nd rfl (Or.inl rfl) (pe_ix (Ur.ix_listK (K := K) rfl) (pe_lst (pa_cons pe_int (pa_cons pe_int (pa_cons pe_int (pa_cons pe_int (pa_cons (Ur.pe_b2 (Ur.call_max2K rfl) (by rfl) T.m_max (by decide +kernel) pe_int (pv 4)) (pa_cons (pe_op op_add (pv 4) pe_int) (pa_cons (pe_op op_sub (pe_op op_pow pe_int pe_int) pe_int) pa_nil)))))))) (pe_call G__law_take (hr.mono (by decide)) (by rfl) T.g__law_take T.F__law_take.kp T.b__law_take .nil pass0 (pa_cons (pv 0) (pa_cons pe_int pa_nil))) (fun _ _ => rfl)))
    (pss_one (ps_expr (pe_bm PySem.F.plainAttrs_list PySem.F.slot_list_append PySem.F.type_list_append mt_append (pv 2) (pa_cons (pe_tup (pa_cons (pv 5) (pa_cons (pv 8) pa_nil))) pa_nil)))))) pss_nil)))))
    (pss_one (ps_ret (pv 2)))))), ?_⟩
    tb_start
    intro fo nfo
    have haf : a ≠ fo := by kcj_m
    have hbf : b ≠ fo := by kcj_m
    have s0 : Same H (upd H fo (.lst [])) := same_new nfo
    have ef0 : (upd H fo (.lst [])) fo = some (.lst []) := upd_same
    have ha0 := s0 _ _ ha
    have hb0 := s0 _ _ hb
    generalize (upd H fo (.lst [])) = H0 at *
    tb_start
    refine ⟨fun σ H' => Iv (∃ (u3 u4 u5 u6 u7 u8 u9 : Option V) (ms : List Int), σ = [some (.ref a), some (.ref b), some (.ref fo), u3, u4, u5, u6, u7, u8, u9] ∧ H' a = some (.lst (ms.map V.int)) ∧ But a H0 H'), ?_, ?_⟩
    · tb_start
      intro p1 np1
      have hap1 : a ≠ p1 := by kcj_m
      have hbp1 : b ≠ p1 := by kcj_m
      have hfp1 : fo ≠ p1 := by kcj_m
      tb_start
      refine brn (fun hne => ?_) (fun hne => ?_)
      · have hpos : 0 < ns.length := by
          rcases ns with _ | ⟨x, ns⟩
          · exact absurd rfl hne
          · exact Nat.succ_pos _
        tb_start
        intro n1 ms1 H1 h10 h11 a1 b1
        have eb1 := b1 _ _ (Ne.symm hab) (show (upd H0 p1 (.lst [])) b = some (.lst (ns.map V.int)) by kct_strs)
        have bH1 : But a H0 H1 := by cc_are
        clear b1 np1
        tb_start
        refine bri (fun hn1 => ?_) (fun hn1 => ?_)
        · tb_start
          intro n2 ms2 H2 h20 h21 a2 b2
          have eb2 := b2 _ _ (Ne.symm hab) eb1
          have bH2 := but_step b2 bH1
          clear b2 eb1 bH1 a1
          have hmod : 0 ≤ n2 % (ns.length : Int) ∧ n2 % (ns.length : Int) < ns.length := ⟨Int.emod_nonneg _ (by omega), Int.emod_lt_of_pos _ (by omega)⟩
          tb_start
          intro md nmd
          have fmd : H0 md = none := by cc_off
          have e_H3 : (upd H2 md (.dK [])) md = some (.dK []) := by first | exact Ur.lst_cast L2.upd_same (by rw [List.map_reverse]) | kct_strs
          have s_H3 : Same H2 (upd H2 md (.dK [])) := same_new nmd
          have b_H3 : But a H0 (upd H2 md (.dK [])) := by cc_are
          have f_H3 : H0 md = none := by cc_off
          repeat (rename H2 _ = some _ => hx; first | (have hN := Ur.nwA hx (nmd); have hb := Ur.Bx.mk hx; clear hx) | (have hN := Ur.nwA hx (Ur.upd_none (nmd)); have hb := Ur.Bx.mk hx; clear hx) | (have hN := Ur.nwA hx (Ur.upd_none (Ur.upd_none (nmd))); have hb := Ur.Bx.mk hx; clear hx) | (have hN := Ur.nwA hx (Ur.upd_none (Ur.upd_none (Ur.upd_none (nmd)))); have hb := Ur.Bx.mk hx; clear hx) | (have hN := Ur.nwA hx (Ur.upd_none (Ur.upd_none (Ur.upd_none (Ur.upd_none (nmd))))); have hb := Ur.Bx.mk hx; clear hx) | (have hN := Ur.nwA hx (Ur.upd_none (Ur.upd_none (Ur.upd_none (Ur.upd_none (Ur.upd_none (nmd)))))); have hb := Ur.Bx.mk hx; clear hx))
          repeat (rename Ur.Bx (_ = some _) => hb; have hx := hb.out; clear hb)
          try (have := Ne.symm (Ur.upd_none_ne (nmd)))
          try (have := Ne.symm (Ur.upd_none_ne (Ur.upd_none (nmd))))
          try (have := Ne.symm (Ur.upd_none_ne (Ur.upd_none (Ur.upd_none (nmd)))))
          try (have := Ne.symm (Ur.upd_none_ne (Ur.upd_none (Ur.upd_none (Ur.upd_none (nmd))))))
          try (have := Ne.symm (Ur.upd_none_ne (Ur.upd_none (Ur.upd_none (Ur.upd_none (Ur.upd_none (nmd)))))))
          generalize (upd H2 md (.dK [])) = H3 at *
          repeat (rename H2 _ = some _ => hx; first | (have hA := Ur.adv0 s_H3 hx; obtain ⟨hz, hw, hv⟩ := hA; clear hw hv hx; rename H3 _ = some _ => hq) | (have hA := Ur.adv1 s_H3 (by kcj_m) hx; obtain ⟨hz, hw, hv⟩ := hA; clear hw hv hx; rename H3 _ = some _ => hq) | (have hA := Ur.adv2 s_H3 (by kcj_m) (by kcj_m) hx; obtain ⟨hz, hw, hv⟩ := hA; clear hw hv hx; rename H3 _ = some _ => hq) | (have hA := Ur.adv3 s_H3 (by kcj_m) (by kcj_m) (by kcj_m) hx; obtain ⟨hz, hw, hv⟩ := hA; clear hw hv hx; rename H3 _ = some _ => hq) | (have hA := Ur.adv4 s_H3 (by kcj_m) (by kcj_m) (by kcj_m) (by kcj_m) hx; obtain ⟨hz, hw, hv⟩ := hA; clear hw hv hx; rename H3 _ = some _ => hq) | (have hA := Ur.adv5 s_H3 (by kcj_m) (by kcj_m) (by kcj_m) (by kcj_m) (by kcj_m) hx; obtain ⟨hz, hw, hv⟩ := hA; clear hw hv hx; rename H3 _ = some _ => hq) | (have hA := Ur.adv6 s_H3 (by kcj_m) (by kcj_m) (by kcj_m) (by kcj_m) (by kcj_m) (by kcj_m) hx; obtain ⟨hz, hw, hv⟩ := hA; clear hw hv hx; rename H3 _ = some _ => hq) | (have hA := Ur.adv7 s_H3 (by kcj_m) (by kcj_m) (by kcj_m) (by kcj_m) (by kcj_m) (by kcj_m) (by kcj_m) hx; obtain ⟨hz, hw, hv⟩ := hA; clear hw hv hx; rename H3 _ = some _ => hq) | clear hx)
          have eb3 : H3 b = some (.lst (ns.map V.int)) := by assumption
          have a3 : H3 a = some (.lst (ms2.map V.int)) := by assumption
          have hmda : md ≠ a := by kcj_m
          clear s_H3 bH2
          tb_start
          intro n4 ms4 H4 h40 h41 a4 b4
          have eb4 := b4 _ _ (Ne.symm hab) eb3
          have em4 := b4 _ _ hmda e_H3
          have bH4 := but_step b4 b_H3
          have hmod2 : 0 ≤ n4 % ((ns.length : Int) - n2 % (ns.length : Int)) ∧ n4 % ((ns.length : Int) - n2 % (ns.length : Int)) < (ns.length : Int) - n2 % (ns.length : Int) := ⟨Int.emod_nonneg _ (by omega), Int.emod_lt_of_pos _ (by omega)⟩
          clear b4 a3 eb3 e_H3 b_H3 f_H3
          have hcut := cutI_mid ns (a := (n2 % (ns.length : Int))) (b := (n2 % (ns.length : Int) + 1 + n4 % ((ns.length : Int) - n2 % (ns.length : Int)))) (by omega) (by omega)
          have hwl : ((ns.drop (n2 % (ns.length : Int)).toNat).take ((n2 % (ns.length : Int) + 1 + n4 % ((ns.length : Int) - n2 % (ns.length : Int))).toNat - (n2 % (ns.length : Int)).toNat)).length ≤ 300 := by rw [List.length_take, List.length_drop]; omega
          generalize ((ns.drop (n2 % (ns.length : Int)).toNat).take ((n2 % (ns.length : Int) + 1 + n4 % ((ns.length : Int) - n2 % (ns.length : Int))).toNat - (n2 % (ns.length : Int)).toNat)) = W at *
          tb_start
          intro p5 np5
          have hmp5 : md ≠ p5 := by kcj_m
          have hap5 : a ≠ p5 := by kcj_m
          have e5 : (upd H4 p5 (.lst (cutV (ns.map V.int) (some (n2 % (ns.length : Int))) (some (n2 % (ns.length : Int) + 1 + n4 % ((ns.length : Int) - n2 % (ns.length : Int))))))) p5 = some (.lst (W.map V.int)) := by rw [upd_same, hcut]
          have s5 : Same H4 (upd H4 p5 (.lst (cutV (ns.map V.int) (some (n2 % (ns.length : Int))) (some (n2 % (ns.length : Int) + 1 + n4 % ((ns.length : Int) - n2 % (ns.length : Int))))))) := same_new np5
          have em5 := s5 _ _ em4
          have a5 := s5 _ _ a4
          have bH5 := but_step' s5 bH4
          clear s5 np5 em4 a4 eb4 bH4
          generalize (upd H4 p5 (.lst (cutV (ns.map V.int) (some (n2 % (ns.length : Int))) (some (n2 % (ns.length : Int) + 1 + n4 % ((ns.length : Int) - n2 % (ns.length : Int))))))) = H5 at *
          tb_start
          refine for_ints (ns := W) (fun k σ H' => Iv (∃ (u5 : Option V), σ = [some (.ref a), some (.ref b), some (.ref fo), some (.int (n2 % (ns.length : Int))), some (.ref md), u5, none, none, none, none] ∧ H' md = some (.dK (cntK (W.take k))) ∧ H' p5 = some (.lst (W.map V.int)) ∧ H' a = some (.lst (ms4.map V.int)) ∧ But a H0 H')) ?i0 ?il ?is ?id
          case i0 => exact ⟨_, rfl, em5, e5, a5, bH5⟩
          case il =>
            rintro k σ H' hk ⟨u5, rfl, em, ep, ea, bb⟩
            exact .of ep
          case is =>
            rintro k x σ H' hk ⟨u5, rfl, em, ep, ea, bb⟩
            have hv := cntK_get (W.take k) x
            have hp := cntK_put (W.take k) x
            have hul := ulen_le (W.take k)
            rw [List.length_take] at hul
            have hll := cntK_len (W.take k)
            rw [← take_snoc hk] at hp
            tb_start
            exact ⟨_, rfl, by rw [← hp]; exact upd_same, by kct_strs, by kct_strs, by cc_are⟩
          case id =>
            rintro σ H6 ⟨u5, rfl, em, ep, ea, bb⟩
            rw [List.take_length] at em
            tb_start
            intro n7 ms7 H7 h70 h71 a7 b7
            have em7 := b7 _ _ hmda em
            have bH7 := but_step b7 bb
            have hul := ulen_le W
            clear b7 bb em ep ea
            refine ⟨md, _, em7, trivial, fun od => ?_⟩
            refine ⟨_, rfl, md, od, rfl, Or.inl ⟨_, upd_same, fun D nD => ?_⟩⟩
            have hDm : D ≠ md := fun e => by rw [e, upd_same] at nD; cases nD
            have hk1 : (cntK W).map Prod.fst = (uni W).map Sum.inl := by
              unfold cntK
              rw [List.map_map]
              rfl
            refine lc_keysP (us := uni W) (fun z => (z, [((W.count z : Nat) : Int), 1].getD n7.toNat 0)) hk1 (by have : (uni W).length = ulen W := rfl; omega) upd_same nD (fun _ => rfl) ?ke ?kd
            case ke =>
              intro z H8 hz s8 Q2 q2
              have em8 := s8 _ _ (upd_same (H := H7) (a := md) (o := .frz od (.dK (cntK W))))
              have hzW := (mem_uni W z).mp hz
              have hd8 : ∀ H9 : Hp, Same H8 H9 → DGet H9 md (.int z) (some (.int (W.count z : Nat))) := fun H9 s9 => dget_frz (s9 _ _ em8) (by rw [cntK_val, if_pos hzW])
              have hd8' := hd8 H8 (L2.Same.refl _)
              tb_start
              intro p9 np9
              tb_start
              intro q9 nq9
              exact q2 q9 _ (by kcj_in) upd_same (by cc_off)
            case kd =>
              intro H8 qs s8 e8 r8 f8
              refine ⟨s8 _ _ upd_same, ?_⟩
              have sL := same_lock em7 s8
              have hqm : ∀ z ∈ qs, z ≠ md := fun z hz e => by
                have := f8 z hz
                rw [e, upd_same] at this
                cases this
              have fq : ∀ z ∈ qs, H z = none := fun z hz => by
                have h1 : H7 z = none := by
                  have := f8 z hz
                  rwa [upd_ne (hqm z hz)] at this
                exact s0.free (but_free h1 bH7 a7)
              have fD : H D = none := by
                have h1 : H7 D = none := by rwa [upd_ne hDm] at nD
                exact s0.free (but_free h1 bH7 a7)
              have eD : (upd H8 md (.dK (cntK W))) D = some (.lst (qs.map V.ref)) := by rw [upd_ne hDm]; exact e8
              refine q D qs (cntN W n7) ms7 _ eD (ObjsF.upd r8 ⟨hqm⟩) (cntN_ok W h70 h71) (by rw [cntN_len]; omega) (sL _ _ a7) (but_step' sL (but_step bH7 (Same.but s0))) fD fq
        · exact ⟨_, _, _, _, _, _, _, ms1, rfl, a1, bH1⟩
      · exact ⟨_, _, _, _, _, _, _, ds, rfl, by kct_strs, by cc_are⟩
    rintro σ H1 ⟨u3, u4, u5, u6, u7, u8, u9, ms1, rfl, a1, b1⟩
    have eb1 := b1 _ _ (Ne.symm hab) hb0
    have ef1 := b1 _ _ (Ne.symm haf) ef0
    have fo0 : H fo = none := nfo
    tb_start
    intro n2 ms2 H2 h20 h21 a2 b2
    have eb2 := b2 _ _ (Ne.symm hab) eb1
    have ef2 := b2 _ _ (Ne.symm haf) ef1
    have bH2 := but_step b2 b1
    clear b2 b1 eb1 ef1 a1
    tb_start
    refine for_range (fun i σ H' => Iv (∃ (v3 v4 v5 v6 v7 v8 v9 : Option V) (ms : List Int) (ls : List Addr) (ps : List (Int × Int)), σ = [some (.ref a), some (.ref b), some (.ref fo), v3, v4, v5, v6, v7, v8, v9] ∧ H' a = some (.lst (ms.map V.int)) ∧ But a H H' ∧ H' fo = some (.lst (ls.map V.ref)) ∧ PairsF H' ls ps ∧ NeedsOk ps ∧ ps.length ≤ i ∧ (∀ q ∈ ls, H q = none))) ?h0 ?hs ?hd
    case h0 => exact ⟨_, _, _, _, _, _, _, ms2, [], [], rfl, a2, but_step bH2 (Same.but s0), ef2, PairsF.nil, NeedsOk.nil, Nat.le_refl _, fun q h => nomatch h⟩
    case hd =>
      rintro σ H' ⟨v3, v4, v5, v6, v7, v8, v9, ms, ls, ps, rfl, a3, b3, ef3, r3, ok3, hl3, f3⟩
      tb_start
      exact q fo ls ps ms _ ef3 r3 ok3 (by omega) a3 b3 nfo f3
    case hs =>
      rintro i σ H3 hi ⟨v3, v4, v5, v6, v7, v8, v9, ms, ls, ps, rfl, a3, b3, ef3, r3, ok3, hl3, f3⟩
      have eb3 := b3 _ _ (Ne.symm hab) hb
      clear a2 bH2 eb2 ef2
      tb_start
      intro n4 ms4 H4 h40 h41 a4 b4
      tb_start
      intro n5 ms5 H5 h50 h51 a5 b5
      have off3 := PairsF.offL r3 a3
      have haf3 : fo ≠ a := Ne.symm haf
      have r5 := ObjsF.but (ObjsF.but r3 b4 off3.out) b5 off3.out
      have ef5 := b5 _ _ haf3 (b4 _ _ haf3 ef3)
      have eb5 := b5 _ _ (Ne.symm hab) (b4 _ _ (Ne.symm hab) eb3)
      have bH5 := but_step b5 (but_step b4 b3)
      have hlen := r3.len
      clear b4 b5 a4 r3 ef3 eb3 b3 a3
      tb_start
      intro x6 H6 s6
      have r6 := ObjsF.same r5 s6
      have ef6 := s6 _ _ ef5
      have eb6 := s6 _ _ eb5
      have a6 := s6 _ _ a5
      have bH6 := but_step' s6 bH5
      clear s6 r5 ef5 eb5 a5 bH5
      tb_start
      refine ⟨fun σ H' => Iv (∃ (x : Int) (ms : List Int), σ = [some (.ref a), some (.ref b), some (.ref fo), v3, v4, some (.int x), v6, some (.int (0 + (i : Int))), v8, v9] ∧ H' a = some (.lst (ms.map V.int)) ∧ But a H H' ∧ H' fo = some (.lst (ls.map V.ref)) ∧ PairsF H' ls ps), ?_, ?_⟩
      · tb_start
        intro p1 np1
        have s1 : Same H6 (upd H6 p1 (.lst [])) := same_new np1
        have rX := ObjsF.same r6 s1
        have efX := s1 _ _ ef6
        have ebX := s1 _ _ eb6
        have aX := s1 _ _ a6
        have bHX := but_step' s1 bH6
        have e1X : (upd H6 p1 (.lst [])) p1 = some (.lst []) := upd_same
        clear s1 np1 r6 ef6 eb6 a6 bH6
        generalize (upd H6 p1 (.lst [])) = HX at *
        tb_start
        refine brn (fun hne => ?_) (fun hne => ?_)
        · have hpos : 0 < ns.length := by
            rcases ns with _ | ⟨x, ns⟩
            · exact absurd rfl hne
            · exact Nat.succ_pos _
          tb_start
          intro n7 ms7 H7 h70 h71 a7 b7
          have r7 := ObjsF.but rX b7 off3.out
          have ef7 := b7 _ _ haf3 efX
          have eb7 := b7 _ _ (Ne.symm hab) ebX
          have bH7 := but_step b7 bHX
          clear b7 rX efX ebX aX bHX e1X
          tb_start
          refine br (fun _ => ?_) (fun _ => ?_)
          · tb_start
            intro n8 ms8 H8 h80 h81 a8 b8
            have r8 := ObjsF.but r7 b8 off3.out
            have ef8 := b8 _ _ haf3 ef7
            have eb8 := b8 _ _ (Ne.symm hab) eb7
            have bH8 := but_step b8 bH7
            clear b8 r7 ef7 eb7 bH7 a7
            tb_start
            exact ⟨_, ms8, rfl, a8, bH8, ef8, r8⟩
          · exact ⟨_, ms7, rfl, a7, bH7, ef7, r7⟩
        · exact ⟨_, ms5, rfl, aX, bHX, efX, rX⟩
      rintro σ H7 ⟨x, ms7, rfl, a7, bH7, ef7, r7⟩
      have eb7 := bH7 _ _ (Ne.symm hab) hb
      clear r6 ef6 eb6 a6 bH6
      tb_start
      intro D nD
      refine lc_pairsI Prod.fst (by omega) (.of ef7) r7 nD (fun _ _ => rfl) ?ce ?cd
      case ce =>
        intro q H' hq s Q2 q2
        tb_start
        exact q2 _ (by kcj_in)
      case cd =>
        intro H8 s8 e8
        have r8 := ObjsF.same r7 s8
        have ef8 := s8 _ _ ef7
        have eb8 := s8 _ _ eb7
        have a8 := s8 _ _ a7
        have bH8 := but_step' s8 bH7
        clear s8 r7 ef7 eb7 a7 bH7 nD
        tb_start
        refine brn (fun hnm => ?_) (fun hnm => ?_)
        · tb_start
          intro p9 np9
          have e9 : (upd H8 p9 (.lst [.int 1, .int 1, .int 2, .int 3, .int (if (ns.count x : Int) > 1 then (ns.count x : Int) else 1), .int ((ns.count x : Int) + 1), .int (10 ^ Int.toNat 20 - 1)])) p9 = some (.lst [.int 1, .int 1, .int 2, .int 3, .int (if (ns.count x : Int) > 1 then (ns.count x : Int) else 1), .int ((ns.count x : Int) + 1), .int (10 ^ Int.toNat 20 - 1)]) := upd_same
          have hp9a : p9 ≠ a := by kcj_m
          have s9 : Same H8 (upd H8 p9 (.lst [.int 1, .int 1, .int 2, .int 3, .int (if (ns.count x : Int) > 1 then (ns.count x : Int) else 1), .int ((ns.count x : Int) + 1), .int (10 ^ Int.toNat 20 - 1)])) := same_new np9
          have r9 := ObjsF.same r8 s9
          have ef9 := s9 _ _ ef8
          have a9 := s9 _ _ a8
          have bH9 := but_step' s9 bH8
          clear s9 np9 r8 ef8 eb8 a8 bH8 e8
          generalize (upd H8 p9 (.lst [.int 1, .int 1, .int 2, .int 3, .int (if (ns.count x : Int) > 1 then (ns.count x : Int) else 1), .int ((ns.count x : Int) + 1), .int (10 ^ Int.toNat 20 - 1)])) = H9 at *
          tb_start
          intro n10 ms10 H10 h100 h101 a10 b10
          have r10 := ObjsF.but r9 b10 off3.out
          have ef10 := b10 _ _ haf3 ef9
          have e10 := b10 _ _ hp9a e9
          have bH10 := but_step b10 bH9
          clear b10 r9 ef9 e9 a9 bH9
          obtain ⟨t, hat, ht⟩ : ∃ t : Int, atI [V.int 1, V.int 1, V.int 2, V.int 3, V.int (if (ns.count x : Int) > 1 then (ns.count x : Int) else 1), V.int ((ns.count x : Int) + 1), V.int (10 ^ Int.toNat 20 - 1)] n10 = some (.int t) ∧ 1 ≤ t := by
            have hn : n10 = 0 ∨ n10 = 1 ∨ n10 = 2 ∨ n10 = 3 ∨ n10 = 4 ∨ n10 = 5 ∨ n10 = 6 := by omega
            rcases hn with rfl | rfl | rfl | rfl | rfl | rfl | rfl
            · exact ⟨_, rfl, by omega⟩
            · exact ⟨_, rfl, by omega⟩
            · exact ⟨_, rfl, by omega⟩
            · exact ⟨_, rfl, by omega⟩
            · exact ⟨_, rfl, by split <;> omega⟩
            · exact ⟨_, rfl, by omega⟩
            · exact ⟨_, rfl, by decide⟩
          have hlt : (ls.map V.ref).length < sizeLine := szl (by rw [List.length_map]; omega)
          tb_start
          intro pt npt
          have hft : fo ≠ pt := by kcj_m
          have hapt : a ≠ pt := by kcj_m
          have fpt : H pt = none := by cc_off
          tb_start
          refine ⟨_, _, _, _, _, _, _, ms10, ls ++ [pt], ps ++ [(x, t)], rfl, by kct_strs, by cc_are, ?_, ?_, ok3.snoc hnm ht, by rw [List.length_append]; show _ + 1 ≤ _; omega, fun q h => ?_⟩
          · rw [upd_same, List.map_append]; rfl
          · exact ObjsF.upd (PairsF.snoc (ObjsF.same r10 (same_new npt)) (x := x) (y := t) upd_same) ⟨fun z hz => by
              rcases List.mem_append.mp hz with h | h
              · exact (PairsF.offL r10 ef10).out z h
              · rw [List.mem_singleton.mp h]; exact Ne.symm hft⟩
          · rcases List.mem_append.mp h with h | h
            · exact f3 q h
            · rw [List.mem_singleton.mp h]; exact fpt
        · exact ⟨_, _, _, _, _, _, _, ms7, ls, ps, rfl, a8, bH8, ef8, r8, ok3, by omega, f3⟩
end
end Ur
namespace Ur
open PySem L2
/-- whether a thing is a whole number -/
def sp_is_whole (K : PySem.W.Frag) : Sp := fun vs H Q _ => ∃ (v : V) (b : Bool), vs = [v] ∧ IsW H v b ∧ Q (.bl b) H
section
variable {P : Program} {w : World} {K : PySem.W.Frag} {mg : Str → Option Value} {base : Heap} {A : Adr}
theorem ok_is_whole (T : Txt K mg A) : FnOk P w K mg base CX0 1 A.f_is_whole A.d_is_whole ["thing"] (sp_is_whole K) := by
  refine T.F_is_whole.ok sc_is_whole (fun vs H Q E h => ?_) (fun cdv Ar outer s H vs Q E hr h => ?_)
  · obtain ⟨v, b, rfl, _⟩ := h
    rfl
  · obtain ⟨v, b, rfl, hw, q⟩ := h
    refine ⟨_, (pss_one (ps_ret (pe_and (Ur.pe_b2 (Ur.call_isiK (K := K) rfl) (by rfl) T.m_isinstance (by decide +kernel) (pv 0) (pe_bltn (v := .ty "int") (by rfl) T.m_int (by decide +kernel) rfl)) (pe_one (pe_not (Ur.pe_b2 (Ur.call_isiK (K := K) rfl) (by rfl) T.m_isinstance (by decide +kernel) (pv 0) (pe_bltn (v := .ty "bool") (by rfl) T.m_bool (by decide +kernel) rfl))))))), ?_⟩
    rcases hw with ⟨rfl, i, rfl⟩ | ⟨rfl, hk, hn⟩
    · tb_start
      exact q
    · rcases hk with ⟨i, rfl⟩ | ⟨c, rfl⟩ | ⟨x, rfl⟩ | rfl | ⟨p, xs, rfl, hp⟩ | ⟨p, xs, rfl, hp⟩ | ⟨p, xs, rfl, hp⟩
      · exact (hn i rfl).elim
      all_goals
        tb_start
        exact q
end
end Ur
namespace Ur
open PySem L2
/-- the dict of what is needed; other things are refused -/
def sp_times_needed (K : PySem.W.Frag) (W : Addr) : Sp := fun vs H Q E => ∃ (v : V), vs = [v] ∧ ((∃ (a : Addr) (ls : List Addr) (ps : List (Int × Int)), v = .ref a ∧ H a = some (.lst (ls.map V.ref)) ∧ PairsF H ls ps ∧ NeedsOk ps ∧ ps.length ≤ 1000 ∧ ∀ p H', H' p = some (.dK (lackK ps [])) → Same H H' → H p = none → Q (.ref p) H') ∨ (BadNs H v ∧ ∀ H', Same H H' → E (.ref W) none H'))
section
variable {P : Program} {w : World} {K : PySem.W.Frag} {mg : Str → Option Value} {base : Heap} {A : Adr}
theorem ok_times_needed (T : Txt K mg A) : FnOk P w K mg base (L2.CX P w) 2 A.f_times_needed A.d_times_needed ["needs"] (sp_times_needed K A.c_NoNeeds) := by
  have G_is_whole := ok_is_whole (P := P) (w := w) (base := base) T
  refine T.F_times_needed.okX sc_times_needed (fun vs H Q E h => ?_) (fun cdv Ar outer s H vs Q E hr h => ?_)
  · obtain ⟨v, rfl, _⟩ := h
    rfl
  · obtain ⟨v, rfl, h⟩ := h
    refine ⟨_, (pss_cons (ps_if (pt_not (pt_val (Ur.pe_b2 (Ur.call_isiK (K := K) rfl) (by rfl) T.m_isinstance (by decide +kernel) (pv 0) (pe_bltn (v := .ty "list") (by rfl) T.m_list (by decide +kernel) rfl)))) (pss_one (ps_raise rfl (takes_of rfl rfl rfl rfl) (pmk_own PySem.F.excBase_ValueError T.x_NoNeeds T.g_NoNeeds T.k_NoNeeds (raises_own T.b_NoNeeds T.t_NoNeeds) (by exact rfl)))) pss_nil)
    (pss_cons (ps_set (i := 1) sc_times_needed.nd rfl (Or.inl rfl) pe_dnewK)
    (pss_cons (ps_for (passes_of rfl) (by rfl) (pi_list (pv 0)) (pg_name (i := 2) sc_times_needed.nd rfl (Or.inl rfl)) (pss_cons (ps_if (PW.pt (pw_or (pt_not (pt_val (Ur.pe_b2 (Ur.call_isiK (K := K) rfl) (by rfl) T.m_isinstance (by decide +kernel) (pv 2) (pe_bltn (v := .ty "tuple") (by rfl) T.m_tuple (by decide +kernel) rfl)))) (pw_or (pt_cmpR op_ne (Ur.pe_b1 (Ur.call_lenIK (K := K) rfl) (by rfl) T.m_len (by decide +kernel) (pv 2)) pe_int (nomark _)) (pw_or (pt_not (pt_val (pe_call G_is_whole (hr.mono (by decide)) (by rfl) T.g_is_whole T.F_is_whole.kp T.b_is_whole .nil pass0 (pa_cons (pe_ix (Ur.ix_tupK (K := K) rfl) (pv 2) pe_int (fun _ _ => rfl)) pa_nil)))) (pw_or1 (pt_not (pt_val (pe_call G_is_whole (hr.mono (by decide)) (by rfl) T.g_is_whole T.F_is_whole.kp T.b_is_whole .nil pass0 (pa_cons (pe_ix (Ur.ix_tupK (K := K) rfl) (pv 2) pe_int (fun _ _ => rfl)) pa_nil))))))))) (pss_one (ps_raise rfl (takes_of rfl rfl rfl rfl) (pmk_own PySem.F.excBase_ValueError T.x_NoNeeds T.g_NoNeeds T.k_NoNeeds (raises_own T.b_NoNeeds T.t_NoNeeds) (by exact rfl)))) pss_nil)
    (pss_cons (ps_if (PW.pt (pw_or (pt_cmpR op_lt (pe_ix (Ur.ix_tupK (K := K) rfl) (pv 2) pe_int (fun _ _ => rfl)) pe_int (nomark _)) (pw_or1 (pt_cmp (pc_din (hu_of hr) (pe_ix (Ur.ix_tupK (K := K) rfl) (pv 2) pe_int (fun _ _ => rfl)) (pv 1)))))) (pss_one (ps_raise rfl (takes_of rfl rfl rfl rfl) (pmk_own PySem.F.excBase_ValueError T.x_NoNeeds T.g_NoNeeds T.k_NoNeeds (raises_own T.b_NoNeeds T.t_NoNeeds) (by exact rfl)))) pss_nil)
    (pss_one (ps_dput (hu_of hr) (pv 1) (pe_ix (Ur.ix_tupK (K := K) rfl) (pv 2) pe_int (fun _ _ => rfl)) (pe_ix (Ur.ix_tupK (K := K) rfl) (pv 2) pe_int (fun _ _ => rfl)) rfl)))))
    (pss_one (ps_ret (pv 1)))))), ?_⟩
    rcases h with ⟨a, ls, ps, rfl, ha, r, ok, hl, q⟩ | ⟨⟨hk, hn⟩ | ⟨a, ls, ps, x, post, rfl, ha, r, ok, hl, hb⟩, q⟩
    · have hrl := r.len
      tb_start
      intro md nmd
      have ham : a ≠ md := by kcj_m
      tb_start
      refine for_list (xs := ls.map V.ref) (fun k σ H' => Iv (∃ (u2 : Option V), σ = [some (.ref a), some (.ref md), u2] ∧ H' md = some (.dK (lackK (ps.take k) [])) ∧ Same H H')) ?h0 ?hl ?hs ?hd
      case h0 => exact ⟨_, rfl, upd_same, by kcj_in⟩
      case hl =>
        rintro k σ H' hk ⟨u2, rfl, em, s⟩
        exact .of (s _ _ ha)
      case hd =>
        rintro σ H' ⟨u2, rfl, em, s⟩
        rw [List.length_map, hrl, List.take_length] at em
        tb_start
        exact q _ _ em s nmd
      case hs =>
        rintro k x σ H' hx ⟨u2, rfl, em, s⟩
        rw [List.getElem?_map] at hx
        obtain ⟨l, hl2, rfl⟩ := Option.map_eq_some_iff.mp hx
        obtain ⟨hk, h3⟩ := r.get hl2
        have e4 := s _ _ h3
        have hq : ps[k]? = some (ps.getD k (0, 0)) := by rw [List.getD_eq_getElem?_getD, List.getElem?_eq_getElem hk]; rfl
        have hn := need_take ok.nd hq
        have hp := ok.pos _ (List.mem_of_getElem? hq)
        have hv := val_none (W := []) hn
        have hpn := put_new (y := (ps.getD k (0, 0)).2) hn
        have hts : ps.take (k + 1) = ps.take k ++ [ps.getD k (0, 0)] := by rw [List.take_add_one, hq]; rfl
        have hll := lackK_len (ps.take k) []
        rw [List.length_take] at hll
        generalize ps.getD k (0, 0) = qq at *
        obtain ⟨x, y⟩ := qq
        tb_start
        rw [hv]
        tb_start
        refine ⟨_, rfl, ?_, by kcj_in⟩
        rw [hts, ← hpn]
        kct_strs
    · rcases Kind.isList (K := K) hk with ⟨p, xs, rfl, e⟩ | ⟨hn', t, ty, kb⟩
      · exact absurd e (hn p xs rfl)
      · tb_start
        exact q _ (by kcj_in)
    · have hrl := r.len
      have hxl : (ls.map V.ref ++ x :: post).length = ls.length + 1 + post.length := by rw [List.length_append, List.length_map, List.length_cons]; omega
      tb_start
      intro md nmd
      have ham : a ≠ md := by kcj_m
      tb_start
      refine for_list (xs := ls.map V.ref ++ x :: post) (fun k σ H' => Iv (∃ (u2 : Option V), σ = [some (.ref a), some (.ref md), u2] ∧ k ≤ ls.length ∧ H' md = some (.dK (lackK (ps.take k) [])) ∧ Same H H')) ?g0 ?gl ?gs ?gd
      case g0 => exact ⟨_, rfl, Nat.zero_le _, upd_same, by kcj_in⟩
      case gl =>
        rintro k σ H' hk ⟨u2, rfl, kl, em, s⟩
        exact .of (s _ _ ha)
      case gd =>
        rintro σ H' ⟨u2, rfl, kl, em, s⟩
        rw [hxl] at kl
        omega
      case gs =>
        rintro k y σ H' hx ⟨u2, rfl, kl, em, s⟩
        by_cases hkk : k < ls.length
        · rw [List.getElem?_append_left (by rw [List.length_map]; exact hkk), List.getElem?_map] at hx
          obtain ⟨l, hl2, rfl⟩ := Option.map_eq_some_iff.mp hx
          obtain ⟨hk, h3⟩ := r.get hl2
          have e4 := s _ _ h3
          have hq : ps[k]? = some (ps.getD k (0, 0)) := by rw [List.getD_eq_getElem?_getD, List.getElem?_eq_getElem hk]; rfl
          have hn := need_take ok.nd hq
          have hp := ok.pos _ (List.mem_of_getElem? hq)
          have hv := val_none (W := []) hn
          have hpn := put_new (y := (ps.getD k (0, 0)).2) hn
          have hts : ps.take (k + 1) = ps.take k ++ [ps.getD k (0, 0)] := by rw [List.take_add_one, hq]; rfl
          have hll := lackK_len (ps.take k) []
          rw [List.length_take] at hll
          generalize ps.getD k (0, 0) = qq at *
          obtain ⟨x, y⟩ := qq
          tb_start
          rw [hv]
          tb_start
          refine ⟨_, rfl, hkk, ?_, by kcj_in⟩
          rw [hts, ← hpn]
          kct_strs
        · have hke : k = ls.length := by omega
          subst hke
          rw [List.getElem?_append_right (by rw [List.length_map]; exact Nat.le_refl _), List.length_map, Nat.sub_self] at hx
          cases hx
          rw [hrl, List.take_length] at em
          have hb1 := hb.same s
          have q1 := fun (H4 : Hp) (s4 : Same H' H4) => q H4 (s.trans s4)
          clear hb
          obtain ⟨kx, n | ⟨p, ys, rfl, ep, hyl, hys⟩⟩ := hb1
          · rcases Kind.isTup (K := K) kx with ⟨p, ys, rfl, e⟩ | ⟨hn', t, ty, kb⟩
            · exact absurd e (n p ys rfl)
            · tb_start
              exact q1 _ (by kcj_in)
          · by_cases hy2 : ys.length = 2
            · rcases hys with hys | ⟨u, w, rfl, ku, kw, hf⟩
              · exact absurd hy2 hys
              rcases ku.whole with ⟨n, rfl⟩ | ⟨hno, hw⟩
              · rcases kw.whole with ⟨m, rfl⟩ | ⟨hno, hw⟩
                · by_cases hm : m < 1
                  · tb_start
                    exact q1 _ (Same.refl _)
                  · obtain ⟨z, hz⟩ := val_lack ((hf n m rfl rfl).resolve_left hm)
                    tb_start
                    rw [hz]
                    tb_start
                    exact q1 _ (Same.refl _)
                · tb_start
                  exact q1 _ (Same.refl _)
              · tb_start
                exact q1 _ (Same.refl _)
            · tb_start
              refine brni (fun _ => ?_) (fun h => absurd h (by omega))
              exact q1 _ (Same.refl _)
end
end Ur
namespace Ur
open PySem L2
/-- the least behinds of windows that hold; other needs are refused -/
def sp_ends_holding (K : PySem.W.Frag) (W : Addr) : Sp := fun vs H Q E => ∃ (a : Addr) (v : V) (ns : List Int), vs = [.ref a, v] ∧ H a = some (.lst (ns.map V.int)) ∧ ((∃ (c : Addr) (ls : List Addr) (ps : List (Int × Int)), v = .ref c ∧ H c = some (.lst (ls.map V.ref)) ∧ PairsF H ls ps ∧ NeedsOk ps ∧ ps.length ≤ 1000 ∧ ns.length ≤ 1000 ∧ ∀ p H', H' p = some (.lst (endsTo ns ps (ns.length + 1))) → Same H H' → H p = none → Q (.ref p) H') ∨ (BadNs H v ∧ ∀ H', Same H H' → E (.ref W) none H'))
section
variable {P : Program} {w : World} {K : PySem.W.Frag} {mg : Str → Option Value} {base : Heap} {A : Adr}
theorem ok_ends_holding (T : Txt K mg A) : FnOk P w K mg base (L2.CX P w) 3 A.f_ends_holding A.d_ends_holding ["row", "needs"] (sp_ends_holding K A.c_NoNeeds) := by
  have G_times_needed := ok_times_needed (P := P) (w := w) (base := base) T
  refine T.F_ends_holding.okX sc_ends_holding (fun vs H Q E h => ?_) (fun cdv Ar outer s H vs Q E hr h => ?_)
  · obtain ⟨a, v, ns, rfl, _⟩ := h
    rfl
  · obtain ⟨a, v, ns, rfl, ha, h⟩ := h
    refine ⟨_, (pss_cons (ps_set (i := 2) sc_ends_holding.nd rfl (Or.inl rfl) (pe_callS G_times_needed (hr.mono (by decide)) (by rfl) T.g_times_needed T.F_times_needed.kp T.b_times_needed (fun σ => passAt (takes_of rfl rfl rfl rfl) σ) (pa_cons (pv 1) pa_nil)))
    (pss_cons (ps_set (i := 3) sc_ends_holding.nd rfl (Or.inl rfl) (UrD.pe_sumVals (by rfl) T.m_sum (pv 2)))
    (pss_cons (ps_set (i := 4) sc_ends_holding.nd rfl (Or.inl rfl) (pe_lst pa_nil))
    (pss_cons (ps_set (i := 5) sc_ends_holding.nd rfl (Or.inl rfl) pe_int)
    (pss_cons (ps_for (passes_of rfl) (by rfl) (pi_range1 (by rfl) T.m_range (pa_cons (pe_op op_add (Ur.pe_b1 (Ur.call_lenIK (K := K) rfl) (by rfl) T.m_len (by decide +kernel) (pv 0)) pe_int) pa_nil)) (pg_name (i := 6) sc_ends_holding.nd rfl (Or.inl rfl)) (Evl.pss_cut (ps_while (passes_of rfl) (PW.pt (pw_and (pt_cmpR op_gt (pv 3) pe_int (nomark _)) (pw_and1 (pt_cmpR op_lt (pv 5) (Ur.pe_b1 (Ur.call_lenIK (K := K) rfl) (by rfl) T.m_len (by decide +kernel) (pv 0)) (nomark _))))) (pss_cons (ps_set (i := 7) sc_ends_holding.nd rfl (Or.inl rfl) (pe_ix (Ur.ix_listK (K := K) rfl) (pv 0) (pv 5) (fun _ _ => rfl)))
    (pss_cons (ps_if (pt_cmp (pc_din (hu_of hr) (pv 7) (pv 2))) (pss_cons (ps_aug (i := 3) sc_ends_holding.nd rfl (Or.inl rfl) (Ur.pe_t1 call_int1 (by rfl) T.m_int (by decide +kernel) (pe_cmpR op_gt (pe_dget (hu_of hr) (pv 2) (pv 7) (fun _ _ => rfl)) pe_int (nomark _))) ip_sub)
    (pss_one (ps_daug (hu_of hr) (pv 2) (pv 7) pe_int in_sub (fun _ _ _ => rfl)))) pss_nil)
    (pss_one (ps_aug (i := 5) sc_ends_holding.nd rfl (Or.inl rfl) pe_int ip_add)))))
    (pss_cons (ps_expr (pe_bm PySem.F.plainAttrs_list PySem.F.slot_list_append PySem.F.type_list_append mt_append (pv 4) (pa_cons (pe_ix (Ur.ix_listK (K := K) rfl) (pe_lst (pa_cons pe_non (pa_cons (Ur.pe_b2 (Ur.call_max2K rfl) (by rfl) T.m_max (by decide +kernel) (pv 6) (pv 5)) pa_nil))) (Ur.pe_t1 call_int1 (by rfl) T.m_int (by decide +kernel) (pe_cmpR op_eq (pv 3) pe_int (nomark _))) (fun _ _ => rfl)) pa_nil)))
    (pss_one (ps_if (PW.pt (pw_and (pt_cmpR op_lt (pv 6) (Ur.pe_b1 (Ur.call_lenIK (K := K) rfl) (by rfl) T.m_len (by decide +kernel) (pv 0)) (nomark _)) (pw_and1 (pt_cmp (pc_din (hu_of hr) (pe_ix (Ur.ix_listK (K := K) rfl) (pv 0) (pv 6) (fun _ _ => rfl)) (pv 2)))))) (pss_cons (ps_daug (hu_of hr) (pv 2) (pe_ix (Ur.ix_listK (K := K) rfl) (pv 0) (pv 6) (fun _ _ => rfl)) pe_int in_add (fun _ _ _ => rfl))
    (pss_one (ps_aug (i := 3) sc_ends_holding.nd rfl (Or.inl rfl) (Ur.pe_t1 call_int1 (by rfl) T.m_int (by decide +kernel) (pe_cmpR op_gt (pe_dget (hu_of hr) (pv 2) (pe_ix (Ur.ix_listK (K := K) rfl) (pv 0) (pv 6) (fun _ _ => rfl)) (fun _ _ => rfl)) pe_int (nomark _))) ip_add))) pss_nil)))))
    (pss_one (ps_ret (pv 4)))))))), ?_⟩
    rcases h with ⟨c, ls, ps, rfl, hc, r, ok, hpl, hl, q⟩ | ⟨hb, q⟩
    · skip
      tb_start
      refine .inl ?_
      tb_start
      intro md H1 em s1 n1
      have ha1 := s1 _ _ ha
      have hsnd := lackK_snd ps
      have h0 := lackN_0 ok.pos
      have hss : (lackK ps []).map Prod.snd = (ps.map Prod.snd).map V.int := hsnd
      have ham : md ≠ a := fun e => by rw [e, ha] at n1; cases n1
      tb_start
      intro el nel
      have hel : el ≠ md := fun e => by rw [e, em] at nel; cases nel
      have hea : el ≠ a := fun e => by rw [e, ha1] at nel; cases nel
      have fel : H el = none := s1.free nel
      tb_start
      refine for_range (fun i σ H' => Iv (∃ (u6 u7 : Option V) (bI lI : Int), σ = [some (.ref a), some (.ref c), some (.ref md), some (.int lI), some (.ref el), some (.int bI), u6, u7] ∧ (i ≤ ns.length → ∃ b : Nat, bI = (b : Int) ∧ lI = lackN ps (hWin ns i b) ∧ HInv ns ps i b ∧ H' md = some (.dK (lackK ps (hWin ns i b)))) ∧ H' el = some (.lst (endsTo ns ps i)) ∧ Same H H')) ?h0 ?hs ?hd
      case h0 =>
        refine ⟨_, _, _, _, rfl, fun _ => ⟨0, rfl, ?_, HInv.zero ns ps, ?_⟩, by kct_strs, by kcj_in⟩
        · rw [hWin_nil ns (Nat.le_refl 0), h0]
        · rw [hWin_nil ns (Nat.le_refl 0)]; kct_strs
      case hd =>
        rintro σ H' ⟨u6, u7, bI, lI, rfl, _, ee', s⟩
        have en : ((ns.length : Int) + 1).toNat = ns.length + 1 := by omega
        try rw [en] at ee'
        tb_start
        exact q el _ ee' s fel
      case hs =>
        rintro i σ H' hi ⟨u6, u7, bI, lI, rfl, hv, ee', s⟩
        have ha' := s _ _ ha
        have hi2 : i ≤ ns.length := by omega
        obtain ⟨b, rfl, rfl, v, em'⟩ := hv hi2
        refine ⟨fun σ H' => Iv (∃ (u7 : Option V) (b : Nat), σ = [some (.ref a), some (.ref c), some (.ref md), some (.int (lackN ps (hWin ns i b))), some (.ref el), some (.int (b : Int)), some (.int (0 + (i : Int))), u7] ∧ HInv ns ps i b ∧ ¬ (0 < lackN ps (hWin ns i b) ∧ b < ns.length) ∧ H' md = some (.dK (lackK ps (hWin ns i b))) ∧ H' el = some (.lst (endsTo ns ps i)) ∧ Same H H'), ?_, ?_⟩
        · tb_start
          refine while_iv (fun mu σ H' => Iv (∃ (u7 : Option V) (b : Nat), σ = [some (.ref a), some (.ref c), some (.ref md), some (.int (lackN ps (hWin ns i b))), some (.ref el), some (.int (b : Int)), some (.int (0 + (i : Int))), u7] ∧ HInv ns ps i b ∧ mu = ns.length - b ∧ H' md = some (.dK (lackK ps (hWin ns i b))) ∧ H' el = some (.lst (endsTo ns ps i)) ∧ Same H H')) (ns.length - b) ?g0 ?gs
          case g0 => exact ⟨_, b, rfl, v, rfl, em', ee', s⟩
          case gs =>
            rintro mu σ H2 ⟨u7, b2, rfl, v2, rfl, em2, ee2, s2⟩
            have ha2 := s2 _ _ ha
            refine ⟨decide (0 < lackN ps (hWin ns i b2) ∧ b2 < ns.length), fun Q' q' => ?_, fun hlt => ?_, fun hge => ?_⟩
            · tb_start
              refine br (fun h1 => ?_) (fun h1 => ?_)
              · tb_start
                exact qbl q' (decide_eq_decide.mpr ⟨fun h => ⟨h1, by omega⟩, fun h => by omega⟩)
              · exact qbl q' (decide_eq_false (fun h => h1 h.1)).symm
            · have hlt' := of_decide_eq_true hlt
              have vs := v2.step hlt'.2 hlt'.1
              have hib : i ≤ b2 := v2.ne fun e => by
                have := hlt'.1
                rw [e] at this
                exact absurd (show (0 : Int) < 0 from this) (by decide)
              have hup := hWin_up hib hlt'.2
              have hat : atI (ns.map V.int) ((b2 : Nat) : Int) = some (.int (ns.getD b2 0)) := at_int (get_of hlt'.2)
              generalize ns.getD b2 0 = x at *
              cases hn : needOf ps x with
              | none =>
                have hv := val_none (W := hWin ns i b2) hn
                obtain ⟨hk1, hk2⟩ := lack_none (W := hWin ns i b2) hn
                tb_start
                rw [hv]
                tb_start
                refine ⟨ns.length - (b2 + 1), by omega, _, b2 + 1, by rw [hup, hk2]; rfl, vs, rfl, ?_, by kct_strs, by kcj_in⟩
                rw [hup, hk1]
                kct_strs
              | some t =>
                have hv := val_some (W := hWin ns i b2) hn
                have hp := put_lack (W := hWin ns i b2) ok.nd hn
                have hk2 := lackN_up (W := hWin ns i b2) ok.nd hn
                have hd := dget_some em2 hv
                have hll := lackK_len ps (hWin ns i b2)
                tb_start
                refine ⟨ns.length - (b2 + 1), by omega, _, b2 + 1, by rw [hup, hk2]; rfl, vs, rfl, ?_, by kct_strs, by kcj_in⟩
                rw [hup, ← hp]
                kct_strs
            · exact ⟨_, b2, rfl, v2, of_decide_eq_false hge, em2, ee2, s2⟩
        rintro σ H2 ⟨u7, b2, rfl, v2, hno, em2, ee2, s2⟩
        have ha2 := s2 _ _ ha
        have htold := v2.told ok hi2 hno
        tb_start
        intro p np
        have hmp : md ≠ p := by kcj_m
        have hlp : el ≠ p := by kcj_m
        have hap : a ≠ p := by kcj_m
        have hat : atI [V.non, V.int (if (b2 : Int) > 0 + (i : Int) then (b2 : Int) else 0 + (i : Int))] (if decide (V.int (lackN ps (hWin ns i b2)) = V.int 0) = true then 1 else 0) = some (optV (hEnd ns ps i)) := by
          rcases htold with ⟨h1, h2⟩ | ⟨h1, h2⟩
          · rw [h1, h2]
            show some (V.int _) = some (V.int _)
            congr 2
            split <;> split <;> omega
          · have hf : decide (V.int (lackN ps (hWin ns i b2)) = V.int 0) = false := decide_eq_false (fun e => by injection e with e; omega)
            rw [h2, hf]
            rfl
        have hel2 : (endsTo ns ps i).length ≤ 1000 := by rw [endsTo_len]; exact Nat.le_trans hi2 hl
        have hes := endsTo_s ns ps i
        tb_start
        have emX : (upd (upd H2 p (.lst [.non, .int (if (b2 : Int) > 0 + (i : Int) then (b2 : Int) else 0 + (i : Int))])) el (.lst (endsTo ns ps i ++ [optV (hEnd ns ps i)]))) md = some (.dK (lackK ps (hWin ns i b2))) := by kct_strs
        have eaX : (upd (upd H2 p (.lst [.non, .int (if (b2 : Int) > 0 + (i : Int) then (b2 : Int) else 0 + (i : Int))])) el (.lst (endsTo ns ps i ++ [optV (hEnd ns ps i)]))) a = some (.lst (ns.map V.int)) := by kct_strs
        have eeX : (upd (upd H2 p (.lst [.non, .int (if (b2 : Int) > 0 + (i : Int) then (b2 : Int) else 0 + (i : Int))])) el (.lst (endsTo ns ps i ++ [optV (hEnd ns ps i)]))) el = some (.lst (endsTo ns ps (i + 1))) := by rw [hes]; exact upd_same
        have sX : Same H (upd (upd H2 p (.lst [.non, .int (if (b2 : Int) > 0 + (i : Int) then (b2 : Int) else 0 + (i : Int))])) el (.lst (endsTo ns ps i ++ [optV (hEnd ns ps i)]))) := by kcj_in
        generalize (upd (upd H2 p (.lst [.non, .int (if (b2 : Int) > 0 + (i : Int) then (b2 : Int) else 0 + (i : Int))])) el (.lst (endsTo ns ps i ++ [optV (hEnd ns ps i)]))) = HX at *
        clear em2 ee2 s2 ha2 np
        refine br (fun hfi => ?_) (fun hfi => ?_)
        · have hfn : i < ns.length := by omega
          obtain ⟨vn, hlt⟩ := v2.next ok hfn hno
          have hat2 : atI (ns.map V.int) (0 + (i : Int)) = some (.int (ns.getD i 0)) := by
            rw [show (0 + (i : Int)) = ((i : Nat) : Int) from by omega]
            exact at_int (get_of hfn)
          have hd0 := HInv.drop0 hlt hfn
          have hd1 := fun t => HInv.drop1 (t := t) ok.nd hlt hfn
          generalize ns.getD i 0 = x at *
          cases hn : needOf ps x with
          | none =>
            have hv := val_none (W := hWin ns i b2) hn
            obtain ⟨hk1, hk2⟩ := hd0 hn
            tb_start
            rw [hv]
            tb_start
            exact ⟨_, _, _, _, rfl, fun _ => ⟨b2, rfl, hk2.symm, vn, by rw [hk1]; exact emX⟩, eeX, sX⟩
          | some t =>
            have hv := val_some (W := hWin ns i b2) hn
            obtain ⟨hk1, hk2⟩ := hd1 t hn
            have hd := dget_some emX hv
            have hll := lackK_len ps (hWin ns i b2)
            have hd3 : DGet (upd HX md (.dK (putK (lackK ps (hWin ns i b2)) (Sum.inl x) (V.int (t - ((hWin ns i b2).count x : Int) + 1))))) md (.int x) (some (.int (t - ((hWin ns i b2).count x : Int) + 1))) := dget_some upd_same (by rw [val_put, if_pos rfl])
            tb_start
            refine ⟨_, _, _, _, rfl, fun _ => ⟨b2, rfl, hk2.symm, vn, by rw [← hk1]; exact upd_same⟩, by kct_strs, by kcj_in⟩
        · exact ⟨_, _, _, _, rfl, fun h => absurd h (by omega), eeX, sX⟩
    · tb_start
      refine .inr ⟨hb, fun H1 s1 => ?_⟩
      exact q _ s1
end
end Ur
namespace Ur
open PySem L2
/-- the tight windows: a new list of new pairs; other needs are refused -/
def sp_tight_holding (K : PySem.W.Frag) (W : Addr) : Sp := fun vs H Q E => ∃ (a : Addr) (v : V) (ns : List Int), vs = [.ref a, v] ∧ H a = some (.lst (ns.map V.int)) ∧ ((∃ (c : Addr) (ls : List Addr) (ps : List (Int × Int)), v = .ref c ∧ H c = some (.lst (ls.map V.ref)) ∧ PairsF H ls ps ∧ NeedsOk ps ∧ ps.length ≤ 1000 ∧ ns.length ≤ 1000 ∧ ∀ p ts H', H' p = some (.lst (ts.map V.ref)) → PairsF H' ts (tightL ns ps) → (∀ q ∈ ts, H q = none) → Same H H' → H p = none → Q (.ref p) H') ∨ (BadNs H v ∧ ∀ H', Same H H' → E (.ref W) none H'))
section
variable {P : Program} {w : World} {K : PySem.W.Frag} {mg : Str → Option Value} {base : Heap} {A : Adr}
theorem ok_tight_holding (T : Txt K mg A) : FnOk P w K mg base (L2.CX P w) 4 A.f_tight_holding A.d_tight_holding ["row", "needs"] (sp_tight_holding K A.c_NoNeeds) := by
  have G_ends_holding := ok_ends_holding (P := P) (w := w) (base := base) T
  refine T.F_tight_holding.okX sc_tight_holding (fun vs H Q E h => ?_) (fun cdv Ar outer s H vs Q E hr h => ?_)
  · obtain ⟨a, v, ns, rfl, _⟩ := h
    rfl
  · obtain ⟨a, v, ns, rfl, ha, h⟩ := h
    refine ⟨_, (pss_cons (ps_set (i := 2) sc_tight_holding.nd rfl (Or.inl rfl) (pe_callS G_ends_holding (hr.mono (by decide)) (by rfl) T.g_ends_holding T.F_ends_holding.kp T.b_ends_holding (fun σ => passAt (takes_of rfl rfl rfl rfl) σ) (pa_cons (pv 0) (pa_cons (pv 1) pa_nil))))
    (pss_cons (ps_set (i := 3) sc_tight_holding.nd rfl (Or.inl rfl) (pe_lst pa_nil))
    (pss_cons (ps_for (passes_of rfl) (by rfl) (pi_enum (by rfl) T.m_enumerate (pa_cons (pv 2) pa_nil)) (pg_tup (by rfl) (pgs_cons (pg_name (i := 4) sc_tight_holding.nd rfl (Or.inl rfl)) (pgs_cons (pg_name (i := 5) sc_tight_holding.nd rfl (Or.inl rfl)) pgs_nil))) (pss_one (ps_if (PW.pt (pw_and (pt_cmpR op_notN (pv 5) pe_non (nomark _)) (pw_and1 (pt_cmpR op_ne (pe_ix (Ur.ix_listK (K := K) rfl) (pe_op op_cat (pv 2) (pe_lst (pa_cons pe_non pa_nil))) (pe_op op_add (pv 4) pe_int) (fun _ _ => rfl)) (pv 5) (nomark _))))) (pss_one (ps_expr (pe_bm PySem.F.plainAttrs_list PySem.F.slot_list_append PySem.F.type_list_append mt_append (pv 3) (pa_cons (pe_tup (pa_cons (pv 4) (pa_cons (pv 5) pa_nil))) pa_nil)))) pss_nil)))
    (pss_one (ps_ret (pv 3)))))), ?_⟩
    rcases h with ⟨c, ls, ps, rfl, hc, r, ok, hpl, hl, q⟩ | ⟨hb, q⟩
    · skip
      tb_start
      refine .inl ?_
      tb_start
      intro pe H1 e1 s1 n1
      tb_start
      intro fo nfo
      have hpf : pe ≠ fo := by kcj_m
      tb_start
      refine for_enum (xs := endsTo ns ps (ns.length + 1)) (fun i σ H' => Iv (∃ (u4 u5 : Option V) (ts : List Addr), σ = [some (.ref a), some (.ref c), some (.ref pe), some (.ref fo), u4, u5] ∧ H' pe = some (.lst (endsTo ns ps (ns.length + 1))) ∧ H' fo = some (.lst (ts.map V.ref)) ∧ PairsF H' ts (tightK ns ps i) ∧ (∀ q ∈ ts, H q = none) ∧ Same H H')) ?h0 ?hl ?hs ?hd
      case h0 => exact ⟨_, _, [], rfl, by kct_strs, upd_same, PairsF.nil, (fun q h => nomatch h), by kcj_in⟩
      case hl =>
        rintro i σ H' hi ⟨u4, u5, ts, rfl, e2, ef, r2, f, s⟩
        kct_strs
      case hd =>
        rintro σ H' ⟨u4, u5, ts, rfl, e2, ef, r2, f, s⟩
        rw [endsTo_len] at r2
        tb_start
        exact q fo ts _ ef r2 f s (by cc_off)
      case hs =>
        rintro i x σ H3 H4 hx ⟨u4, u5, ts, rfl, e2, ef, r2, f, s⟩ s4
        have hi := (List.getElem?_eq_some_iff.mp hx).1
        rw [endsTo_len] at hi
        rw [endsTo_get (by omega)] at hx
        cases hx
        have hsk := tightK_s ns ps i
        have hlk := tightK_len ns ps i
        have hrl := r2.len
        have r4 := ObjsF.same r2 s4
        repeat (rename H3 _ = some _ => hx; first | (have hA := Ur.adv0 s4 hx; obtain ⟨hz, hw, hv⟩ := hA; clear hw hv hx; rename H4 _ = some _ => hq) | (have hA := Ur.adv1 s4 (by kcj_m) hx; obtain ⟨hz, hw, hv⟩ := hA; clear hw hv hx; rename H4 _ = some _ => hq) | (have hA := Ur.adv2 s4 (by kcj_m) (by kcj_m) hx; obtain ⟨hz, hw, hv⟩ := hA; clear hw hv hx; rename H4 _ = some _ => hq) | (have hA := Ur.adv3 s4 (by kcj_m) (by kcj_m) (by kcj_m) hx; obtain ⟨hz, hw, hv⟩ := hA; clear hw hv hx; rename H4 _ = some _ => hq) | (have hA := Ur.adv4 s4 (by kcj_m) (by kcj_m) (by kcj_m) (by kcj_m) hx; obtain ⟨hz, hw, hv⟩ := hA; clear hw hv hx; rename H4 _ = some _ => hq) | (have hA := Ur.adv5 s4 (by kcj_m) (by kcj_m) (by kcj_m) (by kcj_m) (by kcj_m) hx; obtain ⟨hz, hw, hv⟩ := hA; clear hw hv hx; rename H4 _ = some _ => hq) | (have hA := Ur.adv6 s4 (by kcj_m) (by kcj_m) (by kcj_m) (by kcj_m) (by kcj_m) (by kcj_m) hx; obtain ⟨hz, hw, hv⟩ := hA; clear hw hv hx; rename H4 _ = some _ => hq) | (have hA := Ur.adv7 s4 (by kcj_m) (by kcj_m) (by kcj_m) (by kcj_m) (by kcj_m) (by kcj_m) (by kcj_m) hx; obtain ⟨hz, hw, hv⟩ := hA; clear hw hv hx; rename H4 _ = some _ => hq) | clear hx)
        have sH4 := s.trans s4
        clear s s4
        cases he : hEnd ns ps i with
        | none =>
          have ht : tightAt ns ps i = none := by unfold tightAt; rw [he]
          rw [ht] at hsk
          rw [show optV none = V.non from rfl]
          tb_start
          exact ⟨_, _, ts, rfl, by kct_strs, by kct_strs, by rw [hsk, Option.toList_none, List.append_nil]; exact r4, f, sH4⟩
        | some e =>
          have hat := ends_next ns ps (i := i) (by omega)
          have hel := endsTo_len ns ps (ns.length + 1)
          rw [show optV (some e) = V.int ((e : Nat) : Int) from rfl]
          have fin : ∀ p1 p2 : Addr, H4 p1 = none → (upd H4 p1 (.lst [.non])) p2 = none → ∀ H5, H5 = upd (upd H4 p1 (.lst [.non])) p2 (.lst (endsTo ns ps (ns.length + 1) ++ [.non])) → Same H4 H5 ∧ H5 pe = some (.lst (endsTo ns ps (ns.length + 1))) ∧ H5 fo = some (.lst (ts.map V.ref)) := by
            intro p1 p2 h1 h2 H5 h5
            subst h5
            have s5 : Same H4 (upd (upd H4 p1 (.lst [.non])) p2 (.lst (endsTo ns ps (ns.length + 1) ++ [.non]))) := by kcj_in
            exact ⟨s5, s5 _ _ (by assumption), s5 _ _ (by assumption)⟩
          cases hn : nxtH ns ps i with
          | none =>
            rw [hn] at hat
            have hat' : atI (endsTo ns ps (ns.length + 1) ++ [V.non]) ((i : Int) + 1) = some .non := hat
            clear hat
            have ht : tightAt ns ps i = some ((i : Int), (e : Int)) := by unfold tightAt; rw [he, hn]; rfl
            rw [ht] at hsk
            tb_start
            intro p1 np1
            tb_start
            intro p2 np2
            obtain ⟨s5, e5, f5⟩ := fin p1 p2 np1 np2 _ rfl
            have e25 : (upd (upd H4 p1 (.lst [.non])) p2 (.lst (endsTo ns ps (ns.length + 1) ++ [.non]))) p2 = some (.lst (endsTo ns ps (ns.length + 1) ++ [.non])) := upd_same
            have sH5 := sH4.trans s5
            have r5 := ObjsF.same r4 s5
            generalize (upd (upd H4 p1 (.lst [.non])) p2 (.lst (endsTo ns ps (ns.length + 1) ++ [.non]))) = H5 at *
            clear fin np1 np2 s5 sH4
            tb_start
            intro pt npt
            have hft : fo ≠ pt := by kcj_m
            have hpt : pe ≠ pt := by kcj_m
            have fpt : H pt = none := by cc_off
            have hlt : (ts.map V.ref).length < sizeLine := szl (by rw [List.length_map]; omega)
            tb_start
            refine ⟨_, _, ts ++ [pt], rfl, by kct_strs, ?_, ?_, fun q h => ?_, by kcj_in⟩
            · rw [upd_same, List.map_append]; rfl
            · rw [hsk]
              exact ObjsF.upd (PairsF.snoc (ObjsF.same r5 (same_new npt)) (x := (i : Int)) (y := (e : Int)) upd_same) ⟨fun z hz => by
                rcases List.mem_append.mp hz with h | h
                · exact (PairsF.offL r5 f5).out z h
                · rw [List.mem_singleton.mp h]; exact Ne.symm hft⟩
            · rcases List.mem_append.mp h with h | h
              · exact f q h
              · rw [List.mem_singleton.mp h]; exact fpt
          | some g =>
            rw [hn] at hat
            have hat' : atI (endsTo ns ps (ns.length + 1) ++ [V.non]) ((i : Int) + 1) = some (.int ((g : Nat) : Int)) := hat
            clear hat
            tb_start
            intro p1 np1
            tb_start
            intro p2 np2
            obtain ⟨s5, e5, f5⟩ := fin p1 p2 np1 np2 _ rfl
            have e25 : (upd (upd H4 p1 (.lst [.non])) p2 (.lst (endsTo ns ps (ns.length + 1) ++ [.non]))) p2 = some (.lst (endsTo ns ps (ns.length + 1) ++ [.non])) := upd_same
            have sH5 := sH4.trans s5
            have r5 := ObjsF.same r4 s5
            generalize (upd (upd H4 p1 (.lst [.non])) p2 (.lst (endsTo ns ps (ns.length + 1) ++ [.non]))) = H5 at *
            clear fin np1 np2 s5 sH4
            tb_start
            refine brni (fun hge => ?_) (fun hge => ?_)
            · have ht : tightAt ns ps i = some ((i : Int), (e : Int)) := by
                unfold tightAt
                rw [he, hn]
                show (if some g = some e then none else _) = _
                rw [if_neg (fun k => hge (by injection k with k; rw [k]))]
              rw [ht] at hsk
              tb_start
              intro pt npt
              have hft : fo ≠ pt := by kcj_m
              have hpt : pe ≠ pt := by kcj_m
              have fpt : H pt = none := by cc_off
              have hlt : (ts.map V.ref).length < sizeLine := szl (by rw [List.length_map]; omega)
              tb_start
              refine ⟨_, _, ts ++ [pt], rfl, by kct_strs, ?_, ?_, fun q h => ?_, by kcj_in⟩
              · rw [upd_same, List.map_append]; rfl
              · rw [hsk]
                exact ObjsF.upd (PairsF.snoc (ObjsF.same r5 (same_new npt)) (x := (i : Int)) (y := (e : Int)) upd_same) ⟨fun z hz => by
                  rcases List.mem_append.mp hz with h | h
                  · exact (PairsF.offL r5 f5).out z h
                  · rw [List.mem_singleton.mp h]; exact Ne.symm hft⟩
              · rcases List.mem_append.mp h with h | h
                · exact f q h
                · rw [List.mem_singleton.mp h]; exact fpt
            · have ht : tightAt ns ps i = none := by
                unfold tightAt
                rw [he, hn]
                show (if some g = some e then none else _) = _
                rw [if_pos (by congr 1; omega)]
              rw [ht] at hsk
              exact ⟨_, _, ts, rfl, e5, f5, by rw [hsk, Option.toList_none, List.append_nil]; exact r5, f, sH5⟩
    · tb_start
      refine .inr ⟨hb, fun H1 s1 => ?_⟩
      exact q _ s1
end
end Ur
namespace Ur
open PySem L2
/-- the shortest window that holds, or None; other needs are refused -/
def sp_shortest_holding (K : PySem.W.Frag) (W : Addr) : Sp := fun vs H Q E => ∃ (a : Addr) (v : V) (ns : List Int), vs = [.ref a, v] ∧ H a = some (.lst (ns.map V.int)) ∧ ((∃ (c : Addr) (ls : List Addr) (ps : List (Int × Int)), v = .ref c ∧ H c = some (.lst (ls.map V.ref)) ∧ PairsF H ls ps ∧ NeedsOk ps ∧ ps.length ≤ 1000 ∧ ns.length ≤ 1000 ∧ ∀ v H', OptP H' v (shoP (tightL ns ps)) → Same H H' → Q v H') ∨ (BadNs H v ∧ ∀ H', Same H H' → E (.ref W) none H'))
section
variable {P : Program} {w : World} {K : PySem.W.Frag} {mg : Str → Option Value} {base : Heap} {A : Adr}
theorem ok_shortest_holding (T : Txt K mg A) : FnOk P w K mg base (L2.CX P w) 5 A.f_shortest_holding A.d_shortest_holding ["row", "needs"] (sp_shortest_holding K A.c_NoNeeds) := by
  have G_tight_holding := ok_tight_holding (P := P) (w := w) (base := base) T
  refine T.F_shortest_holding.okX sc_shortest_holding (fun vs H Q E h => ?_) (fun cdv Ar outer s H vs Q E hr h => ?_)
  · obtain ⟨a, v, ns, rfl, _⟩ := h
    rfl
  · obtain ⟨a, v, ns, rfl, ha, h⟩ := h
    refine ⟨_, (pss_cons (ps_set (i := 2) sc_shortest_holding.nd rfl (Or.inl rfl) pe_non)
    (pss_cons (ps_for (passes_of rfl) (by rfl) (pi_list (pe_callS G_tight_holding (hr.mono (by decide)) (by rfl) T.g_tight_holding T.F_tight_holding.kp T.b_tight_holding (fun σ => passAt (takes_of rfl rfl rfl rfl) σ) (pa_cons (pv 0) (pa_cons (pv 1) pa_nil)))) (pg_tup (by rfl) (pgs_cons (pg_name (i := 3) sc_shortest_holding.nd rfl (Or.inl rfl)) (pgs_cons (pg_name (i := 4) sc_shortest_holding.nd rfl (Or.inl rfl)) pgs_nil))) (pss_one (ps_if (PW.pt (pw_or (pt_cmpR op_isN (pv 2) pe_non (nomark _)) (pw_or1 (pt_cmpR op_lt (pe_op op_sub (pv 4) (pv 3)) (pe_op op_sub (pe_ix (Ur.ix_tupK (K := K) rfl) (pv 2) pe_int (fun _ _ => rfl)) (pe_ix (Ur.ix_tupK (K := K) rfl) (pv 2) pe_int (fun _ _ => rfl))) (nomark _))))) (pss_one (ps_set (i := 2) sc_shortest_holding.nd rfl (Or.inl rfl) (pe_tup (pa_cons (pv 3) (pa_cons (pv 4) pa_nil))))) pss_nil)))
    (pss_one (ps_ret (pv 2))))), ?_⟩
    rcases h with ⟨c, ls, ps, rfl, hc, r, ok, hpl, hl, q⟩ | ⟨hb, q⟩
    · skip
      tb_start
      refine .inl ?_
      tb_start
      intro p1 ts H1 e1 r1 f s1 n1
      have hrl := r1.len
      tb_start
      refine for_list (xs := ts.map V.ref) (fun k σ H' => Iv (∃ (u3 u4 : Option V) (v : V), σ = [some (.ref a), some (.ref c), some v, u3, u4] ∧ OptP H' v (shoP ((tightL ns ps).take k)) ∧ Same H1 H')) ?h0 ?hl ?hs ?hd
      case h0 => exact ⟨_, _, _, rfl, OptP.non, by kcj_in⟩
      case hl =>
        rintro k σ H' hk ⟨u3, u4, v, rfl, ov, s⟩
        kct_strs
      case hd =>
        rintro σ H' ⟨u3, u4, v, rfl, ov, s⟩
        rw [List.length_map, hrl, List.take_length] at ov
        tb_start
        exact q v _ ov (s1.trans s)
      case hs =>
        rintro k x σ H2 hx ⟨u3, u4, v, rfl, ov, s⟩
        rw [List.getElem?_map] at hx
        obtain ⟨l, hl2, rfl⟩ := Option.map_eq_some_iff.mp hx
        obtain ⟨h2, h3⟩ := r1.get hl2
        have e4 := s _ _ h3
        have hts : (tightL ns ps).take (k + 1) = (tightL ns ps).take k ++ [(tightL ns ps).getD k (0, 0)] := by rw [List.take_add_one, List.getElem?_eq_getElem h2, List.getD_eq_getElem?_getD, List.getElem?_eq_getElem h2]; rfl
        refine ⟨l, _, rfl, .of e4, rfl, _, _, rfl, _, _, rfl, rfl, ?_⟩
        rcases ov.is with ⟨h5, rfl⟩ | ⟨bx, by_, pb, h5, rfl, h6⟩
        · tb_start
          intro p np
          refine ⟨_, _, _, rfl, ?_, by kcj_in⟩
          rw [hts, shoP_snoc, h5]
          exact OptP.pair upd_same
        · tb_start
          refine br (fun h => ?_) (fun h => ?_)
          · tb_start
            intro p np
            refine ⟨_, _, _, rfl, ?_, by kcj_in⟩
            rw [hts, shoP_snoc, h5]
            show OptP _ _ (if _ then _ else _)
            rw [if_pos (by show _ < by_ - bx; omega)]
            exact OptP.pair upd_same
          · refine ⟨_, _, _, rfl, ?_, s⟩
            rw [hts, shoP_snoc, h5]
            show OptP _ _ (if _ then _ else _)
            rw [if_neg (by show ¬ _ < by_ - bx; omega)]
            exact OptP.pair h6
    · tb_start
      refine .inr ⟨hb, fun H1 s1 => ?_⟩
      exact q _ s1
end
end Ur
namespace Ur
open PySem L2
/-- whether needs are refused -/
def sp__law_refused (K : PySem.W.Frag) : Sp := fun vs H Q _ => ∃ (way : Int) (a : Addr) (v : V) (ns : List Int), vs = [.int way, .ref a, v] ∧ H a = some (.lst (ns.map V.int)) ∧ ns.length ≤ 1000 ∧ (way = 0 ∨ way = 1) ∧ ((∃ (c : Addr) (ls : List Addr) (ps : List (Int × Int)), v = .ref c ∧ H c = some (.lst (ls.map V.ref)) ∧ PairsF H ls ps ∧ NeedsOk ps ∧ ps.length ≤ 1000 ∧ ∀ H', Same H H' → Q (.bl false) H') ∨ (BadNs H v ∧ ∀ H', Same H H' → Q (.bl true) H'))
section
variable {P : Program} {w : World} {K : PySem.W.Frag} {mg : Str → Option Value} {base : Heap} {A : Adr}
theorem ok__law_refused (T : Txt K mg A) : FnOk P w K mg base CX0 6 A.f__law_refused A.d__law_refused ["way", "row", "needs"] (sp__law_refused K) := by
  have G_shortest_holding := ok_shortest_holding (P := P) (w := w) (base := base) T
  have G_tight_holding := ok_tight_holding (P := P) (w := w) (base := base) T
  refine T.F__law_refused.ok sc__law_refused (fun vs H Q E h => ?_) (fun cdv Ar outer s H vs Q E hr h => ?_)
  · obtain ⟨way, a, v, ns, rfl, _⟩ := h
    rfl
  · obtain ⟨way, a, v, ns, rfl, ha, hl, hw, h⟩ := h
    have hE := T.E_NoNeeds
    have q1 := T.q_NoNeeds_NoNeeds
    have q2 := T.q_NoNeeds_ValueError
    have q3 : NoneOf K A.c_NoNeeds [A.c_NoCommand, A.c_NoPlace, A.c_NoRow, A.c_NoTable, A.c_NoWindow] := .cons T.q_NoNeeds_NoCommand (.cons T.q_NoNeeds_NoPlace (.cons T.q_NoNeeds_NoRow (.cons T.q_NoNeeds_NoTable (.cons T.q_NoNeeds_NoWindow .nil))))
    refine ⟨_, (pss_cons (ps_set (i := 3) sc__law_refused.nd rfl (Or.inl rfl) (pe_lst pa_nil))
    (pss_cons (ps_try_as (i := 4) rfl rfl sc__law_refused.nd rfl rfl ⟨rfl, by decide, .inl T.g_RowError⟩ takes0 (fun W pn xe tk po => (pss_one (ps_if (pt_cmpR op_eq (pv 0) pe_int (nomark _)) (pss_one (ps_expr (pe_callS G_shortest_holding (hr.mono (by decide)) (by rfl) T.g_shortest_holding T.F_shortest_holding.kp T.b_shortest_holding (fun σ => passAt tk σ) (pa_cons (pv 1) (pa_cons (pv 2) pa_nil))))) (pss_one (ps_expr (pe_callS G_tight_holding (hr.mono (by decide)) (by rfl) T.g_tight_holding T.F_tight_holding.kp T.b_tight_holding (fun σ => passAt tk σ) (pa_cons (pv 1) (pa_cons (pv 2) pa_nil)))))))) (fun ea oe cls d pn hz hf => (pss_cons (ps_set (i := 3) sc__law_refused.nd rfl (Or.inl rfl) (pe_lst (pa_cons (Ur.pe_b2 (Ur.call_isX (K := K) (by rfl) (a := ea) hz hf (by exact List.mem_cons_self)) (by rfl) T.m_isinstance (by decide +kernel) (pv 4) (pe_glob (v := .ref A.c_NoNeeds) (by rfl) T.g_NoNeeds rfl)) (pa_cons (Ur.pe_b2 (Ur.call_isX (K := K) (by rfl) (a := ea) hz hf (by exact List.mem_cons_self)) (by rfl) T.m_isinstance (by decide +kernel) (pv 4) (pe_bltn (v := .ty "ValueError") (by rfl) T.m_ValueError (by decide +kernel) rfl)) pa_nil))))
    (pss_one (ps_expr (Ur.pe_bmK (K := K) (by rfl) PySem.F.plainAttrs_list PySem.F.slot_list_append PySem.F.type_list_append mt_append (pv 3) (pa_cons (Ur.pe_b2 (Ur.call_isX (K := K) (by rfl) (a := ea) hz hf (by exact List.mem_cons_self)) (by rfl) T.m_isinstance (by decide +kernel) (pv 4) (pe_tup (pa_cons (pe_glob (v := .ref A.c_NoCommand) (by rfl) T.g_NoCommand rfl) (pa_cons (pe_glob (v := .ref A.c_NoPlace) (by rfl) T.g_NoPlace rfl) (pa_cons (pe_glob (v := .ref A.c_NoRow) (by rfl) T.g_NoRow rfl) (pa_cons (pe_glob (v := .ref A.c_NoTable) (by rfl) T.g_NoTable rfl) (pa_cons (pe_glob (v := .ref A.c_NoWindow) (by rfl) T.g_NoWindow rfl) pa_nil))))))) pa_nil)))))))
    (pss_one (ps_ret (pe_cmpR (Ur.op_eqDK (K := K) rfl hr.units) (pv 3) (pe_lst (pa_cons pe_bl (pa_cons pe_bl (pa_cons pe_bl pa_nil)))) (nomark _)))))), ?_⟩
    tb_start
    intro pk nk
    have hka : a ≠ pk := by kcj_m
    have s1 : Same H (upd H pk (.lst [])) := same_new nk
    have ek : (upd H pk (.lst [])) pk = some (.lst []) := upd_same
    have ha1 := s1 _ _ ha
    clear nk
    rcases h with ⟨c, ls, ps, rfl, hc, r, ok, hpl, q⟩ | ⟨hb, q⟩
    · have hc1 := s1 _ _ hc
      have r1 := ObjsF.same r s1
      have q' := fun (H' : Hp) (s : Same (upd H pk (.lst [])) H') => q H' (s1.trans s)
      generalize (upd H pk (.lst [])) = H1 at *
      rcases hw with rfl | rfl
      · tb_start
        refine .inl ?_
        tb_start
        intro v2 H2 _ s2
        have ek2 := s2 _ _ ek
        tb_start
        intro p4 n4
        have s4 : Same H2 (upd H2 p4 (.lst [.bl true, .bl true, .bl false])) := same_new n4
        exact rEq_kinds0 (s4 _ _ ek2) upd_same (q' _ (s2.trans s4))
      · tb_start
        refine .inl ?_
        tb_start
        intro p2 ts2 H2 _ _ _ s2 _
        have ek2 := s2 _ _ ek
        tb_start
        intro p4 n4
        have s4 : Same H2 (upd H2 p4 (.lst [.bl true, .bl true, .bl false])) := same_new n4
        exact rEq_kinds0 (s4 _ _ ek2) upd_same (q' _ (s2.trans s4))
    · have hb1 := hb.same s1
      have q' := fun (H' : Hp) (s : Same (upd H pk (.lst [])) H') => q H' (s1.trans s)
      generalize (upd H pk (.lst [])) = H1 at *
      rcases hw with rfl | rfl
      all_goals
        tb_start
        refine .inr ⟨hb1, fun H2 s2 => ?_⟩
        refine ⟨true, T.m_NoNeeds_RowError, fun _ ea nea => ?_, fun z => nomatch z⟩
        tb_start
        intro p2 np2
        tb_start
        intro p3 np3
        have h23 : p2 ≠ p3 := by kcj_m
        tb_start
        intro p4 np4
        have h24 : p2 ≠ p4 := by kcj_m
        tb_start
        exact q' _ (s2.trans (by kcj_in))
end
end Ur
namespace Ur
open PySem L2
/-- a row of at most 300 numbers -/
def sp__law_row (K : PySem.W.Frag) : Sp := fun vs H Q _ => ∃ (a : Addr) (ns : List Int) (mo : Int), vs = [.ref a, .int mo] ∧ H a = some (.lst (ns.map V.int)) ∧ (0 ≤ mo ∧ mo ≤ 300) ∧ ∀ p (r ms : List Int) H', H' p = some (.lst (r.map V.int)) → H' a = some (.lst (ms.map V.int)) → But a H H' → H p = none → r.length ≤ 300 → Q (.ref p) H'
section
variable {P : Program} {w : World} {K : PySem.W.Frag} {mg : Str → Option Value} {base : Heap} {A : Adr}
theorem ok__law_row (T : Txt K mg A) : FnOk P w K mg base CX0 2 A.f__law_row A.d__law_row ["draws", "most"] (sp__law_row K) := by
  have G__law_number := ok__law_number (P := P) (w := w) (base := base) T
  have G__law_take := ok__law_take (P := P) (w := w) (base := base) T
  refine T.F__law_row.ok sc__law_row (fun vs H Q E h => ?_) (fun cdv Ar outer s H vs Q E hr h => ?_)
  · obtain ⟨a, ns, mo, rfl, _⟩ := h
    rfl
  · obtain ⟨a, ns, mo, rfl, ha, hmo, q⟩ := h
    refine ⟨_, (pss_cons (ps_set (i := 2) sc__law_row.nd rfl (Or.inl rfl) (pe_call G__law_take (hr.mono (by decide)) (by rfl) T.g__law_take T.F__law_take.kp T.b__law_take .nil pass0 (pa_cons (pv 0) (pa_cons pe_int pa_nil))))
    (Evl.pss_cut (ps_if (pt_cmpR op_eq (pe_call G__law_take (hr.mono (by decide)) (by rfl) T.g__law_take T.F__law_take.kp T.b__law_take .nil pass0 (pa_cons (pv 0) (pa_cons pe_int pa_nil))) pe_int (nomark _)) (pss_one (ps_set (i := 2) sc__law_row.nd rfl (Or.inl rfl) (pe_ix (Ur.ix_listK (K := K) rfl) (pe_lst (pa_cons (pv 1) (pa_cons (pe_call G__law_take (hr.mono (by decide)) (by rfl) T.g__law_take T.F__law_take.kp T.b__law_take .nil pass0 (pa_cons (pv 0) (pa_cons (pe_op op_add (pv 1) pe_int) pa_nil))) pa_nil))) (pe_call G__law_take (hr.mono (by decide)) (by rfl) T.g__law_take T.F__law_take.kp T.b__law_take .nil pass0 (pa_cons (pv 0) (pa_cons pe_int pa_nil))) (fun _ _ => rfl)))) pss_nil)
    (pss_cons (ps_set (i := 3) sc__law_row.nd rfl (Or.inr rfl) (pe_call G__law_take (hr.mono (by decide)) (by rfl) T.g__law_take T.F__law_take.kp T.b__law_take .nil pass0 (pa_cons (pv 0) (pa_cons pe_int pa_nil))))
    (pss_cons (ps_set (i := 4) sc__law_row.nd rfl (Or.inr rfl) (pe_ix (Ur.ix_listK (K := K) rfl) (pe_lst (pa_cons pe_int (pa_cons pe_int (pa_cons pe_int (pa_cons pe_int (pa_cons pe_int (pa_cons pe_int pa_nil))))))) (pe_call G__law_take (hr.mono (by decide)) (by rfl) T.g__law_take T.F__law_take.kp T.b__law_take .nil pass0 (pa_cons (pv 0) (pa_cons pe_int pa_nil))) (fun _ _ => rfl)))
    (pss_cons (ps_if (pt_cmpR op_lt (pv 2) pe_int (nomark _)) (pss_one (ps_ret (pe_lc (own := [("k", 7)]) (g := gName 7) (by rfl) sc__law_row.nd (pi_range1 (by rfl) T.m_range (pa_cons (pv 2) pa_nil)) (blkOk_by (own := [("k", 7)]) (N := ["draws", "most", "many", "kind", "base", "one", "other", "k"]) (by kernel_rfl)) (fun _ _ _ _ _ => pg_name (i := 7) sc__law_row.nd rfl (Or.inl rfl)) (fun _ _ _ _ _ => pts_nil) (fun _ _ _ _ _ => (pe_call G__law_number (hr.mono (by decide)) (by rfl) T.g__law_number T.F__law_number.kp T.b__law_number .nil pass0 (pa_cons (pv 3) (pa_cons (pe_call G__law_take (hr.mono (by decide)) (by rfl) T.g__law_take T.F__law_take.kp T.b__law_take .nil pass0 (pa_cons (pv 0) (pa_cons (pv 4) pa_nil))) pa_nil))))))) pss_nil)
    (pss_cons (ps_set (i := 5) sc__law_row.nd rfl (Or.inr rfl) (pe_call G__law_take (hr.mono (by decide)) (by rfl) T.g__law_take T.F__law_take.kp T.b__law_take .nil pass0 (pa_cons (pv 0) (pa_cons pe_int pa_nil))))
    (pss_cons (ps_set (i := 6) sc__law_row.nd rfl (Or.inr rfl) (pe_op op_add pe_int (pe_call G__law_take (hr.mono (by decide)) (by rfl) T.g__law_take T.F__law_take.kp T.b__law_take .nil pass0 (pa_cons (pv 0) (pa_cons pe_int pa_nil)))))
    (pss_cons (ps_if (pt_cmpR op_eq (pv 4) pe_int (nomark _)) (pss_one (ps_ret (pe_lc (own := [("k", 7)]) (g := gName 7) (by rfl) sc__law_row.nd (pi_range1 (by rfl) T.m_range (pa_cons (pv 2) pa_nil)) (blkOk_by (own := [("k", 7)]) (N := ["draws", "most", "many", "kind", "base", "one", "other", "k"]) (by kernel_rfl)) (fun _ _ _ _ _ => pg_name (i := 7) sc__law_row.nd rfl (Or.inl rfl)) (fun _ _ _ _ _ => pts_nil) (fun _ _ _ _ _ => (pe_call G__law_number (hr.mono (by decide)) (by rfl) T.g__law_number T.F__law_number.kp T.b__law_number .nil pass0 (pa_cons (pv 3) (pa_cons (pe_op op_mod (pe_op op_add (pe_op op_mul (pv 7) (pe_op op_add pe_int (pe_op op_mod (pv 6) pe_int))) (pv 5)) pe_int) pa_nil))))))) pss_nil)
    (pss_one (ps_ret (pe_lc (own := [("k", 7)]) (g := gName 7) (by rfl) sc__law_row.nd (pi_range1 (by rfl) T.m_range (pa_cons (pv 2) pa_nil)) (blkOk_by (own := [("k", 7)]) (N := ["draws", "most", "many", "kind", "base", "one", "other", "k"]) (by kernel_rfl)) (fun _ _ _ _ _ => pg_name (i := 7) sc__law_row.nd rfl (Or.inl rfl)) (fun _ _ _ _ _ => pts_nil) (fun _ _ _ _ _ => (pe_call G__law_number (hr.mono (by decide)) (by rfl) T.g__law_number T.F__law_number.kp T.b__law_number .nil pass0 (pa_cons (pv 3) (pa_cons (pe_op op_mod (pe_op op_mod (pe_op op_add (pe_op op_add (pe_op op_mul (pe_op op_mul (pv 7) (pv 7)) (pv 5)) (pe_op op_mul (pv 7) (pv 6))) (pe_op op_mul (pe_op op_fdiv (pv 7) pe_int) pe_int)) pe_int) (pv 4)) pa_nil))))))))))))))), ?_⟩
    tb_start
    intro x1 n1 H1 h10 h11 a1 b1
    tb_start
    refine ⟨fun σ H' => Iv (∃ (mm : Int) (ms : List Int) (u3 u4 u5 u6 u7 : Option V), σ = [some (.ref a), some (.int mo), some (.int mm), u3, u4, u5, u6, u7] ∧ (0 ≤ mm ∧ mm ≤ 300) ∧ H' a = some (.lst (ms.map V.int)) ∧ But a H H'), ?_, ?_⟩
    · tb_start
      intro x2 n2 H2 h20 h21 a2 b2
      tb_start
      refine bri (fun _ => ?_) (fun _ => ?_)
      · tb_start
        intro x3 n3 H3 h30 h31 a3 b3
        tb_start
        intro p4 np4
        have hap4 : a ≠ p4 := by kcj_m
        tb_start
        intro x5 n5 H5 h50 h51 a5 b5
        have e5 := b5 _ _ (Ne.symm hap4) upd_same
        have g5 := getD2 (x := mo) (y := x3) (i := x5) (lo := 0) (hi := 300) h50 h51 hmo (by omega)
        tb_start
        exact ⟨_, _, _, _, _, _, _, rfl, g5, a5, by cc_are⟩
      · exact ⟨_, _, _, _, _, _, _, rfl, by omega, a2, by cc_are⟩
    rintro σ H6 ⟨mm, ms, u3, u4, u5, u6, u7, rfl, hmm, a6, b6⟩
    tb_start
    intro x7 n7 H7 h70 h71 a7 b7
    tb_start
    intro p8 np8
    have hap8 : a ≠ p8 := by kcj_m
    tb_start
    intro x9 n9 H9 h90 h91 a9 b9
    have e9 := b9 _ _ (Ne.symm hap8) upd_same
    have g9 := getD6 (x := 2) (y := 3) (z := 5) (w := 12) (u := 200) (v := 300) (i := x9) (lo := 2) (hi := 300) h90 h91 (by omega) (by omega) (by omega) (by omega) (by omega) (by omega)
    have bH : But a H H9 := by cc_are
    clear b9 b7 b6 b1 np8
    tb_start
    generalize [(2 : Int), 3, 5, 12, 200, 300].getD x9.toNat 0 = base at g9 ⊢
    clear e9
    refine br (fun hc => ?_) (fun hc => ?_)
    · tb_start
      intro D nD
      refine lc_rngS (fun o => ∃ ms : List Int, o = .lst (ms.map V.int)) (fun _ => True) a9 ⟨_, rfl⟩ (by omega) nD (fun _ => rfl) ?he ?hd
      case he =>
        rintro k H' o hk b' ao ⟨ms', rfl⟩ Q' q'
        tb_start
        intro x n H'' h0 h1 a' b''
        tb_start
        intro v H3 s3
        exact q' _ _ _ trivial (by cc_are) (s3 _ _ a') ⟨_, rfl⟩
      case hd =>
        rintro H' rs o hl _ b' e' ao ⟨ms', rfl⟩
        exact q _ rs ms' _ e' ao (by cc_are) (by cc_off) (by omega)
    tb_start
    intro x10 n10 H10 h100 h101 a10 b10
    tb_start
    intro x11 n11 H11 h110 h111 a11 b11
    have bH11 : But a H H11 := by cc_are
    clear bH b10 b11
    tb_start
    refine bri (fun _ => ?_) (fun _ => ?_)
    · tb_start
      intro D nD
      refine lc_rngS (fun o => ∃ ms : List Int, o = .lst (ms.map V.int)) (fun _ => True) a11 ⟨_, rfl⟩ (by omega) nD (fun _ => rfl) ?he2 ?hd2
      case he2 =>
        rintro k H' o hk b' ao ⟨ms', rfl⟩ Q' q'
        have hk2 : (k : Int) < 300 := by omega
        tb_start
        intro v H3 s3
        exact q' _ _ _ trivial (by cc_are) (s3 _ _ ao) ⟨_, rfl⟩
      case hd2 =>
        rintro H' rs o hl _ b' e' ao ⟨ms', rfl⟩
        exact q _ rs ms' _ e' ao (by cc_are) (by cc_off) (by omega)
    · tb_start
      intro D nD
      refine lc_rngS (fun o => ∃ ms : List Int, o = .lst (ms.map V.int)) (fun _ => True) a11 ⟨_, rfl⟩ (by omega) nD (fun _ => rfl) ?he3 ?hd3
      case he3 =>
        rintro k H' o hk b' ao ⟨ms', rfl⟩ Q' q'
        have hk2 : (k : Int) < 300 := by omega
        tb_start
        intro v H3 s3
        exact q' _ _ _ trivial (by cc_are) (s3 _ _ ao) ⟨_, rfl⟩
      case hd3 =>
        rintro H' rs o hl _ b' e' ao ⟨ms', rfl⟩
        exact q _ rs ms' _ e' ao (by cc_are) (by cc_off) (by omega)
end
end Ur
namespace Ur
open PySem L2
/-- the law holds -/
def sp_law (K : PySem.W.Frag) : Sp := fun vs H Q _ => ∃ (a : Addr) (ns : List Int), vs = [.ref a] ∧ SqL K H a (ns.map V.int) ∧ ns.length ≤ 63 ∧ ∀ H', Q (.bl true) H'
section
variable {P : Program} {w : World} {K : PySem.W.Frag} {mg : Str → Option Value} {base : Heap} {A : Adr}
theorem ok_law (T : Txt K mg A) : FnOk P w K mg base CX0 7 A.f_law A.d_law ["script"] (sp_law K) := by
  have G__law_bad := ok__law_bad (P := P) (w := w) (base := base) T
  have G__law_deep := ok__law_deep (P := P) (w := w) (base := base) T
  have G__law_draws := ok__law_draws (P := P) (w := w) (base := base) T
  have G__law_needs := ok__law_needs (P := P) (w := w) (base := base) T
  have G__law_refused := ok__law_refused (P := P) (w := w) (base := base) T
  have G__law_row := ok__law_row (P := P) (w := w) (base := base) T
  refine T.F_law.ok sc_law (fun vs H Q E h => ?_) (fun cdv Ar outer s H vs Q E hr h => ?_)
  · obtain ⟨a, ns, rfl, _⟩ := h
    rfl
  · obtain ⟨a, ns, rfl, ha, hl, q⟩ := h
    refine ⟨_, (pss_cons (ps_set (i := 1) sc_law.nd rfl (Or.inl rfl) (pe_call G__law_draws (hr.mono (by decide)) (by rfl) T.g__law_draws T.F__law_draws.kp T.b__law_draws .nil pass0 (pa_cons (pv 0) pa_nil)))
    (pss_cons (ps_set (i := 2) sc_law.nd rfl (Or.inl rfl) pe_int)
    (pss_cons (ps_while PassesOwn.never (PW.pt (pw_or (pt_cmpR op_lt (pv 2) pe_int (nomark _)) (pw_or1 (PW.pt (pw_and (pt_cmpR (Ur.op_neDK (K := K) rfl hr.units) (pv 1) (pe_lst pa_nil) (nomark _)) (pw_and1 (pt_cmpR op_lt (pv 2) pe_int (nomark _)))))))) (pss_cons (ps_set (i := 3) sc_law.nd rfl (Or.inl rfl) (pe_call G__law_row (hr.mono (by decide)) (by rfl) T.g__law_row T.F__law_row.kp T.b__law_row .nil pass0 (pa_cons (pv 1) (pa_cons pe_int pa_nil))))
    (pss_cons (ps_set (i := 4) sc_law.nd rfl (Or.inl rfl) (pe_call G__law_needs (hr.mono (by decide)) (by rfl) T.g__law_needs T.F__law_needs.kp T.b__law_needs .nil pass0 (pa_cons (pv 1) (pa_cons (pv 3) pa_nil))))
    (pss_cons (ps_for PassesOwn.never (by rfl) (pi_range1 (by rfl) T.m_range (pa_cons pe_int pa_nil)) (pg_name (i := 5) sc_law.nd rfl (Or.inl rfl)) (pss_cons (ps_set (i := 6) sc_law.nd rfl (Or.inl rfl) (pe_call G__law_bad (hr.mono (by decide)) (by rfl) T.g__law_bad T.F__law_bad.kp T.b__law_bad .nil pass0 (pa_cons (pv 1) (pa_cons (pv 4) pa_nil))))
    (pss_cons (ps_set (i := 7) sc_law.nd rfl (Or.inl rfl) (pe_lst (pa_cons (Ur.pe_t1 (Ur.call_list_ofK (K := K) rfl) (by rfl) T.m_list (by decide +kernel) (pv 3)) (pa_cons (Ur.pe_t1 (Ur.call_list_ofK (K := K) rfl) (by rfl) T.m_list (by decide +kernel) (pv 6)) pa_nil))))
    (pss_one (ps_for PassesOwn.never (by rfl) (pi_range1 (by rfl) T.m_range (pa_cons pe_int pa_nil)) (pg_name (i := 8) sc_law.nd rfl (Or.inl rfl)) (pss_one (ps_if (PW.pt (pw_or (pt_not (pt_val (pe_call G__law_refused (hr.mono (by decide)) (by rfl) T.g__law_refused T.F__law_refused.kp T.b__law_refused .nil pass0 (pa_cons (pv 8) (pa_cons (pe_ix (Ur.ix_listK (K := K) rfl) (pv 7) pe_int (fun _ _ => rfl)) (pa_cons (pe_ix (Ur.ix_listK (K := K) rfl) (pv 7) pe_int (fun _ _ => rfl)) pa_nil)))))) (pw_or1 (pt_cmpR (Ur.op_neP (K := K) (by rfl) hr.units) (pv 7) (pe_lst (pa_cons (pv 3) (pa_cons (pv 6) pa_nil))) (nomark _))))) (pss_one (ps_ret pe_bl)) pss_nil)))))))
    (pss_cons (ps_if (PW.pt (pw_or (pt_val (pe_call G__law_refused (hr.mono (by decide)) (by rfl) T.g__law_refused T.F__law_refused.kp T.b__law_refused .nil pass0 (pa_cons pe_int (pa_cons (pv 3) (pa_cons (pv 4) pa_nil))))) (pw_or1 (pt_val (pe_call G__law_refused (hr.mono (by decide)) (by rfl) T.g__law_refused T.F__law_refused.kp T.b__law_refused .nil pass0 (pa_cons pe_int (pa_cons (pv 3) (pa_cons (pv 4) pa_nil)))))))) (pss_one (ps_ret pe_bl)) pss_nil)
    (pss_one (ps_set (i := 2) sc_law.nd rfl (Or.inl rfl) (pe_op op_add (pv 2) pe_int))))))))
    (pss_cons (ps_for PassesOwn.never (by rfl) (pi_list (pe_lst (pa_cons pe_non (pa_cons pe_int (pa_cons pe_bl (pa_cons pe_str (pa_cons (pe_tup pa_nil) (pa_cons pe_dnewK (pa_cons (pe_tup (pa_cons (pe_tup (pa_cons pe_int (pa_cons pe_int pa_nil))) pa_nil)) (pa_cons (pe_disp (pps_cons pe_int pe_int pps_nil) rfl rfl (by simp) (by decide)) (pa_cons pe_str (pa_cons (pe_call G__law_deep (hr.mono (by decide)) (by rfl) T.g__law_deep T.F__law_deep.kp T.b__law_deep .nil pass0 (pa_cons pe_int pa_nil)) pa_nil)))))))))))) (pg_name (i := 9) sc_law.nd rfl (Or.inl rfl)) (pss_one (ps_if (PW.pt (pw_or (pt_not (pt_val (pe_call G__law_refused (hr.mono (by decide)) (by rfl) T.g__law_refused T.F__law_refused.kp T.b__law_refused .nil pass0 (pa_cons pe_int (pa_cons (pe_lst (pa_cons pe_int (pa_cons pe_int (pa_cons pe_int pa_nil)))) (pa_cons (pv 9) pa_nil)))))) (pw_or1 (pt_not (pt_val (pe_call G__law_refused (hr.mono (by decide)) (by rfl) T.g__law_refused T.F__law_refused.kp T.b__law_refused .nil pass0 (pa_cons pe_int (pa_cons (pe_lst (pa_cons pe_int (pa_cons pe_int (pa_cons pe_int pa_nil)))) (pa_cons (pv 9) pa_nil))))))))) (pss_one (ps_ret pe_bl)) pss_nil)))
    (pss_one (ps_ret pe_bl)))))), ?_⟩
    tb_start
    intro p1 ds H1 e1 hdl s1 n1
    tb_start
    refine while_t (fun mu σ H' => Iv (∃ (k : Int) (ds : List Int) (u3 u4 u5 u6 u7 u8 u9 : Option V), σ = [some (.ref a), some (.ref p1), some (.int k), u3, u4, u5, u6, u7, u8, u9] ∧ H' p1 = some (.lst (ds.map V.int)) ∧ 0 ≤ k ∧ k ≤ 6 ∧ mu = 6 - k.toNat)) 6 ?h0 ?ht ?hs ?hd
    case h0 => exact ⟨0, ds, _, _, _, _, _, _, _, rfl, e1, by omega, by omega, rfl⟩
    case ht =>
      rintro mu σ H2 ⟨k, ds2, u3, u4, u5, u6, u7, u8, u9, rfl, e2, k0, k4, rfl⟩ Q2 q2
      tb_start
      refine br (fun h1 => ?_) (fun h1 => ?_)
      · exact q2 _ _ (by kcj_in) (fun _ => by omega)
      · tb_start
        intro p np
        tb_start
        refine brn (fun h2 => ?_) (fun h2 => ?_)
        · tb_start
          exact q2 _ _ (by kcj_in) (fun h => by have := of_decide_eq_true h; omega)
        · exact q2 _ _ (by kcj_in) (fun h => nomatch h)
    case hs =>
      rintro mu σ H2 H3 ⟨k, ds2, u3, u4, u5, u6, u7, u8, u9, rfl, e2, k0, k4, rfl⟩ hm s3
      have e3 := s3 _ _ e2
      clear e1 s1 n1 ha e2 s3
      tb_start
      intro p4 r ms4 H4 e4 a4 b4 n4 hl4
      have h14 : p1 ≠ p4 := by kcj_m
      tb_start
      intro p5 ls5 ps5 ms5 H5 e5 r5 ok5 hl5 a5 b5 n5 f5
      have e45 := b5 _ _ (Ne.symm h14) e4
      have h15 : p1 ≠ p5 := by kcj_m
      have hla : ∀ l ∈ ls5, l ≠ p1 := fun l hl z => by have := f5 l hl; rw [z, a4] at this; cases this
      clear b4 b5 n4 n5 f5 e4 a4
      tb_start
      refine for_range (n := 3) (fun i σ H' => Iv (∃ (u5 u6 u7 u8 u9 : Option V) (ms : List Int), σ = [some (.ref a), some (.ref p1), some (.int k), some (.ref p4), some (.ref p5), u5, u6, u7, u8, u9] ∧ H' p1 = some (.lst (ms.map V.int)) ∧ But p1 H5 H')) ?i0 ?is ?id
      case i0 => exact ⟨_, _, _, _, _, _, rfl, a5, fun x o _ h => h⟩
      case is =>
        rintro i σ H6 hi ⟨u5, u6, u7, u8, u9, ms6, rfl, a6, b6⟩
        have e46 := b6 _ _ (Ne.symm h14) e45
        have e56 := b6 _ _ (Ne.symm h15) e5
        have r6 : PairsF H6 ls5 ps5 := ⟨r5.len, fun k p h => b6 _ _ (hla p (List.mem_of_getElem? h)) (r5.row k p h)⟩
        tb_start
        intro p7 xs7 ms7 H7 e7 a7 bad7 hx7 fx7 b7 n7
        have h17 : p1 ≠ p7 := by kcj_m
        have e47 := b7 _ _ (Ne.symm h14) e46
        tb_start
        intro p8 n8
        have h18 : p1 ≠ p8 := by kcj_m
        tb_start
        intro p9 n9
        have h19 : p1 ≠ p9 := by kcj_m
        have h89 : p8 ≠ p9 := by kcj_m
        tb_start
        intro p10 n10
        have h110 : p1 ≠ p10 := by kcj_m
        have h810 : p8 ≠ p10 := by kcj_m
        have h910 : p9 ≠ p10 := by kcj_m
        have sX : Same H7 (upd (upd (upd H7 p8 (.lst (r.map V.int))) p9 (.lst xs7)) p10 (.lst [.ref p8, .ref p9])) := by kcj_in
        have x4 : (upd (upd (upd H7 p8 (.lst (r.map V.int))) p9 (.lst xs7)) p10 (.lst [.ref p8, .ref p9])) p4 = some (.lst (r.map V.int)) := sX _ _ e47
        have x7 : (upd (upd (upd H7 p8 (.lst (r.map V.int))) p9 (.lst xs7)) p10 (.lst [.ref p8, .ref p9])) p7 = some (.lst xs7) := sX _ _ e7
        have x1 : (upd (upd (upd H7 p8 (.lst (r.map V.int))) p9 (.lst xs7)) p10 (.lst [.ref p8, .ref p9])) p1 = some (.lst (ms7.map V.int)) := sX _ _ a7
        have x8 : (upd (upd (upd H7 p8 (.lst (r.map V.int))) p9 (.lst xs7)) p10 (.lst [.ref p8, .ref p9])) p8 = some (.lst (r.map V.int)) := by kct_strs
        have x9 : (upd (upd (upd H7 p8 (.lst (r.map V.int))) p9 (.lst xs7)) p10 (.lst [.ref p8, .ref p9])) p9 = some (.lst xs7) := by kct_strs
        have x10 : (upd (upd (upd H7 p8 (.lst (r.map V.int))) p9 (.lst xs7)) p10 (.lst [.ref p8, .ref p9])) p10 = some (.lst [.ref p8, .ref p9]) := upd_same
        have bad9 := (bad7.same sX).copy x7 x9
        have bX := but_step' sX (but_step b7 b6)
        generalize (upd (upd (upd H7 p8 (.lst (r.map V.int))) p9 (.lst xs7)) p10 (.lst [.ref p8, .ref p9])) = HX at *
        clear n8 n9 n10 e47 e7 a7 b7 b6 n7 e46 e56 r6 a6 bad7
        tb_start
        refine for_range (n := 2) (fun i' σ H' => Iv (∃ (u8 : Option V), σ = [some (.ref a), some (.ref p1), some (.int k), some (.ref p4), some (.ref p5), some (.int (0 + (i : Int))), some (.ref p7), some (.ref p10), u8, u9] ∧ Same HX H')) ?w0 ?ws ?wd
        case w0 => exact ⟨_, rfl, Same.refl _⟩
        case ws =>
          rintro w σ H8 hw ⟨u8, rfl, s8⟩
          have y4 := s8 _ _ x4
          have y7 := s8 _ _ x7
          have y8 := s8 _ _ x8
          have y9 := s8 _ _ x9
          have y10 := s8 _ _ x10
          have bad8 := bad9.same s8
          have hw2 : (0 + (w : Int)) = 0 ∨ (0 + (w : Int)) = 1 := by omega
          tb_start
          refine .inr ⟨bad8, fun H11 s11 => ?_⟩
          have z4 := s11 _ _ y4
          have z7 := s11 _ _ y7
          have z8 := s11 _ _ y8
          have z9 := s11 _ _ y9
          have z10 := s11 _ _ y10
          tb_start
          intro p12 n12
          have s12 : Same H11 (upd H11 p12 (.lst [.ref p4, .ref p7])) := same_new n12
          refine ⟨⟨p10, p12, p8, p9, p4, p7, _, _, rfl, rfl, SqL.of (s12 _ _ z10), SqL.of upd_same, SqL.of (s12 _ _ z8), SqL.of (s12 _ _ z4), SqL.of (s12 _ _ z9), SqL.of (s12 _ _ z7), ?_, fx7, ?_⟩⟩
          · intro v hv
            obtain ⟨z, _, rfl⟩ := List.mem_map.mp hv
            exact .inl rfl
          tb_start
          exact ⟨_, rfl, s8.trans (s11.trans s12)⟩
        case wd =>
          rintro σ H8 ⟨u8, rfl, s8⟩
          exact ⟨_, _, _, _, _, _, rfl, s8 _ _ x1, but_step' s8 bX⟩
      case id =>
        rintro σ H6 ⟨u5, u6, u7, u8, u9, ms6, rfl, a6, b6⟩
        have e46 := b6 _ _ (Ne.symm h14) e45
        have e56 := b6 _ _ (Ne.symm h15) e5
        have r6 : PairsF H6 ls5 ps5 := ⟨r5.len, fun k p h => b6 _ _ (hla p (List.mem_of_getElem? h)) (r5.row k p h)⟩
        tb_start
        refine .inl ?_
        tb_start
        intro H7 s7
        have e47 := s7 _ _ e46
        have e57 := s7 _ _ e56
        have r7 := ObjsF.same r6 s7
        have a7 := s7 _ _ a6
        tb_start
        refine .inl ?_
        tb_start
        intro H8 s8
        have a8 := s8 _ _ a7
        tb_start
        exact ⟨6 - (k + 1).toNat, by omega, _, _, _, _, _, _, _, _, _, rfl, a8, by omega, by omega, rfl⟩
    case hd =>
      rintro mu σ H2 H3 ⟨k, ds2, u3, u4, u5, u6, u7, u8, u9, rfl, e2, k0, k4, rfl⟩ s3
      tb_start
      intro A1 nA1
      generalize hX : (upd _ A1 _) = GA1
      have sw : Same H3 GA1 := by rw [← hX]; exact same_new nA1
      have eA1 : GA1 A1 = some (.tup []) := by rw [← hX]; exact upd_same
      have xA1 : BadNs GA1 (.ref A1) := badNs_tup eA1
      clear hX sw nA1 eA1
      tb_start
      intro A2 nA2
      generalize hX : (upd _ A2 _) = GA2
      have sw : Same GA1 GA2 := by rw [← hX]; exact same_new nA2
      have eA2 : GA2 A2 = some (.dK []) := by rw [← hX]; exact upd_same
      replace xA1 := xA1.same sw
      have xA2 : BadNs GA2 (.ref A2) := badNs_dct eA2
      clear hX sw nA2 eA2
      tb_start
      intro A3 nA3
      generalize hX : (upd _ A3 _) = GA3
      have sw : Same GA2 GA3 := by rw [← hX]; exact same_new nA3
      have eA3 : GA3 A3 = some (.tup [V.int 3, V.int 1]) := by rw [← hX]; exact upd_same
      replace xA1 := xA1.same sw
      replace xA2 := xA2.same sw
      clear hX sw nA3
      tb_start
      intro A4 nA4
      generalize hX : (upd _ A4 _) = GA4
      have sw : Same GA3 GA4 := by rw [← hX]; exact same_new nA4
      have eA4 : GA4 A4 = some (.tup [V.ref A3]) := by rw [← hX]; exact upd_same
      replace xA1 := xA1.same sw
      replace xA2 := xA2.same sw
      have xA4 : BadNs GA4 (.ref A4) := badNs_tup eA4
      clear hX sw nA4 eA4
      tb_start
      intro A5 nA5
      refine (show _ ∧ ∃ kvs : List (Key × V), _ ∧ _ ∧ _ from ⟨upd_same, [(.inl 3, .int 1)], rfl, by decide, ?_⟩)
      rw [upd_upd]
      generalize hX : (upd _ A5 _) = GA5
      have sw : Same GA4 GA5 := by rw [← hX]; exact same_new nA5
      have eA5 : GA5 A5 = some (.dK [(Sum.inl 3, V.int 1)]) := by rw [← hX]; exact upd_same
      replace xA1 := xA1.same sw
      replace xA2 := xA2.same sw
      replace xA4 := xA4.same sw
      have xA5 : BadNs GA5 (.ref A5) := badNs_dct eA5
      clear hX sw nA5 eA5
      tb_start
      intro A6 zz zs G6 e6 ez6 _ _ s6
      replace xA1 := xA1.same s6
      replace xA2 := xA2.same s6
      replace xA4 := xA4.same s6
      replace xA5 := xA5.same s6
      have xA6 : BadNs G6 (.ref A6) := badNs_deep e6 ez6
      clear e6 ez6 s6
      tb_start
      intro A7 nA7
      generalize hX : (upd _ A7 _) = GA7
      have sw : Same G6 GA7 := by rw [← hX]; exact same_new nA7
      have eA7 : GA7 A7 = some (.lst [V.non, V.int 0, V.bl true, V.str (Str.ofString ""), V.ref A1, V.ref A2, V.ref A4, V.ref A5, V.str (Str.ofString "3 1"), V.ref A6]) := by rw [← hX]; exact upd_same
      replace xA1 := xA1.same sw
      replace xA2 := xA2.same sw
      replace xA4 := xA4.same sw
      replace xA5 := xA5.same sw
      replace xA6 := xA6.same sw
      clear hX sw nA7
      have bs : ∀ x ∈ [V.non, V.int 0, V.bl true, V.str (Str.ofString ""), V.ref A1, V.ref A2, V.ref A4, V.ref A5, V.str (Str.ofString "3 1"), V.ref A6], BadNs GA7 x := by
        intro x hx
        simp only [List.mem_cons, List.not_mem_nil, or_false] at hx
        rcases hx with rfl | rfl | rfl | rfl | rfl | rfl | rfl | rfl | rfl | rfl
        · exact badNs_non .non (fun _ => V.noConfusion)
        · exact badNs_non .int (fun _ => V.noConfusion)
        · exact badNs_non .bl (fun _ => V.noConfusion)
        · exact badNs_non .str (fun _ => V.noConfusion)
        · exact xA1
        · exact xA2
        · exact xA4
        · exact xA5
        · exact badNs_non .str (fun _ => V.noConfusion)
        · exact xA6
      clear xA1 xA2 xA4 xA5 xA6 eA3
      tb_start
      refine for_list (xs := [V.non, V.int 0, V.bl true, V.str (Str.ofString ""), V.ref A1, V.ref A2, V.ref A4, V.ref A5, V.str (Str.ofString "3 1"), V.ref A6]) (fun i σ H' => Iv (∃ (u9 : Option V), σ = [some (.ref a), some (.ref p1), some (.int k), u3, u4, u5, u6, u7, u8, u9] ∧ Same GA7 H')) ?t0 ?tl ?ts ?td
      case t0 => exact ⟨_, rfl, Same.refl _⟩
      case tl =>
        rintro i σ H9 hi ⟨u9, rfl, s9⟩
        exact SqL.of (s9 _ _ eA7)
      case ts =>
        rintro i x σ H9 hx ⟨u9, rfl, s9⟩
        have bx := (bs x (List.mem_of_getElem? hx)).same s9
        tb_start
        intro q1 m1
        have bx1 := bx.same (same_new (o := .lst [V.int 3, V.int 1, V.int 3]) m1)
        have sq1 : Same H9 (upd H9 q1 (.lst [V.int 3, V.int 1, V.int 3])) := same_new m1
        have lq1 : (upd H9 q1 (.lst [V.int 3, V.int 1, V.int 3])) q1 = some (.lst (([3, 1, 3] : List Int).map V.int)) := upd_same
        tb_start
        refine .inr ⟨bx1, fun H10 s10 => ?_⟩
        have bx2 := bx1.same s10
        clear lq1
        tb_start
        intro q2 m2
        have bx3 := bx2.same (same_new (o := .lst [V.int 3, V.int 1, V.int 3]) m2)
        have sq2 : Same H10 (upd H10 q2 (.lst [V.int 3, V.int 1, V.int 3])) := same_new m2
        have lq2 : (upd H10 q2 (.lst [V.int 3, V.int 1, V.int 3])) q2 = some (.lst (([3, 1, 3] : List Int).map V.int)) := upd_same
        tb_start
        refine .inr ⟨bx3, fun H11 s11 => ?_⟩
        tb_start
        exact ⟨_, rfl, s9.trans (sq1.trans (s10.trans (sq2.trans s11)))⟩
      case td =>
        rintro σ H9 ⟨u9, rfl, s9⟩
        tb_start
        exact q _
end
end Ur
namespace Ur
open PySem L2
theorem all_mk {l : PySem.W.OpenLaw} {w : World} {K : PySem.W.Frag} {h : Heap} {mg : Str → Option Value} {fa : Addr} {c_NoNeeds c_RowError c_NoCommand c_NoPlace c_NoRow c_NoTable c_NoWindow : Addr} (X : K.In h) (G : h.Ns mainGlobals mg) (hfa : mg "law" = some (.ref fa))
    {f__law_take : Addr} {oc__law_take kV__law_take dc__law_take pm__law_take cd__law_take ct__law_take : Value} {od__law_take an__law_take : Option Addr} {sl__law_take : Array (Option Value)}
    {f__law_bad : Addr} {oc__law_bad kV__law_bad dc__law_bad pm__law_bad cd__law_bad ct__law_bad : Value} {od__law_bad an__law_bad : Option Addr} {sl__law_bad : Array (Option Value)}
    {f__law_deep : Addr} {oc__law_deep kV__law_deep dc__law_deep pm__law_deep cd__law_deep ct__law_deep : Value} {od__law_deep an__law_deep : Option Addr} {sl__law_deep : Array (Option Value)}
    {f__law_draws : Addr} {oc__law_draws kV__law_draws dc__law_draws pm__law_draws cd__law_draws ct__law_draws : Value} {od__law_draws an__law_draws : Option Addr} {sl__law_draws : Array (Option Value)}
    {f__law_number : Addr} {oc__law_number kV__law_number dc__law_number pm__law_number cd__law_number ct__law_number : Value} {od__law_number an__law_number : Option Addr} {sl__law_number : Array (Option Value)}
    {f__law_needs : Addr} {oc__law_needs kV__law_needs dc__law_needs pm__law_needs cd__law_needs ct__law_needs : Value} {od__law_needs an__law_needs : Option Addr} {sl__law_needs : Array (Option Value)}
    {f_is_whole : Addr} {oc_is_whole kV_is_whole dc_is_whole pm_is_whole cd_is_whole ct_is_whole : Value} {od_is_whole an_is_whole : Option Addr} {sl_is_whole : Array (Option Value)}
    {f_times_needed : Addr} {oc_times_needed kV_times_needed dc_times_needed pm_times_needed cd_times_needed ct_times_needed : Value} {od_times_needed an_times_needed : Option Addr} {sl_times_needed : Array (Option Value)}
    {f_ends_holding : Addr} {oc_ends_holding kV_ends_holding dc_ends_holding pm_ends_holding cd_ends_holding ct_ends_holding : Value} {od_ends_holding an_ends_holding : Option Addr} {sl_ends_holding : Array (Option Value)}
    {f_tight_holding : Addr} {oc_tight_holding kV_tight_holding dc_tight_holding pm_tight_holding cd_tight_holding ct_tight_holding : Value} {od_tight_holding an_tight_holding : Option Addr} {sl_tight_holding : Array (Option Value)}
    {f_shortest_holding : Addr} {oc_shortest_holding kV_shortest_holding dc_shortest_holding pm_shortest_holding cd_shortest_holding ct_shortest_holding : Value} {od_shortest_holding an_shortest_holding : Option Addr} {sl_shortest_holding : Array (Option Value)}
    {f__law_refused : Addr} {oc__law_refused kV__law_refused dc__law_refused pm__law_refused cd__law_refused ct__law_refused : Value} {od__law_refused an__law_refused : Option Addr} {sl__law_refused : Array (Option Value)}
    {f__law_row : Addr} {oc__law_row kV__law_row dc__law_row pm__law_row cd__law_row ct__law_row : Value} {od__law_row an__law_row : Option Addr} {sl__law_row : Array (Option Value)}
    {f_law : Addr} {oc_law kV_law dc_law pm_law cd_law ct_law : Value} {od_law an_law : Option Addr} {sl_law : Array (Option Value)}
    (aC_NoNeeds : PySem.W.nsIn K mainGlobals "NoNeeds" = some (some (.ref c_NoNeeds)))
    (aC_RowError : PySem.W.nsIn K mainGlobals "RowError" = some (some (.ref c_RowError)))
    (aC_NoCommand : PySem.W.nsIn K mainGlobals "NoCommand" = some (some (.ref c_NoCommand)))
    (aC_NoPlace : PySem.W.nsIn K mainGlobals "NoPlace" = some (some (.ref c_NoPlace)))
    (aC_NoRow : PySem.W.nsIn K mainGlobals "NoRow" = some (some (.ref c_NoRow)))
    (aC_NoTable : PySem.W.nsIn K mainGlobals "NoTable" = some (some (.ref c_NoTable)))
    (aC_NoWindow : PySem.W.nsIn K mainGlobals "NoWindow" = some (some (.ref c_NoWindow)))
    (a__law_take : PySem.W.nsIn K mainGlobals "_law_take" = some (some (.ref f__law_take)))
    (l__law_take : K.lookup f__law_take = some ⟨oc__law_take, od__law_take, .func (PySem.W.fnOf "_law_take" "_law_take" (defArgs s__law_take) (defBody s__law_take) (defScope s__law_take) .none kV__law_take dc__law_take pm__law_take an__law_take cd__law_take ct__law_take), sl__law_take⟩)
    (q__law_take : PySem.W.codeIn K cd__law_take "_law_take" = true)
    (k__law_take : PySem.W.keepIn K (.ref f__law_take) = true)
    (a__law_bad : PySem.W.nsIn K mainGlobals "_law_bad" = some (some (.ref f__law_bad)))
    (l__law_bad : K.lookup f__law_bad = some ⟨oc__law_bad, od__law_bad, .func (PySem.W.fnOf "_law_bad" "_law_bad" (defArgs s__law_bad) (defBody s__law_bad) (defScope s__law_bad) .none kV__law_bad dc__law_bad pm__law_bad an__law_bad cd__law_bad ct__law_bad), sl__law_bad⟩)
    (q__law_bad : PySem.W.codeIn K cd__law_bad "_law_bad" = true)
    (k__law_bad : PySem.W.keepIn K (.ref f__law_bad) = true)
    (a__law_deep : PySem.W.nsIn K mainGlobals "_law_deep" = some (some (.ref f__law_deep)))
    (l__law_deep : K.lookup f__law_deep = some ⟨oc__law_deep, od__law_deep, .func (PySem.W.fnOf "_law_deep" "_law_deep" (defArgs s__law_deep) (defBody s__law_deep) (defScope s__law_deep) .none kV__law_deep dc__law_deep pm__law_deep an__law_deep cd__law_deep ct__law_deep), sl__law_deep⟩)
    (q__law_deep : PySem.W.codeIn K cd__law_deep "_law_deep" = true)
    (k__law_deep : PySem.W.keepIn K (.ref f__law_deep) = true)
    (a__law_draws : PySem.W.nsIn K mainGlobals "_law_draws" = some (some (.ref f__law_draws)))
    (l__law_draws : K.lookup f__law_draws = some ⟨oc__law_draws, od__law_draws, .func (PySem.W.fnOf "_law_draws" "_law_draws" (defArgs s__law_draws) (defBody s__law_draws) (defScope s__law_draws) .none kV__law_draws dc__law_draws pm__law_draws an__law_draws cd__law_draws ct__law_draws), sl__law_draws⟩)
    (q__law_draws : PySem.W.codeIn K cd__law_draws "_law_draws" = true)
    (k__law_draws : PySem.W.keepIn K (.ref f__law_draws) = true)
    (a__law_number : PySem.W.nsIn K mainGlobals "_law_number" = some (some (.ref f__law_number)))
    (l__law_number : K.lookup f__law_number = some ⟨oc__law_number, od__law_number, .func (PySem.W.fnOf "_law_number" "_law_number" (defArgs s__law_number) (defBody s__law_number) (defScope s__law_number) .none kV__law_number dc__law_number pm__law_number an__law_number cd__law_number ct__law_number), sl__law_number⟩)
    (q__law_number : PySem.W.codeIn K cd__law_number "_law_number" = true)
    (k__law_number : PySem.W.keepIn K (.ref f__law_number) = true)
    (a__law_needs : PySem.W.nsIn K mainGlobals "_law_needs" = some (some (.ref f__law_needs)))
    (l__law_needs : K.lookup f__law_needs = some ⟨oc__law_needs, od__law_needs, .func (PySem.W.fnOf "_law_needs" "_law_needs" (defArgs s__law_needs) (defBody s__law_needs) (defScope s__law_needs) .none kV__law_needs dc__law_needs pm__law_needs an__law_needs cd__law_needs ct__law_needs), sl__law_needs⟩)
    (q__law_needs : PySem.W.codeIn K cd__law_needs "_law_needs" = true)
    (k__law_needs : PySem.W.keepIn K (.ref f__law_needs) = true)
    (a_is_whole : PySem.W.nsIn K mainGlobals "is_whole" = some (some (.ref f_is_whole)))
    (l_is_whole : K.lookup f_is_whole = some ⟨oc_is_whole, od_is_whole, .func (PySem.W.fnOf "is_whole" "is_whole" (defArgs s_is_whole) (defBody s_is_whole) (defScope s_is_whole) .none kV_is_whole dc_is_whole pm_is_whole an_is_whole cd_is_whole ct_is_whole), sl_is_whole⟩)
    (q_is_whole : PySem.W.codeIn K cd_is_whole "is_whole" = true)
    (k_is_whole : PySem.W.keepIn K (.ref f_is_whole) = true)
    (a_times_needed : PySem.W.nsIn K mainGlobals "times_needed" = some (some (.ref f_times_needed)))
    (l_times_needed : K.lookup f_times_needed = some ⟨oc_times_needed, od_times_needed, .func (PySem.W.fnOf "times_needed" "times_needed" (defArgs s_times_needed) (defBody s_times_needed) (defScope s_times_needed) .none kV_times_needed dc_times_needed pm_times_needed an_times_needed cd_times_needed ct_times_needed), sl_times_needed⟩)
    (q_times_needed : PySem.W.codeIn K cd_times_needed "times_needed" = true)
    (k_times_needed : PySem.W.keepIn K (.ref f_times_needed) = true)
    (a_ends_holding : PySem.W.nsIn K mainGlobals "ends_holding" = some (some (.ref f_ends_holding)))
    (l_ends_holding : K.lookup f_ends_holding = some ⟨oc_ends_holding, od_ends_holding, .func (PySem.W.fnOf "ends_holding" "ends_holding" (defArgs s_ends_holding) (defBody s_ends_holding) (defScope s_ends_holding) .none kV_ends_holding dc_ends_holding pm_ends_holding an_ends_holding cd_ends_holding ct_ends_holding), sl_ends_holding⟩)
    (q_ends_holding : PySem.W.codeIn K cd_ends_holding "ends_holding" = true)
    (k_ends_holding : PySem.W.keepIn K (.ref f_ends_holding) = true)
    (a_tight_holding : PySem.W.nsIn K mainGlobals "tight_holding" = some (some (.ref f_tight_holding)))
    (l_tight_holding : K.lookup f_tight_holding = some ⟨oc_tight_holding, od_tight_holding, .func (PySem.W.fnOf "tight_holding" "tight_holding" (defArgs s_tight_holding) (defBody s_tight_holding) (defScope s_tight_holding) .none kV_tight_holding dc_tight_holding pm_tight_holding an_tight_holding cd_tight_holding ct_tight_holding), sl_tight_holding⟩)
    (q_tight_holding : PySem.W.codeIn K cd_tight_holding "tight_holding" = true)
    (k_tight_holding : PySem.W.keepIn K (.ref f_tight_holding) = true)
    (a_shortest_holding : PySem.W.nsIn K mainGlobals "shortest_holding" = some (some (.ref f_shortest_holding)))
    (l_shortest_holding : K.lookup f_shortest_holding = some ⟨oc_shortest_holding, od_shortest_holding, .func (PySem.W.fnOf "shortest_holding" "shortest_holding" (defArgs s_shortest_holding) (defBody s_shortest_holding) (defScope s_shortest_holding) .none kV_shortest_holding dc_shortest_holding pm_shortest_holding an_shortest_holding cd_shortest_holding ct_shortest_holding), sl_shortest_holding⟩)
    (q_shortest_holding : PySem.W.codeIn K cd_shortest_holding "shortest_holding" = true)
    (k_shortest_holding : PySem.W.keepIn K (.ref f_shortest_holding) = true)
    (a__law_refused : PySem.W.nsIn K mainGlobals "_law_refused" = some (some (.ref f__law_refused)))
    (l__law_refused : K.lookup f__law_refused = some ⟨oc__law_refused, od__law_refused, .func (PySem.W.fnOf "_law_refused" "_law_refused" (defArgs s__law_refused) (defBody s__law_refused) (defScope s__law_refused) .none kV__law_refused dc__law_refused pm__law_refused an__law_refused cd__law_refused ct__law_refused), sl__law_refused⟩)
    (q__law_refused : PySem.W.codeIn K cd__law_refused "_law_refused" = true)
    (k__law_refused : PySem.W.keepIn K (.ref f__law_refused) = true)
    (a__law_row : PySem.W.nsIn K mainGlobals "_law_row" = some (some (.ref f__law_row)))
    (l__law_row : K.lookup f__law_row = some ⟨oc__law_row, od__law_row, .func (PySem.W.fnOf "_law_row" "_law_row" (defArgs s__law_row) (defBody s__law_row) (defScope s__law_row) .none kV__law_row dc__law_row pm__law_row an__law_row cd__law_row ct__law_row), sl__law_row⟩)
    (q__law_row : PySem.W.codeIn K cd__law_row "_law_row" = true)
    (k__law_row : PySem.W.keepIn K (.ref f__law_row) = true)
    (a_law : PySem.W.nsIn K mainGlobals "law" = some (some (.ref f_law)))
    (l_law : K.lookup f_law = some ⟨oc_law, od_law, .func (PySem.W.fnOf "law" "law" (defArgs s_law) (defBody s_law) (defScope s_law) .none kV_law dc_law pm_law an_law cd_law ct_law), sl_law⟩)
    (q_law : PySem.W.codeIn K cd_law "law" = true)
    (k_law : PySem.W.keepIn K (.ref f_law) = true)
    (x_NoNeeds : PySem.W.excIn K c_NoNeeds [.type "ValueError", .type "Exception", .type "BaseException", .type "object"] "ValueError.__new__" = true)
    (k_NoNeeds : PySem.W.keepIn K (.ref c_NoNeeds) = true)
    (b_NoNeeds : PySem.W.subIn K (.ref c_NoNeeds) (.type "BaseException") = some true)
    (t_NoNeeds : PySem.W.typeIn K (.ref c_NoNeeds) = some (.type "type"))
    (h_NoNeeds : PySem.W.hasDictIn K c_NoNeeds = true)
    (b_RowError : PySem.W.subIn K (.ref c_RowError) (.type "BaseException") = some true)
    (t_RowError : PySem.W.typeIn K (.ref c_RowError) = some (.type "type"))
    (h_RowError : PySem.W.hasDictIn K c_RowError = true)
    (s_NoNeeds_RowError : PySem.W.subIn K (.ref c_NoNeeds) (.ref c_RowError) = some true)
    (q_NoNeeds_NoNeeds : PySem.W.kitOne K (.ref c_NoNeeds) (.ref c_NoNeeds) = some true)
    (q_NoNeeds_ValueError : PySem.W.kitOne K (.ref c_NoNeeds) (.type "ValueError") = some true)
    (q_NoNeeds_NoCommand : PySem.W.kitOne K (.ref c_NoNeeds) (.ref c_NoCommand) = some false)
    (q_NoNeeds_NoPlace : PySem.W.kitOne K (.ref c_NoNeeds) (.ref c_NoPlace) = some false)
    (q_NoNeeds_NoRow : PySem.W.kitOne K (.ref c_NoNeeds) (.ref c_NoRow) = some false)
    (q_NoNeeds_NoTable : PySem.W.kitOne K (.ref c_NoNeeds) (.ref c_NoTable) = some false)
    (q_NoNeeds_NoWindow : PySem.W.kitOne K (.ref c_NoNeeds) (.ref c_NoWindow) = some false)
    (Ehg_NoNeeds : PySem.W.findIn K (.ref c_NoNeeds) "__getattribute__" = some (some (.builtin "BaseException.__getattribute__")))
    (Ehk_NoNeeds : PySem.W.findIn K (.ref c_NoNeeds) "__getattr__" = some none)
    (Eha_NoNeeds : PySem.W.findIn K (.ref c_NoNeeds) "__class__" = some (some (.builtin "object.__class__")))
    (Ehm_NoNeeds : PySem.W.mroIn K c_NoNeeds (.type "object") = some true)
    (Ehn : PySem.W.specialIn K (.builtin "object.__class__") "__get__" = some (some (.builtin "getset_descriptor.__get__")))
    (Eht : PySem.W.takesIn K (.builtin "object.__class__") = some true)
    (z_ValueError : PySem.W.nsIn K mainGlobals "ValueError" = some none)
    (z_abs : PySem.W.nsIn K mainGlobals "abs" = some none)
    (z_bool : PySem.W.nsIn K mainGlobals "bool" = some none)
    (z_enumerate : PySem.W.nsIn K mainGlobals "enumerate" = some none)
    (z_int : PySem.W.nsIn K mainGlobals "int" = some none)
    (z_isinstance : PySem.W.nsIn K mainGlobals "isinstance" = some none)
    (z_len : PySem.W.nsIn K mainGlobals "len" = some none)
    (z_list : PySem.W.nsIn K mainGlobals "list" = some none)
    (z_max : PySem.W.nsIn K mainGlobals "max" = some none)
    (z_min : PySem.W.nsIn K mainGlobals "min" = some none)
    (z_range : PySem.W.nsIn K mainGlobals "range" = some none)
    (z_sum : PySem.W.nsIn K mainGlobals "sum" = some none)
    (z_tuple : PySem.W.nsIn K mainGlobals "tuple" = some none)
    : ∃ fd : FuncData, (∀ (s : Shared) (v : Value), BindsTo s fd ⟨[v], []⟩ [("script", v)]) ∧ ∀ base : Heap, K.In base → base.Ns mainGlobals mg → FnOk l.prog w K mg base CX0 7 fa fd ["script"] (sp_law K) := by
  have e0 := (PySem.W.mg_of X G a_law).symm.trans hfa
  have e : f_law = fa := by injection e0 with e0; injection e0
  subst e
  have F__law_take := fun_mk (st := s__law_take) l__law_take q__law_take k__law_take
  have b__law_take := F__law_take.binds (ps := ["draws", "many"]) fun _ _ _ _ _ _ us hl => match us, hl with | [_, _], _ => rfl
  have F__law_bad := fun_mk (st := s__law_bad) l__law_bad q__law_bad k__law_bad
  have b__law_bad := F__law_bad.binds (ps := ["draws", "needs"]) fun _ _ _ _ _ _ us hl => match us, hl with | [_, _], _ => rfl
  have F__law_deep := fun_mk (st := s__law_deep) l__law_deep q__law_deep k__law_deep
  have b__law_deep := F__law_deep.binds (ps := ["many"]) fun _ _ _ _ _ _ us hl => match us, hl with | [_], _ => rfl
  have F__law_draws := fun_mk (st := s__law_draws) l__law_draws q__law_draws k__law_draws
  have b__law_draws := F__law_draws.binds (ps := ["script"]) fun _ _ _ _ _ _ us hl => match us, hl with | [_], _ => rfl
  have F__law_number := fun_mk (st := s__law_number) l__law_number q__law_number k__law_number
  have b__law_number := F__law_number.binds (ps := ["kind", "k"]) fun _ _ _ _ _ _ us hl => match us, hl with | [_, _], _ => rfl
  have F__law_needs := fun_mk (st := s__law_needs) l__law_needs q__law_needs k__law_needs
  have b__law_needs := F__law_needs.binds (ps := ["draws", "row"]) fun _ _ _ _ _ _ us hl => match us, hl with | [_, _], _ => rfl
  have F_is_whole := fun_mk (st := s_is_whole) l_is_whole q_is_whole k_is_whole
  have b_is_whole := F_is_whole.binds (ps := ["thing"]) fun _ _ _ _ _ _ us hl => match us, hl with | [_], _ => rfl
  have F_times_needed := fun_mk (st := s_times_needed) l_times_needed q_times_needed k_times_needed
  have b_times_needed := F_times_needed.binds (ps := ["needs"]) fun _ _ _ _ _ _ us hl => match us, hl with | [_], _ => rfl
  have F_ends_holding := fun_mk (st := s_ends_holding) l_ends_holding q_ends_holding k_ends_holding
  have b_ends_holding := F_ends_holding.binds (ps := ["row", "needs"]) fun _ _ _ _ _ _ us hl => match us, hl with | [_, _], _ => rfl
  have F_tight_holding := fun_mk (st := s_tight_holding) l_tight_holding q_tight_holding k_tight_holding
  have b_tight_holding := F_tight_holding.binds (ps := ["row", "needs"]) fun _ _ _ _ _ _ us hl => match us, hl with | [_, _], _ => rfl
  have F_shortest_holding := fun_mk (st := s_shortest_holding) l_shortest_holding q_shortest_holding k_shortest_holding
  have b_shortest_holding := F_shortest_holding.binds (ps := ["row", "needs"]) fun _ _ _ _ _ _ us hl => match us, hl with | [_, _], _ => rfl
  have F__law_refused := fun_mk (st := s__law_refused) l__law_refused q__law_refused k__law_refused
  have b__law_refused := F__law_refused.binds (ps := ["way", "row", "needs"]) fun _ _ _ _ _ _ us hl => match us, hl with | [_, _, _], _ => rfl
  have F__law_row := fun_mk (st := s__law_row) l__law_row q__law_row k__law_row
  have b__law_row := F__law_row.binds (ps := ["draws", "most"]) fun _ _ _ _ _ _ us hl => match us, hl with | [_, _], _ => rfl
  have F_law := fun_mk (st := s_law) l_law q_law k_law
  have b_law := F_law.binds (ps := ["script"]) fun _ _ _ _ _ _ us hl => match us, hl with | [_], _ => rfl
  have T : Txt K mg { f__law_take := f__law_take, d__law_take := (PySem.W.fnOf "_law_take" "_law_take" (defArgs s__law_take) (defBody s__law_take) (defScope s__law_take) .none kV__law_take dc__law_take pm__law_take an__law_take cd__law_take ct__law_take), f__law_bad := f__law_bad, d__law_bad := (PySem.W.fnOf "_law_bad" "_law_bad" (defArgs s__law_bad) (defBody s__law_bad) (defScope s__law_bad) .none kV__law_bad dc__law_bad pm__law_bad an__law_bad cd__law_bad ct__law_bad), f__law_deep := f__law_deep, d__law_deep := (PySem.W.fnOf "_law_deep" "_law_deep" (defArgs s__law_deep) (defBody s__law_deep) (defScope s__law_deep) .none kV__law_deep dc__law_deep pm__law_deep an__law_deep cd__law_deep ct__law_deep), f__law_draws := f__law_draws, d__law_draws := (PySem.W.fnOf "_law_draws" "_law_draws" (defArgs s__law_draws) (defBody s__law_draws) (defScope s__law_draws) .none kV__law_draws dc__law_draws pm__law_draws an__law_draws cd__law_draws ct__law_draws), f__law_number := f__law_number, d__law_number := (PySem.W.fnOf "_law_number" "_law_number" (defArgs s__law_number) (defBody s__law_number) (defScope s__law_number) .none kV__law_number dc__law_number pm__law_number an__law_number cd__law_number ct__law_number), f__law_needs := f__law_needs, d__law_needs := (PySem.W.fnOf "_law_needs" "_law_needs" (defArgs s__law_needs) (defBody s__law_needs) (defScope s__law_needs) .none kV__law_needs dc__law_needs pm__law_needs an__law_needs cd__law_needs ct__law_needs), f_is_whole := f_is_whole, d_is_whole := (PySem.W.fnOf "is_whole" "is_whole" (defArgs s_is_whole) (defBody s_is_whole) (defScope s_is_whole) .none kV_is_whole dc_is_whole pm_is_whole an_is_whole cd_is_whole ct_is_whole), f_times_needed := f_times_needed, d_times_needed := (PySem.W.fnOf "times_needed" "times_needed" (defArgs s_times_needed) (defBody s_times_needed) (defScope s_times_needed) .none kV_times_needed dc_times_needed pm_times_needed an_times_needed cd_times_needed ct_times_needed), f_ends_holding := f_ends_holding, d_ends_holding := (PySem.W.fnOf "ends_holding" "ends_holding" (defArgs s_ends_holding) (defBody s_ends_holding) (defScope s_ends_holding) .none kV_ends_holding dc_ends_holding pm_ends_holding an_ends_holding cd_ends_holding ct_ends_holding), f_tight_holding := f_tight_holding, d_tight_holding := (PySem.W.fnOf "tight_holding" "tight_holding" (defArgs s_tight_holding) (defBody s_tight_holding) (defScope s_tight_holding) .none kV_tight_holding dc_tight_holding pm_tight_holding an_tight_holding cd_tight_holding ct_tight_holding), f_shortest_holding := f_shortest_holding, d_shortest_holding := (PySem.W.fnOf "shortest_holding" "shortest_holding" (defArgs s_shortest_holding) (defBody s_shortest_holding) (defScope s_shortest_holding) .none kV_shortest_holding dc_shortest_holding pm_shortest_holding an_shortest_holding cd_shortest_holding ct_shortest_holding), f__law_refused := f__law_refused, d__law_refused := (PySem.W.fnOf "_law_refused" "_law_refused" (defArgs s__law_refused) (defBody s__law_refused) (defScope s__law_refused) .none kV__law_refused dc__law_refused pm__law_refused an__law_refused cd__law_refused ct__law_refused), f__law_row := f__law_row, d__law_row := (PySem.W.fnOf "_law_row" "_law_row" (defArgs s__law_row) (defBody s__law_row) (defScope s__law_row) .none kV__law_row dc__law_row pm__law_row an__law_row cd__law_row ct__law_row), f_law := f_law, d_law := (PySem.W.fnOf "law" "law" (defArgs s_law) (defBody s_law) (defScope s_law) .none kV_law dc_law pm_law an_law cd_law ct_law), c_NoNeeds := c_NoNeeds, c_RowError := c_RowError, c_NoCommand := c_NoCommand, c_NoPlace := c_NoPlace, c_NoRow := c_NoRow, c_NoTable := c_NoTable, c_NoWindow := c_NoWindow } := {
    F__law_take := F__law_take,
    b__law_take := b__law_take,
    g__law_take := PySem.W.mg_of X G a__law_take,
    F__law_bad := F__law_bad,
    b__law_bad := b__law_bad,
    g__law_bad := PySem.W.mg_of X G a__law_bad,
    F__law_deep := F__law_deep,
    b__law_deep := b__law_deep,
    g__law_deep := PySem.W.mg_of X G a__law_deep,
    F__law_draws := F__law_draws,
    b__law_draws := b__law_draws,
    g__law_draws := PySem.W.mg_of X G a__law_draws,
    F__law_number := F__law_number,
    b__law_number := b__law_number,
    g__law_number := PySem.W.mg_of X G a__law_number,
    F__law_needs := F__law_needs,
    b__law_needs := b__law_needs,
    g__law_needs := PySem.W.mg_of X G a__law_needs,
    F_is_whole := F_is_whole,
    b_is_whole := b_is_whole,
    g_is_whole := PySem.W.mg_of X G a_is_whole,
    F_times_needed := F_times_needed,
    b_times_needed := b_times_needed,
    g_times_needed := PySem.W.mg_of X G a_times_needed,
    F_ends_holding := F_ends_holding,
    b_ends_holding := b_ends_holding,
    g_ends_holding := PySem.W.mg_of X G a_ends_holding,
    F_tight_holding := F_tight_holding,
    b_tight_holding := b_tight_holding,
    g_tight_holding := PySem.W.mg_of X G a_tight_holding,
    F_shortest_holding := F_shortest_holding,
    b_shortest_holding := b_shortest_holding,
    g_shortest_holding := PySem.W.mg_of X G a_shortest_holding,
    F__law_refused := F__law_refused,
    b__law_refused := b__law_refused,
    g__law_refused := PySem.W.mg_of X G a__law_refused,
    F__law_row := F__law_row,
    b__law_row := b__law_row,
    g__law_row := PySem.W.mg_of X G a__law_row,
    F_law := F_law,
    b_law := b_law,
    g_law := PySem.W.mg_of X G a_law,
    g_NoNeeds := PySem.W.mg_of X G aC_NoNeeds,
    g_RowError := PySem.W.mg_of X G aC_RowError,
    g_NoCommand := PySem.W.mg_of X G aC_NoCommand,
    g_NoPlace := PySem.W.mg_of X G aC_NoPlace,
    g_NoRow := PySem.W.mg_of X G aC_NoRow,
    g_NoTable := PySem.W.mg_of X G aC_NoTable,
    g_NoWindow := PySem.W.mg_of X G aC_NoWindow,
    x_NoNeeds := x_NoNeeds,
    k_NoNeeds := k_NoNeeds,
    b_NoNeeds := b_NoNeeds,
    t_NoNeeds := t_NoNeeds,
    h_NoNeeds := h_NoNeeds,
    b_RowError := b_RowError,
    t_RowError := t_RowError,
    h_RowError := h_RowError,
    s_NoNeeds_RowError := s_NoNeeds_RowError,
    q_NoNeeds_NoNeeds := q_NoNeeds_NoNeeds,
    q_NoNeeds_ValueError := q_NoNeeds_ValueError,
    q_NoNeeds_NoCommand := q_NoNeeds_NoCommand,
    q_NoNeeds_NoPlace := q_NoNeeds_NoPlace,
    q_NoNeeds_NoRow := q_NoNeeds_NoRow,
    q_NoNeeds_NoTable := q_NoNeeds_NoTable,
    q_NoNeeds_NoWindow := q_NoNeeds_NoWindow,
    Ehg_NoNeeds := Ehg_NoNeeds,
    Ehk_NoNeeds := Ehk_NoNeeds,
    Eha_NoNeeds := Eha_NoNeeds,
    Ehm_NoNeeds := Ehm_NoNeeds,
    Ehn := Ehn,
    Eht := Eht,
    m_ValueError := PySem.W.mg_none_of X G z_ValueError,
    m_abs := PySem.W.mg_none_of X G z_abs,
    m_bool := PySem.W.mg_none_of X G z_bool,
    m_enumerate := PySem.W.mg_none_of X G z_enumerate,
    m_int := PySem.W.mg_none_of X G z_int,
    m_isinstance := PySem.W.mg_none_of X G z_isinstance,
    m_len := PySem.W.mg_none_of X G z_len,
    m_list := PySem.W.mg_none_of X G z_list,
    m_max := PySem.W.mg_none_of X G z_max,
    m_min := PySem.W.mg_none_of X G z_min,
    m_range := PySem.W.mg_none_of X G z_range,
    m_sum := PySem.W.mg_none_of X G z_sum,
    m_tuple := PySem.W.mg_none_of X G z_tuple }
  exact ⟨(PySem.W.fnOf "law" "law" (defArgs s_law) (defBody s_law) (defScope s_law) .none kV_law dc_law pm_law an_law cd_law ct_law), fun s v => .of_eq rfl, fun base _ _ => ok_law T⟩
theorem walk {l : PySem.W.OpenLaw} {q : Program} {loose : List Str} {XP : (Str → Option Value) → Heap → Prop} {YP : World → Heap → Prop} {d : DefRec} {K : Params → PySem.W.Frag} (hn : l.most = some 63) (hdf : d.params.defaults = [])
    (hY : ∀ (w : World) (h : Heap), YP w h → (K w.params).In h)
    (F : ∀ (w : World) (mg : Str → Option Value) (fa : Addr) (h : Heap), (K w.params).In h → h.Ns mainGlobals mg → mg d.name = some (.ref fa) →
      ∃ fd : FuncData, (∀ (s : Shared) (u : Value), BindsTo s fd ⟨[u], []⟩ [("script", u)]) ∧ ∀ base : Heap, (K w.params).In base → base.Ns mainGlobals mg → FnOk l.prog w (K w.params) mg base CX0 7 fa fd ["script"] (sp_law (K w.params))) :
    PySem.W.WalkO q loose XP YP l.row.toRowW d [] (fun f vs => PySem.call f vs) :=
  L2.walk_of (n := 63) (k := 7) (x := "script") (CX := fun _ => CX0) (sp := fun w => sp_law (K w.params)) hn (by decide) hdf ⟨rfl, by decide, by decide⟩ hY F (fun _ _ a ns hl _ hS => ⟨a, ns, rfl, hS, hl, fun _ => rfl⟩) fun _ _ _ _ _ z => z
end Ur
open PySem PySem.W PyProof.Rows in
set_option maxRecDepth 100000 in
set_option maxHeartbeats 0 in
theorem PySem.Challenge.cw_unlikerow_k40_needs_that_are_none_holds : PySem.Challenge.rw_unlikerow_k40_needs_that_are_none.Holds := by
  w_on; o_law; k_head; (case hw => w_witness2)
  k_fill
  refine Ur.walk (l := PySem.Challenge.rw_unlikerow_k40_needs_that_are_none) rfl rfl (fun w h Y => PySem.W.kIn_of Y) ?F
  case F =>
    intro w mg fa h KX G hmg
    refine' Ur.all_mk KX G hmg ?aC_NoNeeds ?aC_RowError ?aC_NoCommand ?aC_NoPlace ?aC_NoRow ?aC_NoTable ?aC_NoWindow ?a__law_take ?l__law_take ?q__law_take ?k__law_take ?a__law_bad ?l__law_bad ?q__law_bad ?k__law_bad ?a__law_deep ?l__law_deep ?q__law_deep ?k__law_deep ?a__law_draws ?l__law_draws ?q__law_draws ?k__law_draws ?a__law_number ?l__law_number ?q__law_number ?k__law_number ?a__law_needs ?l__law_needs ?q__law_needs ?k__law_needs ?a_is_whole ?l_is_whole ?q_is_whole ?k_is_whole ?a_times_needed ?l_times_needed ?q_times_needed ?k_times_needed ?a_ends_holding ?l_ends_holding ?q_ends_holding ?k_ends_holding ?a_tight_holding ?l_tight_holding ?q_tight_holding ?k_tight_holding ?a_shortest_holding ?l_shortest_holding ?q_shortest_holding ?k_shortest_holding ?a__law_refused ?l__law_refused ?q__law_refused ?k__law_refused ?a__law_row ?l__law_row ?q__law_row ?k__law_row ?a_law ?l_law ?q_law ?k_law ?x_NoNeeds ?k_NoNeeds ?b_NoNeeds ?t_NoNeeds ?h_NoNeeds ?b_RowError ?t_RowError ?h_RowError ?s_NoNeeds_RowError ?q_NoNeeds_NoNeeds ?q_NoNeeds_ValueError ?q_NoNeeds_NoCommand ?q_NoNeeds_NoPlace ?q_NoNeeds_NoRow ?q_NoNeeds_NoTable ?q_NoNeeds_NoWindow ?Ehg_NoNeeds ?Ehk_NoNeeds ?Eha_NoNeeds ?Ehm_NoNeeds ?Ehn ?Eht ?z_ValueError ?z_abs ?z_bool ?z_enumerate ?z_int ?z_isinstance ?z_len ?z_list ?z_max ?z_min ?z_range ?z_sum ?z_tuple
    (case aC_NoNeeds => k_is)
    (case aC_RowError => k_is)
    (case aC_NoCommand => k_is)
    (case aC_NoPlace => k_is)
    (case aC_NoRow => k_is)
    (case aC_NoTable => k_is)
    (case aC_NoWindow => k_is)
    (case a__law_take => k_is)
    (case l__law_take => k_is)
    (case q__law_take => k_is)
    (case k__law_take => k_is)
    (case a__law_bad => k_is)
    (case l__law_bad => k_is)
    (case q__law_bad => k_is)
    (case k__law_bad => k_is)
    (case a__law_deep => k_is)
    (case l__law_deep => k_is)
    (case q__law_deep => k_is)
    (case k__law_deep => k_is)
    (case a__law_draws => k_is)
    (case l__law_draws => k_is)
    (case q__law_draws => k_is)
    (case k__law_draws => k_is)
    (case a__law_number => k_is)
    (case l__law_number => k_is)
    (case q__law_number => k_is)
    (case k__law_number => k_is)
    (case a__law_needs => k_is)
    (case l__law_needs => k_is)
    (case q__law_needs => k_is)
    (case k__law_needs => k_is)
    (case a_is_whole => k_is)
    (case l_is_whole => k_is)
    (case q_is_whole => k_is)
    (case k_is_whole => k_is)
    (case a_times_needed => k_is)
    (case l_times_needed => k_is)
    (case q_times_needed => k_is)
    (case k_times_needed => k_is)
    (case a_ends_holding => k_is)
    (case l_ends_holding => k_is)
    (case q_ends_holding => k_is)
    (case k_ends_holding => k_is)
    (case a_tight_holding => k_is)
    (case l_tight_holding => k_is)
    (case q_tight_holding => k_is)
    (case k_tight_holding => k_is)
    (case a_shortest_holding => k_is)
    (case l_shortest_holding => k_is)
    (case q_shortest_holding => k_is)
    (case k_shortest_holding => k_is)
    (case a__law_refused => k_is)
    (case l__law_refused => k_is)
    (case q__law_refused => k_is)
    (case k__law_refused => k_is)
    (case a__law_row => k_is)
    (case l__law_row => k_is)
    (case q__law_row => k_is)
    (case k__law_row => k_is)
    (case a_law => k_is)
    (case l_law => k_is)
    (case q_law => k_is)
    (case k_law => k_is)
    (case x_NoNeeds => k_exc)
    (case k_NoNeeds => k_is)
    (case b_NoNeeds => k_is)
    (case t_NoNeeds => k_is)
    (case h_NoNeeds => k_is)
    (case b_RowError => k_is)
    (case t_RowError => k_is)
    (case h_RowError => k_is)
    (case s_NoNeeds_RowError => k_is)
    (case q_NoNeeds_NoNeeds => kit_is)
    (case q_NoNeeds_ValueError => kit_is)
    (case q_NoNeeds_NoCommand => kit_is)
    (case q_NoNeeds_NoPlace => kit_is)
    (case q_NoNeeds_NoRow => kit_is)
    (case q_NoNeeds_NoTable => kit_is)
    (case q_NoNeeds_NoWindow => kit_is)
    (case Ehg_NoNeeds => k_is)
    (case Ehk_NoNeeds => k_is)
    (case Eha_NoNeeds => k_is)
    (case Ehm_NoNeeds => k_is)
    (case Ehn => k_is)
    (case Eht => k_is)
    (case z_ValueError => k_is)
    (case z_abs => k_is)
    (case z_bool => k_is)
    (case z_enumerate => k_is)
    (case z_int => k_is)
    (case z_isinstance => k_is)
    (case z_len => k_is)
    (case z_list => k_is)
    (case z_max => k_is)
    (case z_min => k_is)
    (case z_range => k_is)
    (case z_sum => k_is)
    (case z_tuple => k_is)
