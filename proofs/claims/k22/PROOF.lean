import PyProof.Rows.All
import Wide.All
import OpenK.AllK
import Wide.FinOn
import PyProof.EqAt
import PyProof.EqKinds
import PyProof.TupleCall
import PyProof.WalksEnum
import KE.KItemsList
import KE.KDictZip
import KE.KDictItemsList
import KE.KCallChange
import KE.KCallJoin
import HandS.ForMost
import HandS.Walk
import HandS.Evl
import HandS.IsInst
import HandS.SortInts
import HandS.Exc
import HandS.TryOnly
import HandS.ExcOwn
import HandS.WordsExc
import HandS.Zip
import HandS.Rev
import HandS.SetKeys
import HandS.Style
import HandS.Conv
import HandS.ExcIs
import HandS.SetFor
import HandS.Set
import HandS.More
import HandS.Wide
import KE.DataMinMax
import KE.KLam
import KE.KNestM
import HandS.Lambda
import HandS.Nested
import HandS.EndTab
import PySem.Challenge.RW_unlikerow_k22_widths_planted
set_option Elab.async false
set_option linter.all false
set_option maxRecDepth 100000
set_option maxHeartbeats 4000000
/-! list(enumerate(l)), l a list: a new list of new pairs -/
namespace UrE
open PySem PySem.W PySem.Calls PyProof.Rows
open Sem (wp)
theorem enum_no_len : typeLookup (.type "enumerate") "__len__" = pure none := by rw [typeLookup_type, builtinLookup_eq_fast]; kernel_rfl
theorem enum_no_hint : typeLookup (.type "enumerate") "__length_hint__" = pure none := by rw [typeLookup_type, builtinLookup_eq_fast]; kernel_rfl
/-- the enumerate object at e between two turns, the tuples handed out still alive: f the first two fields -/
def Out (h : Heap) (e it S : Addr) (i : Nat) : Prop := ∃ (f0 f1 old : Value), h.get? e = some { cls := .type "enumerate", dict := none, data := .fields #[f0, f1, .ref it, rawInt i, .none, old], slots := #[] } ∧
  ((f0 = .none) ∨ ∃ (a : Addr) (b : Bool) (oa : Obj), f0 = rawInt a ∧ f1 = .bool b ∧ h.get? a = some oa ∧ a ≠ e ∧ a ≠ it ∧ a ≠ S)
section
variable {prog : Program} {w : World} {A : Around} {E : Value → Shared → Prop} {s : Shared}
theorem out_item {e it l S : Addr} {i : Nat} {items : Array Value} {x : Value} {Q : Option Value → Shared → Prop}
    (ho : Out s.heap e it S i) (hit : s.heap.IsListIter it l i) (hl : s.heap.IsList l items) (hx : items[i]? = some x) (hne : e ≠ it) (hSl : S < s.heap.objs.size)
    (hQ : ∀ h' tk, Out h' e it S (i + 1) → h'.IsListIter it l (i + 1) →
      (∃ t, h'.get? s.heap.objs.size = some { cls := .type "tuple", data := .seq #[.int i t, x] }) → h'.objs.size = s.heap.objs.size + 1 →
      (∀ b o, b ≠ e → b ≠ it → s.heap.get? b = some o → h'.get? b = some o) → Q (some (.ref s.heap.objs.size)) { s with heap := h', toks := tk }) :
    wpAny (model prog w) A (pyNext (.ref e)) Q E s := by
  obtain ⟨f0, f1, old, he, hf⟩ := ho
  rcases hf with rfl | ⟨a, b, oa, rfl, rfl, ha, hae, hai, haS⟩
  · have hT : s.TypeIs (.ref e) "enumerate" := ⟨_, he, rfl⟩
    unfold pyNext
    refine wpAny_bind (wpAny_attempt (wpAny_callSpecial?_slot (name := Str.ofString "__next__") hT PySem.F.slot_enumerate_next
      (wpAny_call_entry PySem.F.slot_enumerate_next hT PySem.F.entry_enumerate_next ?_ (PySem.F.args_enumerate_next_1 _))))
    obtain ⟨hp, g, d, tk, os⟩ := s
    show wpAny _ _ (field (.ref e) 2 >>= _) _ _ _
    refine wpAny_bind (wpAny_field he rfl (x := .ref it) rfl ?_)
    refine wpAny_bind (wpAny_nextOf_list_item hit hl hx fun h₁ hit₁ hs₁ => ?_)
    replace hs₁ : Heap.SameBut it hp h₁ := hs₁
    have he₁ := (hs₁.2 e hne).trans he
    show wpAny _ _ (field (.ref e) 3 >>= _) _ _ ⟨h₁, g, d, tk, os⟩
    refine wpAny_bind (wpAny_field he₁ rfl (x := rawInt i) rfl ?_)
    show wpAny _ _ (field (.ref e) 4 >>= _) _ _ ⟨h₁, g, d, tk, os⟩
    refine wpAny_bind (wpAny_field he₁ rfl (x := .none) rfl ?_)
    show wpAny _ _ (mkInt i >>= _) _ _ ⟨h₁, g, d, tk, os⟩
    refine wpAny_bind (wpAny_mkInt ?_)
    show wpAny _ _ (setField (.ref e) 3 (rawInt ((i : Int) + 1)) >>= _) _ _ ⟨h₁, g, d, tk + 1, os⟩
    refine wpAny_bind (wpAny_setField_rec he₁ (by simp) fun h₂ he₂ hs₂ => ?_)
    replace hs₂ : Heap.SameBut e h₁ h₂ := hs₂
    simp only [Array.set!, rawInt] at he₂
    show wpAny _ _ (setField (.ref e) 4 .none >>= _) _ _ ⟨h₂, g, d, tk + 1, os⟩
    refine wpAny_bind (wpAny_setField_rec he₂ (by simp) fun h₃ he₃ hs₃ => ?_)
    replace hs₃ : Heap.SameBut e h₂ h₃ := hs₃
    show wpAny _ _ (newTuple [.int i tk, x] >>= _) _ _ ⟨h₃, g, d, tk + 1, os⟩
    refine wpAny_bind (wpAny_newTuple ?_)
    have he₄ := Heap.get?_push_of_some { cls := .type "tuple", data := .seq #[.int i tk, x] } he₃
    have hel : e < hp.objs.size := Heap.lt_size he
    have hsz : h₃.objs.size = hp.objs.size := by rw [hs₃.1, hs₂.1, hs₁.1]
    generalize hh₄ : h₃.push { cls := .type "tuple", data := .seq #[.int i tk, x] } = h₄ at he₄
    have ht₄ : h₄.get? hp.objs.size = some { cls := .type "tuple", data := .seq #[.int i tk, x] } := by rw [← hh₄, ← hsz]; exact Heap.get?_push_size _ rfl
    have hz₄ : h₄.objs.size = hp.objs.size + 1 := by rw [← hh₄, Heap.size_push, hsz]
    have hk₄ : ∀ b o, b ≠ e → b ≠ it → hp.get? b = some o → h₄.get? b = some o := fun b o hbe hbi hb => by
      rw [← hh₄]; exact Heap.get?_push_of_some _ (hs₃.extBut b o hbe (hs₂.extBut b o hbe (hs₁.extBut b o hbi hb)))
    have hit₄ : h₄.IsListIter it l (i + 1) := by
      rw [← hh₄]; obtain ⟨o, ho, r⟩ := (hit₁.extBut hs₂.extBut (Ne.symm hne)).extBut hs₃.extBut (Ne.symm hne); exact ⟨o, Heap.get?_push_of_some _ ho, r⟩
    show wpAny _ _ (Builtin.SmallTypes.ownedTupleIsFree (.ref e) >>= _) _ _ ⟨h₄, g, d, tk + 1, os⟩
    rw [hsz]
    refine wpAny_bind ?_
    unfold Builtin.SmallTypes.ownedTupleIsFree
    refine wpAny_bind (wpAny_field he₄ rfl (x := .none) rfl (wpAny_pure ?_))
    simp only [if_true]
    refine wpAny_bind (wpAny_rule ?_)
    refine wpAny_bind (wpAny_field he₄ rfl (x := old) rfl ?_)
    refine wpAny_bind (wpAny_setField_rec he₄ (by simp) fun h₅ he₅ hs₅ => ?_)
    replace hs₅ : Heap.SameBut e h₄ h₅ := hs₅
    show wpAny _ _ (Builtin.SmallTypes.ownedTupleHandOut (.ref e) (.ref hp.objs.size) >>= _) _ _ ⟨h₅, g, d, tk + 1, os⟩
    refine wpAny_bind ?_
    unfold Builtin.SmallTypes.ownedTupleHandOut
    refine wpAny_bind (wpAny_setField_rec he₅ (by simp) fun h₆ he₆ hs₆ => ?_)
    replace hs₆ : Heap.SameBut e h₅ h₆ := hs₆
    refine wpAny_setField_rec he₆ (by simp) fun h₇ he₇ hs₇ => ?_
    replace hs₇ : Heap.SameBut e h₆ h₇ := hs₇
    have t7 : h₇.get? hp.objs.size = some { cls := .type "tuple", data := .seq #[.int i tk, x] } := hs₇.extBut _ _ (Nat.ne_of_gt hel) (hs₆.extBut _ _ (Nat.ne_of_gt hel) (hs₅.extBut _ _ (Nat.ne_of_gt hel) ht₄))
    have hil : it < hp.objs.size := by obtain ⟨o, z, _⟩ := hit; exact Heap.lt_size z
    refine wpAny_bind (wpAny_letGo (wpAny_pure ⟨_, rfl, wpAny_pure (hQ h₇ (tk + 1) ⟨rawInt hp.objs.size, .bool false, x, ?_, Or.inr ⟨hp.objs.size, false, _, rfl, rfl, t7, Nat.ne_of_gt hel, Nat.ne_of_gt hil, Nat.ne_of_gt hSl⟩⟩ ?_ ⟨tk, t7⟩ ?_ ?_)⟩))
    · simpa [rawInt, Array.set!] using he₇
    · exact ((hit₄.extBut hs₅.extBut (Ne.symm hne)).extBut hs₆.extBut (Ne.symm hne)).extBut hs₇.extBut (Ne.symm hne)
    · rw [hs₇.1, hs₆.1, hs₅.1, hz₄]
    · exact fun b o hbe hbi hb => hs₇.extBut b o hbe (hs₆.extBut b o hbe (hs₅.extBut b o hbe (hk₄ b o hbe hbi hb)))
  · have hT : s.TypeIs (.ref e) "enumerate" := ⟨_, he, rfl⟩
    unfold pyNext
    refine wpAny_bind (wpAny_attempt (wpAny_callSpecial?_slot (name := Str.ofString "__next__") hT PySem.F.slot_enumerate_next
      (wpAny_call_entry PySem.F.slot_enumerate_next hT PySem.F.entry_enumerate_next ?_ (PySem.F.args_enumerate_next_1 _))))
    obtain ⟨hp, g, d, tk, os⟩ := s
    show wpAny _ _ (field (.ref e) 2 >>= _) _ _ _
    refine wpAny_bind (wpAny_field he rfl (x := .ref it) rfl ?_)
    refine wpAny_bind (wpAny_nextOf_list_item hit hl hx fun h₁ hit₁ hs₁ => ?_)
    replace hs₁ : Heap.SameBut it hp h₁ := hs₁
    have he₁ := (hs₁.2 e hne).trans he
    show wpAny _ _ (field (.ref e) 3 >>= _) _ _ ⟨h₁, g, d, tk, os⟩
    refine wpAny_bind (wpAny_field he₁ rfl (x := rawInt i) rfl ?_)
    show wpAny _ _ (field (.ref e) 4 >>= _) _ _ ⟨h₁, g, d, tk, os⟩
    refine wpAny_bind (wpAny_field he₁ rfl (x := .none) rfl ?_)
    show wpAny _ _ (mkInt i >>= _) _ _ ⟨h₁, g, d, tk, os⟩
    refine wpAny_bind (wpAny_mkInt ?_)
    show wpAny _ _ (setField (.ref e) 3 (rawInt ((i : Int) + 1)) >>= _) _ _ ⟨h₁, g, d, tk + 1, os⟩
    refine wpAny_bind (wpAny_setField_rec he₁ (by simp) fun h₂ he₂ hs₂ => ?_)
    replace hs₂ : Heap.SameBut e h₁ h₂ := hs₂
    simp only [Array.set!, rawInt] at he₂
    show wpAny _ _ (setField (.ref e) 4 .none >>= _) _ _ ⟨h₂, g, d, tk + 1, os⟩
    refine wpAny_bind (wpAny_setField_rec he₂ (by simp) fun h₃ he₃ hs₃ => ?_)
    replace hs₃ : Heap.SameBut e h₂ h₃ := hs₃
    show wpAny _ _ (newTuple [.int i tk, x] >>= _) _ _ ⟨h₃, g, d, tk + 1, os⟩
    refine wpAny_bind (wpAny_newTuple ?_)
    have he₄ := Heap.get?_push_of_some { cls := .type "tuple", data := .seq #[.int i tk, x] } he₃
    have hel : e < hp.objs.size := Heap.lt_size he
    have hsz : h₃.objs.size = hp.objs.size := by rw [hs₃.1, hs₂.1, hs₁.1]
    generalize hh₄ : h₃.push { cls := .type "tuple", data := .seq #[.int i tk, x] } = h₄ at he₄
    have ht₄ : h₄.get? hp.objs.size = some { cls := .type "tuple", data := .seq #[.int i tk, x] } := by rw [← hh₄, ← hsz]; exact Heap.get?_push_size _ rfl
    have hz₄ : h₄.objs.size = hp.objs.size + 1 := by rw [← hh₄, Heap.size_push, hsz]
    have hk₄ : ∀ b o, b ≠ e → b ≠ it → hp.get? b = some o → h₄.get? b = some o := fun b o hbe hbi hb => by
      rw [← hh₄]; exact Heap.get?_push_of_some _ (hs₃.extBut b o hbe (hs₂.extBut b o hbe (hs₁.extBut b o hbi hb)))
    have hit₄ : h₄.IsListIter it l (i + 1) := by
      rw [← hh₄]; obtain ⟨o, ho, r⟩ := (hit₁.extBut hs₂.extBut (Ne.symm hne)).extBut hs₃.extBut (Ne.symm hne); exact ⟨o, Heap.get?_push_of_some _ ho, r⟩
    have ha₄ := hk₄ a oa hae hai ha
    have hil : it < hp.objs.size := by obtain ⟨o, z, _⟩ := hit; exact Heap.lt_size z
    show wpAny _ _ (Builtin.SmallTypes.ownedTupleIsFree (.ref e) >>= _) _ _ ⟨h₄, g, d, tk + 1, os⟩
    rw [hsz]
    refine wpAny_bind ?_
    unfold Builtin.SmallTypes.ownedTupleIsFree
    refine wpAny_bind (wpAny_field he₄ rfl (x := rawInt a) rfl ?_)
    show wpAny _ _ (loadIfAlive a >>= _) _ _ _
    refine wpAny_bind (kdx_alive ha₄ ?_)
    show wpAny _ _ (field (.ref e) 1 >>= _) _ _ _
    refine wpAny_bind (wpAny_field he₄ rfl (x := .bool b) rfl ?_)
    refine wpAny_ite_split (fun _ => ?_) (fun hb => ?_)
    · refine wpAny_bind (wpAny_setField_rec he₄ (by simp) fun h₅ he₅ hs₅ => ?_)
      replace hs₅ : Heap.SameBut e h₄ h₅ := hs₅
      have t5 := hs₅.extBut _ _ (Nat.ne_of_gt hel) ht₄
      refine wpAny_pure ?_
      simp only [Bool.false_eq_true, if_false]
      refine wpAny_pure ⟨_, rfl, wpAny_pure (hQ h₅ (tk + 1) ⟨rawInt a, .bool true, old, ?_, Or.inr ⟨a, true, oa, rfl, rfl, hs₅.extBut _ _ hae ha₄, hae, hai, haS⟩⟩ (hit₄.extBut hs₅.extBut (Ne.symm hne)) ⟨tk, t5⟩ ?_ ?_)⟩
      · simpa [rawInt, Array.set!] using he₅
      · rw [hs₅.1, hz₄]
      · exact fun b o hbe hbi hb => hs₅.extBut b o hbe (hk₄ b o hbe hbi hb)
    · refine wpAny_pure ?_
      simp only [Bool.false_eq_true, if_false]
      refine wpAny_pure ⟨_, rfl, wpAny_pure (hQ h₄ (tk + 1) ⟨rawInt a, .bool b, old, ?_, Or.inr ⟨a, b, oa, rfl, rfl, ha₄, hae, hai, haS⟩⟩ hit₄ ⟨tk, ht₄⟩ hz₄ hk₄)⟩
      simpa [rawInt, Array.set!] using he₄
theorem out_end {e it l S : Addr} {i : Nat} {items : Array Value} {Q : Option Value → Shared → Prop} (hh : A.handled = none)
    (ho : Out s.heap e it S i) (hit : s.heap.IsListIter it l i) (hl : s.heap.IsList l items) (hx : items[i]? = none)
    (hQ : ∀ h', Heap.ExtBut it s.heap h' → Q none { s with heap := h' }) : wpAny (model prog w) A (pyNext (.ref e)) Q E s := by
  obtain ⟨f0, f1, old, he, _⟩ := ho
  have hT : s.TypeIs (.ref e) "enumerate" := ⟨_, he, rfl⟩
  unfold pyNext
  refine wpAny_bind (wpAny_attempt (wpAny_callSpecial?_slot (name := Str.ofString "__next__") hT PySem.F.slot_enumerate_next
    (wpAny_call_entry PySem.F.slot_enumerate_next hT PySem.F.entry_enumerate_next ?_ (PySem.F.args_enumerate_next_1 _))))
  show wpAny _ _ (field (.ref e) 2 >>= _) _ _ _
  refine wpAny_bind (wpAny_field he rfl (x := .ref it) rfl ?_)
  refine wpAny_bind (wpAny_nextOf_list_end hh hit hl hx fun h' x he' hx' => ?_)
  obtain ⟨o, ho, hc⟩ := hx'
  refine wpAny_bind (wpAny_isInstance (T := "StopIteration") (b := true) ⟨o, ho, hc⟩ isSubtype_stop ?_)
  exact wpAny_pure (hQ _ he')
end
end UrE
namespace UrE
open PySem PySem.W PySem.Calls PyProof.Rows
structure EnG (items : Array Value) (lo : Addr) (h : Heap) (as : List Addr) : Prop where
  rise : as.Pairwise (· < ·)
  above : ∀ a ∈ as, lo < a
  pairs : ∀ (j : Nat) (a : Addr), as[j]? = some a → ∃ t x, items[j]? = some x ∧ h.get? a = some { cls := .type "tuple", data := .seq #[.int j t, x] }
theorem EnG.there {items : Array Value} {lo : Addr} {h : Heap} {as : List Addr} (g : EnG items lo h as) {a : Addr} (ha : a ∈ as) : a < h.objs.size := by
  obtain ⟨j, hj⟩ := List.mem_iff_getElem?.mp ha
  obtain ⟨_, _, _, e⟩ := g.pairs j a hj
  exact Heap.lt_size e
section
variable {prog : Program} {w : World} {A : Around} {s : Shared} {R : Result → Shared → Prop} {items : Array Value}
theorem en_loop {S e it l : Addr} (hh : A.handled = none) (hei : e ≠ it) (hle : l ≠ e) (hli : l ≠ it) (heS : e < S) (hiS : it < S) (hlS : l ≠ S) (hn : items.size ≤ sizeLine) (res : Value) {h₁ : Heap}
    (hR : ∀ h' tk acc c as, (∀ b o, b ≠ S → b ≠ e → b ≠ it → h₁.get? b = some o → h'.get? b = some o) → h'.get? S = some { cls := .type "list", dict := none, data := .seq acc c, slots := #[] } → as.length = items.size → EnG items S h' as →
      acc.toList = as.map Value.ref → R (.ok (.ret res)) { s with heap := h', toks := tk }) :
    ∀ (k i : Nat) (h : Heap) (tk c : Nat) (acc : Array Value) (as : List Addr), items.size - i = k → i ≤ items.size → Out h e it S i → h.IsListIter it l i → h.IsList l items → (∀ b o, b ≠ S → b ≠ e → b ≠ it → h₁.get? b = some o → h.get? b = some o) →
      h.get? S = some { cls := .type "list", dict := none, data := .seq acc c, slots := #[] } → acc.toList = as.map Value.ref → as.length = i → EnG items S h as →
      codeAny (model prog w) A (.builtin "list.extend.loop" ⟨[.ref S, .ref e, res], []⟩) R { s with heap := h, toks := tk } := by
  intro k
  induction k with
  | zero =>
    intro i h tk c acc as hk hi hst hit hl hkeep hS hacc hal hG
    have hin : i = items.size := by omega
    refine codeAny_builtin PySem.F.entry_extend_loop ?_
    rw [Around.under_plainId PySem.F.plain_extend_loop _]
    show wpAny _ A.in1 (pyNext (.ref e) >>= _) _ _ _
    refine wpAny_bind (out_end (s := { s with heap := h, toks := tk }) (A := A.in1) hh hst hit hl (Array.getElem?_eq_none (by omega)) fun h' he => ?_)
    refine wpAny_pure (hR h' tk acc c as (fun b o h1 h2 h3 e => he b o h3 (hkeep b o h1 h2 h3 e)) (he S _ (Nat.ne_of_gt hiS) hS) (by omega) ⟨hG.rise, hG.above, fun j a hj => ?_⟩ hacc)
    obtain ⟨t, x, e2, e3⟩ := hG.pairs j a hj
    exact ⟨t, x, e2, he a _ (Nat.ne_of_gt (Nat.lt_trans hiS (hG.above a (List.mem_of_getElem? hj)))) e3⟩
  | succ k ih =>
    intro i h tk c acc as hk hi hst hit hl hkeep hS hacc hal hG
    have hlt : i < items.size := by omega
    have hsz : acc.size = i := by rw [← Array.length_toList, hacc, List.length_map, hal]
    refine codeAny_builtin PySem.F.entry_extend_loop ?_
    rw [Around.under_plainId PySem.F.plain_extend_loop _]
    show wpAny _ A.in1 (pyNext (.ref e) >>= _) _ _ _
    refine wpAny_bind (out_item (s := { s with heap := h, toks := tk }) hst hit hl (Array.getElem?_eq_getElem hlt) hei (Heap.lt_size hS) fun h' tk' hst' hit' ht hz hkp => ?_)
    dsimp only at ht hz hkp ⊢
    obtain ⟨t, ht⟩ := ht
    have hSl : S < h.objs.size := Heap.lt_size hS
    have hS' := hkp S _ (Nat.ne_of_gt heS) (Nat.ne_of_gt hiS) hS
    have up : ∀ b o, b ≠ S → h'.get? b = some o → (h'.update S (Obj.mapSeq (·.push (Value.ref h.objs.size)))).get? b = some o := fun b o hb e => (Heap.get?_update_other _ _ (Ne.symm hb)).trans e
    have upI : ∀ (h2 : Heap), (∀ b o, b ≠ S → h'.get? b = some o → h2.get? b = some o) → Out h2 e it S (i + 1) := fun h2 k2 => by
      obtain ⟨f0, f1, old, e1, hf⟩ := hst'
      refine ⟨f0, f1, old, k2 _ _ (Nat.ne_of_lt heS) e1, ?_⟩
      rcases hf with z | ⟨a, b, oa, z1, z2, z3, z4, z5, z6⟩
      · exact Or.inl z
      · exact Or.inr ⟨a, b, oa, z1, z2, k2 a oa z6 z3, z4, z5, z6⟩
    show wpAny _ A.in1 (updateSeq S (·.push (Value.ref h.objs.size)) >>= _) _ _ _
    refine wpAny_bind ?_
    refine wpAny_updateSeq hS' rfl (wpAny_pure ⟨plainId_quiet PySem.F.plain_extend_loop _, ih (i + 1) _ tk' _ (acc.push (Value.ref h.objs.size)) (as ++ [h.objs.size]) (by omega) hlt (upI _ up)
      (hit'.at fun o z => up it o (Nat.ne_of_lt hiS) z) ((hl.at fun o z => hkp l o hle hli z).at fun o z => up l o hlS z)
      (fun b o h1 h2 h3 z => up b o h1 (hkp b o h2 h3 (hkeep b o h1 h2 h3 z))) (Heap.get?_update_self _ hS' rfl) (by rw [Array.toList_push, hacc, List.map_append]; rfl) (by rw [List.length_append, hal]; rfl) ⟨?_, ?_, ?_⟩⟩) (by rw [hsz]; omega) (by show (acc.push (Value.ref h.objs.size)).size ≤ sizeLine + 1; rw [Array.size_push, hsz]; omega)
    · refine List.pairwise_append.mpr ⟨hG.rise, List.pairwise_singleton _ _, fun a ha b hb => ?_⟩
      rw [List.mem_singleton.mp hb]
      exact hG.there ha
    · intro a ha
      rcases List.mem_append.mp ha with ha | ha
      · exact hG.above a ha
      · rw [List.mem_singleton.mp ha]; exact hSl
    · intro j b hj
      rcases Nat.lt_trichotomy j as.length with h1 | h1 | h1
      · rw [List.getElem?_append_left h1] at hj
        obtain ⟨t3, x3, e2, e3⟩ := hG.pairs j b hj
        have hb := hG.above b (List.mem_of_getElem? hj)
        exact ⟨t3, x3, e2, up b _ (Nat.ne_of_gt hb) (hkp b _ (Nat.ne_of_gt (Nat.lt_trans heS hb)) (Nat.ne_of_gt (Nat.lt_trans hiS hb)) e3)⟩
      · subst h1
        have hb : h.objs.size = b := by simpa using hj
        subst hb
        subst hal
        exact ⟨t, _, Array.getElem?_eq_getElem hlt, up _ _ (Nat.ne_of_gt hSl) ht⟩
      · have hnone : (as ++ [h.objs.size])[j]? = none := List.getElem?_eq_none (by rw [List.length_append, List.length_singleton]; omega)
        rw [hnone] at hj; cases hj
end
section
variable {prog : Program} {w : World} {A : Around} {E : Value → Shared → Prop} {s : Shared} {items : Array Value} {e it l : Addr}
theorem en_extend {R : Result → Shared → Prop} (hh : A.handled = none) (he : IsEnum s.heap e it 0 .none) (hit : s.heap.IsListIter it l 0) (hl : s.heap.IsList l items) (hei : e ≠ it) (hle : l ≠ e) (hli : l ≠ it) (S : Addr) (heS : e < S) (hiS : it < S) (hlS : l ≠ S) (res : Value) (c₀ : Nat) (hS : s.heap.get? S = some { cls := .type "list", data := .seq #[] c₀ })
    (hR : ∀ h' tk acc c as, (∀ b o, b ≠ S → b ≠ e → b ≠ it → s.heap.get? b = some o → h'.get? b = some o) → h'.get? S = some { cls := .type "list", dict := none, data := .seq acc c, slots := #[] } → as.length = items.size → EnG items S h' as →
      acc.toList = as.map Value.ref → R (.ok (.ret res)) { s with heap := h', toks := tk }) (hn : items.size ≤ sizeLine) :
    wpAny (model prog w) A.in1 (Builtin.List.listExtendWith (.ref S) (.ref e) res)
      (fun fin s' => match fin with | .done f => R (.ok f) s' | .again c' => c'.quiet = true ∧ codeAny (model prog w) A c' R s') (fun e s' => R (.error e) s') s := by
  have hT : ∀ (h : Heap) (g : Shared), g.heap = h → IsEnum h e it 0 .none → g.TypeIs (.ref e) "enumerate" := fun h g e1 e2 => by
    subst e1
    exact ⟨_, e2, rfl⟩
  unfold Builtin.List.listExtendWith
  refine wpAny_bind (wpAny_typeOf (T := "enumerate") (hT _ _ rfl he) ?_)
  have h1 : Builtin.List.listSameRef (.ref S) (.ref e) = false := by simp [Builtin.List.listSameRef, Nat.ne_of_gt heS]
  have h2 : (Value.type "enumerate" == Value.type "list") = false := by decide
  have h3 : (Value.type "enumerate" == Value.type "tuple") = false := by decide
  simp only [h1, h2, h3, Bool.or_false, Bool.false_eq_true, if_false]
  refine wpAny_bind (wpAny_pyIter_enum he ?_)
  refine wpAny_bind (wpAny_holding ?_)
  unfold Builtin.List.listLengthHint
  refine wpAny_bind (wpAny_specialOf (hT _ _ rfl he) enum_no_len ?_)
  show wpAny _ _ (specialOf (Value.ref e) (Str.ofString "__length_hint__") >>= _) _ _ _
  refine wpAny_bind (wpAny_specialOf (hT _ _ rfl he) enum_no_hint ?_)
  refine wpAny_pure ?_
  show wpAny _ _ (rule "list.extend.makes-room" >>= fun _ => Builtin.List.listTouch (.ref S) >>= fun _ =>
    again (.builtin "list.extend.loop" ⟨[.ref S, .ref e, res], []⟩)) _ _ _
  refine wpAny_bind (wpAny_rule ?_)
  refine wpAny_bind ?_
  show wpAny _ _ (updateSeq S (·.push .none) >>= fun _ => updateSeq S (·.pop)) _ _ _
  refine wpAny_bind (wpAny_updateSeq hS rfl ?_)
  have hS₂ := Heap.get?_update_self (Obj.mapSeq (·.push Value.none)) hS rfl
  refine wpAny_updateSeq (hz := by seq_fits) hS₂ rfl ?_
  have hS₃ := Heap.get?_update_self (Obj.mapSeq (·.pop)) hS₂ rfl
  have oth : ∀ b o, b ≠ S → s.heap.get? b = some o → ((s.heap.update S (Obj.mapSeq (·.push Value.none))).update S (Obj.mapSeq (·.pop))).get? b = some o :=
    fun b o hb e => (Heap.get?_update_other _ _ (Ne.symm hb)).trans ((Heap.get?_update_other _ _ (Ne.symm hb)).trans e)
  refine wpAny_pure ⟨plainId_quiet PySem.F.plain_extend_loop _, ?_⟩
  exact en_loop (s := s) (h₁ := s.heap) hh hei hle hli heS hiS hlS hn res hR items.size 0 _ _ _ #[] [] (Nat.sub_zero _) (Nat.zero_le _) ⟨.none, .bool false, .none, oth e _ (Nat.ne_of_lt heS) he, Or.inl rfl⟩
    (hit.at fun o z => oth it o (Nat.ne_of_lt hiS) z) (hl.at fun o z => oth l o hlS z) (fun b o hb _ _ z => oth b o hb z) hS₃ rfl rfl ⟨List.Pairwise.nil, (fun _ ha => nomatch ha), (fun j a hj => by simp at hj)⟩
theorem en_call {Q : Value → Shared → Prop} (hh : A.handled = none) (he : IsEnum s.heap e it 0 .none) (hit : s.heap.IsListIter it l 0) (hl : s.heap.IsList l items) (hei : e ≠ it) (hle : l ≠ e) (hli : l ≠ it) (hn : items.size ≤ sizeLine)
    (hQ : ∀ h' tk acc c as, (∀ b o, b ≠ e → b ≠ it → s.heap.get? b = some o → h'.get? b = some o) → h'.get? s.heap.objs.size = some { cls := .type "list", dict := none, data := .seq acc c, slots := #[] } → as.length = items.size → EnG items s.heap.objs.size h' as →
      acc.toList = as.map Value.ref → Q (.ref s.heap.objs.size) { s with heap := h', toks := tk }) :
    wpAny (model prog w) A (call (.type "list") [.ref e]) Q E s := by
  refine callType_codes (Q₁ := fun obj s₁ => obj = .ref s.heap.objs.size ∧ s₁ = { s with heap := s.heap.push { cls := .type "list", data := .seq #[] } }) PySem.F.called_list (PySem.F.typeCall_list_1 _) PySem.F.entry_list_init
    (code_list_new _ ⟨rfl, rfl⟩) fun obj s₁ h₁ => ?_
  obtain ⟨rfl, rfl⟩ := h₁
  have hS : (s.heap.push { cls := .type "list", data := .seq #[] }).get? s.heap.objs.size = some { cls := .type "list", data := .seq #[] } := Heap.get?_push_size _ rfl
  have hel : e < s.heap.objs.size := Heap.lt_size he
  have hil : it < s.heap.objs.size := let ⟨_, z, _⟩ := hit; Heap.lt_size z
  have hll : l < s.heap.objs.size := let ⟨_, z, _⟩ := hl; Heap.lt_size z
  refine ⟨⟨_, hS, rfl⟩, PySem.F.args_list_init_2 _ _, ?_⟩
  show wpAny _ _ (do let old ← Builtin.List.listItems (.ref s.heap.objs.size); Builtin.List.listUpdate (.ref s.heap.objs.size) (fun _ => #[]); letGo old.toList.reverse; Builtin.List.listExtendWith (.ref s.heap.objs.size) (.ref e) .none) _ _ _
  refine wpAny_bind ?_
  unfold Builtin.List.listItems
  refine wpAny_bind (wpAny_seqItems hS rfl (wpAny_pure ?_))
  show wpAny _ _ (updateSeq s.heap.objs.size (fun _ => #[]) >>= fun _ => letGo (#[] : Array Value).toList.reverse >>= fun _ => Builtin.List.listExtendWith (.ref s.heap.objs.size) (.ref e) .none) _ _ _
  refine wpAny_bind (wpAny_updateSeq hS rfl ?_)
  have hS₂ := Heap.get?_update_self (Obj.mapSeq (fun _ => (#[] : Array Value))) hS rfl
  have oth : ∀ b o, s.heap.get? b = some o → ((s.heap.push { cls := .type "list", data := .seq #[] }).update s.heap.objs.size (Obj.mapSeq (fun _ => (#[] : Array Value)))).get? b = some o :=
    fun b o z => (Heap.get?_update_other _ _ (Nat.ne_of_gt (Heap.lt_size z))).trans (Heap.get?_push_of_some _ z)
  refine wpAny_bind (wpAny_letGo ?_)
  refine en_extend (A := A.in1) hh (oth e _ he) (hit.at fun o z => oth it o z) (hl.at fun o z => oth l o z) hei hle hli _ hel hil (Nat.ne_of_lt hll) .none _ hS₂ (fun h' tk acc c as hk hS' hl2 hG hacc => ?_) hn
  exact ⟨rfl, hQ h' tk acc c as (fun b o h1 h2 z => hk b o (Nat.ne_of_lt (Heap.lt_size z)) h1 h2 (oth b o z)) hS' hl2 hG hacc⟩
end
end UrE
namespace UrE
open PySem PySem.Spec PyProof.Rows L2
/-- tuples tracked at their addresses -/
def putG : Hp → List Addr → List (List V) → Hp
  | H, a :: as, c :: cs => putG (upd H a (.tup c)) as cs
  | H, _, _ => H
theorem putG_off {b : Addr} : ∀ (as : List Addr) (cs : List (List V)) (H : Hp), b ∉ as → putG H as cs b = H b
  | [], _, _, _ => rfl
  | _ :: _, [], _, _ => rfl
  | a :: as, c :: cs, H, h => by
    show putG (upd H a (.tup c)) as cs b = H b
    rw [putG_off as cs _ (fun z => h (List.mem_cons_of_mem _ z)), upd_ne (fun z => h (by rw [z]; exact List.mem_cons_self))]
theorem putG_at : ∀ (as : List Addr) (cs : List (List V)) (H : Hp), as.length = cs.length → as.Nodup → ∀ (j : Nat) (a : Addr), as[j]? = some a → ∃ c, cs[j]? = some c ∧ putG H as cs a = some (.tup c)
  | [], _, _, _, _, j, a, h => by simp at h
  | _ :: _, [], _, h, _, _, _, _ => by cases h
  | a :: as, c :: cs, H, h, hn, 0, b, e => by
    have hn' := List.nodup_cons.mp hn
    have e' : a = b := by simpa using e
    subst e'
    refine ⟨c, rfl, ?_⟩
    show putG (upd H a (.tup c)) as cs a = some (.tup c)
    rw [putG_off as cs _ hn'.1, upd_same]
  | a :: as, c :: cs, H, h, hn, j + 1, b, e => by
    have hn' := List.nodup_cons.mp hn
    exact putG_at as cs (upd H a (.tup c)) (Nat.succ.inj h) hn'.2 j b (by simpa using e)
/-- a new list of new tuples -/
def NewPairs (H : Hp) (cs : List (List V)) (p : Addr) (ts : List Addr) (H' : Hp) : Prop :=
  Same H H' ∧ H p = none ∧ (∀ t ∈ ts, H t = none) ∧ p ∉ ts ∧ ts.Nodup ∧ ts.length = cs.length ∧ H' p = some (.lst (ts.map V.ref)) ∧ ∀ (j : Nat) (c : List V), cs[j]? = some c → ∃ t, ts[j]? = some t ∧ H' t = some (.tup c)
theorem refs_vals : ∀ as : List Addr, Vals (as.map V.ref) (as.map Value.ref)
  | [] => .nil
  | _ :: as => .cons rfl (refs_vals as)
section
variable {X : Cx} {e : Expr} {ta : TA} {p p2 cpos pos : Pos}
theorem laid_pairs {pins : List (Addr × Obj)} {σ : L2.St} {H : Hp} {s : Shared} {h' : Heap} {tk : Nat} {cs : List (List V)} {acc : Array Value} {c S : Nat} {as : List Addr} (I : Inv X pins σ H s) (hz : cs.length ≤ sizeLine) (hS0 : s.heap.objs.size ≤ S)
    (hk : ∀ b o, s.heap.get? b = some o → h'.get? b = some o) (hS : h'.get? S = some { cls := .type "list", dict := none, data := .seq acc c, slots := #[] }) (hl : as.length = cs.length) (hr : as.Pairwise (· < ·)) (hab : ∀ a ∈ as, S < a)
    (ht : ∀ (j : Nat) (a : Addr) (c : List V), as[j]? = some a → cs[j]? = some c → c.length ≤ sizeLine ∧ ∃ us, Vals c us ∧ IsTup h' a us.toArray) (hacc : acc.toList = as.map Value.ref) :
    ∃ H' : Hp, NewPairs H cs S as H' ∧ Inv X pins σ H' { s with heap := h', toks := tk } := by
  have hSn : S ∉ as := fun z => Nat.lt_irrefl _ (hab _ z)
  have nd : as.Nodup := List.Pairwise.imp (fun {a b} (h : a < b) => Nat.ne_of_lt h) hr
  have new : ∀ t ∈ as, H t = none := fun t ht => I.hok.fresh (Nat.le_of_lt (Nat.lt_of_le_of_lt hS0 (hab t ht)))
  have newS : H S = none := I.hok.fresh hS0
  have atP := putG_at as cs (upd H S (.lst (as.map V.ref))) hl nd
  have off : ∀ b, b ∉ as → b ≠ S → putG (upd H S (.lst (as.map V.ref))) as cs b = H b := fun b h1 h2 => by rw [putG_off as cs _ h1, upd_ne h2]
  have low : ∀ b o, s.heap.get? b = some o → b ∉ as ∧ b ≠ S := fun b o e => ⟨fun z => absurd (Heap.lt_size e) (Nat.not_lt.mpr (Nat.le_of_lt (Nat.lt_of_le_of_lt hS0 (hab b z)))), Nat.ne_of_lt (Nat.lt_of_lt_of_le (Heap.lt_size e) hS0)⟩
  have kp : ∀ b u, H b = some u → (putG (upd H S (.lst (as.map V.ref))) as cs) b = some u := fun b u e => by
    rw [off b (fun z => by rw [new b z] at e; cases e) (fun z => by rw [z, newS] at e; cases e)]
    exact e
  have eS : putG (upd H S (.lst (as.map V.ref))) as cs S = some (.lst (as.map V.ref)) := by rw [putG_off as cs _ hSn, upd_same]
  refine ⟨putG (upd H S (.lst (as.map V.ref))) as cs, ⟨kp, newS, new, hSn, nd, hl, eS, fun j c hc => ?_⟩, ?_⟩
  · have hj : j < as.length := by rw [hl]; exact (List.getElem?_eq_some_iff.mp hc).1
    obtain ⟨c', h1, h2⟩ := atP j as[j] (List.getElem?_eq_getElem hj)
    rw [hc] at h1
    cases h1
    exact ⟨as[j], List.getElem?_eq_getElem hj, h2⟩
  refine I.call' (ch := []) rfl ⟨fun b o q _ _ _ => hk b o q, fun b o q _ _ _ => ⟨o.slots, hk b o q⟩, fun b o q n _ => ?_, fun b o q _ => ⟨o, hk b o q⟩, fun b xs q => kp b _ q, fun b o u q => kp b _ q, fun b ps q => ⟨#[], by rw [kp b _ q]; simp⟩⟩ (fun b u q => ?_) I.bare fun b z => by simp at z
  · obtain ⟨z1, z2⟩ := low b o q
    rw [off b z1 z2]
    exact n
  · by_cases hb : b ∈ as
    · obtain ⟨j, e1⟩ := List.mem_iff_getElem?.mp hb
      obtain ⟨c', e2, e3⟩ := atP j b e1
      rw [e3] at q
      cases q
      obtain ⟨z, us, r, tt⟩ := ht j b c' e1 e2
      exact ⟨z, us, r, tt⟩
    · by_cases hb2 : b = S
      · rw [hb2] at q ⊢
        rw [eS] at q
        cases q
        refine ⟨by rw [List.length_map]; omega, acc.toList, c, by rw [hacc]; exact refs_vals as, ?_⟩
        rw [Array.toArray_toList]
        exact hS
      · rw [off b hb hb2] at q
        exact (I.hok b u q).stay (fun d v _ y => hk d v y) (fun d y => kp d _ y) fun d xs y => kp d _ y
/-- the pairs (i, x) of a list -/
def enumC (xs : List V) : List (List V) := xs.zipIdx.map fun p => [.int (p.2 : Nat), p.1]
theorem enumC_len (xs : List V) : (enumC xs).length = xs.length := by simp [enumC]
theorem enumC_get {xs : List V} {j : Nat} : (enumC xs)[j]? = (xs[j]?).map fun x => [.int (j : Nat), x] := by
  unfold enumC
  rw [List.getElem?_map, List.getElem?_zipIdx]
  cases xs[j]? with
  | none => rfl
  | some x => simp
def tListEnum (K : PySem.W.Frag) (ta : TA) : TE := fun σ H Q => ta σ H fun vs H1 => ∃ a xs, vs = [.ref a] ∧ SqL K H1 a xs ∧ ∀ p ts H', NewPairs H1 (enumC xs) p ts H' → Q (.ref p) H'
theorem pe_list_enum (hc : X.calm = true) (hm : X.mg "list" = none) (hm2 : X.mg "enumerate" = none) (hg2 : Gl X "enumerate") (ha : PA X [e] ta) (hg : Gl X "list" := by rfl) (hs : starEach [e] X.env = [(false, eval e X.env)] := by rfl)
    (hs2 : starEach [.Call (.Name "enumerate" p2) [e] [] cpos] X.env = (false, eval (.Call (.Name "enumerate" p2) [e] [] cpos) X.env) :: starEach [] X.env := by rfl) :
    PE X (.Call (.Name "list" p) [.Call (.Name "enumerate" p2) [e] [] cpos] [] pos) (tListEnum X.K ta) := by
  refine ⟨fun pins s σ H Q I h => ?_⟩
  refine wpAny_Call_Name_kw (ld_blt I hg hm (by decide +kernel : bootBuiltins "list" = some (.type "list")) ?_)
  refine PyProof.Rows.callWith_type1 ?_ hs2 rfl
  rw [hs2]
  show wpAny _ _ (spliced ((false, eval (.Call (.Name "enumerate" p2) [e] [] cpos) X.env) :: backTo pos (starEach [] X.env))) _ _ s
  refine Calls.spliced_cons ?_
  refine Call_ (ld_blt I hg2 hm2 boot_enumerate (PyProof.Rows.callWith_type1 (thn (ha.run cpos pins s σ H _ I h) fun us s1 ⟨vs, H1, I1, r1, q1⟩ => ?_) hs rfl))
  obtain ⟨a, xs, ex, hq, q⟩ := q1
  subst ex
  cases r1 with
  | cons r rr =>
    cases rr
    cases r
    obtain ⟨its, rv, p', hz⟩ := I1.list hq
    refine call_enumerate_list p'.isList fun h' he hit hsz hk => ?_
    refine Calls.spliced_nil ?_
    have hla : a < s1.heap.objs.size := let ⟨_, z, _⟩ := p'.isList; Heap.lt_size z
    have hL' : h'.IsList a its.toArray := p'.isList.at fun o z => hk a o z
    have hlen : its.length = xs.length := (Vals.length rv).symm
    refine en_call (s := { s1 with heap := h' }) (I1.ok.hd hc) he hit hL' (Nat.succ_ne_self _) (Nat.ne_of_lt (Nat.lt_succ_of_lt hla)) (Nat.ne_of_lt hla) (by rw [List.size_toArray, hlen]; exact hz) fun h2 tk acc c as hk2 hS hl hG hacc => ?_
    have hsz' : h'.objs.size = s1.heap.objs.size + 2 := hsz
    obtain ⟨H', N, J⟩ := laid_pairs (I := I1) (h' := h2) (tk := tk) (cs := enumC xs) (acc := acc) (c := c) (S := h'.objs.size) (as := as) (by rw [enumC_len]; exact hz) (by omega)
      (fun b o z => hk2 b o (Nat.ne_of_lt (Nat.lt_succ_of_lt (Heap.lt_size z))) (Nat.ne_of_lt (Heap.lt_size z)) (hk b o z)) hS (by rw [hl, enumC_len, List.size_toArray, hlen]) hG.rise hG.above
      (fun j b c e1 e2 => by
        rw [enumC_get] at e2
        cases hx : xs[j]? with
        | none => rw [hx] at e2; cases e2
        | some x =>
          rw [hx] at e2
          have e3 : [V.int (j : Nat), x] = c := by simpa using e2
          subst e3
          obtain ⟨t, y, f1, f2⟩ := hG.pairs j b e1
          obtain ⟨u, g1, g2⟩ := rv.get hx
          have f1' : its[j]? = some y := by simpa using f1
          rw [f1'] at g1
          cases g1
          exact ⟨by show 2 ≤ sizeLine; decide, [.int j t, y], .cons ⟨t, rfl⟩ (.cons g2 .nil), ⟨_, f2, rfl, _, rfl⟩⟩) hacc
    exact ⟨.ref _, H', J, rfl, q _ as H' N⟩
end
end UrE

namespace Ur
open PySem L2

/-! ### frames -/
/-- all that was tracked stands as it was but at a -/
def But (a : Addr) (H H' : Hp) : Prop := ∀ b o, b ≠ a → H b = some o → H' b = some o
theorem same_get {H H' : Hp} {b : Addr} {o : HO} (s : Same H H') (h : H b = some o) : H' b = some o := s b o h
theorem but_get {H H' : Hp} {a b : Addr} {o : HO} (s : But a H H') (n : b ≠ a) (h : H b = some o) : H' b = some o := s b o n h
theorem ne_new {H : Hp} {a b : Addr} {o : HO} (h' : H b = none) (h : H a = some o) : a ≠ b := ne_of_none h h'
theorem at_nat {α : Type} {xs : List α} {j : Nat} {v : α} (h : xs[j]? = some v) : atI xs (j : Int) = some v := atI_nat h
theorem dead_upd {H : Hp} {a : Addr} {o u : HO} (h : upd H a o a = some u) : upd H a o a = some u := h
theorem dead_ne {a : Addr} (h : a ≠ a) : a ≠ a := h
theorem sz {n : Nat} (h : n ≤ 1000000) : n ≤ sizeLine := Nat.le_trans h (by decide)
theorem szl {n : Nat} (h : n < 1000000) : n < sizeLine := Nat.lt_of_lt_of_le h (by decide)
theorem ne_new' {H : Hp} {a b : Addr} {o : HO} (h' : H a = none) (h : H b = some o) : a ≠ b := fun e => ne_of_none h h' e.symm
theorem get_upd {H : Hp} {a b : Addr} {o u : HO} (n : b ≠ a) (h : H b = some u) : upd H a o b = some u := (upd_ne n).trans h
theorem b01 (b : Bool) : 0 ≤ (if b = true then (1 : Int) else 0) ∧ (if b = true then (1 : Int) else 0) ≤ 1 := by cases b <;> decide
/-! ### frames, for the search -/
theorem same_snoc {H0 H : Hp} {p : Addr} {o : HO} (n : H p = none) (s : Same H0 H) : Same H0 (upd H p o) := fun b u e => by
  have e' := s b u e
  rw [upd_ne (ne_of_none e' n)]
  exact e'
theorem same_upd' {H0 H : Hp} {p : Addr} {o : HO} (n : H0 p = none) (s : Same H0 H) : Same H0 (upd H p o) := fun b u e => by
  rw [upd_ne (ne_of_none e n)]
  exact s b u e
theorem same_step {H0 H1 H2 : Hp} (s2 : Same H1 H2) (s1 : Same H0 H1) : Same H0 H2 := s1.trans s2
theorem same_pairs {H0 H1 H2 : Hp} {cs : List (List V)} {p : Addr} {ts : List Addr} (n : UrE.NewPairs H1 cs p ts H2) (s1 : Same H0 H1) : Same H0 H2 := s1.trans n.1
theorem same_but {H0 H1 H2 : Hp} {a : Addr} (b : But a H1 H2) (n : H0 a = none) (s : Same H0 H1) : Same H0 H2 := fun x o e =>
  b x o (fun k => by rw [k, n] at e; cases e) (s x o e)
theorem adv0 {H H1 : Hp} {b : Addr} {o : HO} (s : Same H H1) (h : H b = some o) : H1 b = some o ∧ (∀ p, H p = none → b ≠ p) ∧ ∀ p, H p = none → b ≠ p := ⟨s _ _ h, fun _ k => ne_new k h, fun _ k => ne_new k h⟩
theorem adv1 {H H1 : Hp} {a0 : Addr} {o0 : HO} {b : Addr} {o : HO} (s : Same (upd H a0 o0) H1) (n0 : b ≠ a0) (h : H b = some o) : H1 b = some o ∧ (∀ p, (upd H a0 o0) p = none → b ≠ p) ∧ ∀ p, H p = none → b ≠ p := ⟨s _ _ (get_upd n0 h), fun _ k => ne_new k (get_upd n0 h), fun _ k => ne_new k h⟩
theorem adv2 {H H1 : Hp} {a0 : Addr} {o0 : HO} {a1 : Addr} {o1 : HO} {b : Addr} {o : HO} (s : Same (upd (upd H a0 o0) a1 o1) H1) (n0 : b ≠ a0) (n1 : b ≠ a1) (h : H b = some o) : H1 b = some o ∧ (∀ p, (upd (upd H a0 o0) a1 o1) p = none → b ≠ p) ∧ ∀ p, H p = none → b ≠ p := ⟨s _ _ (get_upd n1 (get_upd n0 h)), fun _ k => ne_new k (get_upd n1 (get_upd n0 h)), fun _ k => ne_new k h⟩
theorem adv3 {H H1 : Hp} {a0 : Addr} {o0 : HO} {a1 : Addr} {o1 : HO} {a2 : Addr} {o2 : HO} {b : Addr} {o : HO} (s : Same (upd (upd (upd H a0 o0) a1 o1) a2 o2) H1) (n0 : b ≠ a0) (n1 : b ≠ a1) (n2 : b ≠ a2) (h : H b = some o) : H1 b = some o ∧ (∀ p, (upd (upd (upd H a0 o0) a1 o1) a2 o2) p = none → b ≠ p) ∧ ∀ p, H p = none → b ≠ p := ⟨s _ _ (get_upd n2 (get_upd n1 (get_upd n0 h))), fun _ k => ne_new k (get_upd n2 (get_upd n1 (get_upd n0 h))), fun _ k => ne_new k h⟩
theorem adv4 {H H1 : Hp} {a0 : Addr} {o0 : HO} {a1 : Addr} {o1 : HO} {a2 : Addr} {o2 : HO} {a3 : Addr} {o3 : HO} {b : Addr} {o : HO} (s : Same (upd (upd (upd (upd H a0 o0) a1 o1) a2 o2) a3 o3) H1) (n0 : b ≠ a0) (n1 : b ≠ a1) (n2 : b ≠ a2) (n3 : b ≠ a3) (h : H b = some o) : H1 b = some o ∧ (∀ p, (upd (upd (upd (upd H a0 o0) a1 o1) a2 o2) a3 o3) p = none → b ≠ p) ∧ ∀ p, H p = none → b ≠ p := ⟨s _ _ (get_upd n3 (get_upd n2 (get_upd n1 (get_upd n0 h)))), fun _ k => ne_new k (get_upd n3 (get_upd n2 (get_upd n1 (get_upd n0 h)))), fun _ k => ne_new k h⟩
theorem adv5 {H H1 : Hp} {a0 : Addr} {o0 : HO} {a1 : Addr} {o1 : HO} {a2 : Addr} {o2 : HO} {a3 : Addr} {o3 : HO} {a4 : Addr} {o4 : HO} {b : Addr} {o : HO} (s : Same (upd (upd (upd (upd (upd H a0 o0) a1 o1) a2 o2) a3 o3) a4 o4) H1) (n0 : b ≠ a0) (n1 : b ≠ a1) (n2 : b ≠ a2) (n3 : b ≠ a3) (n4 : b ≠ a4) (h : H b = some o) : H1 b = some o ∧ (∀ p, (upd (upd (upd (upd (upd H a0 o0) a1 o1) a2 o2) a3 o3) a4 o4) p = none → b ≠ p) ∧ ∀ p, H p = none → b ≠ p := ⟨s _ _ (get_upd n4 (get_upd n3 (get_upd n2 (get_upd n1 (get_upd n0 h))))), fun _ k => ne_new k (get_upd n4 (get_upd n3 (get_upd n2 (get_upd n1 (get_upd n0 h))))), fun _ k => ne_new k h⟩
theorem adv6 {H H1 : Hp} {a0 : Addr} {o0 : HO} {a1 : Addr} {o1 : HO} {a2 : Addr} {o2 : HO} {a3 : Addr} {o3 : HO} {a4 : Addr} {o4 : HO} {a5 : Addr} {o5 : HO} {b : Addr} {o : HO} (s : Same (upd (upd (upd (upd (upd (upd H a0 o0) a1 o1) a2 o2) a3 o3) a4 o4) a5 o5) H1) (n0 : b ≠ a0) (n1 : b ≠ a1) (n2 : b ≠ a2) (n3 : b ≠ a3) (n4 : b ≠ a4) (n5 : b ≠ a5) (h : H b = some o) : H1 b = some o ∧ (∀ p, (upd (upd (upd (upd (upd (upd H a0 o0) a1 o1) a2 o2) a3 o3) a4 o4) a5 o5) p = none → b ≠ p) ∧ ∀ p, H p = none → b ≠ p := ⟨s _ _ (get_upd n5 (get_upd n4 (get_upd n3 (get_upd n2 (get_upd n1 (get_upd n0 h)))))), fun _ k => ne_new k (get_upd n5 (get_upd n4 (get_upd n3 (get_upd n2 (get_upd n1 (get_upd n0 h)))))), fun _ k => ne_new k h⟩
theorem adv7 {H H1 : Hp} {a0 : Addr} {o0 : HO} {a1 : Addr} {o1 : HO} {a2 : Addr} {o2 : HO} {a3 : Addr} {o3 : HO} {a4 : Addr} {o4 : HO} {a5 : Addr} {o5 : HO} {a6 : Addr} {o6 : HO} {b : Addr} {o : HO} (s : Same (upd (upd (upd (upd (upd (upd (upd H a0 o0) a1 o1) a2 o2) a3 o3) a4 o4) a5 o5) a6 o6) H1) (n0 : b ≠ a0) (n1 : b ≠ a1) (n2 : b ≠ a2) (n3 : b ≠ a3) (n4 : b ≠ a4) (n5 : b ≠ a5) (n6 : b ≠ a6) (h : H b = some o) : H1 b = some o ∧ (∀ p, (upd (upd (upd (upd (upd (upd (upd H a0 o0) a1 o1) a2 o2) a3 o3) a4 o4) a5 o5) a6 o6) p = none → b ≠ p) ∧ ∀ p, H p = none → b ≠ p := ⟨s _ _ (get_upd n6 (get_upd n5 (get_upd n4 (get_upd n3 (get_upd n2 (get_upd n1 (get_upd n0 h))))))), fun _ k => ne_new k (get_upd n6 (get_upd n5 (get_upd n4 (get_upd n3 (get_upd n2 (get_upd n1 (get_upd n0 h))))))), fun _ k => ne_new k h⟩
theorem same_free {H0 H : Hp} {p : Addr} (n : H p = none) (s : Same H0 H) : H0 p = none := s.free n
theorem but_refl {a : Addr} {H : Hp} : But a H H := fun _ _ _ e => e
theorem but_at {a : Addr} {H0 H : Hp} {o : HO} (s : But a H0 H) : But a H0 (upd H a o) := fun b u n e => by
  rw [upd_ne n]
  exact s b u n e
theorem but_snoc {a : Addr} {H0 H : Hp} {p : Addr} {o : HO} (n : H p = none) (s : But a H0 H) : But a H0 (upd H p o) := fun b u nb e => by
  have e' := s b u nb e
  rw [upd_ne (ne_of_none e' n)]
  exact e'
theorem but_upd {a : Addr} {H0 H : Hp} {p : Addr} {o : HO} (n : H0 p = none) (s : But a H0 H) : But a H0 (upd H p o) := fun b u nb e => by
  rw [upd_ne (ne_of_none e n)]
  exact s b u nb e
theorem but_step {a : Addr} {H0 H1 H2 : Hp} (s2 : But a H1 H2) (s1 : But a H0 H1) : But a H0 H2 := fun b u n e => s2 b u n (s1 b u n e)
theorem but_step' {a : Addr} {H0 H1 H2 : Hp} (s2 : Same H1 H2) (s1 : But a H0 H1) : But a H0 H2 := fun b u n e => s2 b u (s1 b u n e)
theorem but_free {a : Addr} {H0 H1 : Hp} {p : Addr} {o : HO} (h : H1 p = none) (x : But a H0 H1) (ha : H1 a = some o) : H0 p = none := by
  by_cases e : p = a
  · rw [e, ha] at h; cases h
  · cases q : H0 p with
    | none => rfl
    | some u => rw [x p u e q] at h; cases h
/-- a word that the search does not open -/
structure Iv (P : Prop) : Prop where
  out : P
/-! ### a loop's invariant is asked here -/
theorem isW1 {P : (Nat → Nat → Hp → Prop) → Prop} (h : ∃ W, P W) : ∃ W, P W := h
theorem isW2 {P : (Nat → Nat → L2.St → Hp → Prop) → Prop} (h : ∃ W, P W) : ∃ W, P W := h
theorem isW3 {P : (Nat → L2.St → Hp → Prop) → Prop} (h : ∃ W, P W) : ∃ W, P W := h
theorem isW4 {P : (L2.St → Hp → Prop) → Prop} (h : ∃ W, P W) : ∃ W, P W := h
/-! ### branches -/
theorem br {c : Prop} [Decidable c] {A B : Prop} (h1 : c → A) (h2 : ¬ c → B) : if decide c = true then A else B := by
  by_cases h : c
  · rw [if_pos (decide_eq_true h)]
    exact h1 h
  · rw [if_neg (by rw [decide_eq_false h]; exact Bool.false_ne_true)]
    exact h2 h
theorem brn {c : Prop} [Decidable c] {A B : Prop} (h1 : ¬ c → A) (h2 : c → B) : if (!decide c) = true then A else B := by
  by_cases h : c
  · rw [if_neg (by rw [decide_eq_true h]; decide)]
    exact h2 h
  · rw [if_pos (by rw [decide_eq_false h]; decide)]
    exact h1 h
theorem bri {i j : Int} {A B : Prop} (h1 : i = j → A) (h2 : ¬ i = j → B) : if decide (V.int i = V.int j) = true then A else B :=
  br (fun h => h1 (V.int.inj h)) (fun h => h2 fun e => h (by rw [e]))
theorem brni {i j : Int} {A B : Prop} (h1 : ¬ i = j → A) (h2 : i = j → B) : if (!decide (V.int i = V.int j)) = true then A else B :=
  brn (fun h => h1 fun e => h (by rw [e])) (fun h => h2 (V.int.inj h))
theorem brb {b : Bool} {A B : Prop} (h1 : b = true → A) (h2 : b = false → B) : if b = true then A else B := by
  cases b with
  | true => exact (if_pos rfl).mpr (h1 rfl)
  | false => exact (if_neg Bool.false_ne_true).mpr (h2 rfl)
/-! ### branches that are known -/
theorem brT {c : Prop} [Decidable c] {A B : Prop} (h : c) (a : A) : if decide c = true then A else B := by rw [if_pos (decide_eq_true h)]; exact a
theorem brF {c : Prop} [Decidable c] {A B : Prop} (h : ¬ c) (b : B) : if decide c = true then A else B := by rw [if_neg (by rw [decide_eq_false h]; exact Bool.false_ne_true)]; exact b
theorem brnT {c : Prop} [Decidable c] {A B : Prop} (h : c) (b : B) : if (!decide c) = true then A else B := by rw [if_neg (by rw [decide_eq_true h]; decide)]; exact b
theorem brnF {c : Prop} [Decidable c] {A B : Prop} (h : ¬ c) (a : A) : if (!decide c) = true then A else B := by rw [if_pos (by rw [decide_eq_false h]; decide)]; exact a
theorem noN {A B : Prop} {i : Int} (b : B) : if decide (V.int i = V.non) = true then A else B := by rw [if_neg (by rw [decide_eq_false (by intro e; cases e)]; exact Bool.false_ne_true)]; exact b
theorem noNn {A B : Prop} {i : Int} (a : A) : if (!decide (V.int i = V.non)) = true then A else B := by rw [if_pos (by rw [decide_eq_false (by intro e; cases e)]; decide)]; exact a
end Ur

namespace Ur
open PySem L2
/-! ### lists of ints: ==, slices, loops -/
/-- the list of ints as values -/
abbrev iv (ns : List Int) : List V := ns.map V.int
theorem dpAll_ints {K : PySem.W.Frag} {H : Hp} : ∀ ns : List Int, DpAll K H (ns.map V.int) (ns.map PyData.int)
  | [] => .nil
  | n :: ns => .cons (.int n) (dpAll_ints ns)
theorem dp_ints {K : PySem.W.Frag} {H : Hp} {a : Addr} {ns : List Int} (h : SqL K H a (ns.map V.int)) : Dp K H (.ref a) (.list (ns.map PyData.int)) := .lst h (dpAll_ints ns)
theorem canLayAll_ints : ∀ ns : List Int, PyData.canLayAll0 (ns.map PyData.int) = true
  | [] => rfl
  | n :: ns => by
    show (PyData.canLay0 (.int n) && PyData.canLayAll0 (ns.map PyData.int)) = true
    rw [canLayAll_ints ns]
    rfl
theorem depthAll_ints : ∀ ns : List Int, PyData.depthAll (ns.map PyData.int) ≤ 1
  | [] => by decide
  | n :: ns => by
    have h := depthAll_ints ns
    rw [List.map_cons, PyData.depthAll]
    exact Nat.max_le.mpr ⟨by simp [PyData.depth], h⟩
theorem depth_ints (ns : List Int) : PyData.depth (.list (ns.map PyData.int)) ≤ 2 := by
  have h := depthAll_ints ns
  rw [PyData.depth]
  omega
theorem shaped_of {d : PyData} (c : PyData.canLay0 d = true) (h : PyData.depth d ≤ 64) : SeqAt.shaped d = true := by
  unfold SeqAt.shaped
  rw [c, decide_eq_true h]
  rfl
theorem shaped_ints (ns : List Int) : SeqAt.shaped (.list (ns.map PyData.int)) = true := shaped_of (canLayAll_ints ns) (Nat.le_trans (depth_ints ns) (by decide))
theorem eqvAll_ints : ∀ ns ms : List Int, PyData.eqvAll (ns.map PyData.int) (ms.map PyData.int) = decide (ns = ms)
  | [], [] => rfl
  | [], _ :: _ => rfl
  | _ :: _, [] => rfl
  | n :: ns, m :: ms => by
    show (PyData.eqv (.int n) (.int m) && PyData.eqvAll (ns.map PyData.int) (ms.map PyData.int)) = decide (n :: ns = m :: ms)
    rw [eqvAll_ints ns ms]
    show ((n == m) && decide (ns = ms)) = decide (n :: ns = m :: ms)
    by_cases h : n = m <;> by_cases h2 : ns = ms <;> simp [h, h2]
theorem eqv_ints (ns ms : List Int) : PyData.eqv (.list (ns.map PyData.int)) (.list (ms.map PyData.int)) = decide (ns = ms) := eqvAll_ints ns ms
theorem rEq_ints {K : PySem.W.Frag} {H : Hp} {a b : Addr} {ns ms : List Int} {Q : VK} (h1 : SqL K H a (ns.map V.int)) (h2 : SqL K H b (ms.map V.int)) (q : Q (.bl (decide (ns = ms))) H) : rEqD K (.ref a) (.ref b) H Q :=
  ⟨_, _, dp_ints h1, dp_ints h2, shaped_ints ns, shaped_ints ms, by rw [eqv_ints]; exact q⟩
theorem rNe_ints {K : PySem.W.Frag} {H : Hp} {a b : Addr} {ns ms : List Int} {Q : VK} (h1 : SqL K H a (ns.map V.int)) (h2 : SqL K H b (ms.map V.int)) (q : Q (.bl (!decide (ns = ms))) H) : rNeD K (.ref a) (.ref b) H Q :=
  ⟨_, _, dp_ints h1, dp_ints h2, shaped_ints ns, shaped_ints ms, by rw [eqv_ints]; exact q⟩
theorem SqL.nil_of {K : PySem.W.Frag} {H : Hp} {a : Addr} (h : SqL K H a []) : SqL K H a (([] : List Int).map V.int) := h

theorem iv_get {ns : List Int} {i : Nat} {x : V} (h : (ns.map V.int)[i]? = some x) : ∃ n, ns[i]? = some n ∧ x = .int n := by
  rw [List.getElem?_map] at h
  cases e : ns[i]? with
  | none => rw [e] at h; cases h
  | some n => rw [e] at h; exact ⟨n, rfl, (Option.some.inj h).symm⟩
theorem iv_get' {ns : List Int} {i : Nat} {n : Int} (h : ns[i]? = some n) : (ns.map V.int)[i]? = some (.int n) := by rw [List.getElem?_map, h]; rfl
theorem at_int {ns : List Int} {j : Nat} {n : Int} (h : ns[j]? = some n) : atI (ns.map V.int) (j : Int) = some (.int n) := atI_nat (iv_get' h)
/-- an item at an int place -/
theorem at_int' {ns : List Int} {i : Int} (h0 : 0 ≤ i) (h1 : i < ns.length) : atI (ns.map V.int) i = some (.int (ns.getD i.toNat 0)) := by
  have hj : i.toNat < ns.length := by omega
  have e : i = ((i.toNat : Nat) : Int) := by omega
  have e2 : ns[i.toNat]? = some (ns.getD i.toNat 0) := by rw [List.getD_eq_getElem?_getD, List.getElem?_eq_getElem hj]; rfl
  rw [e]
  exact at_int (by rw [Int.toNat_natCast]; exact e2)
theorem at2 {x y i : Int} (h0 : 0 ≤ i) (h1 : i < 2) : atI [V.int x, V.int y] i = some (.int ([x, y].getD i.toNat 0)) := at_int' (ns := [x, y]) h0 h1
theorem at3 {x y z i : Int} (h0 : 0 ≤ i) (h1 : i < 3) : atI [V.int x, V.int y, V.int z] i = some (.int ([x, y, z].getD i.toNat 0)) := at_int' (ns := [x, y, z]) h0 h1
theorem at4 {x y z w i : Int} (h0 : 0 ≤ i) (h1 : i < 4) : atI [V.int x, V.int y, V.int z, V.int w] i = some (.int ([x, y, z, w].getD i.toNat 0)) := at_int' (ns := [x, y, z, w]) h0 h1
theorem at6 {x y z w u v i : Int} (h0 : 0 ≤ i) (h1 : i < 6) : atI [V.int x, V.int y, V.int z, V.int w, V.int u, V.int v] i = some (.int ([x, y, z, w, u, v].getD i.toNat 0)) := at_int' (ns := [x, y, z, w, u, v]) h0 h1
theorem getD4 {x y z w i lo hi : Int} (h0 : 0 ≤ i) (h1 : i < 4) (hx : lo ≤ x ∧ x ≤ hi) (hy : lo ≤ y ∧ y ≤ hi) (hz : lo ≤ z ∧ z ≤ hi) (hw : lo ≤ w ∧ w ≤ hi) : lo ≤ [x, y, z, w].getD i.toNat 0 ∧ [x, y, z, w].getD i.toNat 0 ≤ hi := by
  have h : i = 0 ∨ i = 1 ∨ i = 2 ∨ i = 3 := by omega
  rcases h with rfl | rfl | rfl | rfl
  · exact hx
  · exact hy
  · exact hz
  · exact hw
theorem getD2 {x y i lo hi : Int} (h0 : 0 ≤ i) (h1 : i < 2) (hx : lo ≤ x ∧ x ≤ hi) (hy : lo ≤ y ∧ y ≤ hi) : lo ≤ [x, y].getD i.toNat 0 ∧ [x, y].getD i.toNat 0 ≤ hi := by
  have h : i = 0 ∨ i = 1 := by omega
  rcases h with rfl | rfl
  · exact hx
  · exact hy
theorem getD3 {x y z i lo hi : Int} (h0 : 0 ≤ i) (h1 : i < 3) (hx : lo ≤ x ∧ x ≤ hi) (hy : lo ≤ y ∧ y ≤ hi) (hz : lo ≤ z ∧ z ≤ hi) : lo ≤ [x, y, z].getD i.toNat 0 ∧ [x, y, z].getD i.toNat 0 ≤ hi := by
  have h : i = 0 ∨ i = 1 ∨ i = 2 := by omega
  rcases h with e | e | e <;> subst e
  · exact hx
  · exact hy
  · exact hz
theorem getD6 {x y z w u v i lo hi : Int} (h0 : 0 ≤ i) (h1 : i < 6) (hx : lo ≤ x ∧ x ≤ hi) (hy : lo ≤ y ∧ y ≤ hi) (hz : lo ≤ z ∧ z ≤ hi) (hw : lo ≤ w ∧ w ≤ hi) (hu : lo ≤ u ∧ u ≤ hi) (hv : lo ≤ v ∧ v ≤ hi) : lo ≤ [x, y, z, w, u, v].getD i.toNat 0 ∧ [x, y, z, w, u, v].getD i.toNat 0 ≤ hi := by
  have h : i = 0 ∨ i = 1 ∨ i = 2 ∨ i = 3 ∨ i = 4 ∨ i = 5 := by omega
  rcases h with e | e | e | e | e | e <;> subst e
  · exact hx
  · exact hy
  · exact hz
  · exact hw
  · exact hu
  · exact hv
theorem ixN_of {n : Nat} {i : Int} (h0 : 0 ≤ i) (h1 : i < n) : ixN n i = some i.toNat := by
  unfold ixN
  rw [if_pos h0, if_pos h1]

theorem ixN_iv {ns : List Int} {i : Int} (h0 : 0 ≤ i) (h1 : i < ns.length) : ixN (ns.map V.int).length i = some i.toNat := by
  rw [List.length_map]
  unfold ixN
  rw [if_pos h0, if_pos h1]
theorem upd_snoc {H : Hp} {a : Addr} {ns : List Int} {v : Int} : upd H a (.lst (ns.map V.int ++ [V.int v])) a = some (.lst ((ns ++ [v]).map V.int)) := by
  rw [upd_same, List.map_append]
  rfl
theorem upd_set {H : Hp} {a : Addr} {ns : List Int} {j : Nat} {v : Int} : upd H a (.lst ((ns.map V.int).set j (V.int v))) a = some (.lst ((ns.set j v).map V.int)) := by
  rw [upd_same, List.map_set]
/-- .. against a list without items -/
theorem rEq_intsN {K : PySem.W.Frag} {H : Hp} {a b : Addr} {ns : List Int} {Q : VK} (h1 : SqL K H a (ns.map V.int)) (h2 : SqL K H b []) (q : Q (.bl (decide (ns = []))) H) : rEqD K (.ref a) (.ref b) H Q :=
  rEq_ints (ms := []) h1 h2 q
theorem rNe_intsN {K : PySem.W.Frag} {H : Hp} {a b : Addr} {ns : List Int} {Q : VK} (h1 : SqL K H a (ns.map V.int)) (h2 : SqL K H b []) (q : Q (.bl (!decide (ns = []))) H) : rNeD K (.ref a) (.ref b) H Q :=
  rNe_ints (ms := []) h1 h2 q
/-! ### built-ins of one argument, of two -/
def tB1 (r : List V → Hp → VK → Prop) (te : TE) : TE := fun σ H Q => te σ H fun x H1 => r [x] H1 Q
def tB2 (r : List V → Hp → VK → Prop) (ta tb : TE) : TE := fun σ H Q => ta σ H fun x H1 => tb σ H1 fun y H2 => r [x, y] H2 Q
section
variable {X : Cx} {x : Str} {id T : String} {e f : Expr} {te tf : TE} {r : List V → Hp → VK → Prop} {p pos : Pos}
theorem pe_b1 (hc : CallR X (.builtin id) r) (hg : Gl X x) (hm : X.mg x = none) (hv : bootBuiltins x = some (.builtin id)) (ha : PE X e te) (hn : x ≠ "__name__" := by decide) (hdb : (x == ("__debug__" : Str)) = false := by decide)
    (he : starEach [e] X.env = (false, eval e X.env) :: starEach [] X.env := by rfl) : PE X (.Call (.Name x p) [e] [] pos) (tB1 r te) := pe_callB hc hg hm hv (pa_cons ha pa_nil he) hn hdb he rfl
theorem pe_b2 (hc : CallR X (.builtin id) r) (hg : Gl X x) (hm : X.mg x = none) (hv : bootBuiltins x = some (.builtin id)) (ha : PE X e te) (hb : PE X f tf) (hn : x ≠ "__name__" := by decide) (hdb : (x == ("__debug__" : Str)) = false := by decide)
    (he : starEach [e, f] X.env = (false, eval e X.env) :: starEach [f] X.env := by rfl) (hf : starEach [f] X.env = (false, eval f X.env) :: starEach [] X.env := by rfl) (hpl : (backTo pos (starEach [f] X.env)).any (·.1) = false := by rfl) :
    PE X (.Call (.Name x p) [e, f] [] pos) (tB2 r te tf) := pe_callB hc hg hm hv (pa_cons ha (pa_cons hb pa_nil hf) he) hn hdb he hpl
theorem pe_t1 (hc : CallR X (.type T) r) (hg : Gl X x) (hm : X.mg x = none) (hv : bootBuiltins x = some (.type T)) (ha : PE X e te) (hn : x ≠ "__name__" := by decide) (hdb : (x == ("__debug__" : Str)) = false := by decide)
    (he : starEach [e] X.env = (false, eval e X.env) :: starEach [] X.env := by rfl) : PE X (.Call (.Name x p) [e] [] pos) (tB1 r te) := pe_callTy hc hg hm hv (pa_cons ha pa_nil he) hn hdb he rfl
end
theorem tyL {K : PySem.W.Frag} {H : Hp} {l : Addr} {xs : List V} (h : SqL K H l xs) : tyV K "list" (.ref l) H := Or.inl ⟨rfl, _, h⟩
/-! ### len -/
def rLenI (K : PySem.W.Frag) : List V → Hp → VK → Prop := fun xs H Q => ∃ p ys, xs = [.ref p] ∧ (SqL K H p ys ∨ SqT K H p ys) ∧ Q (.int ys.length) H
theorem call_lenI {X : Cx} : CallR X (.builtin "len") (rLenI X.K) := call_len_seq
theorem len_ints {K : PySem.W.Frag} {H : Hp} {p : Addr} {ns : List Int} {Q : VK} (h : SqL K H p (ns.map V.int)) (q : Q (.int ns.length) H) : rLenI K [.ref p] H Q :=
  ⟨p, _, rfl, Or.inl h, by rw [List.length_map]; exact q⟩
theorem upd_app {H : Hp} {a : Addr} {ns ms : List Int} : upd H a (.lst (ns.map V.int ++ ms.map V.int)) a = some (.lst ((ns ++ ms).map V.int)) := by
  rw [upd_same, List.map_append]
theorem upd_1cat {H : Hp} {a : Addr} {x : Int} {ms : List Int} : upd H a (.lst ([V.int x] ++ ms.map V.int)) a = some (.lst ((x :: ms).map V.int)) := upd_same
theorem rep_iv (k : Nat) (v : Int) : (List.replicate k [V.int v]).flatten = (List.replicate k v).map V.int := by
  induction k with
  | zero => rfl
  | succ k ih => rw [List.replicate_succ, List.flatten_cons, ih, List.replicate_succ, List.map_cons]; rfl
theorem upd_rep {H : Hp} {a : Addr} {ns : List Int} {k : Nat} {v : Int} : upd H a (.lst (ns.map V.int ++ (List.replicate k [V.int v]).flatten)) a = some (.lst ((ns ++ List.replicate k v).map V.int)) := by
  rw [upd_same, rep_iv, List.map_append]
theorem upd_rep0 {H : Hp} {a : Addr} {k : Nat} {v : Int} : upd H a (.lst (List.replicate k [V.int v]).flatten) a = some (.lst ((List.replicate k v).map V.int)) := by
  rw [upd_same, rep_iv]
/-! ### slices -/
theorem sIx_pos (n d : Nat) {m : Int} (h : 0 ≤ m) : HT.sIx n d (some m) = min m.toNat n := by
  show (if m < 0 then (m + (n : Int)).toNat else min m.toNat n) = min m.toNat n
  rw [if_neg (by omega)]
theorem cut_all (xs : List V) : cutV xs none none = xs := by
  unfold cutV
  rw [HT.sIx_none, HT.sIx_none]
  simp
theorem cut_to (xs : List V) {m : Int} (h : 0 ≤ m) : cutV xs none (some m) = xs.take m.toNat := by
  unfold cutV
  rw [HT.sIx_none, sIx_pos _ _ h, List.drop_zero, Nat.sub_zero]
  by_cases hm : m.toNat ≤ xs.length
  · rw [Nat.min_eq_left hm]
  · rw [Nat.min_eq_right (by omega), List.take_of_length_le (Nat.le_refl _), List.take_of_length_le (by omega)]
theorem cut_from (xs : List V) {m : Int} (h : 0 ≤ m) : cutV xs (some m) none = xs.drop m.toNat := by
  unfold cutV
  rw [HT.sIx_none, sIx_pos _ _ h]
  by_cases hm : m.toNat ≤ xs.length
  · rw [Nat.min_eq_left hm, List.take_of_length_le (by rw [List.length_drop]; omega)]
  · rw [Nat.min_eq_right (by omega), List.drop_of_length_le (Nat.le_refl _), List.drop_of_length_le (by omega)]
    simp
theorem cut_mid (xs : List V) {a b : Int} (h : 0 ≤ a) (h2 : 0 ≤ b) : cutV xs (some a) (some b) = (xs.drop a.toNat).take (b.toNat - a.toNat) := by
  unfold cutV
  rw [sIx_pos _ _ h, sIx_pos _ _ h2]
  by_cases ha : a.toNat ≤ xs.length
  · rw [Nat.min_eq_left ha]
    by_cases hb : b.toNat ≤ xs.length
    · rw [Nat.min_eq_left hb]
    · rw [Nat.min_eq_right (by omega), List.take_of_length_le (by rw [List.length_drop]; omega), List.take_of_length_le (by rw [List.length_drop]; omega)]
  · rw [Nat.min_eq_right (a := a.toNat) (by omega), List.drop_of_length_le (Nat.le_refl _), List.drop_of_length_le (by omega)]
    simp
theorem cutI_all (ns : List Int) : cutV (ns.map V.int) none none = ns.map V.int := cut_all _
theorem cutI_to (ns : List Int) {m : Int} (h : 0 ≤ m) : cutV (ns.map V.int) none (some m) = (ns.take m.toNat).map V.int := by rw [cut_to _ h, List.map_take]
theorem cutI_from (ns : List Int) {m : Int} (h : 0 ≤ m) : cutV (ns.map V.int) (some m) none = (ns.drop m.toNat).map V.int := by rw [cut_from _ h, List.map_drop]
theorem cutI_mid (ns : List Int) {a b : Int} (h : 0 ≤ a) (h2 : 0 ≤ b) : cutV (ns.map V.int) (some a) (some b) = ((ns.drop a.toNat).take (b.toNat - a.toNat)).map V.int := by
  rw [cut_mid _ h h2, List.map_take, List.map_drop]

/-! ### pairs made by list(enumerate(..)) -/
theorem NewPairs_of {H H1 H' : Hp} {cs : List (List V)} {p : Addr} {ts : List Addr} (s : Same H H1) (n : UrE.NewPairs H1 cs p ts H') : UrE.NewPairs H cs p ts H' := by
  obtain ⟨a, b, c, d, e⟩ := n
  exact ⟨s.trans a, s.free b, fun t ht => s.free (c t ht), d, e⟩
theorem same_new {H : Hp} {p : Addr} {o : HO} (h : H p = none) : Same H (upd H p o) := fun b u e => by
  rw [upd_ne (ne_of_none e h)]
  exact e
theorem sql_new {K : PySem.W.Frag} {H : Hp} {p b : Addr} {o : HO} {xs : List V} (h : H p = none) (q : SqL K H b xs) : SqL K (upd H p o) b xs := (same_new h).seq q
theorem sql_upd {K : PySem.W.Frag} {H : Hp} {p b : Addr} {o : HO} {xs : List V} (n : b ≠ p) (q : SqL K H b xs) : SqL K (upd H p o) b xs := by
  rcases q with (h | ⟨u, h⟩) | h
  · exact .inl (.inl ((upd_ne n).trans h))
  · exact .inl (.inr ⟨u, (upd_ne n).trans h⟩)
  · exact .inr h
/-- a change at what H0 does not know -/
theorem same_upd {H0 H : Hp} {p : Addr} {o : HO} (s : Same H0 H) (h : H0 p = none) : Same H0 (upd H p o) := fun b u e => by
  rw [upd_ne (ne_of_none e h)]
  exact s b u e
theorem upd_none {H : Hp} {a p : Addr} {o : HO} (h : upd H a o p = none) : H p = none := by
  by_cases e : p = a
  · rw [e, upd_same] at h; cases h
  · rw [upd_ne e] at h; exact h
theorem upd_none_ne {H : Hp} {a p : Addr} {o : HO} (h : upd H a o p = none) : p ≠ a := fun e => by rw [e, upd_same] at h; cases h
theorem upd_cutto {H : Hp} {a : Addr} {ns : List Int} {m : Int} (h : 0 ≤ m) : upd H a (.lst (cutV (ns.map V.int) none (some m))) a = some (.lst ((ns.take m.toNat).map V.int)) := by rw [cutI_to ns h, upd_same]
theorem upd_cutfrom {H : Hp} {a : Addr} {ns : List Int} {m : Int} (h : 0 ≤ m) : upd H a (.lst (cutV (ns.map V.int) (some m) none)) a = some (.lst ((ns.drop m.toNat).map V.int)) := by rw [cutI_from ns h, upd_same]
theorem upd_cutmid {H : Hp} {a : Addr} {ns : List Int} {m k : Int} (h : 0 ≤ m) (h2 : 0 ≤ k) : upd H a (.lst (cutV (ns.map V.int) (some m) (some k))) a = some (.lst (((ns.drop m.toNat).take (k.toNat - m.toNat)).map V.int)) := by rw [cutI_mid ns h h2, upd_same]
theorem upd_cutall {H : Hp} {a : Addr} {ns : List Int} : upd H a (.lst (cutV (ns.map V.int) none none)) a = some (.lst (ns.map V.int)) := by rw [cutI_all ns, upd_same]
end Ur

namespace Ur
open PySem L2 PyProof.Rows PySem.Spec
/-! ### the rules of a block, by the fragment alone -/
def rMax2 : List V → Hp → VK → Prop := fun xs H Q => ∃ i j, xs = [.int i, .int j] ∧ Q (.int (if j > i then j else i)) H
def rMin2 : List V → Hp → VK → Prop := fun xs H Q => ∃ i j, xs = [.int i, .int j] ∧ Q (.int (if j < i then j else i)) H
def rListOf (K : PySem.W.Frag) : List V → Hp → VK → Prop := fun xs H Q => ∃ p ys, xs = [.ref p] ∧ (SqL K H p ys ∨ SqT K H p ys) ∧ ∀ l, H l = none → Q (.ref l) (upd H l (.lst ys))
def rTupOf (K : PySem.W.Frag) : List V → Hp → VK → Prop := fun xs H Q => ∃ p ys, xs = [.ref p] ∧ ((SqL K H p ys ∧ ∀ l, H l = none → Q (.ref l) (upd H l (.tup ys))) ∨ (SqT K H p ys ∧ Q (.ref p) H))
theorem ix_listK {X : Cx} {K : PySem.W.Frag} (hk : X.K = K) : IxR X (rIxL K) := by subst hk; exact L2.ix_list
theorem ix_tupK {X : Cx} {K : PySem.W.Frag} (hk : X.K = K) : IxR X (rIxT K) := by subst hk; exact L2.ix_tup
theorem sl_listK {X : Cx} {K : PySem.W.Frag} (hk : X.K = K) : SlR X (rSlL K) := by subst hk; exact L2.sl_list
theorem sl_tupK {X : Cx} {K : PySem.W.Frag} (hk : X.K = K) : SlR X (rSlT K) := by subst hk; exact L2.sl_tup
theorem op_in_seqK {X : Cx} {K : PySem.W.Frag} (hk : X.K = K) : OpR X (compareOp .In) (rIn K false) := by subst hk; exact L2.op_in_seq
theorem op_notIn_seqK {X : Cx} {K : PySem.W.Frag} (hk : X.K = K) : OpR X (compareOp .NotIn) (rIn K true) := by subst hk; exact L2.op_notIn_seq
theorem call_lenIK {X : Cx} {K : PySem.W.Frag} (hk : X.K = K) : CallR X (.builtin "len") (rLenI K) := by subst hk; exact Ur.call_lenI
theorem call_isiK {X : Cx} {K : PySem.W.Frag} (hk : X.K = K) : CallR X (.builtin "isinstance") (rIsi K) := by subst hk; exact L2.call_isi
theorem cr_maxK {X : Cx} {K : PySem.W.Frag} (hk : X.K = K) (hc : X.calm = true) : CallR X (.builtin "max") (rMax K) := by subst hk; exact L2.cr_max hc
theorem cr_minK {X : Cx} {K : PySem.W.Frag} (hk : X.K = K) (hc : X.calm = true) : CallR X (.builtin "min") (rMin K) := by subst hk; exact L2.cr_min hc
theorem cr_sumK {X : Cx} {K : PySem.W.Frag} (hk : X.K = K) (hc : X.calm = true) : CallR X (.builtin "sum") (rSum K) := by subst hk; exact L2.cr_sum hc
theorem cr_anyK {X : Cx} {K : PySem.W.Frag} (hk : X.K = K) (hc : X.calm = true) : CallR X (.builtin "any") (rAny K) := by subst hk; exact L2.cr_any hc
theorem cr_allK {X : Cx} {K : PySem.W.Frag} (hk : X.K = K) (hc : X.calm = true) : CallR X (.builtin "all") (rAll K) := by subst hk; exact L2.cr_all hc
theorem op_eqDK {X : Cx} {K : PySem.W.Frag} (hk : X.K = K) (hu : X.A.units + 64 < cLine) : OpR X (compareOp .Eq) (rEqD K) := by subst hk; exact L2.op_eqD hu
theorem op_neDK {X : Cx} {K : PySem.W.Frag} (hk : X.K = K) (hu : X.A.units + 64 < cLine) : OpR X (compareOp .NotEq) (rNeD K) := by subst hk; exact L2.op_neD hu
theorem cr_sortedIK {X : Cx} {K : PySem.W.Frag} (hk : X.K = K) : CallR X (.builtin "sorted") (rSortedI K) := by subst hk; exact L2.cr_sortedI
theorem mt_indexK {X : Cx} {K : PySem.W.Frag} (hk : X.K = K) : MtR X "list.index" (rIndex K) := by subst hk; exact L2.mt_index
theorem call_max2K {X : Cx}  (hc : X.calm = true) : CallR X (.builtin "max") rMax2 := by exact L2.call_max2 hc
theorem call_min2K {X : Cx}  (hc : X.calm = true) : CallR X (.builtin "min") rMin2 := by exact L2.call_min2 hc
theorem call_list_ofK {X : Cx} {K : PySem.W.Frag} (hk : X.K = K) : CallR X (.type "list") (rListOf K) := by subst hk; exact L2.call_list_of
theorem call_tuple_ofK {X : Cx} {K : PySem.W.Frag} (hk : X.K = K) : CallR X (.type "tuple") (rTupOf K) := by subst hk; exact L2.call_tuple_of
theorem pe_fldK {X : Cx} {K : PySem.W.Frag} {e : Expr} {f : Str} {pos : Pos} {ta : TE} (hk : X.K = K) (he : PE X e ta) (hb : attributeBase e f X.env (eval e X.env) = eval e X.env) : PE X (.Attribute e f pos) (tFld K ta f) := by subst hk; exact L2.pe_fld he hb
theorem tNilI {σ : L2.St} {H : Hp} {Q : List V → Hp → Prop} (h : Q [] H) : tNil σ H Q := h
theorem tCi {v : V} {σ : L2.St} {H : Hp} {Q : VK} (h : Q v H) : tC v σ H Q := h
/-! bounds of lengths -/
theorem szT {m n : Nat} (h : m ≤ n) (k : n ≤ 1000000) : m ≤ sizeLine := sz (Nat.le_trans h k)
theorem szlT {m n : Nat} (h : m ≤ n) (k : n < 1000000) : m < sizeLine := szl (Nat.lt_of_le_of_lt h k)
theorem lb_map {α β : Type} {f : α → β} {l : List α} {n : Nat} (h : l.length ≤ n) : (l.map f).length ≤ n := by rw [List.length_map]; exact h
theorem lb_filter {α : Type} {f : α → Bool} {l : List α} {n : Nat} (h : l.length ≤ n) : (l.filter f).length ≤ n := Nat.le_trans (List.length_filter_le f l) h
theorem lb_app {α : Type} {l r : List α} {m n : Nat} (h : l.length ≤ m) (k : r.length ≤ n) : (l ++ r).length ≤ m + n := by rw [List.length_append]; exact Nat.add_le_add h k
theorem lb_cons {α : Type} {x : α} {l : List α} {n : Nat} (h : l.length ≤ n) : (x :: l).length ≤ n + 1 := Nat.succ_le_succ h
theorem lb_nil {α : Type} : ([] : List α).length ≤ 0 := Nat.le_refl 0
theorem lb_range {n : Nat} : (List.range n).length ≤ n := by rw [List.length_range]; exact Nat.le_refl n
theorem pos_app {α : Type} {x : α} {l : List α} : 0 < (l ++ [x]).length := by simp
theorem neg_same {α : Type} {x : α} [Decidable (x = x)] {A B : Prop} (h : B) : if (!decide (x = x)) = true then A else B := by
  rw [decide_eq_true rfl]
  exact h
theorem pos_same {α : Type} {x : α} [Decidable (x = x)] {A B : Prop} (h : A) : if decide (x = x) = true then A else B := by
  rw [decide_eq_true rfl]
  exact h
theorem isWN {α β : Type} {P : (Nat → α → β) → Prop} (h : ∃ W, P W) : ∃ W, P W := h
theorem sqlK {K K' : PySem.W.Frag} {H : Hp} {a : Addr} {xs : List V} (h : SqL K H a xs) (e : K = K') : SqL K' H a xs := e ▸ h
end Ur

namespace Ur
open PySem L2 PySem.Spec PyProof.Rows
/-! ### isinstance of known kinds -/
theorem kb_int_int : kitB "int" "int" = some true := by decide +kernel
theorem kb_int_bool : kitB "int" "bool" = some false := by decide +kernel
theorem kb_int_str : kitB "int" "str" = some false := by decide +kernel
theorem kb_int_list : kitB "int" "list" = some false := by decide +kernel
theorem kb_int_tuple : kitB "int" "tuple" = some false := by decide +kernel
theorem kb_int_dict : kitB "int" "dict" = some false := by decide +kernel
theorem kb_bool_int : kitB "bool" "int" = some true := by decide +kernel
theorem kb_bool_bool : kitB "bool" "bool" = some true := by decide +kernel
theorem kb_bool_str : kitB "bool" "str" = some false := by decide +kernel
theorem kb_bool_list : kitB "bool" "list" = some false := by decide +kernel
theorem kb_bool_tuple : kitB "bool" "tuple" = some false := by decide +kernel
theorem kb_bool_dict : kitB "bool" "dict" = some false := by decide +kernel
theorem kb_str_int : kitB "str" "int" = some false := by decide +kernel
theorem kb_str_bool : kitB "str" "bool" = some false := by decide +kernel
theorem kb_str_str : kitB "str" "str" = some true := by decide +kernel
theorem kb_str_list : kitB "str" "list" = some false := by decide +kernel
theorem kb_str_tuple : kitB "str" "tuple" = some false := by decide +kernel
theorem kb_str_dict : kitB "str" "dict" = some false := by decide +kernel
theorem kb_NoneType_int : kitB "NoneType" "int" = some false := by decide +kernel
theorem kb_NoneType_bool : kitB "NoneType" "bool" = some false := by decide +kernel
theorem kb_NoneType_str : kitB "NoneType" "str" = some false := by decide +kernel
theorem kb_NoneType_list : kitB "NoneType" "list" = some false := by decide +kernel
theorem kb_NoneType_tuple : kitB "NoneType" "tuple" = some false := by decide +kernel
theorem kb_NoneType_dict : kitB "NoneType" "dict" = some false := by decide +kernel
theorem kb_list_int : kitB "list" "int" = some false := by decide +kernel
theorem kb_list_bool : kitB "list" "bool" = some false := by decide +kernel
theorem kb_list_str : kitB "list" "str" = some false := by decide +kernel
theorem kb_list_list : kitB "list" "list" = some true := by decide +kernel
theorem kb_list_tuple : kitB "list" "tuple" = some false := by decide +kernel
theorem kb_list_dict : kitB "list" "dict" = some false := by decide +kernel
theorem kb_tuple_int : kitB "tuple" "int" = some false := by decide +kernel
theorem kb_tuple_bool : kitB "tuple" "bool" = some false := by decide +kernel
theorem kb_tuple_str : kitB "tuple" "str" = some false := by decide +kernel
theorem kb_tuple_list : kitB "tuple" "list" = some false := by decide +kernel
theorem kb_tuple_tuple : kitB "tuple" "tuple" = some true := by decide +kernel
theorem kb_tuple_dict : kitB "tuple" "dict" = some false := by decide +kernel
theorem kb_dict_int : kitB "dict" "int" = some false := by decide +kernel
theorem kb_dict_bool : kitB "dict" "bool" = some false := by decide +kernel
theorem kb_dict_str : kitB "dict" "str" = some false := by decide +kernel
theorem kb_dict_list : kitB "dict" "list" = some false := by decide +kernel
theorem kb_dict_tuple : kitB "dict" "tuple" = some false := by decide +kernel
theorem kb_dict_dict : kitB "dict" "dict" = some true := by decide +kernel
theorem isiK {K : PySem.W.Frag} {H : Hp} {x : V} {t T : String} {b : Bool} {Q : VK} (ty : TyX K H x (.type t)) (h : kitB t T = some b) (q : Q (.bl b) H) : rIsi K [x, .ty T] H Q :=
  ⟨x, .ty T, _, _, b, rfl, .ty _, ty, kit_ty h, q⟩
theorem tyx_lst {K : PySem.W.Frag} {H : Hp} {a : Addr} {xs : List V} (h : H a = some (.lst xs)) : TyX K H (.ref a) (.type "list") := .base (.lst h)
theorem tyx_tup {K : PySem.W.Frag} {H : Hp} {a : Addr} {xs : List V} (h : H a = some (.tup xs)) : TyX K H (.ref a) (.type "tuple") := .base (.tup h)
theorem tyx_dK {K : PySem.W.Frag} {H : Hp} {a : Addr} {xs : List (Key × V)} (h : H a = some (.dK xs)) : TyX K H (.ref a) (.type "dict") := .base (.dK h)
theorem tyx_int {K : PySem.W.Frag} {H : Hp} {i : Int} : TyX K H (.int i) (.type "int") := .base (.int i)
theorem tyx_bl {K : PySem.W.Frag} {H : Hp} {b : Bool} : TyX K H (.bl b) (.type "bool") := .base (.bl b)
theorem tyx_str {K : PySem.W.Frag} {H : Hp} {x : Str} : TyX K H (.str x) (.type "str") := .base (.str x)
theorem tyx_non {K : PySem.W.Frag} {H : Hp} : TyX K H .non (.type "NoneType") := .base .non
end Ur

namespace Ur
open PySem L2
/-! ### dicts with int keys -/
theorem isD_of {H : Hp} {a : Addr} {kvs : List (Key × V)} (h : H a = some (.dK kvs)) : IsD H a := Or.inl ⟨kvs, Or.inl h⟩
theorem dget_int {H : Hp} {a : Addr} {kvs : List (Key × V)} {n : Int} (h : H a = some (.dK kvs)) : DGet H a (.int n) (valV kvs (Sum.inl n)) := DGet.k (k := Sum.inl n) h
theorem dget_some {H : Hp} {a : Addr} {kvs : List (Key × V)} {n : Int} {v : V} (h : H a = some (.dK kvs)) (e : valV kvs (Sum.inl n) = some v) : DGet H a (.int n) (some v) := by
  rw [← e]
  exact dget_int h
theorem dput_int {H : Hp} {a : Addr} {kvs : List (Key × V)} {n : Int} {v : V} (h : H a = some (.dK kvs)) (l : kvs.length < sizeLine) : DPut H a (.int n) v (upd H a (.dK (putK kvs (Sum.inl n) v))) := DPut.k (k := Sum.inl n) h l
theorem putK_le (c : List (Key × V)) (k : Key) (x : V) : (putK c k x).length ≤ c.length + 1 := by
  unfold putK
  split
  · rw [List.length_map]; omega
  · rw [List.length_append]; exact Nat.le_refl _
theorem val_put (kvs : List (Key × V)) (k j : Int) (y : V) : valV (putK kvs (Sum.inl k) y) (Sum.inl j) = if j = k then some y else valV kvs (Sum.inl j) := by
  rw [valV_put]
  by_cases h : j = k
  · rw [if_pos h, if_pos (by rw [h])]
  · rw [if_neg h, if_neg (fun e => h (Sum.inl.inj e))]

/-! ### loops -/
section
variable {K : PySem.W.Frag} {a b : Addr} {xs ys : List V} {ns : List Int} {tb : TS} {D : Ends} {σ : L2.St} {H : Hp} {ti tv : Nat}
/-- for i, x in enumerate(list) -/
theorem for_enum (Pv : Nat → L2.St → Hp → Prop) (h0 : Pv 0 σ H) (hl : ∀ i σ H, i ≤ xs.length → Pv i σ H → SqL K H a xs)
    (hs : ∀ i x σ H H', xs[i]? = some x → Pv i σ H → Same H H' → tb { D with nx := Pv (i + 1), ct := Pv (i + 1), bk := D.nx } ((σ.set ti (some (.int (i : Nat)))).set tv (some x)) H') (hd : ∀ σ H, Pv xs.length σ H → D.nx σ H) :
    ∃ W : Nat → Nat → L2.St → Hp → Prop, (∃ m, W 0 m σ H) ∧ ∀ i m σ H, W i m σ H →
      ((Ite K a).stop i H ∧ D.nx σ H) ∨ ((Ite K a).go i H ∧ ∃ N : L2.St → Hp → Prop, (∀ σ' H', N σ' H' → ∃ m', m' < m ∧ W (i + 1) m' σ' H') ∧ ∀ x H', (Ite K a).yld i H x H' → gTup K 2 (gCons (gName ti) (gCons (gName tv) gNil)) x σ H' fun σ2 H2 => tb { D with nx := N, ct := N, bk := D.nx } σ2 H2) :=
  for_it (walk_enum (K := K) (a := a) (xs := xs)) Pv h0 hl (fun i v σ H H' hi p y => by
    obtain ⟨T, x, z, rfl, hT, rfl, hx, hz⟩ := y
    have hx' : some (V.int (i : Nat)) = some x := hx
    cases hx'
    have hz' : xs[i]? = some z := hz
    refine ⟨T, [.int (i : Nat), z], rfl, SqT.of upd_same, rfl, _, _, rfl, _, _, rfl, rfl, ?_⟩
    exact hs i z σ H _ hz' p (same_new hT)) hd
/-- for n in a list of ints -/
theorem for_ints (Pv : Nat → L2.St → Hp → Prop) (h0 : Pv 0 σ H) (hl : ∀ i σ H, i ≤ ns.length → Pv i σ H → SqL K H a (ns.map V.int))
    (hs : ∀ i n σ H, ns[i]? = some n → Pv i σ H → tb { D with nx := Pv (i + 1), ct := Pv (i + 1), bk := D.nx } (σ.set tv (some (.int n))) H) (hd : ∀ σ H, Pv ns.length σ H → D.nx σ H) :
    ∃ W : Nat → Nat → L2.St → Hp → Prop, (∃ m, W 0 m σ H) ∧ ∀ i m σ H, W i m σ H →
      ((Itl K a).stop i H ∧ D.nx σ H) ∨ ((Itl K a).go i H ∧ ∃ N : L2.St → Hp → Prop, (∀ σ' H', N σ' H' → ∃ m', m' < m ∧ W (i + 1) m' σ' H') ∧ ∀ x H', (Itl K a).yld i H x H' → gName tv x σ H' fun σ2 H2 => tb { D with nx := N, ct := N, bk := D.nx } σ2 H2) :=
  for_list (xs := ns.map V.int) Pv h0 (fun i σ H hi p => hl i σ H (by rw [List.length_map] at hi; exact hi) p) (fun i x σ H hx p => by
    obtain ⟨n, hn, rfl⟩ := iv_get hx
    exact hs i n σ H hn p) (fun σ H p => hd σ H (by rw [List.length_map] at p; exact p))
/-- while, the test's answer told; Pv by a measure -/
theorem while_ans {c : TT} (Pv : Nat → L2.St → Hp → Prop) (m0 : Nat) (h0 : Pv m0 σ H)
    (hs : ∀ m σ H, Pv m σ H → ∃ b, (∀ Q : Bool → Hp → Prop, Q b H → c σ H Q) ∧
      (b = true → tb { D with nx := fun σ' H' => ∃ m', m' < m ∧ Pv m' σ' H', ct := fun σ' H' => ∃ m', m' < m ∧ Pv m' σ' H', bk := D.nx } σ H) ∧ (b = false → D.nx σ H)) : tWhile c tb D σ H := by
  refine ⟨Pv, ⟨m0, h0⟩, fun m σ H p => ?_⟩
  obtain ⟨b, hb, h1, h2⟩ := hs m σ H p
  refine hb _ ?_
  cases b with
  | true => exact (if_pos rfl).mpr ⟨_, fun _ _ n => n, h1 rfl⟩
  | false => exact (if_neg Bool.false_ne_true).mpr (h2 rfl)
end

/-! ### comprehensions -/
section
variable {K : PySem.W.Frag} {a : Addr} {xs : List V} {ns : List Int} {σ : L2.St} {H1 : Hp} {Dl : Addr} {te : TE} {tt : TT} {vs : List Nat} {j : Nat} {lo : Int} {n : Nat} {Qd : Hp → Prop}
theorem tyes_ok {σ : L2.St} {H : Hp} {A B : Hp → Prop} (h : A H) : tYes σ H (fun b H3 => if b = true then A H3 else B H3) := by
  show (if true = true then A H else B H)
  rw [if_pos rfl]
  exact h
/-- [e for k in range(..)], e a value that leaves all as it was -/
theorem lc_rng (f : Nat → V) (hn : n ≤ 1000000) (hD : H1 Dl = none) (hw : ∀ x, wipe ((wipe σ vs).set j (some x)) vs = wipe σ vs)
    (he : ∀ (k : Nat) H', k < n → Same H1 H' → ∀ Q' : VK, (∀ H4, Same H' H4 → Q' (f k) H4) → te ((wipe σ vs).set j (some (.int (lo + (k : Nat))))) H' Q')
    (hd : ∀ H', Same H1 H' → H' Dl = some (.lst ((List.range n).map f)) → Qd H') :
    ∃ W : Nat → Nat → Hp → Prop, (∃ m, W 0 m (upd H1 Dl (.lst []))) ∧ ∀ i m H, W i m H →
      ((Itr lo n).stop i H ∧ Qd H) ∨ ((Itr lo n).go i H ∧ ∃ Nx : Hp → Prop, (∀ H', Nx H' → ∃ m', m' < m ∧ W (i + 1) m' H') ∧ ∀ x H', (Itr lo n).yld i H x H' → gName j x (wipe σ vs) H' fun σ2 H2 => wipe σ2 vs = wipe σ vs ∧ tYes σ2 H2 fun b H3 =>
        if b = true then te σ2 H3 fun y H4 => ∃ acc, H4 Dl = some (.lst acc) ∧ acc.length < sizeLine ∧ Nx (upd H4 Dl (.lst (acc ++ [y]))) else Nx H3) := by
  refine lc_range (lo := lo) (n := n) (fun i H' => Same H1 H' ∧ H' Dl = some (.lst ((List.range i).map f))) ⟨same_new hD, upd_same⟩ (fun i H' hi p => ?_) (fun H' p => hd H' p.1 p.2)
  refine ⟨hw _, ?_⟩
  refine tyes_ok ?_
  refine he i H' hi p.1 _ fun H4 s => ⟨_, s _ _ p.2, szl (by rw [List.length_map, List.length_range]; omega), same_upd' hD (p.1.trans s), ?_⟩
  rw [upd_same, List.range_succ, List.map_append]
  rfl
/-- [e for x in a list of ints] -/
theorem lc_ints (f : Int → V) (hn : ns.length ≤ 1000000) (ha : SqL K H1 a (ns.map V.int)) (hD : H1 Dl = none) (hw : ∀ x, wipe ((wipe σ vs).set j (some x)) vs = wipe σ vs)
    (he : ∀ (x : Int) H', x ∈ ns → Same H1 H' → ∀ Q' : VK, (∀ H4, Same H' H4 → Q' (f x) H4) → te ((wipe σ vs).set j (some (.int x))) H' Q')
    (hd : ∀ H', Same H1 H' → H' Dl = some (.lst (ns.map f)) → Qd H') :
    ∃ W : Nat → Nat → Hp → Prop, (∃ m, W 0 m (upd H1 Dl (.lst []))) ∧ ∀ i m H, W i m H →
      ((Itl K a).stop i H ∧ Qd H) ∨ ((Itl K a).go i H ∧ ∃ Nx : Hp → Prop, (∀ H', Nx H' → ∃ m', m' < m ∧ W (i + 1) m' H') ∧ ∀ x H', (Itl K a).yld i H x H' → gName j x (wipe σ vs) H' fun σ2 H2 => wipe σ2 vs = wipe σ vs ∧ tYes σ2 H2 fun b H3 =>
        if b = true then te σ2 H3 fun y H4 => ∃ acc, H4 Dl = some (.lst acc) ∧ acc.length < sizeLine ∧ Nx (upd H4 Dl (.lst (acc ++ [y]))) else Nx H3) := by
  refine lc_list (K := K) (a := a) (xs := ns.map V.int) (fun i H' => Same H1 H' ∧ H' Dl = some (.lst ((ns.take i).map f))) ⟨same_new hD, upd_same⟩ (fun i H' _ p => p.1.seq ha) (fun i x H' hx p => ?_) (fun H' p => ?_)
  · obtain ⟨z, hz, rfl⟩ := iv_get hx
    have hi := (List.getElem?_eq_some_iff.mp hz).1
    refine ⟨hw _, ?_⟩
    refine tyes_ok ?_
    refine he z H' (List.mem_of_getElem? hz) p.1 _ fun H4 s => ⟨_, s _ _ p.2, szl (by rw [List.length_map, List.length_take]; omega), same_upd' hD (p.1.trans s), ?_⟩
    rw [upd_same, List.take_add_one, hz, List.map_append]
    rfl
  · have h2 := p.2
    rw [List.length_map, List.take_length] at h2
    exact hd H' p.1 h2
/-- [e for k in range(..) if t] -/
theorem lc_rngIf (t : Nat → Bool) (f : Nat → V) (hn : n ≤ 1000000) (hD : H1 Dl = none) (hw : ∀ x, wipe ((wipe σ vs).set j (some x)) vs = wipe σ vs)
    (ht : ∀ (k : Nat) H', k < n → Same H1 H' → ∀ Q' : Bool → Hp → Prop, (∀ H4, Same H' H4 → Q' (t k) H4) → tt ((wipe σ vs).set j (some (.int (lo + (k : Nat))))) H' Q')
    (he : ∀ (k : Nat) H', k < n → t k = true → Same H1 H' → ∀ Q' : VK, (∀ H4, Same H' H4 → Q' (f k) H4) → te ((wipe σ vs).set j (some (.int (lo + (k : Nat))))) H' Q')
    (hd : ∀ H', Same H1 H' → H' Dl = some (.lst (((List.range n).filter t).map f)) → Qd H') :
    ∃ W : Nat → Nat → Hp → Prop, (∃ m, W 0 m (upd H1 Dl (.lst []))) ∧ ∀ i m H, W i m H →
      ((Itr lo n).stop i H ∧ Qd H) ∨ ((Itr lo n).go i H ∧ ∃ Nx : Hp → Prop, (∀ H', Nx H' → ∃ m', m' < m ∧ W (i + 1) m' H') ∧ ∀ x H', (Itr lo n).yld i H x H' → gName j x (wipe σ vs) H' fun σ2 H2 => wipe σ2 vs = wipe σ vs ∧ tt σ2 H2 fun b H3 =>
        if b = true then te σ2 H3 fun y H4 => ∃ acc, H4 Dl = some (.lst acc) ∧ acc.length < sizeLine ∧ Nx (upd H4 Dl (.lst (acc ++ [y]))) else Nx H3) := by
  refine lc_range (lo := lo) (n := n) (fun i H' => Same H1 H' ∧ H' Dl = some (.lst (((List.range i).filter t).map f))) ⟨same_new hD, upd_same⟩ (fun i H' hi p => ?_) (fun H' p => hd H' p.1 p.2)
  refine ⟨hw _, ?_⟩
  refine ht i H' hi p.1 _ fun H3 s3 => ?_
  cases hb : t i with
  | true =>
    refine (if_pos rfl).mpr ?_
    refine he i H3 hi hb (p.1.trans s3) _ fun H4 s => ⟨_, s _ _ (s3 _ _ p.2), szl ?_, same_upd' hD ((p.1.trans s3).trans s), ?_⟩
    · have := List.length_filter_le t (List.range i)
      rw [List.length_range] at this
      rw [List.length_map]; omega
    rw [upd_same, List.range_succ, List.filter_append, List.map_append, List.filter_cons, if_pos hb]
    rfl
  | false =>
    refine (if_neg Bool.false_ne_true).mpr ⟨p.1.trans s3, ?_⟩
    rw [List.range_succ, List.filter_append, List.map_append, List.filter_cons, if_neg (by rw [hb]; exact Bool.false_ne_true)]
    simpa using s3 _ _ p.2
/-- [e for x in a list of ints if t] -/
theorem lc_intsIf (t : Int → Bool) (f : Int → V) (hn : ns.length ≤ 1000000) (ha : SqL K H1 a (ns.map V.int)) (hD : H1 Dl = none) (hw : ∀ x, wipe ((wipe σ vs).set j (some x)) vs = wipe σ vs)
    (ht : ∀ (x : Int) H', x ∈ ns → Same H1 H' → ∀ Q' : Bool → Hp → Prop, (∀ H4, Same H' H4 → Q' (t x) H4) → tt ((wipe σ vs).set j (some (.int x))) H' Q')
    (he : ∀ (x : Int) H', x ∈ ns → t x = true → Same H1 H' → ∀ Q' : VK, (∀ H4, Same H' H4 → Q' (f x) H4) → te ((wipe σ vs).set j (some (.int x))) H' Q')
    (hd : ∀ H', Same H1 H' → H' Dl = some (.lst ((ns.filter t).map f)) → Qd H') :
    ∃ W : Nat → Nat → Hp → Prop, (∃ m, W 0 m (upd H1 Dl (.lst []))) ∧ ∀ i m H, W i m H →
      ((Itl K a).stop i H ∧ Qd H) ∨ ((Itl K a).go i H ∧ ∃ Nx : Hp → Prop, (∀ H', Nx H' → ∃ m', m' < m ∧ W (i + 1) m' H') ∧ ∀ x H', (Itl K a).yld i H x H' → gName j x (wipe σ vs) H' fun σ2 H2 => wipe σ2 vs = wipe σ vs ∧ tt σ2 H2 fun b H3 =>
        if b = true then te σ2 H3 fun y H4 => ∃ acc, H4 Dl = some (.lst acc) ∧ acc.length < sizeLine ∧ Nx (upd H4 Dl (.lst (acc ++ [y]))) else Nx H3) := by
  refine lc_list (K := K) (a := a) (xs := ns.map V.int) (fun i H' => Same H1 H' ∧ H' Dl = some (.lst (((ns.take i).filter t).map f))) ⟨same_new hD, upd_same⟩ (fun i H' _ p => p.1.seq ha) (fun i x H' hx p => ?_) (fun H' p => ?_)
  · obtain ⟨z, hz, rfl⟩ := iv_get hx
    have hi := (List.getElem?_eq_some_iff.mp hz).1
    have hm := List.mem_of_getElem? hz
    refine ⟨hw _, ?_⟩
    refine ht z H' hm p.1 _ fun H3 s3 => ?_
    have e1 : ns.take (i + 1) = ns.take i ++ [z] := by rw [List.take_add_one, hz]; rfl
    cases hb : t z with
    | true =>
      refine (if_pos rfl).mpr ?_
      refine he z H3 hm hb (p.1.trans s3) _ fun H4 s => ⟨_, s _ _ (s3 _ _ p.2), szl ?_, same_upd' hD ((p.1.trans s3).trans s), ?_⟩
      · have := List.length_filter_le t (ns.take i)
        rw [List.length_take] at this
        rw [List.length_map]; omega
      rw [upd_same, e1, List.filter_append, List.map_append, List.filter_cons, if_pos hb]
      rfl
    | false =>
      refine (if_neg Bool.false_ne_true).mpr ⟨p.1.trans s3, ?_⟩
      rw [e1, List.filter_append, List.map_append, List.filter_cons, if_neg (by rw [hb]; exact Bool.false_ne_true)]
      simpa using s3 _ _ p.2
  · have h2 := p.2
    rw [List.length_map, List.take_length] at h2
    exact hd H' p.1 h2
/-- [e for x in a list if t], t never -/
theorem lc_none (ha : SqL K H1 a xs) (hD : H1 Dl = none) (hw : ∀ x, wipe ((wipe σ vs).set j (some x)) vs = wipe σ vs)
    (ht : ∀ (x : V) H', x ∈ xs → Same H1 H' → ∀ Q' : Bool → Hp → Prop, (∀ H4, Same H' H4 → Q' false H4) → tt ((wipe σ vs).set j (some x)) H' Q')
    (hd : ∀ H', Same H1 H' → H' Dl = some (.lst []) → Qd H') :
    ∃ W : Nat → Nat → Hp → Prop, (∃ m, W 0 m (upd H1 Dl (.lst []))) ∧ ∀ i m H, W i m H →
      ((Itl K a).stop i H ∧ Qd H) ∨ ((Itl K a).go i H ∧ ∃ Nx : Hp → Prop, (∀ H', Nx H' → ∃ m', m' < m ∧ W (i + 1) m' H') ∧ ∀ x H', (Itl K a).yld i H x H' → gName j x (wipe σ vs) H' fun σ2 H2 => wipe σ2 vs = wipe σ vs ∧ tt σ2 H2 fun b H3 =>
        if b = true then te σ2 H3 fun y H4 => ∃ acc, H4 Dl = some (.lst acc) ∧ acc.length < sizeLine ∧ Nx (upd H4 Dl (.lst (acc ++ [y]))) else Nx H3) := by
  refine lc_list (K := K) (a := a) (xs := xs) (fun _ H' => Same H1 H' ∧ H' Dl = some (.lst [])) ⟨same_new hD, upd_same⟩ (fun i H' _ p => p.1.seq ha) (fun i x H' hx p => ?_) (fun H' p => hd H' p.1 p.2)
  refine ⟨hw _, ?_⟩
  refine ht x H' (List.mem_of_getElem? hx) p.1 _ fun H3 s3 => ?_
  exact (if_neg Bool.false_ne_true).mpr ⟨p.1.trans s3, s3 _ _ p.2⟩
end
/-! the same, the items ints -/
section
variable {K : PySem.W.Frag} {a : Addr} {xs : List V} {ns : List Int} {σ : L2.St} {H1 : Hp} {Dl : Addr} {te : TE} {tt : TT} {vs : List Nat} {j : Nat} {lo : Int} {n : Nat} {Qd : Hp → Prop}
theorem lc_rngI (f : Nat → Int) (hn : n ≤ 1000000) (hD : H1 Dl = none) (hw : ∀ x, wipe ((wipe σ vs).set j (some x)) vs = wipe σ vs)
    (he : ∀ (k : Nat) H', k < n → Same H1 H' → ∀ Q' : VK, (∀ H4, Same H' H4 → Q' (.int (f k)) H4) → te ((wipe σ vs).set j (some (.int (lo + (k : Nat))))) H' Q')
    (hd : ∀ H', Same H1 H' → H' Dl = some (.lst (((List.range n).map f).map V.int)) → Qd H') :
    ∃ W : Nat → Nat → Hp → Prop, (∃ m, W 0 m (upd H1 Dl (.lst []))) ∧ ∀ i m H, W i m H →
      ((Itr lo n).stop i H ∧ Qd H) ∨ ((Itr lo n).go i H ∧ ∃ Nx : Hp → Prop, (∀ H', Nx H' → ∃ m', m' < m ∧ W (i + 1) m' H') ∧ ∀ x H', (Itr lo n).yld i H x H' → gName j x (wipe σ vs) H' fun σ2 H2 => wipe σ2 vs = wipe σ vs ∧ tYes σ2 H2 fun b H3 =>
        if b = true then te σ2 H3 fun y H4 => ∃ acc, H4 Dl = some (.lst acc) ∧ acc.length < sizeLine ∧ Nx (upd H4 Dl (.lst (acc ++ [y]))) else Nx H3) :=
  lc_rng (fun k => V.int (f k)) hn hD hw he fun H' s e => hd H' s (by rw [e, List.map_map]; rfl)
theorem lc_intsI (f : Int → Int) (hn : ns.length ≤ 1000000) (ha : SqL K H1 a (ns.map V.int)) (hD : H1 Dl = none) (hw : ∀ x, wipe ((wipe σ vs).set j (some x)) vs = wipe σ vs)
    (he : ∀ (x : Int) H', x ∈ ns → Same H1 H' → ∀ Q' : VK, (∀ H4, Same H' H4 → Q' (.int (f x)) H4) → te ((wipe σ vs).set j (some (.int x))) H' Q')
    (hd : ∀ H', Same H1 H' → H' Dl = some (.lst ((ns.map f).map V.int)) → Qd H') :
    ∃ W : Nat → Nat → Hp → Prop, (∃ m, W 0 m (upd H1 Dl (.lst []))) ∧ ∀ i m H, W i m H →
      ((Itl K a).stop i H ∧ Qd H) ∨ ((Itl K a).go i H ∧ ∃ Nx : Hp → Prop, (∀ H', Nx H' → ∃ m', m' < m ∧ W (i + 1) m' H') ∧ ∀ x H', (Itl K a).yld i H x H' → gName j x (wipe σ vs) H' fun σ2 H2 => wipe σ2 vs = wipe σ vs ∧ tYes σ2 H2 fun b H3 =>
        if b = true then te σ2 H3 fun y H4 => ∃ acc, H4 Dl = some (.lst acc) ∧ acc.length < sizeLine ∧ Nx (upd H4 Dl (.lst (acc ++ [y]))) else Nx H3) :=
  lc_ints (fun k => V.int (f k)) hn ha hD hw he fun H' s e => hd H' s (by rw [e, List.map_map]; rfl)
theorem lc_rngIfI (t : Nat → Bool) (f : Nat → Int) (hn : n ≤ 1000000) (hD : H1 Dl = none) (hw : ∀ x, wipe ((wipe σ vs).set j (some x)) vs = wipe σ vs)
    (ht : ∀ (k : Nat) H', k < n → Same H1 H' → ∀ Q' : Bool → Hp → Prop, (∀ H4, Same H' H4 → Q' (t k) H4) → tt ((wipe σ vs).set j (some (.int (lo + (k : Nat))))) H' Q')
    (he : ∀ (k : Nat) H', k < n → t k = true → Same H1 H' → ∀ Q' : VK, (∀ H4, Same H' H4 → Q' (.int (f k)) H4) → te ((wipe σ vs).set j (some (.int (lo + (k : Nat))))) H' Q')
    (hd : ∀ H', Same H1 H' → H' Dl = some (.lst ((((List.range n).filter t).map f).map V.int)) → Qd H') :
    ∃ W : Nat → Nat → Hp → Prop, (∃ m, W 0 m (upd H1 Dl (.lst []))) ∧ ∀ i m H, W i m H →
      ((Itr lo n).stop i H ∧ Qd H) ∨ ((Itr lo n).go i H ∧ ∃ Nx : Hp → Prop, (∀ H', Nx H' → ∃ m', m' < m ∧ W (i + 1) m' H') ∧ ∀ x H', (Itr lo n).yld i H x H' → gName j x (wipe σ vs) H' fun σ2 H2 => wipe σ2 vs = wipe σ vs ∧ tt σ2 H2 fun b H3 =>
        if b = true then te σ2 H3 fun y H4 => ∃ acc, H4 Dl = some (.lst acc) ∧ acc.length < sizeLine ∧ Nx (upd H4 Dl (.lst (acc ++ [y]))) else Nx H3) :=
  lc_rngIf t (fun k => V.int (f k)) hn hD hw ht he fun H' s e => hd H' s (by rw [e, List.map_map]; rfl)
theorem lc_intsIfI (t : Int → Bool) (f : Int → Int) (hn : ns.length ≤ 1000000) (ha : SqL K H1 a (ns.map V.int)) (hD : H1 Dl = none) (hw : ∀ x, wipe ((wipe σ vs).set j (some x)) vs = wipe σ vs)
    (ht : ∀ (x : Int) H', x ∈ ns → Same H1 H' → ∀ Q' : Bool → Hp → Prop, (∀ H4, Same H' H4 → Q' (t x) H4) → tt ((wipe σ vs).set j (some (.int x))) H' Q')
    (he : ∀ (x : Int) H', x ∈ ns → t x = true → Same H1 H' → ∀ Q' : VK, (∀ H4, Same H' H4 → Q' (.int (f x)) H4) → te ((wipe σ vs).set j (some (.int x))) H' Q')
    (hd : ∀ H', Same H1 H' → H' Dl = some (.lst (((ns.filter t).map f).map V.int)) → Qd H') :
    ∃ W : Nat → Nat → Hp → Prop, (∃ m, W 0 m (upd H1 Dl (.lst []))) ∧ ∀ i m H, W i m H →
      ((Itl K a).stop i H ∧ Qd H) ∨ ((Itl K a).go i H ∧ ∃ Nx : Hp → Prop, (∀ H', Nx H' → ∃ m', m' < m ∧ W (i + 1) m' H') ∧ ∀ x H', (Itl K a).yld i H x H' → gName j x (wipe σ vs) H' fun σ2 H2 => wipe σ2 vs = wipe σ vs ∧ tt σ2 H2 fun b H3 =>
        if b = true then te σ2 H3 fun y H4 => ∃ acc, H4 Dl = some (.lst acc) ∧ acc.length < sizeLine ∧ Nx (upd H4 Dl (.lst (acc ++ [y]))) else Nx H3) :=
  lc_intsIf t (fun k => V.int (f k)) hn ha hD hw ht he fun H' s e => hd H' s (by rw [e, List.map_map]; rfl)
end
/-! the same, a state at a changing with each item: S tells what it may be, R the items -/
section
variable {K : PySem.W.Frag} {a st : Addr} {xs : List V} {ns : List Int} {σ : L2.St} {H1 : Hp} {Dl : Addr} {te : TE} {tt : TT} {vs : List Nat} {j : Nat} {lo : Int} {n : Nat} {Qd : Hp → Prop}
theorem lc_rngS (S : HO → Prop) (R : Int → Prop) {o1 : HO} (ha : H1 st = some o1) (hS : S o1) (hn : n ≤ 1000000) (hD : H1 Dl = none) (hw : ∀ x, wipe ((wipe σ vs).set j (some x)) vs = wipe σ vs)
    (he : ∀ (k : Nat) H' o, k < n → But st H1 H' → H' st = some o → S o → ∀ Q' : VK, (∀ v H4 o4, R v → But st H' H4 → H4 st = some o4 → S o4 → Q' (.int v) H4) → te ((wipe σ vs).set j (some (.int (lo + (k : Nat))))) H' Q')
    (hd : ∀ H' (ms : List Int) o, ms.length = n → (∀ x ∈ ms, R x) → But st H1 H' → H' Dl = some (.lst (ms.map V.int)) → H' st = some o → S o → Qd H') :
    ∃ W : Nat → Nat → Hp → Prop, (∃ m, W 0 m (upd H1 Dl (.lst []))) ∧ ∀ i m H, W i m H →
      ((Itr lo n).stop i H ∧ Qd H) ∨ ((Itr lo n).go i H ∧ ∃ Nx : Hp → Prop, (∀ H', Nx H' → ∃ m', m' < m ∧ W (i + 1) m' H') ∧ ∀ x H', (Itr lo n).yld i H x H' → gName j x (wipe σ vs) H' fun σ2 H2 => wipe σ2 vs = wipe σ vs ∧ tYes σ2 H2 fun b H3 =>
        if b = true then te σ2 H3 fun y H4 => ∃ acc, H4 Dl = some (.lst acc) ∧ acc.length < sizeLine ∧ Nx (upd H4 Dl (.lst (acc ++ [y]))) else Nx H3) := by
  have hne : Dl ≠ st := (ne_of_none ha hD).symm
  refine lc_range (lo := lo) (n := n) (fun i H' => ∃ (ms : List Int) (o : HO), H' Dl = some (.lst (ms.map V.int)) ∧ H' st = some o ∧ S o ∧ But st H1 H' ∧ ms.length = i ∧ ∀ x ∈ ms, R x)
    ⟨[], o1, upd_same, (upd_ne hne.symm).trans ha, hS, but_snoc hD but_refl, rfl, fun _ h => by cases h⟩ (fun i H' hi p => ?_) (fun H' p => ?_)
  · obtain ⟨ms, o, e1, e2, e3, e4, e5, e6⟩ := p
    refine ⟨hw _, ?_⟩
    refine tyes_ok ?_
    refine he i H' o hi e4 e2 e3 _ fun v H4 o4 rv b4 s4 z4 => ⟨_, b4 _ _ hne e1, szl (by rw [List.length_map]; omega), ms ++ [v], o4, upd_snoc, (upd_ne hne.symm).trans s4, z4, but_upd hD (but_step b4 e4), by rw [List.length_append, e5]; rfl, fun x hx => ?_⟩
    rcases List.mem_append.mp hx with h | h
    · exact e6 x h
    · rw [List.mem_singleton.mp h]; exact rv
  · obtain ⟨ms, o, e1, e2, e3, e4, e5, e6⟩ := p
    exact hd H' ms o e5 e6 e4 e1 e2 e3
end
end Ur

namespace Ur
open PySem L2
structure HandOk (d m : Int) : Prop where
  d0 : 0 ≤ d
  m0 : 0 ≤ m
  m1 : m < 2147483587
end Ur

namespace Ur
open PySem L2
/-! ### last and next places: the plain functions -/
/-- the greatest place below i with the number x, or -1 -/
def lastAt (ns : List Int) : Nat → Int → Int
  | 0, _ => -1
  | i + 1, x => if ns.getD i 0 = x then (i : Int) else lastAt ns i x
def lastP (ns : List Int) : List Int := (List.range ns.length).map fun k => lastAt ns k (ns.getD k 0)
theorem lastP_len (ns : List Int) : (lastP ns).length = ns.length := by simp [lastP]
theorem lastP_get {ns : List Int} {k : Nat} (h : k < ns.length) : (lastP ns)[k]? = some (lastAt ns k (ns.getD k 0)) := by
  unfold lastP
  rw [List.getElem?_map, List.getElem?_range h]
  rfl
theorem lastP_take {ns : List Int} {i : Nat} (h : i < ns.length) : (lastP ns).take (i + 1) = (lastP ns).take i ++ [lastAt ns i (ns.getD i 0)] := by
  rw [List.take_add_one, lastP_get h]
  rfl
theorem lastAt_spec (ns : List Int) (x : Int) : ∀ i : Nat, (lastAt ns i x = -1 ∧ ∀ j, j < i → ns.getD j 0 ≠ x) ∨ ∃ v : Nat, lastAt ns i x = v ∧ v < i ∧ ns.getD v 0 = x ∧ ∀ j, v < j → j < i → ns.getD j 0 ≠ x
  | 0 => Or.inl ⟨rfl, fun _ h => absurd h (Nat.not_lt_zero _)⟩
  | i + 1 => by
    by_cases h : ns.getD i 0 = x
    · refine Or.inr ⟨i, ?_, Nat.lt_succ_self _, h, fun j h1 h2 => by omega⟩
      show (if ns.getD i 0 = x then (i : Int) else lastAt ns i x) = i
      rw [if_pos h]
    · have e : lastAt ns (i + 1) x = lastAt ns i x := by
        show (if ns.getD i 0 = x then (i : Int) else lastAt ns i x) = _
        rw [if_neg h]
      rcases lastAt_spec ns x i with ⟨h1, h2⟩ | ⟨v, h1, h2, h3, h4⟩
      · refine Or.inl ⟨e.trans h1, fun j hj => ?_⟩
        by_cases hji : j = i
        · rw [hji]; exact h
        · exact h2 j (by omega)
      · refine Or.inr ⟨v, e.trans h1, by omega, h3, fun j hj1 hj2 => ?_⟩
        by_cases hji : j = i
        · rw [hji]; exact h
        · exact h4 j hj1 (by omega)
theorem lastAt_range (ns : List Int) (x : Int) (i : Nat) : -1 ≤ lastAt ns i x ∧ lastAt ns i x < i := by
  rcases lastAt_spec ns x i with ⟨h1, _⟩ | ⟨v, h1, h2, _⟩ <;> omega
/-- what is it and nothing greater -/
theorem lastAt_uniq {ns : List Int} {x : Int} {i : Nat} {m : Int} (h1 : m = -1 ∨ ∃ v : Nat, m = v ∧ v < i ∧ ns.getD v 0 = x) (h2 : ∀ j : Nat, j < i → ns.getD j 0 = x → (j : Int) ≤ m) : lastAt ns i x = m := by
  rcases lastAt_spec ns x i with ⟨a1, a2⟩ | ⟨v, a1, a2, a3, a4⟩
  · rcases h1 with e | ⟨v, e, hv, hx⟩
    · omega
    · exact absurd hx (a2 v hv)
  · have q := h2 v a2 a3
    rcases h1 with e | ⟨u, e, hu, hx⟩
    · omega
    · by_cases huv : v < u
      · exact absurd hx (a4 u huv hu)
      · omega
/-- the least place above k, below i, with k's number, or the length -/
def nextUp (ns : List Int) (k : Nat) : Nat → Int
  | 0 => ns.length
  | i + 1 => if nextUp ns k i < ns.length then nextUp ns k i else if k < i ∧ ns.getD i 0 = ns.getD k 0 then (i : Int) else ns.length
def nextP (ns : List Int) : List Int := (List.range ns.length).map fun k => nextUp ns k ns.length
theorem nextP_len (ns : List Int) : (nextP ns).length = ns.length := by simp [nextP]
theorem nextP_get {ns : List Int} {k : Nat} (h : k < ns.length) : (nextP ns)[k]? = some (nextUp ns k ns.length) := by
  unfold nextP
  rw [List.getElem?_map, List.getElem?_range h]
  rfl
theorem nextUp_spec (ns : List Int) (k : Nat) : ∀ i : Nat, i ≤ ns.length → (nextUp ns k i = ns.length ∧ ∀ j, k < j → j < i → ns.getD j 0 ≠ ns.getD k 0) ∨ ∃ v : Nat, nextUp ns k i = v ∧ k < v ∧ v < i ∧ ns.getD v 0 = ns.getD k 0 ∧ ∀ j, k < j → j < v → ns.getD j 0 ≠ ns.getD k 0
  | 0, _ => Or.inl ⟨rfl, fun _ _ h => absurd h (Nat.not_lt_zero _)⟩
  | i + 1, hi => by
    have e : nextUp ns k (i + 1) = if nextUp ns k i < ns.length then nextUp ns k i else if k < i ∧ ns.getD i 0 = ns.getD k 0 then (i : Int) else ns.length := rfl
    rcases nextUp_spec ns k i (by omega) with ⟨h1, h2⟩ | ⟨v, h1, h2, h3, h4, h5⟩
    · rw [if_neg (by omega)] at e
      by_cases h : k < i ∧ ns.getD i 0 = ns.getD k 0
      · rw [if_pos h] at e
        exact Or.inr ⟨i, e, h.1, Nat.lt_succ_self _, h.2, h2⟩
      · rw [if_neg h] at e
        refine Or.inl ⟨e, fun j hj1 hj2 => ?_⟩
        by_cases hji : j = i
        · rw [hji]; exact fun z => h ⟨by omega, z⟩
        · exact h2 j hj1 (by omega)
    · rw [if_pos (by omega)] at e
      exact Or.inr ⟨v, e.trans h1, h2, by omega, h4, h5⟩
theorem nextUp_uniq {ns : List Int} {k i : Nat} (hi : i ≤ ns.length) {m : Int} (h1 : m = ns.length ∨ ∃ v : Nat, m = v ∧ k < v ∧ v < i ∧ ns.getD v 0 = ns.getD k 0) (h2 : ∀ j : Nat, k < j → j < i → ns.getD j 0 = ns.getD k 0 → m ≤ (j : Int)) (h3 : m ≤ ns.length) : nextUp ns k i = m := by
  rcases nextUp_spec ns k i hi with ⟨a1, a2⟩ | ⟨v, a1, a2, a3, a4, a5⟩
  · rcases h1 with e | ⟨v, e, hv, hv2, hx⟩
    · omega
    · exact absurd hx (a2 v hv hv2)
  · have q := h2 v a2 a3 a4
    rcases h1 with e | ⟨u, e, hu, hu2, hx⟩
    · omega
    · by_cases huv : u < v
      · exact absurd hx (a5 u hu huv)
      · omega
/-- one place on: the next place of k is i just where k is i's last place -/
theorem nextUp_step {ns : List Int} {k i : Nat} (hi : i < ns.length) (hk : k < ns.length) : nextUp ns k (i + 1) = if lastAt ns i (ns.getD i 0) = (k : Int) then (i : Int) else nextUp ns k i := by
  have e : nextUp ns k (i + 1) = if nextUp ns k i < ns.length then nextUp ns k i else if k < i ∧ ns.getD i 0 = ns.getD k 0 then (i : Int) else ns.length := rfl
  rw [e]
  rcases nextUp_spec ns k i (by omega) with ⟨a1, a2⟩ | ⟨v, a1, a2, a3, a4, a5⟩
  · rw [if_neg (by omega)]
    by_cases h : k < i ∧ ns.getD i 0 = ns.getD k 0
    · rw [if_pos h, if_pos]
      refine lastAt_uniq (Or.inr ⟨k, rfl, h.1, h.2.symm⟩) fun j hj hx => ?_
      by_cases hkj : k < j
      · exact absurd (hx.trans h.2) (a2 j hkj hj)
      · omega
    · rw [if_neg h, if_neg, a1]
      intro q
      rcases lastAt_spec ns (ns.getD i 0) i with ⟨b1, _⟩ | ⟨u, b1, b2, b3, _⟩
      · omega
      · have : u = k := by omega
        subst this
        exact h ⟨b2, b3.symm⟩
  · rw [if_pos (by omega), if_neg]
    intro q
    rcases lastAt_spec ns (ns.getD i 0) i with ⟨b1, _⟩ | ⟨u, b1, b2, b3, b4⟩
    · omega
    · have : u = k := by omega
      subst this
      exact b4 v a2 a3 (a4.trans b3)
theorem getD_of {ns : List Int} {i : Nat} {n : Int} (h : ns[i]? = some n) : ns.getD i 0 = n := by
  rw [List.getD_eq_getElem?_getD, h]; rfl
theorem get_of {ns : List Int} {i : Nat} (h : i < ns.length) : ns[i]? = some (ns.getD i 0) := by
  rw [List.getD_eq_getElem?_getD, List.getElem?_eq_getElem h]; rfl
theorem ext_getD {ns ms : List Int} (hl : ns.length = ms.length) (h : ∀ i, i < ns.length → ns.getD i 0 = ms.getD i 0) : ns = ms := by
  refine List.ext_getElem? fun i => ?_
  by_cases hi : i < ns.length
  · rw [get_of hi, get_of (by omega), h i hi]
  · rw [List.getElem?_eq_none (by omega), List.getElem?_eq_none (by omega)]
/-- a list of ints at an address, its items told otherwise -/
theorem lst_cast {H : Hp} {a : Addr} {xs ys : List V} (h : H a = some (.lst xs)) (e : xs = ys) : H a = some (.lst ys) := by rw [h, e]
/-! what the laws' own ways of reckoning come to -/
theorem tn0 (k : Nat) : ((0 : Int) + (k : Int)).toNat = k := by omega
theorem dvi {a b : Int} : decide (V.int a = V.int b) = decide (a = b) := by
  by_cases h : a = b
  · rw [h]; simp
  · rw [decide_eq_false h]
    exact decide_eq_false (fun e => h (V.int.inj e))
theorem lasts_max {ns : List Int} {k : Nat} {m : Int}
    (h1 : m ∈ (-1 : Int) :: ((List.range ((0 : Int) + (k : Int)).toNat).filter fun j : Nat => decide (V.int (ns.getD ((0 : Int) + (j : Int)).toNat 0) = V.int (ns.getD ((0 : Int) + (k : Int)).toNat 0))).map fun j : Nat => (0 : Int) + (j : Int))
    (h2 : ∀ x ∈ (-1 : Int) :: ((List.range ((0 : Int) + (k : Int)).toNat).filter fun j : Nat => decide (V.int (ns.getD ((0 : Int) + (j : Int)).toNat 0) = V.int (ns.getD ((0 : Int) + (k : Int)).toNat 0))).map fun j : Nat => (0 : Int) + (j : Int), x ≤ m) :
    lastAt ns k (ns.getD k 0) = m := by
  simp only [tn0, dvi] at h1 h2
  refine lastAt_uniq ?_ (fun j hj e => ?_)
  · rcases List.mem_cons.mp h1 with e | e
    · exact Or.inl e
    · obtain ⟨j, hj, rfl⟩ := List.mem_map.mp e
      obtain ⟨hj1, hj2⟩ := List.mem_filter.mp hj
      exact Or.inr ⟨j, by omega, List.mem_range.mp hj1, of_decide_eq_true hj2⟩
  · have h := h2 (0 + (j : Int)) (List.mem_cons_of_mem _ (List.mem_map.mpr ⟨j, List.mem_filter.mpr ⟨List.mem_range.mpr hj, decide_eq_true e⟩, rfl⟩))
    omega
theorem tn1 (n k : Nat) : ((n : Int) - ((0 : Int) + (k : Int) + 1)).toNat = n - (k + 1) := by omega
theorem tn2 (k j : Nat) : ((0 : Int) + (k : Int) + 1 + (j : Int)).toNat = k + 1 + j := by omega
theorem nexts_min {ns : List Int} {k : Nat} {m : Int} (hk : k < ns.length)
    (h1 : m ∈ ((List.range ((ns.length : Int) - ((0 : Int) + (k : Int) + 1)).toNat).filter fun j : Nat => decide (V.int (ns.getD ((0 : Int) + (k : Int) + 1 + (j : Int)).toNat 0) = V.int (ns.getD ((0 : Int) + (k : Int)).toNat 0))).map (fun j : Nat => (0 : Int) + (k : Int) + 1 + (j : Int)) ++ [(ns.length : Int)])
    (h2 : ∀ x ∈ ((List.range ((ns.length : Int) - ((0 : Int) + (k : Int) + 1)).toNat).filter fun j : Nat => decide (V.int (ns.getD ((0 : Int) + (k : Int) + 1 + (j : Int)).toNat 0) = V.int (ns.getD ((0 : Int) + (k : Int)).toNat 0))).map (fun j : Nat => (0 : Int) + (k : Int) + 1 + (j : Int)) ++ [(ns.length : Int)], m ≤ x) :
    nextUp ns k ns.length = m := by
  simp only [tn0, tn1, tn2, dvi] at h1 h2
  have hm : m ≤ ns.length := h2 _ (List.mem_append.mpr (Or.inr (List.mem_singleton.mpr rfl)))
  refine nextUp_uniq (Nat.le_refl _) ?_ (fun j h3 h4 e => ?_) hm
  · rcases List.mem_append.mp h1 with e | e
    · obtain ⟨j, hj, rfl⟩ := List.mem_map.mp e
      obtain ⟨hj1, hj2⟩ := List.mem_filter.mp hj
      have := List.mem_range.mp hj1
      exact Or.inr ⟨k + 1 + j, by omega, by omega, by omega, of_decide_eq_true hj2⟩
    · exact Or.inl (List.mem_singleton.mp e)
  · have h := h2 (0 + (k : Int) + 1 + ((j - (k + 1) : Nat) : Int)) (List.mem_append.mpr (Or.inl (List.mem_map.mpr ⟨j - (k + 1), List.mem_filter.mpr ⟨List.mem_range.mpr (by omega), decide_eq_true (by rw [show k + 1 + (j - (k + 1)) = j by omega]; exact e)⟩, rfl⟩)))
    omega
theorem same_dec {ns ms : List Int} (hl : (ns.length : Int) = (ms.length : Int)) :
    decide ((((List.range (ms.length : Int).toNat).filter fun j : Nat => !decide (V.int (ns.getD ((0 : Int) + (j : Int)).toNat 0) = V.int (ms.getD ((0 : Int) + (j : Int)).toNat 0))).map fun j : Nat => (0 : Int) + (j : Int)) = []) = decide (ns = ms) := by
  simp only [tn0, dvi, Int.toNat_natCast]
  refine decide_eq_decide.mpr ⟨fun h => ?_, fun h => ?_⟩
  · refine ext_getD (by omega) (fun i hi => ?_)
    have h2 := List.filter_eq_nil_iff.mp (List.map_eq_nil_iff.mp h) i (List.mem_range.mpr (by omega))
    simpa using h2
  · subst h
    simp
end Ur

namespace Ur
open PySem L2
/-! ### told lists that are held, each with what is due -/
/-- a pair of lists of the same ints, none of them the list that holds -/
structure PairOk (h : Addr) (H : Hp) (p : Addr) : Prop where
  off : p ≠ h
  both : ∃ (a b : Addr) (ns : List Int), a ≠ h ∧ b ≠ h ∧ H p = some (.lst [.ref a, .ref b]) ∧ H a = some (.lst (ns.map V.int)) ∧ H b = some (.lst (ns.map V.int))
/-- the list that holds at most n pairs -/
structure HeldOk (h : Addr) (H : Hp) (n : Nat) : Prop where
  all : ∃ ps : List Addr, H h = some (.lst (ps.map V.ref)) ∧ ps.length ≤ n ∧ ∀ p ∈ ps, PairOk h H p
theorem PairOk.step {h p : Addr} {H H' : Hp} (k : PairOk h H p) (b : But h H H') : PairOk h H' p := by
  obtain ⟨x, y, ns, hx, hy, e, e1, e2⟩ := k.both
  exact ⟨k.off, x, y, ns, hx, hy, b _ _ k.off e, b _ _ hx e1, b _ _ hy e2⟩
theorem Same.but {h : Addr} {H H' : Hp} (s : Same H H') : But h H H' := fun b o _ e => s b o e
theorem HeldOk.same {h : Addr} {H H' : Hp} {n : Nat} (k : HeldOk h H n) (s : Same H H') : HeldOk h H' n := by
  obtain ⟨ps, e, l, f⟩ := k.all
  exact ⟨ps, s _ _ e, l, fun p hp => (f p hp).step (Same.but s)⟩
theorem HeldOk.mono {h : Addr} {H : Hp} {n m : Nat} (k : HeldOk h H n) (l : n ≤ m) : HeldOk h H m := by
  obtain ⟨ps, e, q, f⟩ := k.all
  exact ⟨ps, e, Nat.le_trans q l, f⟩
/-- .. with more pairs behind -/
theorem HeldOk.grow {h : Addr} {H H' : Hp} {m : Nat} {ps qs : List Addr} (e : H h = some (.lst (ps.map V.ref))) (l : ps.length + qs.length ≤ m) (f : ∀ p ∈ ps, PairOk h H p) (b : But h H H') (e' : H' h = some (.lst ((ps ++ qs).map V.ref))) (g : ∀ p ∈ qs, PairOk h H' p) : HeldOk h H' m :=
  ⟨ps ++ qs, e', by rw [List.length_append]; exact l, fun p hp => by
    rcases List.mem_append.mp hp with k | k
    · exact (f p k).step b
    · exact g p k⟩
theorem HeldOk.new {h : Addr} {H : Hp} (e : H h = some (.lst [])) : HeldOk h H 0 := ⟨[], e, Nat.le_refl 0, fun p hp => nomatch hp⟩
end Ur

namespace Ur
open PySem L2
/-- over the cells, each with its place: what is new in H1 stays as the loop goes on -/
theorem for_cells {K : PySem.W.Frag} {H0 H1 : Hp} {cs : List Int} {p : Addr} {ts : List Addr} {i j : Nat} {tb : TS} {D : Ends} {σ : L2.St} (N : UrE.NewPairs H0 (UrE.enumC (cs.map V.int)) p ts H1)
    (Pv : Nat → L2.St → Hp → Prop) (h0 : Pv 0 σ H1) (hb : ∀ n σ H, Pv n σ H → ∀ b o, H0 b = none → H1 b = some o → H b = some o)
    (hs : ∀ n c σ H, cs[n]? = some c → Pv n σ H → tb { D with nx := Pv (n + 1), ct := Pv (n + 1), bk := D.nx } ((σ.set i (some (.int (n : Nat)))).set j (some (.int c))) H) (hd : ∀ σ H, Pv cs.length σ H → D.nx σ H) :
    ∃ W : Nat → Nat → L2.St → Hp → Prop, (∃ m, W 0 m σ H1) ∧ ∀ k m σ H, W k m σ H →
      ((Itl K p).stop k H ∧ D.nx σ H) ∨ ((Itl K p).go k H ∧ ∃ N : L2.St → Hp → Prop, (∀ σ' H', N σ' H' → ∃ m', m' < m ∧ W (k + 1) m' σ' H') ∧ ∀ x H', (Itl K p).yld k H x H' → gTup K 2 (gCons (gName i) (gCons (gName j) gNil)) x σ H' fun σ2 H2 => tb { D with nx := N, ct := N, bk := D.nx } σ2 H2) := by
  obtain ⟨n1, n2, n3, n4, n5, n6, n7, n8⟩ := N
  have hl : ts.length = cs.length := by rw [n6, UrE.enumC_len, List.length_map]
  refine for_list (xs := ts.map V.ref) Pv h0 (fun k σ H hk q => .of (hb k σ H q p _ n2 n7)) (fun k x σ H hx q => ?_) (fun σ H q => hd σ H (by rw [List.length_map, hl] at q; exact q))
  rw [List.getElem?_map] at hx
  cases ht : ts[k]? with
  | none => rw [ht] at hx; cases hx
  | some t =>
    rw [ht] at hx
    cases hx
    have hk : k < cs.length := by rw [← hl]; exact (List.getElem?_eq_some_iff.mp ht).1
    have hc : cs[k]? = some cs[k] := List.getElem?_eq_getElem hk
    have he : (UrE.enumC (cs.map V.int))[k]? = some [.int (k : Nat), .int cs[k]] := by rw [UrE.enumC_get, List.getElem?_map, hc]; rfl
    obtain ⟨t', e1, e2⟩ := n8 k _ he
    rw [ht] at e1
    cases e1
    have hn : H0 t = none := n3 t (List.mem_of_getElem? ht)
    exact ⟨t, _, rfl, .of (hb k σ H q t _ hn e2), rfl, _, _, rfl, _, _, rfl, rfl, hs k _ σ H hc q⟩
end Ur
namespace Ur
open PySem L2
theorem sql_fresh {K : PySem.W.Frag} {H0 H : Hp} {a h : Addr} {o : HO} {xs : List V} (nh : H0 h = none) (b : But h (upd H0 h o) H) (q : SqL K H0 a xs) : SqL K H a xs := by
  have st : ∀ (x : Addr) (u : HO), H0 x = some u → H x = some u := fun x u e => by
    have ne : x ≠ h := fun k => by rw [k, nh] at e; cases e
    exact b x u ne (by rw [upd_ne ne]; exact e)
  rcases q with (q | ⟨o, q⟩) | q
  · exact .inl (.inl (st _ _ q))
  · exact .inl (.inr ⟨o, st _ _ q⟩)
  · exact .inr q
end Ur

namespace Ur
open PySem L2
/-! ### unlike ints of a list -/
/-- the unlike ones, in the order in which they come -/
def uni (ns : List Int) : List Int := ns.foldl PyProof.Rows.step_dedup []
/-- how many -/
def ulen (ns : List Int) : Nat := (uni ns).length
theorem uni_snoc_any (ns : List Int) (x : Int) : uni (ns ++ [x]) = if (uni ns).any (· == x) = true then uni ns else uni ns ++ [x] := by
  unfold uni
  rw [List.foldl_append]
  rfl
theorem rev_ind {P : List Int → Prop} (h0 : P []) (hs : ∀ ns x, P ns → P (ns ++ [x])) (ns : List Int) : P ns := by
  have k : ∀ l : List Int, P l.reverse := by
    intro l
    induction l with
    | nil => exact h0
    | cons x l ih => rw [List.reverse_cons]; exact hs _ _ ih
  have := k ns.reverse
  rwa [List.reverse_reverse] at this
theorem mem_uni (ns : List Int) : ∀ x, x ∈ uni ns ↔ x ∈ ns := by
  refine rev_ind (P := fun ns => ∀ x, x ∈ uni ns ↔ x ∈ ns) (fun x => by simp [uni]) (fun ns y ih x => ?_) ns
  rw [uni_snoc_any]
  by_cases h : (uni ns).any (· == y) = true
  · rw [if_pos h, ih, List.mem_append]
    obtain ⟨z, hz, e⟩ := List.any_eq_true.mp h
    have e2 : z = y := eq_of_beq e
    rw [e2] at hz
    constructor
    · exact fun k => Or.inl k
    · rintro (k | k)
      · exact k
      · rw [List.mem_singleton.mp k]; exact (ih y).mp hz
  · rw [if_neg h, List.mem_append, List.mem_append, ih]
theorem uni_snoc (ns : List Int) (x : Int) : uni (ns ++ [x]) = if x ∈ ns then uni ns else uni ns ++ [x] := by
  rw [uni_snoc_any]
  by_cases h : x ∈ ns
  · have k : (uni ns).any (· == x) = true := List.any_eq_true.mpr ⟨x, (mem_uni ns x).mpr h, beq_self_eq_true x⟩
    rw [if_pos h, if_pos k]
  · rw [if_neg h, if_neg]
    intro k
    obtain ⟨z, hz, e⟩ := List.any_eq_true.mp k
    have e2 : z = x := eq_of_beq e
    exact h (e2 ▸ (mem_uni ns z).mp hz)
theorem ulen_snoc (ns : List Int) (x : Int) : ulen (ns ++ [x]) = if x ∈ ns then ulen ns else ulen ns + 1 := by
  unfold ulen
  rw [uni_snoc]
  by_cases h : x ∈ ns
  · rw [if_pos h, if_pos h]
  · rw [if_neg h, if_neg h, List.length_append]; rfl
theorem ulen_le (ns : List Int) : ulen ns ≤ ns.length := by
  refine rev_ind (P := fun ns => ulen ns ≤ ns.length) (Nat.le_refl 0) (fun ns x ih => ?_) ns
  rw [ulen_snoc, List.length_append]
  have : [x].length = 1 := rfl
  split <;> omega
theorem uni_nodup (ns : List Int) : (uni ns).Nodup := by
  refine rev_ind (P := fun ns => (uni ns).Nodup) List.nodup_nil (fun ns x ih => ?_) ns
  rw [uni_snoc]
  by_cases h : x ∈ ns
  · rw [if_pos h]; exact ih
  · rw [if_neg h, List.nodup_append]
    refine ⟨ih, List.nodup_cons.mpr ⟨by simp, List.nodup_nil⟩, fun a ha b hb e => ?_⟩
    rw [List.mem_singleton.mp hb] at e
    exact h (e ▸ (mem_uni ns a).mp ha)
theorem map_getD (ns : List Int) : (List.range ns.length).map (fun i => ns.getD i 0) = ns := by
  refine List.ext_getElem (by simp) fun i h1 h2 => ?_
  rw [List.getElem_map, List.getElem_range, List.getD_eq_getElem?_getD, List.getElem?_eq_getElem h2]
  rfl
theorem firstMet_uni (ns : List Int) : PyProof.Rows.firstMet (fun i => ns.getD i 0) ns.length = uni ns := by
  unfold PyProof.Rows.firstMet uni
  rw [map_getD]
/-! ### len(set(xs)) -/
def tLenSetU (K : PySem.W.Frag) (ta : TE) : TE := fun σ H Q => ta σ H fun x H1 => ∃ (l : Addr) (ns : List Int), x = .ref l ∧ SqL K H1 l (ns.map V.int) ∧ ns.length ≤ 4000 ∧ Q (.int (ulen ns : Nat)) H1
open PySem.Spec PyProof.Rows in
theorem pe_lenSetU {X : Cx} {K : PySem.W.Frag} {a : Expr} {ta : TE} {p p2 q pos : Pos} (hk : X.K = K) (hg : Gl X "len") (hm : X.mg "len" = none) (hg2 : Gl X "set") (hm2 : X.mg "set" = none) (ha : PE X a ta) (hc : X.calm = true := by rfl)
    (na : starEach [a] X.env = (false, eval a X.env) :: starEach [] X.env := by rfl) : PE X (.Call (.Name "len" p) [.Call (.Name "set" p2) [a] [] q] [] pos) (tLenSetU K ta) := by
  subst hk
  refine ⟨fun pins s σ H Q I h => ?_⟩
  refine Call_ (ld_blt I hg hm boot_len ?_)
  refine PyProof.Rows.callWith_builtin1 (PyProof.Rows.args_cons ?_ rfl) rfl rfl
  refine Call_ (ld_blt I hg2 hm2 boot_set ?_)
  refine PyProof.Rows.callWith_type1 (PyProof.Rows.args_cons (thn (ha.run pins s σ H _ I h) fun v s1 ⟨x, H1, I1, r1, q1⟩ => PyProof.Rows.args_nil ?_) na) na rfl
  obtain ⟨l, ns, rfl, hq, hl, q1⟩ := q1
  cases r1
  obtain ⟨its, r, pl, hz⟩ := I1.list hq
  have hlen : its.toArray.size = ns.length := by rw [List.size_toArray, ← r.length, List.length_map]
  refine call_set_list (I1.ok.hd hc) pl.isList (by simpa using RZ.intsAre_vals r) (by rw [hlen]; unfold scanBound; omega) fun h' tk hS hk => ?_
  refine PyProof.Rows.args_nil ?_
  rw [hlen, firstMet_uni] at hS
  obtain ⟨o, es, ep, t, ho, hex, hd, _, _, _, hf, hn⟩ := hS
  have I2 : Inv X pins σ H1 { s1 with heap := h', toks := tk } := I1.kept fun b o e => hk b o (Heap.lt_size e) e
  exact call_len_set ho hex hd hf (by rw [hn]; have := ulen_le ns; unfold ulen at this; omega) ⟨.int (ulen ns : Nat), H1, I2.tok _, ⟨_, by rw [hn]; rfl⟩, q1⟩
end Ur

namespace Ur
open PySem L2
/-! ### plain rows -/
/-- how many unlike ones stand ahead of the place at which x stands first -/
def plainAt (ns : List Int) (x : Int) : Nat := ulen (ns.take (ns.idxOf x))
def plainP (ns : List Int) : List Int := ns.map fun x => (plainAt ns x : Int)
theorem plainP_len (ns : List Int) : (plainP ns).length = ns.length := by simp [plainP]
theorem take_snoc {ns : List Int} {i : Nat} {x : Int} (h : ns[i]? = some x) : ns.take (i + 1) = ns.take i ++ [x] := by
  rw [List.take_add_one, h]; rfl
theorem idx_first {ns : List Int} {i : Nat} {x : Int} (h : ns[i]? = some x) (n : x ∉ ns.take i) : ns.idxOf x = i := by
  obtain ⟨hi, e⟩ := List.getElem?_eq_some_iff.mp h
  have e2 : ns = ns.take i ++ ns.drop i := (List.take_append_drop i ns).symm
  have e3 : ns.drop i = x :: ns.drop (i + 1) := by rw [List.drop_eq_getElem_cons hi, e]
  have hl : (ns.take i).length = i := by rw [List.length_take]; omega
  have e4 : (ns.take i ++ ns.drop i).idxOf x = i := by
    rw [List.idxOf_append, if_neg n, e3, List.idxOf_cons_self, hl]; omega
  rwa [← e2] at e4
theorem idx_lt {ns : List Int} {x : Int} (h : x ∈ ns) : ns.idxOf x < ns.length := List.idxOf_lt_length_of_mem h
theorem idx_get {ns : List Int} {x : Int} (h : x ∈ ns) : ns[ns.idxOf x]? = some x := by
  rw [List.getElem?_eq_getElem (idx_lt h), List.getElem_idxOf]
theorem idx_not {ns : List Int} {x : Int} : x ∉ ns.take (ns.idxOf x) := fun k => by
  obtain ⟨j, hj, e⟩ := List.getElem_of_mem k
  rw [List.getElem_take] at e
  have h1 : j < ns.idxOf x := by rw [List.length_take] at hj; omega
  have h2 := List.not_of_lt_findIdx (p := (· == x)) (xs := ns) h1
  simp [e] at h2
theorem putK_len {kvs : List (Key × V)} {k : Key} {v : V} (h : valV kvs k = none) : (putK kvs k v).length = kvs.length + 1 := by
  have e : (kvs.any fun kv => decide (kv.1 = k)) = false := by
    cases q : (kvs.any fun kv => decide (kv.1 = k)) with
    | false => rfl
    | true =>
      obtain ⟨p, hp, e⟩ := List.any_eq_true.mp q
      unfold valV at h
      rw [Option.map_eq_none_iff, List.find?_eq_none] at h
      exact absurd e (h p hp)
  unfold putK
  rw [e, if_neg Bool.false_ne_true, List.length_append]
  rfl
theorem ulen_mono {ns : List Int} : ∀ {j i : Nat}, i ≤ j → ulen (ns.take i) ≤ ulen (ns.take j)
  | 0, i, h => by rw [Nat.le_zero.mp h]; exact Nat.le_refl _
  | j + 1, i, h => by
    rcases Nat.lt_or_eq_of_le h with h | rfl
    · refine Nat.le_trans (ulen_mono (Nat.le_of_lt_succ h)) ?_
      cases e : ns[j]? with
      | none => rw [List.take_add_one, e]; simp
      | some x => rw [take_snoc e, ulen_snoc]; split <;> omega
    · exact Nat.le_refl _
theorem plainAt_lt {ns : List Int} {x y : Int} (hx : x ∈ ns) (h : ns.idxOf x < ns.idxOf y) : plainAt ns x < plainAt ns y := by
  unfold plainAt
  have h1 : ulen (ns.take (ns.idxOf x + 1)) = ulen (ns.take (ns.idxOf x)) + 1 := by
    rw [take_snoc (idx_get hx), ulen_snoc, if_neg idx_not]
  have h2 := ulen_mono (ns := ns) (show ns.idxOf x + 1 ≤ ns.idxOf y from h)
  omega
theorem plainAt_inj {ns : List Int} {x y : Int} (hx : x ∈ ns) (hy : y ∈ ns) (h : plainAt ns x = plainAt ns y) : x = y := by
  rcases Nat.lt_trichotomy (ns.idxOf x) (ns.idxOf y) with k | k | k
  · exact absurd (plainAt_lt hx k) (by omega)
  · have e := idx_get hx
    rw [k, idx_get hy] at e
    exact (Option.some.inj e).symm
  · exact absurd (plainAt_lt hy k) (by omega)
/-- f calls the numbers of ns otherwise, one for one -/
def InjOn (f : Int → Int) (ns : List Int) : Prop := ∀ x ∈ ns, ∀ y ∈ ns, f x = f y → x = y
theorem mem_map_inj {f : Int → Int} {ns ms : List Int} {x : Int} (h : InjOn f ns) (hx : x ∈ ns) (hs : ∀ y ∈ ms, y ∈ ns) : f x ∈ ms.map f ↔ x ∈ ms := by
  constructor
  · intro k
    obtain ⟨y, hy, e⟩ := List.mem_map.mp k
    exact h y (hs y hy) x hx e ▸ hy
  · exact fun k => List.mem_map.mpr ⟨x, k, rfl⟩
theorem ulen_map {f : Int → Int} {ns : List Int} (h : InjOn f ns) : ulen (ns.map f) = ulen ns := by
  have k : ∀ ms : List Int, (∀ y ∈ ms, y ∈ ns) → ulen (ms.map f) = ulen ms := fun ms => by
    refine rev_ind (P := fun ms => (∀ y ∈ ms, y ∈ ns) → ulen (ms.map f) = ulen ms) (fun _ => rfl) (fun ms x ih hs => ?_) ms
    have hs' : ∀ y ∈ ms, y ∈ ns := fun y hy => hs y (List.mem_append.mpr (Or.inl hy))
    have hx : x ∈ ns := hs x (List.mem_append.mpr (Or.inr (List.mem_singleton.mpr rfl)))
    have e := mem_map_inj h hx hs'
    rw [List.map_append, List.map_cons, List.map_nil, ulen_snoc, ulen_snoc, ih hs']
    by_cases q : x ∈ ms
    · rw [if_pos q, if_pos (e.mpr q)]
    · rw [if_neg q, if_neg (fun z => q (e.mp z))]
  exact k ns fun _ z => z
theorem InjOn.take {f : Int → Int} {ns : List Int} (h : InjOn f ns) (i : Nat) : InjOn f (ns.take i) := fun x hx y hy e => h x (List.mem_of_mem_take hx) y (List.mem_of_mem_take hy) e
theorem idx_map {f : Int → Int} {ns : List Int} {x : Int} (h : InjOn f ns) (hx : x ∈ ns) : (ns.map f).idxOf (f x) = ns.idxOf x := by
  refine idx_first ?_ ?_
  · rw [List.getElem?_map, idx_get hx]; rfl
  · rw [← List.map_take]
    exact fun k => idx_not ((mem_map_inj h hx (fun y hy => List.mem_of_mem_take hy)).mp k)
theorem plainP_map {f : Int → Int} {ns : List Int} (h : InjOn f ns) : plainP (ns.map f) = plainP ns := by
  unfold plainP
  rw [List.map_map]
  refine List.map_congr_left fun x hx => ?_
  show ((plainAt (ns.map f) (f x) : Nat) : Int) = (plainAt ns x : Nat)
  unfold plainAt
  rw [idx_map h hx, ← List.map_take, ulen_map (h.take _)]
theorem plainP_own (ns : List Int) : plainP (plainP ns) = plainP ns :=
  plainP_map (f := fun x => (plainAt ns x : Int)) fun x hx y hy e => plainAt_inj hx hy (by have e2 : ((plainAt ns x : Nat) : Int) = (plainAt ns y : Nat) := e; omega)
/-! ### their rules -/
theorem setd_int {H : Hp} {a : Addr} {kvs : List (Key × V)} {n : Int} {z : V} {Q : VK} (h : H a = some (.dK kvs))
    (q : kvs.length < sizeLine ∧ (∀ v, valV kvs (Sum.inl n) = some v → Q v H) ∧ (valV kvs (Sum.inl n) = none → Q z (upd H a (.dK (putK kvs (Sum.inl n) z))))) :
    ∃ (kvs : List (Key × V)) (k : Key), H a = some (.dK kvs) ∧ V.int n = kV k ∧ kvs.length < sizeLine ∧ (∀ v, valV kvs k = some v → Q v H) ∧ (valV kvs k = none → Q z (upd H a (.dK (putK kvs k z)))) :=
  ⟨kvs, Sum.inl n, h, rfl, q.1, q.2.1, q.2.2⟩
theorem index_int {K : PySem.W.Frag} {H : Hp} {a : Addr} {ns : List Int} {x : Int} {Q : VK} (h : SqL K H a (ns.map V.int)) (q : x ∈ ns ∧ Q (.int (ns.idxOf x : Nat)) H) : rIndex K (.ref a) [.int x] H Q := by
  refine ⟨a, ns.map V.int, .int x, ns.idxOf x, .int x, rfl, rfl, h, rfl, ?_, ?_, ?_, ?_, q.2⟩
  · rw [List.all_map]
    exact List.all_eq_true.mpr fun _ _ => rfl
  · rw [List.getElem?_map, idx_get q.1]; rfl
  · show (x == x) = true
    exact beq_self_eq_true x
  · intro m z' hm hz
    obtain ⟨n, hn, rfl⟩ := iv_get hz
    have ne : ¬ n = x := fun e => by
      rw [e] at hn
      refine idx_not (ns := ns) (x := x) (List.mem_of_getElem? (i := m) ?_)
      rw [List.getElem?_take, if_pos hm, hn]
    show (n == x) = false
    exact beq_eq_false_iff_ne.mpr ne
end Ur

namespace Ur
open PySem L2
theorem ps_never {X : Cx} {st : Stmt} : PS X st (fun _ _ _ => False) := ⟨fun _ _ _ _ _ _ h => h.elim⟩
theorem putF_le (k : Str) (v : V) : ∀ fs : List (Str × V), (putF k v fs).length ≤ fs.length + 1
  | [] => Nat.le_refl 1
  | (k', v') :: r => by
    unfold putF
    split
    · exact Nat.le_succ _
    · exact Nat.succ_le_succ (putF_le k v r)
theorem pf1 {k : Str} {v : V} : (putF k v []).length < 1000 := Nat.lt_of_le_of_lt (putF_le _ _ _) (by decide)
theorem pf2 {k k2 : Str} {v v2 : V} : (putF k v (putF k2 v2 [])).length < 1000 := Nat.lt_of_le_of_lt (putF_le _ _ _) (Nat.lt_of_le_of_lt (Nat.succ_le_succ (putF_le _ _ _)) (by decide))
theorem pf3 {k k2 k3 : Str} {v v2 v3 : V} : (putF k v (putF k2 v2 (putF k3 v3 []))).length < 1000 := Nat.lt_of_le_of_lt (putF_le _ _ _) (Nat.lt_of_le_of_lt (Nat.succ_le_succ (putF_le _ _ _)) (Nat.lt_of_le_of_lt (Nat.succ_le_succ (Nat.succ_le_succ (putF_le _ _ _))) (by decide)))
/-! ### a row made ready -/
def rdyF (n : Int) (la na : Addr) : List (Str × V) := putF "nexts" (.ref na) (putF "lasts" (.ref la) (putF "many" (.int n) []))
theorem rdy_many {n : Int} {la na : Addr} : (rdyF n la na).lookup ("many" : Str) = some (.int n) := by
  unfold rdyF
  rw [lookup_putF, if_neg (by decide), lookup_putF, if_neg (by decide), lookup_putF, if_pos rfl]
theorem rdy_lasts {n : Int} {la na : Addr} : (rdyF n la na).lookup ("lasts" : Str) = some (.ref la) := by
  unfold rdyF
  rw [lookup_putF, if_neg (by decide), lookup_putF, if_pos rfl]
theorem rdy_nexts {n : Int} {la na : Addr} : (rdyF n la na).lookup ("nexts" : Str) = some (.ref na) := by
  unfold rdyF
  rw [lookup_putF, if_pos rfl]
theorem rdy_no {n : Int} {la na : Addr} {m : Str} (h1 : ¬ m = "many") (h2 : ¬ m = "lasts") (h3 : ¬ m = "nexts") : (rdyF n la na).lookup m = none := by
  unfold rdyF
  rw [lookup_putF, if_neg h3, lookup_putF, if_neg h2, lookup_putF, if_neg h1]
  rfl
/-- at o a row made ready; its parts are none of L -/
structure Rdy (C : Addr) (L : Addr → Prop) (H : Hp) (o : Addr) (ns : List Int) : Prop where
  all : ∃ dx la na : Addr, H o = some (.ins C dx (rdyF ns.length la na)) ∧ H la = some (.lst ((lastP ns).map V.int)) ∧ H na = some (.lst ((nextP ns).map V.int)) ∧ ∀ b, L b → o ≠ b ∧ la ≠ b ∧ na ≠ b
theorem Rdy.same {C : Addr} {L : Addr → Prop} {H H' : Hp} {o : Addr} {ns : List Int} (r : Rdy C L H o ns) (s : Same H H') : Rdy C L H' o ns := by
  obtain ⟨dx, la, na, e1, e2, e3, f⟩ := r.all
  exact ⟨dx, la, na, s _ _ e1, s _ _ e2, s _ _ e3, f⟩
theorem Rdy.but {C : Addr} {L : Addr → Prop} {H H' : Hp} {o b : Addr} {ns : List Int} (r : Rdy C L H o ns) (l : L b) (s : But b H H') : Rdy C L H' o ns := by
  obtain ⟨dx, la, na, e1, e2, e3, f⟩ := r.all
  obtain ⟨f1, f2, f3⟩ := f b l
  exact ⟨dx, la, na, s _ _ f1 e1, s _ _ f2 e2, s _ _ f3 e3, f⟩
theorem Rdy.sub {C : Addr} {L L' : Addr → Prop} {H : Hp} {o : Addr} {ns : List Int} (r : Rdy C L H o ns) (l : ∀ b, L' b → L b) : Rdy C L' H o ns := by
  obtain ⟨dx, la, na, e1, e2, e3, f⟩ := r.all
  exact ⟨dx, la, na, e1, e2, e3, fun b k => f b (l b k)⟩
/-! ### windows -/
/-- the numbers of a window -/
def win (ns : List Int) (f b : Int) : List Int := (ns.drop f.toNat).take (b.toNat - f.toNat)
/-- how many unlike ones -/
def wun (ns : List Int) (f b : Int) : Nat := ulen (win ns f b)
theorem win_len {ns : List Int} {f b : Int} (h0 : 0 ≤ f) (h1 : f ≤ b) (h2 : b ≤ ns.length) : (win ns f b).length = (b - f).toNat := by
  unfold win
  rw [List.length_take, List.length_drop]
  omega
theorem mem_win {ns : List Int} {f k : Nat} {x : Int} : x ∈ (ns.drop f).take k ↔ ∃ j, f ≤ j ∧ j < f + k ∧ ns[j]? = some x := by
  constructor
  · intro h
    obtain ⟨j, hj⟩ := List.mem_iff_getElem?.mp h
    rw [List.getElem?_take] at hj
    by_cases hk : j < k
    · rw [if_pos hk, List.getElem?_drop] at hj
      exact ⟨f + j, by omega, by omega, hj⟩
    · rw [if_neg hk] at hj; cases hj
  · rintro ⟨j, h1, h2, e⟩
    refine List.mem_iff_getElem?.mpr ⟨j - f, ?_⟩
    rw [List.getElem?_take, if_pos (by omega), List.getElem?_drop, show f + (j - f) = j from by omega]
    exact e
theorem last_in {ns : List Int} {f k : Nat} (h : f + k < ns.length) : (ns.getD (f + k) 0 ∈ (ns.drop f).take k) ↔ ¬ lastAt ns (f + k) (ns.getD (f + k) 0) < (f : Int) := by
  rw [mem_win]
  rcases lastAt_spec ns (ns.getD (f + k) 0) (f + k) with ⟨e, n⟩ | ⟨v, e, h1, h2, n⟩
  · constructor
    · rintro ⟨j, h1, h2, e2⟩
      exact absurd (getD_of e2) (n j h2)
    · intro hn
      omega
  · constructor
    · rintro ⟨j, h3, h4, e2⟩ hlt
      rw [e] at hlt
      exact absurd (getD_of e2) (n j (by omega) h4)
    · intro hn
      refine ⟨v, by omega, h1, ?_⟩
      rw [get_of (by omega), h2]
/-- .. by the last places -/
theorem ulen_win {ns : List Int} {f : Nat} : ∀ k : Nat, f + k ≤ ns.length → ulen ((ns.drop f).take k) = ((((lastP ns).drop f).take k).filter (fun x => decide (x < (f : Int)))).length
  | 0, _ => by rw [List.take_zero, List.take_zero]; rfl
  | k + 1, h => by
    have hk : f + k < ns.length := h
    have e1 : (ns.drop f)[k]? = some (ns.getD (f + k) 0) := by rw [List.getElem?_drop]; exact get_of hk
    have e2 : ((lastP ns).drop f)[k]? = some (lastAt ns (f + k) (ns.getD (f + k) 0)) := by rw [List.getElem?_drop]; exact lastP_get hk
    rw [take_snoc e1, take_snoc e2, ulen_snoc, List.filter_append, List.length_append, ulen_win k (by omega)]
    have q := last_in hk
    by_cases hl : lastAt ns (f + k) (ns.getD (f + k) 0) < (f : Int)
    · rw [if_neg (fun z => q.mp z hl), List.filter_cons_of_pos (by exact decide_eq_true hl)]
      rfl
    · rw [if_pos (q.mpr hl), List.filter_cons_of_neg (by rw [decide_eq_false hl]; exact Bool.false_ne_true)]
      rfl
theorem wun_lasts {ns : List Int} {f b : Int} (h0 : 0 ≤ f) (h1 : f ≤ b) (h2 : b ≤ ns.length) : ((((lastP ns).drop f.toNat).take (b.toNat - f.toNat)).filter (fun x => decide (x < f))).length = wun ns f b := by
  have e := ulen_win (ns := ns) (f := f.toNat) (b.toNat - f.toNat) (by omega)
  rw [Int.toNat_of_nonneg h0] at e
  exact e.symm
end Ur

namespace Ur
open PySem L2
/-! ### sums -/
def sumTo (F : Nat → Int) : Nat → Int
  | 0 => 0
  | k + 1 => sumTo F k + F k
theorem sum_snoc (xs : List Int) (x : Int) : (xs ++ [x]).sum = xs.sum + x := by
  rw [List.sum_append]; simp
theorem sum_range (F : Nat → Int) : ∀ n : Nat, ((List.range n).map F).sum = sumTo F n
  | 0 => rfl
  | n + 1 => by rw [List.range_succ, List.map_append, List.map_cons, List.map_nil, sum_snoc, sum_range F n]; rfl
theorem sum_filter (t : Nat → Bool) (F : Nat → Int) : ∀ n : Nat, (((List.range n).filter t).map F).sum = sumTo (fun k => if t k = true then F k else 0) n
  | 0 => rfl
  | n + 1 => by
    rw [List.range_succ, List.filter_append, List.map_append, List.sum_append, sum_filter t F n]
    show _ = _ + (if t n = true then F n else 0)
    cases h : t n with
    | true => rw [List.filter_cons_of_pos h]; simp
    | false => rw [List.filter_cons_of_neg (by rw [h]; exact Bool.false_ne_true)]; simp
theorem sumTo_congr {F G : Nat → Int} : ∀ {n : Nat}, (∀ k, k < n → F k = G k) → sumTo F n = sumTo G n
  | 0, _ => rfl
  | n + 1, h => by
    show sumTo F n + F n = sumTo G n + G n
    rw [sumTo_congr (fun k hk => h k (Nat.lt_succ_of_lt hk)), h n (Nat.lt_succ_self n)]
theorem sumTo_add (F G : Nat → Int) : ∀ n : Nat, sumTo (fun k => F k + G k) n = sumTo F n + sumTo G n
  | 0 => rfl
  | n + 1 => by
    show sumTo (fun k => F k + G k) n + (F n + G n) = sumTo F n + F n + (sumTo G n + G n)
    rw [sumTo_add F G n]; omega
theorem sumTo_mul (F : Nat → Int) (c : Int) : ∀ n : Nat, sumTo (fun k => F k * c) n = sumTo F n * c
  | 0 => (Int.zero_mul c).symm
  | n + 1 => by
    show sumTo (fun k => F k * c) n + F n * c = (sumTo F n + F n) * c
    rw [sumTo_mul F c n, Int.add_mul]
theorem sumTo_zero : ∀ n : Nat, sumTo (fun _ => 0) n = 0
  | 0 => rfl
  | n + 1 => by show sumTo (fun _ => 0) n + 0 = 0; rw [sumTo_zero n]; rfl
theorem sumTo_swap (F : Nat → Nat → Int) (m : Nat) : ∀ n : Nat, sumTo (fun i => sumTo (fun j => F i j) m) n = sumTo (fun j => sumTo (fun i => F i j) n) m
  | 0 => (sumTo_zero m).symm
  | n + 1 => by
    show sumTo (fun i => sumTo (fun j => F i j) m) n + sumTo (fun j => F n j) m = sumTo (fun j => sumTo (fun i => F i j) n + F n j) m
    rw [sumTo_swap F m n, sumTo_add]
theorem sumTo_shift (F : Nat → Int) (f : Nat) : ∀ m : Nat, sumTo F (f + m) = sumTo F f + sumTo (fun k => F (f + k)) m
  | 0 => by show sumTo F f = sumTo F f + 0; omega
  | m + 1 => by
    show sumTo F (f + m) + F (f + m) = sumTo F f + (sumTo (fun k => F (f + k)) m + F (f + m))
    rw [sumTo_shift F f m]; omega
/-- how many k below n lie in [lo, hi) -/
theorem sumTo_count (lo hi : Int) (h0 : 0 ≤ lo) (h1 : lo ≤ hi) : ∀ n : Nat, hi ≤ n → sumTo (fun k => if lo ≤ (k : Int) ∧ (k : Int) < hi then 1 else 0) n = hi - lo := by
  have key : ∀ n : Nat, sumTo (fun k => if lo ≤ (k : Int) ∧ (k : Int) < hi then 1 else 0) n = if (n : Int) ≤ lo then 0 else if (n : Int) ≤ hi then n - lo else hi - lo := by
    intro n
    induction n with
    | zero => rw [if_pos (by omega)]; rfl
    | succ n ih =>
      show sumTo _ n + (if lo ≤ (n : Int) ∧ (n : Int) < hi then 1 else 0) = _
      rw [ih]
      (repeat' split) <;> omega
  intro n hn
  rw [key]
  (repeat' split) <;> omega
/-! ### windows, counted -/
theorem ulen_congr {a b : List Int} (h : ∀ x, x ∈ a ↔ x ∈ b) : ulen a = ulen b := by
  have p : (uni a).Perm (uni b) := (List.perm_ext_iff_of_nodup (uni_nodup a) (uni_nodup b)).mpr fun x => by rw [mem_uni, mem_uni]; exact h x
  exact p.length_eq
theorem ulen_cons (x : Int) (ns : List Int) : ulen (x :: ns) = if x ∈ ns then ulen ns else ulen ns + 1 := by
  rw [← ulen_snoc]
  exact ulen_congr fun y => by simp [or_comm]
/-- how many unlike ones stand from f on, ahead of b -/
def wunN (ns : List Int) (f b : Nat) : Nat := ulen ((ns.drop f).take (b - f))
theorem wun_N (ns : List Int) (f b : Int) : wun ns f b = wunN ns f.toNat b.toNat := rfl
theorem wunN_none (ns : List Int) (f : Nat) : wunN ns f f = 0 := by unfold wunN; rw [Nat.sub_self, List.take_zero]; rfl
theorem wunN_up {ns : List Int} {f b : Nat} (h : f ≤ b) (hb : b < ns.length) : wunN ns f (b + 1) = wunN ns f b + if lastAt ns b (ns.getD b 0) < (f : Int) then 1 else 0 := by
  unfold wunN
  have e : (ns.drop f)[b - f]? = some (ns.getD b 0) := by rw [List.getElem?_drop, show f + (b - f) = b from by omega]; exact get_of hb
  rw [show b + 1 - f = (b - f) + 1 from by omega, take_snoc e, ulen_snoc]
  have q := last_in (ns := ns) (f := f) (k := b - f) (by omega)
  rw [show f + (b - f) = b from by omega] at q
  by_cases hl : lastAt ns b (ns.getD b 0) < (f : Int)
  · rw [if_pos hl, if_neg (fun z => q.mp z hl)]
  · rw [if_neg hl, if_pos (q.mpr hl)]; rfl
theorem next_in {ns : List Int} {p b : Nat} (hp : p < b) (hb : b ≤ ns.length) : (ns.getD p 0 ∈ (ns.drop (p + 1)).take (b - (p + 1))) ↔ ¬ (b : Int) ≤ nextUp ns p ns.length := by
  rw [mem_win]
  rcases nextUp_spec ns p ns.length (Nat.le_refl _) with ⟨e, n⟩ | ⟨v, e, h1, h2, h3, n⟩
  · constructor
    · rintro ⟨j, h1, h2, e2⟩
      exact absurd (getD_of e2) (n j (by omega) (List.getElem?_eq_some_iff.mp e2).1)
    · intro hn; omega
  · constructor
    · rintro ⟨j, h4, h5, e2⟩ hlt
      rw [e] at hlt
      exact absurd (getD_of e2) (n j (by omega) (by omega))
    · intro hn
      refine ⟨v, by omega, by omega, ?_⟩
      rw [get_of h2, h3]
theorem wunN_down {ns : List Int} {p b : Nat} (hp : p < b) (hb : b ≤ ns.length) : wunN ns p b = wunN ns (p + 1) b + if (b : Int) ≤ nextUp ns p ns.length then 1 else 0 := by
  unfold wunN
  have hl : p < ns.length := by omega
  have e : (ns.drop p).take (b - p) = ns.getD p 0 :: (ns.drop (p + 1)).take (b - (p + 1)) := by
    have e1 : ns.drop p = ns.getD p 0 :: ns.drop (p + 1) := by
      rw [List.drop_eq_getElem_cons hl, List.getD_eq_getElem?_getD, List.getElem?_eq_getElem hl]
      rfl
    rw [e1, show b - p = (b - (p + 1)) + 1 from by omega]
    rfl
  rw [e, ulen_cons]
  have q := next_in hp hb
  by_cases hc : (b : Int) ≤ nextUp ns p ns.length
  · rw [if_pos hc, if_neg (fun z => q.mp z hc)]
  · rw [if_neg hc, if_pos (q.mpr hc)]; rfl
/-- .. by the last places -/
theorem wunN_lasts {ns : List Int} {f : Nat} : ∀ b : Nat, f ≤ b → b ≤ ns.length → (wunN ns f b : Int) = sumTo (fun p => if f ≤ p ∧ lastAt ns p (ns.getD p 0) < (f : Int) then 1 else 0) b := by
  intro b hb
  obtain ⟨k, rfl⟩ : ∃ k, b = f + k := ⟨b - f, by omega⟩
  clear hb
  induction k with
  | zero =>
    intro _
    rw [Nat.add_zero, wunN_none, sumTo_congr (G := fun _ => 0) (fun k hk => if_neg (fun z => by omega)), sumTo_zero]
    rfl
  | succ k ih =>
    intro h
    rw [show f + (k + 1) = (f + k) + 1 from rfl, wunN_up (by omega) (by omega)]
    show _ = sumTo _ (f + k) + (if f ≤ f + k ∧ lastAt ns (f + k) (ns.getD (f + k) 0) < (f : Int) then 1 else 0)
    rw [← ih (by omega)]
    by_cases hl : lastAt ns (f + k) (ns.getD (f + k) 0) < (f : Int)
    · rw [if_pos hl, if_pos ⟨by omega, hl⟩]; rfl
    · rw [if_neg hl, if_neg (fun z => hl z.2)]; rfl
/-- .. by the next places -/
theorem wunN_nexts {ns : List Int} {b : Nat} (hb : b ≤ ns.length) : ∀ k f : Nat, f + k = b → (wunN ns f b : Int) = sumTo (fun j => if (b : Int) ≤ nextUp ns (f + j) ns.length then 1 else 0) k
  | 0, f, h => by rw [show f = b from h, wunN_none]; rfl
  | k + 1, f, h => by
    rw [wunN_down (by omega) hb, Int.natCast_add, wunN_nexts hb k (f + 1) (by omega)]
    have e := sumTo_shift (fun j => if (b : Int) ≤ nextUp ns (f + j) ns.length then (1 : Int) else 0) 1 k
    rw [show k + 1 = 1 + k from by omega, e]
    have e2 : sumTo (fun j => if (b : Int) ≤ nextUp ns (f + j) ns.length then (1 : Int) else 0) 1 = if (b : Int) ≤ nextUp ns f ns.length then 1 else 0 := by
      show (0 : Int) + _ = _
      rw [Int.zero_add]; rfl
    rw [e2]
    have e3 : sumTo (fun k => if (b : Int) ≤ nextUp ns (f + (1 + k)) ns.length then (1 : Int) else 0) k = sumTo (fun j => if (b : Int) ≤ nextUp ns (f + 1 + j) ns.length then (1 : Int) else 0) k := sumTo_congr fun j _ => by rw [Nat.add_assoc]
    rw [e3]
    split <;> omega
end Ur

namespace Ur
open PySem L2
theorem qint {Q : VK} {H : Hp} {i j : Int} (h : Q (.int j) H) (e : i = j) : Q (.int i) H := e ▸ h
theorem qbv {Q : VK} {H : Hp} {i j : Bool} (h : Q (.bl j) H) (e : i = j) : Q (.bl i) H := e ▸ h
theorem qbl {Q : Bool → Hp → Prop} {H : Hp} {i j : Bool} (h : Q j H) (e : i = j) : Q i H := e ▸ h
/-- where the number at p stood last, stands next -/
def lp (ns : List Int) (p : Nat) : Int := lastAt ns p (ns.getD p 0)
def nx (ns : List Int) (p : Nat) : Int := nextUp ns p ns.length
theorem lp_range (ns : List Int) (p : Nat) : -1 ≤ lp ns p ∧ lp ns p < p := lastAt_range ns _ p
theorem lastP_getD {ns : List Int} {k : Nat} (h : k < ns.length) : (lastP ns).getD k 0 = lp ns k := getD_of (lastP_get h)
theorem nextP_getD {ns : List Int} {k : Nat} (h : k < ns.length) : (nextP ns).getD k 0 = nx ns k := getD_of (nextP_get h)
theorem wun_nat (ns : List Int) {x y : Int} {i j : Nat} (hx : x = i) (hy : y = j) : (wun ns x y : Int) = wunN ns i j := by
  subst hx hy
  rfl
theorem sumTo_cut (F : Nat → Int) {b n : Nat} (h : b ≤ n) : sumTo F b = sumTo (fun p => if p < b then F p else 0) n := by
  obtain ⟨m, rfl⟩ : ∃ m, n = b + m := ⟨n - b, by omega⟩
  rw [sumTo_shift, sumTo_congr (F := fun p => if p < b then F p else 0) (G := F) (fun k hk => if_pos hk), sumTo_congr (F := fun k => if b + k < b then F (b + k) else 0) (G := fun _ => 0) (fun k _ => if_neg (by omega)), sumTo_zero]
  omega
/-- Σ over k below n of c, where lo ≤ k < hi -/
theorem sumTo_some (c lo hi : Int) (h0 : 0 ≤ lo) (h1 : lo ≤ hi) {n : Nat} (hn : hi ≤ n) : sumTo (fun k => if lo ≤ (k : Int) ∧ (k : Int) < hi then c else 0) n = (hi - lo) * c := by
  rw [← sumTo_count lo hi h0 h1 n hn, ← sumTo_mul]
  exact sumTo_congr fun k _ => by split <;> simp
/-- the windows from i on, together -/
def herF (ns : List Int) (i : Nat) : Int := sumTo (fun p => if i ≤ p ∧ lp ns p < (i : Int) then (ns.length : Int) - p else 0) ns.length
theorem her_wins {ns : List Int} {i : Nat} (hi : i ≤ ns.length) : sumTo (fun k => (wunN ns i (i + k) : Int)) (ns.length + 1 - i) = herF ns i := by
  have e1 : sumTo (fun k => (wunN ns i (i + k) : Int)) (ns.length + 1 - i) = sumTo (fun k => sumTo (fun p => if p < i + k then (if i ≤ p ∧ lp ns p < (i : Int) then (1 : Int) else 0) else 0) ns.length) (ns.length + 1 - i) :=
    sumTo_congr fun k hk => by rw [wunN_lasts (i + k) (by omega) (by omega), sumTo_cut _ (show i + k ≤ ns.length by omega)]; rfl
  rw [e1, sumTo_swap]
  refine sumTo_congr fun p hp => ?_
  by_cases h : i ≤ p ∧ lp ns p < (i : Int)
  · rw [if_pos h]
    rw [sumTo_congr (G := fun k => if ((p + 1 - i : Nat) : Int) ≤ (k : Int) ∧ (k : Int) < ((ns.length + 1 - i : Nat) : Int) then 1 else 0) (fun k hk => ?_), sumTo_count _ _ (by omega) (by omega) _ (Int.le_refl _)]
    · omega
    · have := h.1
      by_cases q : p < i + k
      · rw [if_pos q, if_pos ⟨by omega, by omega⟩]
      · rw [if_neg q, if_neg (fun z => by omega)]
  · simp only [if_neg h]
    rw [sumTo_congr (G := fun _ => 0) (fun k _ => by simp), sumTo_zero]
theorem her_firsts {ns : List Int} {i : Nat} (hi : i ≤ ns.length) : sumTo (fun k => if decide (lp ns (i + k) < (i : Int)) = true then (ns.length : Int) - ((i + k : Nat) : Int) else 0) (ns.length - i) = herF ns i := by
  unfold herF
  have e := sumTo_shift (fun p => if i ≤ p ∧ lp ns p < (i : Int) then (ns.length : Int) - (p : Int) else 0) i (ns.length - i)
  rw [show i + (ns.length - i) = ns.length from by omega] at e
  rw [e, sumTo_congr (n := i) (G := fun _ => 0) (fun k hk => if_neg (fun z => by omega)), sumTo_zero, Int.zero_add]
  refine sumTo_congr fun k _ => ?_
  by_cases h : lp ns (i + k) < (i : Int)
  · rw [if_pos (decide_eq_true h), if_pos ⟨by omega, h⟩]
  · rw [if_neg (by rw [decide_eq_false h]; exact Bool.false_ne_true), if_neg (fun z => h z.2)]
theorem her_all (ns : List Int) : sumTo (herF ns) (ns.length + 1) = sumTo (fun p => ((p : Int) - lp ns p) * ((ns.length : Int) - p)) ns.length := by
  show sumTo (fun i => sumTo (fun p => if i ≤ p ∧ lp ns p < (i : Int) then (ns.length : Int) - p else 0) ns.length) (ns.length + 1) = _
  rw [sumTo_swap]
  refine sumTo_congr fun p hp => ?_
  have hr := lp_range ns p
  rw [sumTo_congr (G := fun i => if lp ns p + 1 ≤ (i : Int) ∧ (i : Int) < (p : Int) + 1 then (ns.length : Int) - p else 0) (fun i _ => ?_), sumTo_some _ _ _ (by omega) (by omega) (by omega)]
  · rw [show (p : Int) + 1 - (lp ns p + 1) = (p : Int) - lp ns p from by omega]
  · by_cases h : i ≤ p ∧ lp ns p < (i : Int)
    · rw [if_pos h, if_pos ⟨by omega, by omega⟩]
    · rw [if_neg h, if_neg (fun z => h ⟨by omega, by omega⟩)]
theorem end_wins {ns : List Int} {b : Nat} (hb : b ≤ ns.length) : sumTo (fun f => (wunN ns f b : Int)) (b + 1) = sumTo (fun p => if decide ((b : Int) ≤ nx ns p) = true then (p : Int) + 1 else 0) b := by
  have e1 : sumTo (fun f => (wunN ns f b : Int)) (b + 1) = sumTo (fun f => sumTo (fun p => if f ≤ p then (if (b : Int) ≤ nx ns p then (1 : Int) else 0) else 0) b) (b + 1) :=
    sumTo_congr fun f hf => by
      rw [wunN_nexts hb (b - f) f (by omega)]
      have e := sumTo_shift (fun p => if f ≤ p then (if (b : Int) ≤ nx ns p then (1 : Int) else 0) else 0) f (b - f)
      rw [show f + (b - f) = b from by omega] at e
      rw [e, sumTo_congr (n := f) (G := fun _ => 0) (fun k hk => if_neg (by omega)), sumTo_zero, Int.zero_add]
      exact sumTo_congr fun k _ => (if_pos (by omega)).symm
  rw [e1, sumTo_swap]
  refine sumTo_congr fun p hp => ?_
  by_cases h : (b : Int) ≤ nx ns p
  · rw [if_pos (decide_eq_true h)]
    rw [sumTo_congr (G := fun f => if (0 : Int) ≤ (f : Int) ∧ (f : Int) < (p : Int) + 1 then 1 else 0) (fun f _ => ?_), sumTo_count _ _ (by omega) (by omega) _ (by omega)]
    · omega
    · by_cases q : f ≤ p
      · rw [if_pos q, if_pos h, if_pos ⟨by omega, by omega⟩]
      · rw [if_neg q, if_neg (fun z => by omega)]
  · have hd : ¬ decide ((b : Int) ≤ nx ns p) = true := by simp [h]
    rw [if_neg hd]
    simp only [if_neg h]
    rw [sumTo_congr (G := fun _ => 0) (fun k _ => by simp), sumTo_zero]
end Ur

namespace Ur
open PySem L2
/-! ### ends and begins -/
def optV : Option Nat → V
  | none => .non
  | some b => .int (b : Nat)
/-- the least behind with m unlike ones, from k places ahead of the row's end on -/
def endK (ns : List Int) (f : Nat) (m : Int) : Nat → Option Nat
  | 0 => if m ≤ (wunN ns f ns.length : Int) then some ns.length else none
  | k + 1 => if m ≤ (wunN ns f (ns.length - (k + 1)) : Int) then some (ns.length - (k + 1)) else endK ns f m k
def endAt (ns : List Int) (f : Nat) (m : Int) : Option Nat := endK ns f m (ns.length - f)
theorem endK_yes {ns : List Int} {f k : Nat} {m : Int} (h : m ≤ (wunN ns f (ns.length - k) : Int)) : endK ns f m k = some (ns.length - k) := by
  cases k with
  | zero => exact if_pos h
  | succ k => exact if_pos h
theorem endK_no {ns : List Int} {f k : Nat} {m : Int} (h : ¬ m ≤ (wunN ns f (ns.length - (k + 1)) : Int)) : endK ns f m (k + 1) = endK ns f m k := if_neg h
theorem endK_none {ns : List Int} {f : Nat} {m : Int} (h : ¬ m ≤ (wunN ns f ns.length : Int)) : endK ns f m 0 = none := if_neg h
/-- the greatest first, from g on down -/
def begK (ns : List Int) (b : Nat) (m : Int) : Nat → Option Nat
  | 0 => if m ≤ (wunN ns 0 b : Int) then some 0 else none
  | g + 1 => if m ≤ (wunN ns (g + 1) b : Int) then some (g + 1) else begK ns b m g
def begAt (ns : List Int) (b : Nat) (m : Int) : Option Nat := begK ns b m b
theorem begK_yes {ns : List Int} {b g : Nat} {m : Int} (h : m ≤ (wunN ns g b : Int)) : begK ns b m g = some g := by
  cases g with
  | zero => exact if_pos h
  | succ g => exact if_pos h
theorem begK_no {ns : List Int} {b g : Nat} {m : Int} (h : ¬ m ≤ (wunN ns (g + 1) b : Int)) : begK ns b m (g + 1) = begK ns b m g := if_neg h
theorem begK_none {ns : List Int} {b : Nat} {m : Int} (h : ¬ m ≤ (wunN ns 0 b : Int)) : begK ns b m 0 = none := if_neg h
theorem wunN_step {ns : List Int} {f b : Nat} (h : f ≤ b) (hb : b < ns.length) : wunN ns f b ≤ wunN ns f (b + 1) ∧ wunN ns f (b + 1) ≤ wunN ns f b + 1 := by
  rw [wunN_up h hb]
  split <;> omega
theorem wunN_stepD {ns : List Int} {f b : Nat} (h : f < b) (hb : b ≤ ns.length) : wunN ns (f + 1) b ≤ wunN ns f b ∧ wunN ns f b ≤ wunN ns (f + 1) b + 1 := by
  rw [wunN_down h hb]
  split <;> omega
theorem wunN_monoB {ns : List Int} {f : Nat} : ∀ {k b : Nat}, f ≤ b → b + k ≤ ns.length → wunN ns f b ≤ wunN ns f (b + k)
  | 0, _, _, _ => Nat.le_refl _
  | k + 1, b, h, hb => Nat.le_trans (wunN_monoB (k := k) h (by omega)) (wunN_step (b := b + k) (by omega) (by omega)).1
theorem wunN_monoF {ns : List Int} {b : Nat} (hb : b ≤ ns.length) : ∀ {k f : Nat}, f + k ≤ b → wunN ns (f + k) b ≤ wunN ns f b
  | 0, _, _ => Nat.le_refl _
  | k + 1, f, h => Nat.le_trans (wunN_stepD (f := f + k) (by omega) hb).1 (wunN_monoF hb (k := k) (by omega))
/-- what an end is -/
theorem endK_spec {ns : List Int} {f : Nat} {m : Int} : ∀ k : Nat, k ≤ ns.length →
    (endK ns f m k = none ∧ ∀ b, ns.length - k ≤ b → b ≤ ns.length → ¬ m ≤ (wunN ns f b : Int)) ∨
    ∃ e, endK ns f m k = some e ∧ ns.length - k ≤ e ∧ e ≤ ns.length ∧ m ≤ (wunN ns f e : Int) ∧ ∀ b, ns.length - k ≤ b → b < e → ¬ m ≤ (wunN ns f b : Int)
  | 0, _ => by
    by_cases h : m ≤ (wunN ns f ns.length : Int)
    · exact .inr ⟨ns.length, if_pos h, Nat.le_refl _, Nat.le_refl _, h, fun b h1 h2 => absurd h1 (by omega)⟩
    · refine .inl ⟨if_neg h, fun b h1 h2 => ?_⟩
      rw [show b = ns.length from by omega]
      exact h
  | k + 1, hk => by
    by_cases h : m ≤ (wunN ns f (ns.length - (k + 1)) : Int)
    · exact .inr ⟨ns.length - (k + 1), if_pos h, Nat.le_refl _, by omega, h, fun b h1 h2 => absurd h1 (by omega)⟩
    · have er := endK_no h
      rcases endK_spec (ns := ns) (f := f) (m := m) k (by omega) with ⟨e1, e2⟩ | ⟨e, e1, e2, e3, e4, e5⟩
      · refine .inl ⟨er.trans e1, fun b h1 h2 => ?_⟩
        by_cases q : b = ns.length - (k + 1)
        · rw [q]; exact h
        · exact e2 b (by omega) h2
      · refine .inr ⟨e, er.trans e1, by omega, e3, e4, fun b h1 h2 => ?_⟩
        by_cases q : b = ns.length - (k + 1)
        · rw [q]; exact h
        · exact e5 b (by omega) h2
theorem endAt_spec {ns : List Int} {f : Nat} {m : Int} (hf : f ≤ ns.length) :
    (endAt ns f m = none ∧ ∀ b, f ≤ b → b ≤ ns.length → ¬ m ≤ (wunN ns f b : Int)) ∨
    ∃ e, endAt ns f m = some e ∧ f ≤ e ∧ e ≤ ns.length ∧ m ≤ (wunN ns f e : Int) ∧ ∀ b, f ≤ b → b < e → ¬ m ≤ (wunN ns f b : Int) := by
  have h := endK_spec (ns := ns) (f := f) (m := m) (ns.length - f) (by omega)
  rw [show ns.length - (ns.length - f) = f from by omega] at h
  exact h
theorem begK_spec {ns : List Int} {b : Nat} {m : Int} : ∀ g : Nat,
    (begK ns b m g = none ∧ ∀ j, j ≤ g → ¬ m ≤ (wunN ns j b : Int)) ∨
    ∃ e, begK ns b m g = some e ∧ e ≤ g ∧ m ≤ (wunN ns e b : Int) ∧ ∀ j, e < j → j ≤ g → ¬ m ≤ (wunN ns j b : Int)
  | 0 => by
    by_cases h : m ≤ (wunN ns 0 b : Int)
    · exact .inr ⟨0, if_pos h, Nat.le_refl _, h, fun j h1 h2 => absurd h1 (by omega)⟩
    · refine .inl ⟨if_neg h, fun j h1 => ?_⟩
      rw [show j = 0 from by omega]
      exact h
  | g + 1 => by
    by_cases h : m ≤ (wunN ns (g + 1) b : Int)
    · exact .inr ⟨g + 1, if_pos h, Nat.le_refl _, h, fun j h1 h2 => absurd h1 (by omega)⟩
    · have er := begK_no h
      rcases begK_spec (ns := ns) (b := b) (m := m) g with ⟨e1, e2⟩ | ⟨e, e1, e2, e3, e4⟩
      · refine .inl ⟨er.trans e1, fun j h1 => ?_⟩
        by_cases q : j = g + 1
        · rw [q]; exact h
        · exact e2 j (by omega)
      · refine .inr ⟨e, er.trans e1, by omega, e3, fun j h1 h2 => ?_⟩
        by_cases q : j = g + 1
        · rw [q]; exact h
        · exact e4 j h1 (by omega)
/-- an end by what it is -/
theorem endAt_is {ns : List Int} {f e : Nat} {m : Int} (h1 : f ≤ e) (h2 : e ≤ ns.length) (h3 : m ≤ (wunN ns f e : Int)) (h4 : ∀ b, f ≤ b → b < e → ¬ m ≤ (wunN ns f b : Int)) : endAt ns f m = some e := by
  rcases endAt_spec (ns := ns) (f := f) (m := m) (by omega) with ⟨_, e2⟩ | ⟨e', e1, g1, g2, g3, g4⟩
  · exact absurd h3 (e2 e h1 h2)
  · rcases Nat.lt_trichotomy e e' with k | k | k
    · exact absurd h3 (g4 e h1 k)
    · rw [e1, k]
    · exact absurd g3 (h4 e' g1 k)
/-- at an end there are just so many, one ahead of it one less -/
theorem end_just {ns : List Int} {f e : Nat} {m : Int} (h0 : 0 ≤ m) (h1 : f ≤ e) (h2 : e ≤ ns.length) (h3 : m ≤ (wunN ns f e : Int)) (h4 : ∀ b, f ≤ b → b < e → ¬ m ≤ (wunN ns f b : Int)) :
    (wunN ns f e : Int) = m ∧ (0 < m → f < e ∧ (wunN ns f (e - 1) : Int) = m - 1) := by
  by_cases h : f = e
  · rw [← h] at h3 ⊢
    rw [wunN_none] at h3 ⊢
    refine ⟨by omega, fun k => by omega⟩
  · have hb := h4 (e - 1) (by omega) (by omega)
    have hs := wunN_step (ns := ns) (f := f) (b := e - 1) (by omega) (by omega)
    rw [show e - 1 + 1 = e from by omega] at hs
    refine ⟨by omega, fun k => ⟨by omega, by omega⟩⟩
theorem beg_just {ns : List Int} {g b : Nat} {m : Int} (h0 : 0 ≤ m) (h1 : g ≤ b) (h2 : b ≤ ns.length) (h3 : m ≤ (wunN ns g b : Int)) (h4 : ∀ j, g < j → j ≤ b → ¬ m ≤ (wunN ns j b : Int)) :
    (wunN ns g b : Int) = m ∧ (0 < m → g < b ∧ (wunN ns (g + 1) b : Int) = m - 1) := by
  by_cases h : g = b
  · rw [← h] at h3 ⊢
    rw [wunN_none] at h3 ⊢
    refine ⟨by omega, fun k => by omega⟩
  · have hb := h4 (g + 1) (by omega) (by omega)
    have hs := wunN_stepD (ns := ns) (f := g) (b := b) (by omega) h2
    refine ⟨by omega, fun k => ⟨by omega, by omega⟩⟩
end Ur
namespace Ur
open PySem L2
theorem wunN_all (ns : List Int) : wunN ns 0 ns.length = ulen ns := by
  unfold wunN
  rw [List.drop_zero, Nat.sub_zero, List.take_length]
theorem wunN_le {ns : List Int} {f b : Nat} (h : f ≤ b) (hb : b ≤ ns.length) : wunN ns f b ≤ ulen ns := by
  have h1 := wunN_monoB (ns := ns) (f := f) (b := b) (k := ns.length - b) h (by omega)
  rw [show b + (ns.length - b) = ns.length from by omega] at h1
  have h2 := wunN_monoF (ns := ns) (b := ns.length) (Nat.le_refl _) (k := f) (f := 0) (by omega)
  rw [Nat.zero_add, wunN_all] at h2
  omega
theorem end_more (ns : List Int) : endAt ns 0 ((ulen ns : Nat) + 1 : Int) = none := by
  rcases endAt_spec (ns := ns) (f := 0) (m := (ulen ns : Nat) + 1) (Nat.zero_le _) with ⟨e1, _⟩ | ⟨e, _, h1, h2, h3, _⟩
  · exact e1
  · have := wunN_le h1 h2
    omega
theorem beg_more (ns : List Int) : begAt ns ns.length ((ulen ns : Nat) + 1 : Int) = none := by
  rcases begK_spec (ns := ns) (b := ns.length) (m := (ulen ns : Nat) + 1) ns.length with ⟨e1, _⟩ | ⟨e, _, h1, h2, _⟩
  · exact e1
  · have := wunN_le h1 (Nat.le_refl _)
    omega
theorem rgV_ints {b : Int} {n : Nat} (h : b = n) : rgV 0 b = ((List.range n).map fun k => ((k : Nat) : Int)).map V.int := by
  subst h
  unfold rgV
  rw [List.map_map, Int.sub_zero, Int.toNat_natCast]
  exact List.map_congr_left fun k _ => by rw [Int.zero_add]; rfl
end Ur
namespace Ur
open PySem L2
theorem inV_int {ns : List Int} {x : Int} : inV (.int x) (ns.map V.int) = decide (x ∈ ns) := by
  unfold inV
  rw [List.any_map, Bool.eq_iff_iff, List.any_eq_true, decide_eq_true_iff]
  constructor
  · rintro ⟨y, hy, e⟩
    have e2 : (y == x) = true ∨ (x == y) = true := by first | exact Or.inl e | exact Or.inr e
    rcases e2 with e2 | e2
    · exact eq_of_beq e2 ▸ hy
    · exact (eq_of_beq e2).symm ▸ hy
  · intro h
    refine ⟨x, h, ?_⟩
    exact beq_self_eq_true x
theorem in_int {K : PySem.W.Frag} {H : Hp} {a : Addr} {ns : List Int} {x : Int} {Q : VK} (h : SqL K H a (ns.map V.int)) (q : Q (.bl (decide (x ∈ ns))) H) : rIn K false (.int x) (.ref a) H Q :=
  ⟨a, _, rfl, .inl h, rfl, by rw [List.all_map]; exact List.all_eq_true.mpr fun _ _ => rfl, by rw [inV_int]; exact q⟩
theorem notin_int {K : PySem.W.Frag} {H : Hp} {a : Addr} {ns : List Int} {x : Int} {Q : VK} (h : SqL K H a (ns.map V.int)) (q : Q (.bl (!decide (x ∈ ns))) H) : rIn K true (.int x) (.ref a) H Q :=
  ⟨a, _, rfl, .inl h, rfl, by rw [List.all_map]; exact List.all_eq_true.mpr fun _ _ => rfl, by rw [inV_int]; exact q⟩
/-! ### from behind -/
theorem ulen_rev (ns : List Int) : ulen ns.reverse = ulen ns := ulen_congr fun x => List.mem_reverse
theorem wunN_rev {ns : List Int} {b j : Nat} (hj : j ≤ b) (hb : b ≤ ns.length) : wunN (ns.take b).reverse 0 j = wunN ns (b - j) b := by
  unfold wunN
  rw [List.drop_zero, Nat.sub_zero, List.take_reverse, ulen_rev]
  rw [List.length_take, Nat.min_eq_left hb, show b - (b - j) = j from by omega, List.drop_take, show b - (b - j) = j from by omega]
theorem begAt_is {ns : List Int} {b e : Nat} {m : Int} (h1 : e ≤ b) (h3 : m ≤ (wunN ns e b : Int)) (h4 : ∀ j, e < j → j ≤ b → ¬ m ≤ (wunN ns j b : Int)) : begAt ns b m = some e := by
  rcases begK_spec (ns := ns) (b := b) (m := m) b with ⟨_, e2⟩ | ⟨e', e1, g1, g2, g3⟩
  · exact absurd h3 (e2 e h1)
  · rcases Nat.lt_trichotomy e e' with k | k | k
    · exact absurd g2 (h4 e' k g1)
    · exact e1.trans (by rw [k])
    · exact absurd h3 (g3 e k h1)
theorem begAt_rev {ns : List Int} {b : Nat} {m : Int} (hb : b ≤ ns.length) :
    (endAt (ns.take b).reverse 0 m = none ∧ begAt ns b m = none) ∨ ∃ e, endAt (ns.take b).reverse 0 m = some e ∧ e ≤ b ∧ begAt ns b m = some (b - e) := by
  have hl : (ns.take b).reverse.length = b := by rw [List.length_reverse, List.length_take]; omega
  rcases endAt_spec (ns := (ns.take b).reverse) (f := 0) (m := m) (Nat.zero_le _) with ⟨e1, e2⟩ | ⟨e, e1, h1, h2, h3, h4⟩
  · refine .inl ⟨e1, ?_⟩
    rcases begK_spec (ns := ns) (b := b) (m := m) b with ⟨k, _⟩ | ⟨g, _, g1, g2, _⟩
    · exact k
    · have := e2 (b - g) (Nat.zero_le _) (by omega)
      rw [wunN_rev (by omega) hb, show b - (b - g) = g from by omega] at this
      exact absurd g2 this
  · rw [hl] at h2
    refine .inr ⟨e, e1, h2, begAt_is (by omega) ?_ fun j k1 k2 => ?_⟩
    · rw [wunN_rev h2 hb] at h3
      exact h3
    · have := h4 (b - j) (Nat.zero_le _) (by omega)
      rw [wunN_rev (by omega) hb, show b - (b - j) = j from by omega] at this
      exact this
theorem endAt_0 {ns : List Int} {f : Nat} (h : f ≤ ns.length) : endAt ns f 0 = some f := endAt_is (Nat.le_refl f) h (by omega) fun b h1 h2 => absurd h1 (by omega)
theorem begAt_0 (ns : List Int) (b : Nat) : begAt ns b 0 = some b := begAt_is (Nat.le_refl b) (by omega) fun j h1 h2 => absurd h1 (by omega)
/-- the unlike ones of a window, one more -/
theorem uni_up {ns : List Int} {f b : Nat} {x : Int} (h : f ≤ b) (e : ns[b]? = some x) : uni ((ns.drop f).take (b + 1 - f)) = if x ∈ uni ((ns.drop f).take (b - f)) then uni ((ns.drop f).take (b - f)) else uni ((ns.drop f).take (b - f)) ++ [x] := by
  have e1 : (ns.drop f)[b - f]? = some x := by rw [List.getElem?_drop, show f + (b - f) = b from by omega]; exact e
  rw [show b + 1 - f = (b - f) + 1 from by omega, take_snoc e1, uni_snoc]
  by_cases k : x ∈ (ns.drop f).take (b - f)
  · rw [if_pos k, if_pos ((mem_uni _ x).mpr k)]
  · rw [if_neg k, if_neg (fun z => k ((mem_uni _ x).mp z))]
end Ur
namespace Ur
open PySem L2
/-- None or a whole number -/
structure IsO (v : V) : Prop where
  or : v = .non ∨ ∃ i : Int, v = .int i
theorem IsO.opt (x : Option Nat) : IsO (optV x) := by
  cases x with
  | none => exact ⟨.inl rfl⟩
  | some b => exact ⟨.inr ⟨_, rfl⟩⟩
end Ur

namespace Ur
open PySem L2
/-! ### xs[::c] -/
theorem vals_pick {xs : List V} {us : List Value} (r : Vals xs us) : ∀ ids : List Nat, Vals (ids.filterMap fun i => xs[i]?) (ids.filterMap fun i => us.toArray[i]?)
  | [] => .nil
  | i :: ids => by
    have hl := Vals.length r
    have e2 : us.toArray[i]? = us[i]? := by simp
    cases h : xs[i]? with
    | none =>
      have h2 : us[i]? = none := by
        rw [List.getElem?_eq_none_iff] at h ⊢
        omega
      rw [List.filterMap_cons_none h, List.filterMap_cons_none (by rw [e2, h2])]
      exact vals_pick r ids
    | some x =>
      obtain ⟨u, h2, h3⟩ := r.get h
      rw [List.filterMap_cons_some h, List.filterMap_cons_some (b := u) (by rw [e2, h2])]
      exact .cons h3 (vals_pick r ids)
def tStep (K : PySem.W.Frag) (te : TE) : TE := fun σ H Q => te σ H fun x H1 => ∃ a xs, x = .ref a ∧ SqL K H1 a xs ∧ ∀ p ys, (∀ y ∈ ys, y ∈ xs) → ys.length ≤ xs.length → H1 p = none → Q (.ref p) (upd H1 p (.lst ys))
open PySem.Spec PyProof.Rows in
theorem pe_step2 {X : Cx} {e : Expr} {te : TE} {k : Nat} {p1 p3 pos : Pos} (he : PE X e te) : PE X (.Subscript e (.Slice none none (some (.Constant (.int 2) k p1)) p3) pos) (tStep X.K te) := by
  refine ⟨fun pins s σ H Q I h => ?_⟩
  refine Subscript_ (thn (he.run pins s σ H _ I h) fun v s1 ⟨x, H1, I1, r1, q1⟩ => ?_)
  obtain ⟨a, xs, ex, hx, q⟩ := q1
  subst ex
  cases r1
  have hst : PO X (some (.Constant (.int 2) k p1)) (tPart (tC (.int 2))) := po_some pe_int
  refine wpAny_Slice (thn (po_none.run pins s1 σ H1 (fun o H2 => o = none ∧ H2 = H1) I1 ⟨rfl, rfl⟩) fun vl s2 ⟨l, H2, I2, pl, el, e2⟩ => ?_)
  subst el e2
  refine thn (po_none.run pins s2 σ H2 (fun o H3 => o = none ∧ H3 = H2) I2 ⟨rfl, rfl⟩) fun vu s3 ⟨u, H3, I3, pu, eu, e3⟩ => ?_
  subst eu e3
  refine thn (hst.run pins s3 σ H3 (fun o H4 => o = some 2 ∧ H4 = H3) I3 ⟨2, rfl, rfl, rfl⟩) fun vs s4 ⟨o, H4, I4, ps, eo, e4⟩ => ?_
  subst eo e4
  have I5 : Inv X pins σ H4 { s4 with heap := s4.heap.push { cls := .type "slice", data := .fields #[vl, vu, vs] } } := I4.kept (t' := s4.toks) fun b ob q => Heap.get?_push_of_some _ q
  obtain ⟨its, r, ht, hz⟩ := I5.list hx
  have hlen := r.length
  show wpAny (model X.prog X.w) X.A (subscriptTail e (.Slice none none (some (.Constant (.int 2) k p1)) p3) (.ref a) (.ref s4.heap.objs.size)) (EP X pins σ Q) X.xe { s4 with heap := s4.heap.push { cls := .type "slice", data := .fields #[vl, vu, vs] } }
  refine tail_any (ops := [.ref a, .ref s4.heap.objs.size]) ht.isList.typeIs (PySem.slot_list_getitem.lookup) ?_ (by with_unfolding_all rfl)
  refine wpAny_getItem_list_slice ht.isList (Heap.IsSliceOf.new _ vl vu vs) pl pu ps (by decide) ?_ (by rw [List.size_toArray]; omega)
  have hid : ∀ n : Nat, (sliceRange (sliceBounds none none (some 2) n).1 (sliceBounds none none (some 2) n).2.1 (sliceBounds none none (some 2) n).2.2).length ≤ n := fun n => by
    have e : sliceBounds none none (some 2) n = (0, (n : Int), 2) := by simp [sliceBounds]
    rw [e]
    exact sliceRange_length_le 0 n 2 n (fun _ => ⟨by omega, by omega⟩) (fun h => absurd (by decide) h)
  have hid2 := hid its.toArray.size
  unfold slicePick
  generalize hI : sliceRange (sliceBounds none none (some 2) its.toArray.size).1 (sliceBounds none none (some 2) its.toArray.size).2.1 (sliceBounds none none (some 2) its.toArray.size).2.2 = ids at hid2
  have hv := vals_pick r ids
  have hly : (ids.filterMap fun i => xs[i]?).length ≤ xs.length := by
    refine Nat.le_trans (List.length_filterMap_le _ _) ?_
    rw [List.size_toArray] at hid2
    omega
  refine ⟨.ref _, _, I5.laid (t' := s4.toks) (o := .lst (ids.filterMap fun i => xs[i]?)) (fun b ob q => Heap.get?_push_of_some _ q) (Nat.le_refl _) ?_, rfl, q _ _ (fun y hy => ?_) hly (I5.hok.fresh (Nat.le_refl _))⟩
  · exact ⟨by omega, _, 0, hv, Heap.get?_push_size _ rfl⟩
  · obtain ⟨i, _, e⟩ := List.mem_filterMap.mp hy
    exact List.mem_of_getElem? e
end Ur

namespace Ur
open PySem L2
/-! ### windows that were drawn -/
/-- at t a window of a row of n -/
structure WinAt (n : Int) (H : Hp) (t : Addr) : Prop where
  at_ : ∃ f b : Int, H t = some (.tup [.int f, .int b]) ∧ 0 ≤ f ∧ f ≤ b ∧ b ≤ n
theorem WinAt.same {n : Int} {H H' : Hp} {t : Addr} (w : WinAt n H t) (s : Same H H') : WinAt n H' t := by
  obtain ⟨f, b, e, h⟩ := w.at_
  exact ⟨f, b, s _ _ e, h⟩
theorem WinAt.but {n : Int} {H H' : Hp} {t a : Addr} {xs : List V} (w : WinAt n H t) (s : But a H H') (ha : H a = some (.lst xs)) : WinAt n H' t := by
  obtain ⟨f, b, e, h⟩ := w.at_
  exact ⟨f, b, s _ _ (fun k => by rw [k, ha] at e; cases e) e, h⟩
theorem WinAt.upd {n : Int} {H : Hp} {t a : Addr} {xs : List V} {o : HO} (w : WinAt n H t) (ha : H a = some (.lst xs)) : WinAt n (upd H a o) t := by
  obtain ⟨f, b, e, h⟩ := w.at_
  exact ⟨f, b, by rw [upd_ne (fun k => by rw [k, ha] at e; cases e)]; exact e, h⟩
end Ur

namespace Ur
open PySem L2
/-! ### lists of last places -/
theorem lastAt_succ (ns : List Int) (i : Nat) (x : Int) : lastAt ns (i + 1) x = if ns.getD i 0 = x then (i : Int) else lastAt ns i x := rfl
theorem getD_app {r s : List Int} {j : Nat} (h : j < r.length) : (r ++ s).getD j 0 = r.getD j 0 := by
  rw [List.getD_eq_getElem?_getD, List.getD_eq_getElem?_getD, List.getElem?_append_left h]
theorem lastAt_app {r s : List Int} {x : Int} : ∀ {i : Nat}, i ≤ r.length → lastAt (r ++ s) i x = lastAt r i x
  | 0, _ => rfl
  | i + 1, h => by rw [lastAt_succ, lastAt_succ, getD_app h, lastAt_app (Nat.le_of_lt h)]
theorem lastP_snoc (r : List Int) (x : Int) : lastP (r ++ [x]) = lastP r ++ [lastAt r r.length x] := by
  have hl : (r ++ [x]).length = r.length + 1 := by rw [List.length_append]; rfl
  have h := lastP_take (ns := r ++ [x]) (i := r.length) (by omega)
  have e1 : (lastP (r ++ [x])).take (r.length + 1) = lastP (r ++ [x]) := by rw [← hl, ← lastP_len, List.take_length]
  have e2 : (lastP (r ++ [x])).take r.length = lastP r := by
    refine List.ext_getElem? fun k => ?_
    by_cases hk : k < r.length
    · rw [List.getElem?_take, if_pos hk, lastP_get (by omega), lastP_get hk, getD_app hk, lastAt_app (Nat.le_of_lt hk)]
    · rw [List.getElem?_take, if_neg hk, List.getElem?_eq_none (by rw [lastP_len]; omega)]
  have e3 : (r ++ [x]).getD r.length 0 = x := by
    rw [List.getD_eq_getElem?_getD, List.getElem?_append_right (Nat.le_refl _), Nat.sub_self]; rfl
  rw [e1, e2, e3, lastAt_app (Nat.le_refl _)] at h
  exact h
theorem lastAt_not {r : List Int} {x : Int} (h : x ∉ r) : lastAt r r.length x = -1 := by
  rcases lastAt_spec r x r.length with ⟨e, _⟩ | ⟨v, _, h1, h2, _⟩
  · exact e
  · exact absurd (h2 ▸ List.mem_of_getElem? (get_of h1)) h
theorem fresh_int (r : List Int) : ∃ x : Int, x ∉ r := by
  have k : ∀ r : List Int, ∃ b : Int, ∀ y ∈ r, y < b := by
    intro r
    induction r with
    | nil => exact ⟨0, fun y h => nomatch h⟩
    | cons z r ih =>
      obtain ⟨b, hb⟩ := ih
      refine ⟨max b (z + 1), fun y hy => ?_⟩
      rcases List.mem_cons.mp hy with e | e
      · rw [e]; omega
      · have := hb y e; omega
  obtain ⟨b, hb⟩ := k r
  exact ⟨b, fun h => absurd (hb b h) (by omega)⟩
/-- a list of last places, one more: a new number -/
theorem lasts_new (r : List Int) : ∃ x, lastP (r ++ [x]) = lastP r ++ [-1] := by
  obtain ⟨x, hx⟩ := fresh_int r
  exact ⟨x, by rw [lastP_snoc, lastAt_not hx]⟩
/-- .. or that of a place that is none yet -/
theorem lasts_old {r : List Int} {l : Nat} (hl : l < r.length) (hn : (l : Int) ∉ lastP r) : lastP (r ++ [r.getD l 0]) = lastP r ++ [(l : Int)] := by
  rw [lastP_snoc]
  have e : lastAt r r.length (r.getD l 0) = l := by
    refine lastAt_uniq (.inr ⟨l, rfl, hl, rfl⟩) fun j hj hx => ?_
    by_cases h : j ≤ l
    · omega
    · exfalso
      have key : ∀ d j, j = l + 1 + d → j < r.length → r.getD j 0 = r.getD l 0 → False := by
        intro d
        induction d using Nat.strongRecOn with
        | _ d ih =>
          intro j hjd hj hx
          refine hn ?_
          have hg := lastP_get hj
          have : lastAt r j (r.getD j 0) = l := by
            rw [hx]
            refine lastAt_uniq (.inr ⟨l, rfl, by omega, rfl⟩) fun i hi hxi => ?_
            by_cases q : i ≤ l
            · omega
            · exact (ih (i - (l + 1)) (by omega) i (by omega) (by omega) hxi).elim
          rw [this] at hg
          exact List.mem_of_getElem? hg
      exact key (j - (l + 1)) j (by omega) hj hx
  rw [e]
/-- what a last place is -/
theorem lastP_ok {r : List Int} {i : Nat} {l : Int} (h : (lastP r)[i]? = some l) : -1 ≤ l ∧ l < i ∧ (0 ≤ l → l ∉ (lastP r).take i) := by
  have hi : i < r.length := by
    have := (List.getElem?_eq_some_iff.mp h).1
    rwa [lastP_len] at this
  have e := lastP_get hi
  rw [h] at e
  have e := Option.some.inj e
  have hr := lastAt_range r (r.getD i 0) i
  refine ⟨by omega, by omega, fun h0 hm => ?_⟩
  obtain ⟨j, hj⟩ := List.mem_iff_getElem?.mp hm
  rw [List.getElem?_take] at hj
  by_cases q : j < i
  · rw [if_pos q, lastP_get (by omega)] at hj
    have e2 := Option.some.inj hj
    rcases lastAt_spec r (r.getD i 0) i with ⟨k, _⟩ | ⟨v, k1, k2, k3, k4⟩
    · omega
    · rcases lastAt_spec r (r.getD j 0) j with ⟨m, _⟩ | ⟨w, m1, m2, m3, _⟩
      · omega
      · have hvw : v = w := by omega
        exact k4 j (by omega) q (by rw [← m3, ← hvw, k3])
  · rw [if_neg q] at hj; cases hj
theorem lastP_map {f : Int → Int} {r : List Int} (h : InjOn f r) : lastP (r.map f) = lastP r := by
  have g : ∀ j, j < r.length → (r.map f).getD j 0 = f (r.getD j 0) := fun j hj => by
    rw [List.getD_eq_getElem?_getD, List.getElem?_map, get_of hj]; rfl
  have k : ∀ i x, i ≤ r.length → x ∈ r → lastAt (r.map f) i (f x) = lastAt r i x := by
    intro i x
    induction i with
    | zero => intro _ _; rfl
    | succ i ih =>
      intro hi hx
      rw [lastAt_succ, lastAt_succ, g i hi, ih (Nat.le_of_lt hi) hx]
      have hm : r.getD i 0 ∈ r := List.mem_of_getElem? (get_of hi)
      by_cases q : r.getD i 0 = x
      · rw [if_pos q, if_pos (by rw [q])]
      · rw [if_neg q, if_neg (fun z => q (h _ hm _ hx z))]
  refine List.ext_getElem? fun i => ?_
  by_cases hi : i < r.length
  · rw [lastP_get (by rw [List.length_map]; exact hi), lastP_get hi, g i hi, k i _ (Nat.le_of_lt hi) (List.mem_of_getElem? (get_of hi))]
  · rw [List.getElem?_eq_none (by rw [lastP_len, List.length_map]; omega), List.getElem?_eq_none (by rw [lastP_len]; omega)]
theorem plain_inj (r : List Int) : InjOn (fun x => (plainAt r x : Int)) r := fun x hx y hy e => plainAt_inj hx hy (by have e2 : ((plainAt r x : Nat) : Int) = (plainAt r y : Nat) := e; omega)
theorem lastP_plain (r : List Int) : lastP (plainP r) = lastP r := lastP_map (plain_inj r)
/-- -1 stands just where a number is new -/
theorem last_new {r : List Int} {i : Nat} (hi : i < r.length) : lastAt r i (r.getD i 0) < 0 ↔ r.getD i 0 ∉ r.take i := by
  rcases lastAt_spec r (r.getD i 0) i with ⟨e, n⟩ | ⟨v, e, h1, h2, _⟩
  · refine ⟨fun _ hm => ?_, fun _ => by omega⟩
    obtain ⟨j, hj⟩ := List.mem_iff_getElem?.mp hm
    rw [List.getElem?_take] at hj
    by_cases q : j < i
    · rw [if_pos q] at hj; exact n j q (getD_of hj)
    · rw [if_neg q] at hj; cases hj
  · refine ⟨fun h => by omega, fun h => absurd ?_ h⟩
    exact List.mem_iff_getElem?.mpr ⟨v, by rw [List.getElem?_take, if_pos h1, get_of (by omega), h2]⟩
theorem lastP_takeR (r : List Int) (n : Nat) : lastP (r.take n) = (lastP r).take n := by
  by_cases h : n ≤ r.length
  · have e := List.take_append_drop n r
    have hl : (r.take n).length = n := by rw [List.length_take]; omega
    refine List.ext_getElem? fun k => ?_
    rw [List.getElem?_take]
    by_cases hk : k < n
    · have g : (r.take n).getD k 0 = r.getD k 0 := by
        rw [List.getD_eq_getElem?_getD, List.getD_eq_getElem?_getD, List.getElem?_take, if_pos hk]
      have a : lastAt r k (r.getD k 0) = lastAt (r.take n) k (r.getD k 0) := by
        have := lastAt_app (r := r.take n) (s := r.drop n) (x := r.getD k 0) (i := k) (by omega)
        rwa [e] at this
      rw [if_pos hk, lastP_get (by omega), lastP_get (by omega), g, a]
    · rw [if_neg hk, List.getElem?_eq_none (by rw [lastP_len]; omega)]
  · rw [List.take_of_length_le (by omega), List.take_of_length_le (by rw [lastP_len]; omega)]
theorem lastP_drop (r : List Int) (n : Nat) : lastP (r.drop n) = ((lastP r).drop n).map fun l => max (-1) (l - (n : Int)) := by
  refine List.ext_getElem? fun k => ?_
  rw [List.getElem?_map, List.getElem?_drop]
  by_cases hk : n + k < r.length
  · have hkd : k < (r.drop n).length := by rw [List.length_drop]; omega
    have g : ∀ j, (r.drop n).getD j 0 = r.getD (n + j) 0 := fun j => by
      rw [List.getD_eq_getElem?_getD, List.getD_eq_getElem?_getD, List.getElem?_drop]
    rw [lastP_get hkd, lastP_get hk, g]
    show some (lastAt (r.drop n) k (r.getD (n + k) 0)) = some (max (-1) (lastAt r (n + k) (r.getD (n + k) 0) - (n : Int)))
    congr 1
    rcases lastAt_spec r (r.getD (n + k) 0) (n + k) with ⟨e, m⟩ | ⟨v, e, h1, h2, m⟩
    · rw [e]
      refine lastAt_uniq (.inl (by omega)) fun j hj hx => ?_
      rw [g] at hx
      exact absurd hx (m (n + j) (by omega))
    · rw [e]
      by_cases q : n ≤ v
      · refine lastAt_uniq (.inr ⟨v - n, by omega, by omega, by rw [g, show n + (v - n) = v from by omega]; exact h2⟩) fun j hj hx => ?_
        rw [g] at hx
        by_cases p : n + j ≤ v
        · omega
        · exact absurd hx (m (n + j) (by omega) (by omega))
      · refine lastAt_uniq (.inl (by omega)) fun j hj hx => ?_
        rw [g] at hx
        exact absurd hx (m (n + j) (by omega) (by omega))
  · rw [List.getElem?_eq_none (by rw [lastP_len, List.length_drop]; omega), List.getElem?_eq_none (by rw [lastP_len]; omega)]
    rfl
end Ur
namespace Ur
open PySem L2
theorem pop_at {fs : List Int} {i : Int} (h0 : 0 ≤ i) (h1 : i < fs.length) : seqIndex? i (fs.map V.int).length = some i.toNat := by
  rw [List.length_map]
  simp [seqIndex?, show ¬ i < 0 from by omega, h0, h1]
theorem pop_get {fs : List Int} {k : Nat} (h : k < fs.length) : (fs.map V.int)[k]? = some (V.int (fs.getD k 0)) := iv_get' (get_of h)
theorem erase_map (fs : List Int) (k : Nat) : (fs.map V.int).eraseIdx k = (fs.eraseIdx k).map V.int := by
  induction fs generalizing k with
  | nil => rfl
  | cons x fs ih => cases k with
    | zero => rfl
    | succ k => show V.int x :: (fs.map V.int).eraseIdx k = _; rw [ih]; rfl
theorem mem_erase {fs : List Int} {k : Nat} {f : Int} (h : f ∈ fs.eraseIdx k) : f ∈ fs := (List.eraseIdx_sublist fs k).mem h
theorem erase_nodup : ∀ {fs : List Int} {k : Nat}, k < fs.length → fs.Nodup → (fs.eraseIdx k).Nodup ∧ fs.getD k 0 ∉ fs.eraseIdx k
  | x :: fs, 0, _, d => by
    have h := List.nodup_cons.mp d
    exact ⟨h.2, h.1⟩
  | x :: fs, k + 1, h, d => by
    obtain ⟨d1, d2⟩ := List.nodup_cons.mp d
    have hk : k < fs.length := Nat.lt_of_succ_lt_succ h
    obtain ⟨e1, e2⟩ := erase_nodup hk d2
    refine ⟨List.nodup_cons.mpr ⟨fun m => d1 (mem_erase m), e1⟩, fun m => ?_⟩
    have m2 : fs.getD k 0 ∈ x :: fs.eraseIdx k := m
    rcases List.mem_cons.mp m2 with e | e
    · exact d1 (e ▸ List.mem_of_getElem? (get_of hk))
    · exact e2 e
end Ur
namespace Ur
open PySem L2
theorem next_of_last {r : List Int} {i : Nat} (hi : i < r.length) (h : 0 ≤ lp r i) : nx r (lp r i).toNat = i := by
  rcases lastAt_spec r (r.getD i 0) i with ⟨e, _⟩ | ⟨l, e, h1, h2, h3⟩
  · have : lp r i = -1 := e
    omega
  · have e' : lp r i = l := e
    rw [e', Int.toNat_natCast]
    rcases nextUp_spec r l r.length (Nat.le_refl _) with ⟨_, n⟩ | ⟨v, k, k1, k2, k3, k4⟩
    · exact absurd h2.symm (n i h1 hi)
    · have k' : nx r l = v := k
      rw [k']
      rcases Nat.lt_trichotomy v i with q | q | q
      · exact absurd (k3.trans h2) (h3 v k1 q)
      · rw [q]
      · exact absurd h2.symm (k4 i h1 q)
theorem count_map (g : Nat → Int) (t : Int → Bool) : ∀ n : Nat, ((((List.range n).map g).filter t).length : Int) = sumTo (fun k => if t (g k) = true then 1 else 0) n
  | 0 => rfl
  | n + 1 => by
    rw [List.range_succ, List.map_append, List.filter_append, List.length_append, Int.natCast_add, count_map g t n]
    show _ + _ = _ + (if t (g n) = true then 1 else 0)
    cases h : t (g n) with
    | true => rw [List.map_cons, List.filter_cons_of_pos h]; rfl
    | false => rw [List.map_cons, List.filter_cons_of_neg (by rw [h]; exact Bool.false_ne_true)]; rfl
theorem nx_le {r : List Int} {p : Nat} : nx r p ≤ r.length := by
  rcases nextUp_spec r p r.length (Nat.le_refl _) with ⟨e, _⟩ | ⟨v, e, h1, h2, _⟩
  · exact Int.le_of_eq e
  · have : nx r p = v := e
    omega
theorem count_ends (r : List Int) : ((nextP r).filter (fun x => decide (x = (r.length : Int)))).length = ulen r := by
  have h := wunN_nexts (ns := r) (b := r.length) (Nat.le_refl _) r.length 0 (Nat.zero_add _)
  rw [wunN_all] at h
  have c := count_map (fun k => nextUp r k r.length) (fun x => decide (x = (r.length : Int))) r.length
  have e : sumTo (fun k => if decide (nextUp r k r.length = (r.length : Int)) = true then (1 : Int) else 0) r.length = sumTo (fun j => if (r.length : Int) ≤ nextUp r (0 + j) r.length then (1 : Int) else 0) r.length := sumTo_congr fun k _ => by
    have := nx_le (r := r) (p := k)
    have this : nextUp r k r.length ≤ (r.length : Int) := this
    rw [Nat.zero_add]
    by_cases q : (r.length : Int) ≤ nextUp r k r.length
    · rw [if_pos q, if_pos (decide_eq_true (by omega))]
    · rw [if_neg q, if_neg (by rw [decide_eq_false (by omega)]; exact Bool.false_ne_true)]
  have c2 : (((nextP r).filter (fun x => decide (x = (r.length : Int)))).length : Int) = (ulen r : Int) := c.trans (e.trans h.symm)
  omega
theorem count_news (r : List Int) : ((lastP r).filter (fun x => decide (x = -1))).length = ulen r := by
  have h := wunN_lasts (ns := r) (f := 0) r.length (Nat.zero_le _) (Nat.le_refl _)
  rw [wunN_all] at h
  have c := count_map (fun k => lastAt r k (r.getD k 0)) (fun x => decide (x = -1)) r.length
  have e : sumTo (fun k => if decide (lastAt r k (r.getD k 0) = -1) = true then (1 : Int) else 0) r.length = sumTo (fun p => if 0 ≤ p ∧ lastAt r p (r.getD p 0) < ((0 : Nat) : Int) then (1 : Int) else 0) r.length := sumTo_congr fun k _ => by
    have := lastAt_range r (r.getD k 0) k
    by_cases q : lastAt r k (r.getD k 0) < ((0 : Nat) : Int)
    · have hd : decide (lastAt r k (r.getD k 0) = -1) = true := decide_eq_true (by omega)
      rw [if_pos hd, if_pos ⟨Nat.zero_le _, q⟩]
    · have hd : ¬ decide (lastAt r k (r.getD k 0) = -1) = true := fun z => by
        have := of_decide_eq_true z
        omega
      rw [if_neg hd, if_neg (fun z => q z.2)]
  have c2 : (((lastP r).filter (fun x => decide (x = -1))).length : Int) = (ulen r : Int) := c.trans (e.trans h.symm)
  omega
theorem idx_take {r : List Int} {x : Int} {n : Nat} (h : x ∈ r.take n) : (r.take n).idxOf x = r.idxOf x := by
  have hm := List.mem_of_mem_take h
  have hlt : r.idxOf x < n := by
    obtain ⟨j, hj⟩ := List.mem_iff_getElem?.mp h
    rw [List.getElem?_take] at hj
    by_cases q : j < n
    · rw [if_pos q] at hj
      by_cases p : r.idxOf x ≤ j
      · omega
      · exact absurd (List.mem_iff_getElem?.mpr ⟨j, by rw [List.getElem?_take, if_pos (by omega)]; exact hj⟩) (idx_not (ns := r) (x := x))
    · rw [if_neg q] at hj; cases hj
  refine idx_first (by rw [List.getElem?_take, if_pos hlt]; exact idx_get hm) ?_
  rw [List.take_take, Nat.min_eq_left (Nat.le_of_lt hlt)]
  exact idx_not
theorem plainP_take (r : List Int) (n : Nat) : plainP (r.take n) = (plainP r).take n := by
  unfold plainP
  rw [← List.map_take]
  refine List.map_congr_left fun x hx => ?_
  show ((plainAt (r.take n) x : Nat) : Int) = (plainAt r x : Nat)
  unfold plainAt
  have hlt : r.idxOf x ≤ n := by
    have := idx_lt hx
    rw [idx_take hx, List.length_take] at this
    omega
  rw [idx_take hx, List.take_take, Nat.min_eq_left hlt]
end Ur

namespace UrS
open PySem PySem.Spec PyProof.Rows L2
section
variable {prog : Program} {w : World} {A : Around} {E : Value → Shared → Prop} {s : Shared}
/-- xs[:0] = ys, both lists, at the library's level -/
theorem setFront {l sl b : Addr} {xs ys : Array Value} {n m : Nat} {vl vu vs : Value} {Q : Unit → Shared → Prop}
    (h1 : s.heap.get? l = some { cls := .type "list", data := .seq xs n }) (h2 : s.heap.get? b = some { cls := .type "list", data := .seq ys m }) (hne : b ≠ l)
    (h3 : s.heap.IsSliceOf sl vl vu vs) (pl : IsPart vl none) (pu : IsPart vu (some 0)) (ps : IsPart vs none) (hz : xs.size + ys.size ≤ 1000000)
    (q : Q () { s with heap := s.heap.update l (Obj.mapSeq fun zs => zs.extract 0 (0 : Int).toNat ++ ys ++ zs.extract (max (0 : Int) 0).toNat zs.size) }) :
    wpAny (model prog w) A (setItem (.ref l) (.ref sl) (.ref b)) Q E s := by
  have t1 : s.TypeIs (.ref l) "list" := ⟨_, h1, rfl⟩
  have t2 : s.TypeIs (.ref b) "list" := ⟨_, h2, rfl⟩
  obtain ⟨os, g1, g2, g3⟩ := id h3
  have t3 : s.TypeIs (.ref sl) "slice" := ⟨os, g1, g2⟩
  unfold setItem
  try with_reducible refine wpAny_holding ?_
  first | refine wpAny_bind (wpAny_pure ?_) | skip
  refine wpAny_bind (wpAny_sequenceKey t1 (by decide) ?_)
  refine wpAny_bind (wpAny_callSpecial?_slot (name := Str.ofString "__setitem__") t1 PySem.F.slot_list_setitem
    (wpAny_call_entry PySem.F.slot_list_setitem t1 PySem.F.entry_list_setitem ?_ (PySem.args_list_setitem _ _ _)))
  show wpAny _ _ (Builtin.List.listSubscript? (.ref sl) >>= _) _ _ s
  unfold Builtin.List.listSubscript?
  refine wpAny_bind (wpAny_bind (wpAny_specialOf t3 slice_no_index ?_))
  simp only [Option.isNone_none, if_true]
  refine wpAny_pure ?_
  show wpAny _ _ (typeOf (.ref sl) >>= fun _ => _) _ _ s
  refine wpAny_bind (wpAny_typeOf t3 ?_)
  rw [if_neg (by decide)]
  rw [listSliceParts_eq]
  have hst : ¬ ((rawPart none == rawInt 0) = true) := Bool.false_ne_true
  refine wpAny_bind (wpAny_bind (wpAny_field g1 g3 (x := vs) rfl (wpAny_bind (wpAny_listPart ps ?_))))
  rw [if_neg hst]
  refine wpAny_bind (wpAny_field g1 g3 (x := vl) rfl (wpAny_bind (wpAny_listPart pl ?_)))
  refine wpAny_bind (wpAny_field g1 g3 (x := vu) rfl (wpAny_bind (wpAny_listPart pu (wpAny_pure ?_))))
  have hs : ¬ (Builtin.List.listSameRef (.ref l) (.ref b) = true) := fun k => hne (eq_of_beq k).symm
  rw [if_neg hs]
  refine wpAny_bind ?_
  unfold Builtin.List.listAllItems
  refine wpAny_bind (wpAny_typeOf t2 ?_)
  rw [if_pos (by decide)]
  unfold Builtin.List.listItems
  first
  | refine wpAny_bind (wpAny_bind (wpAny_seqItems h2 rfl (wpAny_pure (wpAny_pure ?_))))
  | refine wpAny_bind (wpAny_seqItems h2 rfl (wpAny_pure ?_))
  first
  | refine wpAny_bind (wpAny_bind (wpAny_seqItems h1 rfl (wpAny_pure ?_)))
  | refine wpAny_bind (wpAny_seqItems h1 rfl (wpAny_pure ?_))
  have hb : sliceBounds none (some 0) none xs.size = (0, 0, 1) := by simp [sliceBounds]; omega
  refine wpAny_bind (wpAny_of_eq (sliceIndices_raw none (some 0) none xs.size (by decide)) ?_)
  rw [hb]
  rw [if_pos (by decide)]
  refine wpAny_bind (wpAny_rule ?_)
  have hlong : ¬ (Builtin.List.listTooLong (xs.size + ys.size) = true) := by
    unfold Builtin.List.listTooLong
    rw [sizeLine_eq]
    simp
    omega
  rw [if_neg hlong]
  refine wpAny_bind ?_
  unfold Builtin.List.listUpdate
  refine wpAny_updateSeq h1 rfl ?_ (by rw [sizeLine_eq]; omega) (by rw [sizeLine_eq]; simp; omega)
  refine wpAny_bind ?_
  have he : (xs.extract ((0 : Int), (0 : Int), (1 : Int)).fst.toNat (max ((0 : Int), (0 : Int), (1 : Int)).fst ((0 : Int), (0 : Int), (1 : Int)).2.fst).toNat).toList.reverse = [] := by simp
  rw [he]
  exact wpAny_pure (wpAny_pure ⟨.none, rfl, wpAny_pure q⟩)
end
section
variable {X : Cx}
def gFront (to : TE) : TG := fun v σ H Q => to σ H fun x H1 => ∃ (l b : Addr) (xs ys : List V), x = .ref l ∧ v = .ref b ∧ H1 l = some (.lst xs) ∧ H1 b = some (.lst ys) ∧ b ≠ l ∧ xs.length + ys.length ≤ 1000000 ∧ Q σ (upd H1 l (.lst (ys ++ xs)))
theorem pg_front {o : Expr} {to : TE} {k : Nat} {p1 p3 pos : Pos} (ho : PE X o to)
    (ha : ∀ v, assign (.Subscript o (.Slice none (some (.Constant (.int 0) k p1)) none p3) pos) X.env v = (do
      let ov ← holding [v] (eval o X.env)
      let iv ← holding [v, ov] (eval (.Slice none (some (.Constant (.int 0) k p1)) none p3) X.env)
      standAt pos
      holding [v, ov, iv] (setItem ov iv v)
      release [iv, v, ov] []) := by intro _; rfl) : PG X (.Subscript o (.Slice none (some (.Constant (.int 0) k p1)) none p3) pos) (gFront to) := by
  refine ⟨fun pins s σ H v u Q I r h => ?_⟩
  rw [ha]
  refine wpAny_bind (wpAny_holding (thn (ho.run pins s σ H _ I h) fun ov s1 ⟨x, H1, I1, r1, q1⟩ => ?_))
  refine wpAny_bind (wpAny_holding ?_)
  have hst : PO X (some (.Constant (.int 0) k p1)) (tPart (tC (.int 0))) := po_some pe_int
  refine wpAny_Slice (thn (po_none.run pins s1 σ H1 (fun o H2 => o = none ∧ H2 = H1) I1 ⟨rfl, rfl⟩) fun vl s2 ⟨l0, H2, I2, pl, el, e2⟩ => ?_)
  subst el e2
  refine thn (hst.run pins s2 σ H2 (fun o H3 => o = some 0 ∧ H3 = H2) I2 ⟨0, rfl, rfl, rfl⟩) fun vu s3 ⟨u0, H3, I3, pu, eu, e3⟩ => ?_
  subst eu e3
  refine thn (po_none.run pins s3 σ H3 (fun o H4 => o = none ∧ H4 = H3) I3 ⟨rfl, rfl⟩) fun vs s4 ⟨st, H4, I4, ps, eo, e4⟩ => ?_
  subst eo e4
  obtain ⟨l, b, xs, ys, rfl, rfl, hl, hb, hne, hz, q⟩ := q1
  cases r1
  cases r
  have I5 : Inv X pins σ H4 { s4 with heap := s4.heap.push { cls := .type "slice", data := .fields #[vl, vu, vs] } } := I4.kept (t' := s4.toks) fun c ob z => Heap.get?_push_of_some _ z
  obtain ⟨its, n, rv, ho5, hz5⟩ := I5.lst hl
  obtain ⟨its2, n2, rv2, hb5, _⟩ := I5.lst hb
  have e1 := rv.length
  have e2 := rv2.length
  refine wpAny_bind (wpAny_standAt (wpAny_bind (wpAny_holding ?_)))
  refine setFront ho5 hb5 hne (Heap.IsSliceOf.new _ vl vu vs) pl pu ps (by rw [List.size_toArray, List.size_toArray]; omega) ?_
  refine wpAny_release ⟨σ, _, ?_, q⟩
  refine I5.lstUpd (its' := its2 ++ its) (n' := if ((its2 ++ its).toArray.size == its.toArray.size) = true then n else n + 1) hl ho5 ?_ (rv2.append rv) (by rw [List.length_append]; exact Ur.sz (by omega)) _
  have a1 : its.toArray.extract 0 (Int.toNat 0) = #[] := by simp
  have a2 : its.toArray.extract (max (0 : Int) 0).toNat its.toArray.size = its.toArray := by
    show its.toArray.extract 0 its.toArray.size = its.toArray
    simp
  have a3 : #[] ++ its2.toArray ++ its.toArray = (its2 ++ its).toArray := by simp
  have a4 : its.toArray.extract 0 (Int.toNat 0) ++ its2.toArray ++ its.toArray.extract (max (0 : Int) 0).toNat its.toArray.size = (its2 ++ its).toArray := by rw [a1, a2, a3]
  exact congrArg (fun z : Array Value => ({ cls := .type "list", data := .seq z (if (z.size == its.toArray.size) = true then n else n + 1) } : Obj)) a4
end
end UrS

namespace Ur
open PySem L2
/-! ### first places of a window -/
def firP (ns : List Int) (f b : Int) : List Int := ((List.range (b - f).toNat).filter fun k => decide (lp ns (f.toNat + k) < f)).map fun k => f + (k : Nat)
theorem firP_len {ns : List Int} {f b : Int} (h0 : 0 ≤ f) (h1 : f ≤ b) (h2 : b ≤ ns.length) : (firP ns f b).length = wun ns f b := by
  have e := ulen_win (ns := ns) (f := f.toNat) (b.toNat - f.toNat) (by omega)
  unfold firP
  rw [List.length_map]
  show _ = ulen ((ns.drop f.toNat).take (b.toNat - f.toNat))
  rw [e, show (b - f).toNat = b.toNat - f.toNat from by omega, Int.toNat_of_nonneg h0]
  have e2 : ((lastP ns).drop f.toNat).take (b.toNat - f.toNat) = (List.range (b.toNat - f.toNat)).map fun k => lp ns (f.toNat + k) := by
    refine List.ext_getElem? fun k => ?_
    rw [List.getElem?_take]
    by_cases hk : k < b.toNat - f.toNat
    · rw [if_pos hk, List.getElem?_drop, lastP_get (by omega), List.getElem?_map, List.getElem?_range hk]
      rfl
    · rw [if_neg hk, List.getElem?_eq_none (by rw [List.length_map, List.length_range]; omega)]
  rw [e2, List.filter_map, List.length_map]
  rfl
theorem fir_not {ns : List Int} {f k : Nat} (h : f + k < ns.length) : (!decide (ns.getD (f + k) 0 ∈ (ns.drop f).take k)) = decide (lp ns (f + k) < (f : Int)) := by
  have q := last_in h
  by_cases hl : lp ns (f + k) < (f : Int)
  · have hm : ¬ ns.getD (f + k) 0 ∈ (ns.drop f).take k := fun z => q.mp z hl
    rw [decide_eq_true hl, decide_eq_false hm]; rfl
  · have hm : ns.getD (f + k) 0 ∈ (ns.drop f).take k := q.mpr hl
    rw [decide_eq_false hl, decide_eq_true hm]; rfl
/-! ### frames but at some places -/
def ButL (L : Addr → Prop) (H H' : Hp) : Prop := ∀ b o, ¬ L b → H b = some o → H' b = some o
theorem ButL.refl {L : Addr → Prop} {H : Hp} : ButL L H H := fun _ _ _ e => e
theorem ButL.trans {L : Addr → Prop} {H H1 H2 : Hp} (s : ButL L H H1) (t : ButL L H1 H2) : ButL L H H2 := fun b o n e => t b o n (s b o n e)
theorem ButL.same {L : Addr → Prop} {H H' : Hp} (s : Same H H') : ButL L H H' := fun b o _ e => s b o e
theorem ButL.but {L : Addr → Prop} {H H' : Hp} {a : Addr} (s : But a H H') (l : L a) : ButL L H H' := fun b o n e => s b o (fun k => n (k ▸ l)) e
structure PairL (L : Addr → Prop) (H : Hp) (p : Addr) : Prop where
  both : ¬ L p ∧ ∃ (a b : Addr) (ns : List Int), ¬ L a ∧ ¬ L b ∧ H p = some (.lst [.ref a, .ref b]) ∧ H a = some (.lst (ns.map V.int)) ∧ H b = some (.lst (ns.map V.int))
structure HeldL (L : Addr → Prop) (h : Addr) (H : Hp) (n : Nat) : Prop where
  all : ∃ ps : List Addr, H h = some (.lst (ps.map V.ref)) ∧ ps.length ≤ n ∧ ∀ p ∈ ps, PairL L H p
theorem PairL.step {L : Addr → Prop} {p : Addr} {H H' : Hp} (k : PairL L H p) (b : ButL L H H') : PairL L H' p := by
  obtain ⟨n, x, y, ns, hx, hy, e, e1, e2⟩ := k.both
  exact ⟨n, x, y, ns, hx, hy, b _ _ n e, b _ _ hx e1, b _ _ hy e2⟩
theorem HeldL.step {L : Addr → Prop} {h : Addr} {H H' : Hp} {n : Nat} (k : HeldL L h H n) (b : ButL L H H') (hh : ∀ xs, H h = some (.lst xs) → H' h = some (.lst xs)) : HeldL L h H' n := by
  obtain ⟨ps, e, l, f⟩ := k.all
  exact ⟨ps, hh _ e, l, fun p hp => (f p hp).step b⟩
theorem HeldL.mono {L : Addr → Prop} {h : Addr} {H : Hp} {n m : Nat} (k : HeldL L h H n) (l : n ≤ m) : HeldL L h H m := by
  obtain ⟨ps, e, q, f⟩ := k.all
  exact ⟨ps, e, Nat.le_trans q l, f⟩
theorem HeldL.sub {L L' : Addr → Prop} {h : Addr} {H : Hp} {n : Nat} (k : HeldL L h H n) (l : ∀ b, L' b → L b) : HeldL L' h H n := by
  obtain ⟨ps, e, q, f⟩ := k.all
  refine ⟨ps, e, q, fun p hp => ?_⟩
  obtain ⟨n, x, y, ns, hx, hy, g⟩ := (f p hp).both
  exact ⟨fun z => n (l _ z), x, y, ns, fun z => hx (l _ z), fun z => hy (l _ z), g⟩
/-- .. of a place that is new, too -/
theorem HeldL.more {L : Addr → Prop} {h a : Addr} {H : Hp} {n : Nat} (k : HeldL L h H n) (ha : H a = none) : HeldL (fun x => L x ∨ x = a) h H n := by
  obtain ⟨ps, e, q, f⟩ := k.all
  refine ⟨ps, e, q, fun p hp => ?_⟩
  obtain ⟨n, x, y, ns, hx, hy, g1, g2, g3⟩ := (f p hp).both
  have ne : ∀ z (o : HO), H z = some o → z ≠ a := fun z o e1 e2 => by rw [e2, ha] at e1; cases e1
  exact ⟨fun z => z.elim n (ne _ _ g1), x, y, ns, fun z => z.elim hx (ne _ _ g2), fun z => z.elim hy (ne _ _ g3), g1, g2, g3⟩
end Ur
namespace Ur
open PySem L2
theorem Rdy.butL {C : Addr} {L L' : Addr → Prop} {H H' : Hp} {o : Addr} {ns : List Int} (r : Rdy C L H o ns) (l : ∀ b, L' b → L b) (s : ButL L' H H') : Rdy C L H' o ns := by
  obtain ⟨dx, la, na, e1, e2, e3, f⟩ := r.all
  exact ⟨dx, la, na, s _ _ (fun z => (f o (l _ z)).1 rfl) e1, s _ _ (fun z => (f la (l _ z)).2.1 rfl) e2, s _ _ (fun z => (f na (l _ z)).2.2 rfl) e3, f⟩
theorem HeldL.grow {L : Addr → Prop} {h p : Addr} {H H' : Hp} {n : Nat} {ps : List Addr} (l : ps.length ≤ n) (f : ∀ p ∈ ps, PairL L H p) (b : ButL L H H') (e : H' h = some (.lst ((ps ++ [p]).map V.ref))) (k : PairL L H' p) : HeldL L h H' (n + 1) :=
  ⟨ps ++ [p], e, by rw [List.length_append]; exact Nat.succ_le_succ l, fun q hq => by
    rcases List.mem_append.mp hq with z | z
    · exact (f q z).step b
    · rw [List.mem_singleton.mp z]; exact k⟩
theorem ButL.at_ {L : Addr → Prop} {H H' : Hp} {a : Addr} {o : HO} (s : ButL L H H') (l : L a) : ButL L H (upd H' a o) := fun b u n e => by
  have ne : b ≠ a := fun k => n (by rw [k]; exact l)
  rw [upd_ne ne]; exact s b u n e
theorem ButL.new {L : Addr → Prop} {H H' : Hp} {a : Addr} {o : HO} (s : ButL L H H') (na : H' a = none) : ButL L H (upd H' a o) := fun b u n e => by
  have e' := s b u n e
  rw [upd_ne (ne_of_none e' na)]; exact e'
end Ur
namespace Ur
open PySem L2
theorem PairL.more {L : Addr → Prop} {H : Hp} {p a : Addr} (k : PairL L H p) (ha : H a = none) : PairL (fun x => L x ∨ x = a) H p := by
  obtain ⟨n, x, y, ns, hx, hy, g1, g2, g3⟩ := k.both
  have ne : ∀ z (o : HO), H z = some o → z ≠ a := fun z o e1 e2 => by rw [e2, ha] at e1; cases e1
  exact ⟨fun z => z.elim n (ne _ _ g1), x, y, ns, fun z => z.elim hx (ne _ _ g2), fun z => z.elim hy (ne _ _ g3), g1, g2, g3⟩
theorem ButL.out {L : Addr → Prop} {H H' : Hp} {a : Addr} (s : ButL (fun x => L x ∨ x = a) H H') (ha : H a = none) : ButL L H H' := fun b o n e =>
  s b o (fun z => z.elim n (fun k => by rw [k, ha] at e; cases e)) e
theorem wun_le {ns : List Int} {f b : Int} : wun ns f b ≤ ns.length := by
  refine Nat.le_trans (ulen_le _) ?_
  unfold win
  rw [List.length_take, List.length_drop]
  omega
end Ur

namespace Ur
open PySem L2
/-! ### xs[l:u:c], c above 0 -/
def tStep3 (K : PySem.W.Frag) (te tl tu tc : TE) : TE := fun σ H Q => te σ H fun x H1 => tPart tl σ H1 fun l H2 => tPart tu σ H2 fun u H3 => tPart tc σ H3 fun c H4 =>
  ∃ a xs c', x = .ref a ∧ c = some c' ∧ 0 < c' ∧ SqL K H4 a xs ∧ ∀ p ys, (∀ y ∈ ys, y ∈ xs) → ys.length ≤ xs.length → H4 p = none → Q (.ref p) (upd H4 p (.lst ys))
open PySem.Spec PyProof.Rows in
theorem pe_step3 {X : Cx} {e el eu ec : Expr} {te tl tu tc : TE} {p3 pos : Pos} (he : PE X e te) (hl : PE X el tl) (hu : PE X eu tu) (hc : PE X ec tc) : PE X (.Subscript e (.Slice (some el) (some eu) (some ec) p3) pos) (tStep3 X.K te tl tu tc) := by
  refine ⟨fun pins s σ H Q I h => ?_⟩
  refine Subscript_ (thn (he.run pins s σ H _ I h) fun v s1 ⟨x, H1, I1, r1, q1⟩ => ?_)
  refine wpAny_Slice (thn ((po_some hl).run pins s1 σ H1 _ I1 q1) fun vl s2 ⟨l, H2, I2, pl, q2⟩ => ?_)
  refine thn ((po_some hu).run pins s2 σ H2 _ I2 q2) fun vu s3 ⟨u, H3, I3, pu, q3⟩ => ?_
  refine thn ((po_some hc).run pins s3 σ H3 _ I3 q3) fun vs s4 ⟨c, H4, I4, ps, q4⟩ => ?_
  obtain ⟨a, xs, c', rfl, rfl, hpos, hx, q⟩ := q4
  cases r1
  have I5 : Inv X pins σ H4 { s4 with heap := s4.heap.push { cls := .type "slice", data := .fields #[vl, vu, vs] } } := I4.kept (t' := s4.toks) fun b ob z => Heap.get?_push_of_some _ z
  obtain ⟨its, r, ht, hz⟩ := I5.list hx
  have hlen := r.length
  show wpAny (model X.prog X.w) X.A (subscriptTail e (.Slice (some el) (some eu) (some ec) p3) (.ref a) (.ref s4.heap.objs.size)) (EP X pins σ Q) X.xe { s4 with heap := s4.heap.push { cls := .type "slice", data := .fields #[vl, vu, vs] } }
  refine tail_any (ops := [.ref a, .ref s4.heap.objs.size]) ht.isList.typeIs (PySem.slot_list_getitem.lookup) ?_ (by with_unfolding_all rfl)
  refine wpAny_getItem_list_slice ht.isList (Heap.IsSliceOf.new _ vl vu vs) pl pu ps (fun k => by cases k; omega) ?_ (by rw [List.size_toArray]; omega)
  have hid : ∀ n : Nat, (sliceRange (sliceBounds l u (some c') n).1 (sliceBounds l u (some c') n).2.1 (sliceBounds l u (some c') n).2.2).length ≤ n := fun n => by
    have e1 : (sliceBounds l u (some c') n).2.2 = c' := rfl
    refine sliceRange_length_le _ _ _ n (fun _ => ⟨?_, ?_⟩) (fun k => absurd (by rw [e1]; exact hpos) k)
    · unfold sliceBounds
      cases l with
      | none => simp [hpos]
      | some i => simp [hpos]; omega
    · unfold sliceBounds
      cases u with
      | none => simp [hpos]
      | some i => simp [hpos]; omega
  have hid2 := hid its.toArray.size
  unfold slicePick
  generalize hI : sliceRange (sliceBounds l u (some c') its.toArray.size).1 (sliceBounds l u (some c') its.toArray.size).2.1 (sliceBounds l u (some c') its.toArray.size).2.2 = ids at hid2
  have hv := vals_pick r ids
  have hly : (ids.filterMap fun i => xs[i]?).length ≤ xs.length := by
    refine Nat.le_trans (List.length_filterMap_le _ _) ?_
    rw [List.size_toArray] at hid2
    omega
  refine ⟨.ref _, _, I5.laid (t' := s4.toks) (o := .lst (ids.filterMap fun i => xs[i]?)) (fun b ob z => Heap.get?_push_of_some _ z) (Nat.le_refl _) ?_, rfl, q _ _ (fun y hy => ?_) hly (I5.hok.fresh (Nat.le_refl _))⟩
  · exact ⟨by omega, _, 0, hv, Heap.get?_push_size _ rfl⟩
  · obtain ⟨i, _, e⟩ := List.mem_filterMap.mp hy
    exact List.mem_of_getElem? e
end Ur

/-! list(reversed(l)), l a list: a new list -/
namespace UrV
open PySem PySem.W PySem.Calls PyProof.Rows RT
section
variable {prog : Program} {w : World} {A : Around} {E : Value → Shared → Prop} {s : Shared}
theorem rv_extend {R : Result → Shared → Prop} {it l S : Addr} {items : Array Value} (hh : A.handled = none) (hit : s.heap.IsRevIter it l ((items.size : Int) - 1)) (hl : s.heap.IsList l items) (hne : l ≠ it) (hn : items.size ≤ sizeLine) (hSi : S ≠ it) (hSl : S ≠ l) (res : Value) (c₀ : Nat)
    (hS : s.heap.get? S = some { cls := .type "list", data := .seq #[] c₀ })
    (hR : ∀ h' tk acc c, (∀ b o, b ≠ S → b ≠ it → s.heap.get? b = some o → h'.get? b = some o) → h'.get? S = some { cls := .type "list", dict := none, data := .seq acc c, slots := #[] } → ItemsOf (fun i v => items[items.size - 1 - i]? = some v) acc items.size → R (.ok (.ret res)) { s with heap := h', toks := tk }) :
    wpAny (model prog w) A.in1 (Builtin.List.listExtendWith (.ref S) (.ref it) res)
      (fun fin s' => match fin with | .done f => R (.ok f) s' | .again c' => c'.quiet = true ∧ codeAny (model prog w) A c' R s') (fun e s' => R (.error e) s') s := by
  have W := (Walks.listRev (prog := prog) (w := w) (A := A.in1) hh it l hne items).toS
  have hSf : S ∉ [it, l] := by simp only [List.mem_cons, List.not_mem_nil, or_false, not_or]; exact ⟨hSi, hSl⟩
  have hT : s.TypeIs (.ref it) "list_reverseiterator" := Heap.IsRevIter.typeIs hit
  have h1 : Builtin.List.listSameRef (.ref S) (.ref it) = false := by simp [Builtin.List.listSameRef, hSi]
  unfold Builtin.List.listExtendWith
  refine wpAny_bind (wpAny_typeOf hT ?_)
  rw [if_neg (by rw [h1]; decide)]
  refine wpAny_bind (wpAny_pyIter_revIter hit ?_)
  refine wpAny_bind (wpAny_holding ?_)
  unfold Builtin.List.listLengthHint
  refine wpAny_bind (wpAny_specialOf hT nolen_lri ?_)
  show wpAny _ A.in1 (specialOf (Value.ref it) (Str.ofString "__length_hint__") >>= _) _ _ _
  refine wpAny_bind (wpAny_specialOf hT hint_lri ?_)
  generalize hid : ("list_reverseiterator.__length_hint__" : String) = id0
  wp_delta
  rw [show splitId id0 = some ("list_reverseiterator", "__length_hint__") from by subst hid; decide +kernel]
  subst hid
  refine wpAny_bind (wpAny_isInstance (b := true) hT (by rw [isSubtype_type]; kernel_rfl) ?_)
  refine wpAny_pure ?_
  rw [if_neg (by decide)]
  have e0 : ((items.size : Nat) : Int) - 1 - ((0 : Nat) : Int) = (items.size : Int) - 1 := by omega
  refine wpAny_pure ⟨plainId_quiet PySem.F.plain_extend_loop _, codeAny_extend_loopS W hn _ hSf _ items.size 0 _ _ _ rfl (Nat.zero_le _) ⟨Nat.zero_le _, by rw [e0]; exact hit, hl⟩ hS (ItemsOf.nil _) fun s' acc' c' hm hS' hacc => ?_⟩
  rw [Moved.eq_with hm]
  refine hR s'.heap s'.toks acc' c' (fun b o hb1 hb2 e => hm.heap b o (fun hmem => ?_) e) hS' hacc
  rcases List.mem_cons.mp hmem with e' | hmem
  · exact hb1 e'
  · exact hb2 (List.mem_singleton.mp hmem)
theorem call_list_rev {it l : Addr} {items : Array Value} {Q : Value → Shared → Prop} (hh : A.handled = none) (hit : s.heap.IsRevIter it l ((items.size : Int) - 1)) (hl : s.heap.IsList l items) (hne : l ≠ it) (hn : items.size ≤ sizeLine)
    (hQ : ∀ (h' : Heap) (tk c : Nat) (acc : Array Value), (∀ b o, b ≠ it → s.heap.get? b = some o → h'.get? b = some o) → ItemsOf (fun i v => items[items.size - 1 - i]? = some v) acc items.size →
      h'.get? s.heap.objs.size = some { cls := .type "list", dict := none, data := .seq acc c, slots := #[] } → Q (.ref s.heap.objs.size) { s with heap := h', toks := tk }) :
    wpAny (model prog w) A (call (.type "list") [.ref it]) Q E s := by
  refine callType_codes (Q₁ := fun obj s₁ => obj = .ref s.heap.objs.size ∧ s₁ = { s with heap := s.heap.push { cls := .type "list", data := .seq #[] } }) PySem.F.called_list (PySem.F.typeCall_list_1 _) PySem.F.entry_list_init
    (code_list_new _ ⟨rfl, rfl⟩) fun obj s₁ h₁ => ?_
  obtain ⟨rfl, rfl⟩ := h₁
  have hS : (s.heap.push { cls := .type "list", data := .seq #[] }).get? s.heap.objs.size = some { cls := .type "list", data := .seq #[] } := Heap.get?_push_size _ rfl
  have hil : it < s.heap.objs.size := let ⟨_, z, _⟩ := hit; Heap.lt_size z
  have hll : l < s.heap.objs.size := let ⟨_, z, _⟩ := hl; Heap.lt_size z
  refine ⟨⟨_, hS, rfl⟩, PySem.F.args_list_init_2 _ _, ?_⟩
  show wpAny _ _ (do let old ← Builtin.List.listItems (.ref s.heap.objs.size); Builtin.List.listUpdate (.ref s.heap.objs.size) (fun _ => #[]); letGo old.toList.reverse; Builtin.List.listExtendWith (.ref s.heap.objs.size) (.ref it) .none) _ _ _
  refine wpAny_bind ?_
  unfold Builtin.List.listItems
  refine wpAny_bind (wpAny_seqItems hS rfl (wpAny_pure ?_))
  show wpAny _ _ (updateSeq s.heap.objs.size (fun _ => #[]) >>= fun _ => letGo (#[] : Array Value).toList.reverse >>= fun _ => Builtin.List.listExtendWith (.ref s.heap.objs.size) (.ref it) .none) _ _ _
  refine wpAny_bind (wpAny_updateSeq hS rfl ?_)
  have hS₂ := Heap.get?_update_self (Obj.mapSeq (fun _ => (#[] : Array Value))) hS rfl
  have oth : ∀ b o, s.heap.get? b = some o → ((s.heap.push { cls := .type "list", data := .seq #[] }).update s.heap.objs.size (Obj.mapSeq (fun _ => (#[] : Array Value)))).get? b = some o :=
    fun b o z => (Heap.get?_update_other _ _ (Nat.ne_of_gt (Heap.lt_size z))).trans (Heap.get?_push_of_some _ z)
  refine wpAny_bind (wpAny_letGo ?_)
  refine rv_extend (A := A.in1) hh (hit.at fun o z => oth it o z) (hl.at fun o z => oth l o z) hne hn (Nat.ne_of_gt hil) (Nat.ne_of_gt hll) .none _ hS₂ fun h' tk acc c hk hS' hacc => ?_
  exact ⟨rfl, hQ h' tk c acc (fun b o h1 z => hk b o (Nat.ne_of_lt (Heap.lt_size z)) h1 (oth b o z)) hacc hS'⟩
end
open PySem.Spec L2
def tListRev (K : PySem.W.Frag) (te : TE) : TE := fun σ H Q => te σ H fun v H1 => ∃ (a : Addr) (xs : List V), v = .ref a ∧ SqL K H1 a xs ∧ ∀ q, H1 q = none → Q (.ref q) (upd H1 q (.lst xs.reverse))
theorem pe_listRev {X : Cx} {K : PySem.W.Frag} {e : Expr} {te : TE} {p p2 pos pos2 : Pos} (hk : X.K = K) (hc : X.calm = true) (hm : X.mg "list" = none) (hm2 : X.mg "reversed" = none) (he : PE X e te) (hg : Gl X "list" := by rfl) (hg2 : Gl X "reversed" := by rfl)
    (hs : starEach [e] X.env = (false, eval e X.env) :: starEach [] X.env := by rfl)
    (hs2 : starEach [.Call (.Name "reversed" p2) [e] [] pos2] X.env = (false, eval (.Call (.Name "reversed" p2) [e] [] pos2) X.env) :: starEach [] X.env := by rfl) :
    PE X (.Call (.Name "list" p) [.Call (.Name "reversed" p2) [e] [] pos2] [] pos) (tListRev K te) := by
  subst hk
  refine ⟨fun pins s σ H Q I h => ?_⟩
  refine Call_ (ld_blt I hg hm boot_list (PyProof.Rows.callWith_type1 (args_cons (Call_ (ld_blt I hg2 hm2 PyProof.Rows.boot_reversed (PyProof.Rows.callWith_type1 (args_cons (thn (he.run pins s σ H _ I h) fun u s1 ⟨v, H1, I1, r1, q1⟩ => args_nil ?_) hs) hs rfl))) hs2) hs2 rfl))
  obtain ⟨a, xs, ev, hq, q⟩ := q1
  subst ev
  obtain rfl : u = Value.ref a := r1
  obtain ⟨its, rv, p', hz⟩ := I1.list hq
  refine call_reversed_list p'.isList (args_nil ?_)
  have hl := p'.isList
  obtain ⟨ol, hol, _⟩ := id hl
  have hne : a ≠ s1.heap.objs.size := Nat.ne_of_lt (Heap.lt_size hol)
  have hn : its.toArray.size ≤ sizeLine := by rw [List.size_toArray, ← rv.length]; exact hz
  refine call_list_rev (s := { s1 with heap := s1.heap.push (revObj a ((its.toArray.size : Int) - 1)) }) (I1.ok.hd hc) ⟨_, Heap.get?_push_size _ rfl, rfl, rfl⟩ (hl.push _) hne hn fun h' tk c acc hk hi hS => ?_
  have hsz : (s1.heap.push (revObj a ((its.toArray.size : Int) - 1))).objs.size = s1.heap.objs.size + 1 := Heap.size_push _ _
  have hsz1 : s1.heap.objs.size ≤ (s1.heap.push (revObj a ((its.toArray.size : Int) - 1))).objs.size := by omega
  refine ⟨.ref _, upd H1 _ (.lst xs.reverse), I1.laid (t' := tk) (fun b o e => hk b o (Nat.ne_of_lt (Heap.lt_size e)) (Heap.get?_push_of_some _ e)) hsz1 (show ObjOk X.prog X.w _ _ _ (.lst xs.reverse) from ⟨by rw [List.length_reverse]; exact hz, acc.toList, c, vals_rev rv hi, ?_⟩), rfl, q _ (I1.hok.fresh hsz1)⟩
  rw [Array.toArray_toList]
  exact hS
end UrV

namespace Ur
open PySem L2
/-! ### windows of one width -/
/-- how many unlike numbers all windows of a width have -/
def ofW (ns : List Int) (w : Nat) : List Int := (List.range (ns.length + 1 - w)).map fun f => (wunN ns f (f + w) : Int)
theorem ofW_len (ns : List Int) (w : Nat) : (ofW ns w).length = ns.length + 1 - w := by simp [ofW]
theorem ofW_get {ns : List Int} {w f : Nat} (h : f + w ≤ ns.length) : (ofW ns w)[f]? = some (wunN ns f (f + w) : Int) := by
  unfold ofW
  rw [List.getElem?_map, List.getElem?_range (by omega)]
  rfl
theorem ofW_getD {ns : List Int} {w f : Nat} (h : f + w ≤ ns.length) : (ofW ns w).getD f 0 = (wunN ns f (f + w) : Int) := getD_of (ofW_get h)
/-- a window one further on -/
theorem wunN_slide {ns : List Int} {f w : Nat} (h : f + w < ns.length) : (wunN ns (f + 1) (f + 1 + w) : Int) = (wunN ns f (f + w) : Int) - (if ((f + w : Nat) : Int) ≤ nx ns f then 1 else 0) + (if lp ns (f + w) ≤ (f : Int) then 1 else 0) := by
  rcases Nat.eq_zero_or_pos w with rfl | hw
  · have h1 := lp_range ns f
    have e1 : ((f + 0 : Nat) : Int) ≤ nx ns f := by
      unfold nx
      rcases nextUp_spec ns f ns.length (Nat.le_refl _) with ⟨e, _⟩ | ⟨v, e, h1, _⟩ <;> rw [e] <;> omega
    simp only [Nat.add_zero] at e1 ⊢
    rw [wunN_none, wunN_none, if_pos e1, if_pos (show lp ns f ≤ (f : Int) by omega)]
    rfl
  · have d := wunN_down (ns := ns) (p := f) (b := f + w) (by omega) (by omega)
    have u := wunN_up (ns := ns) (f := f + 1) (b := f + w) (by omega) h
    rw [show f + w + 1 = f + 1 + w from by omega] at u
    rw [u, d]
    have e : (lastAt ns (f + w) (ns.getD (f + w) 0) < ((f + 1 : Nat) : Int)) = (lp ns (f + w) ≤ (f : Int)) := by
      unfold lp
      exact propext ⟨fun h => by omega, fun h => by omega⟩
    show ((_ + (if lastAt ns (f + w) (ns.getD (f + w) 0) < ((f + 1 : Nat) : Int) then 1 else 0) : Nat) : Int) = _
    simp only [e]
    show _ = ((_ + (if ((f + w : Nat) : Int) ≤ nextUp ns f ns.length then 1 else 0) : Nat) : Int) - (if ((f + w : Nat) : Int) ≤ nextUp ns f ns.length then 1 else 0) + _
    (repeat' split) <;> omega
/-- the sums for each width -/
def sumsW (ns : List Int) : List Int := (List.range (ns.length + 1)).map fun w => (ofW ns w).sum
/-- a line of the law's table: the windows from f on -/
def lineW (ns : List Int) (f : Nat) : List Int := (List.range (ns.length - f + 1)).map fun k => (wunN ns f (f + k) : Int)
theorem lineW_len (ns : List Int) (f : Nat) : (lineW ns f).length = ns.length - f + 1 := by simp [lineW]
theorem lineW_get {ns : List Int} {f k : Nat} (h : k < ns.length - f + 1) : (lineW ns f)[k]? = some (wunN ns f (f + k) : Int) := by
  unfold lineW
  rw [List.getElem?_map, List.getElem?_range h]
  rfl
theorem lineW_getD {ns : List Int} {f k : Nat} (h : k < ns.length - f + 1) : (lineW ns f).getD k 0 = (wunN ns f (f + k) : Int) := getD_of (lineW_get h)
/-- what is due of a width, behind the lines ahead of f and k numbers of the line f -/
def dueW (ns : List Int) (f k w : Nat) : Int := sumTo (fun g => if g + w ≤ ns.length then (wunN ns g (g + w) : Int) else 0) f + if w < k then (wunN ns f (f + w) : Int) else 0
theorem dueW_up {ns : List Int} {f w : Nat} (hf : f ≤ ns.length) : dueW ns f (ns.length - f + 1) w = dueW ns (f + 1) 0 w := by
  unfold dueW
  show _ = sumTo _ f + (if f + w ≤ ns.length then (wunN ns f (f + w) : Int) else 0) + 0
  by_cases h : w < ns.length - f + 1
  · rw [if_pos h, if_pos (by omega)]; omega
  · rw [if_neg h, if_neg (by omega)]; omega
theorem dueW_end {ns : List Int} {w : Nat} (hw : w ≤ ns.length) : dueW ns (ns.length + 1) 0 w = (ofW ns w).sum := by
  unfold dueW ofW
  rw [sum_range, sumTo_cut _ (show ns.length + 1 - w ≤ ns.length + 1 by omega)]
  rw [show (if w < 0 then (wunN ns (ns.length + 1) (ns.length + 1 + w) : Int) else 0) = 0 from rfl, Int.add_zero]
  exact sumTo_congr fun g hg => by
    by_cases h : g + w ≤ ns.length
    · rw [if_pos h, if_pos (by omega)]
    · rw [if_neg h, if_neg (by omega)]
/-! ### told things that are held, each a tuple of two lists of the same ints -/
structure PairT (h : Addr) (H : Hp) (p : Addr) : Prop where
  both : ∃ (a b : Addr) (ns : List Int), a ≠ h ∧ b ≠ h ∧ p ≠ h ∧ H p = some (.tup [.ref a, .ref b]) ∧ H a = some (.lst (ns.map V.int)) ∧ H b = some (.lst (ns.map V.int))
structure HeldT (h : Addr) (H : Hp) (n : Nat) : Prop where
  all : ∃ ps : List Addr, H h = some (.lst (ps.map V.ref)) ∧ ps.length ≤ n ∧ ∀ p ∈ ps, PairT h H p
theorem PairT.step {h p : Addr} {H H' : Hp} (k : PairT h H p) (b : But h H H') : PairT h H' p := by
  obtain ⟨x, y, ns, hx, hy, hp, e, e1, e2⟩ := k.both
  exact ⟨x, y, ns, hx, hy, hp, b _ _ hp e, b _ _ hx e1, b _ _ hy e2⟩
theorem HeldT.same {h : Addr} {H H' : Hp} {n : Nat} (k : HeldT h H n) (s : Same H H') : HeldT h H' n := by
  obtain ⟨ps, e, l, f⟩ := k.all
  exact ⟨ps, s _ _ e, l, fun p hp => (f p hp).step (Same.but s)⟩
theorem HeldT.snoc {h p : Addr} {H H' : Hp} {m n : Nat} {ps : List Addr} (e : H h = some (.lst (ps.map V.ref))) (l : ps.length ≤ n) (f : ∀ p ∈ ps, PairT h H p) (b : But h H H') (e' : H' h = some (.lst (ps.map V.ref ++ [V.ref p]))) (g : PairT h H' p) (hm : n + 1 ≤ m) : HeldT h H' m :=
  ⟨ps ++ [p], by rw [e', List.map_append]; rfl, by rw [List.length_append]; exact Nat.le_trans (Nat.succ_le_succ l) hm, fun q hq => by
    rcases List.mem_append.mp hq with k | k
    · exact (f q k).step b
    · rw [List.mem_singleton.mp k]; exact g⟩
end Ur
namespace Ur
open PySem L2
theorem putK_same {kvs : List (Key × V)} {k : Key} {v : V} (h : (valV kvs k).isSome = true) : (putK kvs k v).length = kvs.length := by
  have e : (kvs.any fun kv => decide (kv.1 = k)) = true := (valV_any k kvs).trans h
  unfold putK
  rw [e, if_pos rfl, List.length_map]
theorem putK_none {kvs : List (Key × V)} {k : Key} {v : V} (h : (valV kvs k).isSome = false) : (putK kvs k v).length = kvs.length + 1 :=
  putK_len (Option.not_isSome_iff_eq_none.mp (by rw [h]; exact Bool.false_ne_true))
/-- a dict of the ints that were met -/
structure Met (kvs : List (Key × V)) (W : List Int) : Prop where
  has : ∀ z : Int, (valV kvs (Sum.inl z)).isSome = decide (z ∈ W)
  len : kvs.length = ulen W
theorem Met.nil : Met [] [] := ⟨fun z => by simp [valV_nil], rfl⟩
theorem Met.put {kvs : List (Key × V)} {W : List Int} (m : Met kvs W) (x : Int) (v : V) : Met (putK kvs (Sum.inl x) v) (W ++ [x]) := by
  refine ⟨fun z => ?_, ?_⟩
  · rw [val_put]
    by_cases h : z = x
    · subst h; simp
    · rw [if_neg h, m.has]; simp [h]
  · rw [ulen_snoc]
    by_cases h : x ∈ W
    · rw [if_pos h, putK_same (by rw [m.has]; exact decide_eq_true h), m.len]
    · rw [if_neg h, putK_none (by rw [m.has]; exact decide_eq_false h), m.len]
end Ur
namespace Ur
open PySem L2
/-- what is due of all widths -/
def dueL (ns : List Int) (f k : Nat) : List Int := (List.range (ns.length + 1)).map (dueW ns f k)
theorem dueL_len (ns : List Int) (f k : Nat) : (dueL ns f k).length = ns.length + 1 := by simp [dueL]
theorem dueL_get {ns : List Int} {f k w : Nat} (h : w < ns.length + 1) : (dueL ns f k)[w]? = some (dueW ns f k w) := by
  unfold dueL
  rw [List.getElem?_map, List.getElem?_range h]
  rfl
theorem dueL_0 (ns : List Int) : dueL ns 0 0 = List.replicate (ns.length + 1) 0 := by
  refine List.ext_getElem? fun w => ?_
  by_cases h : w < ns.length + 1
  · rw [dueL_get h, List.getElem?_replicate, if_pos h]
    rfl
  · rw [List.getElem?_eq_none (by rw [dueL_len]; omega), List.getElem?_eq_none (by rw [List.length_replicate]; omega)]
theorem dueL_set {ns : List Int} {f k : Nat} (h : k < ns.length - f + 1) : (dueL ns f k).set k ((dueL ns f k).getD k 0 + (lineW ns f).getD k 0) = dueL ns f (k + 1) := by
  refine List.ext_getElem? fun w => ?_
  by_cases hw : w < ns.length + 1
  · rw [List.getElem?_set, dueL_len, dueL_get hw, dueL_get hw, getD_of (dueL_get (show k < ns.length + 1 by omega)), lineW_getD h]
    unfold dueW
    by_cases e : k = w
    · subst e
      rw [if_pos rfl, if_pos (by omega), if_neg (Nat.lt_irrefl _), if_pos (Nat.lt_succ_self _)]
      simp
    · rw [if_neg e]
      by_cases c : w < k
      · rw [if_pos c, if_pos (by omega)]
      · rw [if_neg c, if_neg (by omega)]
  · rw [List.getElem?_eq_none (by rw [List.length_set, dueL_len]; omega), List.getElem?_eq_none (by rw [dueL_len]; omega)]
theorem dueL_up {ns : List Int} {f : Nat} (hf : f ≤ ns.length) : dueL ns f (ns.length - f + 1) = dueL ns (f + 1) 0 :=
  List.map_congr_left fun _ _ => dueW_up hf
theorem dueL_end (ns : List Int) : dueL ns (ns.length + 1) 0 = sumsW ns :=
  List.map_congr_left fun _ h => dueW_end (by have := List.mem_range.mp h; omega)
theorem sumsW_len (ns : List Int) : (sumsW ns).length = ns.length + 1 := by simp [sumsW]
end Ur

namespace Ur
open PySem PySem.Spec PyProof.Rows L2
/-- xs[i], by values: for xs[i] += e -/
theorem get_list {X : Cx} : PGet X (rIxL X.K) := by
  intro pins s σ H x y v u Q I rx ry h
  obtain ⟨p, xs, i, z, rfl, rfl, hq, he, q⟩ := h
  cases rx
  obtain ⟨t, rfl⟩ := ry
  obtain ⟨its, r, pl, hz⟩ := I.list hq
  obtain ⟨j, h1, h2, h3, h4, h5⟩ := atI_get he
  obtain ⟨w, ew, rw'⟩ := r.get h2
  have hl := r.length
  have hn := line63
  have fin : EP X pins σ Q w s := ⟨z, H, I, rw', q⟩
  by_cases h0 : 0 ≤ i
  · have hj : i.toNat = j := by
      rw [seqIndex_of h0 h5] at h1
      exact Option.some.inj h1
    exact wpAny_getItem_list pl.isList h0 (by omega) (by rw [hj]; simpa using ew) fin
  · have hj : (i + (its.toArray.size : Int)).toNat = j := by
      rw [seqIndex_neg (by omega) h4] at h1
      rw [List.size_toArray, ← hl]
      exact Option.some.inj h1
    exact wpAny_getItem_list_neg pl.isList (by omega) (by rw [List.size_toArray] <;> omega) (by omega) (by rw [hj]; simpa using ew) fin
end Ur

namespace Ur
open PySem L2
/-! ### things of a known kind -/
def Kind (H : Hp) (v : V) : Prop :=
  (∃ i, v = .int i) ∨ (∃ b, v = .bl b) ∨ (∃ x, v = .str x) ∨ v = .non ∨ (∃ p xs, v = .ref p ∧ H p = some (.lst xs)) ∨ (∃ p xs, v = .ref p ∧ H p = some (.tup xs)) ∨ ∃ p kvs, v = .ref p ∧ H p = some (.dK kvs)
theorem Kind.int {H : Hp} {i : Int} : Kind H (.int i) := .inl ⟨i, rfl⟩
theorem Kind.bl {H : Hp} {b : Bool} : Kind H (.bl b) := .inr (.inl ⟨b, rfl⟩)
theorem Kind.str {H : Hp} {x : Str} : Kind H (.str x) := .inr (.inr (.inl ⟨x, rfl⟩))
theorem Kind.non {H : Hp} : Kind H .non := .inr (.inr (.inr (.inl rfl)))
theorem Kind.lst {H : Hp} {p : Addr} {xs : List V} (e : H p = some (.lst xs)) : Kind H (.ref p) := .inr (.inr (.inr (.inr (.inl ⟨p, xs, rfl, e⟩))))
theorem Kind.tup {H : Hp} {p : Addr} {xs : List V} (e : H p = some (.tup xs)) : Kind H (.ref p) := .inr (.inr (.inr (.inr (.inr (.inl ⟨p, xs, rfl, e⟩)))))
theorem Kind.dct {H : Hp} {p : Addr} {kvs : List (Key × V)} (e : H p = some (.dK kvs)) : Kind H (.ref p) := .inr (.inr (.inr (.inr (.inr (.inr ⟨p, kvs, rfl, e⟩)))))
theorem Kind.same {H H' : Hp} {v : V} (k : Kind H v) (s : Same H H') : Kind H' v := by
  rcases k with ⟨i, rfl⟩ | ⟨b, rfl⟩ | ⟨x, rfl⟩ | rfl | ⟨p, xs, rfl, e⟩ | ⟨p, xs, rfl, e⟩ | ⟨p, xs, rfl, e⟩
  · exact .int
  · exact .bl
  · exact .str
  · exact .non
  · exact .lst (s _ _ e)
  · exact .tup (s _ _ e)
  · exact .dct (s _ _ e)
theorem Kind.but {a : Addr} {H H' : Hp} {v : V} (k : Kind H v) (b : But a H H') (h : v ≠ .ref a) : Kind H' v := by
  rcases k with ⟨i, rfl⟩ | ⟨c, rfl⟩ | ⟨x, rfl⟩ | rfl | ⟨p, xs, rfl, e⟩ | ⟨p, xs, rfl, e⟩ | ⟨p, xs, rfl, e⟩
  · exact .int
  · exact .bl
  · exact .str
  · exact .non
  · exact .lst (b _ _ (fun z => h (by rw [z])) e)
  · exact .tup (b _ _ (fun z => h (by rw [z])) e)
  · exact .dct (b _ _ (fun z => h (by rw [z])) e)
/-- a fact laid aside -/
structure Bx (P : Prop) : Prop where
  out : P
theorem nwA {H : Hp} {x p : Addr} {o : HO} (h : H x = some o) (n : H p = none) : x ≠ p := fun e => by rw [e, n] at h; cases h
/-! ### told things that are held, each a tuple of two lists of the same ints, none of them there in B -/
/-- no place of B -/
structure NoneIn (B : Hp) (x : Addr) : Prop where
  out : B x = none
structure PairN (B : Hp) (h : Addr) (H : Hp) (p : Addr) : Prop where
  both : ∃ (a b : Addr) (ns : List Int), a ≠ h ∧ b ≠ h ∧ p ≠ h ∧ NoneIn B a ∧ NoneIn B b ∧ NoneIn B p ∧ H p = some (.tup [.ref a, .ref b]) ∧ H a = some (.lst (ns.map V.int)) ∧ H b = some (.lst (ns.map V.int))
structure HeldN (B : Hp) (h : Addr) (H : Hp) (n : Nat) : Prop where
  all : ∃ ps : List Addr, H h = some (.lst (ps.map V.ref)) ∧ ps.length ≤ n ∧ ∀ p ∈ ps, PairN B h H p
theorem PairN.step {B : Hp} {h p : Addr} {H H' : Hp} (k : PairN B h H p) (b : But h H H') : PairN B h H' p := by
  obtain ⟨x, y, ns, hx, hy, hp, k1, k2, k3, e, e1, e2⟩ := k.both
  exact ⟨x, y, ns, hx, hy, hp, k1, k2, k3, b _ _ hp e, b _ _ hx e1, b _ _ hy e2⟩
theorem HeldN.same {B : Hp} {h : Addr} {H H' : Hp} {n : Nat} (k : HeldN B h H n) (s : Same H H') : HeldN B h H' n := by
  obtain ⟨ps, e, l, f⟩ := k.all
  exact ⟨ps, s _ _ e, l, fun p hp => (f p hp).step (Same.but s)⟩
theorem HeldN.le {B : Hp} {h : Addr} {H : Hp} {n m : Nat} (k : HeldN B h H n) (l : n ≤ m) : HeldN B h H m := by
  obtain ⟨ps, e, l', f⟩ := k.all
  exact ⟨ps, e, Nat.le_trans l' l, f⟩
/-- another object changes, that was there in B -/
theorem HeldN.other {B : Hp} {h a : Addr} {H H' : Hp} {n : Nat} {o : HO} (k : HeldN B h H n) (b : But a H H') (e : B a = some o) (ne : h ≠ a) : HeldN B h H' n := by
  obtain ⟨ps, eh, l, f⟩ := k.all
  refine ⟨ps, b _ _ ne eh, l, fun p hp => ?_⟩
  obtain ⟨x, y, ns, hx, hy, hp, k1, k2, k3, e0, e1, e2⟩ := (f p hp).both
  have no : ∀ {z : Addr}, NoneIn B z → z ≠ a := fun k z => by have k := k.out; rw [z, e] at k; cases k
  exact ⟨x, y, ns, hx, hy, hp, k1, k2, k3, b _ _ (no k3) e0, b _ _ (no k1) e1, b _ _ (no k2) e2⟩
theorem HeldN.snoc {B : Hp} {h p : Addr} {H H' : Hp} {m n : Nat} {ps : List Addr} (l : ps.length ≤ n) (f : ∀ p ∈ ps, PairN B h H p) (b : But h H H') (e' : H' h = some (.lst (ps.map V.ref ++ [V.ref p]))) (g : PairN B h H' p) (hm : n + 1 ≤ m) : HeldN B h H' m :=
  ⟨ps ++ [p], by rw [e', List.map_append]; rfl, by rw [List.length_append]; exact Nat.le_trans (Nat.succ_le_succ l) hm, fun q hq => by
    rcases List.mem_append.mp hq with k | k
    · exact (f q k).step b
    · rw [List.mem_singleton.mp k]; exact g⟩
/-- what there is in B is there in H -/
structure Within (B H : Hp) : Prop where
  free : ∀ x, H x = none → B x = none
theorem Within.none {B H : Hp} {x : Addr} (w : Within B H) (e : H x = none) : NoneIn B x := ⟨w.free x e⟩
theorem Within.refl {B : Hp} : Within B B := ⟨fun _ e => e⟩
theorem Within.upd {B H : Hp} {a : Addr} {o : HO} (w : Within B H) : Within B (upd H a o) := ⟨fun _ e => w.free _ (upd_none e)⟩
theorem Within.same {B H H' : Hp} (w : Within B H) (s : Same H H') : Within B H' := ⟨fun _ e => w.free _ (s.free e)⟩
theorem Within.but {a : Addr} {o : HO} {B H H' : Hp} (w : Within B H) (b : But a H H') (e : H' a = some o) : Within B H' := ⟨fun x n => by
  refine w.free x ?_
  cases k : H x with
  | none => rfl
  | some u =>
    have ne : x ≠ a := fun z => by rw [z, e] at n; cases n
    rw [b _ _ ne k] at n; cases n⟩
theorem HeldN.within {B : Hp} {h : Addr} {H H' : Hp} {n : Nat} (k : HeldN B h H' n) (w : Within B H) (b : But h H H') : Within B H' := by
  obtain ⟨ps, eh, _, _⟩ := k.all
  exact w.but b eh
end Ur

namespace Ur
open PySem L2 PySem.Spec PyProof.Rows
/-! ### an exception in hand -/
/-- isinstance of the exception that the suite holds: a class, or a tuple of classes -/
def rIsX (K : PySem.W.Frag) (cls : Value) (d : Option Addr) (a : Addr) : List V → Hp → VK → Prop := fun xs H Q =>
  ∃ (D : Addr) (c : V) (b : Bool), xs = [.ref a, c] ∧ cls = .ref D ∧ d = none ∧ ExcC K D ∧
    ((∃ u, ClsV c u ∧ PySem.W.kitOne K (.ref D) u = some b) ∨ ∃ (tp : Addr) (cs : List V) (us : List Value), c = .ref tp ∧ H tp = some (.tup cs) ∧ Paired ClsV cs us ∧ PySem.W.kitAny K (.ref D) us = some b) ∧ Q (.bl b) H
theorem call_isX {X : Cx} {K : PySem.W.Frag} (hK : X.K = K) {a : Addr} {cls : Value} {d : Option Addr} {oe : Obj} (hz : Zc cls d oe) (hf : ∃ vs, oe.data = .fields vs) (hp : (a, oe) ∈ X.pn) : CallR X (.builtin "isinstance") (rIsX K cls d a) := by
  subst hK
  intro pins s σ H xs us Q I r h
  obtain ⟨D, c, b, rfl, rfl, rfl, C, hc, q⟩ := h
  obtain ⟨u1, u2, rfl, r1, r2⟩ := vals2 r
  cases (show u1 = Value.ref a from r1)
  obtain ⟨hget, _⟩ := I.pin (a, oe) (List.mem_append.mpr (.inl hp))
  obtain ⟨vs, hv⟩ := hf
  have J : PySem.W.InstAt s.heap a oe D none := by
    obtain ⟨oc, od, oda, osl⟩ := oe
    obtain ⟨h1, h2⟩ := hz
    dsimp only at h1 h2 hv
    subst h1 h2 hv
    exact ⟨hget, rfl, rfl, trivial⟩
  have Z := PySem.W.handS_kitx_exc (x := a) (ox := oe) C.hg C.hk C.hs C.hd C.ha C.hn C.ht C.hm
  rcases hc with ⟨u, k, e⟩ | ⟨tp, cs, ws, rfl, hT, k, e⟩
  · have e2 := k.eq r2
    subst e2
    exact PySem.W.kia_one Z I.kIn J e (fun z => nomatch z) fun tk => ⟨.bl b, H, I.kept (t' := tk) fun _ _ z => z, rfl, q⟩
  · cases (show u2 = Value.ref tp from r2)
    obtain ⟨_, its, rv, o, h1, h2, n, h3⟩ := (show ObjOk X.prog X.w H s.heap tp (.tup cs) from I.hok tp _ hT)
    have e3 := ClsV.all k rv
    subst e3
    obtain ⟨oc, od, dt, sl⟩ := o
    simp only at h2 h3
    subst h2 h3
    exact PySem.W.kia_tup Z I.kIn J h1 e (fun z => nomatch z) fun tk => ⟨.bl b, H, I.kept (t' := tk) fun _ _ z => z, rfl, q⟩
/-- a method of a built-in object, the fragment told -/
theorem pe_bmK {X : Cx} {K : PySem.W.Frag} {o e : Expr} {es : List Expr} {to : TE} {t : TA} {name : Str} {apos cpos : Pos} {T id : String} {r : V → List V → Hp → VK → Prop} (hK : X.K = K) (pa : PlainAttrs T) (slot : Slot T name id) (hty : typeOf (.builtin id) = pure (.type "method_descriptor")) (hm : MtR X id r) (ho : PE X o to) (ha : PA X (e :: es) t)
    (h1 : attributeBase o name X.env (eval o X.env) = eval o X.env := by rfl)
    (h2 : ((backTo cpos (starEach (e :: es) X.env)).all (fun x => !x.1) && (backToKw cpos (keywordEach [] X.env)).all (fun x => x.1.isSome) && decide ((e :: es).length + ([] : List Keyword).length + (if ([] : List Keyword).isEmpty then 0 else 1) < 30)) = true := by rfl)
    (h3 : (apos.endLine == cpos.line) = true := by rfl) (h4 : starEach (e :: es) X.env = (false, eval e X.env) :: starEach es X.env := by rfl) (h5 : (backTo cpos (starEach es X.env)).any (·.1) = false := by rfl) :
    PE X (.Call (.Attribute o name apos) (e :: es) [] cpos) (tBM K T r to t) := by
  subst hK
  exact pe_bm pa slot hty hm ho ha h1 h2 h3 h4 h5
theorem isX1 {K : PySem.W.Frag} {D a C : Addr} {b : Bool} {H : Hp} {Q : VK} (E : ExcC K D) (h : PySem.W.kitOne K (.ref D) (.ref C) = some b) (q : Q (.bl b) H) : rIsX K (.ref D) none a [.ref a, .ref C] H Q :=
  ⟨D, _, b, rfl, rfl, rfl, E, .inl ⟨_, .own C, h⟩, q⟩
theorem isXT {K : PySem.W.Frag} {D a : Addr} {n : String} {b : Bool} {H : Hp} {Q : VK} (E : ExcC K D) (h : PySem.W.kitOne K (.ref D) (.type n) = some b) (q : Q (.bl b) H) : rIsX K (.ref D) none a [.ref a, .ty n] H Q :=
  ⟨D, _, b, rfl, rfl, rfl, E, .inl ⟨_, .ty n, h⟩, q⟩
/-- of none of these classes -/
def NoneOf (K : PySem.W.Frag) (D : Addr) (cs : List Addr) : Prop := ∀ c ∈ cs, PySem.W.kitOne K (.ref D) (.ref c) = some false
theorem NoneOf.any {K : PySem.W.Frag} {D : Addr} : ∀ {cs : List Addr}, NoneOf K D cs → PySem.W.kitAny K (.ref D) (cs.map Value.ref) = some false
  | [], _ => rfl
  | c :: cs, h => kitAny_cons (h c List.mem_cons_self) (fun _ => NoneOf.any fun x hx => h x (List.mem_cons_of_mem _ hx)) (fun z => nomatch z)
theorem NoneOf.pair : ∀ (cs : List Addr), Paired ClsV (cs.map V.ref) (cs.map Value.ref)
  | [] => .nil
  | c :: cs => .cons (.own c) (NoneOf.pair cs)
theorem isX2 {K : PySem.W.Frag} {D a p : Addr} {vs : List V} {cs : List Addr} {H : Hp} {Q : VK} (E : ExcC K D) (h : NoneOf K D cs) (e : H p = some (.tup vs)) (hv : vs = cs.map V.ref) (q : Q (.bl false) H) : rIsX K (.ref D) none a [.ref a, .ref p] H Q :=
  ⟨D, _, false, rfl, rfl, rfl, E, .inr ⟨p, _, _, rfl, by rw [e, hv], NoneOf.pair cs, h.any⟩, q⟩
theorem NoneOf.nil {K : PySem.W.Frag} {D : Addr} : NoneOf K D [] := fun _ h => nomatch h
theorem NoneOf.cons {K : PySem.W.Frag} {D c : Addr} {cs : List Addr} (h : PySem.W.kitOne K (.ref D) (.ref c) = some false) (t : NoneOf K D cs) : NoneOf K D (c :: cs) := fun x hx => by
  rcases List.mem_cons.mp hx with rfl | k
  · exact h
  · exact t x k
theorem rEq_kinds {K : PySem.W.Frag} {H : Hp} {a b : Addr} {Q : VK} (h1 : H a = some (.lst [.bl true, .bl true, .bl false])) (h2 : H b = some (.lst [.bl true, .bl true, .bl false])) (q : Q (.bl true) H) : rEqD K (.ref a) (.ref b) H Q :=
  ⟨_, _, .lst (SqL.of h1) (.cons (.bl _) (.cons (.bl _) (.cons (.bl _) .nil))), .lst (SqL.of h2) (.cons (.bl _) (.cons (.bl _) (.cons (.bl _) .nil))), by decide, by decide, q⟩
end Ur

namespace Ur
open PySem L2
/-! ### range(0, b, c) -/
theorem rgc_up {b c : Int} (hb : 0 ≤ b) (hb' : b ≤ 1000000) (hc : 0 < c) (hc' : c ≤ 1000000) : ∃ n : Nat, (n : Int) ≤ b ∧ (∀ i : Nat, i < n → 0 ≤ 0 + (i : Int) * c ∧ 0 + (i : Int) * c < b) ∧ RgC 0 b c n := by
  by_cases h : 0 < b
  · have h1 : 0 ≤ (b - 0 - 1) / c := Int.ediv_nonneg (by omega) (by omega)
    have h2 : (b - 0 - 1) / c ≤ b - 0 - 1 := Int.ediv_le_self c (by omega)
    have e : Builtin.Range.rangeSize 0 b c = (b - 0 - 1) / c + 1 := by
      unfold Builtin.Range.rangeSize
      rw [if_pos hc, if_pos h]
    refine ⟨((b - 0 - 1) / c + 1).toNat, by omega, fun i hi => ⟨by have := Int.mul_nonneg (Int.natCast_nonneg i) (Int.le_of_lt hc); omega, ?_⟩, by omega, by omega, ?_, ?_⟩
    · have k1 : (i : Int) ≤ (b - 0 - 1) / c := by omega
      have k2 : (i : Int) * c ≤ (b - 0 - 1) / c * c := Int.mul_le_mul_of_nonneg_right k1 (by omega)
      have k3 := Int.ediv_mul_le (b - 0 - 1) (show c ≠ 0 by omega)
      omega
    · unfold Builtin.Range.small
      rw [e, if_pos hc]
      simp only [Builtin.Range.rangeFitsLong, Bool.and_eq_true, Bool.or_eq_true, decide_eq_true_eq, beq_iff_eq]
      omega
    · rw [e]; omega
  · have hb0 : b = 0 := by omega
    subst hb0
    refine ⟨0, by omega, fun i hi => absurd hi (Nat.not_lt_zero _), by omega, by omega, ?_, ?_⟩
    · unfold Builtin.Range.small Builtin.Range.rangeSize
      rw [if_pos hc, if_pos hc]
      simp only [Builtin.Range.rangeFitsLong, Bool.and_eq_true, Bool.or_eq_true, decide_eq_true_eq, beq_iff_eq]
      omega
    · unfold Builtin.Range.rangeSize
      rw [if_pos hc]
      rfl
end Ur

namespace Ur
open PySem L2
/-! ### lists of lists of ints -/
/-- n lists at ls, the k-th of them F k -/
structure RowsF (H : Hp) (ls : List Addr) (n : Nat) (F : Nat → List Int) : Prop where
  len : ls.length = n
  row : ∀ k p, ls[k]? = some p → H p = some (.lst ((F k).map V.int))
theorem RowsF.same {H H' : Hp} {ls : List Addr} {n : Nat} {F : Nat → List Int} (r : RowsF H ls n F) (s : Same H H') : RowsF H' ls n F := ⟨r.len, fun k p e => s _ _ (r.row k p e)⟩
theorem RowsF.but {a : Addr} {H H' : Hp} {ls : List Addr} {n : Nat} {F : Nat → List Int} (r : RowsF H ls n F) (b : But a H H') (no : ∀ p ∈ ls, p ≠ a) : RowsF H' ls n F := ⟨r.len, fun k p e => b _ _ (no p (List.mem_of_getElem? e)) (r.row k p e)⟩
theorem RowsF.congr {H : Hp} {ls : List Addr} {n : Nat} {F G : Nat → List Int} (r : RowsF H ls n F) (e : ∀ k, k < n → F k = G k) : RowsF H ls n G := ⟨r.len, fun k p h => by
  have hk := (List.getElem?_eq_some_iff.mp h).1
  rw [← e k (by have := r.len; omega)]
  exact r.row k p h⟩
theorem RowsF.is {H : Hp} {ls : List Addr} {n : Nat} {F : Nat → List Int} (r : RowsF H ls n F) {p : Addr} (hp : p ∈ ls) : ∃ ns : List Int, H p = some (.lst (ns.map V.int)) := by
  obtain ⟨k, hk⟩ := List.getElem?_of_mem hp
  exact ⟨F k, r.row k p hk⟩
theorem RowsF.snoc {H H4 : Hp} {Dl q : Addr} {qs : List Addr} {i : Nat} {F : Nat → List Int} {o : HO} (r : RowsF H qs i F) (s : Same H H4) (no : ∀ p ∈ qs, p ≠ Dl) (e : H4 q = some (.lst ((F i).map V.int))) (hq : q ≠ Dl) : RowsF (upd H4 Dl o) (qs ++ [q]) (i + 1) F := by
  refine ⟨by rw [List.length_append, r.len]; rfl, fun k p h => ?_⟩
  by_cases hk : k < qs.length
  · rw [List.getElem?_append_left hk] at h
    rw [upd_ne (no p (List.mem_of_getElem? h))]
    exact s _ _ (r.row k p h)
  · have h2 := (List.getElem?_eq_some_iff.mp h).1
    rw [List.length_append] at h2
    have h3 : [q].length = 1 := rfl
    have hk2 : k = qs.length := by omega
    subst hk2
    rw [List.getElem?_append_right (Nat.le_refl _), Nat.sub_self] at h
    cases h
    rw [upd_ne hq, r.len]
    exact e
theorem dpAll_of {K : PySem.W.Frag} {H : Hp} : ∀ (vs : List V) (ds : List PyData), vs.length = ds.length → (∀ (k : Nat) (v : V) (d : PyData), vs[k]? = some v → ds[k]? = some d → Dp K H v d) → DpAll K H vs ds
  | [], [], _, _ => .nil
  | [], _ :: _, h, _ => by cases h
  | _ :: _, [], h, _ => by cases h
  | v :: vs, d :: ds, h, f => .cons (f 0 v d rfl rfl) (dpAll_of vs ds (Nat.succ.inj h) fun k v d h1 h2 => f (k + 1) v d h1 h2)
theorem canLayAll_of : ∀ ds : List PyData, (∀ d ∈ ds, PyData.canLay0 d = true) → PyData.canLayAll0 ds = true
  | [], _ => rfl
  | d :: ds, f => by
    show (PyData.canLay0 d && PyData.canLayAll0 ds) = true
    rw [canLayAll_of ds fun x h => f x (List.mem_cons_of_mem _ h), f d List.mem_cons_self]
    rfl
theorem depthAll_of {m : Nat} : ∀ ds : List PyData, (∀ d ∈ ds, PyData.depth d ≤ m) → PyData.depthAll ds ≤ m
  | [], _ => by
    rw [PyData.depthAll]
    exact Nat.zero_le _
  | d :: ds, f => by
    rw [PyData.depthAll]
    exact Nat.max_le.mpr ⟨f d List.mem_cons_self, depthAll_of ds fun x h => f x (List.mem_cons_of_mem _ h)⟩
theorem eqvAll_refl : ∀ ds : List PyData, (∀ d ∈ ds, PyData.eqv d d = true) → PyData.eqvAll ds ds = true
  | [], _ => rfl
  | d :: ds, f => by
    show (PyData.eqv d d && PyData.eqvAll ds ds) = true
    rw [eqvAll_refl ds fun x h => f x (List.mem_cons_of_mem _ h), f d List.mem_cons_self]
    rfl
/-- the data of such a list -/
def rowsD (n : Nat) (F : Nat → List Int) : List PyData := (List.range n).map fun k => PyData.list ((F k).map PyData.int)
theorem dp_rows {K : PySem.W.Frag} {H : Hp} {a : Addr} {ls : List Addr} {n : Nat} {F : Nat → List Int} (h : SqL K H a (ls.map V.ref)) (r : RowsF H ls n F) : Dp K H (.ref a) (.list (rowsD n F)) := by
  refine .lst h (dpAll_of _ _ (by rw [rowsD, List.length_map, List.length_map, List.length_range, r.len]) fun k v d h1 h2 => ?_)
  rw [List.getElem?_map] at h1
  obtain ⟨p, hp, rfl⟩ := Option.map_eq_some_iff.mp h1
  have hk := (List.getElem?_eq_some_iff.mp hp).1
  rw [rowsD, List.getElem?_map, List.getElem?_range (by have := r.len; omega)] at h2
  cases h2
  exact dp_ints (SqL.of (r.row k p hp))
theorem shaped_rows (n : Nat) (F : Nat → List Int) : SeqAt.shaped (.list (rowsD n F)) = true := by
  refine shaped_of (canLayAll_of _ fun d h => ?_) ?_
  · obtain ⟨k, _, rfl⟩ := List.mem_map.mp h
    exact canLayAll_ints _
  · have h := depthAll_of (m := 2) (rowsD n F) fun d h => by
      obtain ⟨k, _, rfl⟩ := List.mem_map.mp h
      exact depth_ints _
    rw [PyData.depth]
    omega
theorem eqv_rows (n : Nat) (F : Nat → List Int) : PyData.eqv (.list (rowsD n F)) (.list (rowsD n F)) = true := by
  show PyData.eqvAll _ _ = true
  refine eqvAll_refl _ fun d h => ?_
  obtain ⟨k, _, rfl⟩ := List.mem_map.mp h
  rw [eqv_ints]
  exact decide_eq_true rfl
theorem rEq_rows {K : PySem.W.Frag} {H : Hp} {a b : Addr} {ls ms : List Addr} {n : Nat} {F : Nat → List Int} {Q : VK} (h1 : SqL K H a (ls.map V.ref)) (h2 : SqL K H b (ms.map V.ref)) (r1 : RowsF H ls n F) (r2 : RowsF H ms n F) (q : Q (.bl true) H) : rEqD K (.ref a) (.ref b) H Q :=
  ⟨_, _, dp_rows h1 r1, dp_rows h2 r2, shaped_rows n F, shaped_rows n F, by rw [eqv_rows]; exact q⟩
theorem rNe_rows {K : PySem.W.Frag} {H : Hp} {a b : Addr} {ls ms : List Addr} {n : Nat} {F : Nat → List Int} {Q : VK} (h1 : SqL K H a (ls.map V.ref)) (h2 : SqL K H b (ms.map V.ref)) (r1 : RowsF H ls n F) (r2 : RowsF H ms n F) (q : Q (.bl false) H) : rNeD K (.ref a) (.ref b) H Q :=
  ⟨_, _, dp_rows h1 r1, dp_rows h2 r2, shaped_rows n F, shaped_rows n F, by rw [eqv_rows]; exact q⟩
section
variable {K : PySem.W.Frag} {a : Addr} {σ : L2.St} {H1 : Hp} {Dl : Addr} {te : TE} {vs : List Nat} {j : Nat} {lo : Int} {n : Nat} {Qd : Hp → Prop}
/-- [e for k in range(..)], each e a new list of ints -/
theorem lc_rngL (F : Nat → List Int) (hn : n ≤ 1000000) (hD : H1 Dl = none) (hw : ∀ x, wipe ((wipe σ vs).set j (some x)) vs = wipe σ vs)
    (he : ∀ (k : Nat) H', k < n → Same H1 H' → ∀ Q' : VK, (∀ q H4, Same H' H4 → H4 q = some (.lst ((F k).map V.int)) → H' q = none → Q' (.ref q) H4) → te ((wipe σ vs).set j (some (.int (lo + (k : Nat))))) H' Q')
    (hd : ∀ H' qs, Same H1 H' → H' Dl = some (.lst (qs.map V.ref)) → RowsF H' qs n F → (∀ q ∈ qs, H1 q = none ∧ q ≠ Dl) → qs.Nodup → Qd H') :
    ∃ W : Nat → Nat → Hp → Prop, (∃ m, W 0 m (upd H1 Dl (.lst []))) ∧ ∀ i m H, W i m H →
      ((Itr lo n).stop i H ∧ Qd H) ∨ ((Itr lo n).go i H ∧ ∃ Nx : Hp → Prop, (∀ H', Nx H' → ∃ m', m' < m ∧ W (i + 1) m' H') ∧ ∀ x H', (Itr lo n).yld i H x H' → gName j x (wipe σ vs) H' fun σ2 H2 => wipe σ2 vs = wipe σ vs ∧ tYes σ2 H2 fun b H3 =>
        if b = true then te σ2 H3 fun y H4 => ∃ acc, H4 Dl = some (.lst acc) ∧ acc.length < sizeLine ∧ Nx (upd H4 Dl (.lst (acc ++ [y]))) else Nx H3) := by
  refine lc_range (lo := lo) (n := n) (fun i H' => ∃ qs : List Addr, Same H1 H' ∧ H' Dl = some (.lst (qs.map V.ref)) ∧ RowsF H' qs i F ∧ (∀ q ∈ qs, H1 q = none ∧ q ≠ Dl) ∧ qs.Nodup) ⟨[], same_new hD, upd_same, ⟨rfl, fun k p h => nomatch h⟩, (fun q h => nomatch h), List.nodup_nil⟩ (fun i H' hi p => ?_) (fun H' p => ?_)
  · obtain ⟨qs, s1, eD, r, f, nd⟩ := p
    refine ⟨hw _, ?_⟩
    refine tyes_ok ?_
    refine he i H' hi s1 _ fun q H4 s e nq => ?_
    have qD : q ≠ Dl := fun z => by rw [z, eD] at nq; cases nq
    refine ⟨_, s _ _ eD, szl (by rw [List.length_map, r.len]; omega), qs ++ [q], same_upd' hD (s1.trans s), ?_, r.snoc s (fun p hp => (f p hp).2) e qD, fun p hp => ?_, ?_⟩
    · rw [upd_same, List.map_append]; rfl
    · rcases List.mem_append.mp hp with h | h
      · exact f p h
      · rw [List.mem_singleton.mp h]; exact ⟨s1.free nq, qD⟩
    · rw [List.nodup_append]
      refine ⟨nd, List.nodup_cons.mpr ⟨List.not_mem_nil, List.nodup_nil⟩, fun x hx y hy z => ?_⟩
      rw [List.mem_singleton.mp hy] at z
      obtain ⟨ms, em⟩ := r.is hx
      rw [z, nq] at em
      cases em
  · obtain ⟨qs, s1, eD, r, f, nd⟩ := p
    exact hd H' qs s1 eD r f nd
/-- [e for p in a list], each e a new list of ints -/
theorem lc_refsL {ls : List Addr} (F : Nat → List Int) (hn : ls.length ≤ 1000000) (ha : SqL K H1 a (ls.map V.ref)) (hD : H1 Dl = none) (hw : ∀ x, wipe ((wipe σ vs).set j (some x)) vs = wipe σ vs)
    (he : ∀ (k : Nat) p H', ls[k]? = some p → Same H1 H' → ∀ Q' : VK, (∀ q H4, Same H' H4 → H4 q = some (.lst ((F k).map V.int)) → H' q = none → Q' (.ref q) H4) → te ((wipe σ vs).set j (some (.ref p))) H' Q')
    (hd : ∀ H' qs, Same H1 H' → H' Dl = some (.lst (qs.map V.ref)) → RowsF H' qs ls.length F → (∀ q ∈ qs, H1 q = none ∧ q ≠ Dl) → qs.Nodup → Qd H') :
    ∃ W : Nat → Nat → Hp → Prop, (∃ m, W 0 m (upd H1 Dl (.lst []))) ∧ ∀ i m H, W i m H →
      ((Itl K a).stop i H ∧ Qd H) ∨ ((Itl K a).go i H ∧ ∃ Nx : Hp → Prop, (∀ H', Nx H' → ∃ m', m' < m ∧ W (i + 1) m' H') ∧ ∀ x H', (Itl K a).yld i H x H' → gName j x (wipe σ vs) H' fun σ2 H2 => wipe σ2 vs = wipe σ vs ∧ tYes σ2 H2 fun b H3 =>
        if b = true then te σ2 H3 fun y H4 => ∃ acc, H4 Dl = some (.lst acc) ∧ acc.length < sizeLine ∧ Nx (upd H4 Dl (.lst (acc ++ [y]))) else Nx H3) := by
  refine lc_list (K := K) (a := a) (xs := ls.map V.ref) (fun i H' => ∃ qs : List Addr, Same H1 H' ∧ H' Dl = some (.lst (qs.map V.ref)) ∧ RowsF H' qs i F ∧ (∀ q ∈ qs, H1 q = none ∧ q ≠ Dl) ∧ qs.Nodup) ⟨[], same_new hD, upd_same, ⟨rfl, fun k p h => nomatch h⟩, (fun q h => nomatch h), List.nodup_nil⟩ (fun i H' _ p => ?_) (fun i x H' hx p => ?_) (fun H' p => ?_)
  · obtain ⟨qs, s1, _⟩ := p
    exact s1.seq ha
  · obtain ⟨qs, s1, eD, r, f, nd⟩ := p
    rw [List.getElem?_map] at hx
    obtain ⟨p0, hp0, rfl⟩ := Option.map_eq_some_iff.mp hx
    have hi := (List.getElem?_eq_some_iff.mp hp0).1
    refine ⟨hw _, ?_⟩
    refine tyes_ok ?_
    refine he i p0 H' hp0 s1 _ fun q H4 s e nq => ?_
    have qD : q ≠ Dl := fun z => by rw [z, eD] at nq; cases nq
    refine ⟨_, s _ _ eD, szl (by rw [List.length_map, r.len]; omega), qs ++ [q], same_upd' hD (s1.trans s), ?_, r.snoc s (fun p hp => (f p hp).2) e qD, fun p hp => ?_, ?_⟩
    · rw [upd_same, List.map_append]; rfl
    · rcases List.mem_append.mp hp with h | h
      · exact f p h
      · rw [List.mem_singleton.mp h]; exact ⟨s1.free nq, qD⟩
    · rw [List.nodup_append]
      refine ⟨nd, List.nodup_cons.mpr ⟨List.not_mem_nil, List.nodup_nil⟩, fun x hx y hy z => ?_⟩
      rw [List.mem_singleton.mp hy] at z
      obtain ⟨ms, em⟩ := r.is hx
      rw [z, nq] at em
      cases em
  · obtain ⟨qs, s1, eD, r, f, nd⟩ := p
    rw [List.length_map] at r
    exact hd H' qs s1 eD r f nd
end
end Ur
namespace Ur
open PySem L2
theorem lineW_drop {ns : List Int} {k : Nat} (h : k ≤ ns.length) : lineW (ns.drop k) 0 = lineW ns k := by
  unfold lineW
  rw [List.length_drop, Nat.sub_zero]
  refine List.map_congr_left fun j _ => ?_
  show ((ulen (((ns.drop k).drop 0).take (0 + j - 0)) : Nat) : Int) = ((ulen ((ns.drop k).take (k + j - k)) : Nat) : Int)
  rw [List.drop_zero, show 0 + j - 0 = j by omega, show k + j - k = j by omega]
end Ur
namespace Ur
open PySem L2
/-- all of ls are other places than a -/
structure Off (ls : List Addr) (a : Addr) : Prop where
  out : ∀ p ∈ ls, p ≠ a
theorem RowsF.offNew {H : Hp} {x : Addr} {ls : List Addr} {n : Nat} {F : Nat → List Int} (r : RowsF H ls n F) (e : H x = none) : Off ls x := ⟨fun p hp z => by
  obtain ⟨ms, em⟩ := r.is hp
  rw [z, e] at em
  cases em⟩
theorem offOld {H : Hp} {x : Addr} {o : HO} {ls : List Addr} (f : ∀ p ∈ ls, H p = none) (e : H x = some o) : Off ls x := ⟨fun p hp z => by
  have h := f p hp
  rw [z, e] at h
  cases h⟩
theorem RowsF.upd {H : Hp} {x : Addr} {o : HO} {ls : List Addr} {n : Nat} {F : Nat → List Int} (r : RowsF H ls n F) (f : Off ls x) : RowsF (upd H x o) ls n F := ⟨r.len, fun k p e => by
  rw [upd_ne (f.out p (List.mem_of_getElem? e))]
  exact r.row k p e⟩
theorem nodup_idx {α : Type} {ls : List α} (nd : ls.Nodup) {i k : Nat} {p : α} (h1 : ls[i]? = some p) (h2 : ls[k]? = some p) : i = k := by
  obtain ⟨a1, b1⟩ := List.getElem?_eq_some_iff.mp h1
  obtain ⟨a2, b2⟩ := List.getElem?_eq_some_iff.mp h2
  have w := List.pairwise_iff_getElem.mp nd
  rcases Nat.lt_trichotomy i k with c | c | c
  · exact absurd (b1.trans b2.symm) (w i k a1 a2 c)
  · exact c
  · exact absurd (b2.trans b1.symm) (w k i a2 a1 c)
/-- one of the lists has changed -/
theorem RowsF.set {H H' : Hp} {qs : List Addr} {n i : Nat} {l : Addr} {F : Nat → List Int} {ns : List Int} (r : RowsF H qs n F) (nd : qs.Nodup) (hl : qs[i]? = some l) (e : H' l = some (.lst (ns.map V.int))) (b : But l H H') : RowsF H' qs n (fun k => if k = i then ns else F k) := ⟨r.len, fun k p h => by
  show _ = some (HO.lst ((if k = i then ns else F k).map V.int))
  by_cases hk : k = i
  · subst hk
    rw [hl] at h
    cases h
    rw [if_pos rfl]
    exact e
  · rw [if_neg hk]
    refine b _ _ (fun z => hk ?_) (r.row k p h)
    exact nodup_idx nd h (by rw [hl, z])⟩
/-! ### told tables that are held, each a tuple of two of the same -/
structure PairR (h : Addr) (H : Hp) (p : Addr) : Prop where
  both : ∃ (a b : Addr) (ls ms : List Addr) (n : Nat) (F : Nat → List Int), a ≠ h ∧ b ≠ h ∧ p ≠ h ∧ Off ls h ∧ Off ms h ∧ H p = some (.tup [.ref a, .ref b]) ∧ H a = some (.lst (ls.map V.ref)) ∧ H b = some (.lst (ms.map V.ref)) ∧ RowsF H ls n F ∧ RowsF H ms n F
structure HeldR (h : Addr) (H : Hp) (n : Nat) : Prop where
  all : ∃ ps : List Addr, H h = some (.lst (ps.map V.ref)) ∧ ps.length ≤ n ∧ ∀ p ∈ ps, PairR h H p
theorem PairR.step {h p : Addr} {H H' : Hp} (k : PairR h H p) (b : But h H H') : PairR h H' p := by
  obtain ⟨x, y, ls, ms, n, F, hx, hy, hp, o1, o2, e, e1, e2, r1, r2⟩ := k.both
  exact ⟨x, y, ls, ms, n, F, hx, hy, hp, o1, o2, b _ _ hp e, b _ _ hx e1, b _ _ hy e2, r1.but b o1.out, r2.but b o2.out⟩
theorem HeldR.same {h : Addr} {H H' : Hp} {n : Nat} (k : HeldR h H n) (s : Same H H') : HeldR h H' n := by
  obtain ⟨ps, e, l, f⟩ := k.all
  exact ⟨ps, s _ _ e, l, fun p hp => (f p hp).step (Same.but s)⟩
theorem HeldR.snoc {h p : Addr} {H H' : Hp} {m n : Nat} {ps : List Addr} (l : ps.length ≤ n) (f : ∀ p ∈ ps, PairR h H p) (b : But h H H') (e' : H' h = some (.lst (ps.map V.ref ++ [V.ref p]))) (g : PairR h H' p) (hm : n + 1 ≤ m) : HeldR h H' m :=
  ⟨ps ++ [p], by rw [e', List.map_append]; rfl, by rw [List.length_append]; exact Nat.le_trans (Nat.succ_le_succ l) hm, fun q hq => by
    rcases List.mem_append.mp hq with k | k
    · exact (f q k).step b
    · rw [List.mem_singleton.mp k]; exact g⟩
end Ur
namespace Ur
open PySem L2
theorem len_refs {K : PySem.W.Frag} {H : Hp} {p : Addr} {ls : List Addr} {Q : VK} (h : SqL K H p (ls.map V.ref)) (q : Q (.int ls.length) H) : rLenI K [.ref p] H Q :=
  ⟨p, _, rfl, Or.inl h, by rw [List.length_map]; exact q⟩
end Ur
namespace Ur
open PySem L2
/-- while, the test's answer told; Pv by a measure; the search does not open what is due of a turn -/
theorem while_iv {tb : TS} {D : Ends} {σ : L2.St} {H : Hp} {c : TT} (Pv : Nat → L2.St → Hp → Prop) (m0 : Nat) (h0 : Pv m0 σ H)
    (hs : ∀ m σ H, Pv m σ H → ∃ b, (∀ Q : Bool → Hp → Prop, Q b H → c σ H Q) ∧
      (b = true → tb { D with nx := fun σ' H' => Iv (∃ m', m' < m ∧ Pv m' σ' H'), ct := fun σ' H' => Iv (∃ m', m' < m ∧ Pv m' σ' H'), bk := D.nx } σ H) ∧ (b = false → D.nx σ H)) : tWhile c tb D σ H := by
  refine ⟨Pv, ⟨m0, h0⟩, fun m σ H p => ?_⟩
  obtain ⟨b, hb, h1, h2⟩ := hs m σ H p
  refine hb _ ?_
  cases b with
  | true => exact (if_pos rfl).mpr ⟨_, fun _ _ n => n.out, h1 rfl⟩
  | false => exact (if_neg Bool.false_ne_true).mpr (h2 rfl)
theorem getD_mem {ns : List Int} {k : Nat} (h : k < ns.length) : ns.getD k 0 ∈ ns := List.mem_of_getElem? (get_of h)
theorem getD_all {ns : List Int} {k : Nat} {P : Int → Prop} (h : k < ns.length) (f : ∀ x ∈ ns, P x) : P (ns.getD k 0) := f _ (getD_mem h)
end Ur
namespace Ur
open PySem L2
/-- while, the test may lay new things; the body is reached where the measure is above 0 only -/
theorem while_t {tb : TS} {D : Ends} {σ : L2.St} {H : Hp} {c : TT} (Pv : Nat → L2.St → Hp → Prop) (m0 : Nat) (h0 : Pv m0 σ H)
    (ht : ∀ m σ H, Pv m σ H → ∀ Q : Bool → Hp → Prop, (∀ b H', Same H H' → (b = true → 0 < m) → Q b H') → c σ H Q)
    (hs : ∀ m σ H H', Pv m σ H → 0 < m → Same H H' → tb { D with nx := fun σ' H' => Iv (∃ m', m' < m ∧ Pv m' σ' H'), ct := fun σ' H' => Iv (∃ m', m' < m ∧ Pv m' σ' H'), bk := D.nx } σ H')
    (hd : ∀ m σ H H', Pv m σ H → Same H H' → D.nx σ H') : tWhile c tb D σ H := by
  refine ⟨Pv, ⟨m0, h0⟩, fun m σ H p => ht m σ H p _ fun b H' s hb => ?_⟩
  cases b with
  | true => exact (if_pos rfl).mpr ⟨_, fun _ _ n => n.out, hs m σ H H' p (hb rfl) s⟩
  | false => exact (if_neg Bool.false_ne_true).mpr (hd m σ H H' p s)
end Ur
namespace Ur
open PySem L2
/-! ### a window's numbers, held -/
def hldF (d : Addr) : List (Str × V) := putF "times" (.ref d) []
theorem hld_times {d : Addr} : (hldF d).lookup ("times" : Str) = some (.ref d) := by
  unfold hldF
  rw [lookup_putF, if_pos rfl]
theorem hld_no {d : Addr} {m : Str} (h : ¬ m = "times") : (hldF d).lookup m = none := by
  unfold hldF
  rw [lookup_putF, if_neg h]
  rfl
end Ur
namespace Ur
open PySem L2
theorem pop1_int {H : Hp} {a : Addr} {kvs : List (Key × V)} {n : Int} {v : V} {Q : VK} (h : H a = some (.dK kvs)) (hv : valV kvs (Sum.inl n) = some v) (q : Q v (upd H a (.dK (dropK kvs (Sum.inl n))))) :
    ∃ (kvs : List (Key × V)) (k : Key) (v : V), H a = some (.dK kvs) ∧ V.int n = kV k ∧ valV kvs k = some v ∧ Q v (upd H a (.dK (dropK kvs k))) := ⟨kvs, Sum.inl n, v, h, rfl, hv, q⟩
end Ur
namespace Ur
open PySem L2
theorem pg_tupK {X : Cx} {K : PySem.W.Frag} (hk : X.K = K) {es : List Expr} {k : Nat} {pos : Pos} {t : TGs} {n : Nat} (hc : X.calm = true) (h : PGs X es t)
    (hn : (assignEach es X.env).length = n := by rfl) (hst : (assignEach es X.env).findIdx? (·.1) = none := by rfl) : PG X (.Tuple es k pos) (gTup K n t) := by
  subst hk
  exact pg_tup hc h hn hst
end Ur
namespace Ur
open PySem L2
/-! ### repr -/
/-- repr of data laid in the heap -/
def rRepr (K : PySem.W.Frag) : List V → Hp → VK → Prop := fun xs H Q => ∃ (p : Addr) (d : PyData), xs = [.ref p] ∧ Dp K H (.ref p) d ∧
  d.showable = true ∧ d.hasDict = false ∧ d.depth ≤ 64 ∧ d.shown.length ≤ sizeLine ∧ Q (.str d.shown) H
/-- data whose repr is told -/
structure GoodD (d : PyData) : Prop where
  show_ : d.showable = true
  dict : d.hasDict = false
  deep : d.depth ≤ 64
  fits : d.shown.length ≤ sizeLine
abbrev SmI (i : Int) : Prop := -1000000 < i ∧ i < 1000000
theorem weight_sm {i : Int} (h : SmI i) : PyData.weight (.int i) ≤ 20 := by
  rw [PyData.weight]
  by_cases c : (i == 0) = true
  · rw [if_pos c]; omega
  · rw [if_neg c]
    have c2 : i ≠ 0 := fun e => c (by rw [e]; rfl)
    have k := (Nat.log2_lt (n := i.natAbs) (k := 20) (by omega)).mpr (by have e : (2 : Nat) ^ 20 = 1048576 := by decide
                                                                         omega)
    omega
theorem weightAll_sm : ∀ {ns : List Int}, (∀ n ∈ ns, SmI n) → PyData.weightAll (ns.map .int) ≤ 21 * ns.length
  | [], _ => by rw [List.map_nil, PyData.weightAll]; exact Nat.zero_le _
  | n :: r, h => by
    have k1 := weight_sm (h n List.mem_cons_self)
    have k2 := weightAll_sm (ns := r) fun m hm => h m (List.mem_cons_of_mem _ hm)
    rw [List.map_cons, PyData.weightAll, List.length_cons]
    omega
theorem showAll_sm : ∀ {ns : List Int}, (∀ n ∈ ns, SmI n) → PyData.showableAll (ns.map .int) = true
  | [], _ => by rw [List.map_nil, PyData.showableAll]
  | n :: r, h => by
    have h1 := h n List.mem_cons_self
    rw [List.map_cons, PyData.showableAll, showAll_sm (ns := r) fun m hm => h m (List.mem_cons_of_mem _ hm), Bool.and_true, PyData.showable]
    refine decide_eq_true ?_
    by_cases c : n.natAbs = 0
    · rw [c]; decide
    · exact Nat.lt_of_lt_of_le ((Nat.log2_lt (n := n.natAbs) (k := 20) c).mpr (by have e : (2 : Nat) ^ 20 = 1048576 := by decide
                                                                                  omega)) (by decide)
theorem shortAll_sm {ns : List Int} (h : ∀ n ∈ ns, SmI n) : PyData.intsShortAll 13 (ns.map .int) = true :=
  PyData.intsShortAll_ints ns fun n hn => by
    have := h n hn
    have e : (10 : Nat) ^ 12 = 1000000000000 := by decide
    omega
theorem good_of {d : PyData} (c : d.canLay0 = true) (dp : d.depth ≤ 64) (w : d.weight ≤ 2 ^ 20) (s : d.showable = true) (i : d.intsShort 13 = true) : GoodD d := by
  refine ⟨s, PyData.hasDict_of_canLay d c, dp, PyData.shown_fits_of_layable0 (B := 13) (by decide) (by decide) ?_ i⟩
  show (d.canLay0 && decide (d.depth ≤ 64) && decide (d.weight ≤ 2 ^ 20)) = true
  rw [c, decide_eq_true dp, decide_eq_true w]
  rfl
/-- a tuple of ints -/
def tupD (ns : List Int) : PyData := .tuple (ns.map .int)
theorem depth_tup (ns : List Int) : (tupD ns).depth ≤ 2 := by
  have h := depthAll_ints ns
  unfold tupD
  rw [PyData.depth]
  omega
theorem good_tup {ns : List Int} (h : ∀ n ∈ ns, SmI n) (hl : ns.length ≤ 1000) : GoodD (tupD ns) := by
  have w := weightAll_sm h
  refine good_of (canLayAll_ints ns) (Nat.le_trans (depth_tup ns) (by decide)) ?_ ?_ ?_
  · unfold tupD
    rw [PyData.weight]
    have e : (2 : Nat) ^ 20 = 1048576 := by decide
    omega
  · unfold tupD
    rw [PyData.showable]
    exact showAll_sm h
  · unfold tupD
    rw [PyData.intsShort]
    exact shortAll_sm h
theorem goodAll {ts : List (List Int)} (h : ∀ ns ∈ ts, ns.length ≤ 3 ∧ ∀ n ∈ ns, SmI n) : PyData.weightAll (ts.map tupD) ≤ 64 * ts.length ∧ PyData.showableAll (ts.map tupD) = true ∧ PyData.intsShortAll 13 (ts.map tupD) = true := by
  induction ts with
  | nil => exact ⟨by rw [List.map_nil, PyData.weightAll]; exact Nat.zero_le _, by rw [List.map_nil, PyData.showableAll], by rw [List.map_nil, PyData.intsShortAll]⟩
  | cons ns ts ih =>
    obtain ⟨h1, h2⟩ := h ns List.mem_cons_self
    obtain ⟨i1, i2, i3⟩ := ih fun m hm => h m (List.mem_cons_of_mem _ hm)
    have w := weightAll_sm h2
    have g := good_tup h2 (by omega)
    refine ⟨?_, ?_, ?_⟩
    · have e : PyData.weight (tupD ns) = PyData.weightAll (ns.map .int) := by unfold tupD; rw [PyData.weight]
      rw [List.map_cons, PyData.weightAll, List.length_cons, e]
      omega
    · rw [List.map_cons, PyData.showableAll, g.show_, i2]; rfl
    · have e : PyData.intsShort 13 (tupD ns) = true := by unfold tupD; rw [PyData.intsShort]; exact shortAll_sm h2
      rw [List.map_cons, PyData.intsShortAll, e, i3]; rfl
theorem good_tups {ts : List (List Int)} (h : ∀ ns ∈ ts, ns.length ≤ 3 ∧ ∀ n ∈ ns, SmI n) (hl : ts.length ≤ 1000) : GoodD (.list (ts.map tupD)) := by
  obtain ⟨w, s, i⟩ := goodAll h
  refine good_of (canLayAll_of _ fun d hd => ?_) ?_ ?_ ?_ ?_
  · obtain ⟨ns, _, rfl⟩ := List.mem_map.mp hd
    exact canLayAll_ints ns
  · have k := depthAll_of (m := 2) (ts.map tupD) fun d hd => by
      obtain ⟨ns, _, rfl⟩ := List.mem_map.mp hd
      exact depth_tup ns
    rw [PyData.depth]
    omega
  · rw [PyData.weight]
    have e : (2 : Nat) ^ 20 = 1048576 := by decide
    omega
  · rw [PyData.showable]; exact s
  · rw [PyData.intsShort]; exact i
theorem repr_good {K : PySem.W.Frag} {H : Hp} {p : Addr} {d : PyData} {Q : VK} (h : Dp K H (.ref p) d) (g : GoodD d) (q : Q (.str d.shown) H) : rRepr K [.ref p] H Q :=
  ⟨p, d, rfl, h, g.show_, g.dict, g.deep, g.fits, q⟩
theorem dp_tup {K : PySem.W.Frag} {H : Hp} {p : Addr} {ns : List Int} (h : H p = some (.tup (ns.map V.int))) : Dp K H (.ref p) (tupD ns) := .tup (SqT.of h) (dpAll_ints ns)
theorem repr_pair {K : PySem.W.Frag} {H : Hp} {p : Addr} {x y : Int} {Q : VK} (h : H p = some (.tup [.int x, .int y])) (q : (SmI x ∧ SmI y) ∧ Q (.str (tupD [x, y]).shown) H) : rRepr K [.ref p] H Q :=
  repr_good (dp_tup (ns := [x, y]) h) (good_tup (fun n hn => by
    rcases List.mem_cons.mp hn with rfl | hn
    · exact q.1.1
    · rw [List.mem_singleton.mp hn]; exact q.1.2) (by show 2 ≤ 1000; omega)) q.2
theorem units66 {k : Nat} {A : Around} (r : Room k A) : A.units + 66 < cLine := by have := r.un; omega
end Ur

namespace Ur
open PySem L2 PySem.Spec PyProof.Rows
/-! ### things of any kind: whole or not, lists of such -/
/-- whether a thing is a whole number -/
def IsW (H : Hp) (v : V) (b : Bool) : Prop := (b = true ∧ ∃ i, v = .int i) ∨ (b = false ∧ Kind H v ∧ ∀ i, v ≠ .int i)
theorem IsW.int {H : Hp} {i : Int} : IsW H (.int i) true := .inl ⟨rfl, i, rfl⟩
theorem IsW.bl {H : Hp} {c : Bool} : IsW H (.bl c) false := .inr ⟨rfl, .bl, fun _ z => nomatch z⟩
theorem IsW.str {H : Hp} {x : Str} : IsW H (.str x) false := .inr ⟨rfl, .str, fun _ z => nomatch z⟩
theorem IsW.non {H : Hp} : IsW H .non false := .inr ⟨rfl, .non, fun _ z => nomatch z⟩
theorem IsW.lst {H : Hp} {p : Addr} {xs : List V} (e : H p = some (.lst xs)) : IsW H (.ref p) false := .inr ⟨rfl, .lst e, fun _ z => nomatch z⟩
theorem IsW.tup {H : Hp} {p : Addr} {xs : List V} (e : H p = some (.tup xs)) : IsW H (.ref p) false := .inr ⟨rfl, .tup e, fun _ z => nomatch z⟩
theorem IsW.dct {H : Hp} {p : Addr} {xs : List (Key × V)} (e : H p = some (.dK xs)) : IsW H (.ref p) false := .inr ⟨rfl, .dct e, fun _ z => nomatch z⟩
theorem IsW.same {H H' : Hp} {v : V} {b : Bool} (w : IsW H v b) (s : Same H H') : IsW H' v b := by
  rcases w with w | ⟨e, k, n⟩
  · exact .inl w
  · exact .inr ⟨e, k.same s, n⟩
theorem Kind.whole {H : Hp} {v : V} (k : Kind H v) : (∃ i, v = .int i) ∨ ((∀ i, v ≠ .int i) ∧ IsW H v false) := by
  by_cases h : ∃ i, v = .int i
  · exact .inl h
  · exact .inr ⟨fun i e => h ⟨i, e⟩, .inr ⟨rfl, k, fun i e => h ⟨i, e⟩⟩⟩
theorem Kind.some {H : Hp} {p : Addr} (k : Kind H (.ref p)) : ∃ o, H p = Option.some o := by
  rcases k with ⟨i, e⟩ | ⟨c, e⟩ | ⟨x, e⟩ | e | ⟨q, xs, e, h⟩ | ⟨q, xs, e, h⟩ | ⟨q, xs, e, h⟩
  · cases e
  · cases e
  · cases e
  · cases e
  · cases e; exact ⟨_, h⟩
  · cases e; exact ⟨_, h⟩
  · cases e; exact ⟨_, h⟩
/-- the kind of a thing, a list told apart -/
theorem Kind.isList {K : PySem.W.Frag} {H : Hp} {v : V} (k : Kind H v) : (∃ p xs, v = .ref p ∧ H p = Option.some (.lst xs)) ∨ ((∀ p xs, v = .ref p → H p ≠ Option.some (.lst xs)) ∧ ∃ t, TyX K H v (.type t) ∧ kitB t "list" = Option.some false) := by
  rcases k with ⟨i, rfl⟩ | ⟨c, rfl⟩ | ⟨x, rfl⟩ | rfl | ⟨q, xs, rfl, h⟩ | ⟨q, xs, rfl, h⟩ | ⟨q, xs, rfl, h⟩
  · exact .inr ⟨fun _ _ e => (nomatch e), _, tyx_int, kb_int_list⟩
  · exact .inr ⟨fun _ _ e => (nomatch e), _, tyx_bl, kb_bool_list⟩
  · exact .inr ⟨fun _ _ e => (nomatch e), _, tyx_str, kb_str_list⟩
  · exact .inr ⟨fun _ _ e => (nomatch e), _, tyx_non, kb_NoneType_list⟩
  · exact .inl ⟨q, xs, rfl, h⟩
  · exact .inr ⟨fun p ys e z => (by cases e; rw [h] at z; cases z), _, tyx_tup h, kb_tuple_list⟩
  · exact .inr ⟨fun p ys e z => (by cases e; rw [h] at z; cases z), _, tyx_dK h, kb_dict_list⟩
/-- .. a tuple told apart -/
theorem Kind.isTup {K : PySem.W.Frag} {H : Hp} {v : V} (k : Kind H v) : (∃ p xs, v = .ref p ∧ H p = Option.some (.tup xs)) ∨ ((∀ p xs, v = .ref p → H p ≠ Option.some (.tup xs)) ∧ ∃ t, TyX K H v (.type t) ∧ kitB t "tuple" = Option.some false) := by
  rcases k with ⟨i, rfl⟩ | ⟨c, rfl⟩ | ⟨x, rfl⟩ | rfl | ⟨q, xs, rfl, h⟩ | ⟨q, xs, rfl, h⟩ | ⟨q, xs, rfl, h⟩
  · exact .inr ⟨fun _ _ e => (nomatch e), _, tyx_int, kb_int_tuple⟩
  · exact .inr ⟨fun _ _ e => (nomatch e), _, tyx_bl, kb_bool_tuple⟩
  · exact .inr ⟨fun _ _ e => (nomatch e), _, tyx_str, kb_str_tuple⟩
  · exact .inr ⟨fun _ _ e => (nomatch e), _, tyx_non, kb_NoneType_tuple⟩
  · exact .inr ⟨fun p ys e z => (by cases e; rw [h] at z; cases z), _, tyx_lst h, kb_list_tuple⟩
  · exact .inl ⟨q, xs, rfl, h⟩
  · exact .inr ⟨fun p ys e z => (by cases e; rw [h] at z; cases z), _, tyx_dK h, kb_dict_tuple⟩
/-- all these addresses are taken -/
structure Old (L : Addr → Prop) (H : Hp) : Prop where
  has : ∀ b, L b → ∃ o, H b = some o
theorem Old.free {L : Addr → Prop} {H : Hp} {p : Addr} (o : Old L H) (n : H p = none) : ∀ b, L b → p ≠ b := fun b l e => by
  obtain ⟨u, h⟩ := o.has b l
  rw [← e, n] at h
  cases h
theorem Old.freeV {L : Addr → Prop} {H : Hp} {p : Addr} (o : Old L H) (n : H p = none) : ∀ b, L b → V.ref p ≠ .ref b := fun b l e => o.free n b l (by injection e)
theorem Old.same {L : Addr → Prop} {H H' : Hp} (o : Old L H) (s : Same H H') : Old L H' := ⟨fun b l => by
  obtain ⟨u, h⟩ := o.has b l
  exact ⟨u, s _ _ h⟩⟩
theorem Old.but {L : Addr → Prop} {a : Addr} {u : HO} {H H' : Hp} (o : Old L H) (b : But a H H') (h : H' a = some u) : Old L H' := ⟨fun c l => by
  by_cases e : c = a
  · rw [e]; exact ⟨u, h⟩
  · obtain ⟨w, k⟩ := o.has c l
    exact ⟨w, b _ _ e k⟩⟩
def Bar0 : Addr → Prop := fun _ => False
def Bar1 (a : Addr) : Addr → Prop := fun b => b = a
def Bar2 (a c : Addr) : Addr → Prop := fun b => b = a ∨ b = c
theorem Bar1.self {a : Addr} : Bar1 a a := rfl
theorem Bar1.ne {a p : Addr} (h : p ≠ a) : ∀ b, Bar1 a b → p ≠ b := fun b e z => h (z.trans e)
theorem Bar1.old {a : Addr} {o : HO} {H : Hp} (e : H a = some o) : Old (Bar1 a) H := ⟨fun b l => by cases l; exact ⟨o, e⟩⟩
theorem Bar2.l {a c : Addr} : Bar2 a c a := .inl rfl
theorem Bar2.r {a c : Addr} : Bar2 a c c := .inr rfl
theorem Bar2.ne {a c p : Addr} (h : p ≠ a) (k : p ≠ c) : ∀ b, Bar2 a c b → p ≠ b := fun b e z => e.elim (fun e => h (z.trans e)) fun e => k (z.trans e)
theorem Bar2.old {a c : Addr} {o u : HO} {H : Hp} (e : H a = some o) (f : H c = some u) : Old (Bar2 a c) H := ⟨fun b l => by
  rcases l with rfl | rfl
  · exact ⟨o, e⟩
  · exact ⟨u, f⟩⟩
theorem neV {L : Addr → Prop} {p : Addr} (n : ∀ b, L b → p ≠ b) : ∀ b, L b → V.ref p ≠ .ref b := fun b l e => n b l (by injection e)
/-- items of known kinds, none of them at L -/
structure Its (L : Addr → Prop) (H : Hp) (xs : List V) : Prop where
  all : ∀ x ∈ xs, Kind H x ∧ ∀ b, L b → x ≠ .ref b
theorem Its.nil {L : Addr → Prop} {H : Hp} : Its L H [] := ⟨fun _ h => nomatch h⟩
theorem Its.ints {L : Addr → Prop} {H : Hp} (ns : List Int) : Its L H (ns.map V.int) := ⟨fun x h => by
  obtain ⟨n, _, rfl⟩ := List.mem_map.mp h
  exact ⟨.int, fun _ _ z => nomatch z⟩⟩
theorem Its.sub {L : Addr → Prop} {H : Hp} {xs ys : List V} (t : Its L H xs) (f : ∀ y ∈ ys, y ∈ xs) : Its L H ys := ⟨fun y h => t.all y (f y h)⟩
theorem Its.app {L : Addr → Prop} {H : Hp} {xs ys : List V} (t : Its L H xs) (u : Its L H ys) : Its L H (xs ++ ys) := ⟨fun y h => by
  rcases List.mem_append.mp h with k | k
  · exact t.all y k
  · exact u.all y k⟩
theorem Its.one {L : Addr → Prop} {H : Hp} {x : V} (k : Kind H x) (n : ∀ b, L b → x ≠ .ref b) : Its L H [x] := ⟨fun y h => by rw [List.mem_singleton.mp h]; exact ⟨k, n⟩⟩
theorem Its.two {L : Addr → Prop} {H : Hp} {x y : V} (kx : Kind H x) (nx : ∀ b, L b → x ≠ .ref b) (ky : Kind H y) (ny : ∀ b, L b → y ≠ .ref b) : Its L H [x, y] := (Its.one kx nx).app (.one ky ny)
theorem Its.rep {L : Addr → Prop} {H : Hp} {xs : List V} (t : Its L H xs) (k : Nat) : Its L H (List.replicate k xs).flatten := ⟨fun y h => by
  obtain ⟨l, h1, h2⟩ := List.mem_flatten.mp h
  rw [List.eq_of_mem_replicate h1] at h2
  exact t.all y h2⟩
theorem Its.same {L : Addr → Prop} {H H' : Hp} {xs : List V} (t : Its L H xs) (s : Same H H') : Its L H' xs := ⟨fun x h => ⟨(t.all x h).1.same s, (t.all x h).2⟩⟩
theorem Its.but {L : Addr → Prop} {a : Addr} {H H' : Hp} {xs : List V} (t : Its L H xs) (l : L a) (b : But a H H') : Its L H' xs := ⟨fun x h => ⟨(t.all x h).1.but b ((t.all x h).2 a l), (t.all x h).2⟩⟩
theorem Its.less {L M : Addr → Prop} {H : Hp} {xs : List V} (t : Its L H xs) (f : ∀ b, M b → L b) : Its M H xs := ⟨fun x h => ⟨(t.all x h).1, fun b m => (t.all x h).2 b (f b m)⟩⟩
/-- a thing, a list's items of known kinds; none of this is at L -/
structure Th (L : Addr → Prop) (H : Hp) (v : V) : Prop where
  kind : Kind H v
  ne : ∀ b, L b → v ≠ .ref b
  items : ∀ p xs, v = .ref p → H p = some (.lst xs) → xs.length ≤ 2000 ∧ Its L H xs
theorem Th.same {L : Addr → Prop} {H H' : Hp} {v : V} (t : Th L H v) (s : Same H H') : Th L H' v := ⟨t.kind.same s, t.ne, fun p xs e h => by
  subst e
  obtain ⟨o, ho⟩ := t.kind.some
  have z := s _ _ ho
  rw [h] at z
  cases z
  obtain ⟨l, f⟩ := t.items p xs rfl ho
  exact ⟨l, f.same s⟩⟩
theorem Th.but {L : Addr → Prop} {a : Addr} {H H' : Hp} {v : V} (t : Th L H v) (la : L a) (b : But a H H') : Th L H' v := ⟨t.kind.but b (t.ne a la), t.ne, fun p xs e h => by
  subst e
  obtain ⟨o, ho⟩ := t.kind.some
  have z := b _ _ (fun z => t.ne a la (by rw [z])) ho
  rw [h] at z
  cases z
  obtain ⟨l, f⟩ := t.items p xs rfl ho
  exact ⟨l, f.but la b⟩⟩
theorem Th.less {L M : Addr → Prop} {H : Hp} {v : V} (t : Th L H v) (f : ∀ b, M b → L b) : Th M H v := ⟨t.kind, fun b m => t.ne b (f b m), fun p xs e h => ⟨(t.items p xs e h).1, (t.items p xs e h).2.less f⟩⟩
theorem Th.lst {L : Addr → Prop} {H : Hp} {p : Addr} {xs : List V} (e : H p = some (.lst xs)) (n : ∀ b, L b → p ≠ b) (l : xs.length ≤ 2000) (t : Its L H xs) : Th L H (.ref p) :=
  ⟨.lst e, neV n, fun q ys z h => by cases z; rw [e] at h; cases h; exact ⟨l, t⟩⟩
theorem Th.of {L : Addr → Prop} {H : Hp} {v : V} (k : Kind H v) (n : ∀ b, L b → v ≠ .ref b) (f : ∀ p xs, v = .ref p → H p ≠ some (.lst xs)) : Th L H v := ⟨k, n, fun p xs e h => (f p xs e h).elim⟩
theorem Th.int {L : Addr → Prop} {H : Hp} {i : Int} : Th L H (.int i) := .of .int (fun _ _ z => nomatch z) fun _ _ z => nomatch z
theorem Th.bl {L : Addr → Prop} {H : Hp} {c : Bool} : Th L H (.bl c) := .of .bl (fun _ _ z => nomatch z) fun _ _ z => nomatch z
theorem Th.str {L : Addr → Prop} {H : Hp} {x : Str} : Th L H (.str x) := .of .str (fun _ _ z => nomatch z) fun _ _ z => nomatch z
theorem Th.non {L : Addr → Prop} {H : Hp} : Th L H .non := .of .non (fun _ _ z => nomatch z) fun _ _ z => nomatch z
theorem Th.tup {L : Addr → Prop} {H : Hp} {p : Addr} {xs : List V} (e : H p = some (.tup xs)) (n : ∀ b, L b → p ≠ b) : Th L H (.ref p) := .of (.tup e) (neV n) fun q ys z h => by cases z; rw [e] at h; cases h
theorem Th.dct {L : Addr → Prop} {H : Hp} {p : Addr} {xs : List (Key × V)} (e : H p = some (.dK xs)) (n : ∀ b, L b → p ≠ b) : Th L H (.ref p) := .of (.dct e) (neV n) fun q ys z h => by cases z; rw [e] at h; cases h
/-! lists of values -/
theorem atI_get {xs : List V} {i : Int} (h0 : 0 ≤ i) (h1 : i < xs.length) : ∃ v, atI xs i = some v ∧ v ∈ xs ∧ xs[i.toNat]? = some v := by
  obtain ⟨k, rfl⟩ := Int.eq_ofNat_of_zero_le h0
  have hj : k < xs.length := by omega
  exact ⟨xs[k], atI_nat (List.getElem?_eq_getElem hj), List.getElem_mem hj, by rw [Int.toNat_natCast]; exact List.getElem?_eq_getElem hj⟩
theorem mem_cut {xs : List V} {lo hi : Option Int} {x : V} (h : x ∈ cutV xs lo hi) : x ∈ xs := by
  unfold cutV at h
  exact List.mem_of_mem_drop (List.mem_of_mem_take h)
/-- a cut of a list, its contents no longer looked at -/
theorem cut_is (xs : List V) (lo hi : Option Int) : ∃ ys, cutV xs lo hi = ys ∧ ys.length ≤ xs.length ∧ ∀ y ∈ ys, y ∈ xs := ⟨_, rfl, cutV_length _ _ _, fun _ h => mem_cut h⟩
theorem rep01 (b : Bool) (xs : List V) : ((List.replicate (if b = true then (1 : Int) else 0).toNat xs).flatten).length ≤ xs.length := by
  cases b <;> simp
theorem len_any {K : PySem.W.Frag} {H : Hp} {p : Addr} {xs : List V} {Q : VK} (h : SqL K H p xs) (q : Q (.int xs.length) H) : rLenI K [.ref p] H Q := ⟨p, _, rfl, Or.inl h, q⟩
end Ur
namespace Ur
open PySem L2
theorem nwA' {H : Hp} {x p : Addr} {o : HO} (h : H x = some o) (n : H p = none) : p ≠ x := fun e => by rw [e, h] at n; cases n
theorem ints_of : ∀ {xs : List V}, (∀ x ∈ xs, ∃ n : Int, x = .int n) → ∃ ns : List Int, xs = ns.map V.int
  | [], _ => ⟨[], rfl⟩
  | x :: xs, h => by
    obtain ⟨n, rfl⟩ := h x List.mem_cons_self
    obtain ⟨ns, e⟩ := ints_of fun y hy => h y (List.mem_cons_of_mem _ hy)
    exact ⟨n :: ns, by rw [e]; rfl⟩
theorem int_mem {ns : List Int} {n : Int} : V.int n ∈ ns.map V.int ↔ n ∈ ns := ⟨fun h => by
  obtain ⟨m, hm, e⟩ := List.mem_map.mp h
  cases e; exact hm, fun h => List.mem_map.mpr ⟨n, h, rfl⟩⟩
theorem take_snocV {xs : List V} {i : Nat} {x : V} (h : xs[i]? = some x) : xs.take (i + 1) = xs.take i ++ [x] := by
  rw [List.take_succ, h]; rfl
end Ur

namespace Ur
open PySem PySem.Spec PyProof.Rows L2
/-! ### == and != of lists of things of any kind: of unlike lengths, or with the very same items -/
def rEqL (K : PySem.W.Frag) (neg : Bool) : R2 := fun x y H Q => ∃ (a b : Addr) (xs ys : List V), x = .ref a ∧ y = .ref b ∧ SqL K H a xs ∧ SqL K H b ys ∧
  ((xs.length ≠ ys.length ∧ Q (.bl neg) H) ∨ (xs = ys ∧ (∀ v ∈ xs, flatV v = true ∨ ∃ p, v = .ref p) ∧ Q (.bl (!neg)) H))
theorem eqV_self : ∀ {v : V}, flatV v = true → eqV v v = true
  | .non, _ => rfl
  | .bl b, _ => by simp [eqV]
  | .int i, _ => by simp [eqV]
  | .str x, _ => by simp [eqV]
theorem eqAt_ref {A : Around} {s : Shared} {p : Addr} : SeqAt.EqAt A s (.ref p) (.ref p) true := fun prog w E Q h => by
  unfold eqBool
  refine wpAny_holding ?_
  rw [if_pos (by simp)]
  exact wpAny_pure (M := model prog w) (E := E) h
theorem items_same {A : Around} {s : Shared} {xs : List V} {us ws : List Value} (r1 : Vals xs us) (r2 : Vals xs ws) (f : ∀ v ∈ xs, flatV v = true ∨ ∃ p, v = .ref p) :
    ∀ j (h1 : j < us.toArray.size) (h2 : j < ws.toArray.size), SeqAt.EqAt A s us.toArray[j] ws.toArray[j] true := fun j h1 h2 => by
  have hx : j < xs.length := by rw [r1.length]; simpa using h1
  have e0 := List.getElem?_eq_getElem hx
  obtain ⟨u, e1, ru⟩ := r1.get e0
  obtain ⟨v, e2, rv⟩ := r2.get e0
  have g1 : us.toArray[j] = u := by
    have := (List.getElem?_eq_some_iff.mp e1).2
    simpa using this
  have g2 : ws.toArray[j] = v := by
    have := (List.getElem?_eq_some_iff.mp e2).2
    simpa using this
  rw [g1, g2]
  rcases f _ (List.getElem_mem hx) with k | ⟨p, k⟩
  · have z := eqAt_V (A := A) (s := s) ru rv k k
    rwa [eqV_self k] at z
  · rw [k] at ru rv
    cases (show u = Value.ref p from ru)
    cases (show v = Value.ref p from rv)
    exact eqAt_ref
section
variable {X : Cx} {K : PySem.W.Frag}
theorem op_eqL (hK : X.K = K) (hu : X.A.units + 64 < cLine) : OpR X (compareOp .Eq) (rEqL K false) := by
  subst hK
  intro pins s σ H x y v u Q I rx ry h
  obtain ⟨a, b, xs, ys, rfl, rfl, ha, hb, h⟩ := h
  cases (show v = Value.ref a from rx)
  cases (show u = Value.ref b from ry)
  obtain ⟨i1, r1, p1, _⟩ := I.list ha
  obtain ⟨i2, r2, p2, _⟩ := I.list hb
  have l1 := r1.length
  have l2 := r2.length
  rcases h with ⟨hn, q⟩ | ⟨rfl, f, q⟩
  · exact SeqAt.RcAt.lists_lengths p1.isList p2.isList (by simp; omega) (by omega) X.prog X.w _ _ ⟨.bl _, H, I, rfl, q⟩
  · have z := SeqAt.RcAt.lists (A := X.A) (e := fun _ => true) p1.isList p2.isList (by simp; omega) (by omega) (items_same r1 r2 f) X.prog X.w
    have all : (List.range i1.toArray.size).all (fun _ => true) = true := List.all_eq_true.mpr fun _ _ => rfl
    rw [all] at z
    exact z _ _ ⟨.bl _, H, I, rfl, q⟩
theorem op_neL (hK : X.K = K) (hu : X.A.units + 64 < cLine) : OpR X (compareOp .NotEq) (rEqL K true) := by
  subst hK
  intro pins s σ H x y v u Q I rx ry h
  obtain ⟨a, b, xs, ys, rfl, rfl, ha, hb, h⟩ := h
  cases (show v = Value.ref a from rx)
  cases (show u = Value.ref b from ry)
  obtain ⟨i1, r1, p1, _⟩ := I.list ha
  obtain ⟨i2, r2, p2, _⟩ := I.list hb
  have l1 := r1.length
  have l2 := r2.length
  rcases h with ⟨hn, q⟩ | ⟨rfl, f, q⟩
  · exact SeqAt.RcNeAt.lists_lengths p1.isList p2.isList (by simp; omega) (by omega) X.prog X.w _ _ ⟨.bl _, H, I, rfl, q⟩
  · have z := SeqAt.RcNeAt.lists (A := X.A) (e := fun _ => true) p1.isList p2.isList (by simp; omega) (by omega) (items_same r1 r2 f) X.prog X.w
    have all : (List.range i1.toArray.size).all (fun _ => true) = true := List.all_eq_true.mpr fun _ _ => rfl
    rw [all] at z
    exact z _ _ ⟨.bl _, H, I, rfl, q⟩
end
/-- against a list without items -/
theorem rEqL_nil {K : PySem.W.Frag} {H : Hp} {a b : Addr} {xs : List V} {Q : VK} (h1 : SqL K H a xs) (h2 : SqL K H b []) (q : Q (.bl xs.isEmpty) H) : rEqL K false (.ref a) (.ref b) H Q := by
  cases xs with
  | nil => exact ⟨a, b, [], [], rfl, rfl, h1, h2, .inr ⟨rfl, (fun _ h => nomatch h), q⟩⟩
  | cons x xs => exact ⟨a, b, _, [], rfl, rfl, h1, h2, .inl ⟨by simp, q⟩⟩
theorem rNeL_nil {K : PySem.W.Frag} {H : Hp} {a b : Addr} {xs : List V} {Q : VK} (h1 : SqL K H a xs) (h2 : SqL K H b []) (q : Q (.bl (!xs.isEmpty)) H) : rEqL K true (.ref a) (.ref b) H Q := by
  cases xs with
  | nil => exact ⟨a, b, [], [], rfl, rfl, h1, h2, .inr ⟨rfl, (fun _ h => nomatch h), q⟩⟩
  | cons x xs => exact ⟨a, b, _, [], rfl, rfl, h1, h2, .inl ⟨by simp, q⟩⟩
theorem Kind.flat {H : Hp} {v : V} (k : Kind H v) : flatV v = true ∨ ∃ p, v = .ref p := by
  rcases k with ⟨i, rfl⟩ | ⟨b, rfl⟩ | ⟨x, rfl⟩ | rfl | ⟨p, xs, rfl, _⟩ | ⟨p, xs, rfl, _⟩ | ⟨p, xs, rfl, _⟩
  · exact .inl rfl
  · exact .inl rfl
  · exact .inl rfl
  · exact .inl rfl
  · exact .inr ⟨p, rfl⟩
  · exact .inr ⟨p, rfl⟩
  · exact .inr ⟨p, rfl⟩
theorem rEqL_same {K : PySem.W.Frag} {H : Hp} {neg : Bool} {a b : Addr} {xs : List V} {Q : VK} (h1 : SqL K H a xs) (h2 : SqL K H b xs) (f : ∀ x ∈ xs, Kind H x) (q : Q (.bl (!neg)) H) : rEqL K neg (.ref a) (.ref b) H Q :=
  ⟨a, b, xs, xs, rfl, rfl, h1, h2, .inr ⟨rfl, fun v hv => (f v hv).flat, q⟩⟩
section
variable {K : PySem.W.Frag} {a : Addr} {xs : List V} {σ : L2.St} {H1 : Hp} {Dl : Addr} {te : TE} {tt : TT} {vs : List Nat} {j : Nat} {Qd : Hp → Prop}
/-- [e for x in a list of things if t] -/
theorem lc_valsIf (t : V → Bool) (f : V → V) (hn : xs.length ≤ 1000000) (ha : SqL K H1 a xs) (hD : H1 Dl = none) (hw : ∀ x, wipe ((wipe σ vs).set j (some x)) vs = wipe σ vs)
    (ht : ∀ (x : V) H', x ∈ xs → Same H1 H' → ∀ Q' : Bool → Hp → Prop, (∀ H4, Same H' H4 → Q' (t x) H4) → tt ((wipe σ vs).set j (some x)) H' Q')
    (he : ∀ (x : V) H', x ∈ xs → t x = true → Same H1 H' → ∀ Q' : VK, (∀ H4, Same H' H4 → Q' (f x) H4) → te ((wipe σ vs).set j (some x)) H' Q')
    (hd : ∀ H', Same H1 H' → H' Dl = some (.lst ((xs.filter t).map f)) → Qd H') :
    ∃ W : Nat → Nat → Hp → Prop, (∃ m, W 0 m (upd H1 Dl (.lst []))) ∧ ∀ i m H, W i m H →
      ((Itl K a).stop i H ∧ Qd H) ∨ ((Itl K a).go i H ∧ ∃ Nx : Hp → Prop, (∀ H', Nx H' → ∃ m', m' < m ∧ W (i + 1) m' H') ∧ ∀ x H', (Itl K a).yld i H x H' → gName j x (wipe σ vs) H' fun σ2 H2 => wipe σ2 vs = wipe σ vs ∧ tt σ2 H2 fun b H3 =>
        if b = true then te σ2 H3 fun y H4 => ∃ acc, H4 Dl = some (.lst acc) ∧ acc.length < sizeLine ∧ Nx (upd H4 Dl (.lst (acc ++ [y]))) else Nx H3) := by
  refine lc_list (K := K) (a := a) (xs := xs) (fun i H' => Same H1 H' ∧ H' Dl = some (.lst (((xs.take i).filter t).map f))) ⟨same_new hD, upd_same⟩ (fun i H' _ p => p.1.seq ha) (fun i x H' hx p => ?_) (fun H' p => ?_)
  · have hi := (List.getElem?_eq_some_iff.mp hx).1
    have hm := List.mem_of_getElem? hx
    refine ⟨hw _, ?_⟩
    refine ht x H' hm p.1 _ fun H3 s3 => ?_
    have e1 := take_snocV hx
    cases hb : t x with
    | true =>
      refine (if_pos rfl).mpr ?_
      refine he x H3 hm hb (p.1.trans s3) _ fun H4 s => ⟨_, s _ _ (s3 _ _ p.2), szl ?_, same_upd' hD ((p.1.trans s3).trans s), ?_⟩
      · have := List.length_filter_le t (xs.take i)
        rw [List.length_take] at this
        rw [List.length_map]; omega
      rw [upd_same, e1, List.filter_append, List.map_append, List.filter_cons, if_pos hb]
      rfl
    | false =>
      refine (if_neg Bool.false_ne_true).mpr ⟨p.1.trans s3, ?_⟩
      rw [e1, List.filter_append, List.map_append, List.filter_cons, if_neg (by rw [hb]; exact Bool.false_ne_true)]
      simpa using s3 _ _ p.2
  · rw [List.take_length] at p
    exact hd H' p.1 p.2
/-- [e for x in a list of things] -/
theorem lc_vals (f : V → V) (hn : xs.length ≤ 1000000) (ha : SqL K H1 a xs) (hD : H1 Dl = none) (hw : ∀ x, wipe ((wipe σ vs).set j (some x)) vs = wipe σ vs)
    (he : ∀ (x : V) H', x ∈ xs → Same H1 H' → ∀ Q' : VK, (∀ H4, Same H' H4 → Q' (f x) H4) → te ((wipe σ vs).set j (some x)) H' Q')
    (hd : ∀ H', Same H1 H' → H' Dl = some (.lst (xs.map f)) → Qd H') :
    ∃ W : Nat → Nat → Hp → Prop, (∃ m, W 0 m (upd H1 Dl (.lst []))) ∧ ∀ i m H, W i m H →
      ((Itl K a).stop i H ∧ Qd H) ∨ ((Itl K a).go i H ∧ ∃ Nx : Hp → Prop, (∀ H', Nx H' → ∃ m', m' < m ∧ W (i + 1) m' H') ∧ ∀ x H', (Itl K a).yld i H x H' → gName j x (wipe σ vs) H' fun σ2 H2 => wipe σ2 vs = wipe σ vs ∧ tYes σ2 H2 fun b H3 =>
        if b = true then te σ2 H3 fun y H4 => ∃ acc, H4 Dl = some (.lst acc) ∧ acc.length < sizeLine ∧ Nx (upd H4 Dl (.lst (acc ++ [y]))) else Nx H3) := by
  refine lc_list (K := K) (a := a) (xs := xs) (fun i H' => Same H1 H' ∧ H' Dl = some (.lst ((xs.take i).map f))) ⟨same_new hD, upd_same⟩ (fun i H' _ p => p.1.seq ha) (fun i x H' hx p => ?_) (fun H' p => ?_)
  · have hi := (List.getElem?_eq_some_iff.mp hx).1
    have hm := List.mem_of_getElem? hx
    refine ⟨hw _, tyes_ok ?_⟩
    refine he x H' hm p.1 _ fun H4 s => ⟨_, s _ _ p.2, szl ?_, same_upd' hD (p.1.trans s), ?_⟩
    · rw [List.length_map, List.length_take]; omega
    rw [upd_same, take_snocV hx, List.map_append]
    rfl
  · rw [List.take_length] at p
    exact hd H' p.1 p.2
end
/-- whether a value is a whole number -/
def isI : V → Bool
  | .int _ => true
  | _ => false
theorem isI_int {v : V} (h : isI v = true) : ∃ i, v = .int i := by
  cases v <;> first | exact ⟨_, rfl⟩ | cases h
theorem Kind.isW {H : Hp} {v : V} (k : Kind H v) : IsW H v (isI v) := by
  rcases k.whole with ⟨i, rfl⟩ | ⟨hn, w⟩
  · exact .int
  · have : isI v = false := by
      cases h : isI v with
      | false => rfl
      | true => obtain ⟨i, e⟩ := isI_int h; exact (hn i e).elim
    rw [this]; exact w
end Ur

namespace Ur
open PySem L2
/-! ### numbers called otherwise, by the order in which they come first -/
/-- the dict names the numbers of W: the j-th unlike one v j -/
structure Nam (v : Nat → Int) (kvs : List (Key × V)) (W : List Int) (g : Int → Int) : Prop where
  met : Met kvs W
  val : ∀ z : Int, valV kvs (Sum.inl z) = if z ∈ W then some (.int (g z)) else none
  idx : ∀ z ∈ W, ∃ j : Nat, j < kvs.length ∧ g z = v j
  inj : InjOn g W
theorem Nam.nil {v : Nat → Int} {g : Int → Int} : Nam v [] [] g := ⟨Met.nil, fun z => by rw [if_neg (fun k => nomatch k)]; rfl, (fun z h => nomatch h), (fun x h => nomatch h)⟩
theorem Nam.old {v : Nat → Int} {kvs : List (Key × V)} {W : List Int} {g : Int → Int} {x : Int} (n : Nam v kvs W g) (h : x ∈ W) : Nam v kvs (W ++ [x]) g := by
  have k : ∀ z, z ∈ W ++ [x] ↔ z ∈ W := fun z => by
    constructor
    · intro q
      rcases List.mem_append.mp q with q | q
      · exact q
      · rw [List.mem_singleton.mp q]; exact h
    · exact fun q => List.mem_append.mpr (.inl q)
  refine ⟨⟨fun z => ?_, ?_⟩, fun z => ?_, fun z hz => n.idx z ((k z).mp hz), fun a ha b hb => n.inj a ((k a).mp ha) b ((k b).mp hb)⟩
  · rw [n.met.has z]
    exact decide_eq_decide.mpr (k z).symm
  · rw [n.met.len, ulen_snoc, if_pos h]
  · rw [n.val z]
    by_cases q : z ∈ W
    · rw [if_pos q, if_pos ((k z).mpr q)]
    · rw [if_neg q, if_neg (fun w => q ((k z).mp w))]
theorem Nam.new {v : Nat → Int} {kvs : List (Key × V)} {W : List Int} {g : Int → Int} {x : Int} (n : Nam v kvs W g) (h : x ∉ W) (hv : ∀ i j, v i = v j → i = j) :
    Nam v (putK kvs (Sum.inl x) (.int (v kvs.length))) (W ++ [x]) (fun z => if z = x then v kvs.length else g z) := by
  have hl : (putK kvs (Sum.inl x) (.int (v kvs.length))).length = kvs.length + 1 := putK_len (by rw [n.val, if_neg h])
  have mem : ∀ z, z ∈ W ++ [x] → z = x ∨ z ∈ W ∧ z ≠ x := fun z q => by
    rcases List.mem_append.mp q with q | q
    · exact .inr ⟨q, fun e => h (e ▸ q)⟩
    · exact .inl (List.mem_singleton.mp q)
  refine ⟨n.met.put x _, fun z => ?_, fun z hz => ?_, fun a ha b hb e => ?_⟩
  · rw [val_put]
    by_cases q : z = x
    · rw [if_pos q, if_pos (List.mem_append.mpr (.inr (List.mem_singleton.mpr q))), if_pos q]
    · rw [if_neg q, n.val z]
      by_cases w : z ∈ W
      · rw [if_pos w, if_pos (List.mem_append.mpr (.inl w)), if_neg q]
      · rw [if_neg w, if_neg]
        intro k
        rcases mem z k with k | k
        · exact q k
        · exact w k.1
  · rcases mem z hz with q | ⟨q, q2⟩
    · exact ⟨kvs.length, by omega, by rw [if_pos q]⟩
    · obtain ⟨j, h1, h2⟩ := n.idx z q
      exact ⟨j, by omega, by rw [if_neg q2]; exact h2⟩
  · have e2 : (if a = x then v kvs.length else g a) = (if b = x then v kvs.length else g b) := e
    rcases mem a ha with q | ⟨q, q2⟩
    · rcases mem b hb with w | ⟨w, w2⟩
      · rw [q, w]
      · rw [if_pos q, if_neg w2] at e2
        obtain ⟨j, h1, h2⟩ := n.idx b w
        have := hv _ _ (e2.trans h2)
        omega
    · rw [if_neg q2] at e2
      rcases mem b hb with w | ⟨w, w2⟩
      · rw [if_pos w] at e2
        obtain ⟨j, h1, h2⟩ := n.idx a q
        have := hv _ _ (h2.symm.trans e2)
        omega
      · rw [if_neg w2] at e2
        exact n.inj a q b w e2
theorem Nam.get {v : Nat → Int} {kvs : List (Key × V)} {W : List Int} {g : Int → Int} {H : Hp} {m : Addr} {x : Int} (n : Nam v kvs W g) (h : x ∈ W) (e : H m = some (.dK kvs)) : DGet H m (.int x) (some (.int (g x))) :=
  dget_some e (by rw [n.val, if_pos h])
end Ur

namespace Ur
open PySem L2
/-! ### widths go together -/
theorem wunN_map {f : Int → Int} {ns : List Int} (h : InjOn f ns) (a b : Nat) : wunN (ns.map f) a b = wunN ns a b := by
  unfold wunN
  rw [← List.map_drop, ← List.map_take]
  exact ulen_map fun x hx y hy e => h x (List.mem_of_mem_drop (List.mem_of_mem_take hx)) y (List.mem_of_mem_drop (List.mem_of_mem_take hy)) e
theorem ofW_map {f : Int → Int} {ns : List Int} (h : InjOn f ns) (w : Nat) : ofW (ns.map f) w = ofW ns w := by
  unfold ofW
  rw [List.length_map]
  exact List.map_congr_left fun k _ => by rw [wunN_map h]
theorem sumsW_map {f : Int → Int} {ns : List Int} (h : InjOn f ns) : sumsW (ns.map f) = sumsW ns := by
  unfold sumsW
  rw [List.length_map]
  exact List.map_congr_left fun k _ => by rw [ofW_map h]
theorem wunN_revW {ns : List Int} {p q : Nat} (h : p ≤ q) (hq : q ≤ ns.length) : wunN ns.reverse p q = wunN ns (ns.length - q) (ns.length - p) := by
  refine ulen_congr fun x => ?_
  rw [mem_win, mem_win]
  constructor
  · rintro ⟨j, h1, h2, e⟩
    have hj : j < ns.length := by omega
    rw [List.getElem?_reverse hj] at e
    exact ⟨ns.length - 1 - j, by omega, by omega, e⟩
  · rintro ⟨j, h1, h2, e⟩
    have hj := (List.getElem?_eq_some_iff.mp e).1
    refine ⟨ns.length - 1 - j, by omega, by omega, ?_⟩
    rw [List.getElem?_reverse (by omega), show ns.length - 1 - (ns.length - 1 - j) = j by omega]
    exact e
theorem ofW_rev {ns : List Int} {w : Nat} (hw : w ≤ ns.length) : ofW ns.reverse w = (ofW ns w).reverse := by
  refine List.ext_getElem? fun k => ?_
  by_cases hk : k < ns.length + 1 - w
  · rw [ofW_get (by rw [List.length_reverse]; omega), List.getElem?_reverse (by rw [ofW_len]; omega), ofW_len, ofW_get (by omega), wunN_revW (by omega) (by omega)]
    rw [show ns.length - (k + w) = ns.length + 1 - w - 1 - k by omega, show ns.length - k = ns.length + 1 - w - 1 - k + w by omega]
  · rw [List.getElem?_eq_none (by rw [ofW_len, List.length_reverse]; omega), List.getElem?_eq_none (by rw [List.length_reverse, ofW_len]; omega)]
theorem sum_reverse (xs : List Int) : xs.reverse.sum = xs.sum := by
  induction xs with
  | nil => rfl
  | cons x xs ih => rw [List.reverse_cons, sum_snoc, ih, List.sum_cons]; omega
theorem sumsW_rev (ns : List Int) : sumsW ns.reverse = sumsW ns := by
  unfold sumsW
  rw [List.length_reverse]
  exact List.map_congr_left fun k hk => by rw [ofW_rev (by have := List.mem_range.mp hk; omega), sum_reverse]
/-- how far back each number stood last, times how many ends there are -/
def backs (ns : List Int) (i : Nat) : Int := sumTo (fun p => ((p : Int) - lp ns p) * ((ns.length : Int) - p)) i
theorem sumsW_sum (ns : List Int) : (sumsW ns).sum = backs ns ns.length := by
  unfold backs
  rw [← her_all]
  unfold sumsW
  rw [sum_range]
  have e1 : sumTo (fun w => (ofW ns w).sum) (ns.length + 1) = sumTo (fun w => sumTo (fun f => if f < ns.length + 1 - w then (wunN ns f (f + w) : Int) else 0) (ns.length + 1)) (ns.length + 1) := by
    refine sumTo_congr fun w hw => ?_
    unfold ofW
    rw [sum_range, sumTo_cut _ (show ns.length + 1 - w ≤ ns.length + 1 by omega)]
  rw [e1, sumTo_swap]
  refine sumTo_congr fun f hf => ?_
  rw [← her_wins (by omega), sumTo_cut _ (show ns.length + 1 - f ≤ ns.length + 1 by omega)]
  refine sumTo_congr fun w hw => ?_
  by_cases h : f < ns.length + 1 - w
  · rw [if_pos h, if_pos (by omega)]
  · rw [if_neg h, if_neg (by omega)]
theorem sumsW_get {ns : List Int} {w : Nat} (h : w ≤ ns.length) : (sumsW ns).getD w 0 = (ofW ns w).sum := by
  refine getD_of ?_
  unfold sumsW
  rw [List.getElem?_map, List.getElem?_range (by omega)]
  rfl
/-- one further on: at most one more or less -/
theorem ofW_step {ns : List Int} {w k : Nat} (h : k + 1 + w ≤ ns.length) : -1 ≤ (ofW ns w).getD (k + 1) 0 - (ofW ns w).getD k 0 ∧ (ofW ns w).getD (k + 1) 0 - (ofW ns w).getD k 0 ≤ 1 := by
  rw [ofW_getD h, ofW_getD (by omega), wunN_slide (by omega)]
  (repeat' split) <;> omega
/-- one wider: as many or one more -/
theorem ofW_wide {ns : List Int} {w f : Nat} (h : f + (w + 1) ≤ ns.length) : (0 ≤ (ofW ns (w + 1)).getD f 0 - (ofW ns w).getD f 0 ∧ (ofW ns (w + 1)).getD f 0 - (ofW ns w).getD f 0 ≤ 1) ∧ 0 ≤ (ofW ns (w + 1)).getD f 0 - (ofW ns w).getD (f + 1) 0 ∧ (ofW ns (w + 1)).getD f 0 - (ofW ns w).getD (f + 1) 0 ≤ 1 := by
  rw [ofW_getD h, ofW_getD (by omega), ofW_getD (by omega)]
  have a := wunN_step (ns := ns) (f := f) (b := f + w) (by omega) (by omega)
  have b := wunN_stepD (ns := ns) (f := f) (b := f + w + 1) (by omega) (by omega)
  rw [show f + (w + 1) = f + w + 1 by omega, show f + 1 + w = f + w + 1 by omega]
  omega
theorem mem_ofW {ns : List Int} {w : Nat} {m : Int} (h : m ∈ ofW ns w) : ∃ f, f < ns.length + 1 - w ∧ (ofW ns w).getD f 0 = m := by
  obtain ⟨f, hf⟩ := List.getElem?_of_mem h
  exact ⟨f, by have := (List.getElem?_eq_some_iff.mp hf).1; rwa [ofW_len] at this, getD_of hf⟩
theorem getD_ofW {ns : List Int} {w f : Nat} (h : f < ns.length + 1 - w) : (ofW ns w).getD f 0 ∈ ofW ns w := getD_mem (by rw [ofW_len]; exact h)
/-- the most of wider ones is no less -/
theorem most_wide {ns : List Int} {w : Nat} {m m' : Int} (h : w + 1 ≤ ns.length) (h1 : m ∈ ofW ns w) (h2 : ∀ y ∈ ofW ns (w + 1), y ≤ m') : m ≤ m' := by
  obtain ⟨f, hf, e⟩ := mem_ofW h1
  by_cases c : f + (w + 1) ≤ ns.length
  · have k := ofW_wide c
    have := h2 _ (getD_ofW (ns := ns) (w := w + 1) (f := f) (by omega))
    omega
  · have k := ofW_wide (ns := ns) (w := w) (f := f - 1) (by omega)
    rw [show f - 1 + 1 = f by omega] at k
    have := h2 _ (getD_ofW (ns := ns) (w := w + 1) (f := f - 1) (by omega))
    omega
theorem least_wide {ns : List Int} {w : Nat} {l l' : Int} (h : w + 1 ≤ ns.length) (h1 : l' ∈ ofW ns (w + 1)) (h2 : ∀ y ∈ ofW ns w, l ≤ y) : l ≤ l' := by
  obtain ⟨f, hf, e⟩ := mem_ofW h1
  have k := ofW_wide (ns := ns) (w := w) (f := f) (by omega)
  have := h2 _ (getD_ofW (ns := ns) (w := w) (f := f) (by omega))
  omega
theorem idxD {ns : List Int} {x : Int} (h : x ∈ ns) : ns.getD (ns.idxOf x) 0 = x := getD_of (idx_get h)
end Ur

namespace Ur
open PySem L2
/-! ### partings, window by window as long as can be -/
/-- behind i numbers: the places at which windows ended, and where the last one began -/
def gs (ns : List Int) (m : Int) : Nat → List Int × Nat
  | 0 => ([], 0)
  | i + 1 => if ns.getD i 0 ∉ (ns.drop (gs ns m i).2).take (i - (gs ns m i).2) ∧ (ulen ((ns.drop (gs ns m i).2).take (i - (gs ns m i).2)) : Int) = m then ((gs ns m i).1 ++ [(i : Int)], i) else gs ns m i
/-- the window that is open behind i numbers -/
def gwin (ns : List Int) (m : Int) (i : Nat) : List Int := (ns.drop (gs ns m i).2).take (i - (gs ns m i).2)
def parts (ns : List Int) (m : Int) : List Int := (gs ns m ns.length).1 ++ if ns.length = 0 then [] else [(ns.length : Int)]
theorem gs_succ (ns : List Int) (m : Int) (i : Nat) : gs ns m (i + 1) = if ns.getD i 0 ∉ gwin ns m i ∧ (ulen (gwin ns m i) : Int) = m then ((gs ns m i).1 ++ [(i : Int)], i) else gs ns m i := rfl
theorem gs_le (ns : List Int) (m : Int) : ∀ i, (gs ns m i).2 ≤ i
  | 0 => Nat.le_refl 0
  | i + 1 => by
    rw [gs_succ]
    split
    · exact Nat.le_succ i
    · exact Nat.le_succ_of_le (gs_le ns m i)
theorem gs_len (ns : List Int) (m : Int) : ∀ i, (gs ns m i).1.length ≤ i
  | 0 => Nat.le_refl 0
  | i + 1 => by
    have := gs_len ns m i
    rw [gs_succ]
    split
    · rw [List.length_append]; exact Nat.succ_le_succ this
    · exact Nat.le_succ_of_le this
theorem gs_cut {ns : List Int} {m : Int} {i : Nat} {x : Int} (hx : ns[i]? = some x) (h1 : x ∉ gwin ns m i) (h2 : (ulen (gwin ns m i) : Int) = m) : gs ns m (i + 1) = ((gs ns m i).1 ++ [(i : Int)], i) ∧ gwin ns m (i + 1) = [x] := by
  have e : gs ns m (i + 1) = ((gs ns m i).1 ++ [(i : Int)], i) := by rw [gs_succ, getD_of hx, if_pos ⟨h1, h2⟩]
  refine ⟨e, ?_⟩
  unfold gwin
  rw [e]
  show (ns.drop i).take (i + 1 - i) = [x]
  have h := (List.getElem?_eq_some_iff.mp hx)
  obtain ⟨hi, hg⟩ := h
  rw [List.drop_eq_getElem_cons hi, show i + 1 - i = 1 by omega, hg]
  rfl
theorem gs_go {ns : List Int} {m : Int} {i : Nat} {x : Int} (hx : ns[i]? = some x) (h : ¬ (x ∉ gwin ns m i ∧ (ulen (gwin ns m i) : Int) = m)) : gs ns m (i + 1) = gs ns m i ∧ gwin ns m (i + 1) = gwin ns m i ++ [x] := by
  have e : gs ns m (i + 1) = gs ns m i := by rw [gs_succ, getD_of hx, if_neg h]
  refine ⟨e, ?_⟩
  unfold gwin
  rw [e]
  have hl := gs_le ns m i
  rw [show i + 1 - (gs ns m i).2 = i - (gs ns m i).2 + 1 by omega]
  exact take_snoc (by rw [List.getElem?_drop, show (gs ns m i).2 + (i - (gs ns m i).2) = i by omega]; exact hx)
theorem gwin_le {ns : List Int} {m : Int} (hm : 1 ≤ m) : ∀ i, i ≤ ns.length → (ulen (gwin ns m i) : Int) ≤ m
  | 0, _ => by
    show ((ulen ((ns.drop 0).take 0) : Nat) : Int) ≤ m
    rw [List.take_zero]
    exact Int.le_trans (by decide) hm
  | i + 1, h => by
    have ih := gwin_le (ns := ns) hm i (by omega)
    have hx := get_of (ns := ns) (i := i) (by omega)
    by_cases c : ns.getD i 0 ∉ gwin ns m i ∧ (ulen (gwin ns m i) : Int) = m
    · rw [(gs_cut hx c.1 c.2).2]
      exact hm
    · rw [(gs_go hx c).2, ulen_snoc]
      by_cases q : ns.getD i 0 ∈ gwin ns m i
      · rw [if_pos q]; exact ih
      · rw [if_neg q]
        have : ¬ (ulen (gwin ns m i) : Int) = m := fun z => c ⟨q, z⟩
        omega
theorem gs_1 {ns : List Int} {m : Int} (hm : 1 ≤ m) (hn : 0 < ns.length) : gs ns m 1 = ([], 0) := by
  refine (gs_go (i := 0) (get_of hn) (fun z => ?_)).1
  have h := z.2
  have e : gwin ns m 0 = [] := by
    show (ns.drop 0).take 0 = []
    rw [List.take_zero]
  rw [e] at h
  have e2 : ((ulen ([] : List Int) : Nat) : Int) = 0 := rfl
  omega
theorem parts_of {ns : List Int} {m : Int} {fs : List Int} {f : Nat} (h : gs ns m ns.length = (fs, f)) (hn : 0 < ns.length) : parts ns m = fs ++ [(ns.length : Int)] := by
  unfold parts
  rw [h, if_neg (by omega)]
theorem parts_nil {ns : List Int} {m : Int} (hn : ns.length = 0) : parts ns m = [] := by
  unfold parts
  rw [hn, if_pos rfl]
  rfl
theorem parts_take (ns : List Int) (m : Int) : (gs ns m ns.length).1 ++ ([(ns.length : Int)].take (ns.length : Int).toNat) = parts ns m := by
  unfold parts
  congr 1
  rcases Nat.eq_zero_or_pos ns.length with h | h
  · rw [h, if_pos rfl]; rfl
  · rw [if_neg (by omega), List.take_of_length_le (by show 1 ≤ _; omega)]
theorem parts_len (ns : List Int) (m : Int) : (parts ns m).length ≤ ns.length + 1 := by
  have := gs_len ns m ns.length
  unfold parts
  rw [List.length_append]
  split <;> simp <;> omega
theorem gwin_of {ns : List Int} {m : Int} {fs : List Int} {f b : Nat} (h : gs ns m b = (fs, f)) : gwin ns m b = (ns.drop f).take (b - f) := by
  unfold gwin
  rw [h]
end Ur
namespace Ur
open PySem L2
/-- where windows ended, but for the last -/
def cuts (ns : List Int) (m : Int) : List Int := (gs ns m ns.length).1
/-- where the j-th window began -/
def stc (cs : List Int) (j : Nat) : Int := ((0 : Int) :: cs).getD j 0
theorem stc_0 (cs : List Int) : stc cs 0 = 0 := rfl
theorem stc_s (cs : List Int) (j : Nat) : stc cs (j + 1) = cs.getD j 0 := rfl
theorem getD_app1 {cs : List Int} {x : Int} {j : Nat} (h : j < cs.length) : (cs ++ [x]).getD j 0 = cs.getD j 0 := by
  rw [List.getD_eq_getElem?_getD, List.getD_eq_getElem?_getD, List.getElem?_append_left h]
theorem getD_app2 {cs : List Int} {x : Int} : (cs ++ [x]).getD cs.length 0 = x := by
  rw [List.getD_eq_getElem?_getD, List.getElem?_append_right (Nat.le_refl _), Nat.sub_self]; rfl
theorem stc_app {cs : List Int} {x : Int} {j : Nat} (h : j ≤ cs.length) : stc (cs ++ [x]) j = stc cs j := by
  cases j with
  | zero => rfl
  | succ j => rw [stc_s, stc_s, getD_app1 (by omega)]
/-- what is known of the windows behind i numbers -/
structure GInv (ns : List Int) (m : Int) (i : Nat) (cs : List Int) (f : Nat) : Prop where
  last : stc cs cs.length = (f : Int)
  each : ∀ j, j < cs.length → 0 ≤ stc cs j ∧ stc cs j < cs.getD j 0 ∧ cs.getD j 0 < i ∧ (wunN ns (stc cs j).toNat (cs.getD j 0).toNat : Int) = m ∧ (wunN ns (stc cs j).toNat (cs.getD j 0 + 1).toNat : Int) = m + 1
theorem gs_inv {ns : List Int} {m : Int} (hm : 1 ≤ m) : ∀ i, i ≤ ns.length → GInv ns m i (gs ns m i).1 (gs ns m i).2
  | 0, _ => ⟨rfl, fun j h => absurd h (Nat.not_lt_zero j)⟩
  | i + 1, h => by
    have ih := gs_inv (ns := ns) hm i (by omega)
    have hx := get_of (ns := ns) (i := i) (by omega)
    by_cases c : ns.getD i 0 ∉ gwin ns m i ∧ (ulen (gwin ns m i) : Int) = m
    · have e := (gs_cut hx c.1 c.2).1
      rw [e]
      have hl := gs_le ns m i
      have hfi : (gs ns m i).2 < i := by
        refine Nat.lt_of_le_of_ne hl fun k => ?_
        have c2 := c.2
        unfold gwin at c2
        rw [k, Nat.sub_self, List.take_zero] at c2
        have e0 : ((ulen ([] : List Int) : Nat) : Int) = 0 := rfl
        omega
      refine ⟨?_, fun j hj => ?_⟩
      · show stc ((gs ns m i).1 ++ [(i : Int)]) ((gs ns m i).1 ++ [(i : Int)]).length = (i : Int)
        rw [List.length_append]
        show stc _ ((gs ns m i).1.length + 1) = _
        rw [stc_s, getD_app2]
      · have hj2 : j < (gs ns m i).1.length + 1 := by
          have h3 : ((gs ns m i).1 ++ [(i : Int)]).length = (gs ns m i).1.length + 1 := by rw [List.length_append]; rfl
          show j < _
          rw [← h3]; exact hj
        rw [stc_app (cs := (gs ns m i).1) (show j ≤ (gs ns m i).1.length by omega)]
        by_cases hjl : j < (gs ns m i).1.length
        · rw [getD_app1 hjl]
          obtain ⟨a1, a2, a3, a4, a5⟩ := ih.each j hjl
          exact ⟨a1, a2, by omega, a4, a5⟩
        · have hje : j = (gs ns m i).1.length := by omega
          subst hje
          rw [getD_app2, ih.last]
          have w1 : (wunN ns (gs ns m i).2 i : Int) = m := c.2
          have w2 : (wunN ns (gs ns m i).2 (i + 1) : Int) = m + 1 := by
            unfold wunN
            rw [show i + 1 - (gs ns m i).2 = i - (gs ns m i).2 + 1 by omega, take_snoc (x := ns.getD i 0) (by rw [List.getElem?_drop, show (gs ns m i).2 + (i - (gs ns m i).2) = i by omega]; exact hx), ulen_snoc, if_neg (show ns.getD i 0 ∉ (ns.drop (gs ns m i).2).take (i - (gs ns m i).2) from c.1)]
            have := c.2
            unfold gwin at this
            omega
          refine ⟨by omega, by omega, by omega, ?_, ?_⟩
          · rw [Int.toNat_natCast, Int.toNat_natCast]; exact w1
          · rw [Int.toNat_natCast, show ((i : Int) + 1).toNat = i + 1 by omega]; exact w2
    · rw [(gs_go hx c).1]
      exact ⟨ih.last, fun j hj => by
        obtain ⟨a1, a2, a3, a4, a5⟩ := ih.each j hj
        exact ⟨a1, a2, by omega, a4, a5⟩⟩
theorem cuts_ok {ns : List Int} {m : Int} (hm : 1 ≤ m) {j : Nat} (hj : j < (cuts ns m).length) : 0 ≤ stc (cuts ns m) j ∧ stc (cuts ns m) j < (cuts ns m).getD j 0 ∧ (cuts ns m).getD j 0 < ns.length ∧ (wunN ns (stc (cuts ns m) j).toNat ((cuts ns m).getD j 0).toNat : Int) = m ∧ (wunN ns (stc (cuts ns m) j).toNat ((cuts ns m).getD j 0 + 1).toNat : Int) = m + 1 :=
  (gs_inv hm ns.length (Nat.le_refl _)).each j hj
theorem cuts_last {ns : List Int} {m : Int} (hm : 1 ≤ m) : stc (cuts ns m) (cuts ns m).length = ((gs ns m ns.length).2 : Int) := (gs_inv hm ns.length (Nat.le_refl _)).last
theorem parts_cuts (ns : List Int) (m : Int) : parts ns m = cuts ns m ++ if ns.length = 0 then [] else [(ns.length : Int)] := rfl
theorem parts_init (ns : List Int) (m : Int) : (parts ns m).dropLast = cuts ns m := by
  rw [parts_cuts]
  by_cases h : ns.length = 0
  · rw [if_pos h, List.append_nil]
    have : cuts ns m = [] := by unfold cuts; rw [h]; rfl
    rw [this]; rfl
  · rw [if_neg h, List.dropLast_concat]
theorem parts_length (ns : List Int) (m : Int) : ((parts ns m).length : Int) = (cuts ns m).length + (if ns.length = 0 then 0 else 1 : Int) := by
  rw [parts_cuts, List.length_append]
  split <;> simp
theorem cuts_len (ns : List Int) (m : Int) : (cuts ns m).length ≤ ns.length := gs_len ns m ns.length
/-- the paper: windows one number too wide -/
def paperK (cs : List Int) (k : Nat) : List (Int × Int) := (List.range k).map fun j => (stc cs j, cs.getD j 0 + 1)
theorem paperK_s (cs : List Int) (k : Nat) : paperK cs (k + 1) = paperK cs k ++ [(stc cs k, cs.getD k 0 + 1)] := by
  unfold paperK
  rw [List.range_succ, List.map_append]; rfl
theorem paperK_len (cs : List Int) (k : Nat) : (paperK cs k).length = k := by simp [paperK]
theorem paperK_get {cs : List Int} {k j : Nat} (h : j < k) : (paperK cs k).getD j (0, 0) = (stc cs j, cs.getD j 0 + 1) := by
  unfold paperK
  rw [List.getD_eq_getElem?_getD, List.getElem?_map, List.getElem?_range h]; rfl
end Ur

namespace Ur
open PySem L2
/-! ### fewest windows -/
/-- idx tells each place its window: rising, and none with more than m unlike numbers -/
structure Col (ns : List Int) (m : Int) (idx : Nat → Nat) : Prop where
  up : ∀ i, i + 1 < ns.length → idx i ≤ idx (i + 1)
  few : ∀ p q, p ≤ q → q < ns.length → idx p = idx q → (wunN ns p (q + 1) : Int) ≤ m
theorem Col.mono {ns : List Int} {m : Int} {idx : Nat → Nat} (c : Col ns m idx) {p : Nat} : ∀ {k : Nat}, p + k < ns.length → idx p ≤ idx (p + k)
  | 0, _ => Nat.le_refl _
  | k + 1, h => Nat.le_trans (c.mono (k := k) (by omega)) (c.up (p + k) h)
theorem gs_grow (ns : List Int) (m : Int) (i : Nat) : ∃ cs, (gs ns m (i + 1)).1 = (gs ns m i).1 ++ cs ∧ (cs = [] → gs ns m (i + 1) = gs ns m i) := by
  rw [gs_succ]
  split
  · exact ⟨[(i : Int)], rfl, fun h => nomatch h⟩
  · exact ⟨[], (List.append_nil _).symm, fun _ => rfl⟩
theorem gs_more (ns : List Int) (m : Int) (i : Nat) : ∀ k, ∃ cs, (gs ns m (i + k)).1 = (gs ns m i).1 ++ cs ∧ (cs = [] → gs ns m (i + k) = gs ns m i)
  | 0 => ⟨[], (List.append_nil _).symm, fun _ => rfl⟩
  | k + 1 => by
    obtain ⟨cs, e1, e2⟩ := gs_more ns m i k
    obtain ⟨ds, d1, d2⟩ := gs_grow ns m (i + k)
    refine ⟨cs ++ ds, by rw [← Nat.add_assoc, d1, e1, List.append_assoc], fun h => ?_⟩
    obtain ⟨h1, h2⟩ := List.append_eq_nil_iff.mp h
    rw [← Nat.add_assoc, d2 h2, e2 h1]
/-- the greedy parting is one -/
theorem gs_col {ns : List Int} {m m' : Int} (hm : 1 ≤ m) (hmm : m ≤ m') : Col ns m' (fun i => (gs ns m (i + 1)).1.length) := by
  refine ⟨fun i h => ?_, fun p q hpq hq e => ?_⟩
  · obtain ⟨cs, e, _⟩ := gs_grow ns m (i + 1)
    show (gs ns m (i + 1)).1.length ≤ (gs ns m (i + 1 + 1)).1.length
    rw [e, List.length_append]
    omega
  · obtain ⟨cs, e1, e2⟩ := gs_more ns m (p + 1) (q - p)
    rw [show p + 1 + (q - p) = q + 1 by omega] at e1 e2
    have e3 : (gs ns m (p + 1)).1.length = (gs ns m (q + 1)).1.length := e
    rw [e1, List.length_append] at e3
    have e4 := e2 (List.eq_nil_of_length_eq_zero (by omega))
    have w := gwin_le (ns := ns) hm (q + 1) (by omega)
    have hl := gs_le ns m (p + 1)
    rw [← e4] at hl
    have w2 : (wunN ns (gs ns m (q + 1)).2 (q + 1) : Int) ≤ m := w
    by_cases c : (gs ns m (q + 1)).2 ≤ p
    · have k := wunN_monoF (ns := ns) (b := q + 1) (by omega) (k := p - (gs ns m (q + 1)).2) (f := (gs ns m (q + 1)).2) (by omega)
      rw [show (gs ns m (q + 1)).2 + (p - (gs ns m (q + 1)).2) = p by omega] at k
      omega
    · have c2 : (gs ns m (p + 1)).2 ≤ p := by
        rw [gs_succ]
        split
        · exact Nat.le_refl p
        · exact gs_le ns m p
      rw [← e4] at c2
      omega
/-- .. and none has fewer windows -/
theorem gs_few {ns : List Int} {m : Int} {idx : Nat → Nat} (hm : 1 ≤ m) (c : Col ns m idx) : ∀ i, i < ns.length → (gs ns m (i + 1)).1.length + idx 0 ≤ idx i ∧ ((gs ns m (i + 1)).1.length + idx 0 = idx i → idx (gs ns m (i + 1)).2 = idx i)
  | 0, h => by
    have e := gs_1 hm h
    show (gs ns m 1).1.length + idx 0 ≤ idx 0 ∧ ((gs ns m 1).1.length + idx 0 = idx 0 → idx (gs ns m 1).2 = idx 0)
    rw [e]
    exact ⟨by show 0 + idx 0 ≤ idx 0; omega, fun _ => rfl⟩
  | i + 1, h => by
    obtain ⟨h1, h2⟩ := gs_few hm c i (by omega)
    have u := c.up i h
    have hx := get_of (ns := ns) (i := i + 1) h
    by_cases k : ns.getD (i + 1) 0 ∉ gwin ns m (i + 1) ∧ (ulen (gwin ns m (i + 1)) : Int) = m
    · have e := (gs_cut hx k.1 k.2).1
      rw [e]
      refine ⟨?_, fun _ => rfl⟩
      show ((gs ns m (i + 1)).1 ++ [((i + 1 : Nat) : Int)]).length + idx 0 ≤ idx (i + 1)
      rw [List.length_append]
      show (gs ns m (i + 1)).1.length + 1 + idx 0 ≤ idx (i + 1)
      by_cases q : (gs ns m (i + 1)).1.length + idx 0 = idx i
      · by_cases z : idx (i + 1) = idx i
        · exfalso
          have h3 := h2 q
          have hl := gs_le ns m (i + 1)
          have f := c.few (gs ns m (i + 1)).2 (i + 1) hl h (h3.trans z.symm)
          have w : (wunN ns (gs ns m (i + 1)).2 (i + 1 + 1) : Int) = m + 1 := by
            have k2 := k.2
            unfold gwin at k2
            unfold wunN
            rw [show i + 1 + 1 - (gs ns m (i + 1)).2 = i + 1 - (gs ns m (i + 1)).2 + 1 by omega, take_snoc (x := ns.getD (i + 1) 0) (by rw [List.getElem?_drop, show (gs ns m (i + 1)).2 + (i + 1 - (gs ns m (i + 1)).2) = i + 1 by omega]; exact hx), ulen_snoc, if_neg (show ns.getD (i + 1) 0 ∉ (ns.drop (gs ns m (i + 1)).2).take (i + 1 - (gs ns m (i + 1)).2) from k.1)]
            omega
          omega
        · omega
      · omega
    · have e := (gs_go hx k).1
      rw [e]
      exact ⟨by omega, fun q => by
        have h3 := h2 (by omega)
        have : idx i = idx (i + 1) := by omega
        omega⟩
/-- how many windows -/
def nparts (ns : List Int) (m : Int) : Nat := (parts ns m).length
theorem nparts_0 {ns : List Int} {m : Int} (h : ns.length = 0) : nparts ns m = 0 := by
  unfold nparts
  rw [parts_nil h]; rfl
theorem nparts_1 {ns : List Int} {m : Int} (h : 0 < ns.length) : nparts ns m = (cuts ns m).length + 1 := by
  unfold nparts
  rw [parts_cuts, if_neg (by omega), List.length_append]; rfl
theorem nparts_le {ns : List Int} {m : Int} {idx : Nat → Nat} (hm : 1 ≤ m) (h : 0 < ns.length) (c : Col ns m idx) : nparts ns m + idx 0 ≤ idx (ns.length - 1) + 1 := by
  rw [nparts_1 h]
  have k := (gs_few hm c (ns.length - 1) (by omega)).1
  rw [show ns.length - 1 + 1 = ns.length by omega] at k
  unfold cuts
  omega
/-- with more at once there are no more windows -/
theorem nparts_mono {ns : List Int} {m m' : Int} (hm : 1 ≤ m) (hmm : m ≤ m') : nparts ns m' ≤ nparts ns m := by
  by_cases h : ns.length = 0
  · rw [nparts_0 h, nparts_0 h]; exact Nat.le_refl 0
  · have k := nparts_le (by omega) (by omega) (gs_col (ns := ns) hm hmm)
    have e := gs_1 (ns := ns) hm (by omega)
    rw [nparts_1 (m := m) (by omega)]
    have e2 : (gs ns m (ns.length - 1 + 1)).1.length = (cuts ns m).length := by rw [show ns.length - 1 + 1 = ns.length by omega]; rfl
    have e3 : (gs ns m (0 + 1)).1.length = 0 := by
      show (gs ns m 1).1.length = 0
      rw [e]; rfl
    have k2 : nparts ns m' + (gs ns m (0 + 1)).1.length ≤ (gs ns m (ns.length - 1 + 1)).1.length + 1 := k
    omega
theorem wunN_reverse {ns : List Int} {p q : Nat} (h : p ≤ q) (hq : q ≤ ns.length) : wunN ns.reverse p q = wunN ns (ns.length - q) (ns.length - p) := by
  refine ulen_congr fun x => ?_
  rw [mem_win, mem_win]
  constructor
  · rintro ⟨j, h1, h2, e⟩
    have hj : j < ns.length := by omega
    rw [List.getElem?_reverse hj] at e
    exact ⟨ns.length - 1 - j, by omega, by omega, e⟩
  · rintro ⟨j, h1, h2, e⟩
    have hj := (List.getElem?_eq_some_iff.mp e).1
    refine ⟨ns.length - 1 - j, by omega, by omega, ?_⟩
    rw [List.getElem?_reverse (by omega), show ns.length - 1 - (ns.length - 1 - j) = j by omega]
    exact e
theorem col_rev {ns : List Int} {m : Int} {idx : Nat → Nat} (c : Col ns m idx) : Col ns.reverse m (fun i => idx (ns.length - 1) - idx (ns.length - 1 - i)) := by
  have top : ∀ i, i < ns.length → idx i ≤ idx (ns.length - 1) := fun i hi => by
    have k := c.mono (p := i) (k := ns.length - 1 - i) (by omega)
    rwa [show i + (ns.length - 1 - i) = ns.length - 1 by omega] at k
  refine ⟨fun i h => ?_, fun p q hpq hq e => ?_⟩
  · rw [List.length_reverse] at h
    have u := c.up (ns.length - 1 - (i + 1)) (by omega)
    rw [show ns.length - 1 - (i + 1) + 1 = ns.length - 1 - i by omega] at u
    show idx (ns.length - 1) - idx (ns.length - 1 - i) ≤ idx (ns.length - 1) - idx (ns.length - 1 - (i + 1))
    omega
  · rw [List.length_reverse] at hq
    have e2 : idx (ns.length - 1) - idx (ns.length - 1 - p) = idx (ns.length - 1) - idx (ns.length - 1 - q) := e
    have t1 := top (ns.length - 1 - p) (by omega)
    have t2 := top (ns.length - 1 - q) (by omega)
    have f := c.few (ns.length - 1 - q) (ns.length - 1 - p) (by omega) (by omega) (by omega)
    rw [wunN_reverse (by omega) (by omega)]
    rwa [show ns.length - 1 - q = ns.length - (q + 1) by omega, show ns.length - 1 - p + 1 = ns.length - p by omega] at f
theorem nparts_rev_le {ns : List Int} {m : Int} (hm : 1 ≤ m) : nparts ns.reverse m ≤ nparts ns m := by
  by_cases h : ns.length = 0
  · rw [nparts_0 h, nparts_0 (by rw [List.length_reverse]; exact h)]; exact Nat.le_refl 0
  · have k := nparts_le (ns := ns.reverse) hm (by rw [List.length_reverse]; omega) (col_rev (gs_col (ns := ns) hm (Int.le_refl m)))
    rw [List.length_reverse] at k
    have e := gs_1 (ns := ns) hm (by omega)
    rw [nparts_1 (m := m) (ns := ns) (by omega)]
    have e2 : (gs ns m (ns.length - 1 + 1)).1.length = (cuts ns m).length := by rw [show ns.length - 1 + 1 = ns.length by omega]; rfl
    have e3 : (gs ns m (ns.length - 1 - (ns.length - 1) + 1)).1.length = 0 := by
      rw [Nat.sub_self]
      show (gs ns m 1).1.length = 0
      rw [e]; rfl
    have k2 : nparts ns.reverse m + ((gs ns m (ns.length - 1 + 1)).1.length - (gs ns m (ns.length - 1 - 0 + 1)).1.length) ≤ (gs ns m (ns.length - 1 + 1)).1.length - (gs ns m (ns.length - 1 - (ns.length - 1) + 1)).1.length + 1 := k
    rw [Nat.sub_zero] at k2
    omega
theorem nparts_rev {ns : List Int} {m : Int} (hm : 1 ≤ m) : nparts ns.reverse m = nparts ns m := by
  refine Nat.le_antisymm (nparts_rev_le hm) ?_
  have k := nparts_rev_le (ns := ns.reverse) hm
  rwa [List.reverse_reverse] at k
/-! two rows, one behind the other -/
theorem win_app1 {r o : List Int} {f b : Nat} (h : b ≤ r.length) : ((r ++ o).drop f).take (b - f) = (r.drop f).take (b - f) := by
  by_cases hf : f ≤ r.length
  · rw [List.drop_append_of_le_length hf, List.take_append_of_le_length (by rw [List.length_drop]; omega)]
  · rw [show b - f = 0 by omega]; rfl
theorem gs_app {r o : List Int} {m : Int} : ∀ i, i ≤ r.length → gs (r ++ o) m i = gs r m i
  | 0, _ => rfl
  | i + 1, h => by
    have ih := gs_app (r := r) (o := o) (m := m) i (by omega)
    have e : gwin (r ++ o) m i = gwin r m i := by
      unfold gwin
      rw [ih, win_app1 (by omega)]
    rw [gs_succ, gs_succ, e, ih, getD_app (by omega)]
theorem cuts_app {r o : List Int} {m : Int} : ∃ cs, cuts (r ++ o) m = cuts r m ++ cs := by
  obtain ⟨cs, e, _⟩ := gs_more (r ++ o) m r.length o.length
  refine ⟨cs, ?_⟩
  unfold cuts
  rw [List.length_append, e, gs_app _ (Nat.le_refl _)]
theorem nparts_app_ge {r o : List Int} {m : Int} : nparts r m ≤ nparts (r ++ o) m := by
  by_cases h : r.length = 0
  · rw [nparts_0 h]; exact Nat.zero_le _
  · obtain ⟨cs, e⟩ := cuts_app (r := r) (o := o) (m := m)
    rw [nparts_1 (by omega), nparts_1 (by rw [List.length_append]; omega), e, List.length_append]
    omega
theorem nparts_app_ge2 {r o : List Int} {m : Int} (hm : 1 ≤ m) : nparts o m ≤ nparts (r ++ o) m := by
  rw [← nparts_rev (ns := o) hm, ← nparts_rev (ns := r ++ o) hm, List.reverse_append]
  exact nparts_app_ge
theorem nparts_app {r o : List Int} {m : Int} (hm : 1 ≤ m) : nparts (r ++ o) m ≤ nparts r m + nparts o m := by
  by_cases hr : r.length = 0
  · rw [List.eq_nil_of_length_eq_zero hr, List.nil_append]; omega
  by_cases ho : o.length = 0
  · rw [List.eq_nil_of_length_eq_zero ho, List.append_nil]; omega
  have c1 := gs_col (ns := r) hm (Int.le_refl m)
  have c2 := gs_col (ns := o) hm (Int.le_refl m)
  have top : ∀ i, i < r.length → (gs r m (i + 1)).1.length ≤ (cuts r m).length := fun i hi => by
    obtain ⟨cs, e, _⟩ := gs_more r m (i + 1) (r.length - (i + 1))
    rw [show i + 1 + (r.length - (i + 1)) = r.length by omega] at e
    unfold cuts
    rw [e, List.length_append]; omega
  have c : Col (r ++ o) m (fun i => if i < r.length then (gs r m (i + 1)).1.length else (cuts r m).length + 1 + (gs o m (i - r.length + 1)).1.length) := by
    refine ⟨fun i h => ?_, fun p q hpq hq e => ?_⟩
    · rw [List.length_append] at h
      show (if i < r.length then _ else _) ≤ (if i + 1 < r.length then _ else _)
      by_cases h1 : i + 1 < r.length
      · rw [if_pos h1, if_pos (by omega)]
        exact c1.up i h1
      · rw [if_neg h1]
        by_cases h2 : i < r.length
        · rw [if_pos h2]
          have := top i h2
          omega
        · rw [if_neg h2]
          have k := c2.up (i - r.length) (by omega)
          have k2 : (gs o m (i - r.length + 1)).1.length ≤ (gs o m (i - r.length + 1 + 1)).1.length := k
          rw [show i + 1 - r.length + 1 = i - r.length + 1 + 1 by omega]
          omega
    · rw [List.length_append] at hq
      have e2 : (if p < r.length then (gs r m (p + 1)).1.length else (cuts r m).length + 1 + (gs o m (p - r.length + 1)).1.length) = (if q < r.length then (gs r m (q + 1)).1.length else (cuts r m).length + 1 + (gs o m (q - r.length + 1)).1.length) := e
      by_cases h1 : q < r.length
      · rw [if_pos h1, if_pos (by omega)] at e2
        have f := c1.few p q hpq h1 e2
        unfold wunN at f ⊢
        rw [win_app1 (by omega)]
        exact f
      · rw [if_neg h1] at e2
        by_cases h2 : p < r.length
        · rw [if_pos h2] at e2
          have := top p h2
          omega
        · rw [if_neg h2] at e2
          have f := c2.few (p - r.length) (q - r.length) (by omega) (by omega) (by show (gs o m (p - r.length + 1)).1.length = (gs o m (q - r.length + 1)).1.length; omega)
          unfold wunN at f ⊢
          rw [List.drop_append, List.drop_of_length_le (by omega), List.nil_append]
          rwa [show q - r.length + 1 - (p - r.length) = q + 1 - p by omega] at f
  have k := nparts_le hm (by rw [List.length_append]; omega) c
  rw [List.length_append] at k
  have e1 := gs_1 (ns := r) hm (by omega)
  have k2 : nparts (r ++ o) m + (if 0 < r.length then (gs r m (0 + 1)).1.length else _) ≤ (if r.length + o.length - 1 < r.length then _ else (cuts r m).length + 1 + (gs o m (r.length + o.length - 1 - r.length + 1)).1.length) + 1 := k
  rw [if_pos (show 0 < r.length by omega), if_neg (show ¬ r.length + o.length - 1 < r.length by omega), show r.length + o.length - 1 - r.length + 1 = o.length by omega] at k2
  rw [nparts_1 (ns := r) (by omega), nparts_1 (ns := o) (by omega)]
  unfold cuts at k2 ⊢
  omega
/-- what is known of the parting -/
theorem parts_ok {ns : List Int} {m : Int} (hm : 1 ≤ m) {k : Nat} {x : Int} (hk : (parts ns m)[k]? = some x) : 0 ≤ stc (parts ns m) k ∧ stc (parts ns m) k < x ∧ x ≤ ns.length ∧ (wunN ns (stc (parts ns m) k).toNat x.toNat : Int) ≤ m := by
  have hc := parts_cuts ns m
  have hl := (List.getElem?_eq_some_iff.mp hk).1
  by_cases h0 : ns.length = 0
  · rw [parts_nil h0] at hl
    exact absurd hl (Nat.not_lt_zero k)
  rw [if_neg h0] at hc
  rw [hc, List.length_append] at hl
  have h1 : ([(ns.length : Int)] : List Int).length = 1 := rfl
  rw [hc, stc_app (cs := cuts ns m) (by omega)]
  rw [hc] at hk
  by_cases h : k < (cuts ns m).length
  · rw [List.getElem?_append_left h] at hk
    have e := getD_of hk
    obtain ⟨a1, a2, a3, a4, _⟩ := cuts_ok hm h
    rw [e] at a2 a3 a4
    exact ⟨a1, a2, by omega, by omega⟩
  · have hk2 : k = (cuts ns m).length := by omega
    subst hk2
    rw [List.getElem?_append_right (Nat.le_refl _), Nat.sub_self] at hk
    cases hk
    have w := gwin_le (ns := ns) hm ns.length (Nat.le_refl _)
    have hlast := cuts_last (ns := ns) hm
    have hlt : (gs ns m ns.length).2 < ns.length := by
      have e : gs ns m (ns.length - 1 + 1) = gs ns m ns.length := by rw [show ns.length - 1 + 1 = ns.length by omega]
      rw [← e, gs_succ]
      split
      · show ns.length - 1 < ns.length
        omega
      · have := gs_le ns m (ns.length - 1)
        omega
    rw [hlast, Int.toNat_natCast, Int.toNat_natCast]
    exact ⟨by omega, by omega, by omega, w⟩
theorem parts_end (ns : List Int) (m : Int) : stc (parts ns m) (parts ns m).length = (ns.length : Int) := by
  by_cases h0 : ns.length = 0
  · rw [parts_nil h0, h0]; rfl
  · rw [parts_cuts, if_neg h0, List.length_append]
    show stc _ ((cuts ns m).length + 1) = _
    rw [stc_s, getD_app2]
/-! called otherwise -/
theorem gs_map {f : Int → Int} {ns : List Int} {m : Int} (h : InjOn f ns) : ∀ i, i ≤ ns.length → gs (ns.map f) m i = gs ns m i
  | 0, _ => rfl
  | i + 1, hi => by
    have ih := gs_map (m := m) h i (by omega)
    have hx := get_of (ns := ns) (i := i) (by omega)
    have e : gwin (ns.map f) m i = (gwin ns m i).map f := by
      unfold gwin
      rw [ih, ← List.map_drop, ← List.map_take]
    have hs : ∀ y ∈ gwin ns m i, y ∈ ns := fun y hy => List.mem_of_mem_drop (List.mem_of_mem_take hy)
    have hxm : ns.getD i 0 ∈ ns := List.mem_of_getElem? hx
    have ex : (ns.map f).getD i 0 = f (ns.getD i 0) := getD_of (by rw [List.getElem?_map, hx]; rfl)
    have eu : ulen ((gwin ns m i).map f) = ulen (gwin ns m i) := ulen_map fun x hx y hy k => h x (hs x hx) y (hs y hy) k
    rw [gs_succ, gs_succ, e, ih, ex, eu]
    by_cases q : ns.getD i 0 ∈ gwin ns m i
    · rw [if_neg (fun z => z.1 ((mem_map_inj h hxm hs).mpr q)), if_neg (fun z => z.1 q)]
    · by_cases z : (ulen (gwin ns m i) : Int) = m
      · rw [if_pos ⟨fun k => q ((mem_map_inj h hxm hs).mp k), z⟩, if_pos ⟨q, z⟩]
      · rw [if_neg (fun k => z k.2), if_neg (fun k => z k.2)]
theorem parts_map {f : Int → Int} {ns : List Int} {m : Int} (h : InjOn f ns) : parts (ns.map f) m = parts ns m := by
  unfold parts
  rw [List.length_map, gs_map h _ (Nat.le_refl _)]
/-- where there are no more unlike numbers there is one window -/
theorem gs_all {ns : List Int} {m : Int} (h : (ulen ns : Int) ≤ m) : ∀ i, i ≤ ns.length → gs ns m i = ([], 0)
  | 0, _ => rfl
  | i + 1, hi => by
    have ih := gs_all h i (by omega)
    have hx := get_of (ns := ns) (i := i) (by omega)
    have e : gwin ns m i = ns.take i := by
      unfold gwin
      rw [ih]; rfl
    rw [gs_succ, e, ih, if_neg]
    rintro ⟨z1, z2⟩
    have k : ulen (ns.take (i + 1)) ≤ ulen ns := by
      have := ulen_mono (ns := ns) (i := i + 1) (j := ns.length) hi
      rwa [List.take_length] at this
    rw [take_snoc hx, ulen_snoc, if_neg z1] at k
    omega
theorem parts_all {ns : List Int} {m : Int} (h : (ulen ns : Int) ≤ m) : parts ns m = if ns.length = 0 then [] else [(ns.length : Int)] := by
  unfold parts
  rw [gs_all h _ (Nat.le_refl _)]; rfl
theorem take_len (n : Nat) : ([(n : Int)].take (n : Int).toNat) = if n = 0 then [] else [(n : Int)] := by
  rcases Nat.eq_zero_or_pos n with h | h
  · rw [h, if_pos rfl]; rfl
  · rw [if_neg (by omega), List.take_of_length_le (by show 1 ≤ _; omega)]
end Ur

namespace Ur
open PySem L2
/-! ### lists of pairs of ints -/
/-- objects at ls, the k-th of them O k -/
structure ObjsF (H : Hp) (ls : List Addr) (n : Nat) (O : Nat → HO) : Prop where
  len : ls.length = n
  row : ∀ k p, ls[k]? = some p → H p = some (O k)
theorem ObjsF.same {H H' : Hp} {ls : List Addr} {n : Nat} {O : Nat → HO} (r : ObjsF H ls n O) (s : Same H H') : ObjsF H' ls n O := ⟨r.len, fun k p e => s _ _ (r.row k p e)⟩
theorem ObjsF.but {a : Addr} {H H' : Hp} {ls : List Addr} {n : Nat} {O : Nat → HO} (r : ObjsF H ls n O) (b : But a H H') (no : ∀ p ∈ ls, p ≠ a) : ObjsF H' ls n O := ⟨r.len, fun k p e => b _ _ (no p (List.mem_of_getElem? e)) (r.row k p e)⟩
theorem ObjsF.is {H : Hp} {ls : List Addr} {n : Nat} {O : Nat → HO} (r : ObjsF H ls n O) {p : Addr} (hp : p ∈ ls) : ∃ k, k < n ∧ H p = some (O k) := by
  obtain ⟨k, hk⟩ := List.getElem?_of_mem hp
  exact ⟨k, by have := (List.getElem?_eq_some_iff.mp hk).1; have := r.len; omega, r.row k p hk⟩
theorem ObjsF.offNew {H : Hp} {x : Addr} {ls : List Addr} {n : Nat} {O : Nat → HO} (r : ObjsF H ls n O) (e : H x = none) : Off ls x := ⟨fun p hp z => by
  obtain ⟨k, _, em⟩ := r.is hp
  rw [z, e] at em
  cases em⟩
/-- .. of another kind than what lies at x -/
theorem ObjsF.offKind {H : Hp} {x : Addr} {o : HO} {ls : List Addr} {n : Nat} {O : Nat → HO} (r : ObjsF H ls n O) (e : H x = some o) (h : ∀ k, O k ≠ o) : Off ls x := ⟨fun p hp z => by
  obtain ⟨k, _, em⟩ := r.is hp
  rw [z, e] at em
  exact h k (Option.some.inj em).symm⟩
theorem ObjsF.upd {H : Hp} {x : Addr} {o : HO} {ls : List Addr} {n : Nat} {O : Nat → HO} (r : ObjsF H ls n O) (f : Off ls x) : ObjsF (upd H x o) ls n O := ⟨r.len, fun k p e => by
  rw [upd_ne (f.out p (List.mem_of_getElem? e))]
  exact r.row k p e⟩
/-- a pair -/
def pr (q : Int × Int) : HO := .tup [.int q.1, .int q.2]
abbrev PairsF (H : Hp) (ls : List Addr) (ps : List (Int × Int)) : Prop := ObjsF H ls ps.length (fun k => pr (ps.getD k (0, 0)))
theorem PairsF.nil {H : Hp} : PairsF H [] [] := ⟨rfl, fun k p h => nomatch h⟩
theorem PairsF.snoc {H : Hp} {ls : List Addr} {ps : List (Int × Int)} {p : Addr} {x y : Int} (r : PairsF H ls ps) (e : H p = some (.tup [.int x, .int y])) : PairsF H (ls ++ [p]) (ps ++ [(x, y)]) := by
  have hl := r.len
  refine ⟨by rw [List.length_append, List.length_append, hl]; rfl, fun k q h => ?_⟩
  by_cases hk : k < ls.length
  · rw [List.getElem?_append_left hk] at h
    have h2 := r.row k q h
    have h3 : (ps ++ [(x, y)]).getD k (0, 0) = ps.getD k (0, 0) := by
      rw [List.getD_eq_getElem?_getD, List.getD_eq_getElem?_getD, List.getElem?_append_left (by omega)]
    show H q = some (pr ((ps ++ [(x, y)]).getD k (0, 0)))
    rw [h3]
    exact h2
  · have h2 := (List.getElem?_eq_some_iff.mp h).1
    rw [List.length_append] at h2
    have h3 : [p].length = 1 := rfl
    have hk2 : k = ls.length := by omega
    subst hk2
    rw [List.getElem?_append_right (Nat.le_refl _), Nat.sub_self] at h
    cases h
    have h4 : (ps ++ [(x, y)]).getD ls.length (0, 0) = (x, y) := by
      rw [List.getD_eq_getElem?_getD, List.getElem?_append_right (by omega), hl, Nat.sub_self]
      rfl
    show H p = some (pr ((ps ++ [(x, y)]).getD ls.length (0, 0)))
    rw [h4]
    exact e
theorem PairsF.get {H : Hp} {ls : List Addr} {ps : List (Int × Int)} {k : Nat} {p : Addr} (r : PairsF H ls ps) (h : ls[k]? = some p) : k < ps.length ∧ H p = some (.tup [.int (ps.getD k (0, 0)).1, .int (ps.getD k (0, 0)).2]) :=
  ⟨by have := (List.getElem?_eq_some_iff.mp h).1; have := r.len; omega, r.row k p h⟩
theorem PairsF.offL {H : Hp} {x : Addr} {xs : List V} {ls : List Addr} {ps : List (Int × Int)} (r : PairsF H ls ps) (e : H x = some (.lst xs)) : Off ls x := ObjsF.offKind r e fun k z => nomatch z
/-- the data of such a list -/
def pairsD (ps : List (Int × Int)) : List PyData := ps.map fun q => PyData.tuple [.int q.1, .int q.2]
theorem dp_pairs {K : PySem.W.Frag} {H : Hp} {a : Addr} {ls : List Addr} {ps : List (Int × Int)} (h : SqL K H a (ls.map V.ref)) (r : PairsF H ls ps) : Dp K H (.ref a) (.list (pairsD ps)) := by
  refine .lst h (dpAll_of _ _ (by rw [pairsD, List.length_map, List.length_map, r.len]) fun k v d h1 h2 => ?_)
  rw [List.getElem?_map] at h1
  obtain ⟨p, hp, rfl⟩ := Option.map_eq_some_iff.mp h1
  obtain ⟨hk, e⟩ := r.get hp
  rw [pairsD, List.getElem?_map, List.getElem?_eq_getElem hk] at h2
  cases h2
  have e2 : ps.getD k (0, 0) = ps[k] := by rw [List.getD_eq_getElem?_getD, List.getElem?_eq_getElem hk]; rfl
  rw [e2] at e
  exact .tup (SqT.of e) (.cons (.int _) (.cons (.int _) .nil))
theorem shaped_pairs (ps : List (Int × Int)) : SeqAt.shaped (.list (pairsD ps)) = true := by
  refine shaped_of (canLayAll_of _ fun d h => ?_) ?_
  · obtain ⟨q, _, rfl⟩ := List.mem_map.mp h
    rfl
  · have h := depthAll_of (m := 2) (pairsD ps) fun d h => by
      obtain ⟨q, _, rfl⟩ := List.mem_map.mp h
      rw [PyData.depth]
      have := depthAll_of (m := 1) [PyData.int q.1, .int q.2] fun d h => by
        rcases List.mem_cons.mp h with rfl | h
        · simp [PyData.depth]
        · rw [List.mem_singleton.mp h]; simp [PyData.depth]
      omega
    rw [PyData.depth]
    omega
theorem eqv_pairs (ps : List (Int × Int)) : PyData.eqv (.list (pairsD ps)) (.list (pairsD ps)) = true := by
  show PyData.eqvAll _ _ = true
  refine eqvAll_refl _ fun d h => ?_
  obtain ⟨q, _, rfl⟩ := List.mem_map.mp h
  show PyData.eqvAll _ _ = true
  refine eqvAll_refl _ fun d h => ?_
  rcases List.mem_cons.mp h with rfl | h
  · show (q.1 == q.1) = true
    exact beq_self_eq_true _
  · rw [List.mem_singleton.mp h]
    show (q.2 == q.2) = true
    exact beq_self_eq_true _
theorem rEq_pairs {K : PySem.W.Frag} {H : Hp} {a b : Addr} {ls ms : List Addr} {ps : List (Int × Int)} {Q : VK} (h1 : SqL K H a (ls.map V.ref)) (h2 : SqL K H b (ms.map V.ref)) (r1 : PairsF H ls ps) (r2 : PairsF H ms ps) (q : Q (.bl true) H) : rEqD K (.ref a) (.ref b) H Q :=
  ⟨_, _, dp_pairs h1 r1, dp_pairs h2 r2, shaped_pairs ps, shaped_pairs ps, by rw [eqv_pairs]; exact q⟩
theorem rNe_pairs {K : PySem.W.Frag} {H : Hp} {a b : Addr} {ls ms : List Addr} {ps : List (Int × Int)} {Q : VK} (h1 : SqL K H a (ls.map V.ref)) (h2 : SqL K H b (ms.map V.ref)) (r1 : PairsF H ls ps) (r2 : PairsF H ms ps) (q : Q (.bl false) H) : rNeD K (.ref a) (.ref b) H Q :=
  ⟨_, _, dp_pairs h1 r1, dp_pairs h2 r2, shaped_pairs ps, shaped_pairs ps, by rw [eqv_pairs]; exact q⟩
/-! ### xs[:-1] -/
theorem cut_m1 (xs : List V) : cutV xs none (some (-1)) = xs.dropLast := by
  unfold cutV
  rw [HT.sIx_none]
  have e : HT.sIx xs.length xs.length (some (-1)) = xs.length - 1 := by
    show (if (-1 : Int) < 0 then ((-1 : Int) + (xs.length : Int)).toNat else min (-1 : Int).toNat xs.length) = xs.length - 1
    rw [if_pos (by decide)]
    omega
  rw [e, List.drop_zero, Nat.sub_zero, List.dropLast_eq_take]
end Ur

namespace Ur
open PySem L2
/-! ### how often each number stands in a window -/
theorem putK_keys (kvs : List (Key × V)) (k : Key) (v : V) (h : (kvs.map (·.1)).Nodup) : ((putK kvs k v).map (·.1)).Nodup := by
  unfold putK
  split
  · rw [List.map_map]
    have e : (kvs.map ((·.1) ∘ fun kv : Key × V => if kv.1 = k then (kv.1, v) else kv)) = kvs.map (·.1) := List.map_congr_left fun kv _ => by
      show (if kv.1 = k then (kv.1, v) else kv).1 = kv.1
      split <;> rfl
    rw [e]; exact h
  · rename_i hn
    rw [List.map_append, List.nodup_append]
    refine ⟨h, List.nodup_cons.mpr ⟨List.not_mem_nil, List.nodup_nil⟩, fun x hx y hy e => hn ?_⟩
    obtain ⟨kv, hkv, rfl⟩ := List.mem_map.mp hx
    have e2 : y = k := List.mem_singleton.mp hy
    exact List.any_eq_true.mpr ⟨kv, hkv, decide_eq_true (e.trans e2)⟩
theorem dropK_keys (kvs : List (Key × V)) (k : Key) (h : (kvs.map (·.1)).Nodup) : ((dropK kvs k).map (·.1)).Nodup := by
  unfold dropK
  exact List.Nodup.sublist (List.Sublist.map _ List.filter_sublist) h
theorem valV_dropK (k j : Key) : ∀ kvs : List (Key × V), valV (dropK kvs k) j = if j = k then none else valV kvs j
  | [] => by split <;> rfl
  | p :: r => by
    have ih := valV_dropK k j r
    by_cases e : p.1 = k
    · rw [dropK_pos e, ih]
      by_cases q : j = k
      · rw [if_pos q, if_pos q]
      · rw [if_neg q, if_neg q, valV_neg (fun z => q (z.symm.trans e))]
    · rw [dropK_neg e]
      by_cases q : p.1 = j
      · rw [valV_pos q, valV_pos q, if_neg (fun z => e (q.trans z))]
      · rw [valV_neg q, valV_neg q, ih]
theorem dropK_len (k : Key) : ∀ kvs : List (Key × V), (kvs.map (·.1)).Nodup → (valV kvs k).isSome = true → (dropK kvs k).length + 1 = kvs.length
  | [], _, h => by cases h
  | p :: r, nd, h => by
    rw [List.map_cons, List.nodup_cons] at nd
    by_cases e : p.1 = k
    · rw [dropK_pos e]
      have e2 : dropK r k = r := by
        unfold dropK
        refine List.filter_eq_self.mpr fun q hq => decide_eq_true fun z => nd.1 ?_
        exact List.mem_map.mpr ⟨q, hq, z.trans e.symm⟩
      rw [e2]; rfl
    · rw [dropK_neg e, List.length_cons, List.length_cons]
      rw [valV_neg e] at h
      have := dropK_len k r nd.2 h
      omega
structure Cnt (kvs : List (Key × V)) (W : List Int) : Prop where
  val : ∀ z : Int, valV kvs (Sum.inl z) = if z ∈ W then some (.int (W.count z : Nat)) else none
  len : kvs.length = ulen W
  nd : (kvs.map (·.1)).Nodup
theorem Cnt.nil : Cnt [] [] := ⟨fun z => by rw [if_neg (fun h => nomatch h)]; rfl, rfl, List.nodup_nil⟩
theorem Cnt.has {kvs : List (Key × V)} {W : List Int} (c : Cnt kvs W) (z : Int) : (valV kvs (Sum.inl z)).isSome = decide (z ∈ W) := by
  rw [c.val]
  by_cases h : z ∈ W
  · rw [if_pos h, decide_eq_true h]; rfl
  · rw [if_neg h, decide_eq_false h]; rfl
theorem Cnt.get0 {kvs : List (Key × V)} {W : List Int} (c : Cnt kvs W) (z : Int) : (valV kvs (Sum.inl z)).getD (.int 0) = .int (W.count z : Nat) := by
  rw [c.val]
  by_cases h : z ∈ W
  · rw [if_pos h]; rfl
  · rw [if_neg h, List.count_eq_zero.mpr h]; rfl
theorem Cnt.come {kvs : List (Key × V)} {W : List Int} (c : Cnt kvs W) (x : Int) : Cnt (putK kvs (Sum.inl x) (.int ((W.count x : Nat) + 1 : Int))) (W ++ [x]) := by
  refine ⟨fun z => ?_, ?_, putK_keys _ _ _ c.nd⟩
  · rw [val_put, c.val z]
    by_cases e : z = x
    · rw [if_pos e, if_pos (List.mem_append.mpr (.inr (List.mem_singleton.mpr e))), e, List.count_append, List.count_singleton_self]
      rfl
    · rw [if_neg e]
      by_cases h : z ∈ W
      · rw [if_pos h, if_pos (List.mem_append.mpr (.inl h)), List.count_append, List.count_eq_zero.mpr (fun k => e (List.mem_singleton.mp k)), Nat.add_zero]
      · rw [if_neg h, if_neg]
        intro k
        rcases List.mem_append.mp k with k | k
        · exact h k
        · exact e (List.mem_singleton.mp k)
  · rw [ulen_snoc]
    by_cases h : x ∈ W
    · rw [if_pos h, putK_same (by rw [c.has]; exact decide_eq_true h), c.len]
    · rw [if_neg h, putK_none (by rw [c.has]; exact decide_eq_false h), c.len]
/-- one less, and it is still there -/
theorem Cnt.less {kvs : List (Key × V)} {W : List Int} {x : Int} (c : Cnt kvs (x :: W)) (h : x ∈ W) : Cnt (putK kvs (Sum.inl x) (.int (((x :: W).count x : Nat) - 1 : Int))) W := by
  have hx : (valV kvs (Sum.inl x)).isSome = true := by rw [c.has]; exact decide_eq_true List.mem_cons_self
  refine ⟨fun z => ?_, ?_, putK_keys _ _ _ c.nd⟩
  · rw [val_put, c.val z]
    by_cases e : z = x
    · subst e
      rw [if_pos rfl, if_pos h, List.count_cons_self]
      congr 2
      omega
    · rw [if_neg e]
      by_cases k : z ∈ W
      · rw [if_pos k, if_pos (List.mem_cons_of_mem _ k), List.count_cons_of_ne (fun q => e q.symm)]
      · rw [if_neg k, if_neg]
        intro q
        rcases List.mem_cons.mp q with q | q
        · exact e q
        · exact k q
  · rw [putK_same hx, c.len, ulen_cons, if_pos h]
/-- one less, and it is gone -/
theorem Cnt.gone {kvs : List (Key × V)} {W : List Int} {x : Int} (c : Cnt kvs (x :: W)) (h : x ∉ W) (v : V) : Cnt (dropK (putK kvs (Sum.inl x) v) (Sum.inl x)) W := by
  have hx : (valV kvs (Sum.inl x)).isSome = true := by rw [c.has]; exact decide_eq_true List.mem_cons_self
  refine ⟨fun z => ?_, ?_, dropK_keys _ _ (putK_keys _ _ _ c.nd)⟩
  · rw [valV_dropK]
    by_cases e : z = x
    · rw [if_pos (by rw [e]), if_neg (by rw [e]; exact h)]
    · rw [if_neg (fun q => e (Sum.inl.inj q)), val_put, if_neg e, c.val z]
      by_cases k : z ∈ W
      · rw [if_pos k, if_pos (List.mem_cons_of_mem _ k), List.count_cons_of_ne (fun q => e q.symm)]
      · rw [if_neg k, if_neg]
        intro q
        rcases List.mem_cons.mp q with q | q
        · exact e q
        · exact k q
  · have hl := dropK_len (Sum.inl x) (putK kvs (Sum.inl x) v) (putK_keys _ _ _ c.nd) (by rw [val_put, if_pos rfl]; rfl)
    have h2 := c.len
    rw [ulen_cons, if_neg h] at h2
    rw [putK_same hx] at hl
    omega
theorem count_self_pos {W : List Int} {x : Int} : ((x :: W).count x : Nat) = W.count x + 1 := List.count_cons_self
/-! ### ends, and greatest ends -/
/-- the greatest behind with at most m unlike numbers -/
def wi (ns : List Int) (m : Int) (f : Nat) : Int := match endAt ns f (m + 1) with
  | none => ns.length
  | some b => (b : Int) - 1
theorem endAt_none {ns : List Int} {f : Nat} {m : Int} (hf : f ≤ ns.length) (h : (wunN ns f ns.length : Int) < m) : endAt ns f m = none := by
  rcases endAt_spec (m := m) hf with ⟨e, _⟩ | ⟨e, h1, h2, h3, h4, _⟩
  · exact e
  · have k := wunN_monoB (ns := ns) (f := f) (b := e) (k := ns.length - e) h2 (by omega)
    rw [show e + (ns.length - e) = ns.length by omega] at k
    omega
/-- at an end there are just so many -/
theorem endAt_just {ns : List Int} {f e : Nat} {m : Int} (hf : f ≤ ns.length) (h0 : 0 ≤ m) (h : endAt ns f m = some e) : f ≤ e ∧ e ≤ ns.length ∧ (wunN ns f e : Int) = m ∧ ∀ b, f ≤ b → b < e → (wunN ns f b : Int) < m := by
  rcases endAt_spec (m := m) hf with ⟨e2, _⟩ | ⟨e2, h1, h2, h3, h4, h5⟩
  · rw [e2] at h; cases h
  · rw [h1] at h
    cases h
    refine ⟨h2, h3, ?_, fun b k1 k2 => by have := h5 b k1 k2; omega⟩
    by_cases c : f < e
    · have k := wunN_step (ns := ns) (f := f) (b := e - 1) (by omega) (by omega)
      rw [show e - 1 + 1 = e by omega] at k
      have := h5 (e - 1) (by omega) (by omega)
      omega
    · have : f = e := by omega
      subst this
      rw [wunN_none] at h4 ⊢
      omega
/-- what a greatest end is -/
theorem wi_spec {ns : List Int} {m : Int} {f : Nat} (hf : f ≤ ns.length) (h0 : 0 ≤ m) : (f : Int) ≤ wi ns m f ∧ wi ns m f ≤ ns.length ∧ ∀ b : Nat, f ≤ b → b ≤ ns.length → ((wunN ns f b : Int) ≤ m ↔ (b : Int) ≤ wi ns m f) := by
  unfold wi
  cases e : endAt ns f (m + 1) with
  | none =>
    refine ⟨by show (f : Int) ≤ (ns.length : Int); omega, Int.le_refl _, fun b h1 h2 => ⟨fun _ => by show (b : Int) ≤ (ns.length : Int); omega, fun _ => ?_⟩⟩
    rcases endAt_spec (m := m + 1) hf with ⟨_, k⟩ | ⟨e2, k1, _⟩
    · have := k b h1 h2; omega
    · rw [e] at k1; cases k1
  | some b0 =>
    obtain ⟨h1, h2, h3, h4⟩ := endAt_just hf (by omega) e
    have hlt : f < b0 := by
      refine Nat.lt_of_le_of_ne h1 fun z => ?_
      subst z
      rw [wunN_none] at h3
      omega
    refine ⟨by show (f : Int) ≤ (b0 : Int) - 1; omega, by show (b0 : Int) - 1 ≤ _; omega, fun b k1 k2 => ⟨fun k => ?_, fun k => ?_⟩⟩
    · show (b : Int) ≤ (b0 : Int) - 1
      by_cases c : b < b0
      · omega
      · have q := wunN_monoB (ns := ns) (f := f) (b := b0) (k := b - b0) h1 (by omega)
        rw [show b0 + (b - b0) = b by omega] at q
        omega
    · have k' : (b : Int) ≤ (b0 : Int) - 1 := k
      have := h4 b k1 (by omega)
      omega
/-- just so many: from the least end to the greatest -/
theorem just_iff {ns : List Int} {m : Int} {f b : Nat} (hf : f ≤ b) (hb : b ≤ ns.length) (h0 : 0 ≤ m) : (wunN ns f b : Int) = m ↔ ∃ e, endAt ns f m = some e ∧ e ≤ b ∧ (b : Int) ≤ wi ns m f := by
  obtain ⟨w1, w2, w3⟩ := wi_spec (ns := ns) (m := m) (f := f) (by omega) h0
  constructor
  · intro h
    rcases endAt_spec (ns := ns) (f := f) (m := m) (by omega) with ⟨_, k⟩ | ⟨e, k1, k2, k3, k4, k5⟩
    · have := k b hf hb; omega
    · refine ⟨e, k1, ?_, (w3 b hf hb).mp (by omega)⟩
      by_cases c : b < e
      · have := k5 b hf c; omega
      · omega
  · rintro ⟨e, k1, k2, k3⟩
    obtain ⟨h1, h2, h3, h4⟩ := endAt_just (by omega) h0 k1
    have q := wunN_monoB (ns := ns) (f := f) (b := e) (k := b - e) h1 (by omega)
    rw [show e + (b - e) = b by omega] at q
    have := (w3 b hf hb).mpr k3
    omega
/-- the least end lies at or below the greatest -/
theorem end_le_wi {ns : List Int} {m : Int} {f e : Nat} (hf : f ≤ ns.length) (h0 : 0 ≤ m) (h : endAt ns f m = some e) : (e : Int) ≤ wi ns m f := by
  obtain ⟨h1, h2, h3, h4⟩ := endAt_just hf h0 h
  exact ((wi_spec hf h0).2.2 e h1 h2).mp (by omega)
/-! ### stretches -/
def tr (q : Int × Int × Int) : HO := .tup [.int q.1, .int q.2.1, .int q.2.2]
abbrev TripsF (H : Hp) (ls : List Addr) (ps : List (Int × Int × Int)) : Prop := ObjsF H ls ps.length (fun k => tr (ps.getD k (0, 0, 0)))
theorem TripsF.nil {H : Hp} : TripsF H [] [] := ⟨rfl, fun k p h => nomatch h⟩
theorem TripsF.snoc {H : Hp} {ls : List Addr} {ps : List (Int × Int × Int)} {p : Addr} {q : Int × Int × Int} (r : TripsF H ls ps) (e : H p = some (tr q)) : TripsF H (ls ++ [p]) (ps ++ [q]) := by
  have hl := r.len
  refine ⟨by rw [List.length_append, List.length_append, hl]; rfl, fun k x h => ?_⟩
  by_cases hk : k < ls.length
  · rw [List.getElem?_append_left hk] at h
    have h2 := r.row k x h
    have h3 : (ps ++ [q]).getD k (0, 0, 0) = ps.getD k (0, 0, 0) := by
      rw [List.getD_eq_getElem?_getD, List.getD_eq_getElem?_getD, List.getElem?_append_left (by omega)]
    show H x = some (tr ((ps ++ [q]).getD k (0, 0, 0)))
    rw [h3]
    exact h2
  · have h2 := (List.getElem?_eq_some_iff.mp h).1
    rw [List.length_append] at h2
    have h3 : [p].length = 1 := rfl
    have hk2 : k = ls.length := by omega
    subst hk2
    rw [List.getElem?_append_right (Nat.le_refl _), Nat.sub_self] at h
    cases h
    have h4 : (ps ++ [q]).getD ls.length (0, 0, 0) = q := by
      rw [List.getD_eq_getElem?_getD, List.getElem?_append_right (by omega), hl, Nat.sub_self]
      rfl
    show H p = some (tr ((ps ++ [q]).getD ls.length (0, 0, 0)))
    rw [h4]
    exact e
theorem TripsF.get {H : Hp} {ls : List Addr} {ps : List (Int × Int × Int)} {k : Nat} {p : Addr} (r : TripsF H ls ps) (h : ls[k]? = some p) : k < ps.length ∧ ps[k]? = some (ps.getD k (0, 0, 0)) ∧ H p = some (.tup [.int (ps.getD k (0, 0, 0)).1, .int (ps.getD k (0, 0, 0)).2.1, .int (ps.getD k (0, 0, 0)).2.2]) := by
  have h1 : k < ps.length := by have := (List.getElem?_eq_some_iff.mp h).1; have := r.len; omega
  exact ⟨h1, by rw [List.getD_eq_getElem?_getD, List.getElem?_eq_getElem h1]; rfl, r.row k p h⟩
theorem TripsF.offL {H : Hp} {x : Addr} {xs : List V} {ls : List Addr} {ps : List (Int × Int × Int)} (r : TripsF H ls ps) (e : H x = some (.lst xs)) : Off ls x := ObjsF.offKind r e fun k z => nomatch z
/-- for each first place that has some: the least and the greatest behind -/
def strK (ns : List Int) (m : Int) (k : Nat) : List (Int × Int × Int) := (List.range k).filterMap fun (f : Nat) => (endAt ns f m).map fun (e : Nat) => ((f : Int), (e : Int), wi ns m f)
def strL (ns : List Int) (m : Int) : List (Int × Int × Int) := if m = 0 then [] else strK ns m ns.length
theorem strK_s (ns : List Int) (m : Int) (k : Nat) : strK ns m (k + 1) = strK ns m k ++ ((endAt ns k m).map fun (e : Nat) => ((k : Int), (e : Int), wi ns m k)).toList := by
  unfold strK
  rw [List.range_succ, List.filterMap_append]
  congr 1
theorem strK_len (ns : List Int) (m : Int) (k : Nat) : (strK ns m k).length ≤ k := by
  unfold strK
  exact Nat.le_trans (List.length_filterMap_le _ _) (by rw [List.length_range]; exact Nat.le_refl k)
theorem strL_len (ns : List Int) (m : Int) : (strL ns m).length ≤ ns.length := by
  unfold strL
  split
  · exact Nat.zero_le _
  · exact strK_len _ _ _
theorem strL_mem {ns : List Int} {m : Int} {q : Int × Int × Int} (h : q ∈ strL ns m) : m ≠ 0 ∧ ∃ f e : Nat, f < ns.length ∧ endAt ns f m = some e ∧ q = ((f : Int), (e : Int), wi ns m f) := by
  unfold strL at h
  by_cases c : m = 0
  · rw [if_pos c] at h; cases h
  · rw [if_neg c] at h
    unfold strK at h
    obtain ⟨f, hf, e⟩ := List.mem_filterMap.mp h
    obtain ⟨e0, h1, h2⟩ := Option.map_eq_some_iff.mp e
    exact ⟨c, f, e0, List.mem_range.mp hf, h1, h2.symm⟩
/-- how many windows from f on have just so many -/
def hisF (ns : List Int) (m : Int) (f : Nat) : Int := match endAt ns f m with
  | none => 0
  | some e => wi ns m f - (e : Int) + 1
theorem strK_sum (ns : List Int) (m : Int) : ∀ k, ((strK ns m k).map fun q => q.2.2 - q.2.1 + 1).sum = sumTo (hisF ns m) k
  | 0 => rfl
  | k + 1 => by
    have ih := strK_sum ns m k
    rw [strK_s, List.map_append, List.sum_append, ih]
    show _ = sumTo (hisF ns m) k + hisF ns m k
    congr 1
    unfold hisF
    cases h : endAt ns k m with
    | none => rfl
    | some e => show (wi ns m k - (e : Int) + 1) + 0 = wi ns m k - (e : Int) + 1; omega
def hisN (ns : List Int) (m : Int) : Int := ((strL ns m).map fun q => q.2.2 - q.2.1 + 1).sum
/-- .. counted -/
def cntF (ns : List Int) (m : Int) (f j : Nat) : Int := sumTo (fun t => if (wunN ns f (f + 1 + t) : Int) = m then 1 else 0) j
theorem hisF_cnt {ns : List Int} {m : Int} {f : Nat} (hf : f < ns.length) (hm : 1 ≤ m) : hisF ns m f = cntF ns m f (ns.length - f) := by
  unfold hisF cntF
  obtain ⟨w1, w2, w3⟩ := wi_spec (ns := ns) (m := m) (f := f) (by omega) (by omega)
  cases h : endAt ns f m with
  | none =>
    have e : sumTo (fun t => if (wunN ns f (f + 1 + t) : Int) = m then 1 else 0) (ns.length - f) = sumTo (fun _ => 0) (ns.length - f) := sumTo_congr fun t ht => by
      rw [if_neg]
      intro k
      obtain ⟨e, h1, _⟩ := (just_iff (by omega) (by omega) (by omega)).mp k
      rw [h] at h1; cases h1
    rw [e, sumTo_zero]
  | some e =>
    obtain ⟨h1, h2, h3, h4⟩ := endAt_just (by omega) (by omega) h
    have hfe : f < e := by
      refine Nat.lt_of_le_of_ne h1 fun z => ?_
      subst z
      rw [wunN_none] at h3
      omega
    have hew := end_le_wi (by omega) (by omega) h
    have e2 : sumTo (fun t => if (wunN ns f (f + 1 + t) : Int) = m then 1 else 0) (ns.length - f) = sumTo (fun t => if ((e : Int) - (f + 1)) ≤ (t : Int) ∧ (t : Int) < wi ns m f - f then 1 else 0) (ns.length - f) := sumTo_congr fun t ht => by
      have k := just_iff (ns := ns) (m := m) (f := f) (b := f + 1 + t) (by omega) (by omega) (by omega)
      by_cases c : (wunN ns f (f + 1 + t) : Int) = m
      · obtain ⟨e3, k1, k2, k3⟩ := k.mp c
        rw [h] at k1
        cases k1
        rw [if_pos c, if_pos ⟨by omega, by omega⟩]
      · rw [if_neg c, if_neg]
        rintro ⟨k1, k2⟩
        exact c (k.mpr ⟨e, h, by omega, by omega⟩)
    rw [e2, sumTo_count _ _ (by omega) (by omega) _ (by omega)]
    show wi ns m f - (e : Int) + 1 = _
    omega
theorem hisN_cnt {ns : List Int} {m : Int} (hm : 1 ≤ m) : hisN ns m = sumTo (fun f => cntF ns m f (ns.length - f)) ns.length := by
  unfold hisN strL
  rw [if_neg (by omega), strK_sum]
  exact sumTo_congr fun f hf => hisF_cnt hf hm
/-! ### counts -/
/-- behind the lines ahead of f and j windows from f on -/
def dueC (ns : List Int) (f j k : Nat) : Int := sumTo (fun g => cntF ns k g (ns.length - g)) f + cntF ns k f j
def dueCL (ns : List Int) (f j : Nat) : List Int := (List.range (ulen ns + 1)).map (dueC ns f j)
theorem dueCL_len (ns : List Int) (f j : Nat) : (dueCL ns f j).length = ulen ns + 1 := by simp [dueCL]
theorem dueCL_get {ns : List Int} {f j k : Nat} (h : k < ulen ns + 1) : (dueCL ns f j)[k]? = some (dueC ns f j k) := by
  unfold dueCL
  rw [List.getElem?_map, List.getElem?_range h]
  rfl
theorem dueCL_0 (ns : List Int) : dueCL ns 0 0 = List.replicate (ulen ns + 1) 0 := by
  refine List.ext_getElem? fun w => ?_
  by_cases h : w < ulen ns + 1
  · rw [dueCL_get h, List.getElem?_replicate, if_pos h]
    rfl
  · rw [List.getElem?_eq_none (by rw [dueCL_len]; omega), List.getElem?_eq_none (by rw [List.length_replicate]; omega)]
theorem dueCL_set {ns : List Int} {f j : Nat} (h : f + 1 + j ≤ ns.length) : (dueCL ns f j).set (wunN ns f (f + 1 + j)) ((dueCL ns f j).getD (wunN ns f (f + 1 + j)) 0 + 1) = dueCL ns f (j + 1) := by
  have hw : wunN ns f (f + 1 + j) < ulen ns + 1 := by have := wunN_le (ns := ns) (f := f) (b := f + 1 + j) (by omega) h; omega
  refine List.ext_getElem? fun w => ?_
  by_cases hw2 : w < ulen ns + 1
  · rw [List.getElem?_set, dueCL_len, dueCL_get hw2, dueCL_get hw2, getD_of (dueCL_get hw)]
    by_cases e : wunN ns f (f + 1 + j) = w
    · rw [if_pos e, if_pos (by omega), e]
      unfold dueC cntF
      show some _ = some (_ + (_ + (if (wunN ns f (f + 1 + j) : Int) = (w : Int) then 1 else 0)))
      rw [if_pos (by omega)]
      congr 1
      omega
    · rw [if_neg e]
      unfold dueC cntF
      show some _ = some (_ + (_ + (if (wunN ns f (f + 1 + j) : Int) = (w : Int) then 1 else 0)))
      rw [if_neg (by omega), Int.add_zero]
  · rw [List.getElem?_eq_none (by rw [List.length_set, dueCL_len]; omega), List.getElem?_eq_none (by rw [dueCL_len]; omega)]
theorem dueCL_up (ns : List Int) (f : Nat) : dueCL ns f (ns.length - f) = dueCL ns (f + 1) 0 :=
  List.map_congr_left fun k _ => by
    show sumTo _ f + cntF ns k f (ns.length - f) = (sumTo _ f + cntF ns k f (ns.length - f)) + 0
    omega
/-- how many windows have so many, for each number there is -/
def cntW (ns : List Int) : List Int := dueCL ns ns.length 0
theorem cntW_len (ns : List Int) : (cntW ns).length = ulen ns + 1 := dueCL_len ns _ _
theorem cntW_get {ns : List Int} {k : Nat} (h : k < ulen ns + 1) : (cntW ns).getD k 0 = sumTo (fun f => cntF ns k f (ns.length - f)) ns.length := by
  unfold cntW
  rw [getD_of (dueCL_get h)]
  show sumTo _ ns.length + 0 = _
  omega
theorem cntW_his {ns : List Int} {k : Nat} (h : k < ulen ns + 1) (h1 : 1 ≤ k) : (cntW ns).getD k 0 = hisN ns k := by
  rw [cntW_get h, hisN_cnt (by omega)]
theorem his_0 (ns : List Int) : hisN ns 0 = 0 := rfl
theorem cntW_0 (ns : List Int) : (cntW ns).getD 0 0 = 0 := by
  rw [cntW_get (Nat.succ_pos _)]
  have e : sumTo (fun f => cntF ns (0 : Nat) f (ns.length - f)) ns.length = sumTo (fun _ => 0) ns.length := sumTo_congr fun f hf => by
    unfold cntF
    have e2 : sumTo (fun t => if (wunN ns f (f + 1 + t) : Int) = ((0 : Nat) : Int) then 1 else 0) (ns.length - f) = sumTo (fun _ => 0) (ns.length - f) := sumTo_congr fun t ht => by
      rw [if_neg]
      have k1 := wunN_up (ns := ns) (f := f) (b := f) (Nat.le_refl f) hf
      rw [wunN_none, if_pos (by have := lastAt_range ns (ns.getD f 0) f; omega)] at k1
      have k2 := wunN_monoB (ns := ns) (f := f) (b := f + 1) (k := t) (by omega) (by omega)
      omega
    rw [e2, sumTo_zero]
  rw [e, sumTo_zero]
/-- beyond there is none -/
theorem his_none {ns : List Int} {m : Int} (h : (ulen ns : Int) < m) : hisN ns m = 0 := by
  rw [hisN_cnt (by omega)]
  have e : sumTo (fun f => cntF ns m f (ns.length - f)) ns.length = sumTo (fun _ => 0) ns.length := sumTo_congr fun f hf => by
    unfold cntF
    have e2 : sumTo (fun t => if (wunN ns f (f + 1 + t) : Int) = m then 1 else 0) (ns.length - f) = sumTo (fun _ => 0) (ns.length - f) := sumTo_congr fun t ht => by
      rw [if_neg]
      have := wunN_le (ns := ns) (f := f) (b := f + 1 + t) (by omega) (by omega)
      omega
    rw [e2, sumTo_zero]
  rw [e, sumTo_zero]
theorem his_due {ns : List Int} {m : Int} (h : 0 ≤ m) : (cntW ns ++ [0]).getD (if ((cntW ns).length : Int) < m then ((cntW ns).length : Int) else m).toNat 0 = hisN ns m := by
  have hl := cntW_len ns
  by_cases c : ((cntW ns).length : Int) < m
  · rw [if_pos c, Int.toNat_natCast, his_none (by omega), List.getD_eq_getElem?_getD, List.getElem?_append_right (Nat.le_refl _), Nat.sub_self]
    rfl
  · rw [if_neg c]
    by_cases e : m = ((cntW ns).length : Int)
    · rw [e, Int.toNat_natCast, his_none (by omega), List.getD_eq_getElem?_getD, List.getElem?_append_right (Nat.le_refl _), Nat.sub_self]
      rfl
    · have e2 : m = ((m.toNat : Nat) : Int) := by omega
      rw [List.getD_eq_getElem?_getD, List.getElem?_append_left (by omega), ← List.getD_eq_getElem?_getD]
      by_cases z : m.toNat = 0
      · rw [z, cntW_0, e2, z]; exact (his_0 ns).symm
      · rw [cntW_his (by omega) (by omega), ← e2]
/-! ### the longest window with at most so many -/
def better (b : Int × Int) (f e : Int) : Int × Int := if e - f > b.2 - b.1 then (f, e) else b
def lwK (ns : List Int) (m : Int) : Nat → Int × Int
  | 0 => (0, 0)
  | k + 1 => better (lwK ns m k) k (wi ns m k)
def lwin (ns : List Int) (m : Int) : Int × Int := lwK ns m ns.length
theorem better_ok {b : Int × Int} {f e n : Int} (h : 0 ≤ b.1 ∧ b.1 ≤ b.2 ∧ b.2 ≤ n) (h1 : 0 ≤ f) (h2 : f ≤ e) (h3 : e ≤ n) : 0 ≤ (better b f e).1 ∧ (better b f e).1 ≤ (better b f e).2 ∧ (better b f e).2 ≤ n := by
  unfold better
  split
  · exact ⟨h1, h2, h3⟩
  · exact h
theorem lwK_ok {ns : List Int} {m : Int} (h0 : 0 ≤ m) : ∀ k, k ≤ ns.length → 0 ≤ (lwK ns m k).1 ∧ (lwK ns m k).1 ≤ (lwK ns m k).2 ∧ (lwK ns m k).2 ≤ ns.length
  | 0, _ => ⟨Int.le_refl 0, Int.le_refl 0, by show (0 : Int) ≤ ns.length; omega⟩
  | k + 1, h => by
    have ih := lwK_ok (ns := ns) h0 k (by omega)
    obtain ⟨w1, w2, _⟩ := wi_spec (ns := ns) (m := m) (f := k) (by omega) h0
    exact better_ok ih (by omega) w1 w2
/-- by widths: the widest so far below j that has at most so many -/
def lwJ (ns : List Int) (m : Int) (b : Int × Int) (f j : Nat) : Int × Int := better b f (f + (min (j - 1) (wi ns m f - f).toNat : Nat))
theorem lwJ_0 {ns : List Int} {m : Int} {b : Int × Int} {f : Nat} (h : b.1 ≤ b.2) : lwJ ns m b f 0 = b := by
  unfold lwJ better
  rw [if_neg]
  rw [show min (0 - 1) (wi ns m f - f).toNat = 0 by omega]
  show ¬ (f : Int) + 0 - f > b.2 - b.1
  omega
theorem lwJ_s {ns : List Int} {m : Int} {b : Int × Int} {f j : Nat} (h : b.1 ≤ b.2) (h0 : 0 ≤ m) (hj : f + j ≤ ns.length) : lwJ ns m b f (j + 1) = if (wunN ns f (f + j) : Int) ≤ m ∧ (j : Int) > (lwJ ns m b f j).2 - (lwJ ns m b f j).1 then ((f : Int), (f : Int) + j) else lwJ ns m b f j := by
  obtain ⟨w1, w2, w3⟩ := wi_spec (ns := ns) (m := m) (f := f) (by omega) h0
  have k := w3 (f + j) (by omega) hj
  unfold lwJ
  rw [show j + 1 - 1 = j by omega]
  by_cases c : (wunN ns f (f + j) : Int) ≤ m
  · have k1 := k.mp c
    rw [show min j (wi ns m f - f).toNat = j by omega]
    rw [show min (j - 1) (wi ns m f - f).toNat = j - 1 by omega]
    unfold better
    by_cases d : (f : Int) + ((j : Nat) : Int) - f > b.2 - b.1
    · rw [if_pos d, if_pos]
      refine ⟨c, ?_⟩
      split
      · show (j : Int) > (f : Int) + ((j - 1 : Nat) : Int) - f
        omega
      · omega
    · have d2 : ¬ (f : Int) + ((j - 1 : Nat) : Int) - f > b.2 - b.1 := by omega
      rw [if_neg d, if_neg d2, if_neg]
      rintro ⟨_, z⟩
      omega
  · have k1 : ¬ ((f + j : Nat) : Int) ≤ wi ns m f := fun z => c (k.mpr z)
    rw [if_neg (fun z => c z.1)]
    rw [show min j (wi ns m f - f).toNat = min (j - 1) (wi ns m f - f).toNat by omega]
theorem lwJ_end {ns : List Int} {m : Int} {b : Int × Int} {f : Nat} (h0 : 0 ≤ m) (hf : f ≤ ns.length) : lwJ ns m b f (ns.length - f + 1) = better b f (wi ns m f) := by
  obtain ⟨w1, w2, _⟩ := wi_spec (ns := ns) (m := m) (f := f) hf h0
  unfold lwJ
  rw [show ((f : Int) + ((min (ns.length - f + 1 - 1) (wi ns m f - f).toNat : Nat) : Int)) = wi ns m f by omega]
theorem lwJ_ok {ns : List Int} {m : Int} {b : Int × Int} {f j : Nat} (h0 : 0 ≤ m) (hf : f ≤ ns.length) (h : 0 ≤ b.1 ∧ b.1 ≤ b.2 ∧ b.2 ≤ ns.length) : 0 ≤ (lwJ ns m b f j).1 ∧ (lwJ ns m b f j).1 ≤ (lwJ ns m b f j).2 ∧ (lwJ ns m b f j).2 ≤ ns.length := by
  obtain ⟨w1, w2, _⟩ := wi_spec (ns := ns) (m := m) (f := f) hf h0
  unfold lwJ better
  split
  · refine ⟨?_, ?_, ?_⟩
    · show (0 : Int) ≤ (f : Int); omega
    · show (f : Int) ≤ (f : Int) + _; omega
    · show (f : Int) + ((min (j - 1) (wi ns m f - f).toNat : Nat) : Int) ≤ ns.length; omega
  · exact h
/-- the last first place has no window wider than 0 -/
theorem lw_last {ns : List Int} {m : Int} (h0 : 0 ≤ m) : better (lwin ns m) ns.length (wi ns m ns.length) = lwin ns m := by
  obtain ⟨w1, w2, _⟩ := wi_spec (ns := ns) (m := m) (f := ns.length) (Nat.le_refl _) h0
  have k := lwK_ok (ns := ns) h0 ns.length (Nat.le_refl _)
  unfold better
  rw [if_neg]
  unfold lwin
  omega
/-! ### the longest and the shortest window with just so many -/
/-- a pair or None -/
structure OptP (H : Hp) (v : V) (o : Option (Int × Int)) : Prop where
  is : (o = none ∧ v = .non) ∨ ∃ (x y : Int) (p : Addr), o = some (x, y) ∧ v = .ref p ∧ H p = some (.tup [.int x, .int y])
theorem OptP.same {H H' : Hp} {v : V} {o : Option (Int × Int)} (k : OptP H v o) (s : Same H H') : OptP H' v o := by
  rcases k.is with h | ⟨x, y, p, h1, h2, h3⟩
  · exact ⟨.inl h⟩
  · exact ⟨.inr ⟨x, y, p, h1, h2, s _ _ h3⟩⟩
theorem OptP.non {H : Hp} : OptP H .non none := ⟨.inl ⟨rfl, rfl⟩⟩
theorem OptP.pair {H : Hp} {p : Addr} {x y : Int} (h : H p = some (.tup [.int x, .int y])) : OptP H (.ref p) (some (x, y)) := ⟨.inr ⟨x, y, p, rfl, rfl, h⟩⟩
def wbo (o : Option (Int × Int)) (f e : Int) : Option (Int × Int) := match o with
  | none => some (f, e)
  | some b => if e - f > b.2 - b.1 then some (f, e) else some b
def sbo (o : Option (Int × Int)) (f e : Int) : Option (Int × Int) := match o with
  | none => some (f, e)
  | some b => if e - f < b.2 - b.1 then some (f, e) else some b
def lonL (qs : List (Int × Int × Int)) : Option (Int × Int) := qs.foldl (fun o q => wbo o q.1 q.2.2) none
def shoL (qs : List (Int × Int × Int)) : Option (Int × Int) := qs.foldl (fun o q => sbo o q.1 q.2.1) none
def lon (ns : List Int) (m : Int) : Option (Int × Int) := lonL (strL ns m)
def sho (ns : List Int) (m : Int) : Option (Int × Int) := shoL (strL ns m)
theorem lonL_snoc (qs : List (Int × Int × Int)) (q : Int × Int × Int) : lonL (qs ++ [q]) = wbo (lonL qs) q.1 q.2.2 := by unfold lonL; rw [List.foldl_append]; rfl
theorem shoL_snoc (qs : List (Int × Int × Int)) (q : Int × Int × Int) : shoL (qs ++ [q]) = sbo (shoL qs) q.1 q.2.1 := by unfold shoL; rw [List.foldl_append]; rfl
/-- bounds -/
def OkP (n : Nat) (o : Option (Int × Int)) : Prop := ∀ x y, o = some (x, y) → 0 ≤ x ∧ x ≤ y ∧ y ≤ n
theorem OkP.none {n : Nat} : OkP n none := fun _ _ h => nomatch h
theorem OkP.wbo {n : Nat} {o : Option (Int × Int)} {f e : Int} (k : OkP n o) (h1 : 0 ≤ f) (h2 : f ≤ e) (h3 : e ≤ n) : OkP n (wbo o f e) := by
  intro x y h
  cases o with
  | none => cases h; exact ⟨h1, h2, h3⟩
  | some b =>
    have h' : (if e - f > b.2 - b.1 then some (f, e) else some b) = some (x, y) := h
    split at h'
    · cases h'; exact ⟨h1, h2, h3⟩
    · exact k x y h'
theorem OkP.sbo {n : Nat} {o : Option (Int × Int)} {f e : Int} (k : OkP n o) (h1 : 0 ≤ f) (h2 : f ≤ e) (h3 : e ≤ n) : OkP n (sbo o f e) := by
  intro x y h
  cases o with
  | none => cases h; exact ⟨h1, h2, h3⟩
  | some b =>
    have h' : (if e - f < b.2 - b.1 then some (f, e) else some b) = some (x, y) := h
    split at h'
    · cases h'; exact ⟨h1, h2, h3⟩
    · exact k x y h'
theorem okP_str {ns : List Int} {m : Int} (h0 : 0 ≤ m) : ∀ k, k ≤ ns.length → OkP ns.length (lonL (strK ns m k)) ∧ OkP ns.length (shoL (strK ns m k))
  | 0, _ => ⟨OkP.none, OkP.none⟩
  | k + 1, h => by
    obtain ⟨i1, i2⟩ := okP_str (ns := ns) h0 k (by omega)
    rw [strK_s]
    cases e : endAt ns k m with
    | none => rw [Option.map_none, Option.toList_none, List.append_nil]; exact ⟨i1, i2⟩
    | some b =>
      obtain ⟨w1, w2, _⟩ := wi_spec (ns := ns) (m := m) (f := k) (by omega) h0
      obtain ⟨e1, e2, _, _⟩ := endAt_just (ns := ns) (f := k) (by omega) h0 e
      rw [Option.map_some, Option.toList_some, lonL_snoc, shoL_snoc]
      exact ⟨i1.wbo (by show (0 : Int) ≤ (k : Int); omega) w1 w2, i2.sbo (by show (0 : Int) ≤ (k : Int); omega) (by show (k : Int) ≤ (b : Int); omega) (by show (b : Int) ≤ _; omega)⟩
theorem okP_lon {ns : List Int} {m : Int} (h0 : 0 ≤ m) : OkP ns.length (lon ns m) ∧ OkP ns.length (sho ns m) := by
  unfold lon sho strL
  split
  · exact ⟨OkP.none, OkP.none⟩
  · exact okP_str h0 _ (Nat.le_refl _)
/-- a line, by widths: behind the widths up to j -/
def lonJ (ns : List Int) (m : Int) (o : Option (Int × Int)) (f j : Nat) : Option (Int × Int) := match endAt ns f m with
  | none => o
  | some e => if e ≤ f + j then wbo o f (min ((f : Int) + j) (wi ns m f)) else o
def shoJ (ns : List Int) (m : Int) (o : Option (Int × Int)) (f j : Nat) : Option (Int × Int) := match endAt ns f m with
  | none => o
  | some e => if e ≤ f + j then sbo o f e else o
theorem endAt_pos {ns : List Int} {f e : Nat} {m : Int} (hf : f ≤ ns.length) (h1 : 1 ≤ m) (h : endAt ns f m = some e) : f < e := by
  obtain ⟨k1, _, k3, _⟩ := endAt_just hf (by omega) h
  refine Nat.lt_of_le_of_ne k1 fun z => ?_
  subst z
  rw [wunN_none] at k3
  omega
theorem lonJ_0 {ns : List Int} {m : Int} {o : Option (Int × Int)} {f : Nat} (hf : f ≤ ns.length) (h1 : 1 ≤ m) : lonJ ns m o f 0 = o ∧ shoJ ns m o f 0 = o := by
  unfold lonJ shoJ
  cases e : endAt ns f m with
  | none => exact ⟨rfl, rfl⟩
  | some b =>
    have := endAt_pos hf h1 e
    exact ⟨if_neg (by omega), if_neg (by omega)⟩
theorem lonJ_s {ns : List Int} {m : Int} {o : Option (Int × Int)} {f j : Nat} (hj : f + (j + 1) ≤ ns.length) (h1 : 1 ≤ m) : lonJ ns m o f (j + 1) = if (wunN ns f (f + (j + 1)) : Int) = m then wbo (lonJ ns m o f j) f ((f : Int) + ((j : Int) + 1)) else lonJ ns m o f j := by
  have k := just_iff (ns := ns) (m := m) (f := f) (b := f + (j + 1)) (by omega) hj (by omega)
  obtain ⟨w1, w2, _⟩ := wi_spec (ns := ns) (m := m) (f := f) (by omega) (show 0 ≤ m by omega)
  unfold lonJ
  cases e : endAt ns f m with
  | none =>
    rw [if_neg]
    intro z
    obtain ⟨e2, h, _⟩ := k.mp z
    rw [e] at h; cases h
  | some b =>
    have hew := end_le_wi (by omega) (by omega) e
    show (if b ≤ f + (j + 1) then wbo o f (min ((f : Int) + ((j + 1 : Nat) : Int)) (wi ns m f)) else o) = if _ then wbo (if b ≤ f + j then wbo o f (min ((f : Int) + j) (wi ns m f)) else o) f _ else (if b ≤ f + j then wbo o f (min ((f : Int) + j) (wi ns m f)) else o)
    by_cases c : (wunN ns f (f + (j + 1)) : Int) = m
    · obtain ⟨e2, h, h2, h3⟩ := k.mp c
      rw [e] at h
      cases h
      rw [if_pos c, if_pos h2]
      rw [show min ((f : Int) + ((j + 1 : Nat) : Int)) (wi ns m f) = (f : Int) + ((j : Int) + 1) by omega]
      by_cases d : b ≤ f + j
      · rw [if_pos d, show min ((f : Int) + j) (wi ns m f) = (f : Int) + j by omega]
        cases o with
        | none =>
          show some _ = (if _ then _ else _)
          rw [if_pos (by show (f : Int) + ((j : Int) + 1) - f > (f : Int) + j - f; omega)]
        | some p =>
          show (if (f : Int) + ((j : Int) + 1) - f > p.2 - p.1 then some ((f : Int), (f : Int) + ((j : Int) + 1)) else some p) = wbo (if (f : Int) + j - f > p.2 - p.1 then some ((f : Int), (f : Int) + j) else some p) f ((f : Int) + ((j : Int) + 1))
          by_cases q : (f : Int) + j - f > p.2 - p.1
          · rw [if_pos q, if_pos (by omega)]
            show _ = (if _ then _ else _)
            rw [if_pos (by show (f : Int) + ((j : Int) + 1) - f > (f : Int) + j - f; omega)]
          · rw [if_neg q]
            rfl
      · rw [if_neg d]
    · rw [if_neg c]
      by_cases d : b ≤ f + j
      · have hw : ¬ ((f + (j + 1) : Nat) : Int) ≤ wi ns m f := fun z => c (k.mpr ⟨b, e, by omega, z⟩)
        rw [if_pos d, if_pos (by omega), show min ((f : Int) + ((j + 1 : Nat) : Int)) (wi ns m f) = min ((f : Int) + j) (wi ns m f) by omega]
      · rw [if_neg d, if_neg]
        intro z
        exact c (k.mpr ⟨b, e, z, by omega⟩)
theorem shoJ_s {ns : List Int} {m : Int} {o : Option (Int × Int)} {f j : Nat} (hj : f + (j + 1) ≤ ns.length) (h1 : 1 ≤ m) : shoJ ns m o f (j + 1) = if (wunN ns f (f + (j + 1)) : Int) = m then sbo (shoJ ns m o f j) f ((f : Int) + ((j : Int) + 1)) else shoJ ns m o f j := by
  have k := just_iff (ns := ns) (m := m) (f := f) (b := f + (j + 1)) (by omega) hj (by omega)
  unfold shoJ
  cases e : endAt ns f m with
  | none =>
    rw [if_neg]
    intro z
    obtain ⟨e2, h, _⟩ := k.mp z
    rw [e] at h; cases h
  | some b =>
    have hew := end_le_wi (by omega) (by omega) e
    show (if b ≤ f + (j + 1) then sbo o f b else o) = if _ then sbo (if b ≤ f + j then sbo o f b else o) f _ else (if b ≤ f + j then sbo o f b else o)
    by_cases c : (wunN ns f (f + (j + 1)) : Int) = m
    · obtain ⟨e2, h, h2, h3⟩ := k.mp c
      rw [e] at h
      cases h
      rw [if_pos c, if_pos h2]
      by_cases d : b ≤ f + j
      · rw [if_pos d]
        cases o with
        | none =>
          show some _ = (if _ then _ else _)
          rw [if_neg (by show ¬ (f : Int) + ((j : Int) + 1) - f < (b : Int) - f; omega)]
        | some p =>
          show (if (b : Int) - f < p.2 - p.1 then some ((f : Int), (b : Int)) else some p) = sbo (if (b : Int) - f < p.2 - p.1 then some ((f : Int), (b : Int)) else some p) f ((f : Int) + ((j : Int) + 1))
          by_cases q : (b : Int) - f < p.2 - p.1
          · rw [if_pos q]
            show _ = (if _ then _ else _)
            rw [if_neg (by show ¬ (f : Int) + ((j : Int) + 1) - f < (b : Int) - f; omega)]
          · rw [if_neg q]
            show _ = (if _ then _ else _)
            rw [if_neg (by omega)]
      · rw [if_neg d, show (b : Int) = (f : Int) + ((j : Int) + 1) by omega]
    · rw [if_neg c]
      by_cases d : b ≤ f + j
      · rw [if_pos d, if_pos (by omega)]
      · rw [if_neg d, if_neg]
        intro z
        exact c (k.mpr ⟨b, e, z, by omega⟩)
theorem lonJ_end {ns : List Int} {m : Int} {f : Nat} (hf : f ≤ ns.length) (h1 : 1 ≤ m) : lonJ ns m (lonL (strK ns m f)) f (ns.length - f) = lonL (strK ns m (f + 1)) ∧ shoJ ns m (shoL (strK ns m f)) f (ns.length - f) = shoL (strK ns m (f + 1)) := by
  obtain ⟨w1, w2, _⟩ := wi_spec (ns := ns) (m := m) (f := f) hf (show 0 ≤ m by omega)
  rw [strK_s]
  unfold lonJ shoJ
  cases e : endAt ns f m with
  | none => rw [Option.map_none, Option.toList_none, List.append_nil]; exact ⟨rfl, rfl⟩
  | some b =>
    obtain ⟨_, e2, _, _⟩ := endAt_just (ns := ns) (f := f) hf (by omega) e
    rw [Option.map_some, Option.toList_some, lonL_snoc, shoL_snoc]
    refine ⟨?_, ?_⟩
    · show (if b ≤ f + (ns.length - f) then _ else _) = _
      rw [if_pos (by omega), show min ((f : Int) + ((ns.length - f : Nat) : Int)) (wi ns m f) = wi ns m f by omega]
    · show (if b ≤ f + (ns.length - f) then _ else _) = _
      rw [if_pos (by omega)]
/-- the last first place has none -/
theorem strK_last {ns : List Int} {m : Int} (h1 : 1 ≤ m) : strK ns m (ns.length + 1) = strK ns m ns.length := by
  rw [strK_s]
  cases e : endAt ns ns.length m with
  | none => rw [Option.map_none, Option.toList_none, List.append_nil]
  | some b =>
    have k1 := endAt_pos (Nat.le_refl _) h1 e
    obtain ⟨_, e2, _, _⟩ := endAt_just (ns := ns) (f := ns.length) (Nat.le_refl _) (by omega) e
    omega
end Ur

namespace Ur
open PySem L2
def tripL (q : Int × Int × Int) : List Int := [q.1, q.2.1, q.2.2]
def tripsD (ps : List (Int × Int × Int)) : List PyData := (ps.map tripL).map tupD
theorem tripsD_get {ps : List (Int × Int × Int)} {k : Nat} (hk : k < ps.length) : (tripsD ps)[k]? = some (tupD (tripL (ps.getD k (0, 0, 0)))) := by
  have e2 : ps.getD k (0, 0, 0) = ps[k] := by rw [List.getD_eq_getElem?_getD, List.getElem?_eq_getElem hk]; rfl
  rw [tripsD, List.getElem?_map, List.getElem?_map, List.getElem?_eq_getElem hk, e2]
  rfl
theorem dp_trips {K : PySem.W.Frag} {H : Hp} {a : Addr} {ls : List Addr} {ps : List (Int × Int × Int)} (h : SqL K H a (ls.map V.ref)) (r : TripsF H ls ps) : Dp K H (.ref a) (.list (tripsD ps)) := by
  refine .lst h (dpAll_of _ _ (by rw [tripsD, List.length_map, List.length_map, List.length_map, r.len]) fun k v d h1 h2 => ?_)
  rw [List.getElem?_map] at h1
  obtain ⟨p, hp, rfl⟩ := Option.map_eq_some_iff.mp h1
  obtain ⟨hk, _, e⟩ := r.get hp
  rw [tripsD_get hk] at h2
  cases h2
  exact dp_tup (ns := tripL (ps.getD k (0, 0, 0))) e
theorem shaped_trips (ps : List (Int × Int × Int)) : SeqAt.shaped (.list (tripsD ps)) = true := by
  refine shaped_of (canLayAll_of _ fun d h => ?_) ?_
  · obtain ⟨ns, _, rfl⟩ := List.mem_map.mp h
    exact canLayAll_ints ns
  · have h := depthAll_of (m := 2) (tripsD ps) fun d h => by
      obtain ⟨ns, _, rfl⟩ := List.mem_map.mp h
      exact depth_tup ns
    rw [PyData.depth]
    omega
theorem eqv_trips (ps : List (Int × Int × Int)) : PyData.eqv (.list (tripsD ps)) (.list (tripsD ps)) = true := by
  show PyData.eqvAll _ _ = true
  refine eqvAll_refl _ fun d h => ?_
  obtain ⟨ns, _, rfl⟩ := List.mem_map.mp h
  show PyData.eqvAll _ _ = true
  refine eqvAll_refl _ fun d h => ?_
  obtain ⟨n, _, rfl⟩ := List.mem_map.mp h
  show (n == n) = true
  exact beq_self_eq_true _
theorem rEq_trips {K : PySem.W.Frag} {H : Hp} {a b : Addr} {ls ms : List Addr} {ps : List (Int × Int × Int)} {Q : VK} (h1 : SqL K H a (ls.map V.ref)) (h2 : SqL K H b (ms.map V.ref)) (r1 : TripsF H ls ps) (r2 : TripsF H ms ps) (q : Q (.bl true) H) : rEqD K (.ref a) (.ref b) H Q :=
  ⟨_, _, dp_trips h1 r1, dp_trips h2 r2, shaped_trips ps, shaped_trips ps, by rw [eqv_trips]; exact q⟩
theorem rNe_trips {K : PySem.W.Frag} {H : Hp} {a b : Addr} {ls ms : List Addr} {ps : List (Int × Int × Int)} {Q : VK} (h1 : SqL K H a (ls.map V.ref)) (h2 : SqL K H b (ms.map V.ref)) (r1 : TripsF H ls ps) (r2 : TripsF H ms ps) (q : Q (.bl false) H) : rNeD K (.ref a) (.ref b) H Q :=
  ⟨_, _, dp_trips h1 r1, dp_trips h2 r2, shaped_trips ps, shaped_trips ps, by rw [eqv_trips]; exact q⟩
/-- all three small -/
def SmT (ps : List (Int × Int × Int)) : Prop := ∀ q ∈ ps, SmI q.1 ∧ SmI q.2.1 ∧ SmI q.2.2
theorem repr_trips {K : PySem.W.Frag} {H : Hp} {a : Addr} {ls : List Addr} {ps : List (Int × Int × Int)} {Q : VK} (h : SqL K H a (ls.map V.ref)) (r : TripsF H ls ps) (s : SmT ps) (hl : ps.length ≤ 1000) (q : Q (.str (PyData.list (tripsD ps)).shown) H) : rRepr K [.ref a] H Q :=
  repr_good (dp_trips h r) (good_tups (ts := ps.map tripL) (fun ns hn => by
    obtain ⟨t, ht, rfl⟩ := List.mem_map.mp hn
    refine ⟨Nat.le_refl 3, fun n hn => ?_⟩
    obtain ⟨s1, s2, s3⟩ := s t ht
    rcases List.mem_cons.mp hn with rfl | hn
    · exact s1
    rcases List.mem_cons.mp hn with rfl | hn
    · exact s2
    rw [List.mem_singleton.mp hn]
    exact s3) (by rw [List.length_map]; exact hl)) q
theorem SmT.str {ns : List Int} {m : Int} (hl : ns.length ≤ 1000) (hm : 0 ≤ m) : SmT (strL ns m) := by
  intro q hq
  unfold strL at hq
  split at hq
  · cases hq
  · unfold strK at hq
    obtain ⟨f, hf, h⟩ := List.mem_filterMap.mp hq
    have hf2 := List.mem_range.mp hf
    obtain ⟨e, he, rfl⟩ := Option.map_eq_some_iff.mp h
    obtain ⟨k1, k2, _⟩ := endAt_just (by omega) hm he
    obtain ⟨w1, w2, _⟩ := wi_spec (ns := ns) (m := m) (f := f) (by omega) hm
    refine ⟨⟨?_, ?_⟩, ⟨?_, ?_⟩, ⟨?_, ?_⟩⟩
    · show -1000000 < (f : Int); omega
    · show (f : Int) < 1000000; omega
    · show -1000000 < (e : Int); omega
    · show (e : Int) < 1000000; omega
    · show -1000000 < wi ns m f; omega
    · show wi ns m f < 1000000; omega
/-- the ends, up to the j-th after the first place, of windows with just so many -/
def endsJ (ns : List Int) (m : Int) (f j : Nat) : List Int := ((List.range j).filter fun (k : Nat) => decide ((wunN ns f (f + (k + 1)) : Int) = m)).map fun (k : Nat) => (f : Int) + ((k : Int) + 1)
theorem endsJ_s (ns : List Int) (m : Int) (f j : Nat) : endsJ ns m f (j + 1) = endsJ ns m f j ++ (if (wunN ns f (f + (j + 1)) : Int) = m then [(f : Int) + ((j : Int) + 1)] else []) := by
  unfold endsJ
  rw [List.range_succ, List.filter_append, List.map_append]
  congr 1
  by_cases c : (wunN ns f (f + (j + 1)) : Int) = m
  · rw [if_pos c, List.filter_cons_of_pos (by exact decide_eq_true c)]; rfl
  · rw [if_neg c, List.filter_cons_of_neg (by show ¬ decide _ = true; rw [decide_eq_false c]; exact Bool.false_ne_true)]; rfl
theorem endsJ_len (ns : List Int) (m : Int) (f j : Nat) : (endsJ ns m f j).length ≤ j := by
  unfold endsJ
  rw [List.length_map]
  exact Nat.le_trans (List.length_filter_le _ _) (by rw [List.length_range]; exact Nat.le_refl j)
/-- none, or from the least end on, one by one -/
theorem endsJ_is {ns : List Int} {m : Int} {f : Nat} (h1 : 1 ≤ m) : ∀ j : Nat, f + j ≤ ns.length → endsJ ns m f j = match endAt ns f m with
    | none => []
    | some e => (List.range ((min ((f : Int) + j) (wi ns m f)) - e + 1).toNat).map fun (k : Nat) => (e : Int) + (k : Int)
  | 0, h => by
    cases he : endAt ns f m with
    | none => rfl
    | some e =>
      have k := endAt_pos (by omega) h1 he
      have e0 : ((min ((f : Int) + (0 : Nat)) (wi ns m f)) - e + 1).toNat = 0 := by omega
      show endsJ ns m f 0 = List.map _ (List.range _)
      rw [e0]
      rfl
  | j + 1, h => by
    have ih := endsJ_is (ns := ns) (m := m) (f := f) h1 j (by omega)
    have k := just_iff (ns := ns) (m := m) (f := f) (b := f + (j + 1)) (by omega) h (by omega)
    obtain ⟨w1, w2, _⟩ := wi_spec (ns := ns) (m := m) (f := f) (by omega) (show 0 ≤ m by omega)
    rw [endsJ_s, ih]
    cases he : endAt ns f m with
    | none =>
      rw [if_neg (fun z => by
        obtain ⟨e, h2, _⟩ := k.mp z
        rw [he] at h2
        cases h2)]
      rfl
    | some e =>
      have kp := endAt_pos (by omega) h1 he
      have kw : (e : Int) ≤ wi ns m f := by
        obtain ⟨_, k2, k3, _⟩ := endAt_just (by omega) (show 0 ≤ m by omega) he
        obtain ⟨_, h2, _, h4⟩ := (just_iff (ns := ns) (m := m) (f := f) (b := e) (by omega) k2 (by omega)).mp k3
        exact h4
      show List.map _ (List.range _) ++ _ = List.map _ (List.range _)
      by_cases c : e ≤ f + (j + 1) ∧ ((f + (j + 1) : Nat) : Int) ≤ wi ns m f
      · rw [if_pos (k.mpr ⟨e, he, c.1, c.2⟩)]
        have e1 : ((min ((f : Int) + ((j + 1 : Nat) : Int)) (wi ns m f)) - e + 1).toNat = ((min ((f : Int) + (j : Nat)) (wi ns m f)) - e + 1).toNat + 1 := by omega
        rw [e1, List.range_succ, List.map_append]
        congr 1
        show [_] = [_]
        congr 1
        show (f : Int) + ((j : Int) + 1) = (e : Int) + (((min ((f : Int) + (j : Nat)) (wi ns m f)) - e + 1).toNat : Int)
        omega
      · rw [if_neg (fun z => by
          obtain ⟨e', h2, h3, h4⟩ := k.mp z
          rw [he] at h2
          cases h2
          exact c ⟨h3, h4⟩), List.append_nil]
        congr 2
        omega
/-- at the end: none, or the first and the last are known -/
theorem endsJ_all {ns : List Int} {m : Int} {f : Nat} (hf : f ≤ ns.length) (h1 : 1 ≤ m) :
    (endAt ns f m = none ∧ endsJ ns m f (ns.length - f) = []) ∨
    ∃ e : Nat, endAt ns f m = some e ∧ 0 < (endsJ ns m f (ns.length - f)).length ∧ (endsJ ns m f (ns.length - f)).getD 0 0 = e ∧ (endsJ ns m f (ns.length - f)).getD ((endsJ ns m f (ns.length - f)).length - 1) 0 = wi ns m f := by
  have k := endsJ_is (ns := ns) (m := m) (f := f) h1 (ns.length - f) (by omega)
  obtain ⟨w1, w2, _⟩ := wi_spec (ns := ns) (m := m) (f := f) hf (show 0 ≤ m by omega)
  cases he : endAt ns f m with
  | none => rw [he] at k; exact .inl ⟨rfl, k⟩
  | some e =>
    rw [he] at k
    refine .inr ⟨e, rfl, ?_⟩
    have kw : (e : Int) ≤ wi ns m f := by
      obtain ⟨_, k2, k3, _⟩ := endAt_just hf (show 0 ≤ m by omega) he
      obtain ⟨_, h2, _, h4⟩ := (just_iff (ns := ns) (m := m) (f := f) (b := e) (by have := endAt_pos hf h1 he; omega) k2 (by omega)).mp k3
      exact h4
    have k' : endsJ ns m f (ns.length - f) = (List.range ((wi ns m f - e).toNat + 1)).map fun (k : Nat) => (e : Int) + (k : Int) := by
      refine k.trans ?_
      show List.map _ (List.range _) = _
      congr 2
      omega
    rw [k', List.length_map, List.length_range]
    refine ⟨by omega, ?_, ?_⟩
    · rw [List.getD_eq_getElem?_getD, List.getElem?_map, List.getElem?_range (by omega)]
      show (e : Int) + ((0 : Nat) : Int) = e
      omega
    · rw [List.getD_eq_getElem?_getD, List.getElem?_map, List.getElem?_range (by omega)]
      show (e : Int) + (((wi ns m f - e).toNat + 1 - 1 : Nat) : Int) = wi ns m f
      omega
theorem at_m1 {es : List Int} {x : Int} (h1 : 0 < es.length) (h3 : es.getD (es.length - 1) 0 = x) : atI (es.map V.int) (-1) = some (V.int x) := by
  rcases List.eq_nil_or_concat es with rfl | ⟨es', y, e5⟩
  · exact absurd h1 (by decide)
  · rw [List.concat_eq_append] at e5
    subst e5
    have h4 : (es' ++ [y]).length - 1 = es'.length := by rw [List.length_append]; exact Nat.add_sub_cancel ..
    rw [h4, List.getD_eq_getElem?_getD, List.getElem?_append_right (Nat.le_refl _), Nat.sub_self] at h3
    have h5 : y = x := h3
    rw [List.map_append, ← h5]
    exact atI_last _ _
/-- with no number asked for: none -/
theorem endsJ_zero {ns : List Int} {f j : Nat} (h : f + j ≤ ns.length) : endsJ ns 0 f j = [] := by
  induction j with
  | zero => rfl
  | succ j ih =>
    have w1 := wunN_monoF (ns := ns) (b := f + (j + 1)) h (k := j) (f := f) (by omega)
    have w2 := wunN_up (ns := ns) (f := f + j) (b := f + j) (Nat.le_refl _) (by omega)
    rw [if_pos (by have := (lastAt_range ns (ns.getD (f + j) 0) (f + j)).2; omega), Nat.add_assoc] at w2
    rw [endsJ_s, ih (by omega), if_neg (by omega)]
    rfl
/-- a held pair of two lists that tell the same; neither is the place c -/
structure HelT (H : Hp) (c p : Addr) : Prop where
  ex : ∃ (f e : Addr) (fs es : List Addr) (ps : List (Int × Int × Int)), H p = some (.tup [.ref f, .ref e]) ∧ H f = some (.lst (fs.map V.ref)) ∧ TripsF H fs ps ∧ H e = some (.lst (es.map V.ref)) ∧ TripsF H es ps ∧ f ≠ c ∧ e ≠ c
theorem HelT.but {H H' : Hp} {c p : Addr} {xs : List V} (k : HelT H c p) (hc : H c = some (.lst xs)) (b : But c H H') : HelT H' c p := by
  obtain ⟨f, e, fs, es, ps, h1, h2, h3, h4, h5, h6, h7⟩ := k.ex
  exact ⟨f, e, fs, es, ps, b _ _ (fun z => by rw [z, hc] at h1; cases h1) h1, b _ _ h6 h2, ObjsF.but h3 b (TripsF.offL h3 hc).out, b _ _ h7 h4, ObjsF.but h5 b (TripsF.offL h5 hc).out, h6, h7⟩
theorem HelT.same {H H' : Hp} {c p : Addr} (k : HelT H c p) (s : Same H H') : HelT H' c p := by
  obtain ⟨f, e, fs, es, ps, h1, h2, h3, h4, h5, h6, h7⟩ := k.ex
  exact ⟨f, e, fs, es, ps, s _ _ h1, s _ _ h2, ObjsF.same h3 s, s _ _ h4, ObjsF.same h5 s, h6, h7⟩
end Ur

namespace Ur
open PySem PySem.Spec PyProof.Rows L2
/-! ### list(range(i, j, c)) -/
section
variable {X : Cx}
/-- the ints i, i + c .. -/
def rgCV (i c : Int) (n : Nat) : List V := (List.range n).map fun (k : Nat) => V.int (i + (k : Int) * c)
def tLstRg3 (ta : TA) : TE := fun σ H Q => ta σ H fun vs H1 => ∃ (i j c : Int) (n : Nat), vs = [.int i, .int j, .int c] ∧ RgC i j c n ∧ n ≤ 2 ^ 24 ∧ ∀ q, H1 q = none → Q (.ref q) (upd H1 q (.lst (rgCV i c n)))
theorem vals_rgC {i c : Int} {n : Nat} {acc : Array Value} (h : ItemsOf (fun k v => ∃ t, v = .int (i + k * c) t) acc n) : Vals (rgCV i c n) acc.toList := by
  have e : acc.toList.length = n := by rw [Array.length_toList]; exact h.1
  unfold rgCV
  rw [← e]
  refine vals_of_get acc.toList _ fun j u hj => ?_
  obtain ⟨t, rfl⟩ := h.2 j u (by rw [← hj, Array.getElem?_toList])
  exact ⟨t, rfl⟩
theorem pe_listRg3 {a b c : Expr} {ta : TA} {p pos p2 pos2 : Pos} (hc : X.calm = true) (hg : Gl X "list") (hm : X.mg "list" = none) (hg2 : Gl X "range") (hm2 : X.mg "range" = none) (ha : PA X [a, b, c] ta)
    (hs : starEach [a, b, c] X.env = (false, eval a X.env) :: starEach [b, c] X.env := by rfl) (hpl : (backTo pos2 (starEach [b, c] X.env)).any (·.1) = false := by rfl)
    (na : starEach [.Call (.Name "range" p2) [a, b, c] [] pos2] X.env = (false, eval (.Call (.Name "range" p2) [a, b, c] [] pos2) X.env) :: starEach [] X.env := by rfl) :
    PE X (.Call (.Name "list" p) [.Call (.Name "range" p2) [a, b, c] [] pos2] [] pos) (tLstRg3 ta) := by
  have he : ∀ (pins : List (Addr × Obj)) (s : Shared) (σ : L2.St) (H : Hp) (Q : Int → Int → Int → Hp → Prop), L2.Inv X pins σ H s → (ta σ H fun vs H1 => ∃ (i j c : Int), vs = [.int i, .int j, .int c] ∧ (c ≠ 0 ∧ c.natAbs < 1073741824) ∧ Q i j c H1) →
      wpAny (model X.prog X.w) X.A (eval (.Call (.Name "range" p2) [a, b, c] [] pos2) X.env) (fun x s' => ∃ r i j c t u v H', x = .ref r ∧ IsRange s'.heap r i j c t u v ∧ L2.Inv X pins σ H' s' ∧ Q i j c H') X.xe s := by
    intro pins s σ H Q I h
    refine Call_ (ld_blt I hg2 hm2 boot_range (PyProof.Rows.callWith_type1 (thn (ha.run pos2 pins s σ H _ I h) fun us s1 ⟨vs, H1, I1, r1, q1⟩ => ?_) hs hpl))
    obtain ⟨i, j, k, e, ⟨c0, c1⟩, q⟩ := q1
    subst e
    cases r1 with
    | cons r rr =>
      cases rr with
      | cons r' rr =>
        cases rr with
        | cons r'' rr =>
          cases rr
          obtain ⟨t, rfl⟩ := r
          obtain ⟨t', rfl⟩ := r'
          obtain ⟨t'', rfl⟩ := r''
          refine call_range_3 c0 ?_ (.inl (PyProof.noPylong_small c1))
          exact ⟨_, i, j, k, _, _, _, H1, rfl, IsRange.new _ _ _ _ _ _ _, I1.kept fun b u e => Heap.get?_push_of_some _ e, q⟩
  refine ⟨fun pins s σ H Q I h => ?_⟩
  have h2 : ta σ H fun vs H1 => ∃ (i j c : Int), vs = [.int i, .int j, .int c] ∧ (c ≠ 0 ∧ c.natAbs < 1073741824) ∧ ∃ n, RgC i j c n ∧ n ≤ 2 ^ 24 ∧ ∀ q, H1 q = none → Q (.ref q) (upd H1 q (.lst (rgCV i c n))) := by
    have e : (fun vs H1 => ∃ (i j c : Int) (n : Nat), vs = [V.int i, V.int j, V.int c] ∧ RgC i j c n ∧ n ≤ 2 ^ 24 ∧ ∀ q, H1 q = none → Q (.ref q) (upd H1 q (.lst (rgCV i c n)))) = (fun vs H1 => ∃ (i j c : Int), vs = [V.int i, V.int j, V.int c] ∧ (c ≠ 0 ∧ c.natAbs < 1073741824) ∧ ∃ n, RgC i j c n ∧ n ≤ 2 ^ 24 ∧ ∀ q, H1 q = none → Q (.ref q) (upd H1 q (.lst (rgCV i c n)))) := by
      funext vs H1
      refine propext ⟨?_, ?_⟩
      · rintro ⟨i, j, c, n, e, hr, hn, q⟩
        exact ⟨i, j, c, e, ⟨hr.1, hr.2.1⟩, n, hr, hn, q⟩
      · rintro ⟨i, j, c, e, _, n, hr, hn, q⟩
        exact ⟨i, j, c, n, e, hr, hn, q⟩
    rw [← e]
    exact h
  refine Call_ (ld_blt I hg hm boot_list (PyProof.Rows.callWith_type1 (args_cons (thn (he pins s σ H _ I h2) fun x s1 ⟨r, i, j, k, t, u, v, H1, ex, hr, I1, n, ⟨_, _, c2, c3⟩, hn, q⟩ => args_nil ?_) na) na))
  subst ex
  refine call_list_range (n := n) (I1.ok.hd hc) hr c2 c3 hn fun h' tk acc c' hk e' hi => ?_
  refine ⟨.ref s1.heap.objs.size, upd H1 s1.heap.objs.size (.lst (rgCV i k n)), I1.laid hk (Nat.le_refl _) (show ObjOk X.prog X.w _ _ _ (.lst (rgCV i k n)) from ⟨?_, acc.toList, c', vals_rgC hi, ?_⟩), rfl, q _ (I1.hok.fresh (Nat.le_refl _))⟩
  · unfold rgCV; rw [List.length_map, List.length_range, sizeLine_eq]; omega
  · rw [Array.toArray_toList]; exact e'
end
/-! ### the ends of a sorted list -/
theorem srt_last {ns' ns : List Int} {m : Int} (hp : ns'.Perm ns) (hs : ns'.Pairwise (· ≤ ·)) (hm : m ∈ ns) (hle : ∀ y ∈ ns, y ≤ m) : atI (ns'.map V.int) (-1) = some (V.int m) := by
  have hm' := hp.mem_iff.mpr hm
  rcases List.eq_nil_or_concat ns' with e5 | ⟨es', y, e5⟩
  · rw [e5] at hm'; cases hm'
  · rw [List.concat_eq_append] at e5
    subst e5
    have h1 := hle y (hp.mem_iff.mp (List.mem_append.mpr (.inr (List.mem_singleton.mpr rfl))))
    have h2 : m ≤ y := by
      rcases List.mem_append.mp hm' with h | h
      · exact (List.pairwise_append.mp hs).2.2 m h y (List.mem_singleton.mpr rfl)
      · rw [List.mem_singleton.mp h]; exact Int.le_refl _
    have e : y = m := by omega
    rw [List.map_append, ← e]
    exact atI_last _ _
theorem srt_head {ns' ns : List Int} {m : Int} (hp : ns'.Perm ns) (hs : ns'.Pairwise (· ≤ ·)) (hm : m ∈ ns) (hle : ∀ y ∈ ns, m ≤ y) : ns'.getD 0 0 = m := by
  have hm' := hp.mem_iff.mpr hm
  cases ns' with
  | nil => cases hm'
  | cons y t =>
    have h1 := hle y (hp.mem_iff.mp List.mem_cons_self)
    have h2 : y ≤ m := by
      rcases List.mem_cons.mp hm' with h | h
      · rw [h]; exact Int.le_refl _
      · exact (List.pairwise_cons.mp hs).1 m h
    show y = m
    omega
theorem ofW_sm {ns : List Int} {w : Nat} {m : Int} (hl : ns.length ≤ 1000) (h : m ∈ ofW ns w) : SmI m := by
  unfold ofW at h
  obtain ⟨f, _, rfl⟩ := List.mem_map.mp h
  have k : wunN ns f (f + w) ≤ ns.length := by
    unfold wunN
    refine Nat.le_trans (ulen_le _) ?_
    rw [List.length_take, List.length_drop]
    omega
  exact ⟨by omega, by omega⟩
end Ur

namespace Ur
open PySem L2
/-! ### windows of a row with numbers ahead and behind -/
theorem win_shift {A ns B : List Int} {f k : Nat} (h : f + k ≤ ns.length) : ((A ++ ns ++ B).drop (A.length + f)).take k = (ns.drop f).take k := by
  rw [List.append_assoc, ← List.drop_drop, List.drop_left, List.drop_append_of_le_length (by omega), List.take_append_of_le_length (by rw [List.length_drop]; omega)]
theorem wunN_shift {A ns B : List Int} {f b : Nat} (h : f ≤ b) (hb : b ≤ ns.length) : wunN (A ++ ns ++ B) (A.length + f) (A.length + b) = wunN ns f b := by
  unfold wunN
  rw [show A.length + b - (A.length + f) = b - f from by omega, win_shift (by omega)]
theorem wun_shift {A ns B : List Int} {f b : Int} (h0 : 0 ≤ f) (h : f ≤ b) (hb : b ≤ ns.length) : wun (A ++ ns ++ B) (f + A.length) (b + A.length) = wun ns f b := by
  rw [wun_N, wun_N, show (f + (A.length : Int)).toNat = A.length + f.toNat from by omega, show (b + (A.length : Int)).toNat = A.length + b.toNat from by omega]
  exact wunN_shift (by omega) (by omega)
theorem getD_shift {A ns B : List Int} {p : Nat} (h : p < ns.length) : (A ++ ns ++ B).getD (A.length + p) 0 = ns.getD p 0 := by
  rw [List.append_assoc, List.getD_eq_getElem?_getD, List.getD_eq_getElem?_getD, List.getElem?_append_right (by omega), show A.length + p - A.length = p from by omega, List.getElem?_append_left h]
theorem lp_shift {A ns B : List Int} {f p : Nat} (h : f ≤ p) (hp : p < ns.length) : lp (A ++ ns ++ B) (A.length + p) < ((A.length + f : Nat) : Int) ↔ lp ns p < (f : Int) := by
  have hl : (A ++ ns ++ B).length = A.length + ns.length + B.length := by rw [List.length_append, List.length_append]
  have k1 := last_in (ns := ns) (f := f) (k := p - f) (by omega)
  have k2 := last_in (ns := A ++ ns ++ B) (f := A.length + f) (k := p - f) (by omega)
  rw [show f + (p - f) = p from by omega] at k1
  rw [show A.length + f + (p - f) = A.length + p from by omega, win_shift (by omega), getD_shift hp] at k2
  have e1 : lp (A ++ ns ++ B) (A.length + p) = lastAt (A ++ ns ++ B) (A.length + p) (ns.getD p 0) := by rw [← getD_shift (A := A) (B := B) hp]; rfl
  have e2 : lp ns p = lastAt ns p (ns.getD p 0) := rfl
  rw [← e2] at k1
  rw [← e1] at k2
  have k3 := k1.symm.trans k2
  constructor
  · intro a
    exact Decidable.of_not_not fun z => k3.mp z a
  · intro a
    exact Decidable.of_not_not fun z => k3.mpr z a
theorem firP_shift {A ns B : List Int} {f b : Int} (h0 : 0 ≤ f) (h : f ≤ b) (hb : b ≤ ns.length) : (firP (A ++ ns ++ B) (f + A.length) (b + A.length)).map (fun x => x - (A.length : Int)) = firP ns f b := by
  unfold firP
  rw [List.map_map, show (b + (A.length : Int) - (f + (A.length : Int))) = b - f from by omega]
  have e : (List.range (b - f).toNat).filter (fun k => decide (lp (A ++ ns ++ B) ((f + (A.length : Int)).toNat + k) < f + (A.length : Int))) = (List.range (b - f).toNat).filter fun k => decide (lp ns (f.toNat + k) < f) := by
    refine List.filter_congr fun k hk => ?_
    rw [List.mem_range] at hk
    refine decide_eq_decide.mpr ?_
    have := lp_shift (A := A) (ns := ns) (B := B) (f := f.toNat) (p := f.toNat + k) (by omega) (by omega)
    rw [show (f + (A.length : Int)).toNat + k = A.length + (f.toNat + k) from by omega]
    rwa [show ((A.length + f.toNat : Nat) : Int) = f + (A.length : Int) from by omega, show ((f.toNat : Nat) : Int) = f from by omega] at this
  rw [e]
  refine List.map_congr_left fun k _ => ?_
  show f + (A.length : Int) + (k : Int) - (A.length : Int) = f + (k : Int)
  omega
theorem endAt_shift {A ns B : List Int} {f e : Nat} {m : Int} (hf : f ≤ ns.length) (h : endAt ns f m = some e) : endAt (A ++ ns ++ B) (A.length + f) m = some (A.length + e) := by
  have hl : (A ++ ns ++ B).length = A.length + ns.length + B.length := by rw [List.length_append, List.length_append]
  rcases endAt_spec (ns := ns) (f := f) (m := m) hf with ⟨e1, _⟩ | ⟨e', e1, h1, h2, h3, h4⟩
  · rw [e1] at h; cases h
  · rw [e1] at h
    injection h with h
    subst h
    refine endAt_is (by omega) (by omega) (by rw [wunN_shift h1 h2]; exact h3) fun b k1 k2 => ?_
    have := h4 (b - A.length) (by omega) (by omega)
    rw [← wunN_shift (A := A) (B := B) (by omega) (by omega), show A.length + (b - A.length) = b from by omega] at this
    exact this
theorem begAt_shift {A ns B : List Int} {b e : Nat} {m : Int} (hb : b ≤ ns.length) (h : begAt ns b m = some e) : begAt (A ++ ns ++ B) (A.length + b) m = some (A.length + e) := by
  rcases begK_spec (ns := ns) (b := b) (m := m) b with ⟨e1, _⟩ | ⟨e', e1, h1, h2, h3⟩
  · have e2 : begAt ns b m = none := e1
    rw [e2] at h; cases h
  · have e2 : begAt ns b m = some e' := e1
    rw [e2] at h
    injection h with h
    subst h
    refine begAt_is (by omega) (by rw [wunN_shift h1 hb]; exact h2) fun j k1 k2 => ?_
    have := h3 (j - A.length) (by omega) (by omega)
    rw [← wunN_shift (A := A) (B := B) (by omega) hb, show A.length + (j - A.length) = j from by omega] at this
    exact this
/-! ### called otherwise -/
theorem wunN_mapS {f : Int → Int} {ns : List Int} (h : InjOn f ns) (a b : Nat) : wunN (ns.map f) a b = wunN ns a b := by
  unfold wunN
  rw [← List.map_drop, ← List.map_take]
  exact ulen_map fun x hx y hy e => h x (List.mem_of_mem_drop (List.mem_of_mem_take hx)) y (List.mem_of_mem_drop (List.mem_of_mem_take hy)) e
theorem wun_mapS {f : Int → Int} {ns : List Int} (h : InjOn f ns) (a b : Int) : wun (ns.map f) a b = wun ns a b := wunN_mapS h _ _
theorem firP_map {g : Int → Int} {ns : List Int} (h : InjOn g ns) {f b : Int} (h0 : 0 ≤ f) (hb : b ≤ ns.length) : firP (ns.map g) f b = firP ns f b := by
  unfold firP
  congr 1
  refine List.filter_congr fun k hk => ?_
  rw [List.mem_range] at hk
  have hk2 : f.toNat + k < ns.length := by omega
  have e : lp (ns.map g) (f.toNat + k) = lp ns (f.toNat + k) := by
    rw [← lastP_getD hk2, ← lastP_getD (by rw [List.length_map]; exact hk2), lastP_map h]
  rw [e]
theorem endAt_map {g : Int → Int} {ns : List Int} (h : InjOn g ns) {f : Nat} {m : Int} (hf : f ≤ ns.length) : endAt (ns.map g) f m = endAt ns f m := by
  have hl : (ns.map g).length = ns.length := List.length_map ..
  rcases endAt_spec (ns := ns) (f := f) (m := m) hf with ⟨e1, e2⟩ | ⟨e, e1, h1, h2, h3, h4⟩
  · rcases endAt_spec (ns := ns.map g) (f := f) (m := m) (by omega) with ⟨k1, _⟩ | ⟨e, k1, h1, h2, h3, _⟩
    · rw [e1, k1]
    · rw [wunN_mapS h] at h3
      exact absurd h3 (e2 e h1 (by omega))
  · rw [e1]
    refine endAt_is h1 (by omega) (by rw [wunN_mapS h]; exact h3) fun b k1 k2 => ?_
    rw [wunN_mapS h]
    exact h4 b k1 k2
theorem begAt_map {g : Int → Int} {ns : List Int} (h : InjOn g ns) {b : Nat} {m : Int} : begAt (ns.map g) b m = begAt ns b m := by
  rcases begK_spec (ns := ns) (b := b) (m := m) b with ⟨e1, e2⟩ | ⟨e, e1, h1, h2, h3⟩
  · rcases begK_spec (ns := ns.map g) (b := b) (m := m) b with ⟨k1, _⟩ | ⟨e, k1, h1, h2, h3⟩
    · exact k1.trans e1.symm
    · rw [wunN_mapS h] at h2
      exact absurd h2 (e2 e h1)
  · refine (begAt_is h1 (by rw [wunN_mapS h]; exact h2) fun j k1 k2 => ?_).trans e1.symm
    rw [wunN_mapS h]
    exact h3 j k1 k2
/-! ### from behind -/
theorem wunN_back {ns : List Int} {p q : Nat} (h : p ≤ q) (hq : q ≤ ns.length) : wunN ns.reverse (ns.length - q) (ns.length - p) = wunN ns p q := by
  unfold wunN
  have e : (ns.reverse.drop (ns.length - q)).take (ns.length - p - (ns.length - q)) = ((ns.drop p).take (q - p)).reverse := by
    rw [List.drop_reverse, List.take_reverse]
    congr 1
    rw [show ns.length - (ns.length - q) = q from by omega, List.length_take, Nat.min_eq_left hq, show ns.length - p - (ns.length - q) = q - p from by omega, show q - (q - p) = p from by omega, List.drop_take]
  rw [e, ulen_rev]
theorem wun_back {ns : List Int} {f b : Int} (h0 : 0 ≤ f) (h : f ≤ b) (hb : b ≤ ns.length) : wun ns.reverse ((ns.length : Int) - b) ((ns.length : Int) - f) = wun ns f b := by
  rw [wun_N, wun_N, show ((ns.length : Int) - b).toNat = ns.length - b.toNat from by omega, show ((ns.length : Int) - f).toNat = ns.length - f.toNat from by omega]
  exact wunN_back (by omega) (by omega)
theorem begAt_back {ns : List Int} {f : Nat} {m : Int} (hf : f ≤ ns.length) : begAt ns.reverse (ns.length - f) m = (endAt ns f m).map fun e => ns.length - e := by
  have hl : ns.reverse.length = ns.length := List.length_reverse
  rcases endAt_spec (ns := ns) (f := f) (m := m) hf with ⟨e1, e2⟩ | ⟨e, e1, h1, h2, h3, h4⟩
  · rw [e1]
    rcases begK_spec (ns := ns.reverse) (b := ns.length - f) (m := m) (ns.length - f) with ⟨k1, _⟩ | ⟨e, k1, h1, h2, h3⟩
    · exact k1
    · have := e2 (ns.length - e) (by omega) (by omega)
      rw [← wunN_back (by omega) (by omega), show ns.length - (ns.length - e) = e from by omega] at this
      exact absurd h2 this
  · rw [e1]
    show begAt ns.reverse (ns.length - f) m = some (ns.length - e)
    refine begAt_is (by omega) (by rw [wunN_back h1 h2]; exact h3) fun j k1 k2 => ?_
    have := h4 (ns.length - j) (by omega) (by omega)
    rw [← wunN_back (by omega) (by omega), show ns.length - (ns.length - j) = j from by omega] at this
    exact this
/-! ### all answers of a window -/
def optD : Option Nat → PyData
  | none => .none
  | some e => .int e
theorem dp_opt {K : PySem.W.Frag} {H : Hp} : ∀ x : Option Nat, Dp K H (optV x) (optD x)
  | none => .non
  | some e => .int e
/-- the list of all answers -/
structure AllA (H : Hp) (p : Addr) (ns : List Int) (f b m : Int) : Prop where
  all : ∃ q : Addr, H p = some (.lst [.int (wun ns f b : Nat), .ref q, optV (endAt ns f.toNat m), optV (begAt ns b.toNat m)]) ∧ H q = some (.lst ((firP ns f b).map V.int))
theorem AllA.same {H H' : Hp} {p : Addr} {ns : List Int} {f b m : Int} (k : AllA H p ns f b m) (s : Same H H') : AllA H' p ns f b m := by
  obtain ⟨q, e1, e2⟩ := k.all
  exact ⟨q, s _ _ e1, s _ _ e2⟩
def allD (ns : List Int) (f b m : Int) : PyData := .list [.int (wun ns f b : Nat), .list ((firP ns f b).map .int), optD (endAt ns f.toNat m), optD (begAt ns b.toNat m)]
theorem AllA.dp {K : PySem.W.Frag} {H : Hp} {p : Addr} {ns : List Int} {f b m : Int} (k : AllA H p ns f b m) : Dp K H (.ref p) (allD ns f b m) := by
  obtain ⟨q, e1, e2⟩ := k.all
  exact .lst (.of e1) (.cons (.int _) (.cons (dp_ints (.of e2)) (.cons (dp_opt _) (.cons (dp_opt _) .nil))))
theorem optD_ok : ∀ x : Option Nat, PyData.canLay0 (optD x) = true ∧ PyData.depth (optD x) ≤ 2 ∧ PyData.eqv (optD x) (optD x) = true
  | none => ⟨rfl, by decide, rfl⟩
  | some e => ⟨rfl, by show PyData.depth (.int _) ≤ 2; rw [PyData.depth]; decide, by show PyData.eqv (.int _) (.int _) = true; exact decide_eq_true rfl⟩
theorem allD_ok (ns : List Int) (f b m : Int) : SeqAt.shaped (allD ns f b m) = true ∧ PyData.eqv (allD ns f b m) (allD ns f b m) = true := by
  have a1 := optD_ok (endAt ns f.toNat m)
  have a2 := optD_ok (begAt ns b.toNat m)
  have hc : ∀ d ∈ [PyData.int (wun ns f b : Nat), .list ((firP ns f b).map .int), optD (endAt ns f.toNat m), optD (begAt ns b.toNat m)], PyData.canLay0 d = true ∧ PyData.depth d ≤ 2 ∧ PyData.eqv d d = true := by
    intro d hd
    simp only [List.mem_cons, List.not_mem_nil, or_false] at hd
    rcases hd with rfl | rfl | rfl | rfl
    · exact ⟨rfl, by rw [PyData.depth]; decide, decide_eq_true rfl⟩
    · exact ⟨canLayAll_ints _, depth_ints _, by rw [eqv_ints]; exact decide_eq_true rfl⟩
    · exact a1
    · exact a2
  refine ⟨shaped_of (canLayAll_of _ fun d h => (hc d h).1) ?_, eqvAll_refl _ fun d h => (hc d h).2.2⟩
  have h := depthAll_of (m := 2) _ fun d h => (hc d h).2.1
  show PyData.depth (.list _) ≤ 64
  rw [PyData.depth]
  omega
theorem rNe_all {K : PySem.W.Frag} {H : Hp} {p q : Addr} {ns : List Int} {f b m : Int} {Q : VK} (h1 : AllA H p ns f b m) (h2 : AllA H q ns f b m) (k : Q (.bl false) H) : rNeD K (.ref p) (.ref q) H Q :=
  ⟨_, _, h1.dp, h2.dp, (allD_ok ns f b m).1, (allD_ok ns f b m).1, by rw [(allD_ok ns f b m).2]; exact k⟩
theorem rEq_all {K : PySem.W.Frag} {H : Hp} {p q : Addr} {ns : List Int} {f b m : Int} {Q : VK} (h1 : AllA H p ns f b m) (h2 : AllA H q ns f b m) (k : Q (.bl true) H) : rEqD K (.ref p) (.ref q) H Q :=
  ⟨_, _, h1.dp, h2.dp, (allD_ok ns f b m).1, (allD_ok ns f b m).1, by rw [(allD_ok ns f b m).2]; exact k⟩
theorem Rdy.off {C : Addr} {L : Addr → Prop} {H : Hp} {o a : Addr} {ns : List Int} (r : Rdy C L H o ns) (l : L a) : Rdy C (fun b => b = a) H o ns := r.sub fun b e => e ▸ l
theorem AllA.map {H : Hp} {p : Addr} {ns : List Int} {f b m : Int} {g : Int → Int} (h : InjOn g ns) (h0 : 0 ≤ f) (h1 : f ≤ b) (hb : b ≤ ns.length) (k : AllA H p (ns.map g) f b m) : AllA H p ns f b m := by
  obtain ⟨q, e1, e2⟩ := k.all
  rw [wun_mapS h, endAt_map h (by omega), begAt_map h] at e1
  rw [firP_map h h0 hb] at e2
  exact ⟨q, e1, e2⟩
end Ur

/-! sum(d.values()) of a dict of ints -/
namespace UrD
open PySem PySem.Spec PyProof.Rows L2
def tSumVals (te : TE) : TE := fun σ H Q => te σ H fun x H1 => ∃ (d : Addr) (kvs : List (Key × V)) (ns : List Int), x = .ref d ∧ H1 d = some (.dK kvs) ∧ kvs.map Prod.snd = ns.map V.int ∧ Q (.int ns.sum) H1
theorem kv_val {kvs : List (Key × V)} {vs : List (Key × Value)} {ns : List Int} (kv : KV kvs vs) (h : kvs.map Prod.snd = ns.map V.int) {i : Nat} {k : Key} {v : Value} (hv : vs[i]? = some (k, v)) : ∃ n t, ns[i]? = some n ∧ v = .int n t := by
  have hl : kvs.length = vs.length := Paired.length kv
  have hi := (List.getElem?_eq_some_iff.mp hv).1
  obtain ⟨⟨k2, x⟩, hk⟩ : ∃ p, kvs[i]? = some p := ⟨kvs[i], List.getElem?_eq_getElem (by omega)⟩
  obtain ⟨u, hu, ru⟩ := kv_get kv hk
  rw [hv] at hu
  cases hu
  have hx : (kvs.map Prod.snd)[i]? = some x := by rw [List.getElem?_map, hk]; rfl
  rw [h, List.getElem?_map] at hx
  obtain ⟨n, hn, e⟩ := Option.map_eq_some_iff.mp hx
  subst e
  obtain ⟨t, rfl⟩ := ru
  exact ⟨n, t, hn, rfl⟩
theorem preSum_ns (ns : List Int) : ∀ n, preSum (fun i => ns.getD i 0) n = (ns.take n).sum
  | 0 => by simp [preSum]
  | n + 1 => by
    rw [preSum, preSum_ns ns n, List.take_add_one, List.sum_append, List.getD_eq_getElem?_getD]
    cases ns[n]? <;> simp
theorem pe_sumVals {X : Cx} {e : Expr} {td : TE} {p pos apos cpos : Pos} (hg : Gl X "sum") (hm : X.mg "sum" = none) (he : PE X e td) (hc : X.calm = true := by rfl)
    (hbase : attributeBase e "values" X.env (eval e X.env) = eval e X.env := by rfl) (hline : (apos.endLine == cpos.line) = true := by rfl) :
    PE X (.Call (.Name "sum" p) [.Call (.Attribute e "values" apos) [] [] cpos] [] pos) (tSumVals td) := by
  refine ⟨fun pins s σ H Q I h => ?_⟩
  refine Call_ (ld_blt I hg hm boot_sum ?_)
  refine PyProof.Rows.callWith_builtin1 (PyProof.Rows.args_cons ?_ rfl) rfl rfl
  refine wpAny_Call_method (T := "dict") (id := "dict.values") hbase rfl hline F.plainAttrs_dict F.slot_dict_values F.type_dict_values (thn (he.run pins s σ H _ I h) fun u s1 ⟨x, H1, I1, rx, d, kvs, ns, ex, hd, hns, q⟩ => ?_)
  subst ex
  obtain rfl : u = Value.ref d := rx
  obtain ⟨hsz, hs, vs, kv, hdo⟩ := I1.hok d _ hd
  obtain ⟨ep, hm1⟩ := hdo.dictAt
  have hl : kvs.length = vs.length := Paired.length kv
  have hnl : ns.length = vs.length := by rw [← hl]; have := congrArg List.length hns; simpa using this.symm
  refine ⟨hm1.dictOf.typeIs, hm1.dictOf.mapOf.noDict, ?_⟩
  show wpAny _ _ (callWith cpos (.builtin "dict.values") [.ref d] [] []) _ X.xe s1
  refine method_meetsIn F.slot_dict_values F.entry_dict_values rfl (PySem.evalArgs_none ⟨rfl, hm1.dictOf.typeIs, F.args_dict_values_1 _, _, meets_dict_values (mixKind X.prog X.w) d hs, ⟨vs, hm1.dictOf⟩, ?_⟩)
  refine PyProof.Rows.args_nil ?_
  have I2 : Inv X pins σ H1 { s1 with heap := s1.heap.push { cls := .type "dict_values", data := .fields #[.ref d] } } := I1.kept (t' := s1.toks) fun b ob q => Heap.get?_push_of_some _ q
  refine call_sum_walkAnyS (wpAny_pyIter_values (d := d) (knd := mixKind X.prog X.w) ⟨_, Heap.get?_push_size _ rfl, rfl, rfl⟩ (hm1.push _) ?_)
  have hh : X.A.in1.handled = none := I1.ok.hd hc
  have hdlt : d < s1.heap.objs.size := by
    obtain ⟨o, _, e, _⟩ := hm1
    exact Heap.lt_size e
  refine ⟨_, _, _, _, vs.length, _, _, fun i => ns.getD i 0, rfl, (Walks.dictValues (knd := mixKind X.prog X.w) hh _ d ?_ vs ep).toS, ⟨⟨_, Heap.get?_push_size _ rfl, rfl, rfl⟩, (hm1.push _).push _⟩, fun b hb => ?_, fun i v ⟨k, hk⟩ => ?_, fun s' t' mv => ?_⟩
  · rw [Heap.size_push]
    exact Nat.ne_of_lt (Nat.lt_succ_of_lt hdlt)
  · rw [Heap.size_push]
    rcases List.mem_cons.mp hb with e | hb
    · rw [e]; exact Nat.lt_succ_self _
    · rw [List.mem_singleton.mp hb, Heap.size_push]
      exact Nat.lt_succ_of_lt (Nat.lt_succ_of_lt hdlt)
  · obtain ⟨n, t, hn, rfl⟩ := kv_val kv hns hk
    exact ⟨t, by show Value.int n t = Value.int (ns.getD i 0) t; rw [List.getD_eq_getElem?_getD, hn]; rfl⟩
  · rw [Moved.eq_with mv, preSum_ns, ← hnl, List.take_length]
    refine ⟨.int ns.sum, H1, I2.kept (t' := s'.toks) fun b o e => ?_, ⟨t', rfl⟩, q⟩
    refine mv.heap b o (fun hb => ?_) (Heap.get?_push_of_some _ e)
    rw [List.mem_singleton.mp hb] at e
    exact absurd (Heap.lt_size e) (by rw [Heap.size_push]; exact Nat.lt_irrefl _)
/-! ### a dict against one without entries -/
def rEqDE : R2 := fun x y H Q => ∃ a b ks, x = .ref a ∧ y = .ref b ∧ H a = some (.dK ks) ∧ H b = some (.dK []) ∧ Q (.bl (decide (ks = []))) H
def rNeDE : R2 := fun x y H Q => ∃ a b ks, x = .ref a ∧ y = .ref b ∧ H a = some (.dK ks) ∧ H b = some (.dK []) ∧ Q (.bl (!decide (ks = []))) H
theorem len_nil {ks : List (Key × V)} {va vb : List (Key × Value)} (ra : KV ks va) (rb : KV ([] : List (Key × V)) vb) : (va.length == vb.length && true) = decide (ks = []) := by
  have h1 : ks.length = va.length := Paired.length ra
  have h2 : ([] : List (Key × V)).length = vb.length := Paired.length rb
  rw [← h1, ← h2]
  cases ks with
  | nil => rfl
  | cons x ks =>
    rw [decide_eq_false (fun e => nomatch e)]
    rfl
theorem nil_of {ks : List (Key × V)} {va vb : List (Key × Value)} (ra : KV ks va) (rb : KV ([] : List (Key × V)) vb) (h : va.length = vb.length) : ks = [] := by
  have h1 : ks.length = va.length := Paired.length ra
  have h2 : ([] : List (Key × V)).length = vb.length := Paired.length rb
  cases ks with
  | nil => rfl
  | cons x ks => simp at h1 h2; omega
theorem op_eqDE {X : Cx} (hu : X.A.units + 1 < cLine) : OpR X (compareOp .Eq) rEqDE := by
  intro pins s σ H x y v u Q I rx ry h
  obtain ⟨a, b, ks, rfl, rfl, ea, eb, q⟩ := h
  obtain rfl : v = Value.ref a := rx
  obtain rfl : u = Value.ref b := ry
  obtain ⟨_, ya, va, ra, da⟩ := (show ObjOk X.prog X.w H s.heap a (.dK ks) from I.hok a _ ea)
  obtain ⟨_, yb, vb, rb, db⟩ := (show ObjOk X.prog X.w H s.heap b (.dK []) from I.hok b _ eb)
  exact PySem.W.keq_eq (knd := mixKind X.prog X.w) (r := true) ya yb da db (Nat.lt_of_succ_lt hu) (fun e => hits_all rb ra (fun p hp => by rw [nil_of ra rb e] at hp; exact nomatch hp)) (fin_bl I q (len_nil ra rb).symm)
theorem op_neDE {X : Cx} (hu : X.A.units + 1 < cLine) : OpR X (compareOp .NotEq) rNeDE := by
  intro pins s σ H x y v u Q I rx ry h
  obtain ⟨a, b, ks, rfl, rfl, ea, eb, q⟩ := h
  obtain rfl : v = Value.ref a := rx
  obtain rfl : u = Value.ref b := ry
  obtain ⟨_, ya, va, ra, da⟩ := (show ObjOk X.prog X.w H s.heap a (.dK ks) from I.hok a _ ea)
  obtain ⟨_, yb, vb, rb, db⟩ := (show ObjOk X.prog X.w H s.heap b (.dK []) from I.hok b _ eb)
  exact PySem.W.keq_ne (knd := mixKind X.prog X.w) (r := true) ya yb da db (Nat.lt_of_succ_lt hu) (fun e => hits_all rb ra (fun p hp => by rw [nil_of ra rb e] at hp; exact nomatch hp)) (fin_bl I q (by rw [len_nil ra rb]))
end UrD

/-! min of a list of pairs of ints -/
namespace UrM
open PySem PySem.W PySem.Spec PyProof.Rows L2
/-- p ahead of q -/
def pl (p q : Int × Int) : Bool := decide (p.1 < q.1 ∨ (p.1 = q.1 ∧ p.2 < q.2))
def pD (q : Int × Int) : PyData := .tuple [.int q.1, .int q.2]
theorem lt_pair (p q : Int × Int) : dataLt (pD p) (pD q) = pl p q := by
  obtain ⟨a, b⟩ := p
  obtain ⟨c, d⟩ := q
  have e1 : keyToks (pD (a, b)) = [.inl 1, .inl a, .inl 1, .inl b, .inl 0] := by
    simp [pD, keyToks, keyToksAll]
  have e2 : keyToks (pD (c, d)) = [.inl 1, .inl c, .inl 1, .inl d, .inl 0] := by
    simp [pD, keyToks, keyToksAll]
  unfold dataLt pl
  rw [e1, e2, lex_self (O := itemOrd)]
  by_cases h : a = c
  · subst h
    rw [lex_self (O := itemOrd), lex_self (O := itemOrd)]
    by_cases h2 : b = d
    · subst h2
      rw [lex_self (O := itemOrd), lex_self (O := itemOrd)]
      simp [PyProof.Rows.lexLt]
    · rw [lex_diff (O := itemOrd) (by intro k; injection k with k; exact h2 k)]
      show decide (b < d) = _
      simp
  · rw [lex_diff (O := itemOrd) (by intro k; injection k with k; exact h k)]
    show decide (a < c) = _
    refine decide_eq_decide.mpr ⟨Or.inl, fun k => k.elim id fun k => absurd k.1 h⟩
/-- the least, the first of several -/
theorem best_least (f : Nat → Int × Int) : ∀ k, argBest (fun i j => pl (f i) (f j)) k ≤ k ∧ ∀ j, j ≤ k → (f (argBest (fun i j => pl (f i) (f j)) k)).1 < (f j).1 ∨ ((f (argBest (fun i j => pl (f i) (f j)) k)).1 = (f j).1 ∧ (f (argBest (fun i j => pl (f i) (f j)) k)).2 ≤ (f j).2)
  | 0 => ⟨Nat.le_refl 0, fun j h => by
    rw [Nat.le_zero.mp h]
    exact .inr ⟨rfl, Int.le_refl _⟩⟩
  | k + 1 => by
    obtain ⟨h1, h2⟩ := best_least f k
    have e : argBest (fun i j => pl (f i) (f j)) (k + 1) = if pl (f (k + 1)) (f (argBest (fun i j => pl (f i) (f j)) k)) then k + 1 else argBest (fun i j => pl (f i) (f j)) k := rfl
    rw [e]
    by_cases h : pl (f (k + 1)) (f (argBest (fun i j => pl (f i) (f j)) k)) = true
    · rw [if_pos h]
      have h3 := of_decide_eq_true h
      refine ⟨Nat.le_refl _, fun j hj => ?_⟩
      by_cases hk : j = k + 1
      · rw [hk]; exact .inr ⟨rfl, Int.le_refl _⟩
      · have := h2 j (by omega)
        omega
    · rw [if_neg h]
      have h3 : ¬ ((f (k + 1)).1 < (f (argBest (fun i j => pl (f i) (f j)) k)).1 ∨ ((f (k + 1)).1 = (f (argBest (fun i j => pl (f i) (f j)) k)).1 ∧ (f (k + 1)).2 < (f (argBest (fun i j => pl (f i) (f j)) k)).2)) := fun z => h (decide_eq_true z)
      refine ⟨by omega, fun j hj => ?_⟩
      by_cases hk : j = k + 1
      · rw [hk]; omega
      · exact h2 j (by omega)
def rMinP (K : PySem.W.Frag) : List V → Hp → VK → Prop := fun vs H Q => ∃ (a : Addr) (ls : List Addr) (ps : List (Int × Int)), vs = [.ref a] ∧ SqL K H a (ls.map V.ref) ∧ Dp K H (.ref a) (.list (ps.map pD)) ∧ ls.length = ps.length ∧ 0 < ps.length ∧
  ∀ (i : Nat) (l : Addr) (q : Int × Int), ls[i]? = some l → ps[i]? = some q → (∀ p ∈ ps, q.1 < p.1 ∨ (q.1 = p.1 ∧ q.2 ≤ p.2)) → Q (.ref l) H
theorem depth_pD (ps : List (Int × Int)) : PyData.depthAll (ps.map pD) ≤ 2 := by
  induction ps with
  | nil =>
    rw [List.map_nil, PyData.depthAll]
    exact Nat.zero_le _
  | cons q ps ih =>
    rw [List.map_cons, PyData.depthAll]
    refine Nat.max_le.mpr ⟨?_, ih⟩
    simp [pD, PyData.depth, PyData.depthAll]
theorem alike_pD (ps : List (Int × Int)) : AlikeAll (ps.map pD) := by
  refine ⟨fun x hx y hy => ?_, fun x hx => ?_⟩
  · obtain ⟨p, _, rfl⟩ := List.mem_map.mp hx
    obtain ⟨q, _, rfl⟩ := List.mem_map.mp hy
    simp [pD, alike, alikeAll]
  · obtain ⟨p, _, rfl⟩ := List.mem_map.mp hx
    exact fun k => nomatch k
theorem cr_minP {X : Cx} {K : PySem.W.Frag} (hk : X.K = K) (hc : X.calm = true) (hu : X.A.units + 64 < cLine) : CallR X (.builtin "min") (rMinP K) := by
  subst hk
  intro pins s σ H vs us Q I r h
  obtain ⟨a, ls, ps, rfl, hs, hd, hll, hne, q⟩ := h
  obtain ⟨its, rv, hl, _⟩ := I.list hs
  rw [Vals.ref1 r]
  have hl2 := hl.isList
  obtain ⟨as0, hr0⟩ : ∃ as, ReadsAll s.heap its (ps.map pD) as := by
    cases hd with
    | lst hs2 ha =>
      obtain ⟨its2, rv2, hl3, _⟩ := I.list hs2
      have e : its2 = its := by
        have h1 := hl.isList
        have h2 := hl3.isList
        obtain ⟨o1, g1, _, n1, d1⟩ := h1
        obtain ⟨o2, g2, _, n2, d2⟩ := h2
        rw [g1] at g2
        injection g2 with g2
        rw [← g2, d1] at d2
        injection d2 with d2 _
        have := congrArg Array.toList d2
        simpa using this.symm
      subst e
      exact Dp.readsAll I _ _ _ ha rv2
  have hr : ReadsAll s.heap its.toArray.toList (ps.map pD) as0 := by simpa using hr0
  have hn : its.length = ps.length := by
    have := rv.length
    rw [List.length_map] at this
    omega
  have hh : X.A.in1.handled = none := I.ok.hd hc
  refine call_min_walkH (iter_listW (A := X.A.in1) hh hl2 fun s₂ e W st hfp hw hk => ?_)
  refine ⟨_, _, _, _, _, _, _, s.heap, _, rfl, W, st, hfp, by simpa [hn] using hne, hw, hk, cmpIn_lt (A := X.A.in1) hr (alike_pD ps) (by
    have h1 := depth_pD ps
    show X.A.units + 1 + _ < _
    omega), fun v s' hP m => ?_⟩
  obtain ⟨h', tk, rfl, hk'⟩ := moved_old e rfl m
  have eb : (fun i j => dataLt ((ps.map pD).getD i .none) ((ps.map pD).getD j .none)) = fun i j => dataLt ((ps.map pD).getD i .none) ((ps.map pD).getD j .none) := rfl
  obtain ⟨g1, g2⟩ := best_least (fun i => ps.getD i (0, 0)) (its.toArray.size - 1)
  have hsz : its.toArray.size = ps.length := by simpa using hn
  have hcong : ∀ k, k < ps.length → argBest (fun i j => dataLt ((ps.map pD).getD i .none) ((ps.map pD).getD j .none)) k = argBest (fun i j => pl (ps.getD i (0, 0)) (ps.getD j (0, 0))) k := by
    intro k
    induction k with
    | zero => intro _; rfl
    | succ k ih =>
      intro hk1
      have ihk := ih (by omega)
      have hb := (best_least (fun i => ps.getD i (0, 0)) k).1
      have hg : ∀ j, j < ps.length → (ps.map pD).getD j .none = pD (ps.getD j (0, 0)) := fun j hj => by
        rw [List.getD_eq_getElem?_getD, List.getElem?_map, List.getElem?_eq_getElem hj, List.getD_eq_getElem?_getD, List.getElem?_eq_getElem hj]; rfl
      show (if dataLt ((ps.map pD).getD (k + 1) .none) ((ps.map pD).getD (argBest _ k) .none) then k + 1 else argBest _ k) = (if pl (ps.getD (k + 1) (0, 0)) (ps.getD (argBest _ k) (0, 0)) then k + 1 else argBest _ k)
      rw [ihk, hg _ hk1, hg _ (by omega), lt_pair]
  rw [hcong _ (by omega)] at hP
  generalize argBest (fun i j => pl (ps.getD i (0, 0)) (ps.getD j (0, 0))) (its.toArray.size - 1) = i at *
  have hi : i < ls.length := by omega
  have e1 : (ls.map V.ref)[i]? = some (V.ref ls[i]) := by rw [List.getElem?_map, List.getElem?_eq_getElem hi]; rfl
  obtain ⟨u, hu2, ru⟩ := Vals.get rv e1
  have hv : v = u := by
    have h1 : its[i]? = some v := by simpa using hP
    rw [h1] at hu2
    injection hu2
  subst hv
  have hru : v = Value.ref ls[i] := ru
  subst hru
  refine ⟨.ref ls[i], H, I.kept hk', rfl, q i ls[i] (ps.getD i (0, 0)) (List.getElem?_eq_getElem hi) ?_ fun p hp => ?_⟩
  · rw [List.getD_eq_getElem?_getD, List.getElem?_eq_getElem (by omega)]; rfl
  · obtain ⟨j, hj⟩ := List.getElem?_of_mem hp
    have hjl := (List.getElem?_eq_some_iff.mp hj).1
    have := g2 j (by omega)
    have ej : ps.getD j (0, 0) = p := by rw [List.getD_eq_getElem?_getD, hj]; rfl
    rw [ej] at this
    exact this
end UrM

namespace Ur
open PySem L2
/-! ### windows that hold needs -/
structure NeedsOk (ps : List (Int × Int)) : Prop where
  nd : (ps.map Prod.fst).Nodup
  pos : ∀ q ∈ ps, 1 ≤ q.2
/-- each number so often at least -/
def hold (ps : List (Int × Int)) (W : List Int) : Bool := ps.all fun q => decide (q.2 ≤ (W.count q.1 : Int))
/-- how many are lacking -/
def lackN (ps : List (Int × Int)) (W : List Int) : Int := (ps.map fun q => if q.2 - (W.count q.1 : Int) > 0 then q.2 - (W.count q.1 : Int) else 0).sum
/-- the dict of what is lacking -/
def lackK (ps : List (Int × Int)) (W : List Int) : List (Key × V) := ps.map fun q => (Sum.inl q.1, V.int (q.2 - (W.count q.1 : Int)))
theorem hold_iff {ps : List (Int × Int)} {W : List Int} : hold ps W = true ↔ ∀ q ∈ ps, q.2 ≤ (W.count q.1 : Int) := by
  unfold hold
  rw [List.all_eq_true]
  exact ⟨fun h q hq => of_decide_eq_true (h q hq), fun h q hq => decide_eq_true (h q hq)⟩
theorem lackN_cons (q : Int × Int) (ps : List (Int × Int)) (W : List Int) : lackN (q :: ps) W = (if q.2 - (W.count q.1 : Int) > 0 then q.2 - (W.count q.1 : Int) else 0) + lackN ps W := by
  unfold lackN
  rw [List.map_cons, List.sum_cons]
theorem lackN_nn : ∀ (ps : List (Int × Int)) (W : List Int), 0 ≤ lackN ps W
  | [], W => Int.le_refl 0
  | q :: ps, W => by
    have := lackN_nn ps W
    rw [lackN_cons]
    split <;> omega
theorem lackN_hold : ∀ (ps : List (Int × Int)) (W : List Int), lackN ps W = 0 ↔ hold ps W = true
  | [], W => ⟨fun _ => rfl, fun _ => rfl⟩
  | q :: ps, W => by
    have ih := lackN_hold ps W
    have nn := lackN_nn ps W
    have e : hold (q :: ps) W = (decide (q.2 ≤ (W.count q.1 : Int)) && hold ps W) := rfl
    rw [lackN_cons, e, Bool.and_eq_true, decide_eq_true_iff, ← ih]
    split <;> constructor <;> intro h <;> (try constructor) <;> omega
/-- counts alone -/
theorem lackN_congr {ps : List (Int × Int)} {W W' : List Int} (h : ∀ z, W.count z = W'.count z) : lackN ps W = lackN ps W' := by
  unfold lackN
  congr 1
  exact List.map_congr_left fun q _ => by rw [h]
theorem hold_congr {ps : List (Int × Int)} {W W' : List Int} (h : ∀ z, W.count z = W'.count z) : hold ps W = hold ps W' := by
  unfold hold
  congr 1
  funext q
  rw [h]
theorem lackK_congr {ps : List (Int × Int)} {W W' : List Int} (h : ∀ z, W.count z = W'.count z) : lackK ps W = lackK ps W' := by
  unfold lackK
  exact List.map_congr_left fun q _ => by rw [h]
theorem count_snoc (W : List Int) (x z : Int) : (W ++ [x]).count z = W.count z + if x = z then 1 else 0 := by
  rw [List.count_append, List.count_cons, List.count_nil]
  simp
theorem count_swap (W : List Int) (x z : Int) : (x :: W).count z = (W ++ [x]).count z := by
  rw [count_snoc, List.count_cons]
  simp
/-- what a number needs -/
def needOf : List (Int × Int) → Int → Option Int
  | [], _ => none
  | q :: ps, z => if q.1 = z then some q.2 else needOf ps z
theorem needOf_cons (q : Int × Int) (ps : List (Int × Int)) (z : Int) : needOf (q :: ps) z = if q.1 = z then some q.2 else needOf ps z := rfl
theorem needOf_mem : ∀ {ps : List (Int × Int)} {z t : Int}, needOf ps z = some t → (z, t) ∈ ps
  | [], z, t, h => nomatch h
  | q :: ps, z, t, h => by
    rw [needOf_cons] at h
    by_cases e : q.1 = z
    · rw [if_pos e] at h
      injection h with h
      rw [← e, ← h]
      exact List.mem_cons_self
    · rw [if_neg e] at h
      exact List.mem_cons_of_mem _ (needOf_mem h)
theorem needOf_none : ∀ {ps : List (Int × Int)} {z : Int}, needOf ps z = none ↔ z ∉ ps.map Prod.fst
  | [], z => ⟨fun _ h => (nomatch h), fun _ => rfl⟩
  | q :: ps, z => by
    rw [needOf_cons]
    by_cases e : q.1 = z
    · rw [if_pos e]
      exact ⟨fun h => (by cases h), fun h => (h (by rw [List.map_cons, e]; exact List.mem_cons_self)).elim⟩
    · rw [if_neg e, needOf_none, List.map_cons, List.mem_cons]
      exact ⟨fun h k => k.elim (fun k => e k.symm) h, fun h k => h (.inr k)⟩
theorem needOf_of {ps : List (Int × Int)} (nd : (ps.map Prod.fst).Nodup) {q : Int × Int} (h : q ∈ ps) : needOf ps q.1 = some q.2 := by
  induction ps with
  | nil => cases h
  | cons p ps ih =>
    rw [List.map_cons, List.nodup_cons] at nd
    rw [needOf_cons]
    rcases List.mem_cons.mp h with e | h
    · rw [e, if_pos rfl]
    · rw [if_neg (fun e => nd.1 (by rw [e]; exact List.mem_map_of_mem h))]
      exact ih nd.2 h
theorem valV_lack : ∀ (ps : List (Int × Int)) (W : List Int) (z : Int), valV (lackK ps W) (Sum.inl z) = (needOf ps z).map fun t => V.int (t - (W.count z : Int))
  | [], W, z => rfl
  | q :: ps, W, z => by
    have ih := valV_lack ps W z
    have e1 : lackK (q :: ps) W = (Sum.inl q.1, V.int (q.2 - (W.count q.1 : Int))) :: lackK ps W := rfl
    rw [e1, needOf_cons]
    by_cases e : q.1 = z
    · rw [if_pos e]
      unfold valV
      rw [List.find?_cons_of_pos (by rw [e]; exact decide_eq_true rfl), e]
      rfl
    · rw [if_neg e, ← ih]
      unfold valV
      rw [List.find?_cons_of_neg (by
        intro h
        have := of_decide_eq_true h
        injection this with this
        exact e this)]
theorem lackK_any (ps : List (Int × Int)) (W : List Int) (z : Int) : ((lackK ps W).any fun kv => decide (kv.1 = Sum.inl z)) = (needOf ps z).isSome := by
  induction ps with
  | nil => rfl
  | cons q ps ih =>
    have e1 : lackK (q :: ps) W = (Sum.inl q.1, V.int (q.2 - (W.count q.1 : Int))) :: lackK ps W := rfl
    rw [e1, List.any_cons, ih, needOf_cons]
    by_cases e : q.1 = z
    · rw [if_pos e, e, decide_eq_true rfl]; rfl
    · rw [if_neg e]
      have : decide ((Sum.inl q.1 : Key) = Sum.inl z) = false := decide_eq_false fun h => e (by injection h)
      rw [this]; rfl
/-- one more in the window -/
theorem put_lack {ps : List (Int × Int)} {W : List Int} {x t : Int} (nd : (ps.map Prod.fst).Nodup) (h : needOf ps x = some t) : putK (lackK ps W) (Sum.inl x) (V.int (t - (W.count x : Int) - 1)) = lackK ps (W ++ [x]) := by
  unfold putK
  rw [lackK_any, h]
  show List.map _ _ = _
  unfold lackK
  rw [List.map_map]
  refine List.map_congr_left fun q hq => ?_
  show (if (Sum.inl q.1 : Key) = Sum.inl x then (Sum.inl q.1, V.int (t - (W.count x : Int) - 1)) else (Sum.inl q.1, V.int (q.2 - (W.count q.1 : Int)))) = _
  rw [count_snoc]
  by_cases e : q.1 = x
  · have h2 := needOf_of nd hq
    rw [e, h] at h2
    injection h2 with h2
    rw [if_pos (by rw [e]), e, if_pos rfl, ← h2]
    congr 2
    omega
  · rw [if_neg (fun k => e (by injection k)), if_neg (fun k => e k.symm)]
    rfl
theorem lack_none {ps : List (Int × Int)} {W : List Int} {x : Int} (h : needOf ps x = none) : lackK ps (W ++ [x]) = lackK ps W ∧ lackN ps (W ++ [x]) = lackN ps W := by
  have k : ∀ q ∈ ps, (W ++ [x]).count q.1 = W.count q.1 := fun q hq => by
    rw [count_snoc, if_neg]
    · rfl
    · intro e
      exact needOf_none.mp h (by rw [e]; exact List.mem_map_of_mem hq)
  constructor
  · unfold lackK
    exact List.map_congr_left fun q hq => by rw [k q hq]
  · unfold lackN
    congr 1
    exact List.map_congr_left fun q hq => by rw [k q hq]
theorem lackN_snoc : ∀ {ps : List (Int × Int)} {W : List Int} {x t : Int}, (ps.map Prod.fst).Nodup → needOf ps x = some t → lackN ps (W ++ [x]) = lackN ps W - if t - (W.count x : Int) > 0 then 1 else 0
  | [], W, x, t, nd, h => nomatch h
  | q :: ps, W, x, t, nd, h => by
    rw [List.map_cons, List.nodup_cons] at nd
    rw [lackN_cons, lackN_cons, count_snoc]
    rw [needOf_cons] at h
    by_cases e : q.1 = x
    · rw [if_pos e] at h
      injection h with h
      have hn : needOf ps x = none := needOf_none.mpr (by rw [← e]; exact nd.1)
      rw [(lack_none hn).2, e, if_pos rfl, h]
      split <;> split <;> omega
    · rw [if_neg e] at h
      have hc : W.count q.1 + (if x = q.1 then 1 else 0) = W.count q.1 := by rw [if_neg (fun k => e k.symm)]; rfl
      rw [lackN_snoc nd.2 h, hc]
      omega
/-- the dict at the begin, and its sum -/
theorem lackN_0 {ps : List (Int × Int)} (ok : ∀ q ∈ ps, 1 ≤ q.2) : lackN ps [] = (ps.map Prod.snd).sum := by
  unfold lackN
  congr 1
  refine List.map_congr_left fun q hq => ?_
  have := ok q hq
  rw [List.count_nil, if_pos (by show q.2 - 0 > 0; omega)]
  show q.2 - 0 = q.2
  omega
theorem lackK_snd (ps : List (Int × Int)) : (lackK ps []).map Prod.snd = (ps.map Prod.snd).map V.int := by
  unfold lackK
  rw [List.map_map, List.map_map]
  refine List.map_congr_left fun q _ => ?_
  show V.int (q.2 - (([] : List Int).count q.1 : Int)) = V.int q.2
  rw [List.count_nil]
  congr 1
  show q.2 - 0 = q.2
  omega
/-! the least behind with a property -/
def firstB (p : Nat → Bool) (n : Nat) : Nat → Option Nat
  | 0 => if p n then some n else none
  | k + 1 => if p (n - (k + 1)) then some (n - (k + 1)) else firstB p n k
theorem firstB_spec (p : Nat → Bool) (n : Nat) : ∀ k, k ≤ n → (firstB p n k = none ∧ ∀ b, n - k ≤ b → b ≤ n → p b = false) ∨ ∃ e, firstB p n k = some e ∧ n - k ≤ e ∧ e ≤ n ∧ p e = true ∧ ∀ b, n - k ≤ b → b < e → p b = false
  | 0, _ => by
    unfold firstB
    by_cases h : p n = true
    · rw [if_pos h]
      exact .inr ⟨n, rfl, by omega, by omega, h, fun b h1 h2 => by omega⟩
    · rw [if_neg h]
      exact .inl ⟨rfl, fun b h1 h2 => by rw [show b = n from by omega]; exact Bool.eq_false_iff.mpr h⟩
  | k + 1, hk => by
    unfold firstB
    by_cases h : p (n - (k + 1)) = true
    · rw [if_pos h]
      exact .inr ⟨_, rfl, by omega, by omega, h, fun b h1 h2 => by omega⟩
    · rw [if_neg h]
      have hf := Bool.eq_false_iff.mpr h
      rcases firstB_spec p n k (by omega) with ⟨e1, e2⟩ | ⟨e, e1, e2, e3, e4, e5⟩
      · refine .inl ⟨e1, fun b h1 h2 => ?_⟩
        by_cases q : b = n - (k + 1)
        · rw [q]; exact hf
        · exact e2 b (by omega) h2
      · refine .inr ⟨e, e1, by omega, e3, e4, fun b h1 h2 => ?_⟩
        by_cases q : b = n - (k + 1)
        · rw [q]; exact hf
        · exact e5 b (by omega) h2
/-- the least behind of a window from f on that holds the needs -/
def hWin (ns : List Int) (f b : Nat) : List Int := (ns.drop f).take (b - f)
def hEnd (ns : List Int) (ps : List (Int × Int)) (f : Nat) : Option Nat := firstB (fun b => hold ps (hWin ns f b)) ns.length (ns.length - f)
theorem hEnd_spec {ns : List Int} {ps : List (Int × Int)} {f : Nat} (hf : f ≤ ns.length) :
    (hEnd ns ps f = none ∧ ∀ b, f ≤ b → b ≤ ns.length → hold ps (hWin ns f b) = false) ∨ ∃ e, hEnd ns ps f = some e ∧ f ≤ e ∧ e ≤ ns.length ∧ hold ps (hWin ns f e) = true ∧ ∀ b, f ≤ b → b < e → hold ps (hWin ns f b) = false := by
  have h := firstB_spec (fun b => hold ps (hWin ns f b)) ns.length (ns.length - f) (by omega)
  rw [show ns.length - (ns.length - f) = f from by omega] at h
  exact h
theorem hEnd_is {ns : List Int} {ps : List (Int × Int)} {f e : Nat} (h1 : f ≤ e) (h2 : e ≤ ns.length) (h3 : hold ps (hWin ns f e) = true) (h4 : ∀ b, f ≤ b → b < e → hold ps (hWin ns f b) = false) : hEnd ns ps f = some e := by
  rcases hEnd_spec (ns := ns) (ps := ps) (f := f) (by omega) with ⟨_, k⟩ | ⟨e', k1, k2, k3, k4, k5⟩
  · rw [k e h1 h2] at h3; cases h3
  · rcases Nat.lt_trichotomy e e' with q | q | q
    · rw [k5 e h1 q] at h3; cases h3
    · rw [k1, q]
    · rw [h4 e' k2 q] at k4; cases k4
theorem hEnd_no {ns : List Int} {ps : List (Int × Int)} {f : Nat} (hf : f ≤ ns.length) (h : ∀ b, f ≤ b → b ≤ ns.length → hold ps (hWin ns f b) = false) : hEnd ns ps f = none := by
  rcases hEnd_spec (ns := ns) (ps := ps) (f := f) hf with ⟨k, _⟩ | ⟨e', k1, k2, k3, k4, k5⟩
  · exact k
  · rw [h e' k2 k3] at k4; cases k4
theorem hold_mono {ps : List (Int × Int)} {W W' : List Int} (h : ∀ z, W.count z ≤ W'.count z) (k : hold ps W = true) : hold ps W' = true := by
  rw [hold_iff] at k ⊢
  intro q hq
  have := k q hq
  have := h q.1
  omega
theorem hWin_up {ns : List Int} {f b : Nat} (h : f ≤ b) (hb : b < ns.length) : hWin ns f (b + 1) = hWin ns f b ++ [ns.getD b 0] := by
  unfold hWin
  rw [show b + 1 - f = (b - f) + 1 from by omega, List.take_add_one, List.getElem?_drop, show f + (b - f) = b from by omega, get_of hb]
  rfl
theorem hWin_down {ns : List Int} {f b : Nat} (h : f < b) (hf : f < ns.length) : hWin ns f b = ns.getD f 0 :: hWin ns (f + 1) b := by
  unfold hWin
  rw [List.drop_eq_getElem_cons hf, show b - f = (b - (f + 1)) + 1 from by omega, List.take_succ_cons]
  rw [List.getD_eq_getElem?_getD, List.getElem?_eq_getElem hf]
  rfl
theorem hWin_nil (ns : List Int) {f b : Nat} (h : b ≤ f) : hWin ns f b = [] := by
  unfold hWin
  rw [show b - f = 0 from by omega, List.take_zero]
theorem hold_down {ns : List Int} {ps : List (Int × Int)} {f b : Nat} (h : hold ps (hWin ns (f + 1) b) = true) : hold ps (hWin ns f b) = true := by
  by_cases hf : f < ns.length
  · by_cases hb : f < b
    · rw [hWin_down hb hf]
      exact hold_mono (fun z => by rw [List.count_cons]; omega) h
    · rw [hWin_nil ns (by omega)] at h ⊢
      exact h
  · have e : ∀ g, f ≤ g → hWin ns g b = [] := fun g hg => by
      unfold hWin
      rw [List.drop_eq_nil_of_le (by omega), List.take_nil]
    rw [e (f + 1) (by omega)] at h
    rw [e f (Nat.le_refl f)]
    exact h
theorem hold_up {ns : List Int} {ps : List (Int × Int)} {f b : Nat} (h : hold ps (hWin ns f b) = true) : hold ps (hWin ns f (b + 1)) = true := by
  refine hold_mono (fun z => ?_) h
  unfold hWin
  by_cases hb : f ≤ b
  · rw [show b + 1 - f = (b - f) + 1 from by omega, List.take_add_one, List.count_append]
    omega
  · rw [show b - f = 0 from by omega, List.take_zero, List.count_nil]
    omega
theorem hold_upTo {ns : List Int} {ps : List (Int × Int)} {f b : Nat} (h : hold ps (hWin ns f b) = true) : ∀ k, hold ps (hWin ns f (b + k)) = true
  | 0 => h
  | k + 1 => hold_up (hold_upTo h k)
/-- none with a need -/
theorem hold_none {ps : List (Int × Int)} (ok : ∀ q ∈ ps, 1 ≤ q.2) (h : ps ≠ []) : hold ps [] = false := by
  rw [Bool.eq_false_iff]
  intro k
  rw [hold_iff] at k
  cases ps with
  | nil => exact h rfl
  | cons q ps =>
    have h1 := k q List.mem_cons_self
    have h2 := ok q List.mem_cons_self
    rw [List.count_nil] at h1
    omega
/-! ### the two places go on -/
structure HInv (ns : List Int) (ps : List (Int × Int)) (f b : Nat) : Prop where
  le : b ≤ ns.length
  ne : ps ≠ [] → f ≤ b
  no : ps = [] → b = 0
  min : ∀ c, f ≤ c → c < b → hold ps (hWin ns f c) = false
theorem HInv.zero (ns : List Int) (ps : List (Int × Int)) : HInv ns ps 0 0 := ⟨Nat.zero_le _, fun _ => Nat.le_refl 0, fun _ => rfl, fun c _ h => absurd h (Nat.not_lt_zero c)⟩
theorem HInv.step {ns : List Int} {ps : List (Int × Int)} {f b : Nat} (v : HInv ns ps f b) (hb : b < ns.length) (h : 0 < lackN ps (hWin ns f b)) : HInv ns ps f (b + 1) := by
  have hh : hold ps (hWin ns f b) = false := by
    rw [Bool.eq_false_iff]
    intro k
    rw [← lackN_hold] at k
    omega
  have hp : ps ≠ [] := fun e => by subst e; cases hh
  refine ⟨hb, fun _ => Nat.le_succ_of_le (v.ne hp), fun e => absurd e hp, fun c h1 h2 => ?_⟩
  by_cases e : c = b
  · rw [e]; exact hh
  · exact v.min c h1 (by omega)
/-- what is told at the end of the while -/
theorem HInv.told {ns : List Int} {ps : List (Int × Int)} {f b : Nat} (ok : NeedsOk ps) (v : HInv ns ps f b) (hf : f ≤ ns.length) (h : ¬ (0 < lackN ps (hWin ns f b) ∧ b < ns.length)) :
    (lackN ps (hWin ns f b) = 0 ∧ hEnd ns ps f = some (if b > f then b else f)) ∨ (0 < lackN ps (hWin ns f b) ∧ hEnd ns ps f = none) := by
  have nn := lackN_nn ps (hWin ns f b)
  by_cases h0 : lackN ps (hWin ns f b) = 0
  · refine .inl ⟨h0, ?_⟩
    have hh := (lackN_hold _ _).mp h0
    by_cases hp : ps = []
    · subst hp
      rw [v.no rfl, if_neg (by omega)]
      exact hEnd_is (Nat.le_refl f) hf rfl fun c h1 h2 => by omega
    · have := v.ne hp
      have e : (if b > f then b else f) = b := by split <;> omega
      rw [e]
      exact hEnd_is this v.le hh v.min
  · refine .inr ⟨by omega, hEnd_no hf fun c h1 h2 => ?_⟩
    have hb : b = ns.length := by
      have := v.le
      omega
    by_cases e : c = b
    · rw [e, Bool.eq_false_iff]
      intro k
      exact h0 ((lackN_hold _ _).mpr k)
    · exact v.min c h1 (by omega)
/-- the first place goes on -/
theorem HInv.next {ns : List Int} {ps : List (Int × Int)} {f b : Nat} (ok : NeedsOk ps) (v : HInv ns ps f b) (hf : f < ns.length) (h : ¬ (0 < lackN ps (hWin ns f b) ∧ b < ns.length)) :
    HInv ns ps (f + 1) b ∧ (ps ≠ [] → f < b) := by
  have hlt : ps ≠ [] → f < b := fun hp => by
    have h1 := v.ne hp
    by_cases e : f = b
    · subst e
      have h2 := hold_none ok.pos hp
      rw [← hWin_nil ns (Nat.le_refl f)] at h2
      have h3 := lackN_nn ps (hWin ns f f)
      by_cases h4 : lackN ps (hWin ns f f) = 0
      · rw [(lackN_hold _ _).mp h4] at h2; cases h2
      · exact absurd ⟨by omega, hf⟩ h
    · omega
  refine ⟨⟨v.le, fun hp => hlt hp, v.no, fun c h1 h2 => ?_⟩, hlt⟩
  rw [Bool.eq_false_iff]
  intro k
  have := v.min c (by omega) h2
  rw [hold_down k] at this
  cases this
/-- the ends as told -/
def endsH (ns : List Int) (ps : List (Int × Int)) : List V := (List.range (ns.length + 1)).map fun f => optV (hEnd ns ps f)
theorem endsH_len (ns : List Int) (ps : List (Int × Int)) : (endsH ns ps).length = ns.length + 1 := by simp [endsH]
theorem endsH_get {ns : List Int} {ps : List (Int × Int)} {f : Nat} (h : f ≤ ns.length) : (endsH ns ps)[f]? = some (optV (hEnd ns ps f)) := by
  unfold endsH
  rw [List.getElem?_map, List.getElem?_range (by omega)]
  rfl
def endsTo (ns : List Int) (ps : List (Int × Int)) (k : Nat) : List V := (List.range k).map fun f => optV (hEnd ns ps f)
theorem endsTo_s (ns : List Int) (ps : List (Int × Int)) (k : Nat) : endsTo ns ps (k + 1) = endsTo ns ps k ++ [optV (hEnd ns ps k)] := by
  unfold endsTo
  rw [List.range_succ, List.map_append]
  rfl
/-- the windows with no other one within them that holds -/
def nxtH (ns : List Int) (ps : List (Int × Int)) (f : Nat) : Option Nat := if f < ns.length then hEnd ns ps (f + 1) else none
def tightAt (ns : List Int) (ps : List (Int × Int)) (f : Nat) : Option (Int × Int) := match hEnd ns ps f with
  | none => none
  | some e => if nxtH ns ps f = some e then none else some ((f : Int), (e : Int))
def tightK (ns : List Int) (ps : List (Int × Int)) (k : Nat) : List (Int × Int) := (List.range k).filterMap (tightAt ns ps)
def tightL (ns : List Int) (ps : List (Int × Int)) : List (Int × Int) := tightK ns ps (ns.length + 1)
theorem tightK_s (ns : List Int) (ps : List (Int × Int)) (k : Nat) : tightK ns ps (k + 1) = tightK ns ps k ++ (tightAt ns ps k).toList := by
  unfold tightK
  have e : [k].filterMap (tightAt ns ps) = (tightAt ns ps k).toList := by
    simp only [List.filterMap_cons, List.filterMap_nil]
    cases tightAt ns ps k <;> rfl
  rw [List.range_succ, List.filterMap_append, e]
theorem tightK_len (ns : List Int) (ps : List (Int × Int)) (k : Nat) : (tightK ns ps k).length ≤ k := by
  unfold tightK
  exact Nat.le_trans (List.length_filterMap_le _ _) (by rw [List.length_range]; exact Nat.le_refl k)
/-- the shortest, the first of several -/
def shoP (qs : List (Int × Int)) : Option (Int × Int) := qs.foldl (fun o q => sbo o q.1 q.2) none
theorem shoP_snoc (qs : List (Int × Int)) (q : Int × Int) : shoP (qs ++ [q]) = sbo (shoP qs) q.1 q.2 := by unfold shoP; rw [List.foldl_append]; rfl
theorem put_new {ps : List (Int × Int)} {x y : Int} (h : needOf ps x = none) : putK (lackK ps []) (Sum.inl x) (V.int y) = lackK (ps ++ [(x, y)]) [] := by
  unfold putK
  rw [lackK_any, h]
  show _ ++ _ = _
  unfold lackK
  rw [List.map_append]
  congr 1
  show [(Sum.inl x, V.int y)] = [(Sum.inl x, V.int (y - (([] : List Int).count x : Int)))]
  rw [List.count_nil]
  congr 3
  show y = y - 0
  omega
theorem need_take {ps : List (Int × Int)} (nd : (ps.map Prod.fst).Nodup) {k : Nat} {q : Int × Int} (h : ps[k]? = some q) : needOf (ps.take k) q.1 = none := by
  refine needOf_none.mpr fun hm => ?_
  obtain ⟨j, hj⟩ := List.getElem?_of_mem hm
  rw [List.map_take, List.getElem?_take] at hj
  by_cases c : j < k
  · rw [if_pos c] at hj
    have h2 : (ps.map Prod.fst)[k]? = some q.1 := by rw [List.getElem?_map, h]; rfl
    have := nodup_idx nd hj h2
    omega
  · rw [if_neg c] at hj; cases hj
theorem lackK_len (ps : List (Int × Int)) (W : List Int) : (lackK ps W).length = ps.length := by simp [lackK]
theorem val_none {ps : List (Int × Int)} {W : List Int} {x : Int} (h : needOf ps x = none) : valV (lackK ps W) (Sum.inl x) = none := by rw [valV_lack, h]; rfl
theorem val_some {ps : List (Int × Int)} {W : List Int} {x t : Int} (h : needOf ps x = some t) : valV (lackK ps W) (Sum.inl x) = some (V.int (t - (W.count x : Int))) := by rw [valV_lack, h]; rfl
end Ur
namespace Ur
open PySem L2
theorem endsTo_len (ns : List Int) (ps : List (Int × Int)) (k : Nat) : (endsTo ns ps k).length = k := by simp [endsTo]
theorem endsTo_get {ns : List Int} {ps : List (Int × Int)} {k i : Nat} (h : i < k) : (endsTo ns ps k)[i]? = some (optV (hEnd ns ps i)) := by
  unfold endsTo
  rw [List.getElem?_map, List.getElem?_range h]
  rfl
/-- the next entry, None behind the last -/
theorem ends_next (ns : List Int) (ps : List (Int × Int)) {i : Nat} (h : i < ns.length + 1) : atI (endsTo ns ps (ns.length + 1) ++ [V.non]) ((i : Int) + 1) = some (optV (nxtH ns ps i)) := by
  have e : (endsTo ns ps (ns.length + 1) ++ [V.non])[i + 1]? = some (optV (nxtH ns ps i)) := by
    unfold nxtH
    by_cases hi : i < ns.length
    · rw [if_pos hi, List.getElem?_append_left (by rw [endsTo_len]; omega)]
      exact endsTo_get (by omega)
    · rw [if_neg hi, List.getElem?_append_right (by rw [endsTo_len]; omega), endsTo_len, show i + 1 - (ns.length + 1) = 0 from by omega]
      rfl
  exact atI_nat (j := i + 1) e
theorem put_gen {ps : List (Int × Int)} {W W' : List Int} {x t v : Int} (nd : (ps.map Prod.fst).Nodup) (h : needOf ps x = some t) (hv : v = t - (W'.count x : Int)) (ho : ∀ z, z ≠ x → W.count z = W'.count z) : putK (lackK ps W) (Sum.inl x) (V.int v) = lackK ps W' := by
  unfold putK
  rw [lackK_any, h]
  show List.map _ _ = _
  unfold lackK
  rw [List.map_map]
  refine List.map_congr_left fun q hq => ?_
  show (if (Sum.inl q.1 : Key) = Sum.inl x then (Sum.inl q.1, V.int v) else (Sum.inl q.1, V.int (q.2 - (W.count q.1 : Int)))) = _
  by_cases e : q.1 = x
  · have h2 := needOf_of nd hq
    rw [e, h] at h2
    injection h2 with h2
    rw [if_pos (by rw [e]), e, ← h2, hv]
  · rw [if_neg (fun k => e (by injection k)), ho _ e]
/-- the first place goes: a number that is not needed -/
theorem HInv.drop0 {ns : List Int} {ps : List (Int × Int)} {f b : Nat} (hlt : ps ≠ [] → f < b) (hf : f < ns.length) (h : needOf ps (ns.getD f 0) = none) :
    lackK ps (hWin ns (f + 1) b) = lackK ps (hWin ns f b) ∧ lackN ps (hWin ns (f + 1) b) = lackN ps (hWin ns f b) := by
  by_cases hp : ps = []
  · subst hp; exact ⟨rfl, rfl⟩
  · have e := hWin_down (hlt hp) hf
    obtain ⟨k1, k2⟩ := lack_none (W := hWin ns (f + 1) b) h
    rw [e, lackK_congr (count_swap _ _), lackN_congr (count_swap _ _), k1, k2]
    exact ⟨rfl, rfl⟩
/-- .. one that is -/
theorem HInv.drop1 {ns : List Int} {ps : List (Int × Int)} {f b : Nat} {t : Int} (nd : (ps.map Prod.fst).Nodup) (hlt : ps ≠ [] → f < b) (hf : f < ns.length) (h : needOf ps (ns.getD f 0) = some t) :
    putK (lackK ps (hWin ns f b)) (Sum.inl (ns.getD f 0)) (V.int (t - ((hWin ns f b).count (ns.getD f 0) : Int) + 1)) = lackK ps (hWin ns (f + 1) b) ∧
      lackN ps (hWin ns (f + 1) b) = lackN ps (hWin ns f b) + if decide (0 < t - ((hWin ns f b).count (ns.getD f 0) : Int) + 1) = true then 1 else 0 := by
  have hp : ps ≠ [] := fun e => by subst e; cases h
  have e := hWin_down (hlt hp) hf
  have hc : (hWin ns f b).count (ns.getD f 0) = (hWin ns (f + 1) b).count (ns.getD f 0) + 1 := by rw [e, List.count_cons_self]
  have hk := lackN_snoc (W := hWin ns (f + 1) b) nd h
  rw [← lackN_congr (count_swap (hWin ns (f + 1) b) (ns.getD f 0)), ← e] at hk
  constructor
  · refine put_gen nd h (by omega) fun z hz => ?_
    rw [e, List.count_cons_of_ne (fun k => hz k.symm)]
  · rw [hk]
    by_cases c : t - ((hWin ns (f + 1) b).count (ns.getD f 0) : Int) > 0
    · rw [if_pos c, if_pos (decide_eq_true (by omega))]; omega
    · rw [if_neg c, if_neg (by rw [decide_eq_false (by omega)]; exact Bool.false_ne_true)]; omega
theorem lackN_up {ps : List (Int × Int)} {W : List Int} {x t : Int} (nd : (ps.map Prod.fst).Nodup) (h : needOf ps x = some t) : lackN ps (W ++ [x]) = lackN ps W - if decide (0 < t - (W.count x : Int)) = true then 1 else 0 := by
  rw [lackN_snoc nd h]
  simp only [decide_eq_true_eq, gt_iff_lt]
end Ur
namespace Ur
open PySem L2
/-! ### how often each number stands in a list, as a dict -/
def cntK (W : List Int) : List (Key × V) := (uni W).map fun z => (Sum.inl z, V.int (W.count z : Nat))
theorem cntK_nil : cntK [] = [] := rfl
theorem valV_map (c : Int → Int) (z : Int) : ∀ us : List Int, valV (us.map fun z => ((Sum.inl z : Key), V.int (c z))) (Sum.inl z) = if z ∈ us then some (V.int (c z)) else none
  | [] => rfl
  | u :: us => by
    have ih := valV_map c z us
    rw [List.map_cons]
    unfold valV at ih ⊢
    by_cases e : u = z
    · rw [List.find?_cons_of_pos (by rw [e]; exact decide_eq_true rfl), if_pos (by rw [e]; exact List.mem_cons_self), e]
      rfl
    · rw [List.find?_cons_of_neg (by
        intro h
        have := of_decide_eq_true h
        injection this with this
        exact e this), ih]
      by_cases h : z ∈ us
      · rw [if_pos h, if_pos (List.mem_cons_of_mem _ h)]
      · rw [if_neg h, if_neg (fun k => (List.mem_cons.mp k).elim (fun k => e k.symm) h)]
theorem cntK_val (W : List Int) (z : Int) : valV (cntK W) (Sum.inl z) = if z ∈ W then some (.int (W.count z : Nat)) else none := by
  unfold cntK
  rw [valV_map (fun z => (W.count z : Nat)) z (uni W)]
  by_cases h : z ∈ W
  · rw [if_pos h, if_pos ((mem_uni W z).mpr h)]
  · rw [if_neg h, if_neg (fun k => h ((mem_uni W z).mp k))]
theorem cntK_get (W : List Int) (z : Int) : (valV (cntK W) (Sum.inl z)).getD (.int 0) = .int (W.count z : Nat) := by
  rw [cntK_val]
  by_cases h : z ∈ W
  · rw [if_pos h]; rfl
  · rw [if_neg h, List.count_eq_zero.mpr h]; rfl
theorem cntK_len (W : List Int) : (cntK W).length = ulen W := by
  unfold cntK ulen
  rw [List.length_map]
theorem any_map (c : Int → Int) (z : Int) (us : List Int) : ((us.map fun z => ((Sum.inl z : Key), V.int (c z))).any fun kv => decide (kv.1 = Sum.inl z)) = decide (z ∈ us) := by
  induction us with
  | nil => rfl
  | cons u us ih =>
    rw [List.map_cons, List.any_cons, ih]
    by_cases e : u = z
    · rw [e, decide_eq_true rfl, decide_eq_true (List.mem_cons_self)]; rfl
    · have h1 : decide ((Sum.inl u : Key) = Sum.inl z) = false := decide_eq_false fun h => e (by injection h)
      rw [h1, Bool.false_or]
      refine decide_eq_decide.mpr ⟨fun h => List.mem_cons_of_mem _ h, fun h => (List.mem_cons.mp h).elim (fun k => absurd k.symm e) id⟩
theorem cntK_put (W : List Int) (x : Int) : putK (cntK W) (Sum.inl x) (.int ((W.count x : Nat) + 1)) = cntK (W ++ [x]) := by
  unfold putK cntK
  rw [any_map (fun z => (W.count z : Nat)) x (uni W), uni_snoc]
  by_cases h : x ∈ W
  · rw [if_pos (decide_eq_true ((mem_uni W x).mpr h)), if_pos h, List.map_map]
    refine List.map_congr_left fun z _ => ?_
    show (if (Sum.inl z : Key) = Sum.inl x then (Sum.inl z, V.int ((W.count x : Nat) + 1)) else (Sum.inl z, V.int (W.count z : Nat))) = _
    rw [count_snoc]
    by_cases e : z = x
    · rw [if_pos (by rw [e]), e, if_pos rfl]; rfl
    · rw [if_neg (fun k => e (by injection k)), if_neg (fun k => e k.symm)]; rfl
  · rw [if_neg (by rw [decide_eq_false (fun k => h ((mem_uni W x).mp k))]; exact Bool.false_ne_true), if_neg h, List.map_append]
    congr 1
    · refine List.map_congr_left fun z hz => ?_
      have hz2 := (mem_uni W z).mp hz
      rw [count_snoc, if_neg (fun k : x = z => h (by rw [k]; exact hz2))]; rfl
    · show [(Sum.inl x, V.int ((W.count x : Nat) + 1))] = [(Sum.inl x, V.int ((W ++ [x]).count x : Nat))]
      rw [count_snoc, if_pos rfl]; rfl
/-- needs out of counts -/
def cntN (W : List Int) (o : Int) : List (Int × Int) := (uni W).map fun z => (z, [((W.count z : Nat) : Int), 1].getD o.toNat 0)
theorem cntN_len (W : List Int) (o : Int) : (cntN W o).length = ulen W := by
  unfold cntN ulen
  rw [List.length_map]
theorem cntN_ok (W : List Int) {o : Int} (h0 : 0 ≤ o) (h1 : o < 2) : NeedsOk (cntN W o) := by
  refine ⟨?_, fun q hq => ?_⟩
  · unfold cntN
    rw [List.map_map]
    have e : (uni W).map (Prod.fst ∘ fun z => (z, [((W.count z : Nat) : Int), 1].getD o.toNat 0)) = uni W := List.map_id (uni W)
    rw [e]
    exact uni_nodup W
  · obtain ⟨z, hz, rfl⟩ := List.mem_map.mp hq
    have := List.count_pos_iff.mpr ((mem_uni W z).mp hz)
    have ho : o = 0 ∨ o = 1 := by omega
    rcases ho with rfl | rfl
    · show 1 ≤ ((W.count z : Nat) : Int)
      omega
    · show (1 : Int) ≤ 1
      omega
theorem NeedsOk.nil : NeedsOk [] := ⟨List.nodup_nil, fun q h => nomatch h⟩
theorem NeedsOk.snoc {ps : List (Int × Int)} {x y : Int} (ok : NeedsOk ps) (h : x ∉ ps.map Prod.fst) (hy : 1 ≤ y) : NeedsOk (ps ++ [(x, y)]) := by
  refine ⟨?_, fun q hq => ?_⟩
  · rw [List.map_append, List.nodup_append]
    refine ⟨ok.nd, List.nodup_cons.mpr ⟨List.not_mem_nil, List.nodup_nil⟩, fun a ha b hb e => ?_⟩
    rw [List.mem_singleton.mp hb] at e
    have e2 : a = x := e
    exact h (e2 ▸ ha)
  · rcases List.mem_append.mp hq with k | k
    · exact ok.pos q k
    · rw [List.mem_singleton.mp k]; exact hy
/-- a locked dict laid back -/
theorem same_lock {H H' : Hp} {d : Addr} {u : HO} {o : Obj} (hd : H d = some u) (s : Same (upd H d (.frz o u)) H') : Same H (upd H' d u) := fun b v e => by
  by_cases h : b = d
  · rw [h] at e ⊢
    rw [hd] at e
    cases e
    exact upd_same
  · rw [upd_ne h]
    exact s b v (by rw [upd_ne h]; exact e)
theorem dget_frz {H : Hp} {a : Addr} {o : Obj} {kvs : List (Key × V)} {n : Int} {v : V} (h : H a = some (.frz o (.dK kvs))) (e : valV kvs (Sum.inl n) = some v) : DGet H a (.int n) (some v) := by
  rw [← e]
  exact .inl ⟨kvs, Sum.inl n, .inr ⟨o, h⟩, rfl, rfl⟩
section
variable {K : PySem.W.Frag} {a : Addr} {σ : L2.St} {H1 : Hp} {Dl : Addr} {te : TE} {vs : List Nat} {Qd : Hp → Prop}
/-- [e for x, y in a list of pairs], each e an int -/
theorem lc_pairsI {j l : Nat} {ls : List Addr} {ps : List (Int × Int)} (f : Int × Int → Int) (hn : ps.length ≤ 1000000) (ha : SqL K H1 a (ls.map V.ref)) (r : PairsF H1 ls ps) (hD : H1 Dl = none)
    (hw : ∀ x y, wipe (((wipe σ vs).set j (some x)).set l (some y)) vs = wipe σ vs)
    (he : ∀ (q : Int × Int) H', q ∈ ps → Same H1 H' → ∀ Q' : VK, (∀ H4, Same H' H4 → Q' (.int (f q)) H4) → te (((wipe σ vs).set j (some (.int q.1))).set l (some (.int q.2))) H' Q')
    (hd : ∀ H', Same H1 H' → H' Dl = some (.lst ((ps.map f).map V.int)) → Qd H') :
    ∃ W : Nat → Nat → Hp → Prop, (∃ m, W 0 m (upd H1 Dl (.lst []))) ∧ ∀ i m H, W i m H →
      ((Itl K a).stop i H ∧ Qd H) ∨ ((Itl K a).go i H ∧ ∃ Nx : Hp → Prop, (∀ H', Nx H' → ∃ m', m' < m ∧ W (i + 1) m' H') ∧ ∀ x H', (Itl K a).yld i H x H' → gTup K 2 (gCons (gName j) (gCons (gName l) gNil)) x (wipe σ vs) H' fun σ2 H2 => wipe σ2 vs = wipe σ vs ∧ tYes σ2 H2 fun b H3 =>
        if b = true then te σ2 H3 fun y H4 => ∃ acc, H4 Dl = some (.lst acc) ∧ acc.length < sizeLine ∧ Nx (upd H4 Dl (.lst (acc ++ [y]))) else Nx H3) := by
  refine lc_list (K := K) (a := a) (xs := ls.map V.ref) (fun i H' => Same H1 H' ∧ H' Dl = some (.lst (((ps.take i).map f).map V.int))) ⟨same_new hD, upd_same⟩ (fun i H' _ z => z.1.seq ha) (fun i x H' hx z => ?_) (fun H' z => ?_)
  · obtain ⟨s, eD⟩ := z
    rw [List.getElem?_map] at hx
    obtain ⟨p, hp, rfl⟩ := Option.map_eq_some_iff.mp hx
    obtain ⟨h2, h3⟩ := r.get hp
    have e4 := s _ _ h3
    have hq : ps[i]? = some (ps.getD i (0, 0)) := by rw [List.getD_eq_getElem?_getD, List.getElem?_eq_getElem h2]; rfl
    refine ⟨p, _, rfl, .of e4, rfl, _, _, rfl, _, _, rfl, rfl, hw _ _, tyes_ok ?_⟩
    refine he _ H' (List.mem_of_getElem? hq) s _ fun H4 s4 => ⟨_, s4 _ _ eD, szl (by rw [List.length_map, List.length_map, List.length_take]; omega), same_upd' hD (s.trans s4), ?_⟩
    exact lst_cast upd_same (by rw [List.take_add_one, hq, List.map_append, List.map_append]; rfl)
  · obtain ⟨s, eD⟩ := z
    have hl := r.len
    rw [List.length_map, hl, List.take_length] at eD
    exact hd H' s eD
/-- [e for x in a locked dict], each e a new pair -/
theorem lc_keysP {d : Addr} {o : Obj} {j : Nat} {kvs : List (Key × V)} {us : List Int} (g : Int → Int × Int) (hk : kvs.map Prod.fst = us.map Sum.inl) (hn : us.length ≤ 1000000) (hd0 : H1 d = some (.frz o (.dK kvs))) (hD : H1 Dl = none)
    (hw : ∀ x, wipe ((wipe σ vs).set j (some x)) vs = wipe σ vs)
    (he : ∀ (z : Int) H', z ∈ us → Same H1 H' → ∀ Q' : VK, (∀ q H4, Same H' H4 → H4 q = some (pr (g z)) → H' q = none → Q' (.ref q) H4) → te ((wipe σ vs).set j (some (.int z))) H' Q')
    (hd : ∀ H' qs, Same H1 H' → H' Dl = some (.lst (qs.map V.ref)) → PairsF H' qs (us.map g) → (∀ q ∈ qs, H1 q = none) → Qd H') :
    ∃ W : Nat → Nat → Hp → Prop, (∃ m, W 0 m (upd H1 Dl (.lst []))) ∧ ∀ i m H, W i m H →
      ((Itk d o kvs).stop i H ∧ Qd H) ∨ ((Itk d o kvs).go i H ∧ ∃ Nx : Hp → Prop, (∀ H', Nx H' → ∃ m', m' < m ∧ W (i + 1) m' H') ∧ ∀ x H', (Itk d o kvs).yld i H x H' → gName j x (wipe σ vs) H' fun σ2 H2 => wipe σ2 vs = wipe σ vs ∧ tYes σ2 H2 fun b H3 =>
        if b = true then te σ2 H3 fun y H4 => ∃ acc, H4 Dl = some (.lst acc) ∧ acc.length < sizeLine ∧ Nx (upd H4 Dl (.lst (acc ++ [y]))) else Nx H3) := by
  have hlk : kvs.length = us.length := by have := congrArg List.length hk; simpa using this
  refine lc_it walk_keys (fun i H' => ∃ qs : List Addr, Same H1 H' ∧ H' Dl = some (.lst (qs.map V.ref)) ∧ PairsF H' qs ((us.take i).map g) ∧ (∀ q ∈ qs, H1 q = none)) ⟨[], same_new hD, upd_same, PairsF.nil, fun q h => nomatch h⟩ (fun i H' _ z => ?_) (fun i x H2 H' hi z y => ?_) (fun H' z => ?_)
  · obtain ⟨qs, s, _⟩ := z
    exact s _ _ hd0
  · obtain ⟨qs, s, eD, r, f⟩ := z
    obtain ⟨rfl, k, v, hkv, rfl⟩ := y
    have hi2 : i < us.length := by omega
    have hki : (kvs.map Prod.fst)[i]? = some k := by rw [List.getElem?_map, hkv]; rfl
    rw [hk, List.getElem?_map, get_of hi2] at hki
    injection hki with hki
    subst hki
    have hrl := r.len
    rw [List.length_map, List.length_take] at hrl
    refine ⟨hw _, tyes_ok ?_⟩
    refine he _ H' (getD_mem hi2) s _ fun q H4 s4 e4 nq => ?_
    have hqD : q ≠ Dl := fun e => by rw [e, eD] at nq; cases nq
    refine ⟨_, s4 _ _ eD, szl (by rw [List.length_map]; omega), qs ++ [q], same_upd' hD (s.trans s4), by rw [upd_same, List.map_append]; rfl, ?_, fun p hp => ?_⟩
    · rw [take_snoc (get_of hi2), List.map_append]
      have e5 : H4 q = some (.tup [.int (g (us.getD i 0)).1, .int (g (us.getD i 0)).2]) := e4
      refine ObjsF.upd (PairsF.snoc (ObjsF.same r s4) e5) ⟨fun z hz => ?_⟩
      rcases List.mem_append.mp hz with h | h
      · exact (PairsF.offL r eD).out z h
      · rw [List.mem_singleton.mp h]; exact hqD
    · rcases List.mem_append.mp hp with h | h
      · exact f p h
      · rw [List.mem_singleton.mp h]; exact s.free nq
  · obtain ⟨qs, s, eD, r, f⟩ := z
    rw [hlk, List.take_length] at r
    exact hd H' qs s eD r f
end
end Ur
namespace Ur
open PySem L2
/-- while, the test's answer told; the test may lay new things -/
theorem while_ta {tb : TS} {D : Ends} {σ : L2.St} {H : Hp} {c : TT} (Pv : Nat → L2.St → Hp → Prop) (m0 : Nat) (h0 : Pv m0 σ H)
    (hs : ∀ m σ H, Pv m σ H → ∃ b, (∀ Q : Bool → Hp → Prop, (∀ H', Same H H' → Q b H') → c σ H Q) ∧
      (b = true → ∀ H', Same H H' → tb { D with nx := fun σ' H' => Iv (∃ m', m' < m ∧ Pv m' σ' H'), ct := fun σ' H' => Iv (∃ m', m' < m ∧ Pv m' σ' H'), bk := D.nx } σ H') ∧ (b = false → ∀ H', Same H H' → D.nx σ H')) : tWhile c tb D σ H := by
  refine ⟨Pv, ⟨m0, h0⟩, fun m σ H p => ?_⟩
  obtain ⟨b, hb, h1, h2⟩ := hs m σ H p
  refine hb _ fun H' s => ?_
  cases b with
  | true => exact (if_pos rfl).mpr ⟨_, fun _ _ n => n.out, h1 rfl H' s⟩
  | false => exact (if_neg Bool.false_ne_true).mpr (h2 rfl H' s)
/-! ### what is left, counted down -/
def remF (W : List Int) (q : Int × Int) : Option (Key × V) := if q.2 - (W.count q.1 : Int) > 0 then some (Sum.inl q.1, V.int (q.2 - (W.count q.1 : Int))) else none
def remK (ps : List (Int × Int)) (W : List Int) : List (Key × V) := ps.filterMap (remF W)
theorem remK_cons (q : Int × Int) (ps : List (Int × Int)) (W : List Int) : remK (q :: ps) W = if q.2 - (W.count q.1 : Int) > 0 then (Sum.inl q.1, V.int (q.2 - (W.count q.1 : Int))) :: remK ps W else remK ps W := by
  unfold remK
  rw [List.filterMap_cons]
  unfold remF
  split
  · rename_i h
    split at h
    · cases h
    · rename_i h2
      rw [if_neg h2]
  · rename_i b h
    split at h
    · rename_i h2
      injection h with h
      rw [if_pos h2, h]
    · cases h
theorem remK_hold : ∀ (ps : List (Int × Int)) (W : List Int), remK ps W = [] ↔ hold ps W = true
  | [], W => ⟨fun _ => rfl, fun _ => rfl⟩
  | q :: ps, W => by
    have ih := remK_hold ps W
    have e : hold (q :: ps) W = (decide (q.2 ≤ (W.count q.1 : Int)) && hold ps W) := rfl
    rw [remK_cons, e, Bool.and_eq_true, decide_eq_true_iff, ← ih]
    by_cases h : q.2 - (W.count q.1 : Int) > 0
    · rw [if_pos h]
      exact ⟨fun k => (nomatch k), fun k => by omega⟩
    · rw [if_neg h]
      exact ⟨fun k => ⟨by omega, k⟩, fun k => k.2⟩
theorem remK_all {ps : List (Int × Int)} (ok : ∀ q ∈ ps, 1 ≤ q.2) : remK ps [] = ps.map fun q => (Sum.inl q.1, V.int q.2) := by
  induction ps with
  | nil => rfl
  | cons q ps ih =>
    have h1 := ok q List.mem_cons_self
    have e : q.2 - (([] : List Int).count q.1 : Int) = q.2 := by
      rw [List.count_nil]
      show q.2 - 0 = q.2
      omega
    rw [remK_cons, e, if_pos (by omega), ih fun p hp => ok p (List.mem_cons_of_mem _ hp), List.map_cons]
theorem remK_len (ps : List (Int × Int)) (W : List Int) : (remK ps W).length ≤ ps.length := List.length_filterMap_le _ _
theorem remK_val : ∀ {ps : List (Int × Int)} (W : List Int) (x : Int), (ps.map Prod.fst).Nodup → valV (remK ps W) (Sum.inl x) = match needOf ps x with
    | none => none
    | some t => if t - (W.count x : Int) > 0 then some (V.int (t - (W.count x : Int))) else none
  | [], W, x, _ => rfl
  | q :: ps, W, x, nd => by
    rw [List.map_cons, List.nodup_cons] at nd
    have ih := remK_val (ps := ps) W x nd.2
    rw [remK_cons, needOf_cons]
    by_cases e : q.1 = x
    · have hn : needOf ps x = none := needOf_none.mpr (by rw [← e]; exact nd.1)
      rw [hn] at ih
      rw [if_pos e, e]
      show _ = if q.2 - (W.count x : Int) > 0 then _ else _
      by_cases h : q.2 - (W.count x : Int) > 0
      · rw [if_pos h, if_pos h]
        unfold valV
        rw [List.find?_cons_of_pos (by exact decide_eq_true rfl)]
        rfl
      · rw [if_neg h, if_neg h, ih]
    · rw [if_neg e, ← ih]
      by_cases h : q.2 - (W.count q.1 : Int) > 0
      · rw [if_pos h]
        unfold valV
        rw [List.find?_cons_of_neg (by
          intro h
          have := of_decide_eq_true h
          injection this with this
          exact e this)]
      · rw [if_neg h]
theorem remK_any {ps : List (Int × Int)} {W : List Int} {x : Int} {v : V} (h : valV (remK ps W) (Sum.inl x) = some v) : ((remK ps W).any fun kv => decide (kv.1 = Sum.inl x)) = true := by
  unfold valV at h
  obtain ⟨p, hp, _⟩ := Option.map_eq_some_iff.mp h
  have h2 := @List.find?_some _ (fun kv : Key × V => decide (kv.1 = Sum.inl x)) _ _ hp
  exact List.any_eq_true.mpr ⟨p, List.mem_of_find?_eq_some hp, h2⟩
theorem remF_put {W : List Int} {x t : Int} {q : Int × Int} (hq : q.1 = x → q.2 = t) (h : t - (W.count x : Int) > 0) :
    (remF W q).map (fun kv => if kv.1 = Sum.inl x then (kv.1, V.int (t - (W.count x : Int) - 1)) else kv) = if t - (W.count x : Int) - 1 > 0 then remF (W ++ [x]) q else (if q.1 = x then some (Sum.inl x, V.int (t - (W.count x : Int) - 1)) else remF (W ++ [x]) q) := by
  unfold remF
  rw [count_snoc]
  by_cases e : q.1 = x
  · have ht := hq e
    rw [e, ht, if_pos h, if_pos rfl]
    show some (if (Sum.inl x : Key) = Sum.inl x then (Sum.inl x, V.int (t - (W.count x : Int) - 1)) else _) = _
    rw [if_pos rfl]
    by_cases h1 : t - (W.count x : Int) - 1 > 0
    · rw [if_pos h1, if_pos (by omega)]
      congr 3
      omega
    · rw [if_neg h1, if_pos rfl]
  · have hc : W.count q.1 + (if x = q.1 then 1 else 0) = W.count q.1 := by rw [if_neg (fun k : x = q.1 => e k.symm)]; rfl
    rw [hc]
    have k : (if q.2 - (W.count q.1 : Int) > 0 then some ((Sum.inl q.1 : Key), V.int (q.2 - (W.count q.1 : Int))) else none).map (fun kv => if kv.1 = Sum.inl x then (kv.1, V.int (t - (W.count x : Int) - 1)) else kv) = if q.2 - (W.count q.1 : Int) > 0 then some ((Sum.inl q.1 : Key), V.int (q.2 - (W.count q.1 : Int))) else none := by
      by_cases h2 : q.2 - (W.count q.1 : Int) > 0
      · rw [if_pos h2]
        show some (if (Sum.inl q.1 : Key) = Sum.inl x then _ else _) = _
        rw [if_neg (fun k => e (by injection k))]
      · rw [if_neg h2]; rfl
    rw [k, if_neg e]
    exact (ite_self _).symm
theorem filterMap_eq {α β : Type} {f g : α → Option β} : ∀ {l : List α}, (∀ x ∈ l, f x = g x) → l.filterMap f = l.filterMap g
  | [], _ => rfl
  | x :: l, h => by
    rw [List.filterMap_cons, List.filterMap_cons, h x List.mem_cons_self, filterMap_eq fun y hy => h y (List.mem_cons_of_mem _ hy)]
/-- one more in the window: counted down .. -/
theorem remK_put {ps : List (Int × Int)} {W : List Int} {x t : Int} (nd : (ps.map Prod.fst).Nodup) (hn : needOf ps x = some t) (h : t - (W.count x : Int) > 0) (h1 : t - (W.count x : Int) - 1 > 0) :
    putK (remK ps W) (Sum.inl x) (V.int (t - (W.count x : Int) - 1)) = remK ps (W ++ [x]) := by
  have hv := remK_val W x nd
  rw [hn] at hv
  have hv2 : valV (remK ps W) (Sum.inl x) = some (V.int (t - (W.count x : Int))) := by
    rw [hv]
    exact if_pos h
  unfold putK
  rw [remK_any hv2, if_pos rfl]
  unfold remK
  rw [List.map_filterMap]
  refine filterMap_eq fun q hq => ?_
  have k := remF_put (W := W) (q := q) (fun e => by
    have h2 := needOf_of nd hq
    rw [e, hn] at h2
    injection h2 with h2
    exact h2.symm) h
  rw [if_pos h1] at k
  exact k
/-- .. and out -/
theorem remK_drop {ps : List (Int × Int)} {W : List Int} {x t : Int} (nd : (ps.map Prod.fst).Nodup) (hn : needOf ps x = some t) (h : t - (W.count x : Int) > 0) (h1 : t - (W.count x : Int) - 1 = 0) :
    dropK (putK (remK ps W) (Sum.inl x) (V.int (t - (W.count x : Int) - 1))) (Sum.inl x) = remK ps (W ++ [x]) := by
  have hv := remK_val W x nd
  rw [hn] at hv
  have hv2 : valV (remK ps W) (Sum.inl x) = some (V.int (t - (W.count x : Int))) := by
    rw [hv]
    exact if_pos h
  unfold putK
  rw [remK_any hv2, if_pos rfl]
  unfold dropK remK
  rw [List.map_filterMap, List.filter_filterMap]
  refine filterMap_eq fun q hq => ?_
  have hq2 : q.1 = x → q.2 = t := fun e => by
    have h2 := needOf_of nd hq
    rw [e, hn] at h2
    injection h2 with h2
    exact h2.symm
  have k := remF_put (W := W) (q := q) hq2 h
  rw [if_neg (by omega)] at k
  rw [k]
  by_cases e : q.1 = x
  · rw [if_pos e]
    have k2 : remF (W ++ [x]) q = none := by
      unfold remF
      rw [count_snoc, e, hq2 e, if_pos rfl, if_neg (by omega)]
    rw [k2]
    show Option.filter _ (some _) = none
    rw [Option.filter_some, if_neg (by simp)]
  · rw [if_neg e]
    cases k3 : remF (W ++ [x]) q with
    | none => rfl
    | some kv =>
      have k4 : kv.1 = Sum.inl q.1 := by
        unfold remF at k3
        split at k3
        · injection k3 with k3
          rw [← k3]
        · cases k3
      rw [Option.filter_some, if_pos]
      rw [k4]
      exact decide_eq_true fun h => e (by injection h)
/-- one that is not needed any more -/
theorem remK_no {ps : List (Int × Int)} {W : List Int} {x : Int} (nd : (ps.map Prod.fst).Nodup) (h : valV (remK ps W) (Sum.inl x) = none) : remK ps (W ++ [x]) = remK ps W := by
  have hv := remK_val W x nd
  rw [h] at hv
  unfold remK
  refine filterMap_eq fun q hq => ?_
  unfold remF
  rw [count_snoc]
  by_cases e : x = q.1
  · have h2 := needOf_of nd hq
    rw [← e] at h2
    rw [h2] at hv
    have h3 : ¬ q.2 - (W.count x : Int) > 0 := fun k => by
      have hv2 : none = if q.2 - (W.count x : Int) > 0 then some (V.int (q.2 - (W.count x : Int))) else none := hv
      rw [if_pos k] at hv2
      cases hv2
    rw [← e, if_pos rfl, if_neg (by omega), if_neg h3]
  · rw [if_neg e]; rfl
theorem mergeK_nd : ∀ {more acc : List (Key × V)}, ((acc ++ more).map Prod.fst).Nodup → mergeK acc more = acc ++ more
  | [], acc, _ => by
    unfold mergeK
    rw [List.append_nil]; rfl
  | kv :: more, acc, nd => by
    have hn : (acc.any fun p => decide (p.1 = kv.1)) = false := by
      rw [Bool.eq_false_iff]
      intro h
      obtain ⟨p, hp, e⟩ := List.any_eq_true.mp h
      have e2 := of_decide_eq_true e
      rw [List.map_append, List.nodup_append] at nd
      exact nd.2.2 p.1 (List.mem_map_of_mem hp) kv.1 (List.mem_map_of_mem List.mem_cons_self) e2
    have e1 : putK acc kv.1 kv.2 = acc ++ [kv] := by
      unfold putK
      rw [hn]
      rfl
    have e2 : mergeK acc (kv :: more) = mergeK (putK acc kv.1 kv.2) more := rfl
    rw [e2, e1, mergeK_nd (by rw [List.append_assoc]; exact nd), List.append_assoc]
    rfl
/-- dict(needs) -/
theorem merge_needs {ps : List (Int × Int)} (ok : NeedsOk ps) : mergeK [] (ps.map fun q => ((Sum.inl q.1 : Key), V.int q.2)) = remK ps [] := by
  rw [remK_all ok.pos, mergeK_nd]
  · rfl
  · show ((ps.map fun q => ((Sum.inl q.1 : Key), V.int q.2)).map Prod.fst).Nodup
    rw [List.map_map]
    have e : ps.map (Prod.fst ∘ fun q => ((Sum.inl q.1 : Key), V.int q.2)) = (ps.map Prod.fst).map Sum.inl := by rw [List.map_map]; rfl
    rw [e]
    exact List.Pairwise.map _ (fun a b h k => h (by injection k)) ok.nd
theorem paired_needs {K : PySem.W.Frag} {H : Hp} : ∀ {ls : List Addr} {ps : List (Int × Int)}, PairsF H ls ps → Paired (fun p (kv : Key × V) => SqT K H p [kV kv.1, kv.2]) ls (ps.map fun q => ((Sum.inl q.1 : Key), V.int q.2))
  | [], [], _ => .nil
  | [], q :: ps, r => by cases r.len
  | l :: ls, [], r => by cases r.len
  | l :: ls, q :: ps, r => by
    refine .cons (SqT.of (r.get (k := 0) rfl).2) (paired_needs ⟨Nat.succ.inj r.len, fun k p e => ?_⟩)
    exact r.row (k + 1) p e
end Ur
namespace Ur
open PySem L2
section
variable {K : PySem.W.Frag} {a : Addr} {σ : L2.St} {H1 : Hp} {Dl : Addr} {te : TE} {tt : TT} {vs : List Nat} {Qd : Hp → Prop}
/-- [e for x, y in a list of pairs if t], each e an int -/
theorem lc_pairsIfI {j l : Nat} {ls : List Addr} {ps : List (Int × Int)} (t : Int × Int → Bool) (f : Int × Int → Int) (hn : ps.length ≤ 1000000) (ha : SqL K H1 a (ls.map V.ref)) (r : PairsF H1 ls ps) (hD : H1 Dl = none)
    (hw : ∀ x y, wipe (((wipe σ vs).set j (some x)).set l (some y)) vs = wipe σ vs)
    (ht : ∀ (q : Int × Int) H', q ∈ ps → Same H1 H' → ∀ Q' : Bool → Hp → Prop, (∀ H4, Same H' H4 → Q' (t q) H4) → tt (((wipe σ vs).set j (some (.int q.1))).set l (some (.int q.2))) H' Q')
    (he : ∀ (q : Int × Int) H', q ∈ ps → Same H1 H' → ∀ Q' : VK, (∀ H4, Same H' H4 → Q' (.int (f q)) H4) → te (((wipe σ vs).set j (some (.int q.1))).set l (some (.int q.2))) H' Q')
    (hd : ∀ H', Same H1 H' → H' Dl = some (.lst (((ps.filter t).map f).map V.int)) → Qd H') :
    ∃ W : Nat → Nat → Hp → Prop, (∃ m, W 0 m (upd H1 Dl (.lst []))) ∧ ∀ i m H, W i m H →
      ((Itl K a).stop i H ∧ Qd H) ∨ ((Itl K a).go i H ∧ ∃ Nx : Hp → Prop, (∀ H', Nx H' → ∃ m', m' < m ∧ W (i + 1) m' H') ∧ ∀ x H', (Itl K a).yld i H x H' → gTup K 2 (gCons (gName j) (gCons (gName l) gNil)) x (wipe σ vs) H' fun σ2 H2 => wipe σ2 vs = wipe σ vs ∧ tt σ2 H2 fun b H3 =>
        if b = true then te σ2 H3 fun y H4 => ∃ acc, H4 Dl = some (.lst acc) ∧ acc.length < sizeLine ∧ Nx (upd H4 Dl (.lst (acc ++ [y]))) else Nx H3) := by
  refine lc_list (K := K) (a := a) (xs := ls.map V.ref) (fun i H' => Same H1 H' ∧ H' Dl = some (.lst ((((ps.take i).filter t).map f).map V.int))) ⟨same_new hD, upd_same⟩ (fun i H' _ z => z.1.seq ha) (fun i x H' hx z => ?_) (fun H' z => ?_)
  · obtain ⟨s, eD⟩ := z
    rw [List.getElem?_map] at hx
    obtain ⟨p, hp, rfl⟩ := Option.map_eq_some_iff.mp hx
    obtain ⟨h2, h3⟩ := r.get hp
    have e4 := s _ _ h3
    have hq : ps[i]? = some (ps.getD i (0, 0)) := by rw [List.getD_eq_getElem?_getD, List.getElem?_eq_getElem h2]; rfl
    have e1 : ps.take (i + 1) = ps.take i ++ [ps.getD i (0, 0)] := by rw [List.take_add_one, hq]; rfl
    refine ⟨p, _, rfl, .of e4, rfl, _, _, rfl, _, _, rfl, rfl, hw _ _, ?_⟩
    refine ht _ H' (List.mem_of_getElem? hq) s _ fun H3 s3 => ?_
    cases hb : t (ps.getD i (0, 0)) with
    | true =>
      refine (if_pos rfl).mpr ?_
      refine he _ H3 (List.mem_of_getElem? hq) (s.trans s3) _ fun H4 s4 => ⟨_, s4 _ _ (s3 _ _ eD), szl ?_, same_upd' hD ((s.trans s3).trans s4), ?_⟩
      · have := List.length_filter_le t (ps.take i)
        rw [List.length_take] at this
        rw [List.length_map, List.length_map]; omega
      exact lst_cast upd_same (by rw [e1, List.filter_append, List.map_append, List.map_append, List.filter_cons, if_pos hb]; rfl)
    | false =>
      refine (if_neg Bool.false_ne_true).mpr ⟨s.trans s3, ?_⟩
      rw [e1, List.filter_append, List.map_append, List.map_append, List.filter_cons, if_neg (by rw [hb]; exact Bool.false_ne_true)]
      simpa using s3 _ _ eD
  · obtain ⟨s, eD⟩ := z
    have hl := r.len
    rw [List.length_map, hl, List.take_length] at eD
    exact hd H' s eD
end
theorem hold_filter (ps : List (Int × Int)) (W : List Int) : decide (((ps.filter fun q => decide ((W.count q.1 : Int) < q.2)).map Prod.fst) = []) = hold ps W := by
  rw [Bool.eq_iff_iff, decide_eq_true_iff, List.map_eq_nil_iff, List.filter_eq_nil_iff, hold_iff]
  constructor
  · intro h q hq
    have := h q hq
    rw [decide_eq_true_iff] at this
    omega
  · intro h q hq
    have := h q hq
    rw [decide_eq_true_iff]
    omega
/-- tight: the next one has another end -/
theorem tight_iff {ns : List Int} {ps : List (Int × Int)} {f e : Nat} (hf : f ≤ ns.length) (he : hEnd ns ps f = some e) : (f = e ∨ hold ps (hWin ns (f + 1) e) = false) ↔ nxtH ns ps f ≠ some e := by
  rcases hEnd_spec (ns := ns) (ps := ps) hf with ⟨k, _⟩ | ⟨e', k, h1, h2, h3, h4⟩
  · rw [k] at he; cases he
  rw [k] at he
  injection he with he
  subst he
  unfold nxtH
  by_cases hn : f < ns.length
  · rw [if_pos hn]
    rcases hEnd_spec (ns := ns) (ps := ps) (f := f + 1) hn with ⟨q, q2⟩ | ⟨g, q, g1, g2, g3, g4⟩
    · rw [q]
      refine ⟨fun _ z => (by cases z), fun _ => ?_⟩
      by_cases hfe : f = e'
      · exact .inl hfe
      · exact .inr (q2 e' (by omega) h2)
    · rw [q]
      constructor
      · rintro (z | z) w
        · injection w with w
          omega
        · injection w with w
          rw [w, z] at g3
          cases g3
      · intro w
        by_cases hfe : f = e'
        · exact .inl hfe
        · refine .inr ?_
          rw [Bool.eq_false_iff]
          intro z
          refine w ?_
          congr 1
          rcases Nat.lt_trichotomy g e' with c | c | c
          · have := h4 g (by omega) c
            rw [hold_down g3] at this
            cases this
          · exact c
          · have := g4 e' (by omega) c
            rw [z] at this
            cases this
  · rw [if_neg hn]
    exact ⟨fun _ z => (by cases z), fun _ => .inl (by omega)⟩
theorem tightAt_some {ns : List Int} {ps : List (Int × Int)} {f e : Nat} (hf : f ≤ ns.length) (he : hEnd ns ps f = some e) : tightAt ns ps f = if f = e ∨ hold ps (hWin ns (f + 1) e) = false then some ((f : Int), (e : Int)) else none := by
  unfold tightAt
  rw [he]
  show (if nxtH ns ps f = some e then none else _) = _
  have h := tight_iff hf he
  by_cases c : nxtH ns ps f = some e
  · rw [if_pos c, if_neg (fun z => h.mp z c)]
  · rw [if_neg c, if_pos (h.mpr c)]
/-- a row and needs, in a list -/
structure RowNd (H : Hp) (p : Addr) (ns : List Int) (ps : List (Int × Int)) : Prop where
  all : ∃ (a c : Addr) (ls : List Addr), H p = some (.lst [.ref a, .ref c]) ∧ H a = some (.lst (ns.map V.int)) ∧ H c = some (.lst (ls.map V.ref)) ∧ PairsF H ls ps
theorem RowNd.same {H H' : Hp} {p : Addr} {ns : List Int} {ps : List (Int × Int)} (k : RowNd H p ns ps) (s : Same H H') : RowNd H' p ns ps := by
  obtain ⟨a, c, ls, h1, h2, h3, h4⟩ := k.all
  exact ⟨a, c, ls, s _ _ h1, s _ _ h2, s _ _ h3, ObjsF.same h4 s⟩
def rowNdD (ns : List Int) (ps : List (Int × Int)) : PyData := .list [.list (ns.map .int), .list (pairsD ps)]
theorem RowNd.dp {K : PySem.W.Frag} {H : Hp} {p : Addr} {ns : List Int} {ps : List (Int × Int)} (k : RowNd H p ns ps) : Dp K H (.ref p) (rowNdD ns ps) := by
  obtain ⟨a, c, ls, h1, h2, h3, h4⟩ := k.all
  exact .lst (.of h1) (.cons (dp_ints (.of h2)) (.cons (dp_pairs (.of h3) h4) .nil))
theorem depth_pairsD (ps : List (Int × Int)) : PyData.depth (.list (pairsD ps)) ≤ 3 := by
  have h := depthAll_of (m := 2) (pairsD ps) fun d h => by
    unfold pairsD at h
    obtain ⟨q, _, rfl⟩ := List.mem_map.mp h
    exact depth_tup [q.1, q.2]
  rw [PyData.depth]
  omega
theorem lay_pairsD (ps : List (Int × Int)) : PyData.canLay0 (.list (pairsD ps)) = true := by
  refine canLayAll_of _ fun d h => ?_
  unfold pairsD at h
  obtain ⟨q, _, rfl⟩ := List.mem_map.mp h
  exact canLayAll_ints [q.1, q.2]
theorem rowNdD_ok (ns : List Int) (ps : List (Int × Int)) : SeqAt.shaped (rowNdD ns ps) = true ∧ PyData.eqv (rowNdD ns ps) (rowNdD ns ps) = true := by
  have hc : ∀ d ∈ [PyData.list (ns.map .int), PyData.list (pairsD ps)], PyData.canLay0 d = true ∧ PyData.depth d ≤ 3 ∧ PyData.eqv d d = true := by
    intro d hd
    simp only [List.mem_cons, List.not_mem_nil, or_false] at hd
    rcases hd with rfl | rfl
    · exact ⟨canLayAll_ints _, Nat.le_trans (depth_ints _) (by decide), by rw [eqv_ints]; exact decide_eq_true rfl⟩
    · exact ⟨lay_pairsD ps, depth_pairsD ps, eqv_pairs ps⟩
  refine ⟨shaped_of (canLayAll_of _ fun d h => (hc d h).1) ?_, eqvAll_refl _ fun d h => (hc d h).2.2⟩
  have h := depthAll_of (m := 3) _ fun d h => (hc d h).2.1
  show PyData.depth (.list _) ≤ 64
  rw [PyData.depth]
  omega
theorem rNe_rowNd {K : PySem.W.Frag} {H : Hp} {p q : Addr} {ns : List Int} {ps : List (Int × Int)} {Q : VK} (h1 : RowNd H p ns ps) (h2 : RowNd H q ns ps) (k : Q (.bl false) H) : rNeD K (.ref p) (.ref q) H Q :=
  ⟨_, _, h1.dp, h2.dp, (rowNdD_ok ns ps).1, (rowNdD_ok ns ps).1, by rw [(rowNdD_ok ns ps).2]; exact k⟩
theorem rEq_rowNd {K : PySem.W.Frag} {H : Hp} {p q : Addr} {ns : List Int} {ps : List (Int × Int)} {Q : VK} (h1 : RowNd H p ns ps) (h2 : RowNd H q ns ps) (k : Q (.bl true) H) : rEqD K (.ref p) (.ref q) H Q :=
  ⟨_, _, h1.dp, h2.dp, (rowNdD_ok ns ps).1, (rowNdD_ok ns ps).1, by rw [(rowNdD_ok ns ps).2]; exact k⟩
end Ur

namespace Ur
open PySem L2
/-! ### the shortest of the tight ones is the least of all -/
/-- by width, then by the first place -/
def leW (p q : Int × Int) : Prop := p.2 - p.1 < q.2 - q.1 ∨ (p.2 - p.1 = q.2 - q.1 ∧ p.1 ≤ q.1)
theorem revP {P : List (Int × Int) → Prop} (h0 : P []) (hs : ∀ ns x, P ns → P (ns ++ [x])) (ns : List (Int × Int)) : P ns := by
  have k : ∀ l : List (Int × Int), P l.reverse := by
    intro l
    induction l with
    | nil => exact h0
    | cons x l ih => rw [List.reverse_cons]; exact hs _ _ ih
  have := k ns.reverse
  rwa [List.reverse_reverse] at this
theorem shoP_spec (qs : List (Int × Int)) : qs.Pairwise (fun p q => p.1 < q.1) → (shoP qs = none ∧ qs = []) ∨ ∃ b, shoP qs = some b ∧ b ∈ qs ∧ ∀ q ∈ qs, leW b q := by
  refine revP (P := fun qs => qs.Pairwise (fun p q => p.1 < q.1) → (shoP qs = none ∧ qs = []) ∨ ∃ b, shoP qs = some b ∧ b ∈ qs ∧ ∀ q ∈ qs, leW b q) (fun _ => .inl ⟨rfl, rfl⟩) (fun qs x ih pw => ?_) qs
  rw [List.pairwise_append] at pw
  obtain ⟨p1, _, p3⟩ := pw
  rw [shoP_snoc]
  rcases ih p1 with ⟨e, e2⟩ | ⟨b, e, hb, hle⟩
  · subst e2
    refine .inr ⟨x, ?_, List.mem_append.mpr (.inr List.mem_cons_self), fun q hq => ?_⟩
    · rw [e]; rfl
    · rw [List.nil_append, List.mem_singleton] at hq
      rw [hq]
      exact .inr ⟨rfl, Int.le_refl _⟩
  · rw [e]
    have hs : sbo (some b) x.1 x.2 = if x.2 - x.1 < b.2 - b.1 then some (x.1, x.2) else some b := rfl
    have hbx := p3 b hb x List.mem_cons_self
    rw [hs]
    by_cases h : x.2 - x.1 < b.2 - b.1
    · rw [if_pos h]
      refine .inr ⟨x, rfl, List.mem_append.mpr (.inr List.mem_cons_self), fun q hq => ?_⟩
      rcases List.mem_append.mp hq with k | k
      · have := hle q k
        unfold leW at this ⊢
        omega
      · rw [List.mem_singleton.mp k]
        exact .inr ⟨rfl, Int.le_refl _⟩
    · rw [if_neg h]
      refine .inr ⟨b, rfl, List.mem_append.mpr (.inl hb), fun q hq => ?_⟩
      rcases List.mem_append.mp hq with k | k
      · exact hle q k
      · rw [List.mem_singleton.mp k]
        unfold leW
        omega
theorem tight_mem {ns : List Int} {ps : List (Int × Int)} {x : Int × Int} : x ∈ tightL ns ps ↔ ∃ f e : Nat, f ≤ ns.length ∧ hEnd ns ps f = some e ∧ nxtH ns ps f ≠ some e ∧ x = ((f : Int), (e : Int)) := by
  unfold tightL tightK
  rw [List.mem_filterMap]
  constructor
  · rintro ⟨f, hf, h⟩
    have hf2 := List.mem_range.mp hf
    unfold tightAt at h
    cases he : hEnd ns ps f with
    | none => rw [he] at h; cases h
    | some e =>
      rw [he] at h
      have h2 : (if nxtH ns ps f = some e then none else some ((f : Int), (e : Int))) = some x := h
      by_cases c : nxtH ns ps f = some e
      · rw [if_pos c] at h2; cases h2
      · rw [if_neg c] at h2
        injection h2 with h2
        exact ⟨f, e, by omega, he, c, h2.symm⟩
  · rintro ⟨f, e, hf, he, hn, rfl⟩
    refine ⟨f, List.mem_range.mpr (by omega), ?_⟩
    unfold tightAt
    rw [he]
    show (if nxtH ns ps f = some e then none else some ((f : Int), (e : Int))) = _
    rw [if_neg hn]
theorem tight_pair (ns : List Int) (ps : List (Int × Int)) : (tightL ns ps).Pairwise fun p q => p.1 < q.1 := by
  unfold tightL tightK
  rw [List.pairwise_filterMap]
  refine List.pairwise_lt_range.imp fun {a b} hab p hp q hq => ?_
  have k : ∀ {f : Nat} {x : Int × Int}, tightAt ns ps f = some x → x.1 = f := fun {f x} h => by
    unfold tightAt at h
    cases he : hEnd ns ps f with
    | none => rw [he] at h; cases h
    | some e =>
      rw [he] at h
      have h2 : (if nxtH ns ps f = some e then none else some ((f : Int), (e : Int))) = some x := h
      by_cases c : nxtH ns ps f = some e
      · rw [if_pos c] at h2; cases h2
      · rw [if_neg c] at h2
        injection h2 with h2
        rw [← h2]
  rw [k hp, k hq]
  omega
theorem hEnd_range {ns : List Int} {ps : List (Int × Int)} {f e : Nat} (hf : f ≤ ns.length) (h : hEnd ns ps f = some e) : f ≤ e ∧ e ≤ ns.length ∧ hold ps (hWin ns f e) = true ∧ ∀ b, f ≤ b → b < e → hold ps (hWin ns f b) = false := by
  rcases hEnd_spec (ns := ns) (ps := ps) hf with ⟨k, _⟩ | ⟨e', k, h1, h2, h3, h4⟩
  · rw [k] at h; cases h
  · rw [k] at h
    injection h with h
    subst h
    exact ⟨h1, h2, h3, h4⟩
/-- a tight one within each told window -/
theorem tight_in {ns : List Int} {ps : List (Int × Int)} {e : Nat} : ∀ (k f : Nat), f + k = ns.length → hEnd ns ps f = some e → ∃ g : Nat, f ≤ g ∧ g ≤ e ∧ ((g : Int), (e : Int)) ∈ tightL ns ps
  | 0, f, hk, h => by
    have hr := hEnd_range (by omega) h
    refine ⟨f, Nat.le_refl f, hr.1, tight_mem.mpr ⟨f, e, by omega, h, ?_, rfl⟩⟩
    unfold nxtH
    rw [if_neg (by omega)]
    exact fun z => nomatch z
  | k + 1, f, hk, h => by
    have hr := hEnd_range (by omega) h
    by_cases c : nxtH ns ps f = some e
    · have c2 := c
      unfold nxtH at c2
      rw [if_pos (by omega)] at c2
      obtain ⟨g, h1, h2, h3⟩ := tight_in k (f + 1) (by omega) c2
      exact ⟨g, by omega, h2, h3⟩
    · exact ⟨f, Nat.le_refl f, hr.1, tight_mem.mpr ⟨f, e, by omega, h, c, rfl⟩⟩
/-- all told windows: width and first place -/
def someT (ns : List Int) (ps : List (Int × Int)) (f : Nat) : Bool := (hEnd ns ps f).isSome
def someG (ns : List Int) (ps : List (Int × Int)) (f : Nat) : Int × Int := ((((hEnd ns ps f).getD 0 : Nat) : Int) - f, (f : Int))
def someL (ns : List Int) (ps : List (Int × Int)) : List (Int × Int) := ((List.range (ns.length + 1)).filter (someT ns ps)).map (someG ns ps)
theorem someL_mem {ns : List Int} {ps : List (Int × Int)} {x : Int × Int} : x ∈ someL ns ps ↔ ∃ f e : Nat, f ≤ ns.length ∧ hEnd ns ps f = some e ∧ x = ((e : Int) - f, (f : Int)) := by
  unfold someL
  rw [List.mem_map]
  constructor
  · rintro ⟨f, hf, rfl⟩
    obtain ⟨h1, h2⟩ := List.mem_filter.mp hf
    have hf2 := List.mem_range.mp h1
    obtain ⟨e, he⟩ := Option.isSome_iff_exists.mp h2
    refine ⟨f, e, by omega, he, ?_⟩
    unfold someG
    rw [he]; rfl
  · rintro ⟨f, e, hf, he, rfl⟩
    refine ⟨f, List.mem_filter.mpr ⟨List.mem_range.mpr (by omega), ?_⟩, ?_⟩
    · unfold someT; rw [he]; rfl
    · unfold someG; rw [he]; rfl
theorem sho_some {ns : List Int} {ps : List (Int × Int)} : (shoP (tightL ns ps) = none ∧ someL ns ps = []) ∨ ∃ x y : Int, shoP (tightL ns ps) = some (x, y) ∧ (y - x, x) ∈ someL ns ps ∧ ∀ q ∈ someL ns ps, (y - x) < q.1 ∨ ((y - x) = q.1 ∧ x ≤ q.2) := by
  rcases shoP_spec (tightL ns ps) (tight_pair ns ps) with ⟨h1, h2⟩ | ⟨⟨x, y⟩, h1, h2, h3⟩
  · refine .inl ⟨h1, ?_⟩
    cases hs : someL ns ps with
    | nil => rfl
    | cons q qs =>
      exfalso
      have hq : q ∈ someL ns ps := by rw [hs]; exact List.mem_cons_self
      obtain ⟨f, e, hf, he, _⟩ := someL_mem.mp hq
      obtain ⟨g, _, _, hg⟩ := tight_in (ns.length - f) f (by omega) he
      rw [h2] at hg
      cases hg
  · refine .inr ⟨x, y, h1, ?_, fun q hq => ?_⟩
    · obtain ⟨f, e, hf, he, _, hx⟩ := tight_mem.mp h2
      injection hx with hx hy
      subst hx
      subst hy
      exact someL_mem.mpr ⟨f, e, hf, he, rfl⟩
    · obtain ⟨f, e, hf, he, rfl⟩ := someL_mem.mp hq
      obtain ⟨g, g1, g2, hg⟩ := tight_in (ns.length - f) f (by omega) he
      have := h3 _ hg
      unfold leW at this
      show _ < (e : Int) - f ∨ (_ = (e : Int) - f ∧ x ≤ (f : Int))
      have t : y - x < (e : Int) - g ∨ (y - x = (e : Int) - g ∧ x ≤ g) := this
      omega
section
variable {K : PySem.W.Frag} {σ : L2.St} {H1 : Hp} {Dl : Addr} {te : TE} {tt : TT} {vs : List Nat} {Qd : Hp → Prop}
/-- [e for k in range(..) if t], each e a new pair -/
theorem lc_rngIfP {j : Nat} {lo : Int} {n : Nat} (t : Nat → Bool) (g : Nat → Int × Int) (hn : n ≤ 1000000) (hD : H1 Dl = none) (hw : ∀ x, wipe ((wipe σ vs).set j (some x)) vs = wipe σ vs)
    (ht : ∀ (k : Nat) H', k < n → Same H1 H' → ∀ Q' : Bool → Hp → Prop, (∀ H4, Same H' H4 → Q' (t k) H4) → tt ((wipe σ vs).set j (some (.int (lo + (k : Nat))))) H' Q')
    (he : ∀ (k : Nat) H', k < n → t k = true → Same H1 H' → ∀ Q' : VK, (∀ q H4, Same H' H4 → H4 q = some (pr (g k)) → H' q = none → Q' (.ref q) H4) → te ((wipe σ vs).set j (some (.int (lo + (k : Nat))))) H' Q')
    (hd : ∀ H' qs, Same H1 H' → H' Dl = some (.lst (qs.map V.ref)) → PairsF H' qs (((List.range n).filter t).map g) → (∀ q ∈ qs, H1 q = none) → Qd H') :
    ∃ W : Nat → Nat → Hp → Prop, (∃ m, W 0 m (upd H1 Dl (.lst []))) ∧ ∀ i m H, W i m H →
      ((Itr lo n).stop i H ∧ Qd H) ∨ ((Itr lo n).go i H ∧ ∃ Nx : Hp → Prop, (∀ H', Nx H' → ∃ m', m' < m ∧ W (i + 1) m' H') ∧ ∀ x H', (Itr lo n).yld i H x H' → gName j x (wipe σ vs) H' fun σ2 H2 => wipe σ2 vs = wipe σ vs ∧ tt σ2 H2 fun b H3 =>
        if b = true then te σ2 H3 fun y H4 => ∃ acc, H4 Dl = some (.lst acc) ∧ acc.length < sizeLine ∧ Nx (upd H4 Dl (.lst (acc ++ [y]))) else Nx H3) := by
  refine lc_range (lo := lo) (n := n) (fun i H' => ∃ qs : List Addr, Same H1 H' ∧ H' Dl = some (.lst (qs.map V.ref)) ∧ PairsF H' qs (((List.range i).filter t).map g) ∧ (∀ q ∈ qs, H1 q = none)) ⟨[], same_new hD, upd_same, PairsF.nil, fun q h => nomatch h⟩ (fun i H' hi p => ?_) (fun H' p => ?_)
  · obtain ⟨qs, s, eD, r, f⟩ := p
    refine ⟨hw _, ?_⟩
    refine ht i H' hi s _ fun H3 s3 => ?_
    cases hb : t i with
    | true =>
      refine (if_pos rfl).mpr ?_
      refine he i H3 hi hb (s.trans s3) _ fun q H4 s4 e4 nq => ?_
      have eD3 := s3 _ _ eD
      have hqD : q ≠ Dl := fun e => by rw [e, eD3] at nq; cases nq
      have hrl := r.len
      have hfl := List.length_filter_le t (List.range i)
      rw [List.length_range] at hfl
      rw [List.length_map] at hrl
      refine ⟨_, s4 _ _ eD3, szl (by rw [List.length_map]; omega), qs ++ [q], same_upd' hD ((s.trans s3).trans s4), by rw [upd_same, List.map_append]; rfl, ?_, fun p hp => ?_⟩
      · rw [List.range_succ, List.filter_append, List.map_append, List.filter_cons, if_pos hb]
        have e5 : H4 q = some (.tup [.int (g i).1, .int (g i).2]) := e4
        refine ObjsF.upd (PairsF.snoc (ObjsF.same r (s3.trans s4)) e5) ⟨fun z hz => ?_⟩
        rcases List.mem_append.mp hz with h | h
        · exact (PairsF.offL r eD).out z h
        · rw [List.mem_singleton.mp h]; exact hqD
      · rcases List.mem_append.mp hp with h | h
        · exact f p h
        · rw [List.mem_singleton.mp h]; exact (s.trans s3).free nq
    | false =>
      refine (if_neg Bool.false_ne_true).mpr ⟨qs, s.trans s3, s3 _ _ eD, ?_, f⟩
      rw [List.range_succ, List.filter_append, List.map_append, List.filter_cons, if_neg (by rw [hb]; exact Bool.false_ne_true)]
      rw [List.filter_nil, List.map_nil, List.append_nil]
      exact ObjsF.same r s3
  · obtain ⟨qs, s, eD, r, f⟩ := p
    exact hd H' qs s eD r f
end
theorem dp_pair {K : PySem.W.Frag} {H : Hp} {p : Addr} {x y : Int} (h : H p = some (.tup [.int x, .int y])) : Dp K H (.ref p) (tupD [x, y]) := dp_tup (ns := [x, y]) h
theorem shaped_tup (ns : List Int) : SeqAt.shaped (tupD ns) = true := shaped_of (canLayAll_ints ns) (Nat.le_trans (depth_tup ns) (by decide))
theorem rNe_pair {K : PySem.W.Frag} {H : Hp} {p q : Addr} {x y : Int} {Q : VK} (h1 : H p = some (.tup [.int x, .int y])) (h2 : H q = some (.tup [.int x, .int y])) (k : Q (.bl false) H) : rNeD K (.ref p) (.ref q) H Q :=
  ⟨_, _, dp_pair h1, dp_pair h2, shaped_tup _, shaped_tup _, by
    have e : PyData.eqv (tupD [x, y]) (tupD [x, y]) = true := by
      show PyData.eqvAll _ _ = true
      rw [eqvAll_ints]
      exact decide_eq_true rfl
    rw [e]; exact k⟩
theorem dp_pD {K : PySem.W.Frag} {H : Hp} {a : Addr} {ls : List Addr} {ps : List (Int × Int)} (h : SqL K H a (ls.map V.ref)) (r : PairsF H ls ps) : Dp K H (.ref a) (.list (ps.map UrM.pD)) := dp_pairs h r
theorem rEq_pairsN {K : PySem.W.Frag} {H : Hp} {a b : Addr} {ls : List Addr} {ps : List (Int × Int)} {Q : VK} (h1 : SqL K H a (ls.map V.ref)) (h2 : SqL K H b []) (r1 : PairsF H ls ps) (q : Q (.bl (decide (ps = []))) H) : rEqD K (.ref a) (.ref b) H Q :=
  ⟨_, _, dp_pairs h1 r1, .lst h2 .nil, shaped_pairs ps, shaped_pairs [], by
    have e : PyData.eqv (.list (pairsD ps)) (.list []) = decide (ps = []) := by
      cases ps with
      | nil => rfl
      | cons p ps => rfl
    rw [e]; exact q⟩
theorem rNe_pairsN {K : PySem.W.Frag} {H : Hp} {a b : Addr} {ls : List Addr} {ps : List (Int × Int)} {Q : VK} (h1 : SqL K H a (ls.map V.ref)) (h2 : SqL K H b []) (r1 : PairsF H ls ps) (q : Q (.bl (!decide (ps = []))) H) : rNeD K (.ref a) (.ref b) H Q :=
  ⟨_, _, dp_pairs h1 r1, .lst h2 .nil, shaped_pairs ps, shaped_pairs [], by
    have e : PyData.eqv (.list (pairsD ps)) (.list []) = decide (ps = []) := by
      cases ps with
      | nil => rfl
      | cons p ps => rfl
    rw [e]; exact q⟩
end Ur
namespace Ur
open PySem L2
/-! ### tight windows rise; needs that ask more -/
theorem tight_rise {ns : List Int} {ps : List (Int × Int)} {f e f' e' : Nat} (hf : f ≤ ns.length) (hf' : f' ≤ ns.length) (he : hEnd ns ps f = some e) (ht : nxtH ns ps f ≠ some e) (he' : hEnd ns ps f' = some e') (h : f < f') : e < e' := by
  have r1 := hEnd_range hf he
  have r2 := hEnd_range hf' he'
  have t := (tight_iff hf he).mpr ht
  by_cases c : e < e'
  · exact c
  · exfalso
    rcases t with t | t
    · omega
    · have h1 : hold ps (hWin ns (f + 1) e') = true := by
        have k : ∀ k g : Nat, g + k = f' → hold ps (hWin ns g e') = true := by
          intro k
          induction k with
          | zero => intro g hg; rw [show g = f' from by omega]; exact r2.2.2.1
          | succ k ih => intro g hg; exact hold_down (ih (g + 1) (by omega))
        exact k (f' - (f + 1)) (f + 1) (by omega)
      have h2 := hold_upTo h1 (e - e')
      rw [show e' + (e - e') = e from by omega, t] at h2
      cases h2
theorem tight_pair2 (ns : List Int) (ps : List (Int × Int)) : (tightL ns ps).Pairwise fun p q => p.1 < q.1 ∧ p.2 < q.2 := by
  refine List.Pairwise.imp_of_mem (R := fun p q => p.1 < q.1) (fun {p q} hp hq h => ⟨h, ?_⟩) (tight_pair ns ps)
  obtain ⟨f, e, hf, he, ht, rfl⟩ := tight_mem.mp hp
  obtain ⟨f', e', hf', he', ht', rfl⟩ := tight_mem.mp hq
  have h2 : (f : Int) < f' := h
  have := tight_rise hf hf' he ht he' (by omega)
  show (e : Int) < e'
  omega
/-- what a told window is -/
theorem tight_ok {ns : List Int} {ps : List (Int × Int)} {x y : Int} (h : (x, y) ∈ tightL ns ps) : 0 ≤ x ∧ x ≤ y ∧ y ≤ ns.length ∧ hold ps (hWin ns x.toNat y.toNat) = true ∧ (x < y → hold ps (hWin ns (x + 1).toNat y.toNat) = false ∧ hold ps (hWin ns x.toNat (y - 1).toNat) = false) := by
  obtain ⟨f, e, hf, he, ht, hx⟩ := tight_mem.mp h
  injection hx with hx hy
  subst hx
  subst hy
  have r1 := hEnd_range hf he
  have t := (tight_iff hf he).mpr ht
  rw [Int.toNat_natCast, Int.toNat_natCast, show ((f : Int) + 1).toNat = f + 1 from by omega]
  refine ⟨by omega, by omega, by omega, r1.2.2.1, fun hlt => ⟨?_, ?_⟩⟩
  · rcases t with t | t
    · omega
    · exact t
  · exact r1.2.2.2 _ (by omega) (by omega)
/-- some window is told just where the whole row holds -/
theorem tight_some {ns : List Int} {ps : List (Int × Int)} : tightL ns ps = [] ↔ hold ps ns = false := by
  have hw : hWin ns 0 ns.length = ns := by
    unfold hWin
    rw [List.drop_zero, Nat.sub_zero, List.take_length]
  constructor
  · intro h
    rw [Bool.eq_false_iff]
    intro k
    rcases hEnd_spec (ns := ns) (ps := ps) (f := 0) (Nat.zero_le _) with ⟨_, k2⟩ | ⟨e, k1, _⟩
    · have := k2 ns.length (Nat.zero_le _) (Nat.le_refl _)
      rw [hw, k] at this
      cases this
    · obtain ⟨g, _, _, hg⟩ := tight_in ns.length 0 (by omega) k1
      rw [h] at hg
      cases hg
  · intro h
    cases ht : tightL ns ps with
    | nil => rfl
    | cons q qs =>
      exfalso
      have hq : q ∈ tightL ns ps := by rw [ht]; exact List.mem_cons_self
      obtain ⟨f, e, hf, he, _, _⟩ := tight_mem.mp hq
      have r1 := hEnd_range hf he
      have h1 : hold ps (hWin ns 0 e) = true := by
        have k : ∀ k g : Nat, g + k = f → hold ps (hWin ns g e) = true := by
          intro k
          induction k with
          | zero => intro g hg; rw [show g = f from by omega]; exact r1.2.2.1
          | succ k ih => intro g hg; exact hold_down (ih (g + 1) (by omega))
        exact k f 0 (by omega)
      have h2 := hold_upTo h1 (ns.length - e)
      rw [show e + (ns.length - e) = ns.length from by omega, hw, h] at h2
      cases h2
/-- within each window that holds there is a told one -/
theorem tight_of_hold {ns : List Int} {ps : List (Int × Int)} {f b : Nat} (h1 : f ≤ b) (h2 : b ≤ ns.length) (h : hold ps (hWin ns f b) = true) : ∃ g e : Nat, f ≤ g ∧ g ≤ e ∧ e ≤ b ∧ ((g : Int), (e : Int)) ∈ tightL ns ps := by
  rcases hEnd_spec (ns := ns) (ps := ps) (f := f) (by omega) with ⟨_, k⟩ | ⟨e, k1, k2, k3, k4, k5⟩
  · rw [k b h1 h2] at h; cases h
  · have heb : e ≤ b := by
      by_cases c : e ≤ b
      · exact c
      · have := k5 b h1 (by omega)
        rw [h] at this
        cases this
    obtain ⟨g, g1, g2, g3⟩ := tight_in (ns.length - f) f (by omega) k1
    exact ⟨g, e, g1, g2, heb, g3⟩
/-- needs that ask no less -/
def Asks (ps' ps : List (Int × Int)) : Prop := ∀ W, hold ps' W = true → hold ps W = true
theorem Asks.in_ {ns : List Int} {ps ps' : List (Int × Int)} (a : Asks ps' ps) {x y : Int} (h : (x, y) ∈ tightL ns ps') : ∃ q ∈ tightL ns ps, x ≤ q.1 ∧ q.2 ≤ y ∧ q.1 ≤ q.2 := by
  obtain ⟨h0, h1, h2, h3, _⟩ := tight_ok h
  obtain ⟨g, e, g1, g2, g3, g4⟩ := tight_of_hold (ps := ps) (by omega) (by omega) (a _ h3)
  exact ⟨_, g4, by show x ≤ (g : Int); omega, by show (e : Int) ≤ y; omega, by show (g : Int) ≤ e; omega⟩
/-- the shortest with more needs is no shorter -/
theorem Asks.sho {ns : List Int} {ps ps' : List (Int × Int)} (a : Asks ps' ps) {x y : Int} (h : shoP (tightL ns ps') = some (x, y)) : ∃ u v : Int, shoP (tightL ns ps) = some (u, v) ∧ v - u ≤ y - x := by
  rcases shoP_spec (tightL ns ps') (tight_pair ns ps') with ⟨h1, _⟩ | ⟨b, h1, h2, _⟩
  · rw [h1] at h; cases h
  · rw [h1] at h
    injection h with h
    subst h
    obtain ⟨q, hq, q1, q2, q3⟩ := a.in_ h2
    rcases shoP_spec (tightL ns ps) (tight_pair ns ps) with ⟨_, k2⟩ | ⟨⟨u, v⟩, k1, _, k3⟩
    · rw [k2] at hq; cases hq
    · refine ⟨u, v, k1, ?_⟩
      have := k3 q hq
      unfold leW at this
      have t : v - u < q.2 - q.1 ∨ (v - u = q.2 - q.1 ∧ u ≤ q.1) := this
      omega
theorem Asks.refl (ps : List (Int × Int)) : Asks ps ps := fun _ h => h
theorem Asks.snoc (ps : List (Int × Int)) (q : Int × Int) : Asks (ps ++ [q]) ps := fun W h => by
  rw [hold_iff] at h ⊢
  exact fun p hp => h p (List.mem_append.mpr (.inl hp))
theorem Asks.set {ps : List (Int × Int)} {x y : Int} (h : ps[0]? = some (x, y)) : Asks (ps.set 0 (x, y + 1)) ps := fun W k => by
  cases ps with
  | nil => cases h
  | cons p ps =>
    injection h with h
    subst h
    rw [hold_iff] at k ⊢
    intro q hq
    rcases List.mem_cons.mp hq with e | e
    · have := k (x, y + 1) List.mem_cons_self
      rw [e]
      show y ≤ (W.count x : Int)
      have t : y + 1 ≤ (W.count x : Int) := this
      omega
    · exact k q (List.mem_cons_of_mem _ e)
theorem NeedsOk.set {ps : List (Int × Int)} {x y : Int} (ok : NeedsOk ps) (h : ps[0]? = some (x, y)) : NeedsOk (ps.set 0 (x, y + 1)) := by
  cases ps with
  | nil => cases h
  | cons p ps =>
    injection h with h
    subst h
    refine ⟨ok.nd, fun q hq => ?_⟩
    rcases List.mem_cons.mp hq with e | e
    · have := ok.pos (x, y) List.mem_cons_self
      rw [e]
      show 1 ≤ y + 1
      have t : 1 ≤ y := this
      omega
    · exact ok.pos q (List.mem_cons_of_mem _ e)
theorem PairsF.set0 {H : Hp} {ls : List Addr} {ps : List (Int × Int)} {p : Addr} {q : Int × Int} (r : PairsF H ls ps) (e : H p = some (pr q)) : PairsF H (ls.set 0 p) (ps.set 0 q) := by
  refine ⟨by rw [List.length_set, List.length_set]; exact r.len, fun k l hk => ?_⟩
  have hl := r.len
  have hk1 := (List.getElem?_eq_some_iff.mp hk).1
  rw [List.length_set] at hk1
  rw [List.getElem?_set] at hk
  by_cases c : 0 = k
  · subst c
    rw [if_pos rfl, if_pos hk1] at hk
    injection hk with hk
    subst hk
    rw [e, List.getD_eq_getElem?_getD, List.getElem?_set, if_pos rfl, if_pos (by omega)]
    rfl
  · rw [if_neg c] at hk
    have := r.row k l hk
    rw [this, List.getD_eq_getElem?_getD, List.getD_eq_getElem?_getD, List.getElem?_set, if_neg c]
section
variable {K : PySem.W.Frag} {a : Addr} {σ : L2.St} {H1 : Hp} {Dl : Addr} {te : TE} {tt : TT} {vs : List Nat} {Qd : Hp → Prop}
/-- [x for x in a list of pairs if t]: the pairs themselves -/
theorem lc_pairsIfR {j : Nat} {ls : List Addr} {ps : List (Int × Int)} (t : Int × Int → Bool) (hn : ps.length ≤ 1000000) (ha : SqL K H1 a (ls.map V.ref)) (r : PairsF H1 ls ps) (hD : H1 Dl = none)
    (hw : ∀ x, wipe ((wipe σ vs).set j (some x)) vs = wipe σ vs)
    (ht : ∀ (q : Int × Int) p H', q ∈ ps → Same H1 H' → H' p = some (.tup [.int q.1, .int q.2]) → ∀ Q' : Bool → Hp → Prop, (∀ H4, Same H' H4 → Q' (t q) H4) → tt ((wipe σ vs).set j (some (.ref p))) H' Q')
    (he : ∀ p H', Same H1 H' → ∀ Q' : VK, (∀ H4, Same H' H4 → Q' (.ref p) H4) → te ((wipe σ vs).set j (some (.ref p))) H' Q')
    (hd : ∀ H' qs, Same H1 H' → H' Dl = some (.lst (qs.map V.ref)) → PairsF H' qs (ps.filter t) → Qd H') :
    ∃ W : Nat → Nat → Hp → Prop, (∃ m, W 0 m (upd H1 Dl (.lst []))) ∧ ∀ i m H, W i m H →
      ((Itl K a).stop i H ∧ Qd H) ∨ ((Itl K a).go i H ∧ ∃ Nx : Hp → Prop, (∀ H', Nx H' → ∃ m', m' < m ∧ W (i + 1) m' H') ∧ ∀ x H', (Itl K a).yld i H x H' → gName j x (wipe σ vs) H' fun σ2 H2 => wipe σ2 vs = wipe σ vs ∧ tt σ2 H2 fun b H3 =>
        if b = true then te σ2 H3 fun y H4 => ∃ acc, H4 Dl = some (.lst acc) ∧ acc.length < sizeLine ∧ Nx (upd H4 Dl (.lst (acc ++ [y]))) else Nx H3) := by
  refine lc_list (K := K) (a := a) (xs := ls.map V.ref) (fun i H' => ∃ qs : List Addr, Same H1 H' ∧ H' Dl = some (.lst (qs.map V.ref)) ∧ PairsF H' qs ((ps.take i).filter t)) ⟨[], same_new hD, upd_same, by rw [List.take_zero]; exact PairsF.nil⟩ (fun i H' _ z => ?_) (fun i x H' hx z => ?_) (fun H' z => ?_)
  · obtain ⟨qs, s, _⟩ := z
    exact s.seq ha
  · obtain ⟨qs, s, eD, rq⟩ := z
    rw [List.getElem?_map] at hx
    obtain ⟨p, hp, rfl⟩ := Option.map_eq_some_iff.mp hx
    obtain ⟨h2, h3⟩ := PairsF.get r hp
    have e4 := s _ _ h3
    have hq : ps[i]? = some (ps.getD i (0, 0)) := by rw [List.getD_eq_getElem?_getD, List.getElem?_eq_getElem h2]; rfl
    have e1 : ps.take (i + 1) = ps.take i ++ [ps.getD i (0, 0)] := by rw [List.take_add_one, hq]; rfl
    refine ⟨hw _, ?_⟩
    refine ht _ p H' (List.mem_of_getElem? hq) s e4 _ fun H3 s3 => ?_
    cases hb : t (ps.getD i (0, 0)) with
    | true =>
      refine (if_pos rfl).mpr ?_
      refine he p H3 (s.trans s3) _ fun H4 s4 => ?_
      have hrl := rq.len
      have hfl := List.length_filter_le t (ps.take i)
      rw [List.length_take] at hfl
      have e5 : H4 p = some (.tup [.int (ps.getD i (0, 0)).1, .int (ps.getD i (0, 0)).2]) := s4 _ _ (s3 _ _ e4)
      refine ⟨_, s4 _ _ (s3 _ _ eD), szl (by rw [List.length_map]; omega), qs ++ [p], same_upd' hD ((s.trans s3).trans s4), by rw [upd_same, List.map_append]; rfl, ?_⟩
      rw [e1, List.filter_append, List.filter_cons, if_pos hb]
      have hpD : p ≠ Dl := fun e => by rw [e, hD] at h3; cases h3
      refine ObjsF.upd (PairsF.snoc (ObjsF.same rq (s3.trans s4)) e5) ⟨fun z hz => ?_⟩
      rcases List.mem_append.mp hz with h | h
      · exact (PairsF.offL rq eD).out z h
      · rw [List.mem_singleton.mp h]; exact hpD
    | false =>
      refine (if_neg Bool.false_ne_true).mpr ⟨qs, s.trans s3, s3 _ _ eD, ?_⟩
      rw [e1, List.filter_append, List.filter_cons, if_neg (by rw [hb]; exact Bool.false_ne_true), List.filter_nil, List.append_nil]
      exact ObjsF.same rq s3
  · obtain ⟨qs, s, eD, rq⟩ := z
    have hl := r.len
    rw [List.length_map, hl, List.take_length] at rq
    exact hd H' qs s eD rq
/-- [e for x, y in a list of pairs], each e a new pair -/
theorem lc_pairsP {j l : Nat} {ls : List Addr} {ps : List (Int × Int)} (g : Int × Int → Int × Int) (hn : ps.length ≤ 1000000) (ha : SqL K H1 a (ls.map V.ref)) (r : PairsF H1 ls ps) (hD : H1 Dl = none)
    (hw : ∀ x y, wipe (((wipe σ vs).set j (some x)).set l (some y)) vs = wipe σ vs)
    (he : ∀ (q : Int × Int) H', q ∈ ps → Same H1 H' → ∀ Q' : VK, (∀ p H4, Same H' H4 → H4 p = some (pr (g q)) → H' p = none → Q' (.ref p) H4) → te (((wipe σ vs).set j (some (.int q.1))).set l (some (.int q.2))) H' Q')
    (hd : ∀ H' qs, Same H1 H' → H' Dl = some (.lst (qs.map V.ref)) → PairsF H' qs (ps.map g) → (∀ q ∈ qs, H1 q = none) → Qd H') :
    ∃ W : Nat → Nat → Hp → Prop, (∃ m, W 0 m (upd H1 Dl (.lst []))) ∧ ∀ i m H, W i m H →
      ((Itl K a).stop i H ∧ Qd H) ∨ ((Itl K a).go i H ∧ ∃ Nx : Hp → Prop, (∀ H', Nx H' → ∃ m', m' < m ∧ W (i + 1) m' H') ∧ ∀ x H', (Itl K a).yld i H x H' → gTup K 2 (gCons (gName j) (gCons (gName l) gNil)) x (wipe σ vs) H' fun σ2 H2 => wipe σ2 vs = wipe σ vs ∧ tYes σ2 H2 fun b H3 =>
        if b = true then te σ2 H3 fun y H4 => ∃ acc, H4 Dl = some (.lst acc) ∧ acc.length < sizeLine ∧ Nx (upd H4 Dl (.lst (acc ++ [y]))) else Nx H3) := by
  refine lc_list (K := K) (a := a) (xs := ls.map V.ref) (fun i H' => ∃ qs : List Addr, Same H1 H' ∧ H' Dl = some (.lst (qs.map V.ref)) ∧ PairsF H' qs ((ps.take i).map g) ∧ (∀ q ∈ qs, H1 q = none)) ⟨[], same_new hD, upd_same, by rw [List.take_zero]; exact PairsF.nil, fun q h => nomatch h⟩ (fun i H' _ z => ?_) (fun i x H' hx z => ?_) (fun H' z => ?_)
  · obtain ⟨qs, s, _⟩ := z
    exact s.seq ha
  · obtain ⟨qs, s, eD, rq, f⟩ := z
    rw [List.getElem?_map] at hx
    obtain ⟨p, hp, rfl⟩ := Option.map_eq_some_iff.mp hx
    obtain ⟨h2, h3⟩ := PairsF.get r hp
    have e4 := s _ _ h3
    have hq : ps[i]? = some (ps.getD i (0, 0)) := by rw [List.getD_eq_getElem?_getD, List.getElem?_eq_getElem h2]; rfl
    have e1 : ps.take (i + 1) = ps.take i ++ [ps.getD i (0, 0)] := by rw [List.take_add_one, hq]; rfl
    refine ⟨p, _, rfl, .of e4, rfl, _, _, rfl, _, _, rfl, rfl, hw _ _, tyes_ok ?_⟩
    refine he _ H' (List.mem_of_getElem? hq) s _ fun n H4 s4 e5 nn => ?_
    have hrl := rq.len
    rw [List.length_map, List.length_take] at hrl
    have hnD : n ≠ Dl := fun e => by rw [e, eD] at nn; cases nn
    refine ⟨_, s4 _ _ eD, szl (by rw [List.length_map]; omega), qs ++ [n], same_upd' hD (s.trans s4), by rw [upd_same, List.map_append]; rfl, ?_, fun z hz => ?_⟩
    · rw [e1, List.map_append]
      have e6 : H4 n = some (.tup [.int (g (ps.getD i (0, 0))).1, .int (g (ps.getD i (0, 0))).2]) := e5
      refine ObjsF.upd (PairsF.snoc (ObjsF.same rq s4) e6) ⟨fun z hz => ?_⟩
      rcases List.mem_append.mp hz with h | h
      · exact (PairsF.offL rq eD).out z h
      · rw [List.mem_singleton.mp h]; exact hnD
    · rcases List.mem_append.mp hz with h | h
      · exact f z h
      · rw [List.mem_singleton.mp h]; exact s.free nn
  · obtain ⟨qs, s, eD, rq, f⟩ := z
    have hl := r.len
    rw [List.length_map, hl, List.take_length] at rq
    exact hd H' qs s eD rq f
end
end Ur
namespace Ur
open PySem L2
theorem OptP.but {a : Addr} {xs : List V} {H H' : Hp} {v : V} {o : Option (Int × Int)} (k : OptP H v o) (b : But a H H') (ha : H a = some (.lst xs)) : OptP H' v o := by
  rcases k.is with ⟨h1, h2⟩ | ⟨x, y, p, h1, h2, h3⟩
  · rw [h1, h2]; exact OptP.non
  · rw [h1, h2]
    exact OptP.pair (b _ _ (fun e => by rw [e, ha] at h3; cases h3) h3)
theorem tight_dec (ns : List Int) (ps : List (Int × Int)) : decide (tightL ns ps = []) = !hold ps ns := by
  by_cases h : tightL ns ps = []
  · rw [decide_eq_true h, tight_some.mp h]; rfl
  · rw [decide_eq_false h]
    cases hh : hold ps ns with
    | true => rfl
    | false => exact absurd (tight_some.mpr hh) h
theorem sho_min {ns : List Int} {ps : List (Int × Int)} {x y : Int} (h : shoP (tightL ns ps) = some (x, y)) {q : Int × Int} (hq : q ∈ (tightL ns ps).map fun q => (q.2 - q.1, q.1)) (hm : ∀ p ∈ (tightL ns ps).map (fun q => (q.2 - q.1, q.1)), q.1 < p.1 ∨ (q.1 = p.1 ∧ q.2 ≤ p.2)) : q = (y - x, x) := by
  rcases shoP_spec (tightL ns ps) (tight_pair ns ps) with ⟨k, _⟩ | ⟨b, k, k2, k3⟩
  · rw [k] at h; cases h
  · rw [k] at h
    injection h with h
    subst h
    have m1 := hm _ (List.mem_map_of_mem k2)
    obtain ⟨p, hp, rfl⟩ := List.mem_map.mp hq
    have m2 := k3 p hp
    unfold leW at m2
    have t1 : p.2 - p.1 < y - x ∨ (p.2 - p.1 = y - x ∧ p.1 ≤ x) := m1
    have t2 : y - x < p.2 - p.1 ∨ (y - x = p.2 - p.1 ∧ x ≤ p.1) := m2
    have e1 : p.2 - p.1 = y - x := by omega
    have e2 : p.1 = x := by omega
    rw [e1, e2]
end Ur
namespace Ur
open PySem L2
theorem PairsF.take {H : Hp} {ls : List Addr} {ps : List (Int × Int)} (r : PairsF H ls ps) (n : Nat) : PairsF H (ls.take n) (ps.take n) := by
  refine ⟨by rw [List.length_take, List.length_take, r.len], fun k p h => ?_⟩
  rw [List.getElem?_take] at h
  by_cases c : k < n
  · rw [if_pos c] at h
    rw [r.row k p h, List.getD_eq_getElem?_getD, List.getD_eq_getElem?_getD, List.getElem?_take, if_pos c]
  · rw [if_neg c] at h
    cases h
end Ur

namespace Ur
open PySem L2
/-! ### windows that hold needs, of rows looked at otherwise -/
theorem hold_upLe {ns : List Int} {ps : List (Int × Int)} {f b c : Nat} (h : hold ps (hWin ns f b) = true) (hc : b ≤ c) : hold ps (hWin ns f c) = true := by
  have := hold_upTo h (c - b)
  rwa [show b + (c - b) = c from by omega] at this
/-- the told windows, by what they are -/
def Tgt (ns : List Int) (ps : List (Int × Int)) (f e : Nat) : Prop := f ≤ e ∧ e ≤ ns.length ∧ hold ps (hWin ns f e) = true ∧ (f < e → hold ps (hWin ns (f + 1) e) = false ∧ hold ps (hWin ns f (e - 1)) = false)
theorem tight_tgt {ns : List Int} {ps : List (Int × Int)} {x : Int × Int} : x ∈ tightL ns ps ↔ ∃ f e : Nat, Tgt ns ps f e ∧ x = ((f : Int), (e : Int)) := by
  constructor
  · intro h
    obtain ⟨f, e, hf, he, ht, hx⟩ := tight_mem.mp h
    subst hx
    obtain ⟨_, h1, h2, h3, h4⟩ := tight_ok h
    rw [Int.toNat_natCast, Int.toNat_natCast] at h3
    refine ⟨f, e, ⟨by omega, by omega, h3, fun hlt => ?_⟩, rfl⟩
    have := h4 (by omega)
    rw [Int.toNat_natCast, Int.toNat_natCast, show ((f : Int) + 1).toNat = f + 1 from by omega, show ((e : Int) - 1).toNat = e - 1 from by omega] at this
    exact this
  · rintro ⟨f, e, ⟨h1, h2, h3, h4⟩, rfl⟩
    have he : hEnd ns ps f = some e := hEnd_is h1 h2 h3 fun b hb1 hb2 => by
      rw [Bool.eq_false_iff]
      intro k
      have := (h4 (by omega)).2
      rw [hold_upLe k (show b ≤ e - 1 by omega)] at this
      cases this
    refine tight_mem.mpr ⟨f, e, by omega, he, (tight_iff (by omega) he).mp ?_, rfl⟩
    by_cases c : f = e
    · exact .inl c
    · exact .inr (h4 (by omega)).1
/-- rising lists with the same members -/
theorem rise_eq : ∀ {xs ys : List (Int × Int)}, xs.Pairwise (fun p q => p.1 < q.1) → ys.Pairwise (fun p q => p.1 < q.1) → (∀ x, x ∈ xs ↔ x ∈ ys) → xs = ys
  | [], [], _, _, _ => rfl
  | [], y :: ys, _, _, h => nomatch (h y).mpr List.mem_cons_self
  | x :: xs, [], _, _, h => nomatch (h x).mp List.mem_cons_self
  | x :: xs, y :: ys, h1, h2, h => by
    rw [List.pairwise_cons] at h1 h2
    have e : x = y := by
      rcases List.mem_cons.mp ((h x).mp List.mem_cons_self) with k | k
      · exact k
      · rcases List.mem_cons.mp ((h y).mpr List.mem_cons_self) with k2 | k2
        · exact k2.symm
        · have := h1.1 y k2
          have := h2.1 x k
          omega
    subst e
    congr 1
    refine rise_eq h1.2 h2.2 fun z => ⟨fun hz => ?_, fun hz => ?_⟩
    · rcases List.mem_cons.mp ((h z).mp (List.mem_cons_of_mem _ hz)) with k | k
      · have := h1.1 z hz
        rw [k] at this
        omega
      · exact k
    · rcases List.mem_cons.mp ((h z).mpr (List.mem_cons_of_mem _ hz)) with k | k
      · have := h2.1 z hz
        rw [k] at this
        omega
      · exact k
/-- .. when the windows are the same -/
theorem tight_same {ns ns' : List Int} {ps ps' : List (Int × Int)} (hl : ns'.length = ns.length) (h : ∀ f e, f ≤ e → e ≤ ns.length → hold ps' (hWin ns' f e) = hold ps (hWin ns f e)) : tightL ns' ps' = tightL ns ps := by
  have k : ∀ f e, Tgt ns' ps' f e ↔ Tgt ns ps f e := fun f e => by
    unfold Tgt
    constructor
    · rintro ⟨h1, h2, h3, h4⟩
      refine ⟨h1, by omega, by rw [← h f e h1 (by omega)]; exact h3, fun hlt => ?_⟩
      rw [← h (f + 1) e (by omega) (by omega), ← h f (e - 1) (by omega) (by omega)]
      exact h4 hlt
    · rintro ⟨h1, h2, h3, h4⟩
      refine ⟨h1, by omega, by rw [h f e h1 (by omega)]; exact h3, fun hlt => ?_⟩
      rw [h (f + 1) e (by omega) (by omega), h f (e - 1) (by omega) (by omega)]
      exact h4 hlt
  refine rise_eq (tight_pair _ _) (tight_pair _ _) fun x => ?_
  rw [tight_tgt, tight_tgt]
  exact ⟨fun ⟨f, e, t, hx⟩ => ⟨f, e, (k f e).mp t, hx⟩, fun ⟨f, e, t, hx⟩ => ⟨f, e, (k f e).mpr t, hx⟩⟩
/-- needs turned about -/
theorem hold_rev (ps : List (Int × Int)) (W : List Int) : hold ps.reverse W = hold ps W := by
  unfold hold
  rw [List.all_reverse]
theorem tight_needs_rev (ns : List Int) (ps : List (Int × Int)) : tightL ns ps.reverse = tightL ns ps := tight_same rfl fun f e _ _ => hold_rev ps _
theorem NeedsOk.rev {ps : List (Int × Int)} (ok : NeedsOk ps) : NeedsOk ps.reverse := ⟨by rw [List.map_reverse]; exact List.pairwise_reverse.mpr (ok.nd.imp fun h => Ne.symm h), fun q hq => ok.pos q (List.mem_reverse.mp hq)⟩
/-- numbers called otherwise -/
def ren (g : Int → Int) (q : Int × Int) : Int × Int := (g q.1, q.2)
theorem count_ren {g : Int → Int} {U : List Int} (hg : InjOn g U) : ∀ {W : List Int} {x : Int}, x ∈ U → (∀ z ∈ W, z ∈ U) → (W.map g).count (g x) = W.count x
  | [], _, _, _ => rfl
  | w :: W, x, hx, hW => by
    rw [List.map_cons, List.count_cons, List.count_cons, count_ren hg hx fun z hz => hW z (List.mem_cons_of_mem _ hz)]
    congr 1
    by_cases e : w = x
    · rw [e, beq_self_eq_true, beq_self_eq_true]
    · have e2 : g w ≠ g x := fun k => e (hg _ (hW w List.mem_cons_self) _ hx k)
      rw [beq_false_of_ne e, beq_false_of_ne e2]
theorem hold_ren {g : Int → Int} {U W : List Int} {ps : List (Int × Int)} (hg : InjOn g U) (hW : ∀ z ∈ W, z ∈ U) (hp : ∀ q ∈ ps, q.1 ∈ U) : hold (ps.map (ren g)) (W.map g) = hold ps W := by
  unfold hold
  rw [List.all_map]
  rw [Bool.eq_iff_iff, List.all_eq_true, List.all_eq_true]
  have k : ∀ q ∈ ps, (W.map g).count (g q.1) = W.count q.1 := fun q hq => count_ren hg (hp q hq) hW
  constructor
  · intro h q hq
    have := of_decide_eq_true (h q hq)
    have t : q.2 ≤ ((W.map g).count (g q.1) : Int) := this
    rw [k q hq] at t
    exact decide_eq_true t
  · intro h q hq
    have := of_decide_eq_true (h q hq)
    rw [← k q hq] at this
    exact decide_eq_true this
theorem tight_ren {g : Int → Int} {U ns : List Int} {ps : List (Int × Int)} (hg : InjOn g U) (hn : ∀ z ∈ ns, z ∈ U) (hp : ∀ q ∈ ps, q.1 ∈ U) : tightL (ns.map g) (ps.map (ren g)) = tightL ns ps :=
  tight_same (by rw [List.length_map]) fun f e _ _ => by
    have : hWin (ns.map g) f e = (hWin ns f e).map g := by
      unfold hWin
      rw [List.map_take, List.map_drop]
    rw [this]
    refine hold_ren hg (fun z hz => hn z ?_) hp
    exact List.mem_of_mem_drop (List.mem_of_mem_take hz)
theorem NeedsOk.ren {g : Int → Int} {U : List Int} {ps : List (Int × Int)} (ok : NeedsOk ps) (hg : InjOn g U) (hp : ∀ q ∈ ps, q.1 ∈ U) : NeedsOk (ps.map (ren g)) := by
  refine ⟨?_, fun q hq => ?_⟩
  · rw [List.map_map]
    have e : (Prod.fst ∘ Ur.ren g) = fun q : Int × Int => g q.1 := rfl
    rw [e]
    have nd := ok.nd
    unfold List.Nodup at nd ⊢
    rw [List.pairwise_map] at nd ⊢
    exact nd.imp_of_mem fun {a b} ha hb hab k => hab (hg _ (hp a ha) _ (hp b hb) k)
  · obtain ⟨p, hp2, rfl⟩ := List.mem_map.mp hq
    exact ok.pos p hp2
/-- from behind -/
theorem hWin_rev {ns : List Int} {f e : Nat} (h1 : f ≤ e) (h2 : e ≤ ns.length) : hWin ns.reverse f e = (hWin ns (ns.length - e) (ns.length - f)).reverse := by
  unfold hWin
  rw [show ns.length - f - (ns.length - e) = e - f from by omega]
  apply List.ext_getElem?
  intro i
  by_cases c : i < e - f
  · rw [List.getElem?_take, if_pos c, List.getElem?_drop, List.getElem?_reverse (by omega)]
    rw [List.getElem?_reverse (by rw [List.length_take, List.length_drop]; omega), List.length_take, List.length_drop]
    rw [List.getElem?_take, if_pos (by omega), List.getElem?_drop]
    congr 1
    omega
  · rw [List.getElem?_take, if_neg c]
    symm
    rw [List.getElem?_eq_none_iff, List.length_reverse, List.length_take, List.length_drop]
    omega
theorem hold_win_rev {ns : List Int} {ps : List (Int × Int)} {f e : Nat} (h1 : f ≤ e) (h2 : e ≤ ns.length) : hold ps (hWin ns.reverse f e) = hold ps (hWin ns (ns.length - e) (ns.length - f)) := by
  rw [hWin_rev h1 h2]
  exact hold_congr fun z => List.count_reverse
theorem tgt_rev {ns : List Int} {ps : List (Int × Int)} {f e : Nat} (h : Tgt ns ps f e) : Tgt ns.reverse ps (ns.length - e) (ns.length - f) := by
  obtain ⟨h1, h2, h3, h4⟩ := h
  refine ⟨by omega, by rw [List.length_reverse]; omega, ?_, fun hlt => ?_⟩
  · rw [hold_win_rev (by omega) (by omega), show ns.length - (ns.length - f) = f from by omega, show ns.length - (ns.length - e) = e from by omega]
    exact h3
  · have h5 := h4 (by omega)
    rw [hold_win_rev (by omega) (by omega), hold_win_rev (by omega) (by omega)]
    rw [show ns.length - (ns.length - f) = f from by omega, show ns.length - (ns.length - e) = e from by omega]
    rw [show ns.length - (ns.length - e + 1) = e - 1 from by omega, show ns.length - (ns.length - f - 1) = f + 1 from by omega]
    exact ⟨h5.2, h5.1⟩
def turn (n : Nat) (q : Int × Int) : Int × Int := ((n : Int) - q.2, (n : Int) - q.1)
theorem tight_rev (ns : List Int) (ps : List (Int × Int)) : tightL ns.reverse ps = (tightL ns ps).reverse.map (turn ns.length) := by
  refine rise_eq (tight_pair _ _) ?_ fun x => ?_
  · rw [List.pairwise_map, List.pairwise_reverse]
    refine (tight_pair2 ns ps).imp fun {a b} h => ?_
    show (ns.length : Int) - b.2 < (ns.length : Int) - a.2
    omega
  · rw [tight_tgt, List.mem_map]
    constructor
    · rintro ⟨f, e, t, rfl⟩
      have t2 := tgt_rev t
      rw [List.reverse_reverse, List.length_reverse] at t2
      obtain ⟨k1, k2, _⟩ := t
      rw [List.length_reverse] at k2
      refine ⟨_, List.mem_reverse.mpr (tight_tgt.mpr ⟨_, _, t2, rfl⟩), ?_⟩
      unfold turn
      ext
      · show (ns.length : Int) - ((ns.length - f : Nat) : Int) = f
        omega
      · show (ns.length : Int) - ((ns.length - e : Nat) : Int) = e
        omega
    · rintro ⟨q, hq, rfl⟩
      obtain ⟨f, e, t, rfl⟩ := tight_tgt.mp (List.mem_reverse.mp hq)
      refine ⟨_, _, tgt_rev t, ?_⟩
      obtain ⟨k1, k2, _⟩ := t
      unfold turn
      ext
      · show (ns.length : Int) - (e : Int) = ((ns.length - e : Nat) : Int)
        omega
      · show (ns.length : Int) - (f : Int) = ((ns.length - f : Nat) : Int)
        omega
/-- others ahead and behind -/
theorem hWin_mid {ns A B : List Int} {f e : Nat} (h1 : f ≤ e) (h2 : e ≤ ns.length) : hWin (A ++ ns ++ B) (A.length + f) (A.length + e) = hWin ns f e := by
  unfold hWin
  rw [show A.length + e - (A.length + f) = e - f from by omega, List.append_assoc, List.drop_append, List.drop_eq_nil_of_le (show A.length ≤ A.length + f by omega), List.nil_append, show A.length + f - A.length = f from by omega]
  rw [List.drop_append, List.take_append, List.length_drop, show e - f - (ns.length - f) = 0 from by omega, List.take_zero, List.append_nil]
def onBy (k : Int) (q : Int × Int) : Int × Int := (q.1 + k, q.2 + k)
theorem hold_drop1 {ns : List Int} {ps : List (Int × Int)} {f e : Nat} (hf : f < e) (he : e ≤ ns.length) (hs : ∀ q ∈ ps, q.1 ≠ ns.getD f 0) (h : hold ps (hWin ns f e) = true) : hold ps (hWin ns (f + 1) e) = true := by
  rw [hWin_down hf (by omega)] at h
  rw [hold_iff] at h ⊢
  intro q hq
  have := h q hq
  rw [List.count_cons, beq_false_of_ne (Ne.symm (hs q hq)), if_neg Bool.false_ne_true] at this
  exact this
theorem hold_drop2 {ns : List Int} {ps : List (Int × Int)} {f e : Nat} (hf : f < e) (he : e ≤ ns.length) (hs : ∀ q ∈ ps, q.1 ≠ ns.getD (e - 1) 0) (h : hold ps (hWin ns f e) = true) : hold ps (hWin ns f (e - 1)) = true := by
  have e1 : hWin ns f e = hWin ns f (e - 1) ++ [ns.getD (e - 1) 0] := by
    have := hWin_up (ns := ns) (f := f) (b := e - 1) (by omega) (by omega)
    rwa [show e - 1 + 1 = e from by omega] at this
  rw [e1] at h
  rw [hold_iff] at h ⊢
  intro q hq
  have := h q hq
  rw [count_snoc, if_neg (Ne.symm (hs q hq))] at this
  exact this
theorem tight_mid {ns A B : List Int} {ps : List (Int × Int)} (ok : NeedsOk ps) (hp : ps ≠ []) (hA : ∀ z ∈ A, ∀ q ∈ ps, q.1 ≠ z) (hB : ∀ z ∈ B, ∀ q ∈ ps, q.1 ≠ z) : tightL (A ++ ns ++ B) ps = (tightL ns ps).map (onBy A.length) := by
  have hlen : (A ++ ns ++ B).length = A.length + ns.length + B.length := by rw [List.length_append, List.length_append]
  have toB : ∀ f e, Tgt (A ++ ns ++ B) ps f e → A.length ≤ f ∧ e ≤ A.length + ns.length := fun f e t => by
    obtain ⟨h1, h2, h3, h4⟩ := t
    have hlt : f < e := by
      by_cases c : f < e
      · exact c
      · rw [hWin_nil _ (by omega), hold_none ok.pos hp] at h3
        cases h3
    rw [hlen] at h2
    have h5 := h4 hlt
    constructor
    · by_cases c : A.length ≤ f
      · exact c
      · have := hold_drop1 hlt (by omega) (fun q hq => by
          refine hA _ ?_ q hq
          rw [List.getD_eq_getElem?_getD, List.append_assoc, List.getElem?_append_left (by omega), List.getElem?_eq_getElem (by omega)]
          exact List.getElem_mem _) h3
        rw [this] at h5
        cases h5.1
    · by_cases c : e ≤ A.length + ns.length
      · exact c
      · have := hold_drop2 hlt (by omega) (fun q hq => by
          refine hB _ ?_ q hq
          rw [List.getD_eq_getElem?_getD, List.getElem?_append_right (by rw [List.length_append]; omega), List.length_append, List.getElem?_eq_getElem (by omega)]
          exact List.getElem_mem _) h3
        rw [this] at h5
        cases h5.2
  have k : ∀ f e, Tgt ns ps f e ↔ Tgt (A ++ ns ++ B) ps (A.length + f) (A.length + e) ∧ e ≤ ns.length := fun f e => by
    unfold Tgt
    constructor
    · rintro ⟨h1, h2, h3, h4⟩
      refine ⟨⟨by omega, by omega, by rw [hWin_mid h1 h2]; exact h3, fun hlt => ?_⟩, h2⟩
      rw [show A.length + f + 1 = A.length + (f + 1) from by omega, show A.length + e - 1 = A.length + (e - 1) from by omega, hWin_mid (by omega) h2, hWin_mid (by omega) (by omega)]
      exact h4 (by omega)
    · rintro ⟨⟨h1, _, h3, h4⟩, h2⟩
      refine ⟨by omega, h2, by rw [hWin_mid (by omega) h2] at h3; exact h3, fun hlt => ?_⟩
      have h5 := h4 (by omega)
      rw [show A.length + f + 1 = A.length + (f + 1) from by omega, show A.length + e - 1 = A.length + (e - 1) from by omega, hWin_mid (by omega) h2, hWin_mid (by omega) (by omega)] at h5
      exact h5
  refine rise_eq (tight_pair _ _) ?_ fun x => ?_
  · rw [List.pairwise_map]
    refine (tight_pair ns ps).imp fun {a b} h => ?_
    show a.1 + (A.length : Int) < b.1 + (A.length : Int)
    omega
  · rw [tight_tgt, List.mem_map]
    constructor
    · rintro ⟨f, e, t, rfl⟩
      obtain ⟨b1, b2⟩ := toB f e t
      have b3 := t.1
      have t2 := (k (f - A.length) (e - A.length)).mpr ⟨by
        rw [show A.length + (f - A.length) = f from by omega, show A.length + (e - A.length) = e from by omega]
        exact t, by omega⟩
      refine ⟨_, tight_tgt.mpr ⟨_, _, t2, rfl⟩, ?_⟩
      unfold onBy
      ext
      · show ((f - A.length : Nat) : Int) + (A.length : Int) = f
        omega
      · show ((e - A.length : Nat) : Int) + (A.length : Int) = e
        omega
    · rintro ⟨q, hq, rfl⟩
      obtain ⟨f, e, t, rfl⟩ := tight_tgt.mp hq
      refine ⟨_, _, ((k f e).mp t).1, ?_⟩
      unfold onBy
      ext
      · show (f : Int) + (A.length : Int) = ((A.length + f : Nat) : Int)
        omega
      · show (e : Int) + (A.length : Int) = ((A.length + e : Nat) : Int)
        omega
/-- a row with another behind it: what was told comes first -/
theorem rise_cut (n : Int) : ∀ {xs : List (Int × Int)}, xs.Pairwise (fun p q => p.1 < q.1 ∧ p.2 < q.2) → ∃ ys, xs = xs.filter (fun q => decide (q.2 ≤ n)) ++ ys
  | [], _ => ⟨[], rfl⟩
  | x :: xs, h => by
    rw [List.pairwise_cons] at h
    rw [List.filter_cons]
    by_cases c : x.2 ≤ n
    · obtain ⟨ys, e⟩ := rise_cut n h.2
      rw [if_pos (decide_eq_true c)]
      exact ⟨ys, by rw [List.cons_append, ← e]⟩
    · rw [if_neg (by rw [decide_eq_false c]; exact Bool.false_ne_true)]
      have : xs.filter (fun q => decide (q.2 ≤ n)) = [] := by
        rw [List.filter_eq_nil_iff]
        intro q hq
        have := (h.1 q hq).2
        rw [decide_eq_false (by omega)]
        exact Bool.false_ne_true
      rw [this]
      exact ⟨x :: xs, rfl⟩
theorem tight_app (ns B : List Int) (ps : List (Int × Int)) : ∃ ys, tightL (ns ++ B) ps = tightL ns ps ++ ys := by
  obtain ⟨ys, e⟩ := rise_cut (ns.length : Int) (tight_pair2 (ns ++ B) ps)
  refine ⟨ys, ?_⟩
  rw [e]
  congr 1
  have hw : ∀ f e, f ≤ e → e ≤ ns.length → hWin (ns ++ B) f e = hWin ns f e := fun f e h1 h2 => by
    unfold hWin
    rw [List.drop_append, List.take_append, List.length_drop, show e - f - (ns.length - f) = 0 from by omega, List.take_zero, List.append_nil]
  have k : ∀ f e, e ≤ ns.length → (Tgt (ns ++ B) ps f e ↔ Tgt ns ps f e) := fun f e he => by
    unfold Tgt
    rw [List.length_append]
    constructor
    · rintro ⟨h1, h2, h3, h4⟩
      refine ⟨h1, he, by rw [← hw f e h1 he]; exact h3, fun hlt => ?_⟩
      have := h4 hlt
      rwa [hw _ _ (by omega) he, hw _ _ (by omega) (by omega)] at this
    · rintro ⟨h1, h2, h3, h4⟩
      refine ⟨h1, by omega, by rw [hw f e h1 he]; exact h3, fun hlt => ?_⟩
      rw [hw _ _ (by omega) he, hw _ _ (by omega) (by omega)]
      exact h4 hlt
  refine rise_eq ((tight_pair _ _).filter _) (tight_pair _ _) fun x => ?_
  rw [List.mem_filter, tight_tgt, tight_tgt]
  constructor
  · rintro ⟨⟨f, e, t, rfl⟩, h⟩
    have h2 : (e : Int) ≤ ns.length := of_decide_eq_true h
    exact ⟨f, e, (k f e (by omega)).mp t, rfl⟩
  · rintro ⟨f, e, t, rfl⟩
    have h2 := t.2.1
    exact ⟨⟨f, e, (k f e h2).mpr t, rfl⟩, decide_eq_true (by show (e : Int) ≤ ns.length; omega)⟩
theorem tight_app_take (ns B : List Int) (ps : List (Int × Int)) : (tightL (ns ++ B) ps).take (tightL ns ps).length = tightL ns ps := by
  obtain ⟨ys, e⟩ := tight_app ns B ps
  rw [e, List.take_left]
theorem sho_app {ns B : List Int} {ps : List (Int × Int)} {x y : Int} (h : shoP (tightL ns ps) = some (x, y)) : ∃ u v : Int, shoP (tightL (ns ++ B) ps) = some (u, v) ∧ v - u ≤ y - x := by
  obtain ⟨ys, e⟩ := tight_app ns B ps
  rcases shoP_spec (tightL ns ps) (tight_pair ns ps) with ⟨k, _⟩ | ⟨b, k, k2, _⟩
  · rw [k] at h; cases h
  · rw [k] at h
    injection h with h
    subst h
    rcases shoP_spec (tightL (ns ++ B) ps) (tight_pair _ ps) with ⟨_, m⟩ | ⟨⟨u, v⟩, m, _, m3⟩
    · rw [m] at e
      have := congrArg List.length e
      rw [List.length_append] at this
      have := List.length_pos_of_mem k2
      have h0 : ([] : List (Int × Int)).length = 0 := rfl
      omega
    · refine ⟨u, v, m, ?_⟩
      have := m3 (x, y) (by rw [e]; exact List.mem_append.mpr (.inl k2))
      unfold leW at this
      have t : v - u < y - x ∨ (v - u = y - x ∧ u ≤ x) := this
      omega
end Ur
namespace Ur
open PySem L2
theorem cntN_sub {W : List Int} {o s : Int} (h : ∀ z ∈ W, z ≠ s) : ∀ q ∈ cntN W o, q.1 ≠ s := fun q hq => by
  obtain ⟨z, hz, rfl⟩ := List.mem_map.mp hq
  exact h z ((mem_uni W z).mp hz)
/-- the names: 3, -10, 17, .. -/
def nmV (k : Nat) : Int := [(1 : Int), -1].getD (((k : Int) % 2).toNat) 0 * (7 * (k : Int) + 3)
theorem nmV_inj : ∀ i j, nmV i = nmV j → i = j := by
  intro i j h
  have k : ∀ n : Nat, (n % 2 = 0 ∧ nmV n = 7 * (n : Int) + 3) ∨ (n % 2 = 1 ∧ nmV n = -(7 * (n : Int) + 3)) := fun n => by
    unfold nmV
    rcases Nat.mod_two_eq_zero_or_one n with e | e
    · rw [show ((n : Int) % 2).toNat = 0 from by omega]
      exact .inl ⟨e, by show (1 : Int) * _ = _; omega⟩
    · rw [show ((n : Int) % 2).toNat = 1 from by omega]
      exact .inr ⟨e, by show (-1 : Int) * _ = _; omega⟩
  rcases k i with ⟨a, b⟩ | ⟨a, b⟩ <;> rcases k j with ⟨c, d⟩ | ⟨c, d⟩ <;> omega
end Ur
namespace Ur
open PySem L2
theorem dp_optP {K : PySem.W.Frag} {H : Hp} {v : V} {o : Option (Int × Int)} (h : OptP H v o) : ∃ d, Dp K H v d ∧ SeqAt.shaped d = true ∧ d = (match o with | none => PyData.none | some q => tupD [q.1, q.2]) := by
  rcases h.is with ⟨rfl, rfl⟩ | ⟨x, y, p, rfl, rfl, e⟩
  · exact ⟨_, .non, by decide, rfl⟩
  · exact ⟨_, dp_pair e, shaped_tup _, rfl⟩
theorem rNe_opt {K : PySem.W.Frag} {H : Hp} {v w : V} {o : Option (Int × Int)} {Q : VK} (h1 : OptP H v o) (h2 : OptP H w o) (k : Q (.bl false) H) : rNeD K v w H Q := by
  obtain ⟨d, a1, a2, a3⟩ := dp_optP (K := K) h1
  obtain ⟨e, b1, b2, b3⟩ := dp_optP (K := K) h2
  refine ⟨d, e, a1, b1, a2, b2, ?_⟩
  have : PyData.eqv d e = true := by
    rw [a3, b3]
    cases o with
    | none => rfl
    | some q =>
      show PyData.eqvAll _ _ = true
      rw [eqvAll_ints]
      exact decide_eq_true rfl
  rw [this]
  exact k
end Ur
namespace Ur
theorem num_ns {w i : Int} (h0 : 0 ≤ w) (h1 : w < 4) (i0 : 0 ≤ i) (i1 : i ≤ 306) : [i, i - 1, i * 10 ^ Int.toNat 17 - 10 ^ Int.toNat 20, (i % 2 * 2 - 1) * (10 ^ Int.toNat 20 - i)].getD w.toNat 0 ≠ 10000000000000000001 := by
  have e17 : (10 : Int) ^ Int.toNat 17 = 100000000000000000 := by decide
  have e20 : (10 : Int) ^ Int.toNat 20 = 100000000000000000000 := by decide
  rw [e17, e20]
  have hw : w = 0 ∨ w = 1 ∨ w = 2 ∨ w = 3 := by omega
  rcases hw with rfl | rfl | rfl | rfl
  · show i ≠ _; omega
  · show i - 1 ≠ _; omega
  · show i * 100000000000000000 - 100000000000000000000 ≠ _; omega
  · show (i % 2 * 2 - 1) * (100000000000000000000 - i) ≠ _
    rcases (show i % 2 = 0 ∨ i % 2 = 1 by omega) with e | e <;> rw [e] <;> omega
end Ur
namespace Ur
open PySem L2
theorem PairsF.rev {H : Hp} {ls : List Addr} {ps : List (Int × Int)} (r : PairsF H ls ps) : PairsF H ls.reverse ps.reverse := by
  have hl := r.len
  refine ⟨by rw [List.length_reverse, List.length_reverse, hl], fun k p h => ?_⟩
  have hk := (List.getElem?_eq_some_iff.mp h).1
  rw [List.length_reverse] at hk
  rw [List.getElem?_reverse hk] at h
  rw [r.row _ p h, List.getD_eq_getElem?_getD, List.getD_eq_getElem?_getD, List.getElem?_reverse (by omega), hl]
end Ur

namespace Ur
open PySem L2
/-! ### stretches of rows looked at otherwise -/
/-- a row whose windows have as many -/
structure Alike (ms ns : List Int) : Prop where
  len : ms.length = ns.length
  win : ∀ f b, f ≤ b → b ≤ ns.length → wunN ms f b = wunN ns f b
theorem Alike.map {g : Int → Int} {ns : List Int} (h : InjOn g ns) : Alike (ns.map g) ns := ⟨by rw [List.length_map], fun f b _ _ => wunN_map h f b⟩
theorem Alike.ulen {ms ns : List Int} (a : Alike ms ns) : ulen ms = ulen ns := by
  rw [← wunN_all, ← wunN_all, a.len, a.win 0 ns.length (Nat.zero_le _) (Nat.le_refl _)]
theorem Alike.endK {ms ns : List Int} (a : Alike ms ns) {f : Nat} {m : Int} : ∀ k, f + k ≤ ns.length → endK ms f m k = endK ns f m k
  | 0, h => by
    unfold Ur.endK
    rw [a.len, a.win f ns.length (by omega) (Nat.le_refl _)]
  | k + 1, h => by
    unfold Ur.endK
    rw [a.len, a.win f (ns.length - (k + 1)) (by omega) (by omega), a.endK k (by omega)]
theorem Alike.endAt {ms ns : List Int} (a : Alike ms ns) {f : Nat} {m : Int} (hf : f ≤ ns.length) : endAt ms f m = endAt ns f m := by
  unfold Ur.endAt
  rw [a.len]
  exact a.endK _ (by omega)
theorem Alike.wi {ms ns : List Int} (a : Alike ms ns) {f : Nat} {m : Int} (hf : f ≤ ns.length) : wi ms m f = wi ns m f := by
  unfold Ur.wi
  rw [a.endAt hf, a.len]
theorem Alike.strK {ms ns : List Int} (a : Alike ms ns) {m : Int} : ∀ k, k ≤ ns.length → strK ms m k = strK ns m k
  | 0, _ => rfl
  | k + 1, h => by rw [strK_s, strK_s, a.strK k (by omega), a.endAt (by omega), a.wi (by omega)]
theorem Alike.strL {ms ns : List Int} (a : Alike ms ns) (m : Int) : strL ms m = strL ns m := by
  unfold Ur.strL
  rw [a.len, a.strK _ (Nat.le_refl _)]
theorem Alike.lon {ms ns : List Int} (a : Alike ms ns) (m : Int) : lon ms m = lon ns m := by
  unfold Ur.lon
  rw [a.strL]
theorem Alike.sho {ms ns : List Int} (a : Alike ms ns) (m : Int) : sho ms m = sho ns m := by
  unfold Ur.sho
  rw [a.strL]
theorem Alike.hisN {ms ns : List Int} (a : Alike ms ns) (m : Int) : hisN ms m = hisN ns m := by
  unfold Ur.hisN
  rw [a.strL]
theorem Alike.lwK {ms ns : List Int} (a : Alike ms ns) {m : Int} : ∀ k, k ≤ ns.length → lwK ms m k = lwK ns m k
  | 0, _ => rfl
  | k + 1, h => by
    show better (Ur.lwK ms m k) k (Ur.wi ms m k) = better (Ur.lwK ns m k) k (Ur.wi ns m k)
    rw [a.lwK k (by omega), a.wi (by omega)]
theorem Alike.lwin {ms ns : List Int} (a : Alike ms ns) (m : Int) : lwin ms m = lwin ns m := by
  unfold Ur.lwin
  rw [a.len, a.lwK _ (Nat.le_refl _)]
theorem cntW_eq {ms ns : List Int} (hu : ulen ms = ulen ns) (h : ∀ m : Int, 1 ≤ m → hisN ms m = hisN ns m) : cntW ms = cntW ns := by
  refine List.ext_getElem (by rw [cntW_len, cntW_len, hu]) fun k h1 h2 => ?_
  have e1 : (cntW ms)[k] = (cntW ms).getD k 0 := by rw [List.getD_eq_getElem?_getD, List.getElem?_eq_getElem h1]; rfl
  have e2 : (cntW ns)[k] = (cntW ns).getD k 0 := by rw [List.getD_eq_getElem?_getD, List.getElem?_eq_getElem h2]; rfl
  rw [e1, e2]
  rw [cntW_len] at h1 h2
  by_cases z : k = 0
  · rw [z, cntW_0, cntW_0]
  · rw [cntW_his h1 (by omega), cntW_his h2 (by omega), h k (by omega)]
theorem Alike.cntW {ms ns : List Int} (a : Alike ms ns) : cntW ms = cntW ns := cntW_eq a.ulen fun m _ => a.hisN m
/-! sums by widths -/
theorem sumTo_tri (h : Nat → Nat → Int) (n : Nat) : sumTo (fun f => sumTo (fun t => h f t) (n - f)) n = sumTo (fun t => sumTo (fun f => h f t) (n - t)) n := by
  have e1 : sumTo (fun f => sumTo (fun t => h f t) (n - f)) n = sumTo (fun f => sumTo (fun t => if t < n - f then h f t else 0) n) n := sumTo_congr fun f hf => sumTo_cut _ (by omega)
  have e2 : sumTo (fun t => sumTo (fun f => h f t) (n - t)) n = sumTo (fun t => sumTo (fun f => if f < n - t then h f t else 0) n) n := sumTo_congr fun t ht => sumTo_cut _ (by omega)
  rw [e1, e2, sumTo_swap]
  refine sumTo_congr fun t ht => sumTo_congr fun f hf => ?_
  by_cases c : t < n - f
  · rw [if_pos c, if_pos (by omega)]
  · rw [if_neg c, if_neg (by omega)]
theorem sumTo_first (F : Nat → Int) : ∀ n, sumTo F (n + 1) = F 0 + sumTo (fun k => F (k + 1)) n
  | 0 => by show 0 + F 0 = F 0 + 0; omega
  | n + 1 => by
    show sumTo F (n + 1) + F (n + 1) = F 0 + (sumTo (fun k => F (k + 1)) n + F (n + 1))
    rw [sumTo_first F n]; omega
theorem sumTo_rev (F : Nat → Int) : ∀ n, sumTo (fun k => F (n - 1 - k)) n = sumTo F n
  | 0 => rfl
  | n + 1 => by
    rw [sumTo_first]
    have := sumTo_rev F n
    rw [show n + 1 - 1 - 0 = n by omega]
    have e : sumTo (fun k => F (n + 1 - 1 - (k + 1))) n = sumTo (fun k => F (n - 1 - k)) n := sumTo_congr fun k hk => by
      rw [show n + 1 - 1 - (k + 1) = n - 1 - k by omega]
    rw [e, this]
    show F n + sumTo F n = sumTo F n + F n
    omega
theorem his_rev {ns : List Int} {m : Int} (hm : 1 ≤ m) : hisN ns.reverse m = hisN ns m := by
  rw [hisN_cnt hm, hisN_cnt hm, List.length_reverse]
  unfold cntF
  rw [sumTo_tri (fun f t => if (wunN ns.reverse f (f + 1 + t) : Int) = m then 1 else 0), sumTo_tri (fun f t => if (wunN ns f (f + 1 + t) : Int) = m then 1 else 0)]
  refine sumTo_congr fun t ht => ?_
  rw [← sumTo_rev (fun f => if (wunN ns f (f + 1 + t) : Int) = m then 1 else 0)]
  refine sumTo_congr fun f hf => ?_
  rw [wunN_reverse (by omega) (by omega), show ns.length - (f + 1 + t) = ns.length - t - 1 - f by omega, show ns.length - f = ns.length - t - 1 - f + 1 + t by omega]
theorem cntW_rev (ns : List Int) : cntW ns.reverse = cntW ns := cntW_eq (ulen_rev ns) fun _ h => his_rev h
/-- all windows together -/
theorem cntW_sum (ns : List Int) : (cntW ns).sum = sumTo (fun f => ((ns.length - f : Nat) : Int)) ns.length := by
  unfold cntW dueCL
  rw [sum_range]
  have e0 : ∀ k, dueC ns ns.length 0 k = sumTo (fun g => cntF ns k g (ns.length - g)) ns.length := fun k => by
    show sumTo _ ns.length + 0 = _
    omega
  rw [sumTo_congr (fun k _ => e0 k), sumTo_swap]
  refine sumTo_congr fun f hf => ?_
  unfold cntF
  rw [sumTo_swap]
  have e1 : ∀ t, t < ns.length - f → sumTo (fun k : Nat => if (wunN ns f (f + 1 + t) : Int) = (k : Int) then (1 : Int) else 0) (ulen ns + 1) = 1 := fun t ht => by
    have hw := wunN_le (ns := ns) (f := f) (b := f + 1 + t) (by omega) (by omega)
    have := sumTo_count (wunN ns f (f + 1 + t) : Int) ((wunN ns f (f + 1 + t) : Int) + 1) (by omega) (by omega) (ulen ns + 1) (by omega)
    rw [show ((wunN ns f (f + 1 + t) : Int) + 1) - (wunN ns f (f + 1 + t) : Int) = 1 by omega] at this
    refine Eq.trans (sumTo_congr fun k _ => ?_) this
    by_cases c : (wunN ns f (f + 1 + t) : Int) = (k : Int)
    · rw [if_pos c, if_pos (by omega)]
    · rw [if_neg c, if_neg (by omega)]
  rw [sumTo_congr e1]
  have e2 : ∀ n : Nat, sumTo (fun _ => 1) n = (n : Int) := fun n => by
    induction n with
    | zero => rfl
    | succ n ih =>
      show sumTo (fun _ => 1) n + 1 = _
      rw [ih]; omega
  exact e2 _
theorem cntW_more (ns : List Int) (x : Int) : (cntW (ns ++ [x])).sum = (cntW ns).sum + ns.length + 1 := by
  rw [cntW_sum, cntW_sum, List.length_append]
  show sumTo (fun f => ((ns.length + 1 - f : Nat) : Int)) (ns.length + 1) = _
  rw [sumTo_first]
  have : sumTo (fun k => ((ns.length + 1 - (k + 1) : Nat) : Int)) ns.length = sumTo (fun f => ((ns.length - f : Nat) : Int)) ns.length := sumTo_congr fun k _ => by
    rw [show ns.length + 1 - (k + 1) = ns.length - k by omega]
  rw [this]
  omega
/-! ### a number behind, a number ahead -/
theorem endAt_app {ns B : List Int} {f : Nat} {m : Int} (hf : f ≤ ns.length) : (∃ e, endAt ns f m = some e ∧ endAt (ns ++ B) f m = some e) ∨ (endAt ns f m = none ∧ ∀ e, endAt (ns ++ B) f m = some e → ns.length < e) := by
  rcases endAt_spec (ns := ns) (f := f) (m := m) hf with ⟨h1, h2⟩ | ⟨e, h1, _⟩
  · refine .inr ⟨h1, fun e he => ?_⟩
    rcases endAt_spec (ns := ns ++ B) (f := f) (m := m) (by rw [List.length_append]; omega) with ⟨k1, _⟩ | ⟨e', k1, k2, k3, k4, _⟩
    · rw [k1] at he; cases he
    · rw [k1] at he
      injection he with he
      subst he
      by_cases c : ns.length < e'
      · exact c
      · have := wunN_shift (A := []) (ns := ns) (B := B) (f := f) (b := e') k2 (by omega)
        rw [List.nil_append, List.length_nil, Nat.zero_add, Nat.zero_add] at this
        rw [this] at k4
        exact absurd k4 (h2 e' k2 (by omega))
  · refine .inl ⟨e, h1, ?_⟩
    have := endAt_shift (A := []) (B := B) hf h1
    rwa [List.nil_append, List.length_nil, Nat.zero_add, Nat.zero_add] at this
def cutT (n : Int) (q : Int × Int × Int) : Int × Int × Int := (q.1, q.2.1, if n < q.2.2 then n else q.2.2)
theorem wi_app {ns B : List Int} {f : Nat} {m : Int} (hf : f ≤ ns.length) : (if (ns.length : Int) < wi (ns ++ B) m f then (ns.length : Int) else wi (ns ++ B) m f) = wi ns m f := by
  unfold wi
  rcases endAt_app (B := B) (m := m + 1) hf with ⟨e, h1, h2⟩ | ⟨h1, h2⟩
  · rw [h1, h2]
    rcases endAt_spec (ns := ns) (f := f) (m := m + 1) hf with ⟨k, _⟩ | ⟨e', k, _, k2, _⟩
    · rw [k] at h1; cases h1
    · rw [k] at h1
      injection h1 with h1
      subst h1
      exact if_neg (by show ¬ (ns.length : Int) < (e' : Int) - 1; omega)
  · rw [h1]
    cases he : endAt (ns ++ B) f (m + 1) with
    | none =>
      show (if (ns.length : Int) < ((ns ++ B).length : Int) then (ns.length : Int) else ((ns ++ B).length : Int)) = ns.length
      rw [List.length_append]
      split <;> omega
    | some e =>
      have := h2 e he
      show (if (ns.length : Int) < (e : Int) - 1 then (ns.length : Int) else (e : Int) - 1) = ns.length
      split <;> omega
theorem str_behind {ns : List Int} {x m : Int} (hm : 1 ≤ m) : ((strL (ns ++ [x]) m).filter fun q => decide (q.2.1 ≤ (ns.length : Int))).map (cutT ns.length) = strL ns m := by
  have k : ∀ k, k ≤ ns.length → ((strK (ns ++ [x]) m k).filter fun q => decide (q.2.1 ≤ (ns.length : Int))).map (cutT ns.length) = strK ns m k := by
    intro k
    induction k with
    | zero => intro _; rfl
    | succ k ih =>
      intro hk
      rw [strK_s, strK_s, List.filter_append, List.map_append, ih (by omega)]
      congr 1
      rcases endAt_app (B := [x]) (m := m) (show k ≤ ns.length by omega) with ⟨e, h1, h2⟩ | ⟨h1, h2⟩
      · rw [h1, h2]
        have hl : e ≤ ns.length := by
          rcases endAt_spec (ns := ns) (f := k) (m := m) (by omega) with ⟨z, _⟩ | ⟨e', z, _, z2, _⟩
          · rw [z] at h1; cases h1
          · rw [z] at h1; injection h1 with h1; omega
        have hw := wi_app (B := [x]) (m := m) (show k ≤ ns.length by omega)
        show List.map (cutT ns.length) (List.filter _ [((k : Int), (e : Int), wi (ns ++ [x]) m k)]) = [((k : Int), (e : Int), wi ns m k)]
        rw [List.filter_cons, if_pos (decide_eq_true (by show (e : Int) ≤ ns.length; omega))]
        show [((k : Int), (e : Int), if (ns.length : Int) < wi (ns ++ [x]) m k then (ns.length : Int) else wi (ns ++ [x]) m k)] = _
        rw [hw]
      · rw [h1]
        cases he : endAt (ns ++ [x]) k m with
        | none => rfl
        | some e =>
          have := h2 e he
          show List.map (cutT ns.length) (List.filter _ [((k : Int), (e : Int), wi (ns ++ [x]) m k)]) = []
          rw [List.filter_cons, if_neg]
          · rfl
          · rw [decide_eq_false (by show ¬ (e : Int) ≤ ns.length; omega)]
            exact Bool.false_ne_true
  unfold strL
  rw [if_neg (by omega), if_neg (by omega), List.length_append]
  show List.map _ (List.filter _ (strK (ns ++ [x]) m (ns.length + 1))) = _
  rw [strK_s, List.filter_append, List.map_append, k _ (Nat.le_refl _)]
  have : List.map (cutT ns.length) (List.filter (fun q => decide (q.2.1 ≤ (ns.length : Int))) ((endAt (ns ++ [x]) ns.length m).map fun (e : Nat) => ((ns.length : Int), (e : Int), wi (ns ++ [x]) m ns.length)).toList) = [] := by
    cases he : endAt (ns ++ [x]) ns.length m with
    | none => rfl
    | some e =>
      have hp := endAt_pos (by rw [List.length_append]; omega) hm he
      show List.map _ (List.filter _ [((ns.length : Int), (e : Int), wi (ns ++ [x]) m ns.length)]) = []
      rw [List.filter_cons, if_neg]
      · rfl
      · rw [decide_eq_false (by show ¬ (e : Int) ≤ ns.length; omega)]
        exact Bool.false_ne_true
  rw [this, List.append_nil]
def onT (q : Int × Int × Int) : Int × Int × Int := (q.1 + 1, q.2.1 + 1, q.2.2 + 1)
theorem endAt_ahead {ns : List Int} {x : Int} {f : Nat} {m : Int} (hf : f ≤ ns.length) : endAt ([x] ++ ns) (f + 1) m = (endAt ns f m).map (· + 1) := by
  rcases endAt_spec (ns := ns) (f := f) (m := m) hf with ⟨h1, h2⟩ | ⟨e, h1, _⟩
  · rw [h1]
    show _ = none
    rcases endAt_spec (ns := [x] ++ ns) (f := f + 1) (m := m) (by rw [List.length_append]; show f + 1 ≤ 1 + ns.length; omega) with ⟨k1, _⟩ | ⟨e', k1, k2, k3, k4, _⟩
    · exact k1
    · rw [List.length_append] at k3
      have k3' : e' ≤ 1 + ns.length := k3
      have := wunN_shift (A := [x]) (ns := ns) (B := []) (f := f) (b := e' - 1) (by omega) (by omega)
      rw [List.append_nil, show [x].length + f = f + 1 by show 1 + f = _; omega, show [x].length + (e' - 1) = e' by show 1 + (e' - 1) = _; omega] at this
      rw [this] at k4
      exact absurd k4 (h2 (e' - 1) (by omega) (by omega))
  · have := endAt_shift (A := [x]) (B := []) hf h1
    rw [List.append_nil, show [x].length + f = f + 1 by show 1 + f = _; omega, show [x].length + e = e + 1 by show 1 + e = _; omega] at this
    rw [this, h1]
    rfl
theorem wi_ahead {ns : List Int} {x : Int} {f : Nat} {m : Int} (hf : f ≤ ns.length) : wi ([x] ++ ns) m (f + 1) = wi ns m f + 1 := by
  unfold wi
  rw [endAt_ahead hf]
  cases endAt ns f (m + 1) with
  | none =>
    show (([x] ++ ns).length : Int) = (ns.length : Int) + 1
    rw [List.length_append]
    show ((1 + ns.length : Nat) : Int) = _
    omega
  | some e =>
    show (((e + 1 : Nat) : Int)) - 1 = (e : Int) - 1 + 1
    omega
theorem str_ahead {ns : List Int} {x m : Int} (hm : 1 ≤ m) : (strL ([x] ++ ns) m).filter (fun q => decide (q.1 > 0)) = (strL ns m).map onT := by
  have k : ∀ k, k ≤ ns.length → (strK ([x] ++ ns) m (k + 1)).filter (fun q => decide (q.1 > 0)) = (strK ns m k).map onT := by
    intro k
    induction k with
    | zero =>
      intro _
      rw [strK_s]
      show List.filter _ ([] ++ _) = []
      rw [List.nil_append]
      cases endAt ([x] ++ ns) 0 m with
      | none => rfl
      | some e => rfl
    | succ k ih =>
      intro hk
      rw [strK_s, strK_s ns, List.filter_append, List.map_append, ih (by omega)]
      congr 1
      rw [endAt_ahead (by omega), wi_ahead (by omega)]
      cases endAt ns k m with
      | none => rfl
      | some e =>
        show List.filter _ [(((k + 1 : Nat) : Int), ((e + 1 : Nat) : Int), wi ns m k + 1)] = [((k : Int) + 1, (e : Int) + 1, wi ns m k + 1)]
        rw [List.filter_cons, if_pos (decide_eq_true (by show ((k + 1 : Nat) : Int) > 0; omega))]
        rfl
  unfold strL
  rw [if_neg (by omega), if_neg (by omega), List.length_append]
  show List.filter _ (strK ([x] ++ ns) m (1 + ns.length)) = _
  rw [Nat.add_comm, k _ (Nat.le_refl _)]
/-! ### widths from behind -/
def optW (o : Option (Int × Int)) : Option Int := o.map fun q => q.2 - q.1
/-- a window of just so many, w wide -/
def Jst (ns : List Int) (m w : Int) : Prop := ∃ f b : Nat, f ≤ b ∧ b ≤ ns.length ∧ (wunN ns f b : Int) = m ∧ w = (b : Int) - f
def Wth (ns : List Int) (m w : Int) : Prop := ∃ f b : Nat, f ≤ b ∧ b ≤ ns.length ∧ (wunN ns f b : Int) ≤ m ∧ w = (b : Int) - f
theorem jst_rev {ns : List Int} {m w : Int} (h : Jst ns m w) : Jst ns.reverse m w := by
  obtain ⟨f, b, h1, h2, h3, h4⟩ := h
  refine ⟨ns.length - b, ns.length - f, by omega, by rw [List.length_reverse]; omega, ?_, by omega⟩
  rw [wunN_reverse (by omega) (by omega), show ns.length - (ns.length - f) = f by omega, show ns.length - (ns.length - b) = b by omega]
  exact h3
theorem wth_rev {ns : List Int} {m w : Int} (h : Wth ns m w) : Wth ns.reverse m w := by
  obtain ⟨f, b, h1, h2, h3, h4⟩ := h
  refine ⟨ns.length - b, ns.length - f, by omega, by rw [List.length_reverse]; omega, ?_, by omega⟩
  rw [wunN_reverse (by omega) (by omega), show ns.length - (ns.length - f) = f by omega, show ns.length - (ns.length - b) = b by omega]
  exact h3
theorem lonL_spec (qs : List (Int × Int × Int)) : (lonL qs = none ∧ qs = []) ∨ ∃ q ∈ qs, lonL qs = some (q.1, q.2.2) ∧ ∀ p ∈ qs, p.2.2 - p.1 ≤ q.2.2 - q.1 := by
  have k : ∀ l : List (Int × Int × Int), (lonL l.reverse = none ∧ l.reverse = []) ∨ ∃ q ∈ l.reverse, lonL l.reverse = some (q.1, q.2.2) ∧ ∀ p ∈ l.reverse, p.2.2 - p.1 ≤ q.2.2 - q.1 := by
    intro l
    induction l with
    | nil => exact .inl ⟨rfl, rfl⟩
    | cons x l ih =>
      rw [List.reverse_cons]
      rw [lonL_snoc]
      refine .inr ?_
      rcases ih with ⟨e, e2⟩ | ⟨q, hq, e, hle⟩
      · rw [e, e2]
        exact ⟨x, List.mem_append.mpr (.inr List.mem_cons_self), rfl, fun p hp => by
          rw [List.nil_append, List.mem_singleton] at hp
          rw [hp]
          exact Int.le_refl _⟩
      · rw [e]
        have hs : wbo (some (q.1, q.2.2)) x.1 x.2.2 = if x.2.2 - x.1 > q.2.2 - q.1 then some (x.1, x.2.2) else some (q.1, q.2.2) := rfl
        rw [hs]
        by_cases c : x.2.2 - x.1 > q.2.2 - q.1
        · rw [if_pos c]
          refine ⟨x, List.mem_append.mpr (.inr List.mem_cons_self), rfl, fun p hp => ?_⟩
          rcases List.mem_append.mp hp with z | z
          · have := hle p z; omega
          · rw [List.mem_singleton.mp z]; exact Int.le_refl _
        · rw [if_neg c]
          refine ⟨q, List.mem_append.mpr (.inl hq), rfl, fun p hp => ?_⟩
          rcases List.mem_append.mp hp with z | z
          · exact hle p z
          · rw [List.mem_singleton.mp z]; omega
  have := k qs.reverse
  rwa [List.reverse_reverse] at this
theorem shoL_spec (qs : List (Int × Int × Int)) : (shoL qs = none ∧ qs = []) ∨ ∃ q ∈ qs, shoL qs = some (q.1, q.2.1) ∧ ∀ p ∈ qs, q.2.1 - q.1 ≤ p.2.1 - p.1 := by
  have k : ∀ l : List (Int × Int × Int), (shoL l.reverse = none ∧ l.reverse = []) ∨ ∃ q ∈ l.reverse, shoL l.reverse = some (q.1, q.2.1) ∧ ∀ p ∈ l.reverse, q.2.1 - q.1 ≤ p.2.1 - p.1 := by
    intro l
    induction l with
    | nil => exact .inl ⟨rfl, rfl⟩
    | cons x l ih =>
      rw [List.reverse_cons]
      rw [shoL_snoc]
      refine .inr ?_
      rcases ih with ⟨e, e2⟩ | ⟨q, hq, e, hle⟩
      · rw [e, e2]
        exact ⟨x, List.mem_append.mpr (.inr List.mem_cons_self), rfl, fun p hp => by
          rw [List.nil_append, List.mem_singleton] at hp
          rw [hp]
          exact Int.le_refl _⟩
      · rw [e]
        have hs : sbo (some (q.1, q.2.1)) x.1 x.2.1 = if x.2.1 - x.1 < q.2.1 - q.1 then some (x.1, x.2.1) else some (q.1, q.2.1) := rfl
        rw [hs]
        by_cases c : x.2.1 - x.1 < q.2.1 - q.1
        · rw [if_pos c]
          refine ⟨x, List.mem_append.mpr (.inr List.mem_cons_self), rfl, fun p hp => ?_⟩
          rcases List.mem_append.mp hp with z | z
          · have := hle p z; omega
          · rw [List.mem_singleton.mp z]; exact Int.le_refl _
        · rw [if_neg c]
          refine ⟨q, List.mem_append.mpr (.inl hq), rfl, fun p hp => ?_⟩
          rcases List.mem_append.mp hp with z | z
          · exact hle p z
          · rw [List.mem_singleton.mp z]; omega
  have := k qs.reverse
  rwa [List.reverse_reverse] at this
theorem strL_has {ns : List Int} {m : Int} {f e : Nat} (hm : m ≠ 0) (hf : f < ns.length) (h : endAt ns f m = some e) : ((f : Int), (e : Int), wi ns m f) ∈ strL ns m := by
  unfold strL
  rw [if_neg hm]
  unfold strK
  rw [List.mem_filterMap]
  exact ⟨f, List.mem_range.mpr hf, by rw [h]; rfl⟩
/-- the widest, the narrowest -/
theorem lon_w {ns : List Int} {m : Int} (hm : 1 ≤ m) : (lon ns m = none ∧ sho ns m = none ∧ ∀ w, ¬ Jst ns m w) ∨ ∃ x y u v, lon ns m = some (x, y) ∧ sho ns m = some (u, v) ∧ Jst ns m (y - x) ∧ Jst ns m (v - u) ∧ ∀ w, Jst ns m w → v - u ≤ w ∧ w ≤ y - x := by
  have hj : ∀ w, Jst ns m w → ∃ q ∈ strL ns m, q.2.1 - q.1 ≤ w ∧ w ≤ q.2.2 - q.1 := fun w ⟨f, b, h1, h2, h3, h4⟩ => by
    obtain ⟨e, e1, e2, e3⟩ := (just_iff h1 h2 (by omega)).mp h3
    have hp := endAt_pos (by omega) hm e1
    have hlt : f < ns.length := by omega
    exact ⟨_, strL_has (by omega) hlt e1, by show (e : Int) - f ≤ w; omega, by show w ≤ wi ns m f - f; omega⟩
  have hq : ∀ q ∈ strL ns m, Jst ns m (q.2.1 - q.1) ∧ Jst ns m (q.2.2 - q.1) := fun q h => by
    obtain ⟨_, f, e, hf, he, rfl⟩ := strL_mem h
    obtain ⟨a1, a2, a3, _⟩ := endAt_just (by omega) (by omega) he
    have a4 := end_le_wi (by omega) (by omega) he
    obtain ⟨b1, b2, b3⟩ := wi_spec (ns := ns) (m := m) (f := f) (by omega) (by omega)
    have hb : wi ns m f = ((wi ns m f).toNat : Nat) := by omega
    refine ⟨⟨f, e, a1, a2, a3, rfl⟩, ⟨f, (wi ns m f).toNat, by omega, by omega, ?_, by show wi ns m f - f = _; omega⟩⟩
    exact (just_iff (by omega) (by omega) (by omega)).mpr ⟨e, he, by omega, by omega⟩
  unfold lon sho
  rcases lonL_spec (strL ns m) with ⟨e, e2⟩ | ⟨q, hq1, e, hle⟩
  · refine .inl ⟨e, by rw [e2]; rfl, fun w h => ?_⟩
    obtain ⟨q, h2, _⟩ := hj w h
    rw [e2] at h2
    cases h2
  · rcases shoL_spec (strL ns m) with ⟨_, e2⟩ | ⟨p, hp1, e', hle'⟩
    · rw [e2] at hq1; cases hq1
    · refine .inr ⟨_, _, _, _, e, e', (hq q hq1).2, (hq p hp1).1, fun w h => ?_⟩
      obtain ⟨r, h1, h2, h3⟩ := hj w h
      have := hle r h1
      have := hle' r h1
      omega
theorem lon_rev {ns : List Int} {m : Int} (hm : 1 ≤ m) : optW (lon ns.reverse m) = optW (lon ns m) ∧ optW (sho ns.reverse m) = optW (sho ns m) := by
  have back : ∀ w, Jst ns.reverse m w → Jst ns m w := fun w h => by have := jst_rev h; rwa [List.reverse_reverse] at this
  rcases lon_w (ns := ns) hm with ⟨a1, a2, a3⟩ | ⟨x, y, u, v, a1, a2, a3, a4, a5⟩
  · rcases lon_w (ns := ns.reverse) hm with ⟨b1, b2, b3⟩ | ⟨x', y', u', v', b1, b2, b3, b4, b5⟩
    · rw [a1, a2, b1, b2]; exact ⟨rfl, rfl⟩
    · exact absurd (back _ b3) (a3 _)
  · rcases lon_w (ns := ns.reverse) hm with ⟨b1, b2, b3⟩ | ⟨x', y', u', v', b1, b2, b3, b4, b5⟩
    · exact absurd (jst_rev a3) (b3 _)
    · have c1 := a5 _ (back _ b3)
      have c2 := a5 _ (back _ b4)
      have c3 := b5 _ (jst_rev a3)
      have c4 := b5 _ (jst_rev a4)
      rw [a1, a2, b1, b2]
      constructor
      · show some (y' - x') = some (y - x)
        congr 1; omega
      · show some (v' - u') = some (v - u)
        congr 1; omega
theorem lwK_w {ns : List Int} {m : Int} (h0 : 0 ≤ m) : ∀ k, k ≤ ns.length → Wth ns m ((lwK ns m k).2 - (lwK ns m k).1) ∧ ∀ f b : Nat, f < k → f ≤ b → b ≤ ns.length → (wunN ns f b : Int) ≤ m → (b : Int) - f ≤ (lwK ns m k).2 - (lwK ns m k).1
  | 0, _ => ⟨⟨0, 0, Nat.le_refl _, Nat.zero_le _, by rw [wunN_none]; exact h0, rfl⟩, fun f b h => absurd h (Nat.not_lt_zero f)⟩
  | k + 1, hk => by
    obtain ⟨i1, i2⟩ := lwK_w (ns := ns) h0 k (by omega)
    obtain ⟨b1, b2, b3⟩ := wi_spec (ns := ns) (m := m) (f := k) (by omega) h0
    have hw : Wth ns m (wi ns m k - k) := ⟨k, (wi ns m k).toNat, by omega, by omega, (b3 _ (by omega) (by omega)).mpr (by omega), by omega⟩
    have es : lwK ns m (k + 1) = if wi ns m k - k > (lwK ns m k).2 - (lwK ns m k).1 then ((k : Int), wi ns m k) else lwK ns m k := rfl
    rw [es]
    by_cases c : wi ns m k - k > (lwK ns m k).2 - (lwK ns m k).1
    · rw [if_pos c]
      refine ⟨hw, fun f b h1 h2 h3 h4 => ?_⟩
      show (b : Int) - f ≤ wi ns m k - k
      by_cases e : f = k
      · subst e
        have := (b3 b h2 h3).mp h4
        omega
      · have := i2 f b (by omega) h2 h3 h4
        omega
    · rw [if_neg c]
      refine ⟨i1, fun f b h1 h2 h3 h4 => ?_⟩
      by_cases e : f = k
      · subst e
        have := (b3 b h2 h3).mp h4
        omega
      · exact i2 f b (by omega) h2 h3 h4
theorem lwin_w {ns : List Int} {m : Int} (h0 : 0 ≤ m) : Wth ns m ((lwin ns m).2 - (lwin ns m).1) ∧ ∀ w, Wth ns m w → w ≤ (lwin ns m).2 - (lwin ns m).1 := by
  obtain ⟨h1, h2⟩ := lwK_w (ns := ns) h0 ns.length (Nat.le_refl _)
  refine ⟨h1, fun w ⟨f, b, k1, k2, k3, k4⟩ => ?_⟩
  by_cases c : f < ns.length
  · rw [k4]; exact h2 f b c k1 k2 k3
  · have := lwK_ok (ns := ns) h0 ns.length (Nat.le_refl _)
    show w ≤ (lwK ns m ns.length).2 - (lwK ns m ns.length).1
    omega
theorem lwin_rev {ns : List Int} {m : Int} (h0 : 0 ≤ m) : (lwin ns.reverse m).2 - (lwin ns.reverse m).1 = (lwin ns m).2 - (lwin ns m).1 := by
  obtain ⟨a1, a2⟩ := lwin_w (ns := ns) h0
  obtain ⟨b1, b2⟩ := lwin_w (ns := ns.reverse) h0
  have c1 := b2 _ (wth_rev a1)
  have c2 := a2 _ (by have := wth_rev b1; rwa [List.reverse_reverse] at this)
  omega
end Ur
namespace Ur
open PySem L2
section
variable {K : PySem.W.Frag} {a : Addr} {σ : L2.St} {H1 : Hp} {Dl : Addr} {te : TE} {tt : TT} {vs : List Nat} {Qd : Hp → Prop}
/-- [x for x in a list of triples if t]: the pairs themselves -/
theorem lc_tripsIfR {j : Nat} {ls : List Addr} {ps : List (Int × Int × Int)} (t : Int × Int × Int → Bool) (hn : ps.length ≤ 1000000) (ha : SqL K H1 a (ls.map V.ref)) (r : TripsF H1 ls ps) (hD : H1 Dl = none)
    (hw : ∀ x, wipe ((wipe σ vs).set j (some x)) vs = wipe σ vs)
    (ht : ∀ (q : Int × Int × Int) p H', q ∈ ps → Same H1 H' → H' p = some (.tup [.int q.1, .int q.2.1, .int q.2.2]) → ∀ Q' : Bool → Hp → Prop, (∀ H4, Same H' H4 → Q' (t q) H4) → tt ((wipe σ vs).set j (some (.ref p))) H' Q')
    (he : ∀ p H', Same H1 H' → ∀ Q' : VK, (∀ H4, Same H' H4 → Q' (.ref p) H4) → te ((wipe σ vs).set j (some (.ref p))) H' Q')
    (hd : ∀ H' qs, Same H1 H' → H' Dl = some (.lst (qs.map V.ref)) → TripsF H' qs (ps.filter t) → Qd H') :
    ∃ W : Nat → Nat → Hp → Prop, (∃ m, W 0 m (upd H1 Dl (.lst []))) ∧ ∀ i m H, W i m H →
      ((Itl K a).stop i H ∧ Qd H) ∨ ((Itl K a).go i H ∧ ∃ Nx : Hp → Prop, (∀ H', Nx H' → ∃ m', m' < m ∧ W (i + 1) m' H') ∧ ∀ x H', (Itl K a).yld i H x H' → gName j x (wipe σ vs) H' fun σ2 H2 => wipe σ2 vs = wipe σ vs ∧ tt σ2 H2 fun b H3 =>
        if b = true then te σ2 H3 fun y H4 => ∃ acc, H4 Dl = some (.lst acc) ∧ acc.length < sizeLine ∧ Nx (upd H4 Dl (.lst (acc ++ [y]))) else Nx H3) := by
  refine lc_list (K := K) (a := a) (xs := ls.map V.ref) (fun i H' => ∃ qs : List Addr, Same H1 H' ∧ H' Dl = some (.lst (qs.map V.ref)) ∧ TripsF H' qs ((ps.take i).filter t)) ⟨[], same_new hD, upd_same, by rw [List.take_zero]; exact TripsF.nil⟩ (fun i H' _ z => ?_) (fun i x H' hx z => ?_) (fun H' z => ?_)
  · obtain ⟨qs, s, _⟩ := z
    exact s.seq ha
  · obtain ⟨qs, s, eD, rq⟩ := z
    rw [List.getElem?_map] at hx
    obtain ⟨p, hp, rfl⟩ := Option.map_eq_some_iff.mp hx
    obtain ⟨h2, h2b, h3⟩ := TripsF.get r hp
    have e4 := s _ _ h3
    have hq : ps[i]? = some (ps.getD i (0, 0, 0)) := by rw [List.getD_eq_getElem?_getD, List.getElem?_eq_getElem h2]; rfl
    have e1 : ps.take (i + 1) = ps.take i ++ [ps.getD i (0, 0, 0)] := by rw [List.take_add_one, hq]; rfl
    refine ⟨hw _, ?_⟩
    refine ht _ p H' (List.mem_of_getElem? hq) s e4 _ fun H3 s3 => ?_
    cases hb : t (ps.getD i (0, 0, 0)) with
    | true =>
      refine (if_pos rfl).mpr ?_
      refine he p H3 (s.trans s3) _ fun H4 s4 => ?_
      have hrl := rq.len
      have hfl := List.length_filter_le t (ps.take i)
      rw [List.length_take] at hfl
      have e5 : H4 p = some (tr (ps.getD i (0, 0, 0))) := s4 _ _ (s3 _ _ e4)
      refine ⟨_, s4 _ _ (s3 _ _ eD), szl (by rw [List.length_map]; omega), qs ++ [p], same_upd' hD ((s.trans s3).trans s4), by rw [upd_same, List.map_append]; rfl, ?_⟩
      rw [e1, List.filter_append, List.filter_cons, if_pos hb]
      have hpD : p ≠ Dl := fun e => by rw [e, hD] at h3; cases h3
      refine ObjsF.upd (TripsF.snoc (ObjsF.same rq (s3.trans s4)) e5) ⟨fun z hz => ?_⟩
      rcases List.mem_append.mp hz with h | h
      · exact (TripsF.offL rq eD).out z h
      · rw [List.mem_singleton.mp h]; exact hpD
    | false =>
      refine (if_neg Bool.false_ne_true).mpr ⟨qs, s.trans s3, s3 _ _ eD, ?_⟩
      rw [e1, List.filter_append, List.filter_cons, if_neg (by rw [hb]; exact Bool.false_ne_true), List.filter_nil, List.append_nil]
      exact ObjsF.same rq s3
  · obtain ⟨qs, s, eD, rq⟩ := z
    have hl := r.len
    rw [List.length_map, hl, List.take_length] at rq
    exact hd H' qs s eD rq
/-- [e for x, y, z in a list of triples], each e a new triple -/
theorem lc_tripsT {j l k : Nat} {ls : List Addr} {ps : List (Int × Int × Int)} (g : Int × Int × Int → Int × Int × Int) (hn : ps.length ≤ 1000000) (ha : SqL K H1 a (ls.map V.ref)) (r : TripsF H1 ls ps) (hD : H1 Dl = none)
    (hw : ∀ x y z, wipe ((((wipe σ vs).set j (some x)).set l (some y)).set k (some z)) vs = wipe σ vs)
    (he : ∀ (q : Int × Int × Int) H', q ∈ ps → Same H1 H' → ∀ Q' : VK, (∀ p H4, Same H' H4 → H4 p = some (tr (g q)) → H' p = none → Q' (.ref p) H4) → te ((((wipe σ vs).set j (some (.int q.1))).set l (some (.int q.2.1))).set k (some (.int q.2.2))) H' Q')
    (hd : ∀ H' qs, Same H1 H' → H' Dl = some (.lst (qs.map V.ref)) → TripsF H' qs (ps.map g) → (∀ q ∈ qs, H1 q = none) → Qd H') :
    ∃ W : Nat → Nat → Hp → Prop, (∃ m, W 0 m (upd H1 Dl (.lst []))) ∧ ∀ i m H, W i m H →
      ((Itl K a).stop i H ∧ Qd H) ∨ ((Itl K a).go i H ∧ ∃ Nx : Hp → Prop, (∀ H', Nx H' → ∃ m', m' < m ∧ W (i + 1) m' H') ∧ ∀ x H', (Itl K a).yld i H x H' → gTup K 3 (gCons (gName j) (gCons (gName l) (gCons (gName k) gNil))) x (wipe σ vs) H' fun σ2 H2 => wipe σ2 vs = wipe σ vs ∧ tYes σ2 H2 fun b H3 =>
        if b = true then te σ2 H3 fun y H4 => ∃ acc, H4 Dl = some (.lst acc) ∧ acc.length < sizeLine ∧ Nx (upd H4 Dl (.lst (acc ++ [y]))) else Nx H3) := by
  refine lc_list (K := K) (a := a) (xs := ls.map V.ref) (fun i H' => ∃ qs : List Addr, Same H1 H' ∧ H' Dl = some (.lst (qs.map V.ref)) ∧ TripsF H' qs ((ps.take i).map g) ∧ (∀ q ∈ qs, H1 q = none)) ⟨[], same_new hD, upd_same, by rw [List.take_zero]; exact TripsF.nil, fun q h => nomatch h⟩ (fun i H' _ z => ?_) (fun i x H' hx z => ?_) (fun H' z => ?_)
  · obtain ⟨qs, s, _⟩ := z
    exact s.seq ha
  · obtain ⟨qs, s, eD, rq, f⟩ := z
    rw [List.getElem?_map] at hx
    obtain ⟨p, hp, rfl⟩ := Option.map_eq_some_iff.mp hx
    obtain ⟨h2, h2b, h3⟩ := TripsF.get r hp
    have e4 := s _ _ h3
    have hq : ps[i]? = some (ps.getD i (0, 0, 0)) := by rw [List.getD_eq_getElem?_getD, List.getElem?_eq_getElem h2]; rfl
    have e1 : ps.take (i + 1) = ps.take i ++ [ps.getD i (0, 0, 0)] := by rw [List.take_add_one, hq]; rfl
    refine ⟨p, _, rfl, .of e4, rfl, _, _, rfl, _, _, rfl, _, _, rfl, rfl, hw _ _ _, tyes_ok ?_⟩
    refine he _ H' (List.mem_of_getElem? hq) s _ fun n H4 s4 e5 nn => ?_
    have hrl := rq.len
    rw [List.length_map, List.length_take] at hrl
    have hnD : n ≠ Dl := fun e => by rw [e, eD] at nn; cases nn
    refine ⟨_, s4 _ _ eD, szl (by rw [List.length_map]; omega), qs ++ [n], same_upd' hD (s.trans s4), by rw [upd_same, List.map_append]; rfl, ?_, fun z hz => ?_⟩
    · rw [e1, List.map_append]
      have e6 : H4 n = some (tr (g (ps.getD i (0, 0, 0)))) := e5
      refine ObjsF.upd (TripsF.snoc (ObjsF.same rq s4) e6) ⟨fun z hz => ?_⟩
      rcases List.mem_append.mp hz with h | h
      · exact (TripsF.offL rq eD).out z h
      · rw [List.mem_singleton.mp h]; exact hnD
    · rcases List.mem_append.mp hz with h | h
      · exact f z h
      · rw [List.mem_singleton.mp h]; exact s.free nn
  · obtain ⟨qs, s, eD, rq, f⟩ := z
    have hl := r.len
    rw [List.length_map, hl, List.take_length] at rq
    exact hd H' qs s eD rq f
end
end Ur
namespace Ur
open PySem L2
def optI : Option Int → V
  | none => .non
  | some w => .int w
theorem scal_optI (o1 o2 : Option Int) : scal (optI o1) (optI o2) = true := by cases o1 <;> cases o2 <;> rfl
end Ur

namespace Ur
open PySem L2
/-! ### planted rows: round and round, and standing -/
def lawV (w i : Int) : Int := if w = 0 then i else if w = 1 then 100000000000000000000 - i else if w = 2 then (if i % 2 = 0 then -1 else 1) * (1000000000000000000 + i) else if w = 3 then i - 20 else 977 * i - 100000000000000000000
theorem lawV_inj {w i j : Int} (hi : 0 ≤ i) (hj : 0 ≤ j) (h : lawV w i = lawV w j) : i = j := by
  unfold lawV at h
  by_cases h0 : w = 0
  · rw [if_pos h0, if_pos h0] at h; exact h
  rw [if_neg h0, if_neg h0] at h
  by_cases h1 : w = 1
  · rw [if_pos h1, if_pos h1] at h; omega
  rw [if_neg h1, if_neg h1] at h
  by_cases h2 : w = 2
  · rw [if_pos h2, if_pos h2] at h
    by_cases a : i % 2 = 0
    · rw [if_pos a] at h
      by_cases b : j % 2 = 0
      · rw [if_pos b] at h; omega
      · rw [if_neg b] at h; omega
    · rw [if_neg a] at h
      by_cases b : j % 2 = 0
      · rw [if_pos b] at h; omega
      · rw [if_neg b] at h; omega
  rw [if_neg h2, if_neg h2] at h
  by_cases h3 : w = 3
  · rw [if_pos h3, if_pos h3] at h; omega
  · rw [if_neg h3, if_neg h3] at h; omega
def rowR (n t : Nat) : List Int := (List.range n).map fun k => ((k % t : Nat) : Int)
def rowS (n t : Nat) : List Int := (List.range n).map fun k => ((k / t : Nat) : Int)
theorem rowR_len (n t : Nat) : (rowR n t).length = n := by simp [rowR]
theorem rowS_len (n t : Nat) : (rowS n t).length = n := by simp [rowS]
theorem rowR_get {n t k : Nat} (h : k < n) : (rowR n t).getD k 0 = ((k % t : Nat) : Int) := by
  refine getD_of ?_
  unfold rowR
  rw [List.getElem?_map, List.getElem?_range h]
  rfl
theorem rowS_get {n t k : Nat} (h : k < n) : (rowS n t).getD k 0 = ((k / t : Nat) : Int) := by
  refine getD_of ?_
  unfold rowS
  rw [List.getElem?_map, List.getElem?_range h]
  rfl
theorem mod_near {t j b : Nat} (h1 : j < b) (h2 : b < j + t) : j % t ≠ b % t := by
  intro e
  have k1 := Nat.div_add_mod j t
  have k2 := Nat.div_add_mod b t
  rw [e] at k1
  have ht : 0 < t := by omega
  by_cases hq : j / t = b / t
  · rw [hq] at k1; omega
  · have hlt : j / t < b / t := by
      have := Nat.div_le_div_right (c := t) (Nat.le_of_lt h1)
      omega
    have h3 : t * (j / t + 1) ≤ t * (b / t) := Nat.mul_le_mul_left t hlt
    rw [Nat.mul_add, Nat.mul_one] at h3
    omega
theorem rowR_last {n t b : Nat} (ht : 1 ≤ t) (hb : b < n) : lastAt (rowR n t) b ((rowR n t).getD b 0) = if t ≤ b then ((b - t : Nat) : Int) else -1 := by
  refine lastAt_uniq ?_ fun j hj e => ?_
  · by_cases h : t ≤ b
    · rw [if_pos h]
      refine .inr ⟨b - t, rfl, by omega, ?_⟩
      rw [rowR_get (by omega), rowR_get hb]
      have : (b - t) % t = b % t := by rw [← Nat.add_mod_right (b - t) t, Nat.sub_add_cancel h]
      rw [this]
    · rw [if_neg h]; exact .inl rfl
  · rw [rowR_get (by omega), rowR_get hb] at e
    have e2 : j % t = b % t := by omega
    by_cases h : t ≤ b
    · rw [if_pos h]
      by_cases h2 : b < j + t
      · exact (mod_near hj h2 e2).elim
      · omega
    · exact (mod_near hj (by omega) e2).elim
theorem wun_rowR {n t f : Nat} (ht : 1 ≤ t) : ∀ k, f + k ≤ n → wunN (rowR n t) f (f + k) = min k t
  | 0, _ => by rw [Nat.add_zero, wunN_none, Nat.zero_min]
  | k + 1, h => by
    rw [← Nat.add_assoc, wunN_up (by omega) (by rw [rowR_len]; omega), wun_rowR ht k (by omega), rowR_last ht (by omega)]
    by_cases c : t ≤ f + k
    · rw [if_pos c]
      by_cases c2 : t ≤ k
      · rw [if_neg (by omega)]; omega
      · rw [if_pos (by omega)]; omega
    · rw [if_neg c, if_pos (by omega)]; omega
theorem wR {n t f b : Nat} (ht : 1 ≤ t) (h : f ≤ b) (hb : b ≤ n) : wunN (rowR n t) f b = min (b - f) t := by
  have := wun_rowR (n := n) (f := f) ht (b - f) (by omega)
  rwa [show f + (b - f) = b by omega] at this
theorem rowS_last {n t b : Nat} (ht : 1 ≤ t) (hb : b < n) : lastAt (rowS n t) b ((rowS n t).getD b 0) = if b % t = 0 then -1 else (b : Int) - 1 := by
  have kb := Nat.div_add_mod b t
  refine lastAt_uniq ?_ fun j hj e => ?_
  · by_cases h : b % t = 0
    · rw [if_pos h]; exact .inl rfl
    · rw [if_neg h]
      have hp : 0 < b := Nat.pos_of_ne_zero fun z => h (by rw [z, Nat.zero_mod])
      refine .inr ⟨b - 1, by omega, by omega, ?_⟩
      rw [rowS_get (by omega), rowS_get hb]
      have : (b - 1) / t = b / t := by
        refine Nat.div_eq_of_lt_le ?_ ?_
        · rw [Nat.mul_comm]; omega
        · have := Nat.mod_lt b (show t > 0 by omega)
          rw [Nat.add_mul, Nat.mul_comm (b / t)]; omega
      rw [this]
  · rw [rowS_get (by omega), rowS_get hb] at e
    have e2 : j / t = b / t := by omega
    by_cases h : b % t = 0
    · have kj := Nat.div_add_mod j t
      rw [e2] at kj
      omega
    · rw [if_neg h]; omega
theorem wun_rowS {n t f : Nat} (ht : 1 ≤ t) : ∀ k, f + k + 1 ≤ n → wunN (rowS n t) f (f + k + 1) = (f + k) / t - f / t + 1
  | 0, h => by
    simp only [Nat.add_zero]
    rw [wunN_up (Nat.le_refl f) (by rw [rowS_len]; omega), wunN_none, rowS_last ht (by omega)]
    by_cases c : f % t = 0
    · rw [if_pos c, if_pos (by omega)]; omega
    · rw [if_neg c, if_pos (by omega)]; omega
  | k + 1, h => by
    have ih := wun_rowS (n := n) (f := f) ht k (by omega)
    rw [wunN_up (by omega) (by rw [rowS_len]; omega), show f + (k + 1) = f + k + 1 by omega, ih, rowS_last ht (by omega)]
    have k1 := Nat.div_add_mod (f + k) t
    have k2 := Nat.mod_lt (f + k) (show t > 0 by omega)
    have mono := Nat.div_le_div_right (c := t) (show f ≤ f + k by omega)
    by_cases c : (f + k + 1) % t = 0
    · rw [if_pos c, if_pos (by omega)]
      have k3 := Nat.div_add_mod (f + k + 1) t
      rw [c] at k3
      have : (f + k + 1) / t = (f + k) / t + 1 := by
        refine Nat.div_eq_of_lt_le ?_ ?_
        · rw [Nat.add_mul, Nat.mul_comm]
          have hle : t * ((f + k) / t) < t * ((f + k + 1) / t) := by omega
          have := Nat.lt_of_mul_lt_mul_left hle
          have h4 : t * ((f + k) / t + 1) ≤ t * ((f + k + 1) / t) := Nat.mul_le_mul_left t this
          rw [Nat.mul_add] at h4
          omega
        · rw [Nat.add_mul, Nat.add_mul, Nat.mul_comm]; omega
      rw [this]; omega
    · rw [if_neg c, if_neg (by omega)]
      have k3 := Nat.div_add_mod (f + k + 1) t
      have k4 := Nat.mod_lt (f + k + 1) (show t > 0 by omega)
      have : (f + k + 1) / t = (f + k) / t := by
        refine Nat.div_eq_of_lt_le ?_ ?_
        · rw [Nat.mul_comm]; omega
        · rw [Nat.add_mul, Nat.mul_comm]
          by_cases z : (f + k) % t + 1 = t
          · exfalso
            have : (f + k + 1) = t * ((f + k) / t + 1) := by rw [Nat.mul_add]; omega
            rw [this, Nat.mul_mod_right] at c
            exact c rfl
          · omega
      rw [this]
theorem wS {n t f b : Nat} (ht : 1 ≤ t) (h : f < b) (hb : b ≤ n) : wunN (rowS n t) f b = (b - 1) / t - f / t + 1 := by
  have := wun_rowS (n := n) (f := f) ht (b - 1 - f) (by omega)
  rwa [show f + (b - 1 - f) + 1 = b by omega, show f + (b - 1 - f) = b - 1 by omega] at this
/-! ### lists of stretches -/
theorem wi_is {ns : List Int} {m : Int} {f w : Nat} (h0 : 0 ≤ m) (hf : f ≤ w) (hw : w ≤ ns.length) (h1 : (wunN ns f w : Int) ≤ m) (h2 : w = ns.length ∨ m < (wunN ns f (w + 1) : Int)) : wi ns m f = w := by
  obtain ⟨a, b, c⟩ := wi_spec (ns := ns) (m := m) (f := f) (by omega) h0
  have k1 := (c w hf hw).mp h1
  rcases h2 with h2 | h2
  · omega
  · by_cases z : w = ns.length
    · omega
    · have k2 : ¬ ((w + 1 : Nat) : Int) ≤ wi ns m f := fun z2 => by
        have := (c (w + 1) (by omega) (by omega)).mpr z2
        omega
      omega
theorem strK_is {ns : List Int} {m : Int} (c : Nat) (E W : Nat → Nat) (h : ∀ f, f < c → endAt ns f m = some (E f) ∧ wi ns m f = W f) : ∀ k, (∀ f, c ≤ f → f < k → endAt ns f m = none) → strK ns m k = (List.range (min k c)).map fun (f : Nat) => ((f : Int), (E f : Int), (W f : Int))
  | 0, _ => by rw [Nat.zero_min]; rfl
  | k + 1, hn => by
    rw [strK_s, strK_is c E W h k fun f h1 h2 => hn f h1 (by omega)]
    by_cases z : k < c
    · obtain ⟨e1, e2⟩ := h k z
      rw [e1, e2, show min (k + 1) c = min k c + 1 by omega, List.range_succ, List.map_append, show min k c = k by omega]
      rfl
    · rw [hn k (by omega) (by omega), show min (k + 1) c = min k c by omega]
      exact List.append_nil _
theorem strL_is {ns : List Int} {m : Int} (hm : 1 ≤ m) (c : Nat) (hc : c ≤ ns.length) (E W : Nat → Nat) (h : ∀ f, f < c → endAt ns f m = some (E f) ∧ wi ns m f = W f) (hn : ∀ f, c ≤ f → f < ns.length → endAt ns f m = none) : strL ns m = (List.range c).map fun (f : Nat) => ((f : Int), (E f : Int), (W f : Int)) := by
  unfold strL
  rw [if_neg (by omega), strK_is c E W h _ hn, show min ns.length c = c by omega]
theorem lon_stay {x y : Int} : ∀ qs : List (Int × Int × Int), (∀ p ∈ qs, p.2.2 - p.1 ≤ y - x) → qs.foldl (fun o q => wbo o q.1 q.2.2) (some (x, y)) = some (x, y)
  | [], _ => rfl
  | q :: qs, h => by
    rw [List.foldl_cons]
    have hq := h q List.mem_cons_self
    have : wbo (some (x, y)) q.1 q.2.2 = some (x, y) := by
      show (if q.2.2 - q.1 > y - x then some (q.1, q.2.2) else some (x, y)) = _
      rw [if_neg (by omega)]
    rw [this]
    exact lon_stay qs fun p hp => h p (List.mem_cons_of_mem _ hp)
theorem lonL_head {q : Int × Int × Int} {qs : List (Int × Int × Int)} (h : ∀ p ∈ qs, p.2.2 - p.1 ≤ q.2.2 - q.1) : lonL (q :: qs) = some (q.1, q.2.2) := lon_stay qs h
theorem sho_stay {x y : Int} : ∀ qs : List (Int × Int × Int), (∀ p ∈ qs, y - x ≤ p.2.1 - p.1) → qs.foldl (fun o q => sbo o q.1 q.2.1) (some (x, y)) = some (x, y)
  | [], _ => rfl
  | q :: qs, h => by
    rw [List.foldl_cons]
    have hq := h q List.mem_cons_self
    have : sbo (some (x, y)) q.1 q.2.1 = some (x, y) := by
      show (if q.2.1 - q.1 < y - x then some (q.1, q.2.1) else some (x, y)) = _
      rw [if_neg (by omega)]
    rw [this]
    exact sho_stay qs fun p hp => h p (List.mem_cons_of_mem _ hp)
theorem shoL_at {q : Int × Int × Int} {pre post : List (Int × Int × Int)} (h1 : ∀ p ∈ pre, q.2.1 - q.1 < p.2.1 - p.1) (h2 : ∀ p ∈ post, q.2.1 - q.1 ≤ p.2.1 - p.1) : shoL (pre ++ q :: post) = some (q.1, q.2.1) := by
  unfold shoL
  rw [List.foldl_append, List.foldl_cons]
  have : sbo (pre.foldl (fun o q => sbo o q.1 q.2.1) none) q.1 q.2.1 = some (q.1, q.2.1) := by
    rcases shoL_spec pre with ⟨e, _⟩ | ⟨p, hp, e, _⟩
    · unfold shoL at e; rw [e]; rfl
    · unfold shoL at e
      rw [e]
      have := h1 p hp
      show (if q.2.1 - q.1 < p.2.1 - p.1 then some (q.1, q.2.1) else some (p.1, p.2.1)) = _
      rw [if_pos this]
  rw [this]
  exact sho_stay post h2
theorem lwK_head {ns : List Int} {m : Int} (h : ∀ f : Nat, f < ns.length → wi ns m f - f ≤ wi ns m 0) (h0 : 0 ≤ wi ns m 0) : ∀ k, 1 ≤ k → k ≤ ns.length → lwK ns m k = (0, wi ns m 0)
  | 0, h, _ => by omega
  | 1, _, _ => by
    show better (0, 0) 0 (wi ns m 0) = _
    unfold better
    split
    · rfl
    · rename_i z
      have z2 : ¬ wi ns m 0 - 0 > 0 - 0 := z
      rw [show wi ns m 0 = 0 by omega]
  | k + 2, _, hk => by
    show better (lwK ns m (k + 1)) ((k + 1 : Nat) : Int) (wi ns m (k + 1)) = _
    rw [lwK_head h h0 (k + 1) (by omega) (by omega)]
    unfold better
    have := h (k + 1) (by omega)
    rw [if_neg]
    show ¬ wi ns m (k + 1) - ((k + 1 : Nat) : Int) > wi ns m 0 - 0
    omega
theorem lwin_head {ns : List Int} {m : Int} (hm : 0 ≤ m) (h : ∀ f : Nat, f < ns.length → wi ns m f - f ≤ wi ns m 0) : lwin ns m = (0, wi ns m 0) := by
  obtain ⟨a, b, _⟩ := wi_spec (ns := ns) (m := m) (f := 0) (by omega) hm
  unfold lwin
  by_cases z : ns.length = 0
  · rw [z]
    show (0, 0) = _
    rw [show wi ns m 0 = 0 by omega]
  · exact lwK_head h (by omega) _ (by omega) (Nat.le_refl _)
end Ur

namespace Ur
open PySem L2
/-! ### what planted rows answer -/
section
variable {n t : Nat}
theorem endR {f m : Nat} (h1 : 1 ≤ m) (ht : m ≤ t) (hf : f + m ≤ n) : endAt (rowR n t) f m = some (f + m) := by
  have hl := rowR_len n t
  refine endAt_is (by omega) (by omega) ?_ fun b hb1 hb2 => ?_
  · rw [wR (by omega) (by omega) hf]; omega
  · rw [wR (by omega) hb1 (by omega)]; omega
theorem endR_none {f : Nat} {m : Int} (ht : 1 ≤ t) (hf : f ≤ n) (h : ((min (n - f) t : Nat) : Int) < m) : endAt (rowR n t) f m = none := by
  refine endAt_none (by rw [rowR_len]; exact hf) ?_
  rw [rowR_len, wR ht hf (Nat.le_refl n)]
  exact h
theorem wiR {f m : Nat} (hm : m < t) (hf : f ≤ n) : wi (rowR n t) m f = ((min (f + m) n : Nat) : Int) := by
  have hl := rowR_len n t
  refine wi_is (by omega) (by omega) (by omega) ?_ ?_
  · rw [wR (by omega) (by omega) (by omega)]; omega
  · by_cases z : f + m < n
    · right
      rw [wR (by omega) (by omega) (by omega)]; omega
    · left; omega
theorem wiR2 {f : Nat} {m : Int} (ht : 1 ≤ t) (hm : (t : Int) ≤ m) (hf : f ≤ n) : wi (rowR n t) m f = n := by
  have hl := rowR_len n t
  refine wi_is (by omega) hf (by omega) ?_ (.inl hl.symm)
  rw [wR ht hf (Nat.le_refl n)]; omega
theorem strR1 {m : Nat} (h1 : 1 ≤ m) (hm : m < t) : strL (rowR n t) m = (List.range (n + 1 - m)).map fun (f : Nat) => ((f : Int), ((f + m : Nat) : Int), ((f + m : Nat) : Int)) := by
  have hl := rowR_len n t
  refine strL_is (by omega) (n + 1 - m) (by omega) (fun f => f + m) (fun f => f + m) (fun f hf => ⟨endR h1 (by omega) (by omega), ?_⟩) fun f h2 h3 => endR_none (by omega) (by omega) (by omega)
  rw [wiR hm (by omega)]
  have : min (f + m) n = f + m := by omega
  rw [this]
theorem strR2 (ht : 1 ≤ t) : strL (rowR n t) t = (List.range (n + 1 - t)).map fun (f : Nat) => ((f : Int), ((f + t : Nat) : Int), (n : Int)) := by
  have hl := rowR_len n t
  exact strL_is (by omega) (n + 1 - t) (by omega) (fun f => f + t) (fun _ => n) (fun f hf => ⟨endR ht (Nat.le_refl t) (by omega), wiR2 ht (Int.le_refl _) (by omega)⟩) fun f h2 h3 => endR_none ht (by omega) (by omega)
theorem range_head {c : Nat} (h : 1 ≤ c) : List.range c = 0 :: (List.range (c - 1)).map Nat.succ := by
  cases c with
  | zero => omega
  | succ c => exact List.range_succ_eq_map
theorem lonR1 {m : Nat} (h1 : 1 ≤ m) (hm : m < t) : lon (rowR n t) m = if m ≤ n then some (0, (m : Int)) else none := by
  unfold lon
  rw [strR1 h1 hm]
  by_cases z : m ≤ n
  · rw [if_pos z, range_head (by omega), List.map_cons]
    refine (lonL_head fun p hp => ?_).trans (by simp)
    obtain ⟨f, _, rfl⟩ := List.mem_map.mp hp
    show ((f + m : Nat) : Int) - (f : Int) ≤ ((0 + m : Nat) : Int) - ((0 : Nat) : Int)
    omega
  · rw [if_neg z, show n + 1 - m = 0 by omega]; rfl
theorem shoR1 {m : Nat} (h1 : 1 ≤ m) (hm : m < t) : sho (rowR n t) m = if m ≤ n then some (0, (m : Int)) else none := by
  unfold sho
  rw [strR1 h1 hm]
  by_cases z : m ≤ n
  · rw [if_pos z, range_head (by omega), List.map_cons]
    refine (shoL_at (pre := []) (fun _ h => nomatch h) fun p hp => ?_).trans (by simp)
    obtain ⟨f, _, rfl⟩ := List.mem_map.mp hp
    show ((0 + m : Nat) : Int) - ((0 : Nat) : Int) ≤ ((f + m : Nat) : Int) - (f : Int)
    omega
  · rw [if_neg z, show n + 1 - m = 0 by omega]; rfl
theorem lonR2 (ht : 1 ≤ t) (hn : t ≤ n) : lon (rowR n t) t = some (0, (n : Int)) := by
  unfold lon
  rw [strR2 ht, range_head (by omega), List.map_cons]
  refine (lonL_head fun p hp => ?_).trans (by simp)
  obtain ⟨f, _, rfl⟩ := List.mem_map.mp hp
  show (n : Int) - (f : Int) ≤ (n : Int) - ((0 : Nat) : Int)
  omega
theorem shoR2 (ht : 1 ≤ t) (hn : t ≤ n) : sho (rowR n t) t = some (0, (t : Int)) := by
  unfold sho
  rw [strR2 ht, range_head (by omega), List.map_cons]
  refine (shoL_at (pre := []) (fun _ h => nomatch h) fun p hp => ?_).trans (by simp)
  obtain ⟨f, _, rfl⟩ := List.mem_map.mp hp
  show ((0 + t : Nat) : Int) - ((0 : Nat) : Int) ≤ ((f + t : Nat) : Int) - (f : Int)
  omega
theorem sum_same (c : Nat) (x : Int) : ((List.range c).map fun _ => x).sum = c * x := by
  induction c with
  | zero => simp
  | succ c ih => rw [List.range_succ, List.map_append, List.sum_append, ih, Int.natCast_add, Int.add_mul]; simp
theorem hisR1 {m : Nat} (h1 : 1 ≤ m) (hm : m < t) : hisN (rowR n t) m = ((n + 1 - m : Nat) : Int) := by
  unfold hisN
  rw [strR1 h1 hm, List.map_map]
  have e : (List.range (n + 1 - m)).map ((fun q : Int × Int × Int => q.2.2 - q.2.1 + 1) ∘ fun (f : Nat) => ((f : Int), ((f + m : Nat) : Int), ((f + m : Nat) : Int))) = (List.range (n + 1 - m)).map fun _ => (1 : Int) := List.map_congr_left fun f _ => by
    show ((f + m : Nat) : Int) - ((f + m : Nat) : Int) + 1 = 1
    omega
  rw [e, sum_same, Int.mul_one]
theorem ulenR (ht : 1 ≤ t) : ulen (rowR n t) = min n t := by
  have := wR (n := n) (f := 0) (b := n) ht (by omega) (Nat.le_refl n)
  rw [← wunN_all, rowR_len, this, Nat.sub_zero]
theorem hisR0 (ht : 1 ≤ t) : hisN (rowR n t) ((t : Int) + 1) = 0 := his_none (by rw [ulenR ht]; omega)
theorem lwinR1 {m : Nat} (hm : m < t) : lwin (rowR n t) m = (0, ((min m n : Nat) : Int)) := by
  have hl := rowR_len n t
  have h0 := wiR (n := n) (f := 0) hm (by omega)
  rw [lwin_head (by omega) fun f hf => ?_, show ((0 : Nat) : Nat) = 0 from rfl, h0, Nat.zero_add]
  rw [wiR hm (by omega), h0]
  omega
theorem lwinR2 {m : Int} (ht : 1 ≤ t) (hm : (t : Int) ≤ m) : lwin (rowR n t) m = (0, (n : Int)) := by
  have hl := rowR_len n t
  have h0 := wiR2 (n := n) (f := 0) ht hm (by omega)
  rw [lwin_head (by omega) fun f hf => ?_, h0]
  rw [wiR2 ht hm (by omega), h0]
  omega
theorem cntR1 (n : Nat) : cntW (rowR n (n + 1)) = [0] ++ (List.range n).map fun (j : Nat) => (n : Int) - (1 + (j : Int)) + 1 := by
  have hu : ulen (rowR n (n + 1)) = n := by rw [ulenR (by omega)]; omega
  have hl := cntW_len (rowR n (n + 1))
  refine List.ext_getElem (by rw [hl, hu, List.length_append, List.length_map, List.length_range]; show n + 1 = 1 + n; omega) fun k h1 h2 => ?_
  rw [hl, hu] at h1
  have g : (cntW (rowR n (n + 1))).getD k 0 = (cntW (rowR n (n + 1)))[k]'(by rw [hl, hu]; exact h1) := by
    rw [List.getD_eq_getElem?_getD, List.getElem?_eq_getElem (by rw [hl, hu]; exact h1)]; rfl
  rw [← g]
  cases k with
  | zero => rw [cntW_0]; rfl
  | succ k =>
    rw [cntW_his (by rw [hu]; exact h1) (by omega), hisR1 (by omega) (by omega)]
    rw [List.getElem_append_right (by show 1 ≤ k + 1; omega), List.getElem_map, List.getElem_range]
    show ((n + 1 - (k + 1) : Nat) : Int) = (n : Int) - (1 + ((k + 1 - 1 : Nat) : Int)) + 1
    omega
theorem sum_down : ∀ n : Nat, ((List.range n).map fun (f : Nat) => (n : Int) - (f : Int)).sum = (n : Int) * ((n : Int) + 1) / 2
  | 0 => rfl
  | n + 1 => by
    have e : ((List.range (n + 1)).map fun (f : Nat) => ((n + 1 : Nat) : Int) - (f : Int)).sum = ((List.range n).map fun (f : Nat) => (n : Int) - (f : Int)).sum + ((n : Int) + 1) := by
      rw [List.range_succ_eq_map, List.map_cons, List.sum_cons, List.map_map]
      have : (List.range n).map ((fun (f : Nat) => ((n + 1 : Nat) : Int) - (f : Int)) ∘ Nat.succ) = (List.range n).map fun (f : Nat) => (n : Int) - (f : Int) := List.map_congr_left fun f _ => by
        show ((n + 1 : Nat) : Int) - ((f + 1 : Nat) : Int) = _
        omega
      rw [this]
      omega
    rw [e, sum_down n]
    have h : ((n + 1 : Nat) : Int) * (((n + 1 : Nat) : Int) + 1) = (n : Int) * ((n : Int) + 1) + ((n : Int) + 1) * 2 := by
      have : ((n + 1 : Nat) : Int) = (n : Int) + 1 := by omega
      rw [this, Int.mul_add ((n : Int) + 1) ((n : Int) + 1) 1, Int.mul_one, Int.add_mul (n : Int) 1 ((n : Int) + 1), Int.one_mul, Int.mul_comm ((n : Int) + 1) 2]
      omega
    rw [h]
    omega
theorem cntR2 (n : Nat) : cntW (rowR n 1) = if 0 < n then [0, (n : Int) * ((n : Int) + 1) / 2] else [0] := by
  have hl := cntW_len (rowR n 1)
  have hu : ulen (rowR n 1) = min n 1 := ulenR (Nat.le_refl 1)
  have h0 := cntW_0 (rowR n 1)
  by_cases z : 0 < n
  · rw [if_pos z]
    have hu2 : ulen (rowR n 1) = 1 := by omega
    have h1 := cntW_his (ns := rowR n 1) (k := 1) (by omega) (Nat.le_refl 1)
    have hh : hisN (rowR n 1) 1 = (n : Int) * ((n : Int) + 1) / 2 := by
      have e : strL (rowR n 1) (1 : Int) = _ := strR2 (n := n) (t := 1) (Nat.le_refl 1)
      unfold hisN
      rw [e, List.map_map, show n + 1 - 1 = n by omega, ← sum_down n]
      refine congrArg List.sum (List.map_congr_left fun f _ => ?_)
      show (n : Int) - ((f + 1 : Nat) : Int) + 1 = _
      omega
    rw [hu2] at hl
    match hc : cntW (rowR n 1), hl with
    | [x, y], _ =>
      rw [hc] at h0 h1
      have a : x = 0 := h0
      have b : y = hisN (rowR n 1) ((1 : Nat) : Int) := h1
      rw [a, b]
      rw [show ((1 : Nat) : Int) = 1 from rfl, hh]
  · rw [if_neg z]
    rw [show ulen (rowR n 1) = 0 by omega] at hl
    match hc : cntW (rowR n 1), hl with
    | [x], _ =>
      rw [hc] at h0
      have a : x = 0 := h0
      rw [a]
end
section
variable {t s k : Nat}
theorem dvm (f : Nat) (ht : 1 ≤ t) : t * (f / t) ≤ f ∧ f < t * (f / t) + t := by
  have h1 := Nat.div_add_mod f t
  have h2 := Nat.mod_lt f (show t > 0 by omega)
  omega
def eS (t k f : Nat) : Nat := max f (t * (f / t + (k - 1))) + 1
def wS' (t k f : Nat) : Nat := t * (f / t + k)
theorem div_eS {f : Nat} (ht : 1 ≤ t) (hk : 1 ≤ k) : max f (t * (f / t + (k - 1))) / t = f / t + (k - 1) := by
  by_cases z : k = 1
  · subst z
    rw [Nat.sub_self, Nat.add_zero, show max f (t * (f / t)) = f by have := (dvm f ht).1; omega]
  · have h1 := (dvm f ht).2
    have h2 : t * (f / t + 1) ≤ t * (f / t + (k - 1)) := Nat.mul_le_mul_left t (by omega)
    rw [Nat.mul_add, Nat.mul_one] at h2
    rw [show max f (t * (f / t + (k - 1))) = t * (f / t + (k - 1)) by omega, Nat.mul_div_cancel_left _ (by omega)]
theorem strS (ht : 1 ≤ t) (hk : 1 ≤ k) (hs : k ≤ s) : strL (rowS (t * s) t) k = (List.range (t * (s - k + 1))).map fun (f : Nat) => ((f : Int), (eS t k f : Int), (wS' t k f : Int)) := by
  have hl := rowS_len (t * s) t
  have hc : t * (s - k + 1) ≤ t * s := Nat.mul_le_mul_left t (by omega)
  refine strL_is (by omega) _ (by rw [hl]; exact hc) (eS t k) (wS' t k) (fun f hf => ?_) fun f h2 h3 => ?_
  · have hq : f / t < s - k + 1 := (Nat.div_lt_iff_lt_mul (by omega)).mpr (by rw [Nat.mul_comm]; exact hf)
    have hd := dvm f ht
    have hw : t * (f / t + k) ≤ t * s := Nat.mul_le_mul_left t (by omega)
    have hk1 : t * (f / t + (k - 1)) + t = t * (f / t + k) := by rw [← Nat.mul_succ]; congr 1; omega
    have he := div_eS (f := f) ht hk
    have hfw : f < t * (f / t + k) := by
      have : t * (f / t + 1) ≤ t * (f / t + k) := Nat.mul_le_mul_left t (by omega)
      rw [Nat.mul_add, Nat.mul_one] at this
      omega
    have hen : eS t k f ≤ t * s := by unfold eS; omega
    constructor
    · refine endAt_is (by unfold eS; omega) (by rw [hl]; exact hen) ?_ fun b hb1 hb2 => ?_
      · rw [wS ht (by unfold eS; omega) hen]
        unfold eS
        rw [Nat.add_sub_cancel, he]
        omega
      · by_cases z : b = f
        · rw [z, wunN_none]; omega
        · rw [wS ht (by omega) (by unfold eS at hb2; omega)]
          have mono := Nat.div_le_div_right (c := t) (show f ≤ b - 1 by omega)
          have hlt : (b - 1) / t < f / t + (k - 1) ∨ k = 1 := by
            by_cases k1 : k = 1
            · exact .inr k1
            · left
              unfold eS at hb2
              have h1 : t * (f / t + 1) ≤ t * (f / t + (k - 1)) := Nat.mul_le_mul_left t (by omega)
              rw [Nat.mul_add, Nat.mul_one] at h1
              refine (Nat.div_lt_iff_lt_mul (by omega)).mpr ?_
              rw [Nat.mul_comm]
              omega
          rcases hlt with hlt | hlt
          · omega
          · subst hlt
            unfold eS at hb2
            simp only [Nat.sub_self, Nat.add_zero] at hb2
            omega
    · refine wi_is (by omega) (by unfold wS'; omega) (by rw [hl]; exact hw) ?_ ?_
      · have : (wS' t k f - 1) / t = f / t + (k - 1) := by
          unfold wS'
          rw [← hk1]
          refine Nat.div_eq_of_lt_le ?_ ?_
          · rw [Nat.mul_comm]; omega
          · rw [Nat.add_mul, Nat.one_mul, Nat.mul_comm (f / t + (k - 1)) t]; omega
        rw [wS (b := wS' t k f) ht hfw hw, this]
        omega
      · by_cases z : wS' t k f = t * s
        · left; rw [hl]; exact z
        · right
          have hlt : wS' t k f < t * s := Nat.lt_of_le_of_ne hw z
          rw [wS ht (by unfold wS'; omega) (by omega), Nat.add_sub_cancel]
          unfold wS'
          rw [Nat.mul_div_cancel_left _ (by omega)]
          omega
  · rw [hl] at h3
    refine endAt_none (by rw [hl]; omega) ?_
    rw [hl, wS ht h3 (Nat.le_refl _)]
    have hq : s - k + 1 ≤ f / t := (Nat.le_div_iff_mul_le (by omega)).mpr (by rw [Nat.mul_comm]; exact h2)
    have : (t * s - 1) / t < s := (Nat.div_lt_iff_lt_mul (by omega)).mpr (by rw [Nat.mul_comm s t]; omega)
    have hfs : f / t < s := (Nat.div_lt_iff_lt_mul (by omega)).mpr (by rw [Nat.mul_comm s t]; exact h3)
    omega
theorem cS_pos (ht : 1 ≤ t) : 1 ≤ t * (s - k + 1) := Nat.mul_pos ht (by omega)
theorem lonS (ht : 1 ≤ t) (hk : 1 ≤ k) (hs : k ≤ s) : lon (rowS (t * s) t) k = some (0, (k : Int) * t) := by
  unfold lon
  rw [strS ht hk hs, range_head (cS_pos ht), List.map_cons]
  refine (lonL_head fun p hp => ?_).trans ?_
  · obtain ⟨f, _, rfl⟩ := List.mem_map.mp hp
    show ((wS' t k f : Nat) : Int) - (f : Int) ≤ ((wS' t k 0 : Nat) : Int) - ((0 : Nat) : Int)
    have := (dvm f ht).1
    unfold wS'
    rw [Nat.zero_div, Nat.zero_add, Nat.mul_add]
    omega
  · show some (((0 : Nat) : Int), ((wS' t k 0 : Nat) : Int)) = _
    unfold wS'
    rw [Nat.zero_div, Nat.zero_add, Int.natCast_mul, Int.mul_comm]
    rfl
theorem lwinS (ht : 1 ≤ t) (hk : 1 ≤ k) (hs : k ≤ s) : lwin (rowS (t * s) t) k = (0, (k : Int) * t) := by
  have hl := rowS_len (t * s) t
  have key : ∀ f, f < t * s → wi (rowS (t * s) t) k f ≤ ((f + t * k : Nat) : Int) := by
    intro f hf
    by_cases z : f + t * k < t * s
    · have hw := (wi_spec (ns := rowS (t * s) t) (m := k) (f := f) (by omega) (by omega)).2.2 (f + t * k + 1) (by omega) (by omega)
      have : (k : Int) < (wunN (rowS (t * s) t) f (f + t * k + 1) : Int) := by
        rw [wS ht (by omega) (by omega), Nat.add_sub_cancel, Nat.add_mul_div_left _ _ (by omega)]
        omega
      have hn : ¬ ((f + t * k + 1 : Nat) : Int) ≤ wi (rowS (t * s) t) k f := fun h => by
        have := hw.mpr h
        omega
      omega
    · have := (wi_spec (ns := rowS (t * s) t) (m := k) (f := f) (by omega) (by omega)).2.1
      omega
  have h0 : wi (rowS (t * s) t) k 0 = ((t * k : Nat) : Int) := by
    have hw : t * k ≤ t * s := Nat.mul_le_mul_left t hs
    have htk : 1 ≤ t * k := Nat.mul_pos ht hk
    have h1 := (wi_spec (ns := rowS (t * s) t) (m := k) (f := 0) (by omega) (by omega)).2.2 (t * k) (by omega) (by omega)
    have h2 : (wunN (rowS (t * s) t) 0 (t * k) : Int) ≤ k := by
      rw [wS ht (by omega) hw, Nat.zero_div]
      have : (t * k - 1) / t < k := (Nat.div_lt_iff_lt_mul (by omega)).mpr (by rw [Nat.mul_comm k t]; omega)
      omega
    have h3 := h1.mp h2
    have h4 := key 0 (by omega)
    omega
  rw [lwin_head (by omega) fun f hf => ?_, h0, Int.natCast_mul, Int.mul_comm]
  have := key f (by omega)
  omega
theorem shoS (ht : 1 ≤ t) (hk : 1 ≤ k) (hs : k ≤ s) : sho (rowS (t * s) t) k = if 1 < k then some ((t : Int) - 1, ((k : Int) - 1) * t + 1) else some (0, 1) := by
  unfold sho
  rw [strS ht hk hs]
  by_cases z : 1 < k
  · rw [if_pos z]
    have hc : t ≤ t * (s - k + 1) := Nat.le_mul_of_pos_right t (by omega)
    have hj : t - 1 < t * (s - k + 1) := by omega
    have hsp : List.range (t * (s - k + 1)) = List.range (t - 1) ++ (t - 1) :: (List.range (t * (s - k + 1))).drop (t - 1 + 1) := by
      have h1 := (List.take_append_drop (t - 1) (List.range (t * (s - k + 1)))).symm
      rw [List.take_range, show min (t - 1) (t * (s - k + 1)) = t - 1 by omega, List.drop_eq_getElem_cons (by rw [List.length_range]; exact hj), List.getElem_range] at h1
      exact h1
    have width : ∀ f : Nat, ((eS t k f : Nat) : Int) - f = (t * (f / t) : Nat) + (t * (k - 1) : Nat) + 1 - f := by
      intro f
      have h1 := (dvm f ht).2
      have h2 : t * 1 ≤ t * (k - 1) := Nat.mul_le_mul_left t (by omega)
      unfold eS
      rw [Nat.mul_add]
      omega
    rw [hsp, List.map_append, List.map_cons]
    refine (shoL_at (fun p hp => ?_) fun p hp => ?_).trans ?_
    · obtain ⟨f, hf, rfl⟩ := List.mem_map.mp hp
      have hf2 := List.mem_range.mp hf
      show ((eS t k (t - 1) : Nat) : Int) - ((t - 1 : Nat) : Int) < ((eS t k f : Nat) : Int) - (f : Int)
      rw [width, width, Nat.div_eq_of_lt (show t - 1 < t by omega), Nat.div_eq_of_lt (show f < t by omega)]
      omega
    · obtain ⟨f, hf, rfl⟩ := List.mem_map.mp hp
      show ((eS t k (t - 1) : Nat) : Int) - ((t - 1 : Nat) : Int) ≤ ((eS t k f : Nat) : Int) - (f : Int)
      have h1 := (dvm f ht).2
      rw [width, width, Nat.div_eq_of_lt (show t - 1 < t by omega)]
      omega
    · have h1 := width (t - 1)
      rw [Nat.div_eq_of_lt (show t - 1 < t by omega), Nat.mul_zero] at h1
      have h2 : ((t * (k - 1) : Nat) : Int) = ((k : Int) - 1) * t := by
        rw [Int.natCast_mul, Int.mul_comm, Int.natCast_sub (by omega)]; rfl
      show some (((t - 1 : Nat) : Int), ((eS t k (t - 1) : Nat) : Int)) = _
      rw [show ((t - 1 : Nat) : Int) = (t : Int) - 1 by omega, show ((eS t k (t - 1) : Nat) : Int) = ((k : Int) - 1) * t + 1 by rw [← h2]; omega]
  · have hk1 : k = 1 := by omega
    subst hk1
    rw [if_neg z, range_head (cS_pos ht), List.map_cons]
    have e1 : ∀ f, eS t 1 f = f + 1 := fun f => by
      unfold eS
      simp only [Nat.sub_self, Nat.add_zero]
      have := (dvm f ht).1
      omega
    refine (shoL_at (pre := []) (fun _ h => nomatch h) fun p hp => ?_).trans ?_
    · obtain ⟨f, _, rfl⟩ := List.mem_map.mp hp
      show ((eS t 1 0 : Nat) : Int) - ((0 : Nat) : Int) ≤ ((eS t 1 f : Nat) : Int) - (f : Int)
      rw [e1, e1]; omega
    · show some (((0 : Nat) : Int), ((eS t 1 0 : Nat) : Int)) = _
      rw [e1]; rfl
theorem sum_blocks (t : Nat) (ht : 1 ≤ t) : ∀ s : Nat, ((List.range (t * s)).map fun (f : Nat) => (t : Int) - ((f % t : Nat) : Int)).sum = (s : Int) * ((t : Int) * ((t : Int) + 1) / 2)
  | 0 => by rw [Nat.mul_zero]; simp
  | s + 1 => by
    rw [Nat.mul_succ, List.range_add, List.map_append, List.sum_append, sum_blocks t ht s, List.map_map]
    have e : (List.range t).map ((fun (f : Nat) => (t : Int) - ((f % t : Nat) : Int)) ∘ fun x => t * s + x) = (List.range t).map fun (f : Nat) => (t : Int) - (f : Int) := List.map_congr_left fun f hf => by
      show (t : Int) - (((t * s + f) % t : Nat) : Int) = _
      rw [Nat.mul_add_mod, Nat.mod_eq_of_lt (List.mem_range.mp hf)]
    rw [e, sum_down, Int.natCast_add, Int.add_mul]
    simp
theorem hisS (ht : 1 ≤ t) (hk : 1 ≤ k) (hs : k ≤ s) : hisN (rowS (t * s) t) k = if k = 1 then (s : Int) * ((t : Int) * ((t : Int) + 1) / 2) else ((s : Int) - k + 1) * t * t := by
  unfold hisN
  rw [strS ht hk hs, List.map_map]
  by_cases z : k = 1
  · subst z
    rw [if_pos rfl, show s - 1 + 1 = s by omega, ← sum_blocks t ht s]
    refine congrArg List.sum (List.map_congr_left fun f _ => ?_)
    show ((wS' t 1 f : Nat) : Int) - ((eS t 1 f : Nat) : Int) + 1 = _
    have h1 := Nat.div_add_mod f t
    have h2 := (dvm f ht).1
    unfold wS' eS
    simp only [Nat.sub_self, Nat.add_zero]
    rw [Nat.mul_add, Nat.mul_one]
    omega
  · rw [if_neg z]
    have e : (List.range (t * (s - k + 1))).map ((fun q : Int × Int × Int => q.2.2 - q.2.1 + 1) ∘ fun (f : Nat) => ((f : Int), (eS t k f : Int), (wS' t k f : Int))) = (List.range (t * (s - k + 1))).map fun _ => (t : Int) := List.map_congr_left fun f _ => by
      show ((wS' t k f : Nat) : Int) - ((eS t k f : Nat) : Int) + 1 = _
      have h1 := (dvm f ht).2
      have h2 : t * 1 ≤ t * (k - 1) := Nat.mul_le_mul_left t (by omega)
      have h3 : t * k = t * (k - 1) + t := by rw [← Nat.mul_succ]; congr 1; omega
      unfold wS' eS
      rw [Nat.mul_add, Nat.mul_add]
      omega
    rw [e, sum_same, Int.natCast_mul, show ((s - k + 1 : Nat) : Int) = (s : Int) - k + 1 by omega, Int.mul_comm (t : Int)]
end
end Ur

namespace Ur
open PySem L2 PySem.Spec PyProof.Rows
section
variable {K : PySem.W.Frag} {σ : L2.St} {H1 : Hp} {Dl : Addr} {te : TE} {tt : TT} {vs : List Nat} {Qd : Hp → Prop}
/-- [e for k in range(..) if t], each e a new tuple of three -/
theorem lc_rngIfT {j : Nat} {lo : Int} {n : Nat} (t : Nat → Bool) (g : Nat → Int × Int × Int) (hn : n ≤ 1000000) (hD : H1 Dl = none) (hw : ∀ x, wipe ((wipe σ vs).set j (some x)) vs = wipe σ vs)
    (ht : ∀ (k : Nat) H', k < n → Same H1 H' → ∀ Q' : Bool → Hp → Prop, (∀ H4, Same H' H4 → Q' (t k) H4) → tt ((wipe σ vs).set j (some (.int (lo + (k : Nat))))) H' Q')
    (he : ∀ (k : Nat) H', k < n → t k = true → Same H1 H' → ∀ Q' : VK, (∀ q H4, Same H' H4 → H4 q = some (tr (g k)) → H' q = none → Q' (.ref q) H4) → te ((wipe σ vs).set j (some (.int (lo + (k : Nat))))) H' Q')
    (hd : ∀ H' qs, Same H1 H' → H' Dl = some (.lst (qs.map V.ref)) → TripsF H' qs (((List.range n).filter t).map g) → (∀ q ∈ qs, H1 q = none) → Qd H') :
    ∃ W : Nat → Nat → Hp → Prop, (∃ m, W 0 m (upd H1 Dl (.lst []))) ∧ ∀ i m H, W i m H →
      ((Itr lo n).stop i H ∧ Qd H) ∨ ((Itr lo n).go i H ∧ ∃ Nx : Hp → Prop, (∀ H', Nx H' → ∃ m', m' < m ∧ W (i + 1) m' H') ∧ ∀ x H', (Itr lo n).yld i H x H' → gName j x (wipe σ vs) H' fun σ2 H2 => wipe σ2 vs = wipe σ vs ∧ tt σ2 H2 fun b H3 =>
        if b = true then te σ2 H3 fun y H4 => ∃ acc, H4 Dl = some (.lst acc) ∧ acc.length < sizeLine ∧ Nx (upd H4 Dl (.lst (acc ++ [y]))) else Nx H3) := by
  refine lc_range (lo := lo) (n := n) (fun i H' => ∃ qs : List Addr, Same H1 H' ∧ H' Dl = some (.lst (qs.map V.ref)) ∧ TripsF H' qs (((List.range i).filter t).map g) ∧ (∀ q ∈ qs, H1 q = none)) ⟨[], same_new hD, upd_same, TripsF.nil, fun q h => nomatch h⟩ (fun i H' hi p => ?_) (fun H' p => ?_)
  · obtain ⟨qs, s, eD, r, f⟩ := p
    refine ⟨hw _, ?_⟩
    refine ht i H' hi s _ fun H3 s3 => ?_
    cases hb : t i with
    | true =>
      refine (if_pos rfl).mpr ?_
      refine he i H3 hi hb (s.trans s3) _ fun q H4 s4 e4 nq => ?_
      have eD3 := s3 _ _ eD
      have hqD : q ≠ Dl := fun e => by rw [e, eD3] at nq; cases nq
      have hrl := r.len
      have hfl := List.length_filter_le t (List.range i)
      rw [List.length_range] at hfl
      rw [List.length_map] at hrl
      refine ⟨_, s4 _ _ eD3, szl (by rw [List.length_map]; omega), qs ++ [q], same_upd' hD ((s.trans s3).trans s4), by rw [upd_same, List.map_append]; rfl, ?_, fun p hp => ?_⟩
      · rw [List.range_succ, List.filter_append, List.map_append, List.filter_cons, if_pos hb]
        refine ObjsF.upd (TripsF.snoc (ObjsF.same r (s3.trans s4)) e4) ⟨fun z hz => ?_⟩
        rcases List.mem_append.mp hz with h | h
        · exact (TripsF.offL r eD).out z h
        · rw [List.mem_singleton.mp h]; exact hqD
      · rcases List.mem_append.mp hp with h | h
        · exact f p h
        · rw [List.mem_singleton.mp h]; exact (s.trans s3).free nq
    | false =>
      refine (if_neg Bool.false_ne_true).mpr ⟨qs, s.trans s3, s3 _ _ eD, ?_, f⟩
      rw [List.range_succ, List.filter_append, List.map_append, List.filter_cons, if_neg (by rw [hb]; exact Bool.false_ne_true)]
      rw [List.filter_nil, List.map_nil, List.append_nil]
      exact ObjsF.same r s3
  · obtain ⟨qs, s, eD, r, f⟩ := p
    exact hd H' qs s eD r f
end
theorem rEq_opt {K : PySem.W.Frag} {H : Hp} {v w : V} {o : Option (Int × Int)} {Q : VK} (h1 : OptP H v o) (h2 : OptP H w o) (k : Q (.bl true) H) : rEqD K v w H Q := by
  obtain ⟨d, a1, a2, a3⟩ := dp_optP (K := K) h1
  obtain ⟨e, b1, b2, b3⟩ := dp_optP (K := K) h2
  refine ⟨d, e, a1, b1, a2, b2, ?_⟩
  have : PyData.eqv d e = true := by
    rw [a3, b3]
    cases o with
    | none => rfl
    | some q =>
      show PyData.eqvAll _ _ = true
      rw [eqvAll_ints]
      exact decide_eq_true rfl
  rw [this]
  exact k
/-! ### the rows of the law -/
theorem strU {n k : Nat} (h1 : 1 ≤ k) : strL (rowR n (n + 1)) k = (List.range (n + 1 - k)).map fun (f : Nat) => ((f : Int), ((f + k : Nat) : Int), ((f + k : Nat) : Int)) := by
  by_cases h : k < n + 1
  · exact strR1 h1 h
  · rw [show n + 1 - k = 0 by omega]
    have hl := rowR_len n (n + 1)
    exact strL_is (by omega) 0 (by omega) (fun f => f + k) (fun f => f + k) (fun f hf => by omega) fun f _ h3 => endR_none (by omega) (by omega) (by omega)
theorem lonU {n k : Nat} : lon (rowR n (n + 1)) k = (if 1 ≤ k ∧ k ≤ n then some (0, (k : Int)) else none) ∧ sho (rowR n (n + 1)) k = if 1 ≤ k ∧ k ≤ n then some (0, (k : Int)) else none := by
  by_cases h0 : k = 0
  · subst h0; exact ⟨rfl, rfl⟩
  by_cases h : k < n + 1
  · rw [lonR1 (by omega) h, shoR1 (by omega) h, if_pos (by omega), if_pos (by omega)]
    exact ⟨rfl, rfl⟩
  · rw [if_neg (by omega)]
    unfold lon sho
    rw [strU (by omega), show n + 1 - k = 0 by omega]
    exact ⟨rfl, rfl⟩
theorem lwinU {n k : Nat} : lwin (rowR n (n + 1)) k = (0, ((min k n : Nat) : Int)) := by
  by_cases h : k < n + 1
  · exact lwinR1 h
  · rw [lwinR2 (by omega) (by omega), show min k n = n by omega]
theorem alikeR (w : Int) (n t : Nat) : Alike ((List.range n).map fun (k : Nat) => lawV w ((0 + (k : Int)) % (t : Int))) (rowR n t) := by
  have e : (List.range n).map (fun (k : Nat) => lawV w ((0 + (k : Int)) % (t : Int))) = (rowR n t).map (lawV w) := by
    unfold rowR
    rw [List.map_map]
    refine List.map_congr_left fun k _ => ?_
    show lawV w ((0 + (k : Int)) % (t : Int)) = lawV w ((k % t : Nat) : Int)
    rw [Int.zero_add, Int.natCast_emod]
  rw [e]
  refine Alike.map fun x hx y hy h => ?_
  unfold rowR at hx hy
  obtain ⟨_, _, rfl⟩ := List.mem_map.mp hx
  obtain ⟨_, _, rfl⟩ := List.mem_map.mp hy
  exact lawV_inj (Int.natCast_nonneg _) (Int.natCast_nonneg _) h
theorem alikeU (w : Int) (n : Nat) : Alike ((List.range n).map fun (k : Nat) => lawV w (0 + (k : Int))) (rowR n (n + 1)) := by
  have h := alikeR w n (n + 1)
  have e : (List.range n).map (fun (k : Nat) => lawV w ((0 + (k : Int)) % ((n + 1 : Nat) : Int))) = (List.range n).map fun (k : Nat) => lawV w (0 + (k : Int)) := List.map_congr_left fun k hk => by
    have := List.mem_range.mp hk
    rw [Int.emod_eq_of_lt (by omega) (by omega)]
  rwa [e] at h
theorem alikeS (w : Int) (n t : Nat) : Alike ((List.range n).map fun (k : Nat) => lawV w ((0 + (k : Int)) / (t : Int))) (rowS n t) := by
  have e : (List.range n).map (fun (k : Nat) => lawV w ((0 + (k : Int)) / (t : Int))) = (rowS n t).map (lawV w) := by
    unfold rowS
    rw [List.map_map]
    refine List.map_congr_left fun k _ => ?_
    show lawV w ((0 + (k : Int)) / (t : Int)) = lawV w ((k / t : Nat) : Int)
    rw [Int.zero_add, Int.natCast_ediv]
  rw [e]
  refine Alike.map fun x hx y hy h => ?_
  unfold rowS at hx hy
  obtain ⟨_, _, rfl⟩ := List.mem_map.mp hx
  obtain ⟨_, _, rfl⟩ := List.mem_map.mp hy
  exact lawV_inj (Int.natCast_nonneg _) (Int.natCast_nonneg _) h
theorem alike1 (x : Int) (n : Nat) : Alike (List.replicate n x) (rowR n 1) := by
  have e : List.replicate n x = (rowR n 1).map fun _ => x := by
    unfold rowR
    rw [List.map_map]
    refine List.ext_getElem (by simp) fun k h1 h2 => ?_
    simp
  rw [e]
  refine Alike.map fun a ha b hb _ => ?_
  unfold rowR at ha hb
  obtain ⟨k, _, rfl⟩ := List.mem_map.mp ha
  obtain ⟨j, _, rfl⟩ := List.mem_map.mp hb
  rw [Nat.mod_one, Nat.mod_one]
end Ur

namespace Ur
open PySem L2
/-! ### widths of planted rows -/
theorem Alike.ofW {ms ns : List Int} (a : Alike ms ns) (x : Nat) : ofW ms x = ofW ns x := by
  show (List.range (ms.length + 1 - x)).map _ = (List.range (ns.length + 1 - x)).map _
  rw [a.len]
  refine List.map_congr_left fun f hf => ?_
  have := List.mem_range.mp hf
  rw [a.win f (f + x) (by omega) (by omega)]
theorem Alike.sumsW {ms ns : List Int} (a : Alike ms ns) : sumsW ms = sumsW ns := by
  show (List.range (ms.length + 1)).map _ = (List.range (ns.length + 1)).map _
  rw [a.len]
  exact List.map_congr_left fun w _ => by rw [a.ofW w]
theorem ofW_R {n t x : Nat} (ht : 1 ≤ t) (hx : x ≤ n) : (List.range (n - x + 1)).map (fun _ => ((min x t : Nat) : Int)) = ofW (rowR n t) x := by
  show _ = (List.range ((rowR n t).length + 1 - x)).map _
  rw [rowR_len, show n + 1 - x = n - x + 1 by omega]
  refine List.map_congr_left fun f hf => ?_
  have := List.mem_range.mp hf
  rw [wR ht (by omega) (by omega), show f + x - f = x by omega]
theorem ofW_S {n t x : Nat} (ht : 1 ≤ t) (hx : x ≤ n) : (List.range (n - x + 1)).map (fun (f : Nat) => (((f : Int) + x - 1) / (t : Int) - (f : Int) / (t : Int) + 1) * (if (1 : Int) < x then 1 else (x : Int))) = ofW (rowS n t) x := by
  show _ = (List.range ((rowS n t).length + 1 - x)).map _
  rw [rowS_len, show n + 1 - x = n - x + 1 by omega]
  refine List.map_congr_left fun f hf => ?_
  have := List.mem_range.mp hf
  by_cases h0 : x = 0
  · subst h0
    rw [Nat.add_zero, wunN_none, if_neg (by decide)]
    exact Int.mul_zero _
  · have e1 : (if (1 : Int) < x then 1 else (x : Int)) = 1 := by split <;> omega
    have e2 : (f : Int) + x - 1 = ((f + x - 1 : Nat) : Int) := by omega
    have hd : f / t ≤ (f + x - 1) / t := Nat.div_le_div_right (by omega)
    rw [e1, e2, Int.mul_one, wS ht (by omega) (by omega), ← Int.natCast_ediv, ← Int.natCast_ediv]
    omega
theorem sum_alike : ∀ (n : Nat) (z : Int), ((List.range n).map fun _ => z).sum = z * n
  | 0, z => by simp
  | n + 1, z => by
    rw [List.range_succ, List.map_append, List.sum_append, sum_alike n z]
    simp [Int.mul_add]
theorem sumsW_R {n t : Nat} (ht : 1 ≤ t) : sumsW (rowR n t) = (List.range (n + 1)).map fun (w : Nat) => ((min w t : Nat) : Int) * ((n : Int) - (w : Int) + 1) := by
  show (List.range ((rowR n t).length + 1)).map _ = _
  rw [rowR_len]
  refine List.map_congr_left fun w hw => ?_
  have := List.mem_range.mp hw
  rw [← ofW_R ht (by omega), sum_alike]
  rw [show ((n - w + 1 : Nat) : Int) = (n : Int) - (w : Int) + 1 by omega]
end Ur

namespace Ur
open PySem PySem.Spec PyProof.Rows L2 LamX NdefX
/-! ### lambdas with parameters, handed to a def and called there -/
/-- the object at b is just o -/
def ExO (b : Addr) (o : Obj) : HO := .ext fun h => h.get? b = some o
section
variable {P : Program} {w : World} {K : PySem.W.Frag} {mg : Str → Option Value} {base : Heap} {A : Around} {outer : List Env} {s : Shared} {H HZ : Hp} {k : Nat}
theorem exO_at {h : Heap} {b : Addr} {o : Obj} (hok : HOk P w H h) (e : H b = some (ExO b o)) : h.get? b = some o := by
  obtain ⟨z, _, _⟩ := hok b _ e
  exact z
theorem exO_ok {h : Heap} {b : Addr} {o : Obj} (e : h.get? b = some o) : ObjOk P w H h b (ExO b o) := ⟨e, ⟨o, e⟩, fun _ _ q st => st _ q⟩
theorem exO_own {b c : Addr} {o : Obj} : ExO b o ≠ .own c := fun z => by
  unfold ExO at z
  cases z
theorem exO_tup {b : Addr} {o : Obj} {xs : List V} : ExO b o ≠ .tup xs := fun z => by
  unfold ExO at z
  cases z
/-- what of D the base has not -/
def offB (D : List Addr) (base : Heap) (b : Addr) : Prop := b ∈ D ∧ base.get? b = none
open Classical in
/-- .. is known from now on as it is -/
noncomputable def trk (D : List Addr) (base h : Heap) (H : Hp) : Hp := fun b => if offB D base b then (h.get? b).map (ExO b) else H b
open Classical in
/-- .. is known no more -/
noncomputable def drp (D : List Addr) (base : Heap) (H : Hp) : Hp := fun b => if offB D base b then none else H b
theorem trk_in {D : List Addr} {h : Heap} {b : Addr} {o : Obj} (i : offB D base b) (e : h.get? b = some o) : trk D base h H b = some (ExO b o) := by
  unfold trk
  rw [if_pos i, e] <;> rfl
theorem trk_out {D : List Addr} {h : Heap} {b : Addr} (i : ¬ offB D base b) : trk D base h H b = H b := by
  unfold trk
  rw [if_neg i]
theorem drp_in {D : List Addr} {b : Addr} (i : offB D base b) : drp D base H b = none := by
  unfold drp
  rw [if_pos i]
theorem drp_out {D : List Addr} {b : Addr} (i : ¬ offB D base b) : drp D base H b = H b := by
  unfold drp
  rw [if_neg i]
/-- things that no one tracks -/
def Loose (D : List Addr) (outer : List Env) (s : Shared) (H : Hp) : Prop := ∀ d ∈ D, H d = none ∧ d ∉ frs outer ∧ ∃ o, s.heap.get? d = some o
/-- things that are tracked as they are -/
def Tight (D : List Addr) (base : Heap) (H : Hp) : Prop := ∀ d, offB D base d → ∃ o, H d = some (ExO d o)
theorem trk_same {D : List Addr} (hD : Loose D outer s H) : Same H (trk D base s.heap H) := fun b o e => by
  have n : ¬ offB D base b := fun i => by
    rw [(hD b i.1).1] at e
    cases e
  rw [trk_out n]
  exact e
theorem trk_tight {D : List Addr} (hD : Loose D outer s H) : Tight D base (trk D base s.heap H) := fun d i => by
  obtain ⟨_, _, o, e⟩ := hD d i.1
  exact ⟨o, trk_in i e⟩
theorem env0_trk {D : List Addr} (e0 : Env0 P w K mg base A outer s H) (hD : Loose D outer s H) : Env0 P w K mg base A outer s (trk D base s.heap H) := by
  refine ⟨e0.frames, e0.mod, fun b o e => ?_, e0.bsz, e0.funs, fun b hb => ?_, fun b u q => ?_, e0.bare⟩
  · rw [trk_out fun i => by rw [i.2] at e; cases e]
    exact e0.bs b o e
  · rw [trk_out fun i => (hD b i.1).2.1 hb]
    exact e0.frf b hb
  · by_cases i : offB D base b
    · obtain ⟨_, _, o, e⟩ := hD b i.1
      rw [trk_in i e] at q
      cases q
      exact exO_ok e
    · rw [trk_out i] at q
      refine (e0.hok b u q).stay (fun _ _ _ e => e) (fun c e => ?_) fun c xs e => ?_
      · exact trk_same hD _ _ e
      · exact trk_same hD _ _ e
theorem drp_same {D : List Addr} (hD : Tight D base H) {b : Addr} {o : HO} (e : H b = some o) (n : ∀ x, o ≠ ExO b x) : drp D base H b = some o := by
  rw [drp_out fun i => ?_]
  · exact e
  · obtain ⟨x, q⟩ := hD b i
    rw [e] at q
    exact n x (Option.some.inj q)
theorem env0_drp {D : List Addr} (e0 : Env0 P w K mg base A outer s H) (hD : Tight D base H) : Env0 P w K mg base A outer s (drp D base H) := by
  refine ⟨e0.frames, e0.mod, fun b o e => ?_, e0.bsz, e0.funs, fun b hb => ?_, fun b u q => ?_, e0.bare⟩
  · rw [drp_out fun i => by rw [i.2] at e; cases e]
    exact e0.bs b o e
  · by_cases i : offB D base b
    · exact drp_in i
    · rw [drp_out i]
      exact e0.frf b hb
  · by_cases i : offB D base b
    · rw [drp_in i] at q
      cases q
    · rw [drp_out i] at q
      exact (e0.hok b u q).stay (fun _ _ _ e => e) (fun c e => drp_same hD e fun x z => exO_own z.symm) fun c xs e => drp_same hD e fun x z => exO_tup z.symm
/-- what a call leaves behind, seen by one who tracks less -/
theorem ce_drp {D : List Addr} {Q : VK} {u : Value} {s' : Shared} (e0 : Env0 P w K mg base A outer s H) (hD : Loose D outer s H)
    (h : CE outer P w (trk D base s.heap H) s (fun v H3 => Same (trk D base s.heap H) H3 ∧ ∀ H4, Same H H4 → (∀ b o, H4 b = some o → H3 b = some o) → Q v H4) u s') : CE outer P w H s Q u s' := by
  obtain ⟨v, H3, hos, hba, un, hok, rv, sm, q⟩ := h
  have e1 := env0_trk e0 hD
  have tg3 : Tight D base H3 := fun d i => by
    obtain ⟨o, e⟩ := trk_tight hD d i
    exact ⟨o, sm _ _ e⟩
  have at3 : ∀ b o, offB D base b → s.heap.get? b = some o → s'.heap.get? b = some o := fun b o i e => exO_at hok (sm _ _ (trk_in i e))
  refine ⟨v, drp D base H3, hos, hba, ⟨fun b o e n n1 n2 => ?_, fun b o e n n1 n2 => ?_, fun b o e n n1 => ?_, un.there, fun b xs e => ?_, fun b o x e => ?_, fun b ps e => ?_⟩, fun b x e => ?_, rv, q _ (fun b o e => ?_) fun b o e => ?_⟩
  · by_cases i : offB D base b
    · exact at3 b o i e
    · exact un.keep b o e (by rw [trk_out i]; exact n) n1 n2
  · exact un.slot b o e (by rw [trk_out fun i => (hD b i.1).2.1 n1]; exact n) n1 n2
  · by_cases i : offB D base b
    · exact drp_in i
    · rw [drp_out i]
      exact un.free b o e (by rw [trk_out i]; exact n) n1
  · exact drp_same tg3 (un.tups b xs (trk_same hD _ _ e)) fun x z => exO_tup z.symm
  · refine drp_same tg3 (un.frzs b o x (trk_same hD _ _ e)) fun y z => ?_
    unfold ExO at z
    cases z
  · obtain ⟨more, e'⟩ := un.tbls b ps (trk_same hD _ _ e)
    refine ⟨more, drp_same tg3 e' fun y z => ?_⟩
    unfold ExO at z
    cases z
  · by_cases i : offB D base b
    · rw [drp_in i] at e
      cases e
    · rw [drp_out i] at e
      exact (hok b x e).stay (fun _ _ _ e => e) (fun c e => drp_same tg3 e fun y z => exO_own z.symm) fun c xs e => drp_same tg3 e fun y z => exO_tup z.symm
  · have i : ¬ offB D base b := fun i => by
      rw [(hD b i.1).1] at e
      cases e
    rw [drp_out i]
    exact sm _ _ (trk_same hD _ _ e)
  · by_cases i : offB D base b
    · rw [drp_in i] at e
      cases e
    · rw [drp_out i] at e
      exact e
/-- .. by one who tracks more, and nothing was changed -/
theorem ce_undrp {D : List Addr} {r : V} {u : Value} {s' : Shared} (e0 : Env0 P w K mg base A outer s H) (hD : Tight D base H) (h : CE outer P w (drp D base H) s (fun v H' => v = r ∧ H' = drp D base H) u s') : CE outer P w H s (fun v H' => v = r ∧ H' = H) u s' := by
  obtain ⟨v, H3, hos, hba, un, hok, rv, hv, eH⟩ := h
  subst eH
  have dn : ∀ {b}, H b = none → drp D base H b = none := fun {b} e => by
    by_cases i : offB D base b
    · exact drp_in i
    · rw [drp_out i]
      exact e
  refine ⟨v, H, hos, hba, ⟨fun b o e n n1 n2 => un.keep b o e (dn n) n1 n2, fun b o e n n1 n2 => un.slot b o e (dn n) n1 n2, fun b o e n n1 => n, un.there, fun b xs e => e, fun b o x e => e, fun b ps e => ⟨#[], by rw [Array.append_empty]; exact e⟩⟩, fun b x e => ?_, rv, hv, rfl⟩
  by_cases i : offB D base b
  · obtain ⟨o, q⟩ := hD b i
    rw [e] at q
    cases q
    exact exO_ok (un.keep b o (exO_at e0.hok e) (drp_in i) (fun z => by rw [e0.frf b z] at e; cases e) (by simp))
  · refine (hok b x (by rw [drp_out i]; exact e)).stay (fun _ _ _ e => e) (fun c e => ?_) fun c xs e => ?_
    · by_cases j : offB D base c
      · rw [drp_in j] at e
        cases e
      · rw [drp_out j] at e
        exact e
    · by_cases j : offB D base c
      · rw [drp_in j] at e
        cases e
      · rw [drp_out j] at e
        exact e
/-! ### what a handed function answers -/
/-- small, and no less than 0 -/
structure Sm2 (a b : Int) : Prop where
  a0 : 0 ≤ a
  a1 : a ≤ 1000
  b0 : 0 ≤ b
  b1 : b ≤ 1000
/-- the function at f answers g a b and does nothing -/
def Acts (P : Program) (w : World) (K : PySem.W.Frag) (mg : Str → Option Value) (base : Heap) (k : Nat) (H : Hp) (f : Addr) (g : Int → Int → Int) : Prop :=
  ∃ D : List Addr, (∀ d ∈ D, H d ≠ none) ∧ ∀ (A : Around) (outer : List Env) (s : Shared) (HZ : Hp) (u1 u2 : Value) (a b : Int), Env0 P w K mg base A outer s HZ → (∀ d ∈ D, HZ d = H d) →
    PySem.W.FnAt f s.heap ∧ (Sm2 a b → Room k A → RelV (.int a) u1 → RelV (.int b) u2 → codeAny (model P w) A (.call (.ref f) ⟨[u1, u2], []⟩) (CR CX0 outer P w HZ s (fun v H' => v = .int (g a b) ∧ H' = HZ) E0) s)
theorem Acts.same {f : Addr} {g : Int → Int → Int} (x : Acts P w K mg base k H f g) (sm : Same H HZ) : Acts P w K mg base k HZ f g := by
  obtain ⟨D, h1, h2⟩ := x
  have eD : ∀ d ∈ D, HZ d = H d := fun d hd => by
    cases e : H d with
    | none => exact absurd e (h1 d hd)
    | some o => exact sm _ _ e
  exact ⟨D, fun d hd => by rw [eD d hd]; exact h1 d hd, fun A outer s HY u1 u2 a b e0 hD => h2 A outer s HY u1 u2 a b e0 fun d hd => (hD d hd).trans (eD d hd)⟩
end
def tActs (P : Program) (w : World) (K : PySem.W.Frag) (mg : Str → Option Value) (base : Heap) (k i : Nat) (t : TA) : TE := fun σ H Q => ∃ f g, σ[i]? = some (some (.ref f)) ∧ Acts P w K mg base k H f g ∧
  t σ H fun vs H2 => Acts P w K mg base k H2 f g ∧ ∃ a b, vs = [.int a, .int b] ∧ Sm2 a b ∧ Q (.int (g a b)) H2
/-- f(a, b), f a name that holds a handed function -/
theorem pe_acts {X : Cx} {P : Program} {w : World} {K : PySem.W.Frag} {mg : Str → Option Value} {base : Heap} {k i : Nat} {x : Str} {t : TA} {e : Expr} {es : List Expr} {p pos : Pos} (hX : X.prog = P ∧ X.w = w ∧ X.K = K ∧ X.mg = mg ∧ X.base = base) (hr : Room k X.A) (hN : X.N[i]? = some x) (hv : Vis X.env.scope x) (ha : PA X (e :: es) t)
    (hd : (x == ("__debug__" : Str)) = false := by decide) (hcd : (x == ("__classdict__" : Str)) = false := by decide)
    (he : starEach (e :: es) X.env = (false, eval e X.env) :: starEach es X.env := by rfl) (hpl : (backTo pos (starEach es X.env)).any (·.1) = false := by rfl) :
    PE X (.Call (.Name x p) (e :: es) [] pos) (tActs P w K mg base k i t) := by
  obtain ⟨rfl, rfl, rfl, rfl, rfl⟩ := hX
  refine ⟨fun pins s σ H Q I h => ?_⟩
  obtain ⟨f, g, hs, hA, ht⟩ := h
  refine wpAny_Call_Name_kw (thn ((pe_var (pos := p) hN hv hd hcd).run pins s σ H (fun v H1 => v = .ref f ∧ H1 = H) I ⟨.ref f, hs, rfl, rfl⟩) fun u s1 ⟨v, H1, I1, r1, q1⟩ => ?_)
  obtain ⟨ev, eH⟩ := q1
  subst ev
  rw [eH] at I1
  obtain rfl : u = Value.ref f := r1
  have fa : ∀ {H : Hp} {s : Shared}, Inv X pins σ H s → Acts X.prog X.w X.K X.mg X.base k H f g → PySem.W.FnAt f s.heap := fun I hA => by
    obtain ⟨D, _, h2⟩ := hA
    exact (h2 _ _ _ _ .none .none 0 0 I.env0 fun _ _ => rfl).1
  refine PySem.W.callWith_F (first := []) (fa I1 hA) (thn (ha.run pos pins s1 σ H _ I1 ht) fun us s2 ⟨vs, H2, I2, r, hA2, a, b, ev, hsm, q⟩ => ⟨fa I2 hA2, ?_⟩) he hpl
  subst ev
  cases r with
  | cons ra r =>
    cases r with
    | cons rb r =>
      cases r
      obtain ⟨D, _, h2⟩ := hA2
      refine wpAny_call (codeAny_mono ((h2 _ _ _ _ _ _ a b I2.env0 fun _ _ => rfl).2 hsm hr ra rb) fun r s' hq => ?_)
      cases r with
      | error e => exact hq.elim
      | ok fl =>
        cases fl with
        | ret u =>
          refine I2.after ?_
          obtain ⟨v, H3, hos, hba, un, hok, rv, hv, eH⟩ := hq
          exact ⟨v, H3, hos, hba, un, hok, rv, by rw [hv, eH]; exact q⟩
        | next => exact False.elim hq
        | brk => exact False.elim hq
        | cont => exact False.elim hq
/-! ### a lambda made and handed over -/
abbrev lamF (q : Str) (params : Arguments) (scope : Scope) (cl : List (Str × Addr)) (c' : Addr) : NF := ⟨"<lambda>", q, params, [], scope, cl, c'⟩
section
variable {P : Program} {w : World} {K : PySem.W.Frag} {mg : Str → Option Value} {base : Heap} {k : Nat}
/-- the lambda at f, its code object known, its cells as they were at s0 -/
theorem lam_acts {N fr ps : List Str} {ws : List (Option V)} {q : Str} {params : Arguments} {body : Expr} {scope : Scope} {cl : List (Str × Addr)} {pm ctv : Value} {f c' : Addr} {tb : TE} {g : Int → Int → Int} {s0 : Shared} {H1 : Hp} {outer0 : List Env}
    (S : NScope N ps fr scope) (hp : ps.length = 2) (hbind : ∀ us : List Value, us.length = ps.length → bindArgs (PySem.W.kla_fn "<lambda>" q params body scope cl pm (.ref c') ctv) ⟨us, []⟩ = pure (ps.zip us))
    (hf : s0.heap.get? f = some (PySem.W.kla_obj "<lambda>" q params body scope cl pm c' ctv)) (hc : H1 c' = some (CodeO c' q)) (C : CellsAt cl fr ws s0.heap H1) (hD : Loose (f :: cl.map (·.2)) outer0 s0 H1)
    (hbase : ∀ b o, base.get? b = some o → s0.heap.get? b = some o)
    (hbody : ∀ (A : Around) (outer : List Env) (s : Shared) (H : Hp), Room k (A.deeper (envF (lamF q params scope cl c') f s.heap.objs.size)) → PE (ncx CX0 P w K mg base N (lamF q params scope cl c') f A outer s H E0) body tb)
    (ht : ∀ (a b : Int) (H : Hp) (Q : VK), Sm2 a b → Q (.int (g a b)) H → tb (startF N [.int a, .int b] ws) H Q) : Acts P w K mg base (k + 1) (trk (f :: cl.map (·.2)) base s0.heap H1) f g := by
  have sm := trk_same (base := base) hD
  have at0 : ∀ {d : Addr} {o : Obj} {s : Shared} {HZ : Hp} {A : Around} {outer : List Env}, Env0 P w K mg base A outer s HZ → (∀ d ∈ c' :: (f :: cl.map (·.2)).filter (fun d => (base.get? d).isNone), HZ d = trk (f :: cl.map (·.2)) base s0.heap H1 d) → d ∈ f :: cl.map (·.2) → s0.heap.get? d = some o → s.heap.get? d = some o := by
    intro d o s HZ A outer e0 hZ hd e
    cases hb : base.get? d with
    | some o' =>
      have e1 := hbase d o' hb
      rw [e] at e1
      cases e1
      exact (e0.bs d _ hb).1
    | none =>
      refine exO_at e0.hok ((hZ d (List.mem_cons_of_mem _ (List.mem_filter.mpr ⟨hd, by rw [hb] <;> rfl⟩))).trans (trk_in ⟨hd, hb⟩ e))
  refine ⟨c' :: (f :: cl.map (·.2)).filter (fun d => (base.get? d).isNone), fun d hd => ?_, fun A outer s HZ u1 u2 a b e0 hZ => ?_⟩
  · rcases List.mem_cons.mp hd with e | hd
    · rw [e, sm _ _ hc]
      simp
    · obtain ⟨h1, h2⟩ := List.mem_filter.mp hd
      obtain ⟨_, _, o, e⟩ := hD d h1
      rw [trk_in ⟨h1, by simpa using h2⟩ e]
      simp
  have hfs := at0 e0 hZ List.mem_cons_self hf
  refine ⟨⟨_, _, _, _, hfs⟩, fun hsm hr ra rb => ?_⟩
  have hcz : HZ c' = some (CodeO c' q) := (hZ c' List.mem_cons_self).trans (sm _ _ hc)
  have lim : s.heap.NoLimit := e0.mod.nolimit.keeps fun b o e => (e0.bs b o e).1
  have tz : Tight (cl.map (·.2)) base HZ := fun d i => by
    have hm : d ∈ f :: cl.map (·.2) := List.mem_cons_of_mem _ i.1
    obtain ⟨_, _, o, e⟩ := hD d hm
    exact ⟨o, (hZ d (List.mem_cons_of_mem _ (List.mem_filter.mpr ⟨hm, by rw [i.2] <;> rfl⟩))).trans (trk_in ⟨hm, i.2⟩ e)⟩
  have e1 := env0_drp e0 tz
  have memC : ∀ {y c}, cl.lookup y = some c → c ∈ cl.map (·.2) := fun {y c} e => List.mem_map.mpr ⟨(y, c), PySem.mem_of_lookup e, rfl⟩
  have cellZ : ∀ {y c v}, cl.lookup y = some c → s0.heap.IsCell c v → s.heap.IsCell c v := fun {y c v} e ⟨o, ho, hd⟩ => ⟨o, at0 e0 hZ (List.mem_cons_of_mem _ (memC e)) ho, hd⟩
  have CZ : CellsAt cl fr ws s.heap (drp (cl.map (·.2)) base HZ) := by
    refine ⟨C.len, fun y c e => ⟨?_, ?_⟩, C.inj, fun i y e => ?_⟩
    · cases hb : base.get? c with
      | none => exact drp_in ⟨memC e, hb⟩
      | some o =>
        rw [drp_out fun i => by rw [i.2] at hb; cases hb]
        exact (e0.bs c o hb).2
    · obtain ⟨v, z⟩ := (C.all y c e).2
      exact ⟨v, cellZ e z⟩
    · obtain ⟨c, h1, h2⟩ := C.has i y e
      refine ⟨c, h1, fun v ev => ?_⟩
      obtain ⟨u, r, z⟩ := h2 v ev
      exact ⟨u, r, cellZ h1 z⟩
  have r2 : Vals [.int a, .int b] [u1, u2] := .cons ra (.cons rb .nil)
  refine codeAny_mono (R := CR CX0 outer P w (drp (cl.map (·.2)) base HZ) s (fun v H' => v = .int (g a b) ∧ H' = drp (cl.map (·.2)) base HZ) E0) ?_ fun r s' hq => ?_
  · refine PySem.W.kla_callFunE hr.depth hfs rfl S.co S.gen rfl (codeO_at e0.hok hcz) ?_
    rw [hbind [u1, u2] (by rw [hp] <;> rfl)]
    refine wpAny_pure (wpAny_newFunctionEnv S.nocell (fun ⟨n, _⟩ hy => S.par n (List.of_mem_zip hy).1) (fun h₁ hns hsb => ⟨lim.fresh _ hsb, ?_⟩) S.kind)
    show codeAny _ _ (.expr body (envF (lamF q params scope cl c') f s.heap.objs.size)) _ _
    have kp : ∀ b o, s.heap.get? b = some o → h₁.get? b = some o := fun b o e => hsb.extBut b o (Nat.ne_of_lt (Heap.lt_size e)) (Heap.get?_push_of_some _ e)
    have I : Inv (ncx CX0 P w K mg base N (lamF q params scope cl c') f A outer s (drp (cl.map (·.2)) base HZ) E0) [] (startF N [.int a, .int b] ws) (drp (cl.map (·.2)) base HZ) { s with heap := h₁, toks := s.toks + (ps.zip [u1, u2]).length } :=
      inv_startN (F := lamF q params scope cl c') S hr.hd e1 (by rw [hp] <;> rfl) r2 CZ hns kp
    refine PySem.W.kla_codeExpr (wpAny_mono ((hbody A outer s (drp (cl.map (·.2)) base HZ) (hr.deeper _)).run [] _ _ _ (fun v H' => v = .int (g a b) ∧ H' = drp (cl.map (·.2)) base HZ) I (ht a b _ _ hsm ⟨rfl, rfl⟩)) (fun v s' hq => ?_) fun e s' hq => hq)
    obtain ⟨w', H', J', rv, q⟩ := hq
    exact ⟨w', H', J'.os, J'.bare, J'.base, J'.hok, rv, q⟩
  · cases r with
    | error e => exact hq.elim
    | ok fl =>
      cases fl with
      | ret u => exact ce_undrp e0 tz hq
      | next => exact False.elim hq
      | brk => exact False.elim hq
      | cont => exact False.elim hq
end
/-- a word that the search does not open -/
structure Lh (p : Prop) : Prop where
  out : p
/-- x(e, lambda ..): the def x gets the lambda -/
def tLamH (T : List (Addr × Str)) (P : Program) (w : World) (K : PySem.W.Frag) (mg : Str → Option Value) (base : Heap) (k : Nat) (N : List Str) (js : List Nat) (sp : Sp) (te tb : TE) : TE := fun σ H Q => te σ H fun v H1 => Lh (Tabs T H1 ∧ ∃ g : Int → Int → Int,
  (∀ (a b : Int) (H : Hp) (Q : VK), Sm2 a b → Q (.int (g a b)) H → tb (startF N [.int a, .int b] (js.map (slotAt σ))) H Q) ∧
  ∀ (f : Addr) (H1' H2 : Hp), ExtN H1 H1' → Tabs T H1' → Same H1' H2 → H1' f = none → Acts P w K mg base (k + 1) H2 f g →
    sp [v, .ref f] H2 (fun v H3 => Same H2 H3 ∧ ∀ H4, Same H1' H4 → (∀ b o, H4 b = some o → H3 b = some o) → Q v H4) E0)
theorem pe_lamH {X : Cx} {T : List (Addr × Str)} {x : Str} {g c P : Addr} {k j : Nat} {fd : FuncData} {sp : Sp} {xps : List Str} {params : Arguments} {body e : Expr} {scope : Scope} {te tb : TE} {p lpos pos : Pos} {N ps fr : List Str} {js : List Nat}
    (F : FnOk X.prog X.w X.K X.mg X.base CX0 j g fd xps sp) (hr : Room j X.A) (hg : Gl X x) (hm : X.mg x = some (.ref g)) (hk : PySem.W.keepIn X.K (.ref g) = true) (hb : L2.Binds X.K fd xps [])
    (TB : TabB X.base X.mg c P) (hcode : X.env.code = .ref c) (hmT : (P, X.env.qual ++ "<lambda>") ∈ T) (hu : ∀ p ∈ T, p.1 = P → p.2 = X.env.qual ++ "<lambda>") (S : NScope N ps fr scope) (hp : ps.length = 2) (hdef : defaultsOf params X.env = ([], []))
    (hbind : ∀ (q : Str) (cl : List (Str × Addr)) (pm cv ctv : Value) (us : List Value), us.length = ps.length → bindArgs (PySem.W.kla_fn "<lambda>" q params body scope cl pm cv ctv) ⟨us, []⟩ = pure (ps.zip us))
    (hn : ndefB X.env.scope scope fr = true) (hjs : js.map (fun j => X.N[j]?) = fr.map some) (he : PE X e te)
    (hbody : ∀ (A : Around) (outer : List Env) (s : Shared) (H : Hp) (f c' : Addr), Room k (A.deeper (envF (lamF (X.env.qual ++ "<lambda>") params scope (cloFrom X.env.cells scope.names []) c') f s.heap.objs.size)) →
      PE (ncx CX0 X.prog X.w X.K X.mg X.base N (lamF (X.env.qual ++ "<lambda>") params scope (cloFrom X.env.cells scope.names []) c') f A outer s H E0) body tb)
    (hdb : (x == ("__debug__" : Str)) = false := by decide) (hse : starEach [e, .Lambda params body scope lpos] X.env = (false, eval e X.env) :: starEach [.Lambda params body scope lpos] X.env := by rfl) (hall : ∀ x, X.fn x = true := by intro _; rfl) :
    PE X (.Call (.Name x p) [e, .Lambda params body scope lpos] [] pos) (tLamH T X.prog X.w X.K X.mg X.base k N js sp te tb) := by
  refine ⟨fun pins s σ H Q I h => ?_⟩
  refine wpAny_Call_Name_kw (ld_glob I hg hm ?_ hdb)
  refine PySem.W.callWith_K (h₀ := X.base) I.ok.mod.kin hk ?_ hse (by rfl)
  rw [hse]
  show wpAny _ _ (spliced ((false, eval e X.env) :: (false, eval (.Lambda params body scope lpos) X.env) :: backTo pos (starEach [] X.env))) _ _ s
  refine Calls.spliced_cons (thn (he.run pins s σ H _ I h) fun u1 s1 ⟨v1, H1, I1, r1, ⟨hT, gg, hgg, q1⟩⟩ => ?_)
  have hfr := ndef_free hn
  have hfree : ∀ y ∈ scope.names, y.2 = .free → ∃ c, X.env.cells.lookup y.1 = some c := fun y hy e => (hfr y hy e).elim (fun z => I.ok.has _ (.inl z)) fun z => I.ok.has _ (.inr z)
  refine Calls.spliced_cons (lam_make2 I1 TB hcode hmT hu hT hdef hfree fun f c' pm' ctv H1' s2 I2 eN T1 hf hfn hff hco => ?_)
  refine Calls.spliced_nil ⟨I2.kIn, ?_⟩
  have C := cells_of I2 (Caps.made I2.ok hfr (ndef_fr hn) hjs)
  have memC : ∀ c ∈ (cloFrom X.env.cells scope.names []).map (·.2), ∃ y, X.env.cells.lookup y = some c := fun c hc => by
    obtain ⟨⟨y, c2⟩, hm, rfl⟩ := List.mem_map.mp hc
    rcases cloFrom_mem hm with z | ⟨z1, z2⟩
    · cases z
    · obtain ⟨c1, h1⟩ := hfree _ z1 rfl
      have h1 : X.env.cells.lookup y = some c1 := h1
      refine ⟨y, ?_⟩
      rw [z2, h1] <;> rfl
  have hD : Loose (f :: (cloFrom X.env.cells scope.names []).map (·.2)) X.stack s2 H1' := fun d hd => by
    rcases List.mem_cons.mp hd with e | hd
    · rw [e]
      exact ⟨hfn, hff, _, hf⟩
    · obtain ⟨y, hy⟩ := memC d hd
      obtain ⟨v, o, ho, hod⟩ := I2.cell y d hy
      refine ⟨I2.freeC y d hy, fun z => ?_, o, ho⟩
      rcases List.mem_cons.mp (I2.stkSub d z) with e | z
      · exact I2.cne y d hy e
      · obtain ⟨_, o2, ho2, _⟩ := I2.ok.funs.mem z
        exact absurd (Nat.lt_of_lt_of_le (Heap.lt_size ho2) (I2.ok.cab y d (hall y) hy)) (Nat.lt_irrefl _)
  have hA := lam_acts (P := X.prog) (w := X.w) (K := X.K) (mg := X.mg) (base := X.base) (k := k) (tb := tb) (g := gg) (outer0 := X.stack) S hp (hbind _ _ _ _ _) hf hco C hD (fun b o e => I2.bk b o e) (fun A outer s H hr => hbody A outer s H f c' hr) hgg
  have e2 := env0_trk (base := X.base) I2.env0 hD
  have r2 : Vals [v1, .ref f] [u1, .ref f] := .cons r1 (.cons rfl .nil)
  have hsp := q1 f H1' _ eN T1 (trk_same hD) hfn hA
  have hl : ([u1, .ref f] ++ []).length = xps.length := by
    have z := F.len _ _ _ _ hsp
    rw [← z]
    rfl
  refine wpAny_call (codeAny_mono (F.run X.A X.stack s2 _ ⟨[u1, .ref f], []⟩ ([u1, .ref f] ++ []) [v1, .ref f] _ _ hr e2 (hb s2 [u1, .ref f] I2.kIn hl) (by simpa using r2) hsp) fun r s' hq => ?_)
  cases r with
  | error e => exact hq.elim
  | ok fl =>
    cases fl with
    | ret u => exact I2.after (ce_drp I2.env0 hD hq)
    | next => exact False.elim hq
    | brk => exact False.elim hq
    | cont => exact False.elim hq
/-- a def whose code object is known -/
theorem mkOk {P : Program} {w : World} {K : PySem.W.Frag} {mg : Str → Option Value} {base : Heap} {x qual : Str} {st : Stmt} {f : Addr} {oc kV doc pm cdv ct : Value} {od an : Option Addr} {osl : Array (Option Value)} {N ps : List Str} {k : Nat} {sp : Sp}
    (lk : K.lookup f = some ⟨oc, od, .func (PySem.W.fnOf x qual (defArgs st) (defBody st) (defScope st) .none kV doc pm an cdv ct), osl⟩) (hcd : PySem.W.codeIn K cdv qual = true) (S : FnScope N ps (defScope st)) (len : ∀ vs H Q E, sp vs H Q E → vs.length = ps.length)
    (hbody : ∀ (A : Around) (outer : List Env) (s : Shared) (H : Hp) (vs : List V) (Q : VK) (E : XK), Room k (A.deeper (envOfC qual (defScope st) s.heap.objs.size f cdv)) → sp vs H Q E →
      ∃ t, PSs (cxOf CX0 P w K mg base N qual (defScope st) f cdv A outer s H E).nox (defBody st) t ∧ t { nx := fun _ H' => Q .non H', rt := Q } (start N vs) H) : FnOk P w K mg base CX0 (k + 1) f (PySem.W.fnOf x qual (defArgs st) (defBody st) (defScope st) .none kV doc pm an cdv ct) ps sp := by
  refine fn_of lk hcd S len fun A outer s H vs Q E hr hsp => ?_
  obtain ⟨t, h, q⟩ := hbody A outer s H vs Q E hr hsp
  exact ⟨t, h.nox, q⟩
end Ur

local macro_rules | `(tactic| kct_strs) => `(tactic| first
  | (with_reducible assumption)
  | ((with_reducible show (_ : Option L2.HO) = some _); first
    | (with_reducible exact Ur.upd_snoc)
    | (with_reducible exact Ur.upd_cutto (by omega))
    | (with_reducible exact Ur.upd_cutmid (by omega) (by omega))
    | (with_reducible exact Ur.upd_cutfrom (by omega))
    | (with_reducible exact Ur.upd_cutall)
    | (with_reducible exact Ur.upd_set)
    | (with_reducible exact Ur.upd_app)
    | (with_reducible exact Ur.upd_rep)
    | (with_reducible exact Ur.upd_rep0)
    | (with_reducible exact Ur.upd_1cat)
    | (with_reducible exact L2.upd_same)
    | ((with_reducible apply Ur.dead_upd); exact L2.upd_same)
    | ((fail_if_success (with_reducible apply Ur.dead_upd)); (with_reducible apply Ur.get_upd); (focus kcj_m); kct_strs)
    | ((with_reducible apply Ur.same_get); (focus (with_reducible assumption)); kct_strs)
    | ((with_reducible apply Ur.but_get); (focus (with_reducible assumption)); (focus kcj_m); kct_strs))
  | ((with_reducible show L2.SqL _ _ _ _); first
    | ((with_reducible apply Ur.sqlK); (focus (with_reducible assumption)); (focus (first | (with_reducible rfl) | rfl)))
    | ((with_reducible apply L2.SqL.of); kct_strs)
    | ((with_reducible apply L2.Same.seq); (focus (with_reducible assumption)); kct_strs)
    | ((with_reducible apply Ur.sql_new); (focus (with_reducible assumption)); kct_strs)
    | ((with_reducible apply Ur.sql_upd); (focus kcj_m); kct_strs))
  | ((with_reducible show L2.SqT _ _ _ _); (with_reducible apply L2.SqT.of); kct_strs))
local macro_rules | `(tactic| kcj_m) => `(tactic| ((with_reducible show _ ≠ _); (fail_if_success (with_reducible apply Ur.dead_ne)); first
  | (with_reducible assumption)
  | (with_reducible exact Ne.symm (by assumption))
  | ((with_reducible apply Ur.ne_new); (focus (with_reducible assumption)); kct_strs)
  | ((with_reducible apply Ur.ne_new'); (focus (with_reducible assumption)); kct_strs)
  | (refine L2.ne_of (by assumption) (by kct_strs) (by intro q; cases q))))
local macro_rules | `(tactic| tb_rel) => `(tactic| first
  | ((with_reducible show List.length (L2.putF _ _ _) < _); first | exact Ur.pf1 | exact Ur.pf2 | exact Ur.pf3)
  | ((with_reducible show List.length (Ur.livF _ _ _) < _); exact Ur.pfL)
  | ((with_reducible show List.length (L2.putF _ _ (Ur.livF _ _ _)) < _); exact Ur.pfM)
  | ((with_reducible show List.lookup _ _ = _); first | exact Ur.rdy_many | exact Ur.rdy_lasts | exact Ur.rdy_nexts | exact Ur.rdy_no (by decide) (by decide) (by decide) | exact Ur.hld_times | exact Ur.hld_no (by decide) | exact Ur.liv_numbers | exact Ur.liv_changes | exact Ur.liv_made | exact Ur.liv_no (by decide) (by decide) (by decide))
  | ((fail_if_success (with_reducible show (_ : Option L2.HO) = _)); (with_reducible show _ = _); exact rfl)
  | (with_reducible assumption)
  | ((with_reducible show (_ : Option L2.HO) = Option.some _); kct_strs)
  | ((with_reducible show L2.SqL _ _ _ _); kct_strs)
  | ((with_reducible show ∃ xs, L2.SqL _ _ _ xs); exact ⟨_, by kct_strs⟩)
  | ((with_reducible show L2.SqT _ _ _ _); kct_strs)
  | ((with_reducible show ∃ xs, L2.SqT _ _ _ xs); exact ⟨_, by kct_strs⟩)
  | ((with_reducible show _ ≠ _); kcj_m)
  | ((with_reducible show L2.Same _ _); kcj_in)
  | ((with_reducible show Ur.IsW _ _ _); first | (with_reducible assumption) | exact Ur.IsW.int | exact Ur.IsW.bl | exact Ur.IsW.str | exact Ur.IsW.non | exact Ur.IsW.lst (by kct_strs) | exact Ur.IsW.tup (by kct_strs) | exact Ur.IsW.dct (by kct_strs))
  | ((with_reducible show Ur.Kind _ _); first | (with_reducible assumption) | exact Ur.Kind.int | exact Ur.Kind.bl | exact Ur.Kind.str | exact Ur.Kind.non | ((with_reducible apply Ur.Kind.same); (focus (with_reducible assumption)); kcj_in) | exact Ur.Kind.lst (by kct_strs) | exact Ur.Kind.tup (by kct_strs) | exact Ur.Kind.dct (by kct_strs))
  | ((with_reducible show Ur.But _ _ _); cc_are)
  | ((with_reducible show (_ : Option L2.HO) = Option.none); cc_off)
  | ((fail_if_success (with_reducible show (_ : Option L2.HO) = _)); first
    | (intros; omega)
    | assumption
    | exact Ur.at_int' (by omega) (by omega)
    | exact Ur.at_int' (by dsimp only; omega) (by dsimp only; omega)
    | exact Ur.ixN_iv (by omega) (by omega)
    | exact Ur.at2 (by omega) (by omega)
    | exact Ur.at3 (by omega) (by omega)
    | exact Ur.at4 (by omega) (by omega)
    | exact Ur.at6 (by omega) (by omega)
    | ((with_reducible show L2.IsD _ _); exact Ur.isD_of (by kct_strs))
    | ((with_reducible show L2.tyV _ _ _ _); exact Ur.tyL (by kct_strs))
    | ((with_reducible show L2.DGet _ _ _ _); exact Ur.dget_int (by kct_strs))
    | ((with_reducible show L2.DPut _ _ _ _ _); exact Ur.dput_int (by kct_strs) (Ur.szl (by omega)))
    | ((with_reducible show _ ∨ _); first | exact Or.inl (by kct_strs) | exact Or.inr (by kct_strs) | exact Or.inl ⟨by omega, by omega⟩ | exact Or.inr ⟨by omega, by omega⟩ | exact Or.inr ⟨by decide, by decide⟩ | exact Or.inl ⟨by decide, by decide⟩)
    | ((with_reducible show _ ∧ _); first | exact ⟨by omega, by omega⟩ | exact ⟨by decide, by decide⟩ | exact ⟨by decide, by decide, by decide⟩)
    | exact Ur.sz (by (try simp only [List.length_append, List.length_map, List.length_cons, List.length_nil, List.length_take, List.length_drop, List.length_range, List.length_replicate, List.length_set, List.length_reverse]); omega)
    | exact Ur.szl (by (try simp only [List.length_append, List.length_map, List.length_cons, List.length_nil, List.length_take, List.length_drop, List.length_range, List.length_replicate, List.length_set, List.length_reverse]); omega)
    | (apply Ur.szT; (focus (repeat (first | (apply Nat.add_le_add) | (apply Ur.lb_map) | (apply Ur.lb_filter) | (apply Ur.lb_app) | (apply Ur.lb_cons) | exact Ur.lb_nil | exact Ur.lb_range | exact Nat.le_refl _))); omega)
    | (apply Ur.szlT; (focus (repeat (first | (apply Nat.add_le_add) | (apply Ur.lb_map) | (apply Ur.lb_filter) | (apply Ur.lb_app) | (apply Ur.lb_cons) | exact Ur.lb_nil | exact Ur.lb_range | exact Nat.le_refl _))); omega)
    | ((with_reducible show List.length _ ≤ _); (first | (rw [List.length_take, List.length_drop]; omega) | (rw [List.length_take]; omega) | (rw [List.length_drop]; omega) | (rw [List.length_reverse]; omega)))
    | ((with_reducible show L2.RgOk _ _); exact L2.RgOk.of_le (by omega) (by omega) (by omega) (by omega))
    | exact Nat.succ_pos _
    | exact Ur.pos_app
    | exact ⟨by omega, by omega⟩
    | exact Or.inl ⟨by omega, by omega⟩
    | exact Or.inr ⟨by omega, by omega⟩
    | exact Or.inr ⟨by decide, by decide⟩
    | exact Or.inl ⟨by decide, by decide⟩
    | exact ⟨by decide, by decide⟩
    | exact ⟨by decide, by decide, by decide⟩
    | decide))
local macro_rules | `(tactic| tb_start) => `(tactic| repeat (first
  | (with_reducible refine Ur.tCi ?_)
  | (with_reducible refine Ur.tNilI ?_)
  | (with_reducible refine L2.iteF ?_)
  | (with_reducible refine L2.iteT ?_)
  | (with_reducible refine Ur.neg_same ?_)
  | (with_reducible refine Ur.pos_same ?_)
  | ((with_reducible apply Ur.isiK); (focus (first | exact Ur.tyx_int | exact Ur.tyx_bl | exact Ur.tyx_non | exact Ur.tyx_str | exact Ur.tyx_lst (by kct_strs) | exact Ur.tyx_tup (by kct_strs) | exact Ur.tyx_dK (by kct_strs))); (focus (first | exact Ur.kb_int_int | exact Ur.kb_int_bool | exact Ur.kb_int_str | exact Ur.kb_int_list | exact Ur.kb_int_tuple | exact Ur.kb_int_dict | exact Ur.kb_bool_int | exact Ur.kb_bool_bool | exact Ur.kb_bool_str | exact Ur.kb_bool_list | exact Ur.kb_bool_tuple | exact Ur.kb_bool_dict | exact Ur.kb_str_int | exact Ur.kb_str_bool | exact Ur.kb_str_str | exact Ur.kb_str_list | exact Ur.kb_str_tuple | exact Ur.kb_str_dict | exact Ur.kb_NoneType_int | exact Ur.kb_NoneType_bool | exact Ur.kb_NoneType_str | exact Ur.kb_NoneType_list | exact Ur.kb_NoneType_tuple | exact Ur.kb_NoneType_dict | exact Ur.kb_list_int | exact Ur.kb_list_bool | exact Ur.kb_list_str | exact Ur.kb_list_list | exact Ur.kb_list_tuple | exact Ur.kb_list_dict | exact Ur.kb_tuple_int | exact Ur.kb_tuple_bool | exact Ur.kb_tuple_str | exact Ur.kb_tuple_list | exact Ur.kb_tuple_tuple | exact Ur.kb_tuple_dict | exact Ur.kb_dict_int | exact Ur.kb_dict_bool | exact Ur.kb_dict_str | exact Ur.kb_dict_list | exact Ur.kb_dict_tuple | exact Ur.kb_dict_dict)))
  | ((with_reducible apply Ur.isiK); (focus (with_reducible assumption)); (focus (with_reducible assumption)))
  | ((with_reducible apply Ur.isK1); (focus kct_strs); (focus (with_reducible assumption)); (focus (with_reducible assumption)))
  | ((with_reducible apply Ur.isKT); (focus kct_strs); (focus (with_reducible assumption)); (focus (with_reducible assumption)))
  | ((with_reducible apply Ur.isK2); (focus kct_strs); (focus (with_reducible assumption)); (focus (with_reducible assumption)); (focus kct_strs); (focus rfl))
  | (with_reducible refine Ur.isN_ref ?_)
  | ((with_reducible apply Ur.isX1); (focus (with_reducible assumption)); (focus (with_reducible assumption)))
  | ((with_reducible apply Ur.isXT); (focus (with_reducible assumption)); (focus (with_reducible assumption)))
  | ((with_reducible apply Ur.isX2); (focus (with_reducible assumption)); (focus (with_reducible assumption)); (focus kct_strs); (focus rfl))
  | ((with_reducible apply Ur.rEq_kinds); (focus kct_strs); (focus kct_strs))
  | ((with_reducible apply Ur.len_ints); (focus kct_strs))
  | ((with_reducible apply Ur.len_refs); (focus kct_strs))
  | ((with_reducible apply Ur.in_int); (focus kct_strs))
  | ((with_reducible apply Ur.notin_int); (focus kct_strs))
  | ((with_reducible apply Ur.setd_int); (focus kct_strs))
  | ((with_reducible apply Ur.repr_pair); (focus kct_strs))
  | ((with_reducible apply Ur.pop1_int); (focus kct_strs); (focus assumption))
  | ((with_reducible apply Ur.index_int); (focus kct_strs))
  | ((with_reducible apply Ur.rEq_intsN); (focus kct_strs); (focus kct_strs))
  | ((with_reducible apply Ur.rNe_intsN); (focus kct_strs); (focus kct_strs))
  | ((with_reducible apply Ur.rEq_ints); (focus kct_strs); (focus kct_strs))
  | ((with_reducible apply Ur.rNe_ints); (focus kct_strs); (focus kct_strs))
  | (with_reducible refine Ur.noN ?_)
  | (with_reducible refine Ur.noNn ?_)
  | ((with_reducible refine Ur.brT ?_ ?_); (focus omega))
  | ((with_reducible refine Ur.brF ?_ ?_); (focus omega))
  | ((with_reducible refine Ur.brnT ?_ ?_); (focus omega))
  | ((with_reducible refine Ur.brnF ?_ ?_); (focus omega))
  | (refine And.intro ?_ ?_; (first | (focus tb_rel) | rotate_left 1))
  | refine Or.inl ⟨_, rfl, ?_⟩
  | refine Or.inr ⟨_, rfl, ?_⟩
  | ((fail_if_success (with_reducible show L2.rEqD _ _ _ _ _)); (fail_if_success (with_reducible show L2.rNeD _ _ _ _ _)); (fail_if_success (with_reducible show Ur.rRepr _ _ _ _)); (fail_if_success (with_reducible show Ur.rEqL _ _ _ _ _ _)); (fail_if_success (refine Ur.isWN ?_)); (fail_if_success (refine Ur.isW4 ?_)); apply Exists.intro)))
local macro_rules | `(tactic| kqd_all) => `(tactic| repeat (first
  | (with_reducible refine Ur.tCi ?_)
  | (with_reducible refine Ur.tNilI ?_)
  | (with_reducible refine L2.iteF ?_)
  | (with_reducible refine L2.iteT ?_)
  | (with_reducible refine Ur.neg_same ?_)
  | (with_reducible refine Ur.pos_same ?_)
  | ((with_reducible apply Ur.isiK); (focus (first | exact Ur.tyx_int | exact Ur.tyx_bl | exact Ur.tyx_non | exact Ur.tyx_str | exact Ur.tyx_lst (by kct_strs) | exact Ur.tyx_tup (by kct_strs) | exact Ur.tyx_dK (by kct_strs))); (focus (first | exact Ur.kb_int_int | exact Ur.kb_int_bool | exact Ur.kb_int_str | exact Ur.kb_int_list | exact Ur.kb_int_tuple | exact Ur.kb_int_dict | exact Ur.kb_bool_int | exact Ur.kb_bool_bool | exact Ur.kb_bool_str | exact Ur.kb_bool_list | exact Ur.kb_bool_tuple | exact Ur.kb_bool_dict | exact Ur.kb_str_int | exact Ur.kb_str_bool | exact Ur.kb_str_str | exact Ur.kb_str_list | exact Ur.kb_str_tuple | exact Ur.kb_str_dict | exact Ur.kb_NoneType_int | exact Ur.kb_NoneType_bool | exact Ur.kb_NoneType_str | exact Ur.kb_NoneType_list | exact Ur.kb_NoneType_tuple | exact Ur.kb_NoneType_dict | exact Ur.kb_list_int | exact Ur.kb_list_bool | exact Ur.kb_list_str | exact Ur.kb_list_list | exact Ur.kb_list_tuple | exact Ur.kb_list_dict | exact Ur.kb_tuple_int | exact Ur.kb_tuple_bool | exact Ur.kb_tuple_str | exact Ur.kb_tuple_list | exact Ur.kb_tuple_tuple | exact Ur.kb_tuple_dict | exact Ur.kb_dict_int | exact Ur.kb_dict_bool | exact Ur.kb_dict_str | exact Ur.kb_dict_list | exact Ur.kb_dict_tuple | exact Ur.kb_dict_dict)))
  | ((with_reducible apply Ur.isiK); (focus (with_reducible assumption)); (focus (with_reducible assumption)))
  | ((with_reducible apply Ur.isK1); (focus kct_strs); (focus (with_reducible assumption)); (focus (with_reducible assumption)))
  | ((with_reducible apply Ur.isKT); (focus kct_strs); (focus (with_reducible assumption)); (focus (with_reducible assumption)))
  | ((with_reducible apply Ur.isK2); (focus kct_strs); (focus (with_reducible assumption)); (focus (with_reducible assumption)); (focus kct_strs); (focus rfl))
  | (with_reducible refine Ur.isN_ref ?_)
  | ((with_reducible apply Ur.isX1); (focus (with_reducible assumption)); (focus (with_reducible assumption)))
  | ((with_reducible apply Ur.isXT); (focus (with_reducible assumption)); (focus (with_reducible assumption)))
  | ((with_reducible apply Ur.isX2); (focus (with_reducible assumption)); (focus (with_reducible assumption)); (focus kct_strs); (focus rfl))
  | ((with_reducible apply Ur.rEq_kinds); (focus kct_strs); (focus kct_strs))
  | ((with_reducible apply Ur.len_ints); (focus kct_strs))
  | ((with_reducible apply Ur.len_refs); (focus kct_strs))
  | ((with_reducible apply Ur.in_int); (focus kct_strs))
  | ((with_reducible apply Ur.notin_int); (focus kct_strs))
  | ((with_reducible apply Ur.setd_int); (focus kct_strs))
  | ((with_reducible apply Ur.repr_pair); (focus kct_strs))
  | ((with_reducible apply Ur.pop1_int); (focus kct_strs); (focus assumption))
  | ((with_reducible apply Ur.index_int); (focus kct_strs))
  | ((with_reducible apply Ur.rEq_intsN); (focus kct_strs); (focus kct_strs))
  | ((with_reducible apply Ur.rNe_intsN); (focus kct_strs); (focus kct_strs))
  | ((with_reducible apply Ur.rEq_ints); (focus kct_strs); (focus kct_strs))
  | ((with_reducible apply Ur.rNe_ints); (focus kct_strs); (focus kct_strs))
  | (with_reducible refine Ur.noN ?_)
  | (with_reducible refine Ur.noNn ?_)
  | ((with_reducible refine Ur.brT ?_ ?_); (focus omega))
  | ((with_reducible refine Ur.brF ?_ ?_); (focus omega))
  | ((with_reducible refine Ur.brnT ?_ ?_); (focus omega))
  | ((with_reducible refine Ur.brnF ?_ ?_); (focus omega))
  | (refine And.intro ?_ ?_; (first | (focus tb_rel) | rotate_left 1))
  | refine Or.inl ⟨_, rfl, ?_⟩
  | refine Or.inr ⟨_, rfl, ?_⟩
  | ((fail_if_success (with_reducible show L2.rEqD _ _ _ _ _)); (fail_if_success (with_reducible show L2.rNeD _ _ _ _ _)); (fail_if_success (with_reducible show Ur.rRepr _ _ _ _)); (fail_if_success (with_reducible show Ur.rEqL _ _ _ _ _ _)); (fail_if_success (refine Ur.isWN ?_)); (fail_if_success (refine Ur.isW4 ?_)); apply Exists.intro)
  | intro _))
local macro_rules | `(tactic| kcj_in) => `(tactic| first
  | (with_reducible exact L2.Same.refl _)
  | (with_reducible assumption)
  | ((with_reducible apply Ur.same_snoc); (focus (with_reducible assumption)); kcj_in)
  | ((with_reducible apply Ur.same_upd'); (focus cc_off); kcj_in)
  | ((with_reducible apply Ur.same_step); (focus (with_reducible assumption)); kcj_in)
  | ((with_reducible apply Ur.same_pairs); (focus (with_reducible assumption)); kcj_in)
  | ((with_reducible apply Ur.same_but); (focus (with_reducible assumption)); (focus cc_off); kcj_in))
local macro_rules | `(tactic| cc_off) => `(tactic| first
  | (with_reducible assumption)
  | ((with_reducible apply Ur.same_free); (focus (with_reducible assumption)); kcj_in)
  | ((with_reducible apply Ur.but_free); (focus (with_reducible assumption)); (focus cc_are); kct_strs))
local macro_rules | `(tactic| cc_are) => `(tactic| first
  | (with_reducible exact Ur.but_refl)
  | (with_reducible assumption)
  | ((with_reducible apply Ur.but_at); cc_are)
  | ((with_reducible apply Ur.but_snoc); (focus (with_reducible assumption)); cc_are)
  | ((with_reducible apply Ur.but_upd); (focus cc_off); cc_are)
  | ((with_reducible apply Ur.but_step); (focus (with_reducible assumption)); cc_are)
  | ((with_reducible apply Ur.but_step'); (focus (with_reducible assumption)); cc_are))
local macro_rules | `(tactic| kqd_in) => `(tactic| (kqd_all; try ((first | refine Ur.bri (fun _ => ?_) (fun _ => ?_) | refine Ur.brni (fun _ => ?_) (fun _ => ?_) | refine Ur.br (fun _ => ?_) (fun _ => ?_) | refine Ur.brn (fun _ => ?_) (fun _ => ?_) | refine Ur.brb (fun _ => ?_) (fun _ => ?_)) <;> kqd_in)))
namespace Ur
open PySem L2
def top (i : Nat) : Stmt := PySem.Challenge.pw_unlikerow_k22_widths_planted.main.body.getD i (.Pass ⟨0, 0, 0, 0⟩)
abbrev s__law_next : Stmt := top 16
theorem sc__law_next : FnScope ["purse"] ["purse"] (defScope s__law_next) := ⟨rfl, rfl, rfl, by decide +kernel, rfl, by decide +kernel, by decide +kernel⟩
abbrev s__law_mixed : Stmt := top 14
theorem sc__law_mixed : FnScope ["cell", "k", "number"] ["cell", "k"] (defScope s__law_mixed) := ⟨rfl, rfl, rfl, by decide +kernel, rfl, by decide +kernel, by decide +kernel⟩
abbrev s__law_purse : Stmt := top 15
theorem sc__law_purse : FnScope ["script", "at", "step", "many", "cells", "rests", "purse", "k", "place", "cell"] ["script", "at", "step", "many"] (defScope s__law_purse) := ⟨rfl, rfl, rfl, by decide +kernel, rfl, by decide +kernel, by decide +kernel⟩
abbrev s_last_places : Stmt := top 4
theorem sc_last_places : FnScope ["row", "met", "found", "place", "number"] ["row"] (defScope s_last_places) := ⟨rfl, rfl, rfl, by decide +kernel, rfl, by decide +kernel, by decide +kernel⟩
abbrev s_need_width : Stmt := top 7
theorem sc_need_width : FnScope ["row", "width"] ["row", "width"] (defScope s_need_width) := ⟨rfl, rfl, rfl, by decide +kernel, rfl, by decide +kernel, by decide +kernel⟩
abbrev s_next_places : Stmt := top 5
theorem sc_next_places : FnScope ["row", "found", "place", "last"] ["row"] (defScope s_next_places) := ⟨rfl, rfl, rfl, by decide +kernel, rfl, by decide +kernel, by decide +kernel⟩
abbrev s_slid : Stmt := top 8
theorem sc_slid : FnScope ["lasts", "nexts", "width", "number", "found", "first", "gone", "come", "last"] ["lasts", "nexts", "width"] (defScope s_slid) := ⟨rfl, rfl, rfl, by decide +kernel, rfl, by decide +kernel, by decide +kernel⟩
abbrev s_of_width : Stmt := top 9
theorem sc_of_width : FnScope ["row", "width"] ["row", "width"] (defScope s_of_width) := ⟨rfl, rfl, rfl, by decide +kernel, rfl, by decide +kernel, by decide +kernel⟩
abbrev s_least_of : Stmt := top 11
theorem sc_least_of : FnScope ["row", "width", "numbers", "least"] ["row", "width"] (defScope s_least_of) := ⟨rfl, rfl, rfl, by decide +kernel, rfl, by decide +kernel, by decide +kernel⟩
abbrev s_most_of : Stmt := top 10
theorem sc_most_of : FnScope ["row", "width", "numbers", "most"] ["row", "width"] (defScope s_most_of) := ⟨rfl, rfl, rfl, by decide +kernel, rfl, by decide +kernel, by decide +kernel⟩
abbrev s__law_right : Stmt := top 19
theorem sc__law_right : FnScope ["row", "numbers_by", "step", "width", "due", "first"] ["row", "numbers_by"] (defScope s__law_right) := ⟨rfl, rfl, rfl, by decide +kernel, rfl, by decide +kernel, by decide +kernel⟩
abbrev s__law_value : Stmt := top 17
theorem sc__law_value : FnScope ["way", "at"] ["way", "at"] (defScope s__law_value) := ⟨rfl, rfl, rfl, by decide +kernel, rfl, by decide +kernel, by decide +kernel⟩
abbrev s_sums : Stmt := top 12
theorem sc_sums : FnScope ["row", "lasts", "nexts", "width"] ["row"] (defScope s_sums) := ⟨rfl, rfl, rfl, by decide +kernel, rfl, by decide +kernel, by decide +kernel⟩
abbrev s_law : Stmt := top 20
theorem sc_law : FnScope ["script", "purse", "many", "way", "unlike", "around", "stood", "turn", "k", "width"] ["script"] (defScope s_law) := ⟨rfl, rfl, rfl, by decide +kernel, rfl, by decide +kernel, by decide +kernel⟩
/-- where the defs and classes stand -/
structure Adr where
  f__law_next : Addr
  d__law_next : FuncData
  f__law_mixed : Addr
  d__law_mixed : FuncData
  f__law_purse : Addr
  d__law_purse : FuncData
  f_last_places : Addr
  d_last_places : FuncData
  f_need_width : Addr
  d_need_width : FuncData
  f_next_places : Addr
  d_next_places : FuncData
  f_slid : Addr
  d_slid : FuncData
  f_of_width : Addr
  d_of_width : FuncData
  f_least_of : Addr
  d_least_of : FuncData
  f_most_of : Addr
  d_most_of : FuncData
  f__law_right : Addr
  d__law_right : FuncData
  f__law_value : Addr
  d__law_value : FuncData
  f_sums : Addr
  d_sums : FuncData
  f_law : Addr
  d_law : FuncData
  c_NoWindow : Addr
structure Txt (K : PySem.W.Frag) (mg : Str → Option Value) (A : Adr) : Prop where
  F__law_next : Fun K "_law_next" "_law_next" s__law_next A.f__law_next A.d__law_next
  b__law_next : Binds K A.d__law_next ["purse"] []
  g__law_next : mg "_law_next" = some (.ref A.f__law_next)
  F__law_mixed : Fun K "_law_mixed" "_law_mixed" s__law_mixed A.f__law_mixed A.d__law_mixed
  b__law_mixed : Binds K A.d__law_mixed ["cell", "k"] []
  g__law_mixed : mg "_law_mixed" = some (.ref A.f__law_mixed)
  F__law_purse : Fun K "_law_purse" "_law_purse" s__law_purse A.f__law_purse A.d__law_purse
  b__law_purse : Binds K A.d__law_purse ["script", "at", "step", "many"] []
  g__law_purse : mg "_law_purse" = some (.ref A.f__law_purse)
  F_last_places : Fun K "last_places" "last_places" s_last_places A.f_last_places A.d_last_places
  b_last_places : Binds K A.d_last_places ["row"] []
  g_last_places : mg "last_places" = some (.ref A.f_last_places)
  F_need_width : Fun K "need_width" "need_width" s_need_width A.f_need_width A.d_need_width
  b_need_width : Binds K A.d_need_width ["row", "width"] []
  g_need_width : mg "need_width" = some (.ref A.f_need_width)
  F_next_places : Fun K "next_places" "next_places" s_next_places A.f_next_places A.d_next_places
  b_next_places : Binds K A.d_next_places ["row"] []
  g_next_places : mg "next_places" = some (.ref A.f_next_places)
  F_slid : Fun K "slid" "slid" s_slid A.f_slid A.d_slid
  b_slid : Binds K A.d_slid ["lasts", "nexts", "width"] []
  g_slid : mg "slid" = some (.ref A.f_slid)
  F_of_width : Fun K "of_width" "of_width" s_of_width A.f_of_width A.d_of_width
  b_of_width : Binds K A.d_of_width ["row", "width"] []
  g_of_width : mg "of_width" = some (.ref A.f_of_width)
  F_least_of : Fun K "least_of" "least_of" s_least_of A.f_least_of A.d_least_of
  b_least_of : Binds K A.d_least_of ["row", "width"] []
  g_least_of : mg "least_of" = some (.ref A.f_least_of)
  F_most_of : Fun K "most_of" "most_of" s_most_of A.f_most_of A.d_most_of
  b_most_of : Binds K A.d_most_of ["row", "width"] []
  g_most_of : mg "most_of" = some (.ref A.f_most_of)
  F__law_right : Fun K "_law_right" "_law_right" s__law_right A.f__law_right A.d__law_right
  b__law_right : Binds K A.d__law_right ["row", "numbers_by"] []
  g__law_right : mg "_law_right" = some (.ref A.f__law_right)
  F__law_value : Fun K "_law_value" "_law_value" s__law_value A.f__law_value A.d__law_value
  b__law_value : Binds K A.d__law_value ["way", "at"] []
  g__law_value : mg "_law_value" = some (.ref A.f__law_value)
  F_sums : Fun K "sums" "sums" s_sums A.f_sums A.d_sums
  b_sums : Binds K A.d_sums ["row"] []
  g_sums : mg "sums" = some (.ref A.f_sums)
  F_law : Fun K "law" "law" s_law A.f_law A.d_law
  b_law : Binds K A.d_law ["script"] []
  g_law : mg "law" = some (.ref A.f_law)
  g_NoWindow : mg "NoWindow" = some (.ref A.c_NoWindow)
  m_abs : mg "abs" = none
  m_bool : mg "bool" = none
  m_enumerate : mg "enumerate" = none
  m_int : mg "int" = none
  m_isinstance : mg "isinstance" = none
  m_len : mg "len" = none
  m_list : mg "list" = none
  m_max : mg "max" = none
  m_min : mg "min" = none
  m_range : mg "range" = none
  m_reversed : mg "reversed" = none
  m_sum : mg "sum" = none
  x_NoWindow : PySem.W.excIn K A.c_NoWindow [.type "ValueError", .type "Exception", .type "BaseException", .type "object"] "ValueError.__new__" = true
  k_NoWindow : PySem.W.keepIn K (.ref A.c_NoWindow) = true
  b_NoWindow : PySem.W.subIn K (.ref A.c_NoWindow) (.type "BaseException") = some true
  t_NoWindow : PySem.W.typeIn K (.ref A.c_NoWindow) = some (.type "type")
  h_NoWindow : PySem.W.hasDictIn K A.c_NoWindow = true
variable {K : PySem.W.Frag} {mg : Str → Option Value} {A : Adr}
end Ur
namespace Ur
open PySem L2
/-- the next number of a purse, or 0 -/
def sp__law_next (K : PySem.W.Frag) : Sp := fun vs H Q _ => ∃ (a : Addr) (ns : List Int), vs = [.ref a] ∧ H a = some (.lst (ns.map V.int)) ∧ (∀ x ∈ ns, 0 ≤ x) ∧ ∀ (n : Int) (ms : List Int) H', 0 ≤ n → (∀ x ∈ ms, 0 ≤ x) → H' a = some (.lst (ms.map V.int)) → But a H H' → Q (.int n) H'
section
variable {P : Program} {w : World} {K : PySem.W.Frag} {mg : Str → Option Value} {base : Heap} {A : Adr}
theorem ok__law_next (T : Txt K mg A) : FnOk P w K mg base CX0 1 A.f__law_next A.d__law_next ["purse"] (sp__law_next K) := by
  refine T.F__law_next.ok sc__law_next (fun vs H Q E h => ?_) (fun cdv Ar outer s H vs Q E hr h => ?_)
  · obtain ⟨a, ns, rfl, _⟩ := h
    rfl
  · obtain ⟨a, ns, rfl, ha, hp, q⟩ := h
    refine ⟨_, (pss_cons (ps_if (pt_cmpR (Ur.op_eqDK (K := K) rfl hr.units) (pv 0) (pe_lst pa_nil) (nomark _)) (pss_one (ps_ret pe_int)) pss_nil)
    (pss_one (ps_ret (pe_bm0 PySem.F.plainAttrs_list PySem.F.slot_list_pop PySem.F.type_list_pop mt_pop (pv 0))))), ?_⟩
    tb_start
    intro p np
    have hap : a ≠ p := by kcj_m
    tb_start
    refine br (fun hq => ?_) (fun hq => ?_)
    · tb_start
      exact q 0 ns _ (by omega) hp (by kct_strs) (by cc_are)
    · have hpos : 0 < ns.length := by
        cases ns with
        | nil => exact absurd rfl hq
        | cons y ns => exact Nat.succ_pos _
      have e : (ns.map V.int)[(ns.map V.int).length - 1]? = some (V.int (ns.getD (ns.length - 1) 0)) := by
        rw [List.length_map]
        exact iv_get' (get_of (by omega))
      have em : (ns.map V.int).dropLast = ns.dropLast.map V.int := by rw [List.map_dropLast]
      tb_start
      exact q _ ns.dropLast _ (hp _ (List.mem_of_getElem? (get_of (by omega)))) (fun x hx => hp x ((List.dropLast_sublist ns).mem hx)) (lst_cast (by kct_strs) em) (by cc_are)
end
end Ur
namespace Ur
open PySem L2
/-- a cell, mixed: a number from 0 on -/
def sp__law_mixed (K : PySem.W.Frag) : Sp := fun vs H Q _ => ∃ (c k : Int), vs = [.int c, .int k] ∧ 0 ≤ k ∧ k ≤ 1000 ∧ ∀ n : Int, 0 ≤ n → Q (.int n) H
section
variable {P : Program} {w : World} {K : PySem.W.Frag} {mg : Str → Option Value} {base : Heap} {A : Adr}
theorem ok__law_mixed (T : Txt K mg A) : FnOk P w K mg base CX0 1 A.f__law_mixed A.d__law_mixed ["cell", "k"] (sp__law_mixed K) := by
  refine T.F__law_mixed.ok sc__law_mixed (fun vs H Q E h => ?_) (fun cdv Ar outer s H vs Q E hr h => ?_)
  · obtain ⟨c, k, rfl, _⟩ := h
    rfl
  · obtain ⟨c, k, rfl, hk0, hk1, q⟩ := h
    refine ⟨_, (pss_cons (ps_set (i := 2) sc__law_mixed.nd rfl (Or.inl rfl) (pe_op op_mod (pe_op op_add (pe_op op_mod (pv 0) pe_int) (pe_op op_mul pe_int (pe_op op_add (pv 1) pe_int))) pe_int))
    (pss_cons (ps_set (i := 2) sc__law_mixed.nd rfl (Or.inl rfl) (pe_op op_mod (pe_op op_add (pe_op op_add (pe_op op_mul (pv 2) (pv 2)) (pe_op op_mul pe_int (pv 2))) (pv 1)) pe_int))
    (pss_cons (ps_set (i := 2) sc__law_mixed.nd rfl (Or.inl rfl) (pe_op op_mod (pe_op op_mul (pv 2) (pv 2)) pe_int))
    (pss_one (ps_ret (pe_op op_fdiv (pe_op op_mod (pe_op op_mul (pv 2) pe_int) pe_int) pe_int)))))), ?_⟩
    tb_start
    exact q _ (Int.ediv_nonneg (Int.emod_nonneg _ (by omega)) (by omega))
end
end Ur
namespace Ur
open PySem L2
/-- a purse: so many numbers from 0 on -/
def sp__law_purse (K : PySem.W.Frag) : Sp := fun vs H Q _ => ∃ (a : Addr) (ns : List Int) (i s m : Int), vs = [.ref a, .int i, .int s, .int m] ∧ SqL K H a (ns.map V.int) ∧ ns.length ≤ 63 ∧ (0 ≤ i ∧ i ≤ 126) ∧ (1 ≤ s ∧ s ≤ 100) ∧ (0 ≤ m ∧ m ≤ 1000) ∧ ∀ p (ps : List Int) H', H' p = some (.lst (ps.map V.int)) → (∀ x ∈ ps, 0 ≤ x) → ps.length = m.toNat → Same H H' → H p = none → Q (.ref p) H'
section
variable {P : Program} {w : World} {K : PySem.W.Frag} {mg : Str → Option Value} {base : Heap} {A : Adr}
theorem ok__law_purse (T : Txt K mg A) : FnOk P w K mg base CX0 2 A.f__law_purse A.d__law_purse ["script", "at", "step", "many"] (sp__law_purse K) := by
  have G__law_mixed := ok__law_mixed (P := P) (w := w) (base := base) T
  refine T.F__law_purse.ok sc__law_purse (fun vs H Q E h => ?_) (fun cdv Ar outer s H vs Q E hr h => ?_)
  · obtain ⟨a, ns, i, s, m, rfl, _⟩ := h
    rfl
  · obtain ⟨a, ns, i, s, m, rfl, ha, hl, hi, hs, hm, q⟩ := h
    refine ⟨_, (pss_cons (ps_set (i := 4) sc__law_purse.nd rfl (Or.inl rfl) (Ur.pe_step3 (pv 0) (pv 1) pe_int (pv 2)))
    (Evl.pss_cut (ps_if (pt_cmpR (Ur.op_eqDK (K := K) rfl hr.units) (pv 4) (pe_lst pa_nil) (nomark _)) (pss_one (ps_set (i := 4) sc__law_purse.nd rfl (Or.inl rfl) (pe_lst (pa_cons (pv 1) pa_nil)))) pss_nil)
    (pss_cons (ps_setLc (i := 5) (own := [("cell", 9)]) (g := gName 9) (by rfl) sc__law_purse.nd rfl rfl (sw_true rfl rfl rfl (by decide +kernel)) (pi_list (pv 4)) (blkOk_by (own := [("cell", 9)]) (N := ["script", "at", "step", "many", "cells", "rests", "purse", "k", "place", "cell"]) (by kernel_rfl)) (fun _ _ _ _ _ => pg_name (i := 9) sc__law_purse.nd rfl (Or.inl rfl)) (fun _ _ _ _ _ => pts_nil) (fun _ _ _ _ _ => (pe_op op_mul (Ur.pe_b1 call_abs (by rfl) T.m_abs (by decide +kernel) (pv 9)) (Ur.pe_t1 call_int1 (by rfl) T.m_int (by decide +kernel) (pe_cmpR op_ge (Ur.pe_b1 call_abs (by rfl) T.m_abs (by decide +kernel) (pv 9)) (pe_op op_pow pe_int pe_int) (nomark _))))))
    (pss_cons (ps_set (i := 6) sc__law_purse.nd rfl (Or.inl rfl) (pe_lst pa_nil))
    (pss_cons (ps_for PassesOwn.never (by rfl) (pi_range1 (by rfl) T.m_range (pa_cons (pv 3) pa_nil)) (pg_name (i := 7) sc__law_purse.nd rfl (Or.inl rfl)) (pss_cons (ps_set (i := 8) sc__law_purse.nd rfl (Or.inl rfl) (pe_op op_mod (pv 7) (Ur.pe_b1 (Ur.call_lenIK (K := K) rfl) (by rfl) T.m_len (by decide +kernel) (pv 4))))
    (pss_one (ps_if (pt_cmpR op_gt (pe_ix (Ur.ix_listK (K := K) rfl) (pv 5) (pv 8) (fun _ _ => rfl)) pe_int (nomark _)) (pss_cons (ps_expr (pe_bm PySem.F.plainAttrs_list PySem.F.slot_list_append PySem.F.type_list_append mt_append (pv 6) (pa_cons (pe_op op_mod (pe_ix (Ur.ix_listK (K := K) rfl) (pv 5) (pv 8) (fun _ _ => rfl)) pe_int) pa_nil)))
    (pss_one (ps_asg (pe_op op_fdiv (pe_ix (Ur.ix_listK (K := K) rfl) (pv 5) (pv 8) (fun _ _ => rfl)) pe_int) (pg_sub (pv 5) (pv 8) set_list)))) (pss_one (ps_expr (pe_bm PySem.F.plainAttrs_list PySem.F.slot_list_append PySem.F.type_list_append mt_append (pv 6) (pa_cons (pe_call G__law_mixed (hr.mono (by decide)) (by rfl) T.g__law_mixed T.F__law_mixed.kp T.b__law_mixed .nil pass0 (pa_cons (pe_ix (Ur.ix_listK (K := K) rfl) (pv 4) (pv 8) (fun _ _ => rfl)) (pa_cons (pe_op op_fdiv (pv 7) (Ur.pe_b1 (Ur.call_lenIK (K := K) rfl) (by rfl) T.m_len (by decide +kernel) (pv 4))) pa_nil))) pa_nil))))))))
    (pss_one (ps_ret (UrV.pe_listRev (K := K) rfl (by rfl) T.m_list T.m_reversed (pv 6))))))))), ?_⟩
    tb_start
    intro p1 ys hys hyl np1
    obtain ⟨cs, rfl⟩ : ∃ cs : List Int, ys = cs.map V.int := by
      refine ⟨ys.map fun | .int i => i | _ => 0, ?_⟩
      rw [List.map_map]
      refine (List.map_id' ys).symm.trans (List.map_congr_left fun y hy => ?_)
      obtain ⟨x, _, rfl⟩ := List.mem_map.mp (hys y hy)
      rfl
    rw [List.length_map, List.length_map] at hyl
    tb_start
    refine ⟨fun σ H' => Iv (∃ (p : Addr) (cs : List Int) (u5 u6 u7 u8 u9 : Option V), σ = [some (.ref a), some (.int i), some (.int s), some (.int m), some (.ref p), u5, u6, u7, u8, u9] ∧ H' p = some (.lst (cs.map V.int)) ∧ 0 < cs.length ∧ cs.length ≤ 64 ∧ Same H H'), ?_, ?_⟩
    · tb_start
      intro p2 np2
      tb_start
      refine br (fun he => ?_) (fun he => ?_)
      · tb_start
        intro p3 np3
        tb_start
        exact ⟨p3, [i], _, _, _, _, _, rfl, by kct_strs, Nat.zero_lt_one, (by show 1 ≤ 64; omega), by kcj_in⟩
      · exact ⟨p1, cs, _, _, _, _, _, rfl, by kct_strs, List.length_pos_iff.mpr he, by omega, by kcj_in⟩
    rintro σ H2 ⟨p, cs, u5, u6, u7, u8, u9, rfl, ep, hc0, hc1, s2⟩
    tb_start
    intro D nD
    refine lc_list (K := K) (a := p) (xs := cs.map V.int) (fun j H' => Iv (∃ r : List Int, H' D = some (.lst (r.map V.int)) ∧ r.length = j ∧ (∀ x ∈ r, 0 ≤ x) ∧ Same H2 H')) ⟨[], upd_same, rfl, (fun x hx => nomatch hx), same_new nD⟩ (fun j H' _ z => ?_) (fun j x H' hx z => ?_) (fun H' z => ?_)
    · obtain ⟨r, _, _, _, s'⟩ := z.out
      exact .of (s' _ _ ep)
    · obtain ⟨c, hc, rfl⟩ := iv_get hx
      have hj := (List.getElem?_eq_some_iff.mp hc).1
      obtain ⟨r, e, hl, h0, s'⟩ := z.out
      have hb := b01 (decide ((10 : Int) ^ (18 : Int).toNat ≤ (if c < 0 then -c else c)))
      have hab : 0 ≤ (if c < 0 then -c else c) := by split <;> omega
      refine ⟨rfl, tyes_ok ?_⟩
      tb_start
      refine ⟨r ++ [_], upd_snoc, by rw [List.length_append, hl]; rfl, fun x hx => ?_, same_upd' nD s'⟩
      rcases List.mem_append.mp hx with k | k
      · exact h0 x k
      · rw [List.mem_singleton.mp k]
        exact Int.mul_nonneg hab hb.1
    · obtain ⟨rs, e, hrl, h0, s'⟩ := z.out
      rw [List.length_map] at hrl
      have ep' := s' _ _ ep
      tb_start
      intro pl npl
      have hDp : D ≠ p := by kcj_m
      have hDpl : D ≠ pl := by kcj_m
      have hppl : p ≠ pl := by kcj_m
      tb_start
      refine for_range (fun j σ H' => Iv (∃ (u7 u8 u9 : Option V) (ps rs : List Int), σ = [some (.ref a), some (.int i), some (.int s), some (.int m), some (.ref p), some (.ref D), some (.ref pl), u7, u8, u9] ∧ H' pl = some (.lst (ps.map V.int)) ∧ ps.length = j ∧ (∀ x ∈ ps, 0 ≤ x) ∧ H' D = some (.lst (rs.map V.int)) ∧ rs.length = cs.length ∧ (∀ x ∈ rs, 0 ≤ x) ∧ H' p = some (.lst (cs.map V.int)) ∧ Same H H')) ?h0 ?hs ?hd
      case h0 => exact ⟨_, _, _, [], rs, rfl, upd_same, rfl, (fun x hx => nomatch hx), by kct_strs, hrl, h0, by kct_strs, by kcj_in⟩
      case hs =>
        rintro j σ H3 hj ⟨u7, u8, u9, ps, rs, rfl, epl, hpl, hp0, eD, hrl, h0, ep, s3⟩
        have hj2 : j < 1000 := by omega
        have k1 := Int.emod_nonneg ((0 : Int) + (j : Int)) (show (cs.length : Int) ≠ 0 by omega)
        have k2 := Int.emod_lt_of_pos ((0 : Int) + (j : Int)) (show 0 < (cs.length : Int) by omega)
        have k3 : 0 ≤ ((0 : Int) + (j : Int)) / (cs.length : Int) := Int.ediv_nonneg (by omega) (by omega)
        have k4 : ((0 : Int) + (j : Int)) / (cs.length : Int) ≤ 1000 := by
          have := Int.ediv_le_self (a := (0 : Int) + (j : Int)) (cs.length : Int) (by omega)
          omega
        have hgr : 0 ≤ rs.getD (((0 : Int) + (j : Int)) % (cs.length : Int)).toNat 0 := h0 _ (List.mem_of_getElem? (get_of (by omega)))
        tb_start
        refine br (fun hp => ?_) (fun hp => ?_)
        · tb_start
          refine ⟨_, _, _, ps ++ [_], rs.set _ _, rfl, by kct_strs, by rw [List.length_append, hpl]; rfl, fun x hx => ?_, by kct_strs, by rw [List.length_set, hrl], fun x hx => ?_, by kct_strs, by kcj_in⟩
          · rcases List.mem_append.mp hx with k | k
            · exact hp0 x k
            · rw [List.mem_singleton.mp k]; exact Int.emod_nonneg _ (by decide)
          · rcases List.mem_or_eq_of_mem_set hx with k | k
            · exact h0 x k
            · rw [k]; exact Int.ediv_nonneg hgr (by decide)
        · tb_start
          intro n hn
          tb_start
          refine ⟨_, _, _, ps ++ [n], rs, rfl, by kct_strs, by rw [List.length_append, hpl]; rfl, fun x hx => ?_, by kct_strs, hrl, h0, by kct_strs, by kcj_in⟩
          rcases List.mem_append.mp hx with k | k
          · exact hp0 x k
          · rw [List.mem_singleton.mp k]; exact hn
      case hd =>
        rintro σ H3 ⟨u7, u8, u9, ps, rs, rfl, epl, hpl, hp0, eD, hrl, h0, ep, s3⟩
        tb_start
        intro pr npr
        tb_start
        refine q pr ps.reverse _ (lst_cast upd_same (by rw [List.map_reverse])) (fun x hx => hp0 x (List.mem_reverse.mp hx)) (by rw [List.length_reverse, hpl]) (by kcj_in) (by cc_off)
end
end Ur
namespace Ur
open PySem L2
/-- the last places, a new list -/
def sp_last_places (K : PySem.W.Frag) : Sp := fun vs H Q _ => ∃ (a : Addr) (ns : List Int), vs = [.ref a] ∧ SqL K H a (ns.map V.int) ∧ ns.length ≤ 1000 ∧ ∀ p H', H' p = some (.lst ((lastP ns).map V.int)) → Same H H' → H p = none → Q (.ref p) H'
section
variable {P : Program} {w : World} {K : PySem.W.Frag} {mg : Str → Option Value} {base : Heap} {A : Adr}
theorem ok_last_places (T : Txt K mg A) : FnOk P w K mg base CX0 1 A.f_last_places A.d_last_places ["row"] (sp_last_places K) := by
  refine T.F_last_places.ok sc_last_places (fun vs H Q E h => ?_) (fun cdv Ar outer s H vs Q E hr h => ?_)
  · obtain ⟨a, ns, rfl, _⟩ := h
    rfl
  · obtain ⟨a, ns, rfl, ha, hl, q⟩ := h
    refine ⟨_, (pss_cons (ps_set (i := 1) sc_last_places.nd rfl (Or.inl rfl) pe_dnewK)
    (pss_cons (ps_set (i := 2) sc_last_places.nd rfl (Or.inl rfl) (pe_lst pa_nil))
    (pss_cons (ps_for PassesOwn.never (by rfl) (pi_enum (by rfl) T.m_enumerate (pa_cons (pv 0) pa_nil)) (pg_tup (by rfl) (pgs_cons (pg_name (i := 3) sc_last_places.nd rfl (Or.inl rfl)) (pgs_cons (pg_name (i := 4) sc_last_places.nd rfl (Or.inl rfl)) pgs_nil))) (pss_cons (ps_expr (pe_bm PySem.F.plainAttrs_list PySem.F.slot_list_append PySem.F.type_list_append mt_append (pv 2) (pa_cons (pe_dget2 (hu_of hr) (pv 1) (pv 4) (pe_un un_neg pe_int) ⟨rfl, rfl, rfl, rfl⟩) pa_nil)))
    (pss_one (ps_dput (hu_of hr) (pv 1) (pv 4) (pv 3) rfl))))
    (pss_one (ps_ret (pv 2)))))), ?_⟩
    tb_start
    intro m nm
    tb_start
    intro l nl
    tb_start
    refine for_enum (xs := ns.map V.int) (fun i σ H' => Iv (∃ (kvs : List (Key × V)) (x y : Option V), σ = [some (.ref a), some (.ref m), some (.ref l), x, y] ∧ H' m = some (.dK kvs) ∧ H' l = some (.lst (((lastP ns).take i).map V.int)) ∧ Same H H' ∧ kvs.length ≤ i ∧ ∀ z : Int, valV kvs (Sum.inl z) = if lastAt ns i z = -1 then none else some (.int (lastAt ns i z)))) ?h0 ?hl ?hs ?hd
    case h0 => exact ⟨[], _, _, rfl, by kct_strs, upd_same, by kcj_in, Nat.le_refl _, fun z => rfl⟩
    case hl =>
      rintro i σ H' hi ⟨kvs, x, y, rfl, hm, hl', s, hk, hv⟩
      kct_strs
    case hs =>
      rintro i x σ H1 H' hx ⟨kvs, u, y, rfl, hm, hl', s, hk, hv⟩ s2
      obtain ⟨n, hn, rfl⟩ := iv_get hx
      have hi := (List.getElem?_eq_some_iff.mp hn).1
      have hg := getD_of hn
      have nlm : l ≠ m := by kcj_m
      have hln := lastP_len ns
      have hr := lastAt_range ns n i
      have hv' : (valV kvs (Sum.inl n)).getD (.int (-1)) = .int (lastAt ns i n) := by
        rw [hv n]
        by_cases e : lastAt ns i n = -1
        · rw [if_pos e, e]; rfl
        · rw [if_neg e]; rfl
      tb_start
      refine ⟨_, _, _, rfl, by kct_strs, lst_cast (by kct_strs) ?_, by kcj_in, ?_, fun z => ?_⟩
      · rw [lastP_take hi, hg, List.map_append]
        exact congrArg (fun v => (List.map V.int (List.take i (lastP ns))) ++ [v]) hv'
      · exact Nat.le_trans (putK_le _ _ _) (by omega)
      · rw [val_put, hv z]
        show _ = if (if ns.getD i 0 = z then (i : Int) else lastAt ns i z) = -1 then none else some (V.int (if ns.getD i 0 = z then (i : Int) else lastAt ns i z))
        rw [hg]
        by_cases e : z = n
        · rw [if_pos e, if_pos e.symm, if_neg (by omega)]
        · have e2 : ¬ n = z := fun h => e h.symm
          simp only [if_neg e, if_neg e2]
    case hd =>
      rintro σ H' ⟨kvs, x, y, rfl, hm, hl', s, hk, hv⟩
      rw [List.length_map, ← lastP_len ns, List.take_length] at hl'
      tb_start
      exact q _ _ hl' s (by cc_off)
end
end Ur
namespace Ur
open PySem L2
/-- refuses what is no width of a row -/
def sp_need_width (K : PySem.W.Frag) (C : Addr) : Sp := fun vs H Q E => ∃ (a : Addr) (ns : List Int) (v : V), vs = [.ref a, v] ∧ SqL K H a (ns.map V.int) ∧ ns.length ≤ 1000 ∧ Kind H v ∧ (∀ w : Int, v = .int w → 0 ≤ w → w ≤ ns.length → ∀ H', Same H H' → Q .non H') ∧ ((∀ w : Int, v = .int w → ¬ (0 ≤ w ∧ w ≤ ns.length)) → ∀ H', Same H H' → E (.ref C) none H')
section
variable {P : Program} {w : World} {K : PySem.W.Frag} {mg : Str → Option Value} {base : Heap} {A : Adr}
theorem ok_need_width (T : Txt K mg A) : FnOk P w K mg base (L2.CX P w) 1 A.f_need_width A.d_need_width ["row", "width"] (sp_need_width K A.c_NoWindow) := by
  refine T.F_need_width.okX sc_need_width (fun vs H Q E h => ?_) (fun cdv Ar outer s H vs Q E hr h => ?_)
  · obtain ⟨a, ns, v, rfl, _⟩ := h
    rfl
  · obtain ⟨a, ns, v, rfl, ha, hl, hk, qy, qn⟩ := h
    refine ⟨_, (pss_one (ps_if (PW.pt (pw_or (pt_not (pt_val (Ur.pe_b2 (Ur.call_isiK (K := K) rfl) (by rfl) T.m_isinstance (by decide +kernel) (pv 1) (pe_bltn (v := .ty "int") (by rfl) T.m_int (by decide +kernel) rfl)))) (pw_or (pt_val (Ur.pe_b2 (Ur.call_isiK (K := K) rfl) (by rfl) T.m_isinstance (by decide +kernel) (pv 1) (pe_bltn (v := .ty "bool") (by rfl) T.m_bool (by decide +kernel) rfl))) (pw_or1 (pt_not (pt_chain op_le op_le pe_int (pv 1) (Ur.pe_b1 (Ur.call_lenIK (K := K) rfl) (by rfl) T.m_len (by decide +kernel) (pv 0)))))))) (pss_one (ps_raise rfl (takes_of rfl rfl rfl rfl) (pmk_own PySem.F.excBase_ValueError T.x_NoWindow T.g_NoWindow T.k_NoWindow (raises_own T.b_NoWindow T.t_NoWindow) (by exact rfl)))) pss_nil)), ?_⟩
    rcases hk with ⟨i, rfl⟩ | ⟨b, rfl⟩ | ⟨x, rfl⟩ | rfl | ⟨p, xs, rfl, hp⟩ | ⟨p, xs, rfl, hp⟩ | ⟨p, xs, rfl, hp⟩
    · by_cases hw : 0 ≤ i ∧ i ≤ (ns.length : Int)
      · obtain ⟨h0, h1⟩ := hw
        tb_start
        exact qy i rfl h0 h1 _ (by kcj_in)
      · have hn : ∀ w : Int, V.int i = V.int w → ¬ (0 ≤ w ∧ w ≤ ns.length) := fun w e => by cases e; exact hw
        by_cases h0 : 0 ≤ i
        · have h1 : (ns.length : Int) < i := by omega
          tb_start
          exact qn hn _ (by kcj_in)
        · have h1 : i < 0 := by omega
          tb_start
          exact qn hn _ (by kcj_in)
    · tb_start
      exact qn (fun w e => nomatch e) _ (by kcj_in)
    · tb_start
      exact qn (fun w e => nomatch e) _ (by kcj_in)
    · tb_start
      exact qn (fun w e => nomatch e) _ (by kcj_in)
    · tb_start
      exact qn (fun w e => nomatch e) _ (by kcj_in)
    · tb_start
      exact qn (fun w e => nomatch e) _ (by kcj_in)
    · tb_start
      exact qn (fun w e => nomatch e) _ (by kcj_in)
end
end Ur
namespace Ur
open PySem L2
/-- the next places, a new list -/
def sp_next_places (K : PySem.W.Frag) : Sp := fun vs H Q _ => ∃ (a : Addr) (ns : List Int), vs = [.ref a] ∧ SqL K H a (ns.map V.int) ∧ ns.length ≤ 1000 ∧ ∀ p H', H' p = some (.lst ((nextP ns).map V.int)) → Same H H' → H p = none → Q (.ref p) H'
section
variable {P : Program} {w : World} {K : PySem.W.Frag} {mg : Str → Option Value} {base : Heap} {A : Adr}
theorem ok_next_places (T : Txt K mg A) : FnOk P w K mg base CX0 2 A.f_next_places A.d_next_places ["row"] (sp_next_places K) := by
  have G_last_places := ok_last_places (P := P) (w := w) (base := base) T
  refine T.F_next_places.ok sc_next_places (fun vs H Q E h => ?_) (fun cdv Ar outer s H vs Q E hr h => ?_)
  · obtain ⟨a, ns, rfl, _⟩ := h
    rfl
  · obtain ⟨a, ns, rfl, ha, hl, q⟩ := h
    refine ⟨_, (pss_cons (ps_set (i := 1) sc_next_places.nd rfl (Or.inl rfl) (pe_op op_rep (pe_lst (pa_cons (Ur.pe_b1 (Ur.call_lenIK (K := K) rfl) (by rfl) T.m_len (by decide +kernel) (pv 0)) pa_nil)) (Ur.pe_b1 (Ur.call_lenIK (K := K) rfl) (by rfl) T.m_len (by decide +kernel) (pv 0))))
    (pss_cons (ps_for PassesOwn.never (by rfl) (pi_enum (by rfl) T.m_enumerate (pa_cons (pe_call G_last_places (hr.mono (by decide)) (by rfl) T.g_last_places T.F_last_places.kp T.b_last_places .nil pass0 (pa_cons (pv 0) pa_nil)) pa_nil)) (pg_tup (by rfl) (pgs_cons (pg_name (i := 2) sc_next_places.nd rfl (Or.inl rfl)) (pgs_cons (pg_name (i := 3) sc_next_places.nd rfl (Or.inl rfl)) pgs_nil))) (pss_one (ps_if (pt_cmpR op_ge (pv 3) pe_int (nomark _)) (pss_one (ps_asg (pv 2) (pg_sub (pv 1) (pv 3) set_list))) pss_nil)))
    (pss_one (ps_ret (pv 1))))), ?_⟩
    tb_start
    intro l0 nl0
    tb_start
    intro l nl
    tb_start
    intro p H2 e2 s2 np
    tb_start
    refine for_enum (xs := (lastP ns).map V.int) (fun i σ H' => Iv (∃ (x y : Option V), σ = [some (.ref a), some (.ref l), x, y] ∧ H' l = some (.lst (((List.range ns.length).map fun k => nextUp ns k i).map V.int)) ∧ H' p = some (.lst ((lastP ns).map V.int)) ∧ Same H H')) ?h0 ?hl ?hs ?hd
    case h0 =>
      refine ⟨_, _, rfl, lst_cast (by kct_strs) ?_, by kct_strs, by kcj_in⟩
      rw [Int.toNat_natCast]
      show _ = List.map V.int ((List.range ns.length).map fun _ => (ns.length : Int))
      rw [List.map_const', List.length_range]
    case hl =>
      rintro i σ H' hi ⟨x, y, rfl, hl', hp, s⟩
      kct_strs
    case hs =>
      rintro i x σ H1 H' hx ⟨u, y, rfl, hl', hp, s⟩ s3
      obtain ⟨n, hn, rfl⟩ := iv_get hx
      have hil : i < ns.length := by
        have h := (List.getElem?_eq_some_iff.mp hn).1
        rw [lastP_len] at h
        exact h
      have e : n = lastAt ns i (ns.getD i 0) := by
        rw [lastP_get hil] at hn
        exact (Option.some.inj hn).symm
      have hr := lastAt_range ns (ns.getD i 0) i
      rw [← e] at hr
      have hml : ((List.range ns.length).map fun k => nextUp ns k i).length = ns.length := by rw [List.length_map, List.length_range]
      have step : ((List.range ns.length).map fun k => nextUp ns k (i + 1)) = if 0 ≤ n then ((List.range ns.length).map fun k => nextUp ns k i).set n.toNat i else (List.range ns.length).map fun k => nextUp ns k i := by
        refine List.ext_getElem? fun k => ?_
        by_cases hk : k < ns.length
        · rw [List.getElem?_map, List.getElem?_range hk]
          show some (nextUp ns k (i + 1)) = _
          rw [nextUp_step hil hk, ← e]
          by_cases h0 : 0 ≤ n
          · rw [if_pos h0, List.getElem?_set, hml]
            by_cases hnk : n = (k : Int)
            · rw [if_pos hnk, if_pos (by omega), if_pos (by omega)]
            · rw [if_neg hnk, if_neg (by omega), List.getElem?_map, List.getElem?_range hk]
              rfl
          · rw [if_neg h0, if_neg (by omega), List.getElem?_map, List.getElem?_range hk]
            rfl
        · rw [List.getElem?_eq_none (by rw [List.length_map, List.length_range]; omega)]
          split
          · rw [List.getElem?_eq_none (by rw [List.length_set, hml]; omega)]
          · rw [List.getElem?_eq_none (by rw [hml]; omega)]
      tb_start
      refine br (fun h => ?_) (fun h => ?_)
      · tb_start
        refine ⟨_, _, rfl, lst_cast (by kct_strs) ?_, by kct_strs, by kcj_in⟩
        rw [step, if_pos h]
      · refine ⟨_, _, rfl, lst_cast (by kct_strs) ?_, by kct_strs, by kcj_in⟩
        rw [step, if_neg h]
    case hd =>
      rintro σ H' ⟨x, y, rfl, hl', hp, s⟩
      tb_start
      refine q _ _ (lst_cast hl' ?_) s (by cc_off)
      rw [List.length_map, lastP_len]
      rfl
end
end Ur
namespace Ur
open PySem L2
/-- the numbers of all windows of a width, a new list -/
def sp_slid (K : PySem.W.Frag) : Sp := fun vs H Q _ => ∃ (la na : Addr) (ns : List Int) (w : Int), vs = [.ref la, .ref na, .int w] ∧ SqL K H la ((lastP ns).map V.int) ∧ SqL K H na ((nextP ns).map V.int) ∧ ns.length ≤ 1000 ∧ 0 ≤ w ∧ w ≤ ns.length ∧ ∀ p H', H' p = some (.lst ((ofW ns w.toNat).map V.int)) → Same H H' → H p = none → Q (.ref p) H'
section
variable {P : Program} {w : World} {K : PySem.W.Frag} {mg : Str → Option Value} {base : Heap} {A : Adr}
theorem ok_slid (T : Txt K mg A) : FnOk P w K mg base CX0 1 A.f_slid A.d_slid ["lasts", "nexts", "width"] (sp_slid K) := by
  refine T.F_slid.ok sc_slid (fun vs H Q E h => ?_) (fun cdv Ar outer s H vs Q E hr h => ?_)
  · obtain ⟨la, na, ns, w, rfl, _⟩ := h
    rfl
  · obtain ⟨la, na, ns, w, rfl, ha, hn, hl, h0, h1, q⟩ := h
    have hlp := lastP_len ns
    have hnp := nextP_len ns
    refine ⟨_, (pss_cons (ps_set (i := 3) sc_slid.nd rfl (Or.inl rfl) (Ur.pe_b1 (Ur.call_lenIK (K := K) rfl) (by rfl) T.m_len (by decide +kernel) (pe_lc (own := [("last", 8)]) (g := gName 8) (by rfl) sc_slid.nd (pi_list (pe_slice (Ur.sl_listK (K := K) rfl) (pv 0) po_none (po_some (pv 2)))) (blkOk_by (own := [("last", 8)]) (N := ["lasts", "nexts", "width", "number", "found", "first", "gone", "come", "last"]) (by kernel_rfl)) (fun _ _ _ _ _ => pg_name (i := 8) sc_slid.nd rfl (Or.inl rfl)) (fun _ _ _ _ _ => pts_one (pt_cmpR op_lt (pv 8) pe_int (nomark _))) (fun _ _ _ _ _ => (pv 8)))))
    (pss_cons (ps_set (i := 4) sc_slid.nd rfl (Or.inl rfl) (pe_lst (pa_cons (pv 3) pa_nil)))
    (pss_cons (ps_for PassesOwn.never (by rfl) (pi_range1 (by rfl) T.m_range (pa_cons (pe_op op_sub (Ur.pe_b1 (Ur.call_lenIK (K := K) rfl) (by rfl) T.m_len (by decide +kernel) (pv 0)) (pv 2)) pa_nil)) (pg_name (i := 5) sc_slid.nd rfl (Or.inl rfl)) (pss_cons (ps_set (i := 6) sc_slid.nd rfl (Or.inl rfl) (Ur.pe_t1 call_int1 (by rfl) T.m_int (by decide +kernel) (pe_cmpR op_ge (pe_ix (Ur.ix_listK (K := K) rfl) (pv 1) (pv 5) (fun _ _ => rfl)) (pe_op op_add (pv 5) (pv 2)) (nomark _))))
    (pss_cons (ps_set (i := 7) sc_slid.nd rfl (Or.inl rfl) (Ur.pe_t1 call_int1 (by rfl) T.m_int (by decide +kernel) (pe_cmpR op_le (pe_ix (Ur.ix_listK (K := K) rfl) (pv 0) (pe_op op_add (pv 5) (pv 2)) (fun _ _ => rfl)) (pv 5) (nomark _))))
    (pss_cons (ps_set (i := 3) sc_slid.nd rfl (Or.inl rfl) (pe_op op_add (pe_op op_sub (pv 3) (pv 6)) (pv 7)))
    (pss_one (ps_expr (pe_bm PySem.F.plainAttrs_list PySem.F.slot_list_append PySem.F.type_list_append mt_append (pv 4) (pa_cons (pv 3) pa_nil))))))))
    (pss_one (ps_ret (pv 4)))))), ?_⟩
    tb_start
    intro p1 np1
    tb_start
    intro D nD
    refine lc_intsIfI (ns := (lastP ns).take w.toNat) (fun x => decide (x < 0)) (fun x => x) (by rw [List.length_take]; omega) (.of (by kct_strs)) nD (fun _ => rfl) ?ct ?ce ?cd
    case ct =>
      intro x H' hx s Q2 q2
      tb_start
      exact q2 _ (by kcj_in)
    case ce =>
      intro x H' hx _ s Q2 q2
      tb_start
      exact q2 _ (by kcj_in)
    case cd =>
      intro H2 s2 e2
      rw [List.map_id'] at e2
      have hc : ((((lastP ns).take w.toNat).filter fun x => decide (x < 0)).length : Int) = (wunN ns 0 w.toNat : Int) := by
        have e := ulen_win (ns := ns) (f := 0) w.toNat (by omega)
        rw [List.drop_zero, List.drop_zero] at e
        show _ = ((ulen ((ns.drop 0).take (w.toNat - 0)) : Nat) : Int)
        rw [List.drop_zero, Nat.sub_zero, e]
        rfl
      tb_start
      rw [hc]
      tb_start
      intro p3 np3
      tb_start
      refine for_range (fun i σ H' => Iv (∃ (u5 u6 u7 u8 : Option V) (m : Int), σ = [some (.ref la), some (.ref na), some (.int w), some (.int m), some (.ref p3), u5, u6, u7, u8] ∧ m = (wunN ns i (i + w.toNat) : Int) ∧ H' p3 = some (.lst (((ofW ns w.toNat).take (i + 1)).map V.int)) ∧ Same H H')) ?h0 ?hs ?hd
      case h0 =>
        refine ⟨_, _, _, _, _, rfl, by rw [Nat.zero_add], lst_cast upd_same ?_, by kcj_in⟩
        rw [take_snoc (ofW_get (by omega)), Nat.zero_add]
        rfl
      case hs =>
        rintro i σ H' hi ⟨u5, u6, u7, u8, m, rfl, hm, e, s⟩
        have hiw : i + w.toNat < ns.length := by omega
        have hg1 : (nextP ns).getD ((0 : Int) + (i : Int)).toNat 0 = nx ns i := by rw [show ((0 : Int) + (i : Int)).toNat = i by omega]; exact nextP_getD (by omega)
        have hg2 : (lastP ns).getD ((0 : Int) + (i : Int) + w).toNat 0 = lp ns (i + w.toNat) := by rw [show ((0 : Int) + (i : Int) + w).toNat = i + w.toNat by omega]; exact lastP_getD (by omega)
        have hsl := wunN_slide hiw
        tb_start
        rw [hg1, hg2]
        tb_start
        have eN : m - (if decide (0 + (i : Int) + w ≤ nx ns i) = true then 1 else 0) + (if decide (lp ns (i + w.toNat) ≤ 0 + (i : Int)) = true then 1 else 0) = (wunN ns (i + 1) (i + 1 + w.toNat) : Int) := by
          rw [hsl, hm]
          have d1 : (if decide (0 + (i : Int) + w ≤ nx ns i) = true then (1 : Int) else 0) = if ((i + w.toNat : Nat) : Int) ≤ nx ns i then 1 else 0 := by
            by_cases c : ((i + w.toNat : Nat) : Int) ≤ nx ns i
            · rw [if_pos c, if_pos (decide_eq_true (by omega))]
            · rw [if_neg c, if_neg (by rw [decide_eq_false (by omega)]; exact Bool.false_ne_true)]
          have d2 : (if decide (lp ns (i + w.toNat) ≤ 0 + (i : Int)) = true then (1 : Int) else 0) = if lp ns (i + w.toNat) ≤ (i : Int) then 1 else 0 := by
            by_cases c : lp ns (i + w.toNat) ≤ (i : Int)
            · rw [if_pos c, if_pos (decide_eq_true (by omega))]
            · rw [if_neg c, if_neg (by rw [decide_eq_false (by omega)]; exact Bool.false_ne_true)]
          rw [d1, d2]
        refine ⟨_, _, _, _, _, rfl, eN, lst_cast (by kct_strs) ?_, by kcj_in⟩
        rw [take_snoc (ofW_get (show i + 1 + w.toNat ≤ ns.length by omega)), ← eN, List.map_append (l₂ := [_])]
      case hd =>
        rintro σ H' ⟨u5, u6, u7, u8, m, rfl, hm, e, s⟩
        tb_start
        refine q _ _ (lst_cast e ?_) s (by cc_off)
        rw [List.take_of_length_le (by rw [ofW_len]; omega)]
end
end Ur
namespace Ur
open PySem L2
/-- the numbers of all windows of a width, a new list -/
def sp_of_width (K : PySem.W.Frag) (C : Addr) : Sp := fun vs H Q E => ∃ (a : Addr) (ns : List Int) (v : V), vs = [.ref a, v] ∧ SqL K H a (ns.map V.int) ∧ ns.length ≤ 1000 ∧ Kind H v ∧ (∀ w : Int, v = .int w → 0 ≤ w → w ≤ ns.length → ∀ p H', H' p = some (.lst ((ofW ns w.toNat).map V.int)) → Same H H' → H p = none → Q (.ref p) H') ∧ ((∀ w : Int, v = .int w → ¬ (0 ≤ w ∧ w ≤ ns.length)) → ∀ H', Same H H' → E (.ref C) none H')
section
variable {P : Program} {w : World} {K : PySem.W.Frag} {mg : Str → Option Value} {base : Heap} {A : Adr}
theorem ok_of_width (T : Txt K mg A) : FnOk P w K mg base (L2.CX P w) 3 A.f_of_width A.d_of_width ["row", "width"] (sp_of_width K A.c_NoWindow) := by
  have G_last_places := ok_last_places (P := P) (w := w) (base := base) T
  have G_need_width := ok_need_width (P := P) (w := w) (base := base) T
  have G_next_places := ok_next_places (P := P) (w := w) (base := base) T
  have G_slid := ok_slid (P := P) (w := w) (base := base) T
  refine T.F_of_width.okX sc_of_width (fun vs H Q E h => ?_) (fun cdv Ar outer s H vs Q E hr h => ?_)
  · obtain ⟨a, ns, v, rfl, _⟩ := h
    rfl
  · obtain ⟨a, ns, v, rfl, ha, hl, hk, qy, qn⟩ := h
    refine ⟨_, (pss_cons (ps_expr (pe_callS G_need_width (hr.mono (by decide)) (by rfl) T.g_need_width T.F_need_width.kp T.b_need_width (fun σ => passAt (takes_of rfl rfl rfl rfl) σ) (pa_cons (pv 0) (pa_cons (pv 1) pa_nil))))
    (pss_one (ps_ret (pe_call G_slid (hr.mono (by decide)) (by rfl) T.g_slid T.F_slid.kp T.b_slid .nil pass0 (pa_cons (pe_call G_last_places (hr.mono (by decide)) (by rfl) T.g_last_places T.F_last_places.kp T.b_last_places .nil pass0 (pa_cons (pv 0) pa_nil)) (pa_cons (pe_call G_next_places (hr.mono (by decide)) (by rfl) T.g_next_places T.F_next_places.kp T.b_next_places .nil pass0 (pa_cons (pv 0) pa_nil)) (pa_cons (pv 1) pa_nil))))))), ?_⟩
    tb_start
    · intro hn H1 s1
      exact qn hn _ s1
    · intro w e h0 h1 H1 s1
      cases e
      repeat (rename H _ = some _ => hx; first | (have hA := Ur.adv0 s1 hx; obtain ⟨hz, hw, hv⟩ := hA; clear hw hv hx; rename H1 _ = some _ => hq) | (have hA := Ur.adv1 s1 (by kcj_m) hx; obtain ⟨hz, hw, hv⟩ := hA; clear hw hv hx; rename H1 _ = some _ => hq) | (have hA := Ur.adv2 s1 (by kcj_m) (by kcj_m) hx; obtain ⟨hz, hw, hv⟩ := hA; clear hw hv hx; rename H1 _ = some _ => hq) | (have hA := Ur.adv3 s1 (by kcj_m) (by kcj_m) (by kcj_m) hx; obtain ⟨hz, hw, hv⟩ := hA; clear hw hv hx; rename H1 _ = some _ => hq) | (have hA := Ur.adv4 s1 (by kcj_m) (by kcj_m) (by kcj_m) (by kcj_m) hx; obtain ⟨hz, hw, hv⟩ := hA; clear hw hv hx; rename H1 _ = some _ => hq) | (have hA := Ur.adv5 s1 (by kcj_m) (by kcj_m) (by kcj_m) (by kcj_m) (by kcj_m) hx; obtain ⟨hz, hw, hv⟩ := hA; clear hw hv hx; rename H1 _ = some _ => hq) | (have hA := Ur.adv6 s1 (by kcj_m) (by kcj_m) (by kcj_m) (by kcj_m) (by kcj_m) (by kcj_m) hx; obtain ⟨hz, hw, hv⟩ := hA; clear hw hv hx; rename H1 _ = some _ => hq) | (have hA := Ur.adv7 s1 (by kcj_m) (by kcj_m) (by kcj_m) (by kcj_m) (by kcj_m) (by kcj_m) (by kcj_m) hx; obtain ⟨hz, hw, hv⟩ := hA; clear hw hv hx; rename H1 _ = some _ => hq) | clear hx)
      tb_start
      intro p2 H2 e2 s2 n2
      repeat (rename H1 _ = some _ => hx; first | (have hA := Ur.adv0 s2 hx; obtain ⟨hz, hw, hv⟩ := hA; (first | have := hw _ n2 | have := hv _ n2); clear hw hv hx; rename H2 _ = some _ => hq) | (have hA := Ur.adv1 s2 (by kcj_m) hx; obtain ⟨hz, hw, hv⟩ := hA; (first | have := hw _ n2 | have := hv _ n2); clear hw hv hx; rename H2 _ = some _ => hq) | (have hA := Ur.adv2 s2 (by kcj_m) (by kcj_m) hx; obtain ⟨hz, hw, hv⟩ := hA; (first | have := hw _ n2 | have := hv _ n2); clear hw hv hx; rename H2 _ = some _ => hq) | (have hA := Ur.adv3 s2 (by kcj_m) (by kcj_m) (by kcj_m) hx; obtain ⟨hz, hw, hv⟩ := hA; (first | have := hw _ n2 | have := hv _ n2); clear hw hv hx; rename H2 _ = some _ => hq) | (have hA := Ur.adv4 s2 (by kcj_m) (by kcj_m) (by kcj_m) (by kcj_m) hx; obtain ⟨hz, hw, hv⟩ := hA; (first | have := hw _ n2 | have := hv _ n2); clear hw hv hx; rename H2 _ = some _ => hq) | (have hA := Ur.adv5 s2 (by kcj_m) (by kcj_m) (by kcj_m) (by kcj_m) (by kcj_m) hx; obtain ⟨hz, hw, hv⟩ := hA; (first | have := hw _ n2 | have := hv _ n2); clear hw hv hx; rename H2 _ = some _ => hq) | (have hA := Ur.adv6 s2 (by kcj_m) (by kcj_m) (by kcj_m) (by kcj_m) (by kcj_m) (by kcj_m) hx; obtain ⟨hz, hw, hv⟩ := hA; (first | have := hw _ n2 | have := hv _ n2); clear hw hv hx; rename H2 _ = some _ => hq) | (have hA := Ur.adv7 s2 (by kcj_m) (by kcj_m) (by kcj_m) (by kcj_m) (by kcj_m) (by kcj_m) (by kcj_m) hx; obtain ⟨hz, hw, hv⟩ := hA; (first | have := hw _ n2 | have := hv _ n2); clear hw hv hx; rename H2 _ = some _ => hq) | clear hx)
      tb_start
      intro p3 H3 e3 s3 n3
      repeat (rename H2 _ = some _ => hx; first | (have hA := Ur.adv0 s3 hx; obtain ⟨hz, hw, hv⟩ := hA; (first | have := hw _ n3 | have := hv _ n3); clear hw hv hx; rename H3 _ = some _ => hq) | (have hA := Ur.adv1 s3 (by kcj_m) hx; obtain ⟨hz, hw, hv⟩ := hA; (first | have := hw _ n3 | have := hv _ n3); clear hw hv hx; rename H3 _ = some _ => hq) | (have hA := Ur.adv2 s3 (by kcj_m) (by kcj_m) hx; obtain ⟨hz, hw, hv⟩ := hA; (first | have := hw _ n3 | have := hv _ n3); clear hw hv hx; rename H3 _ = some _ => hq) | (have hA := Ur.adv3 s3 (by kcj_m) (by kcj_m) (by kcj_m) hx; obtain ⟨hz, hw, hv⟩ := hA; (first | have := hw _ n3 | have := hv _ n3); clear hw hv hx; rename H3 _ = some _ => hq) | (have hA := Ur.adv4 s3 (by kcj_m) (by kcj_m) (by kcj_m) (by kcj_m) hx; obtain ⟨hz, hw, hv⟩ := hA; (first | have := hw _ n3 | have := hv _ n3); clear hw hv hx; rename H3 _ = some _ => hq) | (have hA := Ur.adv5 s3 (by kcj_m) (by kcj_m) (by kcj_m) (by kcj_m) (by kcj_m) hx; obtain ⟨hz, hw, hv⟩ := hA; (first | have := hw _ n3 | have := hv _ n3); clear hw hv hx; rename H3 _ = some _ => hq) | (have hA := Ur.adv6 s3 (by kcj_m) (by kcj_m) (by kcj_m) (by kcj_m) (by kcj_m) (by kcj_m) hx; obtain ⟨hz, hw, hv⟩ := hA; (first | have := hw _ n3 | have := hv _ n3); clear hw hv hx; rename H3 _ = some _ => hq) | (have hA := Ur.adv7 s3 (by kcj_m) (by kcj_m) (by kcj_m) (by kcj_m) (by kcj_m) (by kcj_m) (by kcj_m) hx; obtain ⟨hz, hw, hv⟩ := hA; (first | have := hw _ n3 | have := hv _ n3); clear hw hv hx; rename H3 _ = some _ => hq) | clear hx)
      tb_start
      intro p4 H4 e4 s4 n4
      exact qy w rfl h0 h1 p4 _ e4 (by kcj_in) (by cc_off)
end
end Ur
namespace Ur
open PySem L2
/-- the least that a window of a width has, and the least first place of such: a new pair -/
def sp_least_of (K : PySem.W.Frag) (C : Addr) : Sp := fun vs H Q E => ∃ (a : Addr) (ns : List Int) (v : V), vs = [.ref a, v] ∧ SqL K H a (ns.map V.int) ∧ ns.length ≤ 1000 ∧ Kind H v ∧ (∀ w : Int, v = .int w → 0 ≤ w → w ≤ ns.length → ∀ p m H', m ∈ ofW ns w.toNat → (∀ y ∈ ofW ns w.toNat, m ≤ y) → H' p = some (.tup [.int m, .int ((ofW ns w.toNat).idxOf m : Nat)]) → Same H H' → H p = none → Q (.ref p) H') ∧ ((∀ w : Int, v = .int w → ¬ (0 ≤ w ∧ w ≤ ns.length)) → ∀ H', Same H H' → E (.ref C) none H')
section
variable {P : Program} {w : World} {K : PySem.W.Frag} {mg : Str → Option Value} {base : Heap} {A : Adr}
theorem ok_least_of (T : Txt K mg A) : FnOk P w K mg base (L2.CX P w) 4 A.f_least_of A.d_least_of ["row", "width"] (sp_least_of K A.c_NoWindow) := by
  have G_of_width := ok_of_width (P := P) (w := w) (base := base) T
  refine T.F_least_of.okX sc_least_of (fun vs H Q E h => ?_) (fun cdv Ar outer s H vs Q E hr h => ?_)
  · obtain ⟨a, ns, v, rfl, _⟩ := h
    rfl
  · obtain ⟨a, ns, v, rfl, ha, hl, hk, qy, qn⟩ := h
    refine ⟨_, (pss_cons (ps_set (i := 2) sc_least_of.nd rfl (Or.inl rfl) (pe_callS G_of_width (hr.mono (by decide)) (by rfl) T.g_of_width T.F_of_width.kp T.b_of_width (fun σ => passAt (takes_of rfl rfl rfl rfl) σ) (pa_cons (pv 0) (pa_cons (pv 1) pa_nil))))
    (pss_cons (ps_set (i := 3) sc_least_of.nd rfl (Or.inl rfl) (Ur.pe_b1 (Ur.cr_minK (K := K) rfl rfl) (by rfl) T.m_min (by decide +kernel) (pv 2)))
    (pss_one (ps_ret (pe_tup (pa_cons (pv 3) (pa_cons (pe_bm PySem.F.plainAttrs_list PySem.F.slot_list_index PySem.F.type_list_index (Ur.mt_indexK (K := K) rfl) (pv 2) (pa_cons (pv 3) pa_nil)) pa_nil))))))), ?_⟩
    tb_start
    · intro hn H1 s1
      exact qn hn _ s1
    · intro w e h0 h1 p1 H1 e1 s1 n1
      cases e
      have hol := ofW_len ns w.toNat
      tb_start
      intro m hm hle
      tb_start
      intro p2 np2
      exact qy w rfl h0 h1 p2 m _ hm hle (by kct_strs) (by kcj_in) (by cc_off)
end
end Ur
namespace Ur
open PySem L2
/-- the most that a window of a width has, and the least first place of such: a new pair -/
def sp_most_of (K : PySem.W.Frag) (C : Addr) : Sp := fun vs H Q E => ∃ (a : Addr) (ns : List Int) (v : V), vs = [.ref a, v] ∧ SqL K H a (ns.map V.int) ∧ ns.length ≤ 1000 ∧ Kind H v ∧ (∀ w : Int, v = .int w → 0 ≤ w → w ≤ ns.length → ∀ p m H', m ∈ ofW ns w.toNat → (∀ y ∈ ofW ns w.toNat, y ≤ m) → H' p = some (.tup [.int m, .int ((ofW ns w.toNat).idxOf m : Nat)]) → Same H H' → H p = none → Q (.ref p) H') ∧ ((∀ w : Int, v = .int w → ¬ (0 ≤ w ∧ w ≤ ns.length)) → ∀ H', Same H H' → E (.ref C) none H')
section
variable {P : Program} {w : World} {K : PySem.W.Frag} {mg : Str → Option Value} {base : Heap} {A : Adr}
theorem ok_most_of (T : Txt K mg A) : FnOk P w K mg base (L2.CX P w) 4 A.f_most_of A.d_most_of ["row", "width"] (sp_most_of K A.c_NoWindow) := by
  have G_of_width := ok_of_width (P := P) (w := w) (base := base) T
  refine T.F_most_of.okX sc_most_of (fun vs H Q E h => ?_) (fun cdv Ar outer s H vs Q E hr h => ?_)
  · obtain ⟨a, ns, v, rfl, _⟩ := h
    rfl
  · obtain ⟨a, ns, v, rfl, ha, hl, hk, qy, qn⟩ := h
    refine ⟨_, (pss_cons (ps_set (i := 2) sc_most_of.nd rfl (Or.inl rfl) (pe_callS G_of_width (hr.mono (by decide)) (by rfl) T.g_of_width T.F_of_width.kp T.b_of_width (fun σ => passAt (takes_of rfl rfl rfl rfl) σ) (pa_cons (pv 0) (pa_cons (pv 1) pa_nil))))
    (pss_cons (ps_set (i := 3) sc_most_of.nd rfl (Or.inl rfl) (Ur.pe_b1 (Ur.cr_maxK (K := K) rfl rfl) (by rfl) T.m_max (by decide +kernel) (pv 2)))
    (pss_one (ps_ret (pe_tup (pa_cons (pv 3) (pa_cons (pe_bm PySem.F.plainAttrs_list PySem.F.slot_list_index PySem.F.type_list_index (Ur.mt_indexK (K := K) rfl) (pv 2) (pa_cons (pv 3) pa_nil)) pa_nil))))))), ?_⟩
    tb_start
    · intro hn H1 s1
      exact qn hn _ s1
    · intro w e h0 h1 p1 H1 e1 s1 n1
      cases e
      have hol := ofW_len ns w.toNat
      tb_start
      intro m hm hle
      tb_start
      intro p2 np2
      exact qy w rfl h0 h1 p2 m _ hm hle (by kct_strs) (by kcj_in) (by cc_off)
end
end Ur
namespace Ur
open PySem L2
theorem rNe_two {K : PySem.W.Frag} {H : Hp} {p q : Addr} {x y : Int} {Q : VK} (h1 : H p = some (.tup [.int x, .int y])) (h2 : H q = some (.tup [.int x, .int y])) (k : Q (.bl false) H) : rNeD K (.ref p) (.ref q) H Q :=
  ⟨_, _, dp_tup (ns := [x, y]) h1, dp_tup (ns := [x, y]) h2, shaped_of (canLayAll_ints _) (Nat.le_trans (depth_tup _) (by decide)), shaped_of (canLayAll_ints _) (Nat.le_trans (depth_tup _) (by decide)), by
    have e : PyData.eqv (tupD [x, y]) (tupD [x, y]) = true := by
      show PyData.eqvAll _ _ = true
      rw [eqvAll_ints]
      exact decide_eq_true rfl
    rw [e]; exact k⟩
/-- the handed numbers are those of the windows: True -/
def sp__law_right (K : PySem.W.Frag) (P : Program) (w : World) (mg : Str → Option Value) (base : Heap) : Sp := fun vs H Q _ => ∃ (a f : Addr) (ns : List Int) (g : Int → Int → Int), vs = [.ref a, .ref f] ∧ H a = some (.lst (ns.map V.int)) ∧ ns.length ≤ 300 ∧ Acts P w K mg base 1 H f g ∧
  (∀ x : Nat, x ≤ ns.length → (List.range (ns.length - x + 1)).map (fun i => g (i : Nat) (x : Nat)) = ofW ns x) ∧ ∀ H', Same H H' → Q (.bl true) H'
section
variable {P : Program} {w : World} {K : PySem.W.Frag} {mg : Str → Option Value} {base : Heap} {A : Adr}
theorem ok__law_right (T : Txt K mg A) : FnOk P w K mg base CX0 5 A.f__law_right A.d__law_right ["row", "numbers_by"] (sp__law_right K P w mg base) := by
  have G_least_of := ok_least_of (P := P) (w := w) (base := base) T
  have G_most_of := ok_most_of (P := P) (w := w) (base := base) T
  have G_of_width := ok_of_width (P := P) (w := w) (base := base) T
  refine T.F__law_right.ok sc__law_right (fun vs H Q E h => ?_) (fun cdv Ar outer s H vs Q E hr h => ?_)
  · obtain ⟨a, f, ns, g, rfl, _⟩ := h
    rfl
  · obtain ⟨a, f, ns, g, rfl, ha, hl, hA, hg, q⟩ := h
    refine ⟨_, (pss_cons (ps_set (i := 2) sc__law_right.nd rfl (Or.inl rfl) (pe_op op_add pe_int (pe_op op_fdiv (Ur.pe_b1 (Ur.call_lenIK (K := K) rfl) (by rfl) T.m_len (by decide +kernel) (pv 0)) pe_int)))
    (pss_cons (ps_for PassesOwn.never (by rfl) (pi_list (pe_op op_cat (Ur.pe_listRg3 (by rfl) (by rfl) T.m_list (by rfl) T.m_range (pa_cons pe_int (pa_cons (pe_op op_add (Ur.pe_b1 (Ur.call_lenIK (K := K) rfl) (by rfl) T.m_len (by decide +kernel) (pv 0)) pe_int) (pa_cons (pv 2) pa_nil)))) (pe_lst (pa_cons (Ur.pe_b1 (Ur.call_lenIK (K := K) rfl) (by rfl) T.m_len (by decide +kernel) (pv 0)) pa_nil)))) (pg_name (i := 3) sc__law_right.nd rfl (Or.inr rfl)) (pss_cons (ps_setLc (i := 4) (own := [("first", 5)]) (g := gName 5) (by rfl) sc__law_right.nd rfl rfl (sw_true rfl rfl rfl (by decide +kernel)) (pi_range1 (by rfl) T.m_range (pa_cons (pe_op op_add (pe_op op_sub (Ur.pe_b1 (Ur.call_lenIK (K := K) rfl) (by rfl) T.m_len (by decide +kernel) (pv 0)) (pv 3)) pe_int) pa_nil)) (blkOk_by (own := [("first", 5)]) (N := ["row", "numbers_by", "step", "width", "due", "first"]) (by kernel_rfl)) (fun _ _ _ _ _ => pg_name (i := 5) sc__law_right.nd rfl (Or.inl rfl)) (fun _ _ _ _ _ => pts_nil) (fun _ _ _ _ _ => (Ur.pe_acts (P := P) (w := w) (K := K) (mg := mg) (base := base) (i := 1) (k := 1) ⟨rfl, rfl, rfl, rfl, rfl⟩ (hr.mono (by decide)) (by rfl) (by first | exact Or.inl rfl | exact Or.inr (Or.inl rfl) | exact Or.inr (Or.inr rfl)) (pa_cons (pv 5) (pa_cons (pv 3) pa_nil)))))
    (pss_cons (ps_if (pt_cmpR (Ur.op_neDK (K := K) rfl hr.units) (pe_call G_of_width (hr.mono (by decide)) (by rfl) T.g_of_width T.F_of_width.kp T.b_of_width .nil passL (pa_cons (pv 0) (pa_cons (pv 3) pa_nil))) (pv 4) (nomark _)) (pss_one (ps_ret pe_bl)) pss_nil)
    (pss_cons (ps_if (pt_cmpR (Ur.op_neDK (K := K) rfl hr.units) (pe_call G_most_of (hr.mono (by decide)) (by rfl) T.g_most_of T.F_most_of.kp T.b_most_of .nil passL (pa_cons (pv 0) (pa_cons (pv 3) pa_nil))) (pe_tup (pa_cons (Ur.pe_b1 (Ur.cr_maxK (K := K) rfl rfl) (by rfl) T.m_max (by decide +kernel) (pv 4)) (pa_cons (pe_bm PySem.F.plainAttrs_list PySem.F.slot_list_index PySem.F.type_list_index (Ur.mt_indexK (K := K) rfl) (pv 4) (pa_cons (Ur.pe_b1 (Ur.cr_maxK (K := K) rfl rfl) (by rfl) T.m_max (by decide +kernel) (pv 4)) pa_nil)) pa_nil))) (nomark _)) (pss_one (ps_ret pe_bl)) pss_nil)
    (pss_one (ps_if (pt_cmpR (Ur.op_neDK (K := K) rfl hr.units) (pe_call G_least_of (hr.mono (by decide)) (by rfl) T.g_least_of T.F_least_of.kp T.b_least_of .nil passL (pa_cons (pv 0) (pa_cons (pv 3) pa_nil))) (pe_tup (pa_cons (Ur.pe_b1 (Ur.cr_minK (K := K) rfl rfl) (by rfl) T.m_min (by decide +kernel) (pv 4)) (pa_cons (pe_bm PySem.F.plainAttrs_list PySem.F.slot_list_index PySem.F.type_list_index (Ur.mt_indexK (K := K) rfl) (pv 4) (pa_cons (Ur.pe_b1 (Ur.cr_minK (K := K) rfl rfl) (by rfl) T.m_min (by decide +kernel) (pv 4)) pa_nil)) pa_nil))) (nomark _)) (pss_one (ps_ret pe_bl)) pss_nil))))))
    (pss_one (ps_ret pe_bl)))), ?_⟩
    obtain ⟨N, hN1, hN2, hN3⟩ := rgc_up (b := (ns.length : Int) + 1) (c := 1 + (ns.length : Int) / 8) (by omega) (by omega) (by omega) (by omega)
    have q10 : 0 ≤ (ns.length : Int) / 8 := by omega
    tb_start
    intro p6 np6
    tb_start
    intro p7 np7
    have h67 : p6 ≠ p7 := by kcj_m
    tb_start
    intro p8 np8
    have s8 : Same H (upd (upd (upd H p6 (.lst (rgCV 0 (1 + (ns.length : Int) / 8) N))) p7 (.lst [.int (ns.length : Int)])) p8 (.lst (rgCV 0 (1 + (ns.length : Int) / 8) N ++ [.int (ns.length : Int)]))) := by kcj_in
    have f8 : (upd (upd (upd H p6 (.lst (rgCV 0 (1 + (ns.length : Int) / 8) N))) p7 (.lst [.int (ns.length : Int)])) p8 (.lst (rgCV 0 (1 + (ns.length : Int) / 8) N ++ [.int (ns.length : Int)]))) p8 = some (.lst (rgCV 0 (1 + (ns.length : Int) / 8) N ++ [.int (ns.length : Int)])) := upd_same
    have hws : ∀ x ∈ rgCV 0 (1 + (ns.length : Int) / 8) N ++ [.int (ns.length : Int)], ∃ x2 : Nat, x = V.int x2 ∧ x2 ≤ ns.length := by
      intro x hx
      rcases List.mem_append.mp hx with h | h
      · obtain ⟨k, hk, rfl⟩ := List.mem_map.mp h
        have := hN2 k (List.mem_range.mp hk)
        clear hx h
        generalize 0 + (k : Int) * (1 + (ns.length : Int) / 8) = z at *
        exact ⟨z.toNat, by rw [Int.toNat_of_nonneg this.1], by omega⟩
      · exact ⟨ns.length, List.mem_singleton.mp h, Nat.le_refl _⟩
    clear np6 np7 np8
    generalize (upd (upd (upd H p6 (.lst (rgCV 0 (1 + (ns.length : Int) / 8) N))) p7 (.lst [.int (ns.length : Int)])) p8 (.lst (rgCV 0 (1 + (ns.length : Int) / 8) N ++ [.int (ns.length : Int)]))) = H8 at *
    generalize rgCV 0 (1 + (ns.length : Int) / 8) N ++ [.int (ns.length : Int)] = xs at *
    tb_start
    refine for_list (xs := xs) (fun i σ H' => Iv (∃ (u3 u4 u5 : Option V), σ = [some (.ref a), some (.ref f), some (.int (1 + (ns.length : Int) / 8)), u3, u4, u5] ∧ Same H8 H')) ?k0 ?kl ?ks ?kd
    case k0 => exact ⟨_, _, _, rfl, Same.refl _⟩
    case kl =>
      rintro i σ H' hi ⟨u3, u4, u5, rfl, s⟩
      have := s _ _ f8
      kct_strs
    case kd =>
      rintro σ H9 ⟨u3, u4, u5, rfl, s⟩
      tb_start
      exact q _ (s8.trans s)
    case ks =>
      rintro i x σ H9 hx ⟨u3, u4, u5, rfl, s⟩
      obtain ⟨x2, rfl, hw1⟩ := hws x (List.mem_of_getElem? hx)
      have s09 := s8.trans s
      have g9 := s09 _ _ ha
      have A9 := hA.same s09
      have hl9 : ns.length ≤ 1000 := by omega
      have hgx := hg x2 hw1
      clear hg hws f8 ha hA s8
      tb_start
      intro D nD
      refine lc_rngI (fun (j : Nat) => g (j : Nat) (x2 : Nat)) (by omega) nD (fun _ => rfl) ?e2 ?d2
      case e2 =>
        intro j H' hj s' Q' q'
        have A' := A9.same s'
        have hsm : Sm2 (0 + (j : Int)) (x2 : Int) := ⟨by omega, by omega, by omega, by omega⟩
        tb_start
        exact qint (q' _ (Same.refl _)) (by rw [Int.zero_add])
      case d2 =>
      intro H10 s10 e10
      have hn : ((ns.length : Int) - (x2 : Int) + 1).toNat = ns.length - x2 + 1 := by omega
      rw [hn, hgx] at e10
      have g10 := s10 _ _ g9
      have hol := ofW_len ns x2
      have s010 := s.trans s10
      clear hgx A9 hn nD s g9 s09 hx
      tb_start
      · exact fun hz => (hz x2 rfl ⟨by omega, by omega⟩).elim
      intro w2 ew _ _ p1 K1 e1 s1 n1
      cases ew
      rw [Int.toNat_natCast] at e1
      have dK1 := s1 _ _ e10
      have gK1 := s1 _ _ g10
      have sK1 := s010.trans s1
      clear s1 n1 s010 g10 e10 s10
      tb_start
      · exact fun hz => (hz x2 rfl ⟨by omega, by omega⟩).elim
      intro w2 ew _ _ pm m K2 hm hle e2 s2 n2
      cases ew
      rw [Int.toNat_natCast] at hm hle e2
      have dK2 := s2 _ _ dK1
      have gK2 := s2 _ _ gK1
      have sK2 := sK1.trans s2
      clear s2 n2 sK1 gK1 dK1 e1
      tb_start
      intro m' hm' hle'
      have em : m' = m := Int.le_antisymm (hle _ hm') (hle' _ hm)
      subst em
      tb_start
      intro m3 hm3 hle3
      have em : m3 = m' := Int.le_antisymm (hle' _ hm3) (hle3 _ hm')
      subst em
      tb_start
      intro p np
      have sw : Same K2 (upd K2 p (.tup [.int m3, .int (List.idxOf m3 (ofW ns x2) : Nat)])) := same_new np
      refine rNe_two (sw _ _ e2) upd_same ?_
      have dK3 := sw _ _ dK2
      have gK3 := sw _ _ gK2
      have sK3 := sK2.trans sw
      clear sw np sK2 gK2 dK2 e2
      generalize (upd K2 p (.tup [.int m3, .int (List.idxOf m3 (ofW ns x2) : Nat)])) = K3 at *
      tb_start
      · exact fun hz => (hz x2 rfl ⟨by omega, by omega⟩).elim
      intro w2 ew _ _ pq mm K4 hmm hlee e4 s4 n4
      cases ew
      rw [Int.toNat_natCast] at hmm hlee e4
      have dK4 := s4 _ _ dK3
      have gK4 := s4 _ _ gK3
      have sK4 := sK3.trans s4
      clear s4 n4 sK3 gK3 dK3
      tb_start
      intro m2 hm2 hle2
      have em : m2 = mm := Int.le_antisymm (hle2 _ hmm) (hlee _ hm2)
      subst em
      tb_start
      intro m4 hm4 hle4
      have em : m4 = m2 := Int.le_antisymm (hle4 _ hm2) (hle2 _ hm4)
      subst em
      tb_start
      intro p5 np5
      have sw : Same K4 (upd K4 p5 (.tup [.int m4, .int (List.idxOf m4 (ofW ns x2) : Nat)])) := same_new np5
      refine rNe_two (sw _ _ e4) upd_same ?_
      have sK5 := sK4.trans sw
      clear sw np5 sK4 gK4 dK4 e4
      generalize (upd K4 p5 (.tup [.int m4, .int (List.idxOf m4 (ofW ns x2) : Nat)])) = K5 at *
      tb_start
      exact ⟨_, _, _, rfl, sK5⟩
end
end Ur
namespace Ur
open PySem L2
/-- a number of its own for each place -/
def sp__law_value (K : PySem.W.Frag) : Sp := fun vs H Q _ => ∃ (w i : Int), vs = [.int w, .int i] ∧ ∀ H', Same H H' → Q (.int (lawV w i)) H'
section
variable {P : Program} {w : World} {K : PySem.W.Frag} {mg : Str → Option Value} {base : Heap} {A : Adr}
theorem ok__law_value (T : Txt K mg A) : FnOk P w K mg base CX0 1 A.f__law_value A.d__law_value ["way", "at"] (sp__law_value K) := by
  refine T.F__law_value.ok sc__law_value (fun vs H Q E h => ?_) (fun cdv Ar outer s H vs Q E hr h => ?_)
  · obtain ⟨w, i, rfl, _⟩ := h
    rfl
  · obtain ⟨w, i, rfl, q⟩ := h
    refine ⟨_, (pss_cons (ps_if (pt_cmpR op_eq (pv 0) pe_int (nomark _)) (pss_one (ps_ret (pv 1))) pss_nil)
    (pss_cons (ps_if (pt_cmpR op_eq (pv 0) pe_int (nomark _)) (pss_one (ps_ret (pe_op op_sub (pe_op op_pow pe_int pe_int) (pv 1)))) pss_nil)
    (pss_cons (ps_if (pt_cmpR op_eq (pv 0) pe_int (nomark _)) (pss_one (ps_ret (pe_op op_mul (pe_ix (Ur.ix_listK (K := K) rfl) (pe_lst (pa_cons (pe_un un_neg pe_int) (pa_cons pe_int pa_nil))) (pe_op op_mod (pv 1) pe_int) (fun _ _ => rfl)) (pe_op op_add (pe_op op_pow pe_int pe_int) (pv 1))))) pss_nil)
    (pss_cons (ps_if (pt_cmpR op_eq (pv 0) pe_int (nomark _)) (pss_one (ps_ret (pe_op op_sub (pv 1) pe_int))) pss_nil)
    (pss_one (ps_ret (pe_op op_sub (pe_op op_mul pe_int (pv 1)) (pe_op op_pow pe_int pe_int)))))))), ?_⟩
    have g1 : (10 : Int) ^ (20 : Int).toNat = 100000000000000000000 := by decide
    have g2 : (10 : Int) ^ (18 : Int).toNat = 1000000000000000000 := by decide
    by_cases h0 : w = 0
    · subst h0
      tb_start
      exact q _ (by kcj_in)
    by_cases h1 : w = 1
    · subst h1
      tb_start
      exact q _ (by kcj_in)
    by_cases h2 : w = 2
    · subst h2
      have h2 : i % 2 = 0 ∨ i % 2 = 1 := by omega
      rcases h2 with e | e
      · have hx : atI [V.int (-1), V.int 1] (i % 2) = some (.int (-1)) := by rw [e]; rfl
        tb_start
        intro p np
        tb_start
        refine qint (q _ (by kcj_in)) ?_
        show _ = lawV 2 i
        unfold lawV
        rw [g2, if_neg (by decide), if_neg (by decide), if_pos rfl, if_pos e]
      · have hx : atI [V.int (-1), V.int 1] (i % 2) = some (.int 1) := by rw [e]; rfl
        tb_start
        intro p np
        tb_start
        refine qint (q _ (by kcj_in)) ?_
        show _ = lawV 2 i
        unfold lawV
        rw [g2, if_neg (by decide), if_neg (by decide), if_pos rfl, if_neg (by omega)]
    by_cases h3 : w = 3
    · subst h3
      tb_start
      exact q _ (by kcj_in)
    · tb_start
      refine bri (fun h => absurd h h0) (fun _ => ?_)
      tb_start
      refine bri (fun h => absurd h h1) (fun _ => ?_)
      tb_start
      refine bri (fun h => absurd h h2) (fun _ => ?_)
      tb_start
      refine bri (fun h => absurd h h3) (fun _ => ?_)
      tb_start
      refine qint (q _ (by kcj_in)) ?_
      unfold lawV
      rw [g1, if_neg h0, if_neg h1, if_neg h2, if_neg h3]
end
end Ur
namespace Ur
open PySem L2
/-- for each width the sum, a new list -/
def sp_sums (K : PySem.W.Frag) : Sp := fun vs H Q _ => ∃ (a : Addr) (ns : List Int), vs = [.ref a] ∧ SqL K H a (ns.map V.int) ∧ ns.length ≤ 1000 ∧ ∀ p H', H' p = some (.lst ((sumsW ns).map V.int)) → Same H H' → H p = none → Q (.ref p) H'
section
variable {P : Program} {w : World} {K : PySem.W.Frag} {mg : Str → Option Value} {base : Heap} {A : Adr}
theorem ok_sums (T : Txt K mg A) : FnOk P w K mg base CX0 3 A.f_sums A.d_sums ["row"] (sp_sums K) := by
  have G_last_places := ok_last_places (P := P) (w := w) (base := base) T
  have G_next_places := ok_next_places (P := P) (w := w) (base := base) T
  have G_slid := ok_slid (P := P) (w := w) (base := base) T
  refine T.F_sums.ok sc_sums (fun vs H Q E h => ?_) (fun cdv Ar outer s H vs Q E hr h => ?_)
  · obtain ⟨a, ns, rfl, _⟩ := h
    rfl
  · obtain ⟨a, ns, rfl, ha, hl, q⟩ := h
    refine ⟨_, (pss_cons (ps_set (i := 1) sc_sums.nd rfl (Or.inr rfl) (pe_call G_last_places (hr.mono (by decide)) (by rfl) T.g_last_places T.F_last_places.kp T.b_last_places .nil pass0 (pa_cons (pv 0) pa_nil)))
    (pss_cons (ps_set (i := 2) sc_sums.nd rfl (Or.inr rfl) (pe_call G_next_places (hr.mono (by decide)) (by rfl) T.g_next_places T.F_next_places.kp T.b_next_places .nil pass0 (pa_cons (pv 0) pa_nil)))
    (pss_one (ps_ret (pe_lc (own := [("width", 3)]) (g := gName 3) (by rfl) sc_sums.nd (pi_range1 (by rfl) T.m_range (pa_cons (pe_op op_add (Ur.pe_b1 (Ur.call_lenIK (K := K) rfl) (by rfl) T.m_len (by decide +kernel) (pv 0)) pe_int) pa_nil)) (blkOk_by (own := [("width", 3)]) (N := ["row", "lasts", "nexts", "width"]) (by kernel_rfl)) (fun _ _ _ _ _ => pg_name (i := 3) sc_sums.nd rfl (Or.inl rfl)) (fun _ _ _ _ _ => pts_nil) (fun _ _ _ _ _ => (Ur.pe_b1 (Ur.cr_sumK (K := K) rfl rfl) (by rfl) T.m_sum (by decide +kernel) (pe_call G_slid (hr.mono (by decide)) (by rfl) T.g_slid T.F_slid.kp T.b_slid .nil pass0 (pa_cons (pv 1) (pa_cons (pv 2) (pa_cons (pv 3) pa_nil))))))))))), ?_⟩
    tb_start
    intro p1 H1 e1 s1 n1
    repeat (rename H _ = some _ => hx; first | (have hA := Ur.adv0 s1 hx; obtain ⟨hz, hw, hv⟩ := hA; clear hw hv hx; rename H1 _ = some _ => hq) | (have hA := Ur.adv1 s1 (by kcj_m) hx; obtain ⟨hz, hw, hv⟩ := hA; clear hw hv hx; rename H1 _ = some _ => hq) | (have hA := Ur.adv2 s1 (by kcj_m) (by kcj_m) hx; obtain ⟨hz, hw, hv⟩ := hA; clear hw hv hx; rename H1 _ = some _ => hq) | (have hA := Ur.adv3 s1 (by kcj_m) (by kcj_m) (by kcj_m) hx; obtain ⟨hz, hw, hv⟩ := hA; clear hw hv hx; rename H1 _ = some _ => hq) | (have hA := Ur.adv4 s1 (by kcj_m) (by kcj_m) (by kcj_m) (by kcj_m) hx; obtain ⟨hz, hw, hv⟩ := hA; clear hw hv hx; rename H1 _ = some _ => hq) | (have hA := Ur.adv5 s1 (by kcj_m) (by kcj_m) (by kcj_m) (by kcj_m) (by kcj_m) hx; obtain ⟨hz, hw, hv⟩ := hA; clear hw hv hx; rename H1 _ = some _ => hq) | (have hA := Ur.adv6 s1 (by kcj_m) (by kcj_m) (by kcj_m) (by kcj_m) (by kcj_m) (by kcj_m) hx; obtain ⟨hz, hw, hv⟩ := hA; clear hw hv hx; rename H1 _ = some _ => hq) | (have hA := Ur.adv7 s1 (by kcj_m) (by kcj_m) (by kcj_m) (by kcj_m) (by kcj_m) (by kcj_m) (by kcj_m) hx; obtain ⟨hz, hw, hv⟩ := hA; clear hw hv hx; rename H1 _ = some _ => hq) | clear hx)
    tb_start
    intro p2 H2 e2 s2 n2
    repeat (rename H1 _ = some _ => hx; first | (have hA := Ur.adv0 s2 hx; obtain ⟨hz, hw, hv⟩ := hA; (first | have := hw _ n2 | have := hv _ n2); clear hw hv hx; rename H2 _ = some _ => hq) | (have hA := Ur.adv1 s2 (by kcj_m) hx; obtain ⟨hz, hw, hv⟩ := hA; (first | have := hw _ n2 | have := hv _ n2); clear hw hv hx; rename H2 _ = some _ => hq) | (have hA := Ur.adv2 s2 (by kcj_m) (by kcj_m) hx; obtain ⟨hz, hw, hv⟩ := hA; (first | have := hw _ n2 | have := hv _ n2); clear hw hv hx; rename H2 _ = some _ => hq) | (have hA := Ur.adv3 s2 (by kcj_m) (by kcj_m) (by kcj_m) hx; obtain ⟨hz, hw, hv⟩ := hA; (first | have := hw _ n2 | have := hv _ n2); clear hw hv hx; rename H2 _ = some _ => hq) | (have hA := Ur.adv4 s2 (by kcj_m) (by kcj_m) (by kcj_m) (by kcj_m) hx; obtain ⟨hz, hw, hv⟩ := hA; (first | have := hw _ n2 | have := hv _ n2); clear hw hv hx; rename H2 _ = some _ => hq) | (have hA := Ur.adv5 s2 (by kcj_m) (by kcj_m) (by kcj_m) (by kcj_m) (by kcj_m) hx; obtain ⟨hz, hw, hv⟩ := hA; (first | have := hw _ n2 | have := hv _ n2); clear hw hv hx; rename H2 _ = some _ => hq) | (have hA := Ur.adv6 s2 (by kcj_m) (by kcj_m) (by kcj_m) (by kcj_m) (by kcj_m) (by kcj_m) hx; obtain ⟨hz, hw, hv⟩ := hA; (first | have := hw _ n2 | have := hv _ n2); clear hw hv hx; rename H2 _ = some _ => hq) | (have hA := Ur.adv7 s2 (by kcj_m) (by kcj_m) (by kcj_m) (by kcj_m) (by kcj_m) (by kcj_m) (by kcj_m) hx; obtain ⟨hz, hw, hv⟩ := hA; (first | have := hw _ n2 | have := hv _ n2); clear hw hv hx; rename H2 _ = some _ => hq) | clear hx)
    tb_start
    intro D nD
    refine lc_rngI (fun w => (ofW ns w).sum) (by omega) nD (fun _ => rfl) ?ce ?cd
    case ce =>
      intro k H3 hk s3 Q2 q2
      have ha3 := (s1.trans (s2.trans s3)).seq ha
      tb_start
      intro p4 H4 e4 s4 n4
      tb_start
      exact qint (q2 _ (by kcj_in)) (by rw [show ((0 : Int) + (k : Int)).toNat = k by omega])
    case cd =>
      intro H3 s3 e3
      exact q _ _ (lst_cast e3 (by unfold sumsW; rfl)) (by kcj_in) (by cc_off)
end
end Ur
namespace Ur
open PySem L2
/-- the law holds -/
def sp_law (K : PySem.W.Frag) (Pt : Addr) : Sp := fun vs H Q _ => ∃ (a : Addr) (ns : List Int), vs = [.ref a] ∧ H Pt = some (.tbl #[]) ∧ SqL K H a (ns.map V.int) ∧ ns.length ≤ 63 ∧ ∀ H', Q (.bl true) H'
section
variable {P : Program} {w : World} {K : PySem.W.Frag} {mg : Str → Option Value} {base : Heap} {A : Adr}
theorem ok_law {oc kV doc pm ct : Value} {od an : Option Addr} {sl : Array (Option Value)} {cc Pt : Addr} (T : Txt K mg A) (lk : K.lookup A.f_law = some ⟨oc, od, .func (PySem.W.fnOf "law" "law" (defArgs s_law) (defBody s_law) (defScope s_law) .none kV doc pm an (.ref cc) ct), sl⟩) (hcd : PySem.W.codeIn K (.ref cc) "law" = true) (TB : LamX.TabB base mg cc Pt) : FnOk P w K mg base CX0 6 A.f_law (PySem.W.fnOf "law" "law" (defArgs s_law) (defBody s_law) (defScope s_law) .none kV doc pm an (.ref cc) ct) ["script"] (sp_law K Pt) := by
  have G__law_next := ok__law_next (P := P) (w := w) (base := base) T
  have G__law_purse := ok__law_purse (P := P) (w := w) (base := base) T
  have G__law_right := ok__law_right (P := P) (w := w) (base := base) T
  have G__law_value := ok__law_value (P := P) (w := w) (base := base) T
  have G_sums := ok_sums (P := P) (w := w) (base := base) T
  refine Ur.mkOk lk hcd sc_law (fun vs H Q E h => ?_) (fun Ar outer s H vs Q E hr h => ?_)
  · obtain ⟨a, ns, rfl, _⟩ := h
    rfl
  · obtain ⟨a, ns, rfl, hPt, ha, hl, q⟩ := h
    refine ⟨_, (pss_cons (ps_set (i := 1) sc_law.nd rfl (Or.inl rfl) (pe_call G__law_purse (hr.mono (by decide)) (by rfl) T.g__law_purse T.F__law_purse.kp T.b__law_purse .nil pass0 (pa_cons (pv 0) (pa_cons pe_int (pa_cons pe_int (pa_cons pe_int pa_nil))))))
    (pss_cons (ps_set (i := 2) sc_law.nd rfl (Or.inr rfl) (pe_ix (Ur.ix_listK (K := K) rfl) (pe_lst (pa_cons (pe_op op_mod (pe_call G__law_next (hr.mono (by decide)) (by rfl) T.g__law_next T.F__law_next.kp T.b__law_next .nil pass0 (pa_cons (pv 1) pa_nil)) pe_int) (pa_cons (pe_op op_add pe_int (pe_op op_mod (pe_call G__law_next (hr.mono (by decide)) (by rfl) T.g__law_next T.F__law_next.kp T.b__law_next .nil pass0 (pa_cons (pv 1) pa_nil)) pe_int)) (pa_cons (pe_op op_add pe_int (pe_op op_mod (pe_call G__law_next (hr.mono (by decide)) (by rfl) T.g__law_next T.F__law_next.kp T.b__law_next .nil pass0 (pa_cons (pv 1) pa_nil)) pe_int)) pa_nil)))) (pe_op op_mod (pe_call G__law_next (hr.mono (by decide)) (by rfl) T.g__law_next T.F__law_next.kp T.b__law_next .nil pass0 (pa_cons (pv 1) pa_nil)) pe_int) (fun _ _ => rfl)))
    (pss_cons (ps_set (i := 7) sc_law.nd rfl (Or.inr rfl) (pe_op op_add pe_int (pe_op op_mod (pe_call G__law_next (hr.mono (by decide)) (by rfl) T.g__law_next T.F__law_next.kp T.b__law_next .nil pass0 (pa_cons (pv 1) pa_nil)) (pe_ix (Ur.ix_listK (K := K) rfl) (pe_lst (pa_cons pe_int (pa_cons pe_int (pa_cons pe_int pa_nil)))) (pe_op op_mod (pe_call G__law_next (hr.mono (by decide)) (by rfl) T.g__law_next T.F__law_next.kp T.b__law_next .nil pass0 (pa_cons (pv 1) pa_nil)) pe_int) (fun _ _ => rfl)))))
    (pss_cons (ps_set (i := 3) sc_law.nd rfl (Or.inr rfl) (pe_op op_mod (pe_call G__law_next (hr.mono (by decide)) (by rfl) T.g__law_next T.F__law_next.kp T.b__law_next .nil pass0 (pa_cons (pv 1) pa_nil)) pe_int))
    (pss_cons (ps_setLc (i := 4) (own := [("k", 8)]) (g := gName 8) (by rfl) sc_law.nd rfl rfl (sw_true rfl rfl rfl (by decide +kernel)) (pi_range1 (by rfl) T.m_range (pa_cons (pv 2) pa_nil)) (blkOk_by (own := [("k", 8)]) (N := ["script", "purse", "many", "way", "unlike", "around", "stood", "turn", "k", "width"]) (by kernel_rfl)) (fun _ _ _ _ _ => pg_name (i := 8) sc_law.nd rfl (Or.inl rfl)) (fun _ _ _ _ _ => pts_nil) (fun _ _ _ _ _ => (pe_call G__law_value (hr.mono (by decide)) (by rfl) T.g__law_value T.F__law_value.kp T.b__law_value .nil pass0 (pa_cons (pv 3) (pa_cons (pv 8) pa_nil)))))
    (pss_cons (ps_if (pt_not (pt_val (Ur.pe_lamH (k := 0) (N := ["first", "width"]) (ps := ["first", "width"]) (fr := []) (js := []) G__law_right (hr.mono (by decide)) (by rfl) T.g__law_right T.F__law_right.kp T.b__law_right TB rfl (List.mem_singleton.mpr rfl) (fun p hp _ => by rw [List.mem_singleton.mp hp]) (NdefX.nscope_by (by rfl)) rfl rfl (fun q cl pm cv ctv us hl => match us, hl with | [_, _], _ => rfl) (by rfl) rfl (pv 4) (fun A outer s H f c hr => (pv 1))))) (pss_one (ps_ret pe_bl)) pss_nil)
    (pss_cons (ps_if (pt_cmpR (Ur.op_neDK (K := K) rfl hr.units) (pe_call G_sums (hr.mono (by decide)) (by rfl) T.g_sums T.F_sums.kp T.b_sums .nil pass0 (pa_cons (pv 4) pa_nil)) (pe_lc (own := [("width", 9)]) (g := gName 9) (by rfl) sc_law.nd (pi_range1 (by rfl) T.m_range (pa_cons (pe_op op_add (pv 2) pe_int) pa_nil)) (blkOk_by (own := [("width", 9)]) (N := ["script", "purse", "many", "way", "unlike", "around", "stood", "turn", "k", "width"]) (by kernel_rfl)) (fun _ _ _ _ _ => pg_name (i := 9) sc_law.nd rfl (Or.inl rfl)) (fun _ _ _ _ _ => pts_nil) (fun _ _ _ _ _ => (pe_op op_mul (pv 9) (pe_op op_add (pe_op op_sub (pv 2) (pv 9)) pe_int)))) (nomark _)) (pss_one (ps_ret pe_bl)) pss_nil)
    (pss_cons (ps_if (pt_not (pt_val (Ur.pe_lamH (k := 0) (N := ["first", "width"]) (ps := ["first", "width"]) (fr := []) (js := []) G__law_right (hr.mono (by decide)) (by rfl) T.g__law_right T.F__law_right.kp T.b__law_right TB rfl (List.mem_singleton.mpr rfl) (fun p hp _ => by rw [List.mem_singleton.mp hp]) (NdefX.nscope_by (by rfl)) rfl rfl (fun q cl pm cv ctv us hl => match us, hl with | [_, _], _ => rfl) (by rfl) rfl (pe_op op_rep (pe_lst (pa_cons (pe_call G__law_value (hr.mono (by decide)) (by rfl) T.g__law_value T.F__law_value.kp T.b__law_value .nil pass0 (pa_cons (pv 3) (pa_cons pe_int pa_nil))) pa_nil)) (pv 2)) (fun A outer s H f c hr => (Ur.pe_b2 (Ur.call_min2K rfl) (by rfl) T.m_min (by decide +kernel) (pv 1) pe_int))))) (pss_one (ps_ret pe_bl)) pss_nil)
    (pss_cons (ps_if (pt_cmpR (Ur.op_neDK (K := K) rfl hr.units) (pe_call G_sums (hr.mono (by decide)) (by rfl) T.g_sums T.F_sums.kp T.b_sums .nil pass0 (pa_cons (pe_op op_rep (pe_lst (pa_cons pe_int pa_nil)) (pv 2)) pa_nil)) (pe_lc (own := [("width", 9)]) (g := gName 9) (by rfl) sc_law.nd (pi_range1 (by rfl) T.m_range (pa_cons (pe_op op_add (pv 2) pe_int) pa_nil)) (blkOk_by (own := [("width", 9)]) (N := ["script", "purse", "many", "way", "unlike", "around", "stood", "turn", "k", "width"]) (by kernel_rfl)) (fun _ _ _ _ _ => pg_name (i := 9) sc_law.nd rfl (Or.inl rfl)) (fun _ _ _ _ _ => pts_nil) (fun _ _ _ _ _ => (pe_op op_mul (Ur.pe_b2 (Ur.call_min2K rfl) (by rfl) T.m_min (by decide +kernel) (pv 9) pe_int) (pe_op op_add (pe_op op_sub (pv 2) (pv 9)) pe_int)))) (nomark _)) (pss_one (ps_ret pe_bl)) pss_nil)
    (pss_cons (ps_setLc (i := 5) (own := [("k", 8)]) (g := gName 8) (by rfl) sc_law.nd rfl rfl (sw_true rfl rfl rfl (by decide +kernel)) (pi_range1 (by rfl) T.m_range (pa_cons (pv 2) pa_nil)) (blkOk_by (own := [("k", 8)]) (N := ["script", "purse", "many", "way", "unlike", "around", "stood", "turn", "k", "width"]) (by kernel_rfl)) (fun _ _ _ _ _ => pg_name (i := 8) sc_law.nd rfl (Or.inl rfl)) (fun _ _ _ _ _ => pts_nil) (fun _ _ _ _ _ => (pe_call G__law_value (hr.mono (by decide)) (by rfl) T.g__law_value T.F__law_value.kp T.b__law_value .nil pass0 (pa_cons (pv 3) (pa_cons (pe_op op_mod (pv 8) (pv 7)) pa_nil)))))
    (pss_cons (ps_if (pt_not (pt_val (Ur.pe_lamH (k := 0) (N := ["first", "width", "turn"]) (ps := ["first", "width"]) (fr := ["turn"]) (js := [7]) G__law_right (hr.mono (by decide)) (by rfl) T.g__law_right T.F__law_right.kp T.b__law_right TB rfl (List.mem_singleton.mpr rfl) (fun p hp _ => by rw [List.mem_singleton.mp hp]) (NdefX.nscope_by (by rfl)) rfl rfl (fun q cl pm cv ctv us hl => match us, hl with | [_, _], _ => rfl) (by rfl) rfl (pv 5) (fun A outer s H f c hr => (Ur.pe_b2 (Ur.call_min2K rfl) (by rfl) T.m_min (by decide +kernel) (pv 1) (pv 2)))))) (pss_one (ps_ret pe_bl)) pss_nil)
    (pss_cons (ps_setLc (i := 6) (own := [("k", 8)]) (g := gName 8) (by rfl) sc_law.nd rfl rfl (sw_true rfl rfl rfl (by decide +kernel)) (pi_range1 (by rfl) T.m_range (pa_cons (pv 2) pa_nil)) (blkOk_by (own := [("k", 8)]) (N := ["script", "purse", "many", "way", "unlike", "around", "stood", "turn", "k", "width"]) (by kernel_rfl)) (fun _ _ _ _ _ => pg_name (i := 8) sc_law.nd rfl (Or.inl rfl)) (fun _ _ _ _ _ => pts_nil) (fun _ _ _ _ _ => (pe_call G__law_value (hr.mono (by decide)) (by rfl) T.g__law_value T.F__law_value.kp T.b__law_value .nil pass0 (pa_cons (pv 3) (pa_cons (pe_op op_fdiv (pv 8) (pv 7)) pa_nil)))))
    (pss_one (ps_ret (Ur.pe_lamH (k := 0) (N := ["first", "width", "turn"]) (ps := ["first", "width"]) (fr := ["turn"]) (js := [7]) G__law_right (hr.mono (by decide)) (by rfl) T.g__law_right T.F__law_right.kp T.b__law_right TB rfl (List.mem_singleton.mpr rfl) (fun p hp _ => by rw [List.mem_singleton.mp hp]) (NdefX.nscope_by (by rfl)) rfl rfl (fun q cl pm cv ctv us hl => match us, hl with | [_, _], _ => rfl) (by rfl) rfl (pv 6) (fun A outer s H f c hr => (pe_op op_mul (pe_op op_add (pe_op op_sub (pe_op op_fdiv (pe_op op_sub (pe_op op_add (pv 0) (pv 1)) pe_int) (pv 2)) (pe_op op_fdiv (pv 0) (pv 2))) pe_int) (Ur.pe_b2 (Ur.call_min2K rfl) (by rfl) T.m_min (by decide +kernel) (pv 1) pe_int)))))))))))))))))), ?_⟩
    tb_start
    intro p1 ps H1 e1 hp1 hl1 s1 n1
    have xPt := s1 _ _ hPt
    have dPt : Pt ≠ p1 := fun z => by rw [z, e1] at xPt; cases xPt
    clear ha hPt
    tb_start
    intro y1 msy1 N1 hy1 hmsy1 ay1 by1
    replace xPt := by1 _ _ dPt xPt
    clear e1 by1
    tb_start
    intro y2 msy2 N2 hy2 hmsy2 ay2 by2
    replace xPt := by2 _ _ dPt xPt
    clear ay1 by2
    tb_start
    intro y3 msy3 N3 hy3 hmsy3 ay3 by3
    replace xPt := by3 _ _ dPt xPt
    clear ay2 by3
    tb_start
    intro p6 np6
    have dp6 : p6 ≠ p1 := fun z => by rw [z, ay3] at np6; cases np6
    generalize hX : (upd _ p6 _) = Op6
    have sw : Same N3 Op6 := by rw [← hX]; exact same_new np6
    have xp6 : Op6 p6 = some (.lst [.int (y1 % 12), .int (1 + y2 % 60), .int (289 + y3 % 12)]) := by rw [← hX]; exact upd_same
    replace ay3 := sw _ _ ay3
    replace xPt := sw _ _ xPt
    clear hX sw np6
    tb_start
    intro y4 msy4 N4 hy4 hmsy4 ay4 by4
    replace xPt := by4 _ _ dPt xPt
    replace xp6 := by4 _ _ dp6 xp6
    clear ay3 by4
    obtain ⟨mm, hat4, hmm⟩ : ∃ mm : Nat, atI [V.int (y1 % 12), V.int (1 + y2 % 60), V.int (289 + y3 % 12)] (y4 % 3) = some (.int mm) ∧ mm ≤ 300 := by
      have hc : y4 % 3 = 0 ∨ y4 % 3 = 1 ∨ y4 % 3 = 2 := by omega
      rcases hc with h | h | h
      · rw [h]; exact ⟨(y1 % 12).toNat, by rw [show (((y1 % 12).toNat : Nat) : Int) = y1 % 12 by omega]; rfl, by omega⟩
      · rw [h]; exact ⟨(1 + y2 % 60).toNat, by rw [show (((1 + y2 % 60).toNat : Nat) : Int) = 1 + y2 % 60 by omega]; rfl, by omega⟩
      · rw [h]; exact ⟨(289 + y3 % 12).toNat, by rw [show (((289 + y3 % 12).toNat : Nat) : Int) = 289 + y3 % 12 by omega]; rfl, by omega⟩
    tb_start
    intro y5 msy5 N5 hy5 hmsy5 ay5 by5
    replace xPt := by5 _ _ dPt xPt
    replace xp6 := by5 _ _ dp6 xp6
    clear ay4 by5
    clear hat4
    clear xp6
    tb_start
    intro p8 np8
    have dp8 : p8 ≠ p1 := fun z => by rw [z, ay5] at np8; cases np8
    generalize hX : (upd _ p8 _) = Op8
    have sw : Same N5 Op8 := by rw [← hX]; exact same_new np8
    have xp8 : Op8 p8 = some (.lst [.int 3, .int 10, .int 100]) := by rw [← hX]; exact upd_same
    replace ay5 := sw _ _ ay5
    replace xPt := sw _ _ xPt
    clear hX sw np8
    tb_start
    intro y6 msy6 N6 hy6 hmsy6 ay6 by6
    replace xPt := by6 _ _ dPt xPt
    replace xp8 := by6 _ _ dp8 xp8
    clear ay5 by6
    obtain ⟨qq, hatq, hq1, hq2⟩ : ∃ qq : Int, atI [V.int 3, V.int 10, V.int 100] (y6 % 3) = some (.int qq) ∧ 1 ≤ qq ∧ qq ≤ 100 := by
      have hc : y6 % 3 = 0 ∨ y6 % 3 = 1 ∨ y6 % 3 = 2 := by omega
      rcases hc with h | h | h
      · rw [h]; exact ⟨3, rfl, by omega, by omega⟩
      · rw [h]; exact ⟨10, rfl, by omega, by omega⟩
      · rw [h]; exact ⟨100, rfl, by omega, by omega⟩
    have hm0 : 0 ≤ y5 % qq := Int.emod_nonneg _ (by omega)
    have hm1 : y5 % qq < qq := Int.emod_lt_of_pos _ (by omega)
    have hqp : 0 < qq := by omega
    tb_start
    intro y7 msy7 N7 hy7 hmsy7 ay7 by7
    replace xPt := by7 _ _ dPt xPt
    replace xp8 := by7 _ _ dp8 xp8
    clear ay6 by7
    clear hatq
    clear xp8
    obtain ⟨t, ht, ht1, ht2⟩ : ∃ t : Nat, 1 + y5 % qq = (t : Int) ∧ 1 ≤ t ∧ t ≤ 100 := ⟨(1 + y5 % qq).toNat, by omega, by omega, by omega⟩
    have tb : LamX.Tabs [(Pt, Str.ofString "law.<locals>." ++ Str.ofString "<lambda>")] N7 := fun p hp => by
      rw [List.mem_singleton.mp hp]
      exact LamX.TabS.nil xPt
    simp only [ht]
    clear hy1 hmsy1 hy2 hmsy2 hy3 hmsy3 hy4 hmsy4 hy5 hmsy5 hy6 hmsy6 hy7 hmsy7 hm0 hm1 hqp hq1 hq2 ht ay7 xPt
    tb_start
    intro D nD
    refine lc_rngI (fun (j : Nat) => lawV (y7 % 5) (0 + (j : Int))) (by omega) nD (fun _ => rfl) ?eD ?dD
    case eD =>
      intro j H' hj s Q' q'
      tb_start
      intro H'' s''
      tb_start
      exact q' _ s''
    case dD =>
    intro CD sw xD
    replace tb := tb.ext sw
    clear sw nD
    rw [Int.toNat_natCast] at xD
    have alD := alikeU (y7 % 5) mm
    have lD : ((List.range mm).map fun (k : Nat) => lawV (y7 % 5) (0 + (k : Int))).length = mm := by simp
    generalize (List.range mm).map (fun (k : Nat) => lawV (y7 % 5) (0 + (k : Int))) = rD at xD alD lD
    tb_start
    refine ⟨⟨tb, fun _ b => b, fun a b H Q sm q => ?_, fun f HA HB eN T1 s12 nf hA => ?_⟩⟩
    · have := sm.a0
      have := sm.b0
      have := sm.b1
      have := sm.a1
      tb_start
      exact q
    refine ⟨D, f, rD, _, rfl, s12 _ _ (eN _ _ xD (fun ps h => by cases h)), by omega, hA, fun x hx => ?_, fun HC sC => ⟨sC, fun K1 s4 k4 => ?_⟩⟩
    · rw [alD.ofW, ← ofW_R (by omega) (by omega)]
      rw [lD]
      refine List.map_congr_left fun i _ => ?_
      omega
    replace tb := T1.ext s4
    replace xD := s4 _ _ (eN _ _ xD (fun ps h => by cases h))
    clear s4 k4 sC hA nf s12 T1 eN
    tb_start
    intro q1 M1 eq1 sq1 nq1
    replace tb := tb.ext sq1
    replace xD := sq1 _ _ xD
    replace eq1 := eq1
    clear sq1 nq1
    have xq1 := eq1
    clear eq1
    tb_start
    intro D2 nD2
    refine lc_rngI (fun (j : Nat) => (j : Int) * ((mm : Int) - (j : Int) + 1)) (by omega) nD2 (fun _ => rfl) ?eD2 ?dD2
    case eD2 =>
      intro j H' hj s Q' q'
      have jz : ((0 : Int) + (j : Int)) = (j : Int) := by omega
      tb_start
      try rw [jz]
      exact q' _ (by kcj_in)
    case dD2 =>
    intro CD2 sw xD2
    replace tb := tb.ext sw
    replace xD := sw _ _ xD
    replace xq1 := sw _ _ xq1
    clear sw nD2
    tb_start
    refine brnT ?_ ?_
    · rw [alD.sumsW, sumsW_R (by omega), show ((mm : Int) + 1).toNat = mm + 1 by omega]
      refine List.map_congr_left fun j hj => ?_
      have := List.mem_range.mp hj
      rw [show ((min j (mm + 1) : Nat) : Int) = (j : Int) by omega]
    clear xq1
    clear xD2
    clear xD
    clear alD lD
    tb_start
    intro HV sV
    replace tb := tb.ext sV
    clear sV
    tb_start
    intro p7 np7
    generalize hX : (upd _ p7 _) = Op7
    have sw : Same HV Op7 := by rw [← hX]; exact same_new np7
    have xp7 : Op7 p7 = some (.lst [.int (lawV (y7 % 5) 7)]) := by rw [← hX]; exact upd_same
    replace tb := tb.ext sw
    clear hX sw np7
    tb_start
    intro al7 nal7
    generalize hX : (upd _ al7 _) = Oal7
    have sw : Same Op7 Oal7 := by rw [← hX]; exact same_new nal7
    have xal7 : Oal7 al7 = some (.lst ((List.replicate mm (lawV (y7 % 5) 7)).map V.int)) := by rw [← hX]; exact lst_cast upd_same (by rw [rep_iv, Int.toNat_natCast])
    replace xp7 := sw _ _ xp7
    replace tb := tb.ext sw
    clear hX sw nal7
    clear xp7
    have hal7 := alike1 (lawV (y7 % 5) 7) mm
    have lal7 : (List.replicate mm (lawV (y7 % 5) 7)).length = mm := List.length_replicate
    generalize List.replicate mm (lawV (y7 % 5) 7) = rr7 at xal7 hal7 lal7
    tb_start
    refine ⟨⟨tb, fun _ b => (if (1 : Int) < b then 1 else b), fun a b H Q sm q => ?_, fun f HA HB eN T1 s12 nf hA => ?_⟩⟩
    · have := sm.a0
      have := sm.b0
      have := sm.b1
      have := sm.a1
      tb_start
      exact q
    refine ⟨al7, f, rr7, _, rfl, s12 _ _ (eN _ _ xal7 (fun ps h => by cases h)), by omega, hA, fun x hx => ?_, fun HC sC => ⟨sC, fun K2 s4 k4 => ?_⟩⟩
    · rw [hal7.ofW, ← ofW_R (by omega) (by omega)]
      rw [lal7]
      refine List.map_congr_left fun i _ => ?_
      show (if (1 : Int) < (x : Int) then 1 else (x : Int)) = ((min x 1 : Nat) : Int)
      split <;> omega
    replace tb := T1.ext s4
    replace xal7 := s4 _ _ (eN _ _ xal7 (fun ps h => by cases h))
    clear s4 k4 sC hA nf s12 T1 eN
    clear xal7
    clear hal7 lal7
    tb_start
    intro p5 np5
    generalize hX : (upd _ p5 _) = Op5
    have sw : Same K2 Op5 := by rw [← hX]; exact same_new np5
    have xp5 : Op5 p5 = some (.lst [.int 5]) := by rw [← hX]; exact upd_same
    replace tb := tb.ext sw
    clear hX sw np5
    tb_start
    intro al5 nal5
    generalize hX : (upd _ al5 _) = Oal5
    have sw : Same Op5 Oal5 := by rw [← hX]; exact same_new nal5
    have xal5 : Oal5 al5 = some (.lst ((List.replicate mm (5 : Int)).map V.int)) := by rw [← hX]; exact lst_cast upd_same (by rw [rep_iv, Int.toNat_natCast])
    replace xp5 := sw _ _ xp5
    replace tb := tb.ext sw
    clear hX sw nal5
    clear xp5
    have hal5 := alike1 (5 : Int) mm
    have lal5 : (List.replicate mm (5 : Int)).length = mm := List.length_replicate
    generalize List.replicate mm (5 : Int) = rr5 at xal5 hal5 lal5
    tb_start
    intro q2 M2 eq2 sq2 nq2
    replace tb := tb.ext sq2
    replace xal5 := sq2 _ _ xal5
    replace eq2 := eq2
    clear sq2 nq2
    have xq2 := eq2
    clear eq2
    tb_start
    intro D4 nD4
    refine lc_rngI (fun (j : Nat) => (if (1 : Int) < (j : Int) then 1 else (j : Int)) * ((mm : Int) - (j : Int) + 1)) (by omega) nD4 (fun _ => rfl) ?eD4 ?dD4
    case eD4 =>
      intro j H' hj s Q' q'
      have jz : ((0 : Int) + (j : Int)) = (j : Int) := by omega
      tb_start
      try rw [jz]
      exact q' _ (by kcj_in)
    case dD4 =>
    intro CD4 sw xD4
    replace tb := tb.ext sw
    replace xal5 := sw _ _ xal5
    replace xq2 := sw _ _ xq2
    clear sw nD4
    tb_start
    refine brnT ?_ ?_
    · rw [hal5.sumsW, sumsW_R (by omega), show ((mm : Int) + 1).toNat = mm + 1 by omega]
      refine List.map_congr_left fun j hj => ?_
      have := List.mem_range.mp hj
      rw [show ((min j 1 : Nat) : Int) = (if (1 : Int) < (j : Int) then 1 else (j : Int)) by split <;> omega]
    clear xq2
    clear xD4
    clear xal5
    clear hal5 lal5
    tb_start
    intro D5 nD5
    refine lc_rngI (fun (j : Nat) => lawV (y7 % 5) ((0 + (j : Int)) % (t : Int))) (by omega) nD5 (fun _ => rfl) ?eD5 ?dD5
    case eD5 =>
      intro j H' hj s Q' q'
      tb_start
      intro H'' s''
      tb_start
      exact q' _ s''
    case dD5 =>
    intro CD5 sw xD5
    replace tb := tb.ext sw
    clear sw nD5
    rw [Int.toNat_natCast] at xD5
    have alD5 := alikeR (y7 % 5) mm t
    have lD5 : ((List.range mm).map fun (k : Nat) => lawV (y7 % 5) ((0 + (k : Int)) % (t : Int))).length = mm := by simp
    generalize (List.range mm).map (fun (k : Nat) => lawV (y7 % 5) ((0 + (k : Int)) % (t : Int))) = r5 at xD5 alD5 lD5
    tb_start
    refine ⟨⟨tb, fun _ b => (if (t : Int) < b then (t : Int) else b), fun a b H Q sm q => ?_, fun f HA HB eN T1 s12 nf hA => ?_⟩⟩
    · have := sm.a0
      have := sm.b0
      have := sm.b1
      have := sm.a1
      tb_start
      exact q
    refine ⟨D5, f, r5, _, rfl, s12 _ _ (eN _ _ xD5 (fun ps h => by cases h)), by omega, hA, fun x hx => ?_, fun HC sC => ⟨sC, fun K3 s4 k4 => ?_⟩⟩
    · rw [alD5.ofW, ← ofW_R (by omega) (by omega)]
      rw [lD5]
      refine List.map_congr_left fun i _ => ?_
      show (if (t : Int) < (x : Int) then (t : Int) else (x : Int)) = ((min x t : Nat) : Int)
      split <;> omega
    replace tb := T1.ext s4
    replace xD5 := s4 _ _ (eN _ _ xD5 (fun ps h => by cases h))
    clear s4 k4 sC hA nf s12 T1 eN
    clear xD5
    clear alD5 lD5
    tb_start
    intro D6 nD6
    refine lc_rngI (fun (j : Nat) => lawV (y7 % 5) ((0 + (j : Int)) / (t : Int))) (by omega) nD6 (fun _ => rfl) ?eD6 ?dD6
    case eD6 =>
      intro j H' hj s Q' q'
      tb_start
      intro H'' s''
      tb_start
      exact q' _ s''
    case dD6 =>
    intro CD6 sw xD6
    replace tb := tb.ext sw
    clear sw nD6
    rw [Int.toNat_natCast] at xD6
    have alD6 := alikeS (y7 % 5) mm t
    have lD6 : ((List.range mm).map fun (k : Nat) => lawV (y7 % 5) ((0 + (k : Int)) / (t : Int))).length = mm := by simp
    generalize (List.range mm).map (fun (k : Nat) => lawV (y7 % 5) ((0 + (k : Int)) / (t : Int))) = r6 at xD6 alD6 lD6
    tb_start
    refine ⟨⟨tb, fun a b => ((a + b - 1) / (t : Int) - a / (t : Int) + 1) * (if (1 : Int) < b then 1 else b), fun a b H Q sm q => ?_, fun f HA HB eN T1 s12 nf hA => ?_⟩⟩
    · have := sm.a0
      have := sm.b0
      have := sm.b1
      have := sm.a1
      tb_start
      exact q
    refine ⟨D6, f, r6, _, rfl, s12 _ _ (eN _ _ xD6 (fun ps h => by cases h)), by omega, hA, fun x hx => ?_, fun HC sC => ⟨sC, fun K4 s4 k4 => ?_⟩⟩
    · rw [alD6.ofW, ← ofW_S (by omega) (by omega)]
      rw [lD6]
    replace tb := T1.ext s4
    replace xD6 := s4 _ _ (eN _ _ xD6 (fun ps h => by cases h))
    clear s4 k4 sC hA nf s12 T1 eN
    exact q _
end
end Ur
namespace Ur
open PySem L2
theorem all_mk {l : PySem.W.OpenLaw} {w : World} {K : PySem.W.Frag} {h : Heap} {mg : Str → Option Value} {fa c0 P0 : Addr} {c_NoWindow : Addr} (X : K.In h) (G : h.Ns mainGlobals mg) (hfa : mg "law" = some (.ref fa))
    {f__law_next : Addr} {oc__law_next kV__law_next dc__law_next pm__law_next cd__law_next ct__law_next : Value} {od__law_next an__law_next : Option Addr} {sl__law_next : Array (Option Value)}
    {f__law_mixed : Addr} {oc__law_mixed kV__law_mixed dc__law_mixed pm__law_mixed cd__law_mixed ct__law_mixed : Value} {od__law_mixed an__law_mixed : Option Addr} {sl__law_mixed : Array (Option Value)}
    {f__law_purse : Addr} {oc__law_purse kV__law_purse dc__law_purse pm__law_purse cd__law_purse ct__law_purse : Value} {od__law_purse an__law_purse : Option Addr} {sl__law_purse : Array (Option Value)}
    {f_last_places : Addr} {oc_last_places kV_last_places dc_last_places pm_last_places cd_last_places ct_last_places : Value} {od_last_places an_last_places : Option Addr} {sl_last_places : Array (Option Value)}
    {f_need_width : Addr} {oc_need_width kV_need_width dc_need_width pm_need_width cd_need_width ct_need_width : Value} {od_need_width an_need_width : Option Addr} {sl_need_width : Array (Option Value)}
    {f_next_places : Addr} {oc_next_places kV_next_places dc_next_places pm_next_places cd_next_places ct_next_places : Value} {od_next_places an_next_places : Option Addr} {sl_next_places : Array (Option Value)}
    {f_slid : Addr} {oc_slid kV_slid dc_slid pm_slid cd_slid ct_slid : Value} {od_slid an_slid : Option Addr} {sl_slid : Array (Option Value)}
    {f_of_width : Addr} {oc_of_width kV_of_width dc_of_width pm_of_width cd_of_width ct_of_width : Value} {od_of_width an_of_width : Option Addr} {sl_of_width : Array (Option Value)}
    {f_least_of : Addr} {oc_least_of kV_least_of dc_least_of pm_least_of cd_least_of ct_least_of : Value} {od_least_of an_least_of : Option Addr} {sl_least_of : Array (Option Value)}
    {f_most_of : Addr} {oc_most_of kV_most_of dc_most_of pm_most_of cd_most_of ct_most_of : Value} {od_most_of an_most_of : Option Addr} {sl_most_of : Array (Option Value)}
    {f__law_right : Addr} {oc__law_right kV__law_right dc__law_right pm__law_right cd__law_right ct__law_right : Value} {od__law_right an__law_right : Option Addr} {sl__law_right : Array (Option Value)}
    {f__law_value : Addr} {oc__law_value kV__law_value dc__law_value pm__law_value cd__law_value ct__law_value : Value} {od__law_value an__law_value : Option Addr} {sl__law_value : Array (Option Value)}
    {f_sums : Addr} {oc_sums kV_sums dc_sums pm_sums cd_sums ct_sums : Value} {od_sums an_sums : Option Addr} {sl_sums : Array (Option Value)}
    {f_law : Addr} {oc_law kV_law dc_law pm_law cd_law ct_law : Value} {od_law an_law : Option Addr} {sl_law : Array (Option Value)}
    (aC_NoWindow : PySem.W.nsIn K mainGlobals "NoWindow" = some (some (.ref c_NoWindow)))
    (a__law_next : PySem.W.nsIn K mainGlobals "_law_next" = some (some (.ref f__law_next)))
    (l__law_next : K.lookup f__law_next = some ⟨oc__law_next, od__law_next, .func (PySem.W.fnOf "_law_next" "_law_next" (defArgs s__law_next) (defBody s__law_next) (defScope s__law_next) .none kV__law_next dc__law_next pm__law_next an__law_next cd__law_next ct__law_next), sl__law_next⟩)
    (q__law_next : PySem.W.codeIn K cd__law_next "_law_next" = true)
    (k__law_next : PySem.W.keepIn K (.ref f__law_next) = true)
    (a__law_mixed : PySem.W.nsIn K mainGlobals "_law_mixed" = some (some (.ref f__law_mixed)))
    (l__law_mixed : K.lookup f__law_mixed = some ⟨oc__law_mixed, od__law_mixed, .func (PySem.W.fnOf "_law_mixed" "_law_mixed" (defArgs s__law_mixed) (defBody s__law_mixed) (defScope s__law_mixed) .none kV__law_mixed dc__law_mixed pm__law_mixed an__law_mixed cd__law_mixed ct__law_mixed), sl__law_mixed⟩)
    (q__law_mixed : PySem.W.codeIn K cd__law_mixed "_law_mixed" = true)
    (k__law_mixed : PySem.W.keepIn K (.ref f__law_mixed) = true)
    (a__law_purse : PySem.W.nsIn K mainGlobals "_law_purse" = some (some (.ref f__law_purse)))
    (l__law_purse : K.lookup f__law_purse = some ⟨oc__law_purse, od__law_purse, .func (PySem.W.fnOf "_law_purse" "_law_purse" (defArgs s__law_purse) (defBody s__law_purse) (defScope s__law_purse) .none kV__law_purse dc__law_purse pm__law_purse an__law_purse cd__law_purse ct__law_purse), sl__law_purse⟩)
    (q__law_purse : PySem.W.codeIn K cd__law_purse "_law_purse" = true)
    (k__law_purse : PySem.W.keepIn K (.ref f__law_purse) = true)
    (a_last_places : PySem.W.nsIn K mainGlobals "last_places" = some (some (.ref f_last_places)))
    (l_last_places : K.lookup f_last_places = some ⟨oc_last_places, od_last_places, .func (PySem.W.fnOf "last_places" "last_places" (defArgs s_last_places) (defBody s_last_places) (defScope s_last_places) .none kV_last_places dc_last_places pm_last_places an_last_places cd_last_places ct_last_places), sl_last_places⟩)
    (q_last_places : PySem.W.codeIn K cd_last_places "last_places" = true)
    (k_last_places : PySem.W.keepIn K (.ref f_last_places) = true)
    (a_need_width : PySem.W.nsIn K mainGlobals "need_width" = some (some (.ref f_need_width)))
    (l_need_width : K.lookup f_need_width = some ⟨oc_need_width, od_need_width, .func (PySem.W.fnOf "need_width" "need_width" (defArgs s_need_width) (defBody s_need_width) (defScope s_need_width) .none kV_need_width dc_need_width pm_need_width an_need_width cd_need_width ct_need_width), sl_need_width⟩)
    (q_need_width : PySem.W.codeIn K cd_need_width "need_width" = true)
    (k_need_width : PySem.W.keepIn K (.ref f_need_width) = true)
    (a_next_places : PySem.W.nsIn K mainGlobals "next_places" = some (some (.ref f_next_places)))
    (l_next_places : K.lookup f_next_places = some ⟨oc_next_places, od_next_places, .func (PySem.W.fnOf "next_places" "next_places" (defArgs s_next_places) (defBody s_next_places) (defScope s_next_places) .none kV_next_places dc_next_places pm_next_places an_next_places cd_next_places ct_next_places), sl_next_places⟩)
    (q_next_places : PySem.W.codeIn K cd_next_places "next_places" = true)
    (k_next_places : PySem.W.keepIn K (.ref f_next_places) = true)
    (a_slid : PySem.W.nsIn K mainGlobals "slid" = some (some (.ref f_slid)))
    (l_slid : K.lookup f_slid = some ⟨oc_slid, od_slid, .func (PySem.W.fnOf "slid" "slid" (defArgs s_slid) (defBody s_slid) (defScope s_slid) .none kV_slid dc_slid pm_slid an_slid cd_slid ct_slid), sl_slid⟩)
    (q_slid : PySem.W.codeIn K cd_slid "slid" = true)
    (k_slid : PySem.W.keepIn K (.ref f_slid) = true)
    (a_of_width : PySem.W.nsIn K mainGlobals "of_width" = some (some (.ref f_of_width)))
    (l_of_width : K.lookup f_of_width = some ⟨oc_of_width, od_of_width, .func (PySem.W.fnOf "of_width" "of_width" (defArgs s_of_width) (defBody s_of_width) (defScope s_of_width) .none kV_of_width dc_of_width pm_of_width an_of_width cd_of_width ct_of_width), sl_of_width⟩)
    (q_of_width : PySem.W.codeIn K cd_of_width "of_width" = true)
    (k_of_width : PySem.W.keepIn K (.ref f_of_width) = true)
    (a_least_of : PySem.W.nsIn K mainGlobals "least_of" = some (some (.ref f_least_of)))
    (l_least_of : K.lookup f_least_of = some ⟨oc_least_of, od_least_of, .func (PySem.W.fnOf "least_of" "least_of" (defArgs s_least_of) (defBody s_least_of) (defScope s_least_of) .none kV_least_of dc_least_of pm_least_of an_least_of cd_least_of ct_least_of), sl_least_of⟩)
    (q_least_of : PySem.W.codeIn K cd_least_of "least_of" = true)
    (k_least_of : PySem.W.keepIn K (.ref f_least_of) = true)
    (a_most_of : PySem.W.nsIn K mainGlobals "most_of" = some (some (.ref f_most_of)))
    (l_most_of : K.lookup f_most_of = some ⟨oc_most_of, od_most_of, .func (PySem.W.fnOf "most_of" "most_of" (defArgs s_most_of) (defBody s_most_of) (defScope s_most_of) .none kV_most_of dc_most_of pm_most_of an_most_of cd_most_of ct_most_of), sl_most_of⟩)
    (q_most_of : PySem.W.codeIn K cd_most_of "most_of" = true)
    (k_most_of : PySem.W.keepIn K (.ref f_most_of) = true)
    (a__law_right : PySem.W.nsIn K mainGlobals "_law_right" = some (some (.ref f__law_right)))
    (l__law_right : K.lookup f__law_right = some ⟨oc__law_right, od__law_right, .func (PySem.W.fnOf "_law_right" "_law_right" (defArgs s__law_right) (defBody s__law_right) (defScope s__law_right) .none kV__law_right dc__law_right pm__law_right an__law_right cd__law_right ct__law_right), sl__law_right⟩)
    (q__law_right : PySem.W.codeIn K cd__law_right "_law_right" = true)
    (k__law_right : PySem.W.keepIn K (.ref f__law_right) = true)
    (a__law_value : PySem.W.nsIn K mainGlobals "_law_value" = some (some (.ref f__law_value)))
    (l__law_value : K.lookup f__law_value = some ⟨oc__law_value, od__law_value, .func (PySem.W.fnOf "_law_value" "_law_value" (defArgs s__law_value) (defBody s__law_value) (defScope s__law_value) .none kV__law_value dc__law_value pm__law_value an__law_value cd__law_value ct__law_value), sl__law_value⟩)
    (q__law_value : PySem.W.codeIn K cd__law_value "_law_value" = true)
    (k__law_value : PySem.W.keepIn K (.ref f__law_value) = true)
    (a_sums : PySem.W.nsIn K mainGlobals "sums" = some (some (.ref f_sums)))
    (l_sums : K.lookup f_sums = some ⟨oc_sums, od_sums, .func (PySem.W.fnOf "sums" "sums" (defArgs s_sums) (defBody s_sums) (defScope s_sums) .none kV_sums dc_sums pm_sums an_sums cd_sums ct_sums), sl_sums⟩)
    (q_sums : PySem.W.codeIn K cd_sums "sums" = true)
    (k_sums : PySem.W.keepIn K (.ref f_sums) = true)
    (a_law : PySem.W.nsIn K mainGlobals "law" = some (some (.ref f_law)))
    (l_law : K.lookup f_law = some ⟨oc_law, od_law, .func (PySem.W.fnOf "law" "law" (defArgs s_law) (defBody s_law) (defScope s_law) .none kV_law dc_law pm_law an_law cd_law ct_law), sl_law⟩)
    (q_law : PySem.W.codeIn K cd_law "law" = true)
    (k_law : PySem.W.keepIn K (.ref f_law) = true)
    (x_NoWindow : PySem.W.excIn K c_NoWindow [.type "ValueError", .type "Exception", .type "BaseException", .type "object"] "ValueError.__new__" = true)
    (k_NoWindow : PySem.W.keepIn K (.ref c_NoWindow) = true)
    (b_NoWindow : PySem.W.subIn K (.ref c_NoWindow) (.type "BaseException") = some true)
    (t_NoWindow : PySem.W.typeIn K (.ref c_NoWindow) = some (.type "type"))
    (h_NoWindow : PySem.W.hasDictIn K c_NoWindow = true)
    (z_abs : PySem.W.nsIn K mainGlobals "abs" = some none)
    (z_bool : PySem.W.nsIn K mainGlobals "bool" = some none)
    (z_enumerate : PySem.W.nsIn K mainGlobals "enumerate" = some none)
    (z_int : PySem.W.nsIn K mainGlobals "int" = some none)
    (z_isinstance : PySem.W.nsIn K mainGlobals "isinstance" = some none)
    (z_len : PySem.W.nsIn K mainGlobals "len" = some none)
    (z_list : PySem.W.nsIn K mainGlobals "list" = some none)
    (z_max : PySem.W.nsIn K mainGlobals "max" = some none)
    (z_min : PySem.W.nsIn K mainGlobals "min" = some none)
    (z_range : PySem.W.nsIn K mainGlobals "range" = some none)
    (z_reversed : PySem.W.nsIn K mainGlobals "reversed" = some none)
    (z_sum : PySem.W.nsIn K mainGlobals "sum" = some none)
    (hcc : cd_law = .ref c0) (hP0 : h.get? P0 = some { cls := .none, data := .fields #[] }) (hK0 : K.lookup P0 = none) (hH0 : PySem.W.codeHdIn K c0 P0 = true)
    : LamX.LawAtS l w K CX0 6 63 "script" mg fa h := by
  have e0 := (PySem.W.mg_of X G a_law).symm.trans hfa
  have e : f_law = fa := by injection e0 with e0; injection e0
  subst e
  have F__law_next := fun_mk (st := s__law_next) l__law_next q__law_next k__law_next
  have b__law_next := F__law_next.binds (ps := ["purse"]) fun _ _ _ _ _ _ us hl => match us, hl with | [_], _ => rfl
  have F__law_mixed := fun_mk (st := s__law_mixed) l__law_mixed q__law_mixed k__law_mixed
  have b__law_mixed := F__law_mixed.binds (ps := ["cell", "k"]) fun _ _ _ _ _ _ us hl => match us, hl with | [_, _], _ => rfl
  have F__law_purse := fun_mk (st := s__law_purse) l__law_purse q__law_purse k__law_purse
  have b__law_purse := F__law_purse.binds (ps := ["script", "at", "step", "many"]) fun _ _ _ _ _ _ us hl => match us, hl with | [_, _, _, _], _ => rfl
  have F_last_places := fun_mk (st := s_last_places) l_last_places q_last_places k_last_places
  have b_last_places := F_last_places.binds (ps := ["row"]) fun _ _ _ _ _ _ us hl => match us, hl with | [_], _ => rfl
  have F_need_width := fun_mk (st := s_need_width) l_need_width q_need_width k_need_width
  have b_need_width := F_need_width.binds (ps := ["row", "width"]) fun _ _ _ _ _ _ us hl => match us, hl with | [_, _], _ => rfl
  have F_next_places := fun_mk (st := s_next_places) l_next_places q_next_places k_next_places
  have b_next_places := F_next_places.binds (ps := ["row"]) fun _ _ _ _ _ _ us hl => match us, hl with | [_], _ => rfl
  have F_slid := fun_mk (st := s_slid) l_slid q_slid k_slid
  have b_slid := F_slid.binds (ps := ["lasts", "nexts", "width"]) fun _ _ _ _ _ _ us hl => match us, hl with | [_, _, _], _ => rfl
  have F_of_width := fun_mk (st := s_of_width) l_of_width q_of_width k_of_width
  have b_of_width := F_of_width.binds (ps := ["row", "width"]) fun _ _ _ _ _ _ us hl => match us, hl with | [_, _], _ => rfl
  have F_least_of := fun_mk (st := s_least_of) l_least_of q_least_of k_least_of
  have b_least_of := F_least_of.binds (ps := ["row", "width"]) fun _ _ _ _ _ _ us hl => match us, hl with | [_, _], _ => rfl
  have F_most_of := fun_mk (st := s_most_of) l_most_of q_most_of k_most_of
  have b_most_of := F_most_of.binds (ps := ["row", "width"]) fun _ _ _ _ _ _ us hl => match us, hl with | [_, _], _ => rfl
  have F__law_right := fun_mk (st := s__law_right) l__law_right q__law_right k__law_right
  have b__law_right := F__law_right.binds (ps := ["row", "numbers_by"]) fun _ _ _ _ _ _ us hl => match us, hl with | [_, _], _ => rfl
  have F__law_value := fun_mk (st := s__law_value) l__law_value q__law_value k__law_value
  have b__law_value := F__law_value.binds (ps := ["way", "at"]) fun _ _ _ _ _ _ us hl => match us, hl with | [_, _], _ => rfl
  have F_sums := fun_mk (st := s_sums) l_sums q_sums k_sums
  have b_sums := F_sums.binds (ps := ["row"]) fun _ _ _ _ _ _ us hl => match us, hl with | [_], _ => rfl
  have F_law := fun_mk (st := s_law) l_law q_law k_law
  have b_law := F_law.binds (ps := ["script"]) fun _ _ _ _ _ _ us hl => match us, hl with | [_], _ => rfl
  have T : Txt K mg { f__law_next := f__law_next, d__law_next := (PySem.W.fnOf "_law_next" "_law_next" (defArgs s__law_next) (defBody s__law_next) (defScope s__law_next) .none kV__law_next dc__law_next pm__law_next an__law_next cd__law_next ct__law_next), f__law_mixed := f__law_mixed, d__law_mixed := (PySem.W.fnOf "_law_mixed" "_law_mixed" (defArgs s__law_mixed) (defBody s__law_mixed) (defScope s__law_mixed) .none kV__law_mixed dc__law_mixed pm__law_mixed an__law_mixed cd__law_mixed ct__law_mixed), f__law_purse := f__law_purse, d__law_purse := (PySem.W.fnOf "_law_purse" "_law_purse" (defArgs s__law_purse) (defBody s__law_purse) (defScope s__law_purse) .none kV__law_purse dc__law_purse pm__law_purse an__law_purse cd__law_purse ct__law_purse), f_last_places := f_last_places, d_last_places := (PySem.W.fnOf "last_places" "last_places" (defArgs s_last_places) (defBody s_last_places) (defScope s_last_places) .none kV_last_places dc_last_places pm_last_places an_last_places cd_last_places ct_last_places), f_need_width := f_need_width, d_need_width := (PySem.W.fnOf "need_width" "need_width" (defArgs s_need_width) (defBody s_need_width) (defScope s_need_width) .none kV_need_width dc_need_width pm_need_width an_need_width cd_need_width ct_need_width), f_next_places := f_next_places, d_next_places := (PySem.W.fnOf "next_places" "next_places" (defArgs s_next_places) (defBody s_next_places) (defScope s_next_places) .none kV_next_places dc_next_places pm_next_places an_next_places cd_next_places ct_next_places), f_slid := f_slid, d_slid := (PySem.W.fnOf "slid" "slid" (defArgs s_slid) (defBody s_slid) (defScope s_slid) .none kV_slid dc_slid pm_slid an_slid cd_slid ct_slid), f_of_width := f_of_width, d_of_width := (PySem.W.fnOf "of_width" "of_width" (defArgs s_of_width) (defBody s_of_width) (defScope s_of_width) .none kV_of_width dc_of_width pm_of_width an_of_width cd_of_width ct_of_width), f_least_of := f_least_of, d_least_of := (PySem.W.fnOf "least_of" "least_of" (defArgs s_least_of) (defBody s_least_of) (defScope s_least_of) .none kV_least_of dc_least_of pm_least_of an_least_of cd_least_of ct_least_of), f_most_of := f_most_of, d_most_of := (PySem.W.fnOf "most_of" "most_of" (defArgs s_most_of) (defBody s_most_of) (defScope s_most_of) .none kV_most_of dc_most_of pm_most_of an_most_of cd_most_of ct_most_of), f__law_right := f__law_right, d__law_right := (PySem.W.fnOf "_law_right" "_law_right" (defArgs s__law_right) (defBody s__law_right) (defScope s__law_right) .none kV__law_right dc__law_right pm__law_right an__law_right cd__law_right ct__law_right), f__law_value := f__law_value, d__law_value := (PySem.W.fnOf "_law_value" "_law_value" (defArgs s__law_value) (defBody s__law_value) (defScope s__law_value) .none kV__law_value dc__law_value pm__law_value an__law_value cd__law_value ct__law_value), f_sums := f_sums, d_sums := (PySem.W.fnOf "sums" "sums" (defArgs s_sums) (defBody s_sums) (defScope s_sums) .none kV_sums dc_sums pm_sums an_sums cd_sums ct_sums), f_law := f_law, d_law := (PySem.W.fnOf "law" "law" (defArgs s_law) (defBody s_law) (defScope s_law) .none kV_law dc_law pm_law an_law cd_law ct_law), c_NoWindow := c_NoWindow } := {
    F__law_next := F__law_next,
    b__law_next := b__law_next,
    g__law_next := PySem.W.mg_of X G a__law_next,
    F__law_mixed := F__law_mixed,
    b__law_mixed := b__law_mixed,
    g__law_mixed := PySem.W.mg_of X G a__law_mixed,
    F__law_purse := F__law_purse,
    b__law_purse := b__law_purse,
    g__law_purse := PySem.W.mg_of X G a__law_purse,
    F_last_places := F_last_places,
    b_last_places := b_last_places,
    g_last_places := PySem.W.mg_of X G a_last_places,
    F_need_width := F_need_width,
    b_need_width := b_need_width,
    g_need_width := PySem.W.mg_of X G a_need_width,
    F_next_places := F_next_places,
    b_next_places := b_next_places,
    g_next_places := PySem.W.mg_of X G a_next_places,
    F_slid := F_slid,
    b_slid := b_slid,
    g_slid := PySem.W.mg_of X G a_slid,
    F_of_width := F_of_width,
    b_of_width := b_of_width,
    g_of_width := PySem.W.mg_of X G a_of_width,
    F_least_of := F_least_of,
    b_least_of := b_least_of,
    g_least_of := PySem.W.mg_of X G a_least_of,
    F_most_of := F_most_of,
    b_most_of := b_most_of,
    g_most_of := PySem.W.mg_of X G a_most_of,
    F__law_right := F__law_right,
    b__law_right := b__law_right,
    g__law_right := PySem.W.mg_of X G a__law_right,
    F__law_value := F__law_value,
    b__law_value := b__law_value,
    g__law_value := PySem.W.mg_of X G a__law_value,
    F_sums := F_sums,
    b_sums := b_sums,
    g_sums := PySem.W.mg_of X G a_sums,
    F_law := F_law,
    b_law := b_law,
    g_law := PySem.W.mg_of X G a_law,
    g_NoWindow := PySem.W.mg_of X G aC_NoWindow,
    x_NoWindow := x_NoWindow,
    k_NoWindow := k_NoWindow,
    b_NoWindow := b_NoWindow,
    t_NoWindow := t_NoWindow,
    h_NoWindow := h_NoWindow,
    m_abs := PySem.W.mg_none_of X G z_abs,
    m_bool := PySem.W.mg_none_of X G z_bool,
    m_enumerate := PySem.W.mg_none_of X G z_enumerate,
    m_int := PySem.W.mg_none_of X G z_int,
    m_isinstance := PySem.W.mg_none_of X G z_isinstance,
    m_len := PySem.W.mg_none_of X G z_len,
    m_list := PySem.W.mg_none_of X G z_list,
    m_max := PySem.W.mg_none_of X G z_max,
    m_min := PySem.W.mg_none_of X G z_min,
    m_range := PySem.W.mg_none_of X G z_range,
    m_reversed := PySem.W.mg_none_of X G z_reversed,
    m_sum := PySem.W.mg_none_of X G z_sum }
  subst hcc
  refine ⟨(PySem.W.fnOf "law" "law" (defArgs s_law) (defBody s_law) (defScope s_law) .none kV_law dc_law pm_law an_law (.ref c0) ct_law), [(c0, P0)], sp_law K P0, fun p hp => ?_, fun p hp => ?_, fun p hp => ?_, fun s v => .of_eq rfl, fun H a ns hl _ hT hS => ⟨a, ns, rfl, hT _ (List.mem_singleton.mpr rfl), hS, hl, fun _ => rfl⟩, fun base _ _ hTB => ok_law T l_law q_law (hTB _ (List.mem_singleton.mpr rfl))⟩
  · rw [List.mem_singleton.mp hp]
    exact hP0
  · rw [List.mem_singleton.mp hp]
    exact hK0
  · rw [List.mem_singleton.mp hp]
    exact PySem.W.codeHd_of_K X hH0
theorem walk {l : PySem.W.OpenLaw} {q : Program} {loose : List Str} {XP : (Str → Option Value) → Heap → Prop} {YP : World → Heap → Prop} {d : DefRec} {K : Params → PySem.W.Frag} (hn : l.most = some 63) (hdf : d.params.defaults = [])
    (hY : ∀ (w : World) (h : Heap), YP w h → (K w.params).In h)
    (F : ∀ (w : World) (mg : Str → Option Value) (fa : Addr) (h : Heap), YP w h → (K w.params).In h → h.Ns mainGlobals mg → mg d.name = some (.ref fa) → LamX.LawAtS l w (K w.params) CX0 6 63 "script" mg fa h) :
    PySem.W.WalkO q loose XP YP l.row.toRowW d [] (fun f vs => PySem.call f vs) :=
  LamX.walk_ofTs (n := 63) (CX := fun _ => CX0) hn (by decide) hdf ⟨rfl, by decide, by decide⟩ hY F fun _ _ _ _ _ z => z
end Ur
open PySem PySem.W PyProof.Rows in
set_option maxRecDepth 100000 in
set_option maxHeartbeats 0 in
theorem PySem.Challenge.cw_unlikerow_k22_widths_planted_holds : PySem.Challenge.rw_unlikerow_k22_widths_planted.Holds := by
  w_on; o_law; k_head; (case hw => w_witness2)
  k_fill
  refine Ur.walk (l := PySem.Challenge.rw_unlikerow_k22_widths_planted) rfl rfl (fun w h Y => PySem.W.km_in_of Y) ?F
  case F =>
    intro w mg fa h Y KX G hmg
    refine' Ur.all_mk KX G hmg ?aC_NoWindow ?a__law_next ?l__law_next ?q__law_next ?k__law_next ?a__law_mixed ?l__law_mixed ?q__law_mixed ?k__law_mixed ?a__law_purse ?l__law_purse ?q__law_purse ?k__law_purse ?a_last_places ?l_last_places ?q_last_places ?k_last_places ?a_need_width ?l_need_width ?q_need_width ?k_need_width ?a_next_places ?l_next_places ?q_next_places ?k_next_places ?a_slid ?l_slid ?q_slid ?k_slid ?a_of_width ?l_of_width ?q_of_width ?k_of_width ?a_least_of ?l_least_of ?q_least_of ?k_least_of ?a_most_of ?l_most_of ?q_most_of ?k_most_of ?a__law_right ?l__law_right ?q__law_right ?k__law_right ?a__law_value ?l__law_value ?q__law_value ?k__law_value ?a_sums ?l_sums ?q_sums ?k_sums ?a_law ?l_law ?q_law ?k_law ?x_NoWindow ?k_NoWindow ?b_NoWindow ?t_NoWindow ?h_NoWindow ?z_abs ?z_bool ?z_enumerate ?z_int ?z_isinstance ?z_len ?z_list ?z_max ?z_min ?z_range ?z_reversed ?z_sum ?hcc ?hP0 ?hK0 ?hH0
    (case aC_NoWindow => k_is)
    (case a__law_next => k_is)
    (case l__law_next => k_is)
    (case q__law_next => k_is)
    (case k__law_next => k_is)
    (case a__law_mixed => k_is)
    (case l__law_mixed => k_is)
    (case q__law_mixed => k_is)
    (case k__law_mixed => k_is)
    (case a__law_purse => k_is)
    (case l__law_purse => k_is)
    (case q__law_purse => k_is)
    (case k__law_purse => k_is)
    (case a_last_places => k_is)
    (case l_last_places => k_is)
    (case q_last_places => k_is)
    (case k_last_places => k_is)
    (case a_need_width => k_is)
    (case l_need_width => k_is)
    (case q_need_width => k_is)
    (case k_need_width => k_is)
    (case a_next_places => k_is)
    (case l_next_places => k_is)
    (case q_next_places => k_is)
    (case k_next_places => k_is)
    (case a_slid => k_is)
    (case l_slid => k_is)
    (case q_slid => k_is)
    (case k_slid => k_is)
    (case a_of_width => k_is)
    (case l_of_width => k_is)
    (case q_of_width => k_is)
    (case k_of_width => k_is)
    (case a_least_of => k_is)
    (case l_least_of => k_is)
    (case q_least_of => k_is)
    (case k_least_of => k_is)
    (case a_most_of => k_is)
    (case l_most_of => k_is)
    (case q_most_of => k_is)
    (case k_most_of => k_is)
    (case a__law_right => k_is)
    (case l__law_right => k_is)
    (case q__law_right => k_is)
    (case k__law_right => k_is)
    (case a__law_value => k_is)
    (case l__law_value => k_is)
    (case q__law_value => k_is)
    (case k__law_value => k_is)
    (case a_sums => k_is)
    (case l_sums => k_is)
    (case q_sums => k_is)
    (case k_sums => k_is)
    (case a_law => k_is)
    (case l_law => k_is)
    (case q_law => k_is)
    (case k_law => k_is)
    (case x_NoWindow => k_exc)
    (case k_NoWindow => k_is)
    (case b_NoWindow => k_is)
    (case t_NoWindow => k_is)
    (case h_NoWindow => k_is)
    (case z_abs => k_is)
    (case z_bool => k_is)
    (case z_enumerate => k_is)
    (case z_int => k_is)
    (case z_isinstance => k_is)
    (case z_len => k_is)
    (case z_list => k_is)
    (case z_max => k_is)
    (case z_min => k_is)
    (case z_range => k_is)
    (case z_reversed => k_is)
    (case z_sum => k_is)
    (case hcc => exact rfl)
    (case hP0 => exact PySem.W.km_tabs_of Y _ (List.mem_singleton.mpr rfl))
    (case hK0 => kernel_rfl)
    (case hH0 => kernel_rfl)
