import PyProof.Rows.All
import Wide.All
import OpenK.AllK
import Wide.FinOn
import PyProof.EqAt
import PyProof.EqKinds
import PyProof.TupleCall
import PyProof.WalksEnum
import KE.KItemsList
import KE.KDictZip
import KE.KDictItemsList
import KE.KCallChange
import KE.KCallJoin
import HandS.ForMost
import HandS.Walk
import HandS.Evl
import HandS.IsInst
import HandS.SortInts
import HandS.Exc
import HandS.TryOnly
import HandS.ExcOwn
import HandS.WordsExc
import HandS.Zip
import HandS.Rev
import HandS.SetKeys
import HandS.Style
import HandS.Conv
import HandS.ExcIs
import HandS.SetFor
import HandS.Set
import HandS.More
import HandS.Wide
import KE.DataMinMax
import HandS.Deep
import KE.KLam
import KE.KNestM
import KE.KMinKey
import HandS.Lambda
import HandS.Nested
import HandS.EndTab
import HandS.List
import PySem.Challenge.RW_unlikerow_k27_whole_stretches_by_windows
set_option Elab.async false
set_option linter.all false
set_option maxRecDepth 100000
set_option maxHeartbeats 4000000
/-! list(enumerate(l)), l a list: a new list of new pairs -/
namespace UrE
open PySem PySem.W PySem.Calls PyProof.Rows
open Sem (wp)
theorem enum_no_len : typeLookup (.type "enumerate") "__len__" = pure none := by rw [typeLookup_type, builtinLookup_eq_fast]; kernel_rfl
theorem enum_no_hint : typeLookup (.type "enumerate") "__length_hint__" = pure none := by rw [typeLookup_type, builtinLookup_eq_fast]; kernel_rfl
/-- the enumerate object at e between two turns, the tuples handed out still alive: f the first two fields -/
def Out (h : Heap) (e it S : Addr) (i : Nat) : Prop := ∃ (f0 f1 old : Value), h.get? e = some { cls := .type "enumerate", dict := none, data := .fields #[f0, f1, .ref it, rawInt i, .none, old], slots := #[] } ∧
  ((f0 = .none) ∨ ∃ (a : Addr) (b : Bool) (oa : Obj), f0 = rawInt a ∧ f1 = .bool b ∧ h.get? a = some oa ∧ a ≠ e ∧ a ≠ it ∧ a ≠ S)
section
variable {prog : Program} {w : World} {A : Around} {E : Value → Shared → Prop} {s : Shared}
theorem out_item {e it l S : Addr} {i : Nat} {items : Array Value} {x : Value} {Q : Option Value → Shared → Prop}
    (ho : Out s.heap e it S i) (hit : s.heap.IsListIter it l i) (hl : s.heap.IsList l items) (hx : items[i]? = some x) (hne : e ≠ it) (hSl : S < s.heap.objs.size)
    (hQ : ∀ h' tk, Out h' e it S (i + 1) → h'.IsListIter it l (i + 1) →
      (∃ t, h'.get? s.heap.objs.size = some { cls := .type "tuple", data := .seq #[.int i t, x] }) → h'.objs.size = s.heap.objs.size + 1 →
      (∀ b o, b ≠ e → b ≠ it → s.heap.get? b = some o → h'.get? b = some o) → Q (some (.ref s.heap.objs.size)) { s with heap := h', toks := tk }) :
    wpAny (model prog w) A (pyNext (.ref e)) Q E s := by
  obtain ⟨f0, f1, old, he, hf⟩ := ho
  rcases hf with rfl | ⟨a, b, oa, rfl, rfl, ha, hae, hai, haS⟩
  · have hT : s.TypeIs (.ref e) "enumerate" := ⟨_, he, rfl⟩
    unfold pyNext
    refine wpAny_bind (wpAny_attempt (wpAny_callSpecial?_slot (name := Str.ofString "__next__") hT PySem.F.slot_enumerate_next
      (wpAny_call_entry PySem.F.slot_enumerate_next hT PySem.F.entry_enumerate_next ?_ (PySem.F.args_enumerate_next_1 _))))
    obtain ⟨hp, g, d, tk, os⟩ := s
    show wpAny _ _ (field (.ref e) 2 >>= _) _ _ _
    refine wpAny_bind (wpAny_field he rfl (x := .ref it) rfl ?_)
    refine wpAny_bind (wpAny_nextOf_list_item hit hl hx fun h₁ hit₁ hs₁ => ?_)
    replace hs₁ : Heap.SameBut it hp h₁ := hs₁
    have he₁ := (hs₁.2 e hne).trans he
    show wpAny _ _ (field (.ref e) 3 >>= _) _ _ ⟨h₁, g, d, tk, os⟩
    refine wpAny_bind (wpAny_field he₁ rfl (x := rawInt i) rfl ?_)
    show wpAny _ _ (field (.ref e) 4 >>= _) _ _ ⟨h₁, g, d, tk, os⟩
    refine wpAny_bind (wpAny_field he₁ rfl (x := .none) rfl ?_)
    show wpAny _ _ (mkInt i >>= _) _ _ ⟨h₁, g, d, tk, os⟩
    refine wpAny_bind (wpAny_mkInt ?_)
    show wpAny _ _ (setField (.ref e) 3 (rawInt ((i : Int) + 1)) >>= _) _ _ ⟨h₁, g, d, tk + 1, os⟩
    refine wpAny_bind (wpAny_setField_rec he₁ (by simp) fun h₂ he₂ hs₂ => ?_)
    replace hs₂ : Heap.SameBut e h₁ h₂ := hs₂
    simp only [Array.set!, rawInt] at he₂
    show wpAny _ _ (setField (.ref e) 4 .none >>= _) _ _ ⟨h₂, g, d, tk + 1, os⟩
    refine wpAny_bind (wpAny_setField_rec he₂ (by simp) fun h₃ he₃ hs₃ => ?_)
    replace hs₃ : Heap.SameBut e h₂ h₃ := hs₃
    show wpAny _ _ (newTuple [.int i tk, x] >>= _) _ _ ⟨h₃, g, d, tk + 1, os⟩
    refine wpAny_bind (wpAny_newTuple ?_)
    have he₄ := Heap.get?_push_of_some { cls := .type "tuple", data := .seq #[.int i tk, x] } he₃
    have hel : e < hp.objs.size := Heap.lt_size he
    have hsz : h₃.objs.size = hp.objs.size := by rw [hs₃.1, hs₂.1, hs₁.1]
    generalize hh₄ : h₃.push { cls := .type "tuple", data := .seq #[.int i tk, x] } = h₄ at he₄
    have ht₄ : h₄.get? hp.objs.size = some { cls := .type "tuple", data := .seq #[.int i tk, x] } := by rw [← hh₄, ← hsz]; exact Heap.get?_push_size _ rfl
    have hz₄ : h₄.objs.size = hp.objs.size + 1 := by rw [← hh₄, Heap.size_push, hsz]
    have hk₄ : ∀ b o, b ≠ e → b ≠ it → hp.get? b = some o → h₄.get? b = some o := fun b o hbe hbi hb => by
      rw [← hh₄]; exact Heap.get?_push_of_some _ (hs₃.extBut b o hbe (hs₂.extBut b o hbe (hs₁.extBut b o hbi hb)))
    have hit₄ : h₄.IsListIter it l (i + 1) := by
      rw [← hh₄]; obtain ⟨o, ho, r⟩ := (hit₁.extBut hs₂.extBut (Ne.symm hne)).extBut hs₃.extBut (Ne.symm hne); exact ⟨o, Heap.get?_push_of_some _ ho, r⟩
    show wpAny _ _ (Builtin.SmallTypes.ownedTupleIsFree (.ref e) >>= _) _ _ ⟨h₄, g, d, tk + 1, os⟩
    rw [hsz]
    refine wpAny_bind ?_
    unfold Builtin.SmallTypes.ownedTupleIsFree
    refine wpAny_bind (wpAny_field he₄ rfl (x := .none) rfl (wpAny_pure ?_))
    simp only [if_true]
    refine wpAny_bind (wpAny_rule ?_)
    refine wpAny_bind (wpAny_field he₄ rfl (x := old) rfl ?_)
    refine wpAny_bind (wpAny_setField_rec he₄ (by simp) fun h₅ he₅ hs₅ => ?_)
    replace hs₅ : Heap.SameBut e h₄ h₅ := hs₅
    show wpAny _ _ (Builtin.SmallTypes.ownedTupleHandOut (.ref e) (.ref hp.objs.size) >>= _) _ _ ⟨h₅, g, d, tk + 1, os⟩
    refine wpAny_bind ?_
    unfold Builtin.SmallTypes.ownedTupleHandOut
    refine wpAny_bind (wpAny_setField_rec he₅ (by simp) fun h₆ he₆ hs₆ => ?_)
    replace hs₆ : Heap.SameBut e h₅ h₆ := hs₆
    refine wpAny_setField_rec he₆ (by simp) fun h₇ he₇ hs₇ => ?_
    replace hs₇ : Heap.SameBut e h₆ h₇ := hs₇
    have t7 : h₇.get? hp.objs.size = some { cls := .type "tuple", data := .seq #[.int i tk, x] } := hs₇.extBut _ _ (Nat.ne_of_gt hel) (hs₆.extBut _ _ (Nat.ne_of_gt hel) (hs₅.extBut _ _ (Nat.ne_of_gt hel) ht₄))
    have hil : it < hp.objs.size := by obtain ⟨o, z, _⟩ := hit; exact Heap.lt_size z
    refine wpAny_bind (wpAny_letGo (wpAny_pure ⟨_, rfl, wpAny_pure (hQ h₇ (tk + 1) ⟨rawInt hp.objs.size, .bool false, x, ?_, Or.inr ⟨hp.objs.size, false, _, rfl, rfl, t7, Nat.ne_of_gt hel, Nat.ne_of_gt hil, Nat.ne_of_gt hSl⟩⟩ ?_ ⟨tk, t7⟩ ?_ ?_)⟩))
    · simpa [rawInt, Array.set!] using he₇
    · exact ((hit₄.extBut hs₅.extBut (Ne.symm hne)).extBut hs₆.extBut (Ne.symm hne)).extBut hs₇.extBut (Ne.symm hne)
    · rw [hs₇.1, hs₆.1, hs₅.1, hz₄]
    · exact fun b o hbe hbi hb => hs₇.extBut b o hbe (hs₆.extBut b o hbe (hs₅.extBut b o hbe (hk₄ b o hbe hbi hb)))
  · have hT : s.TypeIs (.ref e) "enumerate" := ⟨_, he, rfl⟩
    unfold pyNext
    refine wpAny_bind (wpAny_attempt (wpAny_callSpecial?_slot (name := Str.ofString "__next__") hT PySem.F.slot_enumerate_next
      (wpAny_call_entry PySem.F.slot_enumerate_next hT PySem.F.entry_enumerate_next ?_ (PySem.F.args_enumerate_next_1 _))))
    obtain ⟨hp, g, d, tk, os⟩ := s
    show wpAny _ _ (field (.ref e) 2 >>= _) _ _ _
    refine wpAny_bind (wpAny_field he rfl (x := .ref it) rfl ?_)
    refine wpAny_bind (wpAny_nextOf_list_item hit hl hx fun h₁ hit₁ hs₁ => ?_)
    replace hs₁ : Heap.SameBut it hp h₁ := hs₁
    have he₁ := (hs₁.2 e hne).trans he
    show wpAny _ _ (field (.ref e) 3 >>= _) _ _ ⟨h₁, g, d, tk, os⟩
    refine wpAny_bind (wpAny_field he₁ rfl (x := rawInt i) rfl ?_)
    show wpAny _ _ (field (.ref e) 4 >>= _) _ _ ⟨h₁, g, d, tk, os⟩
    refine wpAny_bind (wpAny_field he₁ rfl (x := .none) rfl ?_)
    show wpAny _ _ (mkInt i >>= _) _ _ ⟨h₁, g, d, tk, os⟩
    refine wpAny_bind (wpAny_mkInt ?_)
    show wpAny _ _ (setField (.ref e) 3 (rawInt ((i : Int) + 1)) >>= _) _ _ ⟨h₁, g, d, tk + 1, os⟩
    refine wpAny_bind (wpAny_setField_rec he₁ (by simp) fun h₂ he₂ hs₂ => ?_)
    replace hs₂ : Heap.SameBut e h₁ h₂ := hs₂
    simp only [Array.set!, rawInt] at he₂
    show wpAny _ _ (setField (.ref e) 4 .none >>= _) _ _ ⟨h₂, g, d, tk + 1, os⟩
    refine wpAny_bind (wpAny_setField_rec he₂ (by simp) fun h₃ he₃ hs₃ => ?_)
    replace hs₃ : Heap.SameBut e h₂ h₃ := hs₃
    show wpAny _ _ (newTuple [.int i tk, x] >>= _) _ _ ⟨h₃, g, d, tk + 1, os⟩
    refine wpAny_bind (wpAny_newTuple ?_)
    have he₄ := Heap.get?_push_of_some { cls := .type "tuple", data := .seq #[.int i tk, x] } he₃
    have hel : e < hp.objs.size := Heap.lt_size he
    have hsz : h₃.objs.size = hp.objs.size := by rw [hs₃.1, hs₂.1, hs₁.1]
    generalize hh₄ : h₃.push { cls := .type "tuple", data := .seq #[.int i tk, x] } = h₄ at he₄
    have ht₄ : h₄.get? hp.objs.size = some { cls := .type "tuple", data := .seq #[.int i tk, x] } := by rw [← hh₄, ← hsz]; exact Heap.get?_push_size _ rfl
    have hz₄ : h₄.objs.size = hp.objs.size + 1 := by rw [← hh₄, Heap.size_push, hsz]
    have hk₄ : ∀ b o, b ≠ e → b ≠ it → hp.get? b = some o → h₄.get? b = some o := fun b o hbe hbi hb => by
      rw [← hh₄]; exact Heap.get?_push_of_some _ (hs₃.extBut b o hbe (hs₂.extBut b o hbe (hs₁.extBut b o hbi hb)))
    have hit₄ : h₄.IsListIter it l (i + 1) := by
      rw [← hh₄]; obtain ⟨o, ho, r⟩ := (hit₁.extBut hs₂.extBut (Ne.symm hne)).extBut hs₃.extBut (Ne.symm hne); exact ⟨o, Heap.get?_push_of_some _ ho, r⟩
    have ha₄ := hk₄ a oa hae hai ha
    have hil : it < hp.objs.size := by obtain ⟨o, z, _⟩ := hit; exact Heap.lt_size z
    show wpAny _ _ (Builtin.SmallTypes.ownedTupleIsFree (.ref e) >>= _) _ _ ⟨h₄, g, d, tk + 1, os⟩
    rw [hsz]
    refine wpAny_bind ?_
    unfold Builtin.SmallTypes.ownedTupleIsFree
    refine wpAny_bind (wpAny_field he₄ rfl (x := rawInt a) rfl ?_)
    show wpAny _ _ (loadIfAlive a >>= _) _ _ _
    refine wpAny_bind (kdx_alive ha₄ ?_)
    show wpAny _ _ (field (.ref e) 1 >>= _) _ _ _
    refine wpAny_bind (wpAny_field he₄ rfl (x := .bool b) rfl ?_)
    refine wpAny_ite_split (fun _ => ?_) (fun hb => ?_)
    · refine wpAny_bind (wpAny_setField_rec he₄ (by simp) fun h₅ he₅ hs₅ => ?_)
      replace hs₅ : Heap.SameBut e h₄ h₅ := hs₅
      have t5 := hs₅.extBut _ _ (Nat.ne_of_gt hel) ht₄
      refine wpAny_pure ?_
      simp only [Bool.false_eq_true, if_false]
      refine wpAny_pure ⟨_, rfl, wpAny_pure (hQ h₅ (tk + 1) ⟨rawInt a, .bool true, old, ?_, Or.inr ⟨a, true, oa, rfl, rfl, hs₅.extBut _ _ hae ha₄, hae, hai, haS⟩⟩ (hit₄.extBut hs₅.extBut (Ne.symm hne)) ⟨tk, t5⟩ ?_ ?_)⟩
      · simpa [rawInt, Array.set!] using he₅
      · rw [hs₅.1, hz₄]
      · exact fun b o hbe hbi hb => hs₅.extBut b o hbe (hk₄ b o hbe hbi hb)
    · refine wpAny_pure ?_
      simp only [Bool.false_eq_true, if_false]
      refine wpAny_pure ⟨_, rfl, wpAny_pure (hQ h₄ (tk + 1) ⟨rawInt a, .bool b, old, ?_, Or.inr ⟨a, b, oa, rfl, rfl, ha₄, hae, hai, haS⟩⟩ hit₄ ⟨tk, ht₄⟩ hz₄ hk₄)⟩
      simpa [rawInt, Array.set!] using he₄
theorem out_end {e it l S : Addr} {i : Nat} {items : Array Value} {Q : Option Value → Shared → Prop} (hh : A.handled = none)
    (ho : Out s.heap e it S i) (hit : s.heap.IsListIter it l i) (hl : s.heap.IsList l items) (hx : items[i]? = none)
    (hQ : ∀ h', Heap.ExtBut it s.heap h' → Q none { s with heap := h' }) : wpAny (model prog w) A (pyNext (.ref e)) Q E s := by
  obtain ⟨f0, f1, old, he, _⟩ := ho
  have hT : s.TypeIs (.ref e) "enumerate" := ⟨_, he, rfl⟩
  unfold pyNext
  refine wpAny_bind (wpAny_attempt (wpAny_callSpecial?_slot (name := Str.ofString "__next__") hT PySem.F.slot_enumerate_next
    (wpAny_call_entry PySem.F.slot_enumerate_next hT PySem.F.entry_enumerate_next ?_ (PySem.F.args_enumerate_next_1 _))))
  show wpAny _ _ (field (.ref e) 2 >>= _) _ _ _
  refine wpAny_bind (wpAny_field he rfl (x := .ref it) rfl ?_)
  refine wpAny_bind (wpAny_nextOf_list_end hh hit hl hx fun h' x he' hx' => ?_)
  obtain ⟨o, ho, hc⟩ := hx'
  refine wpAny_bind (wpAny_isInstance (T := "StopIteration") (b := true) ⟨o, ho, hc⟩ isSubtype_stop ?_)
  exact wpAny_pure (hQ _ he')
end
end UrE
namespace UrE
open PySem PySem.W PySem.Calls PyProof.Rows
structure EnG (items : Array Value) (lo : Addr) (h : Heap) (as : List Addr) : Prop where
  rise : as.Pairwise (· < ·)
  above : ∀ a ∈ as, lo < a
  pairs : ∀ (j : Nat) (a : Addr), as[j]? = some a → ∃ t x, items[j]? = some x ∧ h.get? a = some { cls := .type "tuple", data := .seq #[.int j t, x] }
theorem EnG.there {items : Array Value} {lo : Addr} {h : Heap} {as : List Addr} (g : EnG items lo h as) {a : Addr} (ha : a ∈ as) : a < h.objs.size := by
  obtain ⟨j, hj⟩ := List.mem_iff_getElem?.mp ha
  obtain ⟨_, _, _, e⟩ := g.pairs j a hj
  exact Heap.lt_size e
section
variable {prog : Program} {w : World} {A : Around} {s : Shared} {R : Result → Shared → Prop} {items : Array Value}
theorem en_loop {S e it l : Addr} (hh : A.handled = none) (hei : e ≠ it) (hle : l ≠ e) (hli : l ≠ it) (heS : e < S) (hiS : it < S) (hlS : l ≠ S) (hn : items.size ≤ sizeLine) (res : Value) {h₁ : Heap}
    (hR : ∀ h' tk acc c as, (∀ b o, b ≠ S → b ≠ e → b ≠ it → h₁.get? b = some o → h'.get? b = some o) → h'.get? S = some { cls := .type "list", dict := none, data := .seq acc c, slots := #[] } → as.length = items.size → EnG items S h' as →
      acc.toList = as.map Value.ref → R (.ok (.ret res)) { s with heap := h', toks := tk }) :
    ∀ (k i : Nat) (h : Heap) (tk c : Nat) (acc : Array Value) (as : List Addr), items.size - i = k → i ≤ items.size → Out h e it S i → h.IsListIter it l i → h.IsList l items → (∀ b o, b ≠ S → b ≠ e → b ≠ it → h₁.get? b = some o → h.get? b = some o) →
      h.get? S = some { cls := .type "list", dict := none, data := .seq acc c, slots := #[] } → acc.toList = as.map Value.ref → as.length = i → EnG items S h as →
      codeAny (model prog w) A (.builtin "list.extend.loop" ⟨[.ref S, .ref e, res], []⟩) R { s with heap := h, toks := tk } := by
  intro k
  induction k with
  | zero =>
    intro i h tk c acc as hk hi hst hit hl hkeep hS hacc hal hG
    have hin : i = items.size := by omega
    refine codeAny_builtin PySem.F.entry_extend_loop ?_
    rw [Around.under_plainId PySem.F.plain_extend_loop _]
    show wpAny _ A.in1 (pyNext (.ref e) >>= _) _ _ _
    refine wpAny_bind (out_end (s := { s with heap := h, toks := tk }) (A := A.in1) hh hst hit hl (Array.getElem?_eq_none (by omega)) fun h' he => ?_)
    refine wpAny_pure (hR h' tk acc c as (fun b o h1 h2 h3 e => he b o h3 (hkeep b o h1 h2 h3 e)) (he S _ (Nat.ne_of_gt hiS) hS) (by omega) ⟨hG.rise, hG.above, fun j a hj => ?_⟩ hacc)
    obtain ⟨t, x, e2, e3⟩ := hG.pairs j a hj
    exact ⟨t, x, e2, he a _ (Nat.ne_of_gt (Nat.lt_trans hiS (hG.above a (List.mem_of_getElem? hj)))) e3⟩
  | succ k ih =>
    intro i h tk c acc as hk hi hst hit hl hkeep hS hacc hal hG
    have hlt : i < items.size := by omega
    have hsz : acc.size = i := by rw [← Array.length_toList, hacc, List.length_map, hal]
    refine codeAny_builtin PySem.F.entry_extend_loop ?_
    rw [Around.under_plainId PySem.F.plain_extend_loop _]
    show wpAny _ A.in1 (pyNext (.ref e) >>= _) _ _ _
    refine wpAny_bind (out_item (s := { s with heap := h, toks := tk }) hst hit hl (Array.getElem?_eq_getElem hlt) hei (Heap.lt_size hS) fun h' tk' hst' hit' ht hz hkp => ?_)
    dsimp only at ht hz hkp ⊢
    obtain ⟨t, ht⟩ := ht
    have hSl : S < h.objs.size := Heap.lt_size hS
    have hS' := hkp S _ (Nat.ne_of_gt heS) (Nat.ne_of_gt hiS) hS
    have up : ∀ b o, b ≠ S → h'.get? b = some o → (h'.update S (Obj.mapSeq (·.push (Value.ref h.objs.size)))).get? b = some o := fun b o hb e => (Heap.get?_update_other _ _ (Ne.symm hb)).trans e
    have upI : ∀ (h2 : Heap), (∀ b o, b ≠ S → h'.get? b = some o → h2.get? b = some o) → Out h2 e it S (i + 1) := fun h2 k2 => by
      obtain ⟨f0, f1, old, e1, hf⟩ := hst'
      refine ⟨f0, f1, old, k2 _ _ (Nat.ne_of_lt heS) e1, ?_⟩
      rcases hf with z | ⟨a, b, oa, z1, z2, z3, z4, z5, z6⟩
      · exact Or.inl z
      · exact Or.inr ⟨a, b, oa, z1, z2, k2 a oa z6 z3, z4, z5, z6⟩
    show wpAny _ A.in1 (updateSeq S (·.push (Value.ref h.objs.size)) >>= _) _ _ _
    refine wpAny_bind ?_
    refine wpAny_updateSeq hS' rfl (wpAny_pure ⟨plainId_quiet PySem.F.plain_extend_loop _, ih (i + 1) _ tk' _ (acc.push (Value.ref h.objs.size)) (as ++ [h.objs.size]) (by omega) hlt (upI _ up)
      (hit'.at fun o z => up it o (Nat.ne_of_lt hiS) z) ((hl.at fun o z => hkp l o hle hli z).at fun o z => up l o hlS z)
      (fun b o h1 h2 h3 z => up b o h1 (hkp b o h2 h3 (hkeep b o h1 h2 h3 z))) (Heap.get?_update_self _ hS' rfl) (by rw [Array.toList_push, hacc, List.map_append]; rfl) (by rw [List.length_append, hal]; rfl) ⟨?_, ?_, ?_⟩⟩) (by rw [hsz]; omega) (by show (acc.push (Value.ref h.objs.size)).size ≤ sizeLine + 1; rw [Array.size_push, hsz]; omega)
    · refine List.pairwise_append.mpr ⟨hG.rise, List.pairwise_singleton _ _, fun a ha b hb => ?_⟩
      rw [List.mem_singleton.mp hb]
      exact hG.there ha
    · intro a ha
      rcases List.mem_append.mp ha with ha | ha
      · exact hG.above a ha
      · rw [List.mem_singleton.mp ha]; exact hSl
    · intro j b hj
      rcases Nat.lt_trichotomy j as.length with h1 | h1 | h1
      · rw [List.getElem?_append_left h1] at hj
        obtain ⟨t3, x3, e2, e3⟩ := hG.pairs j b hj
        have hb := hG.above b (List.mem_of_getElem? hj)
        exact ⟨t3, x3, e2, up b _ (Nat.ne_of_gt hb) (hkp b _ (Nat.ne_of_gt (Nat.lt_trans heS hb)) (Nat.ne_of_gt (Nat.lt_trans hiS hb)) e3)⟩
      · subst h1
        have hb : h.objs.size = b := by simpa using hj
        subst hb
        subst hal
        exact ⟨t, _, Array.getElem?_eq_getElem hlt, up _ _ (Nat.ne_of_gt hSl) ht⟩
      · have hnone : (as ++ [h.objs.size])[j]? = none := List.getElem?_eq_none (by rw [List.length_append, List.length_singleton]; omega)
        rw [hnone] at hj; cases hj
end
section
variable {prog : Program} {w : World} {A : Around} {E : Value → Shared → Prop} {s : Shared} {items : Array Value} {e it l : Addr}
theorem en_extend {R : Result → Shared → Prop} (hh : A.handled = none) (he : IsEnum s.heap e it 0 .none) (hit : s.heap.IsListIter it l 0) (hl : s.heap.IsList l items) (hei : e ≠ it) (hle : l ≠ e) (hli : l ≠ it) (S : Addr) (heS : e < S) (hiS : it < S) (hlS : l ≠ S) (res : Value) (c₀ : Nat) (hS : s.heap.get? S = some { cls := .type "list", data := .seq #[] c₀ })
    (hR : ∀ h' tk acc c as, (∀ b o, b ≠ S → b ≠ e → b ≠ it → s.heap.get? b = some o → h'.get? b = some o) → h'.get? S = some { cls := .type "list", dict := none, data := .seq acc c, slots := #[] } → as.length = items.size → EnG items S h' as →
      acc.toList = as.map Value.ref → R (.ok (.ret res)) { s with heap := h', toks := tk }) (hn : items.size ≤ sizeLine) :
    wpAny (model prog w) A.in1 (Builtin.List.listExtendWith (.ref S) (.ref e) res)
      (fun fin s' => match fin with | .done f => R (.ok f) s' | .again c' => c'.quiet = true ∧ codeAny (model prog w) A c' R s') (fun e s' => R (.error e) s') s := by
  have hT : ∀ (h : Heap) (g : Shared), g.heap = h → IsEnum h e it 0 .none → g.TypeIs (.ref e) "enumerate" := fun h g e1 e2 => by
    subst e1
    exact ⟨_, e2, rfl⟩
  unfold Builtin.List.listExtendWith
  refine wpAny_bind (wpAny_typeOf (T := "enumerate") (hT _ _ rfl he) ?_)
  have h1 : Builtin.List.listSameRef (.ref S) (.ref e) = false := by simp [Builtin.List.listSameRef, Nat.ne_of_gt heS]
  have h2 : (Value.type "enumerate" == Value.type "list") = false := by decide
  have h3 : (Value.type "enumerate" == Value.type "tuple") = false := by decide
  simp only [h1, h2, h3, Bool.or_false, Bool.false_eq_true, if_false]
  refine wpAny_bind (wpAny_pyIter_enum he ?_)
  refine wpAny_bind (wpAny_holding ?_)
  unfold Builtin.List.listLengthHint
  refine wpAny_bind (wpAny_specialOf (hT _ _ rfl he) enum_no_len ?_)
  show wpAny _ _ (specialOf (Value.ref e) (Str.ofString "__length_hint__") >>= _) _ _ _
  refine wpAny_bind (wpAny_specialOf (hT _ _ rfl he) enum_no_hint ?_)
  refine wpAny_pure ?_
  show wpAny _ _ (rule "list.extend.makes-room" >>= fun _ => Builtin.List.listTouch (.ref S) >>= fun _ =>
    again (.builtin "list.extend.loop" ⟨[.ref S, .ref e, res], []⟩)) _ _ _
  refine wpAny_bind (wpAny_rule ?_)
  refine wpAny_bind ?_
  show wpAny _ _ (updateSeq S (·.push .none) >>= fun _ => updateSeq S (·.pop)) _ _ _
  refine wpAny_bind (wpAny_updateSeq hS rfl ?_)
  have hS₂ := Heap.get?_update_self (Obj.mapSeq (·.push Value.none)) hS rfl
  refine wpAny_updateSeq (hz := by seq_fits) hS₂ rfl ?_
  have hS₃ := Heap.get?_update_self (Obj.mapSeq (·.pop)) hS₂ rfl
  have oth : ∀ b o, b ≠ S → s.heap.get? b = some o → ((s.heap.update S (Obj.mapSeq (·.push Value.none))).update S (Obj.mapSeq (·.pop))).get? b = some o :=
    fun b o hb e => (Heap.get?_update_other _ _ (Ne.symm hb)).trans ((Heap.get?_update_other _ _ (Ne.symm hb)).trans e)
  refine wpAny_pure ⟨plainId_quiet PySem.F.plain_extend_loop _, ?_⟩
  exact en_loop (s := s) (h₁ := s.heap) hh hei hle hli heS hiS hlS hn res hR items.size 0 _ _ _ #[] [] (Nat.sub_zero _) (Nat.zero_le _) ⟨.none, .bool false, .none, oth e _ (Nat.ne_of_lt heS) he, Or.inl rfl⟩
    (hit.at fun o z => oth it o (Nat.ne_of_lt hiS) z) (hl.at fun o z => oth l o hlS z) (fun b o hb _ _ z => oth b o hb z) hS₃ rfl rfl ⟨List.Pairwise.nil, (fun _ ha => nomatch ha), (fun j a hj => by simp at hj)⟩
theorem en_call {Q : Value → Shared → Prop} (hh : A.handled = none) (he : IsEnum s.heap e it 0 .none) (hit : s.heap.IsListIter it l 0) (hl : s.heap.IsList l items) (hei : e ≠ it) (hle : l ≠ e) (hli : l ≠ it) (hn : items.size ≤ sizeLine)
    (hQ : ∀ h' tk acc c as, (∀ b o, b ≠ e → b ≠ it → s.heap.get? b = some o → h'.get? b = some o) → h'.get? s.heap.objs.size = some { cls := .type "list", dict := none, data := .seq acc c, slots := #[] } → as.length = items.size → EnG items s.heap.objs.size h' as →
      acc.toList = as.map Value.ref → Q (.ref s.heap.objs.size) { s with heap := h', toks := tk }) :
    wpAny (model prog w) A (call (.type "list") [.ref e]) Q E s := by
  refine callType_codes (Q₁ := fun obj s₁ => obj = .ref s.heap.objs.size ∧ s₁ = { s with heap := s.heap.push { cls := .type "list", data := .seq #[] } }) PySem.F.called_list (PySem.F.typeCall_list_1 _) PySem.F.entry_list_init
    (code_list_new _ ⟨rfl, rfl⟩) fun obj s₁ h₁ => ?_
  obtain ⟨rfl, rfl⟩ := h₁
  have hS : (s.heap.push { cls := .type "list", data := .seq #[] }).get? s.heap.objs.size = some { cls := .type "list", data := .seq #[] } := Heap.get?_push_size _ rfl
  have hel : e < s.heap.objs.size := Heap.lt_size he
  have hil : it < s.heap.objs.size := let ⟨_, z, _⟩ := hit; Heap.lt_size z
  have hll : l < s.heap.objs.size := let ⟨_, z, _⟩ := hl; Heap.lt_size z
  refine ⟨⟨_, hS, rfl⟩, PySem.F.args_list_init_2 _ _, ?_⟩
  show wpAny _ _ (do let old ← Builtin.List.listItems (.ref s.heap.objs.size); Builtin.List.listUpdate (.ref s.heap.objs.size) (fun _ => #[]); letGo old.toList.reverse; Builtin.List.listExtendWith (.ref s.heap.objs.size) (.ref e) .none) _ _ _
  refine wpAny_bind ?_
  unfold Builtin.List.listItems
  refine wpAny_bind (wpAny_seqItems hS rfl (wpAny_pure ?_))
  show wpAny _ _ (updateSeq s.heap.objs.size (fun _ => #[]) >>= fun _ => letGo (#[] : Array Value).toList.reverse >>= fun _ => Builtin.List.listExtendWith (.ref s.heap.objs.size) (.ref e) .none) _ _ _
  refine wpAny_bind (wpAny_updateSeq hS rfl ?_)
  have hS₂ := Heap.get?_update_self (Obj.mapSeq (fun _ => (#[] : Array Value))) hS rfl
  have oth : ∀ b o, s.heap.get? b = some o → ((s.heap.push { cls := .type "list", data := .seq #[] }).update s.heap.objs.size (Obj.mapSeq (fun _ => (#[] : Array Value)))).get? b = some o :=
    fun b o z => (Heap.get?_update_other _ _ (Nat.ne_of_gt (Heap.lt_size z))).trans (Heap.get?_push_of_some _ z)
  refine wpAny_bind (wpAny_letGo ?_)
  refine en_extend (A := A.in1) hh (oth e _ he) (hit.at fun o z => oth it o z) (hl.at fun o z => oth l o z) hei hle hli _ hel hil (Nat.ne_of_lt hll) .none _ hS₂ (fun h' tk acc c as hk hS' hl2 hG hacc => ?_) hn
  exact ⟨rfl, hQ h' tk acc c as (fun b o h1 h2 z => hk b o (Nat.ne_of_lt (Heap.lt_size z)) h1 h2 (oth b o z)) hS' hl2 hG hacc⟩
end
end UrE
namespace UrE
open PySem PySem.Spec PyProof.Rows L2
/-- tuples tracked at their addresses -/
def putG : Hp → List Addr → List (List V) → Hp
  | H, a :: as, c :: cs => putG (upd H a (.tup c)) as cs
  | H, _, _ => H
theorem putG_off {b : Addr} : ∀ (as : List Addr) (cs : List (List V)) (H : Hp), b ∉ as → putG H as cs b = H b
  | [], _, _, _ => rfl
  | _ :: _, [], _, _ => rfl
  | a :: as, c :: cs, H, h => by
    show putG (upd H a (.tup c)) as cs b = H b
    rw [putG_off as cs _ (fun z => h (List.mem_cons_of_mem _ z)), upd_ne (fun z => h (by rw [z]; exact List.mem_cons_self))]
theorem putG_at : ∀ (as : List Addr) (cs : List (List V)) (H : Hp), as.length = cs.length → as.Nodup → ∀ (j : Nat) (a : Addr), as[j]? = some a → ∃ c, cs[j]? = some c ∧ putG H as cs a = some (.tup c)
  | [], _, _, _, _, j, a, h => by simp at h
  | _ :: _, [], _, h, _, _, _, _ => by cases h
  | a :: as, c :: cs, H, h, hn, 0, b, e => by
    have hn' := List.nodup_cons.mp hn
    have e' : a = b := by simpa using e
    subst e'
    refine ⟨c, rfl, ?_⟩
    show putG (upd H a (.tup c)) as cs a = some (.tup c)
    rw [putG_off as cs _ hn'.1, upd_same]
  | a :: as, c :: cs, H, h, hn, j + 1, b, e => by
    have hn' := List.nodup_cons.mp hn
    exact putG_at as cs (upd H a (.tup c)) (Nat.succ.inj h) hn'.2 j b (by simpa using e)
/-- a new list of new tuples -/
def NewPairs (H : Hp) (cs : List (List V)) (p : Addr) (ts : List Addr) (H' : Hp) : Prop :=
  Same H H' ∧ H p = none ∧ (∀ t ∈ ts, H t = none) ∧ p ∉ ts ∧ ts.Nodup ∧ ts.length = cs.length ∧ H' p = some (.lst (ts.map V.ref)) ∧ ∀ (j : Nat) (c : List V), cs[j]? = some c → ∃ t, ts[j]? = some t ∧ H' t = some (.tup c)
theorem refs_vals : ∀ as : List Addr, Vals (as.map V.ref) (as.map Value.ref)
  | [] => .nil
  | _ :: as => .cons rfl (refs_vals as)
section
variable {X : Cx} {e : Expr} {ta : TA} {p p2 cpos pos : Pos}
theorem laid_pairs {pins : List (Addr × Obj)} {σ : L2.St} {H : Hp} {s : Shared} {h' : Heap} {tk : Nat} {cs : List (List V)} {acc : Array Value} {c S : Nat} {as : List Addr} (I : Inv X pins σ H s) (hz : cs.length ≤ sizeLine) (hS0 : s.heap.objs.size ≤ S)
    (hk : ∀ b o, s.heap.get? b = some o → h'.get? b = some o) (hS : h'.get? S = some { cls := .type "list", dict := none, data := .seq acc c, slots := #[] }) (hl : as.length = cs.length) (hr : as.Pairwise (· < ·)) (hab : ∀ a ∈ as, S < a)
    (ht : ∀ (j : Nat) (a : Addr) (c : List V), as[j]? = some a → cs[j]? = some c → c.length ≤ sizeLine ∧ ∃ us, Vals c us ∧ IsTup h' a us.toArray) (hacc : acc.toList = as.map Value.ref) :
    ∃ H' : Hp, NewPairs H cs S as H' ∧ Inv X pins σ H' { s with heap := h', toks := tk } := by
  have hSn : S ∉ as := fun z => Nat.lt_irrefl _ (hab _ z)
  have nd : as.Nodup := List.Pairwise.imp (fun {a b} (h : a < b) => Nat.ne_of_lt h) hr
  have new : ∀ t ∈ as, H t = none := fun t ht => I.hok.fresh (Nat.le_of_lt (Nat.lt_of_le_of_lt hS0 (hab t ht)))
  have newS : H S = none := I.hok.fresh hS0
  have atP := putG_at as cs (upd H S (.lst (as.map V.ref))) hl nd
  have off : ∀ b, b ∉ as → b ≠ S → putG (upd H S (.lst (as.map V.ref))) as cs b = H b := fun b h1 h2 => by rw [putG_off as cs _ h1, upd_ne h2]
  have low : ∀ b o, s.heap.get? b = some o → b ∉ as ∧ b ≠ S := fun b o e => ⟨fun z => absurd (Heap.lt_size e) (Nat.not_lt.mpr (Nat.le_of_lt (Nat.lt_of_le_of_lt hS0 (hab b z)))), Nat.ne_of_lt (Nat.lt_of_lt_of_le (Heap.lt_size e) hS0)⟩
  have kp : ∀ b u, H b = some u → (putG (upd H S (.lst (as.map V.ref))) as cs) b = some u := fun b u e => by
    rw [off b (fun z => by rw [new b z] at e; cases e) (fun z => by rw [z, newS] at e; cases e)]
    exact e
  have eS : putG (upd H S (.lst (as.map V.ref))) as cs S = some (.lst (as.map V.ref)) := by rw [putG_off as cs _ hSn, upd_same]
  refine ⟨putG (upd H S (.lst (as.map V.ref))) as cs, ⟨kp, newS, new, hSn, nd, hl, eS, fun j c hc => ?_⟩, ?_⟩
  · have hj : j < as.length := by rw [hl]; exact (List.getElem?_eq_some_iff.mp hc).1
    obtain ⟨c', h1, h2⟩ := atP j as[j] (List.getElem?_eq_getElem hj)
    rw [hc] at h1
    cases h1
    exact ⟨as[j], List.getElem?_eq_getElem hj, h2⟩
  refine I.call' (ch := []) rfl ⟨fun b o q _ _ _ => hk b o q, fun b o q _ _ _ => ⟨o.slots, hk b o q⟩, fun b o q n _ => ?_, fun b o q _ => ⟨o, hk b o q⟩, fun b xs q => kp b _ q, fun b o u q => kp b _ q, fun b ps q => ⟨#[], by rw [kp b _ q]; simp⟩⟩ (fun b u q => ?_) I.bare fun b z => by simp at z
  · obtain ⟨z1, z2⟩ := low b o q
    rw [off b z1 z2]
    exact n
  · by_cases hb : b ∈ as
    · obtain ⟨j, e1⟩ := List.mem_iff_getElem?.mp hb
      obtain ⟨c', e2, e3⟩ := atP j b e1
      rw [e3] at q
      cases q
      obtain ⟨z, us, r, tt⟩ := ht j b c' e1 e2
      exact ⟨z, us, r, tt⟩
    · by_cases hb2 : b = S
      · rw [hb2] at q ⊢
        rw [eS] at q
        cases q
        refine ⟨by rw [List.length_map]; omega, acc.toList, c, by rw [hacc]; exact refs_vals as, ?_⟩
        rw [Array.toArray_toList]
        exact hS
      · rw [off b hb hb2] at q
        exact (I.hok b u q).stay (fun d v _ y => hk d v y) (fun d y => kp d _ y) fun d xs y => kp d _ y
/-- the pairs (i, x) of a list -/
def enumC (xs : List V) : List (List V) := xs.zipIdx.map fun p => [.int (p.2 : Nat), p.1]
theorem enumC_len (xs : List V) : (enumC xs).length = xs.length := by simp [enumC]
theorem enumC_get {xs : List V} {j : Nat} : (enumC xs)[j]? = (xs[j]?).map fun x => [.int (j : Nat), x] := by
  unfold enumC
  rw [List.getElem?_map, List.getElem?_zipIdx]
  cases xs[j]? with
  | none => rfl
  | some x => simp
def tListEnum (K : PySem.W.Frag) (ta : TA) : TE := fun σ H Q => ta σ H fun vs H1 => ∃ a xs, vs = [.ref a] ∧ SqL K H1 a xs ∧ ∀ p ts H', NewPairs H1 (enumC xs) p ts H' → Q (.ref p) H'
theorem pe_list_enum (hc : X.calm = true) (hm : X.mg "list" = none) (hm2 : X.mg "enumerate" = none) (hg2 : Gl X "enumerate") (ha : PA X [e] ta) (hg : Gl X "list" := by rfl) (hs : starEach [e] X.env = [(false, eval e X.env)] := by rfl)
    (hs2 : starEach [.Call (.Name "enumerate" p2) [e] [] cpos] X.env = (false, eval (.Call (.Name "enumerate" p2) [e] [] cpos) X.env) :: starEach [] X.env := by rfl) :
    PE X (.Call (.Name "list" p) [.Call (.Name "enumerate" p2) [e] [] cpos] [] pos) (tListEnum X.K ta) := by
  refine ⟨fun pins s σ H Q I h => ?_⟩
  refine wpAny_Call_Name_kw (ld_blt I hg hm (by decide +kernel : bootBuiltins "list" = some (.type "list")) ?_)
  refine PyProof.Rows.callWith_type1 ?_ hs2 rfl
  rw [hs2]
  show wpAny _ _ (spliced ((false, eval (.Call (.Name "enumerate" p2) [e] [] cpos) X.env) :: backTo pos (starEach [] X.env))) _ _ s
  refine Calls.spliced_cons ?_
  refine Call_ (ld_blt I hg2 hm2 boot_enumerate (PyProof.Rows.callWith_type1 (thn (ha.run cpos pins s σ H _ I h) fun us s1 ⟨vs, H1, I1, r1, q1⟩ => ?_) hs rfl))
  obtain ⟨a, xs, ex, hq, q⟩ := q1
  subst ex
  cases r1 with
  | cons r rr =>
    cases rr
    cases r
    obtain ⟨its, rv, p', hz⟩ := I1.list hq
    refine call_enumerate_list p'.isList fun h' he hit hsz hk => ?_
    refine Calls.spliced_nil ?_
    have hla : a < s1.heap.objs.size := let ⟨_, z, _⟩ := p'.isList; Heap.lt_size z
    have hL' : h'.IsList a its.toArray := p'.isList.at fun o z => hk a o z
    have hlen : its.length = xs.length := (Vals.length rv).symm
    refine en_call (s := { s1 with heap := h' }) (I1.ok.hd hc) he hit hL' (Nat.succ_ne_self _) (Nat.ne_of_lt (Nat.lt_succ_of_lt hla)) (Nat.ne_of_lt hla) (by rw [List.size_toArray, hlen]; exact hz) fun h2 tk acc c as hk2 hS hl hG hacc => ?_
    have hsz' : h'.objs.size = s1.heap.objs.size + 2 := hsz
    obtain ⟨H', N, J⟩ := laid_pairs (I := I1) (h' := h2) (tk := tk) (cs := enumC xs) (acc := acc) (c := c) (S := h'.objs.size) (as := as) (by rw [enumC_len]; exact hz) (by omega)
      (fun b o z => hk2 b o (Nat.ne_of_lt (Nat.lt_succ_of_lt (Heap.lt_size z))) (Nat.ne_of_lt (Heap.lt_size z)) (hk b o z)) hS (by rw [hl, enumC_len, List.size_toArray, hlen]) hG.rise hG.above
      (fun j b c e1 e2 => by
        rw [enumC_get] at e2
        cases hx : xs[j]? with
        | none => rw [hx] at e2; cases e2
        | some x =>
          rw [hx] at e2
          have e3 : [V.int (j : Nat), x] = c := by simpa using e2
          subst e3
          obtain ⟨t, y, f1, f2⟩ := hG.pairs j b e1
          obtain ⟨u, g1, g2⟩ := rv.get hx
          have f1' : its[j]? = some y := by simpa using f1
          rw [f1'] at g1
          cases g1
          exact ⟨by show 2 ≤ sizeLine; decide, [.int j t, y], .cons ⟨t, rfl⟩ (.cons g2 .nil), ⟨_, f2, rfl, _, rfl⟩⟩) hacc
    exact ⟨.ref _, H', J, rfl, q _ as H' N⟩
end
end UrE

namespace Ur
open PySem L2

/-! ### frames -/
/-- all that was tracked stands as it was but at a -/
def But (a : Addr) (H H' : Hp) : Prop := ∀ b o, b ≠ a → H b = some o → H' b = some o
theorem same_get {H H' : Hp} {b : Addr} {o : HO} (s : Same H H') (h : H b = some o) : H' b = some o := s b o h
theorem but_get {H H' : Hp} {a b : Addr} {o : HO} (s : But a H H') (n : b ≠ a) (h : H b = some o) : H' b = some o := s b o n h
theorem ne_new {H : Hp} {a b : Addr} {o : HO} (h' : H b = none) (h : H a = some o) : a ≠ b := ne_of_none h h'
theorem at_nat {α : Type} {xs : List α} {j : Nat} {v : α} (h : xs[j]? = some v) : atI xs (j : Int) = some v := atI_nat h
theorem dead_upd {H : Hp} {a : Addr} {o u : HO} (h : upd H a o a = some u) : upd H a o a = some u := h
theorem dead_ne {a : Addr} (h : a ≠ a) : a ≠ a := h
theorem sz {n : Nat} (h : n ≤ 1000000) : n ≤ sizeLine := Nat.le_trans h (by decide)
theorem szl {n : Nat} (h : n < 1000000) : n < sizeLine := Nat.lt_of_lt_of_le h (by decide)
theorem ne_new' {H : Hp} {a b : Addr} {o : HO} (h' : H a = none) (h : H b = some o) : a ≠ b := fun e => ne_of_none h h' e.symm
theorem get_upd {H : Hp} {a b : Addr} {o u : HO} (n : b ≠ a) (h : H b = some u) : upd H a o b = some u := (upd_ne n).trans h
theorem b01 (b : Bool) : 0 ≤ (if b = true then (1 : Int) else 0) ∧ (if b = true then (1 : Int) else 0) ≤ 1 := by cases b <;> decide
/-! ### frames, for the search -/
theorem same_snoc {H0 H : Hp} {p : Addr} {o : HO} (n : H p = none) (s : Same H0 H) : Same H0 (upd H p o) := fun b u e => by
  have e' := s b u e
  rw [upd_ne (ne_of_none e' n)]
  exact e'
theorem same_upd' {H0 H : Hp} {p : Addr} {o : HO} (n : H0 p = none) (s : Same H0 H) : Same H0 (upd H p o) := fun b u e => by
  rw [upd_ne (ne_of_none e n)]
  exact s b u e
theorem same_step {H0 H1 H2 : Hp} (s2 : Same H1 H2) (s1 : Same H0 H1) : Same H0 H2 := s1.trans s2
theorem same_pairs {H0 H1 H2 : Hp} {cs : List (List V)} {p : Addr} {ts : List Addr} (n : UrE.NewPairs H1 cs p ts H2) (s1 : Same H0 H1) : Same H0 H2 := s1.trans n.1
theorem same_but {H0 H1 H2 : Hp} {a : Addr} (b : But a H1 H2) (n : H0 a = none) (s : Same H0 H1) : Same H0 H2 := fun x o e =>
  b x o (fun k => by rw [k, n] at e; cases e) (s x o e)
theorem adv0 {H H1 : Hp} {b : Addr} {o : HO} (s : Same H H1) (h : H b = some o) : H1 b = some o ∧ (∀ p, H p = none → b ≠ p) ∧ ∀ p, H p = none → b ≠ p := ⟨s _ _ h, fun _ k => ne_new k h, fun _ k => ne_new k h⟩
theorem adv1 {H H1 : Hp} {a0 : Addr} {o0 : HO} {b : Addr} {o : HO} (s : Same (upd H a0 o0) H1) (n0 : b ≠ a0) (h : H b = some o) : H1 b = some o ∧ (∀ p, (upd H a0 o0) p = none → b ≠ p) ∧ ∀ p, H p = none → b ≠ p := ⟨s _ _ (get_upd n0 h), fun _ k => ne_new k (get_upd n0 h), fun _ k => ne_new k h⟩
theorem adv2 {H H1 : Hp} {a0 : Addr} {o0 : HO} {a1 : Addr} {o1 : HO} {b : Addr} {o : HO} (s : Same (upd (upd H a0 o0) a1 o1) H1) (n0 : b ≠ a0) (n1 : b ≠ a1) (h : H b = some o) : H1 b = some o ∧ (∀ p, (upd (upd H a0 o0) a1 o1) p = none → b ≠ p) ∧ ∀ p, H p = none → b ≠ p := ⟨s _ _ (get_upd n1 (get_upd n0 h)), fun _ k => ne_new k (get_upd n1 (get_upd n0 h)), fun _ k => ne_new k h⟩
theorem adv3 {H H1 : Hp} {a0 : Addr} {o0 : HO} {a1 : Addr} {o1 : HO} {a2 : Addr} {o2 : HO} {b : Addr} {o : HO} (s : Same (upd (upd (upd H a0 o0) a1 o1) a2 o2) H1) (n0 : b ≠ a0) (n1 : b ≠ a1) (n2 : b ≠ a2) (h : H b = some o) : H1 b = some o ∧ (∀ p, (upd (upd (upd H a0 o0) a1 o1) a2 o2) p = none → b ≠ p) ∧ ∀ p, H p = none → b ≠ p := ⟨s _ _ (get_upd n2 (get_upd n1 (get_upd n0 h))), fun _ k => ne_new k (get_upd n2 (get_upd n1 (get_upd n0 h))), fun _ k => ne_new k h⟩
theorem adv4 {H H1 : Hp} {a0 : Addr} {o0 : HO} {a1 : Addr} {o1 : HO} {a2 : Addr} {o2 : HO} {a3 : Addr} {o3 : HO} {b : Addr} {o : HO} (s : Same (upd (upd (upd (upd H a0 o0) a1 o1) a2 o2) a3 o3) H1) (n0 : b ≠ a0) (n1 : b ≠ a1) (n2 : b ≠ a2) (n3 : b ≠ a3) (h : H b = some o) : H1 b = some o ∧ (∀ p, (upd (upd (upd (upd H a0 o0) a1 o1) a2 o2) a3 o3) p = none → b ≠ p) ∧ ∀ p, H p = none → b ≠ p := ⟨s _ _ (get_upd n3 (get_upd n2 (get_upd n1 (get_upd n0 h)))), fun _ k => ne_new k (get_upd n3 (get_upd n2 (get_upd n1 (get_upd n0 h)))), fun _ k => ne_new k h⟩
theorem adv5 {H H1 : Hp} {a0 : Addr} {o0 : HO} {a1 : Addr} {o1 : HO} {a2 : Addr} {o2 : HO} {a3 : Addr} {o3 : HO} {a4 : Addr} {o4 : HO} {b : Addr} {o : HO} (s : Same (upd (upd (upd (upd (upd H a0 o0) a1 o1) a2 o2) a3 o3) a4 o4) H1) (n0 : b ≠ a0) (n1 : b ≠ a1) (n2 : b ≠ a2) (n3 : b ≠ a3) (n4 : b ≠ a4) (h : H b = some o) : H1 b = some o ∧ (∀ p, (upd (upd (upd (upd (upd H a0 o0) a1 o1) a2 o2) a3 o3) a4 o4) p = none → b ≠ p) ∧ ∀ p, H p = none → b ≠ p := ⟨s _ _ (get_upd n4 (get_upd n3 (get_upd n2 (get_upd n1 (get_upd n0 h))))), fun _ k => ne_new k (get_upd n4 (get_upd n3 (get_upd n2 (get_upd n1 (get_upd n0 h))))), fun _ k => ne_new k h⟩
theorem adv6 {H H1 : Hp} {a0 : Addr} {o0 : HO} {a1 : Addr} {o1 : HO} {a2 : Addr} {o2 : HO} {a3 : Addr} {o3 : HO} {a4 : Addr} {o4 : HO} {a5 : Addr} {o5 : HO} {b : Addr} {o : HO} (s : Same (upd (upd (upd (upd (upd (upd H a0 o0) a1 o1) a2 o2) a3 o3) a4 o4) a5 o5) H1) (n0 : b ≠ a0) (n1 : b ≠ a1) (n2 : b ≠ a2) (n3 : b ≠ a3) (n4 : b ≠ a4) (n5 : b ≠ a5) (h : H b = some o) : H1 b = some o ∧ (∀ p, (upd (upd (upd (upd (upd (upd H a0 o0) a1 o1) a2 o2) a3 o3) a4 o4) a5 o5) p = none → b ≠ p) ∧ ∀ p, H p = none → b ≠ p := ⟨s _ _ (get_upd n5 (get_upd n4 (get_upd n3 (get_upd n2 (get_upd n1 (get_upd n0 h)))))), fun _ k => ne_new k (get_upd n5 (get_upd n4 (get_upd n3 (get_upd n2 (get_upd n1 (get_upd n0 h)))))), fun _ k => ne_new k h⟩
theorem adv7 {H H1 : Hp} {a0 : Addr} {o0 : HO} {a1 : Addr} {o1 : HO} {a2 : Addr} {o2 : HO} {a3 : Addr} {o3 : HO} {a4 : Addr} {o4 : HO} {a5 : Addr} {o5 : HO} {a6 : Addr} {o6 : HO} {b : Addr} {o : HO} (s : Same (upd (upd (upd (upd (upd (upd (upd H a0 o0) a1 o1) a2 o2) a3 o3) a4 o4) a5 o5) a6 o6) H1) (n0 : b ≠ a0) (n1 : b ≠ a1) (n2 : b ≠ a2) (n3 : b ≠ a3) (n4 : b ≠ a4) (n5 : b ≠ a5) (n6 : b ≠ a6) (h : H b = some o) : H1 b = some o ∧ (∀ p, (upd (upd (upd (upd (upd (upd (upd H a0 o0) a1 o1) a2 o2) a3 o3) a4 o4) a5 o5) a6 o6) p = none → b ≠ p) ∧ ∀ p, H p = none → b ≠ p := ⟨s _ _ (get_upd n6 (get_upd n5 (get_upd n4 (get_upd n3 (get_upd n2 (get_upd n1 (get_upd n0 h))))))), fun _ k => ne_new k (get_upd n6 (get_upd n5 (get_upd n4 (get_upd n3 (get_upd n2 (get_upd n1 (get_upd n0 h))))))), fun _ k => ne_new k h⟩
theorem same_free {H0 H : Hp} {p : Addr} (n : H p = none) (s : Same H0 H) : H0 p = none := s.free n
theorem but_refl {a : Addr} {H : Hp} : But a H H := fun _ _ _ e => e
theorem but_at {a : Addr} {H0 H : Hp} {o : HO} (s : But a H0 H) : But a H0 (upd H a o) := fun b u n e => by
  rw [upd_ne n]
  exact s b u n e
theorem but_snoc {a : Addr} {H0 H : Hp} {p : Addr} {o : HO} (n : H p = none) (s : But a H0 H) : But a H0 (upd H p o) := fun b u nb e => by
  have e' := s b u nb e
  rw [upd_ne (ne_of_none e' n)]
  exact e'
theorem but_upd {a : Addr} {H0 H : Hp} {p : Addr} {o : HO} (n : H0 p = none) (s : But a H0 H) : But a H0 (upd H p o) := fun b u nb e => by
  rw [upd_ne (ne_of_none e n)]
  exact s b u nb e
theorem but_step {a : Addr} {H0 H1 H2 : Hp} (s2 : But a H1 H2) (s1 : But a H0 H1) : But a H0 H2 := fun b u n e => s2 b u n (s1 b u n e)
theorem but_step' {a : Addr} {H0 H1 H2 : Hp} (s2 : Same H1 H2) (s1 : But a H0 H1) : But a H0 H2 := fun b u n e => s2 b u (s1 b u n e)
theorem but_free {a : Addr} {H0 H1 : Hp} {p : Addr} {o : HO} (h : H1 p = none) (x : But a H0 H1) (ha : H1 a = some o) : H0 p = none := by
  by_cases e : p = a
  · rw [e, ha] at h; cases h
  · cases q : H0 p with
    | none => rfl
    | some u => rw [x p u e q] at h; cases h
/-- a word that the search does not open -/
structure Iv (P : Prop) : Prop where
  out : P
/-! ### a loop's invariant is asked here -/
theorem isW1 {P : (Nat → Nat → Hp → Prop) → Prop} (h : ∃ W, P W) : ∃ W, P W := h
theorem isW2 {P : (Nat → Nat → L2.St → Hp → Prop) → Prop} (h : ∃ W, P W) : ∃ W, P W := h
theorem isW3 {P : (Nat → L2.St → Hp → Prop) → Prop} (h : ∃ W, P W) : ∃ W, P W := h
theorem isW4 {P : (L2.St → Hp → Prop) → Prop} (h : ∃ W, P W) : ∃ W, P W := h
/-! ### branches -/
theorem br {c : Prop} [Decidable c] {A B : Prop} (h1 : c → A) (h2 : ¬ c → B) : if decide c = true then A else B := by
  by_cases h : c
  · rw [if_pos (decide_eq_true h)]
    exact h1 h
  · rw [if_neg (by rw [decide_eq_false h]; exact Bool.false_ne_true)]
    exact h2 h
theorem brn {c : Prop} [Decidable c] {A B : Prop} (h1 : ¬ c → A) (h2 : c → B) : if (!decide c) = true then A else B := by
  by_cases h : c
  · rw [if_neg (by rw [decide_eq_true h]; decide)]
    exact h2 h
  · rw [if_pos (by rw [decide_eq_false h]; decide)]
    exact h1 h
theorem bri {i j : Int} {A B : Prop} (h1 : i = j → A) (h2 : ¬ i = j → B) : if decide (V.int i = V.int j) = true then A else B :=
  br (fun h => h1 (V.int.inj h)) (fun h => h2 fun e => h (by rw [e]))
theorem brni {i j : Int} {A B : Prop} (h1 : ¬ i = j → A) (h2 : i = j → B) : if (!decide (V.int i = V.int j)) = true then A else B :=
  brn (fun h => h1 fun e => h (by rw [e])) (fun h => h2 (V.int.inj h))
theorem brb {b : Bool} {A B : Prop} (h1 : b = true → A) (h2 : b = false → B) : if b = true then A else B := by
  cases b with
  | true => exact (if_pos rfl).mpr (h1 rfl)
  | false => exact (if_neg Bool.false_ne_true).mpr (h2 rfl)
/-! ### branches that are known -/
theorem brT {c : Prop} [Decidable c] {A B : Prop} (h : c) (a : A) : if decide c = true then A else B := by rw [if_pos (decide_eq_true h)]; exact a
theorem brF {c : Prop} [Decidable c] {A B : Prop} (h : ¬ c) (b : B) : if decide c = true then A else B := by rw [if_neg (by rw [decide_eq_false h]; exact Bool.false_ne_true)]; exact b
theorem brnT {c : Prop} [Decidable c] {A B : Prop} (h : c) (b : B) : if (!decide c) = true then A else B := by rw [if_neg (by rw [decide_eq_true h]; decide)]; exact b
theorem brnF {c : Prop} [Decidable c] {A B : Prop} (h : ¬ c) (a : A) : if (!decide c) = true then A else B := by rw [if_pos (by rw [decide_eq_false h]; decide)]; exact a
theorem noN {A B : Prop} {i : Int} (b : B) : if decide (V.int i = V.non) = true then A else B := by rw [if_neg (by rw [decide_eq_false (by intro e; cases e)]; exact Bool.false_ne_true)]; exact b
theorem noNn {A B : Prop} {i : Int} (a : A) : if (!decide (V.int i = V.non)) = true then A else B := by rw [if_pos (by rw [decide_eq_false (by intro e; cases e)]; decide)]; exact a
end Ur

namespace Ur
open PySem L2
/-! ### lists of ints: ==, slices, loops -/
/-- the list of ints as values -/
abbrev iv (ns : List Int) : List V := ns.map V.int
theorem dpAll_ints {K : PySem.W.Frag} {H : Hp} : ∀ ns : List Int, DpAll K H (ns.map V.int) (ns.map PyData.int)
  | [] => .nil
  | n :: ns => .cons (.int n) (dpAll_ints ns)
theorem dp_ints {K : PySem.W.Frag} {H : Hp} {a : Addr} {ns : List Int} (h : SqL K H a (ns.map V.int)) : Dp K H (.ref a) (.list (ns.map PyData.int)) := .lst h (dpAll_ints ns)
theorem canLayAll_ints : ∀ ns : List Int, PyData.canLayAll0 (ns.map PyData.int) = true
  | [] => rfl
  | n :: ns => by
    show (PyData.canLay0 (.int n) && PyData.canLayAll0 (ns.map PyData.int)) = true
    rw [canLayAll_ints ns]
    rfl
theorem depthAll_ints : ∀ ns : List Int, PyData.depthAll (ns.map PyData.int) ≤ 1
  | [] => by decide
  | n :: ns => by
    have h := depthAll_ints ns
    rw [List.map_cons, PyData.depthAll]
    exact Nat.max_le.mpr ⟨by simp [PyData.depth], h⟩
theorem depth_ints (ns : List Int) : PyData.depth (.list (ns.map PyData.int)) ≤ 2 := by
  have h := depthAll_ints ns
  rw [PyData.depth]
  omega
theorem shaped_of {d : PyData} (c : PyData.canLay0 d = true) (h : PyData.depth d ≤ 64) : SeqAt.shaped d = true := by
  unfold SeqAt.shaped
  rw [c, decide_eq_true h]
  rfl
theorem shaped_ints (ns : List Int) : SeqAt.shaped (.list (ns.map PyData.int)) = true := shaped_of (canLayAll_ints ns) (Nat.le_trans (depth_ints ns) (by decide))
theorem eqvAll_ints : ∀ ns ms : List Int, PyData.eqvAll (ns.map PyData.int) (ms.map PyData.int) = decide (ns = ms)
  | [], [] => rfl
  | [], _ :: _ => rfl
  | _ :: _, [] => rfl
  | n :: ns, m :: ms => by
    show (PyData.eqv (.int n) (.int m) && PyData.eqvAll (ns.map PyData.int) (ms.map PyData.int)) = decide (n :: ns = m :: ms)
    rw [eqvAll_ints ns ms]
    show ((n == m) && decide (ns = ms)) = decide (n :: ns = m :: ms)
    by_cases h : n = m <;> by_cases h2 : ns = ms <;> simp [h, h2]
theorem eqv_ints (ns ms : List Int) : PyData.eqv (.list (ns.map PyData.int)) (.list (ms.map PyData.int)) = decide (ns = ms) := eqvAll_ints ns ms
theorem rEq_ints {K : PySem.W.Frag} {H : Hp} {a b : Addr} {ns ms : List Int} {Q : VK} (h1 : SqL K H a (ns.map V.int)) (h2 : SqL K H b (ms.map V.int)) (q : Q (.bl (decide (ns = ms))) H) : rEqD K (.ref a) (.ref b) H Q :=
  ⟨_, _, dp_ints h1, dp_ints h2, shaped_ints ns, shaped_ints ms, by rw [eqv_ints]; exact q⟩
theorem rNe_ints {K : PySem.W.Frag} {H : Hp} {a b : Addr} {ns ms : List Int} {Q : VK} (h1 : SqL K H a (ns.map V.int)) (h2 : SqL K H b (ms.map V.int)) (q : Q (.bl (!decide (ns = ms))) H) : rNeD K (.ref a) (.ref b) H Q :=
  ⟨_, _, dp_ints h1, dp_ints h2, shaped_ints ns, shaped_ints ms, by rw [eqv_ints]; exact q⟩
theorem SqL.nil_of {K : PySem.W.Frag} {H : Hp} {a : Addr} (h : SqL K H a []) : SqL K H a (([] : List Int).map V.int) := h

theorem iv_get {ns : List Int} {i : Nat} {x : V} (h : (ns.map V.int)[i]? = some x) : ∃ n, ns[i]? = some n ∧ x = .int n := by
  rw [List.getElem?_map] at h
  cases e : ns[i]? with
  | none => rw [e] at h; cases h
  | some n => rw [e] at h; exact ⟨n, rfl, (Option.some.inj h).symm⟩
theorem iv_get' {ns : List Int} {i : Nat} {n : Int} (h : ns[i]? = some n) : (ns.map V.int)[i]? = some (.int n) := by rw [List.getElem?_map, h]; rfl
theorem at_int {ns : List Int} {j : Nat} {n : Int} (h : ns[j]? = some n) : atI (ns.map V.int) (j : Int) = some (.int n) := atI_nat (iv_get' h)
/-- an item at an int place -/
theorem at_int' {ns : List Int} {i : Int} (h0 : 0 ≤ i) (h1 : i < ns.length) : atI (ns.map V.int) i = some (.int (ns.getD i.toNat 0)) := by
  have hj : i.toNat < ns.length := by omega
  have e : i = ((i.toNat : Nat) : Int) := by omega
  have e2 : ns[i.toNat]? = some (ns.getD i.toNat 0) := by rw [List.getD_eq_getElem?_getD, List.getElem?_eq_getElem hj]; rfl
  rw [e]
  exact at_int (by rw [Int.toNat_natCast]; exact e2)
theorem at2 {x y i : Int} (h0 : 0 ≤ i) (h1 : i < 2) : atI [V.int x, V.int y] i = some (.int ([x, y].getD i.toNat 0)) := at_int' (ns := [x, y]) h0 h1
theorem at3 {x y z i : Int} (h0 : 0 ≤ i) (h1 : i < 3) : atI [V.int x, V.int y, V.int z] i = some (.int ([x, y, z].getD i.toNat 0)) := at_int' (ns := [x, y, z]) h0 h1
theorem at4 {x y z w i : Int} (h0 : 0 ≤ i) (h1 : i < 4) : atI [V.int x, V.int y, V.int z, V.int w] i = some (.int ([x, y, z, w].getD i.toNat 0)) := at_int' (ns := [x, y, z, w]) h0 h1
theorem at6 {x y z w u v i : Int} (h0 : 0 ≤ i) (h1 : i < 6) : atI [V.int x, V.int y, V.int z, V.int w, V.int u, V.int v] i = some (.int ([x, y, z, w, u, v].getD i.toNat 0)) := at_int' (ns := [x, y, z, w, u, v]) h0 h1
theorem getD4 {x y z w i lo hi : Int} (h0 : 0 ≤ i) (h1 : i < 4) (hx : lo ≤ x ∧ x ≤ hi) (hy : lo ≤ y ∧ y ≤ hi) (hz : lo ≤ z ∧ z ≤ hi) (hw : lo ≤ w ∧ w ≤ hi) : lo ≤ [x, y, z, w].getD i.toNat 0 ∧ [x, y, z, w].getD i.toNat 0 ≤ hi := by
  have h : i = 0 ∨ i = 1 ∨ i = 2 ∨ i = 3 := by omega
  rcases h with rfl | rfl | rfl | rfl
  · exact hx
  · exact hy
  · exact hz
  · exact hw
theorem getD2 {x y i lo hi : Int} (h0 : 0 ≤ i) (h1 : i < 2) (hx : lo ≤ x ∧ x ≤ hi) (hy : lo ≤ y ∧ y ≤ hi) : lo ≤ [x, y].getD i.toNat 0 ∧ [x, y].getD i.toNat 0 ≤ hi := by
  have h : i = 0 ∨ i = 1 := by omega
  rcases h with rfl | rfl
  · exact hx
  · exact hy
theorem getD3 {x y z i lo hi : Int} (h0 : 0 ≤ i) (h1 : i < 3) (hx : lo ≤ x ∧ x ≤ hi) (hy : lo ≤ y ∧ y ≤ hi) (hz : lo ≤ z ∧ z ≤ hi) : lo ≤ [x, y, z].getD i.toNat 0 ∧ [x, y, z].getD i.toNat 0 ≤ hi := by
  have h : i = 0 ∨ i = 1 ∨ i = 2 := by omega
  rcases h with e | e | e <;> subst e
  · exact hx
  · exact hy
  · exact hz
theorem getD6 {x y z w u v i lo hi : Int} (h0 : 0 ≤ i) (h1 : i < 6) (hx : lo ≤ x ∧ x ≤ hi) (hy : lo ≤ y ∧ y ≤ hi) (hz : lo ≤ z ∧ z ≤ hi) (hw : lo ≤ w ∧ w ≤ hi) (hu : lo ≤ u ∧ u ≤ hi) (hv : lo ≤ v ∧ v ≤ hi) : lo ≤ [x, y, z, w, u, v].getD i.toNat 0 ∧ [x, y, z, w, u, v].getD i.toNat 0 ≤ hi := by
  have h : i = 0 ∨ i = 1 ∨ i = 2 ∨ i = 3 ∨ i = 4 ∨ i = 5 := by omega
  rcases h with e | e | e | e | e | e <;> subst e
  · exact hx
  · exact hy
  · exact hz
  · exact hw
  · exact hu
  · exact hv
theorem ixN_of {n : Nat} {i : Int} (h0 : 0 ≤ i) (h1 : i < n) : ixN n i = some i.toNat := by
  unfold ixN
  rw [if_pos h0, if_pos h1]

theorem ixN_iv {ns : List Int} {i : Int} (h0 : 0 ≤ i) (h1 : i < ns.length) : ixN (ns.map V.int).length i = some i.toNat := by
  rw [List.length_map]
  unfold ixN
  rw [if_pos h0, if_pos h1]
theorem upd_snoc {H : Hp} {a : Addr} {ns : List Int} {v : Int} : upd H a (.lst (ns.map V.int ++ [V.int v])) a = some (.lst ((ns ++ [v]).map V.int)) := by
  rw [upd_same, List.map_append]
  rfl
theorem upd_set {H : Hp} {a : Addr} {ns : List Int} {j : Nat} {v : Int} : upd H a (.lst ((ns.map V.int).set j (V.int v))) a = some (.lst ((ns.set j v).map V.int)) := by
  rw [upd_same, List.map_set]
/-- .. against a list without items -/
theorem rEq_intsN {K : PySem.W.Frag} {H : Hp} {a b : Addr} {ns : List Int} {Q : VK} (h1 : SqL K H a (ns.map V.int)) (h2 : SqL K H b []) (q : Q (.bl (decide (ns = []))) H) : rEqD K (.ref a) (.ref b) H Q :=
  rEq_ints (ms := []) h1 h2 q
theorem rNe_intsN {K : PySem.W.Frag} {H : Hp} {a b : Addr} {ns : List Int} {Q : VK} (h1 : SqL K H a (ns.map V.int)) (h2 : SqL K H b []) (q : Q (.bl (!decide (ns = []))) H) : rNeD K (.ref a) (.ref b) H Q :=
  rNe_ints (ms := []) h1 h2 q
/-! ### built-ins of one argument, of two -/
def tB1 (r : List V → Hp → VK → Prop) (te : TE) : TE := fun σ H Q => te σ H fun x H1 => r [x] H1 Q
def tB2 (r : List V → Hp → VK → Prop) (ta tb : TE) : TE := fun σ H Q => ta σ H fun x H1 => tb σ H1 fun y H2 => r [x, y] H2 Q
section
variable {X : Cx} {x : Str} {id T : String} {e f : Expr} {te tf : TE} {r : List V → Hp → VK → Prop} {p pos : Pos}
theorem pe_b1 (hc : CallR X (.builtin id) r) (hg : Gl X x) (hm : X.mg x = none) (hv : bootBuiltins x = some (.builtin id)) (ha : PE X e te) (hn : x ≠ "__name__" := by decide) (hdb : (x == ("__debug__" : Str)) = false := by decide)
    (he : starEach [e] X.env = (false, eval e X.env) :: starEach [] X.env := by rfl) : PE X (.Call (.Name x p) [e] [] pos) (tB1 r te) := pe_callB hc hg hm hv (pa_cons ha pa_nil he) hn hdb he rfl
theorem pe_b2 (hc : CallR X (.builtin id) r) (hg : Gl X x) (hm : X.mg x = none) (hv : bootBuiltins x = some (.builtin id)) (ha : PE X e te) (hb : PE X f tf) (hn : x ≠ "__name__" := by decide) (hdb : (x == ("__debug__" : Str)) = false := by decide)
    (he : starEach [e, f] X.env = (false, eval e X.env) :: starEach [f] X.env := by rfl) (hf : starEach [f] X.env = (false, eval f X.env) :: starEach [] X.env := by rfl) (hpl : (backTo pos (starEach [f] X.env)).any (·.1) = false := by rfl) :
    PE X (.Call (.Name x p) [e, f] [] pos) (tB2 r te tf) := pe_callB hc hg hm hv (pa_cons ha (pa_cons hb pa_nil hf) he) hn hdb he hpl
theorem pe_t1 (hc : CallR X (.type T) r) (hg : Gl X x) (hm : X.mg x = none) (hv : bootBuiltins x = some (.type T)) (ha : PE X e te) (hn : x ≠ "__name__" := by decide) (hdb : (x == ("__debug__" : Str)) = false := by decide)
    (he : starEach [e] X.env = (false, eval e X.env) :: starEach [] X.env := by rfl) : PE X (.Call (.Name x p) [e] [] pos) (tB1 r te) := pe_callTy hc hg hm hv (pa_cons ha pa_nil he) hn hdb he rfl
end
theorem tyL {K : PySem.W.Frag} {H : Hp} {l : Addr} {xs : List V} (h : SqL K H l xs) : tyV K "list" (.ref l) H := Or.inl ⟨rfl, _, h⟩
/-! ### len -/
def rLenI (K : PySem.W.Frag) : List V → Hp → VK → Prop := fun xs H Q => ∃ p ys, xs = [.ref p] ∧ (SqL K H p ys ∨ SqT K H p ys) ∧ Q (.int ys.length) H
theorem call_lenI {X : Cx} : CallR X (.builtin "len") (rLenI X.K) := call_len_seq
theorem len_ints {K : PySem.W.Frag} {H : Hp} {p : Addr} {ns : List Int} {Q : VK} (h : SqL K H p (ns.map V.int)) (q : Q (.int ns.length) H) : rLenI K [.ref p] H Q :=
  ⟨p, _, rfl, Or.inl h, by rw [List.length_map]; exact q⟩
theorem upd_app {H : Hp} {a : Addr} {ns ms : List Int} : upd H a (.lst (ns.map V.int ++ ms.map V.int)) a = some (.lst ((ns ++ ms).map V.int)) := by
  rw [upd_same, List.map_append]
theorem upd_1cat {H : Hp} {a : Addr} {x : Int} {ms : List Int} : upd H a (.lst ([V.int x] ++ ms.map V.int)) a = some (.lst ((x :: ms).map V.int)) := upd_same
theorem rep_iv (k : Nat) (v : Int) : (List.replicate k [V.int v]).flatten = (List.replicate k v).map V.int := by
  induction k with
  | zero => rfl
  | succ k ih => rw [List.replicate_succ, List.flatten_cons, ih, List.replicate_succ, List.map_cons]; rfl
theorem upd_rep {H : Hp} {a : Addr} {ns : List Int} {k : Nat} {v : Int} : upd H a (.lst (ns.map V.int ++ (List.replicate k [V.int v]).flatten)) a = some (.lst ((ns ++ List.replicate k v).map V.int)) := by
  rw [upd_same, rep_iv, List.map_append]
theorem upd_rep0 {H : Hp} {a : Addr} {k : Nat} {v : Int} : upd H a (.lst (List.replicate k [V.int v]).flatten) a = some (.lst ((List.replicate k v).map V.int)) := by
  rw [upd_same, rep_iv]
/-! ### slices -/
theorem sIx_pos (n d : Nat) {m : Int} (h : 0 ≤ m) : HT.sIx n d (some m) = min m.toNat n := by
  show (if m < 0 then (m + (n : Int)).toNat else min m.toNat n) = min m.toNat n
  rw [if_neg (by omega)]
theorem cut_all (xs : List V) : cutV xs none none = xs := by
  unfold cutV
  rw [HT.sIx_none, HT.sIx_none]
  simp
theorem cut_to (xs : List V) {m : Int} (h : 0 ≤ m) : cutV xs none (some m) = xs.take m.toNat := by
  unfold cutV
  rw [HT.sIx_none, sIx_pos _ _ h, List.drop_zero, Nat.sub_zero]
  by_cases hm : m.toNat ≤ xs.length
  · rw [Nat.min_eq_left hm]
  · rw [Nat.min_eq_right (by omega), List.take_of_length_le (Nat.le_refl _), List.take_of_length_le (by omega)]
theorem cut_from (xs : List V) {m : Int} (h : 0 ≤ m) : cutV xs (some m) none = xs.drop m.toNat := by
  unfold cutV
  rw [HT.sIx_none, sIx_pos _ _ h]
  by_cases hm : m.toNat ≤ xs.length
  · rw [Nat.min_eq_left hm, List.take_of_length_le (by rw [List.length_drop]; omega)]
  · rw [Nat.min_eq_right (by omega), List.drop_of_length_le (Nat.le_refl _), List.drop_of_length_le (by omega)]
    simp
theorem cut_mid (xs : List V) {a b : Int} (h : 0 ≤ a) (h2 : 0 ≤ b) : cutV xs (some a) (some b) = (xs.drop a.toNat).take (b.toNat - a.toNat) := by
  unfold cutV
  rw [sIx_pos _ _ h, sIx_pos _ _ h2]
  by_cases ha : a.toNat ≤ xs.length
  · rw [Nat.min_eq_left ha]
    by_cases hb : b.toNat ≤ xs.length
    · rw [Nat.min_eq_left hb]
    · rw [Nat.min_eq_right (by omega), List.take_of_length_le (by rw [List.length_drop]; omega), List.take_of_length_le (by rw [List.length_drop]; omega)]
  · rw [Nat.min_eq_right (a := a.toNat) (by omega), List.drop_of_length_le (Nat.le_refl _), List.drop_of_length_le (by omega)]
    simp
theorem cutI_all (ns : List Int) : cutV (ns.map V.int) none none = ns.map V.int := cut_all _
theorem cutI_to (ns : List Int) {m : Int} (h : 0 ≤ m) : cutV (ns.map V.int) none (some m) = (ns.take m.toNat).map V.int := by rw [cut_to _ h, List.map_take]
theorem cutI_from (ns : List Int) {m : Int} (h : 0 ≤ m) : cutV (ns.map V.int) (some m) none = (ns.drop m.toNat).map V.int := by rw [cut_from _ h, List.map_drop]
theorem cutI_mid (ns : List Int) {a b : Int} (h : 0 ≤ a) (h2 : 0 ≤ b) : cutV (ns.map V.int) (some a) (some b) = ((ns.drop a.toNat).take (b.toNat - a.toNat)).map V.int := by
  rw [cut_mid _ h h2, List.map_take, List.map_drop]

/-! ### pairs made by list(enumerate(..)) -/
theorem NewPairs_of {H H1 H' : Hp} {cs : List (List V)} {p : Addr} {ts : List Addr} (s : Same H H1) (n : UrE.NewPairs H1 cs p ts H') : UrE.NewPairs H cs p ts H' := by
  obtain ⟨a, b, c, d, e⟩ := n
  exact ⟨s.trans a, s.free b, fun t ht => s.free (c t ht), d, e⟩
theorem same_new {H : Hp} {p : Addr} {o : HO} (h : H p = none) : Same H (upd H p o) := fun b u e => by
  rw [upd_ne (ne_of_none e h)]
  exact e
theorem sql_new {K : PySem.W.Frag} {H : Hp} {p b : Addr} {o : HO} {xs : List V} (h : H p = none) (q : SqL K H b xs) : SqL K (upd H p o) b xs := (same_new h).seq q
theorem sql_upd {K : PySem.W.Frag} {H : Hp} {p b : Addr} {o : HO} {xs : List V} (n : b ≠ p) (q : SqL K H b xs) : SqL K (upd H p o) b xs := by
  rcases q with (h | ⟨u, h⟩) | h
  · exact .inl (.inl ((upd_ne n).trans h))
  · exact .inl (.inr ⟨u, (upd_ne n).trans h⟩)
  · exact .inr h
/-- a change at what H0 does not know -/
theorem same_upd {H0 H : Hp} {p : Addr} {o : HO} (s : Same H0 H) (h : H0 p = none) : Same H0 (upd H p o) := fun b u e => by
  rw [upd_ne (ne_of_none e h)]
  exact s b u e
theorem upd_none {H : Hp} {a p : Addr} {o : HO} (h : upd H a o p = none) : H p = none := by
  by_cases e : p = a
  · rw [e, upd_same] at h; cases h
  · rw [upd_ne e] at h; exact h
theorem upd_none_ne {H : Hp} {a p : Addr} {o : HO} (h : upd H a o p = none) : p ≠ a := fun e => by rw [e, upd_same] at h; cases h
theorem upd_cutto {H : Hp} {a : Addr} {ns : List Int} {m : Int} (h : 0 ≤ m) : upd H a (.lst (cutV (ns.map V.int) none (some m))) a = some (.lst ((ns.take m.toNat).map V.int)) := by rw [cutI_to ns h, upd_same]
theorem upd_cutfrom {H : Hp} {a : Addr} {ns : List Int} {m : Int} (h : 0 ≤ m) : upd H a (.lst (cutV (ns.map V.int) (some m) none)) a = some (.lst ((ns.drop m.toNat).map V.int)) := by rw [cutI_from ns h, upd_same]
theorem upd_cutmid {H : Hp} {a : Addr} {ns : List Int} {m k : Int} (h : 0 ≤ m) (h2 : 0 ≤ k) : upd H a (.lst (cutV (ns.map V.int) (some m) (some k))) a = some (.lst (((ns.drop m.toNat).take (k.toNat - m.toNat)).map V.int)) := by rw [cutI_mid ns h h2, upd_same]
theorem upd_cutall {H : Hp} {a : Addr} {ns : List Int} : upd H a (.lst (cutV (ns.map V.int) none none)) a = some (.lst (ns.map V.int)) := by rw [cutI_all ns, upd_same]
end Ur

namespace Ur
open PySem L2 PyProof.Rows PySem.Spec
/-! ### the rules of a block, by the fragment alone -/
def rMax2 : List V → Hp → VK → Prop := fun xs H Q => ∃ i j, xs = [.int i, .int j] ∧ Q (.int (if j > i then j else i)) H
def rMin2 : List V → Hp → VK → Prop := fun xs H Q => ∃ i j, xs = [.int i, .int j] ∧ Q (.int (if j < i then j else i)) H
def rListOf (K : PySem.W.Frag) : List V → Hp → VK → Prop := fun xs H Q => ∃ p ys, xs = [.ref p] ∧ (SqL K H p ys ∨ SqT K H p ys) ∧ ∀ l, H l = none → Q (.ref l) (upd H l (.lst ys))
def rTupOf (K : PySem.W.Frag) : List V → Hp → VK → Prop := fun xs H Q => ∃ p ys, xs = [.ref p] ∧ ((SqL K H p ys ∧ ∀ l, H l = none → Q (.ref l) (upd H l (.tup ys))) ∨ (SqT K H p ys ∧ Q (.ref p) H))
theorem ix_listK {X : Cx} {K : PySem.W.Frag} (hk : X.K = K) : IxR X (rIxL K) := by subst hk; exact L2.ix_list
theorem ix_tupK {X : Cx} {K : PySem.W.Frag} (hk : X.K = K) : IxR X (rIxT K) := by subst hk; exact L2.ix_tup
theorem sl_listK {X : Cx} {K : PySem.W.Frag} (hk : X.K = K) : SlR X (rSlL K) := by subst hk; exact L2.sl_list
theorem sl_tupK {X : Cx} {K : PySem.W.Frag} (hk : X.K = K) : SlR X (rSlT K) := by subst hk; exact L2.sl_tup
theorem op_in_seqK {X : Cx} {K : PySem.W.Frag} (hk : X.K = K) : OpR X (compareOp .In) (rIn K false) := by subst hk; exact L2.op_in_seq
theorem op_notIn_seqK {X : Cx} {K : PySem.W.Frag} (hk : X.K = K) : OpR X (compareOp .NotIn) (rIn K true) := by subst hk; exact L2.op_notIn_seq
theorem call_lenIK {X : Cx} {K : PySem.W.Frag} (hk : X.K = K) : CallR X (.builtin "len") (rLenI K) := by subst hk; exact Ur.call_lenI
theorem call_isiK {X : Cx} {K : PySem.W.Frag} (hk : X.K = K) : CallR X (.builtin "isinstance") (rIsi K) := by subst hk; exact L2.call_isi
theorem cr_maxK {X : Cx} {K : PySem.W.Frag} (hk : X.K = K) (hc : X.calm = true) : CallR X (.builtin "max") (rMax K) := by subst hk; exact L2.cr_max hc
theorem cr_minK {X : Cx} {K : PySem.W.Frag} (hk : X.K = K) (hc : X.calm = true) : CallR X (.builtin "min") (rMin K) := by subst hk; exact L2.cr_min hc
theorem cr_sumK {X : Cx} {K : PySem.W.Frag} (hk : X.K = K) (hc : X.calm = true) : CallR X (.builtin "sum") (rSum K) := by subst hk; exact L2.cr_sum hc
theorem cr_anyK {X : Cx} {K : PySem.W.Frag} (hk : X.K = K) (hc : X.calm = true) : CallR X (.builtin "any") (rAny K) := by subst hk; exact L2.cr_any hc
theorem cr_allK {X : Cx} {K : PySem.W.Frag} (hk : X.K = K) (hc : X.calm = true) : CallR X (.builtin "all") (rAll K) := by subst hk; exact L2.cr_all hc
theorem op_eqDK {X : Cx} {K : PySem.W.Frag} (hk : X.K = K) (hu : X.A.units + 64 < cLine) : OpR X (compareOp .Eq) (rEqD K) := by subst hk; exact L2.op_eqD hu
theorem op_neDK {X : Cx} {K : PySem.W.Frag} (hk : X.K = K) (hu : X.A.units + 64 < cLine) : OpR X (compareOp .NotEq) (rNeD K) := by subst hk; exact L2.op_neD hu
theorem cr_sortedIK {X : Cx} {K : PySem.W.Frag} (hk : X.K = K) : CallR X (.builtin "sorted") (rSortedI K) := by subst hk; exact L2.cr_sortedI
theorem mt_indexK {X : Cx} {K : PySem.W.Frag} (hk : X.K = K) : MtR X "list.index" (rIndex K) := by subst hk; exact L2.mt_index
theorem call_max2K {X : Cx}  (hc : X.calm = true) : CallR X (.builtin "max") rMax2 := by exact L2.call_max2 hc
theorem call_min2K {X : Cx}  (hc : X.calm = true) : CallR X (.builtin "min") rMin2 := by exact L2.call_min2 hc
theorem call_list_ofK {X : Cx} {K : PySem.W.Frag} (hk : X.K = K) : CallR X (.type "list") (rListOf K) := by subst hk; exact L2.call_list_of
theorem call_tuple_ofK {X : Cx} {K : PySem.W.Frag} (hk : X.K = K) : CallR X (.type "tuple") (rTupOf K) := by subst hk; exact L2.call_tuple_of
theorem pe_fldK {X : Cx} {K : PySem.W.Frag} {e : Expr} {f : Str} {pos : Pos} {ta : TE} (hk : X.K = K) (he : PE X e ta) (hb : attributeBase e f X.env (eval e X.env) = eval e X.env) : PE X (.Attribute e f pos) (tFld K ta f) := by subst hk; exact L2.pe_fld he hb
theorem tNilI {σ : L2.St} {H : Hp} {Q : List V → Hp → Prop} (h : Q [] H) : tNil σ H Q := h
theorem tCi {v : V} {σ : L2.St} {H : Hp} {Q : VK} (h : Q v H) : tC v σ H Q := h
/-! bounds of lengths -/
theorem szT {m n : Nat} (h : m ≤ n) (k : n ≤ 1000000) : m ≤ sizeLine := sz (Nat.le_trans h k)
theorem szlT {m n : Nat} (h : m ≤ n) (k : n < 1000000) : m < sizeLine := szl (Nat.lt_of_le_of_lt h k)
theorem lb_map {α β : Type} {f : α → β} {l : List α} {n : Nat} (h : l.length ≤ n) : (l.map f).length ≤ n := by rw [List.length_map]; exact h
theorem lb_filter {α : Type} {f : α → Bool} {l : List α} {n : Nat} (h : l.length ≤ n) : (l.filter f).length ≤ n := Nat.le_trans (List.length_filter_le f l) h
theorem lb_app {α : Type} {l r : List α} {m n : Nat} (h : l.length ≤ m) (k : r.length ≤ n) : (l ++ r).length ≤ m + n := by rw [List.length_append]; exact Nat.add_le_add h k
theorem lb_cons {α : Type} {x : α} {l : List α} {n : Nat} (h : l.length ≤ n) : (x :: l).length ≤ n + 1 := Nat.succ_le_succ h
theorem lb_nil {α : Type} : ([] : List α).length ≤ 0 := Nat.le_refl 0
theorem lb_range {n : Nat} : (List.range n).length ≤ n := by rw [List.length_range]; exact Nat.le_refl n
theorem pos_app {α : Type} {x : α} {l : List α} : 0 < (l ++ [x]).length := by simp
theorem neg_same {α : Type} {x : α} [Decidable (x = x)] {A B : Prop} (h : B) : if (!decide (x = x)) = true then A else B := by
  rw [decide_eq_true rfl]
  exact h
theorem pos_same {α : Type} {x : α} [Decidable (x = x)] {A B : Prop} (h : A) : if decide (x = x) = true then A else B := by
  rw [decide_eq_true rfl]
  exact h
theorem isWN {α β : Type} {P : (Nat → α → β) → Prop} (h : ∃ W, P W) : ∃ W, P W := h
theorem sqlK {K K' : PySem.W.Frag} {H : Hp} {a : Addr} {xs : List V} (h : SqL K H a xs) (e : K = K') : SqL K' H a xs := e ▸ h
end Ur

namespace Ur
open PySem L2 PySem.Spec PyProof.Rows
/-! ### isinstance of known kinds -/
theorem kb_int_int : kitB "int" "int" = some true := by decide +kernel
theorem kb_int_bool : kitB "int" "bool" = some false := by decide +kernel
theorem kb_int_str : kitB "int" "str" = some false := by decide +kernel
theorem kb_int_list : kitB "int" "list" = some false := by decide +kernel
theorem kb_int_tuple : kitB "int" "tuple" = some false := by decide +kernel
theorem kb_int_dict : kitB "int" "dict" = some false := by decide +kernel
theorem kb_bool_int : kitB "bool" "int" = some true := by decide +kernel
theorem kb_bool_bool : kitB "bool" "bool" = some true := by decide +kernel
theorem kb_bool_str : kitB "bool" "str" = some false := by decide +kernel
theorem kb_bool_list : kitB "bool" "list" = some false := by decide +kernel
theorem kb_bool_tuple : kitB "bool" "tuple" = some false := by decide +kernel
theorem kb_bool_dict : kitB "bool" "dict" = some false := by decide +kernel
theorem kb_str_int : kitB "str" "int" = some false := by decide +kernel
theorem kb_str_bool : kitB "str" "bool" = some false := by decide +kernel
theorem kb_str_str : kitB "str" "str" = some true := by decide +kernel
theorem kb_str_list : kitB "str" "list" = some false := by decide +kernel
theorem kb_str_tuple : kitB "str" "tuple" = some false := by decide +kernel
theorem kb_str_dict : kitB "str" "dict" = some false := by decide +kernel
theorem kb_NoneType_int : kitB "NoneType" "int" = some false := by decide +kernel
theorem kb_NoneType_bool : kitB "NoneType" "bool" = some false := by decide +kernel
theorem kb_NoneType_str : kitB "NoneType" "str" = some false := by decide +kernel
theorem kb_NoneType_list : kitB "NoneType" "list" = some false := by decide +kernel
theorem kb_NoneType_tuple : kitB "NoneType" "tuple" = some false := by decide +kernel
theorem kb_NoneType_dict : kitB "NoneType" "dict" = some false := by decide +kernel
theorem kb_list_int : kitB "list" "int" = some false := by decide +kernel
theorem kb_list_bool : kitB "list" "bool" = some false := by decide +kernel
theorem kb_list_str : kitB "list" "str" = some false := by decide +kernel
theorem kb_list_list : kitB "list" "list" = some true := by decide +kernel
theorem kb_list_tuple : kitB "list" "tuple" = some false := by decide +kernel
theorem kb_list_dict : kitB "list" "dict" = some false := by decide +kernel
theorem kb_tuple_int : kitB "tuple" "int" = some false := by decide +kernel
theorem kb_tuple_bool : kitB "tuple" "bool" = some false := by decide +kernel
theorem kb_tuple_str : kitB "tuple" "str" = some false := by decide +kernel
theorem kb_tuple_list : kitB "tuple" "list" = some false := by decide +kernel
theorem kb_tuple_tuple : kitB "tuple" "tuple" = some true := by decide +kernel
theorem kb_tuple_dict : kitB "tuple" "dict" = some false := by decide +kernel
theorem kb_dict_int : kitB "dict" "int" = some false := by decide +kernel
theorem kb_dict_bool : kitB "dict" "bool" = some false := by decide +kernel
theorem kb_dict_str : kitB "dict" "str" = some false := by decide +kernel
theorem kb_dict_list : kitB "dict" "list" = some false := by decide +kernel
theorem kb_dict_tuple : kitB "dict" "tuple" = some false := by decide +kernel
theorem kb_dict_dict : kitB "dict" "dict" = some true := by decide +kernel
theorem isiK {K : PySem.W.Frag} {H : Hp} {x : V} {t T : String} {b : Bool} {Q : VK} (ty : TyX K H x (.type t)) (h : kitB t T = some b) (q : Q (.bl b) H) : rIsi K [x, .ty T] H Q :=
  ⟨x, .ty T, _, _, b, rfl, .ty _, ty, kit_ty h, q⟩
theorem tyx_lst {K : PySem.W.Frag} {H : Hp} {a : Addr} {xs : List V} (h : H a = some (.lst xs)) : TyX K H (.ref a) (.type "list") := .base (.lst h)
theorem tyx_tup {K : PySem.W.Frag} {H : Hp} {a : Addr} {xs : List V} (h : H a = some (.tup xs)) : TyX K H (.ref a) (.type "tuple") := .base (.tup h)
theorem tyx_dK {K : PySem.W.Frag} {H : Hp} {a : Addr} {xs : List (Key × V)} (h : H a = some (.dK xs)) : TyX K H (.ref a) (.type "dict") := .base (.dK h)
theorem tyx_int {K : PySem.W.Frag} {H : Hp} {i : Int} : TyX K H (.int i) (.type "int") := .base (.int i)
theorem tyx_bl {K : PySem.W.Frag} {H : Hp} {b : Bool} : TyX K H (.bl b) (.type "bool") := .base (.bl b)
theorem tyx_str {K : PySem.W.Frag} {H : Hp} {x : Str} : TyX K H (.str x) (.type "str") := .base (.str x)
theorem tyx_non {K : PySem.W.Frag} {H : Hp} : TyX K H .non (.type "NoneType") := .base .non
end Ur

namespace Ur
open PySem L2
/-! ### dicts with int keys -/
theorem isD_of {H : Hp} {a : Addr} {kvs : List (Key × V)} (h : H a = some (.dK kvs)) : IsD H a := Or.inl ⟨kvs, Or.inl h⟩
theorem dget_int {H : Hp} {a : Addr} {kvs : List (Key × V)} {n : Int} (h : H a = some (.dK kvs)) : DGet H a (.int n) (valV kvs (Sum.inl n)) := DGet.k (k := Sum.inl n) h
theorem dget_some {H : Hp} {a : Addr} {kvs : List (Key × V)} {n : Int} {v : V} (h : H a = some (.dK kvs)) (e : valV kvs (Sum.inl n) = some v) : DGet H a (.int n) (some v) := by
  rw [← e]
  exact dget_int h
theorem dput_int {H : Hp} {a : Addr} {kvs : List (Key × V)} {n : Int} {v : V} (h : H a = some (.dK kvs)) (l : kvs.length < sizeLine) : DPut H a (.int n) v (upd H a (.dK (putK kvs (Sum.inl n) v))) := DPut.k (k := Sum.inl n) h l
theorem putK_le (c : List (Key × V)) (k : Key) (x : V) : (putK c k x).length ≤ c.length + 1 := by
  unfold putK
  split
  · rw [List.length_map]; omega
  · rw [List.length_append]; exact Nat.le_refl _
theorem val_put (kvs : List (Key × V)) (k j : Int) (y : V) : valV (putK kvs (Sum.inl k) y) (Sum.inl j) = if j = k then some y else valV kvs (Sum.inl j) := by
  rw [valV_put]
  by_cases h : j = k
  · rw [if_pos h, if_pos (by rw [h])]
  · rw [if_neg h, if_neg (fun e => h (Sum.inl.inj e))]

/-! ### loops -/
section
variable {K : PySem.W.Frag} {a b : Addr} {xs ys : List V} {ns : List Int} {tb : TS} {D : Ends} {σ : L2.St} {H : Hp} {ti tv : Nat}
/-- for i, x in enumerate(list) -/
theorem for_enum (Pv : Nat → L2.St → Hp → Prop) (h0 : Pv 0 σ H) (hl : ∀ i σ H, i ≤ xs.length → Pv i σ H → SqL K H a xs)
    (hs : ∀ i x σ H H', xs[i]? = some x → Pv i σ H → Same H H' → tb { D with nx := Pv (i + 1), ct := Pv (i + 1), bk := D.nx } ((σ.set ti (some (.int (i : Nat)))).set tv (some x)) H') (hd : ∀ σ H, Pv xs.length σ H → D.nx σ H) :
    ∃ W : Nat → Nat → L2.St → Hp → Prop, (∃ m, W 0 m σ H) ∧ ∀ i m σ H, W i m σ H →
      ((Ite K a).stop i H ∧ D.nx σ H) ∨ ((Ite K a).go i H ∧ ∃ N : L2.St → Hp → Prop, (∀ σ' H', N σ' H' → ∃ m', m' < m ∧ W (i + 1) m' σ' H') ∧ ∀ x H', (Ite K a).yld i H x H' → gTup K 2 (gCons (gName ti) (gCons (gName tv) gNil)) x σ H' fun σ2 H2 => tb { D with nx := N, ct := N, bk := D.nx } σ2 H2) :=
  for_it (walk_enum (K := K) (a := a) (xs := xs)) Pv h0 hl (fun i v σ H H' hi p y => by
    obtain ⟨T, x, z, rfl, hT, rfl, hx, hz⟩ := y
    have hx' : some (V.int (i : Nat)) = some x := hx
    cases hx'
    have hz' : xs[i]? = some z := hz
    refine ⟨T, [.int (i : Nat), z], rfl, SqT.of upd_same, rfl, _, _, rfl, _, _, rfl, rfl, ?_⟩
    exact hs i z σ H _ hz' p (same_new hT)) hd
/-- for n in a list of ints -/
theorem for_ints (Pv : Nat → L2.St → Hp → Prop) (h0 : Pv 0 σ H) (hl : ∀ i σ H, i ≤ ns.length → Pv i σ H → SqL K H a (ns.map V.int))
    (hs : ∀ i n σ H, ns[i]? = some n → Pv i σ H → tb { D with nx := Pv (i + 1), ct := Pv (i + 1), bk := D.nx } (σ.set tv (some (.int n))) H) (hd : ∀ σ H, Pv ns.length σ H → D.nx σ H) :
    ∃ W : Nat → Nat → L2.St → Hp → Prop, (∃ m, W 0 m σ H) ∧ ∀ i m σ H, W i m σ H →
      ((Itl K a).stop i H ∧ D.nx σ H) ∨ ((Itl K a).go i H ∧ ∃ N : L2.St → Hp → Prop, (∀ σ' H', N σ' H' → ∃ m', m' < m ∧ W (i + 1) m' σ' H') ∧ ∀ x H', (Itl K a).yld i H x H' → gName tv x σ H' fun σ2 H2 => tb { D with nx := N, ct := N, bk := D.nx } σ2 H2) :=
  for_list (xs := ns.map V.int) Pv h0 (fun i σ H hi p => hl i σ H (by rw [List.length_map] at hi; exact hi) p) (fun i x σ H hx p => by
    obtain ⟨n, hn, rfl⟩ := iv_get hx
    exact hs i n σ H hn p) (fun σ H p => hd σ H (by rw [List.length_map] at p; exact p))
/-- while, the test's answer told; Pv by a measure -/
theorem while_ans {c : TT} (Pv : Nat → L2.St → Hp → Prop) (m0 : Nat) (h0 : Pv m0 σ H)
    (hs : ∀ m σ H, Pv m σ H → ∃ b, (∀ Q : Bool → Hp → Prop, Q b H → c σ H Q) ∧
      (b = true → tb { D with nx := fun σ' H' => ∃ m', m' < m ∧ Pv m' σ' H', ct := fun σ' H' => ∃ m', m' < m ∧ Pv m' σ' H', bk := D.nx } σ H) ∧ (b = false → D.nx σ H)) : tWhile c tb D σ H := by
  refine ⟨Pv, ⟨m0, h0⟩, fun m σ H p => ?_⟩
  obtain ⟨b, hb, h1, h2⟩ := hs m σ H p
  refine hb _ ?_
  cases b with
  | true => exact (if_pos rfl).mpr ⟨_, fun _ _ n => n, h1 rfl⟩
  | false => exact (if_neg Bool.false_ne_true).mpr (h2 rfl)
end

/-! ### comprehensions -/
section
variable {K : PySem.W.Frag} {a : Addr} {xs : List V} {ns : List Int} {σ : L2.St} {H1 : Hp} {Dl : Addr} {te : TE} {tt : TT} {vs : List Nat} {j : Nat} {lo : Int} {n : Nat} {Qd : Hp → Prop}
theorem tyes_ok {σ : L2.St} {H : Hp} {A B : Hp → Prop} (h : A H) : tYes σ H (fun b H3 => if b = true then A H3 else B H3) := by
  show (if true = true then A H else B H)
  rw [if_pos rfl]
  exact h
/-- [e for k in range(..)], e a value that leaves all as it was -/
theorem lc_rng (f : Nat → V) (hn : n ≤ 1000000) (hD : H1 Dl = none) (hw : ∀ x, wipe ((wipe σ vs).set j (some x)) vs = wipe σ vs)
    (he : ∀ (k : Nat) H', k < n → Same H1 H' → ∀ Q' : VK, (∀ H4, Same H' H4 → Q' (f k) H4) → te ((wipe σ vs).set j (some (.int (lo + (k : Nat))))) H' Q')
    (hd : ∀ H', Same H1 H' → H' Dl = some (.lst ((List.range n).map f)) → Qd H') :
    ∃ W : Nat → Nat → Hp → Prop, (∃ m, W 0 m (upd H1 Dl (.lst []))) ∧ ∀ i m H, W i m H →
      ((Itr lo n).stop i H ∧ Qd H) ∨ ((Itr lo n).go i H ∧ ∃ Nx : Hp → Prop, (∀ H', Nx H' → ∃ m', m' < m ∧ W (i + 1) m' H') ∧ ∀ x H', (Itr lo n).yld i H x H' → gName j x (wipe σ vs) H' fun σ2 H2 => wipe σ2 vs = wipe σ vs ∧ tYes σ2 H2 fun b H3 =>
        if b = true then te σ2 H3 fun y H4 => ∃ acc, H4 Dl = some (.lst acc) ∧ acc.length < sizeLine ∧ Nx (upd H4 Dl (.lst (acc ++ [y]))) else Nx H3) := by
  refine lc_range (lo := lo) (n := n) (fun i H' => Same H1 H' ∧ H' Dl = some (.lst ((List.range i).map f))) ⟨same_new hD, upd_same⟩ (fun i H' hi p => ?_) (fun H' p => hd H' p.1 p.2)
  refine ⟨hw _, ?_⟩
  refine tyes_ok ?_
  refine he i H' hi p.1 _ fun H4 s => ⟨_, s _ _ p.2, szl (by rw [List.length_map, List.length_range]; omega), same_upd' hD (p.1.trans s), ?_⟩
  rw [upd_same, List.range_succ, List.map_append]
  rfl
/-- [e for x in a list of ints] -/
theorem lc_ints (f : Int → V) (hn : ns.length ≤ 1000000) (ha : SqL K H1 a (ns.map V.int)) (hD : H1 Dl = none) (hw : ∀ x, wipe ((wipe σ vs).set j (some x)) vs = wipe σ vs)
    (he : ∀ (x : Int) H', x ∈ ns → Same H1 H' → ∀ Q' : VK, (∀ H4, Same H' H4 → Q' (f x) H4) → te ((wipe σ vs).set j (some (.int x))) H' Q')
    (hd : ∀ H', Same H1 H' → H' Dl = some (.lst (ns.map f)) → Qd H') :
    ∃ W : Nat → Nat → Hp → Prop, (∃ m, W 0 m (upd H1 Dl (.lst []))) ∧ ∀ i m H, W i m H →
      ((Itl K a).stop i H ∧ Qd H) ∨ ((Itl K a).go i H ∧ ∃ Nx : Hp → Prop, (∀ H', Nx H' → ∃ m', m' < m ∧ W (i + 1) m' H') ∧ ∀ x H', (Itl K a).yld i H x H' → gName j x (wipe σ vs) H' fun σ2 H2 => wipe σ2 vs = wipe σ vs ∧ tYes σ2 H2 fun b H3 =>
        if b = true then te σ2 H3 fun y H4 => ∃ acc, H4 Dl = some (.lst acc) ∧ acc.length < sizeLine ∧ Nx (upd H4 Dl (.lst (acc ++ [y]))) else Nx H3) := by
  refine lc_list (K := K) (a := a) (xs := ns.map V.int) (fun i H' => Same H1 H' ∧ H' Dl = some (.lst ((ns.take i).map f))) ⟨same_new hD, upd_same⟩ (fun i H' _ p => p.1.seq ha) (fun i x H' hx p => ?_) (fun H' p => ?_)
  · obtain ⟨z, hz, rfl⟩ := iv_get hx
    have hi := (List.getElem?_eq_some_iff.mp hz).1
    refine ⟨hw _, ?_⟩
    refine tyes_ok ?_
    refine he z H' (List.mem_of_getElem? hz) p.1 _ fun H4 s => ⟨_, s _ _ p.2, szl (by rw [List.length_map, List.length_take]; omega), same_upd' hD (p.1.trans s), ?_⟩
    rw [upd_same, List.take_add_one, hz, List.map_append]
    rfl
  · have h2 := p.2
    rw [List.length_map, List.take_length] at h2
    exact hd H' p.1 h2
/-- [e for k in range(..) if t] -/
theorem lc_rngIf (t : Nat → Bool) (f : Nat → V) (hn : n ≤ 1000000) (hD : H1 Dl = none) (hw : ∀ x, wipe ((wipe σ vs).set j (some x)) vs = wipe σ vs)
    (ht : ∀ (k : Nat) H', k < n → Same H1 H' → ∀ Q' : Bool → Hp → Prop, (∀ H4, Same H' H4 → Q' (t k) H4) → tt ((wipe σ vs).set j (some (.int (lo + (k : Nat))))) H' Q')
    (he : ∀ (k : Nat) H', k < n → t k = true → Same H1 H' → ∀ Q' : VK, (∀ H4, Same H' H4 → Q' (f k) H4) → te ((wipe σ vs).set j (some (.int (lo + (k : Nat))))) H' Q')
    (hd : ∀ H', Same H1 H' → H' Dl = some (.lst (((List.range n).filter t).map f)) → Qd H') :
    ∃ W : Nat → Nat → Hp → Prop, (∃ m, W 0 m (upd H1 Dl (.lst []))) ∧ ∀ i m H, W i m H →
      ((Itr lo n).stop i H ∧ Qd H) ∨ ((Itr lo n).go i H ∧ ∃ Nx : Hp → Prop, (∀ H', Nx H' → ∃ m', m' < m ∧ W (i + 1) m' H') ∧ ∀ x H', (Itr lo n).yld i H x H' → gName j x (wipe σ vs) H' fun σ2 H2 => wipe σ2 vs = wipe σ vs ∧ tt σ2 H2 fun b H3 =>
        if b = true then te σ2 H3 fun y H4 => ∃ acc, H4 Dl = some (.lst acc) ∧ acc.length < sizeLine ∧ Nx (upd H4 Dl (.lst (acc ++ [y]))) else Nx H3) := by
  refine lc_range (lo := lo) (n := n) (fun i H' => Same H1 H' ∧ H' Dl = some (.lst (((List.range i).filter t).map f))) ⟨same_new hD, upd_same⟩ (fun i H' hi p => ?_) (fun H' p => hd H' p.1 p.2)
  refine ⟨hw _, ?_⟩
  refine ht i H' hi p.1 _ fun H3 s3 => ?_
  cases hb : t i with
  | true =>
    refine (if_pos rfl).mpr ?_
    refine he i H3 hi hb (p.1.trans s3) _ fun H4 s => ⟨_, s _ _ (s3 _ _ p.2), szl ?_, same_upd' hD ((p.1.trans s3).trans s), ?_⟩
    · have := List.length_filter_le t (List.range i)
      rw [List.length_range] at this
      rw [List.length_map]; omega
    rw [upd_same, List.range_succ, List.filter_append, List.map_append, List.filter_cons, if_pos hb]
    rfl
  | false =>
    refine (if_neg Bool.false_ne_true).mpr ⟨p.1.trans s3, ?_⟩
    rw [List.range_succ, List.filter_append, List.map_append, List.filter_cons, if_neg (by rw [hb]; exact Bool.false_ne_true)]
    simpa using s3 _ _ p.2
/-- [e for x in a list of ints if t] -/
theorem lc_intsIf (t : Int → Bool) (f : Int → V) (hn : ns.length ≤ 1000000) (ha : SqL K H1 a (ns.map V.int)) (hD : H1 Dl = none) (hw : ∀ x, wipe ((wipe σ vs).set j (some x)) vs = wipe σ vs)
    (ht : ∀ (x : Int) H', x ∈ ns → Same H1 H' → ∀ Q' : Bool → Hp → Prop, (∀ H4, Same H' H4 → Q' (t x) H4) → tt ((wipe σ vs).set j (some (.int x))) H' Q')
    (he : ∀ (x : Int) H', x ∈ ns → t x = true → Same H1 H' → ∀ Q' : VK, (∀ H4, Same H' H4 → Q' (f x) H4) → te ((wipe σ vs).set j (some (.int x))) H' Q')
    (hd : ∀ H', Same H1 H' → H' Dl = some (.lst ((ns.filter t).map f)) → Qd H') :
    ∃ W : Nat → Nat → Hp → Prop, (∃ m, W 0 m (upd H1 Dl (.lst []))) ∧ ∀ i m H, W i m H →
      ((Itl K a).stop i H ∧ Qd H) ∨ ((Itl K a).go i H ∧ ∃ Nx : Hp → Prop, (∀ H', Nx H' → ∃ m', m' < m ∧ W (i + 1) m' H') ∧ ∀ x H', (Itl K a).yld i H x H' → gName j x (wipe σ vs) H' fun σ2 H2 => wipe σ2 vs = wipe σ vs ∧ tt σ2 H2 fun b H3 =>
        if b = true then te σ2 H3 fun y H4 => ∃ acc, H4 Dl = some (.lst acc) ∧ acc.length < sizeLine ∧ Nx (upd H4 Dl (.lst (acc ++ [y]))) else Nx H3) := by
  refine lc_list (K := K) (a := a) (xs := ns.map V.int) (fun i H' => Same H1 H' ∧ H' Dl = some (.lst (((ns.take i).filter t).map f))) ⟨same_new hD, upd_same⟩ (fun i H' _ p => p.1.seq ha) (fun i x H' hx p => ?_) (fun H' p => ?_)
  · obtain ⟨z, hz, rfl⟩ := iv_get hx
    have hi := (List.getElem?_eq_some_iff.mp hz).1
    have hm := List.mem_of_getElem? hz
    refine ⟨hw _, ?_⟩
    refine ht z H' hm p.1 _ fun H3 s3 => ?_
    have e1 : ns.take (i + 1) = ns.take i ++ [z] := by rw [List.take_add_one, hz]; rfl
    cases hb : t z with
    | true =>
      refine (if_pos rfl).mpr ?_
      refine he z H3 hm hb (p.1.trans s3) _ fun H4 s => ⟨_, s _ _ (s3 _ _ p.2), szl ?_, same_upd' hD ((p.1.trans s3).trans s), ?_⟩
      · have := List.length_filter_le t (ns.take i)
        rw [List.length_take] at this
        rw [List.length_map]; omega
      rw [upd_same, e1, List.filter_append, List.map_append, List.filter_cons, if_pos hb]
      rfl
    | false =>
      refine (if_neg Bool.false_ne_true).mpr ⟨p.1.trans s3, ?_⟩
      rw [e1, List.filter_append, List.map_append, List.filter_cons, if_neg (by rw [hb]; exact Bool.false_ne_true)]
      simpa using s3 _ _ p.2
  · have h2 := p.2
    rw [List.length_map, List.take_length] at h2
    exact hd H' p.1 h2
/-- [e for x in a list if t], t never -/
theorem lc_none (ha : SqL K H1 a xs) (hD : H1 Dl = none) (hw : ∀ x, wipe ((wipe σ vs).set j (some x)) vs = wipe σ vs)
    (ht : ∀ (x : V) H', x ∈ xs → Same H1 H' → ∀ Q' : Bool → Hp → Prop, (∀ H4, Same H' H4 → Q' false H4) → tt ((wipe σ vs).set j (some x)) H' Q')
    (hd : ∀ H', Same H1 H' → H' Dl = some (.lst []) → Qd H') :
    ∃ W : Nat → Nat → Hp → Prop, (∃ m, W 0 m (upd H1 Dl (.lst []))) ∧ ∀ i m H, W i m H →
      ((Itl K a).stop i H ∧ Qd H) ∨ ((Itl K a).go i H ∧ ∃ Nx : Hp → Prop, (∀ H', Nx H' → ∃ m', m' < m ∧ W (i + 1) m' H') ∧ ∀ x H', (Itl K a).yld i H x H' → gName j x (wipe σ vs) H' fun σ2 H2 => wipe σ2 vs = wipe σ vs ∧ tt σ2 H2 fun b H3 =>
        if b = true then te σ2 H3 fun y H4 => ∃ acc, H4 Dl = some (.lst acc) ∧ acc.length < sizeLine ∧ Nx (upd H4 Dl (.lst (acc ++ [y]))) else Nx H3) := by
  refine lc_list (K := K) (a := a) (xs := xs) (fun _ H' => Same H1 H' ∧ H' Dl = some (.lst [])) ⟨same_new hD, upd_same⟩ (fun i H' _ p => p.1.seq ha) (fun i x H' hx p => ?_) (fun H' p => hd H' p.1 p.2)
  refine ⟨hw _, ?_⟩
  refine ht x H' (List.mem_of_getElem? hx) p.1 _ fun H3 s3 => ?_
  exact (if_neg Bool.false_ne_true).mpr ⟨p.1.trans s3, s3 _ _ p.2⟩
end
/-! the same, the items ints -/
section
variable {K : PySem.W.Frag} {a : Addr} {xs : List V} {ns : List Int} {σ : L2.St} {H1 : Hp} {Dl : Addr} {te : TE} {tt : TT} {vs : List Nat} {j : Nat} {lo : Int} {n : Nat} {Qd : Hp → Prop}
theorem lc_rngI (f : Nat → Int) (hn : n ≤ 1000000) (hD : H1 Dl = none) (hw : ∀ x, wipe ((wipe σ vs).set j (some x)) vs = wipe σ vs)
    (he : ∀ (k : Nat) H', k < n → Same H1 H' → ∀ Q' : VK, (∀ H4, Same H' H4 → Q' (.int (f k)) H4) → te ((wipe σ vs).set j (some (.int (lo + (k : Nat))))) H' Q')
    (hd : ∀ H', Same H1 H' → H' Dl = some (.lst (((List.range n).map f).map V.int)) → Qd H') :
    ∃ W : Nat → Nat → Hp → Prop, (∃ m, W 0 m (upd H1 Dl (.lst []))) ∧ ∀ i m H, W i m H →
      ((Itr lo n).stop i H ∧ Qd H) ∨ ((Itr lo n).go i H ∧ ∃ Nx : Hp → Prop, (∀ H', Nx H' → ∃ m', m' < m ∧ W (i + 1) m' H') ∧ ∀ x H', (Itr lo n).yld i H x H' → gName j x (wipe σ vs) H' fun σ2 H2 => wipe σ2 vs = wipe σ vs ∧ tYes σ2 H2 fun b H3 =>
        if b = true then te σ2 H3 fun y H4 => ∃ acc, H4 Dl = some (.lst acc) ∧ acc.length < sizeLine ∧ Nx (upd H4 Dl (.lst (acc ++ [y]))) else Nx H3) :=
  lc_rng (fun k => V.int (f k)) hn hD hw he fun H' s e => hd H' s (by rw [e, List.map_map]; rfl)
theorem lc_intsI (f : Int → Int) (hn : ns.length ≤ 1000000) (ha : SqL K H1 a (ns.map V.int)) (hD : H1 Dl = none) (hw : ∀ x, wipe ((wipe σ vs).set j (some x)) vs = wipe σ vs)
    (he : ∀ (x : Int) H', x ∈ ns → Same H1 H' → ∀ Q' : VK, (∀ H4, Same H' H4 → Q' (.int (f x)) H4) → te ((wipe σ vs).set j (some (.int x))) H' Q')
    (hd : ∀ H', Same H1 H' → H' Dl = some (.lst ((ns.map f).map V.int)) → Qd H') :
    ∃ W : Nat → Nat → Hp → Prop, (∃ m, W 0 m (upd H1 Dl (.lst []))) ∧ ∀ i m H, W i m H →
      ((Itl K a).stop i H ∧ Qd H) ∨ ((Itl K a).go i H ∧ ∃ Nx : Hp → Prop, (∀ H', Nx H' → ∃ m', m' < m ∧ W (i + 1) m' H') ∧ ∀ x H', (Itl K a).yld i H x H' → gName j x (wipe σ vs) H' fun σ2 H2 => wipe σ2 vs = wipe σ vs ∧ tYes σ2 H2 fun b H3 =>
        if b = true then te σ2 H3 fun y H4 => ∃ acc, H4 Dl = some (.lst acc) ∧ acc.length < sizeLine ∧ Nx (upd H4 Dl (.lst (acc ++ [y]))) else Nx H3) :=
  lc_ints (fun k => V.int (f k)) hn ha hD hw he fun H' s e => hd H' s (by rw [e, List.map_map]; rfl)
theorem lc_rngIfI (t : Nat → Bool) (f : Nat → Int) (hn : n ≤ 1000000) (hD : H1 Dl = none) (hw : ∀ x, wipe ((wipe σ vs).set j (some x)) vs = wipe σ vs)
    (ht : ∀ (k : Nat) H', k < n → Same H1 H' → ∀ Q' : Bool → Hp → Prop, (∀ H4, Same H' H4 → Q' (t k) H4) → tt ((wipe σ vs).set j (some (.int (lo + (k : Nat))))) H' Q')
    (he : ∀ (k : Nat) H', k < n → t k = true → Same H1 H' → ∀ Q' : VK, (∀ H4, Same H' H4 → Q' (.int (f k)) H4) → te ((wipe σ vs).set j (some (.int (lo + (k : Nat))))) H' Q')
    (hd : ∀ H', Same H1 H' → H' Dl = some (.lst ((((List.range n).filter t).map f).map V.int)) → Qd H') :
    ∃ W : Nat → Nat → Hp → Prop, (∃ m, W 0 m (upd H1 Dl (.lst []))) ∧ ∀ i m H, W i m H →
      ((Itr lo n).stop i H ∧ Qd H) ∨ ((Itr lo n).go i H ∧ ∃ Nx : Hp → Prop, (∀ H', Nx H' → ∃ m', m' < m ∧ W (i + 1) m' H') ∧ ∀ x H', (Itr lo n).yld i H x H' → gName j x (wipe σ vs) H' fun σ2 H2 => wipe σ2 vs = wipe σ vs ∧ tt σ2 H2 fun b H3 =>
        if b = true then te σ2 H3 fun y H4 => ∃ acc, H4 Dl = some (.lst acc) ∧ acc.length < sizeLine ∧ Nx (upd H4 Dl (.lst (acc ++ [y]))) else Nx H3) :=
  lc_rngIf t (fun k => V.int (f k)) hn hD hw ht he fun H' s e => hd H' s (by rw [e, List.map_map]; rfl)
theorem lc_intsIfI (t : Int → Bool) (f : Int → Int) (hn : ns.length ≤ 1000000) (ha : SqL K H1 a (ns.map V.int)) (hD : H1 Dl = none) (hw : ∀ x, wipe ((wipe σ vs).set j (some x)) vs = wipe σ vs)
    (ht : ∀ (x : Int) H', x ∈ ns → Same H1 H' → ∀ Q' : Bool → Hp → Prop, (∀ H4, Same H' H4 → Q' (t x) H4) → tt ((wipe σ vs).set j (some (.int x))) H' Q')
    (he : ∀ (x : Int) H', x ∈ ns → t x = true → Same H1 H' → ∀ Q' : VK, (∀ H4, Same H' H4 → Q' (.int (f x)) H4) → te ((wipe σ vs).set j (some (.int x))) H' Q')
    (hd : ∀ H', Same H1 H' → H' Dl = some (.lst (((ns.filter t).map f).map V.int)) → Qd H') :
    ∃ W : Nat → Nat → Hp → Prop, (∃ m, W 0 m (upd H1 Dl (.lst []))) ∧ ∀ i m H, W i m H →
      ((Itl K a).stop i H ∧ Qd H) ∨ ((Itl K a).go i H ∧ ∃ Nx : Hp → Prop, (∀ H', Nx H' → ∃ m', m' < m ∧ W (i + 1) m' H') ∧ ∀ x H', (Itl K a).yld i H x H' → gName j x (wipe σ vs) H' fun σ2 H2 => wipe σ2 vs = wipe σ vs ∧ tt σ2 H2 fun b H3 =>
        if b = true then te σ2 H3 fun y H4 => ∃ acc, H4 Dl = some (.lst acc) ∧ acc.length < sizeLine ∧ Nx (upd H4 Dl (.lst (acc ++ [y]))) else Nx H3) :=
  lc_intsIf t (fun k => V.int (f k)) hn ha hD hw ht he fun H' s e => hd H' s (by rw [e, List.map_map]; rfl)
end
/-! the same, a state at a changing with each item: S tells what it may be, R the items -/
section
variable {K : PySem.W.Frag} {a st : Addr} {xs : List V} {ns : List Int} {σ : L2.St} {H1 : Hp} {Dl : Addr} {te : TE} {tt : TT} {vs : List Nat} {j : Nat} {lo : Int} {n : Nat} {Qd : Hp → Prop}
theorem lc_rngS (S : HO → Prop) (R : Int → Prop) {o1 : HO} (ha : H1 st = some o1) (hS : S o1) (hn : n ≤ 1000000) (hD : H1 Dl = none) (hw : ∀ x, wipe ((wipe σ vs).set j (some x)) vs = wipe σ vs)
    (he : ∀ (k : Nat) H' o, k < n → But st H1 H' → H' st = some o → S o → ∀ Q' : VK, (∀ v H4 o4, R v → But st H' H4 → H4 st = some o4 → S o4 → Q' (.int v) H4) → te ((wipe σ vs).set j (some (.int (lo + (k : Nat))))) H' Q')
    (hd : ∀ H' (ms : List Int) o, ms.length = n → (∀ x ∈ ms, R x) → But st H1 H' → H' Dl = some (.lst (ms.map V.int)) → H' st = some o → S o → Qd H') :
    ∃ W : Nat → Nat → Hp → Prop, (∃ m, W 0 m (upd H1 Dl (.lst []))) ∧ ∀ i m H, W i m H →
      ((Itr lo n).stop i H ∧ Qd H) ∨ ((Itr lo n).go i H ∧ ∃ Nx : Hp → Prop, (∀ H', Nx H' → ∃ m', m' < m ∧ W (i + 1) m' H') ∧ ∀ x H', (Itr lo n).yld i H x H' → gName j x (wipe σ vs) H' fun σ2 H2 => wipe σ2 vs = wipe σ vs ∧ tYes σ2 H2 fun b H3 =>
        if b = true then te σ2 H3 fun y H4 => ∃ acc, H4 Dl = some (.lst acc) ∧ acc.length < sizeLine ∧ Nx (upd H4 Dl (.lst (acc ++ [y]))) else Nx H3) := by
  have hne : Dl ≠ st := (ne_of_none ha hD).symm
  refine lc_range (lo := lo) (n := n) (fun i H' => ∃ (ms : List Int) (o : HO), H' Dl = some (.lst (ms.map V.int)) ∧ H' st = some o ∧ S o ∧ But st H1 H' ∧ ms.length = i ∧ ∀ x ∈ ms, R x)
    ⟨[], o1, upd_same, (upd_ne hne.symm).trans ha, hS, but_snoc hD but_refl, rfl, fun _ h => by cases h⟩ (fun i H' hi p => ?_) (fun H' p => ?_)
  · obtain ⟨ms, o, e1, e2, e3, e4, e5, e6⟩ := p
    refine ⟨hw _, ?_⟩
    refine tyes_ok ?_
    refine he i H' o hi e4 e2 e3 _ fun v H4 o4 rv b4 s4 z4 => ⟨_, b4 _ _ hne e1, szl (by rw [List.length_map]; omega), ms ++ [v], o4, upd_snoc, (upd_ne hne.symm).trans s4, z4, but_upd hD (but_step b4 e4), by rw [List.length_append, e5]; rfl, fun x hx => ?_⟩
    rcases List.mem_append.mp hx with h | h
    · exact e6 x h
    · rw [List.mem_singleton.mp h]; exact rv
  · obtain ⟨ms, o, e1, e2, e3, e4, e5, e6⟩ := p
    exact hd H' ms o e5 e6 e4 e1 e2 e3
end
end Ur

namespace Ur
open PySem L2
structure HandOk (d m : Int) : Prop where
  d0 : 0 ≤ d
  m0 : 0 ≤ m
  m1 : m < 2147483587
end Ur

namespace Ur
open PySem L2
/-! ### last and next places: the plain functions -/
/-- the greatest place below i with the number x, or -1 -/
def lastAt (ns : List Int) : Nat → Int → Int
  | 0, _ => -1
  | i + 1, x => if ns.getD i 0 = x then (i : Int) else lastAt ns i x
def lastP (ns : List Int) : List Int := (List.range ns.length).map fun k => lastAt ns k (ns.getD k 0)
theorem lastP_len (ns : List Int) : (lastP ns).length = ns.length := by simp [lastP]
theorem lastP_get {ns : List Int} {k : Nat} (h : k < ns.length) : (lastP ns)[k]? = some (lastAt ns k (ns.getD k 0)) := by
  unfold lastP
  rw [List.getElem?_map, List.getElem?_range h]
  rfl
theorem lastP_take {ns : List Int} {i : Nat} (h : i < ns.length) : (lastP ns).take (i + 1) = (lastP ns).take i ++ [lastAt ns i (ns.getD i 0)] := by
  rw [List.take_add_one, lastP_get h]
  rfl
theorem lastAt_spec (ns : List Int) (x : Int) : ∀ i : Nat, (lastAt ns i x = -1 ∧ ∀ j, j < i → ns.getD j 0 ≠ x) ∨ ∃ v : Nat, lastAt ns i x = v ∧ v < i ∧ ns.getD v 0 = x ∧ ∀ j, v < j → j < i → ns.getD j 0 ≠ x
  | 0 => Or.inl ⟨rfl, fun _ h => absurd h (Nat.not_lt_zero _)⟩
  | i + 1 => by
    by_cases h : ns.getD i 0 = x
    · refine Or.inr ⟨i, ?_, Nat.lt_succ_self _, h, fun j h1 h2 => by omega⟩
      show (if ns.getD i 0 = x then (i : Int) else lastAt ns i x) = i
      rw [if_pos h]
    · have e : lastAt ns (i + 1) x = lastAt ns i x := by
        show (if ns.getD i 0 = x then (i : Int) else lastAt ns i x) = _
        rw [if_neg h]
      rcases lastAt_spec ns x i with ⟨h1, h2⟩ | ⟨v, h1, h2, h3, h4⟩
      · refine Or.inl ⟨e.trans h1, fun j hj => ?_⟩
        by_cases hji : j = i
        · rw [hji]; exact h
        · exact h2 j (by omega)
      · refine Or.inr ⟨v, e.trans h1, by omega, h3, fun j hj1 hj2 => ?_⟩
        by_cases hji : j = i
        · rw [hji]; exact h
        · exact h4 j hj1 (by omega)
theorem lastAt_range (ns : List Int) (x : Int) (i : Nat) : -1 ≤ lastAt ns i x ∧ lastAt ns i x < i := by
  rcases lastAt_spec ns x i with ⟨h1, _⟩ | ⟨v, h1, h2, _⟩ <;> omega
/-- what is it and nothing greater -/
theorem lastAt_uniq {ns : List Int} {x : Int} {i : Nat} {m : Int} (h1 : m = -1 ∨ ∃ v : Nat, m = v ∧ v < i ∧ ns.getD v 0 = x) (h2 : ∀ j : Nat, j < i → ns.getD j 0 = x → (j : Int) ≤ m) : lastAt ns i x = m := by
  rcases lastAt_spec ns x i with ⟨a1, a2⟩ | ⟨v, a1, a2, a3, a4⟩
  · rcases h1 with e | ⟨v, e, hv, hx⟩
    · omega
    · exact absurd hx (a2 v hv)
  · have q := h2 v a2 a3
    rcases h1 with e | ⟨u, e, hu, hx⟩
    · omega
    · by_cases huv : v < u
      · exact absurd hx (a4 u huv hu)
      · omega
/-- the least place above k, below i, with k's number, or the length -/
def nextUp (ns : List Int) (k : Nat) : Nat → Int
  | 0 => ns.length
  | i + 1 => if nextUp ns k i < ns.length then nextUp ns k i else if k < i ∧ ns.getD i 0 = ns.getD k 0 then (i : Int) else ns.length
def nextP (ns : List Int) : List Int := (List.range ns.length).map fun k => nextUp ns k ns.length
theorem nextP_len (ns : List Int) : (nextP ns).length = ns.length := by simp [nextP]
theorem nextP_get {ns : List Int} {k : Nat} (h : k < ns.length) : (nextP ns)[k]? = some (nextUp ns k ns.length) := by
  unfold nextP
  rw [List.getElem?_map, List.getElem?_range h]
  rfl
theorem nextUp_spec (ns : List Int) (k : Nat) : ∀ i : Nat, i ≤ ns.length → (nextUp ns k i = ns.length ∧ ∀ j, k < j → j < i → ns.getD j 0 ≠ ns.getD k 0) ∨ ∃ v : Nat, nextUp ns k i = v ∧ k < v ∧ v < i ∧ ns.getD v 0 = ns.getD k 0 ∧ ∀ j, k < j → j < v → ns.getD j 0 ≠ ns.getD k 0
  | 0, _ => Or.inl ⟨rfl, fun _ _ h => absurd h (Nat.not_lt_zero _)⟩
  | i + 1, hi => by
    have e : nextUp ns k (i + 1) = if nextUp ns k i < ns.length then nextUp ns k i else if k < i ∧ ns.getD i 0 = ns.getD k 0 then (i : Int) else ns.length := rfl
    rcases nextUp_spec ns k i (by omega) with ⟨h1, h2⟩ | ⟨v, h1, h2, h3, h4, h5⟩
    · rw [if_neg (by omega)] at e
      by_cases h : k < i ∧ ns.getD i 0 = ns.getD k 0
      · rw [if_pos h] at e
        exact Or.inr ⟨i, e, h.1, Nat.lt_succ_self _, h.2, h2⟩
      · rw [if_neg h] at e
        refine Or.inl ⟨e, fun j hj1 hj2 => ?_⟩
        by_cases hji : j = i
        · rw [hji]; exact fun z => h ⟨by omega, z⟩
        · exact h2 j hj1 (by omega)
    · rw [if_pos (by omega)] at e
      exact Or.inr ⟨v, e.trans h1, h2, by omega, h4, h5⟩
theorem nextUp_uniq {ns : List Int} {k i : Nat} (hi : i ≤ ns.length) {m : Int} (h1 : m = ns.length ∨ ∃ v : Nat, m = v ∧ k < v ∧ v < i ∧ ns.getD v 0 = ns.getD k 0) (h2 : ∀ j : Nat, k < j → j < i → ns.getD j 0 = ns.getD k 0 → m ≤ (j : Int)) (h3 : m ≤ ns.length) : nextUp ns k i = m := by
  rcases nextUp_spec ns k i hi with ⟨a1, a2⟩ | ⟨v, a1, a2, a3, a4, a5⟩
  · rcases h1 with e | ⟨v, e, hv, hv2, hx⟩
    · omega
    · exact absurd hx (a2 v hv hv2)
  · have q := h2 v a2 a3 a4
    rcases h1 with e | ⟨u, e, hu, hu2, hx⟩
    · omega
    · by_cases huv : u < v
      · exact absurd hx (a5 u hu huv)
      · omega
/-- one place on: the next place of k is i just where k is i's last place -/
theorem nextUp_step {ns : List Int} {k i : Nat} (hi : i < ns.length) (hk : k < ns.length) : nextUp ns k (i + 1) = if lastAt ns i (ns.getD i 0) = (k : Int) then (i : Int) else nextUp ns k i := by
  have e : nextUp ns k (i + 1) = if nextUp ns k i < ns.length then nextUp ns k i else if k < i ∧ ns.getD i 0 = ns.getD k 0 then (i : Int) else ns.length := rfl
  rw [e]
  rcases nextUp_spec ns k i (by omega) with ⟨a1, a2⟩ | ⟨v, a1, a2, a3, a4, a5⟩
  · rw [if_neg (by omega)]
    by_cases h : k < i ∧ ns.getD i 0 = ns.getD k 0
    · rw [if_pos h, if_pos]
      refine lastAt_uniq (Or.inr ⟨k, rfl, h.1, h.2.symm⟩) fun j hj hx => ?_
      by_cases hkj : k < j
      · exact absurd (hx.trans h.2) (a2 j hkj hj)
      · omega
    · rw [if_neg h, if_neg, a1]
      intro q
      rcases lastAt_spec ns (ns.getD i 0) i with ⟨b1, _⟩ | ⟨u, b1, b2, b3, _⟩
      · omega
      · have : u = k := by omega
        subst this
        exact h ⟨b2, b3.symm⟩
  · rw [if_pos (by omega), if_neg]
    intro q
    rcases lastAt_spec ns (ns.getD i 0) i with ⟨b1, _⟩ | ⟨u, b1, b2, b3, b4⟩
    · omega
    · have : u = k := by omega
      subst this
      exact b4 v a2 a3 (a4.trans b3)
theorem getD_of {ns : List Int} {i : Nat} {n : Int} (h : ns[i]? = some n) : ns.getD i 0 = n := by
  rw [List.getD_eq_getElem?_getD, h]; rfl
theorem get_of {ns : List Int} {i : Nat} (h : i < ns.length) : ns[i]? = some (ns.getD i 0) := by
  rw [List.getD_eq_getElem?_getD, List.getElem?_eq_getElem h]; rfl
theorem ext_getD {ns ms : List Int} (hl : ns.length = ms.length) (h : ∀ i, i < ns.length → ns.getD i 0 = ms.getD i 0) : ns = ms := by
  refine List.ext_getElem? fun i => ?_
  by_cases hi : i < ns.length
  · rw [get_of hi, get_of (by omega), h i hi]
  · rw [List.getElem?_eq_none (by omega), List.getElem?_eq_none (by omega)]
/-- a list of ints at an address, its items told otherwise -/
theorem lst_cast {H : Hp} {a : Addr} {xs ys : List V} (h : H a = some (.lst xs)) (e : xs = ys) : H a = some (.lst ys) := by rw [h, e]
/-! what the laws' own ways of reckoning come to -/
theorem tn0 (k : Nat) : ((0 : Int) + (k : Int)).toNat = k := by omega
theorem dvi {a b : Int} : decide (V.int a = V.int b) = decide (a = b) := by
  by_cases h : a = b
  · rw [h]; simp
  · rw [decide_eq_false h]
    exact decide_eq_false (fun e => h (V.int.inj e))
theorem lasts_max {ns : List Int} {k : Nat} {m : Int}
    (h1 : m ∈ (-1 : Int) :: ((List.range ((0 : Int) + (k : Int)).toNat).filter fun j : Nat => decide (V.int (ns.getD ((0 : Int) + (j : Int)).toNat 0) = V.int (ns.getD ((0 : Int) + (k : Int)).toNat 0))).map fun j : Nat => (0 : Int) + (j : Int))
    (h2 : ∀ x ∈ (-1 : Int) :: ((List.range ((0 : Int) + (k : Int)).toNat).filter fun j : Nat => decide (V.int (ns.getD ((0 : Int) + (j : Int)).toNat 0) = V.int (ns.getD ((0 : Int) + (k : Int)).toNat 0))).map fun j : Nat => (0 : Int) + (j : Int), x ≤ m) :
    lastAt ns k (ns.getD k 0) = m := by
  simp only [tn0, dvi] at h1 h2
  refine lastAt_uniq ?_ (fun j hj e => ?_)
  · rcases List.mem_cons.mp h1 with e | e
    · exact Or.inl e
    · obtain ⟨j, hj, rfl⟩ := List.mem_map.mp e
      obtain ⟨hj1, hj2⟩ := List.mem_filter.mp hj
      exact Or.inr ⟨j, by omega, List.mem_range.mp hj1, of_decide_eq_true hj2⟩
  · have h := h2 (0 + (j : Int)) (List.mem_cons_of_mem _ (List.mem_map.mpr ⟨j, List.mem_filter.mpr ⟨List.mem_range.mpr hj, decide_eq_true e⟩, rfl⟩))
    omega
theorem tn1 (n k : Nat) : ((n : Int) - ((0 : Int) + (k : Int) + 1)).toNat = n - (k + 1) := by omega
theorem tn2 (k j : Nat) : ((0 : Int) + (k : Int) + 1 + (j : Int)).toNat = k + 1 + j := by omega
theorem nexts_min {ns : List Int} {k : Nat} {m : Int} (hk : k < ns.length)
    (h1 : m ∈ ((List.range ((ns.length : Int) - ((0 : Int) + (k : Int) + 1)).toNat).filter fun j : Nat => decide (V.int (ns.getD ((0 : Int) + (k : Int) + 1 + (j : Int)).toNat 0) = V.int (ns.getD ((0 : Int) + (k : Int)).toNat 0))).map (fun j : Nat => (0 : Int) + (k : Int) + 1 + (j : Int)) ++ [(ns.length : Int)])
    (h2 : ∀ x ∈ ((List.range ((ns.length : Int) - ((0 : Int) + (k : Int) + 1)).toNat).filter fun j : Nat => decide (V.int (ns.getD ((0 : Int) + (k : Int) + 1 + (j : Int)).toNat 0) = V.int (ns.getD ((0 : Int) + (k : Int)).toNat 0))).map (fun j : Nat => (0 : Int) + (k : Int) + 1 + (j : Int)) ++ [(ns.length : Int)], m ≤ x) :
    nextUp ns k ns.length = m := by
  simp only [tn0, tn1, tn2, dvi] at h1 h2
  have hm : m ≤ ns.length := h2 _ (List.mem_append.mpr (Or.inr (List.mem_singleton.mpr rfl)))
  refine nextUp_uniq (Nat.le_refl _) ?_ (fun j h3 h4 e => ?_) hm
  · rcases List.mem_append.mp h1 with e | e
    · obtain ⟨j, hj, rfl⟩ := List.mem_map.mp e
      obtain ⟨hj1, hj2⟩ := List.mem_filter.mp hj
      have := List.mem_range.mp hj1
      exact Or.inr ⟨k + 1 + j, by omega, by omega, by omega, of_decide_eq_true hj2⟩
    · exact Or.inl (List.mem_singleton.mp e)
  · have h := h2 (0 + (k : Int) + 1 + ((j - (k + 1) : Nat) : Int)) (List.mem_append.mpr (Or.inl (List.mem_map.mpr ⟨j - (k + 1), List.mem_filter.mpr ⟨List.mem_range.mpr (by omega), decide_eq_true (by rw [show k + 1 + (j - (k + 1)) = j by omega]; exact e)⟩, rfl⟩)))
    omega
theorem same_dec {ns ms : List Int} (hl : (ns.length : Int) = (ms.length : Int)) :
    decide ((((List.range (ms.length : Int).toNat).filter fun j : Nat => !decide (V.int (ns.getD ((0 : Int) + (j : Int)).toNat 0) = V.int (ms.getD ((0 : Int) + (j : Int)).toNat 0))).map fun j : Nat => (0 : Int) + (j : Int)) = []) = decide (ns = ms) := by
  simp only [tn0, dvi, Int.toNat_natCast]
  refine decide_eq_decide.mpr ⟨fun h => ?_, fun h => ?_⟩
  · refine ext_getD (by omega) (fun i hi => ?_)
    have h2 := List.filter_eq_nil_iff.mp (List.map_eq_nil_iff.mp h) i (List.mem_range.mpr (by omega))
    simpa using h2
  · subst h
    simp
end Ur

namespace Ur
open PySem L2
/-! ### told lists that are held, each with what is due -/
/-- a pair of lists of the same ints, none of them the list that holds -/
structure PairOk (h : Addr) (H : Hp) (p : Addr) : Prop where
  off : p ≠ h
  both : ∃ (a b : Addr) (ns : List Int), a ≠ h ∧ b ≠ h ∧ H p = some (.lst [.ref a, .ref b]) ∧ H a = some (.lst (ns.map V.int)) ∧ H b = some (.lst (ns.map V.int))
/-- the list that holds at most n pairs -/
structure HeldOk (h : Addr) (H : Hp) (n : Nat) : Prop where
  all : ∃ ps : List Addr, H h = some (.lst (ps.map V.ref)) ∧ ps.length ≤ n ∧ ∀ p ∈ ps, PairOk h H p
theorem PairOk.step {h p : Addr} {H H' : Hp} (k : PairOk h H p) (b : But h H H') : PairOk h H' p := by
  obtain ⟨x, y, ns, hx, hy, e, e1, e2⟩ := k.both
  exact ⟨k.off, x, y, ns, hx, hy, b _ _ k.off e, b _ _ hx e1, b _ _ hy e2⟩
theorem Same.but {h : Addr} {H H' : Hp} (s : Same H H') : But h H H' := fun b o _ e => s b o e
theorem HeldOk.same {h : Addr} {H H' : Hp} {n : Nat} (k : HeldOk h H n) (s : Same H H') : HeldOk h H' n := by
  obtain ⟨ps, e, l, f⟩ := k.all
  exact ⟨ps, s _ _ e, l, fun p hp => (f p hp).step (Same.but s)⟩
theorem HeldOk.mono {h : Addr} {H : Hp} {n m : Nat} (k : HeldOk h H n) (l : n ≤ m) : HeldOk h H m := by
  obtain ⟨ps, e, q, f⟩ := k.all
  exact ⟨ps, e, Nat.le_trans q l, f⟩
/-- .. with more pairs behind -/
theorem HeldOk.grow {h : Addr} {H H' : Hp} {m : Nat} {ps qs : List Addr} (e : H h = some (.lst (ps.map V.ref))) (l : ps.length + qs.length ≤ m) (f : ∀ p ∈ ps, PairOk h H p) (b : But h H H') (e' : H' h = some (.lst ((ps ++ qs).map V.ref))) (g : ∀ p ∈ qs, PairOk h H' p) : HeldOk h H' m :=
  ⟨ps ++ qs, e', by rw [List.length_append]; exact l, fun p hp => by
    rcases List.mem_append.mp hp with k | k
    · exact (f p k).step b
    · exact g p k⟩
theorem HeldOk.new {h : Addr} {H : Hp} (e : H h = some (.lst [])) : HeldOk h H 0 := ⟨[], e, Nat.le_refl 0, fun p hp => nomatch hp⟩
end Ur

namespace Ur
open PySem L2
/-- over the cells, each with its place: what is new in H1 stays as the loop goes on -/
theorem for_cells {K : PySem.W.Frag} {H0 H1 : Hp} {cs : List Int} {p : Addr} {ts : List Addr} {i j : Nat} {tb : TS} {D : Ends} {σ : L2.St} (N : UrE.NewPairs H0 (UrE.enumC (cs.map V.int)) p ts H1)
    (Pv : Nat → L2.St → Hp → Prop) (h0 : Pv 0 σ H1) (hb : ∀ n σ H, Pv n σ H → ∀ b o, H0 b = none → H1 b = some o → H b = some o)
    (hs : ∀ n c σ H, cs[n]? = some c → Pv n σ H → tb { D with nx := Pv (n + 1), ct := Pv (n + 1), bk := D.nx } ((σ.set i (some (.int (n : Nat)))).set j (some (.int c))) H) (hd : ∀ σ H, Pv cs.length σ H → D.nx σ H) :
    ∃ W : Nat → Nat → L2.St → Hp → Prop, (∃ m, W 0 m σ H1) ∧ ∀ k m σ H, W k m σ H →
      ((Itl K p).stop k H ∧ D.nx σ H) ∨ ((Itl K p).go k H ∧ ∃ N : L2.St → Hp → Prop, (∀ σ' H', N σ' H' → ∃ m', m' < m ∧ W (k + 1) m' σ' H') ∧ ∀ x H', (Itl K p).yld k H x H' → gTup K 2 (gCons (gName i) (gCons (gName j) gNil)) x σ H' fun σ2 H2 => tb { D with nx := N, ct := N, bk := D.nx } σ2 H2) := by
  obtain ⟨n1, n2, n3, n4, n5, n6, n7, n8⟩ := N
  have hl : ts.length = cs.length := by rw [n6, UrE.enumC_len, List.length_map]
  refine for_list (xs := ts.map V.ref) Pv h0 (fun k σ H hk q => .of (hb k σ H q p _ n2 n7)) (fun k x σ H hx q => ?_) (fun σ H q => hd σ H (by rw [List.length_map, hl] at q; exact q))
  rw [List.getElem?_map] at hx
  cases ht : ts[k]? with
  | none => rw [ht] at hx; cases hx
  | some t =>
    rw [ht] at hx
    cases hx
    have hk : k < cs.length := by rw [← hl]; exact (List.getElem?_eq_some_iff.mp ht).1
    have hc : cs[k]? = some cs[k] := List.getElem?_eq_getElem hk
    have he : (UrE.enumC (cs.map V.int))[k]? = some [.int (k : Nat), .int cs[k]] := by rw [UrE.enumC_get, List.getElem?_map, hc]; rfl
    obtain ⟨t', e1, e2⟩ := n8 k _ he
    rw [ht] at e1
    cases e1
    have hn : H0 t = none := n3 t (List.mem_of_getElem? ht)
    exact ⟨t, _, rfl, .of (hb k σ H q t _ hn e2), rfl, _, _, rfl, _, _, rfl, rfl, hs k _ σ H hc q⟩
end Ur
namespace Ur
open PySem L2
theorem sql_fresh {K : PySem.W.Frag} {H0 H : Hp} {a h : Addr} {o : HO} {xs : List V} (nh : H0 h = none) (b : But h (upd H0 h o) H) (q : SqL K H0 a xs) : SqL K H a xs := by
  have st : ∀ (x : Addr) (u : HO), H0 x = some u → H x = some u := fun x u e => by
    have ne : x ≠ h := fun k => by rw [k, nh] at e; cases e
    exact b x u ne (by rw [upd_ne ne]; exact e)
  rcases q with (q | ⟨o, q⟩) | q
  · exact .inl (.inl (st _ _ q))
  · exact .inl (.inr ⟨o, st _ _ q⟩)
  · exact .inr q
end Ur

namespace Ur
open PySem L2
/-! ### unlike ints of a list -/
/-- the unlike ones, in the order in which they come -/
def uni (ns : List Int) : List Int := ns.foldl PyProof.Rows.step_dedup []
/-- how many -/
def ulen (ns : List Int) : Nat := (uni ns).length
theorem uni_snoc_any (ns : List Int) (x : Int) : uni (ns ++ [x]) = if (uni ns).any (· == x) = true then uni ns else uni ns ++ [x] := by
  unfold uni
  rw [List.foldl_append]
  rfl
theorem rev_ind {P : List Int → Prop} (h0 : P []) (hs : ∀ ns x, P ns → P (ns ++ [x])) (ns : List Int) : P ns := by
  have k : ∀ l : List Int, P l.reverse := by
    intro l
    induction l with
    | nil => exact h0
    | cons x l ih => rw [List.reverse_cons]; exact hs _ _ ih
  have := k ns.reverse
  rwa [List.reverse_reverse] at this
theorem mem_uni (ns : List Int) : ∀ x, x ∈ uni ns ↔ x ∈ ns := by
  refine rev_ind (P := fun ns => ∀ x, x ∈ uni ns ↔ x ∈ ns) (fun x => by simp [uni]) (fun ns y ih x => ?_) ns
  rw [uni_snoc_any]
  by_cases h : (uni ns).any (· == y) = true
  · rw [if_pos h, ih, List.mem_append]
    obtain ⟨z, hz, e⟩ := List.any_eq_true.mp h
    have e2 : z = y := eq_of_beq e
    rw [e2] at hz
    constructor
    · exact fun k => Or.inl k
    · rintro (k | k)
      · exact k
      · rw [List.mem_singleton.mp k]; exact (ih y).mp hz
  · rw [if_neg h, List.mem_append, List.mem_append, ih]
theorem uni_snoc (ns : List Int) (x : Int) : uni (ns ++ [x]) = if x ∈ ns then uni ns else uni ns ++ [x] := by
  rw [uni_snoc_any]
  by_cases h : x ∈ ns
  · have k : (uni ns).any (· == x) = true := List.any_eq_true.mpr ⟨x, (mem_uni ns x).mpr h, beq_self_eq_true x⟩
    rw [if_pos h, if_pos k]
  · rw [if_neg h, if_neg]
    intro k
    obtain ⟨z, hz, e⟩ := List.any_eq_true.mp k
    have e2 : z = x := eq_of_beq e
    exact h (e2 ▸ (mem_uni ns z).mp hz)
theorem ulen_snoc (ns : List Int) (x : Int) : ulen (ns ++ [x]) = if x ∈ ns then ulen ns else ulen ns + 1 := by
  unfold ulen
  rw [uni_snoc]
  by_cases h : x ∈ ns
  · rw [if_pos h, if_pos h]
  · rw [if_neg h, if_neg h, List.length_append]; rfl
theorem ulen_le (ns : List Int) : ulen ns ≤ ns.length := by
  refine rev_ind (P := fun ns => ulen ns ≤ ns.length) (Nat.le_refl 0) (fun ns x ih => ?_) ns
  rw [ulen_snoc, List.length_append]
  have : [x].length = 1 := rfl
  split <;> omega
theorem uni_nodup (ns : List Int) : (uni ns).Nodup := by
  refine rev_ind (P := fun ns => (uni ns).Nodup) List.nodup_nil (fun ns x ih => ?_) ns
  rw [uni_snoc]
  by_cases h : x ∈ ns
  · rw [if_pos h]; exact ih
  · rw [if_neg h, List.nodup_append]
    refine ⟨ih, List.nodup_cons.mpr ⟨by simp, List.nodup_nil⟩, fun a ha b hb e => ?_⟩
    rw [List.mem_singleton.mp hb] at e
    exact h (e ▸ (mem_uni ns a).mp ha)
theorem map_getD (ns : List Int) : (List.range ns.length).map (fun i => ns.getD i 0) = ns := by
  refine List.ext_getElem (by simp) fun i h1 h2 => ?_
  rw [List.getElem_map, List.getElem_range, List.getD_eq_getElem?_getD, List.getElem?_eq_getElem h2]
  rfl
theorem firstMet_uni (ns : List Int) : PyProof.Rows.firstMet (fun i => ns.getD i 0) ns.length = uni ns := by
  unfold PyProof.Rows.firstMet uni
  rw [map_getD]
/-! ### len(set(xs)) -/
def tLenSetU (K : PySem.W.Frag) (ta : TE) : TE := fun σ H Q => ta σ H fun x H1 => ∃ (l : Addr) (ns : List Int), x = .ref l ∧ SqL K H1 l (ns.map V.int) ∧ ns.length ≤ 4000 ∧ Q (.int (ulen ns : Nat)) H1
open PySem.Spec PyProof.Rows in
theorem pe_lenSetU {X : Cx} {K : PySem.W.Frag} {a : Expr} {ta : TE} {p p2 q pos : Pos} (hk : X.K = K) (hg : Gl X "len") (hm : X.mg "len" = none) (hg2 : Gl X "set") (hm2 : X.mg "set" = none) (ha : PE X a ta) (hc : X.calm = true := by rfl)
    (na : starEach [a] X.env = (false, eval a X.env) :: starEach [] X.env := by rfl) : PE X (.Call (.Name "len" p) [.Call (.Name "set" p2) [a] [] q] [] pos) (tLenSetU K ta) := by
  subst hk
  refine ⟨fun pins s σ H Q I h => ?_⟩
  refine Call_ (ld_blt I hg hm boot_len ?_)
  refine PyProof.Rows.callWith_builtin1 (PyProof.Rows.args_cons ?_ rfl) rfl rfl
  refine Call_ (ld_blt I hg2 hm2 boot_set ?_)
  refine PyProof.Rows.callWith_type1 (PyProof.Rows.args_cons (thn (ha.run pins s σ H _ I h) fun v s1 ⟨x, H1, I1, r1, q1⟩ => PyProof.Rows.args_nil ?_) na) na rfl
  obtain ⟨l, ns, rfl, hq, hl, q1⟩ := q1
  cases r1
  obtain ⟨its, r, pl, hz⟩ := I1.list hq
  have hlen : its.toArray.size = ns.length := by rw [List.size_toArray, ← r.length, List.length_map]
  refine call_set_list (I1.ok.hd hc) pl.isList (by simpa using RZ.intsAre_vals r) (by rw [hlen]; unfold scanBound; omega) fun h' tk hS hk => ?_
  refine PyProof.Rows.args_nil ?_
  rw [hlen, firstMet_uni] at hS
  obtain ⟨o, es, ep, t, ho, hex, hd, _, _, _, hf, hn⟩ := hS
  have I2 : Inv X pins σ H1 { s1 with heap := h', toks := tk } := I1.kept fun b o e => hk b o (Heap.lt_size e) e
  exact call_len_set ho hex hd hf (by rw [hn]; have := ulen_le ns; unfold ulen at this; omega) ⟨.int (ulen ns : Nat), H1, I2.tok _, ⟨_, by rw [hn]; rfl⟩, q1⟩
end Ur

namespace Ur
open PySem L2
/-! ### plain rows -/
/-- how many unlike ones stand ahead of the place at which x stands first -/
def plainAt (ns : List Int) (x : Int) : Nat := ulen (ns.take (ns.idxOf x))
def plainP (ns : List Int) : List Int := ns.map fun x => (plainAt ns x : Int)
theorem plainP_len (ns : List Int) : (plainP ns).length = ns.length := by simp [plainP]
theorem take_snoc {ns : List Int} {i : Nat} {x : Int} (h : ns[i]? = some x) : ns.take (i + 1) = ns.take i ++ [x] := by
  rw [List.take_add_one, h]; rfl
theorem idx_first {ns : List Int} {i : Nat} {x : Int} (h : ns[i]? = some x) (n : x ∉ ns.take i) : ns.idxOf x = i := by
  obtain ⟨hi, e⟩ := List.getElem?_eq_some_iff.mp h
  have e2 : ns = ns.take i ++ ns.drop i := (List.take_append_drop i ns).symm
  have e3 : ns.drop i = x :: ns.drop (i + 1) := by rw [List.drop_eq_getElem_cons hi, e]
  have hl : (ns.take i).length = i := by rw [List.length_take]; omega
  have e4 : (ns.take i ++ ns.drop i).idxOf x = i := by
    rw [List.idxOf_append, if_neg n, e3, List.idxOf_cons_self, hl]; omega
  rwa [← e2] at e4
theorem idx_lt {ns : List Int} {x : Int} (h : x ∈ ns) : ns.idxOf x < ns.length := List.idxOf_lt_length_of_mem h
theorem idx_get {ns : List Int} {x : Int} (h : x ∈ ns) : ns[ns.idxOf x]? = some x := by
  rw [List.getElem?_eq_getElem (idx_lt h), List.getElem_idxOf]
theorem idx_not {ns : List Int} {x : Int} : x ∉ ns.take (ns.idxOf x) := fun k => by
  obtain ⟨j, hj, e⟩ := List.getElem_of_mem k
  rw [List.getElem_take] at e
  have h1 : j < ns.idxOf x := by rw [List.length_take] at hj; omega
  have h2 := List.not_of_lt_findIdx (p := (· == x)) (xs := ns) h1
  simp [e] at h2
theorem putK_len {kvs : List (Key × V)} {k : Key} {v : V} (h : valV kvs k = none) : (putK kvs k v).length = kvs.length + 1 := by
  have e : (kvs.any fun kv => decide (kv.1 = k)) = false := by
    cases q : (kvs.any fun kv => decide (kv.1 = k)) with
    | false => rfl
    | true =>
      obtain ⟨p, hp, e⟩ := List.any_eq_true.mp q
      unfold valV at h
      rw [Option.map_eq_none_iff, List.find?_eq_none] at h
      exact absurd e (h p hp)
  unfold putK
  rw [e, if_neg Bool.false_ne_true, List.length_append]
  rfl
theorem ulen_mono {ns : List Int} : ∀ {j i : Nat}, i ≤ j → ulen (ns.take i) ≤ ulen (ns.take j)
  | 0, i, h => by rw [Nat.le_zero.mp h]; exact Nat.le_refl _
  | j + 1, i, h => by
    rcases Nat.lt_or_eq_of_le h with h | rfl
    · refine Nat.le_trans (ulen_mono (Nat.le_of_lt_succ h)) ?_
      cases e : ns[j]? with
      | none => rw [List.take_add_one, e]; simp
      | some x => rw [take_snoc e, ulen_snoc]; split <;> omega
    · exact Nat.le_refl _
theorem plainAt_lt {ns : List Int} {x y : Int} (hx : x ∈ ns) (h : ns.idxOf x < ns.idxOf y) : plainAt ns x < plainAt ns y := by
  unfold plainAt
  have h1 : ulen (ns.take (ns.idxOf x + 1)) = ulen (ns.take (ns.idxOf x)) + 1 := by
    rw [take_snoc (idx_get hx), ulen_snoc, if_neg idx_not]
  have h2 := ulen_mono (ns := ns) (show ns.idxOf x + 1 ≤ ns.idxOf y from h)
  omega
theorem plainAt_inj {ns : List Int} {x y : Int} (hx : x ∈ ns) (hy : y ∈ ns) (h : plainAt ns x = plainAt ns y) : x = y := by
  rcases Nat.lt_trichotomy (ns.idxOf x) (ns.idxOf y) with k | k | k
  · exact absurd (plainAt_lt hx k) (by omega)
  · have e := idx_get hx
    rw [k, idx_get hy] at e
    exact (Option.some.inj e).symm
  · exact absurd (plainAt_lt hy k) (by omega)
/-- f calls the numbers of ns otherwise, one for one -/
def InjOn (f : Int → Int) (ns : List Int) : Prop := ∀ x ∈ ns, ∀ y ∈ ns, f x = f y → x = y
theorem mem_map_inj {f : Int → Int} {ns ms : List Int} {x : Int} (h : InjOn f ns) (hx : x ∈ ns) (hs : ∀ y ∈ ms, y ∈ ns) : f x ∈ ms.map f ↔ x ∈ ms := by
  constructor
  · intro k
    obtain ⟨y, hy, e⟩ := List.mem_map.mp k
    exact h y (hs y hy) x hx e ▸ hy
  · exact fun k => List.mem_map.mpr ⟨x, k, rfl⟩
theorem ulen_map {f : Int → Int} {ns : List Int} (h : InjOn f ns) : ulen (ns.map f) = ulen ns := by
  have k : ∀ ms : List Int, (∀ y ∈ ms, y ∈ ns) → ulen (ms.map f) = ulen ms := fun ms => by
    refine rev_ind (P := fun ms => (∀ y ∈ ms, y ∈ ns) → ulen (ms.map f) = ulen ms) (fun _ => rfl) (fun ms x ih hs => ?_) ms
    have hs' : ∀ y ∈ ms, y ∈ ns := fun y hy => hs y (List.mem_append.mpr (Or.inl hy))
    have hx : x ∈ ns := hs x (List.mem_append.mpr (Or.inr (List.mem_singleton.mpr rfl)))
    have e := mem_map_inj h hx hs'
    rw [List.map_append, List.map_cons, List.map_nil, ulen_snoc, ulen_snoc, ih hs']
    by_cases q : x ∈ ms
    · rw [if_pos q, if_pos (e.mpr q)]
    · rw [if_neg q, if_neg (fun z => q (e.mp z))]
  exact k ns fun _ z => z
theorem InjOn.take {f : Int → Int} {ns : List Int} (h : InjOn f ns) (i : Nat) : InjOn f (ns.take i) := fun x hx y hy e => h x (List.mem_of_mem_take hx) y (List.mem_of_mem_take hy) e
theorem idx_map {f : Int → Int} {ns : List Int} {x : Int} (h : InjOn f ns) (hx : x ∈ ns) : (ns.map f).idxOf (f x) = ns.idxOf x := by
  refine idx_first ?_ ?_
  · rw [List.getElem?_map, idx_get hx]; rfl
  · rw [← List.map_take]
    exact fun k => idx_not ((mem_map_inj h hx (fun y hy => List.mem_of_mem_take hy)).mp k)
theorem plainP_map {f : Int → Int} {ns : List Int} (h : InjOn f ns) : plainP (ns.map f) = plainP ns := by
  unfold plainP
  rw [List.map_map]
  refine List.map_congr_left fun x hx => ?_
  show ((plainAt (ns.map f) (f x) : Nat) : Int) = (plainAt ns x : Nat)
  unfold plainAt
  rw [idx_map h hx, ← List.map_take, ulen_map (h.take _)]
theorem plainP_own (ns : List Int) : plainP (plainP ns) = plainP ns :=
  plainP_map (f := fun x => (plainAt ns x : Int)) fun x hx y hy e => plainAt_inj hx hy (by have e2 : ((plainAt ns x : Nat) : Int) = (plainAt ns y : Nat) := e; omega)
/-! ### their rules -/
theorem setd_int {H : Hp} {a : Addr} {kvs : List (Key × V)} {n : Int} {z : V} {Q : VK} (h : H a = some (.dK kvs))
    (q : kvs.length < sizeLine ∧ (∀ v, valV kvs (Sum.inl n) = some v → Q v H) ∧ (valV kvs (Sum.inl n) = none → Q z (upd H a (.dK (putK kvs (Sum.inl n) z))))) :
    ∃ (kvs : List (Key × V)) (k : Key), H a = some (.dK kvs) ∧ V.int n = kV k ∧ kvs.length < sizeLine ∧ (∀ v, valV kvs k = some v → Q v H) ∧ (valV kvs k = none → Q z (upd H a (.dK (putK kvs k z)))) :=
  ⟨kvs, Sum.inl n, h, rfl, q.1, q.2.1, q.2.2⟩
theorem index_int {K : PySem.W.Frag} {H : Hp} {a : Addr} {ns : List Int} {x : Int} {Q : VK} (h : SqL K H a (ns.map V.int)) (q : x ∈ ns ∧ Q (.int (ns.idxOf x : Nat)) H) : rIndex K (.ref a) [.int x] H Q := by
  refine ⟨a, ns.map V.int, .int x, ns.idxOf x, .int x, rfl, rfl, h, rfl, ?_, ?_, ?_, ?_, q.2⟩
  · rw [List.all_map]
    exact List.all_eq_true.mpr fun _ _ => rfl
  · rw [List.getElem?_map, idx_get q.1]; rfl
  · show (x == x) = true
    exact beq_self_eq_true x
  · intro m z' hm hz
    obtain ⟨n, hn, rfl⟩ := iv_get hz
    have ne : ¬ n = x := fun e => by
      rw [e] at hn
      refine idx_not (ns := ns) (x := x) (List.mem_of_getElem? (i := m) ?_)
      rw [List.getElem?_take, if_pos hm, hn]
    show (n == x) = false
    exact beq_eq_false_iff_ne.mpr ne
end Ur

namespace Ur
open PySem L2
theorem ps_never {X : Cx} {st : Stmt} : PS X st (fun _ _ _ => False) := ⟨fun _ _ _ _ _ _ h => h.elim⟩
theorem putF_le (k : Str) (v : V) : ∀ fs : List (Str × V), (putF k v fs).length ≤ fs.length + 1
  | [] => Nat.le_refl 1
  | (k', v') :: r => by
    unfold putF
    split
    · exact Nat.le_succ _
    · exact Nat.succ_le_succ (putF_le k v r)
theorem pf1 {k : Str} {v : V} : (putF k v []).length < 1000 := Nat.lt_of_le_of_lt (putF_le _ _ _) (by decide)
theorem pf2 {k k2 : Str} {v v2 : V} : (putF k v (putF k2 v2 [])).length < 1000 := Nat.lt_of_le_of_lt (putF_le _ _ _) (Nat.lt_of_le_of_lt (Nat.succ_le_succ (putF_le _ _ _)) (by decide))
theorem pf3 {k k2 k3 : Str} {v v2 v3 : V} : (putF k v (putF k2 v2 (putF k3 v3 []))).length < 1000 := Nat.lt_of_le_of_lt (putF_le _ _ _) (Nat.lt_of_le_of_lt (Nat.succ_le_succ (putF_le _ _ _)) (Nat.lt_of_le_of_lt (Nat.succ_le_succ (Nat.succ_le_succ (putF_le _ _ _))) (by decide)))
/-! ### a row made ready -/
def rdyF (n : Int) (la na : Addr) : List (Str × V) := putF "nexts" (.ref na) (putF "lasts" (.ref la) (putF "many" (.int n) []))
theorem rdy_many {n : Int} {la na : Addr} : (rdyF n la na).lookup ("many" : Str) = some (.int n) := by
  unfold rdyF
  rw [lookup_putF, if_neg (by decide), lookup_putF, if_neg (by decide), lookup_putF, if_pos rfl]
theorem rdy_lasts {n : Int} {la na : Addr} : (rdyF n la na).lookup ("lasts" : Str) = some (.ref la) := by
  unfold rdyF
  rw [lookup_putF, if_neg (by decide), lookup_putF, if_pos rfl]
theorem rdy_nexts {n : Int} {la na : Addr} : (rdyF n la na).lookup ("nexts" : Str) = some (.ref na) := by
  unfold rdyF
  rw [lookup_putF, if_pos rfl]
theorem rdy_no {n : Int} {la na : Addr} {m : Str} (h1 : ¬ m = "many") (h2 : ¬ m = "lasts") (h3 : ¬ m = "nexts") : (rdyF n la na).lookup m = none := by
  unfold rdyF
  rw [lookup_putF, if_neg h3, lookup_putF, if_neg h2, lookup_putF, if_neg h1]
  rfl
/-- at o a row made ready; its parts are none of L -/
structure Rdy (C : Addr) (L : Addr → Prop) (H : Hp) (o : Addr) (ns : List Int) : Prop where
  all : ∃ dx la na : Addr, H o = some (.ins C dx (rdyF ns.length la na)) ∧ H la = some (.lst ((lastP ns).map V.int)) ∧ H na = some (.lst ((nextP ns).map V.int)) ∧ ∀ b, L b → o ≠ b ∧ la ≠ b ∧ na ≠ b
theorem Rdy.same {C : Addr} {L : Addr → Prop} {H H' : Hp} {o : Addr} {ns : List Int} (r : Rdy C L H o ns) (s : Same H H') : Rdy C L H' o ns := by
  obtain ⟨dx, la, na, e1, e2, e3, f⟩ := r.all
  exact ⟨dx, la, na, s _ _ e1, s _ _ e2, s _ _ e3, f⟩
theorem Rdy.but {C : Addr} {L : Addr → Prop} {H H' : Hp} {o b : Addr} {ns : List Int} (r : Rdy C L H o ns) (l : L b) (s : But b H H') : Rdy C L H' o ns := by
  obtain ⟨dx, la, na, e1, e2, e3, f⟩ := r.all
  obtain ⟨f1, f2, f3⟩ := f b l
  exact ⟨dx, la, na, s _ _ f1 e1, s _ _ f2 e2, s _ _ f3 e3, f⟩
theorem Rdy.sub {C : Addr} {L L' : Addr → Prop} {H : Hp} {o : Addr} {ns : List Int} (r : Rdy C L H o ns) (l : ∀ b, L' b → L b) : Rdy C L' H o ns := by
  obtain ⟨dx, la, na, e1, e2, e3, f⟩ := r.all
  exact ⟨dx, la, na, e1, e2, e3, fun b k => f b (l b k)⟩
/-! ### windows -/
/-- the numbers of a window -/
def win (ns : List Int) (f b : Int) : List Int := (ns.drop f.toNat).take (b.toNat - f.toNat)
/-- how many unlike ones -/
def wun (ns : List Int) (f b : Int) : Nat := ulen (win ns f b)
theorem win_len {ns : List Int} {f b : Int} (h0 : 0 ≤ f) (h1 : f ≤ b) (h2 : b ≤ ns.length) : (win ns f b).length = (b - f).toNat := by
  unfold win
  rw [List.length_take, List.length_drop]
  omega
theorem mem_win {ns : List Int} {f k : Nat} {x : Int} : x ∈ (ns.drop f).take k ↔ ∃ j, f ≤ j ∧ j < f + k ∧ ns[j]? = some x := by
  constructor
  · intro h
    obtain ⟨j, hj⟩ := List.mem_iff_getElem?.mp h
    rw [List.getElem?_take] at hj
    by_cases hk : j < k
    · rw [if_pos hk, List.getElem?_drop] at hj
      exact ⟨f + j, by omega, by omega, hj⟩
    · rw [if_neg hk] at hj; cases hj
  · rintro ⟨j, h1, h2, e⟩
    refine List.mem_iff_getElem?.mpr ⟨j - f, ?_⟩
    rw [List.getElem?_take, if_pos (by omega), List.getElem?_drop, show f + (j - f) = j from by omega]
    exact e
theorem last_in {ns : List Int} {f k : Nat} (h : f + k < ns.length) : (ns.getD (f + k) 0 ∈ (ns.drop f).take k) ↔ ¬ lastAt ns (f + k) (ns.getD (f + k) 0) < (f : Int) := by
  rw [mem_win]
  rcases lastAt_spec ns (ns.getD (f + k) 0) (f + k) with ⟨e, n⟩ | ⟨v, e, h1, h2, n⟩
  · constructor
    · rintro ⟨j, h1, h2, e2⟩
      exact absurd (getD_of e2) (n j h2)
    · intro hn
      omega
  · constructor
    · rintro ⟨j, h3, h4, e2⟩ hlt
      rw [e] at hlt
      exact absurd (getD_of e2) (n j (by omega) h4)
    · intro hn
      refine ⟨v, by omega, h1, ?_⟩
      rw [get_of (by omega), h2]
/-- .. by the last places -/
theorem ulen_win {ns : List Int} {f : Nat} : ∀ k : Nat, f + k ≤ ns.length → ulen ((ns.drop f).take k) = ((((lastP ns).drop f).take k).filter (fun x => decide (x < (f : Int)))).length
  | 0, _ => by rw [List.take_zero, List.take_zero]; rfl
  | k + 1, h => by
    have hk : f + k < ns.length := h
    have e1 : (ns.drop f)[k]? = some (ns.getD (f + k) 0) := by rw [List.getElem?_drop]; exact get_of hk
    have e2 : ((lastP ns).drop f)[k]? = some (lastAt ns (f + k) (ns.getD (f + k) 0)) := by rw [List.getElem?_drop]; exact lastP_get hk
    rw [take_snoc e1, take_snoc e2, ulen_snoc, List.filter_append, List.length_append, ulen_win k (by omega)]
    have q := last_in hk
    by_cases hl : lastAt ns (f + k) (ns.getD (f + k) 0) < (f : Int)
    · rw [if_neg (fun z => q.mp z hl), List.filter_cons_of_pos (by exact decide_eq_true hl)]
      rfl
    · rw [if_pos (q.mpr hl), List.filter_cons_of_neg (by rw [decide_eq_false hl]; exact Bool.false_ne_true)]
      rfl
theorem wun_lasts {ns : List Int} {f b : Int} (h0 : 0 ≤ f) (h1 : f ≤ b) (h2 : b ≤ ns.length) : ((((lastP ns).drop f.toNat).take (b.toNat - f.toNat)).filter (fun x => decide (x < f))).length = wun ns f b := by
  have e := ulen_win (ns := ns) (f := f.toNat) (b.toNat - f.toNat) (by omega)
  rw [Int.toNat_of_nonneg h0] at e
  exact e.symm
end Ur

namespace Ur
open PySem L2
/-! ### sums -/
def sumTo (F : Nat → Int) : Nat → Int
  | 0 => 0
  | k + 1 => sumTo F k + F k
theorem sum_snoc (xs : List Int) (x : Int) : (xs ++ [x]).sum = xs.sum + x := by
  rw [List.sum_append]; simp
theorem sum_range (F : Nat → Int) : ∀ n : Nat, ((List.range n).map F).sum = sumTo F n
  | 0 => rfl
  | n + 1 => by rw [List.range_succ, List.map_append, List.map_cons, List.map_nil, sum_snoc, sum_range F n]; rfl
theorem sum_filter (t : Nat → Bool) (F : Nat → Int) : ∀ n : Nat, (((List.range n).filter t).map F).sum = sumTo (fun k => if t k = true then F k else 0) n
  | 0 => rfl
  | n + 1 => by
    rw [List.range_succ, List.filter_append, List.map_append, List.sum_append, sum_filter t F n]
    show _ = _ + (if t n = true then F n else 0)
    cases h : t n with
    | true => rw [List.filter_cons_of_pos h]; simp
    | false => rw [List.filter_cons_of_neg (by rw [h]; exact Bool.false_ne_true)]; simp
theorem sumTo_congr {F G : Nat → Int} : ∀ {n : Nat}, (∀ k, k < n → F k = G k) → sumTo F n = sumTo G n
  | 0, _ => rfl
  | n + 1, h => by
    show sumTo F n + F n = sumTo G n + G n
    rw [sumTo_congr (fun k hk => h k (Nat.lt_succ_of_lt hk)), h n (Nat.lt_succ_self n)]
theorem sumTo_add (F G : Nat → Int) : ∀ n : Nat, sumTo (fun k => F k + G k) n = sumTo F n + sumTo G n
  | 0 => rfl
  | n + 1 => by
    show sumTo (fun k => F k + G k) n + (F n + G n) = sumTo F n + F n + (sumTo G n + G n)
    rw [sumTo_add F G n]; omega
theorem sumTo_mul (F : Nat → Int) (c : Int) : ∀ n : Nat, sumTo (fun k => F k * c) n = sumTo F n * c
  | 0 => (Int.zero_mul c).symm
  | n + 1 => by
    show sumTo (fun k => F k * c) n + F n * c = (sumTo F n + F n) * c
    rw [sumTo_mul F c n, Int.add_mul]
theorem sumTo_zero : ∀ n : Nat, sumTo (fun _ => 0) n = 0
  | 0 => rfl
  | n + 1 => by show sumTo (fun _ => 0) n + 0 = 0; rw [sumTo_zero n]; rfl
theorem sumTo_swap (F : Nat → Nat → Int) (m : Nat) : ∀ n : Nat, sumTo (fun i => sumTo (fun j => F i j) m) n = sumTo (fun j => sumTo (fun i => F i j) n) m
  | 0 => (sumTo_zero m).symm
  | n + 1 => by
    show sumTo (fun i => sumTo (fun j => F i j) m) n + sumTo (fun j => F n j) m = sumTo (fun j => sumTo (fun i => F i j) n + F n j) m
    rw [sumTo_swap F m n, sumTo_add]
theorem sumTo_shift (F : Nat → Int) (f : Nat) : ∀ m : Nat, sumTo F (f + m) = sumTo F f + sumTo (fun k => F (f + k)) m
  | 0 => by show sumTo F f = sumTo F f + 0; omega
  | m + 1 => by
    show sumTo F (f + m) + F (f + m) = sumTo F f + (sumTo (fun k => F (f + k)) m + F (f + m))
    rw [sumTo_shift F f m]; omega
/-- how many k below n lie in [lo, hi) -/
theorem sumTo_count (lo hi : Int) (h0 : 0 ≤ lo) (h1 : lo ≤ hi) : ∀ n : Nat, hi ≤ n → sumTo (fun k => if lo ≤ (k : Int) ∧ (k : Int) < hi then 1 else 0) n = hi - lo := by
  have key : ∀ n : Nat, sumTo (fun k => if lo ≤ (k : Int) ∧ (k : Int) < hi then 1 else 0) n = if (n : Int) ≤ lo then 0 else if (n : Int) ≤ hi then n - lo else hi - lo := by
    intro n
    induction n with
    | zero => rw [if_pos (by omega)]; rfl
    | succ n ih =>
      show sumTo _ n + (if lo ≤ (n : Int) ∧ (n : Int) < hi then 1 else 0) = _
      rw [ih]
      (repeat' split) <;> omega
  intro n hn
  rw [key]
  (repeat' split) <;> omega
/-! ### windows, counted -/
theorem ulen_congr {a b : List Int} (h : ∀ x, x ∈ a ↔ x ∈ b) : ulen a = ulen b := by
  have p : (uni a).Perm (uni b) := (List.perm_ext_iff_of_nodup (uni_nodup a) (uni_nodup b)).mpr fun x => by rw [mem_uni, mem_uni]; exact h x
  exact p.length_eq
theorem ulen_cons (x : Int) (ns : List Int) : ulen (x :: ns) = if x ∈ ns then ulen ns else ulen ns + 1 := by
  rw [← ulen_snoc]
  exact ulen_congr fun y => by simp [or_comm]
/-- how many unlike ones stand from f on, ahead of b -/
def wunN (ns : List Int) (f b : Nat) : Nat := ulen ((ns.drop f).take (b - f))
theorem wun_N (ns : List Int) (f b : Int) : wun ns f b = wunN ns f.toNat b.toNat := rfl
theorem wunN_none (ns : List Int) (f : Nat) : wunN ns f f = 0 := by unfold wunN; rw [Nat.sub_self, List.take_zero]; rfl
theorem wunN_up {ns : List Int} {f b : Nat} (h : f ≤ b) (hb : b < ns.length) : wunN ns f (b + 1) = wunN ns f b + if lastAt ns b (ns.getD b 0) < (f : Int) then 1 else 0 := by
  unfold wunN
  have e : (ns.drop f)[b - f]? = some (ns.getD b 0) := by rw [List.getElem?_drop, show f + (b - f) = b from by omega]; exact get_of hb
  rw [show b + 1 - f = (b - f) + 1 from by omega, take_snoc e, ulen_snoc]
  have q := last_in (ns := ns) (f := f) (k := b - f) (by omega)
  rw [show f + (b - f) = b from by omega] at q
  by_cases hl : lastAt ns b (ns.getD b 0) < (f : Int)
  · rw [if_pos hl, if_neg (fun z => q.mp z hl)]
  · rw [if_neg hl, if_pos (q.mpr hl)]; rfl
theorem next_in {ns : List Int} {p b : Nat} (hp : p < b) (hb : b ≤ ns.length) : (ns.getD p 0 ∈ (ns.drop (p + 1)).take (b - (p + 1))) ↔ ¬ (b : Int) ≤ nextUp ns p ns.length := by
  rw [mem_win]
  rcases nextUp_spec ns p ns.length (Nat.le_refl _) with ⟨e, n⟩ | ⟨v, e, h1, h2, h3, n⟩
  · constructor
    · rintro ⟨j, h1, h2, e2⟩
      exact absurd (getD_of e2) (n j (by omega) (List.getElem?_eq_some_iff.mp e2).1)
    · intro hn; omega
  · constructor
    · rintro ⟨j, h4, h5, e2⟩ hlt
      rw [e] at hlt
      exact absurd (getD_of e2) (n j (by omega) (by omega))
    · intro hn
      refine ⟨v, by omega, by omega, ?_⟩
      rw [get_of h2, h3]
theorem wunN_down {ns : List Int} {p b : Nat} (hp : p < b) (hb : b ≤ ns.length) : wunN ns p b = wunN ns (p + 1) b + if (b : Int) ≤ nextUp ns p ns.length then 1 else 0 := by
  unfold wunN
  have hl : p < ns.length := by omega
  have e : (ns.drop p).take (b - p) = ns.getD p 0 :: (ns.drop (p + 1)).take (b - (p + 1)) := by
    have e1 : ns.drop p = ns.getD p 0 :: ns.drop (p + 1) := by
      rw [List.drop_eq_getElem_cons hl, List.getD_eq_getElem?_getD, List.getElem?_eq_getElem hl]
      rfl
    rw [e1, show b - p = (b - (p + 1)) + 1 from by omega]
    rfl
  rw [e, ulen_cons]
  have q := next_in hp hb
  by_cases hc : (b : Int) ≤ nextUp ns p ns.length
  · rw [if_pos hc, if_neg (fun z => q.mp z hc)]
  · rw [if_neg hc, if_pos (q.mpr hc)]; rfl
/-- .. by the last places -/
theorem wunN_lasts {ns : List Int} {f : Nat} : ∀ b : Nat, f ≤ b → b ≤ ns.length → (wunN ns f b : Int) = sumTo (fun p => if f ≤ p ∧ lastAt ns p (ns.getD p 0) < (f : Int) then 1 else 0) b := by
  intro b hb
  obtain ⟨k, rfl⟩ : ∃ k, b = f + k := ⟨b - f, by omega⟩
  clear hb
  induction k with
  | zero =>
    intro _
    rw [Nat.add_zero, wunN_none, sumTo_congr (G := fun _ => 0) (fun k hk => if_neg (fun z => by omega)), sumTo_zero]
    rfl
  | succ k ih =>
    intro h
    rw [show f + (k + 1) = (f + k) + 1 from rfl, wunN_up (by omega) (by omega)]
    show _ = sumTo _ (f + k) + (if f ≤ f + k ∧ lastAt ns (f + k) (ns.getD (f + k) 0) < (f : Int) then 1 else 0)
    rw [← ih (by omega)]
    by_cases hl : lastAt ns (f + k) (ns.getD (f + k) 0) < (f : Int)
    · rw [if_pos hl, if_pos ⟨by omega, hl⟩]; rfl
    · rw [if_neg hl, if_neg (fun z => hl z.2)]; rfl
/-- .. by the next places -/
theorem wunN_nexts {ns : List Int} {b : Nat} (hb : b ≤ ns.length) : ∀ k f : Nat, f + k = b → (wunN ns f b : Int) = sumTo (fun j => if (b : Int) ≤ nextUp ns (f + j) ns.length then 1 else 0) k
  | 0, f, h => by rw [show f = b from h, wunN_none]; rfl
  | k + 1, f, h => by
    rw [wunN_down (by omega) hb, Int.natCast_add, wunN_nexts hb k (f + 1) (by omega)]
    have e := sumTo_shift (fun j => if (b : Int) ≤ nextUp ns (f + j) ns.length then (1 : Int) else 0) 1 k
    rw [show k + 1 = 1 + k from by omega, e]
    have e2 : sumTo (fun j => if (b : Int) ≤ nextUp ns (f + j) ns.length then (1 : Int) else 0) 1 = if (b : Int) ≤ nextUp ns f ns.length then 1 else 0 := by
      show (0 : Int) + _ = _
      rw [Int.zero_add]; rfl
    rw [e2]
    have e3 : sumTo (fun k => if (b : Int) ≤ nextUp ns (f + (1 + k)) ns.length then (1 : Int) else 0) k = sumTo (fun j => if (b : Int) ≤ nextUp ns (f + 1 + j) ns.length then (1 : Int) else 0) k := sumTo_congr fun j _ => by rw [Nat.add_assoc]
    rw [e3]
    split <;> omega
end Ur

namespace Ur
open PySem L2
theorem qint {Q : VK} {H : Hp} {i j : Int} (h : Q (.int j) H) (e : i = j) : Q (.int i) H := e ▸ h
theorem qbv {Q : VK} {H : Hp} {i j : Bool} (h : Q (.bl j) H) (e : i = j) : Q (.bl i) H := e ▸ h
theorem qbl {Q : Bool → Hp → Prop} {H : Hp} {i j : Bool} (h : Q j H) (e : i = j) : Q i H := e ▸ h
/-- where the number at p stood last, stands next -/
def lp (ns : List Int) (p : Nat) : Int := lastAt ns p (ns.getD p 0)
def nx (ns : List Int) (p : Nat) : Int := nextUp ns p ns.length
theorem lp_range (ns : List Int) (p : Nat) : -1 ≤ lp ns p ∧ lp ns p < p := lastAt_range ns _ p
theorem lastP_getD {ns : List Int} {k : Nat} (h : k < ns.length) : (lastP ns).getD k 0 = lp ns k := getD_of (lastP_get h)
theorem nextP_getD {ns : List Int} {k : Nat} (h : k < ns.length) : (nextP ns).getD k 0 = nx ns k := getD_of (nextP_get h)
theorem wun_nat (ns : List Int) {x y : Int} {i j : Nat} (hx : x = i) (hy : y = j) : (wun ns x y : Int) = wunN ns i j := by
  subst hx hy
  rfl
theorem sumTo_cut (F : Nat → Int) {b n : Nat} (h : b ≤ n) : sumTo F b = sumTo (fun p => if p < b then F p else 0) n := by
  obtain ⟨m, rfl⟩ : ∃ m, n = b + m := ⟨n - b, by omega⟩
  rw [sumTo_shift, sumTo_congr (F := fun p => if p < b then F p else 0) (G := F) (fun k hk => if_pos hk), sumTo_congr (F := fun k => if b + k < b then F (b + k) else 0) (G := fun _ => 0) (fun k _ => if_neg (by omega)), sumTo_zero]
  omega
/-- Σ over k below n of c, where lo ≤ k < hi -/
theorem sumTo_some (c lo hi : Int) (h0 : 0 ≤ lo) (h1 : lo ≤ hi) {n : Nat} (hn : hi ≤ n) : sumTo (fun k => if lo ≤ (k : Int) ∧ (k : Int) < hi then c else 0) n = (hi - lo) * c := by
  rw [← sumTo_count lo hi h0 h1 n hn, ← sumTo_mul]
  exact sumTo_congr fun k _ => by split <;> simp
/-- the windows from i on, together -/
def herF (ns : List Int) (i : Nat) : Int := sumTo (fun p => if i ≤ p ∧ lp ns p < (i : Int) then (ns.length : Int) - p else 0) ns.length
theorem her_wins {ns : List Int} {i : Nat} (hi : i ≤ ns.length) : sumTo (fun k => (wunN ns i (i + k) : Int)) (ns.length + 1 - i) = herF ns i := by
  have e1 : sumTo (fun k => (wunN ns i (i + k) : Int)) (ns.length + 1 - i) = sumTo (fun k => sumTo (fun p => if p < i + k then (if i ≤ p ∧ lp ns p < (i : Int) then (1 : Int) else 0) else 0) ns.length) (ns.length + 1 - i) :=
    sumTo_congr fun k hk => by rw [wunN_lasts (i + k) (by omega) (by omega), sumTo_cut _ (show i + k ≤ ns.length by omega)]; rfl
  rw [e1, sumTo_swap]
  refine sumTo_congr fun p hp => ?_
  by_cases h : i ≤ p ∧ lp ns p < (i : Int)
  · rw [if_pos h]
    rw [sumTo_congr (G := fun k => if ((p + 1 - i : Nat) : Int) ≤ (k : Int) ∧ (k : Int) < ((ns.length + 1 - i : Nat) : Int) then 1 else 0) (fun k hk => ?_), sumTo_count _ _ (by omega) (by omega) _ (Int.le_refl _)]
    · omega
    · have := h.1
      by_cases q : p < i + k
      · rw [if_pos q, if_pos ⟨by omega, by omega⟩]
      · rw [if_neg q, if_neg (fun z => by omega)]
  · simp only [if_neg h]
    rw [sumTo_congr (G := fun _ => 0) (fun k _ => by simp), sumTo_zero]
theorem her_firsts {ns : List Int} {i : Nat} (hi : i ≤ ns.length) : sumTo (fun k => if decide (lp ns (i + k) < (i : Int)) = true then (ns.length : Int) - ((i + k : Nat) : Int) else 0) (ns.length - i) = herF ns i := by
  unfold herF
  have e := sumTo_shift (fun p => if i ≤ p ∧ lp ns p < (i : Int) then (ns.length : Int) - (p : Int) else 0) i (ns.length - i)
  rw [show i + (ns.length - i) = ns.length from by omega] at e
  rw [e, sumTo_congr (n := i) (G := fun _ => 0) (fun k hk => if_neg (fun z => by omega)), sumTo_zero, Int.zero_add]
  refine sumTo_congr fun k _ => ?_
  by_cases h : lp ns (i + k) < (i : Int)
  · rw [if_pos (decide_eq_true h), if_pos ⟨by omega, h⟩]
  · rw [if_neg (by rw [decide_eq_false h]; exact Bool.false_ne_true), if_neg (fun z => h z.2)]
theorem her_all (ns : List Int) : sumTo (herF ns) (ns.length + 1) = sumTo (fun p => ((p : Int) - lp ns p) * ((ns.length : Int) - p)) ns.length := by
  show sumTo (fun i => sumTo (fun p => if i ≤ p ∧ lp ns p < (i : Int) then (ns.length : Int) - p else 0) ns.length) (ns.length + 1) = _
  rw [sumTo_swap]
  refine sumTo_congr fun p hp => ?_
  have hr := lp_range ns p
  rw [sumTo_congr (G := fun i => if lp ns p + 1 ≤ (i : Int) ∧ (i : Int) < (p : Int) + 1 then (ns.length : Int) - p else 0) (fun i _ => ?_), sumTo_some _ _ _ (by omega) (by omega) (by omega)]
  · rw [show (p : Int) + 1 - (lp ns p + 1) = (p : Int) - lp ns p from by omega]
  · by_cases h : i ≤ p ∧ lp ns p < (i : Int)
    · rw [if_pos h, if_pos ⟨by omega, by omega⟩]
    · rw [if_neg h, if_neg (fun z => h ⟨by omega, by omega⟩)]
theorem end_wins {ns : List Int} {b : Nat} (hb : b ≤ ns.length) : sumTo (fun f => (wunN ns f b : Int)) (b + 1) = sumTo (fun p => if decide ((b : Int) ≤ nx ns p) = true then (p : Int) + 1 else 0) b := by
  have e1 : sumTo (fun f => (wunN ns f b : Int)) (b + 1) = sumTo (fun f => sumTo (fun p => if f ≤ p then (if (b : Int) ≤ nx ns p then (1 : Int) else 0) else 0) b) (b + 1) :=
    sumTo_congr fun f hf => by
      rw [wunN_nexts hb (b - f) f (by omega)]
      have e := sumTo_shift (fun p => if f ≤ p then (if (b : Int) ≤ nx ns p then (1 : Int) else 0) else 0) f (b - f)
      rw [show f + (b - f) = b from by omega] at e
      rw [e, sumTo_congr (n := f) (G := fun _ => 0) (fun k hk => if_neg (by omega)), sumTo_zero, Int.zero_add]
      exact sumTo_congr fun k _ => (if_pos (by omega)).symm
  rw [e1, sumTo_swap]
  refine sumTo_congr fun p hp => ?_
  by_cases h : (b : Int) ≤ nx ns p
  · rw [if_pos (decide_eq_true h)]
    rw [sumTo_congr (G := fun f => if (0 : Int) ≤ (f : Int) ∧ (f : Int) < (p : Int) + 1 then 1 else 0) (fun f _ => ?_), sumTo_count _ _ (by omega) (by omega) _ (by omega)]
    · omega
    · by_cases q : f ≤ p
      · rw [if_pos q, if_pos h, if_pos ⟨by omega, by omega⟩]
      · rw [if_neg q, if_neg (fun z => by omega)]
  · have hd : ¬ decide ((b : Int) ≤ nx ns p) = true := by simp [h]
    rw [if_neg hd]
    simp only [if_neg h]
    rw [sumTo_congr (G := fun _ => 0) (fun k _ => by simp), sumTo_zero]
end Ur

namespace Ur
open PySem L2
/-! ### ends and begins -/
def optV : Option Nat → V
  | none => .non
  | some b => .int (b : Nat)
/-- the least behind with m unlike ones, from k places ahead of the row's end on -/
def endK (ns : List Int) (f : Nat) (m : Int) : Nat → Option Nat
  | 0 => if m ≤ (wunN ns f ns.length : Int) then some ns.length else none
  | k + 1 => if m ≤ (wunN ns f (ns.length - (k + 1)) : Int) then some (ns.length - (k + 1)) else endK ns f m k
def endAt (ns : List Int) (f : Nat) (m : Int) : Option Nat := endK ns f m (ns.length - f)
theorem endK_yes {ns : List Int} {f k : Nat} {m : Int} (h : m ≤ (wunN ns f (ns.length - k) : Int)) : endK ns f m k = some (ns.length - k) := by
  cases k with
  | zero => exact if_pos h
  | succ k => exact if_pos h
theorem endK_no {ns : List Int} {f k : Nat} {m : Int} (h : ¬ m ≤ (wunN ns f (ns.length - (k + 1)) : Int)) : endK ns f m (k + 1) = endK ns f m k := if_neg h
theorem endK_none {ns : List Int} {f : Nat} {m : Int} (h : ¬ m ≤ (wunN ns f ns.length : Int)) : endK ns f m 0 = none := if_neg h
/-- the greatest first, from g on down -/
def begK (ns : List Int) (b : Nat) (m : Int) : Nat → Option Nat
  | 0 => if m ≤ (wunN ns 0 b : Int) then some 0 else none
  | g + 1 => if m ≤ (wunN ns (g + 1) b : Int) then some (g + 1) else begK ns b m g
def begAt (ns : List Int) (b : Nat) (m : Int) : Option Nat := begK ns b m b
theorem begK_yes {ns : List Int} {b g : Nat} {m : Int} (h : m ≤ (wunN ns g b : Int)) : begK ns b m g = some g := by
  cases g with
  | zero => exact if_pos h
  | succ g => exact if_pos h
theorem begK_no {ns : List Int} {b g : Nat} {m : Int} (h : ¬ m ≤ (wunN ns (g + 1) b : Int)) : begK ns b m (g + 1) = begK ns b m g := if_neg h
theorem begK_none {ns : List Int} {b : Nat} {m : Int} (h : ¬ m ≤ (wunN ns 0 b : Int)) : begK ns b m 0 = none := if_neg h
theorem wunN_step {ns : List Int} {f b : Nat} (h : f ≤ b) (hb : b < ns.length) : wunN ns f b ≤ wunN ns f (b + 1) ∧ wunN ns f (b + 1) ≤ wunN ns f b + 1 := by
  rw [wunN_up h hb]
  split <;> omega
theorem wunN_stepD {ns : List Int} {f b : Nat} (h : f < b) (hb : b ≤ ns.length) : wunN ns (f + 1) b ≤ wunN ns f b ∧ wunN ns f b ≤ wunN ns (f + 1) b + 1 := by
  rw [wunN_down h hb]
  split <;> omega
theorem wunN_monoB {ns : List Int} {f : Nat} : ∀ {k b : Nat}, f ≤ b → b + k ≤ ns.length → wunN ns f b ≤ wunN ns f (b + k)
  | 0, _, _, _ => Nat.le_refl _
  | k + 1, b, h, hb => Nat.le_trans (wunN_monoB (k := k) h (by omega)) (wunN_step (b := b + k) (by omega) (by omega)).1
theorem wunN_monoF {ns : List Int} {b : Nat} (hb : b ≤ ns.length) : ∀ {k f : Nat}, f + k ≤ b → wunN ns (f + k) b ≤ wunN ns f b
  | 0, _, _ => Nat.le_refl _
  | k + 1, f, h => Nat.le_trans (wunN_stepD (f := f + k) (by omega) hb).1 (wunN_monoF hb (k := k) (by omega))
/-- what an end is -/
theorem endK_spec {ns : List Int} {f : Nat} {m : Int} : ∀ k : Nat, k ≤ ns.length →
    (endK ns f m k = none ∧ ∀ b, ns.length - k ≤ b → b ≤ ns.length → ¬ m ≤ (wunN ns f b : Int)) ∨
    ∃ e, endK ns f m k = some e ∧ ns.length - k ≤ e ∧ e ≤ ns.length ∧ m ≤ (wunN ns f e : Int) ∧ ∀ b, ns.length - k ≤ b → b < e → ¬ m ≤ (wunN ns f b : Int)
  | 0, _ => by
    by_cases h : m ≤ (wunN ns f ns.length : Int)
    · exact .inr ⟨ns.length, if_pos h, Nat.le_refl _, Nat.le_refl _, h, fun b h1 h2 => absurd h1 (by omega)⟩
    · refine .inl ⟨if_neg h, fun b h1 h2 => ?_⟩
      rw [show b = ns.length from by omega]
      exact h
  | k + 1, hk => by
    by_cases h : m ≤ (wunN ns f (ns.length - (k + 1)) : Int)
    · exact .inr ⟨ns.length - (k + 1), if_pos h, Nat.le_refl _, by omega, h, fun b h1 h2 => absurd h1 (by omega)⟩
    · have er := endK_no h
      rcases endK_spec (ns := ns) (f := f) (m := m) k (by omega) with ⟨e1, e2⟩ | ⟨e, e1, e2, e3, e4, e5⟩
      · refine .inl ⟨er.trans e1, fun b h1 h2 => ?_⟩
        by_cases q : b = ns.length - (k + 1)
        · rw [q]; exact h
        · exact e2 b (by omega) h2
      · refine .inr ⟨e, er.trans e1, by omega, e3, e4, fun b h1 h2 => ?_⟩
        by_cases q : b = ns.length - (k + 1)
        · rw [q]; exact h
        · exact e5 b (by omega) h2
theorem endAt_spec {ns : List Int} {f : Nat} {m : Int} (hf : f ≤ ns.length) :
    (endAt ns f m = none ∧ ∀ b, f ≤ b → b ≤ ns.length → ¬ m ≤ (wunN ns f b : Int)) ∨
    ∃ e, endAt ns f m = some e ∧ f ≤ e ∧ e ≤ ns.length ∧ m ≤ (wunN ns f e : Int) ∧ ∀ b, f ≤ b → b < e → ¬ m ≤ (wunN ns f b : Int) := by
  have h := endK_spec (ns := ns) (f := f) (m := m) (ns.length - f) (by omega)
  rw [show ns.length - (ns.length - f) = f from by omega] at h
  exact h
theorem begK_spec {ns : List Int} {b : Nat} {m : Int} : ∀ g : Nat,
    (begK ns b m g = none ∧ ∀ j, j ≤ g → ¬ m ≤ (wunN ns j b : Int)) ∨
    ∃ e, begK ns b m g = some e ∧ e ≤ g ∧ m ≤ (wunN ns e b : Int) ∧ ∀ j, e < j → j ≤ g → ¬ m ≤ (wunN ns j b : Int)
  | 0 => by
    by_cases h : m ≤ (wunN ns 0 b : Int)
    · exact .inr ⟨0, if_pos h, Nat.le_refl _, h, fun j h1 h2 => absurd h1 (by omega)⟩
    · refine .inl ⟨if_neg h, fun j h1 => ?_⟩
      rw [show j = 0 from by omega]
      exact h
  | g + 1 => by
    by_cases h : m ≤ (wunN ns (g + 1) b : Int)
    · exact .inr ⟨g + 1, if_pos h, Nat.le_refl _, h, fun j h1 h2 => absurd h1 (by omega)⟩
    · have er := begK_no h
      rcases begK_spec (ns := ns) (b := b) (m := m) g with ⟨e1, e2⟩ | ⟨e, e1, e2, e3, e4⟩
      · refine .inl ⟨er.trans e1, fun j h1 => ?_⟩
        by_cases q : j = g + 1
        · rw [q]; exact h
        · exact e2 j (by omega)
      · refine .inr ⟨e, er.trans e1, by omega, e3, fun j h1 h2 => ?_⟩
        by_cases q : j = g + 1
        · rw [q]; exact h
        · exact e4 j h1 (by omega)
/-- an end by what it is -/
theorem endAt_is {ns : List Int} {f e : Nat} {m : Int} (h1 : f ≤ e) (h2 : e ≤ ns.length) (h3 : m ≤ (wunN ns f e : Int)) (h4 : ∀ b, f ≤ b → b < e → ¬ m ≤ (wunN ns f b : Int)) : endAt ns f m = some e := by
  rcases endAt_spec (ns := ns) (f := f) (m := m) (by omega) with ⟨_, e2⟩ | ⟨e', e1, g1, g2, g3, g4⟩
  · exact absurd h3 (e2 e h1 h2)
  · rcases Nat.lt_trichotomy e e' with k | k | k
    · exact absurd h3 (g4 e h1 k)
    · rw [e1, k]
    · exact absurd g3 (h4 e' g1 k)
/-- at an end there are just so many, one ahead of it one less -/
theorem end_just {ns : List Int} {f e : Nat} {m : Int} (h0 : 0 ≤ m) (h1 : f ≤ e) (h2 : e ≤ ns.length) (h3 : m ≤ (wunN ns f e : Int)) (h4 : ∀ b, f ≤ b → b < e → ¬ m ≤ (wunN ns f b : Int)) :
    (wunN ns f e : Int) = m ∧ (0 < m → f < e ∧ (wunN ns f (e - 1) : Int) = m - 1) := by
  by_cases h : f = e
  · rw [← h] at h3 ⊢
    rw [wunN_none] at h3 ⊢
    refine ⟨by omega, fun k => by omega⟩
  · have hb := h4 (e - 1) (by omega) (by omega)
    have hs := wunN_step (ns := ns) (f := f) (b := e - 1) (by omega) (by omega)
    rw [show e - 1 + 1 = e from by omega] at hs
    refine ⟨by omega, fun k => ⟨by omega, by omega⟩⟩
theorem beg_just {ns : List Int} {g b : Nat} {m : Int} (h0 : 0 ≤ m) (h1 : g ≤ b) (h2 : b ≤ ns.length) (h3 : m ≤ (wunN ns g b : Int)) (h4 : ∀ j, g < j → j ≤ b → ¬ m ≤ (wunN ns j b : Int)) :
    (wunN ns g b : Int) = m ∧ (0 < m → g < b ∧ (wunN ns (g + 1) b : Int) = m - 1) := by
  by_cases h : g = b
  · rw [← h] at h3 ⊢
    rw [wunN_none] at h3 ⊢
    refine ⟨by omega, fun k => by omega⟩
  · have hb := h4 (g + 1) (by omega) (by omega)
    have hs := wunN_stepD (ns := ns) (f := g) (b := b) (by omega) h2
    refine ⟨by omega, fun k => ⟨by omega, by omega⟩⟩
end Ur
namespace Ur
open PySem L2
theorem wunN_all (ns : List Int) : wunN ns 0 ns.length = ulen ns := by
  unfold wunN
  rw [List.drop_zero, Nat.sub_zero, List.take_length]
theorem wunN_le {ns : List Int} {f b : Nat} (h : f ≤ b) (hb : b ≤ ns.length) : wunN ns f b ≤ ulen ns := by
  have h1 := wunN_monoB (ns := ns) (f := f) (b := b) (k := ns.length - b) h (by omega)
  rw [show b + (ns.length - b) = ns.length from by omega] at h1
  have h2 := wunN_monoF (ns := ns) (b := ns.length) (Nat.le_refl _) (k := f) (f := 0) (by omega)
  rw [Nat.zero_add, wunN_all] at h2
  omega
theorem end_more (ns : List Int) : endAt ns 0 ((ulen ns : Nat) + 1 : Int) = none := by
  rcases endAt_spec (ns := ns) (f := 0) (m := (ulen ns : Nat) + 1) (Nat.zero_le _) with ⟨e1, _⟩ | ⟨e, _, h1, h2, h3, _⟩
  · exact e1
  · have := wunN_le h1 h2
    omega
theorem beg_more (ns : List Int) : begAt ns ns.length ((ulen ns : Nat) + 1 : Int) = none := by
  rcases begK_spec (ns := ns) (b := ns.length) (m := (ulen ns : Nat) + 1) ns.length with ⟨e1, _⟩ | ⟨e, _, h1, h2, _⟩
  · exact e1
  · have := wunN_le h1 (Nat.le_refl _)
    omega
theorem rgV_ints {b : Int} {n : Nat} (h : b = n) : rgV 0 b = ((List.range n).map fun k => ((k : Nat) : Int)).map V.int := by
  subst h
  unfold rgV
  rw [List.map_map, Int.sub_zero, Int.toNat_natCast]
  exact List.map_congr_left fun k _ => by rw [Int.zero_add]; rfl
end Ur
namespace Ur
open PySem L2
theorem inV_int {ns : List Int} {x : Int} : inV (.int x) (ns.map V.int) = decide (x ∈ ns) := by
  unfold inV
  rw [List.any_map, Bool.eq_iff_iff, List.any_eq_true, decide_eq_true_iff]
  constructor
  · rintro ⟨y, hy, e⟩
    have e2 : (y == x) = true ∨ (x == y) = true := by first | exact Or.inl e | exact Or.inr e
    rcases e2 with e2 | e2
    · exact eq_of_beq e2 ▸ hy
    · exact (eq_of_beq e2).symm ▸ hy
  · intro h
    refine ⟨x, h, ?_⟩
    exact beq_self_eq_true x
theorem in_int {K : PySem.W.Frag} {H : Hp} {a : Addr} {ns : List Int} {x : Int} {Q : VK} (h : SqL K H a (ns.map V.int)) (q : Q (.bl (decide (x ∈ ns))) H) : rIn K false (.int x) (.ref a) H Q :=
  ⟨a, _, rfl, .inl h, rfl, by rw [List.all_map]; exact List.all_eq_true.mpr fun _ _ => rfl, by rw [inV_int]; exact q⟩
theorem notin_int {K : PySem.W.Frag} {H : Hp} {a : Addr} {ns : List Int} {x : Int} {Q : VK} (h : SqL K H a (ns.map V.int)) (q : Q (.bl (!decide (x ∈ ns))) H) : rIn K true (.int x) (.ref a) H Q :=
  ⟨a, _, rfl, .inl h, rfl, by rw [List.all_map]; exact List.all_eq_true.mpr fun _ _ => rfl, by rw [inV_int]; exact q⟩
/-! ### from behind -/
theorem ulen_rev (ns : List Int) : ulen ns.reverse = ulen ns := ulen_congr fun x => List.mem_reverse
theorem wunN_rev {ns : List Int} {b j : Nat} (hj : j ≤ b) (hb : b ≤ ns.length) : wunN (ns.take b).reverse 0 j = wunN ns (b - j) b := by
  unfold wunN
  rw [List.drop_zero, Nat.sub_zero, List.take_reverse, ulen_rev]
  rw [List.length_take, Nat.min_eq_left hb, show b - (b - j) = j from by omega, List.drop_take, show b - (b - j) = j from by omega]
theorem begAt_is {ns : List Int} {b e : Nat} {m : Int} (h1 : e ≤ b) (h3 : m ≤ (wunN ns e b : Int)) (h4 : ∀ j, e < j → j ≤ b → ¬ m ≤ (wunN ns j b : Int)) : begAt ns b m = some e := by
  rcases begK_spec (ns := ns) (b := b) (m := m) b with ⟨_, e2⟩ | ⟨e', e1, g1, g2, g3⟩
  · exact absurd h3 (e2 e h1)
  · rcases Nat.lt_trichotomy e e' with k | k | k
    · exact absurd g2 (h4 e' k g1)
    · exact e1.trans (by rw [k])
    · exact absurd h3 (g3 e k h1)
theorem begAt_rev {ns : List Int} {b : Nat} {m : Int} (hb : b ≤ ns.length) :
    (endAt (ns.take b).reverse 0 m = none ∧ begAt ns b m = none) ∨ ∃ e, endAt (ns.take b).reverse 0 m = some e ∧ e ≤ b ∧ begAt ns b m = some (b - e) := by
  have hl : (ns.take b).reverse.length = b := by rw [List.length_reverse, List.length_take]; omega
  rcases endAt_spec (ns := (ns.take b).reverse) (f := 0) (m := m) (Nat.zero_le _) with ⟨e1, e2⟩ | ⟨e, e1, h1, h2, h3, h4⟩
  · refine .inl ⟨e1, ?_⟩
    rcases begK_spec (ns := ns) (b := b) (m := m) b with ⟨k, _⟩ | ⟨g, _, g1, g2, _⟩
    · exact k
    · have := e2 (b - g) (Nat.zero_le _) (by omega)
      rw [wunN_rev (by omega) hb, show b - (b - g) = g from by omega] at this
      exact absurd g2 this
  · rw [hl] at h2
    refine .inr ⟨e, e1, h2, begAt_is (by omega) ?_ fun j k1 k2 => ?_⟩
    · rw [wunN_rev h2 hb] at h3
      exact h3
    · have := h4 (b - j) (Nat.zero_le _) (by omega)
      rw [wunN_rev (by omega) hb, show b - (b - j) = j from by omega] at this
      exact this
theorem endAt_0 {ns : List Int} {f : Nat} (h : f ≤ ns.length) : endAt ns f 0 = some f := endAt_is (Nat.le_refl f) h (by omega) fun b h1 h2 => absurd h1 (by omega)
theorem begAt_0 (ns : List Int) (b : Nat) : begAt ns b 0 = some b := begAt_is (Nat.le_refl b) (by omega) fun j h1 h2 => absurd h1 (by omega)
/-- the unlike ones of a window, one more -/
theorem uni_up {ns : List Int} {f b : Nat} {x : Int} (h : f ≤ b) (e : ns[b]? = some x) : uni ((ns.drop f).take (b + 1 - f)) = if x ∈ uni ((ns.drop f).take (b - f)) then uni ((ns.drop f).take (b - f)) else uni ((ns.drop f).take (b - f)) ++ [x] := by
  have e1 : (ns.drop f)[b - f]? = some x := by rw [List.getElem?_drop, show f + (b - f) = b from by omega]; exact e
  rw [show b + 1 - f = (b - f) + 1 from by omega, take_snoc e1, uni_snoc]
  by_cases k : x ∈ (ns.drop f).take (b - f)
  · rw [if_pos k, if_pos ((mem_uni _ x).mpr k)]
  · rw [if_neg k, if_neg (fun z => k ((mem_uni _ x).mp z))]
end Ur
namespace Ur
open PySem L2
/-- None or a whole number -/
structure IsO (v : V) : Prop where
  or : v = .non ∨ ∃ i : Int, v = .int i
theorem IsO.opt (x : Option Nat) : IsO (optV x) := by
  cases x with
  | none => exact ⟨.inl rfl⟩
  | some b => exact ⟨.inr ⟨_, rfl⟩⟩
end Ur

namespace Ur
open PySem L2
/-! ### xs[::c] -/
theorem vals_pick {xs : List V} {us : List Value} (r : Vals xs us) : ∀ ids : List Nat, Vals (ids.filterMap fun i => xs[i]?) (ids.filterMap fun i => us.toArray[i]?)
  | [] => .nil
  | i :: ids => by
    have hl := Vals.length r
    have e2 : us.toArray[i]? = us[i]? := by simp
    cases h : xs[i]? with
    | none =>
      have h2 : us[i]? = none := by
        rw [List.getElem?_eq_none_iff] at h ⊢
        omega
      rw [List.filterMap_cons_none h, List.filterMap_cons_none (by rw [e2, h2])]
      exact vals_pick r ids
    | some x =>
      obtain ⟨u, h2, h3⟩ := r.get h
      rw [List.filterMap_cons_some h, List.filterMap_cons_some (b := u) (by rw [e2, h2])]
      exact .cons h3 (vals_pick r ids)
def tStep (K : PySem.W.Frag) (te : TE) : TE := fun σ H Q => te σ H fun x H1 => ∃ a xs, x = .ref a ∧ SqL K H1 a xs ∧ ∀ p ys, (∀ y ∈ ys, y ∈ xs) → ys.length ≤ xs.length → H1 p = none → Q (.ref p) (upd H1 p (.lst ys))
open PySem.Spec PyProof.Rows in
theorem pe_step2 {X : Cx} {e : Expr} {te : TE} {k : Nat} {p1 p3 pos : Pos} (he : PE X e te) : PE X (.Subscript e (.Slice none none (some (.Constant (.int 2) k p1)) p3) pos) (tStep X.K te) := by
  refine ⟨fun pins s σ H Q I h => ?_⟩
  refine Subscript_ (thn (he.run pins s σ H _ I h) fun v s1 ⟨x, H1, I1, r1, q1⟩ => ?_)
  obtain ⟨a, xs, ex, hx, q⟩ := q1
  subst ex
  cases r1
  have hst : PO X (some (.Constant (.int 2) k p1)) (tPart (tC (.int 2))) := po_some pe_int
  refine wpAny_Slice (thn (po_none.run pins s1 σ H1 (fun o H2 => o = none ∧ H2 = H1) I1 ⟨rfl, rfl⟩) fun vl s2 ⟨l, H2, I2, pl, el, e2⟩ => ?_)
  subst el e2
  refine thn (po_none.run pins s2 σ H2 (fun o H3 => o = none ∧ H3 = H2) I2 ⟨rfl, rfl⟩) fun vu s3 ⟨u, H3, I3, pu, eu, e3⟩ => ?_
  subst eu e3
  refine thn (hst.run pins s3 σ H3 (fun o H4 => o = some 2 ∧ H4 = H3) I3 ⟨2, rfl, rfl, rfl⟩) fun vs s4 ⟨o, H4, I4, ps, eo, e4⟩ => ?_
  subst eo e4
  have I5 : Inv X pins σ H4 { s4 with heap := s4.heap.push { cls := .type "slice", data := .fields #[vl, vu, vs] } } := I4.kept (t' := s4.toks) fun b ob q => Heap.get?_push_of_some _ q
  obtain ⟨its, r, ht, hz⟩ := I5.list hx
  have hlen := r.length
  show wpAny (model X.prog X.w) X.A (subscriptTail e (.Slice none none (some (.Constant (.int 2) k p1)) p3) (.ref a) (.ref s4.heap.objs.size)) (EP X pins σ Q) X.xe { s4 with heap := s4.heap.push { cls := .type "slice", data := .fields #[vl, vu, vs] } }
  refine tail_any (ops := [.ref a, .ref s4.heap.objs.size]) ht.isList.typeIs (PySem.slot_list_getitem.lookup) ?_ (by with_unfolding_all rfl)
  refine wpAny_getItem_list_slice ht.isList (Heap.IsSliceOf.new _ vl vu vs) pl pu ps (by decide) ?_ (by rw [List.size_toArray]; omega)
  have hid : ∀ n : Nat, (sliceRange (sliceBounds none none (some 2) n).1 (sliceBounds none none (some 2) n).2.1 (sliceBounds none none (some 2) n).2.2).length ≤ n := fun n => by
    have e : sliceBounds none none (some 2) n = (0, (n : Int), 2) := by simp [sliceBounds]
    rw [e]
    exact sliceRange_length_le 0 n 2 n (fun _ => ⟨by omega, by omega⟩) (fun h => absurd (by decide) h)
  have hid2 := hid its.toArray.size
  unfold slicePick
  generalize hI : sliceRange (sliceBounds none none (some 2) its.toArray.size).1 (sliceBounds none none (some 2) its.toArray.size).2.1 (sliceBounds none none (some 2) its.toArray.size).2.2 = ids at hid2
  have hv := vals_pick r ids
  have hly : (ids.filterMap fun i => xs[i]?).length ≤ xs.length := by
    refine Nat.le_trans (List.length_filterMap_le _ _) ?_
    rw [List.size_toArray] at hid2
    omega
  refine ⟨.ref _, _, I5.laid (t' := s4.toks) (o := .lst (ids.filterMap fun i => xs[i]?)) (fun b ob q => Heap.get?_push_of_some _ q) (Nat.le_refl _) ?_, rfl, q _ _ (fun y hy => ?_) hly (I5.hok.fresh (Nat.le_refl _))⟩
  · exact ⟨by omega, _, 0, hv, Heap.get?_push_size _ rfl⟩
  · obtain ⟨i, _, e⟩ := List.mem_filterMap.mp hy
    exact List.mem_of_getElem? e
end Ur

namespace Ur
open PySem L2
/-! ### windows that were drawn -/
/-- at t a window of a row of n -/
structure WinAt (n : Int) (H : Hp) (t : Addr) : Prop where
  at_ : ∃ f b : Int, H t = some (.tup [.int f, .int b]) ∧ 0 ≤ f ∧ f ≤ b ∧ b ≤ n
theorem WinAt.same {n : Int} {H H' : Hp} {t : Addr} (w : WinAt n H t) (s : Same H H') : WinAt n H' t := by
  obtain ⟨f, b, e, h⟩ := w.at_
  exact ⟨f, b, s _ _ e, h⟩
theorem WinAt.but {n : Int} {H H' : Hp} {t a : Addr} {xs : List V} (w : WinAt n H t) (s : But a H H') (ha : H a = some (.lst xs)) : WinAt n H' t := by
  obtain ⟨f, b, e, h⟩ := w.at_
  exact ⟨f, b, s _ _ (fun k => by rw [k, ha] at e; cases e) e, h⟩
theorem WinAt.upd {n : Int} {H : Hp} {t a : Addr} {xs : List V} {o : HO} (w : WinAt n H t) (ha : H a = some (.lst xs)) : WinAt n (upd H a o) t := by
  obtain ⟨f, b, e, h⟩ := w.at_
  exact ⟨f, b, by rw [upd_ne (fun k => by rw [k, ha] at e; cases e)]; exact e, h⟩
end Ur

namespace Ur
open PySem L2
/-! ### lists of last places -/
theorem lastAt_succ (ns : List Int) (i : Nat) (x : Int) : lastAt ns (i + 1) x = if ns.getD i 0 = x then (i : Int) else lastAt ns i x := rfl
theorem getD_app {r s : List Int} {j : Nat} (h : j < r.length) : (r ++ s).getD j 0 = r.getD j 0 := by
  rw [List.getD_eq_getElem?_getD, List.getD_eq_getElem?_getD, List.getElem?_append_left h]
theorem lastAt_app {r s : List Int} {x : Int} : ∀ {i : Nat}, i ≤ r.length → lastAt (r ++ s) i x = lastAt r i x
  | 0, _ => rfl
  | i + 1, h => by rw [lastAt_succ, lastAt_succ, getD_app h, lastAt_app (Nat.le_of_lt h)]
theorem lastP_snoc (r : List Int) (x : Int) : lastP (r ++ [x]) = lastP r ++ [lastAt r r.length x] := by
  have hl : (r ++ [x]).length = r.length + 1 := by rw [List.length_append]; rfl
  have h := lastP_take (ns := r ++ [x]) (i := r.length) (by omega)
  have e1 : (lastP (r ++ [x])).take (r.length + 1) = lastP (r ++ [x]) := by rw [← hl, ← lastP_len, List.take_length]
  have e2 : (lastP (r ++ [x])).take r.length = lastP r := by
    refine List.ext_getElem? fun k => ?_
    by_cases hk : k < r.length
    · rw [List.getElem?_take, if_pos hk, lastP_get (by omega), lastP_get hk, getD_app hk, lastAt_app (Nat.le_of_lt hk)]
    · rw [List.getElem?_take, if_neg hk, List.getElem?_eq_none (by rw [lastP_len]; omega)]
  have e3 : (r ++ [x]).getD r.length 0 = x := by
    rw [List.getD_eq_getElem?_getD, List.getElem?_append_right (Nat.le_refl _), Nat.sub_self]; rfl
  rw [e1, e2, e3, lastAt_app (Nat.le_refl _)] at h
  exact h
theorem lastAt_not {r : List Int} {x : Int} (h : x ∉ r) : lastAt r r.length x = -1 := by
  rcases lastAt_spec r x r.length with ⟨e, _⟩ | ⟨v, _, h1, h2, _⟩
  · exact e
  · exact absurd (h2 ▸ List.mem_of_getElem? (get_of h1)) h
theorem fresh_int (r : List Int) : ∃ x : Int, x ∉ r := by
  have k : ∀ r : List Int, ∃ b : Int, ∀ y ∈ r, y < b := by
    intro r
    induction r with
    | nil => exact ⟨0, fun y h => nomatch h⟩
    | cons z r ih =>
      obtain ⟨b, hb⟩ := ih
      refine ⟨max b (z + 1), fun y hy => ?_⟩
      rcases List.mem_cons.mp hy with e | e
      · rw [e]; omega
      · have := hb y e; omega
  obtain ⟨b, hb⟩ := k r
  exact ⟨b, fun h => absurd (hb b h) (by omega)⟩
/-- a list of last places, one more: a new number -/
theorem lasts_new (r : List Int) : ∃ x, lastP (r ++ [x]) = lastP r ++ [-1] := by
  obtain ⟨x, hx⟩ := fresh_int r
  exact ⟨x, by rw [lastP_snoc, lastAt_not hx]⟩
/-- .. or that of a place that is none yet -/
theorem lasts_old {r : List Int} {l : Nat} (hl : l < r.length) (hn : (l : Int) ∉ lastP r) : lastP (r ++ [r.getD l 0]) = lastP r ++ [(l : Int)] := by
  rw [lastP_snoc]
  have e : lastAt r r.length (r.getD l 0) = l := by
    refine lastAt_uniq (.inr ⟨l, rfl, hl, rfl⟩) fun j hj hx => ?_
    by_cases h : j ≤ l
    · omega
    · exfalso
      have key : ∀ d j, j = l + 1 + d → j < r.length → r.getD j 0 = r.getD l 0 → False := by
        intro d
        induction d using Nat.strongRecOn with
        | _ d ih =>
          intro j hjd hj hx
          refine hn ?_
          have hg := lastP_get hj
          have : lastAt r j (r.getD j 0) = l := by
            rw [hx]
            refine lastAt_uniq (.inr ⟨l, rfl, by omega, rfl⟩) fun i hi hxi => ?_
            by_cases q : i ≤ l
            · omega
            · exact (ih (i - (l + 1)) (by omega) i (by omega) (by omega) hxi).elim
          rw [this] at hg
          exact List.mem_of_getElem? hg
      exact key (j - (l + 1)) j (by omega) hj hx
  rw [e]
/-- what a last place is -/
theorem lastP_ok {r : List Int} {i : Nat} {l : Int} (h : (lastP r)[i]? = some l) : -1 ≤ l ∧ l < i ∧ (0 ≤ l → l ∉ (lastP r).take i) := by
  have hi : i < r.length := by
    have := (List.getElem?_eq_some_iff.mp h).1
    rwa [lastP_len] at this
  have e := lastP_get hi
  rw [h] at e
  have e := Option.some.inj e
  have hr := lastAt_range r (r.getD i 0) i
  refine ⟨by omega, by omega, fun h0 hm => ?_⟩
  obtain ⟨j, hj⟩ := List.mem_iff_getElem?.mp hm
  rw [List.getElem?_take] at hj
  by_cases q : j < i
  · rw [if_pos q, lastP_get (by omega)] at hj
    have e2 := Option.some.inj hj
    rcases lastAt_spec r (r.getD i 0) i with ⟨k, _⟩ | ⟨v, k1, k2, k3, k4⟩
    · omega
    · rcases lastAt_spec r (r.getD j 0) j with ⟨m, _⟩ | ⟨w, m1, m2, m3, _⟩
      · omega
      · have hvw : v = w := by omega
        exact k4 j (by omega) q (by rw [← m3, ← hvw, k3])
  · rw [if_neg q] at hj; cases hj
theorem lastP_map {f : Int → Int} {r : List Int} (h : InjOn f r) : lastP (r.map f) = lastP r := by
  have g : ∀ j, j < r.length → (r.map f).getD j 0 = f (r.getD j 0) := fun j hj => by
    rw [List.getD_eq_getElem?_getD, List.getElem?_map, get_of hj]; rfl
  have k : ∀ i x, i ≤ r.length → x ∈ r → lastAt (r.map f) i (f x) = lastAt r i x := by
    intro i x
    induction i with
    | zero => intro _ _; rfl
    | succ i ih =>
      intro hi hx
      rw [lastAt_succ, lastAt_succ, g i hi, ih (Nat.le_of_lt hi) hx]
      have hm : r.getD i 0 ∈ r := List.mem_of_getElem? (get_of hi)
      by_cases q : r.getD i 0 = x
      · rw [if_pos q, if_pos (by rw [q])]
      · rw [if_neg q, if_neg (fun z => q (h _ hm _ hx z))]
  refine List.ext_getElem? fun i => ?_
  by_cases hi : i < r.length
  · rw [lastP_get (by rw [List.length_map]; exact hi), lastP_get hi, g i hi, k i _ (Nat.le_of_lt hi) (List.mem_of_getElem? (get_of hi))]
  · rw [List.getElem?_eq_none (by rw [lastP_len, List.length_map]; omega), List.getElem?_eq_none (by rw [lastP_len]; omega)]
theorem plain_inj (r : List Int) : InjOn (fun x => (plainAt r x : Int)) r := fun x hx y hy e => plainAt_inj hx hy (by have e2 : ((plainAt r x : Nat) : Int) = (plainAt r y : Nat) := e; omega)
theorem lastP_plain (r : List Int) : lastP (plainP r) = lastP r := lastP_map (plain_inj r)
/-- -1 stands just where a number is new -/
theorem last_new {r : List Int} {i : Nat} (hi : i < r.length) : lastAt r i (r.getD i 0) < 0 ↔ r.getD i 0 ∉ r.take i := by
  rcases lastAt_spec r (r.getD i 0) i with ⟨e, n⟩ | ⟨v, e, h1, h2, _⟩
  · refine ⟨fun _ hm => ?_, fun _ => by omega⟩
    obtain ⟨j, hj⟩ := List.mem_iff_getElem?.mp hm
    rw [List.getElem?_take] at hj
    by_cases q : j < i
    · rw [if_pos q] at hj; exact n j q (getD_of hj)
    · rw [if_neg q] at hj; cases hj
  · refine ⟨fun h => by omega, fun h => absurd ?_ h⟩
    exact List.mem_iff_getElem?.mpr ⟨v, by rw [List.getElem?_take, if_pos h1, get_of (by omega), h2]⟩
theorem lastP_takeR (r : List Int) (n : Nat) : lastP (r.take n) = (lastP r).take n := by
  by_cases h : n ≤ r.length
  · have e := List.take_append_drop n r
    have hl : (r.take n).length = n := by rw [List.length_take]; omega
    refine List.ext_getElem? fun k => ?_
    rw [List.getElem?_take]
    by_cases hk : k < n
    · have g : (r.take n).getD k 0 = r.getD k 0 := by
        rw [List.getD_eq_getElem?_getD, List.getD_eq_getElem?_getD, List.getElem?_take, if_pos hk]
      have a : lastAt r k (r.getD k 0) = lastAt (r.take n) k (r.getD k 0) := by
        have := lastAt_app (r := r.take n) (s := r.drop n) (x := r.getD k 0) (i := k) (by omega)
        rwa [e] at this
      rw [if_pos hk, lastP_get (by omega), lastP_get (by omega), g, a]
    · rw [if_neg hk, List.getElem?_eq_none (by rw [lastP_len]; omega)]
  · rw [List.take_of_length_le (by omega), List.take_of_length_le (by rw [lastP_len]; omega)]
theorem lastP_drop (r : List Int) (n : Nat) : lastP (r.drop n) = ((lastP r).drop n).map fun l => max (-1) (l - (n : Int)) := by
  refine List.ext_getElem? fun k => ?_
  rw [List.getElem?_map, List.getElem?_drop]
  by_cases hk : n + k < r.length
  · have hkd : k < (r.drop n).length := by rw [List.length_drop]; omega
    have g : ∀ j, (r.drop n).getD j 0 = r.getD (n + j) 0 := fun j => by
      rw [List.getD_eq_getElem?_getD, List.getD_eq_getElem?_getD, List.getElem?_drop]
    rw [lastP_get hkd, lastP_get hk, g]
    show some (lastAt (r.drop n) k (r.getD (n + k) 0)) = some (max (-1) (lastAt r (n + k) (r.getD (n + k) 0) - (n : Int)))
    congr 1
    rcases lastAt_spec r (r.getD (n + k) 0) (n + k) with ⟨e, m⟩ | ⟨v, e, h1, h2, m⟩
    · rw [e]
      refine lastAt_uniq (.inl (by omega)) fun j hj hx => ?_
      rw [g] at hx
      exact absurd hx (m (n + j) (by omega))
    · rw [e]
      by_cases q : n ≤ v
      · refine lastAt_uniq (.inr ⟨v - n, by omega, by omega, by rw [g, show n + (v - n) = v from by omega]; exact h2⟩) fun j hj hx => ?_
        rw [g] at hx
        by_cases p : n + j ≤ v
        · omega
        · exact absurd hx (m (n + j) (by omega) (by omega))
      · refine lastAt_uniq (.inl (by omega)) fun j hj hx => ?_
        rw [g] at hx
        exact absurd hx (m (n + j) (by omega) (by omega))
  · rw [List.getElem?_eq_none (by rw [lastP_len, List.length_drop]; omega), List.getElem?_eq_none (by rw [lastP_len]; omega)]
    rfl
end Ur
namespace Ur
open PySem L2
theorem pop_at {fs : List Int} {i : Int} (h0 : 0 ≤ i) (h1 : i < fs.length) : seqIndex? i (fs.map V.int).length = some i.toNat := by
  rw [List.length_map]
  simp [seqIndex?, show ¬ i < 0 from by omega, h0, h1]
theorem pop_get {fs : List Int} {k : Nat} (h : k < fs.length) : (fs.map V.int)[k]? = some (V.int (fs.getD k 0)) := iv_get' (get_of h)
theorem erase_map (fs : List Int) (k : Nat) : (fs.map V.int).eraseIdx k = (fs.eraseIdx k).map V.int := by
  induction fs generalizing k with
  | nil => rfl
  | cons x fs ih => cases k with
    | zero => rfl
    | succ k => show V.int x :: (fs.map V.int).eraseIdx k = _; rw [ih]; rfl
theorem mem_erase {fs : List Int} {k : Nat} {f : Int} (h : f ∈ fs.eraseIdx k) : f ∈ fs := (List.eraseIdx_sublist fs k).mem h
theorem erase_nodup : ∀ {fs : List Int} {k : Nat}, k < fs.length → fs.Nodup → (fs.eraseIdx k).Nodup ∧ fs.getD k 0 ∉ fs.eraseIdx k
  | x :: fs, 0, _, d => by
    have h := List.nodup_cons.mp d
    exact ⟨h.2, h.1⟩
  | x :: fs, k + 1, h, d => by
    obtain ⟨d1, d2⟩ := List.nodup_cons.mp d
    have hk : k < fs.length := Nat.lt_of_succ_lt_succ h
    obtain ⟨e1, e2⟩ := erase_nodup hk d2
    refine ⟨List.nodup_cons.mpr ⟨fun m => d1 (mem_erase m), e1⟩, fun m => ?_⟩
    have m2 : fs.getD k 0 ∈ x :: fs.eraseIdx k := m
    rcases List.mem_cons.mp m2 with e | e
    · exact d1 (e ▸ List.mem_of_getElem? (get_of hk))
    · exact e2 e
end Ur
namespace Ur
open PySem L2
theorem next_of_last {r : List Int} {i : Nat} (hi : i < r.length) (h : 0 ≤ lp r i) : nx r (lp r i).toNat = i := by
  rcases lastAt_spec r (r.getD i 0) i with ⟨e, _⟩ | ⟨l, e, h1, h2, h3⟩
  · have : lp r i = -1 := e
    omega
  · have e' : lp r i = l := e
    rw [e', Int.toNat_natCast]
    rcases nextUp_spec r l r.length (Nat.le_refl _) with ⟨_, n⟩ | ⟨v, k, k1, k2, k3, k4⟩
    · exact absurd h2.symm (n i h1 hi)
    · have k' : nx r l = v := k
      rw [k']
      rcases Nat.lt_trichotomy v i with q | q | q
      · exact absurd (k3.trans h2) (h3 v k1 q)
      · rw [q]
      · exact absurd h2.symm (k4 i h1 q)
theorem count_map (g : Nat → Int) (t : Int → Bool) : ∀ n : Nat, ((((List.range n).map g).filter t).length : Int) = sumTo (fun k => if t (g k) = true then 1 else 0) n
  | 0 => rfl
  | n + 1 => by
    rw [List.range_succ, List.map_append, List.filter_append, List.length_append, Int.natCast_add, count_map g t n]
    show _ + _ = _ + (if t (g n) = true then 1 else 0)
    cases h : t (g n) with
    | true => rw [List.map_cons, List.filter_cons_of_pos h]; rfl
    | false => rw [List.map_cons, List.filter_cons_of_neg (by rw [h]; exact Bool.false_ne_true)]; rfl
theorem nx_le {r : List Int} {p : Nat} : nx r p ≤ r.length := by
  rcases nextUp_spec r p r.length (Nat.le_refl _) with ⟨e, _⟩ | ⟨v, e, h1, h2, _⟩
  · exact Int.le_of_eq e
  · have : nx r p = v := e
    omega
theorem count_ends (r : List Int) : ((nextP r).filter (fun x => decide (x = (r.length : Int)))).length = ulen r := by
  have h := wunN_nexts (ns := r) (b := r.length) (Nat.le_refl _) r.length 0 (Nat.zero_add _)
  rw [wunN_all] at h
  have c := count_map (fun k => nextUp r k r.length) (fun x => decide (x = (r.length : Int))) r.length
  have e : sumTo (fun k => if decide (nextUp r k r.length = (r.length : Int)) = true then (1 : Int) else 0) r.length = sumTo (fun j => if (r.length : Int) ≤ nextUp r (0 + j) r.length then (1 : Int) else 0) r.length := sumTo_congr fun k _ => by
    have := nx_le (r := r) (p := k)
    have this : nextUp r k r.length ≤ (r.length : Int) := this
    rw [Nat.zero_add]
    by_cases q : (r.length : Int) ≤ nextUp r k r.length
    · rw [if_pos q, if_pos (decide_eq_true (by omega))]
    · rw [if_neg q, if_neg (by rw [decide_eq_false (by omega)]; exact Bool.false_ne_true)]
  have c2 : (((nextP r).filter (fun x => decide (x = (r.length : Int)))).length : Int) = (ulen r : Int) := c.trans (e.trans h.symm)
  omega
theorem count_news (r : List Int) : ((lastP r).filter (fun x => decide (x = -1))).length = ulen r := by
  have h := wunN_lasts (ns := r) (f := 0) r.length (Nat.zero_le _) (Nat.le_refl _)
  rw [wunN_all] at h
  have c := count_map (fun k => lastAt r k (r.getD k 0)) (fun x => decide (x = -1)) r.length
  have e : sumTo (fun k => if decide (lastAt r k (r.getD k 0) = -1) = true then (1 : Int) else 0) r.length = sumTo (fun p => if 0 ≤ p ∧ lastAt r p (r.getD p 0) < ((0 : Nat) : Int) then (1 : Int) else 0) r.length := sumTo_congr fun k _ => by
    have := lastAt_range r (r.getD k 0) k
    by_cases q : lastAt r k (r.getD k 0) < ((0 : Nat) : Int)
    · have hd : decide (lastAt r k (r.getD k 0) = -1) = true := decide_eq_true (by omega)
      rw [if_pos hd, if_pos ⟨Nat.zero_le _, q⟩]
    · have hd : ¬ decide (lastAt r k (r.getD k 0) = -1) = true := fun z => by
        have := of_decide_eq_true z
        omega
      rw [if_neg hd, if_neg (fun z => q z.2)]
  have c2 : (((lastP r).filter (fun x => decide (x = -1))).length : Int) = (ulen r : Int) := c.trans (e.trans h.symm)
  omega
theorem idx_take {r : List Int} {x : Int} {n : Nat} (h : x ∈ r.take n) : (r.take n).idxOf x = r.idxOf x := by
  have hm := List.mem_of_mem_take h
  have hlt : r.idxOf x < n := by
    obtain ⟨j, hj⟩ := List.mem_iff_getElem?.mp h
    rw [List.getElem?_take] at hj
    by_cases q : j < n
    · rw [if_pos q] at hj
      by_cases p : r.idxOf x ≤ j
      · omega
      · exact absurd (List.mem_iff_getElem?.mpr ⟨j, by rw [List.getElem?_take, if_pos (by omega)]; exact hj⟩) (idx_not (ns := r) (x := x))
    · rw [if_neg q] at hj; cases hj
  refine idx_first (by rw [List.getElem?_take, if_pos hlt]; exact idx_get hm) ?_
  rw [List.take_take, Nat.min_eq_left (Nat.le_of_lt hlt)]
  exact idx_not
theorem plainP_take (r : List Int) (n : Nat) : plainP (r.take n) = (plainP r).take n := by
  unfold plainP
  rw [← List.map_take]
  refine List.map_congr_left fun x hx => ?_
  show ((plainAt (r.take n) x : Nat) : Int) = (plainAt r x : Nat)
  unfold plainAt
  have hlt : r.idxOf x ≤ n := by
    have := idx_lt hx
    rw [idx_take hx, List.length_take] at this
    omega
  rw [idx_take hx, List.take_take, Nat.min_eq_left hlt]
end Ur

namespace UrS
open PySem PySem.Spec PyProof.Rows L2
section
variable {prog : Program} {w : World} {A : Around} {E : Value → Shared → Prop} {s : Shared}
/-- xs[:0] = ys, both lists, at the library's level -/
theorem setFront {l sl b : Addr} {xs ys : Array Value} {n m : Nat} {vl vu vs : Value} {Q : Unit → Shared → Prop}
    (h1 : s.heap.get? l = some { cls := .type "list", data := .seq xs n }) (h2 : s.heap.get? b = some { cls := .type "list", data := .seq ys m }) (hne : b ≠ l)
    (h3 : s.heap.IsSliceOf sl vl vu vs) (pl : IsPart vl none) (pu : IsPart vu (some 0)) (ps : IsPart vs none) (hz : xs.size + ys.size ≤ 1000000)
    (q : Q () { s with heap := s.heap.update l (Obj.mapSeq fun zs => zs.extract 0 (0 : Int).toNat ++ ys ++ zs.extract (max (0 : Int) 0).toNat zs.size) }) :
    wpAny (model prog w) A (setItem (.ref l) (.ref sl) (.ref b)) Q E s := by
  have t1 : s.TypeIs (.ref l) "list" := ⟨_, h1, rfl⟩
  have t2 : s.TypeIs (.ref b) "list" := ⟨_, h2, rfl⟩
  obtain ⟨os, g1, g2, g3⟩ := id h3
  have t3 : s.TypeIs (.ref sl) "slice" := ⟨os, g1, g2⟩
  unfold setItem
  try with_reducible refine wpAny_holding ?_
  first | refine wpAny_bind (wpAny_pure ?_) | skip
  refine wpAny_bind (wpAny_sequenceKey t1 (by decide) ?_)
  refine wpAny_bind (wpAny_callSpecial?_slot (name := Str.ofString "__setitem__") t1 PySem.F.slot_list_setitem
    (wpAny_call_entry PySem.F.slot_list_setitem t1 PySem.F.entry_list_setitem ?_ (PySem.args_list_setitem _ _ _)))
  show wpAny _ _ (Builtin.List.listSubscript? (.ref sl) >>= _) _ _ s
  unfold Builtin.List.listSubscript?
  refine wpAny_bind (wpAny_bind (wpAny_specialOf t3 slice_no_index ?_))
  simp only [Option.isNone_none, if_true]
  refine wpAny_pure ?_
  show wpAny _ _ (typeOf (.ref sl) >>= fun _ => _) _ _ s
  refine wpAny_bind (wpAny_typeOf t3 ?_)
  rw [if_neg (by decide)]
  rw [listSliceParts_eq]
  have hst : ¬ ((rawPart none == rawInt 0) = true) := Bool.false_ne_true
  refine wpAny_bind (wpAny_bind (wpAny_field g1 g3 (x := vs) rfl (wpAny_bind (wpAny_listPart ps ?_))))
  rw [if_neg hst]
  refine wpAny_bind (wpAny_field g1 g3 (x := vl) rfl (wpAny_bind (wpAny_listPart pl ?_)))
  refine wpAny_bind (wpAny_field g1 g3 (x := vu) rfl (wpAny_bind (wpAny_listPart pu (wpAny_pure ?_))))
  have hs : ¬ (Builtin.List.listSameRef (.ref l) (.ref b) = true) := fun k => hne (eq_of_beq k).symm
  rw [if_neg hs]
  refine wpAny_bind ?_
  unfold Builtin.List.listAllItems
  refine wpAny_bind (wpAny_typeOf t2 ?_)
  rw [if_pos (by decide)]
  unfold Builtin.List.listItems
  first
  | refine wpAny_bind (wpAny_bind (wpAny_seqItems h2 rfl (wpAny_pure (wpAny_pure ?_))))
  | refine wpAny_bind (wpAny_seqItems h2 rfl (wpAny_pure ?_))
  first
  | refine wpAny_bind (wpAny_bind (wpAny_seqItems h1 rfl (wpAny_pure ?_)))
  | refine wpAny_bind (wpAny_seqItems h1 rfl (wpAny_pure ?_))
  have hb : sliceBounds none (some 0) none xs.size = (0, 0, 1) := by simp [sliceBounds]; omega
  refine wpAny_bind (wpAny_of_eq (sliceIndices_raw none (some 0) none xs.size (by decide)) ?_)
  rw [hb]
  rw [if_pos (by decide)]
  refine wpAny_bind (wpAny_rule ?_)
  have hlong : ¬ (Builtin.List.listTooLong (xs.size + ys.size) = true) := by
    unfold Builtin.List.listTooLong
    rw [sizeLine_eq]
    simp
    omega
  rw [if_neg hlong]
  refine wpAny_bind ?_
  unfold Builtin.List.listUpdate
  refine wpAny_updateSeq h1 rfl ?_ (by rw [sizeLine_eq]; omega) (by rw [sizeLine_eq]; simp; omega)
  refine wpAny_bind ?_
  have he : (xs.extract ((0 : Int), (0 : Int), (1 : Int)).fst.toNat (max ((0 : Int), (0 : Int), (1 : Int)).fst ((0 : Int), (0 : Int), (1 : Int)).2.fst).toNat).toList.reverse = [] := by simp
  rw [he]
  exact wpAny_pure (wpAny_pure ⟨.none, rfl, wpAny_pure q⟩)
end
section
variable {X : Cx}
def gFront (to : TE) : TG := fun v σ H Q => to σ H fun x H1 => ∃ (l b : Addr) (xs ys : List V), x = .ref l ∧ v = .ref b ∧ H1 l = some (.lst xs) ∧ H1 b = some (.lst ys) ∧ b ≠ l ∧ xs.length + ys.length ≤ 1000000 ∧ Q σ (upd H1 l (.lst (ys ++ xs)))
theorem pg_front {o : Expr} {to : TE} {k : Nat} {p1 p3 pos : Pos} (ho : PE X o to)
    (ha : ∀ v, assign (.Subscript o (.Slice none (some (.Constant (.int 0) k p1)) none p3) pos) X.env v = (do
      let ov ← holding [v] (eval o X.env)
      let iv ← holding [v, ov] (eval (.Slice none (some (.Constant (.int 0) k p1)) none p3) X.env)
      standAt pos
      holding [v, ov, iv] (setItem ov iv v)
      release [iv, v, ov] []) := by intro _; rfl) : PG X (.Subscript o (.Slice none (some (.Constant (.int 0) k p1)) none p3) pos) (gFront to) := by
  refine ⟨fun pins s σ H v u Q I r h => ?_⟩
  rw [ha]
  refine wpAny_bind (wpAny_holding (thn (ho.run pins s σ H _ I h) fun ov s1 ⟨x, H1, I1, r1, q1⟩ => ?_))
  refine wpAny_bind (wpAny_holding ?_)
  have hst : PO X (some (.Constant (.int 0) k p1)) (tPart (tC (.int 0))) := po_some pe_int
  refine wpAny_Slice (thn (po_none.run pins s1 σ H1 (fun o H2 => o = none ∧ H2 = H1) I1 ⟨rfl, rfl⟩) fun vl s2 ⟨l0, H2, I2, pl, el, e2⟩ => ?_)
  subst el e2
  refine thn (hst.run pins s2 σ H2 (fun o H3 => o = some 0 ∧ H3 = H2) I2 ⟨0, rfl, rfl, rfl⟩) fun vu s3 ⟨u0, H3, I3, pu, eu, e3⟩ => ?_
  subst eu e3
  refine thn (po_none.run pins s3 σ H3 (fun o H4 => o = none ∧ H4 = H3) I3 ⟨rfl, rfl⟩) fun vs s4 ⟨st, H4, I4, ps, eo, e4⟩ => ?_
  subst eo e4
  obtain ⟨l, b, xs, ys, rfl, rfl, hl, hb, hne, hz, q⟩ := q1
  cases r1
  cases r
  have I5 : Inv X pins σ H4 { s4 with heap := s4.heap.push { cls := .type "slice", data := .fields #[vl, vu, vs] } } := I4.kept (t' := s4.toks) fun c ob z => Heap.get?_push_of_some _ z
  obtain ⟨its, n, rv, ho5, hz5⟩ := I5.lst hl
  obtain ⟨its2, n2, rv2, hb5, _⟩ := I5.lst hb
  have e1 := rv.length
  have e2 := rv2.length
  refine wpAny_bind (wpAny_standAt (wpAny_bind (wpAny_holding ?_)))
  refine setFront ho5 hb5 hne (Heap.IsSliceOf.new _ vl vu vs) pl pu ps (by rw [List.size_toArray, List.size_toArray]; omega) ?_
  refine wpAny_release ⟨σ, _, ?_, q⟩
  refine I5.lstUpd (its' := its2 ++ its) (n' := if ((its2 ++ its).toArray.size == its.toArray.size) = true then n else n + 1) hl ho5 ?_ (rv2.append rv) (by rw [List.length_append]; exact Ur.sz (by omega)) _
  have a1 : its.toArray.extract 0 (Int.toNat 0) = #[] := by simp
  have a2 : its.toArray.extract (max (0 : Int) 0).toNat its.toArray.size = its.toArray := by
    show its.toArray.extract 0 its.toArray.size = its.toArray
    simp
  have a3 : #[] ++ its2.toArray ++ its.toArray = (its2 ++ its).toArray := by simp
  have a4 : its.toArray.extract 0 (Int.toNat 0) ++ its2.toArray ++ its.toArray.extract (max (0 : Int) 0).toNat its.toArray.size = (its2 ++ its).toArray := by rw [a1, a2, a3]
  exact congrArg (fun z : Array Value => ({ cls := .type "list", data := .seq z (if (z.size == its.toArray.size) = true then n else n + 1) } : Obj)) a4
end
end UrS

namespace Ur
open PySem L2
/-! ### first places of a window -/
def firP (ns : List Int) (f b : Int) : List Int := ((List.range (b - f).toNat).filter fun k => decide (lp ns (f.toNat + k) < f)).map fun k => f + (k : Nat)
theorem firP_len {ns : List Int} {f b : Int} (h0 : 0 ≤ f) (h1 : f ≤ b) (h2 : b ≤ ns.length) : (firP ns f b).length = wun ns f b := by
  have e := ulen_win (ns := ns) (f := f.toNat) (b.toNat - f.toNat) (by omega)
  unfold firP
  rw [List.length_map]
  show _ = ulen ((ns.drop f.toNat).take (b.toNat - f.toNat))
  rw [e, show (b - f).toNat = b.toNat - f.toNat from by omega, Int.toNat_of_nonneg h0]
  have e2 : ((lastP ns).drop f.toNat).take (b.toNat - f.toNat) = (List.range (b.toNat - f.toNat)).map fun k => lp ns (f.toNat + k) := by
    refine List.ext_getElem? fun k => ?_
    rw [List.getElem?_take]
    by_cases hk : k < b.toNat - f.toNat
    · rw [if_pos hk, List.getElem?_drop, lastP_get (by omega), List.getElem?_map, List.getElem?_range hk]
      rfl
    · rw [if_neg hk, List.getElem?_eq_none (by rw [List.length_map, List.length_range]; omega)]
  rw [e2, List.filter_map, List.length_map]
  rfl
theorem fir_not {ns : List Int} {f k : Nat} (h : f + k < ns.length) : (!decide (ns.getD (f + k) 0 ∈ (ns.drop f).take k)) = decide (lp ns (f + k) < (f : Int)) := by
  have q := last_in h
  by_cases hl : lp ns (f + k) < (f : Int)
  · have hm : ¬ ns.getD (f + k) 0 ∈ (ns.drop f).take k := fun z => q.mp z hl
    rw [decide_eq_true hl, decide_eq_false hm]; rfl
  · have hm : ns.getD (f + k) 0 ∈ (ns.drop f).take k := q.mpr hl
    rw [decide_eq_false hl, decide_eq_true hm]; rfl
/-! ### frames but at some places -/
def ButL (L : Addr → Prop) (H H' : Hp) : Prop := ∀ b o, ¬ L b → H b = some o → H' b = some o
theorem ButL.refl {L : Addr → Prop} {H : Hp} : ButL L H H := fun _ _ _ e => e
theorem ButL.trans {L : Addr → Prop} {H H1 H2 : Hp} (s : ButL L H H1) (t : ButL L H1 H2) : ButL L H H2 := fun b o n e => t b o n (s b o n e)
theorem ButL.same {L : Addr → Prop} {H H' : Hp} (s : Same H H') : ButL L H H' := fun b o _ e => s b o e
theorem ButL.but {L : Addr → Prop} {H H' : Hp} {a : Addr} (s : But a H H') (l : L a) : ButL L H H' := fun b o n e => s b o (fun k => n (k ▸ l)) e
structure PairL (L : Addr → Prop) (H : Hp) (p : Addr) : Prop where
  both : ¬ L p ∧ ∃ (a b : Addr) (ns : List Int), ¬ L a ∧ ¬ L b ∧ H p = some (.lst [.ref a, .ref b]) ∧ H a = some (.lst (ns.map V.int)) ∧ H b = some (.lst (ns.map V.int))
structure HeldL (L : Addr → Prop) (h : Addr) (H : Hp) (n : Nat) : Prop where
  all : ∃ ps : List Addr, H h = some (.lst (ps.map V.ref)) ∧ ps.length ≤ n ∧ ∀ p ∈ ps, PairL L H p
theorem PairL.step {L : Addr → Prop} {p : Addr} {H H' : Hp} (k : PairL L H p) (b : ButL L H H') : PairL L H' p := by
  obtain ⟨n, x, y, ns, hx, hy, e, e1, e2⟩ := k.both
  exact ⟨n, x, y, ns, hx, hy, b _ _ n e, b _ _ hx e1, b _ _ hy e2⟩
theorem HeldL.step {L : Addr → Prop} {h : Addr} {H H' : Hp} {n : Nat} (k : HeldL L h H n) (b : ButL L H H') (hh : ∀ xs, H h = some (.lst xs) → H' h = some (.lst xs)) : HeldL L h H' n := by
  obtain ⟨ps, e, l, f⟩ := k.all
  exact ⟨ps, hh _ e, l, fun p hp => (f p hp).step b⟩
theorem HeldL.mono {L : Addr → Prop} {h : Addr} {H : Hp} {n m : Nat} (k : HeldL L h H n) (l : n ≤ m) : HeldL L h H m := by
  obtain ⟨ps, e, q, f⟩ := k.all
  exact ⟨ps, e, Nat.le_trans q l, f⟩
theorem HeldL.sub {L L' : Addr → Prop} {h : Addr} {H : Hp} {n : Nat} (k : HeldL L h H n) (l : ∀ b, L' b → L b) : HeldL L' h H n := by
  obtain ⟨ps, e, q, f⟩ := k.all
  refine ⟨ps, e, q, fun p hp => ?_⟩
  obtain ⟨n, x, y, ns, hx, hy, g⟩ := (f p hp).both
  exact ⟨fun z => n (l _ z), x, y, ns, fun z => hx (l _ z), fun z => hy (l _ z), g⟩
/-- .. of a place that is new, too -/
theorem HeldL.more {L : Addr → Prop} {h a : Addr} {H : Hp} {n : Nat} (k : HeldL L h H n) (ha : H a = none) : HeldL (fun x => L x ∨ x = a) h H n := by
  obtain ⟨ps, e, q, f⟩ := k.all
  refine ⟨ps, e, q, fun p hp => ?_⟩
  obtain ⟨n, x, y, ns, hx, hy, g1, g2, g3⟩ := (f p hp).both
  have ne : ∀ z (o : HO), H z = some o → z ≠ a := fun z o e1 e2 => by rw [e2, ha] at e1; cases e1
  exact ⟨fun z => z.elim n (ne _ _ g1), x, y, ns, fun z => z.elim hx (ne _ _ g2), fun z => z.elim hy (ne _ _ g3), g1, g2, g3⟩
end Ur
namespace Ur
open PySem L2
theorem Rdy.butL {C : Addr} {L L' : Addr → Prop} {H H' : Hp} {o : Addr} {ns : List Int} (r : Rdy C L H o ns) (l : ∀ b, L' b → L b) (s : ButL L' H H') : Rdy C L H' o ns := by
  obtain ⟨dx, la, na, e1, e2, e3, f⟩ := r.all
  exact ⟨dx, la, na, s _ _ (fun z => (f o (l _ z)).1 rfl) e1, s _ _ (fun z => (f la (l _ z)).2.1 rfl) e2, s _ _ (fun z => (f na (l _ z)).2.2 rfl) e3, f⟩
theorem HeldL.grow {L : Addr → Prop} {h p : Addr} {H H' : Hp} {n : Nat} {ps : List Addr} (l : ps.length ≤ n) (f : ∀ p ∈ ps, PairL L H p) (b : ButL L H H') (e : H' h = some (.lst ((ps ++ [p]).map V.ref))) (k : PairL L H' p) : HeldL L h H' (n + 1) :=
  ⟨ps ++ [p], e, by rw [List.length_append]; exact Nat.succ_le_succ l, fun q hq => by
    rcases List.mem_append.mp hq with z | z
    · exact (f q z).step b
    · rw [List.mem_singleton.mp z]; exact k⟩
theorem ButL.at_ {L : Addr → Prop} {H H' : Hp} {a : Addr} {o : HO} (s : ButL L H H') (l : L a) : ButL L H (upd H' a o) := fun b u n e => by
  have ne : b ≠ a := fun k => n (by rw [k]; exact l)
  rw [upd_ne ne]; exact s b u n e
theorem ButL.new {L : Addr → Prop} {H H' : Hp} {a : Addr} {o : HO} (s : ButL L H H') (na : H' a = none) : ButL L H (upd H' a o) := fun b u n e => by
  have e' := s b u n e
  rw [upd_ne (ne_of_none e' na)]; exact e'
end Ur
namespace Ur
open PySem L2
theorem PairL.more {L : Addr → Prop} {H : Hp} {p a : Addr} (k : PairL L H p) (ha : H a = none) : PairL (fun x => L x ∨ x = a) H p := by
  obtain ⟨n, x, y, ns, hx, hy, g1, g2, g3⟩ := k.both
  have ne : ∀ z (o : HO), H z = some o → z ≠ a := fun z o e1 e2 => by rw [e2, ha] at e1; cases e1
  exact ⟨fun z => z.elim n (ne _ _ g1), x, y, ns, fun z => z.elim hx (ne _ _ g2), fun z => z.elim hy (ne _ _ g3), g1, g2, g3⟩
theorem ButL.out {L : Addr → Prop} {H H' : Hp} {a : Addr} (s : ButL (fun x => L x ∨ x = a) H H') (ha : H a = none) : ButL L H H' := fun b o n e =>
  s b o (fun z => z.elim n (fun k => by rw [k, ha] at e; cases e)) e
theorem wun_le {ns : List Int} {f b : Int} : wun ns f b ≤ ns.length := by
  refine Nat.le_trans (ulen_le _) ?_
  unfold win
  rw [List.length_take, List.length_drop]
  omega
end Ur

namespace Ur
open PySem L2
/-! ### xs[l:u:c], c above 0 -/
def tStep3 (K : PySem.W.Frag) (te tl tu tc : TE) : TE := fun σ H Q => te σ H fun x H1 => tPart tl σ H1 fun l H2 => tPart tu σ H2 fun u H3 => tPart tc σ H3 fun c H4 =>
  ∃ a xs c', x = .ref a ∧ c = some c' ∧ 0 < c' ∧ SqL K H4 a xs ∧ ∀ p ys, (∀ y ∈ ys, y ∈ xs) → ys.length ≤ xs.length → H4 p = none → Q (.ref p) (upd H4 p (.lst ys))
open PySem.Spec PyProof.Rows in
theorem pe_step3 {X : Cx} {e el eu ec : Expr} {te tl tu tc : TE} {p3 pos : Pos} (he : PE X e te) (hl : PE X el tl) (hu : PE X eu tu) (hc : PE X ec tc) : PE X (.Subscript e (.Slice (some el) (some eu) (some ec) p3) pos) (tStep3 X.K te tl tu tc) := by
  refine ⟨fun pins s σ H Q I h => ?_⟩
  refine Subscript_ (thn (he.run pins s σ H _ I h) fun v s1 ⟨x, H1, I1, r1, q1⟩ => ?_)
  refine wpAny_Slice (thn ((po_some hl).run pins s1 σ H1 _ I1 q1) fun vl s2 ⟨l, H2, I2, pl, q2⟩ => ?_)
  refine thn ((po_some hu).run pins s2 σ H2 _ I2 q2) fun vu s3 ⟨u, H3, I3, pu, q3⟩ => ?_
  refine thn ((po_some hc).run pins s3 σ H3 _ I3 q3) fun vs s4 ⟨c, H4, I4, ps, q4⟩ => ?_
  obtain ⟨a, xs, c', rfl, rfl, hpos, hx, q⟩ := q4
  cases r1
  have I5 : Inv X pins σ H4 { s4 with heap := s4.heap.push { cls := .type "slice", data := .fields #[vl, vu, vs] } } := I4.kept (t' := s4.toks) fun b ob z => Heap.get?_push_of_some _ z
  obtain ⟨its, r, ht, hz⟩ := I5.list hx
  have hlen := r.length
  show wpAny (model X.prog X.w) X.A (subscriptTail e (.Slice (some el) (some eu) (some ec) p3) (.ref a) (.ref s4.heap.objs.size)) (EP X pins σ Q) X.xe { s4 with heap := s4.heap.push { cls := .type "slice", data := .fields #[vl, vu, vs] } }
  refine tail_any (ops := [.ref a, .ref s4.heap.objs.size]) ht.isList.typeIs (PySem.slot_list_getitem.lookup) ?_ (by with_unfolding_all rfl)
  refine wpAny_getItem_list_slice ht.isList (Heap.IsSliceOf.new _ vl vu vs) pl pu ps (fun k => by cases k; omega) ?_ (by rw [List.size_toArray]; omega)
  have hid : ∀ n : Nat, (sliceRange (sliceBounds l u (some c') n).1 (sliceBounds l u (some c') n).2.1 (sliceBounds l u (some c') n).2.2).length ≤ n := fun n => by
    have e1 : (sliceBounds l u (some c') n).2.2 = c' := rfl
    refine sliceRange_length_le _ _ _ n (fun _ => ⟨?_, ?_⟩) (fun k => absurd (by rw [e1]; exact hpos) k)
    · unfold sliceBounds
      cases l with
      | none => simp [hpos]
      | some i => simp [hpos]; omega
    · unfold sliceBounds
      cases u with
      | none => simp [hpos]
      | some i => simp [hpos]; omega
  have hid2 := hid its.toArray.size
  unfold slicePick
  generalize hI : sliceRange (sliceBounds l u (some c') its.toArray.size).1 (sliceBounds l u (some c') its.toArray.size).2.1 (sliceBounds l u (some c') its.toArray.size).2.2 = ids at hid2
  have hv := vals_pick r ids
  have hly : (ids.filterMap fun i => xs[i]?).length ≤ xs.length := by
    refine Nat.le_trans (List.length_filterMap_le _ _) ?_
    rw [List.size_toArray] at hid2
    omega
  refine ⟨.ref _, _, I5.laid (t' := s4.toks) (o := .lst (ids.filterMap fun i => xs[i]?)) (fun b ob z => Heap.get?_push_of_some _ z) (Nat.le_refl _) ?_, rfl, q _ _ (fun y hy => ?_) hly (I5.hok.fresh (Nat.le_refl _))⟩
  · exact ⟨by omega, _, 0, hv, Heap.get?_push_size _ rfl⟩
  · obtain ⟨i, _, e⟩ := List.mem_filterMap.mp hy
    exact List.mem_of_getElem? e
end Ur

/-! list(reversed(l)), l a list: a new list -/
namespace UrV
open PySem PySem.W PySem.Calls PyProof.Rows RT
section
variable {prog : Program} {w : World} {A : Around} {E : Value → Shared → Prop} {s : Shared}
theorem rv_extend {R : Result → Shared → Prop} {it l S : Addr} {items : Array Value} (hh : A.handled = none) (hit : s.heap.IsRevIter it l ((items.size : Int) - 1)) (hl : s.heap.IsList l items) (hne : l ≠ it) (hn : items.size ≤ sizeLine) (hSi : S ≠ it) (hSl : S ≠ l) (res : Value) (c₀ : Nat)
    (hS : s.heap.get? S = some { cls := .type "list", data := .seq #[] c₀ })
    (hR : ∀ h' tk acc c, (∀ b o, b ≠ S → b ≠ it → s.heap.get? b = some o → h'.get? b = some o) → h'.get? S = some { cls := .type "list", dict := none, data := .seq acc c, slots := #[] } → ItemsOf (fun i v => items[items.size - 1 - i]? = some v) acc items.size → R (.ok (.ret res)) { s with heap := h', toks := tk }) :
    wpAny (model prog w) A.in1 (Builtin.List.listExtendWith (.ref S) (.ref it) res)
      (fun fin s' => match fin with | .done f => R (.ok f) s' | .again c' => c'.quiet = true ∧ codeAny (model prog w) A c' R s') (fun e s' => R (.error e) s') s := by
  have W := (Walks.listRev (prog := prog) (w := w) (A := A.in1) hh it l hne items).toS
  have hSf : S ∉ [it, l] := by simp only [List.mem_cons, List.not_mem_nil, or_false, not_or]; exact ⟨hSi, hSl⟩
  have hT : s.TypeIs (.ref it) "list_reverseiterator" := Heap.IsRevIter.typeIs hit
  have h1 : Builtin.List.listSameRef (.ref S) (.ref it) = false := by simp [Builtin.List.listSameRef, hSi]
  unfold Builtin.List.listExtendWith
  refine wpAny_bind (wpAny_typeOf hT ?_)
  rw [if_neg (by rw [h1]; decide)]
  refine wpAny_bind (wpAny_pyIter_revIter hit ?_)
  refine wpAny_bind (wpAny_holding ?_)
  unfold Builtin.List.listLengthHint
  refine wpAny_bind (wpAny_specialOf hT nolen_lri ?_)
  show wpAny _ A.in1 (specialOf (Value.ref it) (Str.ofString "__length_hint__") >>= _) _ _ _
  refine wpAny_bind (wpAny_specialOf hT hint_lri ?_)
  generalize hid : ("list_reverseiterator.__length_hint__" : String) = id0
  wp_delta
  rw [show splitId id0 = some ("list_reverseiterator", "__length_hint__") from by subst hid; decide +kernel]
  subst hid
  refine wpAny_bind (wpAny_isInstance (b := true) hT (by rw [isSubtype_type]; kernel_rfl) ?_)
  refine wpAny_pure ?_
  rw [if_neg (by decide)]
  have e0 : ((items.size : Nat) : Int) - 1 - ((0 : Nat) : Int) = (items.size : Int) - 1 := by omega
  refine wpAny_pure ⟨plainId_quiet PySem.F.plain_extend_loop _, codeAny_extend_loopS W hn _ hSf _ items.size 0 _ _ _ rfl (Nat.zero_le _) ⟨Nat.zero_le _, by rw [e0]; exact hit, hl⟩ hS (ItemsOf.nil _) fun s' acc' c' hm hS' hacc => ?_⟩
  rw [Moved.eq_with hm]
  refine hR s'.heap s'.toks acc' c' (fun b o hb1 hb2 e => hm.heap b o (fun hmem => ?_) e) hS' hacc
  rcases List.mem_cons.mp hmem with e' | hmem
  · exact hb1 e'
  · exact hb2 (List.mem_singleton.mp hmem)
theorem call_list_rev {it l : Addr} {items : Array Value} {Q : Value → Shared → Prop} (hh : A.handled = none) (hit : s.heap.IsRevIter it l ((items.size : Int) - 1)) (hl : s.heap.IsList l items) (hne : l ≠ it) (hn : items.size ≤ sizeLine)
    (hQ : ∀ (h' : Heap) (tk c : Nat) (acc : Array Value), (∀ b o, b ≠ it → s.heap.get? b = some o → h'.get? b = some o) → ItemsOf (fun i v => items[items.size - 1 - i]? = some v) acc items.size →
      h'.get? s.heap.objs.size = some { cls := .type "list", dict := none, data := .seq acc c, slots := #[] } → Q (.ref s.heap.objs.size) { s with heap := h', toks := tk }) :
    wpAny (model prog w) A (call (.type "list") [.ref it]) Q E s := by
  refine callType_codes (Q₁ := fun obj s₁ => obj = .ref s.heap.objs.size ∧ s₁ = { s with heap := s.heap.push { cls := .type "list", data := .seq #[] } }) PySem.F.called_list (PySem.F.typeCall_list_1 _) PySem.F.entry_list_init
    (code_list_new _ ⟨rfl, rfl⟩) fun obj s₁ h₁ => ?_
  obtain ⟨rfl, rfl⟩ := h₁
  have hS : (s.heap.push { cls := .type "list", data := .seq #[] }).get? s.heap.objs.size = some { cls := .type "list", data := .seq #[] } := Heap.get?_push_size _ rfl
  have hil : it < s.heap.objs.size := let ⟨_, z, _⟩ := hit; Heap.lt_size z
  have hll : l < s.heap.objs.size := let ⟨_, z, _⟩ := hl; Heap.lt_size z
  refine ⟨⟨_, hS, rfl⟩, PySem.F.args_list_init_2 _ _, ?_⟩
  show wpAny _ _ (do let old ← Builtin.List.listItems (.ref s.heap.objs.size); Builtin.List.listUpdate (.ref s.heap.objs.size) (fun _ => #[]); letGo old.toList.reverse; Builtin.List.listExtendWith (.ref s.heap.objs.size) (.ref it) .none) _ _ _
  refine wpAny_bind ?_
  unfold Builtin.List.listItems
  refine wpAny_bind (wpAny_seqItems hS rfl (wpAny_pure ?_))
  show wpAny _ _ (updateSeq s.heap.objs.size (fun _ => #[]) >>= fun _ => letGo (#[] : Array Value).toList.reverse >>= fun _ => Builtin.List.listExtendWith (.ref s.heap.objs.size) (.ref it) .none) _ _ _
  refine wpAny_bind (wpAny_updateSeq hS rfl ?_)
  have hS₂ := Heap.get?_update_self (Obj.mapSeq (fun _ => (#[] : Array Value))) hS rfl
  have oth : ∀ b o, s.heap.get? b = some o → ((s.heap.push { cls := .type "list", data := .seq #[] }).update s.heap.objs.size (Obj.mapSeq (fun _ => (#[] : Array Value)))).get? b = some o :=
    fun b o z => (Heap.get?_update_other _ _ (Nat.ne_of_gt (Heap.lt_size z))).trans (Heap.get?_push_of_some _ z)
  refine wpAny_bind (wpAny_letGo ?_)
  refine rv_extend (A := A.in1) hh (hit.at fun o z => oth it o z) (hl.at fun o z => oth l o z) hne hn (Nat.ne_of_gt hil) (Nat.ne_of_gt hll) .none _ hS₂ fun h' tk acc c hk hS' hacc => ?_
  exact ⟨rfl, hQ h' tk c acc (fun b o h1 z => hk b o (Nat.ne_of_lt (Heap.lt_size z)) h1 (oth b o z)) hacc hS'⟩
end
open PySem.Spec L2
def tListRev (K : PySem.W.Frag) (te : TE) : TE := fun σ H Q => te σ H fun v H1 => ∃ (a : Addr) (xs : List V), v = .ref a ∧ SqL K H1 a xs ∧ ∀ q, H1 q = none → Q (.ref q) (upd H1 q (.lst xs.reverse))
theorem pe_listRev {X : Cx} {K : PySem.W.Frag} {e : Expr} {te : TE} {p p2 pos pos2 : Pos} (hk : X.K = K) (hc : X.calm = true) (hm : X.mg "list" = none) (hm2 : X.mg "reversed" = none) (he : PE X e te) (hg : Gl X "list" := by rfl) (hg2 : Gl X "reversed" := by rfl)
    (hs : starEach [e] X.env = (false, eval e X.env) :: starEach [] X.env := by rfl)
    (hs2 : starEach [.Call (.Name "reversed" p2) [e] [] pos2] X.env = (false, eval (.Call (.Name "reversed" p2) [e] [] pos2) X.env) :: starEach [] X.env := by rfl) :
    PE X (.Call (.Name "list" p) [.Call (.Name "reversed" p2) [e] [] pos2] [] pos) (tListRev K te) := by
  subst hk
  refine ⟨fun pins s σ H Q I h => ?_⟩
  refine Call_ (ld_blt I hg hm boot_list (PyProof.Rows.callWith_type1 (args_cons (Call_ (ld_blt I hg2 hm2 PyProof.Rows.boot_reversed (PyProof.Rows.callWith_type1 (args_cons (thn (he.run pins s σ H _ I h) fun u s1 ⟨v, H1, I1, r1, q1⟩ => args_nil ?_) hs) hs rfl))) hs2) hs2 rfl))
  obtain ⟨a, xs, ev, hq, q⟩ := q1
  subst ev
  obtain rfl : u = Value.ref a := r1
  obtain ⟨its, rv, p', hz⟩ := I1.list hq
  refine call_reversed_list p'.isList (args_nil ?_)
  have hl := p'.isList
  obtain ⟨ol, hol, _⟩ := id hl
  have hne : a ≠ s1.heap.objs.size := Nat.ne_of_lt (Heap.lt_size hol)
  have hn : its.toArray.size ≤ sizeLine := by rw [List.size_toArray, ← rv.length]; exact hz
  refine call_list_rev (s := { s1 with heap := s1.heap.push (revObj a ((its.toArray.size : Int) - 1)) }) (I1.ok.hd hc) ⟨_, Heap.get?_push_size _ rfl, rfl, rfl⟩ (hl.push _) hne hn fun h' tk c acc hk hi hS => ?_
  have hsz : (s1.heap.push (revObj a ((its.toArray.size : Int) - 1))).objs.size = s1.heap.objs.size + 1 := Heap.size_push _ _
  have hsz1 : s1.heap.objs.size ≤ (s1.heap.push (revObj a ((its.toArray.size : Int) - 1))).objs.size := by omega
  refine ⟨.ref _, upd H1 _ (.lst xs.reverse), I1.laid (t' := tk) (fun b o e => hk b o (Nat.ne_of_lt (Heap.lt_size e)) (Heap.get?_push_of_some _ e)) hsz1 (show ObjOk X.prog X.w _ _ _ (.lst xs.reverse) from ⟨by rw [List.length_reverse]; exact hz, acc.toList, c, vals_rev rv hi, ?_⟩), rfl, q _ (I1.hok.fresh hsz1)⟩
  rw [Array.toArray_toList]
  exact hS
end UrV

namespace Ur
open PySem L2
/-! ### windows of one width -/
/-- how many unlike numbers all windows of a width have -/
def ofW (ns : List Int) (w : Nat) : List Int := (List.range (ns.length + 1 - w)).map fun f => (wunN ns f (f + w) : Int)
theorem ofW_len (ns : List Int) (w : Nat) : (ofW ns w).length = ns.length + 1 - w := by simp [ofW]
theorem ofW_get {ns : List Int} {w f : Nat} (h : f + w ≤ ns.length) : (ofW ns w)[f]? = some (wunN ns f (f + w) : Int) := by
  unfold ofW
  rw [List.getElem?_map, List.getElem?_range (by omega)]
  rfl
theorem ofW_getD {ns : List Int} {w f : Nat} (h : f + w ≤ ns.length) : (ofW ns w).getD f 0 = (wunN ns f (f + w) : Int) := getD_of (ofW_get h)
/-- a window one further on -/
theorem wunN_slide {ns : List Int} {f w : Nat} (h : f + w < ns.length) : (wunN ns (f + 1) (f + 1 + w) : Int) = (wunN ns f (f + w) : Int) - (if ((f + w : Nat) : Int) ≤ nx ns f then 1 else 0) + (if lp ns (f + w) ≤ (f : Int) then 1 else 0) := by
  rcases Nat.eq_zero_or_pos w with rfl | hw
  · have h1 := lp_range ns f
    have e1 : ((f + 0 : Nat) : Int) ≤ nx ns f := by
      unfold nx
      rcases nextUp_spec ns f ns.length (Nat.le_refl _) with ⟨e, _⟩ | ⟨v, e, h1, _⟩ <;> rw [e] <;> omega
    simp only [Nat.add_zero] at e1 ⊢
    rw [wunN_none, wunN_none, if_pos e1, if_pos (show lp ns f ≤ (f : Int) by omega)]
    rfl
  · have d := wunN_down (ns := ns) (p := f) (b := f + w) (by omega) (by omega)
    have u := wunN_up (ns := ns) (f := f + 1) (b := f + w) (by omega) h
    rw [show f + w + 1 = f + 1 + w from by omega] at u
    rw [u, d]
    have e : (lastAt ns (f + w) (ns.getD (f + w) 0) < ((f + 1 : Nat) : Int)) = (lp ns (f + w) ≤ (f : Int)) := by
      unfold lp
      exact propext ⟨fun h => by omega, fun h => by omega⟩
    show ((_ + (if lastAt ns (f + w) (ns.getD (f + w) 0) < ((f + 1 : Nat) : Int) then 1 else 0) : Nat) : Int) = _
    simp only [e]
    show _ = ((_ + (if ((f + w : Nat) : Int) ≤ nextUp ns f ns.length then 1 else 0) : Nat) : Int) - (if ((f + w : Nat) : Int) ≤ nextUp ns f ns.length then 1 else 0) + _
    (repeat' split) <;> omega
/-- the sums for each width -/
def sumsW (ns : List Int) : List Int := (List.range (ns.length + 1)).map fun w => (ofW ns w).sum
/-- a line of the law's table: the windows from f on -/
def lineW (ns : List Int) (f : Nat) : List Int := (List.range (ns.length - f + 1)).map fun k => (wunN ns f (f + k) : Int)
theorem lineW_len (ns : List Int) (f : Nat) : (lineW ns f).length = ns.length - f + 1 := by simp [lineW]
theorem lineW_get {ns : List Int} {f k : Nat} (h : k < ns.length - f + 1) : (lineW ns f)[k]? = some (wunN ns f (f + k) : Int) := by
  unfold lineW
  rw [List.getElem?_map, List.getElem?_range h]
  rfl
theorem lineW_getD {ns : List Int} {f k : Nat} (h : k < ns.length - f + 1) : (lineW ns f).getD k 0 = (wunN ns f (f + k) : Int) := getD_of (lineW_get h)
/-- what is due of a width, behind the lines ahead of f and k numbers of the line f -/
def dueW (ns : List Int) (f k w : Nat) : Int := sumTo (fun g => if g + w ≤ ns.length then (wunN ns g (g + w) : Int) else 0) f + if w < k then (wunN ns f (f + w) : Int) else 0
theorem dueW_up {ns : List Int} {f w : Nat} (hf : f ≤ ns.length) : dueW ns f (ns.length - f + 1) w = dueW ns (f + 1) 0 w := by
  unfold dueW
  show _ = sumTo _ f + (if f + w ≤ ns.length then (wunN ns f (f + w) : Int) else 0) + 0
  by_cases h : w < ns.length - f + 1
  · rw [if_pos h, if_pos (by omega)]; omega
  · rw [if_neg h, if_neg (by omega)]; omega
theorem dueW_end {ns : List Int} {w : Nat} (hw : w ≤ ns.length) : dueW ns (ns.length + 1) 0 w = (ofW ns w).sum := by
  unfold dueW ofW
  rw [sum_range, sumTo_cut _ (show ns.length + 1 - w ≤ ns.length + 1 by omega)]
  rw [show (if w < 0 then (wunN ns (ns.length + 1) (ns.length + 1 + w) : Int) else 0) = 0 from rfl, Int.add_zero]
  exact sumTo_congr fun g hg => by
    by_cases h : g + w ≤ ns.length
    · rw [if_pos h, if_pos (by omega)]
    · rw [if_neg h, if_neg (by omega)]
/-! ### told things that are held, each a tuple of two lists of the same ints -/
structure PairT (h : Addr) (H : Hp) (p : Addr) : Prop where
  both : ∃ (a b : Addr) (ns : List Int), a ≠ h ∧ b ≠ h ∧ p ≠ h ∧ H p = some (.tup [.ref a, .ref b]) ∧ H a = some (.lst (ns.map V.int)) ∧ H b = some (.lst (ns.map V.int))
structure HeldT (h : Addr) (H : Hp) (n : Nat) : Prop where
  all : ∃ ps : List Addr, H h = some (.lst (ps.map V.ref)) ∧ ps.length ≤ n ∧ ∀ p ∈ ps, PairT h H p
theorem PairT.step {h p : Addr} {H H' : Hp} (k : PairT h H p) (b : But h H H') : PairT h H' p := by
  obtain ⟨x, y, ns, hx, hy, hp, e, e1, e2⟩ := k.both
  exact ⟨x, y, ns, hx, hy, hp, b _ _ hp e, b _ _ hx e1, b _ _ hy e2⟩
theorem HeldT.same {h : Addr} {H H' : Hp} {n : Nat} (k : HeldT h H n) (s : Same H H') : HeldT h H' n := by
  obtain ⟨ps, e, l, f⟩ := k.all
  exact ⟨ps, s _ _ e, l, fun p hp => (f p hp).step (Same.but s)⟩
theorem HeldT.snoc {h p : Addr} {H H' : Hp} {m n : Nat} {ps : List Addr} (e : H h = some (.lst (ps.map V.ref))) (l : ps.length ≤ n) (f : ∀ p ∈ ps, PairT h H p) (b : But h H H') (e' : H' h = some (.lst (ps.map V.ref ++ [V.ref p]))) (g : PairT h H' p) (hm : n + 1 ≤ m) : HeldT h H' m :=
  ⟨ps ++ [p], by rw [e', List.map_append]; rfl, by rw [List.length_append]; exact Nat.le_trans (Nat.succ_le_succ l) hm, fun q hq => by
    rcases List.mem_append.mp hq with k | k
    · exact (f q k).step b
    · rw [List.mem_singleton.mp k]; exact g⟩
end Ur
namespace Ur
open PySem L2
theorem putK_same {kvs : List (Key × V)} {k : Key} {v : V} (h : (valV kvs k).isSome = true) : (putK kvs k v).length = kvs.length := by
  have e : (kvs.any fun kv => decide (kv.1 = k)) = true := (valV_any k kvs).trans h
  unfold putK
  rw [e, if_pos rfl, List.length_map]
theorem putK_none {kvs : List (Key × V)} {k : Key} {v : V} (h : (valV kvs k).isSome = false) : (putK kvs k v).length = kvs.length + 1 :=
  putK_len (Option.not_isSome_iff_eq_none.mp (by rw [h]; exact Bool.false_ne_true))
/-- a dict of the ints that were met -/
structure Met (kvs : List (Key × V)) (W : List Int) : Prop where
  has : ∀ z : Int, (valV kvs (Sum.inl z)).isSome = decide (z ∈ W)
  len : kvs.length = ulen W
theorem Met.nil : Met [] [] := ⟨fun z => by simp [valV_nil], rfl⟩
theorem Met.put {kvs : List (Key × V)} {W : List Int} (m : Met kvs W) (x : Int) (v : V) : Met (putK kvs (Sum.inl x) v) (W ++ [x]) := by
  refine ⟨fun z => ?_, ?_⟩
  · rw [val_put]
    by_cases h : z = x
    · subst h; simp
    · rw [if_neg h, m.has]; simp [h]
  · rw [ulen_snoc]
    by_cases h : x ∈ W
    · rw [if_pos h, putK_same (by rw [m.has]; exact decide_eq_true h), m.len]
    · rw [if_neg h, putK_none (by rw [m.has]; exact decide_eq_false h), m.len]
end Ur
namespace Ur
open PySem L2
/-- what is due of all widths -/
def dueL (ns : List Int) (f k : Nat) : List Int := (List.range (ns.length + 1)).map (dueW ns f k)
theorem dueL_len (ns : List Int) (f k : Nat) : (dueL ns f k).length = ns.length + 1 := by simp [dueL]
theorem dueL_get {ns : List Int} {f k w : Nat} (h : w < ns.length + 1) : (dueL ns f k)[w]? = some (dueW ns f k w) := by
  unfold dueL
  rw [List.getElem?_map, List.getElem?_range h]
  rfl
theorem dueL_0 (ns : List Int) : dueL ns 0 0 = List.replicate (ns.length + 1) 0 := by
  refine List.ext_getElem? fun w => ?_
  by_cases h : w < ns.length + 1
  · rw [dueL_get h, List.getElem?_replicate, if_pos h]
    rfl
  · rw [List.getElem?_eq_none (by rw [dueL_len]; omega), List.getElem?_eq_none (by rw [List.length_replicate]; omega)]
theorem dueL_set {ns : List Int} {f k : Nat} (h : k < ns.length - f + 1) : (dueL ns f k).set k ((dueL ns f k).getD k 0 + (lineW ns f).getD k 0) = dueL ns f (k + 1) := by
  refine List.ext_getElem? fun w => ?_
  by_cases hw : w < ns.length + 1
  · rw [List.getElem?_set, dueL_len, dueL_get hw, dueL_get hw, getD_of (dueL_get (show k < ns.length + 1 by omega)), lineW_getD h]
    unfold dueW
    by_cases e : k = w
    · subst e
      rw [if_pos rfl, if_pos (by omega), if_neg (Nat.lt_irrefl _), if_pos (Nat.lt_succ_self _)]
      simp
    · rw [if_neg e]
      by_cases c : w < k
      · rw [if_pos c, if_pos (by omega)]
      · rw [if_neg c, if_neg (by omega)]
  · rw [List.getElem?_eq_none (by rw [List.length_set, dueL_len]; omega), List.getElem?_eq_none (by rw [dueL_len]; omega)]
theorem dueL_up {ns : List Int} {f : Nat} (hf : f ≤ ns.length) : dueL ns f (ns.length - f + 1) = dueL ns (f + 1) 0 :=
  List.map_congr_left fun _ _ => dueW_up hf
theorem dueL_end (ns : List Int) : dueL ns (ns.length + 1) 0 = sumsW ns :=
  List.map_congr_left fun _ h => dueW_end (by have := List.mem_range.mp h; omega)
theorem sumsW_len (ns : List Int) : (sumsW ns).length = ns.length + 1 := by simp [sumsW]
end Ur

namespace Ur
open PySem PySem.Spec PyProof.Rows L2
/-- xs[i], by values: for xs[i] += e -/
theorem get_list {X : Cx} : PGet X (rIxL X.K) := by
  intro pins s σ H x y v u Q I rx ry h
  obtain ⟨p, xs, i, z, rfl, rfl, hq, he, q⟩ := h
  cases rx
  obtain ⟨t, rfl⟩ := ry
  obtain ⟨its, r, pl, hz⟩ := I.list hq
  obtain ⟨j, h1, h2, h3, h4, h5⟩ := atI_get he
  obtain ⟨w, ew, rw'⟩ := r.get h2
  have hl := r.length
  have hn := line63
  have fin : EP X pins σ Q w s := ⟨z, H, I, rw', q⟩
  by_cases h0 : 0 ≤ i
  · have hj : i.toNat = j := by
      rw [seqIndex_of h0 h5] at h1
      exact Option.some.inj h1
    exact wpAny_getItem_list pl.isList h0 (by omega) (by rw [hj]; simpa using ew) fin
  · have hj : (i + (its.toArray.size : Int)).toNat = j := by
      rw [seqIndex_neg (by omega) h4] at h1
      rw [List.size_toArray, ← hl]
      exact Option.some.inj h1
    exact wpAny_getItem_list_neg pl.isList (by omega) (by rw [List.size_toArray] <;> omega) (by omega) (by rw [hj]; simpa using ew) fin
end Ur

namespace Ur
open PySem L2
/-! ### things of a known kind -/
def Kind (H : Hp) (v : V) : Prop :=
  (∃ i, v = .int i) ∨ (∃ b, v = .bl b) ∨ (∃ x, v = .str x) ∨ v = .non ∨ (∃ p xs, v = .ref p ∧ H p = some (.lst xs)) ∨ (∃ p xs, v = .ref p ∧ H p = some (.tup xs)) ∨ ∃ p kvs, v = .ref p ∧ H p = some (.dK kvs)
theorem Kind.int {H : Hp} {i : Int} : Kind H (.int i) := .inl ⟨i, rfl⟩
theorem Kind.bl {H : Hp} {b : Bool} : Kind H (.bl b) := .inr (.inl ⟨b, rfl⟩)
theorem Kind.str {H : Hp} {x : Str} : Kind H (.str x) := .inr (.inr (.inl ⟨x, rfl⟩))
theorem Kind.non {H : Hp} : Kind H .non := .inr (.inr (.inr (.inl rfl)))
theorem Kind.lst {H : Hp} {p : Addr} {xs : List V} (e : H p = some (.lst xs)) : Kind H (.ref p) := .inr (.inr (.inr (.inr (.inl ⟨p, xs, rfl, e⟩))))
theorem Kind.tup {H : Hp} {p : Addr} {xs : List V} (e : H p = some (.tup xs)) : Kind H (.ref p) := .inr (.inr (.inr (.inr (.inr (.inl ⟨p, xs, rfl, e⟩)))))
theorem Kind.dct {H : Hp} {p : Addr} {kvs : List (Key × V)} (e : H p = some (.dK kvs)) : Kind H (.ref p) := .inr (.inr (.inr (.inr (.inr (.inr ⟨p, kvs, rfl, e⟩)))))
theorem Kind.same {H H' : Hp} {v : V} (k : Kind H v) (s : Same H H') : Kind H' v := by
  rcases k with ⟨i, rfl⟩ | ⟨b, rfl⟩ | ⟨x, rfl⟩ | rfl | ⟨p, xs, rfl, e⟩ | ⟨p, xs, rfl, e⟩ | ⟨p, xs, rfl, e⟩
  · exact .int
  · exact .bl
  · exact .str
  · exact .non
  · exact .lst (s _ _ e)
  · exact .tup (s _ _ e)
  · exact .dct (s _ _ e)
theorem Kind.but {a : Addr} {H H' : Hp} {v : V} (k : Kind H v) (b : But a H H') (h : v ≠ .ref a) : Kind H' v := by
  rcases k with ⟨i, rfl⟩ | ⟨c, rfl⟩ | ⟨x, rfl⟩ | rfl | ⟨p, xs, rfl, e⟩ | ⟨p, xs, rfl, e⟩ | ⟨p, xs, rfl, e⟩
  · exact .int
  · exact .bl
  · exact .str
  · exact .non
  · exact .lst (b _ _ (fun z => h (by rw [z])) e)
  · exact .tup (b _ _ (fun z => h (by rw [z])) e)
  · exact .dct (b _ _ (fun z => h (by rw [z])) e)
/-- a fact laid aside -/
structure Bx (P : Prop) : Prop where
  out : P
theorem nwA {H : Hp} {x p : Addr} {o : HO} (h : H x = some o) (n : H p = none) : x ≠ p := fun e => by rw [e, n] at h; cases h
/-! ### told things that are held, each a tuple of two lists of the same ints, none of them there in B -/
/-- no place of B -/
structure NoneIn (B : Hp) (x : Addr) : Prop where
  out : B x = none
structure PairN (B : Hp) (h : Addr) (H : Hp) (p : Addr) : Prop where
  both : ∃ (a b : Addr) (ns : List Int), a ≠ h ∧ b ≠ h ∧ p ≠ h ∧ NoneIn B a ∧ NoneIn B b ∧ NoneIn B p ∧ H p = some (.tup [.ref a, .ref b]) ∧ H a = some (.lst (ns.map V.int)) ∧ H b = some (.lst (ns.map V.int))
structure HeldN (B : Hp) (h : Addr) (H : Hp) (n : Nat) : Prop where
  all : ∃ ps : List Addr, H h = some (.lst (ps.map V.ref)) ∧ ps.length ≤ n ∧ ∀ p ∈ ps, PairN B h H p
theorem PairN.step {B : Hp} {h p : Addr} {H H' : Hp} (k : PairN B h H p) (b : But h H H') : PairN B h H' p := by
  obtain ⟨x, y, ns, hx, hy, hp, k1, k2, k3, e, e1, e2⟩ := k.both
  exact ⟨x, y, ns, hx, hy, hp, k1, k2, k3, b _ _ hp e, b _ _ hx e1, b _ _ hy e2⟩
theorem HeldN.same {B : Hp} {h : Addr} {H H' : Hp} {n : Nat} (k : HeldN B h H n) (s : Same H H') : HeldN B h H' n := by
  obtain ⟨ps, e, l, f⟩ := k.all
  exact ⟨ps, s _ _ e, l, fun p hp => (f p hp).step (Same.but s)⟩
theorem HeldN.le {B : Hp} {h : Addr} {H : Hp} {n m : Nat} (k : HeldN B h H n) (l : n ≤ m) : HeldN B h H m := by
  obtain ⟨ps, e, l', f⟩ := k.all
  exact ⟨ps, e, Nat.le_trans l' l, f⟩
/-- another object changes, that was there in B -/
theorem HeldN.other {B : Hp} {h a : Addr} {H H' : Hp} {n : Nat} {o : HO} (k : HeldN B h H n) (b : But a H H') (e : B a = some o) (ne : h ≠ a) : HeldN B h H' n := by
  obtain ⟨ps, eh, l, f⟩ := k.all
  refine ⟨ps, b _ _ ne eh, l, fun p hp => ?_⟩
  obtain ⟨x, y, ns, hx, hy, hp, k1, k2, k3, e0, e1, e2⟩ := (f p hp).both
  have no : ∀ {z : Addr}, NoneIn B z → z ≠ a := fun k z => by have k := k.out; rw [z, e] at k; cases k
  exact ⟨x, y, ns, hx, hy, hp, k1, k2, k3, b _ _ (no k3) e0, b _ _ (no k1) e1, b _ _ (no k2) e2⟩
theorem HeldN.snoc {B : Hp} {h p : Addr} {H H' : Hp} {m n : Nat} {ps : List Addr} (l : ps.length ≤ n) (f : ∀ p ∈ ps, PairN B h H p) (b : But h H H') (e' : H' h = some (.lst (ps.map V.ref ++ [V.ref p]))) (g : PairN B h H' p) (hm : n + 1 ≤ m) : HeldN B h H' m :=
  ⟨ps ++ [p], by rw [e', List.map_append]; rfl, by rw [List.length_append]; exact Nat.le_trans (Nat.succ_le_succ l) hm, fun q hq => by
    rcases List.mem_append.mp hq with k | k
    · exact (f q k).step b
    · rw [List.mem_singleton.mp k]; exact g⟩
/-- what there is in B is there in H -/
structure Within (B H : Hp) : Prop where
  free : ∀ x, H x = none → B x = none
theorem Within.none {B H : Hp} {x : Addr} (w : Within B H) (e : H x = none) : NoneIn B x := ⟨w.free x e⟩
theorem Within.refl {B : Hp} : Within B B := ⟨fun _ e => e⟩
theorem Within.upd {B H : Hp} {a : Addr} {o : HO} (w : Within B H) : Within B (upd H a o) := ⟨fun _ e => w.free _ (upd_none e)⟩
theorem Within.same {B H H' : Hp} (w : Within B H) (s : Same H H') : Within B H' := ⟨fun _ e => w.free _ (s.free e)⟩
theorem Within.but {a : Addr} {o : HO} {B H H' : Hp} (w : Within B H) (b : But a H H') (e : H' a = some o) : Within B H' := ⟨fun x n => by
  refine w.free x ?_
  cases k : H x with
  | none => rfl
  | some u =>
    have ne : x ≠ a := fun z => by rw [z, e] at n; cases n
    rw [b _ _ ne k] at n; cases n⟩
theorem HeldN.within {B : Hp} {h : Addr} {H H' : Hp} {n : Nat} (k : HeldN B h H' n) (w : Within B H) (b : But h H H') : Within B H' := by
  obtain ⟨ps, eh, _, _⟩ := k.all
  exact w.but b eh
end Ur

namespace Ur
open PySem L2 PySem.Spec PyProof.Rows
/-! ### an exception in hand -/
/-- isinstance of the exception that the suite holds: a class, or a tuple of classes -/
def rIsX (K : PySem.W.Frag) (cls : Value) (d : Option Addr) (a : Addr) : List V → Hp → VK → Prop := fun xs H Q =>
  ∃ (D : Addr) (c : V) (b : Bool), xs = [.ref a, c] ∧ cls = .ref D ∧ d = none ∧ ExcC K D ∧
    ((∃ u, ClsV c u ∧ PySem.W.kitOne K (.ref D) u = some b) ∨ ∃ (tp : Addr) (cs : List V) (us : List Value), c = .ref tp ∧ H tp = some (.tup cs) ∧ Paired ClsV cs us ∧ PySem.W.kitAny K (.ref D) us = some b) ∧ Q (.bl b) H
theorem call_isX {X : Cx} {K : PySem.W.Frag} (hK : X.K = K) {a : Addr} {cls : Value} {d : Option Addr} {oe : Obj} (hz : Zc cls d oe) (hf : ∃ vs, oe.data = .fields vs) (hp : (a, oe) ∈ X.pn) : CallR X (.builtin "isinstance") (rIsX K cls d a) := by
  subst hK
  intro pins s σ H xs us Q I r h
  obtain ⟨D, c, b, rfl, rfl, rfl, C, hc, q⟩ := h
  obtain ⟨u1, u2, rfl, r1, r2⟩ := vals2 r
  cases (show u1 = Value.ref a from r1)
  obtain ⟨hget, _⟩ := I.pin (a, oe) (List.mem_append.mpr (.inl hp))
  obtain ⟨vs, hv⟩ := hf
  have J : PySem.W.InstAt s.heap a oe D none := by
    obtain ⟨oc, od, oda, osl⟩ := oe
    obtain ⟨h1, h2⟩ := hz
    dsimp only at h1 h2 hv
    subst h1 h2 hv
    exact ⟨hget, rfl, rfl, trivial⟩
  have Z := PySem.W.handS_kitx_exc (x := a) (ox := oe) C.hg C.hk C.hs C.hd C.ha C.hn C.ht C.hm
  rcases hc with ⟨u, k, e⟩ | ⟨tp, cs, ws, rfl, hT, k, e⟩
  · have e2 := k.eq r2
    subst e2
    exact PySem.W.kia_one Z I.kIn J e (fun z => nomatch z) fun tk => ⟨.bl b, H, I.kept (t' := tk) fun _ _ z => z, rfl, q⟩
  · cases (show u2 = Value.ref tp from r2)
    obtain ⟨_, its, rv, o, h1, h2, n, h3⟩ := (show ObjOk X.prog X.w H s.heap tp (.tup cs) from I.hok tp _ hT)
    have e3 := ClsV.all k rv
    subst e3
    obtain ⟨oc, od, dt, sl⟩ := o
    simp only at h2 h3
    subst h2 h3
    exact PySem.W.kia_tup Z I.kIn J h1 e (fun z => nomatch z) fun tk => ⟨.bl b, H, I.kept (t' := tk) fun _ _ z => z, rfl, q⟩
/-- a method of a built-in object, the fragment told -/
theorem pe_bmK {X : Cx} {K : PySem.W.Frag} {o e : Expr} {es : List Expr} {to : TE} {t : TA} {name : Str} {apos cpos : Pos} {T id : String} {r : V → List V → Hp → VK → Prop} (hK : X.K = K) (pa : PlainAttrs T) (slot : Slot T name id) (hty : typeOf (.builtin id) = pure (.type "method_descriptor")) (hm : MtR X id r) (ho : PE X o to) (ha : PA X (e :: es) t)
    (h1 : attributeBase o name X.env (eval o X.env) = eval o X.env := by rfl)
    (h2 : ((backTo cpos (starEach (e :: es) X.env)).all (fun x => !x.1) && (backToKw cpos (keywordEach [] X.env)).all (fun x => x.1.isSome) && decide ((e :: es).length + ([] : List Keyword).length + (if ([] : List Keyword).isEmpty then 0 else 1) < 30)) = true := by rfl)
    (h3 : (apos.endLine == cpos.line) = true := by rfl) (h4 : starEach (e :: es) X.env = (false, eval e X.env) :: starEach es X.env := by rfl) (h5 : (backTo cpos (starEach es X.env)).any (·.1) = false := by rfl) :
    PE X (.Call (.Attribute o name apos) (e :: es) [] cpos) (tBM K T r to t) := by
  subst hK
  exact pe_bm pa slot hty hm ho ha h1 h2 h3 h4 h5
theorem isX1 {K : PySem.W.Frag} {D a C : Addr} {b : Bool} {H : Hp} {Q : VK} (E : ExcC K D) (h : PySem.W.kitOne K (.ref D) (.ref C) = some b) (q : Q (.bl b) H) : rIsX K (.ref D) none a [.ref a, .ref C] H Q :=
  ⟨D, _, b, rfl, rfl, rfl, E, .inl ⟨_, .own C, h⟩, q⟩
theorem isXT {K : PySem.W.Frag} {D a : Addr} {n : String} {b : Bool} {H : Hp} {Q : VK} (E : ExcC K D) (h : PySem.W.kitOne K (.ref D) (.type n) = some b) (q : Q (.bl b) H) : rIsX K (.ref D) none a [.ref a, .ty n] H Q :=
  ⟨D, _, b, rfl, rfl, rfl, E, .inl ⟨_, .ty n, h⟩, q⟩
/-- of none of these classes -/
def NoneOf (K : PySem.W.Frag) (D : Addr) (cs : List Addr) : Prop := ∀ c ∈ cs, PySem.W.kitOne K (.ref D) (.ref c) = some false
theorem NoneOf.any {K : PySem.W.Frag} {D : Addr} : ∀ {cs : List Addr}, NoneOf K D cs → PySem.W.kitAny K (.ref D) (cs.map Value.ref) = some false
  | [], _ => rfl
  | c :: cs, h => kitAny_cons (h c List.mem_cons_self) (fun _ => NoneOf.any fun x hx => h x (List.mem_cons_of_mem _ hx)) (fun z => nomatch z)
theorem NoneOf.pair : ∀ (cs : List Addr), Paired ClsV (cs.map V.ref) (cs.map Value.ref)
  | [] => .nil
  | c :: cs => .cons (.own c) (NoneOf.pair cs)
theorem isX2 {K : PySem.W.Frag} {D a p : Addr} {vs : List V} {cs : List Addr} {H : Hp} {Q : VK} (E : ExcC K D) (h : NoneOf K D cs) (e : H p = some (.tup vs)) (hv : vs = cs.map V.ref) (q : Q (.bl false) H) : rIsX K (.ref D) none a [.ref a, .ref p] H Q :=
  ⟨D, _, false, rfl, rfl, rfl, E, .inr ⟨p, _, _, rfl, by rw [e, hv], NoneOf.pair cs, h.any⟩, q⟩
theorem NoneOf.nil {K : PySem.W.Frag} {D : Addr} : NoneOf K D [] := fun _ h => nomatch h
theorem NoneOf.cons {K : PySem.W.Frag} {D c : Addr} {cs : List Addr} (h : PySem.W.kitOne K (.ref D) (.ref c) = some false) (t : NoneOf K D cs) : NoneOf K D (c :: cs) := fun x hx => by
  rcases List.mem_cons.mp hx with rfl | k
  · exact h
  · exact t x k
theorem rEq_kinds {K : PySem.W.Frag} {H : Hp} {a b : Addr} {Q : VK} (h1 : H a = some (.lst [.bl true, .bl true, .bl false])) (h2 : H b = some (.lst [.bl true, .bl true, .bl false])) (q : Q (.bl true) H) : rEqD K (.ref a) (.ref b) H Q :=
  ⟨_, _, .lst (SqL.of h1) (.cons (.bl _) (.cons (.bl _) (.cons (.bl _) .nil))), .lst (SqL.of h2) (.cons (.bl _) (.cons (.bl _) (.cons (.bl _) .nil))), by decide, by decide, q⟩
end Ur

namespace Ur
open PySem L2
/-! ### range(0, b, c) -/
theorem rgc_up {b c : Int} (hb : 0 ≤ b) (hb' : b ≤ 1000000) (hc : 0 < c) (hc' : c ≤ 1000000) : ∃ n : Nat, (n : Int) ≤ b ∧ (∀ i : Nat, i < n → 0 ≤ 0 + (i : Int) * c ∧ 0 + (i : Int) * c < b) ∧ RgC 0 b c n := by
  by_cases h : 0 < b
  · have h1 : 0 ≤ (b - 0 - 1) / c := Int.ediv_nonneg (by omega) (by omega)
    have h2 : (b - 0 - 1) / c ≤ b - 0 - 1 := Int.ediv_le_self c (by omega)
    have e : Builtin.Range.rangeSize 0 b c = (b - 0 - 1) / c + 1 := by
      unfold Builtin.Range.rangeSize
      rw [if_pos hc, if_pos h]
    refine ⟨((b - 0 - 1) / c + 1).toNat, by omega, fun i hi => ⟨by have := Int.mul_nonneg (Int.natCast_nonneg i) (Int.le_of_lt hc); omega, ?_⟩, by omega, by omega, ?_, ?_⟩
    · have k1 : (i : Int) ≤ (b - 0 - 1) / c := by omega
      have k2 : (i : Int) * c ≤ (b - 0 - 1) / c * c := Int.mul_le_mul_of_nonneg_right k1 (by omega)
      have k3 := Int.ediv_mul_le (b - 0 - 1) (show c ≠ 0 by omega)
      omega
    · unfold Builtin.Range.small
      rw [e, if_pos hc]
      simp only [Builtin.Range.rangeFitsLong, Bool.and_eq_true, Bool.or_eq_true, decide_eq_true_eq, beq_iff_eq]
      omega
    · rw [e]; omega
  · have hb0 : b = 0 := by omega
    subst hb0
    refine ⟨0, by omega, fun i hi => absurd hi (Nat.not_lt_zero _), by omega, by omega, ?_, ?_⟩
    · unfold Builtin.Range.small Builtin.Range.rangeSize
      rw [if_pos hc, if_pos hc]
      simp only [Builtin.Range.rangeFitsLong, Bool.and_eq_true, Bool.or_eq_true, decide_eq_true_eq, beq_iff_eq]
      omega
    · unfold Builtin.Range.rangeSize
      rw [if_pos hc]
      rfl
end Ur

namespace Ur
open PySem L2
/-! ### lists of lists of ints -/
/-- n lists at ls, the k-th of them F k -/
structure RowsF (H : Hp) (ls : List Addr) (n : Nat) (F : Nat → List Int) : Prop where
  len : ls.length = n
  row : ∀ k p, ls[k]? = some p → H p = some (.lst ((F k).map V.int))
theorem RowsF.same {H H' : Hp} {ls : List Addr} {n : Nat} {F : Nat → List Int} (r : RowsF H ls n F) (s : Same H H') : RowsF H' ls n F := ⟨r.len, fun k p e => s _ _ (r.row k p e)⟩
theorem RowsF.but {a : Addr} {H H' : Hp} {ls : List Addr} {n : Nat} {F : Nat → List Int} (r : RowsF H ls n F) (b : But a H H') (no : ∀ p ∈ ls, p ≠ a) : RowsF H' ls n F := ⟨r.len, fun k p e => b _ _ (no p (List.mem_of_getElem? e)) (r.row k p e)⟩
theorem RowsF.congr {H : Hp} {ls : List Addr} {n : Nat} {F G : Nat → List Int} (r : RowsF H ls n F) (e : ∀ k, k < n → F k = G k) : RowsF H ls n G := ⟨r.len, fun k p h => by
  have hk := (List.getElem?_eq_some_iff.mp h).1
  rw [← e k (by have := r.len; omega)]
  exact r.row k p h⟩
theorem RowsF.is {H : Hp} {ls : List Addr} {n : Nat} {F : Nat → List Int} (r : RowsF H ls n F) {p : Addr} (hp : p ∈ ls) : ∃ ns : List Int, H p = some (.lst (ns.map V.int)) := by
  obtain ⟨k, hk⟩ := List.getElem?_of_mem hp
  exact ⟨F k, r.row k p hk⟩
theorem RowsF.snoc {H H4 : Hp} {Dl q : Addr} {qs : List Addr} {i : Nat} {F : Nat → List Int} {o : HO} (r : RowsF H qs i F) (s : Same H H4) (no : ∀ p ∈ qs, p ≠ Dl) (e : H4 q = some (.lst ((F i).map V.int))) (hq : q ≠ Dl) : RowsF (upd H4 Dl o) (qs ++ [q]) (i + 1) F := by
  refine ⟨by rw [List.length_append, r.len]; rfl, fun k p h => ?_⟩
  by_cases hk : k < qs.length
  · rw [List.getElem?_append_left hk] at h
    rw [upd_ne (no p (List.mem_of_getElem? h))]
    exact s _ _ (r.row k p h)
  · have h2 := (List.getElem?_eq_some_iff.mp h).1
    rw [List.length_append] at h2
    have h3 : [q].length = 1 := rfl
    have hk2 : k = qs.length := by omega
    subst hk2
    rw [List.getElem?_append_right (Nat.le_refl _), Nat.sub_self] at h
    cases h
    rw [upd_ne hq, r.len]
    exact e
theorem dpAll_of {K : PySem.W.Frag} {H : Hp} : ∀ (vs : List V) (ds : List PyData), vs.length = ds.length → (∀ (k : Nat) (v : V) (d : PyData), vs[k]? = some v → ds[k]? = some d → Dp K H v d) → DpAll K H vs ds
  | [], [], _, _ => .nil
  | [], _ :: _, h, _ => by cases h
  | _ :: _, [], h, _ => by cases h
  | v :: vs, d :: ds, h, f => .cons (f 0 v d rfl rfl) (dpAll_of vs ds (Nat.succ.inj h) fun k v d h1 h2 => f (k + 1) v d h1 h2)
theorem canLayAll_of : ∀ ds : List PyData, (∀ d ∈ ds, PyData.canLay0 d = true) → PyData.canLayAll0 ds = true
  | [], _ => rfl
  | d :: ds, f => by
    show (PyData.canLay0 d && PyData.canLayAll0 ds) = true
    rw [canLayAll_of ds fun x h => f x (List.mem_cons_of_mem _ h), f d List.mem_cons_self]
    rfl
theorem depthAll_of {m : Nat} : ∀ ds : List PyData, (∀ d ∈ ds, PyData.depth d ≤ m) → PyData.depthAll ds ≤ m
  | [], _ => by
    rw [PyData.depthAll]
    exact Nat.zero_le _
  | d :: ds, f => by
    rw [PyData.depthAll]
    exact Nat.max_le.mpr ⟨f d List.mem_cons_self, depthAll_of ds fun x h => f x (List.mem_cons_of_mem _ h)⟩
theorem eqvAll_refl : ∀ ds : List PyData, (∀ d ∈ ds, PyData.eqv d d = true) → PyData.eqvAll ds ds = true
  | [], _ => rfl
  | d :: ds, f => by
    show (PyData.eqv d d && PyData.eqvAll ds ds) = true
    rw [eqvAll_refl ds fun x h => f x (List.mem_cons_of_mem _ h), f d List.mem_cons_self]
    rfl
/-- the data of such a list -/
def rowsD (n : Nat) (F : Nat → List Int) : List PyData := (List.range n).map fun k => PyData.list ((F k).map PyData.int)
theorem dp_rows {K : PySem.W.Frag} {H : Hp} {a : Addr} {ls : List Addr} {n : Nat} {F : Nat → List Int} (h : SqL K H a (ls.map V.ref)) (r : RowsF H ls n F) : Dp K H (.ref a) (.list (rowsD n F)) := by
  refine .lst h (dpAll_of _ _ (by rw [rowsD, List.length_map, List.length_map, List.length_range, r.len]) fun k v d h1 h2 => ?_)
  rw [List.getElem?_map] at h1
  obtain ⟨p, hp, rfl⟩ := Option.map_eq_some_iff.mp h1
  have hk := (List.getElem?_eq_some_iff.mp hp).1
  rw [rowsD, List.getElem?_map, List.getElem?_range (by have := r.len; omega)] at h2
  cases h2
  exact dp_ints (SqL.of (r.row k p hp))
theorem shaped_rows (n : Nat) (F : Nat → List Int) : SeqAt.shaped (.list (rowsD n F)) = true := by
  refine shaped_of (canLayAll_of _ fun d h => ?_) ?_
  · obtain ⟨k, _, rfl⟩ := List.mem_map.mp h
    exact canLayAll_ints _
  · have h := depthAll_of (m := 2) (rowsD n F) fun d h => by
      obtain ⟨k, _, rfl⟩ := List.mem_map.mp h
      exact depth_ints _
    rw [PyData.depth]
    omega
theorem eqv_rows (n : Nat) (F : Nat → List Int) : PyData.eqv (.list (rowsD n F)) (.list (rowsD n F)) = true := by
  show PyData.eqvAll _ _ = true
  refine eqvAll_refl _ fun d h => ?_
  obtain ⟨k, _, rfl⟩ := List.mem_map.mp h
  rw [eqv_ints]
  exact decide_eq_true rfl
theorem rEq_rows {K : PySem.W.Frag} {H : Hp} {a b : Addr} {ls ms : List Addr} {n : Nat} {F : Nat → List Int} {Q : VK} (h1 : SqL K H a (ls.map V.ref)) (h2 : SqL K H b (ms.map V.ref)) (r1 : RowsF H ls n F) (r2 : RowsF H ms n F) (q : Q (.bl true) H) : rEqD K (.ref a) (.ref b) H Q :=
  ⟨_, _, dp_rows h1 r1, dp_rows h2 r2, shaped_rows n F, shaped_rows n F, by rw [eqv_rows]; exact q⟩
theorem rNe_rows {K : PySem.W.Frag} {H : Hp} {a b : Addr} {ls ms : List Addr} {n : Nat} {F : Nat → List Int} {Q : VK} (h1 : SqL K H a (ls.map V.ref)) (h2 : SqL K H b (ms.map V.ref)) (r1 : RowsF H ls n F) (r2 : RowsF H ms n F) (q : Q (.bl false) H) : rNeD K (.ref a) (.ref b) H Q :=
  ⟨_, _, dp_rows h1 r1, dp_rows h2 r2, shaped_rows n F, shaped_rows n F, by rw [eqv_rows]; exact q⟩
section
variable {K : PySem.W.Frag} {a : Addr} {σ : L2.St} {H1 : Hp} {Dl : Addr} {te : TE} {vs : List Nat} {j : Nat} {lo : Int} {n : Nat} {Qd : Hp → Prop}
/-- [e for k in range(..)], each e a new list of ints -/
theorem lc_rngL (F : Nat → List Int) (hn : n ≤ 1000000) (hD : H1 Dl = none) (hw : ∀ x, wipe ((wipe σ vs).set j (some x)) vs = wipe σ vs)
    (he : ∀ (k : Nat) H', k < n → Same H1 H' → ∀ Q' : VK, (∀ q H4, Same H' H4 → H4 q = some (.lst ((F k).map V.int)) → H' q = none → Q' (.ref q) H4) → te ((wipe σ vs).set j (some (.int (lo + (k : Nat))))) H' Q')
    (hd : ∀ H' qs, Same H1 H' → H' Dl = some (.lst (qs.map V.ref)) → RowsF H' qs n F → (∀ q ∈ qs, H1 q = none ∧ q ≠ Dl) → qs.Nodup → Qd H') :
    ∃ W : Nat → Nat → Hp → Prop, (∃ m, W 0 m (upd H1 Dl (.lst []))) ∧ ∀ i m H, W i m H →
      ((Itr lo n).stop i H ∧ Qd H) ∨ ((Itr lo n).go i H ∧ ∃ Nx : Hp → Prop, (∀ H', Nx H' → ∃ m', m' < m ∧ W (i + 1) m' H') ∧ ∀ x H', (Itr lo n).yld i H x H' → gName j x (wipe σ vs) H' fun σ2 H2 => wipe σ2 vs = wipe σ vs ∧ tYes σ2 H2 fun b H3 =>
        if b = true then te σ2 H3 fun y H4 => ∃ acc, H4 Dl = some (.lst acc) ∧ acc.length < sizeLine ∧ Nx (upd H4 Dl (.lst (acc ++ [y]))) else Nx H3) := by
  refine lc_range (lo := lo) (n := n) (fun i H' => ∃ qs : List Addr, Same H1 H' ∧ H' Dl = some (.lst (qs.map V.ref)) ∧ RowsF H' qs i F ∧ (∀ q ∈ qs, H1 q = none ∧ q ≠ Dl) ∧ qs.Nodup) ⟨[], same_new hD, upd_same, ⟨rfl, fun k p h => nomatch h⟩, (fun q h => nomatch h), List.nodup_nil⟩ (fun i H' hi p => ?_) (fun H' p => ?_)
  · obtain ⟨qs, s1, eD, r, f, nd⟩ := p
    refine ⟨hw _, ?_⟩
    refine tyes_ok ?_
    refine he i H' hi s1 _ fun q H4 s e nq => ?_
    have qD : q ≠ Dl := fun z => by rw [z, eD] at nq; cases nq
    refine ⟨_, s _ _ eD, szl (by rw [List.length_map, r.len]; omega), qs ++ [q], same_upd' hD (s1.trans s), ?_, r.snoc s (fun p hp => (f p hp).2) e qD, fun p hp => ?_, ?_⟩
    · rw [upd_same, List.map_append]; rfl
    · rcases List.mem_append.mp hp with h | h
      · exact f p h
      · rw [List.mem_singleton.mp h]; exact ⟨s1.free nq, qD⟩
    · rw [List.nodup_append]
      refine ⟨nd, List.nodup_cons.mpr ⟨List.not_mem_nil, List.nodup_nil⟩, fun x hx y hy z => ?_⟩
      rw [List.mem_singleton.mp hy] at z
      obtain ⟨ms, em⟩ := r.is hx
      rw [z, nq] at em
      cases em
  · obtain ⟨qs, s1, eD, r, f, nd⟩ := p
    exact hd H' qs s1 eD r f nd
/-- [e for p in a list], each e a new list of ints -/
theorem lc_refsL {ls : List Addr} (F : Nat → List Int) (hn : ls.length ≤ 1000000) (ha : SqL K H1 a (ls.map V.ref)) (hD : H1 Dl = none) (hw : ∀ x, wipe ((wipe σ vs).set j (some x)) vs = wipe σ vs)
    (he : ∀ (k : Nat) p H', ls[k]? = some p → Same H1 H' → ∀ Q' : VK, (∀ q H4, Same H' H4 → H4 q = some (.lst ((F k).map V.int)) → H' q = none → Q' (.ref q) H4) → te ((wipe σ vs).set j (some (.ref p))) H' Q')
    (hd : ∀ H' qs, Same H1 H' → H' Dl = some (.lst (qs.map V.ref)) → RowsF H' qs ls.length F → (∀ q ∈ qs, H1 q = none ∧ q ≠ Dl) → qs.Nodup → Qd H') :
    ∃ W : Nat → Nat → Hp → Prop, (∃ m, W 0 m (upd H1 Dl (.lst []))) ∧ ∀ i m H, W i m H →
      ((Itl K a).stop i H ∧ Qd H) ∨ ((Itl K a).go i H ∧ ∃ Nx : Hp → Prop, (∀ H', Nx H' → ∃ m', m' < m ∧ W (i + 1) m' H') ∧ ∀ x H', (Itl K a).yld i H x H' → gName j x (wipe σ vs) H' fun σ2 H2 => wipe σ2 vs = wipe σ vs ∧ tYes σ2 H2 fun b H3 =>
        if b = true then te σ2 H3 fun y H4 => ∃ acc, H4 Dl = some (.lst acc) ∧ acc.length < sizeLine ∧ Nx (upd H4 Dl (.lst (acc ++ [y]))) else Nx H3) := by
  refine lc_list (K := K) (a := a) (xs := ls.map V.ref) (fun i H' => ∃ qs : List Addr, Same H1 H' ∧ H' Dl = some (.lst (qs.map V.ref)) ∧ RowsF H' qs i F ∧ (∀ q ∈ qs, H1 q = none ∧ q ≠ Dl) ∧ qs.Nodup) ⟨[], same_new hD, upd_same, ⟨rfl, fun k p h => nomatch h⟩, (fun q h => nomatch h), List.nodup_nil⟩ (fun i H' _ p => ?_) (fun i x H' hx p => ?_) (fun H' p => ?_)
  · obtain ⟨qs, s1, _⟩ := p
    exact s1.seq ha
  · obtain ⟨qs, s1, eD, r, f, nd⟩ := p
    rw [List.getElem?_map] at hx
    obtain ⟨p0, hp0, rfl⟩ := Option.map_eq_some_iff.mp hx
    have hi := (List.getElem?_eq_some_iff.mp hp0).1
    refine ⟨hw _, ?_⟩
    refine tyes_ok ?_
    refine he i p0 H' hp0 s1 _ fun q H4 s e nq => ?_
    have qD : q ≠ Dl := fun z => by rw [z, eD] at nq; cases nq
    refine ⟨_, s _ _ eD, szl (by rw [List.length_map, r.len]; omega), qs ++ [q], same_upd' hD (s1.trans s), ?_, r.snoc s (fun p hp => (f p hp).2) e qD, fun p hp => ?_, ?_⟩
    · rw [upd_same, List.map_append]; rfl
    · rcases List.mem_append.mp hp with h | h
      · exact f p h
      · rw [List.mem_singleton.mp h]; exact ⟨s1.free nq, qD⟩
    · rw [List.nodup_append]
      refine ⟨nd, List.nodup_cons.mpr ⟨List.not_mem_nil, List.nodup_nil⟩, fun x hx y hy z => ?_⟩
      rw [List.mem_singleton.mp hy] at z
      obtain ⟨ms, em⟩ := r.is hx
      rw [z, nq] at em
      cases em
  · obtain ⟨qs, s1, eD, r, f, nd⟩ := p
    rw [List.length_map] at r
    exact hd H' qs s1 eD r f nd
end
end Ur
namespace Ur
open PySem L2
theorem lineW_drop {ns : List Int} {k : Nat} (h : k ≤ ns.length) : lineW (ns.drop k) 0 = lineW ns k := by
  unfold lineW
  rw [List.length_drop, Nat.sub_zero]
  refine List.map_congr_left fun j _ => ?_
  show ((ulen (((ns.drop k).drop 0).take (0 + j - 0)) : Nat) : Int) = ((ulen ((ns.drop k).take (k + j - k)) : Nat) : Int)
  rw [List.drop_zero, show 0 + j - 0 = j by omega, show k + j - k = j by omega]
end Ur
namespace Ur
open PySem L2
/-- all of ls are other places than a -/
structure Off (ls : List Addr) (a : Addr) : Prop where
  out : ∀ p ∈ ls, p ≠ a
theorem RowsF.offNew {H : Hp} {x : Addr} {ls : List Addr} {n : Nat} {F : Nat → List Int} (r : RowsF H ls n F) (e : H x = none) : Off ls x := ⟨fun p hp z => by
  obtain ⟨ms, em⟩ := r.is hp
  rw [z, e] at em
  cases em⟩
theorem offOld {H : Hp} {x : Addr} {o : HO} {ls : List Addr} (f : ∀ p ∈ ls, H p = none) (e : H x = some o) : Off ls x := ⟨fun p hp z => by
  have h := f p hp
  rw [z, e] at h
  cases h⟩
theorem RowsF.upd {H : Hp} {x : Addr} {o : HO} {ls : List Addr} {n : Nat} {F : Nat → List Int} (r : RowsF H ls n F) (f : Off ls x) : RowsF (upd H x o) ls n F := ⟨r.len, fun k p e => by
  rw [upd_ne (f.out p (List.mem_of_getElem? e))]
  exact r.row k p e⟩
theorem nodup_idx {α : Type} {ls : List α} (nd : ls.Nodup) {i k : Nat} {p : α} (h1 : ls[i]? = some p) (h2 : ls[k]? = some p) : i = k := by
  obtain ⟨a1, b1⟩ := List.getElem?_eq_some_iff.mp h1
  obtain ⟨a2, b2⟩ := List.getElem?_eq_some_iff.mp h2
  have w := List.pairwise_iff_getElem.mp nd
  rcases Nat.lt_trichotomy i k with c | c | c
  · exact absurd (b1.trans b2.symm) (w i k a1 a2 c)
  · exact c
  · exact absurd (b2.trans b1.symm) (w k i a2 a1 c)
/-- one of the lists has changed -/
theorem RowsF.set {H H' : Hp} {qs : List Addr} {n i : Nat} {l : Addr} {F : Nat → List Int} {ns : List Int} (r : RowsF H qs n F) (nd : qs.Nodup) (hl : qs[i]? = some l) (e : H' l = some (.lst (ns.map V.int))) (b : But l H H') : RowsF H' qs n (fun k => if k = i then ns else F k) := ⟨r.len, fun k p h => by
  show _ = some (HO.lst ((if k = i then ns else F k).map V.int))
  by_cases hk : k = i
  · subst hk
    rw [hl] at h
    cases h
    rw [if_pos rfl]
    exact e
  · rw [if_neg hk]
    refine b _ _ (fun z => hk ?_) (r.row k p h)
    exact nodup_idx nd h (by rw [hl, z])⟩
/-! ### told tables that are held, each a tuple of two of the same -/
structure PairR (h : Addr) (H : Hp) (p : Addr) : Prop where
  both : ∃ (a b : Addr) (ls ms : List Addr) (n : Nat) (F : Nat → List Int), a ≠ h ∧ b ≠ h ∧ p ≠ h ∧ Off ls h ∧ Off ms h ∧ H p = some (.tup [.ref a, .ref b]) ∧ H a = some (.lst (ls.map V.ref)) ∧ H b = some (.lst (ms.map V.ref)) ∧ RowsF H ls n F ∧ RowsF H ms n F
structure HeldR (h : Addr) (H : Hp) (n : Nat) : Prop where
  all : ∃ ps : List Addr, H h = some (.lst (ps.map V.ref)) ∧ ps.length ≤ n ∧ ∀ p ∈ ps, PairR h H p
theorem PairR.step {h p : Addr} {H H' : Hp} (k : PairR h H p) (b : But h H H') : PairR h H' p := by
  obtain ⟨x, y, ls, ms, n, F, hx, hy, hp, o1, o2, e, e1, e2, r1, r2⟩ := k.both
  exact ⟨x, y, ls, ms, n, F, hx, hy, hp, o1, o2, b _ _ hp e, b _ _ hx e1, b _ _ hy e2, r1.but b o1.out, r2.but b o2.out⟩
theorem HeldR.same {h : Addr} {H H' : Hp} {n : Nat} (k : HeldR h H n) (s : Same H H') : HeldR h H' n := by
  obtain ⟨ps, e, l, f⟩ := k.all
  exact ⟨ps, s _ _ e, l, fun p hp => (f p hp).step (Same.but s)⟩
theorem HeldR.snoc {h p : Addr} {H H' : Hp} {m n : Nat} {ps : List Addr} (l : ps.length ≤ n) (f : ∀ p ∈ ps, PairR h H p) (b : But h H H') (e' : H' h = some (.lst (ps.map V.ref ++ [V.ref p]))) (g : PairR h H' p) (hm : n + 1 ≤ m) : HeldR h H' m :=
  ⟨ps ++ [p], by rw [e', List.map_append]; rfl, by rw [List.length_append]; exact Nat.le_trans (Nat.succ_le_succ l) hm, fun q hq => by
    rcases List.mem_append.mp hq with k | k
    · exact (f q k).step b
    · rw [List.mem_singleton.mp k]; exact g⟩
end Ur
namespace Ur
open PySem L2
theorem len_refs {K : PySem.W.Frag} {H : Hp} {p : Addr} {ls : List Addr} {Q : VK} (h : SqL K H p (ls.map V.ref)) (q : Q (.int ls.length) H) : rLenI K [.ref p] H Q :=
  ⟨p, _, rfl, Or.inl h, by rw [List.length_map]; exact q⟩
end Ur
namespace Ur
open PySem L2
/-- while, the test's answer told; Pv by a measure; the search does not open what is due of a turn -/
theorem while_iv {tb : TS} {D : Ends} {σ : L2.St} {H : Hp} {c : TT} (Pv : Nat → L2.St → Hp → Prop) (m0 : Nat) (h0 : Pv m0 σ H)
    (hs : ∀ m σ H, Pv m σ H → ∃ b, (∀ Q : Bool → Hp → Prop, Q b H → c σ H Q) ∧
      (b = true → tb { D with nx := fun σ' H' => Iv (∃ m', m' < m ∧ Pv m' σ' H'), ct := fun σ' H' => Iv (∃ m', m' < m ∧ Pv m' σ' H'), bk := D.nx } σ H) ∧ (b = false → D.nx σ H)) : tWhile c tb D σ H := by
  refine ⟨Pv, ⟨m0, h0⟩, fun m σ H p => ?_⟩
  obtain ⟨b, hb, h1, h2⟩ := hs m σ H p
  refine hb _ ?_
  cases b with
  | true => exact (if_pos rfl).mpr ⟨_, fun _ _ n => n.out, h1 rfl⟩
  | false => exact (if_neg Bool.false_ne_true).mpr (h2 rfl)
theorem getD_mem {ns : List Int} {k : Nat} (h : k < ns.length) : ns.getD k 0 ∈ ns := List.mem_of_getElem? (get_of h)
theorem getD_all {ns : List Int} {k : Nat} {P : Int → Prop} (h : k < ns.length) (f : ∀ x ∈ ns, P x) : P (ns.getD k 0) := f _ (getD_mem h)
end Ur
namespace Ur
open PySem L2
/-- while, the test may lay new things; the body is reached where the measure is above 0 only -/
theorem while_t {tb : TS} {D : Ends} {σ : L2.St} {H : Hp} {c : TT} (Pv : Nat → L2.St → Hp → Prop) (m0 : Nat) (h0 : Pv m0 σ H)
    (ht : ∀ m σ H, Pv m σ H → ∀ Q : Bool → Hp → Prop, (∀ b H', Same H H' → (b = true → 0 < m) → Q b H') → c σ H Q)
    (hs : ∀ m σ H H', Pv m σ H → 0 < m → Same H H' → tb { D with nx := fun σ' H' => Iv (∃ m', m' < m ∧ Pv m' σ' H'), ct := fun σ' H' => Iv (∃ m', m' < m ∧ Pv m' σ' H'), bk := D.nx } σ H')
    (hd : ∀ m σ H H', Pv m σ H → Same H H' → D.nx σ H') : tWhile c tb D σ H := by
  refine ⟨Pv, ⟨m0, h0⟩, fun m σ H p => ht m σ H p _ fun b H' s hb => ?_⟩
  cases b with
  | true => exact (if_pos rfl).mpr ⟨_, fun _ _ n => n.out, hs m σ H H' p (hb rfl) s⟩
  | false => exact (if_neg Bool.false_ne_true).mpr (hd m σ H H' p s)
end Ur
namespace Ur
open PySem L2
/-! ### a window's numbers, held -/
def hldF (d : Addr) : List (Str × V) := putF "times" (.ref d) []
theorem hld_times {d : Addr} : (hldF d).lookup ("times" : Str) = some (.ref d) := by
  unfold hldF
  rw [lookup_putF, if_pos rfl]
theorem hld_no {d : Addr} {m : Str} (h : ¬ m = "times") : (hldF d).lookup m = none := by
  unfold hldF
  rw [lookup_putF, if_neg h]
  rfl
end Ur
namespace Ur
open PySem L2
theorem pop1_int {H : Hp} {a : Addr} {kvs : List (Key × V)} {n : Int} {v : V} {Q : VK} (h : H a = some (.dK kvs)) (hv : valV kvs (Sum.inl n) = some v) (q : Q v (upd H a (.dK (dropK kvs (Sum.inl n))))) :
    ∃ (kvs : List (Key × V)) (k : Key) (v : V), H a = some (.dK kvs) ∧ V.int n = kV k ∧ valV kvs k = some v ∧ Q v (upd H a (.dK (dropK kvs k))) := ⟨kvs, Sum.inl n, v, h, rfl, hv, q⟩
end Ur
namespace Ur
open PySem L2
theorem pg_tupK {X : Cx} {K : PySem.W.Frag} (hk : X.K = K) {es : List Expr} {k : Nat} {pos : Pos} {t : TGs} {n : Nat} (hc : X.calm = true) (h : PGs X es t)
    (hn : (assignEach es X.env).length = n := by rfl) (hst : (assignEach es X.env).findIdx? (·.1) = none := by rfl) : PG X (.Tuple es k pos) (gTup K n t) := by
  subst hk
  exact pg_tup hc h hn hst
end Ur
namespace Ur
open PySem L2
/-! ### repr -/
/-- repr of data laid in the heap -/
def rRepr (K : PySem.W.Frag) : List V → Hp → VK → Prop := fun xs H Q => ∃ (p : Addr) (d : PyData), xs = [.ref p] ∧ Dp K H (.ref p) d ∧
  d.showable = true ∧ d.hasDict = false ∧ d.depth ≤ 64 ∧ d.shown.length ≤ sizeLine ∧ Q (.str d.shown) H
/-- data whose repr is told -/
structure GoodD (d : PyData) : Prop where
  show_ : d.showable = true
  dict : d.hasDict = false
  deep : d.depth ≤ 64
  fits : d.shown.length ≤ sizeLine
abbrev SmI (i : Int) : Prop := -1000000 < i ∧ i < 1000000
theorem weight_sm {i : Int} (h : SmI i) : PyData.weight (.int i) ≤ 20 := by
  rw [PyData.weight]
  by_cases c : (i == 0) = true
  · rw [if_pos c]; omega
  · rw [if_neg c]
    have c2 : i ≠ 0 := fun e => c (by rw [e]; rfl)
    have k := (Nat.log2_lt (n := i.natAbs) (k := 20) (by omega)).mpr (by have e : (2 : Nat) ^ 20 = 1048576 := by decide
                                                                         omega)
    omega
theorem weightAll_sm : ∀ {ns : List Int}, (∀ n ∈ ns, SmI n) → PyData.weightAll (ns.map .int) ≤ 21 * ns.length
  | [], _ => by rw [List.map_nil, PyData.weightAll]; exact Nat.zero_le _
  | n :: r, h => by
    have k1 := weight_sm (h n List.mem_cons_self)
    have k2 := weightAll_sm (ns := r) fun m hm => h m (List.mem_cons_of_mem _ hm)
    rw [List.map_cons, PyData.weightAll, List.length_cons]
    omega
theorem showAll_sm : ∀ {ns : List Int}, (∀ n ∈ ns, SmI n) → PyData.showableAll (ns.map .int) = true
  | [], _ => by rw [List.map_nil, PyData.showableAll]
  | n :: r, h => by
    have h1 := h n List.mem_cons_self
    rw [List.map_cons, PyData.showableAll, showAll_sm (ns := r) fun m hm => h m (List.mem_cons_of_mem _ hm), Bool.and_true, PyData.showable]
    refine decide_eq_true ?_
    by_cases c : n.natAbs = 0
    · rw [c]; decide
    · exact Nat.lt_of_lt_of_le ((Nat.log2_lt (n := n.natAbs) (k := 20) c).mpr (by have e : (2 : Nat) ^ 20 = 1048576 := by decide
                                                                                  omega)) (by decide)
theorem shortAll_sm {ns : List Int} (h : ∀ n ∈ ns, SmI n) : PyData.intsShortAll 13 (ns.map .int) = true :=
  PyData.intsShortAll_ints ns fun n hn => by
    have := h n hn
    have e : (10 : Nat) ^ 12 = 1000000000000 := by decide
    omega
theorem good_of {d : PyData} (c : d.canLay0 = true) (dp : d.depth ≤ 64) (w : d.weight ≤ 2 ^ 20) (s : d.showable = true) (i : d.intsShort 13 = true) : GoodD d := by
  refine ⟨s, PyData.hasDict_of_canLay d c, dp, PyData.shown_fits_of_layable0 (B := 13) (by decide) (by decide) ?_ i⟩
  show (d.canLay0 && decide (d.depth ≤ 64) && decide (d.weight ≤ 2 ^ 20)) = true
  rw [c, decide_eq_true dp, decide_eq_true w]
  rfl
/-- a tuple of ints -/
def tupD (ns : List Int) : PyData := .tuple (ns.map .int)
theorem depth_tup (ns : List Int) : (tupD ns).depth ≤ 2 := by
  have h := depthAll_ints ns
  unfold tupD
  rw [PyData.depth]
  omega
theorem good_tup {ns : List Int} (h : ∀ n ∈ ns, SmI n) (hl : ns.length ≤ 1000) : GoodD (tupD ns) := by
  have w := weightAll_sm h
  refine good_of (canLayAll_ints ns) (Nat.le_trans (depth_tup ns) (by decide)) ?_ ?_ ?_
  · unfold tupD
    rw [PyData.weight]
    have e : (2 : Nat) ^ 20 = 1048576 := by decide
    omega
  · unfold tupD
    rw [PyData.showable]
    exact showAll_sm h
  · unfold tupD
    rw [PyData.intsShort]
    exact shortAll_sm h
theorem goodAll {ts : List (List Int)} (h : ∀ ns ∈ ts, ns.length ≤ 3 ∧ ∀ n ∈ ns, SmI n) : PyData.weightAll (ts.map tupD) ≤ 64 * ts.length ∧ PyData.showableAll (ts.map tupD) = true ∧ PyData.intsShortAll 13 (ts.map tupD) = true := by
  induction ts with
  | nil => exact ⟨by rw [List.map_nil, PyData.weightAll]; exact Nat.zero_le _, by rw [List.map_nil, PyData.showableAll], by rw [List.map_nil, PyData.intsShortAll]⟩
  | cons ns ts ih =>
    obtain ⟨h1, h2⟩ := h ns List.mem_cons_self
    obtain ⟨i1, i2, i3⟩ := ih fun m hm => h m (List.mem_cons_of_mem _ hm)
    have w := weightAll_sm h2
    have g := good_tup h2 (by omega)
    refine ⟨?_, ?_, ?_⟩
    · have e : PyData.weight (tupD ns) = PyData.weightAll (ns.map .int) := by unfold tupD; rw [PyData.weight]
      rw [List.map_cons, PyData.weightAll, List.length_cons, e]
      omega
    · rw [List.map_cons, PyData.showableAll, g.show_, i2]; rfl
    · have e : PyData.intsShort 13 (tupD ns) = true := by unfold tupD; rw [PyData.intsShort]; exact shortAll_sm h2
      rw [List.map_cons, PyData.intsShortAll, e, i3]; rfl
theorem good_tups {ts : List (List Int)} (h : ∀ ns ∈ ts, ns.length ≤ 3 ∧ ∀ n ∈ ns, SmI n) (hl : ts.length ≤ 1000) : GoodD (.list (ts.map tupD)) := by
  obtain ⟨w, s, i⟩ := goodAll h
  refine good_of (canLayAll_of _ fun d hd => ?_) ?_ ?_ ?_ ?_
  · obtain ⟨ns, _, rfl⟩ := List.mem_map.mp hd
    exact canLayAll_ints ns
  · have k := depthAll_of (m := 2) (ts.map tupD) fun d hd => by
      obtain ⟨ns, _, rfl⟩ := List.mem_map.mp hd
      exact depth_tup ns
    rw [PyData.depth]
    omega
  · rw [PyData.weight]
    have e : (2 : Nat) ^ 20 = 1048576 := by decide
    omega
  · rw [PyData.showable]; exact s
  · rw [PyData.intsShort]; exact i
theorem repr_good {K : PySem.W.Frag} {H : Hp} {p : Addr} {d : PyData} {Q : VK} (h : Dp K H (.ref p) d) (g : GoodD d) (q : Q (.str d.shown) H) : rRepr K [.ref p] H Q :=
  ⟨p, d, rfl, h, g.show_, g.dict, g.deep, g.fits, q⟩
theorem dp_tup {K : PySem.W.Frag} {H : Hp} {p : Addr} {ns : List Int} (h : H p = some (.tup (ns.map V.int))) : Dp K H (.ref p) (tupD ns) := .tup (SqT.of h) (dpAll_ints ns)
theorem repr_pair {K : PySem.W.Frag} {H : Hp} {p : Addr} {x y : Int} {Q : VK} (h : H p = some (.tup [.int x, .int y])) (q : (SmI x ∧ SmI y) ∧ Q (.str (tupD [x, y]).shown) H) : rRepr K [.ref p] H Q :=
  repr_good (dp_tup (ns := [x, y]) h) (good_tup (fun n hn => by
    rcases List.mem_cons.mp hn with rfl | hn
    · exact q.1.1
    · rw [List.mem_singleton.mp hn]; exact q.1.2) (by show 2 ≤ 1000; omega)) q.2
theorem units66 {k : Nat} {A : Around} (r : Room k A) : A.units + 66 < cLine := by have := r.un; omega
end Ur

namespace Ur
open PySem L2 PySem.Spec PyProof.Rows
/-! ### things of any kind: whole or not, lists of such -/
/-- whether a thing is a whole number -/
def IsW (H : Hp) (v : V) (b : Bool) : Prop := (b = true ∧ ∃ i, v = .int i) ∨ (b = false ∧ Kind H v ∧ ∀ i, v ≠ .int i)
theorem IsW.int {H : Hp} {i : Int} : IsW H (.int i) true := .inl ⟨rfl, i, rfl⟩
theorem IsW.bl {H : Hp} {c : Bool} : IsW H (.bl c) false := .inr ⟨rfl, .bl, fun _ z => nomatch z⟩
theorem IsW.str {H : Hp} {x : Str} : IsW H (.str x) false := .inr ⟨rfl, .str, fun _ z => nomatch z⟩
theorem IsW.non {H : Hp} : IsW H .non false := .inr ⟨rfl, .non, fun _ z => nomatch z⟩
theorem IsW.lst {H : Hp} {p : Addr} {xs : List V} (e : H p = some (.lst xs)) : IsW H (.ref p) false := .inr ⟨rfl, .lst e, fun _ z => nomatch z⟩
theorem IsW.tup {H : Hp} {p : Addr} {xs : List V} (e : H p = some (.tup xs)) : IsW H (.ref p) false := .inr ⟨rfl, .tup e, fun _ z => nomatch z⟩
theorem IsW.dct {H : Hp} {p : Addr} {xs : List (Key × V)} (e : H p = some (.dK xs)) : IsW H (.ref p) false := .inr ⟨rfl, .dct e, fun _ z => nomatch z⟩
theorem IsW.same {H H' : Hp} {v : V} {b : Bool} (w : IsW H v b) (s : Same H H') : IsW H' v b := by
  rcases w with w | ⟨e, k, n⟩
  · exact .inl w
  · exact .inr ⟨e, k.same s, n⟩
theorem Kind.whole {H : Hp} {v : V} (k : Kind H v) : (∃ i, v = .int i) ∨ ((∀ i, v ≠ .int i) ∧ IsW H v false) := by
  by_cases h : ∃ i, v = .int i
  · exact .inl h
  · exact .inr ⟨fun i e => h ⟨i, e⟩, .inr ⟨rfl, k, fun i e => h ⟨i, e⟩⟩⟩
theorem Kind.some {H : Hp} {p : Addr} (k : Kind H (.ref p)) : ∃ o, H p = Option.some o := by
  rcases k with ⟨i, e⟩ | ⟨c, e⟩ | ⟨x, e⟩ | e | ⟨q, xs, e, h⟩ | ⟨q, xs, e, h⟩ | ⟨q, xs, e, h⟩
  · cases e
  · cases e
  · cases e
  · cases e
  · cases e; exact ⟨_, h⟩
  · cases e; exact ⟨_, h⟩
  · cases e; exact ⟨_, h⟩
/-- the kind of a thing, a list told apart -/
theorem Kind.isList {K : PySem.W.Frag} {H : Hp} {v : V} (k : Kind H v) : (∃ p xs, v = .ref p ∧ H p = Option.some (.lst xs)) ∨ ((∀ p xs, v = .ref p → H p ≠ Option.some (.lst xs)) ∧ ∃ t, TyX K H v (.type t) ∧ kitB t "list" = Option.some false) := by
  rcases k with ⟨i, rfl⟩ | ⟨c, rfl⟩ | ⟨x, rfl⟩ | rfl | ⟨q, xs, rfl, h⟩ | ⟨q, xs, rfl, h⟩ | ⟨q, xs, rfl, h⟩
  · exact .inr ⟨fun _ _ e => (nomatch e), _, tyx_int, kb_int_list⟩
  · exact .inr ⟨fun _ _ e => (nomatch e), _, tyx_bl, kb_bool_list⟩
  · exact .inr ⟨fun _ _ e => (nomatch e), _, tyx_str, kb_str_list⟩
  · exact .inr ⟨fun _ _ e => (nomatch e), _, tyx_non, kb_NoneType_list⟩
  · exact .inl ⟨q, xs, rfl, h⟩
  · exact .inr ⟨fun p ys e z => (by cases e; rw [h] at z; cases z), _, tyx_tup h, kb_tuple_list⟩
  · exact .inr ⟨fun p ys e z => (by cases e; rw [h] at z; cases z), _, tyx_dK h, kb_dict_list⟩
/-- .. a tuple told apart -/
theorem Kind.isTup {K : PySem.W.Frag} {H : Hp} {v : V} (k : Kind H v) : (∃ p xs, v = .ref p ∧ H p = Option.some (.tup xs)) ∨ ((∀ p xs, v = .ref p → H p ≠ Option.some (.tup xs)) ∧ ∃ t, TyX K H v (.type t) ∧ kitB t "tuple" = Option.some false) := by
  rcases k with ⟨i, rfl⟩ | ⟨c, rfl⟩ | ⟨x, rfl⟩ | rfl | ⟨q, xs, rfl, h⟩ | ⟨q, xs, rfl, h⟩ | ⟨q, xs, rfl, h⟩
  · exact .inr ⟨fun _ _ e => (nomatch e), _, tyx_int, kb_int_tuple⟩
  · exact .inr ⟨fun _ _ e => (nomatch e), _, tyx_bl, kb_bool_tuple⟩
  · exact .inr ⟨fun _ _ e => (nomatch e), _, tyx_str, kb_str_tuple⟩
  · exact .inr ⟨fun _ _ e => (nomatch e), _, tyx_non, kb_NoneType_tuple⟩
  · exact .inr ⟨fun p ys e z => (by cases e; rw [h] at z; cases z), _, tyx_lst h, kb_list_tuple⟩
  · exact .inl ⟨q, xs, rfl, h⟩
  · exact .inr ⟨fun p ys e z => (by cases e; rw [h] at z; cases z), _, tyx_dK h, kb_dict_tuple⟩
/-- all these addresses are taken -/
structure Old (L : Addr → Prop) (H : Hp) : Prop where
  has : ∀ b, L b → ∃ o, H b = some o
theorem Old.free {L : Addr → Prop} {H : Hp} {p : Addr} (o : Old L H) (n : H p = none) : ∀ b, L b → p ≠ b := fun b l e => by
  obtain ⟨u, h⟩ := o.has b l
  rw [← e, n] at h
  cases h
theorem Old.freeV {L : Addr → Prop} {H : Hp} {p : Addr} (o : Old L H) (n : H p = none) : ∀ b, L b → V.ref p ≠ .ref b := fun b l e => o.free n b l (by injection e)
theorem Old.same {L : Addr → Prop} {H H' : Hp} (o : Old L H) (s : Same H H') : Old L H' := ⟨fun b l => by
  obtain ⟨u, h⟩ := o.has b l
  exact ⟨u, s _ _ h⟩⟩
theorem Old.but {L : Addr → Prop} {a : Addr} {u : HO} {H H' : Hp} (o : Old L H) (b : But a H H') (h : H' a = some u) : Old L H' := ⟨fun c l => by
  by_cases e : c = a
  · rw [e]; exact ⟨u, h⟩
  · obtain ⟨w, k⟩ := o.has c l
    exact ⟨w, b _ _ e k⟩⟩
def Bar0 : Addr → Prop := fun _ => False
def Bar1 (a : Addr) : Addr → Prop := fun b => b = a
def Bar2 (a c : Addr) : Addr → Prop := fun b => b = a ∨ b = c
theorem Bar1.self {a : Addr} : Bar1 a a := rfl
theorem Bar1.ne {a p : Addr} (h : p ≠ a) : ∀ b, Bar1 a b → p ≠ b := fun b e z => h (z.trans e)
theorem Bar1.old {a : Addr} {o : HO} {H : Hp} (e : H a = some o) : Old (Bar1 a) H := ⟨fun b l => by cases l; exact ⟨o, e⟩⟩
theorem Bar2.l {a c : Addr} : Bar2 a c a := .inl rfl
theorem Bar2.r {a c : Addr} : Bar2 a c c := .inr rfl
theorem Bar2.ne {a c p : Addr} (h : p ≠ a) (k : p ≠ c) : ∀ b, Bar2 a c b → p ≠ b := fun b e z => e.elim (fun e => h (z.trans e)) fun e => k (z.trans e)
theorem Bar2.old {a c : Addr} {o u : HO} {H : Hp} (e : H a = some o) (f : H c = some u) : Old (Bar2 a c) H := ⟨fun b l => by
  rcases l with rfl | rfl
  · exact ⟨o, e⟩
  · exact ⟨u, f⟩⟩
theorem neV {L : Addr → Prop} {p : Addr} (n : ∀ b, L b → p ≠ b) : ∀ b, L b → V.ref p ≠ .ref b := fun b l e => n b l (by injection e)
/-- items of known kinds, none of them at L -/
structure Its (L : Addr → Prop) (H : Hp) (xs : List V) : Prop where
  all : ∀ x ∈ xs, Kind H x ∧ ∀ b, L b → x ≠ .ref b
theorem Its.nil {L : Addr → Prop} {H : Hp} : Its L H [] := ⟨fun _ h => nomatch h⟩
theorem Its.ints {L : Addr → Prop} {H : Hp} (ns : List Int) : Its L H (ns.map V.int) := ⟨fun x h => by
  obtain ⟨n, _, rfl⟩ := List.mem_map.mp h
  exact ⟨.int, fun _ _ z => nomatch z⟩⟩
theorem Its.sub {L : Addr → Prop} {H : Hp} {xs ys : List V} (t : Its L H xs) (f : ∀ y ∈ ys, y ∈ xs) : Its L H ys := ⟨fun y h => t.all y (f y h)⟩
theorem Its.app {L : Addr → Prop} {H : Hp} {xs ys : List V} (t : Its L H xs) (u : Its L H ys) : Its L H (xs ++ ys) := ⟨fun y h => by
  rcases List.mem_append.mp h with k | k
  · exact t.all y k
  · exact u.all y k⟩
theorem Its.one {L : Addr → Prop} {H : Hp} {x : V} (k : Kind H x) (n : ∀ b, L b → x ≠ .ref b) : Its L H [x] := ⟨fun y h => by rw [List.mem_singleton.mp h]; exact ⟨k, n⟩⟩
theorem Its.two {L : Addr → Prop} {H : Hp} {x y : V} (kx : Kind H x) (nx : ∀ b, L b → x ≠ .ref b) (ky : Kind H y) (ny : ∀ b, L b → y ≠ .ref b) : Its L H [x, y] := (Its.one kx nx).app (.one ky ny)
theorem Its.rep {L : Addr → Prop} {H : Hp} {xs : List V} (t : Its L H xs) (k : Nat) : Its L H (List.replicate k xs).flatten := ⟨fun y h => by
  obtain ⟨l, h1, h2⟩ := List.mem_flatten.mp h
  rw [List.eq_of_mem_replicate h1] at h2
  exact t.all y h2⟩
theorem Its.same {L : Addr → Prop} {H H' : Hp} {xs : List V} (t : Its L H xs) (s : Same H H') : Its L H' xs := ⟨fun x h => ⟨(t.all x h).1.same s, (t.all x h).2⟩⟩
theorem Its.but {L : Addr → Prop} {a : Addr} {H H' : Hp} {xs : List V} (t : Its L H xs) (l : L a) (b : But a H H') : Its L H' xs := ⟨fun x h => ⟨(t.all x h).1.but b ((t.all x h).2 a l), (t.all x h).2⟩⟩
theorem Its.less {L M : Addr → Prop} {H : Hp} {xs : List V} (t : Its L H xs) (f : ∀ b, M b → L b) : Its M H xs := ⟨fun x h => ⟨(t.all x h).1, fun b m => (t.all x h).2 b (f b m)⟩⟩
/-- a thing, a list's items of known kinds; none of this is at L -/
structure Th (L : Addr → Prop) (H : Hp) (v : V) : Prop where
  kind : Kind H v
  ne : ∀ b, L b → v ≠ .ref b
  items : ∀ p xs, v = .ref p → H p = some (.lst xs) → xs.length ≤ 2000 ∧ Its L H xs
theorem Th.same {L : Addr → Prop} {H H' : Hp} {v : V} (t : Th L H v) (s : Same H H') : Th L H' v := ⟨t.kind.same s, t.ne, fun p xs e h => by
  subst e
  obtain ⟨o, ho⟩ := t.kind.some
  have z := s _ _ ho
  rw [h] at z
  cases z
  obtain ⟨l, f⟩ := t.items p xs rfl ho
  exact ⟨l, f.same s⟩⟩
theorem Th.but {L : Addr → Prop} {a : Addr} {H H' : Hp} {v : V} (t : Th L H v) (la : L a) (b : But a H H') : Th L H' v := ⟨t.kind.but b (t.ne a la), t.ne, fun p xs e h => by
  subst e
  obtain ⟨o, ho⟩ := t.kind.some
  have z := b _ _ (fun z => t.ne a la (by rw [z])) ho
  rw [h] at z
  cases z
  obtain ⟨l, f⟩ := t.items p xs rfl ho
  exact ⟨l, f.but la b⟩⟩
theorem Th.less {L M : Addr → Prop} {H : Hp} {v : V} (t : Th L H v) (f : ∀ b, M b → L b) : Th M H v := ⟨t.kind, fun b m => t.ne b (f b m), fun p xs e h => ⟨(t.items p xs e h).1, (t.items p xs e h).2.less f⟩⟩
theorem Th.lst {L : Addr → Prop} {H : Hp} {p : Addr} {xs : List V} (e : H p = some (.lst xs)) (n : ∀ b, L b → p ≠ b) (l : xs.length ≤ 2000) (t : Its L H xs) : Th L H (.ref p) :=
  ⟨.lst e, neV n, fun q ys z h => by cases z; rw [e] at h; cases h; exact ⟨l, t⟩⟩
theorem Th.of {L : Addr → Prop} {H : Hp} {v : V} (k : Kind H v) (n : ∀ b, L b → v ≠ .ref b) (f : ∀ p xs, v = .ref p → H p ≠ some (.lst xs)) : Th L H v := ⟨k, n, fun p xs e h => (f p xs e h).elim⟩
theorem Th.int {L : Addr → Prop} {H : Hp} {i : Int} : Th L H (.int i) := .of .int (fun _ _ z => nomatch z) fun _ _ z => nomatch z
theorem Th.bl {L : Addr → Prop} {H : Hp} {c : Bool} : Th L H (.bl c) := .of .bl (fun _ _ z => nomatch z) fun _ _ z => nomatch z
theorem Th.str {L : Addr → Prop} {H : Hp} {x : Str} : Th L H (.str x) := .of .str (fun _ _ z => nomatch z) fun _ _ z => nomatch z
theorem Th.non {L : Addr → Prop} {H : Hp} : Th L H .non := .of .non (fun _ _ z => nomatch z) fun _ _ z => nomatch z
theorem Th.tup {L : Addr → Prop} {H : Hp} {p : Addr} {xs : List V} (e : H p = some (.tup xs)) (n : ∀ b, L b → p ≠ b) : Th L H (.ref p) := .of (.tup e) (neV n) fun q ys z h => by cases z; rw [e] at h; cases h
theorem Th.dct {L : Addr → Prop} {H : Hp} {p : Addr} {xs : List (Key × V)} (e : H p = some (.dK xs)) (n : ∀ b, L b → p ≠ b) : Th L H (.ref p) := .of (.dct e) (neV n) fun q ys z h => by cases z; rw [e] at h; cases h
/-! lists of values -/
theorem atI_get {xs : List V} {i : Int} (h0 : 0 ≤ i) (h1 : i < xs.length) : ∃ v, atI xs i = some v ∧ v ∈ xs ∧ xs[i.toNat]? = some v := by
  obtain ⟨k, rfl⟩ := Int.eq_ofNat_of_zero_le h0
  have hj : k < xs.length := by omega
  exact ⟨xs[k], atI_nat (List.getElem?_eq_getElem hj), List.getElem_mem hj, by rw [Int.toNat_natCast]; exact List.getElem?_eq_getElem hj⟩
theorem mem_cut {xs : List V} {lo hi : Option Int} {x : V} (h : x ∈ cutV xs lo hi) : x ∈ xs := by
  unfold cutV at h
  exact List.mem_of_mem_drop (List.mem_of_mem_take h)
/-- a cut of a list, its contents no longer looked at -/
theorem cut_is (xs : List V) (lo hi : Option Int) : ∃ ys, cutV xs lo hi = ys ∧ ys.length ≤ xs.length ∧ ∀ y ∈ ys, y ∈ xs := ⟨_, rfl, cutV_length _ _ _, fun _ h => mem_cut h⟩
theorem rep01 (b : Bool) (xs : List V) : ((List.replicate (if b = true then (1 : Int) else 0).toNat xs).flatten).length ≤ xs.length := by
  cases b <;> simp
theorem len_any {K : PySem.W.Frag} {H : Hp} {p : Addr} {xs : List V} {Q : VK} (h : SqL K H p xs) (q : Q (.int xs.length) H) : rLenI K [.ref p] H Q := ⟨p, _, rfl, Or.inl h, q⟩
end Ur
namespace Ur
open PySem L2
theorem nwA' {H : Hp} {x p : Addr} {o : HO} (h : H x = some o) (n : H p = none) : p ≠ x := fun e => by rw [e, h] at n; cases n
theorem ints_of : ∀ {xs : List V}, (∀ x ∈ xs, ∃ n : Int, x = .int n) → ∃ ns : List Int, xs = ns.map V.int
  | [], _ => ⟨[], rfl⟩
  | x :: xs, h => by
    obtain ⟨n, rfl⟩ := h x List.mem_cons_self
    obtain ⟨ns, e⟩ := ints_of fun y hy => h y (List.mem_cons_of_mem _ hy)
    exact ⟨n :: ns, by rw [e]; rfl⟩
theorem int_mem {ns : List Int} {n : Int} : V.int n ∈ ns.map V.int ↔ n ∈ ns := ⟨fun h => by
  obtain ⟨m, hm, e⟩ := List.mem_map.mp h
  cases e; exact hm, fun h => List.mem_map.mpr ⟨n, h, rfl⟩⟩
theorem take_snocV {xs : List V} {i : Nat} {x : V} (h : xs[i]? = some x) : xs.take (i + 1) = xs.take i ++ [x] := by
  rw [List.take_succ, h]; rfl
end Ur

namespace Ur
open PySem PySem.Spec PyProof.Rows L2
/-! ### == and != of lists of things of any kind: of unlike lengths, or with the very same items -/
def rEqL (K : PySem.W.Frag) (neg : Bool) : R2 := fun x y H Q => ∃ (a b : Addr) (xs ys : List V), x = .ref a ∧ y = .ref b ∧ SqL K H a xs ∧ SqL K H b ys ∧
  ((xs.length ≠ ys.length ∧ Q (.bl neg) H) ∨ (xs = ys ∧ (∀ v ∈ xs, flatV v = true ∨ ∃ p, v = .ref p) ∧ Q (.bl (!neg)) H))
theorem eqV_self : ∀ {v : V}, flatV v = true → eqV v v = true
  | .non, _ => rfl
  | .bl b, _ => by simp [eqV]
  | .int i, _ => by simp [eqV]
  | .str x, _ => by simp [eqV]
theorem eqAt_ref {A : Around} {s : Shared} {p : Addr} : SeqAt.EqAt A s (.ref p) (.ref p) true := fun prog w E Q h => by
  unfold eqBool
  refine wpAny_holding ?_
  rw [if_pos (by simp)]
  exact wpAny_pure (M := model prog w) (E := E) h
theorem items_same {A : Around} {s : Shared} {xs : List V} {us ws : List Value} (r1 : Vals xs us) (r2 : Vals xs ws) (f : ∀ v ∈ xs, flatV v = true ∨ ∃ p, v = .ref p) :
    ∀ j (h1 : j < us.toArray.size) (h2 : j < ws.toArray.size), SeqAt.EqAt A s us.toArray[j] ws.toArray[j] true := fun j h1 h2 => by
  have hx : j < xs.length := by rw [r1.length]; simpa using h1
  have e0 := List.getElem?_eq_getElem hx
  obtain ⟨u, e1, ru⟩ := r1.get e0
  obtain ⟨v, e2, rv⟩ := r2.get e0
  have g1 : us.toArray[j] = u := by
    have := (List.getElem?_eq_some_iff.mp e1).2
    simpa using this
  have g2 : ws.toArray[j] = v := by
    have := (List.getElem?_eq_some_iff.mp e2).2
    simpa using this
  rw [g1, g2]
  rcases f _ (List.getElem_mem hx) with k | ⟨p, k⟩
  · have z := eqAt_V (A := A) (s := s) ru rv k k
    rwa [eqV_self k] at z
  · rw [k] at ru rv
    cases (show u = Value.ref p from ru)
    cases (show v = Value.ref p from rv)
    exact eqAt_ref
section
variable {X : Cx} {K : PySem.W.Frag}
theorem op_eqL (hK : X.K = K) (hu : X.A.units + 64 < cLine) : OpR X (compareOp .Eq) (rEqL K false) := by
  subst hK
  intro pins s σ H x y v u Q I rx ry h
  obtain ⟨a, b, xs, ys, rfl, rfl, ha, hb, h⟩ := h
  cases (show v = Value.ref a from rx)
  cases (show u = Value.ref b from ry)
  obtain ⟨i1, r1, p1, _⟩ := I.list ha
  obtain ⟨i2, r2, p2, _⟩ := I.list hb
  have l1 := r1.length
  have l2 := r2.length
  rcases h with ⟨hn, q⟩ | ⟨rfl, f, q⟩
  · exact SeqAt.RcAt.lists_lengths p1.isList p2.isList (by simp; omega) (by omega) X.prog X.w _ _ ⟨.bl _, H, I, rfl, q⟩
  · have z := SeqAt.RcAt.lists (A := X.A) (e := fun _ => true) p1.isList p2.isList (by simp; omega) (by omega) (items_same r1 r2 f) X.prog X.w
    have all : (List.range i1.toArray.size).all (fun _ => true) = true := List.all_eq_true.mpr fun _ _ => rfl
    rw [all] at z
    exact z _ _ ⟨.bl _, H, I, rfl, q⟩
theorem op_neL (hK : X.K = K) (hu : X.A.units + 64 < cLine) : OpR X (compareOp .NotEq) (rEqL K true) := by
  subst hK
  intro pins s σ H x y v u Q I rx ry h
  obtain ⟨a, b, xs, ys, rfl, rfl, ha, hb, h⟩ := h
  cases (show v = Value.ref a from rx)
  cases (show u = Value.ref b from ry)
  obtain ⟨i1, r1, p1, _⟩ := I.list ha
  obtain ⟨i2, r2, p2, _⟩ := I.list hb
  have l1 := r1.length
  have l2 := r2.length
  rcases h with ⟨hn, q⟩ | ⟨rfl, f, q⟩
  · exact SeqAt.RcNeAt.lists_lengths p1.isList p2.isList (by simp; omega) (by omega) X.prog X.w _ _ ⟨.bl _, H, I, rfl, q⟩
  · have z := SeqAt.RcNeAt.lists (A := X.A) (e := fun _ => true) p1.isList p2.isList (by simp; omega) (by omega) (items_same r1 r2 f) X.prog X.w
    have all : (List.range i1.toArray.size).all (fun _ => true) = true := List.all_eq_true.mpr fun _ _ => rfl
    rw [all] at z
    exact z _ _ ⟨.bl _, H, I, rfl, q⟩
end
/-- against a list without items -/
theorem rEqL_nil {K : PySem.W.Frag} {H : Hp} {a b : Addr} {xs : List V} {Q : VK} (h1 : SqL K H a xs) (h2 : SqL K H b []) (q : Q (.bl xs.isEmpty) H) : rEqL K false (.ref a) (.ref b) H Q := by
  cases xs with
  | nil => exact ⟨a, b, [], [], rfl, rfl, h1, h2, .inr ⟨rfl, (fun _ h => nomatch h), q⟩⟩
  | cons x xs => exact ⟨a, b, _, [], rfl, rfl, h1, h2, .inl ⟨by simp, q⟩⟩
theorem rNeL_nil {K : PySem.W.Frag} {H : Hp} {a b : Addr} {xs : List V} {Q : VK} (h1 : SqL K H a xs) (h2 : SqL K H b []) (q : Q (.bl (!xs.isEmpty)) H) : rEqL K true (.ref a) (.ref b) H Q := by
  cases xs with
  | nil => exact ⟨a, b, [], [], rfl, rfl, h1, h2, .inr ⟨rfl, (fun _ h => nomatch h), q⟩⟩
  | cons x xs => exact ⟨a, b, _, [], rfl, rfl, h1, h2, .inl ⟨by simp, q⟩⟩
theorem Kind.flat {H : Hp} {v : V} (k : Kind H v) : flatV v = true ∨ ∃ p, v = .ref p := by
  rcases k with ⟨i, rfl⟩ | ⟨b, rfl⟩ | ⟨x, rfl⟩ | rfl | ⟨p, xs, rfl, _⟩ | ⟨p, xs, rfl, _⟩ | ⟨p, xs, rfl, _⟩
  · exact .inl rfl
  · exact .inl rfl
  · exact .inl rfl
  · exact .inl rfl
  · exact .inr ⟨p, rfl⟩
  · exact .inr ⟨p, rfl⟩
  · exact .inr ⟨p, rfl⟩
theorem rEqL_same {K : PySem.W.Frag} {H : Hp} {neg : Bool} {a b : Addr} {xs : List V} {Q : VK} (h1 : SqL K H a xs) (h2 : SqL K H b xs) (f : ∀ x ∈ xs, Kind H x) (q : Q (.bl (!neg)) H) : rEqL K neg (.ref a) (.ref b) H Q :=
  ⟨a, b, xs, xs, rfl, rfl, h1, h2, .inr ⟨rfl, fun v hv => (f v hv).flat, q⟩⟩
section
variable {K : PySem.W.Frag} {a : Addr} {xs : List V} {σ : L2.St} {H1 : Hp} {Dl : Addr} {te : TE} {tt : TT} {vs : List Nat} {j : Nat} {Qd : Hp → Prop}
/-- [e for x in a list of things if t] -/
theorem lc_valsIf (t : V → Bool) (f : V → V) (hn : xs.length ≤ 1000000) (ha : SqL K H1 a xs) (hD : H1 Dl = none) (hw : ∀ x, wipe ((wipe σ vs).set j (some x)) vs = wipe σ vs)
    (ht : ∀ (x : V) H', x ∈ xs → Same H1 H' → ∀ Q' : Bool → Hp → Prop, (∀ H4, Same H' H4 → Q' (t x) H4) → tt ((wipe σ vs).set j (some x)) H' Q')
    (he : ∀ (x : V) H', x ∈ xs → t x = true → Same H1 H' → ∀ Q' : VK, (∀ H4, Same H' H4 → Q' (f x) H4) → te ((wipe σ vs).set j (some x)) H' Q')
    (hd : ∀ H', Same H1 H' → H' Dl = some (.lst ((xs.filter t).map f)) → Qd H') :
    ∃ W : Nat → Nat → Hp → Prop, (∃ m, W 0 m (upd H1 Dl (.lst []))) ∧ ∀ i m H, W i m H →
      ((Itl K a).stop i H ∧ Qd H) ∨ ((Itl K a).go i H ∧ ∃ Nx : Hp → Prop, (∀ H', Nx H' → ∃ m', m' < m ∧ W (i + 1) m' H') ∧ ∀ x H', (Itl K a).yld i H x H' → gName j x (wipe σ vs) H' fun σ2 H2 => wipe σ2 vs = wipe σ vs ∧ tt σ2 H2 fun b H3 =>
        if b = true then te σ2 H3 fun y H4 => ∃ acc, H4 Dl = some (.lst acc) ∧ acc.length < sizeLine ∧ Nx (upd H4 Dl (.lst (acc ++ [y]))) else Nx H3) := by
  refine lc_list (K := K) (a := a) (xs := xs) (fun i H' => Same H1 H' ∧ H' Dl = some (.lst (((xs.take i).filter t).map f))) ⟨same_new hD, upd_same⟩ (fun i H' _ p => p.1.seq ha) (fun i x H' hx p => ?_) (fun H' p => ?_)
  · have hi := (List.getElem?_eq_some_iff.mp hx).1
    have hm := List.mem_of_getElem? hx
    refine ⟨hw _, ?_⟩
    refine ht x H' hm p.1 _ fun H3 s3 => ?_
    have e1 := take_snocV hx
    cases hb : t x with
    | true =>
      refine (if_pos rfl).mpr ?_
      refine he x H3 hm hb (p.1.trans s3) _ fun H4 s => ⟨_, s _ _ (s3 _ _ p.2), szl ?_, same_upd' hD ((p.1.trans s3).trans s), ?_⟩
      · have := List.length_filter_le t (xs.take i)
        rw [List.length_take] at this
        rw [List.length_map]; omega
      rw [upd_same, e1, List.filter_append, List.map_append, List.filter_cons, if_pos hb]
      rfl
    | false =>
      refine (if_neg Bool.false_ne_true).mpr ⟨p.1.trans s3, ?_⟩
      rw [e1, List.filter_append, List.map_append, List.filter_cons, if_neg (by rw [hb]; exact Bool.false_ne_true)]
      simpa using s3 _ _ p.2
  · rw [List.take_length] at p
    exact hd H' p.1 p.2
/-- [e for x in a list of things] -/
theorem lc_vals (f : V → V) (hn : xs.length ≤ 1000000) (ha : SqL K H1 a xs) (hD : H1 Dl = none) (hw : ∀ x, wipe ((wipe σ vs).set j (some x)) vs = wipe σ vs)
    (he : ∀ (x : V) H', x ∈ xs → Same H1 H' → ∀ Q' : VK, (∀ H4, Same H' H4 → Q' (f x) H4) → te ((wipe σ vs).set j (some x)) H' Q')
    (hd : ∀ H', Same H1 H' → H' Dl = some (.lst (xs.map f)) → Qd H') :
    ∃ W : Nat → Nat → Hp → Prop, (∃ m, W 0 m (upd H1 Dl (.lst []))) ∧ ∀ i m H, W i m H →
      ((Itl K a).stop i H ∧ Qd H) ∨ ((Itl K a).go i H ∧ ∃ Nx : Hp → Prop, (∀ H', Nx H' → ∃ m', m' < m ∧ W (i + 1) m' H') ∧ ∀ x H', (Itl K a).yld i H x H' → gName j x (wipe σ vs) H' fun σ2 H2 => wipe σ2 vs = wipe σ vs ∧ tYes σ2 H2 fun b H3 =>
        if b = true then te σ2 H3 fun y H4 => ∃ acc, H4 Dl = some (.lst acc) ∧ acc.length < sizeLine ∧ Nx (upd H4 Dl (.lst (acc ++ [y]))) else Nx H3) := by
  refine lc_list (K := K) (a := a) (xs := xs) (fun i H' => Same H1 H' ∧ H' Dl = some (.lst ((xs.take i).map f))) ⟨same_new hD, upd_same⟩ (fun i H' _ p => p.1.seq ha) (fun i x H' hx p => ?_) (fun H' p => ?_)
  · have hi := (List.getElem?_eq_some_iff.mp hx).1
    have hm := List.mem_of_getElem? hx
    refine ⟨hw _, tyes_ok ?_⟩
    refine he x H' hm p.1 _ fun H4 s => ⟨_, s _ _ p.2, szl ?_, same_upd' hD (p.1.trans s), ?_⟩
    · rw [List.length_map, List.length_take]; omega
    rw [upd_same, take_snocV hx, List.map_append]
    rfl
  · rw [List.take_length] at p
    exact hd H' p.1 p.2
end
/-- whether a value is a whole number -/
def isI : V → Bool
  | .int _ => true
  | _ => false
theorem isI_int {v : V} (h : isI v = true) : ∃ i, v = .int i := by
  cases v <;> first | exact ⟨_, rfl⟩ | cases h
theorem Kind.isW {H : Hp} {v : V} (k : Kind H v) : IsW H v (isI v) := by
  rcases k.whole with ⟨i, rfl⟩ | ⟨hn, w⟩
  · exact .int
  · have : isI v = false := by
      cases h : isI v with
      | false => rfl
      | true => obtain ⟨i, e⟩ := isI_int h; exact (hn i e).elim
    rw [this]; exact w
end Ur

namespace Ur
open PySem L2
/-! ### lists of pairs of ints -/
/-- objects at ls, the k-th of them O k -/
structure ObjsF (H : Hp) (ls : List Addr) (n : Nat) (O : Nat → HO) : Prop where
  len : ls.length = n
  row : ∀ k p, ls[k]? = some p → H p = some (O k)
theorem ObjsF.same {H H' : Hp} {ls : List Addr} {n : Nat} {O : Nat → HO} (r : ObjsF H ls n O) (s : Same H H') : ObjsF H' ls n O := ⟨r.len, fun k p e => s _ _ (r.row k p e)⟩
theorem ObjsF.but {a : Addr} {H H' : Hp} {ls : List Addr} {n : Nat} {O : Nat → HO} (r : ObjsF H ls n O) (b : But a H H') (no : ∀ p ∈ ls, p ≠ a) : ObjsF H' ls n O := ⟨r.len, fun k p e => b _ _ (no p (List.mem_of_getElem? e)) (r.row k p e)⟩
theorem ObjsF.is {H : Hp} {ls : List Addr} {n : Nat} {O : Nat → HO} (r : ObjsF H ls n O) {p : Addr} (hp : p ∈ ls) : ∃ k, k < n ∧ H p = some (O k) := by
  obtain ⟨k, hk⟩ := List.getElem?_of_mem hp
  exact ⟨k, by have := (List.getElem?_eq_some_iff.mp hk).1; have := r.len; omega, r.row k p hk⟩
theorem ObjsF.offNew {H : Hp} {x : Addr} {ls : List Addr} {n : Nat} {O : Nat → HO} (r : ObjsF H ls n O) (e : H x = none) : Off ls x := ⟨fun p hp z => by
  obtain ⟨k, _, em⟩ := r.is hp
  rw [z, e] at em
  cases em⟩
/-- .. of another kind than what lies at x -/
theorem ObjsF.offKind {H : Hp} {x : Addr} {o : HO} {ls : List Addr} {n : Nat} {O : Nat → HO} (r : ObjsF H ls n O) (e : H x = some o) (h : ∀ k, O k ≠ o) : Off ls x := ⟨fun p hp z => by
  obtain ⟨k, _, em⟩ := r.is hp
  rw [z, e] at em
  exact h k (Option.some.inj em).symm⟩
theorem ObjsF.upd {H : Hp} {x : Addr} {o : HO} {ls : List Addr} {n : Nat} {O : Nat → HO} (r : ObjsF H ls n O) (f : Off ls x) : ObjsF (upd H x o) ls n O := ⟨r.len, fun k p e => by
  rw [upd_ne (f.out p (List.mem_of_getElem? e))]
  exact r.row k p e⟩
/-- a pair -/
def pr (q : Int × Int) : HO := .tup [.int q.1, .int q.2]
abbrev PairsF (H : Hp) (ls : List Addr) (ps : List (Int × Int)) : Prop := ObjsF H ls ps.length (fun k => pr (ps.getD k (0, 0)))
theorem PairsF.nil {H : Hp} : PairsF H [] [] := ⟨rfl, fun k p h => nomatch h⟩
theorem PairsF.snoc {H : Hp} {ls : List Addr} {ps : List (Int × Int)} {p : Addr} {x y : Int} (r : PairsF H ls ps) (e : H p = some (.tup [.int x, .int y])) : PairsF H (ls ++ [p]) (ps ++ [(x, y)]) := by
  have hl := r.len
  refine ⟨by rw [List.length_append, List.length_append, hl]; rfl, fun k q h => ?_⟩
  by_cases hk : k < ls.length
  · rw [List.getElem?_append_left hk] at h
    have h2 := r.row k q h
    have h3 : (ps ++ [(x, y)]).getD k (0, 0) = ps.getD k (0, 0) := by
      rw [List.getD_eq_getElem?_getD, List.getD_eq_getElem?_getD, List.getElem?_append_left (by omega)]
    show H q = some (pr ((ps ++ [(x, y)]).getD k (0, 0)))
    rw [h3]
    exact h2
  · have h2 := (List.getElem?_eq_some_iff.mp h).1
    rw [List.length_append] at h2
    have h3 : [p].length = 1 := rfl
    have hk2 : k = ls.length := by omega
    subst hk2
    rw [List.getElem?_append_right (Nat.le_refl _), Nat.sub_self] at h
    cases h
    have h4 : (ps ++ [(x, y)]).getD ls.length (0, 0) = (x, y) := by
      rw [List.getD_eq_getElem?_getD, List.getElem?_append_right (by omega), hl, Nat.sub_self]
      rfl
    show H p = some (pr ((ps ++ [(x, y)]).getD ls.length (0, 0)))
    rw [h4]
    exact e
theorem PairsF.get {H : Hp} {ls : List Addr} {ps : List (Int × Int)} {k : Nat} {p : Addr} (r : PairsF H ls ps) (h : ls[k]? = some p) : k < ps.length ∧ H p = some (.tup [.int (ps.getD k (0, 0)).1, .int (ps.getD k (0, 0)).2]) :=
  ⟨by have := (List.getElem?_eq_some_iff.mp h).1; have := r.len; omega, r.row k p h⟩
theorem PairsF.offL {H : Hp} {x : Addr} {xs : List V} {ls : List Addr} {ps : List (Int × Int)} (r : PairsF H ls ps) (e : H x = some (.lst xs)) : Off ls x := ObjsF.offKind r e fun k z => nomatch z
/-- the data of such a list -/
def pairsD (ps : List (Int × Int)) : List PyData := ps.map fun q => PyData.tuple [.int q.1, .int q.2]
theorem dp_pairs {K : PySem.W.Frag} {H : Hp} {a : Addr} {ls : List Addr} {ps : List (Int × Int)} (h : SqL K H a (ls.map V.ref)) (r : PairsF H ls ps) : Dp K H (.ref a) (.list (pairsD ps)) := by
  refine .lst h (dpAll_of _ _ (by rw [pairsD, List.length_map, List.length_map, r.len]) fun k v d h1 h2 => ?_)
  rw [List.getElem?_map] at h1
  obtain ⟨p, hp, rfl⟩ := Option.map_eq_some_iff.mp h1
  obtain ⟨hk, e⟩ := r.get hp
  rw [pairsD, List.getElem?_map, List.getElem?_eq_getElem hk] at h2
  cases h2
  have e2 : ps.getD k (0, 0) = ps[k] := by rw [List.getD_eq_getElem?_getD, List.getElem?_eq_getElem hk]; rfl
  rw [e2] at e
  exact .tup (SqT.of e) (.cons (.int _) (.cons (.int _) .nil))
theorem shaped_pairs (ps : List (Int × Int)) : SeqAt.shaped (.list (pairsD ps)) = true := by
  refine shaped_of (canLayAll_of _ fun d h => ?_) ?_
  · obtain ⟨q, _, rfl⟩ := List.mem_map.mp h
    rfl
  · have h := depthAll_of (m := 2) (pairsD ps) fun d h => by
      obtain ⟨q, _, rfl⟩ := List.mem_map.mp h
      rw [PyData.depth]
      have := depthAll_of (m := 1) [PyData.int q.1, .int q.2] fun d h => by
        rcases List.mem_cons.mp h with rfl | h
        · simp [PyData.depth]
        · rw [List.mem_singleton.mp h]; simp [PyData.depth]
      omega
    rw [PyData.depth]
    omega
theorem eqv_pairs (ps : List (Int × Int)) : PyData.eqv (.list (pairsD ps)) (.list (pairsD ps)) = true := by
  show PyData.eqvAll _ _ = true
  refine eqvAll_refl _ fun d h => ?_
  obtain ⟨q, _, rfl⟩ := List.mem_map.mp h
  show PyData.eqvAll _ _ = true
  refine eqvAll_refl _ fun d h => ?_
  rcases List.mem_cons.mp h with rfl | h
  · show (q.1 == q.1) = true
    exact beq_self_eq_true _
  · rw [List.mem_singleton.mp h]
    show (q.2 == q.2) = true
    exact beq_self_eq_true _
theorem rEq_pairs {K : PySem.W.Frag} {H : Hp} {a b : Addr} {ls ms : List Addr} {ps : List (Int × Int)} {Q : VK} (h1 : SqL K H a (ls.map V.ref)) (h2 : SqL K H b (ms.map V.ref)) (r1 : PairsF H ls ps) (r2 : PairsF H ms ps) (q : Q (.bl true) H) : rEqD K (.ref a) (.ref b) H Q :=
  ⟨_, _, dp_pairs h1 r1, dp_pairs h2 r2, shaped_pairs ps, shaped_pairs ps, by rw [eqv_pairs]; exact q⟩
theorem rNe_pairs {K : PySem.W.Frag} {H : Hp} {a b : Addr} {ls ms : List Addr} {ps : List (Int × Int)} {Q : VK} (h1 : SqL K H a (ls.map V.ref)) (h2 : SqL K H b (ms.map V.ref)) (r1 : PairsF H ls ps) (r2 : PairsF H ms ps) (q : Q (.bl false) H) : rNeD K (.ref a) (.ref b) H Q :=
  ⟨_, _, dp_pairs h1 r1, dp_pairs h2 r2, shaped_pairs ps, shaped_pairs ps, by rw [eqv_pairs]; exact q⟩
/-! ### xs[:-1] -/
theorem cut_m1 (xs : List V) : cutV xs none (some (-1)) = xs.dropLast := by
  unfold cutV
  rw [HT.sIx_none]
  have e : HT.sIx xs.length xs.length (some (-1)) = xs.length - 1 := by
    show (if (-1 : Int) < 0 then ((-1 : Int) + (xs.length : Int)).toNat else min (-1 : Int).toNat xs.length) = xs.length - 1
    rw [if_pos (by decide)]
    omega
  rw [e, List.drop_zero, Nat.sub_zero, List.dropLast_eq_take]
end Ur

namespace Ur
open PySem L2
/-! ### how often each number stands in a window -/
theorem putK_keys (kvs : List (Key × V)) (k : Key) (v : V) (h : (kvs.map (·.1)).Nodup) : ((putK kvs k v).map (·.1)).Nodup := by
  unfold putK
  split
  · rw [List.map_map]
    have e : (kvs.map ((·.1) ∘ fun kv : Key × V => if kv.1 = k then (kv.1, v) else kv)) = kvs.map (·.1) := List.map_congr_left fun kv _ => by
      show (if kv.1 = k then (kv.1, v) else kv).1 = kv.1
      split <;> rfl
    rw [e]; exact h
  · rename_i hn
    rw [List.map_append, List.nodup_append]
    refine ⟨h, List.nodup_cons.mpr ⟨List.not_mem_nil, List.nodup_nil⟩, fun x hx y hy e => hn ?_⟩
    obtain ⟨kv, hkv, rfl⟩ := List.mem_map.mp hx
    have e2 : y = k := List.mem_singleton.mp hy
    exact List.any_eq_true.mpr ⟨kv, hkv, decide_eq_true (e.trans e2)⟩
theorem dropK_keys (kvs : List (Key × V)) (k : Key) (h : (kvs.map (·.1)).Nodup) : ((dropK kvs k).map (·.1)).Nodup := by
  unfold dropK
  exact List.Nodup.sublist (List.Sublist.map _ List.filter_sublist) h
theorem valV_dropK (k j : Key) : ∀ kvs : List (Key × V), valV (dropK kvs k) j = if j = k then none else valV kvs j
  | [] => by split <;> rfl
  | p :: r => by
    have ih := valV_dropK k j r
    by_cases e : p.1 = k
    · rw [dropK_pos e, ih]
      by_cases q : j = k
      · rw [if_pos q, if_pos q]
      · rw [if_neg q, if_neg q, valV_neg (fun z => q (z.symm.trans e))]
    · rw [dropK_neg e]
      by_cases q : p.1 = j
      · rw [valV_pos q, valV_pos q, if_neg (fun z => e (q.trans z))]
      · rw [valV_neg q, valV_neg q, ih]
theorem dropK_len (k : Key) : ∀ kvs : List (Key × V), (kvs.map (·.1)).Nodup → (valV kvs k).isSome = true → (dropK kvs k).length + 1 = kvs.length
  | [], _, h => by cases h
  | p :: r, nd, h => by
    rw [List.map_cons, List.nodup_cons] at nd
    by_cases e : p.1 = k
    · rw [dropK_pos e]
      have e2 : dropK r k = r := by
        unfold dropK
        refine List.filter_eq_self.mpr fun q hq => decide_eq_true fun z => nd.1 ?_
        exact List.mem_map.mpr ⟨q, hq, z.trans e.symm⟩
      rw [e2]; rfl
    · rw [dropK_neg e, List.length_cons, List.length_cons]
      rw [valV_neg e] at h
      have := dropK_len k r nd.2 h
      omega
structure Cnt (kvs : List (Key × V)) (W : List Int) : Prop where
  val : ∀ z : Int, valV kvs (Sum.inl z) = if z ∈ W then some (.int (W.count z : Nat)) else none
  len : kvs.length = ulen W
  nd : (kvs.map (·.1)).Nodup
theorem Cnt.nil : Cnt [] [] := ⟨fun z => by rw [if_neg (fun h => nomatch h)]; rfl, rfl, List.nodup_nil⟩
theorem Cnt.has {kvs : List (Key × V)} {W : List Int} (c : Cnt kvs W) (z : Int) : (valV kvs (Sum.inl z)).isSome = decide (z ∈ W) := by
  rw [c.val]
  by_cases h : z ∈ W
  · rw [if_pos h, decide_eq_true h]; rfl
  · rw [if_neg h, decide_eq_false h]; rfl
theorem Cnt.get0 {kvs : List (Key × V)} {W : List Int} (c : Cnt kvs W) (z : Int) : (valV kvs (Sum.inl z)).getD (.int 0) = .int (W.count z : Nat) := by
  rw [c.val]
  by_cases h : z ∈ W
  · rw [if_pos h]; rfl
  · rw [if_neg h, List.count_eq_zero.mpr h]; rfl
theorem Cnt.come {kvs : List (Key × V)} {W : List Int} (c : Cnt kvs W) (x : Int) : Cnt (putK kvs (Sum.inl x) (.int ((W.count x : Nat) + 1 : Int))) (W ++ [x]) := by
  refine ⟨fun z => ?_, ?_, putK_keys _ _ _ c.nd⟩
  · rw [val_put, c.val z]
    by_cases e : z = x
    · rw [if_pos e, if_pos (List.mem_append.mpr (.inr (List.mem_singleton.mpr e))), e, List.count_append, List.count_singleton_self]
      rfl
    · rw [if_neg e]
      by_cases h : z ∈ W
      · rw [if_pos h, if_pos (List.mem_append.mpr (.inl h)), List.count_append, List.count_eq_zero.mpr (fun k => e (List.mem_singleton.mp k)), Nat.add_zero]
      · rw [if_neg h, if_neg]
        intro k
        rcases List.mem_append.mp k with k | k
        · exact h k
        · exact e (List.mem_singleton.mp k)
  · rw [ulen_snoc]
    by_cases h : x ∈ W
    · rw [if_pos h, putK_same (by rw [c.has]; exact decide_eq_true h), c.len]
    · rw [if_neg h, putK_none (by rw [c.has]; exact decide_eq_false h), c.len]
/-- one less, and it is still there -/
theorem Cnt.less {kvs : List (Key × V)} {W : List Int} {x : Int} (c : Cnt kvs (x :: W)) (h : x ∈ W) : Cnt (putK kvs (Sum.inl x) (.int (((x :: W).count x : Nat) - 1 : Int))) W := by
  have hx : (valV kvs (Sum.inl x)).isSome = true := by rw [c.has]; exact decide_eq_true List.mem_cons_self
  refine ⟨fun z => ?_, ?_, putK_keys _ _ _ c.nd⟩
  · rw [val_put, c.val z]
    by_cases e : z = x
    · subst e
      rw [if_pos rfl, if_pos h, List.count_cons_self]
      congr 2
      omega
    · rw [if_neg e]
      by_cases k : z ∈ W
      · rw [if_pos k, if_pos (List.mem_cons_of_mem _ k), List.count_cons_of_ne (fun q => e q.symm)]
      · rw [if_neg k, if_neg]
        intro q
        rcases List.mem_cons.mp q with q | q
        · exact e q
        · exact k q
  · rw [putK_same hx, c.len, ulen_cons, if_pos h]
/-- one less, and it is gone -/
theorem Cnt.gone {kvs : List (Key × V)} {W : List Int} {x : Int} (c : Cnt kvs (x :: W)) (h : x ∉ W) (v : V) : Cnt (dropK (putK kvs (Sum.inl x) v) (Sum.inl x)) W := by
  have hx : (valV kvs (Sum.inl x)).isSome = true := by rw [c.has]; exact decide_eq_true List.mem_cons_self
  refine ⟨fun z => ?_, ?_, dropK_keys _ _ (putK_keys _ _ _ c.nd)⟩
  · rw [valV_dropK]
    by_cases e : z = x
    · rw [if_pos (by rw [e]), if_neg (by rw [e]; exact h)]
    · rw [if_neg (fun q => e (Sum.inl.inj q)), val_put, if_neg e, c.val z]
      by_cases k : z ∈ W
      · rw [if_pos k, if_pos (List.mem_cons_of_mem _ k), List.count_cons_of_ne (fun q => e q.symm)]
      · rw [if_neg k, if_neg]
        intro q
        rcases List.mem_cons.mp q with q | q
        · exact e q
        · exact k q
  · have hl := dropK_len (Sum.inl x) (putK kvs (Sum.inl x) v) (putK_keys _ _ _ c.nd) (by rw [val_put, if_pos rfl]; rfl)
    have h2 := c.len
    rw [ulen_cons, if_neg h] at h2
    rw [putK_same hx] at hl
    omega
theorem count_self_pos {W : List Int} {x : Int} : ((x :: W).count x : Nat) = W.count x + 1 := List.count_cons_self
/-! ### ends, and greatest ends -/
/-- the greatest behind with at most m unlike numbers -/
def wi (ns : List Int) (m : Int) (f : Nat) : Int := match endAt ns f (m + 1) with
  | none => ns.length
  | some b => (b : Int) - 1
theorem endAt_none {ns : List Int} {f : Nat} {m : Int} (hf : f ≤ ns.length) (h : (wunN ns f ns.length : Int) < m) : endAt ns f m = none := by
  rcases endAt_spec (m := m) hf with ⟨e, _⟩ | ⟨e, h1, h2, h3, h4, _⟩
  · exact e
  · have k := wunN_monoB (ns := ns) (f := f) (b := e) (k := ns.length - e) h2 (by omega)
    rw [show e + (ns.length - e) = ns.length by omega] at k
    omega
/-- at an end there are just so many -/
theorem endAt_just {ns : List Int} {f e : Nat} {m : Int} (hf : f ≤ ns.length) (h0 : 0 ≤ m) (h : endAt ns f m = some e) : f ≤ e ∧ e ≤ ns.length ∧ (wunN ns f e : Int) = m ∧ ∀ b, f ≤ b → b < e → (wunN ns f b : Int) < m := by
  rcases endAt_spec (m := m) hf with ⟨e2, _⟩ | ⟨e2, h1, h2, h3, h4, h5⟩
  · rw [e2] at h; cases h
  · rw [h1] at h
    cases h
    refine ⟨h2, h3, ?_, fun b k1 k2 => by have := h5 b k1 k2; omega⟩
    by_cases c : f < e
    · have k := wunN_step (ns := ns) (f := f) (b := e - 1) (by omega) (by omega)
      rw [show e - 1 + 1 = e by omega] at k
      have := h5 (e - 1) (by omega) (by omega)
      omega
    · have : f = e := by omega
      subst this
      rw [wunN_none] at h4 ⊢
      omega
/-- what a greatest end is -/
theorem wi_spec {ns : List Int} {m : Int} {f : Nat} (hf : f ≤ ns.length) (h0 : 0 ≤ m) : (f : Int) ≤ wi ns m f ∧ wi ns m f ≤ ns.length ∧ ∀ b : Nat, f ≤ b → b ≤ ns.length → ((wunN ns f b : Int) ≤ m ↔ (b : Int) ≤ wi ns m f) := by
  unfold wi
  cases e : endAt ns f (m + 1) with
  | none =>
    refine ⟨by show (f : Int) ≤ (ns.length : Int); omega, Int.le_refl _, fun b h1 h2 => ⟨fun _ => by show (b : Int) ≤ (ns.length : Int); omega, fun _ => ?_⟩⟩
    rcases endAt_spec (m := m + 1) hf with ⟨_, k⟩ | ⟨e2, k1, _⟩
    · have := k b h1 h2; omega
    · rw [e] at k1; cases k1
  | some b0 =>
    obtain ⟨h1, h2, h3, h4⟩ := endAt_just hf (by omega) e
    have hlt : f < b0 := by
      refine Nat.lt_of_le_of_ne h1 fun z => ?_
      subst z
      rw [wunN_none] at h3
      omega
    refine ⟨by show (f : Int) ≤ (b0 : Int) - 1; omega, by show (b0 : Int) - 1 ≤ _; omega, fun b k1 k2 => ⟨fun k => ?_, fun k => ?_⟩⟩
    · show (b : Int) ≤ (b0 : Int) - 1
      by_cases c : b < b0
      · omega
      · have q := wunN_monoB (ns := ns) (f := f) (b := b0) (k := b - b0) h1 (by omega)
        rw [show b0 + (b - b0) = b by omega] at q
        omega
    · have k' : (b : Int) ≤ (b0 : Int) - 1 := k
      have := h4 b k1 (by omega)
      omega
/-- just so many: from the least end to the greatest -/
theorem just_iff {ns : List Int} {m : Int} {f b : Nat} (hf : f ≤ b) (hb : b ≤ ns.length) (h0 : 0 ≤ m) : (wunN ns f b : Int) = m ↔ ∃ e, endAt ns f m = some e ∧ e ≤ b ∧ (b : Int) ≤ wi ns m f := by
  obtain ⟨w1, w2, w3⟩ := wi_spec (ns := ns) (m := m) (f := f) (by omega) h0
  constructor
  · intro h
    rcases endAt_spec (ns := ns) (f := f) (m := m) (by omega) with ⟨_, k⟩ | ⟨e, k1, k2, k3, k4, k5⟩
    · have := k b hf hb; omega
    · refine ⟨e, k1, ?_, (w3 b hf hb).mp (by omega)⟩
      by_cases c : b < e
      · have := k5 b hf c; omega
      · omega
  · rintro ⟨e, k1, k2, k3⟩
    obtain ⟨h1, h2, h3, h4⟩ := endAt_just (by omega) h0 k1
    have q := wunN_monoB (ns := ns) (f := f) (b := e) (k := b - e) h1 (by omega)
    rw [show e + (b - e) = b by omega] at q
    have := (w3 b hf hb).mpr k3
    omega
/-- the least end lies at or below the greatest -/
theorem end_le_wi {ns : List Int} {m : Int} {f e : Nat} (hf : f ≤ ns.length) (h0 : 0 ≤ m) (h : endAt ns f m = some e) : (e : Int) ≤ wi ns m f := by
  obtain ⟨h1, h2, h3, h4⟩ := endAt_just hf h0 h
  exact ((wi_spec hf h0).2.2 e h1 h2).mp (by omega)
/-! ### stretches -/
def tr (q : Int × Int × Int) : HO := .tup [.int q.1, .int q.2.1, .int q.2.2]
abbrev TripsF (H : Hp) (ls : List Addr) (ps : List (Int × Int × Int)) : Prop := ObjsF H ls ps.length (fun k => tr (ps.getD k (0, 0, 0)))
theorem TripsF.nil {H : Hp} : TripsF H [] [] := ⟨rfl, fun k p h => nomatch h⟩
theorem TripsF.snoc {H : Hp} {ls : List Addr} {ps : List (Int × Int × Int)} {p : Addr} {q : Int × Int × Int} (r : TripsF H ls ps) (e : H p = some (tr q)) : TripsF H (ls ++ [p]) (ps ++ [q]) := by
  have hl := r.len
  refine ⟨by rw [List.length_append, List.length_append, hl]; rfl, fun k x h => ?_⟩
  by_cases hk : k < ls.length
  · rw [List.getElem?_append_left hk] at h
    have h2 := r.row k x h
    have h3 : (ps ++ [q]).getD k (0, 0, 0) = ps.getD k (0, 0, 0) := by
      rw [List.getD_eq_getElem?_getD, List.getD_eq_getElem?_getD, List.getElem?_append_left (by omega)]
    show H x = some (tr ((ps ++ [q]).getD k (0, 0, 0)))
    rw [h3]
    exact h2
  · have h2 := (List.getElem?_eq_some_iff.mp h).1
    rw [List.length_append] at h2
    have h3 : [p].length = 1 := rfl
    have hk2 : k = ls.length := by omega
    subst hk2
    rw [List.getElem?_append_right (Nat.le_refl _), Nat.sub_self] at h
    cases h
    have h4 : (ps ++ [q]).getD ls.length (0, 0, 0) = q := by
      rw [List.getD_eq_getElem?_getD, List.getElem?_append_right (by omega), hl, Nat.sub_self]
      rfl
    show H p = some (tr ((ps ++ [q]).getD ls.length (0, 0, 0)))
    rw [h4]
    exact e
theorem TripsF.get {H : Hp} {ls : List Addr} {ps : List (Int × Int × Int)} {k : Nat} {p : Addr} (r : TripsF H ls ps) (h : ls[k]? = some p) : k < ps.length ∧ ps[k]? = some (ps.getD k (0, 0, 0)) ∧ H p = some (.tup [.int (ps.getD k (0, 0, 0)).1, .int (ps.getD k (0, 0, 0)).2.1, .int (ps.getD k (0, 0, 0)).2.2]) := by
  have h1 : k < ps.length := by have := (List.getElem?_eq_some_iff.mp h).1; have := r.len; omega
  exact ⟨h1, by rw [List.getD_eq_getElem?_getD, List.getElem?_eq_getElem h1]; rfl, r.row k p h⟩
theorem TripsF.offL {H : Hp} {x : Addr} {xs : List V} {ls : List Addr} {ps : List (Int × Int × Int)} (r : TripsF H ls ps) (e : H x = some (.lst xs)) : Off ls x := ObjsF.offKind r e fun k z => nomatch z
/-- for each first place that has some: the least and the greatest behind -/
def strK (ns : List Int) (m : Int) (k : Nat) : List (Int × Int × Int) := (List.range k).filterMap fun (f : Nat) => (endAt ns f m).map fun (e : Nat) => ((f : Int), (e : Int), wi ns m f)
def strL (ns : List Int) (m : Int) : List (Int × Int × Int) := if m = 0 then [] else strK ns m ns.length
theorem strK_s (ns : List Int) (m : Int) (k : Nat) : strK ns m (k + 1) = strK ns m k ++ ((endAt ns k m).map fun (e : Nat) => ((k : Int), (e : Int), wi ns m k)).toList := by
  unfold strK
  rw [List.range_succ, List.filterMap_append]
  congr 1
theorem strK_len (ns : List Int) (m : Int) (k : Nat) : (strK ns m k).length ≤ k := by
  unfold strK
  exact Nat.le_trans (List.length_filterMap_le _ _) (by rw [List.length_range]; exact Nat.le_refl k)
theorem strL_len (ns : List Int) (m : Int) : (strL ns m).length ≤ ns.length := by
  unfold strL
  split
  · exact Nat.zero_le _
  · exact strK_len _ _ _
theorem strL_mem {ns : List Int} {m : Int} {q : Int × Int × Int} (h : q ∈ strL ns m) : m ≠ 0 ∧ ∃ f e : Nat, f < ns.length ∧ endAt ns f m = some e ∧ q = ((f : Int), (e : Int), wi ns m f) := by
  unfold strL at h
  by_cases c : m = 0
  · rw [if_pos c] at h; cases h
  · rw [if_neg c] at h
    unfold strK at h
    obtain ⟨f, hf, e⟩ := List.mem_filterMap.mp h
    obtain ⟨e0, h1, h2⟩ := Option.map_eq_some_iff.mp e
    exact ⟨c, f, e0, List.mem_range.mp hf, h1, h2.symm⟩
/-- how many windows from f on have just so many -/
def hisF (ns : List Int) (m : Int) (f : Nat) : Int := match endAt ns f m with
  | none => 0
  | some e => wi ns m f - (e : Int) + 1
theorem strK_sum (ns : List Int) (m : Int) : ∀ k, ((strK ns m k).map fun q => q.2.2 - q.2.1 + 1).sum = sumTo (hisF ns m) k
  | 0 => rfl
  | k + 1 => by
    have ih := strK_sum ns m k
    rw [strK_s, List.map_append, List.sum_append, ih]
    show _ = sumTo (hisF ns m) k + hisF ns m k
    congr 1
    unfold hisF
    cases h : endAt ns k m with
    | none => rfl
    | some e => show (wi ns m k - (e : Int) + 1) + 0 = wi ns m k - (e : Int) + 1; omega
def hisN (ns : List Int) (m : Int) : Int := ((strL ns m).map fun q => q.2.2 - q.2.1 + 1).sum
/-- .. counted -/
def cntF (ns : List Int) (m : Int) (f j : Nat) : Int := sumTo (fun t => if (wunN ns f (f + 1 + t) : Int) = m then 1 else 0) j
theorem hisF_cnt {ns : List Int} {m : Int} {f : Nat} (hf : f < ns.length) (hm : 1 ≤ m) : hisF ns m f = cntF ns m f (ns.length - f) := by
  unfold hisF cntF
  obtain ⟨w1, w2, w3⟩ := wi_spec (ns := ns) (m := m) (f := f) (by omega) (by omega)
  cases h : endAt ns f m with
  | none =>
    have e : sumTo (fun t => if (wunN ns f (f + 1 + t) : Int) = m then 1 else 0) (ns.length - f) = sumTo (fun _ => 0) (ns.length - f) := sumTo_congr fun t ht => by
      rw [if_neg]
      intro k
      obtain ⟨e, h1, _⟩ := (just_iff (by omega) (by omega) (by omega)).mp k
      rw [h] at h1; cases h1
    rw [e, sumTo_zero]
  | some e =>
    obtain ⟨h1, h2, h3, h4⟩ := endAt_just (by omega) (by omega) h
    have hfe : f < e := by
      refine Nat.lt_of_le_of_ne h1 fun z => ?_
      subst z
      rw [wunN_none] at h3
      omega
    have hew := end_le_wi (by omega) (by omega) h
    have e2 : sumTo (fun t => if (wunN ns f (f + 1 + t) : Int) = m then 1 else 0) (ns.length - f) = sumTo (fun t => if ((e : Int) - (f + 1)) ≤ (t : Int) ∧ (t : Int) < wi ns m f - f then 1 else 0) (ns.length - f) := sumTo_congr fun t ht => by
      have k := just_iff (ns := ns) (m := m) (f := f) (b := f + 1 + t) (by omega) (by omega) (by omega)
      by_cases c : (wunN ns f (f + 1 + t) : Int) = m
      · obtain ⟨e3, k1, k2, k3⟩ := k.mp c
        rw [h] at k1
        cases k1
        rw [if_pos c, if_pos ⟨by omega, by omega⟩]
      · rw [if_neg c, if_neg]
        rintro ⟨k1, k2⟩
        exact c (k.mpr ⟨e, h, by omega, by omega⟩)
    rw [e2, sumTo_count _ _ (by omega) (by omega) _ (by omega)]
    show wi ns m f - (e : Int) + 1 = _
    omega
theorem hisN_cnt {ns : List Int} {m : Int} (hm : 1 ≤ m) : hisN ns m = sumTo (fun f => cntF ns m f (ns.length - f)) ns.length := by
  unfold hisN strL
  rw [if_neg (by omega), strK_sum]
  exact sumTo_congr fun f hf => hisF_cnt hf hm
/-! ### counts -/
/-- behind the lines ahead of f and j windows from f on -/
def dueC (ns : List Int) (f j k : Nat) : Int := sumTo (fun g => cntF ns k g (ns.length - g)) f + cntF ns k f j
def dueCL (ns : List Int) (f j : Nat) : List Int := (List.range (ulen ns + 1)).map (dueC ns f j)
theorem dueCL_len (ns : List Int) (f j : Nat) : (dueCL ns f j).length = ulen ns + 1 := by simp [dueCL]
theorem dueCL_get {ns : List Int} {f j k : Nat} (h : k < ulen ns + 1) : (dueCL ns f j)[k]? = some (dueC ns f j k) := by
  unfold dueCL
  rw [List.getElem?_map, List.getElem?_range h]
  rfl
theorem dueCL_0 (ns : List Int) : dueCL ns 0 0 = List.replicate (ulen ns + 1) 0 := by
  refine List.ext_getElem? fun w => ?_
  by_cases h : w < ulen ns + 1
  · rw [dueCL_get h, List.getElem?_replicate, if_pos h]
    rfl
  · rw [List.getElem?_eq_none (by rw [dueCL_len]; omega), List.getElem?_eq_none (by rw [List.length_replicate]; omega)]
theorem dueCL_set {ns : List Int} {f j : Nat} (h : f + 1 + j ≤ ns.length) : (dueCL ns f j).set (wunN ns f (f + 1 + j)) ((dueCL ns f j).getD (wunN ns f (f + 1 + j)) 0 + 1) = dueCL ns f (j + 1) := by
  have hw : wunN ns f (f + 1 + j) < ulen ns + 1 := by have := wunN_le (ns := ns) (f := f) (b := f + 1 + j) (by omega) h; omega
  refine List.ext_getElem? fun w => ?_
  by_cases hw2 : w < ulen ns + 1
  · rw [List.getElem?_set, dueCL_len, dueCL_get hw2, dueCL_get hw2, getD_of (dueCL_get hw)]
    by_cases e : wunN ns f (f + 1 + j) = w
    · rw [if_pos e, if_pos (by omega), e]
      unfold dueC cntF
      show some _ = some (_ + (_ + (if (wunN ns f (f + 1 + j) : Int) = (w : Int) then 1 else 0)))
      rw [if_pos (by omega)]
      congr 1
      omega
    · rw [if_neg e]
      unfold dueC cntF
      show some _ = some (_ + (_ + (if (wunN ns f (f + 1 + j) : Int) = (w : Int) then 1 else 0)))
      rw [if_neg (by omega), Int.add_zero]
  · rw [List.getElem?_eq_none (by rw [List.length_set, dueCL_len]; omega), List.getElem?_eq_none (by rw [dueCL_len]; omega)]
theorem dueCL_up (ns : List Int) (f : Nat) : dueCL ns f (ns.length - f) = dueCL ns (f + 1) 0 :=
  List.map_congr_left fun k _ => by
    show sumTo _ f + cntF ns k f (ns.length - f) = (sumTo _ f + cntF ns k f (ns.length - f)) + 0
    omega
/-- how many windows have so many, for each number there is -/
def cntW (ns : List Int) : List Int := dueCL ns ns.length 0
theorem cntW_len (ns : List Int) : (cntW ns).length = ulen ns + 1 := dueCL_len ns _ _
theorem cntW_get {ns : List Int} {k : Nat} (h : k < ulen ns + 1) : (cntW ns).getD k 0 = sumTo (fun f => cntF ns k f (ns.length - f)) ns.length := by
  unfold cntW
  rw [getD_of (dueCL_get h)]
  show sumTo _ ns.length + 0 = _
  omega
theorem cntW_his {ns : List Int} {k : Nat} (h : k < ulen ns + 1) (h1 : 1 ≤ k) : (cntW ns).getD k 0 = hisN ns k := by
  rw [cntW_get h, hisN_cnt (by omega)]
theorem his_0 (ns : List Int) : hisN ns 0 = 0 := rfl
theorem cntW_0 (ns : List Int) : (cntW ns).getD 0 0 = 0 := by
  rw [cntW_get (Nat.succ_pos _)]
  have e : sumTo (fun f => cntF ns (0 : Nat) f (ns.length - f)) ns.length = sumTo (fun _ => 0) ns.length := sumTo_congr fun f hf => by
    unfold cntF
    have e2 : sumTo (fun t => if (wunN ns f (f + 1 + t) : Int) = ((0 : Nat) : Int) then 1 else 0) (ns.length - f) = sumTo (fun _ => 0) (ns.length - f) := sumTo_congr fun t ht => by
      rw [if_neg]
      have k1 := wunN_up (ns := ns) (f := f) (b := f) (Nat.le_refl f) hf
      rw [wunN_none, if_pos (by have := lastAt_range ns (ns.getD f 0) f; omega)] at k1
      have k2 := wunN_monoB (ns := ns) (f := f) (b := f + 1) (k := t) (by omega) (by omega)
      omega
    rw [e2, sumTo_zero]
  rw [e, sumTo_zero]
/-- beyond there is none -/
theorem his_none {ns : List Int} {m : Int} (h : (ulen ns : Int) < m) : hisN ns m = 0 := by
  rw [hisN_cnt (by omega)]
  have e : sumTo (fun f => cntF ns m f (ns.length - f)) ns.length = sumTo (fun _ => 0) ns.length := sumTo_congr fun f hf => by
    unfold cntF
    have e2 : sumTo (fun t => if (wunN ns f (f + 1 + t) : Int) = m then 1 else 0) (ns.length - f) = sumTo (fun _ => 0) (ns.length - f) := sumTo_congr fun t ht => by
      rw [if_neg]
      have := wunN_le (ns := ns) (f := f) (b := f + 1 + t) (by omega) (by omega)
      omega
    rw [e2, sumTo_zero]
  rw [e, sumTo_zero]
theorem his_due {ns : List Int} {m : Int} (h : 0 ≤ m) : (cntW ns ++ [0]).getD (if ((cntW ns).length : Int) < m then ((cntW ns).length : Int) else m).toNat 0 = hisN ns m := by
  have hl := cntW_len ns
  by_cases c : ((cntW ns).length : Int) < m
  · rw [if_pos c, Int.toNat_natCast, his_none (by omega), List.getD_eq_getElem?_getD, List.getElem?_append_right (Nat.le_refl _), Nat.sub_self]
    rfl
  · rw [if_neg c]
    by_cases e : m = ((cntW ns).length : Int)
    · rw [e, Int.toNat_natCast, his_none (by omega), List.getD_eq_getElem?_getD, List.getElem?_append_right (Nat.le_refl _), Nat.sub_self]
      rfl
    · have e2 : m = ((m.toNat : Nat) : Int) := by omega
      rw [List.getD_eq_getElem?_getD, List.getElem?_append_left (by omega), ← List.getD_eq_getElem?_getD]
      by_cases z : m.toNat = 0
      · rw [z, cntW_0, e2, z]; exact (his_0 ns).symm
      · rw [cntW_his (by omega) (by omega), ← e2]
/-! ### the longest window with at most so many -/
def better (b : Int × Int) (f e : Int) : Int × Int := if e - f > b.2 - b.1 then (f, e) else b
def lwK (ns : List Int) (m : Int) : Nat → Int × Int
  | 0 => (0, 0)
  | k + 1 => better (lwK ns m k) k (wi ns m k)
def lwin (ns : List Int) (m : Int) : Int × Int := lwK ns m ns.length
theorem better_ok {b : Int × Int} {f e n : Int} (h : 0 ≤ b.1 ∧ b.1 ≤ b.2 ∧ b.2 ≤ n) (h1 : 0 ≤ f) (h2 : f ≤ e) (h3 : e ≤ n) : 0 ≤ (better b f e).1 ∧ (better b f e).1 ≤ (better b f e).2 ∧ (better b f e).2 ≤ n := by
  unfold better
  split
  · exact ⟨h1, h2, h3⟩
  · exact h
theorem lwK_ok {ns : List Int} {m : Int} (h0 : 0 ≤ m) : ∀ k, k ≤ ns.length → 0 ≤ (lwK ns m k).1 ∧ (lwK ns m k).1 ≤ (lwK ns m k).2 ∧ (lwK ns m k).2 ≤ ns.length
  | 0, _ => ⟨Int.le_refl 0, Int.le_refl 0, by show (0 : Int) ≤ ns.length; omega⟩
  | k + 1, h => by
    have ih := lwK_ok (ns := ns) h0 k (by omega)
    obtain ⟨w1, w2, _⟩ := wi_spec (ns := ns) (m := m) (f := k) (by omega) h0
    exact better_ok ih (by omega) w1 w2
/-- by widths: the widest so far below j that has at most so many -/
def lwJ (ns : List Int) (m : Int) (b : Int × Int) (f j : Nat) : Int × Int := better b f (f + (min (j - 1) (wi ns m f - f).toNat : Nat))
theorem lwJ_0 {ns : List Int} {m : Int} {b : Int × Int} {f : Nat} (h : b.1 ≤ b.2) : lwJ ns m b f 0 = b := by
  unfold lwJ better
  rw [if_neg]
  rw [show min (0 - 1) (wi ns m f - f).toNat = 0 by omega]
  show ¬ (f : Int) + 0 - f > b.2 - b.1
  omega
theorem lwJ_s {ns : List Int} {m : Int} {b : Int × Int} {f j : Nat} (h : b.1 ≤ b.2) (h0 : 0 ≤ m) (hj : f + j ≤ ns.length) : lwJ ns m b f (j + 1) = if (wunN ns f (f + j) : Int) ≤ m ∧ (j : Int) > (lwJ ns m b f j).2 - (lwJ ns m b f j).1 then ((f : Int), (f : Int) + j) else lwJ ns m b f j := by
  obtain ⟨w1, w2, w3⟩ := wi_spec (ns := ns) (m := m) (f := f) (by omega) h0
  have k := w3 (f + j) (by omega) hj
  unfold lwJ
  rw [show j + 1 - 1 = j by omega]
  by_cases c : (wunN ns f (f + j) : Int) ≤ m
  · have k1 := k.mp c
    rw [show min j (wi ns m f - f).toNat = j by omega]
    rw [show min (j - 1) (wi ns m f - f).toNat = j - 1 by omega]
    unfold better
    by_cases d : (f : Int) + ((j : Nat) : Int) - f > b.2 - b.1
    · rw [if_pos d, if_pos]
      refine ⟨c, ?_⟩
      split
      · show (j : Int) > (f : Int) + ((j - 1 : Nat) : Int) - f
        omega
      · omega
    · have d2 : ¬ (f : Int) + ((j - 1 : Nat) : Int) - f > b.2 - b.1 := by omega
      rw [if_neg d, if_neg d2, if_neg]
      rintro ⟨_, z⟩
      omega
  · have k1 : ¬ ((f + j : Nat) : Int) ≤ wi ns m f := fun z => c (k.mpr z)
    rw [if_neg (fun z => c z.1)]
    rw [show min j (wi ns m f - f).toNat = min (j - 1) (wi ns m f - f).toNat by omega]
theorem lwJ_end {ns : List Int} {m : Int} {b : Int × Int} {f : Nat} (h0 : 0 ≤ m) (hf : f ≤ ns.length) : lwJ ns m b f (ns.length - f + 1) = better b f (wi ns m f) := by
  obtain ⟨w1, w2, _⟩ := wi_spec (ns := ns) (m := m) (f := f) hf h0
  unfold lwJ
  rw [show ((f : Int) + ((min (ns.length - f + 1 - 1) (wi ns m f - f).toNat : Nat) : Int)) = wi ns m f by omega]
theorem lwJ_ok {ns : List Int} {m : Int} {b : Int × Int} {f j : Nat} (h0 : 0 ≤ m) (hf : f ≤ ns.length) (h : 0 ≤ b.1 ∧ b.1 ≤ b.2 ∧ b.2 ≤ ns.length) : 0 ≤ (lwJ ns m b f j).1 ∧ (lwJ ns m b f j).1 ≤ (lwJ ns m b f j).2 ∧ (lwJ ns m b f j).2 ≤ ns.length := by
  obtain ⟨w1, w2, _⟩ := wi_spec (ns := ns) (m := m) (f := f) hf h0
  unfold lwJ better
  split
  · refine ⟨?_, ?_, ?_⟩
    · show (0 : Int) ≤ (f : Int); omega
    · show (f : Int) ≤ (f : Int) + _; omega
    · show (f : Int) + ((min (j - 1) (wi ns m f - f).toNat : Nat) : Int) ≤ ns.length; omega
  · exact h
/-- the last first place has no window wider than 0 -/
theorem lw_last {ns : List Int} {m : Int} (h0 : 0 ≤ m) : better (lwin ns m) ns.length (wi ns m ns.length) = lwin ns m := by
  obtain ⟨w1, w2, _⟩ := wi_spec (ns := ns) (m := m) (f := ns.length) (Nat.le_refl _) h0
  have k := lwK_ok (ns := ns) h0 ns.length (Nat.le_refl _)
  unfold better
  rw [if_neg]
  unfold lwin
  omega
/-! ### the longest and the shortest window with just so many -/
/-- a pair or None -/
structure OptP (H : Hp) (v : V) (o : Option (Int × Int)) : Prop where
  is : (o = none ∧ v = .non) ∨ ∃ (x y : Int) (p : Addr), o = some (x, y) ∧ v = .ref p ∧ H p = some (.tup [.int x, .int y])
theorem OptP.same {H H' : Hp} {v : V} {o : Option (Int × Int)} (k : OptP H v o) (s : Same H H') : OptP H' v o := by
  rcases k.is with h | ⟨x, y, p, h1, h2, h3⟩
  · exact ⟨.inl h⟩
  · exact ⟨.inr ⟨x, y, p, h1, h2, s _ _ h3⟩⟩
theorem OptP.non {H : Hp} : OptP H .non none := ⟨.inl ⟨rfl, rfl⟩⟩
theorem OptP.pair {H : Hp} {p : Addr} {x y : Int} (h : H p = some (.tup [.int x, .int y])) : OptP H (.ref p) (some (x, y)) := ⟨.inr ⟨x, y, p, rfl, rfl, h⟩⟩
def wbo (o : Option (Int × Int)) (f e : Int) : Option (Int × Int) := match o with
  | none => some (f, e)
  | some b => if e - f > b.2 - b.1 then some (f, e) else some b
def sbo (o : Option (Int × Int)) (f e : Int) : Option (Int × Int) := match o with
  | none => some (f, e)
  | some b => if e - f < b.2 - b.1 then some (f, e) else some b
def lonL (qs : List (Int × Int × Int)) : Option (Int × Int) := qs.foldl (fun o q => wbo o q.1 q.2.2) none
def shoL (qs : List (Int × Int × Int)) : Option (Int × Int) := qs.foldl (fun o q => sbo o q.1 q.2.1) none
def lon (ns : List Int) (m : Int) : Option (Int × Int) := lonL (strL ns m)
def sho (ns : List Int) (m : Int) : Option (Int × Int) := shoL (strL ns m)
theorem lonL_snoc (qs : List (Int × Int × Int)) (q : Int × Int × Int) : lonL (qs ++ [q]) = wbo (lonL qs) q.1 q.2.2 := by unfold lonL; rw [List.foldl_append]; rfl
theorem shoL_snoc (qs : List (Int × Int × Int)) (q : Int × Int × Int) : shoL (qs ++ [q]) = sbo (shoL qs) q.1 q.2.1 := by unfold shoL; rw [List.foldl_append]; rfl
/-- bounds -/
def OkP (n : Nat) (o : Option (Int × Int)) : Prop := ∀ x y, o = some (x, y) → 0 ≤ x ∧ x ≤ y ∧ y ≤ n
theorem OkP.none {n : Nat} : OkP n none := fun _ _ h => nomatch h
theorem OkP.wbo {n : Nat} {o : Option (Int × Int)} {f e : Int} (k : OkP n o) (h1 : 0 ≤ f) (h2 : f ≤ e) (h3 : e ≤ n) : OkP n (wbo o f e) := by
  intro x y h
  cases o with
  | none => cases h; exact ⟨h1, h2, h3⟩
  | some b =>
    have h' : (if e - f > b.2 - b.1 then some (f, e) else some b) = some (x, y) := h
    split at h'
    · cases h'; exact ⟨h1, h2, h3⟩
    · exact k x y h'
theorem OkP.sbo {n : Nat} {o : Option (Int × Int)} {f e : Int} (k : OkP n o) (h1 : 0 ≤ f) (h2 : f ≤ e) (h3 : e ≤ n) : OkP n (sbo o f e) := by
  intro x y h
  cases o with
  | none => cases h; exact ⟨h1, h2, h3⟩
  | some b =>
    have h' : (if e - f < b.2 - b.1 then some (f, e) else some b) = some (x, y) := h
    split at h'
    · cases h'; exact ⟨h1, h2, h3⟩
    · exact k x y h'
theorem okP_str {ns : List Int} {m : Int} (h0 : 0 ≤ m) : ∀ k, k ≤ ns.length → OkP ns.length (lonL (strK ns m k)) ∧ OkP ns.length (shoL (strK ns m k))
  | 0, _ => ⟨OkP.none, OkP.none⟩
  | k + 1, h => by
    obtain ⟨i1, i2⟩ := okP_str (ns := ns) h0 k (by omega)
    rw [strK_s]
    cases e : endAt ns k m with
    | none => rw [Option.map_none, Option.toList_none, List.append_nil]; exact ⟨i1, i2⟩
    | some b =>
      obtain ⟨w1, w2, _⟩ := wi_spec (ns := ns) (m := m) (f := k) (by omega) h0
      obtain ⟨e1, e2, _, _⟩ := endAt_just (ns := ns) (f := k) (by omega) h0 e
      rw [Option.map_some, Option.toList_some, lonL_snoc, shoL_snoc]
      exact ⟨i1.wbo (by show (0 : Int) ≤ (k : Int); omega) w1 w2, i2.sbo (by show (0 : Int) ≤ (k : Int); omega) (by show (k : Int) ≤ (b : Int); omega) (by show (b : Int) ≤ _; omega)⟩
theorem okP_lon {ns : List Int} {m : Int} (h0 : 0 ≤ m) : OkP ns.length (lon ns m) ∧ OkP ns.length (sho ns m) := by
  unfold lon sho strL
  split
  · exact ⟨OkP.none, OkP.none⟩
  · exact okP_str h0 _ (Nat.le_refl _)
/-- a line, by widths: behind the widths up to j -/
def lonJ (ns : List Int) (m : Int) (o : Option (Int × Int)) (f j : Nat) : Option (Int × Int) := match endAt ns f m with
  | none => o
  | some e => if e ≤ f + j then wbo o f (min ((f : Int) + j) (wi ns m f)) else o
def shoJ (ns : List Int) (m : Int) (o : Option (Int × Int)) (f j : Nat) : Option (Int × Int) := match endAt ns f m with
  | none => o
  | some e => if e ≤ f + j then sbo o f e else o
theorem endAt_pos {ns : List Int} {f e : Nat} {m : Int} (hf : f ≤ ns.length) (h1 : 1 ≤ m) (h : endAt ns f m = some e) : f < e := by
  obtain ⟨k1, _, k3, _⟩ := endAt_just hf (by omega) h
  refine Nat.lt_of_le_of_ne k1 fun z => ?_
  subst z
  rw [wunN_none] at k3
  omega
theorem lonJ_0 {ns : List Int} {m : Int} {o : Option (Int × Int)} {f : Nat} (hf : f ≤ ns.length) (h1 : 1 ≤ m) : lonJ ns m o f 0 = o ∧ shoJ ns m o f 0 = o := by
  unfold lonJ shoJ
  cases e : endAt ns f m with
  | none => exact ⟨rfl, rfl⟩
  | some b =>
    have := endAt_pos hf h1 e
    exact ⟨if_neg (by omega), if_neg (by omega)⟩
theorem lonJ_s {ns : List Int} {m : Int} {o : Option (Int × Int)} {f j : Nat} (hj : f + (j + 1) ≤ ns.length) (h1 : 1 ≤ m) : lonJ ns m o f (j + 1) = if (wunN ns f (f + (j + 1)) : Int) = m then wbo (lonJ ns m o f j) f ((f : Int) + ((j : Int) + 1)) else lonJ ns m o f j := by
  have k := just_iff (ns := ns) (m := m) (f := f) (b := f + (j + 1)) (by omega) hj (by omega)
  obtain ⟨w1, w2, _⟩ := wi_spec (ns := ns) (m := m) (f := f) (by omega) (show 0 ≤ m by omega)
  unfold lonJ
  cases e : endAt ns f m with
  | none =>
    rw [if_neg]
    intro z
    obtain ⟨e2, h, _⟩ := k.mp z
    rw [e] at h; cases h
  | some b =>
    have hew := end_le_wi (by omega) (by omega) e
    show (if b ≤ f + (j + 1) then wbo o f (min ((f : Int) + ((j + 1 : Nat) : Int)) (wi ns m f)) else o) = if _ then wbo (if b ≤ f + j then wbo o f (min ((f : Int) + j) (wi ns m f)) else o) f _ else (if b ≤ f + j then wbo o f (min ((f : Int) + j) (wi ns m f)) else o)
    by_cases c : (wunN ns f (f + (j + 1)) : Int) = m
    · obtain ⟨e2, h, h2, h3⟩ := k.mp c
      rw [e] at h
      cases h
      rw [if_pos c, if_pos h2]
      rw [show min ((f : Int) + ((j + 1 : Nat) : Int)) (wi ns m f) = (f : Int) + ((j : Int) + 1) by omega]
      by_cases d : b ≤ f + j
      · rw [if_pos d, show min ((f : Int) + j) (wi ns m f) = (f : Int) + j by omega]
        cases o with
        | none =>
          show some _ = (if _ then _ else _)
          rw [if_pos (by show (f : Int) + ((j : Int) + 1) - f > (f : Int) + j - f; omega)]
        | some p =>
          show (if (f : Int) + ((j : Int) + 1) - f > p.2 - p.1 then some ((f : Int), (f : Int) + ((j : Int) + 1)) else some p) = wbo (if (f : Int) + j - f > p.2 - p.1 then some ((f : Int), (f : Int) + j) else some p) f ((f : Int) + ((j : Int) + 1))
          by_cases q : (f : Int) + j - f > p.2 - p.1
          · rw [if_pos q, if_pos (by omega)]
            show _ = (if _ then _ else _)
            rw [if_pos (by show (f : Int) + ((j : Int) + 1) - f > (f : Int) + j - f; omega)]
          · rw [if_neg q]
            rfl
      · rw [if_neg d]
    · rw [if_neg c]
      by_cases d : b ≤ f + j
      · have hw : ¬ ((f + (j + 1) : Nat) : Int) ≤ wi ns m f := fun z => c (k.mpr ⟨b, e, by omega, z⟩)
        rw [if_pos d, if_pos (by omega), show min ((f : Int) + ((j + 1 : Nat) : Int)) (wi ns m f) = min ((f : Int) + j) (wi ns m f) by omega]
      · rw [if_neg d, if_neg]
        intro z
        exact c (k.mpr ⟨b, e, z, by omega⟩)
theorem shoJ_s {ns : List Int} {m : Int} {o : Option (Int × Int)} {f j : Nat} (hj : f + (j + 1) ≤ ns.length) (h1 : 1 ≤ m) : shoJ ns m o f (j + 1) = if (wunN ns f (f + (j + 1)) : Int) = m then sbo (shoJ ns m o f j) f ((f : Int) + ((j : Int) + 1)) else shoJ ns m o f j := by
  have k := just_iff (ns := ns) (m := m) (f := f) (b := f + (j + 1)) (by omega) hj (by omega)
  unfold shoJ
  cases e : endAt ns f m with
  | none =>
    rw [if_neg]
    intro z
    obtain ⟨e2, h, _⟩ := k.mp z
    rw [e] at h; cases h
  | some b =>
    have hew := end_le_wi (by omega) (by omega) e
    show (if b ≤ f + (j + 1) then sbo o f b else o) = if _ then sbo (if b ≤ f + j then sbo o f b else o) f _ else (if b ≤ f + j then sbo o f b else o)
    by_cases c : (wunN ns f (f + (j + 1)) : Int) = m
    · obtain ⟨e2, h, h2, h3⟩ := k.mp c
      rw [e] at h
      cases h
      rw [if_pos c, if_pos h2]
      by_cases d : b ≤ f + j
      · rw [if_pos d]
        cases o with
        | none =>
          show some _ = (if _ then _ else _)
          rw [if_neg (by show ¬ (f : Int) + ((j : Int) + 1) - f < (b : Int) - f; omega)]
        | some p =>
          show (if (b : Int) - f < p.2 - p.1 then some ((f : Int), (b : Int)) else some p) = sbo (if (b : Int) - f < p.2 - p.1 then some ((f : Int), (b : Int)) else some p) f ((f : Int) + ((j : Int) + 1))
          by_cases q : (b : Int) - f < p.2 - p.1
          · rw [if_pos q]
            show _ = (if _ then _ else _)
            rw [if_neg (by show ¬ (f : Int) + ((j : Int) + 1) - f < (b : Int) - f; omega)]
          · rw [if_neg q]
            show _ = (if _ then _ else _)
            rw [if_neg (by omega)]
      · rw [if_neg d, show (b : Int) = (f : Int) + ((j : Int) + 1) by omega]
    · rw [if_neg c]
      by_cases d : b ≤ f + j
      · rw [if_pos d, if_pos (by omega)]
      · rw [if_neg d, if_neg]
        intro z
        exact c (k.mpr ⟨b, e, z, by omega⟩)
theorem lonJ_end {ns : List Int} {m : Int} {f : Nat} (hf : f ≤ ns.length) (h1 : 1 ≤ m) : lonJ ns m (lonL (strK ns m f)) f (ns.length - f) = lonL (strK ns m (f + 1)) ∧ shoJ ns m (shoL (strK ns m f)) f (ns.length - f) = shoL (strK ns m (f + 1)) := by
  obtain ⟨w1, w2, _⟩ := wi_spec (ns := ns) (m := m) (f := f) hf (show 0 ≤ m by omega)
  rw [strK_s]
  unfold lonJ shoJ
  cases e : endAt ns f m with
  | none => rw [Option.map_none, Option.toList_none, List.append_nil]; exact ⟨rfl, rfl⟩
  | some b =>
    obtain ⟨_, e2, _, _⟩ := endAt_just (ns := ns) (f := f) hf (by omega) e
    rw [Option.map_some, Option.toList_some, lonL_snoc, shoL_snoc]
    refine ⟨?_, ?_⟩
    · show (if b ≤ f + (ns.length - f) then _ else _) = _
      rw [if_pos (by omega), show min ((f : Int) + ((ns.length - f : Nat) : Int)) (wi ns m f) = wi ns m f by omega]
    · show (if b ≤ f + (ns.length - f) then _ else _) = _
      rw [if_pos (by omega)]
/-- the last first place has none -/
theorem strK_last {ns : List Int} {m : Int} (h1 : 1 ≤ m) : strK ns m (ns.length + 1) = strK ns m ns.length := by
  rw [strK_s]
  cases e : endAt ns ns.length m with
  | none => rw [Option.map_none, Option.toList_none, List.append_nil]
  | some b =>
    have k1 := endAt_pos (Nat.le_refl _) h1 e
    obtain ⟨_, e2, _, _⟩ := endAt_just (ns := ns) (f := ns.length) (Nat.le_refl _) (by omega) e
    omega
end Ur

namespace Ur
open PySem L2
def tripL (q : Int × Int × Int) : List Int := [q.1, q.2.1, q.2.2]
def tripsD (ps : List (Int × Int × Int)) : List PyData := (ps.map tripL).map tupD
theorem tripsD_get {ps : List (Int × Int × Int)} {k : Nat} (hk : k < ps.length) : (tripsD ps)[k]? = some (tupD (tripL (ps.getD k (0, 0, 0)))) := by
  have e2 : ps.getD k (0, 0, 0) = ps[k] := by rw [List.getD_eq_getElem?_getD, List.getElem?_eq_getElem hk]; rfl
  rw [tripsD, List.getElem?_map, List.getElem?_map, List.getElem?_eq_getElem hk, e2]
  rfl
theorem dp_trips {K : PySem.W.Frag} {H : Hp} {a : Addr} {ls : List Addr} {ps : List (Int × Int × Int)} (h : SqL K H a (ls.map V.ref)) (r : TripsF H ls ps) : Dp K H (.ref a) (.list (tripsD ps)) := by
  refine .lst h (dpAll_of _ _ (by rw [tripsD, List.length_map, List.length_map, List.length_map, r.len]) fun k v d h1 h2 => ?_)
  rw [List.getElem?_map] at h1
  obtain ⟨p, hp, rfl⟩ := Option.map_eq_some_iff.mp h1
  obtain ⟨hk, _, e⟩ := r.get hp
  rw [tripsD_get hk] at h2
  cases h2
  exact dp_tup (ns := tripL (ps.getD k (0, 0, 0))) e
theorem shaped_trips (ps : List (Int × Int × Int)) : SeqAt.shaped (.list (tripsD ps)) = true := by
  refine shaped_of (canLayAll_of _ fun d h => ?_) ?_
  · obtain ⟨ns, _, rfl⟩ := List.mem_map.mp h
    exact canLayAll_ints ns
  · have h := depthAll_of (m := 2) (tripsD ps) fun d h => by
      obtain ⟨ns, _, rfl⟩ := List.mem_map.mp h
      exact depth_tup ns
    rw [PyData.depth]
    omega
theorem eqv_trips (ps : List (Int × Int × Int)) : PyData.eqv (.list (tripsD ps)) (.list (tripsD ps)) = true := by
  show PyData.eqvAll _ _ = true
  refine eqvAll_refl _ fun d h => ?_
  obtain ⟨ns, _, rfl⟩ := List.mem_map.mp h
  show PyData.eqvAll _ _ = true
  refine eqvAll_refl _ fun d h => ?_
  obtain ⟨n, _, rfl⟩ := List.mem_map.mp h
  show (n == n) = true
  exact beq_self_eq_true _
theorem rEq_trips {K : PySem.W.Frag} {H : Hp} {a b : Addr} {ls ms : List Addr} {ps : List (Int × Int × Int)} {Q : VK} (h1 : SqL K H a (ls.map V.ref)) (h2 : SqL K H b (ms.map V.ref)) (r1 : TripsF H ls ps) (r2 : TripsF H ms ps) (q : Q (.bl true) H) : rEqD K (.ref a) (.ref b) H Q :=
  ⟨_, _, dp_trips h1 r1, dp_trips h2 r2, shaped_trips ps, shaped_trips ps, by rw [eqv_trips]; exact q⟩
theorem rNe_trips {K : PySem.W.Frag} {H : Hp} {a b : Addr} {ls ms : List Addr} {ps : List (Int × Int × Int)} {Q : VK} (h1 : SqL K H a (ls.map V.ref)) (h2 : SqL K H b (ms.map V.ref)) (r1 : TripsF H ls ps) (r2 : TripsF H ms ps) (q : Q (.bl false) H) : rNeD K (.ref a) (.ref b) H Q :=
  ⟨_, _, dp_trips h1 r1, dp_trips h2 r2, shaped_trips ps, shaped_trips ps, by rw [eqv_trips]; exact q⟩
/-- all three small -/
def SmT (ps : List (Int × Int × Int)) : Prop := ∀ q ∈ ps, SmI q.1 ∧ SmI q.2.1 ∧ SmI q.2.2
theorem repr_trips {K : PySem.W.Frag} {H : Hp} {a : Addr} {ls : List Addr} {ps : List (Int × Int × Int)} {Q : VK} (h : SqL K H a (ls.map V.ref)) (r : TripsF H ls ps) (s : SmT ps) (hl : ps.length ≤ 1000) (q : Q (.str (PyData.list (tripsD ps)).shown) H) : rRepr K [.ref a] H Q :=
  repr_good (dp_trips h r) (good_tups (ts := ps.map tripL) (fun ns hn => by
    obtain ⟨t, ht, rfl⟩ := List.mem_map.mp hn
    refine ⟨Nat.le_refl 3, fun n hn => ?_⟩
    obtain ⟨s1, s2, s3⟩ := s t ht
    rcases List.mem_cons.mp hn with rfl | hn
    · exact s1
    rcases List.mem_cons.mp hn with rfl | hn
    · exact s2
    rw [List.mem_singleton.mp hn]
    exact s3) (by rw [List.length_map]; exact hl)) q
theorem SmT.str {ns : List Int} {m : Int} (hl : ns.length ≤ 1000) (hm : 0 ≤ m) : SmT (strL ns m) := by
  intro q hq
  unfold strL at hq
  split at hq
  · cases hq
  · unfold strK at hq
    obtain ⟨f, hf, h⟩ := List.mem_filterMap.mp hq
    have hf2 := List.mem_range.mp hf
    obtain ⟨e, he, rfl⟩ := Option.map_eq_some_iff.mp h
    obtain ⟨k1, k2, _⟩ := endAt_just (by omega) hm he
    obtain ⟨w1, w2, _⟩ := wi_spec (ns := ns) (m := m) (f := f) (by omega) hm
    refine ⟨⟨?_, ?_⟩, ⟨?_, ?_⟩, ⟨?_, ?_⟩⟩
    · show -1000000 < (f : Int); omega
    · show (f : Int) < 1000000; omega
    · show -1000000 < (e : Int); omega
    · show (e : Int) < 1000000; omega
    · show -1000000 < wi ns m f; omega
    · show wi ns m f < 1000000; omega
/-- the ends, up to the j-th after the first place, of windows with just so many -/
def endsJ (ns : List Int) (m : Int) (f j : Nat) : List Int := ((List.range j).filter fun (k : Nat) => decide ((wunN ns f (f + (k + 1)) : Int) = m)).map fun (k : Nat) => (f : Int) + ((k : Int) + 1)
theorem endsJ_s (ns : List Int) (m : Int) (f j : Nat) : endsJ ns m f (j + 1) = endsJ ns m f j ++ (if (wunN ns f (f + (j + 1)) : Int) = m then [(f : Int) + ((j : Int) + 1)] else []) := by
  unfold endsJ
  rw [List.range_succ, List.filter_append, List.map_append]
  congr 1
  by_cases c : (wunN ns f (f + (j + 1)) : Int) = m
  · rw [if_pos c, List.filter_cons_of_pos (by exact decide_eq_true c)]; rfl
  · rw [if_neg c, List.filter_cons_of_neg (by show ¬ decide _ = true; rw [decide_eq_false c]; exact Bool.false_ne_true)]; rfl
theorem endsJ_len (ns : List Int) (m : Int) (f j : Nat) : (endsJ ns m f j).length ≤ j := by
  unfold endsJ
  rw [List.length_map]
  exact Nat.le_trans (List.length_filter_le _ _) (by rw [List.length_range]; exact Nat.le_refl j)
/-- none, or from the least end on, one by one -/
theorem endsJ_is {ns : List Int} {m : Int} {f : Nat} (h1 : 1 ≤ m) : ∀ j : Nat, f + j ≤ ns.length → endsJ ns m f j = match endAt ns f m with
    | none => []
    | some e => (List.range ((min ((f : Int) + j) (wi ns m f)) - e + 1).toNat).map fun (k : Nat) => (e : Int) + (k : Int)
  | 0, h => by
    cases he : endAt ns f m with
    | none => rfl
    | some e =>
      have k := endAt_pos (by omega) h1 he
      have e0 : ((min ((f : Int) + (0 : Nat)) (wi ns m f)) - e + 1).toNat = 0 := by omega
      show endsJ ns m f 0 = List.map _ (List.range _)
      rw [e0]
      rfl
  | j + 1, h => by
    have ih := endsJ_is (ns := ns) (m := m) (f := f) h1 j (by omega)
    have k := just_iff (ns := ns) (m := m) (f := f) (b := f + (j + 1)) (by omega) h (by omega)
    obtain ⟨w1, w2, _⟩ := wi_spec (ns := ns) (m := m) (f := f) (by omega) (show 0 ≤ m by omega)
    rw [endsJ_s, ih]
    cases he : endAt ns f m with
    | none =>
      rw [if_neg (fun z => by
        obtain ⟨e, h2, _⟩ := k.mp z
        rw [he] at h2
        cases h2)]
      rfl
    | some e =>
      have kp := endAt_pos (by omega) h1 he
      have kw : (e : Int) ≤ wi ns m f := by
        obtain ⟨_, k2, k3, _⟩ := endAt_just (by omega) (show 0 ≤ m by omega) he
        obtain ⟨_, h2, _, h4⟩ := (just_iff (ns := ns) (m := m) (f := f) (b := e) (by omega) k2 (by omega)).mp k3
        exact h4
      show List.map _ (List.range _) ++ _ = List.map _ (List.range _)
      by_cases c : e ≤ f + (j + 1) ∧ ((f + (j + 1) : Nat) : Int) ≤ wi ns m f
      · rw [if_pos (k.mpr ⟨e, he, c.1, c.2⟩)]
        have e1 : ((min ((f : Int) + ((j + 1 : Nat) : Int)) (wi ns m f)) - e + 1).toNat = ((min ((f : Int) + (j : Nat)) (wi ns m f)) - e + 1).toNat + 1 := by omega
        rw [e1, List.range_succ, List.map_append]
        congr 1
        show [_] = [_]
        congr 1
        show (f : Int) + ((j : Int) + 1) = (e : Int) + (((min ((f : Int) + (j : Nat)) (wi ns m f)) - e + 1).toNat : Int)
        omega
      · rw [if_neg (fun z => by
          obtain ⟨e', h2, h3, h4⟩ := k.mp z
          rw [he] at h2
          cases h2
          exact c ⟨h3, h4⟩), List.append_nil]
        congr 2
        omega
/-- at the end: none, or the first and the last are known -/
theorem endsJ_all {ns : List Int} {m : Int} {f : Nat} (hf : f ≤ ns.length) (h1 : 1 ≤ m) :
    (endAt ns f m = none ∧ endsJ ns m f (ns.length - f) = []) ∨
    ∃ e : Nat, endAt ns f m = some e ∧ 0 < (endsJ ns m f (ns.length - f)).length ∧ (endsJ ns m f (ns.length - f)).getD 0 0 = e ∧ (endsJ ns m f (ns.length - f)).getD ((endsJ ns m f (ns.length - f)).length - 1) 0 = wi ns m f := by
  have k := endsJ_is (ns := ns) (m := m) (f := f) h1 (ns.length - f) (by omega)
  obtain ⟨w1, w2, _⟩ := wi_spec (ns := ns) (m := m) (f := f) hf (show 0 ≤ m by omega)
  cases he : endAt ns f m with
  | none => rw [he] at k; exact .inl ⟨rfl, k⟩
  | some e =>
    rw [he] at k
    refine .inr ⟨e, rfl, ?_⟩
    have kw : (e : Int) ≤ wi ns m f := by
      obtain ⟨_, k2, k3, _⟩ := endAt_just hf (show 0 ≤ m by omega) he
      obtain ⟨_, h2, _, h4⟩ := (just_iff (ns := ns) (m := m) (f := f) (b := e) (by have := endAt_pos hf h1 he; omega) k2 (by omega)).mp k3
      exact h4
    have k' : endsJ ns m f (ns.length - f) = (List.range ((wi ns m f - e).toNat + 1)).map fun (k : Nat) => (e : Int) + (k : Int) := by
      refine k.trans ?_
      show List.map _ (List.range _) = _
      congr 2
      omega
    rw [k', List.length_map, List.length_range]
    refine ⟨by omega, ?_, ?_⟩
    · rw [List.getD_eq_getElem?_getD, List.getElem?_map, List.getElem?_range (by omega)]
      show (e : Int) + ((0 : Nat) : Int) = e
      omega
    · rw [List.getD_eq_getElem?_getD, List.getElem?_map, List.getElem?_range (by omega)]
      show (e : Int) + (((wi ns m f - e).toNat + 1 - 1 : Nat) : Int) = wi ns m f
      omega
theorem at_m1 {es : List Int} {x : Int} (h1 : 0 < es.length) (h3 : es.getD (es.length - 1) 0 = x) : atI (es.map V.int) (-1) = some (V.int x) := by
  rcases List.eq_nil_or_concat es with rfl | ⟨es', y, e5⟩
  · exact absurd h1 (by decide)
  · rw [List.concat_eq_append] at e5
    subst e5
    have h4 : (es' ++ [y]).length - 1 = es'.length := by rw [List.length_append]; exact Nat.add_sub_cancel ..
    rw [h4, List.getD_eq_getElem?_getD, List.getElem?_append_right (Nat.le_refl _), Nat.sub_self] at h3
    have h5 : y = x := h3
    rw [List.map_append, ← h5]
    exact atI_last _ _
/-- with no number asked for: none -/
theorem endsJ_zero {ns : List Int} {f j : Nat} (h : f + j ≤ ns.length) : endsJ ns 0 f j = [] := by
  induction j with
  | zero => rfl
  | succ j ih =>
    have w1 := wunN_monoF (ns := ns) (b := f + (j + 1)) h (k := j) (f := f) (by omega)
    have w2 := wunN_up (ns := ns) (f := f + j) (b := f + j) (Nat.le_refl _) (by omega)
    rw [if_pos (by have := (lastAt_range ns (ns.getD (f + j) 0) (f + j)).2; omega), Nat.add_assoc] at w2
    rw [endsJ_s, ih (by omega), if_neg (by omega)]
    rfl
/-- a held pair of two lists that tell the same; neither is the place c -/
structure HelT (H : Hp) (c p : Addr) : Prop where
  ex : ∃ (f e : Addr) (fs es : List Addr) (ps : List (Int × Int × Int)), H p = some (.tup [.ref f, .ref e]) ∧ H f = some (.lst (fs.map V.ref)) ∧ TripsF H fs ps ∧ H e = some (.lst (es.map V.ref)) ∧ TripsF H es ps ∧ f ≠ c ∧ e ≠ c
theorem HelT.but {H H' : Hp} {c p : Addr} {xs : List V} (k : HelT H c p) (hc : H c = some (.lst xs)) (b : But c H H') : HelT H' c p := by
  obtain ⟨f, e, fs, es, ps, h1, h2, h3, h4, h5, h6, h7⟩ := k.ex
  exact ⟨f, e, fs, es, ps, b _ _ (fun z => by rw [z, hc] at h1; cases h1) h1, b _ _ h6 h2, ObjsF.but h3 b (TripsF.offL h3 hc).out, b _ _ h7 h4, ObjsF.but h5 b (TripsF.offL h5 hc).out, h6, h7⟩
theorem HelT.same {H H' : Hp} {c p : Addr} (k : HelT H c p) (s : Same H H') : HelT H' c p := by
  obtain ⟨f, e, fs, es, ps, h1, h2, h3, h4, h5, h6, h7⟩ := k.ex
  exact ⟨f, e, fs, es, ps, s _ _ h1, s _ _ h2, ObjsF.same h3 s, s _ _ h4, ObjsF.same h5 s, h6, h7⟩
end Ur

/-! sorted(set(xs)), xs a list of ints -/
namespace UrS
open PySem PySem.Spec PyProof.Rows L2
section
variable {P : Program} {w : World} {A : Around} {E : Value → Shared → Prop} {s : Shared}
/-- a set object just made -/
abbrev newSet (w : World) : Obj := { cls := .type "set", dict := none, data := .set #[] 0 (.fresh 0 0 (!w.params.followText "set-order")) }
set_option maxRecDepth 100000 in
set_option maxHeartbeats 3200000 in
theorem set_of_list {l : Addr} {items : Array Value} (ns : List Int) {Q : Value → Shared → Prop} (hh : A.handled = none) (hl : s.heap.IsList l items) (hit : IntsAre items.toList ns) (hb : ns.length + 1 < scanBound)
    (h : ∀ (h' : Heap) (tk c : Nat), SetR w h' s.heap.objs.size (fun j => decide (j ∈ ns)) c → c ≤ ns.length → (∀ b o, s.heap.get? b = some o → h'.get? b = some o) → Q (.ref s.heap.objs.size) { s with heap := h', toks := tk }) :
    wpAny (model P w) A (call (.type "set") [.ref l]) Q E s := by
  have hisz : items.size = ns.length := by
    rw [← Array.length_toList]; exact IntsAre.length hit
  obtain ⟨c, tl, hmro⟩ := F.called_set.mro
  have hmade := F.called_set.made
  have hsub := F.called_set.sub
  refine wpAny_call (codeAny_of_tree ?_)
  show wpAny _ _ (callAny (.type "set") _) _ _ _
  refine wpAny_pure ⟨Code.quiet_builtin _ (by decide +kernel), codeAny_builtin F.entry_type_call ?_⟩
  rw [Around.under_plain (weight_type_call_type "set" [.ref l] []) rfl]
  have h1 := F.called_set.notType
  have h2 := F.called_set.canCreate
  have hct := F.typeCall_set_1 (.ref l)
  repeat (any_goals (first | assumption | wp_step))
  refine codeAny_mono (code_set_led1 (.ref l) (E := E) (Q₁ := fun obj s₁ => obj = .ref s.heap.objs.size ∧ s₁ = { s with heap := s.heap.push (newSet w) }) ⟨rfl, rfl⟩) fun r s₁ hr => ?_
  cases r with
  | error e => exact hr
  | ok fl =>
    cases fl with
    | ret obj =>
      obtain ⟨rfl, rfl⟩ := hr
      have hS : (s.heap.push (newSet w)).get? s.heap.objs.size = some (newSet w) := Heap.get?_push_size _ rfl
      have hT : Shared.TypeIs { s with heap := s.heap.push (newSet w) } (.ref s.heap.objs.size) "set" := ⟨_, hS, rfl⟩
      have hli := F.called_set.init.lookup
      have hbi := F.called_set.init.bind (.ref s.heap.objs.size)
      repeat (any_goals (first | assumption | wp_step))
      refine codeAny_mono (codeAny_call_builtin (R := wants (fun r s₂ => r = .none ∧ ∃ h' tk c, s₂ = { s with heap := h', toks := tk } ∧ SetR w h' s.heap.objs.size (fun j => decide (j ∈ ns)) c ∧ c ≤ ns.length ∧
          (∀ b o, s.heap.get? b = some o → h'.get? b = some o)) E) F.called_set.init.plain F.entry_set_init (check_set_init_1 hT ?_)) fun r₂ s₂ hr₂ => ?_
      · have hlS : l < s.heap.objs.size := by obtain ⟨ol, hol, _⟩ := hl; exact Heap.lt_size hol
        obtain ⟨ol, hol, hcl, nl, hdl⟩ := hl
        obtain ⟨ocls, odict, odata, oslots⟩ := ol
        simp only at hcl hdl
        subst hcl; subst hdl
        have hol' : (s.heap.push (newSet w)).get? l = some { cls := .type "list", dict := odict, data := .seq items nl, slots := oslots } := Heap.get?_push_of_some _ hol
        have hsls := F.sub_list_set
        have hslf := F.sub_list_frozenset
        have hne : (Value.type "list" == Value.type "dict") = false := by decide
        have hl1 : (s.heap.push (newSet w)).IsList l items := ⟨_, hol', rfl, nl, rfl⟩
        unfold Builtin.«set.__init__» noKeywords Builtin.Frozenset.updateFrom
        generalize hPI : pyIter = PI
        wp_walk
        subst hPI
        refine wpAny_pyIter_list hl1 ?_
        refine wpAny_bind (wpAny_runValue ?_)
        have hh3 : A.in1.in1.in1.handled = none := by simp [hh]
        have hneI : l ≠ (s.heap.push (newSet w)).objs.size := by
          rw [Heap.size_push]; exact Nat.ne_of_lt (Nat.lt_succ_of_lt hlS)
        have hSf : s.heap.objs.size ∉ [(s.heap.push (newSet w)).objs.size, l] := by
          rw [Heap.size_push]; simp only [List.mem_cons, List.not_mem_nil, or_false, not_or]
          exact ⟨Nat.ne_of_lt (Nat.lt_succ_self _), Nat.ne_of_gt hlS⟩
        have hval : ∀ (i : Nat) (v : Value), items[i]? = some v → ∃ k t, ns[i]? = some k ∧ v = .int k t := fun i v hv => by
          have hi : i < ns.length := by rw [← hisz]; exact (Array.getElem?_eq_some_iff.mp hv).1
          obtain ⟨t, e⟩ := PyProof.Rows.IntsAre.int_at hit i v (by rw [Array.getElem?_toList]; exact hv)
          refine ⟨ns[i], t, List.getElem?_eq_getElem hi, ?_⟩
          rw [e, List.getD_eq_getElem?_getD, List.getElem?_eq_getElem hi] <;> rfl
        refine set_update_ints ((Walks.list hh3 _ l hneI items).toS) s.heap.objs.size
          hSf ns hisz hb hval (items.size - 0) 0 _ (by omega) (Nat.zero_le _)
          ⟨⟨_, Heap.get?_push_size _ rfl, rfl, rfl⟩, (hl1.push _)⟩ ⟨0, Nat.le_refl 0, setR_new_at (Heap.get?_push_of_some _ hS)⟩ ?hR
        intro s' c' hm hc' hS'
        obtain ⟨h', g2, d', tk', os'⟩ := s'
        have eg : g2 = s.gens := hm.gens
        have ed : d' = s.drawn := hm.drawn
        have eo : os' = s.os := hm.os
        subst eg; subst ed; subst eo
        show wpAny _ _ _ _ _ _
        refine wpAny_pure ?_
        show wpAny _ _ (ret Value.none) _ _ _
        rw [hisz] at hc'
        refine wpAny_pure ⟨rfl, h', tk', c', rfl, hS', hc', fun b o e => ?_⟩
        have hb0 : b < s.heap.objs.size := Heap.lt_size e
        refine hm.heap b o ?_ (Heap.get?_push_of_some _ (Heap.get?_push_of_some _ e))
        simp only [List.mem_cons, List.not_mem_nil, or_false, not_or]
        exact ⟨Nat.ne_of_lt hb0, by rw [Heap.size_push]; exact Nat.ne_of_lt (Nat.lt_succ_of_lt hb0)⟩
      · cases r₂ with
        | error e => exact hr₂
        | ok fl₂ =>
          cases fl₂ with
          | ret r =>
            obtain ⟨rfl, h', tk, c', rfl, hS', hc', hk'⟩ := hr₂
            repeat (any_goals (first | assumption | wp_step))
            exact h _ _ _ hS' hc' hk'
          | _ => exact hr₂.elim
    | _ => exact hr.elim
theorem sorted_any {S : Int → Bool} {n : Nat} {a : Addr} {Q : Value → Shared → Prop} (R : SetR w s.heap a S n) (hh : A.handled = none)
    (hQ : ∀ s' p (out : Array Value) (c : Nat) (ns : List Int), (∀ b o, s.heap.get? b = some o → s'.heap.get? b = some o) → s'.gens = s.gens → s'.os = s.os → s.heap.objs.size ≤ p →
      s'.heap.get? p = some (seqObj "list" out c) → IntsAre out.toList ns → ns.Pairwise (· < ·) → (∀ k, k ∈ ns ↔ S k = true) → ns.length = n → Q (.ref p) s') :
    wpAny (model P w) A (call (.builtin "sorted") [.ref a]) Q E s := by
  obtain ⟨o, es, ep, t, ho, hex, hd, g, nd, hm, hb, hf, hn, hr, hl⟩ := R
  refine Calls.call_function_entry kind_sorted plain_sorted entry_sorted (args_sorted1 _) ?_
  unfold Builtin.«sorted»
  refine wpAny_bind (m := checkCount "sorted" 1 1 _) (wpAny_pure ?_)
  refine wpAny_bind (collect_set (A := A.in1) hh ⟨o, ho, hex.1, hd⟩ hf hb hr hl fun s1 vs k1 hz g1 o1 pm => ?_)
  have hvl : vs.length = es.size := by rw [pm.length_eq, List.length_map, Array.length_toList]
  have hvz : vs.length ≤ sizeLine := by rw [hvl, sizeLine_eq]; unfold scanBound at hb; omega
  have hI : IntsAre vs (vs.map Builtin.Re.reRawOf) := ints_of vs fun v hv => by
    obtain ⟨e, he, q⟩ := List.mem_map.mp (pm.mem_iff.mp hv)
    obtain ⟨k, tk, h1, _⟩ := g e he
    exact ⟨k, tk, by rw [← q]; exact h1⟩
  have pk : (vs.map Builtin.Re.reRawOf).Perm (es.toList.map keyOf) := by
    have q := pm.map Builtin.Re.reRawOf
    rw [List.map_map] at q
    exact q
  refine wpAny_bind (wpAny_newList ?_ hvz)
  have hoL : (s1.heap.push (seqObj "list" vs.toArray 0)).get? s1.heap.objs.size = some (seqObj "list" vs.toArray 0) := Heap.get?_push_size _ rfl
  refine wpAny_bind (wpAny_holding (wpAny_call_entry slot_list_sort ⟨_, hoL, rfl⟩ entry_list_sort (SrtO.list_sort_ord SrtO.swo_int hoL hvz (fun h2 => SrtO.ints_sortable hI h2) fun out h1 h2 => ⟨_, rfl, ?_⟩) (args_list_sort _)))
  obtain ⟨a1, a2, a3⟩ := SrtO.ints_out hI h1 h2
  obtain ⟨c, hc⟩ := sortedHeap_at (vs := vs) (out := out.toArray) hoL
  have pn := a2.trans pk
  refine wpAny_pure ⟨_, rfl, hQ _ s1.heap.objs.size out.toArray c _ (fun b u e => ?_) g1 o1 hz hc a1 (lt_of_le_nodup _ a3 (pn.nodup_iff.mpr nd)) (fun k => by rw [pn.mem_iff, ← hm k]) ?_⟩
  · have q := k1 b u e
    have hlt := Heap.lt_size q
    show (sortedHeap (s1.heap.push (seqObj "list" vs.toArray 0)) s1.heap.objs.size vs out.toArray).get? b = some u
    rw [sortedHeap_old (Nat.ne_of_lt hlt) (by rw [size_push']; exact Nat.lt_succ_of_lt hlt)]
    exact Heap.get?_push_of_some _ q
  · rw [pn.length_eq, List.length_map, Array.length_toList]; exact hn
end
end UrS
namespace UrS
open PySem PySem.Spec PyProof.Rows L2
/-! ### sorted(set(xs)) as one rule -/
def tSortSet (K : PySem.W.Frag) (ta : TE) : TE := fun σ H Q => ta σ H fun x H1 => ∃ (l : Addr) (ns : List Int), x = .ref l ∧ SqL K H1 l (ns.map V.int) ∧ ns.length ≤ 4000 ∧ ∀ (ns' : List Int) (p : Addr), ns'.Pairwise (· < ·) → (∀ k : Int, k ∈ ns' ↔ k ∈ ns) → H1 p = none → Q (.ref p) (upd H1 p (.lst (ns'.map V.int)))
theorem pe_sortSet {X : Cx} {K : PySem.W.Frag} {a : Expr} {ta : TE} {p p2 q pos : Pos} (hk : X.K = K) (hg : Gl X "sorted") (hm : X.mg "sorted" = none) (hg2 : Gl X "set") (hm2 : X.mg "set" = none) (ha : PE X a ta) (hc : X.calm = true := by rfl)
    (na : starEach [a] X.env = (false, eval a X.env) :: starEach [] X.env := by rfl) : PE X (.Call (.Name "sorted" p) [.Call (.Name "set" p2) [a] [] q] [] pos) (tSortSet K ta) := by
  subst hk
  refine ⟨fun pins s σ H Q I h => ?_⟩
  refine Call_ (ld_blt I hg hm (show bootBuiltins (Str.ofString "sorted") = some (.builtin "sorted") from by decide +kernel) ?_)
  refine PyProof.Rows.callWith_builtin1 (PyProof.Rows.args_cons ?_ rfl) rfl rfl
  refine Call_ (ld_blt I hg2 hm2 boot_set ?_)
  refine PyProof.Rows.callWith_type1 (PyProof.Rows.args_cons (thn (ha.run pins s σ H _ I h) fun v s1 ⟨x, H1, I1, r1, q1⟩ => PyProof.Rows.args_nil ?_) na) na rfl
  obtain ⟨l, ns, rfl, hq, hl, q1⟩ := q1
  cases r1
  obtain ⟨its, r, pl, hz⟩ := I1.list hq
  have hi : IntsAre its ns := RZ.intsAre_vals r
  refine set_of_list ns (I1.ok.hd hc) pl.isList (by simpa using hi) (by unfold scanBound; omega) fun h' tk c hS hc' hk => ?_
  refine PyProof.Rows.args_nil ?_
  have I2 : Inv X pins σ H1 { s1 with heap := h', toks := tk } := I1.kept hk
  have hS2 : SetR X.w ({ s1 with heap := h', toks := tk } : Shared).heap s1.heap.objs.size (fun j => decide (j ∈ ns)) c := hS
  clear hS
  generalize ({ s1 with heap := h', toks := tk } : Shared) = s2 at I2 hS2 ⊢
  refine sorted_any hS2 (I1.ok.hd hc) fun s' p out c2 ns' k g o hp hg3 hi3 hs3 hm3 hl3 => ?_
  have hlen : (ns'.map V.int).length ≤ sizeLine := by rw [List.length_map, hl3, sizeLine_eq]; omega
  have hn : H1 p = none := I2.hok.fresh hp
  have J : Inv X pins σ (upd H1 p (.lst (ns'.map V.int))) { s2 with heap := s'.heap, gens := s'.gens, drawn := s'.drawn, toks := s'.toks } :=
    I2.call (ch := []) (Un.laid k hp hn) (I2.hok.laid k hp ⟨hlen, out.toList, c2, vals_of_ints hi3, hg3⟩) (by rw [g]; exact I2.bare) (fun _ z => nomatch z)
  have e : s' = { s2 with heap := s'.heap, gens := s'.gens, drawn := s'.drawn, toks := s'.toks } := by
    cases s'
    cases s2
    cases o
    rfl
  rw [e]
  exact ⟨.ref p, _, J, rfl, q1 ns' p hs3 (fun k => by rw [hm3]; exact decide_eq_true_iff) hn⟩
end UrS

namespace Ur
open PySem L2
/-! ### windows side by side -/
theorem ulen_is {A ms : List Int} (nd : ms.Nodup) (h : ∀ x, x ∈ ms ↔ x ∈ A) : ms.length = ulen A :=
  ((List.perm_ext_iff_of_nodup nd (uni_nodup A)).mpr fun x => (h x).trans (mem_uni A x).symm).length_eq
theorem filter_two (t : Int → Bool) : ∀ ms : List Int, (ms.filter t).length + (ms.filter fun x => !t x).length = ms.length
  | [] => rfl
  | x :: ms => by
    have ih := filter_two t ms
    cases h : t x <;> simp [List.filter_cons, h] <;> omega
/-- those in both are as many as the two have more than the whole -/
theorem ulen_both {A B ms : List Int} (nd : ms.Nodup) (h : ∀ x, x ∈ ms ↔ x ∈ A) : (ms.filter fun x => decide (x ∈ B)).length + ulen (A ++ B) = ulen A + ulen B := by
  have h1 := ulen_is nd h
  have h2 := filter_two (fun x => decide (x ∈ B)) ms
  have h3 : ((ms.filter fun x => !decide (x ∈ B)) ++ uni B).length = ulen (A ++ B) := by
    refine ulen_is ?_ fun x => ?_
    · rw [List.nodup_append]
      refine ⟨nd.filter _, uni_nodup B, fun a ha b hb e => ?_⟩
      rw [List.mem_filter] at ha
      rw [← e, mem_uni] at hb
      simp [hb] at ha
    · rw [List.mem_append, List.mem_append, List.mem_filter, mem_uni, h]
      by_cases hb : x ∈ B
      · simp [hb]
      · simp [hb]
  rw [List.length_append] at h3
  have h4 : (uni B).length = ulen B := rfl
  omega
theorem win_join {ns : List Int} {f a b : Nat} (h1 : f ≤ a) (h2 : a ≤ b) : (ns.drop f).take (a - f) ++ (ns.drop a).take (b - a) = (ns.drop f).take (b - f) := by
  have e : (ns.drop a) = (ns.drop f).drop (a - f) := by rw [List.drop_drop, show f + (a - f) = a from by omega]
  rw [e, show b - f = (a - f) + (b - a) from by omega, List.take_add]
theorem wun_both {ns ms : List Int} {f a b : Int} (h0 : 0 ≤ f) (h1 : f ≤ a) (h2 : a ≤ b) (nd : ms.Nodup) (h : ∀ x, x ∈ ms ↔ x ∈ (ns.drop f.toNat).take (a.toNat - f.toNat)) :
    ((ms.filter fun x => decide (x ∈ (ns.drop a.toNat).take (b.toNat - a.toNat))).length : Int) = (wun ns f a : Int) + (wun ns a b : Int) - (wun ns f b : Int) := by
  have k := ulen_both (B := (ns.drop a.toNat).take (b.toNat - a.toNat)) nd h
  rw [win_join (by omega) (by omega)] at k
  have e1 : ulen ((ns.drop f.toNat).take (a.toNat - f.toNat)) = wun ns f a := rfl
  have e2 : ulen ((ns.drop a.toNat).take (b.toNat - a.toNat)) = wun ns a b := rfl
  have e3 : ulen ((ns.drop f.toNat).take (b.toNat - f.toNat)) = wun ns f b := rfl
  omega
theorem wun_parts {ns : List Int} {f a b : Int} (h0 : 0 ≤ f) (h1 : f ≤ a) (h2 : a ≤ b) (h3 : b ≤ ns.length) : wun ns f a ≤ wun ns f b ∧ wun ns a b ≤ wun ns f b := by
  rw [wun_N, wun_N, wun_N]
  constructor
  · have := wunN_monoB (ns := ns) (f := f.toNat) (k := b.toNat - a.toNat) (b := a.toNat) (by omega) (by omega)
    rwa [show a.toNat + (b.toNat - a.toNat) = b.toNat from by omega] at this
  · have := wunN_monoF (ns := ns) (b := b.toNat) (by omega) (k := a.toNat - f.toNat) (f := f.toNat) (by omega)
    rwa [show f.toNat + (a.toNat - f.toNat) = a.toNat from by omega] at this
/-- one place more behind -/
theorem wun_more {ns : List Int} {f b : Int} (h0 : 0 ≤ f) (h1 : f ≤ b) (h2 : b < ns.length) :
    (wun ns f (b + 1) : Int) - (wun ns f b : Int) = if (!decide (ns.getD b.toNat 0 ∈ (ns.drop f.toNat).take (b.toNat - f.toNat))) = true then 1 else 0 := by
  rw [wun_N, wun_N, show (b + 1).toNat = b.toNat + 1 from by omega, wunN_up (by omega) (by omega)]
  have k := last_in (ns := ns) (f := f.toNat) (k := b.toNat - f.toNat) (by omega)
  rw [show f.toNat + (b.toNat - f.toNat) = b.toNat from by omega] at k
  by_cases h : lastAt ns b.toNat (ns.getD b.toNat 0) < (f.toNat : Int)
  · rw [if_pos h, if_pos (by rw [decide_eq_false (fun z => k.mp z h)]; rfl)]; omega
  · rw [if_neg h, if_neg (by rw [decide_eq_true (k.mpr h)]; decide)]; omega
/-- one place more ahead -/
theorem wun_ahead {ns : List Int} {f b : Int} (h0 : 0 < f) (h1 : f ≤ b) (h2 : b ≤ ns.length) :
    (wun ns (f - 1) b : Int) - (wun ns f b : Int) = if (!decide (ns.getD (f - 1).toNat 0 ∈ (ns.drop f.toNat).take (b.toNat - f.toNat))) = true then 1 else 0 := by
  have e : (ns.drop (f - 1).toNat).take (b.toNat - (f - 1).toNat) = ns.getD (f - 1).toNat 0 :: (ns.drop f.toNat).take (b.toNat - f.toNat) := by
    have hd : (f - 1).toNat < ns.length := by omega
    rw [List.drop_eq_getElem_cons hd, show b.toNat - (f - 1).toNat = (b.toNat - f.toNat) + 1 from by omega, List.take_succ_cons, show (f - 1).toNat + 1 = f.toNat from by omega]
    rw [List.getD_eq_getElem?_getD, List.getElem?_eq_getElem hd]; rfl
  have e1 : wun ns (f - 1) b = ulen (ns.getD (f - 1).toNat 0 :: (ns.drop f.toNat).take (b.toNat - f.toNat)) := by rw [← e]; rfl
  rw [e1, ulen_cons]
  have e2 : wun ns f b = ulen ((ns.drop f.toNat).take (b.toNat - f.toNat)) := rfl
  rw [e2]
  by_cases h : ns.getD (f - 1).toNat 0 ∈ (ns.drop f.toNat).take (b.toNat - f.toNat)
  · rw [if_pos h, if_neg (by rw [decide_eq_true h]; decide)]; omega
  · rw [if_neg h, if_pos (by rw [decide_eq_false h]; rfl)]; omega
/-- first places of the whole -/
theorem firP_join {ns : List Int} {f a b : Int} (h0 : 0 ≤ f) (h1 : f ≤ a) (h2 : a ≤ b) (h3 : b ≤ ns.length) :
    firP ns f b = firP ns f a ++ (firP ns a b).filter fun x => !decide (ns.getD x.toNat 0 ∈ (ns.drop f.toNat).take (a.toNat - f.toNat)) := by
  unfold firP
  rw [show (b - f).toNat = (a - f).toNat + (b - a).toNat from by omega, List.range_add, List.filter_append, List.map_append]
  congr 1
  rw [List.filter_map, List.map_map, List.filter_map, List.filter_filter]
  have e : ((List.range (b - a).toNat).filter ((fun k => decide (lp ns (f.toNat + k) < f)) ∘ fun x => (a - f).toNat + x)) = (List.range (b - a).toNat).filter fun k => ((fun x => !decide (ns.getD x.toNat 0 ∈ (ns.drop f.toNat).take (a.toNat - f.toNat))) ∘ fun (k : Nat) => a + (k : Int)) k && decide (lp ns (a.toNat + k) < a) := by
    refine List.filter_congr fun k hk => ?_
    rw [List.mem_range] at hk
    show decide (lp ns (f.toNat + ((a - f).toNat + k)) < f) = (!decide (ns.getD (a + (k : Int)).toNat 0 ∈ (ns.drop f.toNat).take (a.toNat - f.toNat)) && decide (lp ns (a.toNat + k) < a))
    rw [show f.toNat + ((a - f).toNat + k) = a.toNat + k from by omega, show (a + (k : Int)).toNat = a.toNat + k from by omega]
    have k1 := last_in (ns := ns) (f := f.toNat) (k := a.toNat + k - f.toNat) (by omega)
    have k2 := last_in (ns := ns) (f := a.toNat) (k := k) (by omega)
    rw [show f.toNat + (a.toNat + k - f.toNat) = a.toNat + k from by omega, ← win_join (a := a.toNat) (by omega) (by omega), show a.toNat + k - a.toNat = k from by omega, List.mem_append] at k1
    have e1 : lp ns (a.toNat + k) = lastAt ns (a.toNat + k) (ns.getD (a.toNat + k) 0) := rfl
    rw [← e1] at k1 k2
    rw [show ((f.toNat : Nat) : Int) = f from by omega] at k1
    rw [show ((a.toNat : Nat) : Int) = a from by omega] at k2
    by_cases g1 : ns.getD (a.toNat + k) 0 ∈ (ns.drop f.toNat).take (a.toNat - f.toNat)
    · have := k1.mp (.inl g1)
      rw [decide_eq_true g1, decide_eq_false this]; rfl
    · by_cases g2 : lp ns (a.toNat + k) < a
      · have g3 : ¬ ¬ lp ns (a.toNat + k) < f := fun z => by
          rcases k1.mpr z with z | z
          · exact g1 z
          · exact k2.mp z g2
        have g4 := Decidable.of_not_not g3
        rw [decide_eq_false g1, decide_eq_true g2, decide_eq_true g4]; rfl
      · have g4 := k1.mp (.inr (k2.mpr g2))
        rw [decide_eq_false g1, decide_eq_false g2, decide_eq_false g4]; rfl
  rw [e]
  refine List.map_congr_left fun k _ => ?_
  show f + (((a - f).toNat + k : Nat) : Int) = a + (k : Int)
  omega
theorem firP_in {ns : List Int} {f b x : Int} (h : x ∈ firP ns f b) : f ≤ x ∧ x < b := by
  unfold firP at h
  obtain ⟨k, hk, rfl⟩ := List.mem_map.mp h
  have := List.mem_range.mp (List.mem_filter.mp hk).1
  omega
end Ur

namespace Ur
open PySem L2
/-! ### first places, told and looked at -/
theorem firP_pair (ns : List Int) (f b : Int) : (firP ns f b).Pairwise (· < ·) := by
  unfold firP
  rw [List.pairwise_map]
  exact (List.pairwise_lt_range.filter _).imp fun h => by omega
theorem firP_s {ns : List Int} {f : Int} {k : Nat} (h0 : 0 ≤ f) : firP ns f (f + (k : Int) + 1) = firP ns f (f + (k : Int)) ++ (if lp ns (f.toNat + k) < f then [f + (k : Int)] else []) := by
  unfold firP
  rw [show (f + (k : Int) + 1 - f).toNat = k + 1 from by omega, show (f + (k : Int) - f).toNat = k from by omega, List.range_succ, List.filter_append, List.map_append]
  congr 1
  by_cases h : lp ns (f.toNat + k) < f
  · rw [if_pos h, List.filter_cons, if_pos (decide_eq_true h)]; rfl
  · rw [if_neg h, List.filter_cons, if_neg (by rw [decide_eq_false h]; exact Bool.false_ne_true)]; rfl
theorem firP_0 {ns : List Int} {f : Int} : firP ns f f = [] := by
  unfold firP
  rw [show (f - f).toNat = 0 from by omega]; rfl
/-- the numbers at the first places are the window's, each once -/
theorem firs_nums {ns : List Int} {f b : Int} (h0 : 0 ≤ f) (h1 : f ≤ b) (h2 : b ≤ ns.length) :
    ((firP ns f b).map fun p => ns.getD p.toNat 0).Nodup ∧ ∀ x, x ∈ (firP ns f b).map (fun p => ns.getD p.toNat 0) ↔ x ∈ (ns.drop f.toNat).take (b.toNat - f.toNat) := by
  have k : ∀ k : Nat, f + (k : Int) ≤ ns.length → ((firP ns f (f + k)).map fun p => ns.getD p.toNat 0).Nodup ∧ ∀ x, x ∈ (firP ns f (f + k)).map (fun p => ns.getD p.toNat 0) ↔ x ∈ (ns.drop f.toNat).take k := by
    intro k
    induction k with
    | zero =>
      intro _
      rw [show f + ((0 : Nat) : Int) = f from by omega, firP_0]
      exact ⟨List.nodup_nil, fun x => by simp⟩
    | succ k ih =>
      intro hk
      obtain ⟨i1, i2⟩ := ih (by omega)
      have hl := last_in (ns := ns) (f := f.toNat) (k := k) (by omega)
      have e1 : lastAt ns (f.toNat + k) (ns.getD (f.toNat + k) 0) = lp ns (f.toNat + k) := rfl
      rw [e1, show ((f.toNat : Nat) : Int) = f from by omega] at hl
      have e2 : (ns.drop f.toNat).take (k + 1) = (ns.drop f.toNat).take k ++ [ns.getD (f.toNat + k) 0] := by
        rw [List.take_add_one, List.getElem?_drop, get_of (by omega)]; rfl
      have e3 : f + ((k + 1 : Nat) : Int) = f + (k : Int) + 1 := by omega
      rw [e3, firP_s h0, e2, List.map_append]
      by_cases h : lp ns (f.toNat + k) < f
      · have hn : ns.getD (f.toNat + k) 0 ∉ (ns.drop f.toNat).take k := fun z => hl.mp z h
        rw [if_pos h]
        have e4 : [f + (k : Int)].map (fun p => ns.getD p.toNat 0) = [ns.getD (f.toNat + k) 0] := by
          show [ns.getD (f + (k : Int)).toNat 0] = _
          rw [show (f + (k : Int)).toNat = f.toNat + k from by omega]
        rw [e4]
        refine ⟨?_, fun x => by rw [List.mem_append, List.mem_append, i2]⟩
        rw [List.nodup_append]
        refine ⟨i1, List.nodup_cons.mpr ⟨List.not_mem_nil, List.nodup_nil⟩, fun x hx y hy z => ?_⟩
        rw [List.mem_singleton.mp hy] at z
        rw [z, i2] at hx
        exact hn hx
      · have hn := hl.mpr h
        rw [if_neg h]
        refine ⟨by simpa using i1, fun x => ?_⟩
        rw [List.map_nil, List.append_nil, i2, List.mem_append, List.mem_singleton]
        exact ⟨Or.inl, fun z => z.elim id fun z => z ▸ hn⟩
  have := k (b - f).toNat (by omega)
  rwa [show f + ((b - f).toNat : Int) = b from by omega, show (b - f).toNat = b.toNat - f.toNat from by omega] at this
theorem ulen_nodup {ms : List Int} (nd : ms.Nodup) : ulen ms = ms.length := (ulen_is nd fun _ => Iff.rfl).symm
/-- sorted, by ≤ and by < -/
theorem srt_eq {xs ys ms : List Int} (h1 : xs.Perm ms) (h2 : xs.Pairwise (· ≤ ·)) (nd : ms.Nodup) (h3 : ys.Pairwise (· < ·)) (h : ∀ x, x ∈ ys ↔ x ∈ ms) : xs = ys := by
  have p : xs.Perm ys := (List.perm_ext_iff_of_nodup (h1.nodup_iff.mpr nd) (h3.imp fun h => Int.ne_of_lt h)).mpr fun x => (h1.mem_iff).trans (h x).symm
  refine p.eq_of_pairwise (le := (· ≤ ·)) (fun a b _ _ h1 h2 => Int.le_antisymm h1 h2) h2 (h3.imp fun h => Int.le_of_lt h)
/-- the last places of the window, by the row from behind -/
theorem firP_back {ns : List Int} {f b : Int} (h0 : 0 ≤ f) (h1 : f ≤ b) (h2 : b ≤ ns.length) :
    ((firP ns.reverse ((ns.length : Int) - b) ((ns.length : Int) - f)).map fun x => (ns.length : Int) - 1 - x).reverse =
      ((List.range (b - f).toNat).filter fun (k : Nat) => !decide (ns.getD (f + (k : Int)).toNat 0 ∈ (ns.drop (f + (k : Int) + 1).toNat).take (b.toNat - (f + (k : Int) + 1).toNat))).map fun (k : Nat) => f + (k : Int) := by
  have hr : ns.reverse.length = ns.length := List.length_reverse
  unfold firP
  rw [show ((ns.length : Int) - f - ((ns.length : Int) - b)) = b - f from by omega, List.map_map, ← List.map_reverse, ← List.filter_reverse]
  have e0 : (List.range (b - f).toNat).reverse = (List.range (b - f).toNat).map fun i => (b - f).toNat - 1 - i := by
    refine List.ext_getElem (by simp) fun i h1 h2 => ?_
    simp
  rw [e0, List.filter_map, List.map_map]
  have e1 : (List.range (b - f).toNat).filter ((fun k => decide (lp ns.reverse (((ns.length : Int) - b).toNat + k) < (ns.length : Int) - b)) ∘ fun i => (b - f).toNat - 1 - i) =
      (List.range (b - f).toNat).filter fun (k : Nat) => !decide (ns.getD (f + (k : Int)).toNat 0 ∈ (ns.drop (f + (k : Int) + 1).toNat).take (b.toNat - (f + (k : Int) + 1).toNat)) := by
    refine List.filter_congr fun i hi => ?_
    rw [List.mem_range] at hi
    show decide (lp ns.reverse (((ns.length : Int) - b).toNat + ((b - f).toNat - 1 - i)) < (ns.length : Int) - b) = _
    have hl := last_in (ns := ns.reverse) (f := ((ns.length : Int) - b).toNat) (k := (b - f).toNat - 1 - i) (by omega)
    have e2 : ns.reverse.getD (((ns.length : Int) - b).toNat + ((b - f).toNat - 1 - i)) 0 = ns.getD (f + (i : Int)).toNat 0 := by
      rw [List.getD_eq_getElem?_getD, List.getElem?_reverse (by omega), List.getD_eq_getElem?_getD, show ns.length - 1 - (((ns.length : Int) - b).toNat + ((b - f).toNat - 1 - i)) = (f + (i : Int)).toNat from by omega]
    have e3 : (ns.reverse.drop ((ns.length : Int) - b).toNat).take ((b - f).toNat - 1 - i) = ((ns.drop (f + (i : Int) + 1).toNat).take (b.toNat - (f + (i : Int) + 1).toNat)).reverse := by
      rw [List.drop_reverse, List.take_reverse]
      congr 1
      rw [List.length_take, show ns.length - ((ns.length : Int) - b).toNat = b.toNat from by omega, Nat.min_eq_left (by omega), show b.toNat - ((b - f).toNat - 1 - i) = (f + (i : Int) + 1).toNat from by omega, List.drop_take]
    have e4 : lastAt ns.reverse (((ns.length : Int) - b).toNat + ((b - f).toNat - 1 - i)) (ns.reverse.getD (((ns.length : Int) - b).toNat + ((b - f).toNat - 1 - i)) 0) = lp ns.reverse (((ns.length : Int) - b).toNat + ((b - f).toNat - 1 - i)) := rfl
    rw [e4, e2, e3, List.mem_reverse, show ((((ns.length : Int) - b).toNat : Nat) : Int) = (ns.length : Int) - b from by omega] at hl
    by_cases h : ns.getD (f + (i : Int)).toNat 0 ∈ (ns.drop (f + (i : Int) + 1).toNat).take (b.toNat - (f + (i : Int) + 1).toNat)
    · rw [decide_eq_true h, decide_eq_false (hl.mp h)]; rfl
    · rw [decide_eq_false h, decide_eq_true (Decidable.of_not_not fun z => h (hl.mpr z))]; rfl
  rw [e1]
  refine List.map_congr_left fun i hi => ?_
  have hi2 := List.mem_range.mp (List.mem_filter.mp hi).1
  show (ns.length : Int) - 1 - ((ns.length : Int) - b + (((b - f).toNat - 1 - i : Nat) : Int)) = f + (i : Int)
  omega
theorem firP_more {ns : List Int} {f b x : Int} : ¬ (firP ns f b ++ [x] = firP ns f b) := fun h => by
  have := congrArg List.length h
  rw [List.length_append] at this
  have h1 : [x].length = 1 := rfl
  omega
theorem dec_comm {xs ys : List Int} : decide (xs = ys) = decide (ys = xs) := decide_eq_decide.mpr ⟨Eq.symm, Eq.symm⟩
end Ur

namespace Ur
open PySem PySem.Spec PyProof.Rows L2
/-- a op1 b op2 c op3 d op4 e, as a test -/
def tChain4 (r r' r'' r3 : R2) (ta tb tc td te : TE) : TT := fun σ H Q => ta σ H fun x H1 => tb σ H1 fun y H2 => r x y H2 fun z H3 => ∃ k, z = .bl k ∧
  (if k = true then tc σ H3 fun w' H4 => r' y w' H4 fun z2 H5 => ∃ k2, z2 = .bl k2 ∧ (if k2 = true then td σ H5 fun w2 H6 => r'' w' w2 H6 fun z3 H7 => ∃ k3, z3 = .bl k3 ∧
    (if k3 = true then te σ H7 fun w3 H8 => r3 w2 w3 H8 fun z4 H9 => ∃ k4, z4 = .bl k4 ∧ Q k4 H9 else Q false H7) else Q false H5) else Q false H3)
theorem pt_chain4 {X : Cx} {a b c d e : Expr} {pos : Pos} {ta tb tc td te : TE} {op op' op'' op3 : CmpOp} {r r' r'' r3 : R2} (ho : OpR X (compareOp op) r) (ho' : OpR X (compareOp op') r') (ho'' : OpR X (compareOp op'') r'') (ho3 : OpR X (compareOp op3) r3) (ha : PE X a ta) (hb : PE X b tb) (hc : PE X c tc) (hd : PE X d td) (he : PE X e te)
    (hm : lastMarks [op, op', op'', op3] [b, c, d, e] = false := by with_unfolding_all rfl) : PT X (.Compare a [op, op', op'', op3] [b, c, d, e] pos) (tChain4 r r' r'' r3 ta tb tc td te) := by
  refine ⟨fun pins s σ H Q I h => ?_⟩
  refine isTrue_chain (thn (ha.run pins s σ H _ I h) fun v s1 ⟨x, H1, I1, r1, q1⟩ => test_link (thn (hb.run pins s1 σ H1 _ I1 q1) fun u s2 ⟨y, H2, I2, r2, q2⟩ =>
    thn (ho pins s2 σ H2 x y v u _ I2 r1 r2 q2) fun d s3 ⟨z, H3, I3, r3, k, e, q3⟩ => ?_)) hm
  subst e
  cases r3
  refine wpAny_truthy_bool ?_
  cases k with
  | false => exact ite_ff ⟨H3, I3, q3⟩
  | true =>
    refine ite_tt (test_link (thn (hc.run pins s3 σ H3 _ I3 q3) fun w' s4 ⟨z', H4, I4, r4, q4⟩ => thn (ho' pins s4 σ H4 y z' u w' _ I4 r2 r4 q4) fun d' s5 ⟨z2, H5, I5, r5, k2, e2, q5⟩ => ?_))
    subst e2
    cases r5
    refine wpAny_truthy_bool ?_
    cases k2 with
    | false => exact ite_ff ⟨H5, I5, q5⟩
    | true =>
      refine ite_tt (test_link (thn (hd.run pins s5 σ H5 _ I5 q5) fun w2 s6 ⟨z6, H6, I6, r6, q6⟩ => thn (ho'' pins s6 σ H6 z' z6 w' w2 _ I6 r4 r6 q6) fun d3 s7 ⟨z7, H7, I7, r7, k3, e3, q7⟩ => ?_))
      subst e3
      cases r7
      refine wpAny_truthy_bool ?_
      cases k3 with
      | false => exact ite_ff ⟨H7, I7, q7⟩
      | true =>
        refine ite_tt (test_last (thn (he.run pins s7 σ H7 _ I7 q7) fun w3 s8 ⟨z8, H8, I8, r8, q8⟩ => thn (ho3 pins s8 σ H8 z6 z8 w2 w3 _ I8 r6 r8 q8) fun d4 s9 ⟨z9, H9, I9, r9, k4, e4, q9⟩ => ?_))
        subst e4
        cases r9
        exact wpAny_truthy_bool ⟨H9, I9, q9⟩
end Ur

namespace Ur
open PySem L2
/-! ### a stretch, told -/
theorem str_facts {ns : List Int} {m : Int} {q : Int × Int × Int} (hm : 0 ≤ m) (h : q ∈ strL ns m) :
    ∃ f e w : Nat, q = ((f : Int), (e : Int), (w : Int)) ∧ f < e ∧ e ≤ w ∧ w ≤ ns.length ∧ endAt ns f m = some e ∧ (wunN ns f e : Int) = m ∧ (wunN ns f (e - 1) : Int) = m - 1 ∧ (wunN ns f w : Int) = m ∧ (w = ns.length ∨ (wunN ns f (w + 1) : Int) = m + 1) := by
  obtain ⟨h0, f, e, hf, he, rfl⟩ := strL_mem h
  have hp := endAt_pos (by omega) (by omega) he
  obtain ⟨a1, a2, a3, a4⟩ := endAt_just (by omega) hm he
  have a5 := end_le_wi (by omega) hm he
  obtain ⟨b1, b2, b3⟩ := wi_spec (ns := ns) (m := m) (f := f) (by omega) hm
  obtain ⟨w, hw⟩ : ∃ w : Nat, wi ns m f = w := ⟨(wi ns m f).toNat, by omega⟩
  rw [hw] at a5 b1 b2 b3 ⊢
  have c1 := a4 (e - 1) (by omega) (by omega)
  have c2 := wunN_step (ns := ns) (f := f) (b := e - 1) (by omega) (by omega)
  rw [show e - 1 + 1 = e by omega] at c2
  have c3 : (wunN ns f w : Int) = m := by
    have k1 := (b3 w (by omega) (by omega)).mpr (Int.le_refl _)
    have k2 := wunN_monoB (ns := ns) (f := f) (k := w - e) (b := e) (by omega) (by omega)
    rw [show e + (w - e) = w by omega] at k2
    omega
  refine ⟨f, e, w, rfl, hp, by omega, by omega, he, a3, by omega, c3, ?_⟩
  by_cases hl : w = ns.length
  · exact .inl hl
  · have c4 := wunN_step (ns := ns) (f := f) (b := w) (by omega) (by omega)
    have c5 : ¬ (wunN ns f (w + 1) : Int) ≤ m := fun z => by
      have := (b3 (w + 1) (by omega) (by omega)).mp z
      omega
    exact .inr (by omega)
section
variable {K : PySem.W.Frag} {a : Addr} {σ : L2.St} {H1 : Hp} {Dl : Addr} {te : TE} {vs : List Nat} {Qd : Hp → Prop}
/-- [e for one in a list of tuples of three], each e an int -/
theorem lc_trips1 {j : Nat} {ls : List Addr} {ps : List (Int × Int × Int)} (f : Int × Int × Int → Int) (hn : ps.length ≤ 1000000) (ha : SqL K H1 a (ls.map V.ref)) (r : TripsF H1 ls ps) (hD : H1 Dl = none)
    (hw : ∀ x, wipe ((wipe σ vs).set j (some x)) vs = wipe σ vs)
    (he : ∀ (p : Addr) (q : Int × Int × Int) H', q ∈ ps → Same H1 H' → H' p = some (.tup [.int q.1, .int q.2.1, .int q.2.2]) → ∀ Q' : VK, (∀ H4, Same H' H4 → Q' (.int (f q)) H4) → te ((wipe σ vs).set j (some (.ref p))) H' Q')
    (hd : ∀ H', Same H1 H' → H' Dl = some (.lst ((ps.map f).map V.int)) → Qd H') :
    ∃ W : Nat → Nat → Hp → Prop, (∃ m, W 0 m (upd H1 Dl (.lst []))) ∧ ∀ i m H, W i m H →
      ((Itl K a).stop i H ∧ Qd H) ∨ ((Itl K a).go i H ∧ ∃ Nx : Hp → Prop, (∀ H', Nx H' → ∃ m', m' < m ∧ W (i + 1) m' H') ∧ ∀ x H', (Itl K a).yld i H x H' → gName j x (wipe σ vs) H' fun σ2 H2 => wipe σ2 vs = wipe σ vs ∧ tYes σ2 H2 fun b H3 =>
        if b = true then te σ2 H3 fun y H4 => ∃ acc, H4 Dl = some (.lst acc) ∧ acc.length < sizeLine ∧ Nx (upd H4 Dl (.lst (acc ++ [y]))) else Nx H3) := by
  refine lc_list (K := K) (a := a) (xs := ls.map V.ref) (fun i H' => Same H1 H' ∧ H' Dl = some (.lst (((ps.take i).map f).map V.int))) ⟨same_new hD, upd_same⟩ (fun i H' _ z => z.1.seq ha) (fun i x H' hx z => ?_) (fun H' z => ?_)
  · obtain ⟨s, eD⟩ := z
    rw [List.getElem?_map] at hx
    obtain ⟨p, hp, rfl⟩ := Option.map_eq_some_iff.mp hx
    obtain ⟨h2, hq, h3⟩ := TripsF.get r hp
    refine ⟨hw _, tyes_ok ?_⟩
    refine he p _ H' (List.mem_of_getElem? hq) s (s _ _ h3) _ fun H4 s4 => ⟨_, s4 _ _ eD, szl (by rw [List.length_map, List.length_map, List.length_take]; omega), same_upd' hD (s.trans s4), ?_⟩
    exact lst_cast upd_same (by rw [List.take_add_one, hq, List.map_append, List.map_append]; rfl)
  · obtain ⟨s, eD⟩ := z
    have hl := r.len
    rw [List.length_map, hl, List.take_length] at eD
    exact hd H' s eD
/-- [e for x, y, z in a list of tuples], each e an int -/
theorem lc_tripsI {j l k : Nat} {ls : List Addr} {ps : List (Int × Int × Int)} (f : Int × Int × Int → Int) (hn : ps.length ≤ 1000000) (ha : SqL K H1 a (ls.map V.ref)) (r : TripsF H1 ls ps) (hD : H1 Dl = none)
    (hw : ∀ x y z, wipe ((((wipe σ vs).set j (some x)).set l (some y)).set k (some z)) vs = wipe σ vs)
    (he : ∀ (q : Int × Int × Int) H', q ∈ ps → Same H1 H' → ∀ Q' : VK, (∀ H4, Same H' H4 → Q' (.int (f q)) H4) → te ((((wipe σ vs).set j (some (.int q.1))).set l (some (.int q.2.1))).set k (some (.int q.2.2))) H' Q')
    (hd : ∀ H', Same H1 H' → H' Dl = some (.lst ((ps.map f).map V.int)) → Qd H') :
    ∃ W : Nat → Nat → Hp → Prop, (∃ m, W 0 m (upd H1 Dl (.lst []))) ∧ ∀ i m H, W i m H →
      ((Itl K a).stop i H ∧ Qd H) ∨ ((Itl K a).go i H ∧ ∃ Nx : Hp → Prop, (∀ H', Nx H' → ∃ m', m' < m ∧ W (i + 1) m' H') ∧ ∀ x H', (Itl K a).yld i H x H' → gTup K 3 (gCons (gName j) (gCons (gName l) (gCons (gName k) gNil))) x (wipe σ vs) H' fun σ2 H2 => wipe σ2 vs = wipe σ vs ∧ tYes σ2 H2 fun b H3 =>
        if b = true then te σ2 H3 fun y H4 => ∃ acc, H4 Dl = some (.lst acc) ∧ acc.length < sizeLine ∧ Nx (upd H4 Dl (.lst (acc ++ [y]))) else Nx H3) := by
  refine lc_list (K := K) (a := a) (xs := ls.map V.ref) (fun i H' => Same H1 H' ∧ H' Dl = some (.lst (((ps.take i).map f).map V.int))) ⟨same_new hD, upd_same⟩ (fun i H' _ z => z.1.seq ha) (fun i x H' hx z => ?_) (fun H' z => ?_)
  · obtain ⟨s, eD⟩ := z
    rw [List.getElem?_map] at hx
    obtain ⟨p, hp, rfl⟩ := Option.map_eq_some_iff.mp hx
    obtain ⟨h2, hq, h3⟩ := TripsF.get r hp
    have e4 := s _ _ h3
    refine ⟨p, _, rfl, .of e4, rfl, _, _, rfl, _, _, rfl, _, _, rfl, rfl, hw _ _ _, tyes_ok ?_⟩
    refine he _ H' (List.mem_of_getElem? hq) s _ fun H4 s4 => ⟨_, s4 _ _ eD, szl (by rw [List.length_map, List.length_map, List.length_take]; omega), same_upd' hD (s.trans s4), ?_⟩
    exact lst_cast upd_same (by rw [List.take_add_one, hq, List.map_append, List.map_append]; rfl)
  · obtain ⟨s, eD⟩ := z
    have hl := r.len
    rw [List.length_map, hl, List.take_length] at eD
    exact hd H' s eD
end
/-- the first places stand in order -/
theorem strK_lt (ns : List Int) (m : Int) : ∀ k : Nat, ((strK ns m k).map fun q => q.1).Pairwise (· < ·) ∧ ∀ x ∈ ((strK ns m k).map fun q => q.1), x < (k : Int)
  | 0 => ⟨List.Pairwise.nil, fun x h => nomatch h⟩
  | k + 1 => by
    obtain ⟨h1, h2⟩ := strK_lt ns m k
    rw [strK_s, List.map_append]
    cases endAt ns k m with
    | none =>
      show ((strK ns m k).map (fun q : Int × Int × Int => q.1) ++ []).Pairwise (· < ·) ∧ _
      rw [List.append_nil]
      refine ⟨h1, fun x h => ?_⟩
      rcases List.mem_append.mp h with z | z
      · have := h2 x z; omega
      · cases z
    | some e =>
      show ((strK ns m k).map (fun q : Int × Int × Int => q.1) ++ [(k : Int)]).Pairwise (· < ·) ∧ _
      refine ⟨List.pairwise_append.mpr ⟨h1, List.pairwise_singleton _ _, fun x hx y hy => ?_⟩, fun x h => ?_⟩
      · rw [List.mem_singleton.mp hy]; exact h2 x hx
      · rcases List.mem_append.mp h with z | z
        · have := h2 x z; omega
        · have z2 : x ∈ [(k : Int)] := z
          rw [List.mem_singleton.mp z2]; omega
theorem strL_lt (ns : List Int) (m : Int) : ((strL ns m).map fun q => q.1).Pairwise (· < ·) := by
  unfold strL
  split
  · exact List.Pairwise.nil
  · exact (strK_lt ns m _).1
/-- a first place is among them just where there is an end -/
theorem strL_first {ns : List Int} {m : Int} {f : Nat} (hm : m ≠ 0) (hf : f < ns.length) : ((f : Int) ∈ (strL ns m).map fun q => q.1) ↔ endAt ns f m ≠ none := by
  rw [List.mem_map]
  constructor
  · rintro ⟨q, hq, e⟩
    obtain ⟨_, g, e2, hg, h2, rfl⟩ := strL_mem hq
    have hfg : g = f := by have : (g : Int) = f := e; omega
    subst hfg
    rw [h2]
    exact fun z => nomatch z
  · intro h
    cases h2 : endAt ns f m with
    | none => exact absurd h2 h
    | some e =>
      refine ⟨((f : Int), (e : Int), wi ns m f), ?_, rfl⟩
      unfold strL
      rw [if_neg hm]
      unfold strK
      rw [List.mem_filterMap]
      exact ⟨f, List.mem_range.mpr hf, by rw [h2]; rfl⟩
end Ur

namespace Ur
open PySem L2
/-! ### data in a list of data -/
theorem units65 {k : Nat} {A : Around} (hr : Room k A) : A.units + 65 < cLine := by
  have := Ur.units66 hr
  omega
end Ur

namespace Ur
open PySem PySem.Spec PyProof.Rows L2 LamX NdefX
/-! ### min(a, b, key=lambda x: ..), the key a tuple of numbers -/
theorem argsOk_minKey2 (a b v : Value) : argsOk "min" ⟨[a, b], [(Str.ofString "key", v)]⟩ := by unfold argsOk; kernel_rfl
section
variable {prog : Program} {w : World} {A : Around} {R : Result → Shared → Prop} {s : Shared} {It S T0 : Addr} {f : Value} {u1 u2 : Value}
/-- the first turn: the key of the first -/
theorem mk_pass1 {c : Nat} (hh : A.handled = none) (hne : T0 ≠ It) (hSI : S ≠ It) (hT : s.heap.IsTuple T0 #[u1, u2]) (hI : s.heap.IsTupleIter It T0 0) (hS : s.heap.get? S = some (seqObj "list" #[] c)) (hf : f ≠ .none)
    (h : ∀ h1 tk1, (∀ b o, b ∉ [It] → s.heap.get? b = some o → h1.get? b = some o) → h1.IsTupleIter It T0 1 → h1.IsTuple T0 #[u1, u2] →
      codeAny (model prog w) A.in1 (.call f ⟨[u1], []⟩) (fun r s' => ∃ kv, r = .ok (.ret kv) ∧ (∃ c, s'.heap.get? S = some (seqObj "list" #[] c)) ∧
        codeAny (model prog w) A (.builtin "min.loop" ⟨[.ref It, f, .ref S], []⟩) R { s' with heap := s'.heap.update S (Obj.mapSeq fun _ => #[u1, kv]) }) { s with heap := h1, toks := tk1 }) :
    codeAny (model prog w) A (.builtin "min.loop" ⟨[.ref It, f, .ref S], []⟩) R s := by
  have hname : (toString "min" ++ toString ".loop" : String) = "min.loop" := by decide
  have W := Walks.tuple (prog := prog) (w := w) (A := A.in1) hh It T0 hne #[u1, u2]
  refine codeAny_builtin PySem.F.entry_min_loop ?_
  rw [Around.under_plainId PySem.F.plain_min_loop _]
  show wpAny _ A.in1 (seqItems? (.ref S) >>= _) _ _ _
  refine wpAny_bind (wpAny_seqItems hS rfl ?_)
  show wpAny _ A.in1 (tryCatch (pyNext (.ref It)) _ >>= _) _ _ _
  refine wpAny_bind (wpAny_tryCatch (W.item 0 _ _ _ (by simp) ⟨hI, hT⟩ fun v h' tk' hP hst' hk' => ?_))
  have hv : v = u1 := by
    have z : some u1 = some v := hP
    cases z
    rfl
  subst hv
  cases f with
  | none => exact absurd rfl hf
  | _ =>
    show wpAny _ A.in1 (tryCatch (holding [v] (call _ [v])) _ >>= _) _ _ _
    refine wpAny_bind (wpAny_tryCatch (wpAny_holding (wpAny_call (codeAny_mono (h h' tk' hk' hst'.1 hst'.2) fun r s' hr => ?_))))
    obtain ⟨kv, rfl, ⟨c2, hc2⟩, hq⟩ := hr
    show wpAny _ A.in1 (updateSeq S (fun _ => #[v, kv]) >>= _) _ _ _
    refine wpAny_bind (wpAny_updateSeq hc2 rfl ?_)
    rw [hname]
    exact wpAny_pure ⟨plainId_quiet PySem.F.plain_min_loop _, hq⟩
/-- the second: the key of the second, less or not -/
theorem mk_pass2 {c : Nat} {ua ka : Value} (hh : A.handled = none) (hne : T0 ≠ It) (hSI : S ≠ It) (hT : s.heap.IsTuple T0 #[u1, u2]) (hI : s.heap.IsTupleIter It T0 1) (hS : s.heap.get? S = some (seqObj "list" #[ua, ka] c)) (hf : f ≠ .none)
    (h : ∀ h1 tk1, (∀ b o, b ∉ [It] → s.heap.get? b = some o → h1.get? b = some o) → h1.IsTupleIter It T0 2 → h1.IsTuple T0 #[u1, u2] →
      codeAny (model prog w) A.in1 (.call f ⟨[u2], []⟩) (fun r s' => ∃ kv, r = .ok (.ret kv) ∧ (∃ c, s'.heap.get? S = some (seqObj "list" #[ua, ka] c)) ∧ ∃ b : Bool,
        (∀ (Q E : Value → Shared → Prop), Q (.bool b) s' → wpAny (model prog w) A.in1 (richCompare .Lt kv ka) Q E s') ∧
        (b = true → codeAny (model prog w) A (.builtin "min.loop" ⟨[.ref It, f, .ref S], []⟩) R { s' with heap := s'.heap.update S (Obj.mapSeq fun _ => #[u2, kv]) }) ∧
        (b = false → codeAny (model prog w) A (.builtin "min.loop" ⟨[.ref It, f, .ref S], []⟩) R s')) { s with heap := h1, toks := tk1 }) :
    codeAny (model prog w) A (.builtin "min.loop" ⟨[.ref It, f, .ref S], []⟩) R s := by
  have hname : (toString "min" ++ toString ".loop" : String) = "min.loop" := by decide
  have W := Walks.tuple (prog := prog) (w := w) (A := A.in1) hh It T0 hne #[u1, u2]
  refine codeAny_builtin PySem.F.entry_min_loop ?_
  rw [Around.under_plainId PySem.F.plain_min_loop _]
  show wpAny _ A.in1 (seqItems? (.ref S) >>= _) _ _ _
  refine wpAny_bind (wpAny_seqItems hS rfl ?_)
  show wpAny _ A.in1 (tryCatch (pyNext (.ref It)) _ >>= _) _ _ _
  refine wpAny_bind (wpAny_tryCatch (W.item 1 _ _ _ (by simp) ⟨hI, hT⟩ fun v h' tk' hP hst' hk' => ?_))
  have hv : v = u2 := by
    have z : some u2 = some v := hP
    cases z
    rfl
  subst hv
  cases f with
  | none => exact absurd rfl hf
  | _ =>
    show wpAny _ A.in1 (tryCatch (holding [v] (call _ [v])) _ >>= _) _ _ _
    refine wpAny_bind (wpAny_tryCatch (wpAny_holding (wpAny_call (codeAny_mono (h h' tk' hk' hst'.1 hst'.2) fun r s' hr => ?_))))
    obtain ⟨kv, rfl, ⟨c2, hc2⟩, b, hcmp, h1, h2⟩ := hr
    show wpAny _ A.in1 (tryCatch (holding [v, kv] (richCompare .Lt kv ka >>= _)) _ >>= _) _ _ _
    refine wpAny_bind (wpAny_tryCatch (wpAny_holding (wpAny_bind (hcmp _ _ ?_))))
    refine wpAny_bind (wpAny_holding (wpAny_truthy_bool ?_))
    refine wpAny_bind (wpAny_letGo (wpAny_pure ?_))
    cases b with
    | true =>
      simp only [if_true]
      refine wpAny_bind ?_
      refine wpAny_updateSeq hc2 rfl (wpAny_bind (wpAny_letGo ?_))
      rw [hname]
      exact wpAny_pure ⟨plainId_quiet PySem.F.plain_min_loop _, h1 rfl⟩
    | false =>
      simp only [Bool.false_eq_true, if_false]
      refine wpAny_bind (wpAny_letGo ?_)
      rw [hname]
      exact wpAny_pure ⟨plainId_quiet PySem.F.plain_min_loop _, h2 rfl⟩
/-- the end -/
theorem mk_pass3 {c : Nat} {ua ka : Value} (hh : A.handled = none) (hne : T0 ≠ It) (hSI : S ≠ It) (hT : s.heap.IsTuple T0 #[u1, u2]) (hI : s.heap.IsTupleIter It T0 2) (hS : s.heap.get? S = some (seqObj "list" #[ua, ka] c))
    (h : ∀ h1 tk1, (∀ b o, b ∉ [It, S] → s.heap.get? b = some o → h1.get? b = some o) → R (.ok (.ret ua)) { s with heap := h1, toks := tk1 }) :
    codeAny (model prog w) A (.builtin "min.loop" ⟨[.ref It, f, .ref S], []⟩) R s := by
  have W := Walks.tuple (prog := prog) (w := w) (A := A.in1) hh It T0 hne #[u1, u2]
  refine codeAny_builtin PySem.F.entry_min_loop ?_
  rw [Around.under_plainId PySem.F.plain_min_loop _]
  show wpAny _ A.in1 (seqItems? (.ref S) >>= _) _ _ _
  refine wpAny_bind (wpAny_seqItems hS rfl ?_)
  show wpAny _ A.in1 (tryCatch (pyNext (.ref It)) _ >>= _) _ _ _
  refine wpAny_bind (wpAny_tryCatch (W.done _ _ _ ⟨hI, hT⟩ fun h' tk' hk' => ?_))
  have hS' := hk' S _ (by simpa using hSI) hS
  have s1 := Heap.SameBut.update h' S (Obj.mapSeq fun _ => (#[] : Array Value))
  show wpAny _ A.in1 (updateSeq S (fun _ => #[]) >>= _) _ _ _
  refine wpAny_bind ?_
  refine wpAny_updateSeq hS' rfl (wpAny_bind (wpAny_letGo (wpAny_pure ?_)))
  refine h _ _ fun b o hb e => ?_
  simp only [List.mem_cons, List.not_mem_nil, or_false, not_or] at hb
  exact (s1.2 b hb.2).trans (hk' b o (by simpa using hb.1) e)
end
abbrev lamG (q : Str) (params : Arguments) (scope : Scope) (c' : Addr) : NF := ⟨"<lambda>", q, params, [], scope, [], c'⟩
section
variable {P : Program} {w : World} {K : PySem.W.Frag} {mg : Str → Option Value} {base : Heap} {k : Nat}
/-- the key's call -/
theorem key_call {N ps : List Str} {q : Str} {params : Arguments} {body : Expr} {scope : Scope} {pm ctv : Value} {f c' : Addr} {tb : TE} {A : Around} {outer : List Env} {s : Shared} {H : Hp} {u : Value} {v : V} {Q : VK}
    (S : NScope N ps [] scope) (hp : ps.length = 1) (hbind : ∀ us : List Value, us.length = ps.length → bindArgs (PySem.W.kla_fn "<lambda>" q params body scope [] pm (.ref c') ctv) ⟨us, []⟩ = pure (ps.zip us))
    (e0 : Env0 P w K mg base A outer s H) (hr : Room (k + 1) A) (hf : s.heap.get? f = some (PySem.W.kla_obj "<lambda>" q params body scope [] pm c' ctv)) (hc : H c' = some (CodeO c' q)) (rv : RelV v u)
    (hbody : Room k (A.deeper (envF (lamG q params scope c') f s.heap.objs.size)) → PE (ncx CX0 P w K mg base N (lamG q params scope c') f A outer s H E0) body tb)
    (ht : tb (startF N [v] []) H Q) : codeAny (model P w) A (.call (.ref f) ⟨[u], []⟩) (CR CX0 outer P w H s Q E0) s := by
  have lim : s.heap.NoLimit := e0.mod.nolimit.keeps fun b o e => (e0.bs b o e).1
  have CZ : CellsAt [] [] [] s.heap H := ⟨rfl, (fun y c e => nomatch e), (fun a b c h1 h2 => nomatch h1), (fun i y e => nomatch e)⟩
  refine PySem.W.kla_callFunE hr.depth hf rfl S.co S.gen rfl (codeO_at e0.hok hc) ?_
  rw [hbind [u] (by rw [hp] <;> rfl)]
  refine wpAny_pure (wpAny_newFunctionEnv S.nocell (fun ⟨n, _⟩ hy => S.par n (List.of_mem_zip hy).1) (fun h₁ hns hsb => ⟨lim.fresh _ hsb, ?_⟩) S.kind)
  show codeAny _ _ (.expr body (envF (lamG q params scope c') f s.heap.objs.size)) _ _
  have kp : ∀ b o, s.heap.get? b = some o → h₁.get? b = some o := fun b o e => hsb.extBut b o (Nat.ne_of_lt (Heap.lt_size e)) (Heap.get?_push_of_some _ e)
  have I : Inv (ncx CX0 P w K mg base N (lamG q params scope c') f A outer s H E0) [] (startF N [v] []) H { s with heap := h₁, toks := s.toks + (ps.zip [u]).length } :=
    inv_startN (F := lamG q params scope c') S hr.hd e0 (by rw [hp] <;> rfl) (.cons rv .nil) CZ hns kp
  refine PySem.W.kla_codeExpr (wpAny_mono ((hbody (hr.deeper _)).run [] _ _ _ Q I ht) (fun v s' hq => ?_) fun e s' hq => hq)
  obtain ⟨w', H', J', rv, q⟩ := hq
  exact ⟨w', H', J'.os, J'.bare, J'.base, J'.hok, rv, q⟩
end
/-- a word that the search does not open -/
structure Lk (p : Prop) : Prop where
  out : p
/-- min(a, b, key=lambda x: body): the lambda reads its parameter alone; its keys are tuples of ints -/
def tMinLam (T : List (Addr × Str)) (N : List Str) (tb : TE) (t : TA) : TE := fun σ H Q => t σ H fun vs H2 => Lk (Tabs T H2 ∧ ∃ v1 v2, vs = [v1, v2] ∧ ∀ H3, ExtN H2 H3 → Tabs T H3 → ∃ k1 k2 : List Int,
  tb (startF N [v1] []) H3 fun kv H4 => Lk (Same H3 H4 ∧ ∃ p1, kv = .ref p1 ∧ H4 p1 = some (.tup (k1.map V.int)) ∧
    tb (startF N [v2] []) H4 fun kv2 H5 => Lk (Same H4 H5 ∧ ∃ p2, kv2 = .ref p2 ∧ H5 p2 = some (.tup (k2.map V.int)) ∧ Q (if HT.lexLt k2 k1 then v2 else v1) H5)))
theorem pe_minLam {X : Cx} {T : List (Addr × Str)} {c P : Addr} {k : Nat} {params : Arguments} {body e : Expr} {es : List Expr} {scope : Scope} {t : TA} {tb : TE} {p lpos pos kpos : Pos} {N ps : List Str}
    (hc : X.calm = true) (hr : Room (k + 2) X.A) (hg : Gl X "min") (hm : X.mg "min" = none) (ha : PA X (e :: es) t)
    (TB : TabB X.base X.mg c P) (hcode : X.env.code = .ref c) (hmT : (P, X.env.qual ++ "<lambda>") ∈ T) (hu : ∀ p ∈ T, p.1 = P → p.2 = X.env.qual ++ "<lambda>") (S : NScope N ps [] scope) (hp : ps.length = 1) (hdef : defaultsOf params X.env = ([], []))
    (hbind : ∀ (q : Str) (pm cv ctv : Value) (us : List Value), us.length = ps.length → bindArgs (PySem.W.kla_fn "<lambda>" q params body scope [] pm cv ctv) ⟨us, []⟩ = pure (ps.zip us))
    (hcl : cloFrom X.env.cells scope.names [] = [])
    (hbody : ∀ (A : Around) (outer : List Env) (s : Shared) (H : Hp) (f c' : Addr), Room k (A.deeper (envF (lamG (X.env.qual ++ "<lambda>") params scope c') f s.heap.objs.size)) →
      PE (ncx CX0 X.prog X.w X.K X.mg X.base N (lamG (X.env.qual ++ "<lambda>") params scope c') f A outer s H E0) body tb)
    (he : backTo pos (starEach (e :: es) X.env) = (false, eval e X.env) :: backTo pos (starEach es X.env) := by rfl) (hpl : (backTo pos (starEach (e :: es) X.env)).any (·.1) = false := by rfl) :
    PE X (.Call (.Name "min" p) (e :: es) [⟨some "key", .Lambda params body scope lpos, kpos⟩] pos) (tMinLam T N tb t) := by
  refine ⟨fun pins s σ H Q I h => ?_⟩
  refine wpAny_Call_Name_kw (ld_blt I hg hm (u := .builtin "min") (by first | rfl | decide +kernel) ?_ (by first | decide +kernel | decide) (by first | decide +kernel | decide))
  refine PyProof.Rows.callWith_kw (thn (ha.run pos pins s σ H _ I h) fun us s1 ⟨vs, H1, I1, r1, q0⟩ => ?_) he hpl rfl rfl
  obtain ⟨hT, v1, v2, ev, q1⟩ := q0.out
  clear q0
  subst ev
  obtain ⟨u1, u2, rfl, ru1, ru2⟩ := vals2 r1
  show wpAny _ _ (evalAll ((do let v ← eval (.Lambda params body scope lpos) X.env; standAt pos; pure v) :: [])) _ _ s1
  have hfree : ∀ y ∈ scope.names, y.2 = .free → ∃ c, X.env.cells.lookup y.1 = some c := fun y hy e => absurd (S.free y hy e) (by simp)
  refine wpAny_evalAll_cons (wpAny_bind (lam_make2 I1 TB hcode hmT hu hT hdef hfree fun f c' pm' ctv H3 s2 I2 eN T1 hf hfn hff hco => wpAny_bind (wpAny_standAt (wpAny_pure (wpAny_evalAll_nil ?_)))))
  rw [hcl] at hf
  obtain ⟨k1, k2, q2⟩ := q1 H3 eN T1
  clear q1
  show wpAny _ X.A (call (.builtin "min") [u1, u2] [(Str.ofString "key", .ref f)]) _ _ s2
  have hname : (toString "min" ++ toString ".loop" : String) = "min.loop" := by decide
  have hh : X.A.handled = none := I.ok.hd hc
  have nofr : ∀ b, s2.heap.objs.size ≤ b → b ∉ frs X.stack := fun b hb z => by
    rcases List.mem_cons.mp (I2.stkSub _ z) with e | e
    · have h1 := I2.lt
      rw [← e] at h1
      exact Nat.lt_irrefl _ (Nat.lt_of_lt_of_le h1 hb)
    · exact I2.nofs hb e
  refine kmk_tree PySem.F.kind_min PySem.F.plain_min PySem.F.entry_min (argsOk_minKey2 _ _ _) ?_
  show wpAny _ X.A.in1 (Builtin.Builtins.bindParams "min" ["key", "default"] 0 ⟨[], [(Str.ofString "key", .ref f)]⟩ >>= _) _ _ s2
  refine wpAny_bind (wpAny_of_eq (show Builtin.Builtins.bindParams "min" ["key", "default"] 0 ⟨[], [(Str.ofString "key", .ref f)]⟩ = pure [some (.ref f), none] from rfl) ?_)
  show wpAny _ X.A.in1 (newTuple [u1, u2] >>= _) _ _ s2
  refine wpAny_bind (wpAny_newTuple ?_)
  have hT0 : (s2.heap.push { cls := .type "tuple", data := .seq [u1, u2].toArray }).IsTuple s2.heap.objs.size #[u1, u2] := ⟨_, Heap.get?_push_size _ rfl, rfl, 0, rfl⟩
  refine wpAny_bind (wpAny_pyIter_tuple hT0 ?_)
  refine wpAny_bind (wpAny_newList ?_ (Nat.zero_le _))
  rw [hname]
  refine wpAny_pure ⟨plainId_quiet PySem.F.plain_min_loop _, ?_⟩
  have z1 : (s2.heap.push { cls := .type "tuple", data := .seq [u1, u2].toArray }).objs.size = s2.heap.objs.size + 1 := Heap.size_push ..
  have z2 : ((s2.heap.push { cls := .type "tuple", data := .seq [u1, u2].toArray }).push { cls := .type "tuple_iterator", data := .fields #[.ref s2.heap.objs.size, .int 0 0] }).objs.size = s2.heap.objs.size + 2 := by rw [Heap.size_push, z1]
  have gI : (((s2.heap.push { cls := .type "tuple", data := .seq [u1, u2].toArray }).push { cls := .type "tuple_iterator", data := .fields #[.ref s2.heap.objs.size, .int 0 0] }).push (seqObj "list" #[] 0)).IsTupleIter (s2.heap.push { cls := .type "tuple", data := .seq [u1, u2].toArray }).objs.size s2.heap.objs.size 0 :=
    ⟨_, Heap.get?_push_of_some _ (Heap.get?_push_size _ rfl), rfl, rfl⟩
  have gS : (((s2.heap.push { cls := .type "tuple", data := .seq [u1, u2].toArray }).push { cls := .type "tuple_iterator", data := .fields #[.ref s2.heap.objs.size, .int 0 0] }).push (seqObj "list" #[] 0)).get? ((s2.heap.push { cls := .type "tuple", data := .seq [u1, u2].toArray }).push { cls := .type "tuple_iterator", data := .fields #[.ref s2.heap.objs.size, .int 0 0] }).objs.size = some (seqObj "list" #[] 0) := Heap.get?_push_size _ rfl
  have gT : (((s2.heap.push { cls := .type "tuple", data := .seq [u1, u2].toArray }).push { cls := .type "tuple_iterator", data := .fields #[.ref s2.heap.objs.size, .int 0 0] }).push (seqObj "list" #[] 0)).IsTuple s2.heap.objs.size #[u1, u2] := (hT0.push _).push _
  have kp3 : ∀ b o, s2.heap.get? b = some o → (((s2.heap.push { cls := .type "tuple", data := .seq [u1, u2].toArray }).push { cls := .type "tuple_iterator", data := .fields #[.ref s2.heap.objs.size, .int 0 0] }).push (seqObj "list" #[] 0)).get? b = some o := fun b o e => Heap.get?_push_of_some _ (Heap.get?_push_of_some _ (Heap.get?_push_of_some _ e))
  have nT : s2.heap.objs.size ≠ (s2.heap.push { cls := .type "tuple", data := .seq [u1, u2].toArray }).objs.size := by rw [z1]; exact Nat.ne_of_lt (Nat.lt_succ_self _)
  have nS : ((s2.heap.push { cls := .type "tuple", data := .seq [u1, u2].toArray }).push { cls := .type "tuple_iterator", data := .fields #[.ref s2.heap.objs.size, .int 0 0] }).objs.size ≠ (s2.heap.push { cls := .type "tuple", data := .seq [u1, u2].toArray }).objs.size := by rw [z2, z1]; exact Nat.ne_of_gt (Nat.lt_succ_self _)
  have nST : ((s2.heap.push { cls := .type "tuple", data := .seq [u1, u2].toArray }).push { cls := .type "tuple_iterator", data := .fields #[.ref s2.heap.objs.size, .int 0 0] }).objs.size ≠ s2.heap.objs.size := by rw [z2]; exact Nat.ne_of_gt (Nat.lt_add_of_pos_right (by decide))
  have gIt : s2.heap.objs.size ≤ (s2.heap.push { cls := .type "tuple", data := .seq [u1, u2].toArray }).objs.size := by rw [z1]; exact Nat.le_succ _
  have gSt : s2.heap.objs.size ≤ ((s2.heap.push { cls := .type "tuple", data := .seq [u1, u2].toArray }).push { cls := .type "tuple_iterator", data := .fields #[.ref s2.heap.objs.size, .int 0 0] }).objs.size := by rw [z2]; exact Nat.le_add_right _ _
  generalize ((s2.heap.push { cls := .type "tuple", data := .seq [u1, u2].toArray }).push { cls := .type "tuple_iterator", data := .fields #[.ref s2.heap.objs.size, .int 0 0] }).objs.size = AS at *
  generalize (((s2.heap.push { cls := .type "tuple", data := .seq [u1, u2].toArray }).push { cls := .type "tuple_iterator", data := .fields #[.ref s2.heap.objs.size, .int 0 0] }).push (seqObj "list" #[] 0)) = h3 at *
  generalize (s2.heap.push { cls := .type "tuple", data := .seq [u1, u2].toArray }).objs.size = AI at *
  have nfr : ∀ b, s2.heap.objs.size ≤ b → b ∉ frs X.stack := nofr
  have fT := I2.hok.fresh (Nat.le_refl s2.heap.objs.size)
  have fI := I2.hok.fresh gIt
  have fS := I2.hok.fresh gSt
  have pI := I2.fpOk gIt fI
  have pS := I2.fpOk gSt fS
  have I3 : Inv X pins σ H3 { s2 with heap := h3, toks := s2.toks } := I2.kept kp3
  have f3 := kp3 _ _ hf
  refine mk_pass1 hh nT nS gT gI gS (by simp) fun h4 tk4 kp4 gI4 gT4 => ?_
  have I4 : Inv X pins σ H3 { s2 with heap := h4, toks := tk4 } := I3.turnedL kp4 fun b hb => by rw [List.mem_singleton.mp hb]; exact pI
  have ltf : ∀ b, b = f → b < s2.heap.objs.size := fun b e => by rw [e]; exact Heap.lt_size hf
  have nfI : f ≠ AI := Nat.ne_of_lt (Nat.lt_of_lt_of_le (ltf f rfl) gIt)
  have nfS : f ≠ AS := Nat.ne_of_lt (Nat.lt_of_lt_of_le (ltf f rfl) gSt)
  have f4 := kp4 _ _ (by simpa using nfI) f3
  have gS4 := kp4 _ _ (by simpa using nS) gS
  have hr1 : Room (k + 1) X.A.in1 := hr.in1
  have uS : X.A.in1.units < cLine := by have := hr1.un; omega
  refine codeAny_mono (key_call S hp (hbind _ _ _ _) I4.env0.in1 hr1 f4 hco ru1 (hbody X.A.in1 X.stack _ H3 f c') q2) fun r s5 hq => ?_
  clear q2
  cases r with
  | error e => exact hq.elim
  | ok fl =>
    cases fl with
    | next => exact False.elim hq
    | brk => exact False.elim hq
    | cont => exact False.elim hq
    | ret kv =>
      obtain ⟨w1, H5, hos, hba, un, hok, rv, lk⟩ := hq
      obtain ⟨sm5, p1, ew1, e1, q3⟩ := lk.out
      clear lk
      subst ew1
      have ekv : kv = Value.ref p1 := rv
      subst ekv
      have I5 : Inv X pins σ H5 s5 := I4.call' hos un hok hba (fun b hb => absurd hb (by simp))
      have gS5 := un.keep AS _ gS4 fS (nfr _ gSt) (by simp)
      refine ⟨_, rfl, ⟨_, gS5⟩, ?_⟩
      obtain ⟨oT, oT1, oT2⟩ := gT4
      have gT5 : s5.heap.IsTuple s2.heap.objs.size #[u1, u2] := ⟨oT, un.keep _ _ oT1 fT (nfr _ (Nat.le_refl _)) (by simp), oT2⟩
      obtain ⟨oI, oI1, oI2⟩ := gI4
      have gI5 : s5.heap.IsTupleIter AI s2.heap.objs.size 1 := ⟨oI, un.keep _ _ oI1 fI (nfr _ gIt) (by simp), oI2⟩
      have f5 := un.keep _ _ f4 hfn hff (by simp)
      have fI5 : H5 AI = none := un.free _ _ oI1 fI (by simp)
      have fS5 : H5 AS = none := un.free _ _ gS4 fS (by simp)
      have fT5 : H5 s2.heap.objs.size = none := un.free _ _ oT1 fT (by simp)
      have hfn5 : H5 f = none := un.free _ _ f4 hfn (by simp)
      have sb := Heap.SameBut.update s5.heap AS (Obj.mapSeq fun _ => #[u1, Value.ref p1])
      have gS6 := get?_update_seq gS5 fun _ => #[u1, Value.ref p1]
      have I6 : Inv X pins σ H5 { s5 with heap := s5.heap.update AS (Obj.mapSeq fun _ => #[u1, Value.ref p1]), toks := s5.toks } := I5.turnedL (ch := [AS]) (fun b o hb e => (sb.2 b (by simpa using hb)).trans e) fun b hb => by rw [List.mem_singleton.mp hb]; exact I2.fpOk gSt fS5
      have f6 := (sb.2 f nfS).trans f5
      have gT6 : (s5.heap.update AS (Obj.mapSeq fun _ => #[u1, Value.ref p1])).IsTuple s2.heap.objs.size #[u1, u2] := by
        obtain ⟨oT, oT1, oT2⟩ := gT5
        exact ⟨oT, (sb.2 _ nST.symm).trans oT1, oT2⟩
      have gI6 : (s5.heap.update AS (Obj.mapSeq fun _ => #[u1, Value.ref p1])).IsTupleIter AI s2.heap.objs.size 1 := by
        obtain ⟨oI, oI1, oI2⟩ := gI5
        exact ⟨oI, (sb.2 _ nS.symm).trans oI1, oI2⟩
      generalize s5.heap.update AS (Obj.mapSeq fun _ => #[u1, Value.ref p1]) = h6 at *
      refine mk_pass2 (s := { s5 with heap := h6 }) hh nT nS gT6 gI6 gS6 (by simp) fun h7 tk7 kp7 gI7 gT7 => ?_
      have I7 : Inv X pins σ H5 { s5 with heap := h7, toks := tk7 } := Inv.turnedL (s := { s5 with heap := h6 }) (ch := [AI]) I6 kp7 fun b hb => by rw [List.mem_singleton.mp hb]; exact I2.fpOk gIt fI5
      have f7 := kp7 _ _ (by simpa using nfI) f6
      have gS7 := kp7 _ _ (by simpa using nS) gS6
      refine codeAny_mono (key_call S hp (hbind _ _ _ _) I7.env0.in1 hr1 f7 (sm5 _ _ hco) ru2 (hbody X.A.in1 X.stack _ H5 f c') q3) fun r s8 hq => ?_
      clear q3
      cases r with
      | error e => exact hq.elim
      | ok fl =>
        cases fl with
        | next => exact False.elim hq
        | brk => exact False.elim hq
        | cont => exact False.elim hq
        | ret kv =>
          obtain ⟨w2, H8, hos2, hba2, un2, hok2, rv2, lk⟩ := hq
          obtain ⟨sm8, p2, ew2, e2, q4⟩ := lk.out
          clear lk
          subst ew2
          have ekv : kv = Value.ref p2 := rv2
          subst ekv
          have I8 : Inv X pins σ H8 s8 := I7.call' hos2 un2 hok2 hba2 (fun b hb => absurd hb (by simp))
          have gS8 := un2.keep AS _ gS7 fS5 (nfr _ gSt) (by simp)
          obtain ⟨oT, oT1, oT2⟩ := gT7
          have gT8 : s8.heap.IsTuple s2.heap.objs.size #[u1, u2] := ⟨oT, un2.keep _ _ oT1 fT5 (nfr _ (Nat.le_refl _)) (by simp), oT2⟩
          obtain ⟨oI, oI1, oI2⟩ := gI7
          have gI8 : s8.heap.IsTupleIter AI s2.heap.objs.size 2 := ⟨oI, un2.keep _ _ oI1 fI5 (nfr _ gIt) (by simp), oI2⟩
          have fI8 : H8 AI = none := un2.free _ _ oI1 fI5 (by simp)
          have fS8 : H8 AS = none := un2.free _ _ gS7 fS5 (by simp)
          obtain ⟨its1, rv1, tp1, _⟩ := I8.tuple (.inl (.inl (sm8 _ _ e1)))
          obtain ⟨its2, rv2, tp2, _⟩ := I8.tuple (.inl (.inl e2))
          refine ⟨_, rfl, ⟨_, gS8⟩, HT.lexLt k2 k1, fun Q E hQ => ?_, fun hb => ?_, fun hb => ?_⟩
          · exact (HT.lt_tupInts tp2 tp1 (Vals.ints rv2) (Vals.ints rv1) uS hQ : wpAny _ _ (compareOp .Lt (.ref p2) (.ref p1)) _ _ _)
          · rw [hb] at q4
            have sb8 := Heap.SameBut.update s8.heap AS (Obj.mapSeq fun _ => #[u2, Value.ref p2])
            have gS9 := get?_update_seq gS8 fun _ => #[u2, Value.ref p2]
            have gT9 : (s8.heap.update AS (Obj.mapSeq fun _ => #[u2, Value.ref p2])).IsTuple s2.heap.objs.size #[u1, u2] := by
              obtain ⟨oT, oT1, oT2⟩ := gT8
              exact ⟨oT, (sb8.2 _ nST.symm).trans oT1, oT2⟩
            have gI9 : (s8.heap.update AS (Obj.mapSeq fun _ => #[u2, Value.ref p2])).IsTupleIter AI s2.heap.objs.size 2 := by
              obtain ⟨oI, oI1, oI2⟩ := gI8
              exact ⟨oI, (sb8.2 _ nS.symm).trans oI1, oI2⟩
            refine mk_pass3 (s := { s8 with heap := s8.heap.update AS (Obj.mapSeq fun _ => #[u2, Value.ref p2]) }) hh nT nS gT9 gI9 gS9 fun h9 tk9 kp9 => ?_
            have I9 : Inv X pins σ H8 { s8 with heap := h9, toks := tk9 } := I8.turnedL (ch := [AI, AS]) (fun b o hb e => kp9 b o hb ((sb8.2 b (fun z => hb (by rw [z]; simp))).trans e)) fun b hb => by
              rcases List.mem_cons.mp hb with z | z
              · rw [z]; exact I2.fpOk gIt fI8
              · rw [List.mem_singleton.mp z]; exact I2.fpOk gSt fS8
            exact ⟨v2, H8, I9, ru2, q4⟩
          · rw [hb] at q4
            refine mk_pass3 (s := s8) hh nT nS gT8 gI8 gS8 fun h9 tk9 kp9 => ?_
            refine ⟨v1, H8, ?_, ru1, q4⟩
            refine (I8.turnedL (ch := [AI, AS]) (h' := h9) (t' := tk9) kp9 fun b hb => ?_)
            rcases List.mem_cons.mp hb with z | z
            · rw [z]; exact I2.fpOk gIt fI8
            · rw [List.mem_singleton.mp z]; exact I2.fpOk gSt fS8
/-! ### a def that makes the lambda -/
structure MkD (K : PySem.W.Frag) (mg : Str → Option Value) (base : Heap) (f : Addr) (fd : FuncData) (x qual : Str) (st : Stmt) (cc Pt : Addr) : Prop where
  ex : ∃ (oc kV doc pm ct : Value) (od an : Option Addr) (sl : Array (Option Value)), K.lookup f = some ⟨oc, od, .func fd, sl⟩ ∧ fd = PySem.W.fnOf x qual (defArgs st) (defBody st) (defScope st) .none kV doc pm an (.ref cc) ct
  cd : PySem.W.codeIn K (.ref cc) qual = true
  tb : TabB base mg cc Pt
theorem MkD.ok {P : Program} {w : World} {K : PySem.W.Frag} {mg : Str → Option Value} {base : Heap} {x qual : Str} {st : Stmt} {f : Addr} {fd : FuncData} {cc Pt : Addr} {N ps : List Str} {k : Nat} {sp : Sp} (M : MkD K mg base f fd x qual st cc Pt)
    (S : FnScope N ps (defScope st)) (len : ∀ vs H Q E, sp vs H Q E → vs.length = ps.length)
    (hbody : ∀ (A : Around) (outer : List Env) (s : Shared) (H : Hp) (vs : List V) (Q : VK) (E : XK), Room k (A.deeper (envOfC qual (defScope st) s.heap.objs.size f (.ref cc))) → sp vs H Q E →
      ∃ t, PSs (cxOf CX0 P w K mg base N qual (defScope st) f (.ref cc) A outer s H E).nox (defBody st) t ∧ t { nx := fun _ H' => Q .non H', rt := Q } (start N vs) H) : FnOk P w K mg base CX0 (k + 1) f fd ps sp := by
  obtain ⟨oc, kV, doc, pm, ct, od, an, sl, lk, e⟩ := M.ex
  subst e
  refine fn_of lk M.cd S len fun A outer s H vs Q E hr hsp => ?_
  obtain ⟨t, h, q⟩ := hbody A outer s H vs Q E hr hsp
  exact ⟨t, h.nox, q⟩
end Ur

section WalkWords
local macro_rules | `(tactic| kct_strs) => `(tactic| first
  | (with_reducible assumption)
  | ((with_reducible show (_ : Option L2.HO) = some _); fin_run)
  | ((with_reducible show L2.SqL _ _ _ _); first
    | ((with_reducible apply Ur.sqlK); (focus (with_reducible assumption)); (focus (first | (with_reducible rfl) | rfl)))
    | ((with_reducible apply L2.SqL.of); kct_strs)
    | ((with_reducible apply L2.Same.seq); (focus (with_reducible assumption)); kct_strs)
    | ((with_reducible apply Ur.sql_new); (focus (with_reducible assumption)); kct_strs)
    | ((with_reducible apply Ur.sql_upd); (focus kcj_m); kct_strs))
  | ((with_reducible show L2.SqT _ _ _ _); (with_reducible apply L2.SqT.of); kct_strs))
local macro_rules | `(tactic| fin_run) => `(tactic| first
  | (with_reducible exact Ur.upd_snoc)
  | (with_reducible exact Ur.upd_cutto (by omega))
  | (with_reducible exact Ur.upd_cutmid (by omega) (by omega))
  | (with_reducible exact Ur.upd_cutfrom (by omega))
  | (with_reducible exact Ur.upd_cutall)
  | (with_reducible exact Ur.upd_set)
  | (with_reducible exact Ur.upd_app)
  | (with_reducible exact Ur.upd_rep)
  | (with_reducible exact Ur.upd_rep0)
  | (with_reducible exact Ur.upd_1cat)
  | (with_reducible exact L2.upd_same)
  | ((with_reducible apply Ur.dead_upd); exact L2.upd_same)
  | ((fail_if_success (with_reducible apply Ur.dead_upd)); (with_reducible apply Ur.get_upd); (focus kcj_m); kct_strs)
  | ((with_reducible apply Ur.same_get); (focus (with_reducible assumption)); kct_strs)
  | ((with_reducible apply Ur.but_get); (focus (with_reducible assumption)); (focus kcj_m); kct_strs))
local macro_rules | `(tactic| kcj_m) => `(tactic| ((with_reducible show _ ≠ _); (fail_if_success (with_reducible apply Ur.dead_ne)); first
  | (with_reducible assumption)
  | (with_reducible exact Ne.symm (by assumption))
  | ((with_reducible apply Ur.ne_new); (focus (with_reducible assumption)); kct_strs)
  | ((with_reducible apply Ur.ne_new'); (focus (with_reducible assumption)); kct_strs)
  | (refine L2.ne_of (by assumption) (by kct_strs) (by intro q; cases q))))
local macro_rules | `(tactic| tb_rel) => `(tactic| first
  | ((with_reducible show (_ : Option L2.HO) = Option.some _); kct_strs)
  | ((with_reducible show _ = _); k_upd)
  | (with_reducible assumption)
  | ((with_reducible show List.length (L2.putF _ _ _) < _); first | exact Ur.pf1 | exact Ur.pf2 | exact Ur.pf3)
  | ((with_reducible show List.length (Ur.livF _ _ _) < _); exact Ur.pfL)
  | ((with_reducible show List.length (L2.putF _ _ (Ur.livF _ _ _)) < _); exact Ur.pfM)
  | ((with_reducible show L2.SqL _ _ _ _); kct_strs)
  | ((with_reducible show ∃ xs, L2.SqL _ _ _ xs); exact ⟨_, by kct_strs⟩)
  | ((with_reducible show L2.SqT _ _ _ _); kct_strs)
  | ((with_reducible show ∃ xs, L2.SqT _ _ _ xs); exact ⟨_, by kct_strs⟩)
  | ((with_reducible show _ ≠ _); kcj_m)
  | ((with_reducible show L2.Same _ _); kcj_in)
  | k_updF)
local macro_rules | `(tactic| k_upd) => `(tactic| first
  | ((with_reducible show List.lookup _ _ = _); first | exact Ur.rdy_many | exact Ur.rdy_lasts | exact Ur.rdy_nexts | exact Ur.rdy_no (by decide) (by decide) (by decide) | exact Ur.hld_times | exact Ur.hld_no (by decide) | exact Ur.liv_numbers | exact Ur.liv_changes | exact Ur.liv_made | exact Ur.liv_no (by decide) (by decide) (by decide))
  | ((fail_if_success (with_reducible show (_ : Option L2.HO) = _)); exact rfl)
  | (with_reducible assumption)
  | k_updF)
local macro_rules | `(tactic| k_updF) => `(tactic| first
  | ((with_reducible show Ur.IsW _ _ _); first | (with_reducible assumption) | exact Ur.IsW.int | exact Ur.IsW.bl | exact Ur.IsW.str | exact Ur.IsW.non | exact Ur.IsW.lst (by kct_strs) | exact Ur.IsW.tup (by kct_strs) | exact Ur.IsW.dct (by kct_strs))
  | ((with_reducible show Ur.Kind _ _); first | (with_reducible assumption) | exact Ur.Kind.int | exact Ur.Kind.bl | exact Ur.Kind.str | exact Ur.Kind.non | ((with_reducible apply Ur.Kind.same); (focus (with_reducible assumption)); kcj_in) | exact Ur.Kind.lst (by kct_strs) | exact Ur.Kind.tup (by kct_strs) | exact Ur.Kind.dct (by kct_strs))
  | ((with_reducible show Ur.But _ _ _); cc_are)
  | ((with_reducible show (_ : Option L2.HO) = Option.none); cc_off)
  | ((fail_if_success (with_reducible show (_ : Option L2.HO) = _)); k_memK))
local macro_rules | `(tactic| k_memK) => `(tactic| first
  | (intros; omega)
  | assumption
  | exact Ur.at_int' (by omega) (by omega)
  | exact Ur.at_int' (by dsimp only; omega) (by dsimp only; omega)
  | exact Ur.ixN_iv (by omega) (by omega)
  | exact Ur.at2 (by omega) (by omega)
  | exact Ur.at3 (by omega) (by omega)
  | exact Ur.at4 (by omega) (by omega)
  | exact Ur.at6 (by omega) (by omega)
  | ((with_reducible show L2.IsD _ _); exact Ur.isD_of (by kct_strs))
  | ((with_reducible show L2.tyV _ _ _ _); exact Ur.tyL (by kct_strs))
  | ((with_reducible show L2.DGet _ _ _ _); exact Ur.dget_int (by kct_strs))
  | ((with_reducible show L2.DPut _ _ _ _ _); exact Ur.dput_int (by kct_strs) (Ur.szl (by omega)))
  | ((with_reducible show _ ∨ _); first | exact Or.inl (by kct_strs) | exact Or.inr (by kct_strs) | exact Or.inl ⟨by omega, by omega⟩ | exact Or.inr ⟨by omega, by omega⟩ | exact Or.inr ⟨by decide, by decide⟩ | exact Or.inl ⟨by decide, by decide⟩)
  | ((with_reducible show _ ∧ _); first | exact ⟨by omega, by omega⟩ | exact ⟨by decide, by decide⟩ | exact ⟨by decide, by decide, by decide⟩)
  | exact Ur.sz (by (try simp only [List.length_append, List.length_map, List.length_cons, List.length_nil, List.length_take, List.length_drop, List.length_range, List.length_replicate, List.length_set, List.length_reverse]); omega)
  | exact Ur.szl (by (try simp only [List.length_append, List.length_map, List.length_cons, List.length_nil, List.length_take, List.length_drop, List.length_range, List.length_replicate, List.length_set, List.length_reverse]); omega)
  | (apply Ur.szT; (focus (repeat (first | (apply Nat.add_le_add) | (apply Ur.lb_map) | (apply Ur.lb_filter) | (apply Ur.lb_app) | (apply Ur.lb_cons) | exact Ur.lb_nil | exact Ur.lb_range | exact Nat.le_refl _))); omega)
  | (apply Ur.szlT; (focus (repeat (first | (apply Nat.add_le_add) | (apply Ur.lb_map) | (apply Ur.lb_filter) | (apply Ur.lb_app) | (apply Ur.lb_cons) | exact Ur.lb_nil | exact Ur.lb_range | exact Nat.le_refl _))); omega)
  | ((with_reducible show List.length _ ≤ _); (first | (rw [List.length_take, List.length_drop]; omega) | (rw [List.length_take]; omega) | (rw [List.length_drop]; omega) | (rw [List.length_reverse]; omega)))
  | ((with_reducible show L2.RgOk _ _); exact L2.RgOk.of_le (by omega) (by omega) (by omega) (by omega))
  | exact Nat.succ_pos _
  | exact Ur.pos_app
  | exact ⟨by omega, by omega⟩
  | exact Or.inl ⟨by omega, by omega⟩
  | exact Or.inr ⟨by omega, by omega⟩
  | exact Or.inr ⟨by decide, by decide⟩
  | exact Or.inl ⟨by decide, by decide⟩
  | exact ⟨by decide, by decide⟩
  | exact ⟨by decide, by decide, by decide⟩
  | decide)
local macro_rules | `(tactic| tb_start) => `(tactic| repeat (first
  | ((with_reducible show _ ∧ _); refine And.intro ?_ ?_; (first | (focus tb_rel) | rotate_left 1))
  | (with_reducible refine Ur.tCi ?_)
  | (with_reducible refine Ur.tNilI ?_)
  | (with_reducible refine L2.iteF ?_)
  | (with_reducible refine L2.iteT ?_)
  | (with_reducible refine Ur.neg_same ?_)
  | (with_reducible refine Ur.pos_same ?_)
  | ((with_reducible apply Ur.isiK); (focus (first | exact Ur.tyx_int | exact Ur.tyx_bl | exact Ur.tyx_non | exact Ur.tyx_str | exact Ur.tyx_lst (by kct_strs) | exact Ur.tyx_tup (by kct_strs) | exact Ur.tyx_dK (by kct_strs))); (focus (first | exact Ur.kb_int_int | exact Ur.kb_int_bool | exact Ur.kb_int_str | exact Ur.kb_int_list | exact Ur.kb_int_tuple | exact Ur.kb_int_dict | exact Ur.kb_bool_int | exact Ur.kb_bool_bool | exact Ur.kb_bool_str | exact Ur.kb_bool_list | exact Ur.kb_bool_tuple | exact Ur.kb_bool_dict | exact Ur.kb_str_int | exact Ur.kb_str_bool | exact Ur.kb_str_str | exact Ur.kb_str_list | exact Ur.kb_str_tuple | exact Ur.kb_str_dict | exact Ur.kb_NoneType_int | exact Ur.kb_NoneType_bool | exact Ur.kb_NoneType_str | exact Ur.kb_NoneType_list | exact Ur.kb_NoneType_tuple | exact Ur.kb_NoneType_dict | exact Ur.kb_list_int | exact Ur.kb_list_bool | exact Ur.kb_list_str | exact Ur.kb_list_list | exact Ur.kb_list_tuple | exact Ur.kb_list_dict | exact Ur.kb_tuple_int | exact Ur.kb_tuple_bool | exact Ur.kb_tuple_str | exact Ur.kb_tuple_list | exact Ur.kb_tuple_tuple | exact Ur.kb_tuple_dict | exact Ur.kb_dict_int | exact Ur.kb_dict_bool | exact Ur.kb_dict_str | exact Ur.kb_dict_list | exact Ur.kb_dict_tuple | exact Ur.kb_dict_dict)))
  | ((with_reducible apply Ur.isiK); (focus (with_reducible assumption)); (focus (with_reducible assumption)))
  | ((with_reducible apply Ur.isK1); (focus kct_strs); (focus (with_reducible assumption)); (focus (with_reducible assumption)))
  | ((with_reducible apply Ur.isKT); (focus kct_strs); (focus (with_reducible assumption)); (focus (with_reducible assumption)))
  | ((with_reducible apply Ur.isK2); (focus kct_strs); (focus (with_reducible assumption)); (focus (with_reducible assumption)); (focus kct_strs); (focus rfl))
  | (with_reducible refine Ur.isN_ref ?_)
  | ((with_reducible apply Ur.isX1); (focus (with_reducible assumption)); (focus (with_reducible assumption)))
  | ((with_reducible apply Ur.isXT); (focus (with_reducible assumption)); (focus (with_reducible assumption)))
  | ((with_reducible apply Ur.isX2); (focus (with_reducible assumption)); (focus (with_reducible assumption)); (focus kct_strs); (focus rfl))
  | ((with_reducible apply Ur.rEq_kinds); (focus kct_strs); (focus kct_strs))
  | ((with_reducible apply Ur.len_ints); (focus kct_strs))
  | ((with_reducible apply Ur.len_refs); (focus kct_strs))
  | ((with_reducible apply Ur.in_int); (focus kct_strs))
  | ((with_reducible apply Ur.notin_int); (focus kct_strs))
  | ((with_reducible apply Ur.setd_int); (focus kct_strs))
  | ((with_reducible apply Ur.repr_pair); (focus kct_strs))
  | ((with_reducible apply Ur.pop1_int); (focus kct_strs); (focus assumption))
  | ((with_reducible apply Ur.index_int); (focus kct_strs))
  | ((with_reducible apply Ur.rEq_intsN); (focus kct_strs); (focus kct_strs))
  | ((with_reducible apply Ur.rNe_intsN); (focus kct_strs); (focus kct_strs))
  | ((with_reducible apply Ur.rEq_ints); (focus kct_strs); (focus kct_strs))
  | ((with_reducible apply Ur.rNe_ints); (focus kct_strs); (focus kct_strs))
  | (with_reducible refine Ur.noN ?_)
  | (with_reducible refine Ur.noNn ?_)
  | ((with_reducible refine Ur.brT ?_ ?_); (focus omega))
  | ((with_reducible refine Ur.brF ?_ ?_); (focus omega))
  | ((with_reducible refine Ur.brnT ?_ ?_); (focus omega))
  | ((with_reducible refine Ur.brnF ?_ ?_); (focus omega))
  | (refine And.intro ?_ ?_; (first | (focus tb_rel) | rotate_left 1))
  | refine Or.inl ⟨_, rfl, ?_⟩
  | refine Or.inr ⟨_, rfl, ?_⟩
  | ((fail_if_success (with_reducible show L2.rEqD _ _ _ _ _)); (fail_if_success (with_reducible show L2.rNeD _ _ _ _ _)); (fail_if_success (with_reducible show Ur.rRepr _ _ _ _)); (fail_if_success (with_reducible show Ur.rEqL _ _ _ _ _ _)); (fail_if_success (refine Ur.isWN ?_)); (fail_if_success (refine Ur.isW4 ?_)); apply Exists.intro)))
local macro_rules | `(tactic| kqd_all) => `(tactic| repeat (first
  | ((with_reducible show _ ∧ _); refine And.intro ?_ ?_; (first | (focus tb_rel) | rotate_left 1))
  | (with_reducible refine Ur.tCi ?_)
  | (with_reducible refine Ur.tNilI ?_)
  | (with_reducible refine L2.iteF ?_)
  | (with_reducible refine L2.iteT ?_)
  | (with_reducible refine Ur.neg_same ?_)
  | (with_reducible refine Ur.pos_same ?_)
  | ((with_reducible apply Ur.isiK); (focus (first | exact Ur.tyx_int | exact Ur.tyx_bl | exact Ur.tyx_non | exact Ur.tyx_str | exact Ur.tyx_lst (by kct_strs) | exact Ur.tyx_tup (by kct_strs) | exact Ur.tyx_dK (by kct_strs))); (focus (first | exact Ur.kb_int_int | exact Ur.kb_int_bool | exact Ur.kb_int_str | exact Ur.kb_int_list | exact Ur.kb_int_tuple | exact Ur.kb_int_dict | exact Ur.kb_bool_int | exact Ur.kb_bool_bool | exact Ur.kb_bool_str | exact Ur.kb_bool_list | exact Ur.kb_bool_tuple | exact Ur.kb_bool_dict | exact Ur.kb_str_int | exact Ur.kb_str_bool | exact Ur.kb_str_str | exact Ur.kb_str_list | exact Ur.kb_str_tuple | exact Ur.kb_str_dict | exact Ur.kb_NoneType_int | exact Ur.kb_NoneType_bool | exact Ur.kb_NoneType_str | exact Ur.kb_NoneType_list | exact Ur.kb_NoneType_tuple | exact Ur.kb_NoneType_dict | exact Ur.kb_list_int | exact Ur.kb_list_bool | exact Ur.kb_list_str | exact Ur.kb_list_list | exact Ur.kb_list_tuple | exact Ur.kb_list_dict | exact Ur.kb_tuple_int | exact Ur.kb_tuple_bool | exact Ur.kb_tuple_str | exact Ur.kb_tuple_list | exact Ur.kb_tuple_tuple | exact Ur.kb_tuple_dict | exact Ur.kb_dict_int | exact Ur.kb_dict_bool | exact Ur.kb_dict_str | exact Ur.kb_dict_list | exact Ur.kb_dict_tuple | exact Ur.kb_dict_dict)))
  | ((with_reducible apply Ur.isiK); (focus (with_reducible assumption)); (focus (with_reducible assumption)))
  | ((with_reducible apply Ur.isK1); (focus kct_strs); (focus (with_reducible assumption)); (focus (with_reducible assumption)))
  | ((with_reducible apply Ur.isKT); (focus kct_strs); (focus (with_reducible assumption)); (focus (with_reducible assumption)))
  | ((with_reducible apply Ur.isK2); (focus kct_strs); (focus (with_reducible assumption)); (focus (with_reducible assumption)); (focus kct_strs); (focus rfl))
  | (with_reducible refine Ur.isN_ref ?_)
  | ((with_reducible apply Ur.isX1); (focus (with_reducible assumption)); (focus (with_reducible assumption)))
  | ((with_reducible apply Ur.isXT); (focus (with_reducible assumption)); (focus (with_reducible assumption)))
  | ((with_reducible apply Ur.isX2); (focus (with_reducible assumption)); (focus (with_reducible assumption)); (focus kct_strs); (focus rfl))
  | ((with_reducible apply Ur.rEq_kinds); (focus kct_strs); (focus kct_strs))
  | ((with_reducible apply Ur.len_ints); (focus kct_strs))
  | ((with_reducible apply Ur.len_refs); (focus kct_strs))
  | ((with_reducible apply Ur.in_int); (focus kct_strs))
  | ((with_reducible apply Ur.notin_int); (focus kct_strs))
  | ((with_reducible apply Ur.setd_int); (focus kct_strs))
  | ((with_reducible apply Ur.repr_pair); (focus kct_strs))
  | ((with_reducible apply Ur.pop1_int); (focus kct_strs); (focus assumption))
  | ((with_reducible apply Ur.index_int); (focus kct_strs))
  | ((with_reducible apply Ur.rEq_intsN); (focus kct_strs); (focus kct_strs))
  | ((with_reducible apply Ur.rNe_intsN); (focus kct_strs); (focus kct_strs))
  | ((with_reducible apply Ur.rEq_ints); (focus kct_strs); (focus kct_strs))
  | ((with_reducible apply Ur.rNe_ints); (focus kct_strs); (focus kct_strs))
  | (with_reducible refine Ur.noN ?_)
  | (with_reducible refine Ur.noNn ?_)
  | ((with_reducible refine Ur.brT ?_ ?_); (focus omega))
  | ((with_reducible refine Ur.brF ?_ ?_); (focus omega))
  | ((with_reducible refine Ur.brnT ?_ ?_); (focus omega))
  | ((with_reducible refine Ur.brnF ?_ ?_); (focus omega))
  | (refine And.intro ?_ ?_; (first | (focus tb_rel) | rotate_left 1))
  | refine Or.inl ⟨_, rfl, ?_⟩
  | refine Or.inr ⟨_, rfl, ?_⟩
  | ((fail_if_success (with_reducible show L2.rEqD _ _ _ _ _)); (fail_if_success (with_reducible show L2.rNeD _ _ _ _ _)); (fail_if_success (with_reducible show Ur.rRepr _ _ _ _)); (fail_if_success (with_reducible show Ur.rEqL _ _ _ _ _ _)); (fail_if_success (refine Ur.isWN ?_)); (fail_if_success (refine Ur.isW4 ?_)); apply Exists.intro)
  | intro _))
local macro_rules | `(tactic| kcj_in) => `(tactic| first
  | (with_reducible exact L2.Same.refl _)
  | (with_reducible assumption)
  | ((with_reducible apply Ur.same_snoc); (focus (with_reducible assumption)); kcj_in)
  | ((with_reducible apply Ur.same_upd'); (focus cc_off); kcj_in)
  | ((with_reducible apply Ur.same_step); (focus (with_reducible assumption)); kcj_in)
  | ((with_reducible apply Ur.same_pairs); (focus (with_reducible assumption)); kcj_in)
  | ((with_reducible apply Ur.same_but); (focus (with_reducible assumption)); (focus cc_off); kcj_in))
local macro_rules | `(tactic| cc_off) => `(tactic| first
  | (with_reducible assumption)
  | ((with_reducible apply Ur.same_free); (focus (with_reducible assumption)); kcj_in)
  | ((with_reducible apply Ur.but_free); (focus (with_reducible assumption)); (focus cc_are); kct_strs))
local macro_rules | `(tactic| cc_are) => `(tactic| first
  | (with_reducible exact Ur.but_refl)
  | (with_reducible assumption)
  | ((with_reducible apply Ur.but_at); cc_are)
  | ((with_reducible apply Ur.but_snoc); (focus (with_reducible assumption)); cc_are)
  | ((with_reducible apply Ur.but_upd); (focus cc_off); cc_are)
  | ((with_reducible apply Ur.but_step); (focus (with_reducible assumption)); cc_are)
  | ((with_reducible apply Ur.but_step'); (focus (with_reducible assumption)); cc_are))
local macro_rules | `(tactic| kqd_in) => `(tactic| (kqd_all; try ((first | refine Ur.bri (fun _ => ?_) (fun _ => ?_) | refine Ur.brni (fun _ => ?_) (fun _ => ?_) | refine Ur.br (fun _ => ?_) (fun _ => ?_) | refine Ur.brn (fun _ => ?_) (fun _ => ?_) | refine Ur.brb (fun _ => ?_) (fun _ => ?_)) <;> kqd_in)))
namespace Ur
open PySem L2
def top (i : Nat) : Stmt := PySem.Challenge.pw_unlikerow_k27_whole_stretches_by_windows.main.body.getD i (.Pass ⟨0, 0, 0, 0⟩)
abbrev s_last_places : Stmt := top 16
theorem sc_last_places : FnScope ["row", "met", "found", "place", "number"] ["row"] (defScope s_last_places) := ⟨rfl, rfl, rfl, by decide +kernel, rfl, by decide +kernel, by decide +kernel⟩
abbrev s_next_places : Stmt := top 17
theorem sc_next_places : FnScope ["row", "found", "place", "last"] ["row"] (defScope s_next_places) := ⟨rfl, rfl, rfl, by decide +kernel, rfl, by decide +kernel, by decide +kernel⟩
abbrev s_Ready___init__ : Stmt := inClass (top 19) 0
theorem sc_Ready___init__ : FnScope ["self", "row"] ["self", "row"] (defScope s_Ready___init__) := ⟨rfl, rfl, rfl, by decide +kernel, rfl, by decide +kernel, by decide +kernel⟩
abbrev s__law_next : Stmt := top 23
theorem sc__law_next : FnScope ["purse"] ["purse"] (defScope s__law_next) := ⟨rfl, rfl, rfl, by decide +kernel, rfl, by decide +kernel, by decide +kernel⟩
abbrev s_is_whole : Stmt := top 15
theorem sc_is_whole : FnScope ["thing"] ["thing"] (defScope s_is_whole) := ⟨rfl, rfl, rfl, by decide +kernel, rfl, by decide +kernel, by decide +kernel⟩
abbrev s_Ready_need_place : Stmt := inClass (top 19) 1
theorem sc_Ready_need_place : FnScope ["self", "place"] ["self", "place"] (defScope s_Ready_need_place) := ⟨rfl, rfl, rfl, by decide +kernel, rfl, by decide +kernel, by decide +kernel⟩
abbrev s_Ready_end_of : Stmt := inClass (top 19) 5
theorem sc_Ready_end_of : FnScope ["self", "first", "many", "left", "behind"] ["self", "first", "many"] (defScope s_Ready_end_of) := ⟨rfl, rfl, rfl, by decide +kernel, rfl, by decide +kernel, by decide +kernel⟩
abbrev s_Ready_need_window : Stmt := inClass (top 19) 2
theorem sc_Ready_need_window : FnScope ["self", "first", "behind"] ["self", "first", "behind"] (defScope s_Ready_need_window) := ⟨rfl, rfl, rfl, by decide +kernel, rfl, by decide +kernel, by decide +kernel⟩
abbrev s_Ready_unlike : Stmt := inClass (top 19) 3
theorem sc_Ready_unlike : FnScope ["self", "first", "behind", "last"] ["self", "first", "behind"] (defScope s_Ready_unlike) := ⟨rfl, rfl, rfl, by decide +kernel, rfl, by decide +kernel, by decide +kernel⟩
abbrev s__law_stretch_right : Stmt := top 26
theorem sc__law_stretch_right : FnScope ["ready", "row", "many", "stretch", "first", "least", "last"] ["ready", "row", "many", "stretch"] (defScope s__law_stretch_right) := ⟨rfl, rfl, rfl, by decide +kernel, rfl, by decide +kernel, by decide +kernel⟩
abbrev s_Held___init__ : Stmt := inClass (top 2) 0
theorem sc_Held___init__ : FnScope ["self"] ["self"] (defScope s_Held___init__) := ⟨rfl, rfl, rfl, by decide +kernel, rfl, by decide +kernel, by decide +kernel⟩
abbrev s_Held_come : Stmt := inClass (top 2) 1
theorem sc_Held_come : FnScope ["self", "number"] ["self", "number"] (defScope s_Held_come) := ⟨rfl, rfl, rfl, by decide +kernel, rfl, by decide +kernel, by decide +kernel⟩
abbrev s_Held_gone : Stmt := inClass (top 2) 2
theorem sc_Held_gone : FnScope ["self", "number"] ["self", "number"] (defScope s_Held_gone) := ⟨rfl, rfl, rfl, by decide +kernel, rfl, by decide +kernel, by decide +kernel⟩
abbrev s_Held_unlike : Stmt := inClass (top 2) 3
theorem sc_Held_unlike : FnScope ["self"] ["self"] (defScope s_Held_unlike) := ⟨rfl, rfl, rfl, by decide +kernel, rfl, by decide +kernel, by decide +kernel⟩
abbrev s_ends_by : Stmt := top 3
theorem sc_ends_by : FnScope ["row", "many", "held", "behind", "found", "number"] ["row", "many"] (defScope s_ends_by) := ⟨rfl, rfl, rfl, by decide +kernel, rfl, by decide +kernel, by decide +kernel⟩
abbrev s_ends_within : Stmt := top 4
theorem sc_ends_within : FnScope ["row", "many", "end"] ["row", "many"] (defScope s_ends_within) := ⟨rfl, rfl, rfl, by decide +kernel, rfl, by decide +kernel, by decide +kernel⟩
abbrev s_stretches : Stmt := top 5
theorem sc_stretches : FnScope ["row", "many", "found", "lasts", "first", "least"] ["row", "many"] (defScope s_stretches) := ⟨rfl, rfl, rfl, by decide +kernel, rfl, by decide +kernel, by decide +kernel⟩
abbrev s_how_many : Stmt := top 6
theorem sc_how_many : FnScope ["row", "many", "first", "least", "last"] ["row", "many"] (defScope s_how_many) := ⟨rfl, rfl, rfl, by decide +kernel, rfl, by decide +kernel, by decide +kernel⟩
abbrev s_longest : Stmt := top 8
theorem sc_longest : FnScope ["row", "many", "best", "first", "least", "last"] ["row", "many"] (defScope s_longest) := ⟨rfl, rfl, rfl, by decide +kernel, rfl, by decide +kernel, by decide +kernel⟩
abbrev s_shortest : Stmt := top 9
theorem sc_shortest : FnScope ["row", "many", "best", "first", "least", "last"] ["row", "many"] (defScope s_shortest) := ⟨rfl, rfl, rfl, by decide +kernel, rfl, by decide +kernel, by decide +kernel⟩
abbrev s__law_number_right : Stmt := top 27
theorem sc__law_number_right : FnScope ["ready", "row", "many", "entry", "told", "firsts", "first", "due", "wide", "small", "one", "least", "last"] ["ready", "row", "many", "entry"] (defScope s__law_number_right) := ⟨rfl, rfl, rfl, by decide +kernel, rfl, by decide +kernel, by decide +kernel⟩
abbrev s__law_mixed : Stmt := top 21
theorem sc__law_mixed : FnScope ["cell", "k", "number"] ["cell", "k"] (defScope s__law_mixed) := ⟨rfl, rfl, rfl, by decide +kernel, rfl, by decide +kernel, by decide +kernel⟩
abbrev s__law_purse : Stmt := top 22
theorem sc__law_purse : FnScope ["script", "at", "step", "many", "cells", "rests", "purse", "k", "place", "cell"] ["script", "at", "step", "many"] (defScope s__law_purse) := ⟨rfl, rfl, rfl, by decide +kernel, rfl, by decide +kernel, by decide +kernel⟩
abbrev s__law_value : Stmt := top 24
theorem sc__law_value : FnScope ["way", "at"] ["way", "at"] (defScope s__law_value) := ⟨rfl, rfl, rfl, by decide +kernel, rfl, by decide +kernel, by decide +kernel⟩
abbrev s__law_row : Stmt := top 25
theorem sc__law_row : FnScope ["purse", "most", "unlike", "way", "many", "kind", "places", "k", "drawn", "turns", "size", "wide", "again", "at"] ["purse", "most"] (defScope s__law_row) := ⟨rfl, rfl, rfl, by decide +kernel, rfl, by decide +kernel, by decide +kernel⟩
abbrev s_longest_within : Stmt := top 10
theorem sc_longest_within : FnScope ["row", "many", "best", "first", "behind"] ["row", "many"] (defScope s_longest_within) := ⟨rfl, rfl, rfl, by decide +kernel, rfl, by decide +kernel, by decide +kernel⟩
abbrev s__law_within_right : Stmt := top 28
theorem sc__law_within_right : FnScope ["row", "many", "best", "number", "one"] ["row", "many"] (defScope s__law_within_right) := ⟨rfl, rfl, rfl, by decide +kernel, rfl, by decide +kernel, by decide +kernel⟩
abbrev s_counts : Stmt := top 7
theorem sc_counts : FnScope ["row", "found", "first", "held", "number"] ["row"] (defScope s_counts) := ⟨rfl, rfl, rfl, by decide +kernel, rfl, by decide +kernel, by decide +kernel⟩
abbrev s_law : Stmt := top 29
theorem sc_law : FnScope ["script", "purse", "row", "ready", "told", "k", "many"] ["script"] (defScope s_law) := ⟨rfl, rfl, rfl, by decide +kernel, rfl, by decide +kernel, by decide +kernel⟩
/-- where the defs and classes stand -/
structure Adr where
  f_last_places : Addr
  d_last_places : FuncData
  f_next_places : Addr
  d_next_places : FuncData
  f_Ready___init__ : Addr
  d_Ready___init__ : FuncData
  f__law_next : Addr
  d__law_next : FuncData
  f_is_whole : Addr
  d_is_whole : FuncData
  f_Ready_need_place : Addr
  d_Ready_need_place : FuncData
  f_Ready_end_of : Addr
  d_Ready_end_of : FuncData
  f_Ready_need_window : Addr
  d_Ready_need_window : FuncData
  f_Ready_unlike : Addr
  d_Ready_unlike : FuncData
  f__law_stretch_right : Addr
  d__law_stretch_right : FuncData
  f_Held___init__ : Addr
  d_Held___init__ : FuncData
  f_Held_come : Addr
  d_Held_come : FuncData
  f_Held_gone : Addr
  d_Held_gone : FuncData
  f_Held_unlike : Addr
  d_Held_unlike : FuncData
  f_ends_by : Addr
  d_ends_by : FuncData
  f_ends_within : Addr
  d_ends_within : FuncData
  f_stretches : Addr
  d_stretches : FuncData
  f_how_many : Addr
  d_how_many : FuncData
  f_longest : Addr
  d_longest : FuncData
  f_shortest : Addr
  d_shortest : FuncData
  f__law_number_right : Addr
  d__law_number_right : FuncData
  f__law_mixed : Addr
  d__law_mixed : FuncData
  f__law_purse : Addr
  d__law_purse : FuncData
  f__law_value : Addr
  d__law_value : FuncData
  f__law_row : Addr
  d__law_row : FuncData
  f_longest_within : Addr
  d_longest_within : FuncData
  f__law_within_right : Addr
  d__law_within_right : FuncData
  f_counts : Addr
  d_counts : FuncData
  f_law : Addr
  d_law : FuncData
  c_Ready : Addr
  c_NoWindow : Addr
  c_Held : Addr
structure Txt (K : PySem.W.Frag) (mg : Str → Option Value) (A : Adr) : Prop where
  F_last_places : Fun K "last_places" "last_places" s_last_places A.f_last_places A.d_last_places
  b_last_places : Binds K A.d_last_places ["row"] []
  g_last_places : mg "last_places" = some (.ref A.f_last_places)
  F_next_places : Fun K "next_places" "next_places" s_next_places A.f_next_places A.d_next_places
  b_next_places : Binds K A.d_next_places ["row"] []
  g_next_places : mg "next_places" = some (.ref A.f_next_places)
  F_Ready___init__ : Fun K "__init__" "Ready.__init__" s_Ready___init__ A.f_Ready___init__ A.d_Ready___init__
  b_Ready___init__ : Binds K A.d_Ready___init__ ["self", "row"] []
  M_Ready : Mk K A.c_Ready A.f_Ready___init__
  F__law_next : Fun K "_law_next" "_law_next" s__law_next A.f__law_next A.d__law_next
  b__law_next : Binds K A.d__law_next ["purse"] []
  g__law_next : mg "_law_next" = some (.ref A.f__law_next)
  F_is_whole : Fun K "is_whole" "is_whole" s_is_whole A.f_is_whole A.d_is_whole
  b_is_whole : Binds K A.d_is_whole ["thing"] []
  g_is_whole : mg "is_whole" = some (.ref A.f_is_whole)
  F_Ready_need_place : Fun K "need_place" "Ready.need_place" s_Ready_need_place A.f_Ready_need_place A.d_Ready_need_place
  b_Ready_need_place : Binds K A.d_Ready_need_place ["self", "place"] []
  M_Ready_need_place : Meth K A.c_Ready "need_place" A.f_Ready_need_place
  F_Ready_end_of : Fun K "end_of" "Ready.end_of" s_Ready_end_of A.f_Ready_end_of A.d_Ready_end_of
  b_Ready_end_of : Binds K A.d_Ready_end_of ["self", "first", "many"] []
  M_Ready_end_of : Meth K A.c_Ready "end_of" A.f_Ready_end_of
  F_Ready_need_window : Fun K "need_window" "Ready.need_window" s_Ready_need_window A.f_Ready_need_window A.d_Ready_need_window
  b_Ready_need_window : Binds K A.d_Ready_need_window ["self", "first", "behind"] []
  M_Ready_need_window : Meth K A.c_Ready "need_window" A.f_Ready_need_window
  F_Ready_unlike : Fun K "unlike" "Ready.unlike" s_Ready_unlike A.f_Ready_unlike A.d_Ready_unlike
  b_Ready_unlike : Binds K A.d_Ready_unlike ["self", "first", "behind"] []
  M_Ready_unlike : Meth K A.c_Ready "unlike" A.f_Ready_unlike
  F__law_stretch_right : Fun K "_law_stretch_right" "_law_stretch_right" s__law_stretch_right A.f__law_stretch_right A.d__law_stretch_right
  b__law_stretch_right : Binds K A.d__law_stretch_right ["ready", "row", "many", "stretch"] []
  g__law_stretch_right : mg "_law_stretch_right" = some (.ref A.f__law_stretch_right)
  F_Held___init__ : Fun K "__init__" "Held.__init__" s_Held___init__ A.f_Held___init__ A.d_Held___init__
  b_Held___init__ : Binds K A.d_Held___init__ ["self"] []
  M_Held : Mk K A.c_Held A.f_Held___init__
  F_Held_come : Fun K "come" "Held.come" s_Held_come A.f_Held_come A.d_Held_come
  b_Held_come : Binds K A.d_Held_come ["self", "number"] []
  M_Held_come : Meth K A.c_Held "come" A.f_Held_come
  F_Held_gone : Fun K "gone" "Held.gone" s_Held_gone A.f_Held_gone A.d_Held_gone
  b_Held_gone : Binds K A.d_Held_gone ["self", "number"] []
  M_Held_gone : Meth K A.c_Held "gone" A.f_Held_gone
  F_Held_unlike : Fun K "unlike" "Held.unlike" s_Held_unlike A.f_Held_unlike A.d_Held_unlike
  b_Held_unlike : Binds K A.d_Held_unlike ["self"] []
  M_Held_unlike : Meth K A.c_Held "unlike" A.f_Held_unlike
  F_ends_by : Fun K "ends_by" "ends_by" s_ends_by A.f_ends_by A.d_ends_by
  b_ends_by : Binds K A.d_ends_by ["row", "many"] []
  g_ends_by : mg "ends_by" = some (.ref A.f_ends_by)
  F_ends_within : Fun K "ends_within" "ends_within" s_ends_within A.f_ends_within A.d_ends_within
  b_ends_within : Binds K A.d_ends_within ["row", "many"] []
  g_ends_within : mg "ends_within" = some (.ref A.f_ends_within)
  F_stretches : Fun K "stretches" "stretches" s_stretches A.f_stretches A.d_stretches
  b_stretches : Binds K A.d_stretches ["row", "many"] []
  g_stretches : mg "stretches" = some (.ref A.f_stretches)
  F_how_many : Fun K "how_many" "how_many" s_how_many A.f_how_many A.d_how_many
  b_how_many : Binds K A.d_how_many ["row", "many"] []
  g_how_many : mg "how_many" = some (.ref A.f_how_many)
  F_longest : Fun K "longest" "longest" s_longest A.f_longest A.d_longest
  b_longest : Binds K A.d_longest ["row", "many"] []
  g_longest : mg "longest" = some (.ref A.f_longest)
  F_shortest : Fun K "shortest" "shortest" s_shortest A.f_shortest A.d_shortest
  b_shortest : Binds K A.d_shortest ["row", "many"] []
  g_shortest : mg "shortest" = some (.ref A.f_shortest)
  F__law_number_right : Fun K "_law_number_right" "_law_number_right" s__law_number_right A.f__law_number_right A.d__law_number_right
  b__law_number_right : Binds K A.d__law_number_right ["ready", "row", "many", "entry"] []
  g__law_number_right : mg "_law_number_right" = some (.ref A.f__law_number_right)
  F__law_mixed : Fun K "_law_mixed" "_law_mixed" s__law_mixed A.f__law_mixed A.d__law_mixed
  b__law_mixed : Binds K A.d__law_mixed ["cell", "k"] []
  g__law_mixed : mg "_law_mixed" = some (.ref A.f__law_mixed)
  F__law_purse : Fun K "_law_purse" "_law_purse" s__law_purse A.f__law_purse A.d__law_purse
  b__law_purse : Binds K A.d__law_purse ["script", "at", "step", "many"] []
  g__law_purse : mg "_law_purse" = some (.ref A.f__law_purse)
  F__law_value : Fun K "_law_value" "_law_value" s__law_value A.f__law_value A.d__law_value
  b__law_value : Binds K A.d__law_value ["way", "at"] []
  g__law_value : mg "_law_value" = some (.ref A.f__law_value)
  F__law_row : Fun K "_law_row" "_law_row" s__law_row A.f__law_row A.d__law_row
  b__law_row : Binds K A.d__law_row ["purse", "most"] []
  g__law_row : mg "_law_row" = some (.ref A.f__law_row)
  F_longest_within : Fun K "longest_within" "longest_within" s_longest_within A.f_longest_within A.d_longest_within
  b_longest_within : Binds K A.d_longest_within ["row", "many"] []
  g_longest_within : mg "longest_within" = some (.ref A.f_longest_within)
  F__law_within_right : Fun K "_law_within_right" "_law_within_right" s__law_within_right A.f__law_within_right A.d__law_within_right
  b__law_within_right : Binds K A.d__law_within_right ["row", "many"] []
  g__law_within_right : mg "_law_within_right" = some (.ref A.f__law_within_right)
  F_counts : Fun K "counts" "counts" s_counts A.f_counts A.d_counts
  b_counts : Binds K A.d_counts ["row"] []
  g_counts : mg "counts" = some (.ref A.f_counts)
  F_law : Fun K "law" "law" s_law A.f_law A.d_law
  b_law : Binds K A.d_law ["script"] []
  g_law : mg "law" = some (.ref A.f_law)
  g_Ready : mg "Ready" = some (.ref A.c_Ready)
  C_Ready : Cls K A.c_Ready
  n_Ready_many : NoAttr K A.c_Ready "many"
  n_Ready_lasts : NoAttr K A.c_Ready "lasts"
  n_Ready_nexts : NoAttr K A.c_Ready "nexts"
  g_NoWindow : mg "NoWindow" = some (.ref A.c_NoWindow)
  g_Held : mg "Held" = some (.ref A.c_Held)
  C_Held : Cls K A.c_Held
  n_Held_times : NoAttr K A.c_Held "times"
  m_abs : mg "abs" = none
  m_bool : mg "bool" = none
  m_enumerate : mg "enumerate" = none
  m_int : mg "int" = none
  m_isinstance : mg "isinstance" = none
  m_len : mg "len" = none
  m_list : mg "list" = none
  m_min : mg "min" = none
  m_range : mg "range" = none
  m_reversed : mg "reversed" = none
  m_set : mg "set" = none
  m_sorted : mg "sorted" = none
  m_sum : mg "sum" = none
end Ur
namespace Ur
open PySem L2
/-- the last places, a new list -/
def sp_last_places (K : PySem.W.Frag) : Sp := fun vs H Q _ => ∃ (a : Addr) (ns : List Int), vs = [.ref a] ∧ SqL K H a (ns.map V.int) ∧ ns.length ≤ 1000 ∧ ∀ p H', H' p = some (.lst ((lastP ns).map V.int)) → Same H H' → H p = none → Q (.ref p) H'
section
variable {P : Program} {w : World} {K : PySem.W.Frag} {mg : Str → Option Value} {base : Heap} {A : Adr}
theorem ok_last_places (T : Txt K mg A) : FnOk P w K mg base CX0 1 A.f_last_places A.d_last_places ["row"] (sp_last_places K) := by
  refine T.F_last_places.ok sc_last_places (fun vs H Q E h => ?_) (fun cdv Ar outer s H vs Q E hr h => ?_)
  · obtain ⟨a, ns, rfl, _⟩ := h
    rfl
  · obtain ⟨a, ns, rfl, ha, hl, q⟩ := h
    refine ⟨_, (pss_cons (ps_set (i := 1) sc_last_places.nd rfl (Or.inl rfl) pe_dnewK)
    (pss_cons (ps_set (i := 2) sc_last_places.nd rfl (Or.inl rfl) (pe_lst pa_nil))
    (pss_cons (ps_for PassesOwn.never (by rfl) (pi_enum (by rfl) T.m_enumerate (pa_cons (pv 0) pa_nil)) (pg_tup (by rfl) (pgs_cons (pg_name (i := 3) sc_last_places.nd rfl (Or.inl rfl)) (pgs_cons (pg_name (i := 4) sc_last_places.nd rfl (Or.inl rfl)) pgs_nil))) (pss_cons (ps_expr (pe_bm PySem.F.plainAttrs_list PySem.F.slot_list_append PySem.F.type_list_append mt_append (pv 2) (pa_cons (pe_dget2 (hu_of hr) (pv 1) (pv 4) (pe_un un_neg pe_int) ⟨rfl, rfl, rfl, rfl⟩) pa_nil)))
    (pss_one (ps_dput (hu_of hr) (pv 1) (pv 4) (pv 3) rfl))))
    (pss_one (ps_ret (pv 2)))))), ?_⟩
    tb_start
    intro m nm
    tb_start
    intro l nl
    tb_start
    refine for_enum (xs := ns.map V.int) (fun i σ H' => Iv (∃ (kvs : List (Key × V)) (x y : Option V), σ = [some (.ref a), some (.ref m), some (.ref l), x, y] ∧ H' m = some (.dK kvs) ∧ H' l = some (.lst (((lastP ns).take i).map V.int)) ∧ Same H H' ∧ kvs.length ≤ i ∧ ∀ z : Int, valV kvs (Sum.inl z) = if lastAt ns i z = -1 then none else some (.int (lastAt ns i z)))) ?h0 ?hl ?hs ?hd
    case h0 => exact ⟨[], _, _, rfl, by kct_strs, upd_same, by kcj_in, Nat.le_refl _, fun z => rfl⟩
    case hl =>
      rintro i σ H' hi ⟨kvs, x, y, rfl, hm, hl', s, hk, hv⟩
      kct_strs
    case hs =>
      rintro i x σ H1 H' hx ⟨kvs, u, y, rfl, hm, hl', s, hk, hv⟩ s2
      obtain ⟨n, hn, rfl⟩ := iv_get hx
      have hi := (List.getElem?_eq_some_iff.mp hn).1
      have hg := getD_of hn
      have nlm : l ≠ m := by kcj_m
      have hln := lastP_len ns
      have hr := lastAt_range ns n i
      have hv' : (valV kvs (Sum.inl n)).getD (.int (-1)) = .int (lastAt ns i n) := by
        rw [hv n]
        by_cases e : lastAt ns i n = -1
        · rw [if_pos e, e]; rfl
        · rw [if_neg e]; rfl
      tb_start
      refine ⟨_, _, _, rfl, by kct_strs, lst_cast (by kct_strs) ?_, by kcj_in, ?_, fun z => ?_⟩
      · rw [lastP_take hi, hg, List.map_append]
        exact congrArg (fun v => (List.map V.int (List.take i (lastP ns))) ++ [v]) hv'
      · exact Nat.le_trans (putK_le _ _ _) (by omega)
      · rw [val_put, hv z]
        show _ = if (if ns.getD i 0 = z then (i : Int) else lastAt ns i z) = -1 then none else some (V.int (if ns.getD i 0 = z then (i : Int) else lastAt ns i z))
        rw [hg]
        by_cases e : z = n
        · rw [if_pos e, if_pos e.symm, if_neg (by omega)]
        · have e2 : ¬ n = z := fun h => e h.symm
          simp only [if_neg e, if_neg e2]
    case hd =>
      rintro σ H' ⟨kvs, x, y, rfl, hm, hl', s, hk, hv⟩
      rw [List.length_map, ← lastP_len ns, List.take_length] at hl'
      tb_start
      exact q _ _ hl' s (by cc_off)
end
end Ur
namespace Ur
open PySem L2
/-- the next places, a new list -/
def sp_next_places (K : PySem.W.Frag) : Sp := fun vs H Q _ => ∃ (a : Addr) (ns : List Int), vs = [.ref a] ∧ SqL K H a (ns.map V.int) ∧ ns.length ≤ 1000 ∧ ∀ p H', H' p = some (.lst ((nextP ns).map V.int)) → Same H H' → H p = none → Q (.ref p) H'
section
variable {P : Program} {w : World} {K : PySem.W.Frag} {mg : Str → Option Value} {base : Heap} {A : Adr}
theorem ok_next_places (T : Txt K mg A) : FnOk P w K mg base CX0 2 A.f_next_places A.d_next_places ["row"] (sp_next_places K) := by
  have G_last_places := ok_last_places (P := P) (w := w) (base := base) T
  refine T.F_next_places.ok sc_next_places (fun vs H Q E h => ?_) (fun cdv Ar outer s H vs Q E hr h => ?_)
  · obtain ⟨a, ns, rfl, _⟩ := h
    rfl
  · obtain ⟨a, ns, rfl, ha, hl, q⟩ := h
    refine ⟨_, (pss_cons (ps_set (i := 1) sc_next_places.nd rfl (Or.inl rfl) (pe_op op_rep (pe_lst (pa_cons (Ur.pe_b1 (Ur.call_lenIK (K := K) rfl) (by rfl) T.m_len (by decide +kernel) (pv 0)) pa_nil)) (Ur.pe_b1 (Ur.call_lenIK (K := K) rfl) (by rfl) T.m_len (by decide +kernel) (pv 0))))
    (pss_cons (ps_for PassesOwn.never (by rfl) (pi_enum (by rfl) T.m_enumerate (pa_cons (pe_call G_last_places (hr.mono (by decide)) (by rfl) T.g_last_places T.F_last_places.kp T.b_last_places .nil pass0 (pa_cons (pv 0) pa_nil)) pa_nil)) (pg_tup (by rfl) (pgs_cons (pg_name (i := 2) sc_next_places.nd rfl (Or.inl rfl)) (pgs_cons (pg_name (i := 3) sc_next_places.nd rfl (Or.inl rfl)) pgs_nil))) (pss_one (ps_if (pt_cmpR op_ge (pv 3) pe_int (nomark _)) (pss_one (ps_asg (pv 2) (pg_sub (pv 1) (pv 3) set_list))) pss_nil)))
    (pss_one (ps_ret (pv 1))))), ?_⟩
    tb_start
    intro l0 nl0
    tb_start
    intro l nl
    tb_start
    intro p H2 e2 s2 np
    tb_start
    refine for_enum (xs := (lastP ns).map V.int) (fun i σ H' => Iv (∃ (x y : Option V), σ = [some (.ref a), some (.ref l), x, y] ∧ H' l = some (.lst (((List.range ns.length).map fun k => nextUp ns k i).map V.int)) ∧ H' p = some (.lst ((lastP ns).map V.int)) ∧ Same H H')) ?h0 ?hl ?hs ?hd
    case h0 =>
      refine ⟨_, _, rfl, lst_cast (by kct_strs) ?_, by kct_strs, by kcj_in⟩
      rw [Int.toNat_natCast]
      show _ = List.map V.int ((List.range ns.length).map fun _ => (ns.length : Int))
      rw [List.map_const', List.length_range]
    case hl =>
      rintro i σ H' hi ⟨x, y, rfl, hl', hp, s⟩
      kct_strs
    case hs =>
      rintro i x σ H1 H' hx ⟨u, y, rfl, hl', hp, s⟩ s3
      obtain ⟨n, hn, rfl⟩ := iv_get hx
      have hil : i < ns.length := by
        have h := (List.getElem?_eq_some_iff.mp hn).1
        rw [lastP_len] at h
        exact h
      have e : n = lastAt ns i (ns.getD i 0) := by
        rw [lastP_get hil] at hn
        exact (Option.some.inj hn).symm
      have hr := lastAt_range ns (ns.getD i 0) i
      rw [← e] at hr
      have hml : ((List.range ns.length).map fun k => nextUp ns k i).length = ns.length := by rw [List.length_map, List.length_range]
      have step : ((List.range ns.length).map fun k => nextUp ns k (i + 1)) = if 0 ≤ n then ((List.range ns.length).map fun k => nextUp ns k i).set n.toNat i else (List.range ns.length).map fun k => nextUp ns k i := by
        refine List.ext_getElem? fun k => ?_
        by_cases hk : k < ns.length
        · rw [List.getElem?_map, List.getElem?_range hk]
          show some (nextUp ns k (i + 1)) = _
          rw [nextUp_step hil hk, ← e]
          by_cases h0 : 0 ≤ n
          · rw [if_pos h0, List.getElem?_set, hml]
            by_cases hnk : n = (k : Int)
            · rw [if_pos hnk, if_pos (by omega), if_pos (by omega)]
            · rw [if_neg hnk, if_neg (by omega), List.getElem?_map, List.getElem?_range hk]
              rfl
          · rw [if_neg h0, if_neg (by omega), List.getElem?_map, List.getElem?_range hk]
            rfl
        · rw [List.getElem?_eq_none (by rw [List.length_map, List.length_range]; omega)]
          split
          · rw [List.getElem?_eq_none (by rw [List.length_set, hml]; omega)]
          · rw [List.getElem?_eq_none (by rw [hml]; omega)]
      tb_start
      refine br (fun h => ?_) (fun h => ?_)
      · tb_start
        refine ⟨_, _, rfl, lst_cast (by kct_strs) ?_, by kct_strs, by kcj_in⟩
        rw [step, if_pos h]
      · refine ⟨_, _, rfl, lst_cast (by kct_strs) ?_, by kct_strs, by kcj_in⟩
        rw [step, if_neg h]
    case hd =>
      rintro σ H' ⟨x, y, rfl, hl', hp, s⟩
      tb_start
      refine q _ _ (lst_cast hl' ?_) s (by cc_off)
      rw [List.length_map, lastP_len]
      rfl
end
end Ur
namespace Ur
open PySem L2
/-- made ready -/
def sp_Ready___init__ (K : PySem.W.Frag) (C : Addr) : Sp := fun vs H Q _ => ∃ (o a dx : Addr) (ns : List Int), vs = [.ref o, .ref a] ∧ H o = some (.ins C dx []) ∧ H a = some (.lst (ns.map V.int)) ∧ ns.length ≤ 1000 ∧ ∀ la na H', H' o = some (.ins C dx (rdyF ns.length la na)) → H' la = some (.lst ((lastP ns).map V.int)) → H' na = some (.lst ((nextP ns).map V.int)) → H la = none → H na = none → But o H H' → Q .non H'
section
variable {P : Program} {w : World} {K : PySem.W.Frag} {mg : Str → Option Value} {base : Heap} {A : Adr}
theorem ok_Ready___init__ (T : Txt K mg A) : FnOk P w K mg base CX0 3 A.f_Ready___init__ A.d_Ready___init__ ["self", "row"] (sp_Ready___init__ K A.c_Ready) := by
  have G_last_places := ok_last_places (P := P) (w := w) (base := base) T
  have G_next_places := ok_next_places (P := P) (w := w) (base := base) T
  refine T.F_Ready___init__.ok sc_Ready___init__ (fun vs H Q E h => ?_) (fun cdv Ar outer s H vs Q E hr h => ?_)
  · obtain ⟨o, a, dx, ns, rfl, _⟩ := h
    rfl
  · have C_Ready := T.C_Ready
    have n_Ready_many := T.n_Ready_many
    have n_Ready_lasts := T.n_Ready_lasts
    have n_Ready_nexts := T.n_Ready_nexts
    obtain ⟨o, a, dx, ns, rfl, eo, ha, hl, q⟩ := h
    refine ⟨_, (pss_cons (ps_fld (pv 0) (Ur.pe_b1 (Ur.call_lenIK (K := K) rfl) (by rfl) T.m_len (by decide +kernel) (pv 1)) rfl)
    (pss_cons (ps_fld (pv 0) (pe_call G_last_places (hr.mono (by decide)) (by rfl) T.g_last_places T.F_last_places.kp T.b_last_places .nil pass0 (pa_cons (pv 1) pa_nil)) rfl)
    (pss_one (ps_fld (pv 0) (pe_call G_next_places (hr.mono (by decide)) (by rfl) T.g_next_places T.F_next_places.kp T.b_next_places .nil pass0 (pa_cons (pv 1) pa_nil)) rfl)))), ?_⟩
    tb_start
    intro la H1 e1 s1 f1
    have eo1 := s1 o _ upd_same
    have hf1 := upd_none f1
    repeat (rename H _ = some _ => hx; first | (have hA := Ur.adv0 s1 hx; obtain ⟨hz, hw, hv⟩ := hA; (first | have := hw _ f1 | have := hv _ f1); clear hw hv hx; rename H1 _ = some _ => hq) | (have hA := Ur.adv1 s1 (by kcj_m) hx; obtain ⟨hz, hw, hv⟩ := hA; (first | have := hw _ f1 | have := hv _ f1); clear hw hv hx; rename H1 _ = some _ => hq) | (have hA := Ur.adv2 s1 (by kcj_m) (by kcj_m) hx; obtain ⟨hz, hw, hv⟩ := hA; (first | have := hw _ f1 | have := hv _ f1); clear hw hv hx; rename H1 _ = some _ => hq) | (have hA := Ur.adv3 s1 (by kcj_m) (by kcj_m) (by kcj_m) hx; obtain ⟨hz, hw, hv⟩ := hA; (first | have := hw _ f1 | have := hv _ f1); clear hw hv hx; rename H1 _ = some _ => hq) | (have hA := Ur.adv4 s1 (by kcj_m) (by kcj_m) (by kcj_m) (by kcj_m) hx; obtain ⟨hz, hw, hv⟩ := hA; (first | have := hw _ f1 | have := hv _ f1); clear hw hv hx; rename H1 _ = some _ => hq) | (have hA := Ur.adv5 s1 (by kcj_m) (by kcj_m) (by kcj_m) (by kcj_m) (by kcj_m) hx; obtain ⟨hz, hw, hv⟩ := hA; (first | have := hw _ f1 | have := hv _ f1); clear hw hv hx; rename H1 _ = some _ => hq) | (have hA := Ur.adv6 s1 (by kcj_m) (by kcj_m) (by kcj_m) (by kcj_m) (by kcj_m) (by kcj_m) hx; obtain ⟨hz, hw, hv⟩ := hA; (first | have := hw _ f1 | have := hv _ f1); clear hw hv hx; rename H1 _ = some _ => hq) | (have hA := Ur.adv7 s1 (by kcj_m) (by kcj_m) (by kcj_m) (by kcj_m) (by kcj_m) (by kcj_m) (by kcj_m) hx; obtain ⟨hz, hw, hv⟩ := hA; (first | have := hw _ f1 | have := hv _ f1); clear hw hv hx; rename H1 _ = some _ => hq) | clear hx)
    tb_start
    intro na H2 e2 s2 f2
    have eo2 := s2 o _ upd_same
    have hf2 := upd_none (s1.free (upd_none f2))
    have ho2 : o ≠ na := by kcj_m
    repeat (rename H1 _ = some _ => hx; first | (have hA := Ur.adv0 s2 hx; obtain ⟨hz, hw, hv⟩ := hA; (first | have := hw _ f2 | have := hv _ f2); clear hw hv hx; rename H2 _ = some _ => hq) | (have hA := Ur.adv1 s2 (by kcj_m) hx; obtain ⟨hz, hw, hv⟩ := hA; (first | have := hw _ f2 | have := hv _ f2); clear hw hv hx; rename H2 _ = some _ => hq) | (have hA := Ur.adv2 s2 (by kcj_m) (by kcj_m) hx; obtain ⟨hz, hw, hv⟩ := hA; (first | have := hw _ f2 | have := hv _ f2); clear hw hv hx; rename H2 _ = some _ => hq) | (have hA := Ur.adv3 s2 (by kcj_m) (by kcj_m) (by kcj_m) hx; obtain ⟨hz, hw, hv⟩ := hA; (first | have := hw _ f2 | have := hv _ f2); clear hw hv hx; rename H2 _ = some _ => hq) | (have hA := Ur.adv4 s2 (by kcj_m) (by kcj_m) (by kcj_m) (by kcj_m) hx; obtain ⟨hz, hw, hv⟩ := hA; (first | have := hw _ f2 | have := hv _ f2); clear hw hv hx; rename H2 _ = some _ => hq) | (have hA := Ur.adv5 s2 (by kcj_m) (by kcj_m) (by kcj_m) (by kcj_m) (by kcj_m) hx; obtain ⟨hz, hw, hv⟩ := hA; (first | have := hw _ f2 | have := hv _ f2); clear hw hv hx; rename H2 _ = some _ => hq) | (have hA := Ur.adv6 s2 (by kcj_m) (by kcj_m) (by kcj_m) (by kcj_m) (by kcj_m) (by kcj_m) hx; obtain ⟨hz, hw, hv⟩ := hA; (first | have := hw _ f2 | have := hv _ f2); clear hw hv hx; rename H2 _ = some _ => hq) | (have hA := Ur.adv7 s2 (by kcj_m) (by kcj_m) (by kcj_m) (by kcj_m) (by kcj_m) (by kcj_m) (by kcj_m) hx; obtain ⟨hz, hw, hv⟩ := hA; (first | have := hw _ f2 | have := hv _ f2); clear hw hv hx; rename H2 _ = some _ => hq) | clear hx)
    tb_start
    exact q la na _ (show _ = some (.ins A.c_Ready dx (rdyF _ la na)) from upd_same) (by kct_strs) (by kct_strs) hf1 hf2 (by cc_are)
end
/-- a row made ready, where it is made -/
theorem mk_rdy {K : PySem.W.Frag} {C a x dx : Addr} {H : Hp} {ns : List Int} {R : Hp → Prop} {E : XK} (nx : H x = none) (nd : H dx = none) (ne : dx ≠ x) (ha : H a = some (.lst (ns.map V.int))) (hl : ns.length ≤ 1000)
    (q : ∀ H', Rdy C (fun b => H b ≠ none) H' x ns → Same H H' → R H') :
    sp_Ready___init__ K C ([.ref x, .ref a]) (upd (upd H dx (.own x)) x (.ins C dx [])) (fun v H2 => v = .non ∧ R H2) E := by
  have s1 : Same H (upd (upd H dx (.own x)) x (.ins C dx [])) := same_upd' nx (same_new nd)
  refine ⟨x, a, dx, ns, rfl, upd_same, s1 _ _ ha, hl, fun la na H' e1 e2 e3 n1 n2 b => ⟨rfl, ?_⟩⟩
  have s2 : Same H H' := same_but b nx s1
  refine q H' ⟨dx, la, na, e1, e2, e3, fun b hb => ?_⟩ s2
  refine ⟨fun e => hb (e ▸ nx), fun e => hb (e ▸ s1.free n1), fun e => hb (e ▸ s1.free n2)⟩
end Ur
namespace Ur
open PySem L2
/-- the next number of a purse, or 0 -/
def sp__law_next (K : PySem.W.Frag) : Sp := fun vs H Q _ => ∃ (a : Addr) (ns : List Int), vs = [.ref a] ∧ H a = some (.lst (ns.map V.int)) ∧ (∀ x ∈ ns, 0 ≤ x) ∧ ∀ (n : Int) (ms : List Int) H', 0 ≤ n → (∀ x ∈ ms, 0 ≤ x) → H' a = some (.lst (ms.map V.int)) → But a H H' → Q (.int n) H'
section
variable {P : Program} {w : World} {K : PySem.W.Frag} {mg : Str → Option Value} {base : Heap} {A : Adr}
theorem ok__law_next (T : Txt K mg A) : FnOk P w K mg base CX0 1 A.f__law_next A.d__law_next ["purse"] (sp__law_next K) := by
  refine T.F__law_next.ok sc__law_next (fun vs H Q E h => ?_) (fun cdv Ar outer s H vs Q E hr h => ?_)
  · obtain ⟨a, ns, rfl, _⟩ := h
    rfl
  · obtain ⟨a, ns, rfl, ha, hp, q⟩ := h
    refine ⟨_, (pss_cons (ps_if (pt_cmpR (Ur.op_eqDK (K := K) rfl hr.units) (pv 0) (pe_lst pa_nil) (nomark _)) (pss_one (ps_ret pe_int)) pss_nil)
    (pss_one (ps_ret (pe_bm0 PySem.F.plainAttrs_list PySem.F.slot_list_pop PySem.F.type_list_pop mt_pop (pv 0))))), ?_⟩
    tb_start
    intro p np
    have hap : a ≠ p := by kcj_m
    tb_start
    refine br (fun hq => ?_) (fun hq => ?_)
    · tb_start
      exact q 0 ns _ (by omega) hp (by kct_strs) (by cc_are)
    · have hpos : 0 < ns.length := by
        cases ns with
        | nil => exact absurd rfl hq
        | cons y ns => exact Nat.succ_pos _
      have e : (ns.map V.int)[(ns.map V.int).length - 1]? = some (V.int (ns.getD (ns.length - 1) 0)) := by
        rw [List.length_map]
        exact iv_get' (get_of (by omega))
      have em : (ns.map V.int).dropLast = ns.dropLast.map V.int := by rw [List.map_dropLast]
      tb_start
      exact q _ ns.dropLast _ (hp _ (List.mem_of_getElem? (get_of (by omega)))) (fun x hx => hp x ((List.dropLast_sublist ns).mem hx)) (lst_cast (by kct_strs) em) (by cc_are)
end
end Ur
namespace Ur
open PySem L2
/-- whether a thing is a whole number -/
def sp_is_whole (K : PySem.W.Frag) : Sp := fun vs H Q _ => ∃ (v : V) (b : Bool), vs = [v] ∧ IsW H v b ∧ Q (.bl b) H
section
variable {P : Program} {w : World} {K : PySem.W.Frag} {mg : Str → Option Value} {base : Heap} {A : Adr}
theorem ok_is_whole (T : Txt K mg A) : FnOk P w K mg base CX0 1 A.f_is_whole A.d_is_whole ["thing"] (sp_is_whole K) := by
  refine T.F_is_whole.ok sc_is_whole (fun vs H Q E h => ?_) (fun cdv Ar outer s H vs Q E hr h => ?_)
  · obtain ⟨v, b, rfl, _⟩ := h
    rfl
  · obtain ⟨v, b, rfl, hw, q⟩ := h
    refine ⟨_, (pss_one (ps_ret (pe_and (Ur.pe_b2 (Ur.call_isiK (K := K) rfl) (by rfl) T.m_isinstance (by decide +kernel) (pv 0) (pe_bltn (v := .ty "int") (by rfl) T.m_int (by decide +kernel) rfl)) (pe_one (pe_not (Ur.pe_b2 (Ur.call_isiK (K := K) rfl) (by rfl) T.m_isinstance (by decide +kernel) (pv 0) (pe_bltn (v := .ty "bool") (by rfl) T.m_bool (by decide +kernel) rfl))))))), ?_⟩
    rcases hw with ⟨rfl, i, rfl⟩ | ⟨rfl, hk, hn⟩
    · tb_start
      exact q
    · rcases hk with ⟨i, rfl⟩ | ⟨c, rfl⟩ | ⟨x, rfl⟩ | rfl | ⟨p, xs, rfl, hp⟩ | ⟨p, xs, rfl, hp⟩ | ⟨p, xs, rfl, hp⟩
      · exact (hn i rfl).elim
      all_goals
        tb_start
        exact q
end
end Ur
namespace Ur
open PySem L2
/-- a place is let by -/
def sp_Ready_need_place (K : PySem.W.Frag) (C : Addr) : Sp := fun vs H Q _ => ∃ (L : Addr → Prop) (o : Addr) (p : Int) (ns : List Int), vs = [.ref o, .int p] ∧ Rdy C L H o ns ∧ 0 ≤ p ∧ p ≤ ns.length ∧ Q .non H
section
variable {P : Program} {w : World} {K : PySem.W.Frag} {mg : Str → Option Value} {base : Heap} {A : Adr}
theorem ok_Ready_need_place (T : Txt K mg A) : FnOk P w K mg base CX0 2 A.f_Ready_need_place A.d_Ready_need_place ["self", "place"] (sp_Ready_need_place K A.c_Ready) := by
  have G_is_whole := ok_is_whole (P := P) (w := w) (base := base) T
  refine T.F_Ready_need_place.ok sc_Ready_need_place (fun vs H Q E h => ?_) (fun cdv Ar outer s H vs Q E hr h => ?_)
  · obtain ⟨L, o, p, ns, rfl, _⟩ := h
    rfl
  · have C_Ready := T.C_Ready
    have n_Ready_many := T.n_Ready_many
    have n_Ready_lasts := T.n_Ready_lasts
    have n_Ready_nexts := T.n_Ready_nexts
    obtain ⟨L, o, p, ns, rfl, r, h0, h1, q⟩ := h
    obtain ⟨dx, la, na, eo, el, en, _⟩ := r.all
    refine ⟨_, (pss_one (ps_if (PW.pt (pw_or (pt_not (pt_val (pe_call G_is_whole (hr.mono (by decide)) (by rfl) T.g_is_whole T.F_is_whole.kp T.b_is_whole .nil pass0 (pa_cons (pv 1) pa_nil)))) (pw_or1 (pt_not (pt_chain op_le op_le pe_int (pv 1) (Ur.pe_fldK (K := K) rfl (pv 0) rfl)))))) (pss_one Ur.ps_never) pss_nil)), ?_⟩
    tb_start
    trace_state
    exact q
end
end Ur
namespace Ur
open PySem L2
/-- the least behind of a window with so many unlike numbers -/
def sp_Ready_end_of (K : PySem.W.Frag) (C : Addr) : Sp := fun vs H Q _ => ∃ (L : Addr → Prop) (o : Addr) (f m : Int) (ns : List Int), vs = [.ref o, .int f, .int m] ∧ Rdy C L H o ns ∧ 0 ≤ f ∧ f ≤ ns.length ∧ ns.length ≤ 1000 ∧ Q (optV (endAt ns f.toNat m)) H
section
variable {P : Program} {w : World} {K : PySem.W.Frag} {mg : Str → Option Value} {base : Heap} {A : Adr}
theorem ok_Ready_end_of (T : Txt K mg A) : FnOk P w K mg base CX0 3 A.f_Ready_end_of A.d_Ready_end_of ["self", "first", "many"] (sp_Ready_end_of K A.c_Ready) := by
  have G_Ready_need_place := ok_Ready_need_place (P := P) (w := w) (base := base) T
  refine T.F_Ready_end_of.ok sc_Ready_end_of (fun vs H Q E h => ?_) (fun cdv Ar outer s H vs Q E hr h => ?_)
  · obtain ⟨L, o, f, m, ns, rfl, _⟩ := h
    rfl
  · have C_Ready := T.C_Ready
    have n_Ready_many := T.n_Ready_many
    have n_Ready_lasts := T.n_Ready_lasts
    have n_Ready_nexts := T.n_Ready_nexts
    obtain ⟨L, o, f, m, ns, rfl, r, h0, h1, hl, q⟩ := h
    obtain ⟨dx, la, na, eo, el, en, _⟩ := r.all
    have hlp := lastP_len ns
    refine ⟨_, (pss_cons (ps_expr (pe_meth (pv 0) T.C_Ready T.M_Ready_need_place G_Ready_need_place (hr.mono (by decide)) T.b_Ready_need_place .nil pass0 (pa_cons (pv 1) pa_nil)))
    (pss_cons (ps_set (i := 3) sc_Ready_end_of.nd rfl (Or.inl rfl) (pv 2))
    (pss_cons (ps_set (i := 4) sc_Ready_end_of.nd rfl (Or.inl rfl) (pv 1))
    (pss_cons (ps_while PassesOwn.never (pt_cmpR op_gt (pv 3) pe_int (nomark _)) (pss_cons (ps_if (pt_cmpR op_eq (pv 4) (Ur.pe_fldK (K := K) rfl (pv 0) rfl) (nomark _)) (pss_one (ps_ret pe_non)) pss_nil)
    (pss_cons (ps_aug (i := 3) sc_Ready_end_of.nd rfl (Or.inl rfl) (Ur.pe_t1 call_int1 (by rfl) T.m_int (by decide +kernel) (pe_cmpR op_lt (pe_ix (Ur.ix_listK (K := K) rfl) (Ur.pe_fldK (K := K) rfl (pv 0) rfl) (pv 4) (fun _ _ => rfl)) (pv 1) (nomark _))) ip_sub)
    (pss_one (ps_aug (i := 4) sc_Ready_end_of.nd rfl (Or.inl rfl) pe_int ip_add)))))
    (pss_one (ps_ret (pv 4))))))), ?_⟩
    tb_start
    refine while_ans (fun mu σ H' => Iv (∃ (b : Nat) (lf bh : Int), σ = [some (.ref o), some (.int f), some (.int m), some (.int lf), some (.int bh)] ∧ H' = H ∧ bh = b ∧ f.toNat ≤ b ∧ b ≤ ns.length ∧ mu = ns.length - b ∧ lf = m - (wunN ns f.toNat b : Int) ∧ endAt ns f.toNat m = endK ns f.toNat m (ns.length - b))) (ns.length - f.toNat) ?h0 ?hs
    case h0 => exact ⟨f.toNat, _, _, rfl, rfl, by omega, by omega, by omega, rfl, by rw [wunN_none]; omega, rfl⟩
    case hs =>
      rintro mu σ H' ⟨b, lf, bh, rfl, rfl, hbh, hb1, hb2, hmu, hlf, he⟩
      refine ⟨decide (0 < lf), fun Q' q' => ?_, fun hlt => ?_, fun hge => ?_⟩
      · tb_start
        exact q'
      · have hlt' := of_decide_eq_true hlt
        tb_start
        refine bri (fun hn => ?_) (fun hn => ?_)
        · have e0 : endAt ns f.toNat m = none := by
            rw [he, show ns.length - b = 0 from by omega]
            exact endK_none (by rw [show ns.length = b from by omega]; omega)
          rw [e0] at q
          tb_start
          exact q
        · have hb3 : b < ns.length := by omega
          have hlg : (lastP ns).getD bh.toNat 0 = lp ns b := by rw [show bh.toNat = b from by omega]; exact lastP_getD hb3
          have hup : wunN ns f.toNat (b + 1) = wunN ns f.toNat b + if lp ns b < (f.toNat : Int) then 1 else 0 := wunN_up hb1 hb3
          tb_start
          have hc : decide ((lastP ns).getD bh.toNat 0 < f) = decide (lp ns b < (f.toNat : Int)) := by rw [hlg, show (f.toNat : Int) = f from by omega]
          refine ⟨b + 1, _, _, rfl, rfl, (show bh + 1 = _ by omega), by omega, by omega, rfl, ?_, ?_⟩
          · rw [hc, hup, hlf]
            show m - (wunN ns f.toNat b : Int) - _ = _
            by_cases hq : lp ns b < (f.toNat : Int)
            · rw [if_pos (decide_eq_true hq), if_pos hq]; omega
            · rw [if_neg (by rw [decide_eq_false hq]; exact Bool.false_ne_true), if_neg hq]; omega
          · rw [he, show ns.length - b = (ns.length - (b + 1)) + 1 from by omega]
            exact endK_no (by rw [show ns.length - (ns.length - (b + 1) + 1) = b from by omega]; omega)
          · omega
      · have hge' := of_decide_eq_false hge
        have e0 : endAt ns f.toNat m = some b := by
          rw [he]
          have := endK_yes (ns := ns) (f := f.toNat) (k := ns.length - b) (m := m) (by rw [show ns.length - (ns.length - b) = b from by omega]; omega)
          rw [this, show ns.length - (ns.length - b) = b from by omega]
        rw [e0] at q
        subst hbh
        tb_start
        exact q
end
end Ur
namespace Ur
open PySem L2
/-- a window is let by -/
def sp_Ready_need_window (K : PySem.W.Frag) (C : Addr) : Sp := fun vs H Q _ => ∃ (L : Addr → Prop) (o : Addr) (f b : Int) (ns : List Int), vs = [.ref o, .int f, .int b] ∧ Rdy C L H o ns ∧ 0 ≤ f ∧ f ≤ b ∧ b ≤ ns.length ∧ Q .non H
section
variable {P : Program} {w : World} {K : PySem.W.Frag} {mg : Str → Option Value} {base : Heap} {A : Adr}
theorem ok_Ready_need_window (T : Txt K mg A) : FnOk P w K mg base CX0 3 A.f_Ready_need_window A.d_Ready_need_window ["self", "first", "behind"] (sp_Ready_need_window K A.c_Ready) := by
  have G_Ready_need_place := ok_Ready_need_place (P := P) (w := w) (base := base) T
  refine T.F_Ready_need_window.ok sc_Ready_need_window (fun vs H Q E h => ?_) (fun cdv Ar outer s H vs Q E hr h => ?_)
  · obtain ⟨L, o, f, b, ns, rfl, _⟩ := h
    rfl
  · have C_Ready := T.C_Ready
    have n_Ready_many := T.n_Ready_many
    have n_Ready_lasts := T.n_Ready_lasts
    have n_Ready_nexts := T.n_Ready_nexts
    obtain ⟨L, o, f, b, ns, rfl, r, h0, h1, h2, q⟩ := h
    obtain ⟨dx, la, na, eo, el, en, _⟩ := r.all
    refine ⟨_, (pss_cons (ps_expr (pe_meth (pv 0) T.C_Ready T.M_Ready_need_place G_Ready_need_place (hr.mono (by decide)) T.b_Ready_need_place .nil pass0 (pa_cons (pv 1) pa_nil)))
    (pss_cons (ps_expr (pe_meth (pv 0) T.C_Ready T.M_Ready_need_place G_Ready_need_place (hr.mono (by decide)) T.b_Ready_need_place .nil pass0 (pa_cons (pv 2) pa_nil)))
    (pss_one (ps_if (pt_cmpR op_gt (pv 1) (pv 2) (nomark _)) (pss_one Ur.ps_never) pss_nil)))), ?_⟩
    tb_start
    trace_state
    exact q
end
end Ur
namespace Ur
open PySem L2
/-- how many unlike numbers a window has -/
def sp_Ready_unlike (K : PySem.W.Frag) (C : Addr) : Sp := fun vs H Q _ => ∃ (L : Addr → Prop) (o : Addr) (f b : Int) (ns : List Int), vs = [.ref o, .int f, .int b] ∧ Rdy C L H o ns ∧ 0 ≤ f ∧ f ≤ b ∧ b ≤ ns.length ∧ ns.length ≤ 1000 ∧ ∀ H', Same H H' → Q (.int (wun ns f b : Nat)) H'
section
variable {P : Program} {w : World} {K : PySem.W.Frag} {mg : Str → Option Value} {base : Heap} {A : Adr}
theorem ok_Ready_unlike (T : Txt K mg A) : FnOk P w K mg base CX0 4 A.f_Ready_unlike A.d_Ready_unlike ["self", "first", "behind"] (sp_Ready_unlike K A.c_Ready) := by
  have G_Ready_need_window := ok_Ready_need_window (P := P) (w := w) (base := base) T
  refine T.F_Ready_unlike.ok sc_Ready_unlike (fun vs H Q E h => ?_) (fun cdv Ar outer s H vs Q E hr h => ?_)
  · obtain ⟨L, o, f, b, ns, rfl, _⟩ := h
    rfl
  · have C_Ready := T.C_Ready
    have n_Ready_many := T.n_Ready_many
    have n_Ready_lasts := T.n_Ready_lasts
    have n_Ready_nexts := T.n_Ready_nexts
    obtain ⟨L, o, f, b, ns, rfl, r, h0, h1, h2, hl, q⟩ := h
    obtain ⟨dx, la, na, eo, el, en, _⟩ := r.all
    have hlp := lastP_len ns
    refine ⟨_, (pss_cons (ps_expr (pe_meth (pv 0) T.C_Ready T.M_Ready_need_window G_Ready_need_window (hr.mono (by decide)) T.b_Ready_need_window .nil pass0 (pa_cons (pv 1) (pa_cons (pv 2) pa_nil))))
    (pss_one (ps_ret (Ur.pe_b1 (Ur.call_lenIK (K := K) rfl) (by rfl) T.m_len (by decide +kernel) (pe_lc (own := [("last", 3)]) (g := gName 3) (by rfl) sc_Ready_unlike.nd (pi_list (pe_slice (Ur.sl_listK (K := K) rfl) (Ur.pe_fldK (K := K) rfl (pv 0) rfl) (po_some (pv 1)) (po_some (pv 2)))) (blkOk_by (own := [("last", 3)]) (N := ["self", "first", "behind", "last"]) (by kernel_rfl)) (fun _ _ _ _ _ => pg_name (i := 3) sc_Ready_unlike.nd rfl (Or.inl rfl)) (fun _ _ _ _ _ => pts_one (pt_cmpR op_lt (pv 3) (pv 1) (nomark _))) (fun _ _ _ _ _ => (pv 3))))))), ?_⟩
    tb_start
    intro p np
    tb_start
    intro D nD
    have hwl : (((lastP ns).drop f.toNat).take (b.toNat - f.toNat)).length ≤ 1000 := by rw [List.length_take, List.length_drop]; omega
    refine lc_intsIfI (ns := ((lastP ns).drop f.toNat).take (b.toNat - f.toNat)) (fun x => decide (x < f)) (fun x => x) (by omega) (by kct_strs) nD (fun _ => rfl) ?ht ?he ?hd
    case ht =>
      intro x H' hx s Q2 q2
      tb_start
      exact q2 _ (by kcj_in)
    case he =>
      intro x H' hx ht s Q2 q2
      tb_start
      exact q2 _ (by kcj_in)
    case hd =>
      intro H' s e
      tb_start
      rw [List.length_map, wun_lasts h0 h1 h2]
      exact q _ (by kcj_in)
end
end Ur
namespace Ur
open PySem L2
/-- a stretch as Ready tells its unlike numbers: True -/
def sp__law_stretch_right (K : PySem.W.Frag) (C : Addr) : Sp := fun vs H Q _ => ∃ (L : Addr → Prop) (o a p : Addr) (m : Int) (ns : List Int) (q3 : Int × Int × Int), vs = [.ref o, .ref a, .int m, .ref p] ∧ Rdy C L H o ns ∧ H a = some (.lst (ns.map V.int)) ∧ H p = some (.tup [.int q3.1, .int q3.2.1, .int q3.2.2]) ∧ q3 ∈ strL ns m ∧ 0 ≤ m ∧ ns.length ≤ 1000 ∧ ∀ H', Same H H' → Q (.bl true) H'
section
variable {P : Program} {w : World} {K : PySem.W.Frag} {mg : Str → Option Value} {base : Heap} {A : Adr}
theorem ok__law_stretch_right (T : Txt K mg A) : FnOk P w K mg base CX0 5 A.f__law_stretch_right A.d__law_stretch_right ["ready", "row", "many", "stretch"] (sp__law_stretch_right K A.c_Ready) := by
  have G_Ready_end_of := ok_Ready_end_of (P := P) (w := w) (base := base) T
  have G_Ready_unlike := ok_Ready_unlike (P := P) (w := w) (base := base) T
  refine T.F__law_stretch_right.ok sc__law_stretch_right (fun vs H Q E h => ?_) (fun cdv Ar outer s H vs Q E hr h => ?_)
  · obtain ⟨L, o, a, p, m, ns, q3, rfl, _⟩ := h
    rfl
  · have C_Ready := T.C_Ready
    have n_Ready_many := T.n_Ready_many
    have n_Ready_lasts := T.n_Ready_lasts
    have n_Ready_nexts := T.n_Ready_nexts
    obtain ⟨L, o, a, p, m, ns, q3, rfl, r, ha, hp, hq, hm, hl, q⟩ := h
    obtain ⟨f, e, w, rfl, h1, h2, h3, he, w1, w2, w3, w4⟩ := str_facts hm hq
    have hp2 : H p = some (.tup [.int f, .int e, .int w]) := hp
    clear hp hq
    have u1 : (wun ns f e : Int) = m := by rw [wun_nat ns rfl rfl]; exact w1
    have u2 : (wun ns f ((e : Int) - 1) : Int) = m - 1 := by rw [wun_nat ns (i := f) (j := e - 1) rfl (by omega)]; exact w2
    have u3 : (wun ns f w : Int) = m := by rw [wun_nat ns rfl rfl]; exact w3
    have he2 : endAt ns (f : Int).toNat m = some e := he
    obtain ⟨dx, la, na, eo, _⟩ := r.all
    refine ⟨_, (pss_cons (ps_asg (pv 3) (pg_tup (by rfl) (pgs_cons (pg_name (i := 4) sc__law_stretch_right.nd rfl (Or.inl rfl)) (pgs_cons (pg_name (i := 5) sc__law_stretch_right.nd rfl (Or.inl rfl)) (pgs_cons (pg_name (i := 6) sc__law_stretch_right.nd rfl (Or.inl rfl)) pgs_nil)))))
    (pss_cons (ps_if (pt_not (Ur.pt_chain4 op_le op_lt op_le op_le pe_int (pv 4) (pv 5) (pv 6) (Ur.pe_b1 (Ur.call_lenIK (K := K) rfl) (by rfl) T.m_len (by decide +kernel) (pv 1)))) (pss_one (ps_ret pe_bl)) pss_nil)
    (pss_cons (ps_if (PW.pt (pw_or (pt_cmpR op_ne (pe_meth (pv 0) T.C_Ready T.M_Ready_unlike G_Ready_unlike (hr.mono (by decide)) T.b_Ready_unlike .nil pass0 (pa_cons (pv 4) (pa_cons (pv 5) pa_nil))) (pv 2) (nomark _)) (pw_or1 (pt_cmpR op_ne (pe_meth (pv 0) T.C_Ready T.M_Ready_unlike G_Ready_unlike (hr.mono (by decide)) T.b_Ready_unlike .nil pass0 (pa_cons (pv 4) (pa_cons (pe_op op_sub (pv 5) pe_int) pa_nil))) (pe_op op_sub (pv 2) pe_int) (nomark _))))) (pss_one (ps_ret pe_bl)) pss_nil)
    (pss_cons (ps_if (PW.pt (pw_or (pt_cmpR op_ne (pe_meth (pv 0) T.C_Ready T.M_Ready_unlike G_Ready_unlike (hr.mono (by decide)) T.b_Ready_unlike .nil pass0 (pa_cons (pv 4) (pa_cons (pv 6) pa_nil))) (pv 2) (nomark _)) (pw_or1 (pt_cmpR op_ne (pe_meth (pv 0) T.C_Ready T.M_Ready_end_of G_Ready_end_of (hr.mono (by decide)) T.b_Ready_end_of .nil pass0 (pa_cons (pv 4) (pa_cons (pv 2) pa_nil))) (pv 5) (nomark _))))) (pss_one (ps_ret pe_bl)) pss_nil)
    (pss_one (ps_ret (pe_or (pe_cmpR op_eq (pv 6) (Ur.pe_b1 (Ur.call_lenIK (K := K) rfl) (by rfl) T.m_len (by decide +kernel) (pv 1)) (nomark _)) (pe_one (pe_cmpR op_eq (pe_meth (pv 0) T.C_Ready T.M_Ready_unlike G_Ready_unlike (hr.mono (by decide)) T.b_Ready_unlike .nil pass0 (pa_cons (pv 4) (pa_cons (pe_op op_add (pv 6) pe_int) pa_nil))) (pe_op op_add (pv 2) pe_int) (nomark _)))))))))), ?_⟩
    tb_start
    intro H1 s1
    rw [u1]
    have r1 := r.same s1
    have ha1 := s1 _ _ ha
    clear r eo ha
    obtain ⟨dx1, la1, na1, eo1, _⟩ := r1.all
    tb_start
    intro H2 s2
    rw [u2]
    have r2 := r1.same s2
    have ha2 := s2 _ _ ha1
    have s02 := s1.trans s2
    clear r1 eo1 ha1 s1 s2
    obtain ⟨dx2, la2, na2, eo2, _⟩ := r2.all
    tb_start
    intro H3 s3
    rw [u3]
    have r3 := r2.same s3
    have ha3 := s3 _ _ ha2
    have s03 := s02.trans s3
    clear r2 eo2 ha2 s02 s3
    obtain ⟨dx3, la3, na3, eo3, _⟩ := r3.all
    tb_start
    have hdec : (!decide (optV (some e) = V.int (e : Int))) = false := by rw [decide_eq_true (show optV (some e) = V.int (e : Int) from rfl)]; rfl
    rw [he2, hdec]
    by_cases hw : w = ns.length
    · tb_start
      rw [if_pos (decide_eq_true (congrArg (fun n : Nat => V.int n) hw))]
      exact q _ s03
    · have u4 : (wun ns f ((w : Int) + 1) : Int) = m + 1 := by
        rw [wun_nat ns (i := f) (j := w + 1) rfl (by omega)]
        exact w4.resolve_left hw
      tb_start
      rw [if_neg (fun h => hw (by have z := of_decide_eq_true h; injection z with z; omega))]
      tb_start
      intro H4 s4
      rw [u4]
      tb_start
      rw [decide_eq_true (show V.int (m + 1) = (fun i j => V.int (i + j)) m 1 from rfl)]
      exact q _ (s03.trans s4)
    rw [he2]
    rfl
end
end Ur
namespace Ur
open PySem L2
/-- nothing is held -/
def sp_Held___init__ (K : PySem.W.Frag) (C : Addr) : Sp := fun vs H Q _ => ∃ (o dx : Addr), vs = [.ref o] ∧ H o = some (.ins C dx []) ∧ ∀ d H', H' o = some (.ins C dx (hldF d)) → H' d = some (.dK []) → H d = none → d ≠ o → But o H H' → Q .non H'
section
variable {P : Program} {w : World} {K : PySem.W.Frag} {mg : Str → Option Value} {base : Heap} {A : Adr}
theorem ok_Held___init__ (T : Txt K mg A) : FnOk P w K mg base CX0 1 A.f_Held___init__ A.d_Held___init__ ["self"] (sp_Held___init__ K A.c_Held) := by
  refine T.F_Held___init__.ok sc_Held___init__ (fun vs H Q E h => ?_) (fun cdv Ar outer s H vs Q E hr h => ?_)
  · obtain ⟨o, dx, rfl, _⟩ := h
    rfl
  · have C_Held := T.C_Held
    have n_Held_times := T.n_Held_times
    obtain ⟨o, dx, rfl, eo, q⟩ := h
    refine ⟨_, (pss_one (ps_fld (pv 0) pe_dnewK rfl)), ?_⟩
    tb_start
    intro d nd
    have hod : o ≠ d := by kcj_m
    tb_start
    exact q d _ (show _ = some (.ins A.c_Held dx (hldF d)) from upd_same) (by kct_strs) nd (Ne.symm hod) (by cc_are)
end
theorem mk_held {K : PySem.W.Frag} {C x dx : Addr} {H : Hp} {R : Hp → Prop} {E : XK} (nx : H x = none) (nd : H dx = none) (ne : dx ≠ x)
    (q : ∀ d H', H' x = some (.ins C dx (hldF d)) → H' d = some (.dK []) → H d = none → d ≠ x → Same H H' → R H') :
    sp_Held___init__ K C [.ref x] (upd (upd H dx (.own x)) x (.ins C dx [])) (fun v H2 => v = .non ∧ R H2) E := by
  have s1 : Same H (upd (upd H dx (.own x)) x (.ins C dx [])) := same_upd' nx (same_new nd)
  exact ⟨x, dx, rfl, upd_same, fun d H' e1 e2 n1 n2 b => ⟨rfl, q d H' e1 e2 (s1.free n1) n2 (same_but b nx s1)⟩⟩
end Ur
namespace Ur
open PySem L2
/-- a number comes -/
def sp_Held_come (K : PySem.W.Frag) (C : Addr) : Sp := fun vs H Q _ => ∃ (o dx d : Addr) (kvs : List (Key × V)) (W : List Int) (x : Int), vs = [.ref o, .int x] ∧ H o = some (.ins C dx (hldF d)) ∧ H d = some (.dK kvs) ∧ Cnt kvs W ∧ W.length ≤ 1000 ∧ ∀ kvs', Cnt kvs' (W ++ [x]) → Q .non (upd H d (.dK kvs'))
section
variable {P : Program} {w : World} {K : PySem.W.Frag} {mg : Str → Option Value} {base : Heap} {A : Adr}
theorem ok_Held_come (T : Txt K mg A) : FnOk P w K mg base CX0 1 A.f_Held_come A.d_Held_come ["self", "number"] (sp_Held_come K A.c_Held) := by
  refine T.F_Held_come.ok sc_Held_come (fun vs H Q E h => ?_) (fun cdv Ar outer s H vs Q E hr h => ?_)
  · obtain ⟨o, dx, d, kvs, W, x, rfl, _⟩ := h
    rfl
  · have C_Held := T.C_Held
    have n_Held_times := T.n_Held_times
    obtain ⟨o, dx, d, kvs, W, x, rfl, eo, ed, c, hl, q⟩ := h
    have hul := ulen_le W
    have hcl := c.len
    have h0 := c.get0 x
    refine ⟨_, (pss_one (ps_dput (hu_of hr) (Ur.pe_fldK (K := K) rfl (pv 0) rfl) (pv 1) (pe_op op_add (pe_dget2 (hu_of hr) (Ur.pe_fldK (K := K) rfl (pv 0) rfl) (pv 1) pe_int ⟨rfl, rfl, rfl, rfl⟩) pe_int) rfl)), ?_⟩
    tb_start
    exact q _ (c.come x)
end
end Ur
namespace Ur
open PySem L2
/-- the first number goes -/
def sp_Held_gone (K : PySem.W.Frag) (C : Addr) : Sp := fun vs H Q _ => ∃ (o dx d : Addr) (kvs : List (Key × V)) (W : List Int) (x : Int), vs = [.ref o, .int x] ∧ H o = some (.ins C dx (hldF d)) ∧ H d = some (.dK kvs) ∧ Cnt kvs (x :: W) ∧ W.length ≤ 1000 ∧ ∀ kvs' H', Cnt kvs' W → H' d = some (.dK kvs') → But d H H' → Q .non H'
section
variable {P : Program} {w : World} {K : PySem.W.Frag} {mg : Str → Option Value} {base : Heap} {A : Adr}
theorem ok_Held_gone (T : Txt K mg A) : FnOk P w K mg base CX0 1 A.f_Held_gone A.d_Held_gone ["self", "number"] (sp_Held_gone K A.c_Held) := by
  refine T.F_Held_gone.ok sc_Held_gone (fun vs H Q E h => ?_) (fun cdv Ar outer s H vs Q E hr h => ?_)
  · obtain ⟨o, dx, d, kvs, W, x, rfl, _⟩ := h
    rfl
  · have C_Held := T.C_Held
    have n_Held_times := T.n_Held_times
    obtain ⟨o, dx, d, kvs, W, x, rfl, eo, ed, c, hl, q⟩ := h
    have hod : o ≠ d := by kcj_m
    have hul := ulen_le (x :: W)
    rw [List.length_cons] at hul
    have hcl := c.len
    have hv : valV kvs (Sum.inl x) = some (.int ((x :: W).count x : Nat)) := by rw [c.val, if_pos List.mem_cons_self]
    have hg : DGet H d (.int x) (some (.int ((x :: W).count x : Nat))) := dget_some ed hv
    have hv2 : valV (putK kvs (Sum.inl x) (.int (((x :: W).count x : Nat) - 1 : Int))) (Sum.inl x) = some (.int (((x :: W).count x : Nat) - 1 : Int)) := by rw [val_put, if_pos rfl]
    have hg2 : DGet (upd H d (.dK (putK kvs (Sum.inl x) (.int (((x :: W).count x : Nat) - 1 : Int))))) d (.int x) (some (.int (((x :: W).count x : Nat) - 1 : Int))) := dget_some upd_same hv2
    have hcp := count_self_pos (W := W) (x := x)
    refine ⟨_, (pss_cons (ps_daug (hu_of hr) (Ur.pe_fldK (K := K) rfl (pv 0) rfl) (pv 1) pe_int in_sub (fun _ _ _ => rfl))
    (pss_one (ps_if (pt_cmpR op_eq (pe_dget (hu_of hr) (Ur.pe_fldK (K := K) rfl (pv 0) rfl) (pv 1) (fun _ _ => rfl)) pe_int (nomark _)) (pss_one (ps_expr (pe_dpop1 (Ur.pe_fldK (K := K) rfl (pv 0) rfl) (pv 1) ⟨rfl, rfl, rfl, rfl⟩))) pss_nil))), ?_⟩
    tb_start
    refine bri (fun h => ?_) (fun h => ?_)
    · have hx : x ∉ W := fun k => by
        have := List.count_pos_iff.mpr k
        omega
      tb_start
      exact q _ _ (c.gone hx _) upd_same (by cc_are)
    · have hx : x ∈ W := List.count_pos_iff.mp (by omega)
      tb_start
      exact q _ _ (c.less hx) upd_same (by cc_are)
end
end Ur
namespace Ur
open PySem L2
/-- how many unlike numbers there are -/
def sp_Held_unlike (K : PySem.W.Frag) (C : Addr) : Sp := fun vs H Q _ => ∃ (o dx d : Addr) (kvs : List (Key × V)) (W : List Int), vs = [.ref o] ∧ H o = some (.ins C dx (hldF d)) ∧ H d = some (.dK kvs) ∧ Cnt kvs W ∧ Q (.int (ulen W : Nat)) H
section
variable {P : Program} {w : World} {K : PySem.W.Frag} {mg : Str → Option Value} {base : Heap} {A : Adr}
theorem ok_Held_unlike (T : Txt K mg A) : FnOk P w K mg base CX0 1 A.f_Held_unlike A.d_Held_unlike ["self"] (sp_Held_unlike K A.c_Held) := by
  refine T.F_Held_unlike.ok sc_Held_unlike (fun vs H Q E h => ?_) (fun cdv Ar outer s H vs Q E hr h => ?_)
  · obtain ⟨o, dx, d, kvs, W, rfl, _⟩ := h
    rfl
  · have C_Held := T.C_Held
    have n_Held_times := T.n_Held_times
    obtain ⟨o, dx, d, kvs, W, rfl, eo, ed, c, q⟩ := h
    refine ⟨_, (pss_one (ps_ret (Ur.pe_b1 call_lenD (by rfl) T.m_len (by decide +kernel) (Ur.pe_fldK (K := K) rfl (pv 0) rfl)))), ?_⟩
    tb_start
    exact qint q (by rw [c.len])
end
end Ur
namespace Ur
open PySem L2
/-- for each first place the least behind with so many unlike numbers, or None: a new list -/
def sp_ends_by (K : PySem.W.Frag) : Sp := fun vs H Q _ => ∃ (a : Addr) (ns : List Int) (m : Int), vs = [.ref a, .int m] ∧ SqL K H a (ns.map V.int) ∧ ns.length ≤ 1000 ∧ 1 ≤ m ∧ ∀ p H', H' p = some (.lst ((List.range ns.length).map fun f => optV (endAt ns f m))) → Same H H' → H p = none → Q (.ref p) H'
section
variable {P : Program} {w : World} {K : PySem.W.Frag} {mg : Str → Option Value} {base : Heap} {A : Adr}
theorem ok_ends_by (T : Txt K mg A) : FnOk P w K mg base CX0 3 A.f_ends_by A.d_ends_by ["row", "many"] (sp_ends_by K) := by
  have G_Held___init__ := ok_Held___init__ (P := P) (w := w) (base := base) T
  have G_Held_come := ok_Held_come (P := P) (w := w) (base := base) T
  have G_Held_gone := ok_Held_gone (P := P) (w := w) (base := base) T
  have G_Held_unlike := ok_Held_unlike (P := P) (w := w) (base := base) T
  refine T.F_ends_by.ok sc_ends_by (fun vs H Q E h => ?_) (fun cdv Ar outer s H vs Q E hr h => ?_)
  · obtain ⟨a, ns, m, rfl, _⟩ := h
    rfl
  · have C_Held := T.C_Held
    have n_Held_times := T.n_Held_times
    obtain ⟨a, ns, m, rfl, ha, hl, hm, q⟩ := h
    refine ⟨_, (pss_cons (ps_set (i := 2) sc_ends_by.nd rfl (Or.inl rfl) (pe_make0 T.M_Held G_Held___init__ (hr.mono (by decide)) (by rfl) T.g_Held T.b_Held___init__ .nil pass0))
    (pss_cons (ps_set (i := 3) sc_ends_by.nd rfl (Or.inl rfl) pe_int)
    (pss_cons (ps_set (i := 4) sc_ends_by.nd rfl (Or.inl rfl) (pe_lst pa_nil))
    (pss_cons (ps_for PassesOwn.never (by rfl) (pi_list (pv 0)) (pg_name (i := 5) sc_ends_by.nd rfl (Or.inl rfl)) (pss_cons (ps_while PassesOwn.never (PW.pt (pw_and (pt_cmpR op_lt (pv 3) (Ur.pe_b1 (Ur.call_lenIK (K := K) rfl) (by rfl) T.m_len (by decide +kernel) (pv 0)) (nomark _)) (pw_and1 (pt_cmpR op_lt (pe_meth0 (pv 2) T.C_Held T.M_Held_unlike G_Held_unlike (hr.mono (by decide)) T.b_Held_unlike .nil pass0) (pv 1) (nomark _))))) (pss_cons (ps_expr (pe_meth (pv 2) T.C_Held T.M_Held_come G_Held_come (hr.mono (by decide)) T.b_Held_come .nil pass0 (pa_cons (pe_ix (Ur.ix_listK (K := K) rfl) (pv 0) (pv 3) (fun _ _ => rfl)) pa_nil)))
    (pss_one (ps_aug (i := 3) sc_ends_by.nd rfl (Or.inl rfl) pe_int ip_add))))
    (pss_cons (ps_expr (pe_bm PySem.F.plainAttrs_list PySem.F.slot_list_append PySem.F.type_list_append mt_append (pv 4) (pa_cons (pe_ifExp (pt_cmpR op_eq (pe_meth0 (pv 2) T.C_Held T.M_Held_unlike G_Held_unlike (hr.mono (by decide)) T.b_Held_unlike .nil pass0) (pv 1) (nomark _)) (pv 3) pe_non) pa_nil)))
    (pss_one (ps_expr (pe_meth (pv 2) T.C_Held T.M_Held_gone G_Held_gone (hr.mono (by decide)) T.b_Held_gone .nil pass0 (pa_cons (pv 5) pa_nil)))))))
    (pss_one (ps_ret (pv 4))))))), ?_⟩
    tb_start
    intro x dx nx ndx ne
    refine mk_held nx ndx ne (fun d H1 ex ed nd nxd s1 => ?_)
    tb_start
    intro fo nfo
    have hxfo : x ≠ fo := by kcj_m
    have hdfo : d ≠ fo := by kcj_m
    have nxH : H x = none := nx
    tb_start
    refine for_ints (ns := ns) (fun f σ H' => Iv (∃ (b : Nat) (kvs : List (Key × V)) (u5 : Option V), σ = [some (.ref a), some (.int m), some (.ref x), some (.int b), some (.ref fo), u5] ∧ H' x = some (.ins A.c_Held dx (hldF d)) ∧ H' d = some (.dK kvs) ∧ Cnt kvs ((ns.drop f).take (b - f)) ∧ H' fo = some (.lst ((List.range f).map fun g => optV (endAt ns g m))) ∧ f ≤ b ∧ b ≤ ns.length ∧ (wunN ns f b : Int) ≤ m ∧ (∀ j, f ≤ j → j < b → (wunN ns f j : Int) < m) ∧ Same H H')) ?i0 ?il ?is ?id
    case i0 =>
      refine ⟨0, [], _, rfl, by kct_strs, by kct_strs, Cnt.nil, upd_same, Nat.le_refl 0, Nat.zero_le _, ?_, fun j h1 h2 => by omega, by kcj_in⟩
      rw [wunN_none]
      show (0 : Int) ≤ m
      omega
    case il =>
      rintro f σ H' hf ⟨b, kvs, u5, rfl, ex, ed, c, ef, hfb, hb, hw, hj, s⟩
      exact s.seq ha
    case id =>
      rintro σ H' ⟨b, kvs, u5, rfl, ex, ed, c, ef, hfb, hb, hw, hj, s⟩
      tb_start
      exact q fo _ ef s (by cc_off)
    case is =>
      rintro f y σ H' hf ⟨b, kvs, u5, rfl, ex, ed, c, ef, hfb, hb, hw, hj, s⟩
      have hfn := (List.getElem?_eq_some_iff.mp hf).1
      tb_start
      refine while_iv (fun mu σ H' => Iv (∃ (b : Nat) (kvs : List (Key × V)), σ = [some (.ref a), some (.int m), some (.ref x), some (.int b), some (.ref fo), some (.int y)] ∧ H' x = some (.ins A.c_Held dx (hldF d)) ∧ H' d = some (.dK kvs) ∧ Cnt kvs ((ns.drop f).take (b - f)) ∧ H' fo = some (.lst ((List.range f).map fun g => optV (endAt ns g m))) ∧ f ≤ b ∧ b ≤ ns.length ∧ (wunN ns f b : Int) ≤ m ∧ (∀ j, f ≤ j → j < b → (wunN ns f j : Int) < m) ∧ mu = ns.length - b ∧ Same H H')) (ns.length - b) ?g0 ?gs
      case g0 => exact ⟨b, kvs, rfl, ex, ed, c, ef, hfb, hb, hw, hj, rfl, s⟩
      case gs =>
        clear hw hj hfb hb ef c ed ex s
        rintro mu σ H2 ⟨b, kvs, rfl, ex, ed, c, ef, hfb, hb, hw, hj, rfl, s⟩
        have ha2 := s.seq ha
        have hwl : ((ns.drop f).take (b - f)).length ≤ 1000 := by rw [List.length_take, List.length_drop]; omega
        refine ⟨decide (b < ns.length ∧ (wunN ns f b : Int) < m), fun Q' q' => ?_, fun hlt => ?_, fun hge => ?_⟩
        · tb_start
          refine br (fun h1 => ?_) (fun h1 => ?_)
          · tb_start
            exact qbl q' (decide_eq_decide.mpr ⟨fun h => ⟨by omega, h⟩, fun h => h.2⟩)
          · exact qbl q' (decide_eq_false (fun h => h1 (by have := h.1; omega))).symm
        · obtain ⟨h1, h2⟩ := of_decide_eq_true hlt
          have gb : ns.getD ((b : Nat) : Int).toNat 0 = ns.getD b 0 := rfl
          have e1 : (ns.drop f)[b - f]? = some (ns.getD b 0) := by rw [List.getElem?_drop, show f + (b - f) = b by omega]; exact get_of h1
          have st := wunN_step (ns := ns) hfb h1
          tb_start
          intro kvs' c'
          tb_start
          refine ⟨ns.length - (b + 1), by omega, b + 1, kvs', rfl, by kct_strs, by kct_strs, ?_, by kct_strs, by omega, by omega, by omega, fun j k1 k2 => ?_, rfl, ?_⟩
          · rw [show b + 1 - f = b - f + 1 by omega, take_snoc e1]
            exact c'
          · by_cases e : j = b
            · rw [e]; exact h2
            · exact hj j k1 (by omega)
          · exact same_upd' nd s
        · have hge' := of_decide_eq_false hge
          have hlt : f < b := by
            refine Nat.lt_of_le_of_ne hfb fun e => hge' ?_
            subst e
            refine ⟨hfn, ?_⟩
            rw [wunN_none]
            show (0 : Int) < m
            omega
          have ecut : (ns.drop f).take (b - f) = y :: (ns.drop (f + 1)).take (b - (f + 1)) := by
            obtain ⟨_, e⟩ := List.getElem?_eq_some_iff.mp hf
            rw [List.drop_eq_getElem_cons hfn, e, show b - f = (b - (f + 1)) + 1 by omega, List.take_succ_cons]
          have ew : ulen (y :: (ns.drop (f + 1)).take (b - (f + 1))) = wunN ns f b := by rw [← ecut]; rfl
          rw [ecut] at c
          have hwl2 : ((ns.drop (f + 1)).take (b - (f + 1))).length ≤ 1000 := by rw [List.length_take, List.length_drop]; omega
          have st := wunN_stepD (ns := ns) hlt hb
          have hj2 : ∀ j, f + 1 ≤ j → j < b → (wunN ns (f + 1) j : Int) < m := fun j k1 k2 => by
            have k3 := wunN_stepD (ns := ns) (f := f) (b := j) (by omega) (by omega)
            have := hj j (by omega) k2
            omega
          have hln : ((List.range f).map fun g => optV (endAt ns g m)).length ≤ 1000 := by rw [List.length_map, List.length_range]; omega
          tb_start
          refine bri (fun he => ?_) (fun he => ?_)
          · have ee : endAt ns f m = some b := endAt_is (by omega) hb (by omega) (fun j k1 k2 => by have := hj j k1 k2; omega)
            tb_start
            intro kvs' H3 c' e3 b3
            tb_start
            refine ⟨b, kvs', _, rfl, by kct_strs, e3, c', lst_cast (by kct_strs) ?_, by omega, hb, by omega, hj2, by kcj_in⟩
            rw [List.range_succ, List.map_append, List.map_cons, ee]
            rfl
          · have hbn : b = ns.length := by omega
            have ee : endAt ns f m = none := endAt_none (by omega) (by rw [← hbn]; omega)
            tb_start
            intro kvs' H3 c' e3 b3
            tb_start
            refine ⟨b, kvs', _, rfl, by kct_strs, e3, c', lst_cast (by kct_strs) ?_, by omega, hb, by omega, hj2, by kcj_in⟩
            rw [List.range_succ, List.map_append, List.map_cons, ee]
            rfl
end
end Ur
namespace Ur
open PySem L2
/-- for each first place the greatest behind with at most so many: a new list -/
def sp_ends_within (K : PySem.W.Frag) : Sp := fun vs H Q _ => ∃ (a : Addr) (ns : List Int) (m : Int), vs = [.ref a, .int m] ∧ SqL K H a (ns.map V.int) ∧ ns.length ≤ 1000 ∧ 0 ≤ m ∧ ∀ p H', H' p = some (.lst (((List.range ns.length).map (wi ns m)).map V.int)) → Same H H' → H p = none → Q (.ref p) H'
section
variable {P : Program} {w : World} {K : PySem.W.Frag} {mg : Str → Option Value} {base : Heap} {A : Adr}
theorem ok_ends_within (T : Txt K mg A) : FnOk P w K mg base CX0 4 A.f_ends_within A.d_ends_within ["row", "many"] (sp_ends_within K) := by
  have G_ends_by := ok_ends_by (P := P) (w := w) (base := base) T
  refine T.F_ends_within.ok sc_ends_within (fun vs H Q E h => ?_) (fun cdv Ar outer s H vs Q E hr h => ?_)
  · obtain ⟨a, ns, m, rfl, _⟩ := h
    rfl
  · obtain ⟨a, ns, m, rfl, ha, hl, hm, q⟩ := h
    refine ⟨_, (pss_one (ps_ret (pe_lc (own := [("end", 2)]) (g := gName 2) (by rfl) sc_ends_within.nd (pi_list (pe_call G_ends_by (hr.mono (by decide)) (by rfl) T.g_ends_by T.F_ends_by.kp T.b_ends_by .nil pass0 (pa_cons (pv 0) (pa_cons (pe_op op_add (pv 1) pe_int) pa_nil)))) (blkOk_by (own := [("end", 2)]) (N := ["row", "many", "end"]) (by kernel_rfl)) (fun _ _ _ _ _ => pg_name (i := 2) sc_ends_within.nd rfl (Or.inl rfl)) (fun _ _ _ _ _ => pts_nil) (fun _ _ _ _ _ => (pe_ifExp (pt_cmpR op_isN (pv 2) pe_non (nomark _)) (Ur.pe_b1 (Ur.call_lenIK (K := K) rfl) (by rfl) T.m_len (by decide +kernel) (pv 0)) (pe_op op_sub (pv 2) pe_int)))))), ?_⟩
    tb_start
    intro p1 H1 e1 s1 n1
    have ha1 := s1.seq ha
    tb_start
    intro D nD
    refine lc_list (K := K) (a := p1) (xs := (List.range ns.length).map fun f => optV (endAt ns f (m + 1))) (fun i H' => Iv (H' D = some (.lst (((List.range i).map (wi ns m)).map V.int)) ∧ Same H1 H')) ⟨upd_same, same_new nD⟩ (fun i H' _ z => .of (z.out.2 _ _ e1)) (fun i x H' hx z => ?_) (fun H' z => ?_)
    · obtain ⟨eD, s⟩ := z.out
      have ha2 := s.seq ha1
      rw [List.getElem?_map] at hx
      obtain ⟨f, hf, rfl⟩ := Option.map_eq_some_iff.mp hx
      have hi := (List.getElem?_eq_some_iff.mp hf).1
      rw [List.length_range] at hi
      rw [List.getElem?_range hi] at hf
      cases hf
      refine ⟨rfl, tyes_ok ?_⟩
      have ew : wi ns m i = match endAt ns i (m + 1) with | none => (ns.length : Int) | some b => (b : Int) - 1 := rfl
      have hli : (((List.range i).map (wi ns m)).map V.int).length ≤ 1000 := by rw [List.length_map, List.length_map, List.length_range]; omega
      cases he : endAt ns i (m + 1) with
      | none =>
        rw [he] at ew
        tb_start
        exact ⟨lst_cast upd_same (by rw [List.range_succ, List.map_append, List.map_append, List.map_cons, ew]; rfl), same_upd' nD s⟩
      | some b =>
        rw [he] at ew
        tb_start
        exact ⟨lst_cast upd_same (by rw [List.range_succ, List.map_append, List.map_append, List.map_cons, ew]; rfl), same_upd' nD s⟩
    · obtain ⟨eD, s⟩ := z.out
      rw [List.length_map, List.length_range] at eD
      exact q D _ eD (by kcj_in) (by cc_off)
end
end Ur
namespace Ur
open PySem L2
/-- for each first place the least and the greatest behind of windows with just so many: a new list of new tuples -/
def sp_stretches (K : PySem.W.Frag) : Sp := fun vs H Q _ => ∃ (a : Addr) (ns : List Int) (m : Int), vs = [.ref a, .int m] ∧ SqL K H a (ns.map V.int) ∧ ns.length ≤ 1000 ∧ 0 ≤ m ∧ ∀ p ls H', H' p = some (.lst (ls.map V.ref)) → TripsF H' ls (strL ns m) → (∀ q ∈ ls, H q = none) → Same H H' → H p = none → Q (.ref p) H'
section
variable {P : Program} {w : World} {K : PySem.W.Frag} {mg : Str → Option Value} {base : Heap} {A : Adr}
theorem ok_stretches (T : Txt K mg A) : FnOk P w K mg base CX0 5 A.f_stretches A.d_stretches ["row", "many"] (sp_stretches K) := by
  have G_ends_by := ok_ends_by (P := P) (w := w) (base := base) T
  have G_ends_within := ok_ends_within (P := P) (w := w) (base := base) T
  refine T.F_stretches.ok sc_stretches (fun vs H Q E h => ?_) (fun cdv Ar outer s H vs Q E hr h => ?_)
  · obtain ⟨a, ns, m, rfl, _⟩ := h
    rfl
  · obtain ⟨a, ns, m, rfl, ha, hl, hm, q⟩ := h
    refine ⟨_, (pss_cons (ps_if (pt_cmpR op_eq (pv 1) pe_int (nomark _)) (pss_one (ps_ret (pe_lst pa_nil))) pss_nil)
    (pss_cons (ps_set (i := 2) sc_stretches.nd rfl (Or.inl rfl) (pe_lst pa_nil))
    (pss_cons (ps_set (i := 3) sc_stretches.nd rfl (Or.inl rfl) (pe_call G_ends_within (hr.mono (by decide)) (by rfl) T.g_ends_within T.F_ends_within.kp T.b_ends_within .nil pass0 (pa_cons (pv 0) (pa_cons (pv 1) pa_nil))))
    (pss_cons (ps_for PassesOwn.never (by rfl) (pi_enum (by rfl) T.m_enumerate (pa_cons (pe_call G_ends_by (hr.mono (by decide)) (by rfl) T.g_ends_by T.F_ends_by.kp T.b_ends_by .nil pass0 (pa_cons (pv 0) (pa_cons (pv 1) pa_nil))) pa_nil)) (pg_tup (by rfl) (pgs_cons (pg_name (i := 4) sc_stretches.nd rfl (Or.inl rfl)) (pgs_cons (pg_name (i := 5) sc_stretches.nd rfl (Or.inl rfl)) pgs_nil))) (pss_one (ps_if (pt_cmpR op_notN (pv 5) pe_non (nomark _)) (pss_one (ps_expr (pe_bm PySem.F.plainAttrs_list PySem.F.slot_list_append PySem.F.type_list_append mt_append (pv 2) (pa_cons (pe_tup (pa_cons (pv 4) (pa_cons (pv 5) (pa_cons (pe_ix (Ur.ix_listK (K := K) rfl) (pv 3) (pv 4) (fun _ _ => rfl)) pa_nil)))) pa_nil)))) pss_nil)))
    (pss_one (ps_ret (pv 2))))))), ?_⟩
    tb_start
    refine bri (fun h0 => ?_) (fun h0 => ?_)
    · tb_start
      intro p np
      subst h0
      exact q p [] _ upd_same TripsF.nil (fun q h => nomatch h) (by kcj_in) np
    tb_start
    intro fo nfo
    tb_start
    intro p1 H1 e1 s1 n1
    have ef1 := s1 _ _ upd_same
    have hf1 : fo ≠ p1 := by kcj_m
    have ha1 : SqL K H1 a (ns.map V.int) := s1.seq ((same_new nfo).seq ha)
    tb_start
    intro p2 H2 e2 s2 n2
    have ef2 := s2 _ _ ef1
    have e12 := s2 _ _ e1
    have hf2 : fo ≠ p2 := by kcj_m
    tb_start
    refine for_enum (xs := (List.range ns.length).map fun f => optV (endAt ns f m)) (fun i σ H' => Iv (∃ (u4 u5 : Option V) (ls : List Addr), σ = [some (.ref a), some (.int m), some (.ref fo), some (.ref p1), u4, u5] ∧ H' p2 = some (.lst ((List.range ns.length).map fun f => optV (endAt ns f m))) ∧ H' p1 = some (.lst (((List.range ns.length).map (wi ns m)).map V.int)) ∧ H' fo = some (.lst (ls.map V.ref)) ∧ TripsF H' ls (strK ns m i) ∧ (∀ q ∈ ls, H q = none) ∧ Same H H')) ?h0 ?hl ?hs ?hd
    case h0 => exact ⟨_, _, [], rfl, e2, e12, ef2, TripsF.nil, (fun q h => nomatch h), by kcj_in⟩
    case hl =>
      rintro i σ H' hi ⟨u4, u5, ls, rfl, e2, e1, ef, r, f, s⟩
      kct_strs
    case hd =>
      rintro σ H' ⟨u4, u5, ls, rfl, e2, e1, ef, r, f, s⟩
      rw [List.length_map, List.length_range] at r
      tb_start
      exact q fo ls _ ef (by unfold strL; rw [if_neg h0]; exact r) f s (by cc_off)
    case hs =>
      rintro i x σ H3 H4 hx ⟨u4, u5, ls, rfl, e2, e1, ef, r, f, s⟩ s4
      rw [List.getElem?_map] at hx
      obtain ⟨g, hg, rfl⟩ := Option.map_eq_some_iff.mp hx
      have hi := (List.getElem?_eq_some_iff.mp hg).1
      rw [List.length_range] at hi
      rw [List.getElem?_range hi] at hg
      cases hg
      have hsk := strK_s ns m i
      have hlk := strK_len ns m i
      have hrl := r.len
      have r4 := ObjsF.same r s4
      repeat (rename H3 _ = some _ => hx; first | (have hA := Ur.adv0 s4 hx; obtain ⟨hz, hw, hv⟩ := hA; clear hw hv hx; rename H4 _ = some _ => hq) | (have hA := Ur.adv1 s4 (by kcj_m) hx; obtain ⟨hz, hw, hv⟩ := hA; clear hw hv hx; rename H4 _ = some _ => hq) | (have hA := Ur.adv2 s4 (by kcj_m) (by kcj_m) hx; obtain ⟨hz, hw, hv⟩ := hA; clear hw hv hx; rename H4 _ = some _ => hq) | (have hA := Ur.adv3 s4 (by kcj_m) (by kcj_m) (by kcj_m) hx; obtain ⟨hz, hw, hv⟩ := hA; clear hw hv hx; rename H4 _ = some _ => hq) | (have hA := Ur.adv4 s4 (by kcj_m) (by kcj_m) (by kcj_m) (by kcj_m) hx; obtain ⟨hz, hw, hv⟩ := hA; clear hw hv hx; rename H4 _ = some _ => hq) | (have hA := Ur.adv5 s4 (by kcj_m) (by kcj_m) (by kcj_m) (by kcj_m) (by kcj_m) hx; obtain ⟨hz, hw, hv⟩ := hA; clear hw hv hx; rename H4 _ = some _ => hq) | (have hA := Ur.adv6 s4 (by kcj_m) (by kcj_m) (by kcj_m) (by kcj_m) (by kcj_m) (by kcj_m) hx; obtain ⟨hz, hw, hv⟩ := hA; clear hw hv hx; rename H4 _ = some _ => hq) | (have hA := Ur.adv7 s4 (by kcj_m) (by kcj_m) (by kcj_m) (by kcj_m) (by kcj_m) (by kcj_m) (by kcj_m) hx; obtain ⟨hz, hw, hv⟩ := hA; clear hw hv hx; rename H4 _ = some _ => hq) | clear hx)
      have sH4 := s.trans s4
      clear s s4
      have gx : ((List.range ns.length).map (wi ns m)).getD ((i : Nat) : Int).toNat 0 = wi ns m i := getD_of (by rw [Int.toNat_natCast, List.getElem?_map, List.getElem?_range hi]; rfl)
      have hll : ((List.range ns.length).map (wi ns m)).length = ns.length := by rw [List.length_map, List.length_range]
      cases he : endAt ns i m with
      | none =>
        rw [he] at hsk
        tb_start
        exact ⟨_, _, ls, rfl, by kct_strs, by kct_strs, by kct_strs, by rw [hsk, Option.map_none, Option.toList_none, List.append_nil]; exact r4, f, sH4⟩
      | some e =>
        rw [he] at hsk
        tb_start
        rw [gx]
        intro pt npt
        have hft : fo ≠ pt := by kcj_m
        have h1t : p1 ≠ pt := by kcj_m
        have h2t : p2 ≠ pt := by kcj_m
        have efH4 : H4 fo = some (.lst (ls.map V.ref)) := by kct_strs
        have fpt : H pt = none := by cc_off
        tb_start
        refine ⟨_, _, ls ++ [pt], rfl, by kct_strs, by kct_strs, ?_, ?_, fun q h => ?_, by kcj_in⟩
        · rw [upd_same, List.map_append]; rfl
        · rw [hsk]
          exact ObjsF.upd (TripsF.snoc (ObjsF.same r4 (same_new npt)) (q := ((i : Int), (e : Int), wi ns m i)) upd_same) ⟨fun z hz => by
            rcases List.mem_append.mp hz with h | h
            · exact (TripsF.offL r4 efH4).out z h
            · rw [List.mem_singleton.mp h]; exact Ne.symm hft⟩
        · rcases List.mem_append.mp h with h | h
          · exact f q h
          · rw [List.mem_singleton.mp h]; exact fpt
end
end Ur
namespace Ur
open PySem L2
/-- how many windows have just so many -/
def sp_how_many (K : PySem.W.Frag) : Sp := fun vs H Q _ => ∃ (a : Addr) (ns : List Int) (m : Int), vs = [.ref a, .int m] ∧ SqL K H a (ns.map V.int) ∧ ns.length ≤ 1000 ∧ 0 ≤ m ∧ ∀ H', Same H H' → Q (.int (hisN ns m)) H'
section
variable {P : Program} {w : World} {K : PySem.W.Frag} {mg : Str → Option Value} {base : Heap} {A : Adr}
theorem ok_how_many (T : Txt K mg A) : FnOk P w K mg base CX0 6 A.f_how_many A.d_how_many ["row", "many"] (sp_how_many K) := by
  have G_stretches := ok_stretches (P := P) (w := w) (base := base) T
  refine T.F_how_many.ok sc_how_many (fun vs H Q E h => ?_) (fun cdv Ar outer s H vs Q E hr h => ?_)
  · obtain ⟨a, ns, m, rfl, _⟩ := h
    rfl
  · obtain ⟨a, ns, m, rfl, ha, hl, hm, q⟩ := h
    refine ⟨_, (pss_one (ps_ret (Ur.pe_b1 (Ur.cr_sumK (K := K) rfl rfl) (by rfl) T.m_sum (by decide +kernel) (pe_lc (own := [("first", 2), ("least", 3), ("last", 4)]) (g := gTup K 3 (gCons (gName 2) (gCons (gName 3) (gCons (gName 4) gNil)))) (by rfl) sc_how_many.nd (pi_list (pe_call G_stretches (hr.mono (by decide)) (by rfl) T.g_stretches T.F_stretches.kp T.b_stretches .nil pass0 (pa_cons (pv 0) (pa_cons (pv 1) pa_nil)))) (blkOk_by (own := [("first", 2), ("least", 3), ("last", 4)]) (N := ["row", "many", "first", "least", "last"]) (by kernel_rfl)) (fun _ _ _ _ _ => Ur.pg_tupK (K := K) rfl (by rfl) (pgs_cons (pg_name (i := 2) sc_how_many.nd rfl (Or.inl rfl)) (pgs_cons (pg_name (i := 3) sc_how_many.nd rfl (Or.inl rfl)) (pgs_cons (pg_name (i := 4) sc_how_many.nd rfl (Or.inl rfl)) pgs_nil)))) (fun _ _ _ _ _ => pts_nil) (fun _ _ _ _ _ => (pe_op op_add (pe_op op_sub (pv 4) (pv 3)) pe_int)))))), ?_⟩
    tb_start
    intro p1 ls H1 e1 r f s1 n1
    have hsl := strL_len ns m
    have hrl := r.len
    tb_start
    intro D nD
    refine lc_list (K := K) (a := p1) (xs := ls.map V.ref) (fun i H' => Iv (H' D = some (.lst ((((strL ns m).take i).map fun q => q.2.2 - q.2.1 + 1).map V.int)) ∧ Same H1 H')) ⟨upd_same, same_new nD⟩ (fun i H' _ z => .of (z.out.2 _ _ e1)) (fun i x H' hx z => ?_) (fun H' z => ?_)
    · obtain ⟨eD, s⟩ := z.out
      rw [List.getElem?_map] at hx
      obtain ⟨l, hl2, rfl⟩ := Option.map_eq_some_iff.mp hx
      obtain ⟨h1, h2, h3⟩ := r.get hl2
      have e4 := s _ _ h3
      have hli : ((((strL ns m).take i).map fun q => q.2.2 - q.2.1 + 1).map V.int).length ≤ 1000 := by rw [List.length_map, List.length_map, List.length_take]; omega
      refine ⟨l, _, rfl, .of e4, rfl, _, _, rfl, _, _, rfl, _, _, rfl, rfl, rfl, tyes_ok ?_⟩
      tb_start
      exact ⟨lst_cast upd_same (by rw [List.take_add_one, h2, List.map_append, List.map_append]; rfl), same_upd' nD s⟩
    · obtain ⟨eD, s⟩ := z.out
      rw [List.length_map, hrl, List.take_length] at eD
      tb_start
      exact q _ (by kcj_in)
end
end Ur
namespace Ur
open PySem L2
/-- the longest window with just so many, or None -/
def sp_longest (K : PySem.W.Frag) : Sp := fun vs H Q _ => ∃ (a : Addr) (ns : List Int) (m : Int), vs = [.ref a, .int m] ∧ SqL K H a (ns.map V.int) ∧ ns.length ≤ 1000 ∧ 0 ≤ m ∧ ∀ v H', OptP H' v (lon ns m) → Same H H' → Q v H'
section
variable {P : Program} {w : World} {K : PySem.W.Frag} {mg : Str → Option Value} {base : Heap} {A : Adr}
theorem ok_longest (T : Txt K mg A) : FnOk P w K mg base CX0 6 A.f_longest A.d_longest ["row", "many"] (sp_longest K) := by
  have G_stretches := ok_stretches (P := P) (w := w) (base := base) T
  refine T.F_longest.ok sc_longest (fun vs H Q E h => ?_) (fun cdv Ar outer s H vs Q E hr h => ?_)
  · obtain ⟨a, ns, m, rfl, _⟩ := h
    rfl
  · obtain ⟨a, ns, m, rfl, ha, hl, hm, q⟩ := h
    refine ⟨_, (pss_cons (ps_set (i := 2) sc_longest.nd rfl (Or.inl rfl) pe_non)
    (pss_cons (ps_for PassesOwn.never (by rfl) (pi_list (pe_call G_stretches (hr.mono (by decide)) (by rfl) T.g_stretches T.F_stretches.kp T.b_stretches .nil pass0 (pa_cons (pv 0) (pa_cons (pv 1) pa_nil)))) (pg_tup (by rfl) (pgs_cons (pg_name (i := 3) sc_longest.nd rfl (Or.inl rfl)) (pgs_cons (pg_name (i := 4) sc_longest.nd rfl (Or.inl rfl)) (pgs_cons (pg_name (i := 5) sc_longest.nd rfl (Or.inl rfl)) pgs_nil)))) (pss_one (ps_if (PW.pt (pw_or (pt_cmpR op_isN (pv 2) pe_non (nomark _)) (pw_or1 (pt_cmpR op_gt (pe_op op_sub (pv 5) (pv 3)) (pe_op op_sub (pe_ix (Ur.ix_tupK (K := K) rfl) (pv 2) pe_int (fun _ _ => rfl)) (pe_ix (Ur.ix_tupK (K := K) rfl) (pv 2) pe_int (fun _ _ => rfl))) (nomark _))))) (pss_one (ps_set (i := 2) sc_longest.nd rfl (Or.inl rfl) (pe_tup (pa_cons (pv 3) (pa_cons (pv 5) pa_nil))))) pss_nil)))
    (pss_one (ps_ret (pv 2))))), ?_⟩
    tb_start
    intro p1 ls H1 e1 r f s1 n1
    have hrl := r.len
    tb_start
    refine for_list (xs := ls.map V.ref) (fun k σ H' => Iv (∃ (u3 u4 u5 : Option V) (v : V), σ = [some (.ref a), some (.int m), some v, u3, u4, u5] ∧ OptP H' v (lonL ((strL ns m).take k)) ∧ Same H1 H')) ?h0 ?hl ?hs ?hd
    case h0 => exact ⟨_, _, _, _, rfl, OptP.non, by kcj_in⟩
    case hl =>
      rintro k σ H' hk ⟨u3, u4, u5, v, rfl, ov, s⟩
      kct_strs
    case hd =>
      rintro σ H' ⟨u3, u4, u5, v, rfl, ov, s⟩
      rw [List.length_map, hrl, List.take_length] at ov
      tb_start
      exact q v _ ov (s1.trans s)
    case hs =>
      rintro k x σ H2 hx ⟨u3, u4, u5, v, rfl, ov, s⟩
      rw [List.getElem?_map] at hx
      obtain ⟨l, hl2, rfl⟩ := Option.map_eq_some_iff.mp hx
      obtain ⟨h1, h2, h3⟩ := r.get hl2
      have e4 := s _ _ h3
      have hts : (strL ns m).take (k + 1) = (strL ns m).take k ++ [(strL ns m).getD k (0, 0, 0)] := by rw [List.take_add_one, h2]; rfl
      refine ⟨l, _, rfl, .of e4, rfl, _, _, rfl, _, _, rfl, _, _, rfl, rfl, ?_⟩
      rcases ov.is with ⟨h5, rfl⟩ | ⟨bx, by_, pb, h5, rfl, h6⟩
      · tb_start
        intro p np
        refine ⟨_, _, _, _, rfl, ?_, by kcj_in⟩
        rw [hts, lonL_snoc, h5]
        exact OptP.pair upd_same
      · tb_start
        refine br (fun h => ?_) (fun h => ?_)
        · tb_start
          intro p np
          refine ⟨_, _, _, _, rfl, ?_, by kcj_in⟩
          rw [hts, lonL_snoc, h5]
          show OptP _ _ (if _ then _ else _)
          rw [if_pos (by show _ > by_ - bx; omega)]
          exact OptP.pair upd_same
        · refine ⟨_, _, _, _, rfl, ?_, s⟩
          rw [hts, lonL_snoc, h5]
          show OptP _ _ (if _ then _ else _)
          rw [if_neg (by show ¬ _ > by_ - bx; omega)]
          exact OptP.pair h6
end
end Ur
namespace Ur
open PySem L2
/-- the shortest window with just so many, or None -/
def sp_shortest (K : PySem.W.Frag) : Sp := fun vs H Q _ => ∃ (a : Addr) (ns : List Int) (m : Int), vs = [.ref a, .int m] ∧ SqL K H a (ns.map V.int) ∧ ns.length ≤ 1000 ∧ 0 ≤ m ∧ ∀ v H', OptP H' v (sho ns m) → Same H H' → Q v H'
section
variable {P : Program} {w : World} {K : PySem.W.Frag} {mg : Str → Option Value} {base : Heap} {A : Adr}
theorem ok_shortest (T : Txt K mg A) : FnOk P w K mg base CX0 6 A.f_shortest A.d_shortest ["row", "many"] (sp_shortest K) := by
  have G_stretches := ok_stretches (P := P) (w := w) (base := base) T
  refine T.F_shortest.ok sc_shortest (fun vs H Q E h => ?_) (fun cdv Ar outer s H vs Q E hr h => ?_)
  · obtain ⟨a, ns, m, rfl, _⟩ := h
    rfl
  · obtain ⟨a, ns, m, rfl, ha, hl, hm, q⟩ := h
    refine ⟨_, (pss_cons (ps_set (i := 2) sc_shortest.nd rfl (Or.inl rfl) pe_non)
    (pss_cons (ps_for PassesOwn.never (by rfl) (pi_list (pe_call G_stretches (hr.mono (by decide)) (by rfl) T.g_stretches T.F_stretches.kp T.b_stretches .nil pass0 (pa_cons (pv 0) (pa_cons (pv 1) pa_nil)))) (pg_tup (by rfl) (pgs_cons (pg_name (i := 3) sc_shortest.nd rfl (Or.inl rfl)) (pgs_cons (pg_name (i := 4) sc_shortest.nd rfl (Or.inl rfl)) (pgs_cons (pg_name (i := 5) sc_shortest.nd rfl (Or.inl rfl)) pgs_nil)))) (pss_one (ps_if (PW.pt (pw_or (pt_cmpR op_isN (pv 2) pe_non (nomark _)) (pw_or1 (pt_cmpR op_lt (pe_op op_sub (pv 4) (pv 3)) (pe_op op_sub (pe_ix (Ur.ix_tupK (K := K) rfl) (pv 2) pe_int (fun _ _ => rfl)) (pe_ix (Ur.ix_tupK (K := K) rfl) (pv 2) pe_int (fun _ _ => rfl))) (nomark _))))) (pss_one (ps_set (i := 2) sc_shortest.nd rfl (Or.inl rfl) (pe_tup (pa_cons (pv 3) (pa_cons (pv 4) pa_nil))))) pss_nil)))
    (pss_one (ps_ret (pv 2))))), ?_⟩
    tb_start
    intro p1 ls H1 e1 r f s1 n1
    have hrl := r.len
    tb_start
    refine for_list (xs := ls.map V.ref) (fun k σ H' => Iv (∃ (u3 u4 u5 : Option V) (v : V), σ = [some (.ref a), some (.int m), some v, u3, u4, u5] ∧ OptP H' v (shoL ((strL ns m).take k)) ∧ Same H1 H')) ?h0 ?hl ?hs ?hd
    case h0 => exact ⟨_, _, _, _, rfl, OptP.non, by kcj_in⟩
    case hl =>
      rintro k σ H' hk ⟨u3, u4, u5, v, rfl, ov, s⟩
      kct_strs
    case hd =>
      rintro σ H' ⟨u3, u4, u5, v, rfl, ov, s⟩
      rw [List.length_map, hrl, List.take_length] at ov
      tb_start
      exact q v _ ov (s1.trans s)
    case hs =>
      rintro k x σ H2 hx ⟨u3, u4, u5, v, rfl, ov, s⟩
      rw [List.getElem?_map] at hx
      obtain ⟨l, hl2, rfl⟩ := Option.map_eq_some_iff.mp hx
      obtain ⟨h1, h2, h3⟩ := r.get hl2
      have e4 := s _ _ h3
      have hts : (strL ns m).take (k + 1) = (strL ns m).take k ++ [(strL ns m).getD k (0, 0, 0)] := by rw [List.take_add_one, h2]; rfl
      refine ⟨l, _, rfl, .of e4, rfl, _, _, rfl, _, _, rfl, _, _, rfl, rfl, ?_⟩
      rcases ov.is with ⟨h5, rfl⟩ | ⟨bx, by_, pb, h5, rfl, h6⟩
      · tb_start
        intro p np
        refine ⟨_, _, _, _, rfl, ?_, by kcj_in⟩
        rw [hts, shoL_snoc, h5]
        exact OptP.pair upd_same
      · tb_start
        refine br (fun h => ?_) (fun h => ?_)
        · tb_start
          intro p np
          refine ⟨_, _, _, _, rfl, ?_, by kcj_in⟩
          rw [hts, shoL_snoc, h5]
          show OptP _ _ (if _ then _ else _)
          rw [if_pos (by show _ < by_ - bx; omega)]
          exact OptP.pair upd_same
        · refine ⟨_, _, _, _, rfl, ?_, s⟩
          rw [hts, shoL_snoc, h5]
          show OptP _ _ (if _ then _ else _)
          rw [if_neg (by show ¬ _ < by_ - bx; omega)]
          exact OptP.pair h6
end
end Ur
namespace Ur
open PySem L2
theorem lonL_specK (qs : List (Int × Int × Int)) : (lonL qs = none ∧ qs = []) ∨ ∃ q ∈ qs, lonL qs = some (q.1, q.2.2) ∧ ∀ p ∈ qs, p.2.2 - p.1 ≤ q.2.2 - q.1 := by
  have k : ∀ l : List (Int × Int × Int), (lonL l.reverse = none ∧ l.reverse = []) ∨ ∃ q ∈ l.reverse, lonL l.reverse = some (q.1, q.2.2) ∧ ∀ p ∈ l.reverse, p.2.2 - p.1 ≤ q.2.2 - q.1 := by
    intro l
    induction l with
    | nil => exact .inl ⟨rfl, rfl⟩
    | cons x l ih =>
      rw [List.reverse_cons]
      rw [lonL_snoc]
      refine .inr ?_
      rcases ih with ⟨e, e2⟩ | ⟨q, hq, e, hle⟩
      · rw [e, e2]
        exact ⟨x, List.mem_append.mpr (.inr List.mem_cons_self), rfl, fun p hp => by
          rw [List.nil_append, List.mem_singleton] at hp
          rw [hp]
          exact Int.le_refl _⟩
      · rw [e]
        have hs : wbo (some (q.1, q.2.2)) x.1 x.2.2 = if x.2.2 - x.1 > q.2.2 - q.1 then some (x.1, x.2.2) else some (q.1, q.2.2) := rfl
        rw [hs]
        by_cases c : x.2.2 - x.1 > q.2.2 - q.1
        · rw [if_pos c]
          refine ⟨x, List.mem_append.mpr (.inr List.mem_cons_self), rfl, fun p hp => ?_⟩
          rcases List.mem_append.mp hp with z | z
          · have := hle p z; omega
          · rw [List.mem_singleton.mp z]; exact Int.le_refl _
        · rw [if_neg c]
          refine ⟨q, List.mem_append.mpr (.inl hq), rfl, fun p hp => ?_⟩
          rcases List.mem_append.mp hp with z | z
          · exact hle p z
          · rw [List.mem_singleton.mp z]; omega
  have := k qs.reverse
  rwa [List.reverse_reverse] at this
theorem shoL_specK (qs : List (Int × Int × Int)) : (shoL qs = none ∧ qs = []) ∨ ∃ q ∈ qs, shoL qs = some (q.1, q.2.1) ∧ ∀ p ∈ qs, q.2.1 - q.1 ≤ p.2.1 - p.1 := by
  have k : ∀ l : List (Int × Int × Int), (shoL l.reverse = none ∧ l.reverse = []) ∨ ∃ q ∈ l.reverse, shoL l.reverse = some (q.1, q.2.1) ∧ ∀ p ∈ l.reverse, q.2.1 - q.1 ≤ p.2.1 - p.1 := by
    intro l
    induction l with
    | nil => exact .inl ⟨rfl, rfl⟩
    | cons x l ih =>
      rw [List.reverse_cons]
      rw [shoL_snoc]
      refine .inr ?_
      rcases ih with ⟨e, e2⟩ | ⟨q, hq, e, hle⟩
      · rw [e, e2]
        exact ⟨x, List.mem_append.mpr (.inr List.mem_cons_self), rfl, fun p hp => by
          rw [List.nil_append, List.mem_singleton] at hp
          rw [hp]
          exact Int.le_refl _⟩
      · rw [e]
        have hs : sbo (some (q.1, q.2.1)) x.1 x.2.1 = if x.2.1 - x.1 < q.2.1 - q.1 then some (x.1, x.2.1) else some (q.1, q.2.1) := rfl
        rw [hs]
        by_cases c : x.2.1 - x.1 < q.2.1 - q.1
        · rw [if_pos c]
          refine ⟨x, List.mem_append.mpr (.inr List.mem_cons_self), rfl, fun p hp => ?_⟩
          rcases List.mem_append.mp hp with z | z
          · have := hle p z; omega
          · rw [List.mem_singleton.mp z]; exact Int.le_refl _
        · rw [if_neg c]
          refine ⟨q, List.mem_append.mpr (.inl hq), rfl, fun p hp => ?_⟩
          rcases List.mem_append.mp hp with z | z
          · exact hle p z
          · rw [List.mem_singleton.mp z]; omega
  have := k qs.reverse
  rwa [List.reverse_reverse] at this
section
variable {K : PySem.W.Frag} {a : Addr} {σ : L2.St} {H1 : Hp} {Dl : Addr} {te : TE} {tt : TT} {vs : List Nat} {Qd : Hp → Prop}
theorem lc_tripsP {j l k : Nat} {ls : List Addr} {ps : List (Int × Int × Int)} (g : Int × Int × Int → Int × Int) (hn : ps.length ≤ 1000000) (ha : SqL K H1 a (ls.map V.ref)) (r : TripsF H1 ls ps) (hD : H1 Dl = none)
    (hw : ∀ x y z, wipe ((((wipe σ vs).set j (some x)).set l (some y)).set k (some z)) vs = wipe σ vs)
    (he : ∀ (q : Int × Int × Int) H', q ∈ ps → Same H1 H' → ∀ Q' : VK, (∀ p H4, Same H' H4 → H4 p = some (pr (g q)) → H' p = none → Q' (.ref p) H4) → te ((((wipe σ vs).set j (some (.int q.1))).set l (some (.int q.2.1))).set k (some (.int q.2.2))) H' Q')
    (hd : ∀ H' qs, Same H1 H' → H' Dl = some (.lst (qs.map V.ref)) → PairsF H' qs (ps.map g) → (∀ q ∈ qs, H1 q = none) → Qd H') :
    ∃ W : Nat → Nat → Hp → Prop, (∃ m, W 0 m (upd H1 Dl (.lst []))) ∧ ∀ i m H, W i m H →
      ((Itl K a).stop i H ∧ Qd H) ∨ ((Itl K a).go i H ∧ ∃ Nx : Hp → Prop, (∀ H', Nx H' → ∃ m', m' < m ∧ W (i + 1) m' H') ∧ ∀ x H', (Itl K a).yld i H x H' → gTup K 3 (gCons (gName j) (gCons (gName l) (gCons (gName k) gNil))) x (wipe σ vs) H' fun σ2 H2 => wipe σ2 vs = wipe σ vs ∧ tYes σ2 H2 fun b H3 =>
        if b = true then te σ2 H3 fun y H4 => ∃ acc, H4 Dl = some (.lst acc) ∧ acc.length < sizeLine ∧ Nx (upd H4 Dl (.lst (acc ++ [y]))) else Nx H3) := by
  refine lc_list (K := K) (a := a) (xs := ls.map V.ref) (fun i H' => ∃ qs : List Addr, Same H1 H' ∧ H' Dl = some (.lst (qs.map V.ref)) ∧ PairsF H' qs ((ps.take i).map g) ∧ (∀ q ∈ qs, H1 q = none)) ⟨[], same_new hD, upd_same, by rw [List.take_zero]; exact PairsF.nil, fun q h => nomatch h⟩ (fun i H' _ z => ?_) (fun i x H' hx z => ?_) (fun H' z => ?_)
  · obtain ⟨qs, s, _⟩ := z
    exact s.seq ha
  · obtain ⟨qs, s, eD, rq, f⟩ := z
    rw [List.getElem?_map] at hx
    obtain ⟨p, hp, rfl⟩ := Option.map_eq_some_iff.mp hx
    obtain ⟨h2, h2b, h3⟩ := TripsF.get r hp
    have e4 := s _ _ h3
    have hq : ps[i]? = some (ps.getD i (0, 0, 0)) := by rw [List.getD_eq_getElem?_getD, List.getElem?_eq_getElem h2]; rfl
    have e1 : ps.take (i + 1) = ps.take i ++ [ps.getD i (0, 0, 0)] := by rw [List.take_add_one, hq]; rfl
    refine ⟨p, _, rfl, .of e4, rfl, _, _, rfl, _, _, rfl, _, _, rfl, rfl, hw _ _ _, tyes_ok ?_⟩
    refine he _ H' (List.mem_of_getElem? hq) s _ fun n H4 s4 e5 nn => ?_
    have hrl := rq.len
    rw [List.length_map, List.length_take] at hrl
    have hnD : n ≠ Dl := fun e => by rw [e, eD] at nn; cases nn
    refine ⟨_, s4 _ _ eD, szl (by rw [List.length_map]; omega), qs ++ [n], same_upd' hD (s.trans s4), by rw [upd_same, List.map_append]; rfl, ?_, fun z hz => ?_⟩
    · rw [e1, List.map_append]
      have e6 : H4 n = some (.tup [.int (g (ps.getD i (0, 0, 0))).1, .int (g (ps.getD i (0, 0, 0))).2]) := e5
      refine ObjsF.upd (PairsF.snoc (ObjsF.same rq s4) e6) ⟨fun z hz => ?_⟩
      rcases List.mem_append.mp hz with h | h
      · exact (PairsF.offL rq eD).out z h
      · rw [List.mem_singleton.mp h]; exact hnD
    · rcases List.mem_append.mp hz with h | h
      · exact f z h
      · rw [List.mem_singleton.mp h]; exact s.free nn
  · obtain ⟨qs, s, eD, rq, f⟩ := z
    have hl := r.len
    rw [List.length_map, hl, List.take_length] at rq
    exact hd H' qs s eD rq f
end
theorem rEq_tripsN {K : PySem.W.Frag} {H : Hp} {a b : Addr} {ls : List Addr} {ps : List (Int × Int × Int)} {Q : VK} (h1 : SqL K H a (ls.map V.ref)) (h2 : SqL K H b []) (r : TripsF H ls ps) (q : Q (.bl (decide (ps = []))) H) : rEqD K (.ref a) (.ref b) H Q :=
  ⟨_, _, dp_trips h1 r, .lst h2 .nil, shaped_trips ps, by decide, by
    have e : PyData.eqv (.list (tripsD ps)) (.list []) = decide (ps = []) := by
      cases ps with
      | nil => rfl
      | cons p r => rfl
    rw [e]; exact q⟩
theorem any_pair {x y : Int} {ps : List (Int × Int)} (h : (x, y) ∈ ps) : (pairsD ps).any (fun z => PyData.eqv z (tupD [x, y])) = true := by
  rw [List.any_eq_true]
  refine ⟨tupD [x, y], List.mem_map.mpr ⟨(x, y), h, rfl⟩, ?_⟩
  show PyData.eqvAll _ _ = true
  refine eqvAll_refl _ fun d h => ?_
  obtain ⟨n, _, rfl⟩ := List.mem_map.mp h
  show (n == n) = true
  exact beq_self_eq_true _
theorem shaped_tupK (ns : List Int) : SeqAt.shaped (tupD ns) = true := shaped_of (canLayAll_ints ns) (Nat.le_trans (depth_tup ns) (by decide))
/-- a number of unlike ones, all its answers: True -/
def sp__law_number_right (K : PySem.W.Frag) (C : Addr) : Sp := fun vs H Q _ => ∃ (L : Addr → Prop) (o a : Addr) (m : Int) (ns : List Int), vs = [.ref o, .ref a, .int m, .int (hisN ns m)] ∧ Rdy C L H o ns ∧ H a = some (.lst (ns.map V.int)) ∧ 0 ≤ m ∧ ns.length ≤ 1000 ∧ ∀ H', Same H H' → Q (.bl true) H'
section
variable {P : Program} {w : World} {K : PySem.W.Frag} {mg : Str → Option Value} {base : Heap} {A : Adr}
theorem ok__law_number_right (T : Txt K mg A) : FnOk P w K mg base CX0 7 A.f__law_number_right A.d__law_number_right ["ready", "row", "many", "entry"] (sp__law_number_right K A.c_Ready) := by
  have G_Ready_end_of := ok_Ready_end_of (P := P) (w := w) (base := base) T
  have G__law_stretch_right := ok__law_stretch_right (P := P) (w := w) (base := base) T
  have G_how_many := ok_how_many (P := P) (w := w) (base := base) T
  have G_longest := ok_longest (P := P) (w := w) (base := base) T
  have G_shortest := ok_shortest (P := P) (w := w) (base := base) T
  have G_stretches := ok_stretches (P := P) (w := w) (base := base) T
  refine T.F__law_number_right.ok sc__law_number_right (fun vs H Q E h => ?_) (fun cdv Ar outer s H vs Q E hr h => ?_)
  · obtain ⟨L, o, a, m, ns, rfl, _⟩ := h
    rfl
  · have C_Ready := T.C_Ready
    have n_Ready_many := T.n_Ready_many
    have n_Ready_lasts := T.n_Ready_lasts
    have n_Ready_nexts := T.n_Ready_nexts
    obtain ⟨L, o, a, m, ns, rfl, r, ha, hm, hl, q⟩ := h
    have hsl := strL_len ns m
    refine ⟨_, (pss_cons (ps_set (i := 4) sc__law_number_right.nd rfl (Or.inl rfl) (pe_call G_stretches (hr.mono (by decide)) (by rfl) T.g_stretches T.F_stretches.kp T.b_stretches .nil pass0 (pa_cons (pv 1) (pa_cons (pv 2) pa_nil))))
    (pss_cons (ps_if (pt_cmpR (Ur.op_neDK (K := K) rfl hr.units) (pe_lc (own := [("one", 10)]) (g := gName 10) (by rfl) sc__law_number_right.nd (pi_list (pv 4)) (blkOk_by (own := [("one", 10)]) (N := ["ready", "row", "many", "entry", "told", "firsts", "first", "due", "wide", "small", "one", "least", "last"]) (by kernel_rfl)) (fun _ _ _ _ _ => pg_name (i := 10) sc__law_number_right.nd rfl (Or.inl rfl)) (fun _ _ _ _ _ => pts_one (pt_not (pt_val (pe_call G__law_stretch_right (hr.mono (by decide)) (by rfl) T.g__law_stretch_right T.F__law_stretch_right.kp T.b__law_stretch_right .nil pass0 (pa_cons (pv 0) (pa_cons (pv 1) (pa_cons (pv 2) (pa_cons (pv 10) pa_nil)))))))) (fun _ _ _ _ _ => (pv 10))) (pe_lst pa_nil) (nomark _)) (pss_one (ps_ret pe_bl)) pss_nil)
    (pss_cons (ps_setLc (i := 5) (own := [("one", 10)]) (g := gName 10) (by rfl) sc__law_number_right.nd rfl rfl (sw_true rfl rfl rfl (by decide +kernel)) (pi_list (pv 4)) (blkOk_by (own := [("one", 10)]) (N := ["ready", "row", "many", "entry", "told", "firsts", "first", "due", "wide", "small", "one", "least", "last"]) (by kernel_rfl)) (fun _ _ _ _ _ => pg_name (i := 10) sc__law_number_right.nd rfl (Or.inl rfl)) (fun _ _ _ _ _ => pts_nil) (fun _ _ _ _ _ => (pe_ix (Ur.ix_tupK (K := K) rfl) (pv 10) pe_int (fun _ _ => rfl))))
    (pss_cons (ps_if (pt_cmpR (Ur.op_neDK (K := K) rfl hr.units) (pv 5) (UrS.pe_sortSet (K := K) rfl (by rfl) T.m_sorted (by rfl) T.m_set (pv 5)) (nomark _)) (pss_one (ps_ret pe_bl)) pss_nil)
    (pss_cons (ps_for PassesOwn.never (by rfl) (pi_range1 (by rfl) T.m_range (pa_cons (Ur.pe_b1 (Ur.call_lenIK (K := K) rfl) (by rfl) T.m_len (by decide +kernel) (pv 1)) pa_nil)) (pg_name (i := 6) sc__law_number_right.nd rfl (Or.inl rfl)) (pss_one (ps_if (PW.pt (pw_and (pt_cmpR op_gt (pv 2) pe_int (nomark _)) (pw_and1 (pt_cmpR op_ne (pe_cmpR op_isN (pe_meth (pv 0) T.C_Ready T.M_Ready_end_of G_Ready_end_of (hr.mono (by decide)) T.b_Ready_end_of .nil pass0 (pa_cons (pv 6) (pa_cons (pv 2) pa_nil))) pe_non (nomark _)) (pe_cmpR (Ur.op_notIn_seqK (K := K) rfl) (pv 6) (pv 5) rfl) (nomark _))))) (pss_one (ps_ret pe_bl)) pss_nil)))
    (pss_cons (ps_set (i := 7) sc__law_number_right.nd rfl (Or.inl rfl) (Ur.pe_b1 (Ur.cr_sumK (K := K) rfl rfl) (by rfl) T.m_sum (by decide +kernel) (pe_lc (own := [("first", 6), ("least", 11), ("last", 12)]) (g := gTup K 3 (gCons (gName 6) (gCons (gName 11) (gCons (gName 12) gNil)))) (by rfl) sc__law_number_right.nd (pi_list (pv 4)) (blkOk_by (own := [("first", 6), ("least", 11), ("last", 12)]) (N := ["ready", "row", "many", "entry", "told", "firsts", "first", "due", "wide", "small", "one", "least", "last"]) (by kernel_rfl)) (fun _ _ _ _ _ => Ur.pg_tupK (K := K) rfl (by rfl) (pgs_cons (pg_name (i := 6) sc__law_number_right.nd rfl (Or.inl rfl)) (pgs_cons (pg_name (i := 11) sc__law_number_right.nd rfl (Or.inl rfl)) (pgs_cons (pg_name (i := 12) sc__law_number_right.nd rfl (Or.inl rfl)) pgs_nil)))) (fun _ _ _ _ _ => pts_nil) (fun _ _ _ _ _ => (pe_op op_add (pe_op op_sub (pv 12) (pv 11)) pe_int)))))
    (pss_cons (ps_if (PW.pt (pw_or (pt_cmpR op_ne (pe_call G_how_many (hr.mono (by decide)) (by rfl) T.g_how_many T.F_how_many.kp T.b_how_many .nil pass0 (pa_cons (pv 1) (pa_cons (pv 2) pa_nil))) (pv 7) (nomark _)) (pw_or1 (pt_cmpR op_ne (pv 7) (pv 3) (nomark _))))) (pss_one (ps_ret pe_bl)) pss_nil)
    (pss_cons (ps_if (pt_cmpR (Ur.op_eqDK (K := K) rfl hr.units) (pv 4) (pe_lst pa_nil) (nomark _)) (pss_one (ps_ret (pe_and (pe_cmpR op_isN (pe_call G_longest (hr.mono (by decide)) (by rfl) T.g_longest T.F_longest.kp T.b_longest .nil pass0 (pa_cons (pv 1) (pa_cons (pv 2) pa_nil))) pe_non (nomark _)) (pe_one (pe_cmpR op_isN (pe_call G_shortest (hr.mono (by decide)) (by rfl) T.g_shortest T.F_shortest.kp T.b_shortest .nil pass0 (pa_cons (pv 1) (pa_cons (pv 2) pa_nil))) pe_non (nomark _)))))) pss_nil)
    (pss_cons (ps_set (i := 8) sc__law_number_right.nd rfl (Or.inl rfl) (pe_call G_longest (hr.mono (by decide)) (by rfl) T.g_longest T.F_longest.kp T.b_longest .nil pass0 (pa_cons (pv 1) (pa_cons (pv 2) pa_nil))))
    (pss_cons (ps_set (i := 9) sc__law_number_right.nd rfl (Or.inl rfl) (pe_call G_shortest (hr.mono (by decide)) (by rfl) T.g_shortest T.F_shortest.kp T.b_shortest .nil pass0 (pa_cons (pv 1) (pa_cons (pv 2) pa_nil))))
    (pss_cons (ps_if (pt_cmpR (op_notInD (Ur.units65 hr)) (pv 8) (pe_lc (own := [("first", 6), ("least", 11), ("last", 12)]) (g := gTup K 3 (gCons (gName 6) (gCons (gName 11) (gCons (gName 12) gNil)))) (by rfl) sc__law_number_right.nd (pi_list (pv 4)) (blkOk_by (own := [("first", 6), ("least", 11), ("last", 12)]) (N := ["ready", "row", "many", "entry", "told", "firsts", "first", "due", "wide", "small", "one", "least", "last"]) (by kernel_rfl)) (fun _ _ _ _ _ => Ur.pg_tupK (K := K) rfl (by rfl) (pgs_cons (pg_name (i := 6) sc__law_number_right.nd rfl (Or.inl rfl)) (pgs_cons (pg_name (i := 11) sc__law_number_right.nd rfl (Or.inl rfl)) (pgs_cons (pg_name (i := 12) sc__law_number_right.nd rfl (Or.inl rfl)) pgs_nil)))) (fun _ _ _ _ _ => pts_nil) (fun _ _ _ _ _ => (pe_tup (pa_cons (pv 6) (pa_cons (pv 12) pa_nil))))) rfl) (pss_one (ps_ret pe_bl)) pss_nil)
    (pss_one (ps_ret (pe_cmpR (op_inD (Ur.units65 hr)) (pv 9) (pe_lc (own := [("first", 6), ("least", 11), ("last", 12)]) (g := gTup K 3 (gCons (gName 6) (gCons (gName 11) (gCons (gName 12) gNil)))) (by rfl) sc__law_number_right.nd (pi_list (pv 4)) (blkOk_by (own := [("first", 6), ("least", 11), ("last", 12)]) (N := ["ready", "row", "many", "entry", "told", "firsts", "first", "due", "wide", "small", "one", "least", "last"]) (by kernel_rfl)) (fun _ _ _ _ _ => Ur.pg_tupK (K := K) rfl (by rfl) (pgs_cons (pg_name (i := 6) sc__law_number_right.nd rfl (Or.inl rfl)) (pgs_cons (pg_name (i := 11) sc__law_number_right.nd rfl (Or.inl rfl)) (pgs_cons (pg_name (i := 12) sc__law_number_right.nd rfl (Or.inl rfl)) pgs_nil)))) (fun _ _ _ _ _ => pts_nil) (fun _ _ _ _ _ => (pe_tup (pa_cons (pv 6) (pa_cons (pv 11) pa_nil))))) rfl)))))))))))))), ?_⟩
    tb_start
    intro p1 ls H1 e1 tr1 nl1 s1 n1
    have r1 := r.same s1
    have ha1 := s1 _ _ ha
    clear r ha nl1
    tb_start
    intro D nD
    refine lc_none (SqL.of e1) nD (fun _ => rfl) ?ht ?hd
    case ht =>
      intro x H' hx s Q' q'
      obtain ⟨z, hz, rfl⟩ := List.mem_map.mp hx
      obtain ⟨k, hk⟩ := List.mem_iff_getElem?.mp hz
      obtain ⟨k1, k2, k3⟩ := tr1.get hk
      have hmem := List.mem_of_getElem? k2
      have r2 := r1.same s
      have ha2 := s _ _ ha1
      have k4 := s _ _ k3
      clear r1 ha1 k3 e1 s1
      tb_start
      intro H3 s3
      tb_start
      exact q' _ s3
    case hd =>
      intro H2 s2 e2
      have r2 := r1.same s2
      have ha2 := s2 _ _ ha1
      have e12 := s2 _ _ e1
      have tr2 := ObjsF.same tr1 s2
      have s02 := s1.trans s2
      clear r1 ha1 e1 tr1 s1 s2 nD n1
      tb_start
      intro p3 np3
      have s3 : Same H2 (upd H2 p3 (.lst [])) := same_new np3
      have e3 : (upd H2 p3 (.lst [])) p3 = some (.lst (([] : List Int).map V.int)) := upd_same
      have e23 := s3 _ _ e2
      have r3 := r2.same s3
      have ha3 := s3 _ _ ha2
      have e13 := s3 _ _ e12
      have tr3 := ObjsF.same tr2 s3
      have s03 := s02.trans s3
      clear r2 ha2 e12 tr2 s02 s3 np3 e2
      generalize (upd H2 p3 (.lst [])) = H3 at *
      refine ⟨.list [], .list [], .lst (SqL.of e23) .nil, .lst (SqL.of e3) .nil, rfl, rfl, ?_⟩
      rw [show PyData.eqv (.list []) (.list []) = true from rfl]
      clear e23 e3
      tb_start
      intro D4 nD4
      refine lc_trips1 (fun q => q.1) (by omega) (SqL.of e13) tr3 nD4 (fun _ => rfl) ?he ?hd3
      case he =>
        intro p q3 H' hq s ep Q' q'
        tb_start
        exact q' _ (by kcj_in)
      case hd3 =>
        intro H4 s4 e4
        have r4 := r3.same s4
        have ha4 := s4 _ _ ha3
        have e14 := s4 _ _ e13
        have tr4 := ObjsF.same tr3 s4
        have s04 := s03.trans s4
        have hfl : ((strL ns m).map fun q => q.1).length ≤ 1000 := by rw [List.length_map]; omega
        clear r3 ha3 e13 tr3 s03 s4 nD4
        tb_start
        intro zs p5 hpw hmem np5
        have s5 : Same H4 (upd H4 p5 (.lst (zs.map V.int))) := same_new np5
        have e5 : (upd H4 p5 (.lst (zs.map V.int))) p5 = some (.lst (zs.map V.int)) := upd_same
        have hlt := strL_lt ns m
        have hz : ((strL ns m).map fun q => q.1) = zs := srt_eq (List.Perm.refl _) (hlt.imp Int.le_of_lt) (hlt.imp Int.ne_of_lt) hpw hmem
        subst hz
        have r5 := r4.same s5
        have ha5 := s5 _ _ ha4
        have e15 := s5 _ _ e14
        have e45 := s5 _ _ e4
        have tr5 := ObjsF.same tr4 s5
        have s05 := s04.trans s5
        clear r4 ha4 e14 e4 tr4 s04 s5 np5 hpw hmem
        generalize (upd H4 p5 (.lst (((strL ns m).map fun q => q.1).map V.int))) = H5 at *
        refine rNe_ints (SqL.of e45) (SqL.of e5) ?_
        rw [decide_eq_true rfl]
        clear e5
        tb_start
        refine for_range (fun i σ H' => Iv (∃ (u6 u7 u8 u9 u10 u11 u12 : Option V), σ = [some (.ref o), some (.ref a), some (.int m), some (.int (hisN ns m)), some (.ref p1), some (.ref D4), u6, u7, u8, u9, u10, u11, u12] ∧ Same H5 H')) ?f0 ?fs ?fd
        case f0 => exact ⟨_, _, _, _, _, _, _, rfl, Same.refl _⟩
        case fs =>
          rintro i σ H6 hi ⟨u6, u7, u8, u9, u10, u11, u12, rfl, s6⟩
          have r6 := r5.same s6
          have e46 := s6 _ _ e45
          obtain ⟨dx, la, na, eo, _⟩ := r6.all
          have hi2 : i < ns.length := by omega
          by_cases hm0 : 0 < m
          · tb_start
            rw [show (0 + (i : Int)).toNat = i by omega]
            have hin := strL_first (ns := ns) (m := m) (f := i) (by omega) hi2
            have hb : (!decide (V.bl (decide (optV (endAt ns i m) = V.non)) = V.bl !decide (0 + (i : Int) ∈ (strL ns m).map fun q => q.1))) = false := by
              rw [show 0 + (i : Int) = (i : Int) by omega]
              cases h2 : endAt ns i m with
              | none =>
                rw [decide_eq_true (show optV none = V.non from rfl), decide_eq_false (fun z => hin.mp z h2), decide_eq_true (show V.bl true = V.bl (!false) from rfl)]; rfl
              | some e =>
                rw [decide_eq_false (show ¬ optV (some e) = V.non from fun z => nomatch z), decide_eq_true (hin.mpr (by rw [h2]; exact fun z => nomatch z)), decide_eq_true (show V.bl false = V.bl (!true) from rfl)]; rfl
            rw [hb]
            tb_start
            exact ⟨_, _, _, _, _, _, _, rfl, s6⟩
          · tb_start
            exact ⟨_, _, _, _, _, _, _, rfl, s6⟩
        case fd =>
          rintro σ H6 ⟨u6, u7, u8, u9, u10, u11, u12, rfl, s6⟩
          have r6 := r5.same s6
          have ha6 := s6 _ _ ha5
          have e16 := s6 _ _ e15
          have tr6 := ObjsF.same tr5 s6
          have s06 := s05.trans s6
          clear r5 ha5 e15 e45 tr5 s05 s6
          tb_start
          intro D7 nD7
          refine lc_tripsI (fun q => q.2.2 - q.2.1 + 1) (by omega) (SqL.of e16) tr6 nD7 (fun _ _ _ => rfl) ?ge ?gd
          case ge =>
            intro q3 H' hq s Q' q'
            tb_start
            exact q' _ (by kcj_in)
          case gd =>
            intro H7 s7 e7
            have r7 := r6.same s7
            have ha7 := s7 _ _ ha6
            have e17 := s7 _ _ e16
            have tr7 := ObjsF.same tr6 s7
            have s07 := s06.trans s7
            have hml : ((strL ns m).map fun q => q.2.2 - q.2.1 + 1).length ≤ 1000 := by rw [List.length_map]; omega
            clear r6 ha6 e16 tr6 s06 s7 nD7
            tb_start
            have hsum : ((strL ns m).map fun q => q.2.2 - q.2.1 + 1).sum = hisN ns m := rfl
            rw [hsum]
            intro H8 s8
            have r8 := r7.same s8
            have ha8 := s8 _ _ ha7
            have e18 := s8 _ _ e17
            have tr8 := ObjsF.same tr7 s8
            have s08 := s07.trans s8
            clear r7 ha7 e17 tr7 s07 s8 e7
            tb_start
            intro p9 np9
            have s9 : Same H8 (upd H8 p9 (.lst [])) := same_new np9
            have e9 : (upd H8 p9 (.lst [])) p9 = some (.lst []) := upd_same
            refine rEq_tripsN (SqL.of (s9 _ _ e18)) (SqL.of e9) (ObjsF.same tr8 s9) ?_
            have ha9 := s9 _ _ ha8
            have e19 := s9 _ _ e18
            have tr9 := ObjsF.same tr8 s9
            have s09 := s08.trans s9
            generalize (upd H8 p9 (.lst [])) = H9 at *
            clear r8 ha8 e18 tr8 s08 s9 e9 np9
            tb_start
            refine br (fun h0 => ?_) (fun h0 => ?_)
            · have hlo : lon ns m = none := by unfold lon; rw [h0]; rfl
              have hsh : sho ns m = none := by unfold sho; rw [h0]; rfl
              tb_start
              intro v H10 ov s10
              rcases ov.is with ⟨_, rfl⟩ | ⟨x, y, p, h, _⟩
              · have ha10 := s10 _ _ ha9
                tb_start
                intro v' H11 ov' s11
                rcases ov'.is with ⟨_, rfl⟩ | ⟨x, y, p, h, _⟩
                · tb_start
                  exact qbv (q _ ((s09.trans s10).trans s11)) (decide_eq_true rfl)
                · rw [hsh] at h; cases h
              · rw [hlo] at h; cases h
            · rcases lonL_specK (strL ns m) with ⟨_, hz⟩ | ⟨qw, hqw, elo, _⟩
              · exact absurd hz h0
              rcases shoL_specK (strL ns m) with ⟨_, hz⟩ | ⟨qs, hqs, esh, _⟩
              · exact absurd hz h0
              tb_start
              intro v H10 ov s10
              rcases ov.is with ⟨h, _⟩ | ⟨x, y, pw, h, rfl, ew⟩
              · rw [show lon ns m = lonL (strL ns m) from rfl, elo] at h; cases h
              rw [show lon ns m = lonL (strL ns m) from rfl, elo] at h
              cases h
              have ha10 := s10 _ _ ha9
              tb_start
              intro v' H11 ov' s11
              rcases ov'.is with ⟨h, _⟩ | ⟨x, y, ps, h, rfl, es⟩
              · rw [show sho ns m = shoL (strL ns m) from rfl, esh] at h; cases h
              rw [show sho ns m = shoL (strL ns m) from rfl, esh] at h
              cases h
              have s011 := s10.trans s11
              have ew11 := s11 _ _ ew
              have e111 := s011 _ _ e19
              have tr11 := ObjsF.same tr9 s011
              have hll := tr11.len
              tb_start
              intro D12 nD12
              refine lc_tripsP (fun q => (q.1, q.2.2)) (by omega) (SqL.of e111) tr11 nD12 (fun _ _ _ => rfl) ?we ?wd
              case we =>
                intro q3 H' hq s Q' q'
                tb_start
                intro p np
                exact q' p _ (same_new np) upd_same np
              case wd =>
                intro H12 ls12 s12 e12 pr12 _
                have ew12 := s12 _ _ ew11
                have es12 := s12 _ _ es
                have e112 := s12 _ _ e111
                have tr12 := ObjsF.same tr11 s12
                refine ⟨tupD [qw.1, qw.2.2], _, dp_tup (ns := [qw.1, qw.2.2]) ew12, dp_pairs (SqL.of e12) pr12, shaped_tupK _, shaped_pairs _, ?_⟩
                rw [any_pair (List.mem_map.mpr ⟨qw, hqw, rfl⟩)]
                clear e12 pr12 ew11 es e111 tr11 ew12
                tb_start
                intro D13 nD13
                refine lc_tripsP (fun q => (q.1, q.2.1)) (by omega) (SqL.of e112) tr12 nD13 (fun _ _ _ => rfl) ?ve ?vd
                case ve =>
                  intro q3 H' hq s Q' q'
                  tb_start
                  intro p np
                  exact q' p _ (same_new np) upd_same np
                case vd =>
                  intro H13 ls13 s13 e13 pr13 _
                  have es13 := s13 _ _ es12
                  refine ⟨tupD [qs.1, qs.2.1], _, dp_tup (ns := [qs.1, qs.2.1]) es13, dp_pairs (SqL.of e13) pr13, shaped_tupK _, shaped_pairs _, ?_⟩
                  rw [any_pair (List.mem_map.mpr ⟨qs, hqs, rfl⟩)]
                  tb_start
                  exact q _ ((((s09.trans s10).trans s11).trans s12).trans s13)
end
end Ur
namespace Ur
open PySem L2
/-- a cell, mixed: a number from 0 on -/
def sp__law_mixed (K : PySem.W.Frag) : Sp := fun vs H Q _ => ∃ (c k : Int), vs = [.int c, .int k] ∧ 0 ≤ k ∧ k ≤ 1000 ∧ ∀ n : Int, 0 ≤ n → Q (.int n) H
section
variable {P : Program} {w : World} {K : PySem.W.Frag} {mg : Str → Option Value} {base : Heap} {A : Adr}
theorem ok__law_mixed (T : Txt K mg A) : FnOk P w K mg base CX0 1 A.f__law_mixed A.d__law_mixed ["cell", "k"] (sp__law_mixed K) := by
  refine T.F__law_mixed.ok sc__law_mixed (fun vs H Q E h => ?_) (fun cdv Ar outer s H vs Q E hr h => ?_)
  · obtain ⟨c, k, rfl, _⟩ := h
    rfl
  · obtain ⟨c, k, rfl, hk0, hk1, q⟩ := h
    refine ⟨_, (pss_cons (ps_set (i := 2) sc__law_mixed.nd rfl (Or.inl rfl) (pe_op op_mod (pe_op op_add (pe_op op_mod (pv 0) pe_int) (pe_op op_mul pe_int (pe_op op_add (pv 1) pe_int))) pe_int))
    (pss_cons (ps_set (i := 2) sc__law_mixed.nd rfl (Or.inl rfl) (pe_op op_mod (pe_op op_add (pe_op op_add (pe_op op_mul (pv 2) (pv 2)) (pe_op op_mul pe_int (pv 2))) (pv 1)) pe_int))
    (pss_cons (ps_set (i := 2) sc__law_mixed.nd rfl (Or.inl rfl) (pe_op op_mod (pe_op op_mul (pv 2) (pv 2)) pe_int))
    (pss_one (ps_ret (pe_op op_fdiv (pe_op op_mod (pe_op op_mul (pv 2) pe_int) pe_int) pe_int)))))), ?_⟩
    tb_start
    exact q _ (Int.ediv_nonneg (Int.emod_nonneg _ (by omega)) (by omega))
end
end Ur
namespace Ur
open PySem L2
/-- a purse: so many numbers from 0 on -/
def sp__law_purse (K : PySem.W.Frag) : Sp := fun vs H Q _ => ∃ (a : Addr) (ns : List Int) (i s m : Int), vs = [.ref a, .int i, .int s, .int m] ∧ SqL K H a (ns.map V.int) ∧ ns.length ≤ 63 ∧ (0 ≤ i ∧ i ≤ 126) ∧ (1 ≤ s ∧ s ≤ 100) ∧ (0 ≤ m ∧ m ≤ 1000) ∧ ∀ p (ps : List Int) H', H' p = some (.lst (ps.map V.int)) → (∀ x ∈ ps, 0 ≤ x) → ps.length = m.toNat → Same H H' → H p = none → Q (.ref p) H'
section
variable {P : Program} {w : World} {K : PySem.W.Frag} {mg : Str → Option Value} {base : Heap} {A : Adr}
theorem ok__law_purse (T : Txt K mg A) : FnOk P w K mg base CX0 2 A.f__law_purse A.d__law_purse ["script", "at", "step", "many"] (sp__law_purse K) := by
  have G__law_mixed := ok__law_mixed (P := P) (w := w) (base := base) T
  refine T.F__law_purse.ok sc__law_purse (fun vs H Q E h => ?_) (fun cdv Ar outer s H vs Q E hr h => ?_)
  · obtain ⟨a, ns, i, s, m, rfl, _⟩ := h
    rfl
  · obtain ⟨a, ns, i, s, m, rfl, ha, hl, hi, hs, hm, q⟩ := h
    refine ⟨_, (pss_cons (ps_set (i := 4) sc__law_purse.nd rfl (Or.inl rfl) (Ur.pe_step3 (pv 0) (pv 1) pe_int (pv 2)))
    (Evl.pss_cut (ps_if (pt_cmpR (Ur.op_eqDK (K := K) rfl hr.units) (pv 4) (pe_lst pa_nil) (nomark _)) (pss_one (ps_set (i := 4) sc__law_purse.nd rfl (Or.inl rfl) (pe_lst (pa_cons (pv 1) pa_nil)))) pss_nil)
    (pss_cons (ps_setLc (i := 5) (own := [("cell", 9)]) (g := gName 9) (by rfl) sc__law_purse.nd rfl rfl (sw_true rfl rfl rfl (by decide +kernel)) (pi_list (pv 4)) (blkOk_by (own := [("cell", 9)]) (N := ["script", "at", "step", "many", "cells", "rests", "purse", "k", "place", "cell"]) (by kernel_rfl)) (fun _ _ _ _ _ => pg_name (i := 9) sc__law_purse.nd rfl (Or.inl rfl)) (fun _ _ _ _ _ => pts_nil) (fun _ _ _ _ _ => (pe_op op_mul (Ur.pe_b1 call_abs (by rfl) T.m_abs (by decide +kernel) (pv 9)) (Ur.pe_t1 call_int1 (by rfl) T.m_int (by decide +kernel) (pe_cmpR op_ge (Ur.pe_b1 call_abs (by rfl) T.m_abs (by decide +kernel) (pv 9)) (pe_op op_pow pe_int pe_int) (nomark _))))))
    (pss_cons (ps_set (i := 6) sc__law_purse.nd rfl (Or.inl rfl) (pe_lst pa_nil))
    (pss_cons (ps_for PassesOwn.never (by rfl) (pi_range1 (by rfl) T.m_range (pa_cons (pv 3) pa_nil)) (pg_name (i := 7) sc__law_purse.nd rfl (Or.inl rfl)) (pss_cons (ps_set (i := 8) sc__law_purse.nd rfl (Or.inl rfl) (pe_op op_mod (pv 7) (Ur.pe_b1 (Ur.call_lenIK (K := K) rfl) (by rfl) T.m_len (by decide +kernel) (pv 4))))
    (pss_one (ps_if (pt_cmpR op_gt (pe_ix (Ur.ix_listK (K := K) rfl) (pv 5) (pv 8) (fun _ _ => rfl)) pe_int (nomark _)) (pss_cons (ps_expr (pe_bm PySem.F.plainAttrs_list PySem.F.slot_list_append PySem.F.type_list_append mt_append (pv 6) (pa_cons (pe_op op_mod (pe_ix (Ur.ix_listK (K := K) rfl) (pv 5) (pv 8) (fun _ _ => rfl)) pe_int) pa_nil)))
    (pss_one (ps_asg (pe_op op_fdiv (pe_ix (Ur.ix_listK (K := K) rfl) (pv 5) (pv 8) (fun _ _ => rfl)) pe_int) (pg_sub (pv 5) (pv 8) set_list)))) (pss_one (ps_expr (pe_bm PySem.F.plainAttrs_list PySem.F.slot_list_append PySem.F.type_list_append mt_append (pv 6) (pa_cons (pe_call G__law_mixed (hr.mono (by decide)) (by rfl) T.g__law_mixed T.F__law_mixed.kp T.b__law_mixed .nil pass0 (pa_cons (pe_ix (Ur.ix_listK (K := K) rfl) (pv 4) (pv 8) (fun _ _ => rfl)) (pa_cons (pe_op op_fdiv (pv 7) (Ur.pe_b1 (Ur.call_lenIK (K := K) rfl) (by rfl) T.m_len (by decide +kernel) (pv 4))) pa_nil))) pa_nil))))))))
    (pss_one (ps_ret (UrV.pe_listRev (K := K) rfl (by rfl) T.m_list T.m_reversed (pv 6))))))))), ?_⟩
    tb_start
    intro p1 ys hys hyl np1
    obtain ⟨cs, rfl⟩ : ∃ cs : List Int, ys = cs.map V.int := by
      refine ⟨ys.map fun | .int i => i | _ => 0, ?_⟩
      rw [List.map_map]
      refine (List.map_id' ys).symm.trans (List.map_congr_left fun y hy => ?_)
      obtain ⟨x, _, rfl⟩ := List.mem_map.mp (hys y hy)
      rfl
    rw [List.length_map, List.length_map] at hyl
    tb_start
    refine ⟨fun σ H' => Iv (∃ (p : Addr) (cs : List Int) (u5 u6 u7 u8 u9 : Option V), σ = [some (.ref a), some (.int i), some (.int s), some (.int m), some (.ref p), u5, u6, u7, u8, u9] ∧ H' p = some (.lst (cs.map V.int)) ∧ 0 < cs.length ∧ cs.length ≤ 64 ∧ Same H H'), ?_, ?_⟩
    · tb_start
      intro p2 np2
      tb_start
      refine br (fun he => ?_) (fun he => ?_)
      · tb_start
        intro p3 np3
        tb_start
        exact ⟨p3, [i], _, _, _, _, _, rfl, by kct_strs, Nat.zero_lt_one, (by show 1 ≤ 64; omega), by kcj_in⟩
      · exact ⟨p1, cs, _, _, _, _, _, rfl, by kct_strs, List.length_pos_iff.mpr he, by omega, by kcj_in⟩
    rintro σ H2 ⟨p, cs, u5, u6, u7, u8, u9, rfl, ep, hc0, hc1, s2⟩
    tb_start
    intro D nD
    refine lc_list (K := K) (a := p) (xs := cs.map V.int) (fun j H' => Iv (∃ r : List Int, H' D = some (.lst (r.map V.int)) ∧ r.length = j ∧ (∀ x ∈ r, 0 ≤ x) ∧ Same H2 H')) ⟨[], upd_same, rfl, (fun x hx => nomatch hx), same_new nD⟩ (fun j H' _ z => ?_) (fun j x H' hx z => ?_) (fun H' z => ?_)
    · obtain ⟨r, _, _, _, s'⟩ := z.out
      exact .of (s' _ _ ep)
    · obtain ⟨c, hc, rfl⟩ := iv_get hx
      have hj := (List.getElem?_eq_some_iff.mp hc).1
      obtain ⟨r, e, hl, h0, s'⟩ := z.out
      have hb := b01 (decide ((10 : Int) ^ (18 : Int).toNat ≤ (if c < 0 then -c else c)))
      have hab : 0 ≤ (if c < 0 then -c else c) := by split <;> omega
      refine ⟨rfl, tyes_ok ?_⟩
      tb_start
      refine ⟨r ++ [_], upd_snoc, by rw [List.length_append, hl]; rfl, fun x hx => ?_, same_upd' nD s'⟩
      rcases List.mem_append.mp hx with k | k
      · exact h0 x k
      · rw [List.mem_singleton.mp k]
        exact Int.mul_nonneg hab hb.1
    · obtain ⟨rs, e, hrl, h0, s'⟩ := z.out
      rw [List.length_map] at hrl
      have ep' := s' _ _ ep
      tb_start
      intro pl npl
      have hDp : D ≠ p := by kcj_m
      have hDpl : D ≠ pl := by kcj_m
      have hppl : p ≠ pl := by kcj_m
      tb_start
      refine for_range (fun j σ H' => Iv (∃ (u7 u8 u9 : Option V) (ps rs : List Int), σ = [some (.ref a), some (.int i), some (.int s), some (.int m), some (.ref p), some (.ref D), some (.ref pl), u7, u8, u9] ∧ H' pl = some (.lst (ps.map V.int)) ∧ ps.length = j ∧ (∀ x ∈ ps, 0 ≤ x) ∧ H' D = some (.lst (rs.map V.int)) ∧ rs.length = cs.length ∧ (∀ x ∈ rs, 0 ≤ x) ∧ H' p = some (.lst (cs.map V.int)) ∧ Same H H')) ?h0 ?hs ?hd
      case h0 => exact ⟨_, _, _, [], rs, rfl, upd_same, rfl, (fun x hx => nomatch hx), by kct_strs, hrl, h0, by kct_strs, by kcj_in⟩
      case hs =>
        rintro j σ H3 hj ⟨u7, u8, u9, ps, rs, rfl, epl, hpl, hp0, eD, hrl, h0, ep, s3⟩
        have hj2 : j < 1000 := by omega
        have k1 := Int.emod_nonneg ((0 : Int) + (j : Int)) (show (cs.length : Int) ≠ 0 by omega)
        have k2 := Int.emod_lt_of_pos ((0 : Int) + (j : Int)) (show 0 < (cs.length : Int) by omega)
        have k3 : 0 ≤ ((0 : Int) + (j : Int)) / (cs.length : Int) := Int.ediv_nonneg (by omega) (by omega)
        have k4 : ((0 : Int) + (j : Int)) / (cs.length : Int) ≤ 1000 := by
          have := Int.ediv_le_self (a := (0 : Int) + (j : Int)) (cs.length : Int) (by omega)
          omega
        have hgr : 0 ≤ rs.getD (((0 : Int) + (j : Int)) % (cs.length : Int)).toNat 0 := h0 _ (List.mem_of_getElem? (get_of (by omega)))
        tb_start
        refine br (fun hp => ?_) (fun hp => ?_)
        · tb_start
          refine ⟨_, _, _, ps ++ [_], rs.set _ _, rfl, by kct_strs, by rw [List.length_append, hpl]; rfl, fun x hx => ?_, by kct_strs, by rw [List.length_set, hrl], fun x hx => ?_, by kct_strs, by kcj_in⟩
          · rcases List.mem_append.mp hx with k | k
            · exact hp0 x k
            · rw [List.mem_singleton.mp k]; exact Int.emod_nonneg _ (by decide)
          · rcases List.mem_or_eq_of_mem_set hx with k | k
            · exact h0 x k
            · rw [k]; exact Int.ediv_nonneg hgr (by decide)
        · tb_start
          intro n hn
          tb_start
          refine ⟨_, _, _, ps ++ [n], rs, rfl, by kct_strs, by rw [List.length_append, hpl]; rfl, fun x hx => ?_, by kct_strs, hrl, h0, by kct_strs, by kcj_in⟩
          rcases List.mem_append.mp hx with k | k
          · exact hp0 x k
          · rw [List.mem_singleton.mp k]; exact hn
      case hd =>
        rintro σ H3 ⟨u7, u8, u9, ps, rs, rfl, epl, hpl, hp0, eD, hrl, h0, ep, s3⟩
        tb_start
        intro pr npr
        tb_start
        refine q pr ps.reverse _ (lst_cast upd_same (by rw [List.map_reverse])) (fun x hx => hp0 x (List.mem_reverse.mp hx)) (by rw [List.length_reverse, hpl]) (by kcj_in) (by cc_off)
end
end Ur
namespace Ur
open PySem L2
/-- a number -/
def sp__law_value (K : PySem.W.Frag) : Sp := fun vs H Q _ => ∃ (w i : Int), vs = [.int w, .int i] ∧ ∀ (n : Int) H', Same H H' → Q (.int n) H'
section
variable {P : Program} {w : World} {K : PySem.W.Frag} {mg : Str → Option Value} {base : Heap} {A : Adr}
theorem ok__law_value (T : Txt K mg A) : FnOk P w K mg base CX0 1 A.f__law_value A.d__law_value ["way", "at"] (sp__law_value K) := by
  refine T.F__law_value.ok sc__law_value (fun vs H Q E h => ?_) (fun cdv Ar outer s H vs Q E hr h => ?_)
  · obtain ⟨w, i, rfl, _⟩ := h
    rfl
  · obtain ⟨w, i, rfl, q⟩ := h
    refine ⟨_, (pss_cons (ps_if (pt_cmpR op_eq (pv 0) pe_int (nomark _)) (pss_one (ps_ret (pv 1))) pss_nil)
    (pss_cons (ps_if (pt_cmpR op_eq (pv 0) pe_int (nomark _)) (pss_one (ps_ret (pe_op op_sub (pe_op op_pow pe_int pe_int) (pv 1)))) pss_nil)
    (pss_cons (ps_if (pt_cmpR op_eq (pv 0) pe_int (nomark _)) (pss_one (ps_ret (pe_op op_mul (pe_ix (Ur.ix_listK (K := K) rfl) (pe_lst (pa_cons (pe_un un_neg pe_int) (pa_cons pe_int pa_nil))) (pe_op op_mod (pv 1) pe_int) (fun _ _ => rfl)) (pe_op op_add (pe_op op_pow pe_int pe_int) (pv 1))))) pss_nil)
    (pss_cons (ps_if (pt_cmpR op_eq (pv 0) pe_int (nomark _)) (pss_one (ps_ret (pe_op op_sub (pv 1) pe_int))) pss_nil)
    (pss_one (ps_ret (pe_op op_sub (pe_op op_mul pe_int (pv 1)) (pe_op op_pow pe_int pe_int)))))))), ?_⟩
    kqd_in
    all_goals try (apply q <;> tb_rel)
    have h2 : i % 2 = 0 ∨ i % 2 = 1 := by omega
    rcases h2 with e | e
    · rw [e]
      exact Or.inl ⟨by decide, by decide⟩
    · rw [e]
      exact Or.inl ⟨by decide, by decide⟩
end
end Ur
namespace Ur
open PySem L2
/-- a row of at most 300 numbers -/
def sp__law_row (K : PySem.W.Frag) : Sp := fun vs H Q _ => ∃ (a : Addr) (ns : List Int) (mo : Int), vs = [.ref a, .int mo] ∧ H a = some (.lst (ns.map V.int)) ∧ (∀ x ∈ ns, 0 ≤ x) ∧ (0 ≤ mo ∧ mo ≤ 300) ∧ ∀ p (r ms : List Int) H', H' p = some (.lst (r.map V.int)) → H' a = some (.lst (ms.map V.int)) → (∀ x ∈ ms, 0 ≤ x) → But a H H' → H p = none → r.length ≤ 300 → Q (.ref p) H'
section
variable {P : Program} {w : World} {K : PySem.W.Frag} {mg : Str → Option Value} {base : Heap} {A : Adr}
theorem ok__law_row (T : Txt K mg A) : FnOk P w K mg base CX0 2 A.f__law_row A.d__law_row ["purse", "most"] (sp__law_row K) := by
  have G__law_next := ok__law_next (P := P) (w := w) (base := base) T
  have G__law_value := ok__law_value (P := P) (w := w) (base := base) T
  refine T.F__law_row.ok sc__law_row (fun vs H Q E h => ?_) (fun cdv Ar outer s H vs Q E hr h => ?_)
  · obtain ⟨a, ns, mo, rfl, _⟩ := h
    rfl
  · obtain ⟨a, ns, mo, rfl, ha, hp, hmo, q⟩ := h
    refine ⟨_, (pss_cons (ps_set (i := 2) sc__law_row.nd rfl (Or.inl rfl) (pe_op op_add pe_int (pe_op op_mod (pe_call G__law_next (hr.mono (by decide)) (by rfl) T.g__law_next T.F__law_next.kp T.b__law_next .nil pass0 (pa_cons (pv 0) pa_nil)) (pe_ix (Ur.ix_listK (K := K) rfl) (pe_lst (pa_cons pe_int (pa_cons pe_int (pa_cons pe_int (pa_cons pe_int pa_nil))))) (pe_op op_mod (pe_call G__law_next (hr.mono (by decide)) (by rfl) T.g__law_next T.F__law_next.kp T.b__law_next .nil pass0 (pa_cons (pv 0) pa_nil)) pe_int) (fun _ _ => rfl)))))
    (pss_cons (ps_set (i := 3) sc__law_row.nd rfl (Or.inr rfl) (pe_op op_mod (pe_call G__law_next (hr.mono (by decide)) (by rfl) T.g__law_next T.F__law_next.kp T.b__law_next .nil pass0 (pa_cons (pv 0) pa_nil)) pe_int))
    (pss_cons (ps_set (i := 4) sc__law_row.nd rfl (Or.inl rfl) (pe_op op_mod (pe_call G__law_next (hr.mono (by decide)) (by rfl) T.g__law_next T.F__law_next.kp T.b__law_next .nil pass0 (pa_cons (pv 0) pa_nil)) (pe_ix (Ur.ix_listK (K := K) rfl) (pe_lst (pa_cons pe_int (pa_cons pe_int (pa_cons pe_int (pa_cons pe_int pa_nil))))) (pe_op op_mod (pe_call G__law_next (hr.mono (by decide)) (by rfl) T.g__law_next T.F__law_next.kp T.b__law_next .nil pass0 (pa_cons (pv 0) pa_nil)) pe_int) (fun _ _ => rfl))))
    (pss_cons (ps_set (i := 5) sc__law_row.nd rfl (Or.inl rfl) (pe_op op_mod (pe_call G__law_next (hr.mono (by decide)) (by rfl) T.g__law_next T.F__law_next.kp T.b__law_next .nil pass0 (pa_cons (pv 0) pa_nil)) pe_int))
    (pss_cons (ps_set (i := 6) sc__law_row.nd rfl (Or.inl rfl) (pe_lst pa_nil))
    (pss_cons (ps_for PassesOwn.never (by rfl) (pi_range1 (by rfl) T.m_range (pa_cons (pv 4) pa_nil)) (pg_name (i := 7) sc__law_row.nd rfl (Or.inl rfl)) (pss_cons (ps_set (i := 8) sc__law_row.nd rfl (Or.inl rfl) (pe_call G__law_next (hr.mono (by decide)) (by rfl) T.g__law_next T.F__law_next.kp T.b__law_next .nil pass0 (pa_cons (pv 0) pa_nil)))
    (pss_one (ps_expr (pe_bm PySem.F.plainAttrs_list PySem.F.slot_list_append PySem.F.type_list_append mt_append (pv 6) (pa_cons (pe_op op_mod (pe_ix (Ur.ix_listK (K := K) rfl) (pe_lst (pa_cons (pv 7) (pa_cons (pe_op op_fdiv (pv 7) pe_int) (pa_cons (pv 8) (pa_cons (pv 8) (pa_cons (pv 8) (pa_cons (pv 8) pa_nil))))))) (pv 5) (fun _ _ => rfl)) (pv 2)) pa_nil))))))
    (Evl.pss_cut (ps_if (PW.pt (pw_and (pt_cmpR op_eq (pe_op op_mod (pe_call G__law_next (hr.mono (by decide)) (by rfl) T.g__law_next T.F__law_next.kp T.b__law_next .nil pass0 (pa_cons (pv 0) pa_nil)) pe_int) pe_int (nomark _)) (pw_and1 (pt_cmpR (Ur.op_neDK (K := K) rfl hr.units) (pv 6) (pe_lst pa_nil) (nomark _))))) (pss_cons (ps_set (i := 9) sc__law_row.nd rfl (Or.inl rfl) (pe_op op_add pe_int (pe_op op_mod (pe_call G__law_next (hr.mono (by decide)) (by rfl) T.g__law_next T.F__law_next.kp T.b__law_next .nil pass0 (pa_cons (pv 0) pa_nil)) (pe_ix (Ur.ix_listK (K := K) rfl) (pe_lst (pa_cons pe_int (pa_cons pe_int pa_nil))) (pe_op op_mod (pe_call G__law_next (hr.mono (by decide)) (by rfl) T.g__law_next T.F__law_next.kp T.b__law_next .nil pass0 (pa_cons (pv 0) pa_nil)) pe_int) (fun _ _ => rfl)))))
    (pss_cons (ps_set (i := 10) sc__law_row.nd rfl (Or.inl rfl) (Ur.pe_b1 (Ur.call_lenIK (K := K) rfl) (by rfl) T.m_len (by decide +kernel) (pv 6)))
    (pss_cons (ps_set (i := 11) sc__law_row.nd rfl (Or.inl rfl) (pe_op op_add (pv 2) (pv 9)))
    (pss_cons (ps_set (i := 12) sc__law_row.nd rfl (Or.inl rfl) (pe_lst pa_nil))
    (pss_cons (ps_for PassesOwn.never (by rfl) (pi_range1 (by rfl) T.m_range (pa_cons (pv 1) pa_nil)) (pg_name (i := 7) sc__law_row.nd rfl (Or.inl rfl)) (pss_one (ps_expr (pe_bm PySem.F.plainAttrs_list PySem.F.slot_list_append PySem.F.type_list_append mt_append (pv 12) (pa_cons (pe_op op_mod (pe_op op_add (pe_ix (Ur.ix_listK (K := K) rfl) (pv 6) (pe_op op_mod (pv 7) (pv 10)) (fun _ _ => rfl)) (pe_op op_mod (pe_op op_fdiv (pv 7) (pv 10)) (pv 9))) (pv 11)) pa_nil)))))
    (pss_one (ps_set (i := 6) sc__law_row.nd rfl (Or.inl rfl) (pv 12)))))))) pss_nil)
    (pss_one (ps_ret (pe_lc (own := [("at", 13)]) (g := gName 13) (by rfl) sc__law_row.nd (pi_list (pv 6)) (blkOk_by (own := [("at", 13)]) (N := ["purse", "most", "unlike", "way", "many", "kind", "places", "k", "drawn", "turns", "size", "wide", "again", "at"]) (by kernel_rfl)) (fun _ _ _ _ _ => pg_name (i := 13) sc__law_row.nd rfl (Or.inl rfl)) (fun _ _ _ _ _ => pts_nil) (fun _ _ _ _ _ => (pe_call G__law_value (hr.mono (by decide)) (by rfl) T.g__law_value T.F__law_value.kp T.b__law_value .nil pass0 (pa_cons (pv 3) (pa_cons (pv 13) pa_nil)))))))))))))), ?_⟩
    tb_start
    intro x1 n1 H1 hx1 hp1 a1 b1
    tb_start
    intro p2 np2
    have hap2 : a ≠ p2 := by kcj_m
    tb_start
    intro x3 n3 H3 hx3 hp3 a3 b3
    have e3 := b3 _ _ (Ne.symm hap2) upd_same
    have g3 := getD4 (x := 2) (y := 4) (z := 9) (w := 40) (i := x3 % 4) (lo := 2) (hi := 40) (by omega) (by omega) (by omega) (by omega) (by omega) (by omega)
    tb_start
    generalize [(2 : Int), 4, 9, 40].getD (x3 % 4).toNat 0 = u0 at g3 ⊢
    have hu1 := Int.emod_nonneg x1 (show u0 ≠ 0 by omega)
    have hu2 := Int.emod_lt_of_pos x1 (show 0 < u0 by omega)
    intro x4 n4 H4 hx4 hp4 a4 b4
    tb_start
    intro x5 n5 H5 hx5 hp5 a5 b5
    tb_start
    intro p6 np6
    have hap6 : a ≠ p6 := by kcj_m
    tb_start
    intro x7 n7 H7 hx7 hp7 a7 b7
    have e7 := b7 _ _ (Ne.symm hap6) upd_same
    have g7 := getD4 (x := 5) (y := 12) (z := 30) (w := 41) (i := x7 % 4) (lo := 5) (hi := 41) (by omega) (by omega) (by omega) (by omega) (by omega) (by omega)
    tb_start
    generalize [(5 : Int), 12, 30, 41].getD (x7 % 4).toNat 0 = u1 at g7 ⊢
    have hm1 := Int.emod_nonneg x5 (show u1 ≠ 0 by omega)
    have hm2 := Int.emod_lt_of_pos x5 (show 0 < u1 by omega)
    intro x8 n8 H8 hx8 hp8 a8 b8
    tb_start
    intro pl npl
    have hapl : a ≠ pl := by kcj_m
    have bH : But a H (upd H8 pl (.lst [])) := by cc_are
    have fpl : H pl = none := by cc_off
    tb_start
    refine for_range (fun i σ H' => Iv (∃ (u7 u8 u9 u10 u11 u12 u13 : Option V) (ps ms : List Int), σ = [some (.ref a), some (.int mo), some (.int (1 + x1 % u0)), some (.int (x4 % 5)), some (.int (x5 % u1)), some (.int (x8 % 6)), some (.ref pl), u7, u8, u9, u10, u11, u12, u13] ∧ H' pl = some (.lst (ps.map V.int)) ∧ ps.length = i ∧ H' a = some (.lst (ms.map V.int)) ∧ (∀ x ∈ ms, 0 ≤ x) ∧ But a H H')) ?h0 ?hs ?hd
    case h0 => exact ⟨_, _, _, _, _, _, _, [], n8, rfl, upd_same, rfl, by kct_strs, hp8, bH⟩
    case hs =>
      rintro i σ H' hi ⟨u7, u8, u9, u10, u11, u12, u13, ps, ms, rfl, ep, hl, ea, hms, b'⟩
      have hi2 : i < 41 := by omega
      tb_start
      intro y1 m1 K1 hy1 hq1 c1 d1
      have ep1 := d1 _ _ (Ne.symm hapl) ep
      have b1' := but_step d1 b'
      clear d1 b'
      tb_start
      intro p9 np9
      have hap9 : a ≠ p9 := by kcj_m
      tb_start
      exact ⟨_, _, _, _, _, _, _, _, m1, rfl, by kct_strs, by rw [List.length_append, hl]; rfl, by kct_strs, hq1, by cc_are⟩
    case hd =>
      rintro σ H' ⟨u7, u8, u9, u10, u11, u12, u13, ps, ms, rfl, ep, hl, ea, hms, b'⟩
      have hlen : ps.length ≤ 41 := by omega
      refine ⟨fun σ H' => Iv (∃ (u7 u8 u9 u10 u11 u12 u13 : Option V) (pl : Addr) (ps ms : List Int), σ = [some (.ref a), some (.int mo), some (.int (1 + x1 % u0)), some (.int (x4 % 5)), some (.int (x5 % u1)), some (.int (x8 % 6)), some (.ref pl), u7, u8, u9, u10, u11, u12, u13] ∧ H' pl = some (.lst (ps.map V.int)) ∧ H pl = none ∧ pl ≠ a ∧ ps.length ≤ 300 ∧ H' a = some (.lst (ms.map V.int)) ∧ (∀ x ∈ ms, 0 ≤ x) ∧ But a H H'), ?_, ?_⟩
      · tb_start
        intro y1 m1 K1 hy1 hq1 c1 d1
        have ep1 := d1 _ _ (Ne.symm hapl) ep
        have b1' := but_step d1 b'
        clear d1 b'
        tb_start
        refine bri (fun h8 => ?_) (fun h8 => ?_)
        · tb_start
          intro pe npe
          have hape : a ≠ pe := by kcj_m
          have hlpe : pl ≠ pe := by kcj_m
          tb_start
          refine brn (fun hne => ?_) (fun hne => ?_)
          · have hpos : 0 < ps.length := by
              cases ps with
              | nil => exact absurd rfl hne
              | cons y ps => exact Nat.succ_pos _
            tb_start
            intro y2 m2 K2 hy2 hq2 c2 d2
            have ep2 := d2 _ _ (Ne.symm hapl) (by kct_strs)
            have b2' : But a H K2 := but_step d2 (but_snoc npe b1')
            clear d2 b1'
            tb_start
            intro pf npf
            have hapf : a ≠ pf := by kcj_m
            have hlpf : pl ≠ pf := by kcj_m
            tb_start
            intro y3 m3 K3 hy3 hq3 c3 d3
            have ep3 := d3 _ _ (Ne.symm hapl) (by kct_strs)
            have ef3 := d3 _ _ (Ne.symm hapf) upd_same
            have b3' : But a H K3 := but_step d3 (but_snoc npf b2')
            clear d3 b2'
            have g7' := getD2 (x := 7) (y := 300) (i := y3 % 2) (lo := 7) (hi := 300) (by omega) (by omega) (by omega) (by omega)
            have t1 := Int.emod_nonneg y2 (show [(7 : Int), 300].getD (y3 % 2).toNat 0 ≠ 0 by omega)
            tb_start
            intro pg npg
            have hapg : a ≠ pg := by kcj_m
            have hlpg : pl ≠ pg := by kcj_m
            have fpg : H pg = none := by cc_off
            tb_start
            refine for_range (fun i σ H' => Iv (∃ (u7 u8 u13 : Option V) (rs : List Int), σ = [some (.ref a), some (.int mo), some (.int (1 + x1 % u0)), some (.int (x4 % 5)), some (.int (x5 % u1)), some (.int (x8 % 6)), some (.ref pl), u7, u8, some (.int (1 + y2 % [(7 : Int), 300].getD (y3 % 2).toNat 0)), some (.int ps.length), some (.int (1 + x1 % u0 + (1 + y2 % [(7 : Int), 300].getD (y3 % 2).toNat 0))), some (.ref pg), u13] ∧ H' pg = some (.lst (rs.map V.int)) ∧ rs.length = i ∧ H' pl = some (.lst (ps.map V.int)) ∧ H' a = some (.lst (m3.map V.int)) ∧ But a H H')) ?i0 ?is ?id
            case i0 => exact ⟨_, _, _, [], rfl, upd_same, rfl, by kct_strs, by kct_strs, by cc_are⟩
            case is =>
              rintro j σ H5 hj ⟨u7, u8, u13, rs, rfl, eg, hl, ep5, ea5, b5'⟩
              have hj2 : j < 300 := by omega
              have k1' := Int.emod_nonneg ((0 : Int) + (j : Int)) (show (ps.length : Int) ≠ 0 by omega)
              have k2' := Int.emod_lt_of_pos ((0 : Int) + (j : Int)) (show 0 < (ps.length : Int) by omega)
              tb_start
              exact ⟨_, _, _, _, rfl, by kct_strs, by rw [List.length_append, hl]; rfl, by kct_strs, by kct_strs, by cc_are⟩
            case id =>
              rintro σ H5 ⟨u7, u8, u13, rs, rfl, eg, hl, ep5, ea5, b5'⟩
              tb_start
              exact ⟨_, _, _, _, _, _, _, pg, rs, m3, rfl, eg, fpg, Ne.symm hapg, by omega, ea5, hq3, b5'⟩
          · exact ⟨_, _, _, _, _, _, _, pl, ps, m1, rfl, by kct_strs, fpl, Ne.symm hapl, by omega, by kct_strs, hq1, by cc_are⟩
        · exact ⟨_, _, _, _, _, _, _, pl, ps, m1, rfl, by kct_strs, fpl, Ne.symm hapl, by omega, by kct_strs, hq1, by cc_are⟩
      · rintro σ H2' ⟨u7, u8, u9, u10, u11, u12, u13, pl, ps, ms, rfl, ep, fpl, hpa, hlen, ea, hms, b'⟩
        tb_start
        intro D nD
        have hDa : D ≠ a := by kcj_m
        refine lc_list (K := K) (a := pl) (xs := ps.map V.int) (fun i H'' => ∃ r : List Int, H'' D = some (.lst (r.map V.int)) ∧ r.length = i ∧ Same H2' H'') ⟨[], upd_same, rfl, same_new nD⟩ (fun i H'' _ p => ?_) (fun i x H'' hx p => ?_) (fun H'' p => ?_)
        · obtain ⟨r, _, _, s⟩ := p
          exact .of (s _ _ ep)
        · obtain ⟨z, hz, rfl⟩ := iv_get hx
          have hi := (List.getElem?_eq_some_iff.mp hz).1
          obtain ⟨r, e, hl, s⟩ := p
          refine ⟨rfl, tyes_ok ?_⟩
          tb_start
          intro v K1 s1
          exact ⟨_, s1 _ _ e, szl (by rw [List.length_map]; omega), r ++ [v], upd_snoc, by rw [List.length_append, hl]; rfl, same_upd' nD (s.trans s1)⟩
        · obtain ⟨r, e, hl, s⟩ := p
          exact q D r ms _ e (s _ _ ea) hms (but_step' s b') (by cc_off) (by rw [hl, List.length_map]; exact hlen)
end
end Ur
namespace Ur
open PySem L2
/-- the longest window with at most so many: a new pair -/
def sp_longest_within (K : PySem.W.Frag) : Sp := fun vs H Q _ => ∃ (a : Addr) (ns : List Int) (m : Int), vs = [.ref a, .int m] ∧ SqL K H a (ns.map V.int) ∧ ns.length ≤ 1000 ∧ 0 ≤ m ∧ ∀ p H', H' p = some (.tup [.int (lwin ns m).1, .int (lwin ns m).2]) → Same H H' → H p = none → Q (.ref p) H'
section
variable {P : Program} {w : World} {K : PySem.W.Frag} {mg : Str → Option Value} {base : Heap} {A : Adr}
theorem ok_longest_within (T : Txt K mg A) : FnOk P w K mg base CX0 5 A.f_longest_within A.d_longest_within ["row", "many"] (sp_longest_within K) := by
  have G_ends_within := ok_ends_within (P := P) (w := w) (base := base) T
  refine T.F_longest_within.ok sc_longest_within (fun vs H Q E h => ?_) (fun cdv Ar outer s H vs Q E hr h => ?_)
  · obtain ⟨a, ns, m, rfl, _⟩ := h
    rfl
  · obtain ⟨a, ns, m, rfl, ha, hl, hm, q⟩ := h
    refine ⟨_, (pss_cons (ps_set (i := 2) sc_longest_within.nd rfl (Or.inl rfl) (pe_tup (pa_cons pe_int (pa_cons pe_int pa_nil))))
    (pss_cons (ps_for PassesOwn.never (by rfl) (pi_enum (by rfl) T.m_enumerate (pa_cons (pe_call G_ends_within (hr.mono (by decide)) (by rfl) T.g_ends_within T.F_ends_within.kp T.b_ends_within .nil pass0 (pa_cons (pv 0) (pa_cons (pv 1) pa_nil))) pa_nil)) (pg_tup (by rfl) (pgs_cons (pg_name (i := 3) sc_longest_within.nd rfl (Or.inl rfl)) (pgs_cons (pg_name (i := 4) sc_longest_within.nd rfl (Or.inl rfl)) pgs_nil))) (pss_one (ps_if (pt_cmpR op_gt (pe_op op_sub (pv 4) (pv 3)) (pe_op op_sub (pe_ix (Ur.ix_tupK (K := K) rfl) (pv 2) pe_int (fun _ _ => rfl)) (pe_ix (Ur.ix_tupK (K := K) rfl) (pv 2) pe_int (fun _ _ => rfl))) (nomark _)) (pss_one (ps_set (i := 2) sc_longest_within.nd rfl (Or.inl rfl) (pe_tup (pa_cons (pv 3) (pa_cons (pv 4) pa_nil))))) pss_nil)))
    (pss_one (ps_ret (pv 2))))), ?_⟩
    tb_start
    intro p0 np0
    tb_start
    intro p1 H1 e1 s1 n1
    have e01 := s1 _ _ upd_same
    have sH1 : Same H H1 := (same_new np0).trans s1
    tb_start
    refine for_enum (xs := ((List.range ns.length).map (wi ns m)).map V.int) (fun k σ H' => Iv (∃ (u3 u4 : Option V) (p : Addr), σ = [some (.ref a), some (.int m), some (.ref p), u3, u4] ∧ H' p = some (.tup [.int (lwK ns m k).1, .int (lwK ns m k).2]) ∧ H p = none ∧ H' p1 = some (.lst (((List.range ns.length).map (wi ns m)).map V.int)) ∧ Same H H')) ?h0 ?hl ?hs ?hd
    case h0 => exact ⟨_, _, p0, rfl, e01, np0, e1, sH1⟩
    case hl =>
      rintro k σ H' hk ⟨u3, u4, p, rfl, ep, np, e1, s⟩
      kct_strs
    case hd =>
      rintro σ H' ⟨u3, u4, p, rfl, ep, np, e1, s⟩
      rw [List.length_map, List.length_map, List.length_range] at ep
      tb_start
      exact q p _ ep s np
    case hs =>
      rintro k x σ H2 H3 hx ⟨u3, u4, p, rfl, ep, np, e1, s⟩ s3
      obtain ⟨e, he, rfl⟩ := iv_get hx
      have hk := (List.getElem?_eq_some_iff.mp he).1
      rw [List.length_map, List.length_range] at hk
      have hew : e = wi ns m k := by
        rw [List.getElem?_map, List.getElem?_range hk] at he
        exact (Option.some.inj he).symm
      subst hew
      have hs1 : lwK ns m (k + 1) = better (lwK ns m k) k (wi ns m k) := rfl
      have ep3 := s3 _ _ ep
      have e13 := s3 _ _ e1
      have sH3 := s.trans s3
      tb_start
      refine br (fun h => ?_) (fun h => ?_)
      · tb_start
        intro p4 np4
        have h14 : p1 ≠ p4 := by kcj_m
        have fp4 : H p4 = none := sH3.free np4
        refine ⟨_, _, p4, rfl, ?_, fp4, by kct_strs, by kcj_in⟩
        rw [hs1]
        unfold better
        rw [if_pos (by omega)]
        exact upd_same
      · refine ⟨_, _, p, rfl, ?_, np, e13, sH3⟩
        rw [hs1]
        unfold better
        rw [if_neg (by omega)]
        exact ep3
end
end Ur
namespace Ur
open PySem L2
theorem lonK_spec (ns : List Int) (m : Int) : ∀ k : Nat, (lonL (strK ns m k) = none ∧ ∀ f, f < k → endAt ns f m = none) ∨ ∃ f : Nat, f < k ∧ endAt ns f m ≠ none ∧ lonL (strK ns m k) = some ((f : Int), wi ns m f) ∧ ∀ g : Nat, g < k → endAt ns g m ≠ none → wi ns m g - g ≤ wi ns m f - f ∧ (wi ns m g - g = wi ns m f - f → f ≤ g)
  | 0 => .inl ⟨rfl, fun f h => absurd h (Nat.not_lt_zero f)⟩
  | k + 1 => by
    have ih := lonK_spec ns m k
    rw [strK_s]
    cases e : endAt ns k m with
    | none =>
      rw [Option.map_none, Option.toList_none, List.append_nil]
      rcases ih with ⟨h1, h2⟩ | ⟨f, h1, h2, h3, h4⟩
      · refine .inl ⟨h1, fun f hf => ?_⟩
        by_cases c : f = k
        · rw [c]; exact e
        · exact h2 f (by omega)
      · refine .inr ⟨f, by omega, h2, h3, fun g hg hn => h4 g ?_ hn⟩
        by_cases c : g = k
        · rw [c] at hn; exact absurd e hn
        · omega
    | some b =>
      rw [Option.map_some, Option.toList_some, lonL_snoc]
      have hk : endAt ns k m ≠ none := by rw [e]; exact fun z => nomatch z
      rcases ih with ⟨h1, h2⟩ | ⟨f, h1, h2, h3, h4⟩
      · rw [h1]
        refine .inr ⟨k, by omega, hk, rfl, fun g hg hn => ?_⟩
        by_cases c : g = k
        · subst c; exact ⟨Int.le_refl _, fun _ => Nat.le_refl _⟩
        · exact absurd (h2 g (by omega)) hn
      · rw [h3]
        have hs : wbo (some ((f : Int), wi ns m f)) k (wi ns m k) = if wi ns m k - k > wi ns m f - f then some ((k : Int), wi ns m k) else some ((f : Int), wi ns m f) := rfl
        dsimp only
        rw [hs]
        by_cases c : wi ns m k - k > wi ns m f - f
        · rw [if_pos c]
          refine .inr ⟨k, by omega, hk, rfl, fun g hg hn => ?_⟩
          by_cases d : g = k
          · subst d; exact ⟨Int.le_refl _, fun _ => Nat.le_refl _⟩
          · have := (h4 g (by omega) hn).1
            exact ⟨by omega, fun z => by omega⟩
        · rw [if_neg c]
          refine .inr ⟨f, by omega, h2, rfl, fun g hg hn => ?_⟩
          by_cases d : g = k
          · subst d; exact ⟨by omega, fun z => by omega⟩
          · exact h4 g (by omega) hn
theorem lwK_spec (ns : List Int) (m : Int) : ∀ k : Nat, (lwK ns m k = (0, 0) ∧ ∀ g : Nat, g < k → wi ns m g - g ≤ 0) ∨ ∃ f : Nat, f < k ∧ 0 < wi ns m f - f ∧ lwK ns m k = ((f : Int), wi ns m f) ∧ ∀ g : Nat, g < k → wi ns m g - g ≤ wi ns m f - f ∧ (wi ns m g - g = wi ns m f - f → f ≤ g)
  | 0 => .inl ⟨rfl, fun f h => absurd h (Nat.not_lt_zero f)⟩
  | k + 1 => by
    have ih := lwK_spec ns m k
    have hs1 : lwK ns m (k + 1) = better (lwK ns m k) k (wi ns m k) := rfl
    rw [hs1]
    unfold better
    rcases ih with ⟨h1, h2⟩ | ⟨f, h1, h2, h3, h4⟩
    · rw [h1]
      by_cases c : wi ns m k - k > (0 : Int) - 0
      · rw [if_pos c]
        refine .inr ⟨k, by omega, by omega, rfl, fun g hg => ?_⟩
        by_cases d : g = k
        · subst d; exact ⟨Int.le_refl _, fun _ => Nat.le_refl _⟩
        · have := h2 g (by omega)
          exact ⟨by omega, fun z => by omega⟩
      · rw [if_neg c]
        refine .inl ⟨rfl, fun g hg => ?_⟩
        by_cases d : g = k
        · subst d; omega
        · exact h2 g (by omega)
    · rw [h3]
      dsimp only
      by_cases c : wi ns m k - k > wi ns m f - f
      · rw [if_pos c]
        refine .inr ⟨k, by omega, by omega, rfl, fun g hg => ?_⟩
        by_cases d : g = k
        · subst d; exact ⟨Int.le_refl _, fun _ => Nat.le_refl _⟩
        · have := (h4 g (by omega)).1
          exact ⟨by omega, fun z => by omega⟩
      · rw [if_neg c]
        refine .inr ⟨f, by omega, h2, rfl, fun g hg => ?_⟩
        by_cases d : g = k
        · subst d; exact ⟨by omega, fun z => by omega⟩
        · exact h4 g (by omega)
/-- by the key: wider, or as wide and further ahead -/
def kle (a b : Int × Int) : Prop := a.1 - a.2 < b.1 - b.2 ∨ (a.1 - a.2 = b.1 - b.2 ∧ a.1 ≤ b.1)
theorem kle_anti {a b : Int × Int} (h1 : kle a b) (h2 : kle b a) : a = b := by
  obtain ⟨a1, a2⟩ := a
  obtain ⟨b1, b2⟩ := b
  unfold kle at h1 h2
  dsimp only at h1 h2
  have e1 : a1 = b1 := by omega
  have e2 : a2 = b2 := by omega
  rw [e1, e2]
theorem kle_trans {a b c : Int × Int} (h1 : kle a b) (h2 : kle b c) : kle a c := by unfold kle at *; omega
theorem kle_refl (a : Int × Int) : kle a a := .inr ⟨rfl, Int.le_refl _⟩
theorem lex2 (a b c d : Int) : HT.lexLt [a, b] [c, d] = decide (a < c ∨ (a = c ∧ b < d)) := by
  rw [HT.lexLt_cons]
  by_cases h : a = c
  · rw [if_pos h, HT.lexLt_cons]
    by_cases h2 : b = d
    · rw [if_pos h2, HT.lexLt_nil_nil]
      exact (decide_eq_false (by omega)).symm
    · rw [if_neg h2]
      exact decide_eq_decide.mpr (by omega)
  · rw [if_neg h]
    exact decide_eq_decide.mpr (by omega)
/-- the lesser of two by the key, the first of alike ones -/
def wStep (b : Int × Int) (o : Option (Int × Int)) : Int × Int := match o with
  | none => b
  | some p => if HT.lexLt [p.1 - p.2, p.1] [b.1 - b.2, b.1] then p else b
def wBest (ns : List Int) : Nat → Int × Int
  | 0 => (0, 0)
  | k + 1 => wStep (wBest ns k) (lon ns k)
theorem wStep_le (b : Int × Int) (o : Option (Int × Int)) : kle (wStep b o) b ∧ (∀ p, o = some p → kle (wStep b o) p) ∧ (wStep b o = b ∨ o = some (wStep b o)) := by
  cases o with
  | none => exact ⟨kle_refl b, fun p h => (nomatch h), .inl rfl⟩
  | some p =>
    have hs : wStep b (some p) = if HT.lexLt [p.1 - p.2, p.1] [b.1 - b.2, b.1] then p else b := rfl
    rw [hs, lex2]
    by_cases c : p.1 - p.2 < b.1 - b.2 ∨ (p.1 - p.2 = b.1 - b.2 ∧ p.1 < b.1)
    · rw [if_pos (decide_eq_true c)]
      refine ⟨?_, fun q h => ?_, .inr rfl⟩
      · unfold kle; omega
      · cases h; exact kle_refl _
    · rw [if_neg (fun z => c (of_decide_eq_true z))]
      refine ⟨kle_refl b, fun q h => ?_, .inl rfl⟩
      cases h
      unfold kle; omega
theorem wBest_le (ns : List Int) : ∀ k : Nat, kle (wBest ns k) (0, 0) ∧ (∀ j : Nat, j < k → ∀ p, lon ns j = some p → kle (wBest ns k) p) ∧ (wBest ns k = (0, 0) ∨ ∃ j : Nat, j < k ∧ lon ns j = some (wBest ns k))
  | 0 => ⟨kle_refl _, fun j h => absurd h (Nat.not_lt_zero j), .inl rfl⟩
  | k + 1 => by
    obtain ⟨i1, i2, i3⟩ := wBest_le ns k
    obtain ⟨s1, s2, s3⟩ := wStep_le (wBest ns k) (lon ns k)
    refine ⟨kle_trans s1 i1, fun j hj p hp => ?_, ?_⟩
    · by_cases c : j = k
      · subst c; exact s2 p hp
      · exact kle_trans s1 (i2 j (by omega) p hp)
    · rcases s3 with s3 | s3
      · have e : wBest ns (k + 1) = wBest ns k := s3
        rw [e]
        rcases i3 with i3 | ⟨j, hj, i3⟩
        · exact .inl i3
        · exact .inr ⟨j, by omega, i3⟩
      · exact .inr ⟨k, by omega, s3⟩
/-- the longest with at most so many is the widest of the longest ones -/
theorem wBest_lwin (ns : List Int) (m : Nat) : wBest ns (m + 1) = lwin ns m := by
  obtain ⟨b1, b2, b3⟩ := wBest_le ns (m + 1)
  have hw : lwin ns m = lwK ns m ns.length := rfl
  rw [hw]
  have hL := lwK_spec ns m ns.length
  refine kle_anti ?_ ?_
  · rcases hL with ⟨e, _⟩ | ⟨f, h1, h2, h3, h4⟩
    · rw [e]; exact b1
    · rw [h3]
      obtain ⟨w1, w2, w3⟩ := wi_spec (ns := ns) (m := m) (f := f) (by omega) (by omega)
      obtain ⟨w, ew⟩ : ∃ w : Nat, wi ns m f = w := ⟨(wi ns m f).toNat, by omega⟩
      rw [ew] at w1 w2 w3 h2 h4 ⊢
      have hj := (w3 w (by omega) (by omega)).mpr (Int.le_refl _)
      have k1 := wunN_up (ns := ns) (f := f) (b := f) (Nat.le_refl f) h1
      rw [wunN_none, if_pos (by have := lastAt_range ns (ns.getD f 0) f; omega)] at k1
      have k2 := wunN_monoB (ns := ns) (f := f) (b := f + 1) (k := w - (f + 1)) (by omega) (by omega)
      rw [show f + 1 + (w - (f + 1)) = w by omega] at k2
      obtain ⟨j, ej⟩ : ∃ j : Nat, wunN ns f w = j := ⟨_, rfl⟩
      rw [ej] at hj k2
      obtain ⟨e, g1, g2, g3⟩ := (just_iff (ns := ns) (m := (j : Int)) (f := f) (b := w) (by omega) (by omega) (by omega)).mp (by rw [ej])
      have hl : lon ns j = lonL (strK ns j ns.length) := by
        unfold lon strL
        rw [if_neg (by omega)]
      obtain ⟨v1, v2, v3⟩ := wi_spec (ns := ns) (m := (j : Int)) (f := f) (by omega) (by omega)
      obtain ⟨v, ev⟩ : ∃ v : Nat, wi ns j f = v := ⟨(wi ns j f).toNat, by omega⟩
      have hvw : (v : Int) ≤ w := by
        rw [ev] at v1 v2 v3
        exact (w3 v (by omega) (by omega)).mp (by have := (v3 v (by omega) (by omega)).mpr (Int.le_refl _); omega)
      rcases lonK_spec ns j ns.length with ⟨_, n2⟩ | ⟨f', n1, n2, n3, n4⟩
      · have := n2 f h1
        rw [this] at g1; cases g1
      · obtain ⟨q1, q2⟩ := n4 f h1 (by rw [g1]; exact fun z => nomatch z)
        have := b2 j (by omega) _ (hl.trans n3)
        refine kle_trans this ?_
        unfold kle
        dsimp only
        omega
  · have key : ∀ p : Int × Int, (p = (0, 0) ∨ ∃ j : Nat, j < m + 1 ∧ lon ns j = some p) → kle (lwK ns m ns.length) p := by
      rintro p (rfl | ⟨j, hj, hp⟩)
      · rcases hL with ⟨e, _⟩ | ⟨f, h1, h2, h3, h4⟩
        · rw [e]; exact kle_refl _
        · rw [h3]; unfold kle; dsimp only; omega
      · by_cases c : (j : Int) = 0
        · have e : lon ns j = none := by
            unfold lon strL
            rw [if_pos c]; rfl
          rw [e] at hp; cases hp
        · have hl : lon ns j = lonL (strK ns j ns.length) := by
            unfold lon strL
            rw [if_neg c]
          rw [hl] at hp
          rcases lonK_spec ns j ns.length with ⟨n1, _⟩ | ⟨f', n1, n2, n3, n4⟩
          · rw [n1] at hp; cases hp
          · rw [n3] at hp
            cases hp
            obtain ⟨v1, v2, v3⟩ := wi_spec (ns := ns) (m := (j : Int)) (f := f') (by omega) (by omega)
            obtain ⟨w1, w2, w3⟩ := wi_spec (ns := ns) (m := (m : Int)) (f := f') (by omega) (by omega)
            obtain ⟨v, ev⟩ : ∃ v : Nat, wi ns j f' = v := ⟨(wi ns j f').toNat, by omega⟩
            rw [ev] at v1 v2 v3 ⊢
            have hvw := (w3 v (by omega) (by omega)).mp (by have := (v3 v (by omega) (by omega)).mpr (Int.le_refl _); omega)
            rcases hL with ⟨e, h2⟩ | ⟨f, h1, h2, h3, h4⟩
            · have := h2 f' n1
              rw [e]; unfold kle; dsimp only; omega
            · obtain ⟨q1, q2⟩ := h4 f' n1
              rw [h3]; unfold kle; dsimp only; omega
    exact key _ b3
theorem rEq_tupW {K : PySem.W.Frag} {H : Hp} {a b : Addr} {x y : Int} {Q : VK} (h1 : H a = some (.tup [.int x, .int y])) (h2 : H b = some (.tup [.int x, .int y])) (q : Q (.bl true) H) : rEqD K (.ref a) (.ref b) H Q := by
  have hs : SeqAt.shaped (tupD [x, y]) = true := shaped_of (canLayAll_ints [x, y]) (Nat.le_trans (depth_tup [x, y]) (by decide))
  refine ⟨_, _, dp_tup (ns := [x, y]) h1, dp_tup (ns := [x, y]) h2, hs, hs, ?_⟩
  have e : PyData.eqv (tupD [x, y]) (tupD [x, y]) = true := by
    show PyData.eqvAll _ _ = true
    refine eqvAll_refl _ fun d h => ?_
    obtain ⟨n, _, rfl⟩ := List.mem_map.mp h
    show (n == n) = true
    exact beq_self_eq_true _
  rw [e]; exact q
/-- the longest window with at most so many by those with just so many: True -/
def sp__law_within_right (K : PySem.W.Frag) (Pt : Addr) : Sp := fun vs H Q _ => ∃ (a : Addr) (ns : List Int) (m : Int), vs = [.ref a, .int m] ∧ H Pt = some (.tbl #[]) ∧ H a = some (.lst (ns.map V.int)) ∧ ns.length ≤ 1000 ∧ 0 ≤ m ∧ m ≤ 1000 ∧ ∀ H', Q (.bl true) H'
section
variable {P : Program} {w : World} {K : PySem.W.Frag} {mg : Str → Option Value} {base : Heap} {A : Adr}
theorem ok__law_within_right {cc Pt : Addr} (T : Txt K mg A) (MK : Ur.MkD K mg base A.f__law_within_right A.d__law_within_right "_law_within_right" "_law_within_right" s__law_within_right cc Pt) : FnOk P w K mg base CX0 7 A.f__law_within_right A.d__law_within_right ["row", "many"] (sp__law_within_right K Pt) := by
  have G_longest := ok_longest (P := P) (w := w) (base := base) T
  have G_longest_within := ok_longest_within (P := P) (w := w) (base := base) T
  have TB := MK.tb
  refine MK.ok sc__law_within_right (fun vs H Q E h => ?_) (fun Ar outer s H vs Q E hr h => ?_)
  · obtain ⟨a, ns, m, rfl, _⟩ := h
    rfl
  · obtain ⟨a, ns, m, rfl, hPt, ha, hl, hm, hm2, q⟩ := h
    refine ⟨_, (pss_cons (ps_set (i := 2) sc__law_within_right.nd rfl (Or.inl rfl) (pe_tup (pa_cons pe_int (pa_cons pe_int pa_nil))))
    (pss_cons (ps_for PassesOwn.never (by rfl) (pi_range1 (by rfl) T.m_range (pa_cons (pe_op op_add (pv 1) pe_int) pa_nil)) (pg_name (i := 3) sc__law_within_right.nd rfl (Or.inl rfl)) (pss_cons (ps_set (i := 4) sc__law_within_right.nd rfl (Or.inl rfl) (pe_call G_longest (hr.mono (by decide)) (by rfl) T.g_longest T.F_longest.kp T.b_longest .nil pass0 (pa_cons (pv 0) (pa_cons (pv 3) pa_nil))))
    (pss_one (ps_if (pt_cmpR op_notN (pv 4) pe_non (nomark _)) (pss_one (ps_set (i := 2) sc__law_within_right.nd rfl (Or.inl rfl) (Ur.pe_minLam (k := 0) (N := ["window"]) (ps := ["window"]) rfl (hr.mono (by decide)) (by rfl) T.m_min (pa_cons (pv 2) (pa_cons (pv 4) pa_nil)) TB rfl (List.mem_singleton.mpr rfl) (fun p hp _ => by rw [List.mem_singleton.mp hp]) (NdefX.nscope_by (by rfl)) rfl rfl (fun q pm cv ctv us hl => match us, hl with | [_], _ => rfl) (by rfl) (fun A outer s H f c hr => (pe_tup (pa_cons (pe_op op_sub (pe_ix (Ur.ix_tupK (K := K) rfl) (pv 0) pe_int (fun _ _ => rfl)) (pe_ix (Ur.ix_tupK (K := K) rfl) (pv 0) pe_int (fun _ _ => rfl))) (pa_cons (pe_ix (Ur.ix_tupK (K := K) rfl) (pv 0) pe_int (fun _ _ => rfl)) pa_nil))))))) pss_nil))))
    (pss_one (ps_ret (pe_cmpR (Ur.op_eqDK (K := K) rfl hr.units) (pe_call G_longest_within (hr.mono (by decide)) (by rfl) T.g_longest_within T.F_longest_within.kp T.b_longest_within .nil pass0 (pa_cons (pv 0) (pa_cons (pv 1) pa_nil))) (pv 2) (nomark _)))))), ?_⟩
    tb_start
    intro p0 np0
    have s0 : Same H (upd H p0 (.tup [.int 0, .int 0])) := same_new np0
    have e0 : (upd H p0 (.tup [.int 0, .int 0])) p0 = some (.tup [.int 0, .int 0]) := upd_same
    have ha0 := s0 _ _ ha
    have tb0 : LamX.Tabs [(Pt, Str.ofString "_law_within_right.<locals>." ++ Str.ofString "<lambda>")] (upd H p0 (.tup [.int 0, .int 0])) := fun p hp => by
      rw [List.mem_singleton.mp hp]
      exact LamX.TabS.nil (s0 _ _ hPt)
    clear s0 hPt ha
    generalize (upd H p0 (.tup [.int 0, .int 0])) = H0 at *
    clear np0
    tb_start
    refine for_range (fun k σ H' => Iv (∃ (u3 u4 : Option V) (p : Addr), σ = [some (.ref a), some (.int m), some (.ref p), u3, u4] ∧ H' p = some (.tup [.int (wBest ns k).1, .int (wBest ns k).2]) ∧ H' a = some (.lst (ns.map V.int)) ∧ LamX.Tabs [(Pt, Str.ofString "_law_within_right.<locals>." ++ Str.ofString "<lambda>")] H')) ?h0 ?hs ?hd
    case h0 => exact ⟨_, _, p0, rfl, e0, ha0, tb0⟩
    case hd =>
      rintro σ H' ⟨u3, u4, p, rfl, ep, ha1, tb⟩
      rw [show (m + 1).toNat = m.toNat + 1 by omega, wBest_lwin, show ((m.toNat : Nat) : Int) = m by omega] at ep
      tb_start
      intro p5 H5 e5 s5 n5
      have ep5 := s5 _ _ ep
      tb_start
      exact rEq_tupW (x := (lwin ns m).1) (y := (lwin ns m).2) e5 ep5 (q _)
    case hs =>
      rintro k σ H1 hk ⟨u3, u4, p, rfl, ep, ha1, tb⟩
      tb_start
      intro v H2 ov s2
      rw [show (0 : Int) + (k : Int) = (k : Int) by omega] at ov
      have ep2 := s2 _ _ ep
      have ha2 := s2 _ _ ha1
      have tb2 := tb.ext s2
      clear ep ha1 tb s2
      rcases ov.is with ⟨eo, rfl⟩ | ⟨x, y, pw, eo, rfl, ew⟩
      · have hb : wBest ns (k + 1) = wBest ns k := by
          show wStep _ _ = _
          rw [eo]; rfl
        tb_start
        exact ⟨_, _, p, rfl, by rw [hb]; exact ep2, ha2, tb2⟩
      · have hb : wBest ns (k + 1) = if HT.lexLt [x - y, x] [(wBest ns k).1 - (wBest ns k).2, (wBest ns k).1] then (x, y) else wBest ns k := by
          show wStep _ _ = _
          rw [eo]; rfl
        tb_start
        refine ⟨⟨tb2, _, _, rfl, fun H3 eN T1 => ⟨[(wBest ns k).1 - (wBest ns k).2, (wBest ns k).1], [x - y, x], ?_⟩⟩⟩
        have ep3 := eN _ _ ep2 (fun ps h => by cases h)
        have ew3 := eN _ _ ew (fun ps h => by cases h)
        have ha3 := eN _ _ ha2 (fun ps h => by cases h)
        clear eN ep2 ew ha2 tb2 ov
        show tTup _ [some (.ref p)] H3 _
        tb_start
        intro p6 np6
        have s6 := same_new (o := .tup [.int ((wBest ns k).1 - (wBest ns k).2), .int (wBest ns k).1]) np6
        refine ⟨⟨s6, p6, rfl, upd_same, ?_⟩⟩
        have ep6 := s6 _ _ ep3
        have ew6 := s6 _ _ ew3
        have ha6 := s6 _ _ ha3
        have tb6 := T1.ext s6
        generalize (upd H3 p6 _) = H6 at *
        clear ep3 ew3 ha3 T1 np6 s6
        show tTup _ [some (.ref pw)] H6 _
        tb_start
        intro p7 np7
        have s7 := same_new (o := .tup [.int (x - y), .int x]) np7
        refine ⟨⟨s7, p7, rfl, upd_same, ?_⟩⟩
        have ep7 := s7 _ _ ep6
        have ew7 := s7 _ _ ew6
        have ha7 := s7 _ _ ha6
        have tb7 := tb6.ext s7
        generalize (upd H6 p7 _) = H7 at *
        clear ep6 ew6 ha6 tb6 np7 s7
        by_cases c : HT.lexLt [x - y, x] [(wBest ns k).1 - (wBest ns k).2, (wBest ns k).1] = true
        · rw [if_pos c]
          rw [if_pos c] at hb
          tb_start
          exact ⟨_, _, pw, rfl, by rw [hb]; exact ew7, ha7, tb7⟩
        · rw [if_neg c]
          rw [if_neg c] at hb
          tb_start
          exact ⟨_, _, p, rfl, by rw [hb]; exact ep7, ha7, tb7⟩
end
end Ur
namespace Ur
open PySem L2
/-- how many windows have just so many, for each number there is: a new list -/
def sp_counts (K : PySem.W.Frag) : Sp := fun vs H Q _ => ∃ (a : Addr) (ns : List Int), vs = [.ref a] ∧ SqL K H a (ns.map V.int) ∧ ns.length ≤ 1000 ∧ ∀ p H', H' p = some (.lst ((cntW ns).map V.int)) → Same H H' → H p = none → Q (.ref p) H'
section
variable {P : Program} {w : World} {K : PySem.W.Frag} {mg : Str → Option Value} {base : Heap} {A : Adr}
theorem ok_counts (T : Txt K mg A) : FnOk P w K mg base CX0 3 A.f_counts A.d_counts ["row"] (sp_counts K) := by
  have G_Held___init__ := ok_Held___init__ (P := P) (w := w) (base := base) T
  have G_Held_come := ok_Held_come (P := P) (w := w) (base := base) T
  have G_Held_unlike := ok_Held_unlike (P := P) (w := w) (base := base) T
  refine T.F_counts.ok sc_counts (fun vs H Q E h => ?_) (fun cdv Ar outer s H vs Q E hr h => ?_)
  · obtain ⟨a, ns, rfl, _⟩ := h
    rfl
  · have C_Held := T.C_Held
    have n_Held_times := T.n_Held_times
    obtain ⟨a, ns, rfl, ha, hl, q⟩ := h
    have hun := ulen_le ns
    refine ⟨_, (pss_cons (ps_set (i := 1) sc_counts.nd rfl (Or.inl rfl) (pe_op op_rep (pe_lst (pa_cons pe_int pa_nil)) (pe_op op_add pe_int (Ur.pe_lenSetU (K := K) rfl (by rfl) T.m_len (by rfl) T.m_set (pv 0)))))
    (pss_cons (ps_for PassesOwn.never (by rfl) (pi_range1 (by rfl) T.m_range (pa_cons (Ur.pe_b1 (Ur.call_lenIK (K := K) rfl) (by rfl) T.m_len (by decide +kernel) (pv 0)) pa_nil)) (pg_name (i := 2) sc_counts.nd rfl (Or.inl rfl)) (pss_cons (ps_set (i := 3) sc_counts.nd rfl (Or.inl rfl) (pe_make0 T.M_Held G_Held___init__ (hr.mono (by decide)) (by rfl) T.g_Held T.b_Held___init__ .nil pass0))
    (pss_one (ps_for PassesOwn.never (by rfl) (pi_list (pe_slice (Ur.sl_listK (K := K) rfl) (pv 0) (po_some (pv 2)) po_none)) (pg_name (i := 4) sc_counts.nd rfl (Or.inl rfl)) (pss_cons (ps_expr (pe_meth (pv 3) T.C_Held T.M_Held_come G_Held_come (hr.mono (by decide)) T.b_Held_come .nil pass0 (pa_cons (pv 4) pa_nil)))
    (pss_one (ps_augS (pv 1) (pe_meth0 (pv 3) T.C_Held T.M_Held_unlike G_Held_unlike (hr.mono (by decide)) T.b_Held_unlike .nil pass0) Ur.get_list pe_int ip_add set_list)))))))
    (pss_one (ps_ret (pv 1))))), ?_⟩
    tb_start
    intro p1 np1
    tb_start
    intro p2 np2
    have er : (List.replicate (1 + ((ulen ns : Nat) : Int)).toNat (0 : Int)) = dueCL ns 0 0 := by rw [dueCL_0, show (1 + ((ulen ns : Nat) : Int)).toNat = ulen ns + 1 by omega]
    have e2 : (upd (upd H p1 (.lst [V.int 0])) p2 (.lst (List.replicate (1 + ((ulen ns : Nat) : Int)).toNat [V.int 0]).flatten)) p2 = some (.lst ((dueCL ns 0 0).map V.int)) := by
      rw [← er]
      exact upd_rep0
    have s2 : Same H (upd (upd H p1 (.lst [V.int 0])) p2 (.lst (List.replicate (1 + ((ulen ns : Nat) : Int)).toNat [V.int 0]).flatten)) := by kcj_in
    have f2 : H p2 = none := by cc_off
    tb_start
    refine for_range (fun i σ H' => Iv (∃ (u2 u3 u4 : Option V), σ = [some (.ref a), some (.ref p2), u2, u3, u4] ∧ H' p2 = some (.lst ((dueCL ns i 0).map V.int)) ∧ Same H H')) ?h0 ?hs ?hd
    case h0 => exact ⟨_, _, _, rfl, e2, s2⟩
    case hd =>
      rintro σ H' ⟨u2, u3, u4, rfl, e, s⟩
      tb_start
      exact q p2 _ e s f2
    case hs =>
      rintro i σ H' hi ⟨u2, u3, u4, rfl, e, s⟩
      have hi2 : i < ns.length := by omega
      have ha1 := s.seq ha
      tb_start
      intro x dx nx ndx ne
      refine mk_held nx ndx ne (fun d H1 ex ed nd nxd s1 => ?_)
      have e1 := s1 _ _ e
      have ha2 := s1.seq ha1
      have hx2 : p2 ≠ x := by kcj_m
      have hd2 : p2 ≠ d := by kcj_m
      tb_start
      intro c nc
      have hxc : x ≠ c := by kcj_m
      have hdc : d ≠ c := by kcj_m
      have h2c : p2 ≠ c := by kcj_m
      have fd : H d = none := by cc_off
      rw [cutI_from ns (by omega), show ((0 : Int) + (i : Int)).toNat = i by omega]
      tb_start
      refine for_ints (ns := ns.drop i) (fun k σ H' => Iv (∃ (u4 : Option V) (kvs : List (Key × V)), σ = [some (.ref a), some (.ref p2), some (.int (0 + (i : Int))), some (.ref x), u4] ∧ H' c = some (.lst ((ns.drop i).map V.int)) ∧ H' x = some (.ins A.c_Held dx (hldF d)) ∧ H' d = some (.dK kvs) ∧ Cnt kvs ((ns.drop i).take k) ∧ H' p2 = some (.lst ((dueCL ns i k).map V.int)) ∧ Same H H')) ?i0 ?il ?is ?id
      case i0 => exact ⟨_, [], rfl, upd_same, by kct_strs, by kct_strs, Cnt.nil, by kct_strs, by kcj_in⟩
      case il =>
        rintro k σ H' hk ⟨u4, kvs, rfl, ec, ex, ed, cn, e, s⟩
        kct_strs
      case id =>
        rintro σ H' ⟨u4, kvs, rfl, ec, ex, ed, cn, e, s⟩
        rw [List.length_drop, dueCL_up] at e
        exact ⟨_, _, _, rfl, e, s⟩
      case is =>
        rintro k y σ H' hk ⟨u4, kvs, rfl, ec, ex, ed, cn, e, s⟩
        have hkl := (List.getElem?_eq_some_iff.mp hk).1
        rw [List.length_drop] at hkl
        have hwl : ((ns.drop i).take k).length ≤ 1000 := by rw [List.length_take, List.length_drop]; omega
        tb_start
        intro kvs' c'
        rw [← take_snoc hk] at c'
        have eu : ulen ((ns.drop i).take (k + 1)) = wunN ns i (i + 1 + k) := by unfold wunN; rw [show i + 1 + k - i = k + 1 by omega]
        have hwn := wunN_le (ns := ns) (f := i) (b := i + 1 + k) (by omega) (by omega)
        have hdl := dueCL_len ns i k
        tb_start
        refine ⟨_, kvs', rfl, by kct_strs, by kct_strs, by kct_strs, c', lst_cast (by kct_strs) ?_, same_upd' f2 (same_upd' fd s)⟩
        rw [← dueCL_set (by omega), ← eu]
        rfl
end
end Ur
namespace Ur
open PySem L2
theorem sum_setA : ∀ (xs : List Int) (k : Nat) (x : Int), k < xs.length → (xs.set k x).sum = xs.sum + (x - xs.getD k 0)
  | [], k, x, h => absurd h (Nat.not_lt_zero k)
  | y :: ys, 0, x, _ => by
    show x + ys.sum = y + ys.sum + (x - y)
    omega
  | y :: ys, k + 1, x, h => by
    have ih := sum_setA ys k x (Nat.lt_of_succ_lt_succ h)
    show y + (ys.set k x).sum = y + ys.sum + (x - ys.getD k 0)
    omega
theorem dueCL_sumJ (ns : List Int) (f : Nat) : ∀ j : Nat, f + j ≤ ns.length → (dueCL ns f j).sum = (dueCL ns f 0).sum + j
  | 0, _ => by omega
  | j + 1, h => by
    have ih := dueCL_sumJ ns f j (by omega)
    have hw : wunN ns f (f + 1 + j) < ulen ns + 1 := by have := wunN_le (ns := ns) (f := f) (b := f + 1 + j) (by omega) (by omega); omega
    rw [← dueCL_set (ns := ns) (f := f) (j := j) (by omega), sum_setA _ _ _ (by rw [dueCL_len]; exact hw), ih]
    omega
theorem dueCL_sumF (ns : List Int) : ∀ f : Nat, f ≤ ns.length → 2 * (dueCL ns f 0).sum = (f : Int) * (2 * (ns.length : Int) - f + 1)
  | 0, _ => by
    rw [dueCL_0, List.sum_replicate_int]
    omega
  | f + 1, h => by
    have ih := dueCL_sumF ns f (by omega)
    rw [← dueCL_up, dueCL_sumJ ns f _ (by omega)]
    have e1 : ((f + 1 : Nat) : Int) * (2 * (ns.length : Int) - ((f + 1 : Nat) : Int) + 1) = (f : Int) * (2 * (ns.length : Int) - f + 1) + 2 * ((ns.length : Int) - f) := by
      rw [show ((f + 1 : Nat) : Int) = (f : Int) + 1 by omega, Int.add_mul, show 2 * (ns.length : Int) - ((f : Int) + 1) + 1 = (2 * (ns.length : Int) - f + 1) - 1 by omega, Int.mul_sub]
      omega
    rw [e1]
    omega
/-- all windows together -/
theorem cntW_sum (ns : List Int) : (cntW ns).sum = (ns.length : Int) * ((ns.length : Int) + 1) / 2 := by
  have h := dueCL_sumF ns ns.length (Nat.le_refl _)
  rw [show 2 * (ns.length : Int) - ns.length + 1 = (ns.length : Int) + 1 by omega] at h
  unfold cntW
  omega
/-- a count, also one or two beyond -/
theorem cnt_at {ns : List Int} {k : Nat} (h : k < (cntW ns).length + 2) : ((cntW ns) ++ [0, 0])[k]? = some (hisN ns k) := by
  have hl := cntW_len ns
  by_cases c : k < (cntW ns).length
  · rw [List.getElem?_append_left c, get_of c]
    by_cases d : k = 0
    · subst d; rw [cntW_0]; rfl
    · rw [cntW_his (by omega) (by omega)]
  · rw [List.getElem?_append_right (by omega), his_none (by omega)]
    have e : k - (cntW ns).length = 0 ∨ k - (cntW ns).length = 1 := by omega
    rcases e with e | e <;> rw [e] <;> rfl
/-- the law holds -/
def sp_law (K : PySem.W.Frag) (Pt : Addr) : Sp := fun vs H Q _ => ∃ (a : Addr) (ns : List Int), vs = [.ref a] ∧ H Pt = some (.tbl #[]) ∧ SqL K H a (ns.map V.int) ∧ ns.length ≤ 63 ∧ ∀ H', Q (.bl true) H'
section
variable {P : Program} {w : World} {K : PySem.W.Frag} {mg : Str → Option Value} {base : Heap} {A : Adr}
theorem ok_law {cc Pt : Addr} (T : Txt K mg A) (MK : Ur.MkD K mg base A.f__law_within_right A.d__law_within_right "_law_within_right" "_law_within_right" s__law_within_right cc Pt) : FnOk P w K mg base CX0 8 A.f_law A.d_law ["script"] (sp_law K Pt) := by
  have G_Ready___init__ := ok_Ready___init__ (P := P) (w := w) (base := base) T
  have G__law_next := ok__law_next (P := P) (w := w) (base := base) T
  have G__law_number_right := ok__law_number_right (P := P) (w := w) (base := base) T
  have G__law_purse := ok__law_purse (P := P) (w := w) (base := base) T
  have G__law_row := ok__law_row (P := P) (w := w) (base := base) T
  have G__law_within_right := ok__law_within_right (P := P) (w := w) (base := base) T MK
  have G_counts := ok_counts (P := P) (w := w) (base := base) T
  refine T.F_law.ok sc_law (fun vs H Q E h => ?_) (fun cdv Ar outer s H vs Q E hr h => ?_)
  · obtain ⟨a, ns, rfl, _⟩ := h
    rfl
  · have C_Ready := T.C_Ready
    have n_Ready_many := T.n_Ready_many
    have n_Ready_lasts := T.n_Ready_lasts
    have n_Ready_nexts := T.n_Ready_nexts
    obtain ⟨a, ns, rfl, hPt, ha, hl, q⟩ := h
    refine ⟨_, (pss_cons (ps_set (i := 1) sc_law.nd rfl (Or.inl rfl) (pe_call G__law_purse (hr.mono (by decide)) (by rfl) T.g__law_purse T.F__law_purse.kp T.b__law_purse .nil pass0 (pa_cons (pv 0) (pa_cons pe_int (pa_cons pe_int (pa_cons pe_int pa_nil))))))
    (pss_cons (ps_set (i := 2) sc_law.nd rfl (Or.inl rfl) (pe_call G__law_row (hr.mono (by decide)) (by rfl) T.g__law_row T.F__law_row.kp T.b__law_row .nil pass0 (pa_cons (pv 1) (pa_cons pe_int pa_nil))))
    (pss_cons (ps_set (i := 3) sc_law.nd rfl (Or.inl rfl) (pe_make T.M_Ready G_Ready___init__ (hr.mono (by decide)) (by rfl) T.g_Ready T.b_Ready___init__ .nil pass0 (pa_cons (Ur.pe_t1 (Ur.call_list_ofK (K := K) rfl) (by rfl) T.m_list (by decide +kernel) (pv 2)) pa_nil)))
    (pss_cons (ps_set (i := 4) sc_law.nd rfl (Or.inl rfl) (pe_call G_counts (hr.mono (by decide)) (by rfl) T.g_counts T.F_counts.kp T.b_counts .nil pass0 (pa_cons (pv 2) pa_nil)))
    (pss_cons (ps_if (PW.pt (pw_or (pt_cmpR op_ne (Ur.pe_b1 (Ur.cr_sumK (K := K) rfl rfl) (by rfl) T.m_sum (by decide +kernel) (pv 4)) (pe_op op_fdiv (pe_op op_mul (Ur.pe_b1 (Ur.call_lenIK (K := K) rfl) (by rfl) T.m_len (by decide +kernel) (pv 2)) (pe_op op_add (Ur.pe_b1 (Ur.call_lenIK (K := K) rfl) (by rfl) T.m_len (by decide +kernel) (pv 2)) pe_int)) pe_int) (nomark _)) (pw_or (pt_cmpR op_ne (pe_ix (Ur.ix_listK (K := K) rfl) (pv 4) pe_int (fun _ _ => rfl)) pe_int (nomark _)) (pw_or1 (pt_cmpR op_ne (Ur.pe_b1 (Ur.call_lenIK (K := K) rfl) (by rfl) T.m_len (by decide +kernel) (pv 4)) (pe_op op_add (Ur.pe_lenSetU (K := K) rfl (by rfl) T.m_len (by rfl) T.m_set (pv 2)) pe_int) (nomark _)))))) (pss_one (ps_ret pe_bl)) pss_nil)
    (pss_cons (ps_for PassesOwn.never (by rfl) (pi_range1 (by rfl) T.m_range (pa_cons pe_int pa_nil)) (pg_name (i := 5) sc_law.nd rfl (Or.inl rfl)) (pss_cons (ps_set (i := 6) sc_law.nd rfl (Or.inl rfl) (pe_ix (Ur.ix_listK (K := K) rfl) (pe_lst (pa_cons pe_int (pa_cons (Ur.pe_b1 (Ur.call_lenIK (K := K) rfl) (by rfl) T.m_len (by decide +kernel) (pv 4)) (pa_cons (pe_op op_add pe_int (pe_op op_mod (pe_call G__law_next (hr.mono (by decide)) (by rfl) T.g__law_next T.F__law_next.kp T.b__law_next .nil pass0 (pa_cons (pv 1) pa_nil)) (Ur.pe_b1 (Ur.call_lenIK (K := K) rfl) (by rfl) T.m_len (by decide +kernel) (pv 4)))) (pa_cons (pe_op op_mod (pe_call G__law_next (hr.mono (by decide)) (by rfl) T.g__law_next T.F__law_next.kp T.b__law_next .nil pass0 (pa_cons (pv 1) pa_nil)) (Ur.pe_b1 (Ur.call_lenIK (K := K) rfl) (by rfl) T.m_len (by decide +kernel) (pv 4))) pa_nil))))) (pv 5) (fun _ _ => rfl)))
    (pss_one (ps_if (pt_not (pt_val (pe_call G__law_number_right (hr.mono (by decide)) (by rfl) T.g__law_number_right T.F__law_number_right.kp T.b__law_number_right .nil pass0 (pa_cons (pv 3) (pa_cons (pv 2) (pa_cons (pv 6) (pa_cons (pe_ix (Ur.ix_listK (K := K) rfl) (pe_op op_cat (pv 4) (pe_lst (pa_cons pe_int (pa_cons pe_int pa_nil)))) (pv 6) (fun _ _ => rfl)) pa_nil))))))) (pss_one (ps_ret pe_bl)) pss_nil))))
    (pss_one (ps_ret (pe_call G__law_within_right (hr.mono (by decide)) (by rfl) T.g__law_within_right T.F__law_within_right.kp T.b__law_within_right .nil pass0 (pa_cons (pv 2) (pa_cons (pe_op op_mod (pe_call G__law_next (hr.mono (by decide)) (by rfl) T.g__law_next T.F__law_next.kp T.b__law_next .nil pass0 (pa_cons (pv 1) pa_nil)) (Ur.pe_b2 (Ur.call_min2K rfl) (by rfl) T.m_min (by decide +kernel) (pe_op op_add (Ur.pe_b1 (Ur.call_lenIK (K := K) rfl) (by rfl) T.m_len (by decide +kernel) (pv 4)) pe_int) pe_int)) pa_nil))))))))))), ?_⟩
    tb_start
    intro p1 ps H1 e1 hp1 hl1 s1 n1
    have xPt := s1 _ _ hPt
    have dPt : Pt ≠ p1 := fun z => by rw [z, e1] at xPt; cases xPt
    clear ha hPt s1
    tb_start
    intro p2 r ms2 H2 e2 a2 hms2 b2 n2 hlr
    have h12 : p1 ≠ p2 := by kcj_m
    have xPt2 := b2 _ _ dPt xPt
    clear xPt e1 b2 hp1 n2
    tb_start
    intro l nl
    have s2l : Same H2 (upd H2 l (.lst (r.map V.int))) := same_new nl
    have el : (upd H2 l (.lst (r.map V.int))) l = some (.lst (r.map V.int)) := upd_same
    have a3 := s2l _ _ a2
    have e3 := s2l _ _ e2
    have xPt3 := s2l _ _ xPt2
    generalize (upd H2 l (.lst (r.map V.int))) = H3 at *
    clear a2 e2 xPt2 s2l nl
    tb_start
    intro o dx nox ndx hne
    refine mk_rdy (ns := r) nox ndx hne el (by omega) (fun H4 rd s4 => ?_)
    have hL1 : H3 p1 ≠ none := by rw [a3]; exact fun z => nomatch z
    have hul := ulen_le r
    have hcl := cntW_len r
    have a4 := s4 _ _ a3
    have e4 := s4 _ _ e3
    have xPt4 := s4 _ _ xPt3
    obtain ⟨dx0, la0, na0, eo0, _, _, fL⟩ := rd.all
    have rd4 : Rdy A.c_Ready (fun b => b = p1) H4 o r := rd.sub (fun b hb => by rw [hb]; exact hL1)
    clear rd s4 a3 e3 xPt3 el fL eo0
    tb_start
    intro p5 H5 e5 s5 n5
    have a5 := s5 _ _ a4
    have e25 := s5 _ _ e4
    have xPt5 := s5 _ _ xPt4
    have rd5 := rd4.same s5
    have h15 : p1 ≠ p5 := fun z => by rw [← z, a4] at n5; cases n5
    clear rd4 a4 e4 xPt4 s5 n5
    have hc0 : atI ((cntW r).map V.int) 0 = some (.int 0) := by
      have e : (cntW r)[0]? = some 0 := by rw [get_of (show 0 < (cntW r).length by omega), cntW_0]
      exact atI_nat (j := 0) (by rw [List.getElem?_map, e]; rfl)
    have hsum := cntW_sum r
    tb_start
    rw [hsum, decide_eq_true (show V.int ((r.length : Int) * ((r.length : Int) + 1) / 2) = V.int ((r.length : Int) * ((r.length : Int) + 1) / 2) from rfl)]
    tb_start
    rw [decide_eq_true (show V.int ((cntW r).length : Int) = V.int ((ulen r : Int) + 1) from by rw [hcl]; rfl)]
    clear hc0 hsum
    tb_start
    refine for_range (fun k σ H' => Iv (∃ (u5 u6 : Option V) (ms : List Int), σ = [some (.ref a), some (.ref p1), some (.ref p2), some (.ref o), some (.ref p5), u5, u6] ∧ H' p1 = some (.lst (ms.map V.int)) ∧ (∀ x ∈ ms, 0 ≤ x) ∧ But p1 H5 H')) ?h0 ?hs ?hd
    case h0 => exact ⟨_, _, ms2, rfl, a5, hms2, but_refl⟩
    case hs =>
      rintro k σ H6 hk ⟨u5, u6, ms, rfl, a6, hms, b6⟩
      have e6 := b6 _ _ (Ne.symm h15) e5
      have e26 := b6 _ _ (Ne.symm h12) e25
      have rd6 := rd5.but rfl b6
      clear e5 e25 rd5 a5 xPt5 hms2
      have hL0 : 0 < (cntW r).length := by omega
      tb_start
      intro n7 ms7 H7 hn7 hms7 a7 b7
      have e7 := b7 _ _ (Ne.symm h15) e6
      have e27 := b7 _ _ (Ne.symm h12) e26
      have rd7 := rd6.but rfl b7
      have b07 := but_step b7 b6
      clear e6 e26 rd6 a6 b6 b7 hms
      tb_start
      intro n8 ms8 H8 hn8 hms8 a8 b8
      have e8 := b8 _ _ (Ne.symm h15) e7
      have e28 := b8 _ _ (Ne.symm h12) e27
      have rd8 := rd7.but rfl b8
      have b08 := but_step b8 b07
      clear e7 e27 rd7 a7 b07 b8 hms7
      tb_start
      intro p9 np9
      have s9 := same_new (o := .lst [.int 0, .int ((cntW r).length : Nat), .int (1 + n7 % ((cntW r).length : Nat)), .int (n8 % ((cntW r).length : Nat))]) np9
      obtain ⟨mm, hat, hmm⟩ : ∃ mm : Nat, atI [V.int 0, V.int ((cntW r).length : Nat), V.int (1 + n7 % ((cntW r).length : Nat)), V.int (n8 % ((cntW r).length : Nat))] (0 + (k : Int)) = some (.int mm) ∧ mm ≤ (cntW r).length := by
        have g1 := Int.emod_nonneg n7 (show ((cntW r).length : Int) ≠ 0 by omega)
        have g2 := Int.emod_lt_of_pos n7 (show (0 : Int) < ((cntW r).length : Nat) by omega)
        have g3 := Int.emod_nonneg n8 (show ((cntW r).length : Int) ≠ 0 by omega)
        have g4 := Int.emod_lt_of_pos n8 (show (0 : Int) < ((cntW r).length : Nat) by omega)
        rw [show (0 : Int) + (k : Int) = (k : Int) by omega]
        have hk4 : k = 0 ∨ k = 1 ∨ k = 2 ∨ k = 3 := by omega
        rcases hk4 with e | e | e | e
        · rw [e]; exact ⟨0, rfl, by omega⟩
        · rw [e]; exact ⟨(cntW r).length, rfl, by omega⟩
        · rw [e]; exact ⟨(1 + n7 % ((cntW r).length : Nat)).toNat, by rw [show (((1 + n7 % ((cntW r).length : Nat)).toNat : Nat) : Int) = 1 + n7 % ((cntW r).length : Nat) by omega]; rfl, by omega⟩
        · rw [e]; exact ⟨(n8 % ((cntW r).length : Nat)).toNat, by rw [show (((n8 % ((cntW r).length : Nat)).toNat : Nat) : Int) = n8 % ((cntW r).length : Nat) by omega]; rfl, by omega⟩
      have x9 : (upd H8 p9 (.lst [.int 0, .int ((cntW r).length : Nat), .int (1 + n7 % ((cntW r).length : Nat)), .int (n8 % ((cntW r).length : Nat))])) p9 = some (.lst [.int 0, .int ((cntW r).length : Nat), .int (1 + n7 % ((cntW r).length : Nat)), .int (n8 % ((cntW r).length : Nat))]) := upd_same
      generalize (upd H8 p9 (.lst [.int 0, .int ((cntW r).length : Nat), .int (1 + n7 % ((cntW r).length : Nat)), .int (n8 % ((cntW r).length : Nat))])) = H9 at *
      have e9 := s9 _ _ e8
      have e29 := s9 _ _ e28
      have rd9 := rd8.same s9
      have a9 := s9 _ _ a8
      have b09 := but_step' s9 b08
      clear e8 e28 rd8 a8 b08 s9 np9
      tb_start
      intro p10 np10
      have s10 := same_new (o := .lst [.int 0, .int 0]) np10
      have x10 : (upd H9 p10 (.lst [.int 0, .int 0])) p10 = some (.lst (([0, 0] : List Int).map V.int)) := upd_same
      generalize (upd H9 p10 (.lst [.int 0, .int 0])) = H10 at *
      have e10 := s10 _ _ e9
      have e210 := s10 _ _ e29
      have rd10 := rd9.same s10
      have a10 := s10 _ _ a9
      have b010 := but_step' s10 b09
      clear e9 e29 rd9 a9 b09 s10 np10 x9 hat
      have hcat : atI ((cntW r).map V.int ++ ([0, 0] : List Int).map V.int) (mm : Int) = some (.int (hisN r mm)) := by
        rw [← List.map_append]
        exact atI_nat (by rw [List.getElem?_map, cnt_at (by omega)]; rfl)
      tb_start
      intro p11 np11
      have s11 := same_new (o := .lst ((cntW r).map V.int ++ ([0, 0] : List Int).map V.int)) np11
      have x11 : (upd H10 p11 (.lst ((cntW r).map V.int ++ ([0, 0] : List Int).map V.int))) p11 = some (.lst ((cntW r).map V.int ++ ([0, 0] : List Int).map V.int)) := upd_same
      generalize (upd H10 p11 (.lst ((cntW r).map V.int ++ ([0, 0] : List Int).map V.int))) = H11 at *
      have e211 := s11 _ _ e210
      have rd11 := rd10.same s11
      have a11 := s11 _ _ a10
      have b011 := but_step' s11 b010
      clear e10 e210 rd10 a10 b010 s11 np11 x10
      tb_start
      intro H12 s12
      tb_start
      exact ⟨_, _, ms8, rfl, s12 _ _ a11, hms8, but_step' s12 b011⟩
    case hd =>
      rintro σ H6 ⟨u5, u6, ms, rfl, a6, hms, b6⟩
      have e6 := b6 _ _ (Ne.symm h15) e5
      have e26 := b6 _ _ (Ne.symm h12) e25
      have xPt6 := b6 _ _ dPt xPt5
      clear e5 e25 rd5 a5 xPt5 hms2 b6
      tb_start
      intro n7 ms7 H7 hn7 hms7 a7 b7
      have e7 := b7 _ _ (Ne.symm h15) e6
      have e27 := b7 _ _ (Ne.symm h12) e26
      have xPt7 := b7 _ _ dPt xPt6
      clear e6 e26 xPt6 a6 b7 hms
      tb_start
      · exact q
      · exact Int.emod_nonneg _ (by split <;> omega)
      · have := Int.emod_lt_of_pos n7 (show (0 : Int) < if 12 < ((cntW r).length : Int) + 1 then 12 else ((cntW r).length : Int) + 1 by split <;> omega)
        split at this <;> split <;> omega
end
end Ur
end WalkWords
namespace Ur
open PySem L2
theorem all_mk {l : PySem.W.OpenLaw} {w : World} {K : PySem.W.Frag} {h : Heap} {mg : Str → Option Value} {fa c0 P0 : Addr} {c_Ready c_NoWindow c_Held : Addr} (X : K.In h) (G : h.Ns mainGlobals mg) (hfa : mg "law" = some (.ref fa))
    {f_last_places : Addr} {oc_last_places kV_last_places dc_last_places pm_last_places cd_last_places ct_last_places : Value} {od_last_places an_last_places : Option Addr} {sl_last_places : Array (Option Value)}
    {f_next_places : Addr} {oc_next_places kV_next_places dc_next_places pm_next_places cd_next_places ct_next_places : Value} {od_next_places an_next_places : Option Addr} {sl_next_places : Array (Option Value)}
    {f_Ready___init__ : Addr} {oc_Ready___init__ kV_Ready___init__ dc_Ready___init__ pm_Ready___init__ cd_Ready___init__ ct_Ready___init__ : Value} {od_Ready___init__ an_Ready___init__ : Option Addr} {sl_Ready___init__ : Array (Option Value)}
    {f__law_next : Addr} {oc__law_next kV__law_next dc__law_next pm__law_next cd__law_next ct__law_next : Value} {od__law_next an__law_next : Option Addr} {sl__law_next : Array (Option Value)}
    {f_is_whole : Addr} {oc_is_whole kV_is_whole dc_is_whole pm_is_whole cd_is_whole ct_is_whole : Value} {od_is_whole an_is_whole : Option Addr} {sl_is_whole : Array (Option Value)}
    {f_Ready_need_place : Addr} {oc_Ready_need_place kV_Ready_need_place dc_Ready_need_place pm_Ready_need_place cd_Ready_need_place ct_Ready_need_place : Value} {od_Ready_need_place an_Ready_need_place : Option Addr} {sl_Ready_need_place : Array (Option Value)}
    {f_Ready_end_of : Addr} {oc_Ready_end_of kV_Ready_end_of dc_Ready_end_of pm_Ready_end_of cd_Ready_end_of ct_Ready_end_of : Value} {od_Ready_end_of an_Ready_end_of : Option Addr} {sl_Ready_end_of : Array (Option Value)}
    {f_Ready_need_window : Addr} {oc_Ready_need_window kV_Ready_need_window dc_Ready_need_window pm_Ready_need_window cd_Ready_need_window ct_Ready_need_window : Value} {od_Ready_need_window an_Ready_need_window : Option Addr} {sl_Ready_need_window : Array (Option Value)}
    {f_Ready_unlike : Addr} {oc_Ready_unlike kV_Ready_unlike dc_Ready_unlike pm_Ready_unlike cd_Ready_unlike ct_Ready_unlike : Value} {od_Ready_unlike an_Ready_unlike : Option Addr} {sl_Ready_unlike : Array (Option Value)}
    {f__law_stretch_right : Addr} {oc__law_stretch_right kV__law_stretch_right dc__law_stretch_right pm__law_stretch_right cd__law_stretch_right ct__law_stretch_right : Value} {od__law_stretch_right an__law_stretch_right : Option Addr} {sl__law_stretch_right : Array (Option Value)}
    {f_Held___init__ : Addr} {oc_Held___init__ kV_Held___init__ dc_Held___init__ pm_Held___init__ cd_Held___init__ ct_Held___init__ : Value} {od_Held___init__ an_Held___init__ : Option Addr} {sl_Held___init__ : Array (Option Value)}
    {f_Held_come : Addr} {oc_Held_come kV_Held_come dc_Held_come pm_Held_come cd_Held_come ct_Held_come : Value} {od_Held_come an_Held_come : Option Addr} {sl_Held_come : Array (Option Value)}
    {f_Held_gone : Addr} {oc_Held_gone kV_Held_gone dc_Held_gone pm_Held_gone cd_Held_gone ct_Held_gone : Value} {od_Held_gone an_Held_gone : Option Addr} {sl_Held_gone : Array (Option Value)}
    {f_Held_unlike : Addr} {oc_Held_unlike kV_Held_unlike dc_Held_unlike pm_Held_unlike cd_Held_unlike ct_Held_unlike : Value} {od_Held_unlike an_Held_unlike : Option Addr} {sl_Held_unlike : Array (Option Value)}
    {f_ends_by : Addr} {oc_ends_by kV_ends_by dc_ends_by pm_ends_by cd_ends_by ct_ends_by : Value} {od_ends_by an_ends_by : Option Addr} {sl_ends_by : Array (Option Value)}
    {f_ends_within : Addr} {oc_ends_within kV_ends_within dc_ends_within pm_ends_within cd_ends_within ct_ends_within : Value} {od_ends_within an_ends_within : Option Addr} {sl_ends_within : Array (Option Value)}
    {f_stretches : Addr} {oc_stretches kV_stretches dc_stretches pm_stretches cd_stretches ct_stretches : Value} {od_stretches an_stretches : Option Addr} {sl_stretches : Array (Option Value)}
    {f_how_many : Addr} {oc_how_many kV_how_many dc_how_many pm_how_many cd_how_many ct_how_many : Value} {od_how_many an_how_many : Option Addr} {sl_how_many : Array (Option Value)}
    {f_longest : Addr} {oc_longest kV_longest dc_longest pm_longest cd_longest ct_longest : Value} {od_longest an_longest : Option Addr} {sl_longest : Array (Option Value)}
    {f_shortest : Addr} {oc_shortest kV_shortest dc_shortest pm_shortest cd_shortest ct_shortest : Value} {od_shortest an_shortest : Option Addr} {sl_shortest : Array (Option Value)}
    {f__law_number_right : Addr} {oc__law_number_right kV__law_number_right dc__law_number_right pm__law_number_right cd__law_number_right ct__law_number_right : Value} {od__law_number_right an__law_number_right : Option Addr} {sl__law_number_right : Array (Option Value)}
    {f__law_mixed : Addr} {oc__law_mixed kV__law_mixed dc__law_mixed pm__law_mixed cd__law_mixed ct__law_mixed : Value} {od__law_mixed an__law_mixed : Option Addr} {sl__law_mixed : Array (Option Value)}
    {f__law_purse : Addr} {oc__law_purse kV__law_purse dc__law_purse pm__law_purse cd__law_purse ct__law_purse : Value} {od__law_purse an__law_purse : Option Addr} {sl__law_purse : Array (Option Value)}
    {f__law_value : Addr} {oc__law_value kV__law_value dc__law_value pm__law_value cd__law_value ct__law_value : Value} {od__law_value an__law_value : Option Addr} {sl__law_value : Array (Option Value)}
    {f__law_row : Addr} {oc__law_row kV__law_row dc__law_row pm__law_row cd__law_row ct__law_row : Value} {od__law_row an__law_row : Option Addr} {sl__law_row : Array (Option Value)}
    {f_longest_within : Addr} {oc_longest_within kV_longest_within dc_longest_within pm_longest_within cd_longest_within ct_longest_within : Value} {od_longest_within an_longest_within : Option Addr} {sl_longest_within : Array (Option Value)}
    {f__law_within_right : Addr} {oc__law_within_right kV__law_within_right dc__law_within_right pm__law_within_right cd__law_within_right ct__law_within_right : Value} {od__law_within_right an__law_within_right : Option Addr} {sl__law_within_right : Array (Option Value)}
    {f_counts : Addr} {oc_counts kV_counts dc_counts pm_counts cd_counts ct_counts : Value} {od_counts an_counts : Option Addr} {sl_counts : Array (Option Value)}
    {f_law : Addr} {oc_law kV_law dc_law pm_law cd_law ct_law : Value} {od_law an_law : Option Addr} {sl_law : Array (Option Value)}
    (aC_Ready : PySem.W.nsIn K mainGlobals "Ready" = some (some (.ref c_Ready)))
    (pg_Ready : PySem.W.plainGet K c_Ready Str.empty = true)
    (hd_Ready : PySem.W.hasDictIn K c_Ready = true)
    (po_Ready : PySem.W.plainOver K c_Ready = true)
    (sa_Ready : PySem.W.findIn K (.ref c_Ready) "__setattr__" = some (some (.builtin "object.__setattr__")))
    (mk_Ready : PySem.W.makesIn K c_Ready = true)
    (kc_Ready : PySem.W.keepIn K (.ref c_Ready) = true)
    (n_Ready_many : PySem.W.findIn K (.ref c_Ready) "many" = some none)
    (n_Ready_lasts : PySem.W.findIn K (.ref c_Ready) "lasts" = some none)
    (n_Ready_nexts : PySem.W.findIn K (.ref c_Ready) "nexts" = some none)
    (aC_NoWindow : PySem.W.nsIn K mainGlobals "NoWindow" = some (some (.ref c_NoWindow)))
    (aC_Held : PySem.W.nsIn K mainGlobals "Held" = some (some (.ref c_Held)))
    (pg_Held : PySem.W.plainGet K c_Held Str.empty = true)
    (hd_Held : PySem.W.hasDictIn K c_Held = true)
    (po_Held : PySem.W.plainOver K c_Held = true)
    (sa_Held : PySem.W.findIn K (.ref c_Held) "__setattr__" = some (some (.builtin "object.__setattr__")))
    (mk_Held : PySem.W.makesIn K c_Held = true)
    (kc_Held : PySem.W.keepIn K (.ref c_Held) = true)
    (n_Held_times : PySem.W.findIn K (.ref c_Held) "times" = some none)
    (a_last_places : PySem.W.nsIn K mainGlobals "last_places" = some (some (.ref f_last_places)))
    (l_last_places : K.lookup f_last_places = some ⟨oc_last_places, od_last_places, .func (PySem.W.fnOf "last_places" "last_places" (defArgs s_last_places) (defBody s_last_places) (defScope s_last_places) .none kV_last_places dc_last_places pm_last_places an_last_places cd_last_places ct_last_places), sl_last_places⟩)
    (q_last_places : PySem.W.codeIn K cd_last_places "last_places" = true)
    (k_last_places : PySem.W.keepIn K (.ref f_last_places) = true)
    (a_next_places : PySem.W.nsIn K mainGlobals "next_places" = some (some (.ref f_next_places)))
    (l_next_places : K.lookup f_next_places = some ⟨oc_next_places, od_next_places, .func (PySem.W.fnOf "next_places" "next_places" (defArgs s_next_places) (defBody s_next_places) (defScope s_next_places) .none kV_next_places dc_next_places pm_next_places an_next_places cd_next_places ct_next_places), sl_next_places⟩)
    (q_next_places : PySem.W.codeIn K cd_next_places "next_places" = true)
    (k_next_places : PySem.W.keepIn K (.ref f_next_places) = true)
    (a_Ready___init__ : PySem.W.findIn K (.ref c_Ready) "__init__" = some (some (.ref f_Ready___init__)))
    (i_Ready___init__ : PySem.W.isFn K (.ref f_Ready___init__) = true)
    (l_Ready___init__ : K.lookup f_Ready___init__ = some ⟨oc_Ready___init__, od_Ready___init__, .func (PySem.W.fnOf "__init__" "Ready.__init__" (defArgs s_Ready___init__) (defBody s_Ready___init__) (defScope s_Ready___init__) .none kV_Ready___init__ dc_Ready___init__ pm_Ready___init__ an_Ready___init__ cd_Ready___init__ ct_Ready___init__), sl_Ready___init__⟩)
    (q_Ready___init__ : PySem.W.codeIn K cd_Ready___init__ "Ready.__init__" = true)
    (k_Ready___init__ : PySem.W.keepIn K (.ref f_Ready___init__) = true)
    (a__law_next : PySem.W.nsIn K mainGlobals "_law_next" = some (some (.ref f__law_next)))
    (l__law_next : K.lookup f__law_next = some ⟨oc__law_next, od__law_next, .func (PySem.W.fnOf "_law_next" "_law_next" (defArgs s__law_next) (defBody s__law_next) (defScope s__law_next) .none kV__law_next dc__law_next pm__law_next an__law_next cd__law_next ct__law_next), sl__law_next⟩)
    (q__law_next : PySem.W.codeIn K cd__law_next "_law_next" = true)
    (k__law_next : PySem.W.keepIn K (.ref f__law_next) = true)
    (a_is_whole : PySem.W.nsIn K mainGlobals "is_whole" = some (some (.ref f_is_whole)))
    (l_is_whole : K.lookup f_is_whole = some ⟨oc_is_whole, od_is_whole, .func (PySem.W.fnOf "is_whole" "is_whole" (defArgs s_is_whole) (defBody s_is_whole) (defScope s_is_whole) .none kV_is_whole dc_is_whole pm_is_whole an_is_whole cd_is_whole ct_is_whole), sl_is_whole⟩)
    (q_is_whole : PySem.W.codeIn K cd_is_whole "is_whole" = true)
    (k_is_whole : PySem.W.keepIn K (.ref f_is_whole) = true)
    (a_Ready_need_place : PySem.W.findIn K (.ref c_Ready) "need_place" = some (some (.ref f_Ready_need_place)))
    (i_Ready_need_place : PySem.W.isFn K (.ref f_Ready_need_place) = true)
    (l_Ready_need_place : K.lookup f_Ready_need_place = some ⟨oc_Ready_need_place, od_Ready_need_place, .func (PySem.W.fnOf "need_place" "Ready.need_place" (defArgs s_Ready_need_place) (defBody s_Ready_need_place) (defScope s_Ready_need_place) .none kV_Ready_need_place dc_Ready_need_place pm_Ready_need_place an_Ready_need_place cd_Ready_need_place ct_Ready_need_place), sl_Ready_need_place⟩)
    (q_Ready_need_place : PySem.W.codeIn K cd_Ready_need_place "Ready.need_place" = true)
    (k_Ready_need_place : PySem.W.keepIn K (.ref f_Ready_need_place) = true)
    (a_Ready_end_of : PySem.W.findIn K (.ref c_Ready) "end_of" = some (some (.ref f_Ready_end_of)))
    (i_Ready_end_of : PySem.W.isFn K (.ref f_Ready_end_of) = true)
    (l_Ready_end_of : K.lookup f_Ready_end_of = some ⟨oc_Ready_end_of, od_Ready_end_of, .func (PySem.W.fnOf "end_of" "Ready.end_of" (defArgs s_Ready_end_of) (defBody s_Ready_end_of) (defScope s_Ready_end_of) .none kV_Ready_end_of dc_Ready_end_of pm_Ready_end_of an_Ready_end_of cd_Ready_end_of ct_Ready_end_of), sl_Ready_end_of⟩)
    (q_Ready_end_of : PySem.W.codeIn K cd_Ready_end_of "Ready.end_of" = true)
    (k_Ready_end_of : PySem.W.keepIn K (.ref f_Ready_end_of) = true)
    (a_Ready_need_window : PySem.W.findIn K (.ref c_Ready) "need_window" = some (some (.ref f_Ready_need_window)))
    (i_Ready_need_window : PySem.W.isFn K (.ref f_Ready_need_window) = true)
    (l_Ready_need_window : K.lookup f_Ready_need_window = some ⟨oc_Ready_need_window, od_Ready_need_window, .func (PySem.W.fnOf "need_window" "Ready.need_window" (defArgs s_Ready_need_window) (defBody s_Ready_need_window) (defScope s_Ready_need_window) .none kV_Ready_need_window dc_Ready_need_window pm_Ready_need_window an_Ready_need_window cd_Ready_need_window ct_Ready_need_window), sl_Ready_need_window⟩)
    (q_Ready_need_window : PySem.W.codeIn K cd_Ready_need_window "Ready.need_window" = true)
    (k_Ready_need_window : PySem.W.keepIn K (.ref f_Ready_need_window) = true)
    (a_Ready_unlike : PySem.W.findIn K (.ref c_Ready) "unlike" = some (some (.ref f_Ready_unlike)))
    (i_Ready_unlike : PySem.W.isFn K (.ref f_Ready_unlike) = true)
    (l_Ready_unlike : K.lookup f_Ready_unlike = some ⟨oc_Ready_unlike, od_Ready_unlike, .func (PySem.W.fnOf "unlike" "Ready.unlike" (defArgs s_Ready_unlike) (defBody s_Ready_unlike) (defScope s_Ready_unlike) .none kV_Ready_unlike dc_Ready_unlike pm_Ready_unlike an_Ready_unlike cd_Ready_unlike ct_Ready_unlike), sl_Ready_unlike⟩)
    (q_Ready_unlike : PySem.W.codeIn K cd_Ready_unlike "Ready.unlike" = true)
    (k_Ready_unlike : PySem.W.keepIn K (.ref f_Ready_unlike) = true)
    (a__law_stretch_right : PySem.W.nsIn K mainGlobals "_law_stretch_right" = some (some (.ref f__law_stretch_right)))
    (l__law_stretch_right : K.lookup f__law_stretch_right = some ⟨oc__law_stretch_right, od__law_stretch_right, .func (PySem.W.fnOf "_law_stretch_right" "_law_stretch_right" (defArgs s__law_stretch_right) (defBody s__law_stretch_right) (defScope s__law_stretch_right) .none kV__law_stretch_right dc__law_stretch_right pm__law_stretch_right an__law_stretch_right cd__law_stretch_right ct__law_stretch_right), sl__law_stretch_right⟩)
    (q__law_stretch_right : PySem.W.codeIn K cd__law_stretch_right "_law_stretch_right" = true)
    (k__law_stretch_right : PySem.W.keepIn K (.ref f__law_stretch_right) = true)
    (a_Held___init__ : PySem.W.findIn K (.ref c_Held) "__init__" = some (some (.ref f_Held___init__)))
    (i_Held___init__ : PySem.W.isFn K (.ref f_Held___init__) = true)
    (l_Held___init__ : K.lookup f_Held___init__ = some ⟨oc_Held___init__, od_Held___init__, .func (PySem.W.fnOf "__init__" "Held.__init__" (defArgs s_Held___init__) (defBody s_Held___init__) (defScope s_Held___init__) .none kV_Held___init__ dc_Held___init__ pm_Held___init__ an_Held___init__ cd_Held___init__ ct_Held___init__), sl_Held___init__⟩)
    (q_Held___init__ : PySem.W.codeIn K cd_Held___init__ "Held.__init__" = true)
    (k_Held___init__ : PySem.W.keepIn K (.ref f_Held___init__) = true)
    (a_Held_come : PySem.W.findIn K (.ref c_Held) "come" = some (some (.ref f_Held_come)))
    (i_Held_come : PySem.W.isFn K (.ref f_Held_come) = true)
    (l_Held_come : K.lookup f_Held_come = some ⟨oc_Held_come, od_Held_come, .func (PySem.W.fnOf "come" "Held.come" (defArgs s_Held_come) (defBody s_Held_come) (defScope s_Held_come) .none kV_Held_come dc_Held_come pm_Held_come an_Held_come cd_Held_come ct_Held_come), sl_Held_come⟩)
    (q_Held_come : PySem.W.codeIn K cd_Held_come "Held.come" = true)
    (k_Held_come : PySem.W.keepIn K (.ref f_Held_come) = true)
    (a_Held_gone : PySem.W.findIn K (.ref c_Held) "gone" = some (some (.ref f_Held_gone)))
    (i_Held_gone : PySem.W.isFn K (.ref f_Held_gone) = true)
    (l_Held_gone : K.lookup f_Held_gone = some ⟨oc_Held_gone, od_Held_gone, .func (PySem.W.fnOf "gone" "Held.gone" (defArgs s_Held_gone) (defBody s_Held_gone) (defScope s_Held_gone) .none kV_Held_gone dc_Held_gone pm_Held_gone an_Held_gone cd_Held_gone ct_Held_gone), sl_Held_gone⟩)
    (q_Held_gone : PySem.W.codeIn K cd_Held_gone "Held.gone" = true)
    (k_Held_gone : PySem.W.keepIn K (.ref f_Held_gone) = true)
    (a_Held_unlike : PySem.W.findIn K (.ref c_Held) "unlike" = some (some (.ref f_Held_unlike)))
    (i_Held_unlike : PySem.W.isFn K (.ref f_Held_unlike) = true)
    (l_Held_unlike : K.lookup f_Held_unlike = some ⟨oc_Held_unlike, od_Held_unlike, .func (PySem.W.fnOf "unlike" "Held.unlike" (defArgs s_Held_unlike) (defBody s_Held_unlike) (defScope s_Held_unlike) .none kV_Held_unlike dc_Held_unlike pm_Held_unlike an_Held_unlike cd_Held_unlike ct_Held_unlike), sl_Held_unlike⟩)
    (q_Held_unlike : PySem.W.codeIn K cd_Held_unlike "Held.unlike" = true)
    (k_Held_unlike : PySem.W.keepIn K (.ref f_Held_unlike) = true)
    (a_ends_by : PySem.W.nsIn K mainGlobals "ends_by" = some (some (.ref f_ends_by)))
    (l_ends_by : K.lookup f_ends_by = some ⟨oc_ends_by, od_ends_by, .func (PySem.W.fnOf "ends_by" "ends_by" (defArgs s_ends_by) (defBody s_ends_by) (defScope s_ends_by) .none kV_ends_by dc_ends_by pm_ends_by an_ends_by cd_ends_by ct_ends_by), sl_ends_by⟩)
    (q_ends_by : PySem.W.codeIn K cd_ends_by "ends_by" = true)
    (k_ends_by : PySem.W.keepIn K (.ref f_ends_by) = true)
    (a_ends_within : PySem.W.nsIn K mainGlobals "ends_within" = some (some (.ref f_ends_within)))
    (l_ends_within : K.lookup f_ends_within = some ⟨oc_ends_within, od_ends_within, .func (PySem.W.fnOf "ends_within" "ends_within" (defArgs s_ends_within) (defBody s_ends_within) (defScope s_ends_within) .none kV_ends_within dc_ends_within pm_ends_within an_ends_within cd_ends_within ct_ends_within), sl_ends_within⟩)
    (q_ends_within : PySem.W.codeIn K cd_ends_within "ends_within" = true)
    (k_ends_within : PySem.W.keepIn K (.ref f_ends_within) = true)
    (a_stretches : PySem.W.nsIn K mainGlobals "stretches" = some (some (.ref f_stretches)))
    (l_stretches : K.lookup f_stretches = some ⟨oc_stretches, od_stretches, .func (PySem.W.fnOf "stretches" "stretches" (defArgs s_stretches) (defBody s_stretches) (defScope s_stretches) .none kV_stretches dc_stretches pm_stretches an_stretches cd_stretches ct_stretches), sl_stretches⟩)
    (q_stretches : PySem.W.codeIn K cd_stretches "stretches" = true)
    (k_stretches : PySem.W.keepIn K (.ref f_stretches) = true)
    (a_how_many : PySem.W.nsIn K mainGlobals "how_many" = some (some (.ref f_how_many)))
    (l_how_many : K.lookup f_how_many = some ⟨oc_how_many, od_how_many, .func (PySem.W.fnOf "how_many" "how_many" (defArgs s_how_many) (defBody s_how_many) (defScope s_how_many) .none kV_how_many dc_how_many pm_how_many an_how_many cd_how_many ct_how_many), sl_how_many⟩)
    (q_how_many : PySem.W.codeIn K cd_how_many "how_many" = true)
    (k_how_many : PySem.W.keepIn K (.ref f_how_many) = true)
    (a_longest : PySem.W.nsIn K mainGlobals "longest" = some (some (.ref f_longest)))
    (l_longest : K.lookup f_longest = some ⟨oc_longest, od_longest, .func (PySem.W.fnOf "longest" "longest" (defArgs s_longest) (defBody s_longest) (defScope s_longest) .none kV_longest dc_longest pm_longest an_longest cd_longest ct_longest), sl_longest⟩)
    (q_longest : PySem.W.codeIn K cd_longest "longest" = true)
    (k_longest : PySem.W.keepIn K (.ref f_longest) = true)
    (a_shortest : PySem.W.nsIn K mainGlobals "shortest" = some (some (.ref f_shortest)))
    (l_shortest : K.lookup f_shortest = some ⟨oc_shortest, od_shortest, .func (PySem.W.fnOf "shortest" "shortest" (defArgs s_shortest) (defBody s_shortest) (defScope s_shortest) .none kV_shortest dc_shortest pm_shortest an_shortest cd_shortest ct_shortest), sl_shortest⟩)
    (q_shortest : PySem.W.codeIn K cd_shortest "shortest" = true)
    (k_shortest : PySem.W.keepIn K (.ref f_shortest) = true)
    (a__law_number_right : PySem.W.nsIn K mainGlobals "_law_number_right" = some (some (.ref f__law_number_right)))
    (l__law_number_right : K.lookup f__law_number_right = some ⟨oc__law_number_right, od__law_number_right, .func (PySem.W.fnOf "_law_number_right" "_law_number_right" (defArgs s__law_number_right) (defBody s__law_number_right) (defScope s__law_number_right) .none kV__law_number_right dc__law_number_right pm__law_number_right an__law_number_right cd__law_number_right ct__law_number_right), sl__law_number_right⟩)
    (q__law_number_right : PySem.W.codeIn K cd__law_number_right "_law_number_right" = true)
    (k__law_number_right : PySem.W.keepIn K (.ref f__law_number_right) = true)
    (a__law_mixed : PySem.W.nsIn K mainGlobals "_law_mixed" = some (some (.ref f__law_mixed)))
    (l__law_mixed : K.lookup f__law_mixed = some ⟨oc__law_mixed, od__law_mixed, .func (PySem.W.fnOf "_law_mixed" "_law_mixed" (defArgs s__law_mixed) (defBody s__law_mixed) (defScope s__law_mixed) .none kV__law_mixed dc__law_mixed pm__law_mixed an__law_mixed cd__law_mixed ct__law_mixed), sl__law_mixed⟩)
    (q__law_mixed : PySem.W.codeIn K cd__law_mixed "_law_mixed" = true)
    (k__law_mixed : PySem.W.keepIn K (.ref f__law_mixed) = true)
    (a__law_purse : PySem.W.nsIn K mainGlobals "_law_purse" = some (some (.ref f__law_purse)))
    (l__law_purse : K.lookup f__law_purse = some ⟨oc__law_purse, od__law_purse, .func (PySem.W.fnOf "_law_purse" "_law_purse" (defArgs s__law_purse) (defBody s__law_purse) (defScope s__law_purse) .none kV__law_purse dc__law_purse pm__law_purse an__law_purse cd__law_purse ct__law_purse), sl__law_purse⟩)
    (q__law_purse : PySem.W.codeIn K cd__law_purse "_law_purse" = true)
    (k__law_purse : PySem.W.keepIn K (.ref f__law_purse) = true)
    (a__law_value : PySem.W.nsIn K mainGlobals "_law_value" = some (some (.ref f__law_value)))
    (l__law_value : K.lookup f__law_value = some ⟨oc__law_value, od__law_value, .func (PySem.W.fnOf "_law_value" "_law_value" (defArgs s__law_value) (defBody s__law_value) (defScope s__law_value) .none kV__law_value dc__law_value pm__law_value an__law_value cd__law_value ct__law_value), sl__law_value⟩)
    (q__law_value : PySem.W.codeIn K cd__law_value "_law_value" = true)
    (k__law_value : PySem.W.keepIn K (.ref f__law_value) = true)
    (a__law_row : PySem.W.nsIn K mainGlobals "_law_row" = some (some (.ref f__law_row)))
    (l__law_row : K.lookup f__law_row = some ⟨oc__law_row, od__law_row, .func (PySem.W.fnOf "_law_row" "_law_row" (defArgs s__law_row) (defBody s__law_row) (defScope s__law_row) .none kV__law_row dc__law_row pm__law_row an__law_row cd__law_row ct__law_row), sl__law_row⟩)
    (q__law_row : PySem.W.codeIn K cd__law_row "_law_row" = true)
    (k__law_row : PySem.W.keepIn K (.ref f__law_row) = true)
    (a_longest_within : PySem.W.nsIn K mainGlobals "longest_within" = some (some (.ref f_longest_within)))
    (l_longest_within : K.lookup f_longest_within = some ⟨oc_longest_within, od_longest_within, .func (PySem.W.fnOf "longest_within" "longest_within" (defArgs s_longest_within) (defBody s_longest_within) (defScope s_longest_within) .none kV_longest_within dc_longest_within pm_longest_within an_longest_within cd_longest_within ct_longest_within), sl_longest_within⟩)
    (q_longest_within : PySem.W.codeIn K cd_longest_within "longest_within" = true)
    (k_longest_within : PySem.W.keepIn K (.ref f_longest_within) = true)
    (a__law_within_right : PySem.W.nsIn K mainGlobals "_law_within_right" = some (some (.ref f__law_within_right)))
    (l__law_within_right : K.lookup f__law_within_right = some ⟨oc__law_within_right, od__law_within_right, .func (PySem.W.fnOf "_law_within_right" "_law_within_right" (defArgs s__law_within_right) (defBody s__law_within_right) (defScope s__law_within_right) .none kV__law_within_right dc__law_within_right pm__law_within_right an__law_within_right cd__law_within_right ct__law_within_right), sl__law_within_right⟩)
    (q__law_within_right : PySem.W.codeIn K cd__law_within_right "_law_within_right" = true)
    (k__law_within_right : PySem.W.keepIn K (.ref f__law_within_right) = true)
    (a_counts : PySem.W.nsIn K mainGlobals "counts" = some (some (.ref f_counts)))
    (l_counts : K.lookup f_counts = some ⟨oc_counts, od_counts, .func (PySem.W.fnOf "counts" "counts" (defArgs s_counts) (defBody s_counts) (defScope s_counts) .none kV_counts dc_counts pm_counts an_counts cd_counts ct_counts), sl_counts⟩)
    (q_counts : PySem.W.codeIn K cd_counts "counts" = true)
    (k_counts : PySem.W.keepIn K (.ref f_counts) = true)
    (a_law : PySem.W.nsIn K mainGlobals "law" = some (some (.ref f_law)))
    (l_law : K.lookup f_law = some ⟨oc_law, od_law, .func (PySem.W.fnOf "law" "law" (defArgs s_law) (defBody s_law) (defScope s_law) .none kV_law dc_law pm_law an_law cd_law ct_law), sl_law⟩)
    (q_law : PySem.W.codeIn K cd_law "law" = true)
    (k_law : PySem.W.keepIn K (.ref f_law) = true)
    (z_abs : PySem.W.nsIn K mainGlobals "abs" = some none)
    (z_bool : PySem.W.nsIn K mainGlobals "bool" = some none)
    (z_enumerate : PySem.W.nsIn K mainGlobals "enumerate" = some none)
    (z_int : PySem.W.nsIn K mainGlobals "int" = some none)
    (z_isinstance : PySem.W.nsIn K mainGlobals "isinstance" = some none)
    (z_len : PySem.W.nsIn K mainGlobals "len" = some none)
    (z_list : PySem.W.nsIn K mainGlobals "list" = some none)
    (z_min : PySem.W.nsIn K mainGlobals "min" = some none)
    (z_range : PySem.W.nsIn K mainGlobals "range" = some none)
    (z_reversed : PySem.W.nsIn K mainGlobals "reversed" = some none)
    (z_set : PySem.W.nsIn K mainGlobals "set" = some none)
    (z_sorted : PySem.W.nsIn K mainGlobals "sorted" = some none)
    (z_sum : PySem.W.nsIn K mainGlobals "sum" = some none)
    (hcc : cd__law_within_right = .ref c0) (hP0 : h.get? P0 = some { cls := .none, data := .fields #[] }) (hK0 : K.lookup P0 = none) (hH0 : PySem.W.codeHdIn K c0 P0 = true)
    : LamX.LawAtS l w K CX0 8 63 "script" mg fa h := by
  have e0 := (PySem.W.mg_of X G a_law).symm.trans hfa
  have e : f_law = fa := by injection e0 with e0; injection e0
  subst e
  have F_last_places := fun_mk (st := s_last_places) l_last_places q_last_places k_last_places
  have b_last_places := F_last_places.binds (ps := ["row"]) fun _ _ _ _ _ _ us hl => match us, hl with | [_], _ => rfl
  have F_next_places := fun_mk (st := s_next_places) l_next_places q_next_places k_next_places
  have b_next_places := F_next_places.binds (ps := ["row"]) fun _ _ _ _ _ _ us hl => match us, hl with | [_], _ => rfl
  have F_Ready___init__ := fun_mk (st := s_Ready___init__) l_Ready___init__ q_Ready___init__ k_Ready___init__
  have b_Ready___init__ := F_Ready___init__.binds (ps := ["self", "row"]) fun _ _ _ _ _ _ us hl => match us, hl with | [_, _], _ => rfl
  have F__law_next := fun_mk (st := s__law_next) l__law_next q__law_next k__law_next
  have b__law_next := F__law_next.binds (ps := ["purse"]) fun _ _ _ _ _ _ us hl => match us, hl with | [_], _ => rfl
  have F_is_whole := fun_mk (st := s_is_whole) l_is_whole q_is_whole k_is_whole
  have b_is_whole := F_is_whole.binds (ps := ["thing"]) fun _ _ _ _ _ _ us hl => match us, hl with | [_], _ => rfl
  have F_Ready_need_place := fun_mk (st := s_Ready_need_place) l_Ready_need_place q_Ready_need_place k_Ready_need_place
  have b_Ready_need_place := F_Ready_need_place.binds (ps := ["self", "place"]) fun _ _ _ _ _ _ us hl => match us, hl with | [_, _], _ => rfl
  have F_Ready_end_of := fun_mk (st := s_Ready_end_of) l_Ready_end_of q_Ready_end_of k_Ready_end_of
  have b_Ready_end_of := F_Ready_end_of.binds (ps := ["self", "first", "many"]) fun _ _ _ _ _ _ us hl => match us, hl with | [_, _, _], _ => rfl
  have F_Ready_need_window := fun_mk (st := s_Ready_need_window) l_Ready_need_window q_Ready_need_window k_Ready_need_window
  have b_Ready_need_window := F_Ready_need_window.binds (ps := ["self", "first", "behind"]) fun _ _ _ _ _ _ us hl => match us, hl with | [_, _, _], _ => rfl
  have F_Ready_unlike := fun_mk (st := s_Ready_unlike) l_Ready_unlike q_Ready_unlike k_Ready_unlike
  have b_Ready_unlike := F_Ready_unlike.binds (ps := ["self", "first", "behind"]) fun _ _ _ _ _ _ us hl => match us, hl with | [_, _, _], _ => rfl
  have F__law_stretch_right := fun_mk (st := s__law_stretch_right) l__law_stretch_right q__law_stretch_right k__law_stretch_right
  have b__law_stretch_right := F__law_stretch_right.binds (ps := ["ready", "row", "many", "stretch"]) fun _ _ _ _ _ _ us hl => match us, hl with | [_, _, _, _], _ => rfl
  have F_Held___init__ := fun_mk (st := s_Held___init__) l_Held___init__ q_Held___init__ k_Held___init__
  have b_Held___init__ := F_Held___init__.binds (ps := ["self"]) fun _ _ _ _ _ _ us hl => match us, hl with | [_], _ => rfl
  have F_Held_come := fun_mk (st := s_Held_come) l_Held_come q_Held_come k_Held_come
  have b_Held_come := F_Held_come.binds (ps := ["self", "number"]) fun _ _ _ _ _ _ us hl => match us, hl with | [_, _], _ => rfl
  have F_Held_gone := fun_mk (st := s_Held_gone) l_Held_gone q_Held_gone k_Held_gone
  have b_Held_gone := F_Held_gone.binds (ps := ["self", "number"]) fun _ _ _ _ _ _ us hl => match us, hl with | [_, _], _ => rfl
  have F_Held_unlike := fun_mk (st := s_Held_unlike) l_Held_unlike q_Held_unlike k_Held_unlike
  have b_Held_unlike := F_Held_unlike.binds (ps := ["self"]) fun _ _ _ _ _ _ us hl => match us, hl with | [_], _ => rfl
  have F_ends_by := fun_mk (st := s_ends_by) l_ends_by q_ends_by k_ends_by
  have b_ends_by := F_ends_by.binds (ps := ["row", "many"]) fun _ _ _ _ _ _ us hl => match us, hl with | [_, _], _ => rfl
  have F_ends_within := fun_mk (st := s_ends_within) l_ends_within q_ends_within k_ends_within
  have b_ends_within := F_ends_within.binds (ps := ["row", "many"]) fun _ _ _ _ _ _ us hl => match us, hl with | [_, _], _ => rfl
  have F_stretches := fun_mk (st := s_stretches) l_stretches q_stretches k_stretches
  have b_stretches := F_stretches.binds (ps := ["row", "many"]) fun _ _ _ _ _ _ us hl => match us, hl with | [_, _], _ => rfl
  have F_how_many := fun_mk (st := s_how_many) l_how_many q_how_many k_how_many
  have b_how_many := F_how_many.binds (ps := ["row", "many"]) fun _ _ _ _ _ _ us hl => match us, hl with | [_, _], _ => rfl
  have F_longest := fun_mk (st := s_longest) l_longest q_longest k_longest
  have b_longest := F_longest.binds (ps := ["row", "many"]) fun _ _ _ _ _ _ us hl => match us, hl with | [_, _], _ => rfl
  have F_shortest := fun_mk (st := s_shortest) l_shortest q_shortest k_shortest
  have b_shortest := F_shortest.binds (ps := ["row", "many"]) fun _ _ _ _ _ _ us hl => match us, hl with | [_, _], _ => rfl
  have F__law_number_right := fun_mk (st := s__law_number_right) l__law_number_right q__law_number_right k__law_number_right
  have b__law_number_right := F__law_number_right.binds (ps := ["ready", "row", "many", "entry"]) fun _ _ _ _ _ _ us hl => match us, hl with | [_, _, _, _], _ => rfl
  have F__law_mixed := fun_mk (st := s__law_mixed) l__law_mixed q__law_mixed k__law_mixed
  have b__law_mixed := F__law_mixed.binds (ps := ["cell", "k"]) fun _ _ _ _ _ _ us hl => match us, hl with | [_, _], _ => rfl
  have F__law_purse := fun_mk (st := s__law_purse) l__law_purse q__law_purse k__law_purse
  have b__law_purse := F__law_purse.binds (ps := ["script", "at", "step", "many"]) fun _ _ _ _ _ _ us hl => match us, hl with | [_, _, _, _], _ => rfl
  have F__law_value := fun_mk (st := s__law_value) l__law_value q__law_value k__law_value
  have b__law_value := F__law_value.binds (ps := ["way", "at"]) fun _ _ _ _ _ _ us hl => match us, hl with | [_, _], _ => rfl
  have F__law_row := fun_mk (st := s__law_row) l__law_row q__law_row k__law_row
  have b__law_row := F__law_row.binds (ps := ["purse", "most"]) fun _ _ _ _ _ _ us hl => match us, hl with | [_, _], _ => rfl
  have F_longest_within := fun_mk (st := s_longest_within) l_longest_within q_longest_within k_longest_within
  have b_longest_within := F_longest_within.binds (ps := ["row", "many"]) fun _ _ _ _ _ _ us hl => match us, hl with | [_, _], _ => rfl
  have F__law_within_right := fun_mk (st := s__law_within_right) l__law_within_right q__law_within_right k__law_within_right
  have b__law_within_right := F__law_within_right.binds (ps := ["row", "many"]) fun _ _ _ _ _ _ us hl => match us, hl with | [_, _], _ => rfl
  have F_counts := fun_mk (st := s_counts) l_counts q_counts k_counts
  have b_counts := F_counts.binds (ps := ["row"]) fun _ _ _ _ _ _ us hl => match us, hl with | [_], _ => rfl
  have F_law := fun_mk (st := s_law) l_law q_law k_law
  have b_law := F_law.binds (ps := ["script"]) fun _ _ _ _ _ _ us hl => match us, hl with | [_], _ => rfl
  have T : Txt K mg { f_last_places := f_last_places, d_last_places := (PySem.W.fnOf "last_places" "last_places" (defArgs s_last_places) (defBody s_last_places) (defScope s_last_places) .none kV_last_places dc_last_places pm_last_places an_last_places cd_last_places ct_last_places), f_next_places := f_next_places, d_next_places := (PySem.W.fnOf "next_places" "next_places" (defArgs s_next_places) (defBody s_next_places) (defScope s_next_places) .none kV_next_places dc_next_places pm_next_places an_next_places cd_next_places ct_next_places), f_Ready___init__ := f_Ready___init__, d_Ready___init__ := (PySem.W.fnOf "__init__" "Ready.__init__" (defArgs s_Ready___init__) (defBody s_Ready___init__) (defScope s_Ready___init__) .none kV_Ready___init__ dc_Ready___init__ pm_Ready___init__ an_Ready___init__ cd_Ready___init__ ct_Ready___init__), f__law_next := f__law_next, d__law_next := (PySem.W.fnOf "_law_next" "_law_next" (defArgs s__law_next) (defBody s__law_next) (defScope s__law_next) .none kV__law_next dc__law_next pm__law_next an__law_next cd__law_next ct__law_next), f_is_whole := f_is_whole, d_is_whole := (PySem.W.fnOf "is_whole" "is_whole" (defArgs s_is_whole) (defBody s_is_whole) (defScope s_is_whole) .none kV_is_whole dc_is_whole pm_is_whole an_is_whole cd_is_whole ct_is_whole), f_Ready_need_place := f_Ready_need_place, d_Ready_need_place := (PySem.W.fnOf "need_place" "Ready.need_place" (defArgs s_Ready_need_place) (defBody s_Ready_need_place) (defScope s_Ready_need_place) .none kV_Ready_need_place dc_Ready_need_place pm_Ready_need_place an_Ready_need_place cd_Ready_need_place ct_Ready_need_place), f_Ready_end_of := f_Ready_end_of, d_Ready_end_of := (PySem.W.fnOf "end_of" "Ready.end_of" (defArgs s_Ready_end_of) (defBody s_Ready_end_of) (defScope s_Ready_end_of) .none kV_Ready_end_of dc_Ready_end_of pm_Ready_end_of an_Ready_end_of cd_Ready_end_of ct_Ready_end_of), f_Ready_need_window := f_Ready_need_window, d_Ready_need_window := (PySem.W.fnOf "need_window" "Ready.need_window" (defArgs s_Ready_need_window) (defBody s_Ready_need_window) (defScope s_Ready_need_window) .none kV_Ready_need_window dc_Ready_need_window pm_Ready_need_window an_Ready_need_window cd_Ready_need_window ct_Ready_need_window), f_Ready_unlike := f_Ready_unlike, d_Ready_unlike := (PySem.W.fnOf "unlike" "Ready.unlike" (defArgs s_Ready_unlike) (defBody s_Ready_unlike) (defScope s_Ready_unlike) .none kV_Ready_unlike dc_Ready_unlike pm_Ready_unlike an_Ready_unlike cd_Ready_unlike ct_Ready_unlike), f__law_stretch_right := f__law_stretch_right, d__law_stretch_right := (PySem.W.fnOf "_law_stretch_right" "_law_stretch_right" (defArgs s__law_stretch_right) (defBody s__law_stretch_right) (defScope s__law_stretch_right) .none kV__law_stretch_right dc__law_stretch_right pm__law_stretch_right an__law_stretch_right cd__law_stretch_right ct__law_stretch_right), f_Held___init__ := f_Held___init__, d_Held___init__ := (PySem.W.fnOf "__init__" "Held.__init__" (defArgs s_Held___init__) (defBody s_Held___init__) (defScope s_Held___init__) .none kV_Held___init__ dc_Held___init__ pm_Held___init__ an_Held___init__ cd_Held___init__ ct_Held___init__), f_Held_come := f_Held_come, d_Held_come := (PySem.W.fnOf "come" "Held.come" (defArgs s_Held_come) (defBody s_Held_come) (defScope s_Held_come) .none kV_Held_come dc_Held_come pm_Held_come an_Held_come cd_Held_come ct_Held_come), f_Held_gone := f_Held_gone, d_Held_gone := (PySem.W.fnOf "gone" "Held.gone" (defArgs s_Held_gone) (defBody s_Held_gone) (defScope s_Held_gone) .none kV_Held_gone dc_Held_gone pm_Held_gone an_Held_gone cd_Held_gone ct_Held_gone), f_Held_unlike := f_Held_unlike, d_Held_unlike := (PySem.W.fnOf "unlike" "Held.unlike" (defArgs s_Held_unlike) (defBody s_Held_unlike) (defScope s_Held_unlike) .none kV_Held_unlike dc_Held_unlike pm_Held_unlike an_Held_unlike cd_Held_unlike ct_Held_unlike), f_ends_by := f_ends_by, d_ends_by := (PySem.W.fnOf "ends_by" "ends_by" (defArgs s_ends_by) (defBody s_ends_by) (defScope s_ends_by) .none kV_ends_by dc_ends_by pm_ends_by an_ends_by cd_ends_by ct_ends_by), f_ends_within := f_ends_within, d_ends_within := (PySem.W.fnOf "ends_within" "ends_within" (defArgs s_ends_within) (defBody s_ends_within) (defScope s_ends_within) .none kV_ends_within dc_ends_within pm_ends_within an_ends_within cd_ends_within ct_ends_within), f_stretches := f_stretches, d_stretches := (PySem.W.fnOf "stretches" "stretches" (defArgs s_stretches) (defBody s_stretches) (defScope s_stretches) .none kV_stretches dc_stretches pm_stretches an_stretches cd_stretches ct_stretches), f_how_many := f_how_many, d_how_many := (PySem.W.fnOf "how_many" "how_many" (defArgs s_how_many) (defBody s_how_many) (defScope s_how_many) .none kV_how_many dc_how_many pm_how_many an_how_many cd_how_many ct_how_many), f_longest := f_longest, d_longest := (PySem.W.fnOf "longest" "longest" (defArgs s_longest) (defBody s_longest) (defScope s_longest) .none kV_longest dc_longest pm_longest an_longest cd_longest ct_longest), f_shortest := f_shortest, d_shortest := (PySem.W.fnOf "shortest" "shortest" (defArgs s_shortest) (defBody s_shortest) (defScope s_shortest) .none kV_shortest dc_shortest pm_shortest an_shortest cd_shortest ct_shortest), f__law_number_right := f__law_number_right, d__law_number_right := (PySem.W.fnOf "_law_number_right" "_law_number_right" (defArgs s__law_number_right) (defBody s__law_number_right) (defScope s__law_number_right) .none kV__law_number_right dc__law_number_right pm__law_number_right an__law_number_right cd__law_number_right ct__law_number_right), f__law_mixed := f__law_mixed, d__law_mixed := (PySem.W.fnOf "_law_mixed" "_law_mixed" (defArgs s__law_mixed) (defBody s__law_mixed) (defScope s__law_mixed) .none kV__law_mixed dc__law_mixed pm__law_mixed an__law_mixed cd__law_mixed ct__law_mixed), f__law_purse := f__law_purse, d__law_purse := (PySem.W.fnOf "_law_purse" "_law_purse" (defArgs s__law_purse) (defBody s__law_purse) (defScope s__law_purse) .none kV__law_purse dc__law_purse pm__law_purse an__law_purse cd__law_purse ct__law_purse), f__law_value := f__law_value, d__law_value := (PySem.W.fnOf "_law_value" "_law_value" (defArgs s__law_value) (defBody s__law_value) (defScope s__law_value) .none kV__law_value dc__law_value pm__law_value an__law_value cd__law_value ct__law_value), f__law_row := f__law_row, d__law_row := (PySem.W.fnOf "_law_row" "_law_row" (defArgs s__law_row) (defBody s__law_row) (defScope s__law_row) .none kV__law_row dc__law_row pm__law_row an__law_row cd__law_row ct__law_row), f_longest_within := f_longest_within, d_longest_within := (PySem.W.fnOf "longest_within" "longest_within" (defArgs s_longest_within) (defBody s_longest_within) (defScope s_longest_within) .none kV_longest_within dc_longest_within pm_longest_within an_longest_within cd_longest_within ct_longest_within), f__law_within_right := f__law_within_right, d__law_within_right := (PySem.W.fnOf "_law_within_right" "_law_within_right" (defArgs s__law_within_right) (defBody s__law_within_right) (defScope s__law_within_right) .none kV__law_within_right dc__law_within_right pm__law_within_right an__law_within_right cd__law_within_right ct__law_within_right), f_counts := f_counts, d_counts := (PySem.W.fnOf "counts" "counts" (defArgs s_counts) (defBody s_counts) (defScope s_counts) .none kV_counts dc_counts pm_counts an_counts cd_counts ct_counts), f_law := f_law, d_law := (PySem.W.fnOf "law" "law" (defArgs s_law) (defBody s_law) (defScope s_law) .none kV_law dc_law pm_law an_law cd_law ct_law), c_Ready := c_Ready, c_NoWindow := c_NoWindow, c_Held := c_Held } := {
    F_last_places := F_last_places,
    b_last_places := b_last_places,
    g_last_places := PySem.W.mg_of X G a_last_places,
    F_next_places := F_next_places,
    b_next_places := b_next_places,
    g_next_places := PySem.W.mg_of X G a_next_places,
    F_Ready___init__ := F_Ready___init__,
    b_Ready___init__ := b_Ready___init__,
    M_Ready := ⟨mk_Ready, a_Ready___init__, i_Ready___init__, kc_Ready⟩,
    F__law_next := F__law_next,
    b__law_next := b__law_next,
    g__law_next := PySem.W.mg_of X G a__law_next,
    F_is_whole := F_is_whole,
    b_is_whole := b_is_whole,
    g_is_whole := PySem.W.mg_of X G a_is_whole,
    F_Ready_need_place := F_Ready_need_place,
    b_Ready_need_place := b_Ready_need_place,
    M_Ready_need_place := ⟨a_Ready_need_place, i_Ready_need_place, k_Ready_need_place⟩,
    F_Ready_end_of := F_Ready_end_of,
    b_Ready_end_of := b_Ready_end_of,
    M_Ready_end_of := ⟨a_Ready_end_of, i_Ready_end_of, k_Ready_end_of⟩,
    F_Ready_need_window := F_Ready_need_window,
    b_Ready_need_window := b_Ready_need_window,
    M_Ready_need_window := ⟨a_Ready_need_window, i_Ready_need_window, k_Ready_need_window⟩,
    F_Ready_unlike := F_Ready_unlike,
    b_Ready_unlike := b_Ready_unlike,
    M_Ready_unlike := ⟨a_Ready_unlike, i_Ready_unlike, k_Ready_unlike⟩,
    F__law_stretch_right := F__law_stretch_right,
    b__law_stretch_right := b__law_stretch_right,
    g__law_stretch_right := PySem.W.mg_of X G a__law_stretch_right,
    F_Held___init__ := F_Held___init__,
    b_Held___init__ := b_Held___init__,
    M_Held := ⟨mk_Held, a_Held___init__, i_Held___init__, kc_Held⟩,
    F_Held_come := F_Held_come,
    b_Held_come := b_Held_come,
    M_Held_come := ⟨a_Held_come, i_Held_come, k_Held_come⟩,
    F_Held_gone := F_Held_gone,
    b_Held_gone := b_Held_gone,
    M_Held_gone := ⟨a_Held_gone, i_Held_gone, k_Held_gone⟩,
    F_Held_unlike := F_Held_unlike,
    b_Held_unlike := b_Held_unlike,
    M_Held_unlike := ⟨a_Held_unlike, i_Held_unlike, k_Held_unlike⟩,
    F_ends_by := F_ends_by,
    b_ends_by := b_ends_by,
    g_ends_by := PySem.W.mg_of X G a_ends_by,
    F_ends_within := F_ends_within,
    b_ends_within := b_ends_within,
    g_ends_within := PySem.W.mg_of X G a_ends_within,
    F_stretches := F_stretches,
    b_stretches := b_stretches,
    g_stretches := PySem.W.mg_of X G a_stretches,
    F_how_many := F_how_many,
    b_how_many := b_how_many,
    g_how_many := PySem.W.mg_of X G a_how_many,
    F_longest := F_longest,
    b_longest := b_longest,
    g_longest := PySem.W.mg_of X G a_longest,
    F_shortest := F_shortest,
    b_shortest := b_shortest,
    g_shortest := PySem.W.mg_of X G a_shortest,
    F__law_number_right := F__law_number_right,
    b__law_number_right := b__law_number_right,
    g__law_number_right := PySem.W.mg_of X G a__law_number_right,
    F__law_mixed := F__law_mixed,
    b__law_mixed := b__law_mixed,
    g__law_mixed := PySem.W.mg_of X G a__law_mixed,
    F__law_purse := F__law_purse,
    b__law_purse := b__law_purse,
    g__law_purse := PySem.W.mg_of X G a__law_purse,
    F__law_value := F__law_value,
    b__law_value := b__law_value,
    g__law_value := PySem.W.mg_of X G a__law_value,
    F__law_row := F__law_row,
    b__law_row := b__law_row,
    g__law_row := PySem.W.mg_of X G a__law_row,
    F_longest_within := F_longest_within,
    b_longest_within := b_longest_within,
    g_longest_within := PySem.W.mg_of X G a_longest_within,
    F__law_within_right := F__law_within_right,
    b__law_within_right := b__law_within_right,
    g__law_within_right := PySem.W.mg_of X G a__law_within_right,
    F_counts := F_counts,
    b_counts := b_counts,
    g_counts := PySem.W.mg_of X G a_counts,
    F_law := F_law,
    b_law := b_law,
    g_law := PySem.W.mg_of X G a_law,
    g_Ready := PySem.W.mg_of X G aC_Ready,
    C_Ready := ⟨pg_Ready, hd_Ready, po_Ready, sa_Ready⟩,
    n_Ready_many := n_Ready_many,
    n_Ready_lasts := n_Ready_lasts,
    n_Ready_nexts := n_Ready_nexts,
    g_NoWindow := PySem.W.mg_of X G aC_NoWindow,
    g_Held := PySem.W.mg_of X G aC_Held,
    C_Held := ⟨pg_Held, hd_Held, po_Held, sa_Held⟩,
    n_Held_times := n_Held_times,
    m_abs := PySem.W.mg_none_of X G z_abs,
    m_bool := PySem.W.mg_none_of X G z_bool,
    m_enumerate := PySem.W.mg_none_of X G z_enumerate,
    m_int := PySem.W.mg_none_of X G z_int,
    m_isinstance := PySem.W.mg_none_of X G z_isinstance,
    m_len := PySem.W.mg_none_of X G z_len,
    m_list := PySem.W.mg_none_of X G z_list,
    m_min := PySem.W.mg_none_of X G z_min,
    m_range := PySem.W.mg_none_of X G z_range,
    m_reversed := PySem.W.mg_none_of X G z_reversed,
    m_set := PySem.W.mg_none_of X G z_set,
    m_sorted := PySem.W.mg_none_of X G z_sorted,
    m_sum := PySem.W.mg_none_of X G z_sum }
  subst hcc
  refine ⟨(PySem.W.fnOf "law" "law" (defArgs s_law) (defBody s_law) (defScope s_law) .none kV_law dc_law pm_law an_law cd_law ct_law), [(c0, P0)], sp_law K P0, fun p hp => ?_, fun p hp => ?_, fun p hp => ?_, fun s v => .of_eq rfl, fun H a ns hl _ hT hS => ⟨a, ns, rfl, hT _ (List.mem_singleton.mpr rfl), hS, hl, fun _ => rfl⟩, fun base _ _ hTB => ok_law (cc := c0) (Pt := P0) T ⟨⟨_, _, _, _, _, _, _, _, l__law_within_right, rfl⟩, q__law_within_right, hTB _ (List.mem_singleton.mpr rfl)⟩⟩
  · rw [List.mem_singleton.mp hp]
    exact hP0
  · rw [List.mem_singleton.mp hp]
    exact hK0
  · rw [List.mem_singleton.mp hp]
    exact PySem.W.codeHd_of_K X hH0
theorem walk {l : PySem.W.OpenLaw} {q : Program} {loose : List Str} {XP : (Str → Option Value) → Heap → Prop} {YP : World → Heap → Prop} {d : DefRec} {K : Params → PySem.W.Frag} (hn : l.most = some 63) (hdf : d.params.defaults = [])
    (hY : ∀ (w : World) (h : Heap), YP w h → (K w.params).In h)
    (F : ∀ (w : World) (mg : Str → Option Value) (fa : Addr) (h : Heap), YP w h → (K w.params).In h → h.Ns mainGlobals mg → mg d.name = some (.ref fa) → LamX.LawAtS l w (K w.params) CX0 8 63 "script" mg fa h) :
    PySem.W.WalkO q loose XP YP l.row.toRowW d [] (fun f vs => PySem.call f vs) :=
  LamX.walk_ofTs (n := 63) (CX := fun _ => CX0) hn (by decide) hdf ⟨rfl, by decide, by decide⟩ hY F fun _ _ _ _ _ z => z
end Ur
open PySem PySem.W PyProof.Rows in
set_option maxRecDepth 100000 in
set_option maxHeartbeats 0 in
theorem PySem.Challenge.cw_unlikerow_k27_whole_stretches_by_windows_holds : PySem.Challenge.rw_unlikerow_k27_whole_stretches_by_windows.Holds := by
  w_on; o_law; k_head; (case hw => w_witness2)
  k_fill
  refine Ur.walk (l := PySem.Challenge.rw_unlikerow_k27_whole_stretches_by_windows) rfl rfl (fun w h Y => PySem.W.km_in_of Y) ?F
  case F =>
    intro w mg fa h Y KX G hmg
    refine' Ur.all_mk KX G hmg ?aC_Ready ?pg_Ready ?hd_Ready ?po_Ready ?sa_Ready ?mk_Ready ?kc_Ready ?n_Ready_many ?n_Ready_lasts ?n_Ready_nexts ?aC_NoWindow ?aC_Held ?pg_Held ?hd_Held ?po_Held ?sa_Held ?mk_Held ?kc_Held ?n_Held_times ?a_last_places ?l_last_places ?q_last_places ?k_last_places ?a_next_places ?l_next_places ?q_next_places ?k_next_places ?a_Ready___init__ ?i_Ready___init__ ?l_Ready___init__ ?q_Ready___init__ ?k_Ready___init__ ?a__law_next ?l__law_next ?q__law_next ?k__law_next ?a_is_whole ?l_is_whole ?q_is_whole ?k_is_whole ?a_Ready_need_place ?i_Ready_need_place ?l_Ready_need_place ?q_Ready_need_place ?k_Ready_need_place ?a_Ready_end_of ?i_Ready_end_of ?l_Ready_end_of ?q_Ready_end_of ?k_Ready_end_of ?a_Ready_need_window ?i_Ready_need_window ?l_Ready_need_window ?q_Ready_need_window ?k_Ready_need_window ?a_Ready_unlike ?i_Ready_unlike ?l_Ready_unlike ?q_Ready_unlike ?k_Ready_unlike ?a__law_stretch_right ?l__law_stretch_right ?q__law_stretch_right ?k__law_stretch_right ?a_Held___init__ ?i_Held___init__ ?l_Held___init__ ?q_Held___init__ ?k_Held___init__ ?a_Held_come ?i_Held_come ?l_Held_come ?q_Held_come ?k_Held_come ?a_Held_gone ?i_Held_gone ?l_Held_gone ?q_Held_gone ?k_Held_gone ?a_Held_unlike ?i_Held_unlike ?l_Held_unlike ?q_Held_unlike ?k_Held_unlike ?a_ends_by ?l_ends_by ?q_ends_by ?k_ends_by ?a_ends_within ?l_ends_within ?q_ends_within ?k_ends_within ?a_stretches ?l_stretches ?q_stretches ?k_stretches ?a_how_many ?l_how_many ?q_how_many ?k_how_many ?a_longest ?l_longest ?q_longest ?k_longest ?a_shortest ?l_shortest ?q_shortest ?k_shortest ?a__law_number_right ?l__law_number_right ?q__law_number_right ?k__law_number_right ?a__law_mixed ?l__law_mixed ?q__law_mixed ?k__law_mixed ?a__law_purse ?l__law_purse ?q__law_purse ?k__law_purse ?a__law_value ?l__law_value ?q__law_value ?k__law_value ?a__law_row ?l__law_row ?q__law_row ?k__law_row ?a_longest_within ?l_longest_within ?q_longest_within ?k_longest_within ?a__law_within_right ?l__law_within_right ?q__law_within_right ?k__law_within_right ?a_counts ?l_counts ?q_counts ?k_counts ?a_law ?l_law ?q_law ?k_law ?z_abs ?z_bool ?z_enumerate ?z_int ?z_isinstance ?z_len ?z_list ?z_min ?z_range ?z_reversed ?z_set ?z_sorted ?z_sum ?hcc ?hP0 ?hK0 ?hH0
    (case aC_Ready => k_is)
    (case pg_Ready => k_is)
    (case hd_Ready => k_is)
    (case po_Ready => k_is)
    (case sa_Ready => k_is)
    (case mk_Ready => k_is)
    (case kc_Ready => k_is)
    (case n_Ready_many => k_is)
    (case n_Ready_lasts => k_is)
    (case n_Ready_nexts => k_is)
    (case aC_NoWindow => k_is)
    (case aC_Held => k_is)
    (case pg_Held => k_is)
    (case hd_Held => k_is)
    (case po_Held => k_is)
    (case sa_Held => k_is)
    (case mk_Held => k_is)
    (case kc_Held => k_is)
    (case n_Held_times => k_is)
    (case a_last_places => k_is)
    (case l_last_places => k_is)
    (case q_last_places => k_is)
    (case k_last_places => k_is)
    (case a_next_places => k_is)
    (case l_next_places => k_is)
    (case q_next_places => k_is)
    (case k_next_places => k_is)
    (case a_Ready___init__ => k_is)
    (case i_Ready___init__ => k_is)
    (case l_Ready___init__ => k_is)
    (case q_Ready___init__ => k_is)
    (case k_Ready___init__ => k_is)
    (case a__law_next => k_is)
    (case l__law_next => k_is)
    (case q__law_next => k_is)
    (case k__law_next => k_is)
    (case a_is_whole => k_is)
    (case l_is_whole => k_is)
    (case q_is_whole => k_is)
    (case k_is_whole => k_is)
    (case a_Ready_need_place => k_is)
    (case i_Ready_need_place => k_is)
    (case l_Ready_need_place => k_is)
    (case q_Ready_need_place => k_is)
    (case k_Ready_need_place => k_is)
    (case a_Ready_end_of => k_is)
    (case i_Ready_end_of => k_is)
    (case l_Ready_end_of => k_is)
    (case q_Ready_end_of => k_is)
    (case k_Ready_end_of => k_is)
    (case a_Ready_need_window => k_is)
    (case i_Ready_need_window => k_is)
    (case l_Ready_need_window => k_is)
    (case q_Ready_need_window => k_is)
    (case k_Ready_need_window => k_is)
    (case a_Ready_unlike => k_is)
    (case i_Ready_unlike => k_is)
    (case l_Ready_unlike => k_is)
    (case q_Ready_unlike => k_is)
    (case k_Ready_unlike => k_is)
    (case a__law_stretch_right => k_is)
    (case l__law_stretch_right => k_is)
    (case q__law_stretch_right => k_is)
    (case k__law_stretch_right => k_is)
    (case a_Held___init__ => k_is)
    (case i_Held___init__ => k_is)
    (case l_Held___init__ => k_is)
    (case q_Held___init__ => k_is)
    (case k_Held___init__ => k_is)
    (case a_Held_come => k_is)
    (case i_Held_come => k_is)
    (case l_Held_come => k_is)
    (case q_Held_come => k_is)
    (case k_Held_come => k_is)
    (case a_Held_gone => k_is)
    (case i_Held_gone => k_is)
    (case l_Held_gone => k_is)
    (case q_Held_gone => k_is)
    (case k_Held_gone => k_is)
    (case a_Held_unlike => k_is)
    (case i_Held_unlike => k_is)
    (case l_Held_unlike => k_is)
    (case q_Held_unlike => k_is)
    (case k_Held_unlike => k_is)
    (case a_ends_by => k_is)
    (case l_ends_by => k_is)
    (case q_ends_by => k_is)
    (case k_ends_by => k_is)
    (case a_ends_within => k_is)
    (case l_ends_within => k_is)
    (case q_ends_within => k_is)
    (case k_ends_within => k_is)
    (case a_stretches => k_is)
    (case l_stretches => k_is)
    (case q_stretches => k_is)
    (case k_stretches => k_is)
    (case a_how_many => k_is)
    (case l_how_many => k_is)
    (case q_how_many => k_is)
    (case k_how_many => k_is)
    (case a_longest => k_is)
    (case l_longest => k_is)
    (case q_longest => k_is)
    (case k_longest => k_is)
    (case a_shortest => k_is)
    (case l_shortest => k_is)
    (case q_shortest => k_is)
    (case k_shortest => k_is)
    (case a__law_number_right => k_is)
    (case l__law_number_right => k_is)
    (case q__law_number_right => k_is)
    (case k__law_number_right => k_is)
    (case a__law_mixed => k_is)
    (case l__law_mixed => k_is)
    (case q__law_mixed => k_is)
    (case k__law_mixed => k_is)
    (case a__law_purse => k_is)
    (case l__law_purse => k_is)
    (case q__law_purse => k_is)
    (case k__law_purse => k_is)
    (case a__law_value => k_is)
    (case l__law_value => k_is)
    (case q__law_value => k_is)
    (case k__law_value => k_is)
    (case a__law_row => k_is)
    (case l__law_row => k_is)
    (case q__law_row => k_is)
    (case k__law_row => k_is)
    (case a_longest_within => k_is)
    (case l_longest_within => k_is)
    (case q_longest_within => k_is)
    (case k_longest_within => k_is)
    (case a__law_within_right => k_is)
    (case l__law_within_right => k_is)
    (case q__law_within_right => k_is)
    (case k__law_within_right => k_is)
    (case a_counts => k_is)
    (case l_counts => k_is)
    (case q_counts => k_is)
    (case k_counts => k_is)
    (case a_law => k_is)
    (case l_law => k_is)
    (case q_law => k_is)
    (case k_law => k_is)
    (case z_abs => k_is)
    (case z_bool => k_is)
    (case z_enumerate => k_is)
    (case z_int => k_is)
    (case z_isinstance => k_is)
    (case z_len => k_is)
    (case z_list => k_is)
    (case z_min => k_is)
    (case z_range => k_is)
    (case z_reversed => k_is)
    (case z_set => k_is)
    (case z_sorted => k_is)
    (case z_sum => k_is)
    (case hcc => exact rfl)
    (case hP0 => exact PySem.W.km_tabs_of Y _ (List.mem_singleton.mpr rfl))
    (case hK0 => kernel_rfl)
    (case hH0 => kernel_rfl)
