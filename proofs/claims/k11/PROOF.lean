import PyProof.Rows.All
import Wide.All
import OpenK.AllK
import Wide.FinOn
import PyProof.EqAt
import PyProof.EqKinds
import PyProof.TupleCall
import PyProof.WalksEnum
import KE.KItemsList
import KE.KDictZip
import KE.KDictItemsList
import KE.KCallChange
import KE.KCallJoin
import HandS.ForMost
import HandS.Walk
import HandS.Evl
import HandS.IsInst
import HandS.SortInts
import HandS.Exc
import HandS.TryOnly
import HandS.ExcOwn
import HandS.WordsExc
import HandS.Zip
import HandS.Rev
import HandS.SetKeys
import HandS.Style
import HandS.Conv
import HandS.ExcIs
import HandS.SetFor
import HandS.Set
import HandS.More
import HandS.Wide
import KE.DataMinMax
import PySem.Challenge.RW_unlikerow_k11_whole_rows_made_ready
set_option Elab.async false
set_option linter.all false
set_option maxRecDepth 100000
set_option maxHeartbeats 4000000
/-! list(enumerate(l)), l a list: a new list of new pairs -/
namespace UrE
open PySem PySem.W PySem.Calls PyProof.Rows
open Sem (wp)
theorem enum_no_len : typeLookup (.type "enumerate") "__len__" = pure none := by rw [typeLookup_type, builtinLookup_eq_fast]; kernel_rfl
theorem enum_no_hint : typeLookup (.type "enumerate") "__length_hint__" = pure none := by rw [typeLookup_type, builtinLookup_eq_fast]; kernel_rfl
/-- the enumerate object at e between two turns, the tuples handed out still alive: f the first two fields -/
def Out (h : Heap) (e it S : Addr) (i : Nat) : Prop := ∃ (f0 f1 old : Value), h.get? e = some { cls := .type "enumerate", dict := none, data := .fields #[f0, f1, .ref it, rawInt i, .none, old], slots := #[] } ∧
  ((f0 = .none) ∨ ∃ (a : Addr) (b : Bool) (oa : Obj), f0 = rawInt a ∧ f1 = .bool b ∧ h.get? a = some oa ∧ a ≠ e ∧ a ≠ it ∧ a ≠ S)
section
variable {prog : Program} {w : World} {A : Around} {E : Value → Shared → Prop} {s : Shared}
theorem out_item {e it l S : Addr} {i : Nat} {items : Array Value} {x : Value} {Q : Option Value → Shared → Prop}
    (ho : Out s.heap e it S i) (hit : s.heap.IsListIter it l i) (hl : s.heap.IsList l items) (hx : items[i]? = some x) (hne : e ≠ it) (hSl : S < s.heap.objs.size)
    (hQ : ∀ h' tk, Out h' e it S (i + 1) → h'.IsListIter it l (i + 1) →
      (∃ t, h'.get? s.heap.objs.size = some { cls := .type "tuple", data := .seq #[.int i t, x] }) → h'.objs.size = s.heap.objs.size + 1 →
      (∀ b o, b ≠ e → b ≠ it → s.heap.get? b = some o → h'.get? b = some o) → Q (some (.ref s.heap.objs.size)) { s with heap := h', toks := tk }) :
    wpAny (model prog w) A (pyNext (.ref e)) Q E s := by
  obtain ⟨f0, f1, old, he, hf⟩ := ho
  rcases hf with rfl | ⟨a, b, oa, rfl, rfl, ha, hae, hai, haS⟩
  · have hT : s.TypeIs (.ref e) "enumerate" := ⟨_, he, rfl⟩
    unfold pyNext
    refine wpAny_bind (wpAny_attempt (wpAny_callSpecial?_slot (name := Str.ofString "__next__") hT PySem.F.slot_enumerate_next
      (wpAny_call_entry PySem.F.slot_enumerate_next hT PySem.F.entry_enumerate_next ?_ (PySem.F.args_enumerate_next_1 _))))
    obtain ⟨hp, g, d, tk, os⟩ := s
    show wpAny _ _ (field (.ref e) 2 >>= _) _ _ _
    refine wpAny_bind (wpAny_field he rfl (x := .ref it) rfl ?_)
    refine wpAny_bind (wpAny_nextOf_list_item hit hl hx fun h₁ hit₁ hs₁ => ?_)
    replace hs₁ : Heap.SameBut it hp h₁ := hs₁
    have he₁ := (hs₁.2 e hne).trans he
    show wpAny _ _ (field (.ref e) 3 >>= _) _ _ ⟨h₁, g, d, tk, os⟩
    refine wpAny_bind (wpAny_field he₁ rfl (x := rawInt i) rfl ?_)
    show wpAny _ _ (field (.ref e) 4 >>= _) _ _ ⟨h₁, g, d, tk, os⟩
    refine wpAny_bind (wpAny_field he₁ rfl (x := .none) rfl ?_)
    show wpAny _ _ (mkInt i >>= _) _ _ ⟨h₁, g, d, tk, os⟩
    refine wpAny_bind (wpAny_mkInt ?_)
    show wpAny _ _ (setField (.ref e) 3 (rawInt ((i : Int) + 1)) >>= _) _ _ ⟨h₁, g, d, tk + 1, os⟩
    refine wpAny_bind (wpAny_setField_rec he₁ (by simp) fun h₂ he₂ hs₂ => ?_)
    replace hs₂ : Heap.SameBut e h₁ h₂ := hs₂
    simp only [Array.set!, rawInt] at he₂
    show wpAny _ _ (setField (.ref e) 4 .none >>= _) _ _ ⟨h₂, g, d, tk + 1, os⟩
    refine wpAny_bind (wpAny_setField_rec he₂ (by simp) fun h₃ he₃ hs₃ => ?_)
    replace hs₃ : Heap.SameBut e h₂ h₃ := hs₃
    show wpAny _ _ (newTuple [.int i tk, x] >>= _) _ _ ⟨h₃, g, d, tk + 1, os⟩
    refine wpAny_bind (wpAny_newTuple ?_)
    have he₄ := Heap.get?_push_of_some { cls := .type "tuple", data := .seq #[.int i tk, x] } he₃
    have hel : e < hp.objs.size := Heap.lt_size he
    have hsz : h₃.objs.size = hp.objs.size := by rw [hs₃.1, hs₂.1, hs₁.1]
    generalize hh₄ : h₃.push { cls := .type "tuple", data := .seq #[.int i tk, x] } = h₄ at he₄
    have ht₄ : h₄.get? hp.objs.size = some { cls := .type "tuple", data := .seq #[.int i tk, x] } := by rw [← hh₄, ← hsz]; exact Heap.get?_push_size _ rfl
    have hz₄ : h₄.objs.size = hp.objs.size + 1 := by rw [← hh₄, Heap.size_push, hsz]
    have hk₄ : ∀ b o, b ≠ e → b ≠ it → hp.get? b = some o → h₄.get? b = some o := fun b o hbe hbi hb => by
      rw [← hh₄]; exact Heap.get?_push_of_some _ (hs₃.extBut b o hbe (hs₂.extBut b o hbe (hs₁.extBut b o hbi hb)))
    have hit₄ : h₄.IsListIter it l (i + 1) := by
      rw [← hh₄]; obtain ⟨o, ho, r⟩ := (hit₁.extBut hs₂.extBut (Ne.symm hne)).extBut hs₃.extBut (Ne.symm hne); exact ⟨o, Heap.get?_push_of_some _ ho, r⟩
    show wpAny _ _ (Builtin.SmallTypes.ownedTupleIsFree (.ref e) >>= _) _ _ ⟨h₄, g, d, tk + 1, os⟩
    rw [hsz]
    refine wpAny_bind ?_
    unfold Builtin.SmallTypes.ownedTupleIsFree
    refine wpAny_bind (wpAny_field he₄ rfl (x := .none) rfl (wpAny_pure ?_))
    simp only [if_true]
    refine wpAny_bind (wpAny_rule ?_)
    refine wpAny_bind (wpAny_field he₄ rfl (x := old) rfl ?_)
    refine wpAny_bind (wpAny_setField_rec he₄ (by simp) fun h₅ he₅ hs₅ => ?_)
    replace hs₅ : Heap.SameBut e h₄ h₅ := hs₅
    show wpAny _ _ (Builtin.SmallTypes.ownedTupleHandOut (.ref e) (.ref hp.objs.size) >>= _) _ _ ⟨h₅, g, d, tk + 1, os⟩
    refine wpAny_bind ?_
    unfold Builtin.SmallTypes.ownedTupleHandOut
    refine wpAny_bind (wpAny_setField_rec he₅ (by simp) fun h₆ he₆ hs₆ => ?_)
    replace hs₆ : Heap.SameBut e h₅ h₆ := hs₆
    refine wpAny_setField_rec he₆ (by simp) fun h₇ he₇ hs₇ => ?_
    replace hs₇ : Heap.SameBut e h₆ h₇ := hs₇
    have t7 : h₇.get? hp.objs.size = some { cls := .type "tuple", data := .seq #[.int i tk, x] } := hs₇.extBut _ _ (Nat.ne_of_gt hel) (hs₆.extBut _ _ (Nat.ne_of_gt hel) (hs₅.extBut _ _ (Nat.ne_of_gt hel) ht₄))
    have hil : it < hp.objs.size := by obtain ⟨o, z, _⟩ := hit; exact Heap.lt_size z
    refine wpAny_bind (wpAny_letGo (wpAny_pure ⟨_, rfl, wpAny_pure (hQ h₇ (tk + 1) ⟨rawInt hp.objs.size, .bool false, x, ?_, Or.inr ⟨hp.objs.size, false, _, rfl, rfl, t7, Nat.ne_of_gt hel, Nat.ne_of_gt hil, Nat.ne_of_gt hSl⟩⟩ ?_ ⟨tk, t7⟩ ?_ ?_)⟩))
    · simpa [rawInt, Array.set!] using he₇
    · exact ((hit₄.extBut hs₅.extBut (Ne.symm hne)).extBut hs₆.extBut (Ne.symm hne)).extBut hs₇.extBut (Ne.symm hne)
    · rw [hs₇.1, hs₆.1, hs₅.1, hz₄]
    · exact fun b o hbe hbi hb => hs₇.extBut b o hbe (hs₆.extBut b o hbe (hs₅.extBut b o hbe (hk₄ b o hbe hbi hb)))
  · have hT : s.TypeIs (.ref e) "enumerate" := ⟨_, he, rfl⟩
    unfold pyNext
    refine wpAny_bind (wpAny_attempt (wpAny_callSpecial?_slot (name := Str.ofString "__next__") hT PySem.F.slot_enumerate_next
      (wpAny_call_entry PySem.F.slot_enumerate_next hT PySem.F.entry_enumerate_next ?_ (PySem.F.args_enumerate_next_1 _))))
    obtain ⟨hp, g, d, tk, os⟩ := s
    show wpAny _ _ (field (.ref e) 2 >>= _) _ _ _
    refine wpAny_bind (wpAny_field he rfl (x := .ref it) rfl ?_)
    refine wpAny_bind (wpAny_nextOf_list_item hit hl hx fun h₁ hit₁ hs₁ => ?_)
    replace hs₁ : Heap.SameBut it hp h₁ := hs₁
    have he₁ := (hs₁.2 e hne).trans he
    show wpAny _ _ (field (.ref e) 3 >>= _) _ _ ⟨h₁, g, d, tk, os⟩
    refine wpAny_bind (wpAny_field he₁ rfl (x := rawInt i) rfl ?_)
    show wpAny _ _ (field (.ref e) 4 >>= _) _ _ ⟨h₁, g, d, tk, os⟩
    refine wpAny_bind (wpAny_field he₁ rfl (x := .none) rfl ?_)
    show wpAny _ _ (mkInt i >>= _) _ _ ⟨h₁, g, d, tk, os⟩
    refine wpAny_bind (wpAny_mkInt ?_)
    show wpAny _ _ (setField (.ref e) 3 (rawInt ((i : Int) + 1)) >>= _) _ _ ⟨h₁, g, d, tk + 1, os⟩
    refine wpAny_bind (wpAny_setField_rec he₁ (by simp) fun h₂ he₂ hs₂ => ?_)
    replace hs₂ : Heap.SameBut e h₁ h₂ := hs₂
    simp only [Array.set!, rawInt] at he₂
    show wpAny _ _ (setField (.ref e) 4 .none >>= _) _ _ ⟨h₂, g, d, tk + 1, os⟩
    refine wpAny_bind (wpAny_setField_rec he₂ (by simp) fun h₃ he₃ hs₃ => ?_)
    replace hs₃ : Heap.SameBut e h₂ h₃ := hs₃
    show wpAny _ _ (newTuple [.int i tk, x] >>= _) _ _ ⟨h₃, g, d, tk + 1, os⟩
    refine wpAny_bind (wpAny_newTuple ?_)
    have he₄ := Heap.get?_push_of_some { cls := .type "tuple", data := .seq #[.int i tk, x] } he₃
    have hel : e < hp.objs.size := Heap.lt_size he
    have hsz : h₃.objs.size = hp.objs.size := by rw [hs₃.1, hs₂.1, hs₁.1]
    generalize hh₄ : h₃.push { cls := .type "tuple", data := .seq #[.int i tk, x] } = h₄ at he₄
    have ht₄ : h₄.get? hp.objs.size = some { cls := .type "tuple", data := .seq #[.int i tk, x] } := by rw [← hh₄, ← hsz]; exact Heap.get?_push_size _ rfl
    have hz₄ : h₄.objs.size = hp.objs.size + 1 := by rw [← hh₄, Heap.size_push, hsz]
    have hk₄ : ∀ b o, b ≠ e → b ≠ it → hp.get? b = some o → h₄.get? b = some o := fun b o hbe hbi hb => by
      rw [← hh₄]; exact Heap.get?_push_of_some _ (hs₃.extBut b o hbe (hs₂.extBut b o hbe (hs₁.extBut b o hbi hb)))
    have hit₄ : h₄.IsListIter it l (i + 1) := by
      rw [← hh₄]; obtain ⟨o, ho, r⟩ := (hit₁.extBut hs₂.extBut (Ne.symm hne)).extBut hs₃.extBut (Ne.symm hne); exact ⟨o, Heap.get?_push_of_some _ ho, r⟩
    have ha₄ := hk₄ a oa hae hai ha
    have hil : it < hp.objs.size := by obtain ⟨o, z, _⟩ := hit; exact Heap.lt_size z
    show wpAny _ _ (Builtin.SmallTypes.ownedTupleIsFree (.ref e) >>= _) _ _ ⟨h₄, g, d, tk + 1, os⟩
    rw [hsz]
    refine wpAny_bind ?_
    unfold Builtin.SmallTypes.ownedTupleIsFree
    refine wpAny_bind (wpAny_field he₄ rfl (x := rawInt a) rfl ?_)
    show wpAny _ _ (loadIfAlive a >>= _) _ _ _
    refine wpAny_bind (kdx_alive ha₄ ?_)
    show wpAny _ _ (field (.ref e) 1 >>= _) _ _ _
    refine wpAny_bind (wpAny_field he₄ rfl (x := .bool b) rfl ?_)
    refine wpAny_ite_split (fun _ => ?_) (fun hb => ?_)
    · refine wpAny_bind (wpAny_setField_rec he₄ (by simp) fun h₅ he₅ hs₅ => ?_)
      replace hs₅ : Heap.SameBut e h₄ h₅ := hs₅
      have t5 := hs₅.extBut _ _ (Nat.ne_of_gt hel) ht₄
      refine wpAny_pure ?_
      simp only [Bool.false_eq_true, if_false]
      refine wpAny_pure ⟨_, rfl, wpAny_pure (hQ h₅ (tk + 1) ⟨rawInt a, .bool true, old, ?_, Or.inr ⟨a, true, oa, rfl, rfl, hs₅.extBut _ _ hae ha₄, hae, hai, haS⟩⟩ (hit₄.extBut hs₅.extBut (Ne.symm hne)) ⟨tk, t5⟩ ?_ ?_)⟩
      · simpa [rawInt, Array.set!] using he₅
      · rw [hs₅.1, hz₄]
      · exact fun b o hbe hbi hb => hs₅.extBut b o hbe (hk₄ b o hbe hbi hb)
    · refine wpAny_pure ?_
      simp only [Bool.false_eq_true, if_false]
      refine wpAny_pure ⟨_, rfl, wpAny_pure (hQ h₄ (tk + 1) ⟨rawInt a, .bool b, old, ?_, Or.inr ⟨a, b, oa, rfl, rfl, ha₄, hae, hai, haS⟩⟩ hit₄ ⟨tk, ht₄⟩ hz₄ hk₄)⟩
      simpa [rawInt, Array.set!] using he₄
theorem out_end {e it l S : Addr} {i : Nat} {items : Array Value} {Q : Option Value → Shared → Prop} (hh : A.handled = none)
    (ho : Out s.heap e it S i) (hit : s.heap.IsListIter it l i) (hl : s.heap.IsList l items) (hx : items[i]? = none)
    (hQ : ∀ h', Heap.ExtBut it s.heap h' → Q none { s with heap := h' }) : wpAny (model prog w) A (pyNext (.ref e)) Q E s := by
  obtain ⟨f0, f1, old, he, _⟩ := ho
  have hT : s.TypeIs (.ref e) "enumerate" := ⟨_, he, rfl⟩
  unfold pyNext
  refine wpAny_bind (wpAny_attempt (wpAny_callSpecial?_slot (name := Str.ofString "__next__") hT PySem.F.slot_enumerate_next
    (wpAny_call_entry PySem.F.slot_enumerate_next hT PySem.F.entry_enumerate_next ?_ (PySem.F.args_enumerate_next_1 _))))
  show wpAny _ _ (field (.ref e) 2 >>= _) _ _ _
  refine wpAny_bind (wpAny_field he rfl (x := .ref it) rfl ?_)
  refine wpAny_bind (wpAny_nextOf_list_end hh hit hl hx fun h' x he' hx' => ?_)
  obtain ⟨o, ho, hc⟩ := hx'
  refine wpAny_bind (wpAny_isInstance (T := "StopIteration") (b := true) ⟨o, ho, hc⟩ isSubtype_stop ?_)
  exact wpAny_pure (hQ _ he')
end
end UrE
namespace UrE
open PySem PySem.W PySem.Calls PyProof.Rows
structure EnG (items : Array Value) (lo : Addr) (h : Heap) (as : List Addr) : Prop where
  rise : as.Pairwise (· < ·)
  above : ∀ a ∈ as, lo < a
  pairs : ∀ (j : Nat) (a : Addr), as[j]? = some a → ∃ t x, items[j]? = some x ∧ h.get? a = some { cls := .type "tuple", data := .seq #[.int j t, x] }
theorem EnG.there {items : Array Value} {lo : Addr} {h : Heap} {as : List Addr} (g : EnG items lo h as) {a : Addr} (ha : a ∈ as) : a < h.objs.size := by
  obtain ⟨j, hj⟩ := List.mem_iff_getElem?.mp ha
  obtain ⟨_, _, _, e⟩ := g.pairs j a hj
  exact Heap.lt_size e
section
variable {prog : Program} {w : World} {A : Around} {s : Shared} {R : Result → Shared → Prop} {items : Array Value}
theorem en_loop {S e it l : Addr} (hh : A.handled = none) (hei : e ≠ it) (hle : l ≠ e) (hli : l ≠ it) (heS : e < S) (hiS : it < S) (hlS : l ≠ S) (hn : items.size ≤ sizeLine) (res : Value) {h₁ : Heap}
    (hR : ∀ h' tk acc c as, (∀ b o, b ≠ S → b ≠ e → b ≠ it → h₁.get? b = some o → h'.get? b = some o) → h'.get? S = some { cls := .type "list", dict := none, data := .seq acc c, slots := #[] } → as.length = items.size → EnG items S h' as →
      acc.toList = as.map Value.ref → R (.ok (.ret res)) { s with heap := h', toks := tk }) :
    ∀ (k i : Nat) (h : Heap) (tk c : Nat) (acc : Array Value) (as : List Addr), items.size - i = k → i ≤ items.size → Out h e it S i → h.IsListIter it l i → h.IsList l items → (∀ b o, b ≠ S → b ≠ e → b ≠ it → h₁.get? b = some o → h.get? b = some o) →
      h.get? S = some { cls := .type "list", dict := none, data := .seq acc c, slots := #[] } → acc.toList = as.map Value.ref → as.length = i → EnG items S h as →
      codeAny (model prog w) A (.builtin "list.extend.loop" ⟨[.ref S, .ref e, res], []⟩) R { s with heap := h, toks := tk } := by
  intro k
  induction k with
  | zero =>
    intro i h tk c acc as hk hi hst hit hl hkeep hS hacc hal hG
    have hin : i = items.size := by omega
    refine codeAny_builtin PySem.F.entry_extend_loop ?_
    rw [Around.under_plainId PySem.F.plain_extend_loop _]
    show wpAny _ A.in1 (pyNext (.ref e) >>= _) _ _ _
    refine wpAny_bind (out_end (s := { s with heap := h, toks := tk }) (A := A.in1) hh hst hit hl (Array.getElem?_eq_none (by omega)) fun h' he => ?_)
    refine wpAny_pure (hR h' tk acc c as (fun b o h1 h2 h3 e => he b o h3 (hkeep b o h1 h2 h3 e)) (he S _ (Nat.ne_of_gt hiS) hS) (by omega) ⟨hG.rise, hG.above, fun j a hj => ?_⟩ hacc)
    obtain ⟨t, x, e2, e3⟩ := hG.pairs j a hj
    exact ⟨t, x, e2, he a _ (Nat.ne_of_gt (Nat.lt_trans hiS (hG.above a (List.mem_of_getElem? hj)))) e3⟩
  | succ k ih =>
    intro i h tk c acc as hk hi hst hit hl hkeep hS hacc hal hG
    have hlt : i < items.size := by omega
    have hsz : acc.size = i := by rw [← Array.length_toList, hacc, List.length_map, hal]
    refine codeAny_builtin PySem.F.entry_extend_loop ?_
    rw [Around.under_plainId PySem.F.plain_extend_loop _]
    show wpAny _ A.in1 (pyNext (.ref e) >>= _) _ _ _
    refine wpAny_bind (out_item (s := { s with heap := h, toks := tk }) hst hit hl (Array.getElem?_eq_getElem hlt) hei (Heap.lt_size hS) fun h' tk' hst' hit' ht hz hkp => ?_)
    dsimp only at ht hz hkp ⊢
    obtain ⟨t, ht⟩ := ht
    have hSl : S < h.objs.size := Heap.lt_size hS
    have hS' := hkp S _ (Nat.ne_of_gt heS) (Nat.ne_of_gt hiS) hS
    have up : ∀ b o, b ≠ S → h'.get? b = some o → (h'.update S (Obj.mapSeq (·.push (Value.ref h.objs.size)))).get? b = some o := fun b o hb e => (Heap.get?_update_other _ _ (Ne.symm hb)).trans e
    have upI : ∀ (h2 : Heap), (∀ b o, b ≠ S → h'.get? b = some o → h2.get? b = some o) → Out h2 e it S (i + 1) := fun h2 k2 => by
      obtain ⟨f0, f1, old, e1, hf⟩ := hst'
      refine ⟨f0, f1, old, k2 _ _ (Nat.ne_of_lt heS) e1, ?_⟩
      rcases hf with z | ⟨a, b, oa, z1, z2, z3, z4, z5, z6⟩
      · exact Or.inl z
      · exact Or.inr ⟨a, b, oa, z1, z2, k2 a oa z6 z3, z4, z5, z6⟩
    show wpAny _ A.in1 (updateSeq S (·.push (Value.ref h.objs.size)) >>= _) _ _ _
    refine wpAny_bind ?_
    refine wpAny_updateSeq hS' rfl (wpAny_pure ⟨plainId_quiet PySem.F.plain_extend_loop _, ih (i + 1) _ tk' _ (acc.push (Value.ref h.objs.size)) (as ++ [h.objs.size]) (by omega) hlt (upI _ up)
      (hit'.at fun o z => up it o (Nat.ne_of_lt hiS) z) ((hl.at fun o z => hkp l o hle hli z).at fun o z => up l o hlS z)
      (fun b o h1 h2 h3 z => up b o h1 (hkp b o h2 h3 (hkeep b o h1 h2 h3 z))) (Heap.get?_update_self _ hS' rfl) (by rw [Array.toList_push, hacc, List.map_append]; rfl) (by rw [List.length_append, hal]; rfl) ⟨?_, ?_, ?_⟩⟩) (by rw [hsz]; omega) (by show (acc.push (Value.ref h.objs.size)).size ≤ sizeLine + 1; rw [Array.size_push, hsz]; omega)
    · refine List.pairwise_append.mpr ⟨hG.rise, List.pairwise_singleton _ _, fun a ha b hb => ?_⟩
      rw [List.mem_singleton.mp hb]
      exact hG.there ha
    · intro a ha
      rcases List.mem_append.mp ha with ha | ha
      · exact hG.above a ha
      · rw [List.mem_singleton.mp ha]; exact hSl
    · intro j b hj
      rcases Nat.lt_trichotomy j as.length with h1 | h1 | h1
      · rw [List.getElem?_append_left h1] at hj
        obtain ⟨t3, x3, e2, e3⟩ := hG.pairs j b hj
        have hb := hG.above b (List.mem_of_getElem? hj)
        exact ⟨t3, x3, e2, up b _ (Nat.ne_of_gt hb) (hkp b _ (Nat.ne_of_gt (Nat.lt_trans heS hb)) (Nat.ne_of_gt (Nat.lt_trans hiS hb)) e3)⟩
      · subst h1
        have hb : h.objs.size = b := by simpa using hj
        subst hb
        subst hal
        exact ⟨t, _, Array.getElem?_eq_getElem hlt, up _ _ (Nat.ne_of_gt hSl) ht⟩
      · have hnone : (as ++ [h.objs.size])[j]? = none := List.getElem?_eq_none (by rw [List.length_append, List.length_singleton]; omega)
        rw [hnone] at hj; cases hj
end
section
variable {prog : Program} {w : World} {A : Around} {E : Value → Shared → Prop} {s : Shared} {items : Array Value} {e it l : Addr}
theorem en_extend {R : Result → Shared → Prop} (hh : A.handled = none) (he : IsEnum s.heap e it 0 .none) (hit : s.heap.IsListIter it l 0) (hl : s.heap.IsList l items) (hei : e ≠ it) (hle : l ≠ e) (hli : l ≠ it) (S : Addr) (heS : e < S) (hiS : it < S) (hlS : l ≠ S) (res : Value) (c₀ : Nat) (hS : s.heap.get? S = some { cls := .type "list", data := .seq #[] c₀ })
    (hR : ∀ h' tk acc c as, (∀ b o, b ≠ S → b ≠ e → b ≠ it → s.heap.get? b = some o → h'.get? b = some o) → h'.get? S = some { cls := .type "list", dict := none, data := .seq acc c, slots := #[] } → as.length = items.size → EnG items S h' as →
      acc.toList = as.map Value.ref → R (.ok (.ret res)) { s with heap := h', toks := tk }) (hn : items.size ≤ sizeLine) :
    wpAny (model prog w) A.in1 (Builtin.List.listExtendWith (.ref S) (.ref e) res)
      (fun fin s' => match fin with | .done f => R (.ok f) s' | .again c' => c'.quiet = true ∧ codeAny (model prog w) A c' R s') (fun e s' => R (.error e) s') s := by
  have hT : ∀ (h : Heap) (g : Shared), g.heap = h → IsEnum h e it 0 .none → g.TypeIs (.ref e) "enumerate" := fun h g e1 e2 => by
    subst e1
    exact ⟨_, e2, rfl⟩
  unfold Builtin.List.listExtendWith
  refine wpAny_bind (wpAny_typeOf (T := "enumerate") (hT _ _ rfl he) ?_)
  have h1 : Builtin.List.listSameRef (.ref S) (.ref e) = false := by simp [Builtin.List.listSameRef, Nat.ne_of_gt heS]
  have h2 : (Value.type "enumerate" == Value.type "list") = false := by decide
  have h3 : (Value.type "enumerate" == Value.type "tuple") = false := by decide
  simp only [h1, h2, h3, Bool.or_false, Bool.false_eq_true, if_false]
  refine wpAny_bind (wpAny_pyIter_enum he ?_)
  refine wpAny_bind (wpAny_holding ?_)
  unfold Builtin.List.listLengthHint
  refine wpAny_bind (wpAny_specialOf (hT _ _ rfl he) enum_no_len ?_)
  show wpAny _ _ (specialOf (Value.ref e) (Str.ofString "__length_hint__") >>= _) _ _ _
  refine wpAny_bind (wpAny_specialOf (hT _ _ rfl he) enum_no_hint ?_)
  refine wpAny_pure ?_
  show wpAny _ _ (rule "list.extend.makes-room" >>= fun _ => Builtin.List.listTouch (.ref S) >>= fun _ =>
    again (.builtin "list.extend.loop" ⟨[.ref S, .ref e, res], []⟩)) _ _ _
  refine wpAny_bind (wpAny_rule ?_)
  refine wpAny_bind ?_
  show wpAny _ _ (updateSeq S (·.push .none) >>= fun _ => updateSeq S (·.pop)) _ _ _
  refine wpAny_bind (wpAny_updateSeq hS rfl ?_)
  have hS₂ := Heap.get?_update_self (Obj.mapSeq (·.push Value.none)) hS rfl
  refine wpAny_updateSeq (hz := by seq_fits) hS₂ rfl ?_
  have hS₃ := Heap.get?_update_self (Obj.mapSeq (·.pop)) hS₂ rfl
  have oth : ∀ b o, b ≠ S → s.heap.get? b = some o → ((s.heap.update S (Obj.mapSeq (·.push Value.none))).update S (Obj.mapSeq (·.pop))).get? b = some o :=
    fun b o hb e => (Heap.get?_update_other _ _ (Ne.symm hb)).trans ((Heap.get?_update_other _ _ (Ne.symm hb)).trans e)
  refine wpAny_pure ⟨plainId_quiet PySem.F.plain_extend_loop _, ?_⟩
  exact en_loop (s := s) (h₁ := s.heap) hh hei hle hli heS hiS hlS hn res hR items.size 0 _ _ _ #[] [] (Nat.sub_zero _) (Nat.zero_le _) ⟨.none, .bool false, .none, oth e _ (Nat.ne_of_lt heS) he, Or.inl rfl⟩
    (hit.at fun o z => oth it o (Nat.ne_of_lt hiS) z) (hl.at fun o z => oth l o hlS z) (fun b o hb _ _ z => oth b o hb z) hS₃ rfl rfl ⟨List.Pairwise.nil, (fun _ ha => nomatch ha), (fun j a hj => by simp at hj)⟩
theorem en_call {Q : Value → Shared → Prop} (hh : A.handled = none) (he : IsEnum s.heap e it 0 .none) (hit : s.heap.IsListIter it l 0) (hl : s.heap.IsList l items) (hei : e ≠ it) (hle : l ≠ e) (hli : l ≠ it) (hn : items.size ≤ sizeLine)
    (hQ : ∀ h' tk acc c as, (∀ b o, b ≠ e → b ≠ it → s.heap.get? b = some o → h'.get? b = some o) → h'.get? s.heap.objs.size = some { cls := .type "list", dict := none, data := .seq acc c, slots := #[] } → as.length = items.size → EnG items s.heap.objs.size h' as →
      acc.toList = as.map Value.ref → Q (.ref s.heap.objs.size) { s with heap := h', toks := tk }) :
    wpAny (model prog w) A (call (.type "list") [.ref e]) Q E s := by
  refine callType_codes (Q₁ := fun obj s₁ => obj = .ref s.heap.objs.size ∧ s₁ = { s with heap := s.heap.push { cls := .type "list", data := .seq #[] } }) PySem.F.called_list (PySem.F.typeCall_list_1 _) PySem.F.entry_list_init
    (code_list_new _ ⟨rfl, rfl⟩) fun obj s₁ h₁ => ?_
  obtain ⟨rfl, rfl⟩ := h₁
  have hS : (s.heap.push { cls := .type "list", data := .seq #[] }).get? s.heap.objs.size = some { cls := .type "list", data := .seq #[] } := Heap.get?_push_size _ rfl
  have hel : e < s.heap.objs.size := Heap.lt_size he
  have hil : it < s.heap.objs.size := let ⟨_, z, _⟩ := hit; Heap.lt_size z
  have hll : l < s.heap.objs.size := let ⟨_, z, _⟩ := hl; Heap.lt_size z
  refine ⟨⟨_, hS, rfl⟩, PySem.F.args_list_init_2 _ _, ?_⟩
  show wpAny _ _ (do let old ← Builtin.List.listItems (.ref s.heap.objs.size); Builtin.List.listUpdate (.ref s.heap.objs.size) (fun _ => #[]); letGo old.toList.reverse; Builtin.List.listExtendWith (.ref s.heap.objs.size) (.ref e) .none) _ _ _
  refine wpAny_bind ?_
  unfold Builtin.List.listItems
  refine wpAny_bind (wpAny_seqItems hS rfl (wpAny_pure ?_))
  show wpAny _ _ (updateSeq s.heap.objs.size (fun _ => #[]) >>= fun _ => letGo (#[] : Array Value).toList.reverse >>= fun _ => Builtin.List.listExtendWith (.ref s.heap.objs.size) (.ref e) .none) _ _ _
  refine wpAny_bind (wpAny_updateSeq hS rfl ?_)
  have hS₂ := Heap.get?_update_self (Obj.mapSeq (fun _ => (#[] : Array Value))) hS rfl
  have oth : ∀ b o, s.heap.get? b = some o → ((s.heap.push { cls := .type "list", data := .seq #[] }).update s.heap.objs.size (Obj.mapSeq (fun _ => (#[] : Array Value)))).get? b = some o :=
    fun b o z => (Heap.get?_update_other _ _ (Nat.ne_of_gt (Heap.lt_size z))).trans (Heap.get?_push_of_some _ z)
  refine wpAny_bind (wpAny_letGo ?_)
  refine en_extend (A := A.in1) hh (oth e _ he) (hit.at fun o z => oth it o z) (hl.at fun o z => oth l o z) hei hle hli _ hel hil (Nat.ne_of_lt hll) .none _ hS₂ (fun h' tk acc c as hk hS' hl2 hG hacc => ?_) hn
  exact ⟨rfl, hQ h' tk acc c as (fun b o h1 h2 z => hk b o (Nat.ne_of_lt (Heap.lt_size z)) h1 h2 (oth b o z)) hS' hl2 hG hacc⟩
end
end UrE
namespace UrE
open PySem PySem.Spec PyProof.Rows L2
/-- tuples tracked at their addresses -/
def putG : Hp → List Addr → List (List V) → Hp
  | H, a :: as, c :: cs => putG (upd H a (.tup c)) as cs
  | H, _, _ => H
theorem putG_off {b : Addr} : ∀ (as : List Addr) (cs : List (List V)) (H : Hp), b ∉ as → putG H as cs b = H b
  | [], _, _, _ => rfl
  | _ :: _, [], _, _ => rfl
  | a :: as, c :: cs, H, h => by
    show putG (upd H a (.tup c)) as cs b = H b
    rw [putG_off as cs _ (fun z => h (List.mem_cons_of_mem _ z)), upd_ne (fun z => h (by rw [z]; exact List.mem_cons_self))]
theorem putG_at : ∀ (as : List Addr) (cs : List (List V)) (H : Hp), as.length = cs.length → as.Nodup → ∀ (j : Nat) (a : Addr), as[j]? = some a → ∃ c, cs[j]? = some c ∧ putG H as cs a = some (.tup c)
  | [], _, _, _, _, j, a, h => by simp at h
  | _ :: _, [], _, h, _, _, _, _ => by cases h
  | a :: as, c :: cs, H, h, hn, 0, b, e => by
    have hn' := List.nodup_cons.mp hn
    have e' : a = b := by simpa using e
    subst e'
    refine ⟨c, rfl, ?_⟩
    show putG (upd H a (.tup c)) as cs a = some (.tup c)
    rw [putG_off as cs _ hn'.1, upd_same]
  | a :: as, c :: cs, H, h, hn, j + 1, b, e => by
    have hn' := List.nodup_cons.mp hn
    exact putG_at as cs (upd H a (.tup c)) (Nat.succ.inj h) hn'.2 j b (by simpa using e)
/-- a new list of new tuples -/
def NewPairs (H : Hp) (cs : List (List V)) (p : Addr) (ts : List Addr) (H' : Hp) : Prop :=
  Same H H' ∧ H p = none ∧ (∀ t ∈ ts, H t = none) ∧ p ∉ ts ∧ ts.Nodup ∧ ts.length = cs.length ∧ H' p = some (.lst (ts.map V.ref)) ∧ ∀ (j : Nat) (c : List V), cs[j]? = some c → ∃ t, ts[j]? = some t ∧ H' t = some (.tup c)
theorem refs_vals : ∀ as : List Addr, Vals (as.map V.ref) (as.map Value.ref)
  | [] => .nil
  | _ :: as => .cons rfl (refs_vals as)
section
variable {X : Cx} {e : Expr} {ta : TA} {p p2 cpos pos : Pos}
theorem laid_pairs {pins : List (Addr × Obj)} {σ : L2.St} {H : Hp} {s : Shared} {h' : Heap} {tk : Nat} {cs : List (List V)} {acc : Array Value} {c S : Nat} {as : List Addr} (I : Inv X pins σ H s) (hz : cs.length ≤ sizeLine) (hS0 : s.heap.objs.size ≤ S)
    (hk : ∀ b o, s.heap.get? b = some o → h'.get? b = some o) (hS : h'.get? S = some { cls := .type "list", dict := none, data := .seq acc c, slots := #[] }) (hl : as.length = cs.length) (hr : as.Pairwise (· < ·)) (hab : ∀ a ∈ as, S < a)
    (ht : ∀ (j : Nat) (a : Addr) (c : List V), as[j]? = some a → cs[j]? = some c → c.length ≤ sizeLine ∧ ∃ us, Vals c us ∧ IsTup h' a us.toArray) (hacc : acc.toList = as.map Value.ref) :
    ∃ H' : Hp, NewPairs H cs S as H' ∧ Inv X pins σ H' { s with heap := h', toks := tk } := by
  have hSn : S ∉ as := fun z => Nat.lt_irrefl _ (hab _ z)
  have nd : as.Nodup := List.Pairwise.imp (fun {a b} (h : a < b) => Nat.ne_of_lt h) hr
  have new : ∀ t ∈ as, H t = none := fun t ht => I.hok.fresh (Nat.le_of_lt (Nat.lt_of_le_of_lt hS0 (hab t ht)))
  have newS : H S = none := I.hok.fresh hS0
  have atP := putG_at as cs (upd H S (.lst (as.map V.ref))) hl nd
  have off : ∀ b, b ∉ as → b ≠ S → putG (upd H S (.lst (as.map V.ref))) as cs b = H b := fun b h1 h2 => by rw [putG_off as cs _ h1, upd_ne h2]
  have low : ∀ b o, s.heap.get? b = some o → b ∉ as ∧ b ≠ S := fun b o e => ⟨fun z => absurd (Heap.lt_size e) (Nat.not_lt.mpr (Nat.le_of_lt (Nat.lt_of_le_of_lt hS0 (hab b z)))), Nat.ne_of_lt (Nat.lt_of_lt_of_le (Heap.lt_size e) hS0)⟩
  have kp : ∀ b u, H b = some u → (putG (upd H S (.lst (as.map V.ref))) as cs) b = some u := fun b u e => by
    rw [off b (fun z => by rw [new b z] at e; cases e) (fun z => by rw [z, newS] at e; cases e)]
    exact e
  have eS : putG (upd H S (.lst (as.map V.ref))) as cs S = some (.lst (as.map V.ref)) := by rw [putG_off as cs _ hSn, upd_same]
  refine ⟨putG (upd H S (.lst (as.map V.ref))) as cs, ⟨kp, newS, new, hSn, nd, hl, eS, fun j c hc => ?_⟩, ?_⟩
  · have hj : j < as.length := by rw [hl]; exact (List.getElem?_eq_some_iff.mp hc).1
    obtain ⟨c', h1, h2⟩ := atP j as[j] (List.getElem?_eq_getElem hj)
    rw [hc] at h1
    cases h1
    exact ⟨as[j], List.getElem?_eq_getElem hj, h2⟩
  refine I.call' (ch := []) rfl ⟨fun b o q _ _ _ => hk b o q, fun b o q _ _ _ => ⟨o.slots, hk b o q⟩, fun b o q n _ => ?_, fun b o q _ => ⟨o, hk b o q⟩, fun b xs q => kp b _ q, fun b o u q => kp b _ q, fun b ps q => ⟨#[], by rw [kp b _ q]; simp⟩⟩ (fun b u q => ?_) I.bare fun b z => by simp at z
  · obtain ⟨z1, z2⟩ := low b o q
    rw [off b z1 z2]
    exact n
  · by_cases hb : b ∈ as
    · obtain ⟨j, e1⟩ := List.mem_iff_getElem?.mp hb
      obtain ⟨c', e2, e3⟩ := atP j b e1
      rw [e3] at q
      cases q
      obtain ⟨z, us, r, tt⟩ := ht j b c' e1 e2
      exact ⟨z, us, r, tt⟩
    · by_cases hb2 : b = S
      · rw [hb2] at q ⊢
        rw [eS] at q
        cases q
        refine ⟨by rw [List.length_map]; omega, acc.toList, c, by rw [hacc]; exact refs_vals as, ?_⟩
        rw [Array.toArray_toList]
        exact hS
      · rw [off b hb hb2] at q
        exact (I.hok b u q).stay (fun d v _ y => hk d v y) (fun d y => kp d _ y) fun d xs y => kp d _ y
/-- the pairs (i, x) of a list -/
def enumC (xs : List V) : List (List V) := xs.zipIdx.map fun p => [.int (p.2 : Nat), p.1]
theorem enumC_len (xs : List V) : (enumC xs).length = xs.length := by simp [enumC]
theorem enumC_get {xs : List V} {j : Nat} : (enumC xs)[j]? = (xs[j]?).map fun x => [.int (j : Nat), x] := by
  unfold enumC
  rw [List.getElem?_map, List.getElem?_zipIdx]
  cases xs[j]? with
  | none => rfl
  | some x => simp
def tListEnum (K : PySem.W.Frag) (ta : TA) : TE := fun σ H Q => ta σ H fun vs H1 => ∃ a xs, vs = [.ref a] ∧ SqL K H1 a xs ∧ ∀ p ts H', NewPairs H1 (enumC xs) p ts H' → Q (.ref p) H'
theorem pe_list_enum (hc : X.calm = true) (hm : X.mg "list" = none) (hm2 : X.mg "enumerate" = none) (hg2 : Gl X "enumerate") (ha : PA X [e] ta) (hg : Gl X "list" := by rfl) (hs : starEach [e] X.env = [(false, eval e X.env)] := by rfl)
    (hs2 : starEach [.Call (.Name "enumerate" p2) [e] [] cpos] X.env = (false, eval (.Call (.Name "enumerate" p2) [e] [] cpos) X.env) :: starEach [] X.env := by rfl) :
    PE X (.Call (.Name "list" p) [.Call (.Name "enumerate" p2) [e] [] cpos] [] pos) (tListEnum X.K ta) := by
  refine ⟨fun pins s σ H Q I h => ?_⟩
  refine wpAny_Call_Name_kw (ld_blt I hg hm (by decide +kernel : bootBuiltins "list" = some (.type "list")) ?_)
  refine PyProof.Rows.callWith_type1 ?_ hs2 rfl
  rw [hs2]
  show wpAny _ _ (spliced ((false, eval (.Call (.Name "enumerate" p2) [e] [] cpos) X.env) :: backTo pos (starEach [] X.env))) _ _ s
  refine Calls.spliced_cons ?_
  refine Call_ (ld_blt I hg2 hm2 boot_enumerate (PyProof.Rows.callWith_type1 (thn (ha.run cpos pins s σ H _ I h) fun us s1 ⟨vs, H1, I1, r1, q1⟩ => ?_) hs rfl))
  obtain ⟨a, xs, ex, hq, q⟩ := q1
  subst ex
  cases r1 with
  | cons r rr =>
    cases rr
    cases r
    obtain ⟨its, rv, p', hz⟩ := I1.list hq
    refine call_enumerate_list p'.isList fun h' he hit hsz hk => ?_
    refine Calls.spliced_nil ?_
    have hla : a < s1.heap.objs.size := let ⟨_, z, _⟩ := p'.isList; Heap.lt_size z
    have hL' : h'.IsList a its.toArray := p'.isList.at fun o z => hk a o z
    have hlen : its.length = xs.length := (Vals.length rv).symm
    refine en_call (s := { s1 with heap := h' }) (I1.ok.hd hc) he hit hL' (Nat.succ_ne_self _) (Nat.ne_of_lt (Nat.lt_succ_of_lt hla)) (Nat.ne_of_lt hla) (by rw [List.size_toArray, hlen]; exact hz) fun h2 tk acc c as hk2 hS hl hG hacc => ?_
    have hsz' : h'.objs.size = s1.heap.objs.size + 2 := hsz
    obtain ⟨H', N, J⟩ := laid_pairs (I := I1) (h' := h2) (tk := tk) (cs := enumC xs) (acc := acc) (c := c) (S := h'.objs.size) (as := as) (by rw [enumC_len]; exact hz) (by omega)
      (fun b o z => hk2 b o (Nat.ne_of_lt (Nat.lt_succ_of_lt (Heap.lt_size z))) (Nat.ne_of_lt (Heap.lt_size z)) (hk b o z)) hS (by rw [hl, enumC_len, List.size_toArray, hlen]) hG.rise hG.above
      (fun j b c e1 e2 => by
        rw [enumC_get] at e2
        cases hx : xs[j]? with
        | none => rw [hx] at e2; cases e2
        | some x =>
          rw [hx] at e2
          have e3 : [V.int (j : Nat), x] = c := by simpa using e2
          subst e3
          obtain ⟨t, y, f1, f2⟩ := hG.pairs j b e1
          obtain ⟨u, g1, g2⟩ := rv.get hx
          have f1' : its[j]? = some y := by simpa using f1
          rw [f1'] at g1
          cases g1
          exact ⟨by show 2 ≤ sizeLine; decide, [.int j t, y], .cons ⟨t, rfl⟩ (.cons g2 .nil), ⟨_, f2, rfl, _, rfl⟩⟩) hacc
    exact ⟨.ref _, H', J, rfl, q _ as H' N⟩
end
end UrE

namespace Ur
open PySem L2

/-! ### frames -/
/-- all that was tracked stands as it was but at a -/
def But (a : Addr) (H H' : Hp) : Prop := ∀ b o, b ≠ a → H b = some o → H' b = some o
theorem same_get {H H' : Hp} {b : Addr} {o : HO} (s : Same H H') (h : H b = some o) : H' b = some o := s b o h
theorem but_get {H H' : Hp} {a b : Addr} {o : HO} (s : But a H H') (n : b ≠ a) (h : H b = some o) : H' b = some o := s b o n h
theorem ne_new {H : Hp} {a b : Addr} {o : HO} (h' : H b = none) (h : H a = some o) : a ≠ b := ne_of_none h h'
theorem at_nat {α : Type} {xs : List α} {j : Nat} {v : α} (h : xs[j]? = some v) : atI xs (j : Int) = some v := atI_nat h
theorem dead_upd {H : Hp} {a : Addr} {o u : HO} (h : upd H a o a = some u) : upd H a o a = some u := h
theorem dead_ne {a : Addr} (h : a ≠ a) : a ≠ a := h
theorem sz {n : Nat} (h : n ≤ 1000000) : n ≤ sizeLine := Nat.le_trans h (by decide)
theorem szl {n : Nat} (h : n < 1000000) : n < sizeLine := Nat.lt_of_lt_of_le h (by decide)
theorem ne_new' {H : Hp} {a b : Addr} {o : HO} (h' : H a = none) (h : H b = some o) : a ≠ b := fun e => ne_of_none h h' e.symm
theorem get_upd {H : Hp} {a b : Addr} {o u : HO} (n : b ≠ a) (h : H b = some u) : upd H a o b = some u := (upd_ne n).trans h
theorem b01 (b : Bool) : 0 ≤ (if b = true then (1 : Int) else 0) ∧ (if b = true then (1 : Int) else 0) ≤ 1 := by cases b <;> decide
/-! ### frames, for the search -/
theorem same_snoc {H0 H : Hp} {p : Addr} {o : HO} (n : H p = none) (s : Same H0 H) : Same H0 (upd H p o) := fun b u e => by
  have e' := s b u e
  rw [upd_ne (ne_of_none e' n)]
  exact e'
theorem same_upd' {H0 H : Hp} {p : Addr} {o : HO} (n : H0 p = none) (s : Same H0 H) : Same H0 (upd H p o) := fun b u e => by
  rw [upd_ne (ne_of_none e n)]
  exact s b u e
theorem same_step {H0 H1 H2 : Hp} (s2 : Same H1 H2) (s1 : Same H0 H1) : Same H0 H2 := s1.trans s2
theorem same_pairs {H0 H1 H2 : Hp} {cs : List (List V)} {p : Addr} {ts : List Addr} (n : UrE.NewPairs H1 cs p ts H2) (s1 : Same H0 H1) : Same H0 H2 := s1.trans n.1
theorem same_but {H0 H1 H2 : Hp} {a : Addr} (b : But a H1 H2) (n : H0 a = none) (s : Same H0 H1) : Same H0 H2 := fun x o e =>
  b x o (fun k => by rw [k, n] at e; cases e) (s x o e)
theorem adv0 {H H1 : Hp} {b : Addr} {o : HO} (s : Same H H1) (h : H b = some o) : H1 b = some o ∧ (∀ p, H p = none → b ≠ p) ∧ ∀ p, H p = none → b ≠ p := ⟨s _ _ h, fun _ k => ne_new k h, fun _ k => ne_new k h⟩
theorem adv1 {H H1 : Hp} {a0 : Addr} {o0 : HO} {b : Addr} {o : HO} (s : Same (upd H a0 o0) H1) (n0 : b ≠ a0) (h : H b = some o) : H1 b = some o ∧ (∀ p, (upd H a0 o0) p = none → b ≠ p) ∧ ∀ p, H p = none → b ≠ p := ⟨s _ _ (get_upd n0 h), fun _ k => ne_new k (get_upd n0 h), fun _ k => ne_new k h⟩
theorem adv2 {H H1 : Hp} {a0 : Addr} {o0 : HO} {a1 : Addr} {o1 : HO} {b : Addr} {o : HO} (s : Same (upd (upd H a0 o0) a1 o1) H1) (n0 : b ≠ a0) (n1 : b ≠ a1) (h : H b = some o) : H1 b = some o ∧ (∀ p, (upd (upd H a0 o0) a1 o1) p = none → b ≠ p) ∧ ∀ p, H p = none → b ≠ p := ⟨s _ _ (get_upd n1 (get_upd n0 h)), fun _ k => ne_new k (get_upd n1 (get_upd n0 h)), fun _ k => ne_new k h⟩
theorem adv3 {H H1 : Hp} {a0 : Addr} {o0 : HO} {a1 : Addr} {o1 : HO} {a2 : Addr} {o2 : HO} {b : Addr} {o : HO} (s : Same (upd (upd (upd H a0 o0) a1 o1) a2 o2) H1) (n0 : b ≠ a0) (n1 : b ≠ a1) (n2 : b ≠ a2) (h : H b = some o) : H1 b = some o ∧ (∀ p, (upd (upd (upd H a0 o0) a1 o1) a2 o2) p = none → b ≠ p) ∧ ∀ p, H p = none → b ≠ p := ⟨s _ _ (get_upd n2 (get_upd n1 (get_upd n0 h))), fun _ k => ne_new k (get_upd n2 (get_upd n1 (get_upd n0 h))), fun _ k => ne_new k h⟩
theorem adv4 {H H1 : Hp} {a0 : Addr} {o0 : HO} {a1 : Addr} {o1 : HO} {a2 : Addr} {o2 : HO} {a3 : Addr} {o3 : HO} {b : Addr} {o : HO} (s : Same (upd (upd (upd (upd H a0 o0) a1 o1) a2 o2) a3 o3) H1) (n0 : b ≠ a0) (n1 : b ≠ a1) (n2 : b ≠ a2) (n3 : b ≠ a3) (h : H b = some o) : H1 b = some o ∧ (∀ p, (upd (upd (upd (upd H a0 o0) a1 o1) a2 o2) a3 o3) p = none → b ≠ p) ∧ ∀ p, H p = none → b ≠ p := ⟨s _ _ (get_upd n3 (get_upd n2 (get_upd n1 (get_upd n0 h)))), fun _ k => ne_new k (get_upd n3 (get_upd n2 (get_upd n1 (get_upd n0 h)))), fun _ k => ne_new k h⟩
theorem adv5 {H H1 : Hp} {a0 : Addr} {o0 : HO} {a1 : Addr} {o1 : HO} {a2 : Addr} {o2 : HO} {a3 : Addr} {o3 : HO} {a4 : Addr} {o4 : HO} {b : Addr} {o : HO} (s : Same (upd (upd (upd (upd (upd H a0 o0) a1 o1) a2 o2) a3 o3) a4 o4) H1) (n0 : b ≠ a0) (n1 : b ≠ a1) (n2 : b ≠ a2) (n3 : b ≠ a3) (n4 : b ≠ a4) (h : H b = some o) : H1 b = some o ∧ (∀ p, (upd (upd (upd (upd (upd H a0 o0) a1 o1) a2 o2) a3 o3) a4 o4) p = none → b ≠ p) ∧ ∀ p, H p = none → b ≠ p := ⟨s _ _ (get_upd n4 (get_upd n3 (get_upd n2 (get_upd n1 (get_upd n0 h))))), fun _ k => ne_new k (get_upd n4 (get_upd n3 (get_upd n2 (get_upd n1 (get_upd n0 h))))), fun _ k => ne_new k h⟩
theorem adv6 {H H1 : Hp} {a0 : Addr} {o0 : HO} {a1 : Addr} {o1 : HO} {a2 : Addr} {o2 : HO} {a3 : Addr} {o3 : HO} {a4 : Addr} {o4 : HO} {a5 : Addr} {o5 : HO} {b : Addr} {o : HO} (s : Same (upd (upd (upd (upd (upd (upd H a0 o0) a1 o1) a2 o2) a3 o3) a4 o4) a5 o5) H1) (n0 : b ≠ a0) (n1 : b ≠ a1) (n2 : b ≠ a2) (n3 : b ≠ a3) (n4 : b ≠ a4) (n5 : b ≠ a5) (h : H b = some o) : H1 b = some o ∧ (∀ p, (upd (upd (upd (upd (upd (upd H a0 o0) a1 o1) a2 o2) a3 o3) a4 o4) a5 o5) p = none → b ≠ p) ∧ ∀ p, H p = none → b ≠ p := ⟨s _ _ (get_upd n5 (get_upd n4 (get_upd n3 (get_upd n2 (get_upd n1 (get_upd n0 h)))))), fun _ k => ne_new k (get_upd n5 (get_upd n4 (get_upd n3 (get_upd n2 (get_upd n1 (get_upd n0 h)))))), fun _ k => ne_new k h⟩
theorem adv7 {H H1 : Hp} {a0 : Addr} {o0 : HO} {a1 : Addr} {o1 : HO} {a2 : Addr} {o2 : HO} {a3 : Addr} {o3 : HO} {a4 : Addr} {o4 : HO} {a5 : Addr} {o5 : HO} {a6 : Addr} {o6 : HO} {b : Addr} {o : HO} (s : Same (upd (upd (upd (upd (upd (upd (upd H a0 o0) a1 o1) a2 o2) a3 o3) a4 o4) a5 o5) a6 o6) H1) (n0 : b ≠ a0) (n1 : b ≠ a1) (n2 : b ≠ a2) (n3 : b ≠ a3) (n4 : b ≠ a4) (n5 : b ≠ a5) (n6 : b ≠ a6) (h : H b = some o) : H1 b = some o ∧ (∀ p, (upd (upd (upd (upd (upd (upd (upd H a0 o0) a1 o1) a2 o2) a3 o3) a4 o4) a5 o5) a6 o6) p = none → b ≠ p) ∧ ∀ p, H p = none → b ≠ p := ⟨s _ _ (get_upd n6 (get_upd n5 (get_upd n4 (get_upd n3 (get_upd n2 (get_upd n1 (get_upd n0 h))))))), fun _ k => ne_new k (get_upd n6 (get_upd n5 (get_upd n4 (get_upd n3 (get_upd n2 (get_upd n1 (get_upd n0 h))))))), fun _ k => ne_new k h⟩
theorem same_free {H0 H : Hp} {p : Addr} (n : H p = none) (s : Same H0 H) : H0 p = none := s.free n
theorem but_refl {a : Addr} {H : Hp} : But a H H := fun _ _ _ e => e
theorem but_at {a : Addr} {H0 H : Hp} {o : HO} (s : But a H0 H) : But a H0 (upd H a o) := fun b u n e => by
  rw [upd_ne n]
  exact s b u n e
theorem but_snoc {a : Addr} {H0 H : Hp} {p : Addr} {o : HO} (n : H p = none) (s : But a H0 H) : But a H0 (upd H p o) := fun b u nb e => by
  have e' := s b u nb e
  rw [upd_ne (ne_of_none e' n)]
  exact e'
theorem but_upd {a : Addr} {H0 H : Hp} {p : Addr} {o : HO} (n : H0 p = none) (s : But a H0 H) : But a H0 (upd H p o) := fun b u nb e => by
  rw [upd_ne (ne_of_none e n)]
  exact s b u nb e
theorem but_step {a : Addr} {H0 H1 H2 : Hp} (s2 : But a H1 H2) (s1 : But a H0 H1) : But a H0 H2 := fun b u n e => s2 b u n (s1 b u n e)
theorem but_step' {a : Addr} {H0 H1 H2 : Hp} (s2 : Same H1 H2) (s1 : But a H0 H1) : But a H0 H2 := fun b u n e => s2 b u (s1 b u n e)
theorem but_free {a : Addr} {H0 H1 : Hp} {p : Addr} {o : HO} (h : H1 p = none) (x : But a H0 H1) (ha : H1 a = some o) : H0 p = none := by
  by_cases e : p = a
  · rw [e, ha] at h; cases h
  · cases q : H0 p with
    | none => rfl
    | some u => rw [x p u e q] at h; cases h
/-- a word that the search does not open -/
structure Iv (P : Prop) : Prop where
  out : P
/-! ### a loop's invariant is asked here -/
theorem isW1 {P : (Nat → Nat → Hp → Prop) → Prop} (h : ∃ W, P W) : ∃ W, P W := h
theorem isW2 {P : (Nat → Nat → L2.St → Hp → Prop) → Prop} (h : ∃ W, P W) : ∃ W, P W := h
theorem isW3 {P : (Nat → L2.St → Hp → Prop) → Prop} (h : ∃ W, P W) : ∃ W, P W := h
theorem isW4 {P : (L2.St → Hp → Prop) → Prop} (h : ∃ W, P W) : ∃ W, P W := h
/-! ### branches -/
theorem br {c : Prop} [Decidable c] {A B : Prop} (h1 : c → A) (h2 : ¬ c → B) : if decide c = true then A else B := by
  by_cases h : c
  · rw [if_pos (decide_eq_true h)]
    exact h1 h
  · rw [if_neg (by rw [decide_eq_false h]; exact Bool.false_ne_true)]
    exact h2 h
theorem brn {c : Prop} [Decidable c] {A B : Prop} (h1 : ¬ c → A) (h2 : c → B) : if (!decide c) = true then A else B := by
  by_cases h : c
  · rw [if_neg (by rw [decide_eq_true h]; decide)]
    exact h2 h
  · rw [if_pos (by rw [decide_eq_false h]; decide)]
    exact h1 h
theorem bri {i j : Int} {A B : Prop} (h1 : i = j → A) (h2 : ¬ i = j → B) : if decide (V.int i = V.int j) = true then A else B :=
  br (fun h => h1 (V.int.inj h)) (fun h => h2 fun e => h (by rw [e]))
theorem brni {i j : Int} {A B : Prop} (h1 : ¬ i = j → A) (h2 : i = j → B) : if (!decide (V.int i = V.int j)) = true then A else B :=
  brn (fun h => h1 fun e => h (by rw [e])) (fun h => h2 (V.int.inj h))
theorem brb {b : Bool} {A B : Prop} (h1 : b = true → A) (h2 : b = false → B) : if b = true then A else B := by
  cases b with
  | true => exact (if_pos rfl).mpr (h1 rfl)
  | false => exact (if_neg Bool.false_ne_true).mpr (h2 rfl)
/-! ### branches that are known -/
theorem brT {c : Prop} [Decidable c] {A B : Prop} (h : c) (a : A) : if decide c = true then A else B := by rw [if_pos (decide_eq_true h)]; exact a
theorem brF {c : Prop} [Decidable c] {A B : Prop} (h : ¬ c) (b : B) : if decide c = true then A else B := by rw [if_neg (by rw [decide_eq_false h]; exact Bool.false_ne_true)]; exact b
theorem brnT {c : Prop} [Decidable c] {A B : Prop} (h : c) (b : B) : if (!decide c) = true then A else B := by rw [if_neg (by rw [decide_eq_true h]; decide)]; exact b
theorem brnF {c : Prop} [Decidable c] {A B : Prop} (h : ¬ c) (a : A) : if (!decide c) = true then A else B := by rw [if_pos (by rw [decide_eq_false h]; decide)]; exact a
theorem noN {A B : Prop} {i : Int} (b : B) : if decide (V.int i = V.non) = true then A else B := by rw [if_neg (by rw [decide_eq_false (by intro e; cases e)]; exact Bool.false_ne_true)]; exact b
theorem noNn {A B : Prop} {i : Int} (a : A) : if (!decide (V.int i = V.non)) = true then A else B := by rw [if_pos (by rw [decide_eq_false (by intro e; cases e)]; decide)]; exact a
end Ur

namespace Ur
open PySem L2
/-! ### lists of ints: ==, slices, loops -/
/-- the list of ints as values -/
abbrev iv (ns : List Int) : List V := ns.map V.int
theorem dpAll_ints {K : PySem.W.Frag} {H : Hp} : ∀ ns : List Int, DpAll K H (ns.map V.int) (ns.map PyData.int)
  | [] => .nil
  | n :: ns => .cons (.int n) (dpAll_ints ns)
theorem dp_ints {K : PySem.W.Frag} {H : Hp} {a : Addr} {ns : List Int} (h : SqL K H a (ns.map V.int)) : Dp K H (.ref a) (.list (ns.map PyData.int)) := .lst h (dpAll_ints ns)
theorem canLayAll_ints : ∀ ns : List Int, PyData.canLayAll0 (ns.map PyData.int) = true
  | [] => rfl
  | n :: ns => by
    show (PyData.canLay0 (.int n) && PyData.canLayAll0 (ns.map PyData.int)) = true
    rw [canLayAll_ints ns]
    rfl
theorem depthAll_ints : ∀ ns : List Int, PyData.depthAll (ns.map PyData.int) ≤ 1
  | [] => by decide
  | n :: ns => by
    have h := depthAll_ints ns
    rw [List.map_cons, PyData.depthAll]
    exact Nat.max_le.mpr ⟨by simp [PyData.depth], h⟩
theorem depth_ints (ns : List Int) : PyData.depth (.list (ns.map PyData.int)) ≤ 2 := by
  have h := depthAll_ints ns
  rw [PyData.depth]
  omega
theorem shaped_of {d : PyData} (c : PyData.canLay0 d = true) (h : PyData.depth d ≤ 64) : SeqAt.shaped d = true := by
  unfold SeqAt.shaped
  rw [c, decide_eq_true h]
  rfl
theorem shaped_ints (ns : List Int) : SeqAt.shaped (.list (ns.map PyData.int)) = true := shaped_of (canLayAll_ints ns) (Nat.le_trans (depth_ints ns) (by decide))
theorem eqvAll_ints : ∀ ns ms : List Int, PyData.eqvAll (ns.map PyData.int) (ms.map PyData.int) = decide (ns = ms)
  | [], [] => rfl
  | [], _ :: _ => rfl
  | _ :: _, [] => rfl
  | n :: ns, m :: ms => by
    show (PyData.eqv (.int n) (.int m) && PyData.eqvAll (ns.map PyData.int) (ms.map PyData.int)) = decide (n :: ns = m :: ms)
    rw [eqvAll_ints ns ms]
    show ((n == m) && decide (ns = ms)) = decide (n :: ns = m :: ms)
    by_cases h : n = m <;> by_cases h2 : ns = ms <;> simp [h, h2]
theorem eqv_ints (ns ms : List Int) : PyData.eqv (.list (ns.map PyData.int)) (.list (ms.map PyData.int)) = decide (ns = ms) := eqvAll_ints ns ms
theorem rEq_ints {K : PySem.W.Frag} {H : Hp} {a b : Addr} {ns ms : List Int} {Q : VK} (h1 : SqL K H a (ns.map V.int)) (h2 : SqL K H b (ms.map V.int)) (q : Q (.bl (decide (ns = ms))) H) : rEqD K (.ref a) (.ref b) H Q :=
  ⟨_, _, dp_ints h1, dp_ints h2, shaped_ints ns, shaped_ints ms, by rw [eqv_ints]; exact q⟩
theorem rNe_ints {K : PySem.W.Frag} {H : Hp} {a b : Addr} {ns ms : List Int} {Q : VK} (h1 : SqL K H a (ns.map V.int)) (h2 : SqL K H b (ms.map V.int)) (q : Q (.bl (!decide (ns = ms))) H) : rNeD K (.ref a) (.ref b) H Q :=
  ⟨_, _, dp_ints h1, dp_ints h2, shaped_ints ns, shaped_ints ms, by rw [eqv_ints]; exact q⟩
theorem SqL.nil_of {K : PySem.W.Frag} {H : Hp} {a : Addr} (h : SqL K H a []) : SqL K H a (([] : List Int).map V.int) := h

theorem iv_get {ns : List Int} {i : Nat} {x : V} (h : (ns.map V.int)[i]? = some x) : ∃ n, ns[i]? = some n ∧ x = .int n := by
  rw [List.getElem?_map] at h
  cases e : ns[i]? with
  | none => rw [e] at h; cases h
  | some n => rw [e] at h; exact ⟨n, rfl, (Option.some.inj h).symm⟩
theorem iv_get' {ns : List Int} {i : Nat} {n : Int} (h : ns[i]? = some n) : (ns.map V.int)[i]? = some (.int n) := by rw [List.getElem?_map, h]; rfl
theorem at_int {ns : List Int} {j : Nat} {n : Int} (h : ns[j]? = some n) : atI (ns.map V.int) (j : Int) = some (.int n) := atI_nat (iv_get' h)
/-- an item at an int place -/
theorem at_int' {ns : List Int} {i : Int} (h0 : 0 ≤ i) (h1 : i < ns.length) : atI (ns.map V.int) i = some (.int (ns.getD i.toNat 0)) := by
  have hj : i.toNat < ns.length := by omega
  have e : i = ((i.toNat : Nat) : Int) := by omega
  have e2 : ns[i.toNat]? = some (ns.getD i.toNat 0) := by rw [List.getD_eq_getElem?_getD, List.getElem?_eq_getElem hj]; rfl
  rw [e]
  exact at_int (by rw [Int.toNat_natCast]; exact e2)
theorem at2 {x y i : Int} (h0 : 0 ≤ i) (h1 : i < 2) : atI [V.int x, V.int y] i = some (.int ([x, y].getD i.toNat 0)) := at_int' (ns := [x, y]) h0 h1
theorem at3 {x y z i : Int} (h0 : 0 ≤ i) (h1 : i < 3) : atI [V.int x, V.int y, V.int z] i = some (.int ([x, y, z].getD i.toNat 0)) := at_int' (ns := [x, y, z]) h0 h1
theorem at4 {x y z w i : Int} (h0 : 0 ≤ i) (h1 : i < 4) : atI [V.int x, V.int y, V.int z, V.int w] i = some (.int ([x, y, z, w].getD i.toNat 0)) := at_int' (ns := [x, y, z, w]) h0 h1
theorem at6 {x y z w u v i : Int} (h0 : 0 ≤ i) (h1 : i < 6) : atI [V.int x, V.int y, V.int z, V.int w, V.int u, V.int v] i = some (.int ([x, y, z, w, u, v].getD i.toNat 0)) := at_int' (ns := [x, y, z, w, u, v]) h0 h1
theorem getD4 {x y z w i lo hi : Int} (h0 : 0 ≤ i) (h1 : i < 4) (hx : lo ≤ x ∧ x ≤ hi) (hy : lo ≤ y ∧ y ≤ hi) (hz : lo ≤ z ∧ z ≤ hi) (hw : lo ≤ w ∧ w ≤ hi) : lo ≤ [x, y, z, w].getD i.toNat 0 ∧ [x, y, z, w].getD i.toNat 0 ≤ hi := by
  have h : i = 0 ∨ i = 1 ∨ i = 2 ∨ i = 3 := by omega
  rcases h with rfl | rfl | rfl | rfl
  · exact hx
  · exact hy
  · exact hz
  · exact hw
theorem getD2 {x y i lo hi : Int} (h0 : 0 ≤ i) (h1 : i < 2) (hx : lo ≤ x ∧ x ≤ hi) (hy : lo ≤ y ∧ y ≤ hi) : lo ≤ [x, y].getD i.toNat 0 ∧ [x, y].getD i.toNat 0 ≤ hi := by
  have h : i = 0 ∨ i = 1 := by omega
  rcases h with rfl | rfl
  · exact hx
  · exact hy
theorem getD3 {x y z i lo hi : Int} (h0 : 0 ≤ i) (h1 : i < 3) (hx : lo ≤ x ∧ x ≤ hi) (hy : lo ≤ y ∧ y ≤ hi) (hz : lo ≤ z ∧ z ≤ hi) : lo ≤ [x, y, z].getD i.toNat 0 ∧ [x, y, z].getD i.toNat 0 ≤ hi := by
  have h : i = 0 ∨ i = 1 ∨ i = 2 := by omega
  rcases h with e | e | e <;> subst e
  · exact hx
  · exact hy
  · exact hz
theorem getD6 {x y z w u v i lo hi : Int} (h0 : 0 ≤ i) (h1 : i < 6) (hx : lo ≤ x ∧ x ≤ hi) (hy : lo ≤ y ∧ y ≤ hi) (hz : lo ≤ z ∧ z ≤ hi) (hw : lo ≤ w ∧ w ≤ hi) (hu : lo ≤ u ∧ u ≤ hi) (hv : lo ≤ v ∧ v ≤ hi) : lo ≤ [x, y, z, w, u, v].getD i.toNat 0 ∧ [x, y, z, w, u, v].getD i.toNat 0 ≤ hi := by
  have h : i = 0 ∨ i = 1 ∨ i = 2 ∨ i = 3 ∨ i = 4 ∨ i = 5 := by omega
  rcases h with e | e | e | e | e | e <;> subst e
  · exact hx
  · exact hy
  · exact hz
  · exact hw
  · exact hu
  · exact hv
theorem ixN_of {n : Nat} {i : Int} (h0 : 0 ≤ i) (h1 : i < n) : ixN n i = some i.toNat := by
  unfold ixN
  rw [if_pos h0, if_pos h1]

theorem ixN_iv {ns : List Int} {i : Int} (h0 : 0 ≤ i) (h1 : i < ns.length) : ixN (ns.map V.int).length i = some i.toNat := by
  rw [List.length_map]
  unfold ixN
  rw [if_pos h0, if_pos h1]
theorem upd_snoc {H : Hp} {a : Addr} {ns : List Int} {v : Int} : upd H a (.lst (ns.map V.int ++ [V.int v])) a = some (.lst ((ns ++ [v]).map V.int)) := by
  rw [upd_same, List.map_append]
  rfl
theorem upd_set {H : Hp} {a : Addr} {ns : List Int} {j : Nat} {v : Int} : upd H a (.lst ((ns.map V.int).set j (V.int v))) a = some (.lst ((ns.set j v).map V.int)) := by
  rw [upd_same, List.map_set]
/-- .. against a list without items -/
theorem rEq_intsN {K : PySem.W.Frag} {H : Hp} {a b : Addr} {ns : List Int} {Q : VK} (h1 : SqL K H a (ns.map V.int)) (h2 : SqL K H b []) (q : Q (.bl (decide (ns = []))) H) : rEqD K (.ref a) (.ref b) H Q :=
  rEq_ints (ms := []) h1 h2 q
theorem rNe_intsN {K : PySem.W.Frag} {H : Hp} {a b : Addr} {ns : List Int} {Q : VK} (h1 : SqL K H a (ns.map V.int)) (h2 : SqL K H b []) (q : Q (.bl (!decide (ns = []))) H) : rNeD K (.ref a) (.ref b) H Q :=
  rNe_ints (ms := []) h1 h2 q
/-! ### built-ins of one argument, of two -/
def tB1 (r : List V → Hp → VK → Prop) (te : TE) : TE := fun σ H Q => te σ H fun x H1 => r [x] H1 Q
def tB2 (r : List V → Hp → VK → Prop) (ta tb : TE) : TE := fun σ H Q => ta σ H fun x H1 => tb σ H1 fun y H2 => r [x, y] H2 Q
section
variable {X : Cx} {x : Str} {id T : String} {e f : Expr} {te tf : TE} {r : List V → Hp → VK → Prop} {p pos : Pos}
theorem pe_b1 (hc : CallR X (.builtin id) r) (hg : Gl X x) (hm : X.mg x = none) (hv : bootBuiltins x = some (.builtin id)) (ha : PE X e te) (hn : x ≠ "__name__" := by decide) (hdb : (x == ("__debug__" : Str)) = false := by decide)
    (he : starEach [e] X.env = (false, eval e X.env) :: starEach [] X.env := by rfl) : PE X (.Call (.Name x p) [e] [] pos) (tB1 r te) := pe_callB hc hg hm hv (pa_cons ha pa_nil he) hn hdb he rfl
theorem pe_b2 (hc : CallR X (.builtin id) r) (hg : Gl X x) (hm : X.mg x = none) (hv : bootBuiltins x = some (.builtin id)) (ha : PE X e te) (hb : PE X f tf) (hn : x ≠ "__name__" := by decide) (hdb : (x == ("__debug__" : Str)) = false := by decide)
    (he : starEach [e, f] X.env = (false, eval e X.env) :: starEach [f] X.env := by rfl) (hf : starEach [f] X.env = (false, eval f X.env) :: starEach [] X.env := by rfl) (hpl : (backTo pos (starEach [f] X.env)).any (·.1) = false := by rfl) :
    PE X (.Call (.Name x p) [e, f] [] pos) (tB2 r te tf) := pe_callB hc hg hm hv (pa_cons ha (pa_cons hb pa_nil hf) he) hn hdb he hpl
theorem pe_t1 (hc : CallR X (.type T) r) (hg : Gl X x) (hm : X.mg x = none) (hv : bootBuiltins x = some (.type T)) (ha : PE X e te) (hn : x ≠ "__name__" := by decide) (hdb : (x == ("__debug__" : Str)) = false := by decide)
    (he : starEach [e] X.env = (false, eval e X.env) :: starEach [] X.env := by rfl) : PE X (.Call (.Name x p) [e] [] pos) (tB1 r te) := pe_callTy hc hg hm hv (pa_cons ha pa_nil he) hn hdb he rfl
end
theorem tyL {K : PySem.W.Frag} {H : Hp} {l : Addr} {xs : List V} (h : SqL K H l xs) : tyV K "list" (.ref l) H := Or.inl ⟨rfl, _, h⟩
/-! ### len -/
def rLenI (K : PySem.W.Frag) : List V → Hp → VK → Prop := fun xs H Q => ∃ p ys, xs = [.ref p] ∧ (SqL K H p ys ∨ SqT K H p ys) ∧ Q (.int ys.length) H
theorem call_lenI {X : Cx} : CallR X (.builtin "len") (rLenI X.K) := call_len_seq
theorem len_ints {K : PySem.W.Frag} {H : Hp} {p : Addr} {ns : List Int} {Q : VK} (h : SqL K H p (ns.map V.int)) (q : Q (.int ns.length) H) : rLenI K [.ref p] H Q :=
  ⟨p, _, rfl, Or.inl h, by rw [List.length_map]; exact q⟩
theorem upd_app {H : Hp} {a : Addr} {ns ms : List Int} : upd H a (.lst (ns.map V.int ++ ms.map V.int)) a = some (.lst ((ns ++ ms).map V.int)) := by
  rw [upd_same, List.map_append]
theorem upd_1cat {H : Hp} {a : Addr} {x : Int} {ms : List Int} : upd H a (.lst ([V.int x] ++ ms.map V.int)) a = some (.lst ((x :: ms).map V.int)) := upd_same
theorem rep_iv (k : Nat) (v : Int) : (List.replicate k [V.int v]).flatten = (List.replicate k v).map V.int := by
  induction k with
  | zero => rfl
  | succ k ih => rw [List.replicate_succ, List.flatten_cons, ih, List.replicate_succ, List.map_cons]; rfl
theorem upd_rep {H : Hp} {a : Addr} {ns : List Int} {k : Nat} {v : Int} : upd H a (.lst (ns.map V.int ++ (List.replicate k [V.int v]).flatten)) a = some (.lst ((ns ++ List.replicate k v).map V.int)) := by
  rw [upd_same, rep_iv, List.map_append]
theorem upd_rep0 {H : Hp} {a : Addr} {k : Nat} {v : Int} : upd H a (.lst (List.replicate k [V.int v]).flatten) a = some (.lst ((List.replicate k v).map V.int)) := by
  rw [upd_same, rep_iv]
/-! ### slices -/
theorem sIx_pos (n d : Nat) {m : Int} (h : 0 ≤ m) : HT.sIx n d (some m) = min m.toNat n := by
  show (if m < 0 then (m + (n : Int)).toNat else min m.toNat n) = min m.toNat n
  rw [if_neg (by omega)]
theorem cut_all (xs : List V) : cutV xs none none = xs := by
  unfold cutV
  rw [HT.sIx_none, HT.sIx_none]
  simp
theorem cut_to (xs : List V) {m : Int} (h : 0 ≤ m) : cutV xs none (some m) = xs.take m.toNat := by
  unfold cutV
  rw [HT.sIx_none, sIx_pos _ _ h, List.drop_zero, Nat.sub_zero]
  by_cases hm : m.toNat ≤ xs.length
  · rw [Nat.min_eq_left hm]
  · rw [Nat.min_eq_right (by omega), List.take_of_length_le (Nat.le_refl _), List.take_of_length_le (by omega)]
theorem cut_from (xs : List V) {m : Int} (h : 0 ≤ m) : cutV xs (some m) none = xs.drop m.toNat := by
  unfold cutV
  rw [HT.sIx_none, sIx_pos _ _ h]
  by_cases hm : m.toNat ≤ xs.length
  · rw [Nat.min_eq_left hm, List.take_of_length_le (by rw [List.length_drop]; omega)]
  · rw [Nat.min_eq_right (by omega), List.drop_of_length_le (Nat.le_refl _), List.drop_of_length_le (by omega)]
    simp
theorem cut_mid (xs : List V) {a b : Int} (h : 0 ≤ a) (h2 : 0 ≤ b) : cutV xs (some a) (some b) = (xs.drop a.toNat).take (b.toNat - a.toNat) := by
  unfold cutV
  rw [sIx_pos _ _ h, sIx_pos _ _ h2]
  by_cases ha : a.toNat ≤ xs.length
  · rw [Nat.min_eq_left ha]
    by_cases hb : b.toNat ≤ xs.length
    · rw [Nat.min_eq_left hb]
    · rw [Nat.min_eq_right (by omega), List.take_of_length_le (by rw [List.length_drop]; omega), List.take_of_length_le (by rw [List.length_drop]; omega)]
  · rw [Nat.min_eq_right (a := a.toNat) (by omega), List.drop_of_length_le (Nat.le_refl _), List.drop_of_length_le (by omega)]
    simp
theorem cutI_all (ns : List Int) : cutV (ns.map V.int) none none = ns.map V.int := cut_all _
theorem cutI_to (ns : List Int) {m : Int} (h : 0 ≤ m) : cutV (ns.map V.int) none (some m) = (ns.take m.toNat).map V.int := by rw [cut_to _ h, List.map_take]
theorem cutI_from (ns : List Int) {m : Int} (h : 0 ≤ m) : cutV (ns.map V.int) (some m) none = (ns.drop m.toNat).map V.int := by rw [cut_from _ h, List.map_drop]
theorem cutI_mid (ns : List Int) {a b : Int} (h : 0 ≤ a) (h2 : 0 ≤ b) : cutV (ns.map V.int) (some a) (some b) = ((ns.drop a.toNat).take (b.toNat - a.toNat)).map V.int := by
  rw [cut_mid _ h h2, List.map_take, List.map_drop]

/-! ### pairs made by list(enumerate(..)) -/
theorem NewPairs_of {H H1 H' : Hp} {cs : List (List V)} {p : Addr} {ts : List Addr} (s : Same H H1) (n : UrE.NewPairs H1 cs p ts H') : UrE.NewPairs H cs p ts H' := by
  obtain ⟨a, b, c, d, e⟩ := n
  exact ⟨s.trans a, s.free b, fun t ht => s.free (c t ht), d, e⟩
theorem same_new {H : Hp} {p : Addr} {o : HO} (h : H p = none) : Same H (upd H p o) := fun b u e => by
  rw [upd_ne (ne_of_none e h)]
  exact e
theorem sql_new {K : PySem.W.Frag} {H : Hp} {p b : Addr} {o : HO} {xs : List V} (h : H p = none) (q : SqL K H b xs) : SqL K (upd H p o) b xs := (same_new h).seq q
theorem sql_upd {K : PySem.W.Frag} {H : Hp} {p b : Addr} {o : HO} {xs : List V} (n : b ≠ p) (q : SqL K H b xs) : SqL K (upd H p o) b xs := by
  rcases q with (h | ⟨u, h⟩) | h
  · exact .inl (.inl ((upd_ne n).trans h))
  · exact .inl (.inr ⟨u, (upd_ne n).trans h⟩)
  · exact .inr h
/-- a change at what H0 does not know -/
theorem same_upd {H0 H : Hp} {p : Addr} {o : HO} (s : Same H0 H) (h : H0 p = none) : Same H0 (upd H p o) := fun b u e => by
  rw [upd_ne (ne_of_none e h)]
  exact s b u e
theorem upd_none {H : Hp} {a p : Addr} {o : HO} (h : upd H a o p = none) : H p = none := by
  by_cases e : p = a
  · rw [e, upd_same] at h; cases h
  · rw [upd_ne e] at h; exact h
theorem upd_none_ne {H : Hp} {a p : Addr} {o : HO} (h : upd H a o p = none) : p ≠ a := fun e => by rw [e, upd_same] at h; cases h
theorem upd_cutto {H : Hp} {a : Addr} {ns : List Int} {m : Int} (h : 0 ≤ m) : upd H a (.lst (cutV (ns.map V.int) none (some m))) a = some (.lst ((ns.take m.toNat).map V.int)) := by rw [cutI_to ns h, upd_same]
theorem upd_cutfrom {H : Hp} {a : Addr} {ns : List Int} {m : Int} (h : 0 ≤ m) : upd H a (.lst (cutV (ns.map V.int) (some m) none)) a = some (.lst ((ns.drop m.toNat).map V.int)) := by rw [cutI_from ns h, upd_same]
theorem upd_cutmid {H : Hp} {a : Addr} {ns : List Int} {m k : Int} (h : 0 ≤ m) (h2 : 0 ≤ k) : upd H a (.lst (cutV (ns.map V.int) (some m) (some k))) a = some (.lst (((ns.drop m.toNat).take (k.toNat - m.toNat)).map V.int)) := by rw [cutI_mid ns h h2, upd_same]
theorem upd_cutall {H : Hp} {a : Addr} {ns : List Int} : upd H a (.lst (cutV (ns.map V.int) none none)) a = some (.lst (ns.map V.int)) := by rw [cutI_all ns, upd_same]
end Ur

namespace Ur
open PySem L2 PyProof.Rows PySem.Spec
/-! ### the rules of a block, by the fragment alone -/
def rMax2 : List V → Hp → VK → Prop := fun xs H Q => ∃ i j, xs = [.int i, .int j] ∧ Q (.int (if j > i then j else i)) H
def rMin2 : List V → Hp → VK → Prop := fun xs H Q => ∃ i j, xs = [.int i, .int j] ∧ Q (.int (if j < i then j else i)) H
def rListOf (K : PySem.W.Frag) : List V → Hp → VK → Prop := fun xs H Q => ∃ p ys, xs = [.ref p] ∧ (SqL K H p ys ∨ SqT K H p ys) ∧ ∀ l, H l = none → Q (.ref l) (upd H l (.lst ys))
def rTupOf (K : PySem.W.Frag) : List V → Hp → VK → Prop := fun xs H Q => ∃ p ys, xs = [.ref p] ∧ ((SqL K H p ys ∧ ∀ l, H l = none → Q (.ref l) (upd H l (.tup ys))) ∨ (SqT K H p ys ∧ Q (.ref p) H))
theorem ix_listK {X : Cx} {K : PySem.W.Frag} (hk : X.K = K) : IxR X (rIxL K) := by subst hk; exact L2.ix_list
theorem ix_tupK {X : Cx} {K : PySem.W.Frag} (hk : X.K = K) : IxR X (rIxT K) := by subst hk; exact L2.ix_tup
theorem sl_listK {X : Cx} {K : PySem.W.Frag} (hk : X.K = K) : SlR X (rSlL K) := by subst hk; exact L2.sl_list
theorem sl_tupK {X : Cx} {K : PySem.W.Frag} (hk : X.K = K) : SlR X (rSlT K) := by subst hk; exact L2.sl_tup
theorem op_in_seqK {X : Cx} {K : PySem.W.Frag} (hk : X.K = K) : OpR X (compareOp .In) (rIn K false) := by subst hk; exact L2.op_in_seq
theorem op_notIn_seqK {X : Cx} {K : PySem.W.Frag} (hk : X.K = K) : OpR X (compareOp .NotIn) (rIn K true) := by subst hk; exact L2.op_notIn_seq
theorem call_lenIK {X : Cx} {K : PySem.W.Frag} (hk : X.K = K) : CallR X (.builtin "len") (rLenI K) := by subst hk; exact Ur.call_lenI
theorem call_isiK {X : Cx} {K : PySem.W.Frag} (hk : X.K = K) : CallR X (.builtin "isinstance") (rIsi K) := by subst hk; exact L2.call_isi
theorem cr_maxK {X : Cx} {K : PySem.W.Frag} (hk : X.K = K) (hc : X.calm = true) : CallR X (.builtin "max") (rMax K) := by subst hk; exact L2.cr_max hc
theorem cr_minK {X : Cx} {K : PySem.W.Frag} (hk : X.K = K) (hc : X.calm = true) : CallR X (.builtin "min") (rMin K) := by subst hk; exact L2.cr_min hc
theorem cr_sumK {X : Cx} {K : PySem.W.Frag} (hk : X.K = K) (hc : X.calm = true) : CallR X (.builtin "sum") (rSum K) := by subst hk; exact L2.cr_sum hc
theorem cr_anyK {X : Cx} {K : PySem.W.Frag} (hk : X.K = K) (hc : X.calm = true) : CallR X (.builtin "any") (rAny K) := by subst hk; exact L2.cr_any hc
theorem cr_allK {X : Cx} {K : PySem.W.Frag} (hk : X.K = K) (hc : X.calm = true) : CallR X (.builtin "all") (rAll K) := by subst hk; exact L2.cr_all hc
theorem op_eqDK {X : Cx} {K : PySem.W.Frag} (hk : X.K = K) (hu : X.A.units + 64 < cLine) : OpR X (compareOp .Eq) (rEqD K) := by subst hk; exact L2.op_eqD hu
theorem op_neDK {X : Cx} {K : PySem.W.Frag} (hk : X.K = K) (hu : X.A.units + 64 < cLine) : OpR X (compareOp .NotEq) (rNeD K) := by subst hk; exact L2.op_neD hu
theorem cr_sortedIK {X : Cx} {K : PySem.W.Frag} (hk : X.K = K) : CallR X (.builtin "sorted") (rSortedI K) := by subst hk; exact L2.cr_sortedI
theorem mt_indexK {X : Cx} {K : PySem.W.Frag} (hk : X.K = K) : MtR X "list.index" (rIndex K) := by subst hk; exact L2.mt_index
theorem call_max2K {X : Cx}  (hc : X.calm = true) : CallR X (.builtin "max") rMax2 := by exact L2.call_max2 hc
theorem call_min2K {X : Cx}  (hc : X.calm = true) : CallR X (.builtin "min") rMin2 := by exact L2.call_min2 hc
theorem call_list_ofK {X : Cx} {K : PySem.W.Frag} (hk : X.K = K) : CallR X (.type "list") (rListOf K) := by subst hk; exact L2.call_list_of
theorem call_tuple_ofK {X : Cx} {K : PySem.W.Frag} (hk : X.K = K) : CallR X (.type "tuple") (rTupOf K) := by subst hk; exact L2.call_tuple_of
theorem pe_fldK {X : Cx} {K : PySem.W.Frag} {e : Expr} {f : Str} {pos : Pos} {ta : TE} (hk : X.K = K) (he : PE X e ta) (hb : attributeBase e f X.env (eval e X.env) = eval e X.env) : PE X (.Attribute e f pos) (tFld K ta f) := by subst hk; exact L2.pe_fld he hb
theorem tNilI {σ : L2.St} {H : Hp} {Q : List V → Hp → Prop} (h : Q [] H) : tNil σ H Q := h
theorem tCi {v : V} {σ : L2.St} {H : Hp} {Q : VK} (h : Q v H) : tC v σ H Q := h
/-! bounds of lengths -/
theorem szT {m n : Nat} (h : m ≤ n) (k : n ≤ 1000000) : m ≤ sizeLine := sz (Nat.le_trans h k)
theorem szlT {m n : Nat} (h : m ≤ n) (k : n < 1000000) : m < sizeLine := szl (Nat.lt_of_le_of_lt h k)
theorem lb_map {α β : Type} {f : α → β} {l : List α} {n : Nat} (h : l.length ≤ n) : (l.map f).length ≤ n := by rw [List.length_map]; exact h
theorem lb_filter {α : Type} {f : α → Bool} {l : List α} {n : Nat} (h : l.length ≤ n) : (l.filter f).length ≤ n := Nat.le_trans (List.length_filter_le f l) h
theorem lb_app {α : Type} {l r : List α} {m n : Nat} (h : l.length ≤ m) (k : r.length ≤ n) : (l ++ r).length ≤ m + n := by rw [List.length_append]; exact Nat.add_le_add h k
theorem lb_cons {α : Type} {x : α} {l : List α} {n : Nat} (h : l.length ≤ n) : (x :: l).length ≤ n + 1 := Nat.succ_le_succ h
theorem lb_nil {α : Type} : ([] : List α).length ≤ 0 := Nat.le_refl 0
theorem lb_range {n : Nat} : (List.range n).length ≤ n := by rw [List.length_range]; exact Nat.le_refl n
theorem pos_app {α : Type} {x : α} {l : List α} : 0 < (l ++ [x]).length := by simp
theorem neg_same {α : Type} {x : α} [Decidable (x = x)] {A B : Prop} (h : B) : if (!decide (x = x)) = true then A else B := by
  rw [decide_eq_true rfl]
  exact h
theorem pos_same {α : Type} {x : α} [Decidable (x = x)] {A B : Prop} (h : A) : if decide (x = x) = true then A else B := by
  rw [decide_eq_true rfl]
  exact h
theorem isWN {α β : Type} {P : (Nat → α → β) → Prop} (h : ∃ W, P W) : ∃ W, P W := h
theorem sqlK {K K' : PySem.W.Frag} {H : Hp} {a : Addr} {xs : List V} (h : SqL K H a xs) (e : K = K') : SqL K' H a xs := e ▸ h
end Ur

namespace Ur
open PySem L2 PySem.Spec PyProof.Rows
/-! ### isinstance of known kinds -/
theorem kb_int_int : kitB "int" "int" = some true := by decide +kernel
theorem kb_int_bool : kitB "int" "bool" = some false := by decide +kernel
theorem kb_int_str : kitB "int" "str" = some false := by decide +kernel
theorem kb_int_list : kitB "int" "list" = some false := by decide +kernel
theorem kb_int_tuple : kitB "int" "tuple" = some false := by decide +kernel
theorem kb_int_dict : kitB "int" "dict" = some false := by decide +kernel
theorem kb_bool_int : kitB "bool" "int" = some true := by decide +kernel
theorem kb_bool_bool : kitB "bool" "bool" = some true := by decide +kernel
theorem kb_bool_str : kitB "bool" "str" = some false := by decide +kernel
theorem kb_bool_list : kitB "bool" "list" = some false := by decide +kernel
theorem kb_bool_tuple : kitB "bool" "tuple" = some false := by decide +kernel
theorem kb_bool_dict : kitB "bool" "dict" = some false := by decide +kernel
theorem kb_str_int : kitB "str" "int" = some false := by decide +kernel
theorem kb_str_bool : kitB "str" "bool" = some false := by decide +kernel
theorem kb_str_str : kitB "str" "str" = some true := by decide +kernel
theorem kb_str_list : kitB "str" "list" = some false := by decide +kernel
theorem kb_str_tuple : kitB "str" "tuple" = some false := by decide +kernel
theorem kb_str_dict : kitB "str" "dict" = some false := by decide +kernel
theorem kb_NoneType_int : kitB "NoneType" "int" = some false := by decide +kernel
theorem kb_NoneType_bool : kitB "NoneType" "bool" = some false := by decide +kernel
theorem kb_NoneType_str : kitB "NoneType" "str" = some false := by decide +kernel
theorem kb_NoneType_list : kitB "NoneType" "list" = some false := by decide +kernel
theorem kb_NoneType_tuple : kitB "NoneType" "tuple" = some false := by decide +kernel
theorem kb_NoneType_dict : kitB "NoneType" "dict" = some false := by decide +kernel
theorem kb_list_int : kitB "list" "int" = some false := by decide +kernel
theorem kb_list_bool : kitB "list" "bool" = some false := by decide +kernel
theorem kb_list_str : kitB "list" "str" = some false := by decide +kernel
theorem kb_list_list : kitB "list" "list" = some true := by decide +kernel
theorem kb_list_tuple : kitB "list" "tuple" = some false := by decide +kernel
theorem kb_list_dict : kitB "list" "dict" = some false := by decide +kernel
theorem kb_tuple_int : kitB "tuple" "int" = some false := by decide +kernel
theorem kb_tuple_bool : kitB "tuple" "bool" = some false := by decide +kernel
theorem kb_tuple_str : kitB "tuple" "str" = some false := by decide +kernel
theorem kb_tuple_list : kitB "tuple" "list" = some false := by decide +kernel
theorem kb_tuple_tuple : kitB "tuple" "tuple" = some true := by decide +kernel
theorem kb_tuple_dict : kitB "tuple" "dict" = some false := by decide +kernel
theorem kb_dict_int : kitB "dict" "int" = some false := by decide +kernel
theorem kb_dict_bool : kitB "dict" "bool" = some false := by decide +kernel
theorem kb_dict_str : kitB "dict" "str" = some false := by decide +kernel
theorem kb_dict_list : kitB "dict" "list" = some false := by decide +kernel
theorem kb_dict_tuple : kitB "dict" "tuple" = some false := by decide +kernel
theorem kb_dict_dict : kitB "dict" "dict" = some true := by decide +kernel
theorem isiK {K : PySem.W.Frag} {H : Hp} {x : V} {t T : String} {b : Bool} {Q : VK} (ty : TyX K H x (.type t)) (h : kitB t T = some b) (q : Q (.bl b) H) : rIsi K [x, .ty T] H Q :=
  ⟨x, .ty T, _, _, b, rfl, .ty _, ty, kit_ty h, q⟩
theorem tyx_lst {K : PySem.W.Frag} {H : Hp} {a : Addr} {xs : List V} (h : H a = some (.lst xs)) : TyX K H (.ref a) (.type "list") := .base (.lst h)
theorem tyx_tup {K : PySem.W.Frag} {H : Hp} {a : Addr} {xs : List V} (h : H a = some (.tup xs)) : TyX K H (.ref a) (.type "tuple") := .base (.tup h)
theorem tyx_dK {K : PySem.W.Frag} {H : Hp} {a : Addr} {xs : List (Key × V)} (h : H a = some (.dK xs)) : TyX K H (.ref a) (.type "dict") := .base (.dK h)
theorem tyx_int {K : PySem.W.Frag} {H : Hp} {i : Int} : TyX K H (.int i) (.type "int") := .base (.int i)
theorem tyx_bl {K : PySem.W.Frag} {H : Hp} {b : Bool} : TyX K H (.bl b) (.type "bool") := .base (.bl b)
theorem tyx_str {K : PySem.W.Frag} {H : Hp} {x : Str} : TyX K H (.str x) (.type "str") := .base (.str x)
theorem tyx_non {K : PySem.W.Frag} {H : Hp} : TyX K H .non (.type "NoneType") := .base .non
end Ur

namespace Ur
open PySem L2
/-! ### dicts with int keys -/
theorem isD_of {H : Hp} {a : Addr} {kvs : List (Key × V)} (h : H a = some (.dK kvs)) : IsD H a := Or.inl ⟨kvs, Or.inl h⟩
theorem dget_int {H : Hp} {a : Addr} {kvs : List (Key × V)} {n : Int} (h : H a = some (.dK kvs)) : DGet H a (.int n) (valV kvs (Sum.inl n)) := DGet.k (k := Sum.inl n) h
theorem dget_some {H : Hp} {a : Addr} {kvs : List (Key × V)} {n : Int} {v : V} (h : H a = some (.dK kvs)) (e : valV kvs (Sum.inl n) = some v) : DGet H a (.int n) (some v) := by
  rw [← e]
  exact dget_int h
theorem dput_int {H : Hp} {a : Addr} {kvs : List (Key × V)} {n : Int} {v : V} (h : H a = some (.dK kvs)) (l : kvs.length < sizeLine) : DPut H a (.int n) v (upd H a (.dK (putK kvs (Sum.inl n) v))) := DPut.k (k := Sum.inl n) h l
theorem putK_le (c : List (Key × V)) (k : Key) (x : V) : (putK c k x).length ≤ c.length + 1 := by
  unfold putK
  split
  · rw [List.length_map]; omega
  · rw [List.length_append]; exact Nat.le_refl _
theorem val_put (kvs : List (Key × V)) (k j : Int) (y : V) : valV (putK kvs (Sum.inl k) y) (Sum.inl j) = if j = k then some y else valV kvs (Sum.inl j) := by
  rw [valV_put]
  by_cases h : j = k
  · rw [if_pos h, if_pos (by rw [h])]
  · rw [if_neg h, if_neg (fun e => h (Sum.inl.inj e))]

/-! ### loops -/
section
variable {K : PySem.W.Frag} {a b : Addr} {xs ys : List V} {ns : List Int} {tb : TS} {D : Ends} {σ : L2.St} {H : Hp} {ti tv : Nat}
/-- for i, x in enumerate(list) -/
theorem for_enum (Pv : Nat → L2.St → Hp → Prop) (h0 : Pv 0 σ H) (hl : ∀ i σ H, i ≤ xs.length → Pv i σ H → SqL K H a xs)
    (hs : ∀ i x σ H H', xs[i]? = some x → Pv i σ H → Same H H' → tb { D with nx := Pv (i + 1), ct := Pv (i + 1), bk := D.nx } ((σ.set ti (some (.int (i : Nat)))).set tv (some x)) H') (hd : ∀ σ H, Pv xs.length σ H → D.nx σ H) :
    ∃ W : Nat → Nat → L2.St → Hp → Prop, (∃ m, W 0 m σ H) ∧ ∀ i m σ H, W i m σ H →
      ((Ite K a).stop i H ∧ D.nx σ H) ∨ ((Ite K a).go i H ∧ ∃ N : L2.St → Hp → Prop, (∀ σ' H', N σ' H' → ∃ m', m' < m ∧ W (i + 1) m' σ' H') ∧ ∀ x H', (Ite K a).yld i H x H' → gTup K 2 (gCons (gName ti) (gCons (gName tv) gNil)) x σ H' fun σ2 H2 => tb { D with nx := N, ct := N, bk := D.nx } σ2 H2) :=
  for_it (walk_enum (K := K) (a := a) (xs := xs)) Pv h0 hl (fun i v σ H H' hi p y => by
    obtain ⟨T, x, z, rfl, hT, rfl, hx, hz⟩ := y
    have hx' : some (V.int (i : Nat)) = some x := hx
    cases hx'
    have hz' : xs[i]? = some z := hz
    refine ⟨T, [.int (i : Nat), z], rfl, SqT.of upd_same, rfl, _, _, rfl, _, _, rfl, rfl, ?_⟩
    exact hs i z σ H _ hz' p (same_new hT)) hd
/-- for n in a list of ints -/
theorem for_ints (Pv : Nat → L2.St → Hp → Prop) (h0 : Pv 0 σ H) (hl : ∀ i σ H, i ≤ ns.length → Pv i σ H → SqL K H a (ns.map V.int))
    (hs : ∀ i n σ H, ns[i]? = some n → Pv i σ H → tb { D with nx := Pv (i + 1), ct := Pv (i + 1), bk := D.nx } (σ.set tv (some (.int n))) H) (hd : ∀ σ H, Pv ns.length σ H → D.nx σ H) :
    ∃ W : Nat → Nat → L2.St → Hp → Prop, (∃ m, W 0 m σ H) ∧ ∀ i m σ H, W i m σ H →
      ((Itl K a).stop i H ∧ D.nx σ H) ∨ ((Itl K a).go i H ∧ ∃ N : L2.St → Hp → Prop, (∀ σ' H', N σ' H' → ∃ m', m' < m ∧ W (i + 1) m' σ' H') ∧ ∀ x H', (Itl K a).yld i H x H' → gName tv x σ H' fun σ2 H2 => tb { D with nx := N, ct := N, bk := D.nx } σ2 H2) :=
  for_list (xs := ns.map V.int) Pv h0 (fun i σ H hi p => hl i σ H (by rw [List.length_map] at hi; exact hi) p) (fun i x σ H hx p => by
    obtain ⟨n, hn, rfl⟩ := iv_get hx
    exact hs i n σ H hn p) (fun σ H p => hd σ H (by rw [List.length_map] at p; exact p))
/-- while, the test's answer told; Pv by a measure -/
theorem while_ans {c : TT} (Pv : Nat → L2.St → Hp → Prop) (m0 : Nat) (h0 : Pv m0 σ H)
    (hs : ∀ m σ H, Pv m σ H → ∃ b, (∀ Q : Bool → Hp → Prop, Q b H → c σ H Q) ∧
      (b = true → tb { D with nx := fun σ' H' => ∃ m', m' < m ∧ Pv m' σ' H', ct := fun σ' H' => ∃ m', m' < m ∧ Pv m' σ' H', bk := D.nx } σ H) ∧ (b = false → D.nx σ H)) : tWhile c tb D σ H := by
  refine ⟨Pv, ⟨m0, h0⟩, fun m σ H p => ?_⟩
  obtain ⟨b, hb, h1, h2⟩ := hs m σ H p
  refine hb _ ?_
  cases b with
  | true => exact (if_pos rfl).mpr ⟨_, fun _ _ n => n, h1 rfl⟩
  | false => exact (if_neg Bool.false_ne_true).mpr (h2 rfl)
end

/-! ### comprehensions -/
section
variable {K : PySem.W.Frag} {a : Addr} {xs : List V} {ns : List Int} {σ : L2.St} {H1 : Hp} {Dl : Addr} {te : TE} {tt : TT} {vs : List Nat} {j : Nat} {lo : Int} {n : Nat} {Qd : Hp → Prop}
theorem tyes_ok {σ : L2.St} {H : Hp} {A B : Hp → Prop} (h : A H) : tYes σ H (fun b H3 => if b = true then A H3 else B H3) := by
  show (if true = true then A H else B H)
  rw [if_pos rfl]
  exact h
/-- [e for k in range(..)], e a value that leaves all as it was -/
theorem lc_rng (f : Nat → V) (hn : n ≤ 1000000) (hD : H1 Dl = none) (hw : ∀ x, wipe ((wipe σ vs).set j (some x)) vs = wipe σ vs)
    (he : ∀ (k : Nat) H', k < n → Same H1 H' → ∀ Q' : VK, (∀ H4, Same H' H4 → Q' (f k) H4) → te ((wipe σ vs).set j (some (.int (lo + (k : Nat))))) H' Q')
    (hd : ∀ H', Same H1 H' → H' Dl = some (.lst ((List.range n).map f)) → Qd H') :
    ∃ W : Nat → Nat → Hp → Prop, (∃ m, W 0 m (upd H1 Dl (.lst []))) ∧ ∀ i m H, W i m H →
      ((Itr lo n).stop i H ∧ Qd H) ∨ ((Itr lo n).go i H ∧ ∃ Nx : Hp → Prop, (∀ H', Nx H' → ∃ m', m' < m ∧ W (i + 1) m' H') ∧ ∀ x H', (Itr lo n).yld i H x H' → gName j x (wipe σ vs) H' fun σ2 H2 => wipe σ2 vs = wipe σ vs ∧ tYes σ2 H2 fun b H3 =>
        if b = true then te σ2 H3 fun y H4 => ∃ acc, H4 Dl = some (.lst acc) ∧ acc.length < sizeLine ∧ Nx (upd H4 Dl (.lst (acc ++ [y]))) else Nx H3) := by
  refine lc_range (lo := lo) (n := n) (fun i H' => Same H1 H' ∧ H' Dl = some (.lst ((List.range i).map f))) ⟨same_new hD, upd_same⟩ (fun i H' hi p => ?_) (fun H' p => hd H' p.1 p.2)
  refine ⟨hw _, ?_⟩
  refine tyes_ok ?_
  refine he i H' hi p.1 _ fun H4 s => ⟨_, s _ _ p.2, szl (by rw [List.length_map, List.length_range]; omega), same_upd' hD (p.1.trans s), ?_⟩
  rw [upd_same, List.range_succ, List.map_append]
  rfl
/-- [e for x in a list of ints] -/
theorem lc_ints (f : Int → V) (hn : ns.length ≤ 1000000) (ha : SqL K H1 a (ns.map V.int)) (hD : H1 Dl = none) (hw : ∀ x, wipe ((wipe σ vs).set j (some x)) vs = wipe σ vs)
    (he : ∀ (x : Int) H', x ∈ ns → Same H1 H' → ∀ Q' : VK, (∀ H4, Same H' H4 → Q' (f x) H4) → te ((wipe σ vs).set j (some (.int x))) H' Q')
    (hd : ∀ H', Same H1 H' → H' Dl = some (.lst (ns.map f)) → Qd H') :
    ∃ W : Nat → Nat → Hp → Prop, (∃ m, W 0 m (upd H1 Dl (.lst []))) ∧ ∀ i m H, W i m H →
      ((Itl K a).stop i H ∧ Qd H) ∨ ((Itl K a).go i H ∧ ∃ Nx : Hp → Prop, (∀ H', Nx H' → ∃ m', m' < m ∧ W (i + 1) m' H') ∧ ∀ x H', (Itl K a).yld i H x H' → gName j x (wipe σ vs) H' fun σ2 H2 => wipe σ2 vs = wipe σ vs ∧ tYes σ2 H2 fun b H3 =>
        if b = true then te σ2 H3 fun y H4 => ∃ acc, H4 Dl = some (.lst acc) ∧ acc.length < sizeLine ∧ Nx (upd H4 Dl (.lst (acc ++ [y]))) else Nx H3) := by
  refine lc_list (K := K) (a := a) (xs := ns.map V.int) (fun i H' => Same H1 H' ∧ H' Dl = some (.lst ((ns.take i).map f))) ⟨same_new hD, upd_same⟩ (fun i H' _ p => p.1.seq ha) (fun i x H' hx p => ?_) (fun H' p => ?_)
  · obtain ⟨z, hz, rfl⟩ := iv_get hx
    have hi := (List.getElem?_eq_some_iff.mp hz).1
    refine ⟨hw _, ?_⟩
    refine tyes_ok ?_
    refine he z H' (List.mem_of_getElem? hz) p.1 _ fun H4 s => ⟨_, s _ _ p.2, szl (by rw [List.length_map, List.length_take]; omega), same_upd' hD (p.1.trans s), ?_⟩
    rw [upd_same, List.take_add_one, hz, List.map_append]
    rfl
  · have h2 := p.2
    rw [List.length_map, List.take_length] at h2
    exact hd H' p.1 h2
/-- [e for k in range(..) if t] -/
theorem lc_rngIf (t : Nat → Bool) (f : Nat → V) (hn : n ≤ 1000000) (hD : H1 Dl = none) (hw : ∀ x, wipe ((wipe σ vs).set j (some x)) vs = wipe σ vs)
    (ht : ∀ (k : Nat) H', k < n → Same H1 H' → ∀ Q' : Bool → Hp → Prop, (∀ H4, Same H' H4 → Q' (t k) H4) → tt ((wipe σ vs).set j (some (.int (lo + (k : Nat))))) H' Q')
    (he : ∀ (k : Nat) H', k < n → t k = true → Same H1 H' → ∀ Q' : VK, (∀ H4, Same H' H4 → Q' (f k) H4) → te ((wipe σ vs).set j (some (.int (lo + (k : Nat))))) H' Q')
    (hd : ∀ H', Same H1 H' → H' Dl = some (.lst (((List.range n).filter t).map f)) → Qd H') :
    ∃ W : Nat → Nat → Hp → Prop, (∃ m, W 0 m (upd H1 Dl (.lst []))) ∧ ∀ i m H, W i m H →
      ((Itr lo n).stop i H ∧ Qd H) ∨ ((Itr lo n).go i H ∧ ∃ Nx : Hp → Prop, (∀ H', Nx H' → ∃ m', m' < m ∧ W (i + 1) m' H') ∧ ∀ x H', (Itr lo n).yld i H x H' → gName j x (wipe σ vs) H' fun σ2 H2 => wipe σ2 vs = wipe σ vs ∧ tt σ2 H2 fun b H3 =>
        if b = true then te σ2 H3 fun y H4 => ∃ acc, H4 Dl = some (.lst acc) ∧ acc.length < sizeLine ∧ Nx (upd H4 Dl (.lst (acc ++ [y]))) else Nx H3) := by
  refine lc_range (lo := lo) (n := n) (fun i H' => Same H1 H' ∧ H' Dl = some (.lst (((List.range i).filter t).map f))) ⟨same_new hD, upd_same⟩ (fun i H' hi p => ?_) (fun H' p => hd H' p.1 p.2)
  refine ⟨hw _, ?_⟩
  refine ht i H' hi p.1 _ fun H3 s3 => ?_
  cases hb : t i with
  | true =>
    refine (if_pos rfl).mpr ?_
    refine he i H3 hi hb (p.1.trans s3) _ fun H4 s => ⟨_, s _ _ (s3 _ _ p.2), szl ?_, same_upd' hD ((p.1.trans s3).trans s), ?_⟩
    · have := List.length_filter_le t (List.range i)
      rw [List.length_range] at this
      rw [List.length_map]; omega
    rw [upd_same, List.range_succ, List.filter_append, List.map_append, List.filter_cons, if_pos hb]
    rfl
  | false =>
    refine (if_neg Bool.false_ne_true).mpr ⟨p.1.trans s3, ?_⟩
    rw [List.range_succ, List.filter_append, List.map_append, List.filter_cons, if_neg (by rw [hb]; exact Bool.false_ne_true)]
    simpa using s3 _ _ p.2
/-- [e for x in a list of ints if t] -/
theorem lc_intsIf (t : Int → Bool) (f : Int → V) (hn : ns.length ≤ 1000000) (ha : SqL K H1 a (ns.map V.int)) (hD : H1 Dl = none) (hw : ∀ x, wipe ((wipe σ vs).set j (some x)) vs = wipe σ vs)
    (ht : ∀ (x : Int) H', x ∈ ns → Same H1 H' → ∀ Q' : Bool → Hp → Prop, (∀ H4, Same H' H4 → Q' (t x) H4) → tt ((wipe σ vs).set j (some (.int x))) H' Q')
    (he : ∀ (x : Int) H', x ∈ ns → t x = true → Same H1 H' → ∀ Q' : VK, (∀ H4, Same H' H4 → Q' (f x) H4) → te ((wipe σ vs).set j (some (.int x))) H' Q')
    (hd : ∀ H', Same H1 H' → H' Dl = some (.lst ((ns.filter t).map f)) → Qd H') :
    ∃ W : Nat → Nat → Hp → Prop, (∃ m, W 0 m (upd H1 Dl (.lst []))) ∧ ∀ i m H, W i m H →
      ((Itl K a).stop i H ∧ Qd H) ∨ ((Itl K a).go i H ∧ ∃ Nx : Hp → Prop, (∀ H', Nx H' → ∃ m', m' < m ∧ W (i + 1) m' H') ∧ ∀ x H', (Itl K a).yld i H x H' → gName j x (wipe σ vs) H' fun σ2 H2 => wipe σ2 vs = wipe σ vs ∧ tt σ2 H2 fun b H3 =>
        if b = true then te σ2 H3 fun y H4 => ∃ acc, H4 Dl = some (.lst acc) ∧ acc.length < sizeLine ∧ Nx (upd H4 Dl (.lst (acc ++ [y]))) else Nx H3) := by
  refine lc_list (K := K) (a := a) (xs := ns.map V.int) (fun i H' => Same H1 H' ∧ H' Dl = some (.lst (((ns.take i).filter t).map f))) ⟨same_new hD, upd_same⟩ (fun i H' _ p => p.1.seq ha) (fun i x H' hx p => ?_) (fun H' p => ?_)
  · obtain ⟨z, hz, rfl⟩ := iv_get hx
    have hi := (List.getElem?_eq_some_iff.mp hz).1
    have hm := List.mem_of_getElem? hz
    refine ⟨hw _, ?_⟩
    refine ht z H' hm p.1 _ fun H3 s3 => ?_
    have e1 : ns.take (i + 1) = ns.take i ++ [z] := by rw [List.take_add_one, hz]; rfl
    cases hb : t z with
    | true =>
      refine (if_pos rfl).mpr ?_
      refine he z H3 hm hb (p.1.trans s3) _ fun H4 s => ⟨_, s _ _ (s3 _ _ p.2), szl ?_, same_upd' hD ((p.1.trans s3).trans s), ?_⟩
      · have := List.length_filter_le t (ns.take i)
        rw [List.length_take] at this
        rw [List.length_map]; omega
      rw [upd_same, e1, List.filter_append, List.map_append, List.filter_cons, if_pos hb]
      rfl
    | false =>
      refine (if_neg Bool.false_ne_true).mpr ⟨p.1.trans s3, ?_⟩
      rw [e1, List.filter_append, List.map_append, List.filter_cons, if_neg (by rw [hb]; exact Bool.false_ne_true)]
      simpa using s3 _ _ p.2
  · have h2 := p.2
    rw [List.length_map, List.take_length] at h2
    exact hd H' p.1 h2
/-- [e for x in a list if t], t never -/
theorem lc_none (ha : SqL K H1 a xs) (hD : H1 Dl = none) (hw : ∀ x, wipe ((wipe σ vs).set j (some x)) vs = wipe σ vs)
    (ht : ∀ (x : V) H', x ∈ xs → Same H1 H' → ∀ Q' : Bool → Hp → Prop, (∀ H4, Same H' H4 → Q' false H4) → tt ((wipe σ vs).set j (some x)) H' Q')
    (hd : ∀ H', Same H1 H' → H' Dl = some (.lst []) → Qd H') :
    ∃ W : Nat → Nat → Hp → Prop, (∃ m, W 0 m (upd H1 Dl (.lst []))) ∧ ∀ i m H, W i m H →
      ((Itl K a).stop i H ∧ Qd H) ∨ ((Itl K a).go i H ∧ ∃ Nx : Hp → Prop, (∀ H', Nx H' → ∃ m', m' < m ∧ W (i + 1) m' H') ∧ ∀ x H', (Itl K a).yld i H x H' → gName j x (wipe σ vs) H' fun σ2 H2 => wipe σ2 vs = wipe σ vs ∧ tt σ2 H2 fun b H3 =>
        if b = true then te σ2 H3 fun y H4 => ∃ acc, H4 Dl = some (.lst acc) ∧ acc.length < sizeLine ∧ Nx (upd H4 Dl (.lst (acc ++ [y]))) else Nx H3) := by
  refine lc_list (K := K) (a := a) (xs := xs) (fun _ H' => Same H1 H' ∧ H' Dl = some (.lst [])) ⟨same_new hD, upd_same⟩ (fun i H' _ p => p.1.seq ha) (fun i x H' hx p => ?_) (fun H' p => hd H' p.1 p.2)
  refine ⟨hw _, ?_⟩
  refine ht x H' (List.mem_of_getElem? hx) p.1 _ fun H3 s3 => ?_
  exact (if_neg Bool.false_ne_true).mpr ⟨p.1.trans s3, s3 _ _ p.2⟩
end
/-! the same, the items ints -/
section
variable {K : PySem.W.Frag} {a : Addr} {xs : List V} {ns : List Int} {σ : L2.St} {H1 : Hp} {Dl : Addr} {te : TE} {tt : TT} {vs : List Nat} {j : Nat} {lo : Int} {n : Nat} {Qd : Hp → Prop}
theorem lc_rngI (f : Nat → Int) (hn : n ≤ 1000000) (hD : H1 Dl = none) (hw : ∀ x, wipe ((wipe σ vs).set j (some x)) vs = wipe σ vs)
    (he : ∀ (k : Nat) H', k < n → Same H1 H' → ∀ Q' : VK, (∀ H4, Same H' H4 → Q' (.int (f k)) H4) → te ((wipe σ vs).set j (some (.int (lo + (k : Nat))))) H' Q')
    (hd : ∀ H', Same H1 H' → H' Dl = some (.lst (((List.range n).map f).map V.int)) → Qd H') :
    ∃ W : Nat → Nat → Hp → Prop, (∃ m, W 0 m (upd H1 Dl (.lst []))) ∧ ∀ i m H, W i m H →
      ((Itr lo n).stop i H ∧ Qd H) ∨ ((Itr lo n).go i H ∧ ∃ Nx : Hp → Prop, (∀ H', Nx H' → ∃ m', m' < m ∧ W (i + 1) m' H') ∧ ∀ x H', (Itr lo n).yld i H x H' → gName j x (wipe σ vs) H' fun σ2 H2 => wipe σ2 vs = wipe σ vs ∧ tYes σ2 H2 fun b H3 =>
        if b = true then te σ2 H3 fun y H4 => ∃ acc, H4 Dl = some (.lst acc) ∧ acc.length < sizeLine ∧ Nx (upd H4 Dl (.lst (acc ++ [y]))) else Nx H3) :=
  lc_rng (fun k => V.int (f k)) hn hD hw he fun H' s e => hd H' s (by rw [e, List.map_map]; rfl)
theorem lc_intsI (f : Int → Int) (hn : ns.length ≤ 1000000) (ha : SqL K H1 a (ns.map V.int)) (hD : H1 Dl = none) (hw : ∀ x, wipe ((wipe σ vs).set j (some x)) vs = wipe σ vs)
    (he : ∀ (x : Int) H', x ∈ ns → Same H1 H' → ∀ Q' : VK, (∀ H4, Same H' H4 → Q' (.int (f x)) H4) → te ((wipe σ vs).set j (some (.int x))) H' Q')
    (hd : ∀ H', Same H1 H' → H' Dl = some (.lst ((ns.map f).map V.int)) → Qd H') :
    ∃ W : Nat → Nat → Hp → Prop, (∃ m, W 0 m (upd H1 Dl (.lst []))) ∧ ∀ i m H, W i m H →
      ((Itl K a).stop i H ∧ Qd H) ∨ ((Itl K a).go i H ∧ ∃ Nx : Hp → Prop, (∀ H', Nx H' → ∃ m', m' < m ∧ W (i + 1) m' H') ∧ ∀ x H', (Itl K a).yld i H x H' → gName j x (wipe σ vs) H' fun σ2 H2 => wipe σ2 vs = wipe σ vs ∧ tYes σ2 H2 fun b H3 =>
        if b = true then te σ2 H3 fun y H4 => ∃ acc, H4 Dl = some (.lst acc) ∧ acc.length < sizeLine ∧ Nx (upd H4 Dl (.lst (acc ++ [y]))) else Nx H3) :=
  lc_ints (fun k => V.int (f k)) hn ha hD hw he fun H' s e => hd H' s (by rw [e, List.map_map]; rfl)
theorem lc_rngIfI (t : Nat → Bool) (f : Nat → Int) (hn : n ≤ 1000000) (hD : H1 Dl = none) (hw : ∀ x, wipe ((wipe σ vs).set j (some x)) vs = wipe σ vs)
    (ht : ∀ (k : Nat) H', k < n → Same H1 H' → ∀ Q' : Bool → Hp → Prop, (∀ H4, Same H' H4 → Q' (t k) H4) → tt ((wipe σ vs).set j (some (.int (lo + (k : Nat))))) H' Q')
    (he : ∀ (k : Nat) H', k < n → t k = true → Same H1 H' → ∀ Q' : VK, (∀ H4, Same H' H4 → Q' (.int (f k)) H4) → te ((wipe σ vs).set j (some (.int (lo + (k : Nat))))) H' Q')
    (hd : ∀ H', Same H1 H' → H' Dl = some (.lst ((((List.range n).filter t).map f).map V.int)) → Qd H') :
    ∃ W : Nat → Nat → Hp → Prop, (∃ m, W 0 m (upd H1 Dl (.lst []))) ∧ ∀ i m H, W i m H →
      ((Itr lo n).stop i H ∧ Qd H) ∨ ((Itr lo n).go i H ∧ ∃ Nx : Hp → Prop, (∀ H', Nx H' → ∃ m', m' < m ∧ W (i + 1) m' H') ∧ ∀ x H', (Itr lo n).yld i H x H' → gName j x (wipe σ vs) H' fun σ2 H2 => wipe σ2 vs = wipe σ vs ∧ tt σ2 H2 fun b H3 =>
        if b = true then te σ2 H3 fun y H4 => ∃ acc, H4 Dl = some (.lst acc) ∧ acc.length < sizeLine ∧ Nx (upd H4 Dl (.lst (acc ++ [y]))) else Nx H3) :=
  lc_rngIf t (fun k => V.int (f k)) hn hD hw ht he fun H' s e => hd H' s (by rw [e, List.map_map]; rfl)
theorem lc_intsIfI (t : Int → Bool) (f : Int → Int) (hn : ns.length ≤ 1000000) (ha : SqL K H1 a (ns.map V.int)) (hD : H1 Dl = none) (hw : ∀ x, wipe ((wipe σ vs).set j (some x)) vs = wipe σ vs)
    (ht : ∀ (x : Int) H', x ∈ ns → Same H1 H' → ∀ Q' : Bool → Hp → Prop, (∀ H4, Same H' H4 → Q' (t x) H4) → tt ((wipe σ vs).set j (some (.int x))) H' Q')
    (he : ∀ (x : Int) H', x ∈ ns → t x = true → Same H1 H' → ∀ Q' : VK, (∀ H4, Same H' H4 → Q' (.int (f x)) H4) → te ((wipe σ vs).set j (some (.int x))) H' Q')
    (hd : ∀ H', Same H1 H' → H' Dl = some (.lst (((ns.filter t).map f).map V.int)) → Qd H') :
    ∃ W : Nat → Nat → Hp → Prop, (∃ m, W 0 m (upd H1 Dl (.lst []))) ∧ ∀ i m H, W i m H →
      ((Itl K a).stop i H ∧ Qd H) ∨ ((Itl K a).go i H ∧ ∃ Nx : Hp → Prop, (∀ H', Nx H' → ∃ m', m' < m ∧ W (i + 1) m' H') ∧ ∀ x H', (Itl K a).yld i H x H' → gName j x (wipe σ vs) H' fun σ2 H2 => wipe σ2 vs = wipe σ vs ∧ tt σ2 H2 fun b H3 =>
        if b = true then te σ2 H3 fun y H4 => ∃ acc, H4 Dl = some (.lst acc) ∧ acc.length < sizeLine ∧ Nx (upd H4 Dl (.lst (acc ++ [y]))) else Nx H3) :=
  lc_intsIf t (fun k => V.int (f k)) hn ha hD hw ht he fun H' s e => hd H' s (by rw [e, List.map_map]; rfl)
end
/-! the same, a state at a changing with each item: S tells what it may be, R the items -/
section
variable {K : PySem.W.Frag} {a st : Addr} {xs : List V} {ns : List Int} {σ : L2.St} {H1 : Hp} {Dl : Addr} {te : TE} {tt : TT} {vs : List Nat} {j : Nat} {lo : Int} {n : Nat} {Qd : Hp → Prop}
theorem lc_rngS (S : HO → Prop) (R : Int → Prop) {o1 : HO} (ha : H1 st = some o1) (hS : S o1) (hn : n ≤ 1000000) (hD : H1 Dl = none) (hw : ∀ x, wipe ((wipe σ vs).set j (some x)) vs = wipe σ vs)
    (he : ∀ (k : Nat) H' o, k < n → But st H1 H' → H' st = some o → S o → ∀ Q' : VK, (∀ v H4 o4, R v → But st H' H4 → H4 st = some o4 → S o4 → Q' (.int v) H4) → te ((wipe σ vs).set j (some (.int (lo + (k : Nat))))) H' Q')
    (hd : ∀ H' (ms : List Int) o, ms.length = n → (∀ x ∈ ms, R x) → But st H1 H' → H' Dl = some (.lst (ms.map V.int)) → H' st = some o → S o → Qd H') :
    ∃ W : Nat → Nat → Hp → Prop, (∃ m, W 0 m (upd H1 Dl (.lst []))) ∧ ∀ i m H, W i m H →
      ((Itr lo n).stop i H ∧ Qd H) ∨ ((Itr lo n).go i H ∧ ∃ Nx : Hp → Prop, (∀ H', Nx H' → ∃ m', m' < m ∧ W (i + 1) m' H') ∧ ∀ x H', (Itr lo n).yld i H x H' → gName j x (wipe σ vs) H' fun σ2 H2 => wipe σ2 vs = wipe σ vs ∧ tYes σ2 H2 fun b H3 =>
        if b = true then te σ2 H3 fun y H4 => ∃ acc, H4 Dl = some (.lst acc) ∧ acc.length < sizeLine ∧ Nx (upd H4 Dl (.lst (acc ++ [y]))) else Nx H3) := by
  have hne : Dl ≠ st := (ne_of_none ha hD).symm
  refine lc_range (lo := lo) (n := n) (fun i H' => ∃ (ms : List Int) (o : HO), H' Dl = some (.lst (ms.map V.int)) ∧ H' st = some o ∧ S o ∧ But st H1 H' ∧ ms.length = i ∧ ∀ x ∈ ms, R x)
    ⟨[], o1, upd_same, (upd_ne hne.symm).trans ha, hS, but_snoc hD but_refl, rfl, fun _ h => by cases h⟩ (fun i H' hi p => ?_) (fun H' p => ?_)
  · obtain ⟨ms, o, e1, e2, e3, e4, e5, e6⟩ := p
    refine ⟨hw _, ?_⟩
    refine tyes_ok ?_
    refine he i H' o hi e4 e2 e3 _ fun v H4 o4 rv b4 s4 z4 => ⟨_, b4 _ _ hne e1, szl (by rw [List.length_map]; omega), ms ++ [v], o4, upd_snoc, (upd_ne hne.symm).trans s4, z4, but_upd hD (but_step b4 e4), by rw [List.length_append, e5]; rfl, fun x hx => ?_⟩
    rcases List.mem_append.mp hx with h | h
    · exact e6 x h
    · rw [List.mem_singleton.mp h]; exact rv
  · obtain ⟨ms, o, e1, e2, e3, e4, e5, e6⟩ := p
    exact hd H' ms o e5 e6 e4 e1 e2 e3
end
end Ur

namespace Ur
open PySem L2
structure HandOk (d m : Int) : Prop where
  d0 : 0 ≤ d
  m0 : 0 ≤ m
  m1 : m < 2147483587
end Ur

namespace Ur
open PySem L2
/-! ### last and next places: the plain functions -/
/-- the greatest place below i with the number x, or -1 -/
def lastAt (ns : List Int) : Nat → Int → Int
  | 0, _ => -1
  | i + 1, x => if ns.getD i 0 = x then (i : Int) else lastAt ns i x
def lastP (ns : List Int) : List Int := (List.range ns.length).map fun k => lastAt ns k (ns.getD k 0)
theorem lastP_len (ns : List Int) : (lastP ns).length = ns.length := by simp [lastP]
theorem lastP_get {ns : List Int} {k : Nat} (h : k < ns.length) : (lastP ns)[k]? = some (lastAt ns k (ns.getD k 0)) := by
  unfold lastP
  rw [List.getElem?_map, List.getElem?_range h]
  rfl
theorem lastP_take {ns : List Int} {i : Nat} (h : i < ns.length) : (lastP ns).take (i + 1) = (lastP ns).take i ++ [lastAt ns i (ns.getD i 0)] := by
  rw [List.take_add_one, lastP_get h]
  rfl
theorem lastAt_spec (ns : List Int) (x : Int) : ∀ i : Nat, (lastAt ns i x = -1 ∧ ∀ j, j < i → ns.getD j 0 ≠ x) ∨ ∃ v : Nat, lastAt ns i x = v ∧ v < i ∧ ns.getD v 0 = x ∧ ∀ j, v < j → j < i → ns.getD j 0 ≠ x
  | 0 => Or.inl ⟨rfl, fun _ h => absurd h (Nat.not_lt_zero _)⟩
  | i + 1 => by
    by_cases h : ns.getD i 0 = x
    · refine Or.inr ⟨i, ?_, Nat.lt_succ_self _, h, fun j h1 h2 => by omega⟩
      show (if ns.getD i 0 = x then (i : Int) else lastAt ns i x) = i
      rw [if_pos h]
    · have e : lastAt ns (i + 1) x = lastAt ns i x := by
        show (if ns.getD i 0 = x then (i : Int) else lastAt ns i x) = _
        rw [if_neg h]
      rcases lastAt_spec ns x i with ⟨h1, h2⟩ | ⟨v, h1, h2, h3, h4⟩
      · refine Or.inl ⟨e.trans h1, fun j hj => ?_⟩
        by_cases hji : j = i
        · rw [hji]; exact h
        · exact h2 j (by omega)
      · refine Or.inr ⟨v, e.trans h1, by omega, h3, fun j hj1 hj2 => ?_⟩
        by_cases hji : j = i
        · rw [hji]; exact h
        · exact h4 j hj1 (by omega)
theorem lastAt_range (ns : List Int) (x : Int) (i : Nat) : -1 ≤ lastAt ns i x ∧ lastAt ns i x < i := by
  rcases lastAt_spec ns x i with ⟨h1, _⟩ | ⟨v, h1, h2, _⟩ <;> omega
/-- what is it and nothing greater -/
theorem lastAt_uniq {ns : List Int} {x : Int} {i : Nat} {m : Int} (h1 : m = -1 ∨ ∃ v : Nat, m = v ∧ v < i ∧ ns.getD v 0 = x) (h2 : ∀ j : Nat, j < i → ns.getD j 0 = x → (j : Int) ≤ m) : lastAt ns i x = m := by
  rcases lastAt_spec ns x i with ⟨a1, a2⟩ | ⟨v, a1, a2, a3, a4⟩
  · rcases h1 with e | ⟨v, e, hv, hx⟩
    · omega
    · exact absurd hx (a2 v hv)
  · have q := h2 v a2 a3
    rcases h1 with e | ⟨u, e, hu, hx⟩
    · omega
    · by_cases huv : v < u
      · exact absurd hx (a4 u huv hu)
      · omega
/-- the least place above k, below i, with k's number, or the length -/
def nextUp (ns : List Int) (k : Nat) : Nat → Int
  | 0 => ns.length
  | i + 1 => if nextUp ns k i < ns.length then nextUp ns k i else if k < i ∧ ns.getD i 0 = ns.getD k 0 then (i : Int) else ns.length
def nextP (ns : List Int) : List Int := (List.range ns.length).map fun k => nextUp ns k ns.length
theorem nextP_len (ns : List Int) : (nextP ns).length = ns.length := by simp [nextP]
theorem nextP_get {ns : List Int} {k : Nat} (h : k < ns.length) : (nextP ns)[k]? = some (nextUp ns k ns.length) := by
  unfold nextP
  rw [List.getElem?_map, List.getElem?_range h]
  rfl
theorem nextUp_spec (ns : List Int) (k : Nat) : ∀ i : Nat, i ≤ ns.length → (nextUp ns k i = ns.length ∧ ∀ j, k < j → j < i → ns.getD j 0 ≠ ns.getD k 0) ∨ ∃ v : Nat, nextUp ns k i = v ∧ k < v ∧ v < i ∧ ns.getD v 0 = ns.getD k 0 ∧ ∀ j, k < j → j < v → ns.getD j 0 ≠ ns.getD k 0
  | 0, _ => Or.inl ⟨rfl, fun _ _ h => absurd h (Nat.not_lt_zero _)⟩
  | i + 1, hi => by
    have e : nextUp ns k (i + 1) = if nextUp ns k i < ns.length then nextUp ns k i else if k < i ∧ ns.getD i 0 = ns.getD k 0 then (i : Int) else ns.length := rfl
    rcases nextUp_spec ns k i (by omega) with ⟨h1, h2⟩ | ⟨v, h1, h2, h3, h4, h5⟩
    · rw [if_neg (by omega)] at e
      by_cases h : k < i ∧ ns.getD i 0 = ns.getD k 0
      · rw [if_pos h] at e
        exact Or.inr ⟨i, e, h.1, Nat.lt_succ_self _, h.2, h2⟩
      · rw [if_neg h] at e
        refine Or.inl ⟨e, fun j hj1 hj2 => ?_⟩
        by_cases hji : j = i
        · rw [hji]; exact fun z => h ⟨by omega, z⟩
        · exact h2 j hj1 (by omega)
    · rw [if_pos (by omega)] at e
      exact Or.inr ⟨v, e.trans h1, h2, by omega, h4, h5⟩
theorem nextUp_uniq {ns : List Int} {k i : Nat} (hi : i ≤ ns.length) {m : Int} (h1 : m = ns.length ∨ ∃ v : Nat, m = v ∧ k < v ∧ v < i ∧ ns.getD v 0 = ns.getD k 0) (h2 : ∀ j : Nat, k < j → j < i → ns.getD j 0 = ns.getD k 0 → m ≤ (j : Int)) (h3 : m ≤ ns.length) : nextUp ns k i = m := by
  rcases nextUp_spec ns k i hi with ⟨a1, a2⟩ | ⟨v, a1, a2, a3, a4, a5⟩
  · rcases h1 with e | ⟨v, e, hv, hv2, hx⟩
    · omega
    · exact absurd hx (a2 v hv hv2)
  · have q := h2 v a2 a3 a4
    rcases h1 with e | ⟨u, e, hu, hu2, hx⟩
    · omega
    · by_cases huv : u < v
      · exact absurd hx (a5 u hu huv)
      · omega
/-- one place on: the next place of k is i just where k is i's last place -/
theorem nextUp_step {ns : List Int} {k i : Nat} (hi : i < ns.length) (hk : k < ns.length) : nextUp ns k (i + 1) = if lastAt ns i (ns.getD i 0) = (k : Int) then (i : Int) else nextUp ns k i := by
  have e : nextUp ns k (i + 1) = if nextUp ns k i < ns.length then nextUp ns k i else if k < i ∧ ns.getD i 0 = ns.getD k 0 then (i : Int) else ns.length := rfl
  rw [e]
  rcases nextUp_spec ns k i (by omega) with ⟨a1, a2⟩ | ⟨v, a1, a2, a3, a4, a5⟩
  · rw [if_neg (by omega)]
    by_cases h : k < i ∧ ns.getD i 0 = ns.getD k 0
    · rw [if_pos h, if_pos]
      refine lastAt_uniq (Or.inr ⟨k, rfl, h.1, h.2.symm⟩) fun j hj hx => ?_
      by_cases hkj : k < j
      · exact absurd (hx.trans h.2) (a2 j hkj hj)
      · omega
    · rw [if_neg h, if_neg, a1]
      intro q
      rcases lastAt_spec ns (ns.getD i 0) i with ⟨b1, _⟩ | ⟨u, b1, b2, b3, _⟩
      · omega
      · have : u = k := by omega
        subst this
        exact h ⟨b2, b3.symm⟩
  · rw [if_pos (by omega), if_neg]
    intro q
    rcases lastAt_spec ns (ns.getD i 0) i with ⟨b1, _⟩ | ⟨u, b1, b2, b3, b4⟩
    · omega
    · have : u = k := by omega
      subst this
      exact b4 v a2 a3 (a4.trans b3)
theorem getD_of {ns : List Int} {i : Nat} {n : Int} (h : ns[i]? = some n) : ns.getD i 0 = n := by
  rw [List.getD_eq_getElem?_getD, h]; rfl
theorem get_of {ns : List Int} {i : Nat} (h : i < ns.length) : ns[i]? = some (ns.getD i 0) := by
  rw [List.getD_eq_getElem?_getD, List.getElem?_eq_getElem h]; rfl
theorem ext_getD {ns ms : List Int} (hl : ns.length = ms.length) (h : ∀ i, i < ns.length → ns.getD i 0 = ms.getD i 0) : ns = ms := by
  refine List.ext_getElem? fun i => ?_
  by_cases hi : i < ns.length
  · rw [get_of hi, get_of (by omega), h i hi]
  · rw [List.getElem?_eq_none (by omega), List.getElem?_eq_none (by omega)]
/-- a list of ints at an address, its items told otherwise -/
theorem lst_cast {H : Hp} {a : Addr} {xs ys : List V} (h : H a = some (.lst xs)) (e : xs = ys) : H a = some (.lst ys) := by rw [h, e]
/-! what the laws' own ways of reckoning come to -/
theorem tn0 (k : Nat) : ((0 : Int) + (k : Int)).toNat = k := by omega
theorem dvi {a b : Int} : decide (V.int a = V.int b) = decide (a = b) := by
  by_cases h : a = b
  · rw [h]; simp
  · rw [decide_eq_false h]
    exact decide_eq_false (fun e => h (V.int.inj e))
theorem lasts_max {ns : List Int} {k : Nat} {m : Int}
    (h1 : m ∈ (-1 : Int) :: ((List.range ((0 : Int) + (k : Int)).toNat).filter fun j : Nat => decide (V.int (ns.getD ((0 : Int) + (j : Int)).toNat 0) = V.int (ns.getD ((0 : Int) + (k : Int)).toNat 0))).map fun j : Nat => (0 : Int) + (j : Int))
    (h2 : ∀ x ∈ (-1 : Int) :: ((List.range ((0 : Int) + (k : Int)).toNat).filter fun j : Nat => decide (V.int (ns.getD ((0 : Int) + (j : Int)).toNat 0) = V.int (ns.getD ((0 : Int) + (k : Int)).toNat 0))).map fun j : Nat => (0 : Int) + (j : Int), x ≤ m) :
    lastAt ns k (ns.getD k 0) = m := by
  simp only [tn0, dvi] at h1 h2
  refine lastAt_uniq ?_ (fun j hj e => ?_)
  · rcases List.mem_cons.mp h1 with e | e
    · exact Or.inl e
    · obtain ⟨j, hj, rfl⟩ := List.mem_map.mp e
      obtain ⟨hj1, hj2⟩ := List.mem_filter.mp hj
      exact Or.inr ⟨j, by omega, List.mem_range.mp hj1, of_decide_eq_true hj2⟩
  · have h := h2 (0 + (j : Int)) (List.mem_cons_of_mem _ (List.mem_map.mpr ⟨j, List.mem_filter.mpr ⟨List.mem_range.mpr hj, decide_eq_true e⟩, rfl⟩))
    omega
theorem tn1 (n k : Nat) : ((n : Int) - ((0 : Int) + (k : Int) + 1)).toNat = n - (k + 1) := by omega
theorem tn2 (k j : Nat) : ((0 : Int) + (k : Int) + 1 + (j : Int)).toNat = k + 1 + j := by omega
theorem nexts_min {ns : List Int} {k : Nat} {m : Int} (hk : k < ns.length)
    (h1 : m ∈ ((List.range ((ns.length : Int) - ((0 : Int) + (k : Int) + 1)).toNat).filter fun j : Nat => decide (V.int (ns.getD ((0 : Int) + (k : Int) + 1 + (j : Int)).toNat 0) = V.int (ns.getD ((0 : Int) + (k : Int)).toNat 0))).map (fun j : Nat => (0 : Int) + (k : Int) + 1 + (j : Int)) ++ [(ns.length : Int)])
    (h2 : ∀ x ∈ ((List.range ((ns.length : Int) - ((0 : Int) + (k : Int) + 1)).toNat).filter fun j : Nat => decide (V.int (ns.getD ((0 : Int) + (k : Int) + 1 + (j : Int)).toNat 0) = V.int (ns.getD ((0 : Int) + (k : Int)).toNat 0))).map (fun j : Nat => (0 : Int) + (k : Int) + 1 + (j : Int)) ++ [(ns.length : Int)], m ≤ x) :
    nextUp ns k ns.length = m := by
  simp only [tn0, tn1, tn2, dvi] at h1 h2
  have hm : m ≤ ns.length := h2 _ (List.mem_append.mpr (Or.inr (List.mem_singleton.mpr rfl)))
  refine nextUp_uniq (Nat.le_refl _) ?_ (fun j h3 h4 e => ?_) hm
  · rcases List.mem_append.mp h1 with e | e
    · obtain ⟨j, hj, rfl⟩ := List.mem_map.mp e
      obtain ⟨hj1, hj2⟩ := List.mem_filter.mp hj
      have := List.mem_range.mp hj1
      exact Or.inr ⟨k + 1 + j, by omega, by omega, by omega, of_decide_eq_true hj2⟩
    · exact Or.inl (List.mem_singleton.mp e)
  · have h := h2 (0 + (k : Int) + 1 + ((j - (k + 1) : Nat) : Int)) (List.mem_append.mpr (Or.inl (List.mem_map.mpr ⟨j - (k + 1), List.mem_filter.mpr ⟨List.mem_range.mpr (by omega), decide_eq_true (by rw [show k + 1 + (j - (k + 1)) = j by omega]; exact e)⟩, rfl⟩)))
    omega
theorem same_dec {ns ms : List Int} (hl : (ns.length : Int) = (ms.length : Int)) :
    decide ((((List.range (ms.length : Int).toNat).filter fun j : Nat => !decide (V.int (ns.getD ((0 : Int) + (j : Int)).toNat 0) = V.int (ms.getD ((0 : Int) + (j : Int)).toNat 0))).map fun j : Nat => (0 : Int) + (j : Int)) = []) = decide (ns = ms) := by
  simp only [tn0, dvi, Int.toNat_natCast]
  refine decide_eq_decide.mpr ⟨fun h => ?_, fun h => ?_⟩
  · refine ext_getD (by omega) (fun i hi => ?_)
    have h2 := List.filter_eq_nil_iff.mp (List.map_eq_nil_iff.mp h) i (List.mem_range.mpr (by omega))
    simpa using h2
  · subst h
    simp
end Ur

namespace Ur
open PySem L2
/-! ### told lists that are held, each with what is due -/
/-- a pair of lists of the same ints, none of them the list that holds -/
structure PairOk (h : Addr) (H : Hp) (p : Addr) : Prop where
  off : p ≠ h
  both : ∃ (a b : Addr) (ns : List Int), a ≠ h ∧ b ≠ h ∧ H p = some (.lst [.ref a, .ref b]) ∧ H a = some (.lst (ns.map V.int)) ∧ H b = some (.lst (ns.map V.int))
/-- the list that holds at most n pairs -/
structure HeldOk (h : Addr) (H : Hp) (n : Nat) : Prop where
  all : ∃ ps : List Addr, H h = some (.lst (ps.map V.ref)) ∧ ps.length ≤ n ∧ ∀ p ∈ ps, PairOk h H p
theorem PairOk.step {h p : Addr} {H H' : Hp} (k : PairOk h H p) (b : But h H H') : PairOk h H' p := by
  obtain ⟨x, y, ns, hx, hy, e, e1, e2⟩ := k.both
  exact ⟨k.off, x, y, ns, hx, hy, b _ _ k.off e, b _ _ hx e1, b _ _ hy e2⟩
theorem Same.but {h : Addr} {H H' : Hp} (s : Same H H') : But h H H' := fun b o _ e => s b o e
theorem HeldOk.same {h : Addr} {H H' : Hp} {n : Nat} (k : HeldOk h H n) (s : Same H H') : HeldOk h H' n := by
  obtain ⟨ps, e, l, f⟩ := k.all
  exact ⟨ps, s _ _ e, l, fun p hp => (f p hp).step (Same.but s)⟩
theorem HeldOk.mono {h : Addr} {H : Hp} {n m : Nat} (k : HeldOk h H n) (l : n ≤ m) : HeldOk h H m := by
  obtain ⟨ps, e, q, f⟩ := k.all
  exact ⟨ps, e, Nat.le_trans q l, f⟩
/-- .. with more pairs behind -/
theorem HeldOk.grow {h : Addr} {H H' : Hp} {m : Nat} {ps qs : List Addr} (e : H h = some (.lst (ps.map V.ref))) (l : ps.length + qs.length ≤ m) (f : ∀ p ∈ ps, PairOk h H p) (b : But h H H') (e' : H' h = some (.lst ((ps ++ qs).map V.ref))) (g : ∀ p ∈ qs, PairOk h H' p) : HeldOk h H' m :=
  ⟨ps ++ qs, e', by rw [List.length_append]; exact l, fun p hp => by
    rcases List.mem_append.mp hp with k | k
    · exact (f p k).step b
    · exact g p k⟩
theorem HeldOk.new {h : Addr} {H : Hp} (e : H h = some (.lst [])) : HeldOk h H 0 := ⟨[], e, Nat.le_refl 0, fun p hp => nomatch hp⟩
end Ur

namespace Ur
open PySem L2
/-- over the cells, each with its place: what is new in H1 stays as the loop goes on -/
theorem for_cells {K : PySem.W.Frag} {H0 H1 : Hp} {cs : List Int} {p : Addr} {ts : List Addr} {i j : Nat} {tb : TS} {D : Ends} {σ : L2.St} (N : UrE.NewPairs H0 (UrE.enumC (cs.map V.int)) p ts H1)
    (Pv : Nat → L2.St → Hp → Prop) (h0 : Pv 0 σ H1) (hb : ∀ n σ H, Pv n σ H → ∀ b o, H0 b = none → H1 b = some o → H b = some o)
    (hs : ∀ n c σ H, cs[n]? = some c → Pv n σ H → tb { D with nx := Pv (n + 1), ct := Pv (n + 1), bk := D.nx } ((σ.set i (some (.int (n : Nat)))).set j (some (.int c))) H) (hd : ∀ σ H, Pv cs.length σ H → D.nx σ H) :
    ∃ W : Nat → Nat → L2.St → Hp → Prop, (∃ m, W 0 m σ H1) ∧ ∀ k m σ H, W k m σ H →
      ((Itl K p).stop k H ∧ D.nx σ H) ∨ ((Itl K p).go k H ∧ ∃ N : L2.St → Hp → Prop, (∀ σ' H', N σ' H' → ∃ m', m' < m ∧ W (k + 1) m' σ' H') ∧ ∀ x H', (Itl K p).yld k H x H' → gTup K 2 (gCons (gName i) (gCons (gName j) gNil)) x σ H' fun σ2 H2 => tb { D with nx := N, ct := N, bk := D.nx } σ2 H2) := by
  obtain ⟨n1, n2, n3, n4, n5, n6, n7, n8⟩ := N
  have hl : ts.length = cs.length := by rw [n6, UrE.enumC_len, List.length_map]
  refine for_list (xs := ts.map V.ref) Pv h0 (fun k σ H hk q => .of (hb k σ H q p _ n2 n7)) (fun k x σ H hx q => ?_) (fun σ H q => hd σ H (by rw [List.length_map, hl] at q; exact q))
  rw [List.getElem?_map] at hx
  cases ht : ts[k]? with
  | none => rw [ht] at hx; cases hx
  | some t =>
    rw [ht] at hx
    cases hx
    have hk : k < cs.length := by rw [← hl]; exact (List.getElem?_eq_some_iff.mp ht).1
    have hc : cs[k]? = some cs[k] := List.getElem?_eq_getElem hk
    have he : (UrE.enumC (cs.map V.int))[k]? = some [.int (k : Nat), .int cs[k]] := by rw [UrE.enumC_get, List.getElem?_map, hc]; rfl
    obtain ⟨t', e1, e2⟩ := n8 k _ he
    rw [ht] at e1
    cases e1
    have hn : H0 t = none := n3 t (List.mem_of_getElem? ht)
    exact ⟨t, _, rfl, .of (hb k σ H q t _ hn e2), rfl, _, _, rfl, _, _, rfl, rfl, hs k _ σ H hc q⟩
end Ur
namespace Ur
open PySem L2
theorem sql_fresh {K : PySem.W.Frag} {H0 H : Hp} {a h : Addr} {o : HO} {xs : List V} (nh : H0 h = none) (b : But h (upd H0 h o) H) (q : SqL K H0 a xs) : SqL K H a xs := by
  have st : ∀ (x : Addr) (u : HO), H0 x = some u → H x = some u := fun x u e => by
    have ne : x ≠ h := fun k => by rw [k, nh] at e; cases e
    exact b x u ne (by rw [upd_ne ne]; exact e)
  rcases q with (q | ⟨o, q⟩) | q
  · exact .inl (.inl (st _ _ q))
  · exact .inl (.inr ⟨o, st _ _ q⟩)
  · exact .inr q
end Ur

namespace Ur
open PySem L2
/-! ### unlike ints of a list -/
/-- the unlike ones, in the order in which they come -/
def uni (ns : List Int) : List Int := ns.foldl PyProof.Rows.step_dedup []
/-- how many -/
def ulen (ns : List Int) : Nat := (uni ns).length
theorem uni_snoc_any (ns : List Int) (x : Int) : uni (ns ++ [x]) = if (uni ns).any (· == x) = true then uni ns else uni ns ++ [x] := by
  unfold uni
  rw [List.foldl_append]
  rfl
theorem rev_ind {P : List Int → Prop} (h0 : P []) (hs : ∀ ns x, P ns → P (ns ++ [x])) (ns : List Int) : P ns := by
  have k : ∀ l : List Int, P l.reverse := by
    intro l
    induction l with
    | nil => exact h0
    | cons x l ih => rw [List.reverse_cons]; exact hs _ _ ih
  have := k ns.reverse
  rwa [List.reverse_reverse] at this
theorem mem_uni (ns : List Int) : ∀ x, x ∈ uni ns ↔ x ∈ ns := by
  refine rev_ind (P := fun ns => ∀ x, x ∈ uni ns ↔ x ∈ ns) (fun x => by simp [uni]) (fun ns y ih x => ?_) ns
  rw [uni_snoc_any]
  by_cases h : (uni ns).any (· == y) = true
  · rw [if_pos h, ih, List.mem_append]
    obtain ⟨z, hz, e⟩ := List.any_eq_true.mp h
    have e2 : z = y := eq_of_beq e
    rw [e2] at hz
    constructor
    · exact fun k => Or.inl k
    · rintro (k | k)
      · exact k
      · rw [List.mem_singleton.mp k]; exact (ih y).mp hz
  · rw [if_neg h, List.mem_append, List.mem_append, ih]
theorem uni_snoc (ns : List Int) (x : Int) : uni (ns ++ [x]) = if x ∈ ns then uni ns else uni ns ++ [x] := by
  rw [uni_snoc_any]
  by_cases h : x ∈ ns
  · have k : (uni ns).any (· == x) = true := List.any_eq_true.mpr ⟨x, (mem_uni ns x).mpr h, beq_self_eq_true x⟩
    rw [if_pos h, if_pos k]
  · rw [if_neg h, if_neg]
    intro k
    obtain ⟨z, hz, e⟩ := List.any_eq_true.mp k
    have e2 : z = x := eq_of_beq e
    exact h (e2 ▸ (mem_uni ns z).mp hz)
theorem ulen_snoc (ns : List Int) (x : Int) : ulen (ns ++ [x]) = if x ∈ ns then ulen ns else ulen ns + 1 := by
  unfold ulen
  rw [uni_snoc]
  by_cases h : x ∈ ns
  · rw [if_pos h, if_pos h]
  · rw [if_neg h, if_neg h, List.length_append]; rfl
theorem ulen_le (ns : List Int) : ulen ns ≤ ns.length := by
  refine rev_ind (P := fun ns => ulen ns ≤ ns.length) (Nat.le_refl 0) (fun ns x ih => ?_) ns
  rw [ulen_snoc, List.length_append]
  have : [x].length = 1 := rfl
  split <;> omega
theorem uni_nodup (ns : List Int) : (uni ns).Nodup := by
  refine rev_ind (P := fun ns => (uni ns).Nodup) List.nodup_nil (fun ns x ih => ?_) ns
  rw [uni_snoc]
  by_cases h : x ∈ ns
  · rw [if_pos h]; exact ih
  · rw [if_neg h, List.nodup_append]
    refine ⟨ih, List.nodup_cons.mpr ⟨by simp, List.nodup_nil⟩, fun a ha b hb e => ?_⟩
    rw [List.mem_singleton.mp hb] at e
    exact h (e ▸ (mem_uni ns a).mp ha)
theorem map_getD (ns : List Int) : (List.range ns.length).map (fun i => ns.getD i 0) = ns := by
  refine List.ext_getElem (by simp) fun i h1 h2 => ?_
  rw [List.getElem_map, List.getElem_range, List.getD_eq_getElem?_getD, List.getElem?_eq_getElem h2]
  rfl
theorem firstMet_uni (ns : List Int) : PyProof.Rows.firstMet (fun i => ns.getD i 0) ns.length = uni ns := by
  unfold PyProof.Rows.firstMet uni
  rw [map_getD]
/-! ### len(set(xs)) -/
def tLenSetU (K : PySem.W.Frag) (ta : TE) : TE := fun σ H Q => ta σ H fun x H1 => ∃ (l : Addr) (ns : List Int), x = .ref l ∧ SqL K H1 l (ns.map V.int) ∧ ns.length ≤ 4000 ∧ Q (.int (ulen ns : Nat)) H1
open PySem.Spec PyProof.Rows in
theorem pe_lenSetU {X : Cx} {K : PySem.W.Frag} {a : Expr} {ta : TE} {p p2 q pos : Pos} (hk : X.K = K) (hg : Gl X "len") (hm : X.mg "len" = none) (hg2 : Gl X "set") (hm2 : X.mg "set" = none) (ha : PE X a ta) (hc : X.calm = true := by rfl)
    (na : starEach [a] X.env = (false, eval a X.env) :: starEach [] X.env := by rfl) : PE X (.Call (.Name "len" p) [.Call (.Name "set" p2) [a] [] q] [] pos) (tLenSetU K ta) := by
  subst hk
  refine ⟨fun pins s σ H Q I h => ?_⟩
  refine Call_ (ld_blt I hg hm boot_len ?_)
  refine PyProof.Rows.callWith_builtin1 (PyProof.Rows.args_cons ?_ rfl) rfl rfl
  refine Call_ (ld_blt I hg2 hm2 boot_set ?_)
  refine PyProof.Rows.callWith_type1 (PyProof.Rows.args_cons (thn (ha.run pins s σ H _ I h) fun v s1 ⟨x, H1, I1, r1, q1⟩ => PyProof.Rows.args_nil ?_) na) na rfl
  obtain ⟨l, ns, rfl, hq, hl, q1⟩ := q1
  cases r1
  obtain ⟨its, r, pl, hz⟩ := I1.list hq
  have hlen : its.toArray.size = ns.length := by rw [List.size_toArray, ← r.length, List.length_map]
  refine call_set_list (I1.ok.hd hc) pl.isList (by simpa using RZ.intsAre_vals r) (by rw [hlen]; unfold scanBound; omega) fun h' tk hS hk => ?_
  refine PyProof.Rows.args_nil ?_
  rw [hlen, firstMet_uni] at hS
  obtain ⟨o, es, ep, t, ho, hex, hd, _, _, _, hf, hn⟩ := hS
  have I2 : Inv X pins σ H1 { s1 with heap := h', toks := tk } := I1.kept fun b o e => hk b o (Heap.lt_size e) e
  exact call_len_set ho hex hd hf (by rw [hn]; have := ulen_le ns; unfold ulen at this; omega) ⟨.int (ulen ns : Nat), H1, I2.tok _, ⟨_, by rw [hn]; rfl⟩, q1⟩
end Ur

namespace Ur
open PySem L2
/-! ### plain rows -/
/-- how many unlike ones stand ahead of the place at which x stands first -/
def plainAt (ns : List Int) (x : Int) : Nat := ulen (ns.take (ns.idxOf x))
def plainP (ns : List Int) : List Int := ns.map fun x => (plainAt ns x : Int)
theorem plainP_len (ns : List Int) : (plainP ns).length = ns.length := by simp [plainP]
theorem take_snoc {ns : List Int} {i : Nat} {x : Int} (h : ns[i]? = some x) : ns.take (i + 1) = ns.take i ++ [x] := by
  rw [List.take_add_one, h]; rfl
theorem idx_first {ns : List Int} {i : Nat} {x : Int} (h : ns[i]? = some x) (n : x ∉ ns.take i) : ns.idxOf x = i := by
  obtain ⟨hi, e⟩ := List.getElem?_eq_some_iff.mp h
  have e2 : ns = ns.take i ++ ns.drop i := (List.take_append_drop i ns).symm
  have e3 : ns.drop i = x :: ns.drop (i + 1) := by rw [List.drop_eq_getElem_cons hi, e]
  have hl : (ns.take i).length = i := by rw [List.length_take]; omega
  have e4 : (ns.take i ++ ns.drop i).idxOf x = i := by
    rw [List.idxOf_append, if_neg n, e3, List.idxOf_cons_self, hl]; omega
  rwa [← e2] at e4
theorem idx_lt {ns : List Int} {x : Int} (h : x ∈ ns) : ns.idxOf x < ns.length := List.idxOf_lt_length_of_mem h
theorem idx_get {ns : List Int} {x : Int} (h : x ∈ ns) : ns[ns.idxOf x]? = some x := by
  rw [List.getElem?_eq_getElem (idx_lt h), List.getElem_idxOf]
theorem idx_not {ns : List Int} {x : Int} : x ∉ ns.take (ns.idxOf x) := fun k => by
  obtain ⟨j, hj, e⟩ := List.getElem_of_mem k
  rw [List.getElem_take] at e
  have h1 : j < ns.idxOf x := by rw [List.length_take] at hj; omega
  have h2 := List.not_of_lt_findIdx (p := (· == x)) (xs := ns) h1
  simp [e] at h2
theorem putK_len {kvs : List (Key × V)} {k : Key} {v : V} (h : valV kvs k = none) : (putK kvs k v).length = kvs.length + 1 := by
  have e : (kvs.any fun kv => decide (kv.1 = k)) = false := by
    cases q : (kvs.any fun kv => decide (kv.1 = k)) with
    | false => rfl
    | true =>
      obtain ⟨p, hp, e⟩ := List.any_eq_true.mp q
      unfold valV at h
      rw [Option.map_eq_none_iff, List.find?_eq_none] at h
      exact absurd e (h p hp)
  unfold putK
  rw [e, if_neg Bool.false_ne_true, List.length_append]
  rfl
theorem ulen_mono {ns : List Int} : ∀ {j i : Nat}, i ≤ j → ulen (ns.take i) ≤ ulen (ns.take j)
  | 0, i, h => by rw [Nat.le_zero.mp h]; exact Nat.le_refl _
  | j + 1, i, h => by
    rcases Nat.lt_or_eq_of_le h with h | rfl
    · refine Nat.le_trans (ulen_mono (Nat.le_of_lt_succ h)) ?_
      cases e : ns[j]? with
      | none => rw [List.take_add_one, e]; simp
      | some x => rw [take_snoc e, ulen_snoc]; split <;> omega
    · exact Nat.le_refl _
theorem plainAt_lt {ns : List Int} {x y : Int} (hx : x ∈ ns) (h : ns.idxOf x < ns.idxOf y) : plainAt ns x < plainAt ns y := by
  unfold plainAt
  have h1 : ulen (ns.take (ns.idxOf x + 1)) = ulen (ns.take (ns.idxOf x)) + 1 := by
    rw [take_snoc (idx_get hx), ulen_snoc, if_neg idx_not]
  have h2 := ulen_mono (ns := ns) (show ns.idxOf x + 1 ≤ ns.idxOf y from h)
  omega
theorem plainAt_inj {ns : List Int} {x y : Int} (hx : x ∈ ns) (hy : y ∈ ns) (h : plainAt ns x = plainAt ns y) : x = y := by
  rcases Nat.lt_trichotomy (ns.idxOf x) (ns.idxOf y) with k | k | k
  · exact absurd (plainAt_lt hx k) (by omega)
  · have e := idx_get hx
    rw [k, idx_get hy] at e
    exact (Option.some.inj e).symm
  · exact absurd (plainAt_lt hy k) (by omega)
/-- f calls the numbers of ns otherwise, one for one -/
def InjOn (f : Int → Int) (ns : List Int) : Prop := ∀ x ∈ ns, ∀ y ∈ ns, f x = f y → x = y
theorem mem_map_inj {f : Int → Int} {ns ms : List Int} {x : Int} (h : InjOn f ns) (hx : x ∈ ns) (hs : ∀ y ∈ ms, y ∈ ns) : f x ∈ ms.map f ↔ x ∈ ms := by
  constructor
  · intro k
    obtain ⟨y, hy, e⟩ := List.mem_map.mp k
    exact h y (hs y hy) x hx e ▸ hy
  · exact fun k => List.mem_map.mpr ⟨x, k, rfl⟩
theorem ulen_map {f : Int → Int} {ns : List Int} (h : InjOn f ns) : ulen (ns.map f) = ulen ns := by
  have k : ∀ ms : List Int, (∀ y ∈ ms, y ∈ ns) → ulen (ms.map f) = ulen ms := fun ms => by
    refine rev_ind (P := fun ms => (∀ y ∈ ms, y ∈ ns) → ulen (ms.map f) = ulen ms) (fun _ => rfl) (fun ms x ih hs => ?_) ms
    have hs' : ∀ y ∈ ms, y ∈ ns := fun y hy => hs y (List.mem_append.mpr (Or.inl hy))
    have hx : x ∈ ns := hs x (List.mem_append.mpr (Or.inr (List.mem_singleton.mpr rfl)))
    have e := mem_map_inj h hx hs'
    rw [List.map_append, List.map_cons, List.map_nil, ulen_snoc, ulen_snoc, ih hs']
    by_cases q : x ∈ ms
    · rw [if_pos q, if_pos (e.mpr q)]
    · rw [if_neg q, if_neg (fun z => q (e.mp z))]
  exact k ns fun _ z => z
theorem InjOn.take {f : Int → Int} {ns : List Int} (h : InjOn f ns) (i : Nat) : InjOn f (ns.take i) := fun x hx y hy e => h x (List.mem_of_mem_take hx) y (List.mem_of_mem_take hy) e
theorem idx_map {f : Int → Int} {ns : List Int} {x : Int} (h : InjOn f ns) (hx : x ∈ ns) : (ns.map f).idxOf (f x) = ns.idxOf x := by
  refine idx_first ?_ ?_
  · rw [List.getElem?_map, idx_get hx]; rfl
  · rw [← List.map_take]
    exact fun k => idx_not ((mem_map_inj h hx (fun y hy => List.mem_of_mem_take hy)).mp k)
theorem plainP_map {f : Int → Int} {ns : List Int} (h : InjOn f ns) : plainP (ns.map f) = plainP ns := by
  unfold plainP
  rw [List.map_map]
  refine List.map_congr_left fun x hx => ?_
  show ((plainAt (ns.map f) (f x) : Nat) : Int) = (plainAt ns x : Nat)
  unfold plainAt
  rw [idx_map h hx, ← List.map_take, ulen_map (h.take _)]
theorem plainP_own (ns : List Int) : plainP (plainP ns) = plainP ns :=
  plainP_map (f := fun x => (plainAt ns x : Int)) fun x hx y hy e => plainAt_inj hx hy (by have e2 : ((plainAt ns x : Nat) : Int) = (plainAt ns y : Nat) := e; omega)
/-! ### their rules -/
theorem setd_int {H : Hp} {a : Addr} {kvs : List (Key × V)} {n : Int} {z : V} {Q : VK} (h : H a = some (.dK kvs))
    (q : kvs.length < sizeLine ∧ (∀ v, valV kvs (Sum.inl n) = some v → Q v H) ∧ (valV kvs (Sum.inl n) = none → Q z (upd H a (.dK (putK kvs (Sum.inl n) z))))) :
    ∃ (kvs : List (Key × V)) (k : Key), H a = some (.dK kvs) ∧ V.int n = kV k ∧ kvs.length < sizeLine ∧ (∀ v, valV kvs k = some v → Q v H) ∧ (valV kvs k = none → Q z (upd H a (.dK (putK kvs k z)))) :=
  ⟨kvs, Sum.inl n, h, rfl, q.1, q.2.1, q.2.2⟩
theorem index_int {K : PySem.W.Frag} {H : Hp} {a : Addr} {ns : List Int} {x : Int} {Q : VK} (h : SqL K H a (ns.map V.int)) (q : x ∈ ns ∧ Q (.int (ns.idxOf x : Nat)) H) : rIndex K (.ref a) [.int x] H Q := by
  refine ⟨a, ns.map V.int, .int x, ns.idxOf x, .int x, rfl, rfl, h, rfl, ?_, ?_, ?_, ?_, q.2⟩
  · rw [List.all_map]
    exact List.all_eq_true.mpr fun _ _ => rfl
  · rw [List.getElem?_map, idx_get q.1]; rfl
  · show (x == x) = true
    exact beq_self_eq_true x
  · intro m z' hm hz
    obtain ⟨n, hn, rfl⟩ := iv_get hz
    have ne : ¬ n = x := fun e => by
      rw [e] at hn
      refine idx_not (ns := ns) (x := x) (List.mem_of_getElem? (i := m) ?_)
      rw [List.getElem?_take, if_pos hm, hn]
    show (n == x) = false
    exact beq_eq_false_iff_ne.mpr ne
end Ur

namespace Ur
open PySem L2
theorem ps_never {X : Cx} {st : Stmt} : PS X st (fun _ _ _ => False) := ⟨fun _ _ _ _ _ _ h => h.elim⟩
theorem putF_le (k : Str) (v : V) : ∀ fs : List (Str × V), (putF k v fs).length ≤ fs.length + 1
  | [] => Nat.le_refl 1
  | (k', v') :: r => by
    unfold putF
    split
    · exact Nat.le_succ _
    · exact Nat.succ_le_succ (putF_le k v r)
theorem pf1 {k : Str} {v : V} : (putF k v []).length < 1000 := Nat.lt_of_le_of_lt (putF_le _ _ _) (by decide)
theorem pf2 {k k2 : Str} {v v2 : V} : (putF k v (putF k2 v2 [])).length < 1000 := Nat.lt_of_le_of_lt (putF_le _ _ _) (Nat.lt_of_le_of_lt (Nat.succ_le_succ (putF_le _ _ _)) (by decide))
theorem pf3 {k k2 k3 : Str} {v v2 v3 : V} : (putF k v (putF k2 v2 (putF k3 v3 []))).length < 1000 := Nat.lt_of_le_of_lt (putF_le _ _ _) (Nat.lt_of_le_of_lt (Nat.succ_le_succ (putF_le _ _ _)) (Nat.lt_of_le_of_lt (Nat.succ_le_succ (Nat.succ_le_succ (putF_le _ _ _))) (by decide)))
/-! ### a row made ready -/
def rdyF (n : Int) (la na : Addr) : List (Str × V) := putF "nexts" (.ref na) (putF "lasts" (.ref la) (putF "many" (.int n) []))
theorem rdy_many {n : Int} {la na : Addr} : (rdyF n la na).lookup ("many" : Str) = some (.int n) := by
  unfold rdyF
  rw [lookup_putF, if_neg (by decide), lookup_putF, if_neg (by decide), lookup_putF, if_pos rfl]
theorem rdy_lasts {n : Int} {la na : Addr} : (rdyF n la na).lookup ("lasts" : Str) = some (.ref la) := by
  unfold rdyF
  rw [lookup_putF, if_neg (by decide), lookup_putF, if_pos rfl]
theorem rdy_nexts {n : Int} {la na : Addr} : (rdyF n la na).lookup ("nexts" : Str) = some (.ref na) := by
  unfold rdyF
  rw [lookup_putF, if_pos rfl]
theorem rdy_no {n : Int} {la na : Addr} {m : Str} (h1 : ¬ m = "many") (h2 : ¬ m = "lasts") (h3 : ¬ m = "nexts") : (rdyF n la na).lookup m = none := by
  unfold rdyF
  rw [lookup_putF, if_neg h3, lookup_putF, if_neg h2, lookup_putF, if_neg h1]
  rfl
/-- at o a row made ready; its parts are none of L -/
structure Rdy (C : Addr) (L : Addr → Prop) (H : Hp) (o : Addr) (ns : List Int) : Prop where
  all : ∃ dx la na : Addr, H o = some (.ins C dx (rdyF ns.length la na)) ∧ H la = some (.lst ((lastP ns).map V.int)) ∧ H na = some (.lst ((nextP ns).map V.int)) ∧ ∀ b, L b → o ≠ b ∧ la ≠ b ∧ na ≠ b
theorem Rdy.same {C : Addr} {L : Addr → Prop} {H H' : Hp} {o : Addr} {ns : List Int} (r : Rdy C L H o ns) (s : Same H H') : Rdy C L H' o ns := by
  obtain ⟨dx, la, na, e1, e2, e3, f⟩ := r.all
  exact ⟨dx, la, na, s _ _ e1, s _ _ e2, s _ _ e3, f⟩
theorem Rdy.but {C : Addr} {L : Addr → Prop} {H H' : Hp} {o b : Addr} {ns : List Int} (r : Rdy C L H o ns) (l : L b) (s : But b H H') : Rdy C L H' o ns := by
  obtain ⟨dx, la, na, e1, e2, e3, f⟩ := r.all
  obtain ⟨f1, f2, f3⟩ := f b l
  exact ⟨dx, la, na, s _ _ f1 e1, s _ _ f2 e2, s _ _ f3 e3, f⟩
theorem Rdy.sub {C : Addr} {L L' : Addr → Prop} {H : Hp} {o : Addr} {ns : List Int} (r : Rdy C L H o ns) (l : ∀ b, L' b → L b) : Rdy C L' H o ns := by
  obtain ⟨dx, la, na, e1, e2, e3, f⟩ := r.all
  exact ⟨dx, la, na, e1, e2, e3, fun b k => f b (l b k)⟩
/-! ### windows -/
/-- the numbers of a window -/
def win (ns : List Int) (f b : Int) : List Int := (ns.drop f.toNat).take (b.toNat - f.toNat)
/-- how many unlike ones -/
def wun (ns : List Int) (f b : Int) : Nat := ulen (win ns f b)
theorem win_len {ns : List Int} {f b : Int} (h0 : 0 ≤ f) (h1 : f ≤ b) (h2 : b ≤ ns.length) : (win ns f b).length = (b - f).toNat := by
  unfold win
  rw [List.length_take, List.length_drop]
  omega
theorem mem_win {ns : List Int} {f k : Nat} {x : Int} : x ∈ (ns.drop f).take k ↔ ∃ j, f ≤ j ∧ j < f + k ∧ ns[j]? = some x := by
  constructor
  · intro h
    obtain ⟨j, hj⟩ := List.mem_iff_getElem?.mp h
    rw [List.getElem?_take] at hj
    by_cases hk : j < k
    · rw [if_pos hk, List.getElem?_drop] at hj
      exact ⟨f + j, by omega, by omega, hj⟩
    · rw [if_neg hk] at hj; cases hj
  · rintro ⟨j, h1, h2, e⟩
    refine List.mem_iff_getElem?.mpr ⟨j - f, ?_⟩
    rw [List.getElem?_take, if_pos (by omega), List.getElem?_drop, show f + (j - f) = j from by omega]
    exact e
theorem last_in {ns : List Int} {f k : Nat} (h : f + k < ns.length) : (ns.getD (f + k) 0 ∈ (ns.drop f).take k) ↔ ¬ lastAt ns (f + k) (ns.getD (f + k) 0) < (f : Int) := by
  rw [mem_win]
  rcases lastAt_spec ns (ns.getD (f + k) 0) (f + k) with ⟨e, n⟩ | ⟨v, e, h1, h2, n⟩
  · constructor
    · rintro ⟨j, h1, h2, e2⟩
      exact absurd (getD_of e2) (n j h2)
    · intro hn
      omega
  · constructor
    · rintro ⟨j, h3, h4, e2⟩ hlt
      rw [e] at hlt
      exact absurd (getD_of e2) (n j (by omega) h4)
    · intro hn
      refine ⟨v, by omega, h1, ?_⟩
      rw [get_of (by omega), h2]
/-- .. by the last places -/
theorem ulen_win {ns : List Int} {f : Nat} : ∀ k : Nat, f + k ≤ ns.length → ulen ((ns.drop f).take k) = ((((lastP ns).drop f).take k).filter (fun x => decide (x < (f : Int)))).length
  | 0, _ => by rw [List.take_zero, List.take_zero]; rfl
  | k + 1, h => by
    have hk : f + k < ns.length := h
    have e1 : (ns.drop f)[k]? = some (ns.getD (f + k) 0) := by rw [List.getElem?_drop]; exact get_of hk
    have e2 : ((lastP ns).drop f)[k]? = some (lastAt ns (f + k) (ns.getD (f + k) 0)) := by rw [List.getElem?_drop]; exact lastP_get hk
    rw [take_snoc e1, take_snoc e2, ulen_snoc, List.filter_append, List.length_append, ulen_win k (by omega)]
    have q := last_in hk
    by_cases hl : lastAt ns (f + k) (ns.getD (f + k) 0) < (f : Int)
    · rw [if_neg (fun z => q.mp z hl), List.filter_cons_of_pos (by exact decide_eq_true hl)]
      rfl
    · rw [if_pos (q.mpr hl), List.filter_cons_of_neg (by rw [decide_eq_false hl]; exact Bool.false_ne_true)]
      rfl
theorem wun_lasts {ns : List Int} {f b : Int} (h0 : 0 ≤ f) (h1 : f ≤ b) (h2 : b ≤ ns.length) : ((((lastP ns).drop f.toNat).take (b.toNat - f.toNat)).filter (fun x => decide (x < f))).length = wun ns f b := by
  have e := ulen_win (ns := ns) (f := f.toNat) (b.toNat - f.toNat) (by omega)
  rw [Int.toNat_of_nonneg h0] at e
  exact e.symm
end Ur

namespace Ur
open PySem L2
/-! ### sums -/
def sumTo (F : Nat → Int) : Nat → Int
  | 0 => 0
  | k + 1 => sumTo F k + F k
theorem sum_snoc (xs : List Int) (x : Int) : (xs ++ [x]).sum = xs.sum + x := by
  rw [List.sum_append]; simp
theorem sum_range (F : Nat → Int) : ∀ n : Nat, ((List.range n).map F).sum = sumTo F n
  | 0 => rfl
  | n + 1 => by rw [List.range_succ, List.map_append, List.map_cons, List.map_nil, sum_snoc, sum_range F n]; rfl
theorem sum_filter (t : Nat → Bool) (F : Nat → Int) : ∀ n : Nat, (((List.range n).filter t).map F).sum = sumTo (fun k => if t k = true then F k else 0) n
  | 0 => rfl
  | n + 1 => by
    rw [List.range_succ, List.filter_append, List.map_append, List.sum_append, sum_filter t F n]
    show _ = _ + (if t n = true then F n else 0)
    cases h : t n with
    | true => rw [List.filter_cons_of_pos h]; simp
    | false => rw [List.filter_cons_of_neg (by rw [h]; exact Bool.false_ne_true)]; simp
theorem sumTo_congr {F G : Nat → Int} : ∀ {n : Nat}, (∀ k, k < n → F k = G k) → sumTo F n = sumTo G n
  | 0, _ => rfl
  | n + 1, h => by
    show sumTo F n + F n = sumTo G n + G n
    rw [sumTo_congr (fun k hk => h k (Nat.lt_succ_of_lt hk)), h n (Nat.lt_succ_self n)]
theorem sumTo_add (F G : Nat → Int) : ∀ n : Nat, sumTo (fun k => F k + G k) n = sumTo F n + sumTo G n
  | 0 => rfl
  | n + 1 => by
    show sumTo (fun k => F k + G k) n + (F n + G n) = sumTo F n + F n + (sumTo G n + G n)
    rw [sumTo_add F G n]; omega
theorem sumTo_mul (F : Nat → Int) (c : Int) : ∀ n : Nat, sumTo (fun k => F k * c) n = sumTo F n * c
  | 0 => (Int.zero_mul c).symm
  | n + 1 => by
    show sumTo (fun k => F k * c) n + F n * c = (sumTo F n + F n) * c
    rw [sumTo_mul F c n, Int.add_mul]
theorem sumTo_zero : ∀ n : Nat, sumTo (fun _ => 0) n = 0
  | 0 => rfl
  | n + 1 => by show sumTo (fun _ => 0) n + 0 = 0; rw [sumTo_zero n]; rfl
theorem sumTo_swap (F : Nat → Nat → Int) (m : Nat) : ∀ n : Nat, sumTo (fun i => sumTo (fun j => F i j) m) n = sumTo (fun j => sumTo (fun i => F i j) n) m
  | 0 => (sumTo_zero m).symm
  | n + 1 => by
    show sumTo (fun i => sumTo (fun j => F i j) m) n + sumTo (fun j => F n j) m = sumTo (fun j => sumTo (fun i => F i j) n + F n j) m
    rw [sumTo_swap F m n, sumTo_add]
theorem sumTo_shift (F : Nat → Int) (f : Nat) : ∀ m : Nat, sumTo F (f + m) = sumTo F f + sumTo (fun k => F (f + k)) m
  | 0 => by show sumTo F f = sumTo F f + 0; omega
  | m + 1 => by
    show sumTo F (f + m) + F (f + m) = sumTo F f + (sumTo (fun k => F (f + k)) m + F (f + m))
    rw [sumTo_shift F f m]; omega
/-- how many k below n lie in [lo, hi) -/
theorem sumTo_count (lo hi : Int) (h0 : 0 ≤ lo) (h1 : lo ≤ hi) : ∀ n : Nat, hi ≤ n → sumTo (fun k => if lo ≤ (k : Int) ∧ (k : Int) < hi then 1 else 0) n = hi - lo := by
  have key : ∀ n : Nat, sumTo (fun k => if lo ≤ (k : Int) ∧ (k : Int) < hi then 1 else 0) n = if (n : Int) ≤ lo then 0 else if (n : Int) ≤ hi then n - lo else hi - lo := by
    intro n
    induction n with
    | zero => rw [if_pos (by omega)]; rfl
    | succ n ih =>
      show sumTo _ n + (if lo ≤ (n : Int) ∧ (n : Int) < hi then 1 else 0) = _
      rw [ih]
      (repeat' split) <;> omega
  intro n hn
  rw [key]
  (repeat' split) <;> omega
/-! ### windows, counted -/
theorem ulen_congr {a b : List Int} (h : ∀ x, x ∈ a ↔ x ∈ b) : ulen a = ulen b := by
  have p : (uni a).Perm (uni b) := (List.perm_ext_iff_of_nodup (uni_nodup a) (uni_nodup b)).mpr fun x => by rw [mem_uni, mem_uni]; exact h x
  exact p.length_eq
theorem ulen_cons (x : Int) (ns : List Int) : ulen (x :: ns) = if x ∈ ns then ulen ns else ulen ns + 1 := by
  rw [← ulen_snoc]
  exact ulen_congr fun y => by simp [or_comm]
/-- how many unlike ones stand from f on, ahead of b -/
def wunN (ns : List Int) (f b : Nat) : Nat := ulen ((ns.drop f).take (b - f))
theorem wun_N (ns : List Int) (f b : Int) : wun ns f b = wunN ns f.toNat b.toNat := rfl
theorem wunN_none (ns : List Int) (f : Nat) : wunN ns f f = 0 := by unfold wunN; rw [Nat.sub_self, List.take_zero]; rfl
theorem wunN_up {ns : List Int} {f b : Nat} (h : f ≤ b) (hb : b < ns.length) : wunN ns f (b + 1) = wunN ns f b + if lastAt ns b (ns.getD b 0) < (f : Int) then 1 else 0 := by
  unfold wunN
  have e : (ns.drop f)[b - f]? = some (ns.getD b 0) := by rw [List.getElem?_drop, show f + (b - f) = b from by omega]; exact get_of hb
  rw [show b + 1 - f = (b - f) + 1 from by omega, take_snoc e, ulen_snoc]
  have q := last_in (ns := ns) (f := f) (k := b - f) (by omega)
  rw [show f + (b - f) = b from by omega] at q
  by_cases hl : lastAt ns b (ns.getD b 0) < (f : Int)
  · rw [if_pos hl, if_neg (fun z => q.mp z hl)]
  · rw [if_neg hl, if_pos (q.mpr hl)]; rfl
theorem next_in {ns : List Int} {p b : Nat} (hp : p < b) (hb : b ≤ ns.length) : (ns.getD p 0 ∈ (ns.drop (p + 1)).take (b - (p + 1))) ↔ ¬ (b : Int) ≤ nextUp ns p ns.length := by
  rw [mem_win]
  rcases nextUp_spec ns p ns.length (Nat.le_refl _) with ⟨e, n⟩ | ⟨v, e, h1, h2, h3, n⟩
  · constructor
    · rintro ⟨j, h1, h2, e2⟩
      exact absurd (getD_of e2) (n j (by omega) (List.getElem?_eq_some_iff.mp e2).1)
    · intro hn; omega
  · constructor
    · rintro ⟨j, h4, h5, e2⟩ hlt
      rw [e] at hlt
      exact absurd (getD_of e2) (n j (by omega) (by omega))
    · intro hn
      refine ⟨v, by omega, by omega, ?_⟩
      rw [get_of h2, h3]
theorem wunN_down {ns : List Int} {p b : Nat} (hp : p < b) (hb : b ≤ ns.length) : wunN ns p b = wunN ns (p + 1) b + if (b : Int) ≤ nextUp ns p ns.length then 1 else 0 := by
  unfold wunN
  have hl : p < ns.length := by omega
  have e : (ns.drop p).take (b - p) = ns.getD p 0 :: (ns.drop (p + 1)).take (b - (p + 1)) := by
    have e1 : ns.drop p = ns.getD p 0 :: ns.drop (p + 1) := by
      rw [List.drop_eq_getElem_cons hl, List.getD_eq_getElem?_getD, List.getElem?_eq_getElem hl]
      rfl
    rw [e1, show b - p = (b - (p + 1)) + 1 from by omega]
    rfl
  rw [e, ulen_cons]
  have q := next_in hp hb
  by_cases hc : (b : Int) ≤ nextUp ns p ns.length
  · rw [if_pos hc, if_neg (fun z => q.mp z hc)]
  · rw [if_neg hc, if_pos (q.mpr hc)]; rfl
/-- .. by the last places -/
theorem wunN_lasts {ns : List Int} {f : Nat} : ∀ b : Nat, f ≤ b → b ≤ ns.length → (wunN ns f b : Int) = sumTo (fun p => if f ≤ p ∧ lastAt ns p (ns.getD p 0) < (f : Int) then 1 else 0) b := by
  intro b hb
  obtain ⟨k, rfl⟩ : ∃ k, b = f + k := ⟨b - f, by omega⟩
  clear hb
  induction k with
  | zero =>
    intro _
    rw [Nat.add_zero, wunN_none, sumTo_congr (G := fun _ => 0) (fun k hk => if_neg (fun z => by omega)), sumTo_zero]
    rfl
  | succ k ih =>
    intro h
    rw [show f + (k + 1) = (f + k) + 1 from rfl, wunN_up (by omega) (by omega)]
    show _ = sumTo _ (f + k) + (if f ≤ f + k ∧ lastAt ns (f + k) (ns.getD (f + k) 0) < (f : Int) then 1 else 0)
    rw [← ih (by omega)]
    by_cases hl : lastAt ns (f + k) (ns.getD (f + k) 0) < (f : Int)
    · rw [if_pos hl, if_pos ⟨by omega, hl⟩]; rfl
    · rw [if_neg hl, if_neg (fun z => hl z.2)]; rfl
/-- .. by the next places -/
theorem wunN_nexts {ns : List Int} {b : Nat} (hb : b ≤ ns.length) : ∀ k f : Nat, f + k = b → (wunN ns f b : Int) = sumTo (fun j => if (b : Int) ≤ nextUp ns (f + j) ns.length then 1 else 0) k
  | 0, f, h => by rw [show f = b from h, wunN_none]; rfl
  | k + 1, f, h => by
    rw [wunN_down (by omega) hb, Int.natCast_add, wunN_nexts hb k (f + 1) (by omega)]
    have e := sumTo_shift (fun j => if (b : Int) ≤ nextUp ns (f + j) ns.length then (1 : Int) else 0) 1 k
    rw [show k + 1 = 1 + k from by omega, e]
    have e2 : sumTo (fun j => if (b : Int) ≤ nextUp ns (f + j) ns.length then (1 : Int) else 0) 1 = if (b : Int) ≤ nextUp ns f ns.length then 1 else 0 := by
      show (0 : Int) + _ = _
      rw [Int.zero_add]; rfl
    rw [e2]
    have e3 : sumTo (fun k => if (b : Int) ≤ nextUp ns (f + (1 + k)) ns.length then (1 : Int) else 0) k = sumTo (fun j => if (b : Int) ≤ nextUp ns (f + 1 + j) ns.length then (1 : Int) else 0) k := sumTo_congr fun j _ => by rw [Nat.add_assoc]
    rw [e3]
    split <;> omega
end Ur

namespace Ur
open PySem L2
theorem qint {Q : VK} {H : Hp} {i j : Int} (h : Q (.int j) H) (e : i = j) : Q (.int i) H := e ▸ h
theorem qbv {Q : VK} {H : Hp} {i j : Bool} (h : Q (.bl j) H) (e : i = j) : Q (.bl i) H := e ▸ h
theorem qbl {Q : Bool → Hp → Prop} {H : Hp} {i j : Bool} (h : Q j H) (e : i = j) : Q i H := e ▸ h
/-- where the number at p stood last, stands next -/
def lp (ns : List Int) (p : Nat) : Int := lastAt ns p (ns.getD p 0)
def nx (ns : List Int) (p : Nat) : Int := nextUp ns p ns.length
theorem lp_range (ns : List Int) (p : Nat) : -1 ≤ lp ns p ∧ lp ns p < p := lastAt_range ns _ p
theorem lastP_getD {ns : List Int} {k : Nat} (h : k < ns.length) : (lastP ns).getD k 0 = lp ns k := getD_of (lastP_get h)
theorem nextP_getD {ns : List Int} {k : Nat} (h : k < ns.length) : (nextP ns).getD k 0 = nx ns k := getD_of (nextP_get h)
theorem wun_nat (ns : List Int) {x y : Int} {i j : Nat} (hx : x = i) (hy : y = j) : (wun ns x y : Int) = wunN ns i j := by
  subst hx hy
  rfl
theorem sumTo_cut (F : Nat → Int) {b n : Nat} (h : b ≤ n) : sumTo F b = sumTo (fun p => if p < b then F p else 0) n := by
  obtain ⟨m, rfl⟩ : ∃ m, n = b + m := ⟨n - b, by omega⟩
  rw [sumTo_shift, sumTo_congr (F := fun p => if p < b then F p else 0) (G := F) (fun k hk => if_pos hk), sumTo_congr (F := fun k => if b + k < b then F (b + k) else 0) (G := fun _ => 0) (fun k _ => if_neg (by omega)), sumTo_zero]
  omega
/-- Σ over k below n of c, where lo ≤ k < hi -/
theorem sumTo_some (c lo hi : Int) (h0 : 0 ≤ lo) (h1 : lo ≤ hi) {n : Nat} (hn : hi ≤ n) : sumTo (fun k => if lo ≤ (k : Int) ∧ (k : Int) < hi then c else 0) n = (hi - lo) * c := by
  rw [← sumTo_count lo hi h0 h1 n hn, ← sumTo_mul]
  exact sumTo_congr fun k _ => by split <;> simp
/-- the windows from i on, together -/
def herF (ns : List Int) (i : Nat) : Int := sumTo (fun p => if i ≤ p ∧ lp ns p < (i : Int) then (ns.length : Int) - p else 0) ns.length
theorem her_wins {ns : List Int} {i : Nat} (hi : i ≤ ns.length) : sumTo (fun k => (wunN ns i (i + k) : Int)) (ns.length + 1 - i) = herF ns i := by
  have e1 : sumTo (fun k => (wunN ns i (i + k) : Int)) (ns.length + 1 - i) = sumTo (fun k => sumTo (fun p => if p < i + k then (if i ≤ p ∧ lp ns p < (i : Int) then (1 : Int) else 0) else 0) ns.length) (ns.length + 1 - i) :=
    sumTo_congr fun k hk => by rw [wunN_lasts (i + k) (by omega) (by omega), sumTo_cut _ (show i + k ≤ ns.length by omega)]; rfl
  rw [e1, sumTo_swap]
  refine sumTo_congr fun p hp => ?_
  by_cases h : i ≤ p ∧ lp ns p < (i : Int)
  · rw [if_pos h]
    rw [sumTo_congr (G := fun k => if ((p + 1 - i : Nat) : Int) ≤ (k : Int) ∧ (k : Int) < ((ns.length + 1 - i : Nat) : Int) then 1 else 0) (fun k hk => ?_), sumTo_count _ _ (by omega) (by omega) _ (Int.le_refl _)]
    · omega
    · have := h.1
      by_cases q : p < i + k
      · rw [if_pos q, if_pos ⟨by omega, by omega⟩]
      · rw [if_neg q, if_neg (fun z => by omega)]
  · simp only [if_neg h]
    rw [sumTo_congr (G := fun _ => 0) (fun k _ => by simp), sumTo_zero]
theorem her_firsts {ns : List Int} {i : Nat} (hi : i ≤ ns.length) : sumTo (fun k => if decide (lp ns (i + k) < (i : Int)) = true then (ns.length : Int) - ((i + k : Nat) : Int) else 0) (ns.length - i) = herF ns i := by
  unfold herF
  have e := sumTo_shift (fun p => if i ≤ p ∧ lp ns p < (i : Int) then (ns.length : Int) - (p : Int) else 0) i (ns.length - i)
  rw [show i + (ns.length - i) = ns.length from by omega] at e
  rw [e, sumTo_congr (n := i) (G := fun _ => 0) (fun k hk => if_neg (fun z => by omega)), sumTo_zero, Int.zero_add]
  refine sumTo_congr fun k _ => ?_
  by_cases h : lp ns (i + k) < (i : Int)
  · rw [if_pos (decide_eq_true h), if_pos ⟨by omega, h⟩]
  · rw [if_neg (by rw [decide_eq_false h]; exact Bool.false_ne_true), if_neg (fun z => h z.2)]
theorem her_all (ns : List Int) : sumTo (herF ns) (ns.length + 1) = sumTo (fun p => ((p : Int) - lp ns p) * ((ns.length : Int) - p)) ns.length := by
  show sumTo (fun i => sumTo (fun p => if i ≤ p ∧ lp ns p < (i : Int) then (ns.length : Int) - p else 0) ns.length) (ns.length + 1) = _
  rw [sumTo_swap]
  refine sumTo_congr fun p hp => ?_
  have hr := lp_range ns p
  rw [sumTo_congr (G := fun i => if lp ns p + 1 ≤ (i : Int) ∧ (i : Int) < (p : Int) + 1 then (ns.length : Int) - p else 0) (fun i _ => ?_), sumTo_some _ _ _ (by omega) (by omega) (by omega)]
  · rw [show (p : Int) + 1 - (lp ns p + 1) = (p : Int) - lp ns p from by omega]
  · by_cases h : i ≤ p ∧ lp ns p < (i : Int)
    · rw [if_pos h, if_pos ⟨by omega, by omega⟩]
    · rw [if_neg h, if_neg (fun z => h ⟨by omega, by omega⟩)]
theorem end_wins {ns : List Int} {b : Nat} (hb : b ≤ ns.length) : sumTo (fun f => (wunN ns f b : Int)) (b + 1) = sumTo (fun p => if decide ((b : Int) ≤ nx ns p) = true then (p : Int) + 1 else 0) b := by
  have e1 : sumTo (fun f => (wunN ns f b : Int)) (b + 1) = sumTo (fun f => sumTo (fun p => if f ≤ p then (if (b : Int) ≤ nx ns p then (1 : Int) else 0) else 0) b) (b + 1) :=
    sumTo_congr fun f hf => by
      rw [wunN_nexts hb (b - f) f (by omega)]
      have e := sumTo_shift (fun p => if f ≤ p then (if (b : Int) ≤ nx ns p then (1 : Int) else 0) else 0) f (b - f)
      rw [show f + (b - f) = b from by omega] at e
      rw [e, sumTo_congr (n := f) (G := fun _ => 0) (fun k hk => if_neg (by omega)), sumTo_zero, Int.zero_add]
      exact sumTo_congr fun k _ => (if_pos (by omega)).symm
  rw [e1, sumTo_swap]
  refine sumTo_congr fun p hp => ?_
  by_cases h : (b : Int) ≤ nx ns p
  · rw [if_pos (decide_eq_true h)]
    rw [sumTo_congr (G := fun f => if (0 : Int) ≤ (f : Int) ∧ (f : Int) < (p : Int) + 1 then 1 else 0) (fun f _ => ?_), sumTo_count _ _ (by omega) (by omega) _ (by omega)]
    · omega
    · by_cases q : f ≤ p
      · rw [if_pos q, if_pos h, if_pos ⟨by omega, by omega⟩]
      · rw [if_neg q, if_neg (fun z => by omega)]
  · have hd : ¬ decide ((b : Int) ≤ nx ns p) = true := by simp [h]
    rw [if_neg hd]
    simp only [if_neg h]
    rw [sumTo_congr (G := fun _ => 0) (fun k _ => by simp), sumTo_zero]
end Ur

namespace Ur
open PySem L2
/-! ### ends and begins -/
def optV : Option Nat → V
  | none => .non
  | some b => .int (b : Nat)
/-- the least behind with m unlike ones, from k places ahead of the row's end on -/
def endK (ns : List Int) (f : Nat) (m : Int) : Nat → Option Nat
  | 0 => if m ≤ (wunN ns f ns.length : Int) then some ns.length else none
  | k + 1 => if m ≤ (wunN ns f (ns.length - (k + 1)) : Int) then some (ns.length - (k + 1)) else endK ns f m k
def endAt (ns : List Int) (f : Nat) (m : Int) : Option Nat := endK ns f m (ns.length - f)
theorem endK_yes {ns : List Int} {f k : Nat} {m : Int} (h : m ≤ (wunN ns f (ns.length - k) : Int)) : endK ns f m k = some (ns.length - k) := by
  cases k with
  | zero => exact if_pos h
  | succ k => exact if_pos h
theorem endK_no {ns : List Int} {f k : Nat} {m : Int} (h : ¬ m ≤ (wunN ns f (ns.length - (k + 1)) : Int)) : endK ns f m (k + 1) = endK ns f m k := if_neg h
theorem endK_none {ns : List Int} {f : Nat} {m : Int} (h : ¬ m ≤ (wunN ns f ns.length : Int)) : endK ns f m 0 = none := if_neg h
/-- the greatest first, from g on down -/
def begK (ns : List Int) (b : Nat) (m : Int) : Nat → Option Nat
  | 0 => if m ≤ (wunN ns 0 b : Int) then some 0 else none
  | g + 1 => if m ≤ (wunN ns (g + 1) b : Int) then some (g + 1) else begK ns b m g
def begAt (ns : List Int) (b : Nat) (m : Int) : Option Nat := begK ns b m b
theorem begK_yes {ns : List Int} {b g : Nat} {m : Int} (h : m ≤ (wunN ns g b : Int)) : begK ns b m g = some g := by
  cases g with
  | zero => exact if_pos h
  | succ g => exact if_pos h
theorem begK_no {ns : List Int} {b g : Nat} {m : Int} (h : ¬ m ≤ (wunN ns (g + 1) b : Int)) : begK ns b m (g + 1) = begK ns b m g := if_neg h
theorem begK_none {ns : List Int} {b : Nat} {m : Int} (h : ¬ m ≤ (wunN ns 0 b : Int)) : begK ns b m 0 = none := if_neg h
theorem wunN_step {ns : List Int} {f b : Nat} (h : f ≤ b) (hb : b < ns.length) : wunN ns f b ≤ wunN ns f (b + 1) ∧ wunN ns f (b + 1) ≤ wunN ns f b + 1 := by
  rw [wunN_up h hb]
  split <;> omega
theorem wunN_stepD {ns : List Int} {f b : Nat} (h : f < b) (hb : b ≤ ns.length) : wunN ns (f + 1) b ≤ wunN ns f b ∧ wunN ns f b ≤ wunN ns (f + 1) b + 1 := by
  rw [wunN_down h hb]
  split <;> omega
theorem wunN_monoB {ns : List Int} {f : Nat} : ∀ {k b : Nat}, f ≤ b → b + k ≤ ns.length → wunN ns f b ≤ wunN ns f (b + k)
  | 0, _, _, _ => Nat.le_refl _
  | k + 1, b, h, hb => Nat.le_trans (wunN_monoB (k := k) h (by omega)) (wunN_step (b := b + k) (by omega) (by omega)).1
theorem wunN_monoF {ns : List Int} {b : Nat} (hb : b ≤ ns.length) : ∀ {k f : Nat}, f + k ≤ b → wunN ns (f + k) b ≤ wunN ns f b
  | 0, _, _ => Nat.le_refl _
  | k + 1, f, h => Nat.le_trans (wunN_stepD (f := f + k) (by omega) hb).1 (wunN_monoF hb (k := k) (by omega))
/-- what an end is -/
theorem endK_spec {ns : List Int} {f : Nat} {m : Int} : ∀ k : Nat, k ≤ ns.length →
    (endK ns f m k = none ∧ ∀ b, ns.length - k ≤ b → b ≤ ns.length → ¬ m ≤ (wunN ns f b : Int)) ∨
    ∃ e, endK ns f m k = some e ∧ ns.length - k ≤ e ∧ e ≤ ns.length ∧ m ≤ (wunN ns f e : Int) ∧ ∀ b, ns.length - k ≤ b → b < e → ¬ m ≤ (wunN ns f b : Int)
  | 0, _ => by
    by_cases h : m ≤ (wunN ns f ns.length : Int)
    · exact .inr ⟨ns.length, if_pos h, Nat.le_refl _, Nat.le_refl _, h, fun b h1 h2 => absurd h1 (by omega)⟩
    · refine .inl ⟨if_neg h, fun b h1 h2 => ?_⟩
      rw [show b = ns.length from by omega]
      exact h
  | k + 1, hk => by
    by_cases h : m ≤ (wunN ns f (ns.length - (k + 1)) : Int)
    · exact .inr ⟨ns.length - (k + 1), if_pos h, Nat.le_refl _, by omega, h, fun b h1 h2 => absurd h1 (by omega)⟩
    · have er := endK_no h
      rcases endK_spec (ns := ns) (f := f) (m := m) k (by omega) with ⟨e1, e2⟩ | ⟨e, e1, e2, e3, e4, e5⟩
      · refine .inl ⟨er.trans e1, fun b h1 h2 => ?_⟩
        by_cases q : b = ns.length - (k + 1)
        · rw [q]; exact h
        · exact e2 b (by omega) h2
      · refine .inr ⟨e, er.trans e1, by omega, e3, e4, fun b h1 h2 => ?_⟩
        by_cases q : b = ns.length - (k + 1)
        · rw [q]; exact h
        · exact e5 b (by omega) h2
theorem endAt_spec {ns : List Int} {f : Nat} {m : Int} (hf : f ≤ ns.length) :
    (endAt ns f m = none ∧ ∀ b, f ≤ b → b ≤ ns.length → ¬ m ≤ (wunN ns f b : Int)) ∨
    ∃ e, endAt ns f m = some e ∧ f ≤ e ∧ e ≤ ns.length ∧ m ≤ (wunN ns f e : Int) ∧ ∀ b, f ≤ b → b < e → ¬ m ≤ (wunN ns f b : Int) := by
  have h := endK_spec (ns := ns) (f := f) (m := m) (ns.length - f) (by omega)
  rw [show ns.length - (ns.length - f) = f from by omega] at h
  exact h
theorem begK_spec {ns : List Int} {b : Nat} {m : Int} : ∀ g : Nat,
    (begK ns b m g = none ∧ ∀ j, j ≤ g → ¬ m ≤ (wunN ns j b : Int)) ∨
    ∃ e, begK ns b m g = some e ∧ e ≤ g ∧ m ≤ (wunN ns e b : Int) ∧ ∀ j, e < j → j ≤ g → ¬ m ≤ (wunN ns j b : Int)
  | 0 => by
    by_cases h : m ≤ (wunN ns 0 b : Int)
    · exact .inr ⟨0, if_pos h, Nat.le_refl _, h, fun j h1 h2 => absurd h1 (by omega)⟩
    · refine .inl ⟨if_neg h, fun j h1 => ?_⟩
      rw [show j = 0 from by omega]
      exact h
  | g + 1 => by
    by_cases h : m ≤ (wunN ns (g + 1) b : Int)
    · exact .inr ⟨g + 1, if_pos h, Nat.le_refl _, h, fun j h1 h2 => absurd h1 (by omega)⟩
    · have er := begK_no h
      rcases begK_spec (ns := ns) (b := b) (m := m) g with ⟨e1, e2⟩ | ⟨e, e1, e2, e3, e4⟩
      · refine .inl ⟨er.trans e1, fun j h1 => ?_⟩
        by_cases q : j = g + 1
        · rw [q]; exact h
        · exact e2 j (by omega)
      · refine .inr ⟨e, er.trans e1, by omega, e3, fun j h1 h2 => ?_⟩
        by_cases q : j = g + 1
        · rw [q]; exact h
        · exact e4 j h1 (by omega)
/-- an end by what it is -/
theorem endAt_is {ns : List Int} {f e : Nat} {m : Int} (h1 : f ≤ e) (h2 : e ≤ ns.length) (h3 : m ≤ (wunN ns f e : Int)) (h4 : ∀ b, f ≤ b → b < e → ¬ m ≤ (wunN ns f b : Int)) : endAt ns f m = some e := by
  rcases endAt_spec (ns := ns) (f := f) (m := m) (by omega) with ⟨_, e2⟩ | ⟨e', e1, g1, g2, g3, g4⟩
  · exact absurd h3 (e2 e h1 h2)
  · rcases Nat.lt_trichotomy e e' with k | k | k
    · exact absurd h3 (g4 e h1 k)
    · rw [e1, k]
    · exact absurd g3 (h4 e' g1 k)
/-- at an end there are just so many, one ahead of it one less -/
theorem end_just {ns : List Int} {f e : Nat} {m : Int} (h0 : 0 ≤ m) (h1 : f ≤ e) (h2 : e ≤ ns.length) (h3 : m ≤ (wunN ns f e : Int)) (h4 : ∀ b, f ≤ b → b < e → ¬ m ≤ (wunN ns f b : Int)) :
    (wunN ns f e : Int) = m ∧ (0 < m → f < e ∧ (wunN ns f (e - 1) : Int) = m - 1) := by
  by_cases h : f = e
  · rw [← h] at h3 ⊢
    rw [wunN_none] at h3 ⊢
    refine ⟨by omega, fun k => by omega⟩
  · have hb := h4 (e - 1) (by omega) (by omega)
    have hs := wunN_step (ns := ns) (f := f) (b := e - 1) (by omega) (by omega)
    rw [show e - 1 + 1 = e from by omega] at hs
    refine ⟨by omega, fun k => ⟨by omega, by omega⟩⟩
theorem beg_just {ns : List Int} {g b : Nat} {m : Int} (h0 : 0 ≤ m) (h1 : g ≤ b) (h2 : b ≤ ns.length) (h3 : m ≤ (wunN ns g b : Int)) (h4 : ∀ j, g < j → j ≤ b → ¬ m ≤ (wunN ns j b : Int)) :
    (wunN ns g b : Int) = m ∧ (0 < m → g < b ∧ (wunN ns (g + 1) b : Int) = m - 1) := by
  by_cases h : g = b
  · rw [← h] at h3 ⊢
    rw [wunN_none] at h3 ⊢
    refine ⟨by omega, fun k => by omega⟩
  · have hb := h4 (g + 1) (by omega) (by omega)
    have hs := wunN_stepD (ns := ns) (f := g) (b := b) (by omega) h2
    refine ⟨by omega, fun k => ⟨by omega, by omega⟩⟩
end Ur
namespace Ur
open PySem L2
theorem wunN_all (ns : List Int) : wunN ns 0 ns.length = ulen ns := by
  unfold wunN
  rw [List.drop_zero, Nat.sub_zero, List.take_length]
theorem wunN_le {ns : List Int} {f b : Nat} (h : f ≤ b) (hb : b ≤ ns.length) : wunN ns f b ≤ ulen ns := by
  have h1 := wunN_monoB (ns := ns) (f := f) (b := b) (k := ns.length - b) h (by omega)
  rw [show b + (ns.length - b) = ns.length from by omega] at h1
  have h2 := wunN_monoF (ns := ns) (b := ns.length) (Nat.le_refl _) (k := f) (f := 0) (by omega)
  rw [Nat.zero_add, wunN_all] at h2
  omega
theorem end_more (ns : List Int) : endAt ns 0 ((ulen ns : Nat) + 1 : Int) = none := by
  rcases endAt_spec (ns := ns) (f := 0) (m := (ulen ns : Nat) + 1) (Nat.zero_le _) with ⟨e1, _⟩ | ⟨e, _, h1, h2, h3, _⟩
  · exact e1
  · have := wunN_le h1 h2
    omega
theorem beg_more (ns : List Int) : begAt ns ns.length ((ulen ns : Nat) + 1 : Int) = none := by
  rcases begK_spec (ns := ns) (b := ns.length) (m := (ulen ns : Nat) + 1) ns.length with ⟨e1, _⟩ | ⟨e, _, h1, h2, _⟩
  · exact e1
  · have := wunN_le h1 (Nat.le_refl _)
    omega
theorem rgV_ints {b : Int} {n : Nat} (h : b = n) : rgV 0 b = ((List.range n).map fun k => ((k : Nat) : Int)).map V.int := by
  subst h
  unfold rgV
  rw [List.map_map, Int.sub_zero, Int.toNat_natCast]
  exact List.map_congr_left fun k _ => by rw [Int.zero_add]; rfl
end Ur
namespace Ur
open PySem L2
theorem inV_int {ns : List Int} {x : Int} : inV (.int x) (ns.map V.int) = decide (x ∈ ns) := by
  unfold inV
  rw [List.any_map, Bool.eq_iff_iff, List.any_eq_true, decide_eq_true_iff]
  constructor
  · rintro ⟨y, hy, e⟩
    have e2 : (y == x) = true ∨ (x == y) = true := by first | exact Or.inl e | exact Or.inr e
    rcases e2 with e2 | e2
    · exact eq_of_beq e2 ▸ hy
    · exact (eq_of_beq e2).symm ▸ hy
  · intro h
    refine ⟨x, h, ?_⟩
    exact beq_self_eq_true x
theorem in_int {K : PySem.W.Frag} {H : Hp} {a : Addr} {ns : List Int} {x : Int} {Q : VK} (h : SqL K H a (ns.map V.int)) (q : Q (.bl (decide (x ∈ ns))) H) : rIn K false (.int x) (.ref a) H Q :=
  ⟨a, _, rfl, .inl h, rfl, by rw [List.all_map]; exact List.all_eq_true.mpr fun _ _ => rfl, by rw [inV_int]; exact q⟩
theorem notin_int {K : PySem.W.Frag} {H : Hp} {a : Addr} {ns : List Int} {x : Int} {Q : VK} (h : SqL K H a (ns.map V.int)) (q : Q (.bl (!decide (x ∈ ns))) H) : rIn K true (.int x) (.ref a) H Q :=
  ⟨a, _, rfl, .inl h, rfl, by rw [List.all_map]; exact List.all_eq_true.mpr fun _ _ => rfl, by rw [inV_int]; exact q⟩
/-! ### from behind -/
theorem ulen_rev (ns : List Int) : ulen ns.reverse = ulen ns := ulen_congr fun x => List.mem_reverse
theorem wunN_rev {ns : List Int} {b j : Nat} (hj : j ≤ b) (hb : b ≤ ns.length) : wunN (ns.take b).reverse 0 j = wunN ns (b - j) b := by
  unfold wunN
  rw [List.drop_zero, Nat.sub_zero, List.take_reverse, ulen_rev]
  rw [List.length_take, Nat.min_eq_left hb, show b - (b - j) = j from by omega, List.drop_take, show b - (b - j) = j from by omega]
theorem begAt_is {ns : List Int} {b e : Nat} {m : Int} (h1 : e ≤ b) (h3 : m ≤ (wunN ns e b : Int)) (h4 : ∀ j, e < j → j ≤ b → ¬ m ≤ (wunN ns j b : Int)) : begAt ns b m = some e := by
  rcases begK_spec (ns := ns) (b := b) (m := m) b with ⟨_, e2⟩ | ⟨e', e1, g1, g2, g3⟩
  · exact absurd h3 (e2 e h1)
  · rcases Nat.lt_trichotomy e e' with k | k | k
    · exact absurd g2 (h4 e' k g1)
    · exact e1.trans (by rw [k])
    · exact absurd h3 (g3 e k h1)
theorem begAt_rev {ns : List Int} {b : Nat} {m : Int} (hb : b ≤ ns.length) :
    (endAt (ns.take b).reverse 0 m = none ∧ begAt ns b m = none) ∨ ∃ e, endAt (ns.take b).reverse 0 m = some e ∧ e ≤ b ∧ begAt ns b m = some (b - e) := by
  have hl : (ns.take b).reverse.length = b := by rw [List.length_reverse, List.length_take]; omega
  rcases endAt_spec (ns := (ns.take b).reverse) (f := 0) (m := m) (Nat.zero_le _) with ⟨e1, e2⟩ | ⟨e, e1, h1, h2, h3, h4⟩
  · refine .inl ⟨e1, ?_⟩
    rcases begK_spec (ns := ns) (b := b) (m := m) b with ⟨k, _⟩ | ⟨g, _, g1, g2, _⟩
    · exact k
    · have := e2 (b - g) (Nat.zero_le _) (by omega)
      rw [wunN_rev (by omega) hb, show b - (b - g) = g from by omega] at this
      exact absurd g2 this
  · rw [hl] at h2
    refine .inr ⟨e, e1, h2, begAt_is (by omega) ?_ fun j k1 k2 => ?_⟩
    · rw [wunN_rev h2 hb] at h3
      exact h3
    · have := h4 (b - j) (Nat.zero_le _) (by omega)
      rw [wunN_rev (by omega) hb, show b - (b - j) = j from by omega] at this
      exact this
theorem endAt_0 {ns : List Int} {f : Nat} (h : f ≤ ns.length) : endAt ns f 0 = some f := endAt_is (Nat.le_refl f) h (by omega) fun b h1 h2 => absurd h1 (by omega)
theorem begAt_0 (ns : List Int) (b : Nat) : begAt ns b 0 = some b := begAt_is (Nat.le_refl b) (by omega) fun j h1 h2 => absurd h1 (by omega)
/-- the unlike ones of a window, one more -/
theorem uni_up {ns : List Int} {f b : Nat} {x : Int} (h : f ≤ b) (e : ns[b]? = some x) : uni ((ns.drop f).take (b + 1 - f)) = if x ∈ uni ((ns.drop f).take (b - f)) then uni ((ns.drop f).take (b - f)) else uni ((ns.drop f).take (b - f)) ++ [x] := by
  have e1 : (ns.drop f)[b - f]? = some x := by rw [List.getElem?_drop, show f + (b - f) = b from by omega]; exact e
  rw [show b + 1 - f = (b - f) + 1 from by omega, take_snoc e1, uni_snoc]
  by_cases k : x ∈ (ns.drop f).take (b - f)
  · rw [if_pos k, if_pos ((mem_uni _ x).mpr k)]
  · rw [if_neg k, if_neg (fun z => k ((mem_uni _ x).mp z))]
end Ur
namespace Ur
open PySem L2
/-- None or a whole number -/
structure IsO (v : V) : Prop where
  or : v = .non ∨ ∃ i : Int, v = .int i
theorem IsO.opt (x : Option Nat) : IsO (optV x) := by
  cases x with
  | none => exact ⟨.inl rfl⟩
  | some b => exact ⟨.inr ⟨_, rfl⟩⟩
end Ur

namespace Ur
open PySem L2
/-! ### xs[::c] -/
theorem vals_pick {xs : List V} {us : List Value} (r : Vals xs us) : ∀ ids : List Nat, Vals (ids.filterMap fun i => xs[i]?) (ids.filterMap fun i => us.toArray[i]?)
  | [] => .nil
  | i :: ids => by
    have hl := Vals.length r
    have e2 : us.toArray[i]? = us[i]? := by simp
    cases h : xs[i]? with
    | none =>
      have h2 : us[i]? = none := by
        rw [List.getElem?_eq_none_iff] at h ⊢
        omega
      rw [List.filterMap_cons_none h, List.filterMap_cons_none (by rw [e2, h2])]
      exact vals_pick r ids
    | some x =>
      obtain ⟨u, h2, h3⟩ := r.get h
      rw [List.filterMap_cons_some h, List.filterMap_cons_some (b := u) (by rw [e2, h2])]
      exact .cons h3 (vals_pick r ids)
def tStep (K : PySem.W.Frag) (te : TE) : TE := fun σ H Q => te σ H fun x H1 => ∃ a xs, x = .ref a ∧ SqL K H1 a xs ∧ ∀ p ys, (∀ y ∈ ys, y ∈ xs) → ys.length ≤ xs.length → H1 p = none → Q (.ref p) (upd H1 p (.lst ys))
open PySem.Spec PyProof.Rows in
theorem pe_step2 {X : Cx} {e : Expr} {te : TE} {k : Nat} {p1 p3 pos : Pos} (he : PE X e te) : PE X (.Subscript e (.Slice none none (some (.Constant (.int 2) k p1)) p3) pos) (tStep X.K te) := by
  refine ⟨fun pins s σ H Q I h => ?_⟩
  refine Subscript_ (thn (he.run pins s σ H _ I h) fun v s1 ⟨x, H1, I1, r1, q1⟩ => ?_)
  obtain ⟨a, xs, ex, hx, q⟩ := q1
  subst ex
  cases r1
  have hst : PO X (some (.Constant (.int 2) k p1)) (tPart (tC (.int 2))) := po_some pe_int
  refine wpAny_Slice (thn (po_none.run pins s1 σ H1 (fun o H2 => o = none ∧ H2 = H1) I1 ⟨rfl, rfl⟩) fun vl s2 ⟨l, H2, I2, pl, el, e2⟩ => ?_)
  subst el e2
  refine thn (po_none.run pins s2 σ H2 (fun o H3 => o = none ∧ H3 = H2) I2 ⟨rfl, rfl⟩) fun vu s3 ⟨u, H3, I3, pu, eu, e3⟩ => ?_
  subst eu e3
  refine thn (hst.run pins s3 σ H3 (fun o H4 => o = some 2 ∧ H4 = H3) I3 ⟨2, rfl, rfl, rfl⟩) fun vs s4 ⟨o, H4, I4, ps, eo, e4⟩ => ?_
  subst eo e4
  have I5 : Inv X pins σ H4 { s4 with heap := s4.heap.push { cls := .type "slice", data := .fields #[vl, vu, vs] } } := I4.kept (t' := s4.toks) fun b ob q => Heap.get?_push_of_some _ q
  obtain ⟨its, r, ht, hz⟩ := I5.list hx
  have hlen := r.length
  show wpAny (model X.prog X.w) X.A (subscriptTail e (.Slice none none (some (.Constant (.int 2) k p1)) p3) (.ref a) (.ref s4.heap.objs.size)) (EP X pins σ Q) X.xe { s4 with heap := s4.heap.push { cls := .type "slice", data := .fields #[vl, vu, vs] } }
  refine tail_any (ops := [.ref a, .ref s4.heap.objs.size]) ht.isList.typeIs (PySem.slot_list_getitem.lookup) ?_ (by with_unfolding_all rfl)
  refine wpAny_getItem_list_slice ht.isList (Heap.IsSliceOf.new _ vl vu vs) pl pu ps (by decide) ?_ (by rw [List.size_toArray]; omega)
  have hid : ∀ n : Nat, (sliceRange (sliceBounds none none (some 2) n).1 (sliceBounds none none (some 2) n).2.1 (sliceBounds none none (some 2) n).2.2).length ≤ n := fun n => by
    have e : sliceBounds none none (some 2) n = (0, (n : Int), 2) := by simp [sliceBounds]
    rw [e]
    exact sliceRange_length_le 0 n 2 n (fun _ => ⟨by omega, by omega⟩) (fun h => absurd (by decide) h)
  have hid2 := hid its.toArray.size
  unfold slicePick
  generalize hI : sliceRange (sliceBounds none none (some 2) its.toArray.size).1 (sliceBounds none none (some 2) its.toArray.size).2.1 (sliceBounds none none (some 2) its.toArray.size).2.2 = ids at hid2
  have hv := vals_pick r ids
  have hly : (ids.filterMap fun i => xs[i]?).length ≤ xs.length := by
    refine Nat.le_trans (List.length_filterMap_le _ _) ?_
    rw [List.size_toArray] at hid2
    omega
  refine ⟨.ref _, _, I5.laid (t' := s4.toks) (o := .lst (ids.filterMap fun i => xs[i]?)) (fun b ob q => Heap.get?_push_of_some _ q) (Nat.le_refl _) ?_, rfl, q _ _ (fun y hy => ?_) hly (I5.hok.fresh (Nat.le_refl _))⟩
  · exact ⟨by omega, _, 0, hv, Heap.get?_push_size _ rfl⟩
  · obtain ⟨i, _, e⟩ := List.mem_filterMap.mp hy
    exact List.mem_of_getElem? e
end Ur

namespace Ur
open PySem L2
/-! ### windows that were drawn -/
/-- at t a window of a row of n -/
structure WinAt (n : Int) (H : Hp) (t : Addr) : Prop where
  at_ : ∃ f b : Int, H t = some (.tup [.int f, .int b]) ∧ 0 ≤ f ∧ f ≤ b ∧ b ≤ n
theorem WinAt.same {n : Int} {H H' : Hp} {t : Addr} (w : WinAt n H t) (s : Same H H') : WinAt n H' t := by
  obtain ⟨f, b, e, h⟩ := w.at_
  exact ⟨f, b, s _ _ e, h⟩
theorem WinAt.but {n : Int} {H H' : Hp} {t a : Addr} {xs : List V} (w : WinAt n H t) (s : But a H H') (ha : H a = some (.lst xs)) : WinAt n H' t := by
  obtain ⟨f, b, e, h⟩ := w.at_
  exact ⟨f, b, s _ _ (fun k => by rw [k, ha] at e; cases e) e, h⟩
theorem WinAt.upd {n : Int} {H : Hp} {t a : Addr} {xs : List V} {o : HO} (w : WinAt n H t) (ha : H a = some (.lst xs)) : WinAt n (upd H a o) t := by
  obtain ⟨f, b, e, h⟩ := w.at_
  exact ⟨f, b, by rw [upd_ne (fun k => by rw [k, ha] at e; cases e)]; exact e, h⟩
end Ur

namespace Ur
open PySem L2
/-! ### lists of last places -/
theorem lastAt_succ (ns : List Int) (i : Nat) (x : Int) : lastAt ns (i + 1) x = if ns.getD i 0 = x then (i : Int) else lastAt ns i x := rfl
theorem getD_app {r s : List Int} {j : Nat} (h : j < r.length) : (r ++ s).getD j 0 = r.getD j 0 := by
  rw [List.getD_eq_getElem?_getD, List.getD_eq_getElem?_getD, List.getElem?_append_left h]
theorem lastAt_app {r s : List Int} {x : Int} : ∀ {i : Nat}, i ≤ r.length → lastAt (r ++ s) i x = lastAt r i x
  | 0, _ => rfl
  | i + 1, h => by rw [lastAt_succ, lastAt_succ, getD_app h, lastAt_app (Nat.le_of_lt h)]
theorem lastP_snoc (r : List Int) (x : Int) : lastP (r ++ [x]) = lastP r ++ [lastAt r r.length x] := by
  have hl : (r ++ [x]).length = r.length + 1 := by rw [List.length_append]; rfl
  have h := lastP_take (ns := r ++ [x]) (i := r.length) (by omega)
  have e1 : (lastP (r ++ [x])).take (r.length + 1) = lastP (r ++ [x]) := by rw [← hl, ← lastP_len, List.take_length]
  have e2 : (lastP (r ++ [x])).take r.length = lastP r := by
    refine List.ext_getElem? fun k => ?_
    by_cases hk : k < r.length
    · rw [List.getElem?_take, if_pos hk, lastP_get (by omega), lastP_get hk, getD_app hk, lastAt_app (Nat.le_of_lt hk)]
    · rw [List.getElem?_take, if_neg hk, List.getElem?_eq_none (by rw [lastP_len]; omega)]
  have e3 : (r ++ [x]).getD r.length 0 = x := by
    rw [List.getD_eq_getElem?_getD, List.getElem?_append_right (Nat.le_refl _), Nat.sub_self]; rfl
  rw [e1, e2, e3, lastAt_app (Nat.le_refl _)] at h
  exact h
theorem lastAt_not {r : List Int} {x : Int} (h : x ∉ r) : lastAt r r.length x = -1 := by
  rcases lastAt_spec r x r.length with ⟨e, _⟩ | ⟨v, _, h1, h2, _⟩
  · exact e
  · exact absurd (h2 ▸ List.mem_of_getElem? (get_of h1)) h
theorem fresh_int (r : List Int) : ∃ x : Int, x ∉ r := by
  have k : ∀ r : List Int, ∃ b : Int, ∀ y ∈ r, y < b := by
    intro r
    induction r with
    | nil => exact ⟨0, fun y h => nomatch h⟩
    | cons z r ih =>
      obtain ⟨b, hb⟩ := ih
      refine ⟨max b (z + 1), fun y hy => ?_⟩
      rcases List.mem_cons.mp hy with e | e
      · rw [e]; omega
      · have := hb y e; omega
  obtain ⟨b, hb⟩ := k r
  exact ⟨b, fun h => absurd (hb b h) (by omega)⟩
/-- a list of last places, one more: a new number -/
theorem lasts_new (r : List Int) : ∃ x, lastP (r ++ [x]) = lastP r ++ [-1] := by
  obtain ⟨x, hx⟩ := fresh_int r
  exact ⟨x, by rw [lastP_snoc, lastAt_not hx]⟩
/-- .. or that of a place that is none yet -/
theorem lasts_old {r : List Int} {l : Nat} (hl : l < r.length) (hn : (l : Int) ∉ lastP r) : lastP (r ++ [r.getD l 0]) = lastP r ++ [(l : Int)] := by
  rw [lastP_snoc]
  have e : lastAt r r.length (r.getD l 0) = l := by
    refine lastAt_uniq (.inr ⟨l, rfl, hl, rfl⟩) fun j hj hx => ?_
    by_cases h : j ≤ l
    · omega
    · exfalso
      have key : ∀ d j, j = l + 1 + d → j < r.length → r.getD j 0 = r.getD l 0 → False := by
        intro d
        induction d using Nat.strongRecOn with
        | _ d ih =>
          intro j hjd hj hx
          refine hn ?_
          have hg := lastP_get hj
          have : lastAt r j (r.getD j 0) = l := by
            rw [hx]
            refine lastAt_uniq (.inr ⟨l, rfl, by omega, rfl⟩) fun i hi hxi => ?_
            by_cases q : i ≤ l
            · omega
            · exact (ih (i - (l + 1)) (by omega) i (by omega) (by omega) hxi).elim
          rw [this] at hg
          exact List.mem_of_getElem? hg
      exact key (j - (l + 1)) j (by omega) hj hx
  rw [e]
/-- what a last place is -/
theorem lastP_ok {r : List Int} {i : Nat} {l : Int} (h : (lastP r)[i]? = some l) : -1 ≤ l ∧ l < i ∧ (0 ≤ l → l ∉ (lastP r).take i) := by
  have hi : i < r.length := by
    have := (List.getElem?_eq_some_iff.mp h).1
    rwa [lastP_len] at this
  have e := lastP_get hi
  rw [h] at e
  have e := Option.some.inj e
  have hr := lastAt_range r (r.getD i 0) i
  refine ⟨by omega, by omega, fun h0 hm => ?_⟩
  obtain ⟨j, hj⟩ := List.mem_iff_getElem?.mp hm
  rw [List.getElem?_take] at hj
  by_cases q : j < i
  · rw [if_pos q, lastP_get (by omega)] at hj
    have e2 := Option.some.inj hj
    rcases lastAt_spec r (r.getD i 0) i with ⟨k, _⟩ | ⟨v, k1, k2, k3, k4⟩
    · omega
    · rcases lastAt_spec r (r.getD j 0) j with ⟨m, _⟩ | ⟨w, m1, m2, m3, _⟩
      · omega
      · have hvw : v = w := by omega
        exact k4 j (by omega) q (by rw [← m3, ← hvw, k3])
  · rw [if_neg q] at hj; cases hj
theorem lastP_map {f : Int → Int} {r : List Int} (h : InjOn f r) : lastP (r.map f) = lastP r := by
  have g : ∀ j, j < r.length → (r.map f).getD j 0 = f (r.getD j 0) := fun j hj => by
    rw [List.getD_eq_getElem?_getD, List.getElem?_map, get_of hj]; rfl
  have k : ∀ i x, i ≤ r.length → x ∈ r → lastAt (r.map f) i (f x) = lastAt r i x := by
    intro i x
    induction i with
    | zero => intro _ _; rfl
    | succ i ih =>
      intro hi hx
      rw [lastAt_succ, lastAt_succ, g i hi, ih (Nat.le_of_lt hi) hx]
      have hm : r.getD i 0 ∈ r := List.mem_of_getElem? (get_of hi)
      by_cases q : r.getD i 0 = x
      · rw [if_pos q, if_pos (by rw [q])]
      · rw [if_neg q, if_neg (fun z => q (h _ hm _ hx z))]
  refine List.ext_getElem? fun i => ?_
  by_cases hi : i < r.length
  · rw [lastP_get (by rw [List.length_map]; exact hi), lastP_get hi, g i hi, k i _ (Nat.le_of_lt hi) (List.mem_of_getElem? (get_of hi))]
  · rw [List.getElem?_eq_none (by rw [lastP_len, List.length_map]; omega), List.getElem?_eq_none (by rw [lastP_len]; omega)]
theorem plain_inj (r : List Int) : InjOn (fun x => (plainAt r x : Int)) r := fun x hx y hy e => plainAt_inj hx hy (by have e2 : ((plainAt r x : Nat) : Int) = (plainAt r y : Nat) := e; omega)
theorem lastP_plain (r : List Int) : lastP (plainP r) = lastP r := lastP_map (plain_inj r)
/-- -1 stands just where a number is new -/
theorem last_new {r : List Int} {i : Nat} (hi : i < r.length) : lastAt r i (r.getD i 0) < 0 ↔ r.getD i 0 ∉ r.take i := by
  rcases lastAt_spec r (r.getD i 0) i with ⟨e, n⟩ | ⟨v, e, h1, h2, _⟩
  · refine ⟨fun _ hm => ?_, fun _ => by omega⟩
    obtain ⟨j, hj⟩ := List.mem_iff_getElem?.mp hm
    rw [List.getElem?_take] at hj
    by_cases q : j < i
    · rw [if_pos q] at hj; exact n j q (getD_of hj)
    · rw [if_neg q] at hj; cases hj
  · refine ⟨fun h => by omega, fun h => absurd ?_ h⟩
    exact List.mem_iff_getElem?.mpr ⟨v, by rw [List.getElem?_take, if_pos h1, get_of (by omega), h2]⟩
theorem lastP_takeR (r : List Int) (n : Nat) : lastP (r.take n) = (lastP r).take n := by
  by_cases h : n ≤ r.length
  · have e := List.take_append_drop n r
    have hl : (r.take n).length = n := by rw [List.length_take]; omega
    refine List.ext_getElem? fun k => ?_
    rw [List.getElem?_take]
    by_cases hk : k < n
    · have g : (r.take n).getD k 0 = r.getD k 0 := by
        rw [List.getD_eq_getElem?_getD, List.getD_eq_getElem?_getD, List.getElem?_take, if_pos hk]
      have a : lastAt r k (r.getD k 0) = lastAt (r.take n) k (r.getD k 0) := by
        have := lastAt_app (r := r.take n) (s := r.drop n) (x := r.getD k 0) (i := k) (by omega)
        rwa [e] at this
      rw [if_pos hk, lastP_get (by omega), lastP_get (by omega), g, a]
    · rw [if_neg hk, List.getElem?_eq_none (by rw [lastP_len]; omega)]
  · rw [List.take_of_length_le (by omega), List.take_of_length_le (by rw [lastP_len]; omega)]
theorem lastP_drop (r : List Int) (n : Nat) : lastP (r.drop n) = ((lastP r).drop n).map fun l => max (-1) (l - (n : Int)) := by
  refine List.ext_getElem? fun k => ?_
  rw [List.getElem?_map, List.getElem?_drop]
  by_cases hk : n + k < r.length
  · have hkd : k < (r.drop n).length := by rw [List.length_drop]; omega
    have g : ∀ j, (r.drop n).getD j 0 = r.getD (n + j) 0 := fun j => by
      rw [List.getD_eq_getElem?_getD, List.getD_eq_getElem?_getD, List.getElem?_drop]
    rw [lastP_get hkd, lastP_get hk, g]
    show some (lastAt (r.drop n) k (r.getD (n + k) 0)) = some (max (-1) (lastAt r (n + k) (r.getD (n + k) 0) - (n : Int)))
    congr 1
    rcases lastAt_spec r (r.getD (n + k) 0) (n + k) with ⟨e, m⟩ | ⟨v, e, h1, h2, m⟩
    · rw [e]
      refine lastAt_uniq (.inl (by omega)) fun j hj hx => ?_
      rw [g] at hx
      exact absurd hx (m (n + j) (by omega))
    · rw [e]
      by_cases q : n ≤ v
      · refine lastAt_uniq (.inr ⟨v - n, by omega, by omega, by rw [g, show n + (v - n) = v from by omega]; exact h2⟩) fun j hj hx => ?_
        rw [g] at hx
        by_cases p : n + j ≤ v
        · omega
        · exact absurd hx (m (n + j) (by omega) (by omega))
      · refine lastAt_uniq (.inl (by omega)) fun j hj hx => ?_
        rw [g] at hx
        exact absurd hx (m (n + j) (by omega) (by omega))
  · rw [List.getElem?_eq_none (by rw [lastP_len, List.length_drop]; omega), List.getElem?_eq_none (by rw [lastP_len]; omega)]
    rfl
end Ur
namespace Ur
open PySem L2
theorem pop_at {fs : List Int} {i : Int} (h0 : 0 ≤ i) (h1 : i < fs.length) : seqIndex? i (fs.map V.int).length = some i.toNat := by
  rw [List.length_map]
  simp [seqIndex?, show ¬ i < 0 from by omega, h0, h1]
theorem pop_get {fs : List Int} {k : Nat} (h : k < fs.length) : (fs.map V.int)[k]? = some (V.int (fs.getD k 0)) := iv_get' (get_of h)
theorem erase_map (fs : List Int) (k : Nat) : (fs.map V.int).eraseIdx k = (fs.eraseIdx k).map V.int := by
  induction fs generalizing k with
  | nil => rfl
  | cons x fs ih => cases k with
    | zero => rfl
    | succ k => show V.int x :: (fs.map V.int).eraseIdx k = _; rw [ih]; rfl
theorem mem_erase {fs : List Int} {k : Nat} {f : Int} (h : f ∈ fs.eraseIdx k) : f ∈ fs := (List.eraseIdx_sublist fs k).mem h
theorem erase_nodup : ∀ {fs : List Int} {k : Nat}, k < fs.length → fs.Nodup → (fs.eraseIdx k).Nodup ∧ fs.getD k 0 ∉ fs.eraseIdx k
  | x :: fs, 0, _, d => by
    have h := List.nodup_cons.mp d
    exact ⟨h.2, h.1⟩
  | x :: fs, k + 1, h, d => by
    obtain ⟨d1, d2⟩ := List.nodup_cons.mp d
    have hk : k < fs.length := Nat.lt_of_succ_lt_succ h
    obtain ⟨e1, e2⟩ := erase_nodup hk d2
    refine ⟨List.nodup_cons.mpr ⟨fun m => d1 (mem_erase m), e1⟩, fun m => ?_⟩
    have m2 : fs.getD k 0 ∈ x :: fs.eraseIdx k := m
    rcases List.mem_cons.mp m2 with e | e
    · exact d1 (e ▸ List.mem_of_getElem? (get_of hk))
    · exact e2 e
end Ur
namespace Ur
open PySem L2
theorem next_of_last {r : List Int} {i : Nat} (hi : i < r.length) (h : 0 ≤ lp r i) : nx r (lp r i).toNat = i := by
  rcases lastAt_spec r (r.getD i 0) i with ⟨e, _⟩ | ⟨l, e, h1, h2, h3⟩
  · have : lp r i = -1 := e
    omega
  · have e' : lp r i = l := e
    rw [e', Int.toNat_natCast]
    rcases nextUp_spec r l r.length (Nat.le_refl _) with ⟨_, n⟩ | ⟨v, k, k1, k2, k3, k4⟩
    · exact absurd h2.symm (n i h1 hi)
    · have k' : nx r l = v := k
      rw [k']
      rcases Nat.lt_trichotomy v i with q | q | q
      · exact absurd (k3.trans h2) (h3 v k1 q)
      · rw [q]
      · exact absurd h2.symm (k4 i h1 q)
theorem count_map (g : Nat → Int) (t : Int → Bool) : ∀ n : Nat, ((((List.range n).map g).filter t).length : Int) = sumTo (fun k => if t (g k) = true then 1 else 0) n
  | 0 => rfl
  | n + 1 => by
    rw [List.range_succ, List.map_append, List.filter_append, List.length_append, Int.natCast_add, count_map g t n]
    show _ + _ = _ + (if t (g n) = true then 1 else 0)
    cases h : t (g n) with
    | true => rw [List.map_cons, List.filter_cons_of_pos h]; rfl
    | false => rw [List.map_cons, List.filter_cons_of_neg (by rw [h]; exact Bool.false_ne_true)]; rfl
theorem nx_le {r : List Int} {p : Nat} : nx r p ≤ r.length := by
  rcases nextUp_spec r p r.length (Nat.le_refl _) with ⟨e, _⟩ | ⟨v, e, h1, h2, _⟩
  · exact Int.le_of_eq e
  · have : nx r p = v := e
    omega
theorem count_ends (r : List Int) : ((nextP r).filter (fun x => decide (x = (r.length : Int)))).length = ulen r := by
  have h := wunN_nexts (ns := r) (b := r.length) (Nat.le_refl _) r.length 0 (Nat.zero_add _)
  rw [wunN_all] at h
  have c := count_map (fun k => nextUp r k r.length) (fun x => decide (x = (r.length : Int))) r.length
  have e : sumTo (fun k => if decide (nextUp r k r.length = (r.length : Int)) = true then (1 : Int) else 0) r.length = sumTo (fun j => if (r.length : Int) ≤ nextUp r (0 + j) r.length then (1 : Int) else 0) r.length := sumTo_congr fun k _ => by
    have := nx_le (r := r) (p := k)
    have this : nextUp r k r.length ≤ (r.length : Int) := this
    rw [Nat.zero_add]
    by_cases q : (r.length : Int) ≤ nextUp r k r.length
    · rw [if_pos q, if_pos (decide_eq_true (by omega))]
    · rw [if_neg q, if_neg (by rw [decide_eq_false (by omega)]; exact Bool.false_ne_true)]
  have c2 : (((nextP r).filter (fun x => decide (x = (r.length : Int)))).length : Int) = (ulen r : Int) := c.trans (e.trans h.symm)
  omega
theorem count_news (r : List Int) : ((lastP r).filter (fun x => decide (x = -1))).length = ulen r := by
  have h := wunN_lasts (ns := r) (f := 0) r.length (Nat.zero_le _) (Nat.le_refl _)
  rw [wunN_all] at h
  have c := count_map (fun k => lastAt r k (r.getD k 0)) (fun x => decide (x = -1)) r.length
  have e : sumTo (fun k => if decide (lastAt r k (r.getD k 0) = -1) = true then (1 : Int) else 0) r.length = sumTo (fun p => if 0 ≤ p ∧ lastAt r p (r.getD p 0) < ((0 : Nat) : Int) then (1 : Int) else 0) r.length := sumTo_congr fun k _ => by
    have := lastAt_range r (r.getD k 0) k
    by_cases q : lastAt r k (r.getD k 0) < ((0 : Nat) : Int)
    · have hd : decide (lastAt r k (r.getD k 0) = -1) = true := decide_eq_true (by omega)
      rw [if_pos hd, if_pos ⟨Nat.zero_le _, q⟩]
    · have hd : ¬ decide (lastAt r k (r.getD k 0) = -1) = true := fun z => by
        have := of_decide_eq_true z
        omega
      rw [if_neg hd, if_neg (fun z => q z.2)]
  have c2 : (((lastP r).filter (fun x => decide (x = -1))).length : Int) = (ulen r : Int) := c.trans (e.trans h.symm)
  omega
theorem idx_take {r : List Int} {x : Int} {n : Nat} (h : x ∈ r.take n) : (r.take n).idxOf x = r.idxOf x := by
  have hm := List.mem_of_mem_take h
  have hlt : r.idxOf x < n := by
    obtain ⟨j, hj⟩ := List.mem_iff_getElem?.mp h
    rw [List.getElem?_take] at hj
    by_cases q : j < n
    · rw [if_pos q] at hj
      by_cases p : r.idxOf x ≤ j
      · omega
      · exact absurd (List.mem_iff_getElem?.mpr ⟨j, by rw [List.getElem?_take, if_pos (by omega)]; exact hj⟩) (idx_not (ns := r) (x := x))
    · rw [if_neg q] at hj; cases hj
  refine idx_first (by rw [List.getElem?_take, if_pos hlt]; exact idx_get hm) ?_
  rw [List.take_take, Nat.min_eq_left (Nat.le_of_lt hlt)]
  exact idx_not
theorem plainP_take (r : List Int) (n : Nat) : plainP (r.take n) = (plainP r).take n := by
  unfold plainP
  rw [← List.map_take]
  refine List.map_congr_left fun x hx => ?_
  show ((plainAt (r.take n) x : Nat) : Int) = (plainAt r x : Nat)
  unfold plainAt
  have hlt : r.idxOf x ≤ n := by
    have := idx_lt hx
    rw [idx_take hx, List.length_take] at this
    omega
  rw [idx_take hx, List.take_take, Nat.min_eq_left hlt]
end Ur

namespace UrS
open PySem PySem.Spec PyProof.Rows L2
section
variable {prog : Program} {w : World} {A : Around} {E : Value → Shared → Prop} {s : Shared}
/-- xs[:0] = ys, both lists, at the library's level -/
theorem setFront {l sl b : Addr} {xs ys : Array Value} {n m : Nat} {vl vu vs : Value} {Q : Unit → Shared → Prop}
    (h1 : s.heap.get? l = some { cls := .type "list", data := .seq xs n }) (h2 : s.heap.get? b = some { cls := .type "list", data := .seq ys m }) (hne : b ≠ l)
    (h3 : s.heap.IsSliceOf sl vl vu vs) (pl : IsPart vl none) (pu : IsPart vu (some 0)) (ps : IsPart vs none) (hz : xs.size + ys.size ≤ 1000000)
    (q : Q () { s with heap := s.heap.update l (Obj.mapSeq fun zs => zs.extract 0 (0 : Int).toNat ++ ys ++ zs.extract (max (0 : Int) 0).toNat zs.size) }) :
    wpAny (model prog w) A (setItem (.ref l) (.ref sl) (.ref b)) Q E s := by
  have t1 : s.TypeIs (.ref l) "list" := ⟨_, h1, rfl⟩
  have t2 : s.TypeIs (.ref b) "list" := ⟨_, h2, rfl⟩
  obtain ⟨os, g1, g2, g3⟩ := id h3
  have t3 : s.TypeIs (.ref sl) "slice" := ⟨os, g1, g2⟩
  unfold setItem
  try with_reducible refine wpAny_holding ?_
  first | refine wpAny_bind (wpAny_pure ?_) | skip
  refine wpAny_bind (wpAny_sequenceKey t1 (by decide) ?_)
  refine wpAny_bind (wpAny_callSpecial?_slot (name := Str.ofString "__setitem__") t1 PySem.F.slot_list_setitem
    (wpAny_call_entry PySem.F.slot_list_setitem t1 PySem.F.entry_list_setitem ?_ (PySem.args_list_setitem _ _ _)))
  show wpAny _ _ (Builtin.List.listSubscript? (.ref sl) >>= _) _ _ s
  unfold Builtin.List.listSubscript?
  refine wpAny_bind (wpAny_bind (wpAny_specialOf t3 slice_no_index ?_))
  simp only [Option.isNone_none, if_true]
  refine wpAny_pure ?_
  show wpAny _ _ (typeOf (.ref sl) >>= fun _ => _) _ _ s
  refine wpAny_bind (wpAny_typeOf t3 ?_)
  rw [if_neg (by decide)]
  rw [listSliceParts_eq]
  have hst : ¬ ((rawPart none == rawInt 0) = true) := Bool.false_ne_true
  refine wpAny_bind (wpAny_bind (wpAny_field g1 g3 (x := vs) rfl (wpAny_bind (wpAny_listPart ps ?_))))
  rw [if_neg hst]
  refine wpAny_bind (wpAny_field g1 g3 (x := vl) rfl (wpAny_bind (wpAny_listPart pl ?_)))
  refine wpAny_bind (wpAny_field g1 g3 (x := vu) rfl (wpAny_bind (wpAny_listPart pu (wpAny_pure ?_))))
  have hs : ¬ (Builtin.List.listSameRef (.ref l) (.ref b) = true) := fun k => hne (eq_of_beq k).symm
  rw [if_neg hs]
  refine wpAny_bind ?_
  unfold Builtin.List.listAllItems
  refine wpAny_bind (wpAny_typeOf t2 ?_)
  rw [if_pos (by decide)]
  unfold Builtin.List.listItems
  first
  | refine wpAny_bind (wpAny_bind (wpAny_seqItems h2 rfl (wpAny_pure (wpAny_pure ?_))))
  | refine wpAny_bind (wpAny_seqItems h2 rfl (wpAny_pure ?_))
  first
  | refine wpAny_bind (wpAny_bind (wpAny_seqItems h1 rfl (wpAny_pure ?_)))
  | refine wpAny_bind (wpAny_seqItems h1 rfl (wpAny_pure ?_))
  have hb : sliceBounds none (some 0) none xs.size = (0, 0, 1) := by simp [sliceBounds]; omega
  refine wpAny_bind (wpAny_of_eq (sliceIndices_raw none (some 0) none xs.size (by decide)) ?_)
  rw [hb]
  rw [if_pos (by decide)]
  refine wpAny_bind (wpAny_rule ?_)
  have hlong : ¬ (Builtin.List.listTooLong (xs.size + ys.size) = true) := by
    unfold Builtin.List.listTooLong
    rw [sizeLine_eq]
    simp
    omega
  rw [if_neg hlong]
  refine wpAny_bind ?_
  unfold Builtin.List.listUpdate
  refine wpAny_updateSeq h1 rfl ?_ (by rw [sizeLine_eq]; omega) (by rw [sizeLine_eq]; simp; omega)
  refine wpAny_bind ?_
  have he : (xs.extract ((0 : Int), (0 : Int), (1 : Int)).fst.toNat (max ((0 : Int), (0 : Int), (1 : Int)).fst ((0 : Int), (0 : Int), (1 : Int)).2.fst).toNat).toList.reverse = [] := by simp
  rw [he]
  exact wpAny_pure (wpAny_pure ⟨.none, rfl, wpAny_pure q⟩)
end
section
variable {X : Cx}
def gFront (to : TE) : TG := fun v σ H Q => to σ H fun x H1 => ∃ (l b : Addr) (xs ys : List V), x = .ref l ∧ v = .ref b ∧ H1 l = some (.lst xs) ∧ H1 b = some (.lst ys) ∧ b ≠ l ∧ xs.length + ys.length ≤ 1000000 ∧ Q σ (upd H1 l (.lst (ys ++ xs)))
theorem pg_front {o : Expr} {to : TE} {k : Nat} {p1 p3 pos : Pos} (ho : PE X o to)
    (ha : ∀ v, assign (.Subscript o (.Slice none (some (.Constant (.int 0) k p1)) none p3) pos) X.env v = (do
      let ov ← holding [v] (eval o X.env)
      let iv ← holding [v, ov] (eval (.Slice none (some (.Constant (.int 0) k p1)) none p3) X.env)
      standAt pos
      holding [v, ov, iv] (setItem ov iv v)
      release [iv, v, ov] []) := by intro _; rfl) : PG X (.Subscript o (.Slice none (some (.Constant (.int 0) k p1)) none p3) pos) (gFront to) := by
  refine ⟨fun pins s σ H v u Q I r h => ?_⟩
  rw [ha]
  refine wpAny_bind (wpAny_holding (thn (ho.run pins s σ H _ I h) fun ov s1 ⟨x, H1, I1, r1, q1⟩ => ?_))
  refine wpAny_bind (wpAny_holding ?_)
  have hst : PO X (some (.Constant (.int 0) k p1)) (tPart (tC (.int 0))) := po_some pe_int
  refine wpAny_Slice (thn (po_none.run pins s1 σ H1 (fun o H2 => o = none ∧ H2 = H1) I1 ⟨rfl, rfl⟩) fun vl s2 ⟨l0, H2, I2, pl, el, e2⟩ => ?_)
  subst el e2
  refine thn (hst.run pins s2 σ H2 (fun o H3 => o = some 0 ∧ H3 = H2) I2 ⟨0, rfl, rfl, rfl⟩) fun vu s3 ⟨u0, H3, I3, pu, eu, e3⟩ => ?_
  subst eu e3
  refine thn (po_none.run pins s3 σ H3 (fun o H4 => o = none ∧ H4 = H3) I3 ⟨rfl, rfl⟩) fun vs s4 ⟨st, H4, I4, ps, eo, e4⟩ => ?_
  subst eo e4
  obtain ⟨l, b, xs, ys, rfl, rfl, hl, hb, hne, hz, q⟩ := q1
  cases r1
  cases r
  have I5 : Inv X pins σ H4 { s4 with heap := s4.heap.push { cls := .type "slice", data := .fields #[vl, vu, vs] } } := I4.kept (t' := s4.toks) fun c ob z => Heap.get?_push_of_some _ z
  obtain ⟨its, n, rv, ho5, hz5⟩ := I5.lst hl
  obtain ⟨its2, n2, rv2, hb5, _⟩ := I5.lst hb
  have e1 := rv.length
  have e2 := rv2.length
  refine wpAny_bind (wpAny_standAt (wpAny_bind (wpAny_holding ?_)))
  refine setFront ho5 hb5 hne (Heap.IsSliceOf.new _ vl vu vs) pl pu ps (by rw [List.size_toArray, List.size_toArray]; omega) ?_
  refine wpAny_release ⟨σ, _, ?_, q⟩
  refine I5.lstUpd (its' := its2 ++ its) (n' := if ((its2 ++ its).toArray.size == its.toArray.size) = true then n else n + 1) hl ho5 ?_ (rv2.append rv) (by rw [List.length_append]; exact Ur.sz (by omega)) _
  have a1 : its.toArray.extract 0 (Int.toNat 0) = #[] := by simp
  have a2 : its.toArray.extract (max (0 : Int) 0).toNat its.toArray.size = its.toArray := by
    show its.toArray.extract 0 its.toArray.size = its.toArray
    simp
  have a3 : #[] ++ its2.toArray ++ its.toArray = (its2 ++ its).toArray := by simp
  have a4 : its.toArray.extract 0 (Int.toNat 0) ++ its2.toArray ++ its.toArray.extract (max (0 : Int) 0).toNat its.toArray.size = (its2 ++ its).toArray := by rw [a1, a2, a3]
  exact congrArg (fun z : Array Value => ({ cls := .type "list", data := .seq z (if (z.size == its.toArray.size) = true then n else n + 1) } : Obj)) a4
end
end UrS

namespace Ur
open PySem L2
/-! ### first places of a window -/
def firP (ns : List Int) (f b : Int) : List Int := ((List.range (b - f).toNat).filter fun k => decide (lp ns (f.toNat + k) < f)).map fun k => f + (k : Nat)
theorem firP_len {ns : List Int} {f b : Int} (h0 : 0 ≤ f) (h1 : f ≤ b) (h2 : b ≤ ns.length) : (firP ns f b).length = wun ns f b := by
  have e := ulen_win (ns := ns) (f := f.toNat) (b.toNat - f.toNat) (by omega)
  unfold firP
  rw [List.length_map]
  show _ = ulen ((ns.drop f.toNat).take (b.toNat - f.toNat))
  rw [e, show (b - f).toNat = b.toNat - f.toNat from by omega, Int.toNat_of_nonneg h0]
  have e2 : ((lastP ns).drop f.toNat).take (b.toNat - f.toNat) = (List.range (b.toNat - f.toNat)).map fun k => lp ns (f.toNat + k) := by
    refine List.ext_getElem? fun k => ?_
    rw [List.getElem?_take]
    by_cases hk : k < b.toNat - f.toNat
    · rw [if_pos hk, List.getElem?_drop, lastP_get (by omega), List.getElem?_map, List.getElem?_range hk]
      rfl
    · rw [if_neg hk, List.getElem?_eq_none (by rw [List.length_map, List.length_range]; omega)]
  rw [e2, List.filter_map, List.length_map]
  rfl
theorem fir_not {ns : List Int} {f k : Nat} (h : f + k < ns.length) : (!decide (ns.getD (f + k) 0 ∈ (ns.drop f).take k)) = decide (lp ns (f + k) < (f : Int)) := by
  have q := last_in h
  by_cases hl : lp ns (f + k) < (f : Int)
  · have hm : ¬ ns.getD (f + k) 0 ∈ (ns.drop f).take k := fun z => q.mp z hl
    rw [decide_eq_true hl, decide_eq_false hm]; rfl
  · have hm : ns.getD (f + k) 0 ∈ (ns.drop f).take k := q.mpr hl
    rw [decide_eq_false hl, decide_eq_true hm]; rfl
/-! ### frames but at some places -/
def ButL (L : Addr → Prop) (H H' : Hp) : Prop := ∀ b o, ¬ L b → H b = some o → H' b = some o
theorem ButL.refl {L : Addr → Prop} {H : Hp} : ButL L H H := fun _ _ _ e => e
theorem ButL.trans {L : Addr → Prop} {H H1 H2 : Hp} (s : ButL L H H1) (t : ButL L H1 H2) : ButL L H H2 := fun b o n e => t b o n (s b o n e)
theorem ButL.same {L : Addr → Prop} {H H' : Hp} (s : Same H H') : ButL L H H' := fun b o _ e => s b o e
theorem ButL.but {L : Addr → Prop} {H H' : Hp} {a : Addr} (s : But a H H') (l : L a) : ButL L H H' := fun b o n e => s b o (fun k => n (k ▸ l)) e
structure PairL (L : Addr → Prop) (H : Hp) (p : Addr) : Prop where
  both : ¬ L p ∧ ∃ (a b : Addr) (ns : List Int), ¬ L a ∧ ¬ L b ∧ H p = some (.lst [.ref a, .ref b]) ∧ H a = some (.lst (ns.map V.int)) ∧ H b = some (.lst (ns.map V.int))
structure HeldL (L : Addr → Prop) (h : Addr) (H : Hp) (n : Nat) : Prop where
  all : ∃ ps : List Addr, H h = some (.lst (ps.map V.ref)) ∧ ps.length ≤ n ∧ ∀ p ∈ ps, PairL L H p
theorem PairL.step {L : Addr → Prop} {p : Addr} {H H' : Hp} (k : PairL L H p) (b : ButL L H H') : PairL L H' p := by
  obtain ⟨n, x, y, ns, hx, hy, e, e1, e2⟩ := k.both
  exact ⟨n, x, y, ns, hx, hy, b _ _ n e, b _ _ hx e1, b _ _ hy e2⟩
theorem HeldL.step {L : Addr → Prop} {h : Addr} {H H' : Hp} {n : Nat} (k : HeldL L h H n) (b : ButL L H H') (hh : ∀ xs, H h = some (.lst xs) → H' h = some (.lst xs)) : HeldL L h H' n := by
  obtain ⟨ps, e, l, f⟩ := k.all
  exact ⟨ps, hh _ e, l, fun p hp => (f p hp).step b⟩
theorem HeldL.mono {L : Addr → Prop} {h : Addr} {H : Hp} {n m : Nat} (k : HeldL L h H n) (l : n ≤ m) : HeldL L h H m := by
  obtain ⟨ps, e, q, f⟩ := k.all
  exact ⟨ps, e, Nat.le_trans q l, f⟩
theorem HeldL.sub {L L' : Addr → Prop} {h : Addr} {H : Hp} {n : Nat} (k : HeldL L h H n) (l : ∀ b, L' b → L b) : HeldL L' h H n := by
  obtain ⟨ps, e, q, f⟩ := k.all
  refine ⟨ps, e, q, fun p hp => ?_⟩
  obtain ⟨n, x, y, ns, hx, hy, g⟩ := (f p hp).both
  exact ⟨fun z => n (l _ z), x, y, ns, fun z => hx (l _ z), fun z => hy (l _ z), g⟩
/-- .. of a place that is new, too -/
theorem HeldL.more {L : Addr → Prop} {h a : Addr} {H : Hp} {n : Nat} (k : HeldL L h H n) (ha : H a = none) : HeldL (fun x => L x ∨ x = a) h H n := by
  obtain ⟨ps, e, q, f⟩ := k.all
  refine ⟨ps, e, q, fun p hp => ?_⟩
  obtain ⟨n, x, y, ns, hx, hy, g1, g2, g3⟩ := (f p hp).both
  have ne : ∀ z (o : HO), H z = some o → z ≠ a := fun z o e1 e2 => by rw [e2, ha] at e1; cases e1
  exact ⟨fun z => z.elim n (ne _ _ g1), x, y, ns, fun z => z.elim hx (ne _ _ g2), fun z => z.elim hy (ne _ _ g3), g1, g2, g3⟩
end Ur
namespace Ur
open PySem L2
theorem Rdy.butL {C : Addr} {L L' : Addr → Prop} {H H' : Hp} {o : Addr} {ns : List Int} (r : Rdy C L H o ns) (l : ∀ b, L' b → L b) (s : ButL L' H H') : Rdy C L H' o ns := by
  obtain ⟨dx, la, na, e1, e2, e3, f⟩ := r.all
  exact ⟨dx, la, na, s _ _ (fun z => (f o (l _ z)).1 rfl) e1, s _ _ (fun z => (f la (l _ z)).2.1 rfl) e2, s _ _ (fun z => (f na (l _ z)).2.2 rfl) e3, f⟩
theorem HeldL.grow {L : Addr → Prop} {h p : Addr} {H H' : Hp} {n : Nat} {ps : List Addr} (l : ps.length ≤ n) (f : ∀ p ∈ ps, PairL L H p) (b : ButL L H H') (e : H' h = some (.lst ((ps ++ [p]).map V.ref))) (k : PairL L H' p) : HeldL L h H' (n + 1) :=
  ⟨ps ++ [p], e, by rw [List.length_append]; exact Nat.succ_le_succ l, fun q hq => by
    rcases List.mem_append.mp hq with z | z
    · exact (f q z).step b
    · rw [List.mem_singleton.mp z]; exact k⟩
theorem ButL.at_ {L : Addr → Prop} {H H' : Hp} {a : Addr} {o : HO} (s : ButL L H H') (l : L a) : ButL L H (upd H' a o) := fun b u n e => by
  have ne : b ≠ a := fun k => n (by rw [k]; exact l)
  rw [upd_ne ne]; exact s b u n e
theorem ButL.new {L : Addr → Prop} {H H' : Hp} {a : Addr} {o : HO} (s : ButL L H H') (na : H' a = none) : ButL L H (upd H' a o) := fun b u n e => by
  have e' := s b u n e
  rw [upd_ne (ne_of_none e' na)]; exact e'
end Ur
namespace Ur
open PySem L2
theorem PairL.more {L : Addr → Prop} {H : Hp} {p a : Addr} (k : PairL L H p) (ha : H a = none) : PairL (fun x => L x ∨ x = a) H p := by
  obtain ⟨n, x, y, ns, hx, hy, g1, g2, g3⟩ := k.both
  have ne : ∀ z (o : HO), H z = some o → z ≠ a := fun z o e1 e2 => by rw [e2, ha] at e1; cases e1
  exact ⟨fun z => z.elim n (ne _ _ g1), x, y, ns, fun z => z.elim hx (ne _ _ g2), fun z => z.elim hy (ne _ _ g3), g1, g2, g3⟩
theorem ButL.out {L : Addr → Prop} {H H' : Hp} {a : Addr} (s : ButL (fun x => L x ∨ x = a) H H') (ha : H a = none) : ButL L H H' := fun b o n e =>
  s b o (fun z => z.elim n (fun k => by rw [k, ha] at e; cases e)) e
theorem wun_le {ns : List Int} {f b : Int} : wun ns f b ≤ ns.length := by
  refine Nat.le_trans (ulen_le _) ?_
  unfold win
  rw [List.length_take, List.length_drop]
  omega
end Ur

namespace Ur
open PySem L2
/-! ### xs[l:u:c], c above 0 -/
def tStep3 (K : PySem.W.Frag) (te tl tu tc : TE) : TE := fun σ H Q => te σ H fun x H1 => tPart tl σ H1 fun l H2 => tPart tu σ H2 fun u H3 => tPart tc σ H3 fun c H4 =>
  ∃ a xs c', x = .ref a ∧ c = some c' ∧ 0 < c' ∧ SqL K H4 a xs ∧ ∀ p ys, (∀ y ∈ ys, y ∈ xs) → ys.length ≤ xs.length → H4 p = none → Q (.ref p) (upd H4 p (.lst ys))
open PySem.Spec PyProof.Rows in
theorem pe_step3 {X : Cx} {e el eu ec : Expr} {te tl tu tc : TE} {p3 pos : Pos} (he : PE X e te) (hl : PE X el tl) (hu : PE X eu tu) (hc : PE X ec tc) : PE X (.Subscript e (.Slice (some el) (some eu) (some ec) p3) pos) (tStep3 X.K te tl tu tc) := by
  refine ⟨fun pins s σ H Q I h => ?_⟩
  refine Subscript_ (thn (he.run pins s σ H _ I h) fun v s1 ⟨x, H1, I1, r1, q1⟩ => ?_)
  refine wpAny_Slice (thn ((po_some hl).run pins s1 σ H1 _ I1 q1) fun vl s2 ⟨l, H2, I2, pl, q2⟩ => ?_)
  refine thn ((po_some hu).run pins s2 σ H2 _ I2 q2) fun vu s3 ⟨u, H3, I3, pu, q3⟩ => ?_
  refine thn ((po_some hc).run pins s3 σ H3 _ I3 q3) fun vs s4 ⟨c, H4, I4, ps, q4⟩ => ?_
  obtain ⟨a, xs, c', rfl, rfl, hpos, hx, q⟩ := q4
  cases r1
  have I5 : Inv X pins σ H4 { s4 with heap := s4.heap.push { cls := .type "slice", data := .fields #[vl, vu, vs] } } := I4.kept (t' := s4.toks) fun b ob z => Heap.get?_push_of_some _ z
  obtain ⟨its, r, ht, hz⟩ := I5.list hx
  have hlen := r.length
  show wpAny (model X.prog X.w) X.A (subscriptTail e (.Slice (some el) (some eu) (some ec) p3) (.ref a) (.ref s4.heap.objs.size)) (EP X pins σ Q) X.xe { s4 with heap := s4.heap.push { cls := .type "slice", data := .fields #[vl, vu, vs] } }
  refine tail_any (ops := [.ref a, .ref s4.heap.objs.size]) ht.isList.typeIs (PySem.slot_list_getitem.lookup) ?_ (by with_unfolding_all rfl)
  refine wpAny_getItem_list_slice ht.isList (Heap.IsSliceOf.new _ vl vu vs) pl pu ps (fun k => by cases k; omega) ?_ (by rw [List.size_toArray]; omega)
  have hid : ∀ n : Nat, (sliceRange (sliceBounds l u (some c') n).1 (sliceBounds l u (some c') n).2.1 (sliceBounds l u (some c') n).2.2).length ≤ n := fun n => by
    have e1 : (sliceBounds l u (some c') n).2.2 = c' := rfl
    refine sliceRange_length_le _ _ _ n (fun _ => ⟨?_, ?_⟩) (fun k => absurd (by rw [e1]; exact hpos) k)
    · unfold sliceBounds
      cases l with
      | none => simp [hpos]
      | some i => simp [hpos]; omega
    · unfold sliceBounds
      cases u with
      | none => simp [hpos]
      | some i => simp [hpos]; omega
  have hid2 := hid its.toArray.size
  unfold slicePick
  generalize hI : sliceRange (sliceBounds l u (some c') its.toArray.size).1 (sliceBounds l u (some c') its.toArray.size).2.1 (sliceBounds l u (some c') its.toArray.size).2.2 = ids at hid2
  have hv := vals_pick r ids
  have hly : (ids.filterMap fun i => xs[i]?).length ≤ xs.length := by
    refine Nat.le_trans (List.length_filterMap_le _ _) ?_
    rw [List.size_toArray] at hid2
    omega
  refine ⟨.ref _, _, I5.laid (t' := s4.toks) (o := .lst (ids.filterMap fun i => xs[i]?)) (fun b ob z => Heap.get?_push_of_some _ z) (Nat.le_refl _) ?_, rfl, q _ _ (fun y hy => ?_) hly (I5.hok.fresh (Nat.le_refl _))⟩
  · exact ⟨by omega, _, 0, hv, Heap.get?_push_size _ rfl⟩
  · obtain ⟨i, _, e⟩ := List.mem_filterMap.mp hy
    exact List.mem_of_getElem? e
end Ur

/-! list(reversed(l)), l a list: a new list -/
namespace UrV
open PySem PySem.W PySem.Calls PyProof.Rows RT
section
variable {prog : Program} {w : World} {A : Around} {E : Value → Shared → Prop} {s : Shared}
theorem rv_extend {R : Result → Shared → Prop} {it l S : Addr} {items : Array Value} (hh : A.handled = none) (hit : s.heap.IsRevIter it l ((items.size : Int) - 1)) (hl : s.heap.IsList l items) (hne : l ≠ it) (hn : items.size ≤ sizeLine) (hSi : S ≠ it) (hSl : S ≠ l) (res : Value) (c₀ : Nat)
    (hS : s.heap.get? S = some { cls := .type "list", data := .seq #[] c₀ })
    (hR : ∀ h' tk acc c, (∀ b o, b ≠ S → b ≠ it → s.heap.get? b = some o → h'.get? b = some o) → h'.get? S = some { cls := .type "list", dict := none, data := .seq acc c, slots := #[] } → ItemsOf (fun i v => items[items.size - 1 - i]? = some v) acc items.size → R (.ok (.ret res)) { s with heap := h', toks := tk }) :
    wpAny (model prog w) A.in1 (Builtin.List.listExtendWith (.ref S) (.ref it) res)
      (fun fin s' => match fin with | .done f => R (.ok f) s' | .again c' => c'.quiet = true ∧ codeAny (model prog w) A c' R s') (fun e s' => R (.error e) s') s := by
  have W := (Walks.listRev (prog := prog) (w := w) (A := A.in1) hh it l hne items).toS
  have hSf : S ∉ [it, l] := by simp only [List.mem_cons, List.not_mem_nil, or_false, not_or]; exact ⟨hSi, hSl⟩
  have hT : s.TypeIs (.ref it) "list_reverseiterator" := Heap.IsRevIter.typeIs hit
  have h1 : Builtin.List.listSameRef (.ref S) (.ref it) = false := by simp [Builtin.List.listSameRef, hSi]
  unfold Builtin.List.listExtendWith
  refine wpAny_bind (wpAny_typeOf hT ?_)
  rw [if_neg (by rw [h1]; decide)]
  refine wpAny_bind (wpAny_pyIter_revIter hit ?_)
  refine wpAny_bind (wpAny_holding ?_)
  unfold Builtin.List.listLengthHint
  refine wpAny_bind (wpAny_specialOf hT nolen_lri ?_)
  show wpAny _ A.in1 (specialOf (Value.ref it) (Str.ofString "__length_hint__") >>= _) _ _ _
  refine wpAny_bind (wpAny_specialOf hT hint_lri ?_)
  generalize hid : ("list_reverseiterator.__length_hint__" : String) = id0
  wp_delta
  rw [show splitId id0 = some ("list_reverseiterator", "__length_hint__") from by subst hid; decide +kernel]
  subst hid
  refine wpAny_bind (wpAny_isInstance (b := true) hT (by rw [isSubtype_type]; kernel_rfl) ?_)
  refine wpAny_pure ?_
  rw [if_neg (by decide)]
  have e0 : ((items.size : Nat) : Int) - 1 - ((0 : Nat) : Int) = (items.size : Int) - 1 := by omega
  refine wpAny_pure ⟨plainId_quiet PySem.F.plain_extend_loop _, codeAny_extend_loopS W hn _ hSf _ items.size 0 _ _ _ rfl (Nat.zero_le _) ⟨Nat.zero_le _, by rw [e0]; exact hit, hl⟩ hS (ItemsOf.nil _) fun s' acc' c' hm hS' hacc => ?_⟩
  rw [Moved.eq_with hm]
  refine hR s'.heap s'.toks acc' c' (fun b o hb1 hb2 e => hm.heap b o (fun hmem => ?_) e) hS' hacc
  rcases List.mem_cons.mp hmem with e' | hmem
  · exact hb1 e'
  · exact hb2 (List.mem_singleton.mp hmem)
theorem call_list_rev {it l : Addr} {items : Array Value} {Q : Value → Shared → Prop} (hh : A.handled = none) (hit : s.heap.IsRevIter it l ((items.size : Int) - 1)) (hl : s.heap.IsList l items) (hne : l ≠ it) (hn : items.size ≤ sizeLine)
    (hQ : ∀ (h' : Heap) (tk c : Nat) (acc : Array Value), (∀ b o, b ≠ it → s.heap.get? b = some o → h'.get? b = some o) → ItemsOf (fun i v => items[items.size - 1 - i]? = some v) acc items.size →
      h'.get? s.heap.objs.size = some { cls := .type "list", dict := none, data := .seq acc c, slots := #[] } → Q (.ref s.heap.objs.size) { s with heap := h', toks := tk }) :
    wpAny (model prog w) A (call (.type "list") [.ref it]) Q E s := by
  refine callType_codes (Q₁ := fun obj s₁ => obj = .ref s.heap.objs.size ∧ s₁ = { s with heap := s.heap.push { cls := .type "list", data := .seq #[] } }) PySem.F.called_list (PySem.F.typeCall_list_1 _) PySem.F.entry_list_init
    (code_list_new _ ⟨rfl, rfl⟩) fun obj s₁ h₁ => ?_
  obtain ⟨rfl, rfl⟩ := h₁
  have hS : (s.heap.push { cls := .type "list", data := .seq #[] }).get? s.heap.objs.size = some { cls := .type "list", data := .seq #[] } := Heap.get?_push_size _ rfl
  have hil : it < s.heap.objs.size := let ⟨_, z, _⟩ := hit; Heap.lt_size z
  have hll : l < s.heap.objs.size := let ⟨_, z, _⟩ := hl; Heap.lt_size z
  refine ⟨⟨_, hS, rfl⟩, PySem.F.args_list_init_2 _ _, ?_⟩
  show wpAny _ _ (do let old ← Builtin.List.listItems (.ref s.heap.objs.size); Builtin.List.listUpdate (.ref s.heap.objs.size) (fun _ => #[]); letGo old.toList.reverse; Builtin.List.listExtendWith (.ref s.heap.objs.size) (.ref it) .none) _ _ _
  refine wpAny_bind ?_
  unfold Builtin.List.listItems
  refine wpAny_bind (wpAny_seqItems hS rfl (wpAny_pure ?_))
  show wpAny _ _ (updateSeq s.heap.objs.size (fun _ => #[]) >>= fun _ => letGo (#[] : Array Value).toList.reverse >>= fun _ => Builtin.List.listExtendWith (.ref s.heap.objs.size) (.ref it) .none) _ _ _
  refine wpAny_bind (wpAny_updateSeq hS rfl ?_)
  have hS₂ := Heap.get?_update_self (Obj.mapSeq (fun _ => (#[] : Array Value))) hS rfl
  have oth : ∀ b o, s.heap.get? b = some o → ((s.heap.push { cls := .type "list", data := .seq #[] }).update s.heap.objs.size (Obj.mapSeq (fun _ => (#[] : Array Value)))).get? b = some o :=
    fun b o z => (Heap.get?_update_other _ _ (Nat.ne_of_gt (Heap.lt_size z))).trans (Heap.get?_push_of_some _ z)
  refine wpAny_bind (wpAny_letGo ?_)
  refine rv_extend (A := A.in1) hh (hit.at fun o z => oth it o z) (hl.at fun o z => oth l o z) hne hn (Nat.ne_of_gt hil) (Nat.ne_of_gt hll) .none _ hS₂ fun h' tk acc c hk hS' hacc => ?_
  exact ⟨rfl, hQ h' tk c acc (fun b o h1 z => hk b o (Nat.ne_of_lt (Heap.lt_size z)) h1 (oth b o z)) hacc hS'⟩
end
open PySem.Spec L2
def tListRev (K : PySem.W.Frag) (te : TE) : TE := fun σ H Q => te σ H fun v H1 => ∃ (a : Addr) (xs : List V), v = .ref a ∧ SqL K H1 a xs ∧ ∀ q, H1 q = none → Q (.ref q) (upd H1 q (.lst xs.reverse))
theorem pe_listRev {X : Cx} {K : PySem.W.Frag} {e : Expr} {te : TE} {p p2 pos pos2 : Pos} (hk : X.K = K) (hc : X.calm = true) (hm : X.mg "list" = none) (hm2 : X.mg "reversed" = none) (he : PE X e te) (hg : Gl X "list" := by rfl) (hg2 : Gl X "reversed" := by rfl)
    (hs : starEach [e] X.env = (false, eval e X.env) :: starEach [] X.env := by rfl)
    (hs2 : starEach [.Call (.Name "reversed" p2) [e] [] pos2] X.env = (false, eval (.Call (.Name "reversed" p2) [e] [] pos2) X.env) :: starEach [] X.env := by rfl) :
    PE X (.Call (.Name "list" p) [.Call (.Name "reversed" p2) [e] [] pos2] [] pos) (tListRev K te) := by
  subst hk
  refine ⟨fun pins s σ H Q I h => ?_⟩
  refine Call_ (ld_blt I hg hm boot_list (PyProof.Rows.callWith_type1 (args_cons (Call_ (ld_blt I hg2 hm2 PyProof.Rows.boot_reversed (PyProof.Rows.callWith_type1 (args_cons (thn (he.run pins s σ H _ I h) fun u s1 ⟨v, H1, I1, r1, q1⟩ => args_nil ?_) hs) hs rfl))) hs2) hs2 rfl))
  obtain ⟨a, xs, ev, hq, q⟩ := q1
  subst ev
  obtain rfl : u = Value.ref a := r1
  obtain ⟨its, rv, p', hz⟩ := I1.list hq
  refine call_reversed_list p'.isList (args_nil ?_)
  have hl := p'.isList
  obtain ⟨ol, hol, _⟩ := id hl
  have hne : a ≠ s1.heap.objs.size := Nat.ne_of_lt (Heap.lt_size hol)
  have hn : its.toArray.size ≤ sizeLine := by rw [List.size_toArray, ← rv.length]; exact hz
  refine call_list_rev (s := { s1 with heap := s1.heap.push (revObj a ((its.toArray.size : Int) - 1)) }) (I1.ok.hd hc) ⟨_, Heap.get?_push_size _ rfl, rfl, rfl⟩ (hl.push _) hne hn fun h' tk c acc hk hi hS => ?_
  have hsz : (s1.heap.push (revObj a ((its.toArray.size : Int) - 1))).objs.size = s1.heap.objs.size + 1 := Heap.size_push _ _
  have hsz1 : s1.heap.objs.size ≤ (s1.heap.push (revObj a ((its.toArray.size : Int) - 1))).objs.size := by omega
  refine ⟨.ref _, upd H1 _ (.lst xs.reverse), I1.laid (t' := tk) (fun b o e => hk b o (Nat.ne_of_lt (Heap.lt_size e)) (Heap.get?_push_of_some _ e)) hsz1 (show ObjOk X.prog X.w _ _ _ (.lst xs.reverse) from ⟨by rw [List.length_reverse]; exact hz, acc.toList, c, vals_rev rv hi, ?_⟩), rfl, q _ (I1.hok.fresh hsz1)⟩
  rw [Array.toArray_toList]
  exact hS
end UrV

namespace Ur
open PySem L2
/-! ### windows of one width -/
/-- how many unlike numbers all windows of a width have -/
def ofW (ns : List Int) (w : Nat) : List Int := (List.range (ns.length + 1 - w)).map fun f => (wunN ns f (f + w) : Int)
theorem ofW_len (ns : List Int) (w : Nat) : (ofW ns w).length = ns.length + 1 - w := by simp [ofW]
theorem ofW_get {ns : List Int} {w f : Nat} (h : f + w ≤ ns.length) : (ofW ns w)[f]? = some (wunN ns f (f + w) : Int) := by
  unfold ofW
  rw [List.getElem?_map, List.getElem?_range (by omega)]
  rfl
theorem ofW_getD {ns : List Int} {w f : Nat} (h : f + w ≤ ns.length) : (ofW ns w).getD f 0 = (wunN ns f (f + w) : Int) := getD_of (ofW_get h)
/-- a window one further on -/
theorem wunN_slide {ns : List Int} {f w : Nat} (h : f + w < ns.length) : (wunN ns (f + 1) (f + 1 + w) : Int) = (wunN ns f (f + w) : Int) - (if ((f + w : Nat) : Int) ≤ nx ns f then 1 else 0) + (if lp ns (f + w) ≤ (f : Int) then 1 else 0) := by
  rcases Nat.eq_zero_or_pos w with rfl | hw
  · have h1 := lp_range ns f
    have e1 : ((f + 0 : Nat) : Int) ≤ nx ns f := by
      unfold nx
      rcases nextUp_spec ns f ns.length (Nat.le_refl _) with ⟨e, _⟩ | ⟨v, e, h1, _⟩ <;> rw [e] <;> omega
    simp only [Nat.add_zero] at e1 ⊢
    rw [wunN_none, wunN_none, if_pos e1, if_pos (show lp ns f ≤ (f : Int) by omega)]
    rfl
  · have d := wunN_down (ns := ns) (p := f) (b := f + w) (by omega) (by omega)
    have u := wunN_up (ns := ns) (f := f + 1) (b := f + w) (by omega) h
    rw [show f + w + 1 = f + 1 + w from by omega] at u
    rw [u, d]
    have e : (lastAt ns (f + w) (ns.getD (f + w) 0) < ((f + 1 : Nat) : Int)) = (lp ns (f + w) ≤ (f : Int)) := by
      unfold lp
      exact propext ⟨fun h => by omega, fun h => by omega⟩
    show ((_ + (if lastAt ns (f + w) (ns.getD (f + w) 0) < ((f + 1 : Nat) : Int) then 1 else 0) : Nat) : Int) = _
    simp only [e]
    show _ = ((_ + (if ((f + w : Nat) : Int) ≤ nextUp ns f ns.length then 1 else 0) : Nat) : Int) - (if ((f + w : Nat) : Int) ≤ nextUp ns f ns.length then 1 else 0) + _
    (repeat' split) <;> omega
/-- the sums for each width -/
def sumsW (ns : List Int) : List Int := (List.range (ns.length + 1)).map fun w => (ofW ns w).sum
/-- a line of the law's table: the windows from f on -/
def lineW (ns : List Int) (f : Nat) : List Int := (List.range (ns.length - f + 1)).map fun k => (wunN ns f (f + k) : Int)
theorem lineW_len (ns : List Int) (f : Nat) : (lineW ns f).length = ns.length - f + 1 := by simp [lineW]
theorem lineW_get {ns : List Int} {f k : Nat} (h : k < ns.length - f + 1) : (lineW ns f)[k]? = some (wunN ns f (f + k) : Int) := by
  unfold lineW
  rw [List.getElem?_map, List.getElem?_range h]
  rfl
theorem lineW_getD {ns : List Int} {f k : Nat} (h : k < ns.length - f + 1) : (lineW ns f).getD k 0 = (wunN ns f (f + k) : Int) := getD_of (lineW_get h)
/-- what is due of a width, behind the lines ahead of f and k numbers of the line f -/
def dueW (ns : List Int) (f k w : Nat) : Int := sumTo (fun g => if g + w ≤ ns.length then (wunN ns g (g + w) : Int) else 0) f + if w < k then (wunN ns f (f + w) : Int) else 0
theorem dueW_up {ns : List Int} {f w : Nat} (hf : f ≤ ns.length) : dueW ns f (ns.length - f + 1) w = dueW ns (f + 1) 0 w := by
  unfold dueW
  show _ = sumTo _ f + (if f + w ≤ ns.length then (wunN ns f (f + w) : Int) else 0) + 0
  by_cases h : w < ns.length - f + 1
  · rw [if_pos h, if_pos (by omega)]; omega
  · rw [if_neg h, if_neg (by omega)]; omega
theorem dueW_end {ns : List Int} {w : Nat} (hw : w ≤ ns.length) : dueW ns (ns.length + 1) 0 w = (ofW ns w).sum := by
  unfold dueW ofW
  rw [sum_range, sumTo_cut _ (show ns.length + 1 - w ≤ ns.length + 1 by omega)]
  rw [show (if w < 0 then (wunN ns (ns.length + 1) (ns.length + 1 + w) : Int) else 0) = 0 from rfl, Int.add_zero]
  exact sumTo_congr fun g hg => by
    by_cases h : g + w ≤ ns.length
    · rw [if_pos h, if_pos (by omega)]
    · rw [if_neg h, if_neg (by omega)]
/-! ### told things that are held, each a tuple of two lists of the same ints -/
structure PairT (h : Addr) (H : Hp) (p : Addr) : Prop where
  both : ∃ (a b : Addr) (ns : List Int), a ≠ h ∧ b ≠ h ∧ p ≠ h ∧ H p = some (.tup [.ref a, .ref b]) ∧ H a = some (.lst (ns.map V.int)) ∧ H b = some (.lst (ns.map V.int))
structure HeldT (h : Addr) (H : Hp) (n : Nat) : Prop where
  all : ∃ ps : List Addr, H h = some (.lst (ps.map V.ref)) ∧ ps.length ≤ n ∧ ∀ p ∈ ps, PairT h H p
theorem PairT.step {h p : Addr} {H H' : Hp} (k : PairT h H p) (b : But h H H') : PairT h H' p := by
  obtain ⟨x, y, ns, hx, hy, hp, e, e1, e2⟩ := k.both
  exact ⟨x, y, ns, hx, hy, hp, b _ _ hp e, b _ _ hx e1, b _ _ hy e2⟩
theorem HeldT.same {h : Addr} {H H' : Hp} {n : Nat} (k : HeldT h H n) (s : Same H H') : HeldT h H' n := by
  obtain ⟨ps, e, l, f⟩ := k.all
  exact ⟨ps, s _ _ e, l, fun p hp => (f p hp).step (Same.but s)⟩
theorem HeldT.snoc {h p : Addr} {H H' : Hp} {m n : Nat} {ps : List Addr} (e : H h = some (.lst (ps.map V.ref))) (l : ps.length ≤ n) (f : ∀ p ∈ ps, PairT h H p) (b : But h H H') (e' : H' h = some (.lst (ps.map V.ref ++ [V.ref p]))) (g : PairT h H' p) (hm : n + 1 ≤ m) : HeldT h H' m :=
  ⟨ps ++ [p], by rw [e', List.map_append]; rfl, by rw [List.length_append]; exact Nat.le_trans (Nat.succ_le_succ l) hm, fun q hq => by
    rcases List.mem_append.mp hq with k | k
    · exact (f q k).step b
    · rw [List.mem_singleton.mp k]; exact g⟩
end Ur
namespace Ur
open PySem L2
theorem putK_same {kvs : List (Key × V)} {k : Key} {v : V} (h : (valV kvs k).isSome = true) : (putK kvs k v).length = kvs.length := by
  have e : (kvs.any fun kv => decide (kv.1 = k)) = true := (valV_any k kvs).trans h
  unfold putK
  rw [e, if_pos rfl, List.length_map]
theorem putK_none {kvs : List (Key × V)} {k : Key} {v : V} (h : (valV kvs k).isSome = false) : (putK kvs k v).length = kvs.length + 1 :=
  putK_len (Option.not_isSome_iff_eq_none.mp (by rw [h]; exact Bool.false_ne_true))
/-- a dict of the ints that were met -/
structure Met (kvs : List (Key × V)) (W : List Int) : Prop where
  has : ∀ z : Int, (valV kvs (Sum.inl z)).isSome = decide (z ∈ W)
  len : kvs.length = ulen W
theorem Met.nil : Met [] [] := ⟨fun z => by simp [valV_nil], rfl⟩
theorem Met.put {kvs : List (Key × V)} {W : List Int} (m : Met kvs W) (x : Int) (v : V) : Met (putK kvs (Sum.inl x) v) (W ++ [x]) := by
  refine ⟨fun z => ?_, ?_⟩
  · rw [val_put]
    by_cases h : z = x
    · subst h; simp
    · rw [if_neg h, m.has]; simp [h]
  · rw [ulen_snoc]
    by_cases h : x ∈ W
    · rw [if_pos h, putK_same (by rw [m.has]; exact decide_eq_true h), m.len]
    · rw [if_neg h, putK_none (by rw [m.has]; exact decide_eq_false h), m.len]
end Ur
namespace Ur
open PySem L2
/-- what is due of all widths -/
def dueL (ns : List Int) (f k : Nat) : List Int := (List.range (ns.length + 1)).map (dueW ns f k)
theorem dueL_len (ns : List Int) (f k : Nat) : (dueL ns f k).length = ns.length + 1 := by simp [dueL]
theorem dueL_get {ns : List Int} {f k w : Nat} (h : w < ns.length + 1) : (dueL ns f k)[w]? = some (dueW ns f k w) := by
  unfold dueL
  rw [List.getElem?_map, List.getElem?_range h]
  rfl
theorem dueL_0 (ns : List Int) : dueL ns 0 0 = List.replicate (ns.length + 1) 0 := by
  refine List.ext_getElem? fun w => ?_
  by_cases h : w < ns.length + 1
  · rw [dueL_get h, List.getElem?_replicate, if_pos h]
    rfl
  · rw [List.getElem?_eq_none (by rw [dueL_len]; omega), List.getElem?_eq_none (by rw [List.length_replicate]; omega)]
theorem dueL_set {ns : List Int} {f k : Nat} (h : k < ns.length - f + 1) : (dueL ns f k).set k ((dueL ns f k).getD k 0 + (lineW ns f).getD k 0) = dueL ns f (k + 1) := by
  refine List.ext_getElem? fun w => ?_
  by_cases hw : w < ns.length + 1
  · rw [List.getElem?_set, dueL_len, dueL_get hw, dueL_get hw, getD_of (dueL_get (show k < ns.length + 1 by omega)), lineW_getD h]
    unfold dueW
    by_cases e : k = w
    · subst e
      rw [if_pos rfl, if_pos (by omega), if_neg (Nat.lt_irrefl _), if_pos (Nat.lt_succ_self _)]
      simp
    · rw [if_neg e]
      by_cases c : w < k
      · rw [if_pos c, if_pos (by omega)]
      · rw [if_neg c, if_neg (by omega)]
  · rw [List.getElem?_eq_none (by rw [List.length_set, dueL_len]; omega), List.getElem?_eq_none (by rw [dueL_len]; omega)]
theorem dueL_up {ns : List Int} {f : Nat} (hf : f ≤ ns.length) : dueL ns f (ns.length - f + 1) = dueL ns (f + 1) 0 :=
  List.map_congr_left fun _ _ => dueW_up hf
theorem dueL_end (ns : List Int) : dueL ns (ns.length + 1) 0 = sumsW ns :=
  List.map_congr_left fun _ h => dueW_end (by have := List.mem_range.mp h; omega)
theorem sumsW_len (ns : List Int) : (sumsW ns).length = ns.length + 1 := by simp [sumsW]
end Ur

namespace Ur
open PySem PySem.Spec PyProof.Rows L2
/-- xs[i], by values: for xs[i] += e -/
theorem get_list {X : Cx} : PGet X (rIxL X.K) := by
  intro pins s σ H x y v u Q I rx ry h
  obtain ⟨p, xs, i, z, rfl, rfl, hq, he, q⟩ := h
  cases rx
  obtain ⟨t, rfl⟩ := ry
  obtain ⟨its, r, pl, hz⟩ := I.list hq
  obtain ⟨j, h1, h2, h3, h4, h5⟩ := atI_get he
  obtain ⟨w, ew, rw'⟩ := r.get h2
  have hl := r.length
  have hn := line63
  have fin : EP X pins σ Q w s := ⟨z, H, I, rw', q⟩
  by_cases h0 : 0 ≤ i
  · have hj : i.toNat = j := by
      rw [seqIndex_of h0 h5] at h1
      exact Option.some.inj h1
    exact wpAny_getItem_list pl.isList h0 (by omega) (by rw [hj]; simpa using ew) fin
  · have hj : (i + (its.toArray.size : Int)).toNat = j := by
      rw [seqIndex_neg (by omega) h4] at h1
      rw [List.size_toArray, ← hl]
      exact Option.some.inj h1
    exact wpAny_getItem_list_neg pl.isList (by omega) (by rw [List.size_toArray] <;> omega) (by omega) (by rw [hj]; simpa using ew) fin
end Ur

namespace Ur
open PySem L2
/-! ### things of a known kind -/
def Kind (H : Hp) (v : V) : Prop :=
  (∃ i, v = .int i) ∨ (∃ b, v = .bl b) ∨ (∃ x, v = .str x) ∨ v = .non ∨ (∃ p xs, v = .ref p ∧ H p = some (.lst xs)) ∨ (∃ p xs, v = .ref p ∧ H p = some (.tup xs)) ∨ ∃ p kvs, v = .ref p ∧ H p = some (.dK kvs)
theorem Kind.int {H : Hp} {i : Int} : Kind H (.int i) := .inl ⟨i, rfl⟩
theorem Kind.bl {H : Hp} {b : Bool} : Kind H (.bl b) := .inr (.inl ⟨b, rfl⟩)
theorem Kind.str {H : Hp} {x : Str} : Kind H (.str x) := .inr (.inr (.inl ⟨x, rfl⟩))
theorem Kind.non {H : Hp} : Kind H .non := .inr (.inr (.inr (.inl rfl)))
theorem Kind.lst {H : Hp} {p : Addr} {xs : List V} (e : H p = some (.lst xs)) : Kind H (.ref p) := .inr (.inr (.inr (.inr (.inl ⟨p, xs, rfl, e⟩))))
theorem Kind.tup {H : Hp} {p : Addr} {xs : List V} (e : H p = some (.tup xs)) : Kind H (.ref p) := .inr (.inr (.inr (.inr (.inr (.inl ⟨p, xs, rfl, e⟩)))))
theorem Kind.dct {H : Hp} {p : Addr} {kvs : List (Key × V)} (e : H p = some (.dK kvs)) : Kind H (.ref p) := .inr (.inr (.inr (.inr (.inr (.inr ⟨p, kvs, rfl, e⟩)))))
theorem Kind.same {H H' : Hp} {v : V} (k : Kind H v) (s : Same H H') : Kind H' v := by
  rcases k with ⟨i, rfl⟩ | ⟨b, rfl⟩ | ⟨x, rfl⟩ | rfl | ⟨p, xs, rfl, e⟩ | ⟨p, xs, rfl, e⟩ | ⟨p, xs, rfl, e⟩
  · exact .int
  · exact .bl
  · exact .str
  · exact .non
  · exact .lst (s _ _ e)
  · exact .tup (s _ _ e)
  · exact .dct (s _ _ e)
theorem Kind.but {a : Addr} {H H' : Hp} {v : V} (k : Kind H v) (b : But a H H') (h : v ≠ .ref a) : Kind H' v := by
  rcases k with ⟨i, rfl⟩ | ⟨c, rfl⟩ | ⟨x, rfl⟩ | rfl | ⟨p, xs, rfl, e⟩ | ⟨p, xs, rfl, e⟩ | ⟨p, xs, rfl, e⟩
  · exact .int
  · exact .bl
  · exact .str
  · exact .non
  · exact .lst (b _ _ (fun z => h (by rw [z])) e)
  · exact .tup (b _ _ (fun z => h (by rw [z])) e)
  · exact .dct (b _ _ (fun z => h (by rw [z])) e)
/-- a fact laid aside -/
structure Bx (P : Prop) : Prop where
  out : P
theorem nwA {H : Hp} {x p : Addr} {o : HO} (h : H x = some o) (n : H p = none) : x ≠ p := fun e => by rw [e, n] at h; cases h
/-! ### told things that are held, each a tuple of two lists of the same ints, none of them there in B -/
/-- no place of B -/
structure NoneIn (B : Hp) (x : Addr) : Prop where
  out : B x = none
structure PairN (B : Hp) (h : Addr) (H : Hp) (p : Addr) : Prop where
  both : ∃ (a b : Addr) (ns : List Int), a ≠ h ∧ b ≠ h ∧ p ≠ h ∧ NoneIn B a ∧ NoneIn B b ∧ NoneIn B p ∧ H p = some (.tup [.ref a, .ref b]) ∧ H a = some (.lst (ns.map V.int)) ∧ H b = some (.lst (ns.map V.int))
structure HeldN (B : Hp) (h : Addr) (H : Hp) (n : Nat) : Prop where
  all : ∃ ps : List Addr, H h = some (.lst (ps.map V.ref)) ∧ ps.length ≤ n ∧ ∀ p ∈ ps, PairN B h H p
theorem PairN.step {B : Hp} {h p : Addr} {H H' : Hp} (k : PairN B h H p) (b : But h H H') : PairN B h H' p := by
  obtain ⟨x, y, ns, hx, hy, hp, k1, k2, k3, e, e1, e2⟩ := k.both
  exact ⟨x, y, ns, hx, hy, hp, k1, k2, k3, b _ _ hp e, b _ _ hx e1, b _ _ hy e2⟩
theorem HeldN.same {B : Hp} {h : Addr} {H H' : Hp} {n : Nat} (k : HeldN B h H n) (s : Same H H') : HeldN B h H' n := by
  obtain ⟨ps, e, l, f⟩ := k.all
  exact ⟨ps, s _ _ e, l, fun p hp => (f p hp).step (Same.but s)⟩
theorem HeldN.le {B : Hp} {h : Addr} {H : Hp} {n m : Nat} (k : HeldN B h H n) (l : n ≤ m) : HeldN B h H m := by
  obtain ⟨ps, e, l', f⟩ := k.all
  exact ⟨ps, e, Nat.le_trans l' l, f⟩
/-- another object changes, that was there in B -/
theorem HeldN.other {B : Hp} {h a : Addr} {H H' : Hp} {n : Nat} {o : HO} (k : HeldN B h H n) (b : But a H H') (e : B a = some o) (ne : h ≠ a) : HeldN B h H' n := by
  obtain ⟨ps, eh, l, f⟩ := k.all
  refine ⟨ps, b _ _ ne eh, l, fun p hp => ?_⟩
  obtain ⟨x, y, ns, hx, hy, hp, k1, k2, k3, e0, e1, e2⟩ := (f p hp).both
  have no : ∀ {z : Addr}, NoneIn B z → z ≠ a := fun k z => by have k := k.out; rw [z, e] at k; cases k
  exact ⟨x, y, ns, hx, hy, hp, k1, k2, k3, b _ _ (no k3) e0, b _ _ (no k1) e1, b _ _ (no k2) e2⟩
theorem HeldN.snoc {B : Hp} {h p : Addr} {H H' : Hp} {m n : Nat} {ps : List Addr} (l : ps.length ≤ n) (f : ∀ p ∈ ps, PairN B h H p) (b : But h H H') (e' : H' h = some (.lst (ps.map V.ref ++ [V.ref p]))) (g : PairN B h H' p) (hm : n + 1 ≤ m) : HeldN B h H' m :=
  ⟨ps ++ [p], by rw [e', List.map_append]; rfl, by rw [List.length_append]; exact Nat.le_trans (Nat.succ_le_succ l) hm, fun q hq => by
    rcases List.mem_append.mp hq with k | k
    · exact (f q k).step b
    · rw [List.mem_singleton.mp k]; exact g⟩
/-- what there is in B is there in H -/
structure Within (B H : Hp) : Prop where
  free : ∀ x, H x = none → B x = none
theorem Within.none {B H : Hp} {x : Addr} (w : Within B H) (e : H x = none) : NoneIn B x := ⟨w.free x e⟩
theorem Within.refl {B : Hp} : Within B B := ⟨fun _ e => e⟩
theorem Within.upd {B H : Hp} {a : Addr} {o : HO} (w : Within B H) : Within B (upd H a o) := ⟨fun _ e => w.free _ (upd_none e)⟩
theorem Within.same {B H H' : Hp} (w : Within B H) (s : Same H H') : Within B H' := ⟨fun _ e => w.free _ (s.free e)⟩
theorem Within.but {a : Addr} {o : HO} {B H H' : Hp} (w : Within B H) (b : But a H H') (e : H' a = some o) : Within B H' := ⟨fun x n => by
  refine w.free x ?_
  cases k : H x with
  | none => rfl
  | some u =>
    have ne : x ≠ a := fun z => by rw [z, e] at n; cases n
    rw [b _ _ ne k] at n; cases n⟩
theorem HeldN.within {B : Hp} {h : Addr} {H H' : Hp} {n : Nat} (k : HeldN B h H' n) (w : Within B H) (b : But h H H') : Within B H' := by
  obtain ⟨ps, eh, _, _⟩ := k.all
  exact w.but b eh
end Ur

namespace Ur
open PySem L2 PySem.Spec PyProof.Rows
/-! ### an exception in hand -/
/-- isinstance of the exception that the suite holds: a class, or a tuple of classes -/
def rIsX (K : PySem.W.Frag) (cls : Value) (d : Option Addr) (a : Addr) : List V → Hp → VK → Prop := fun xs H Q =>
  ∃ (D : Addr) (c : V) (b : Bool), xs = [.ref a, c] ∧ cls = .ref D ∧ d = none ∧ ExcC K D ∧
    ((∃ u, ClsV c u ∧ PySem.W.kitOne K (.ref D) u = some b) ∨ ∃ (tp : Addr) (cs : List V) (us : List Value), c = .ref tp ∧ H tp = some (.tup cs) ∧ Paired ClsV cs us ∧ PySem.W.kitAny K (.ref D) us = some b) ∧ Q (.bl b) H
theorem call_isX {X : Cx} {K : PySem.W.Frag} (hK : X.K = K) {a : Addr} {cls : Value} {d : Option Addr} {oe : Obj} (hz : Zc cls d oe) (hf : ∃ vs, oe.data = .fields vs) (hp : (a, oe) ∈ X.pn) : CallR X (.builtin "isinstance") (rIsX K cls d a) := by
  subst hK
  intro pins s σ H xs us Q I r h
  obtain ⟨D, c, b, rfl, rfl, rfl, C, hc, q⟩ := h
  obtain ⟨u1, u2, rfl, r1, r2⟩ := vals2 r
  cases (show u1 = Value.ref a from r1)
  obtain ⟨hget, _⟩ := I.pin (a, oe) (List.mem_append.mpr (.inl hp))
  obtain ⟨vs, hv⟩ := hf
  have J : PySem.W.InstAt s.heap a oe D none := by
    obtain ⟨oc, od, oda, osl⟩ := oe
    obtain ⟨h1, h2⟩ := hz
    dsimp only at h1 h2 hv
    subst h1 h2 hv
    exact ⟨hget, rfl, rfl, trivial⟩
  have Z := PySem.W.handS_kitx_exc (x := a) (ox := oe) C.hg C.hk C.hs C.hd C.ha C.hn C.ht C.hm
  rcases hc with ⟨u, k, e⟩ | ⟨tp, cs, ws, rfl, hT, k, e⟩
  · have e2 := k.eq r2
    subst e2
    exact PySem.W.kia_one Z I.kIn J e (fun z => nomatch z) fun tk => ⟨.bl b, H, I.kept (t' := tk) fun _ _ z => z, rfl, q⟩
  · cases (show u2 = Value.ref tp from r2)
    obtain ⟨_, its, rv, o, h1, h2, n, h3⟩ := (show ObjOk X.prog X.w H s.heap tp (.tup cs) from I.hok tp _ hT)
    have e3 := ClsV.all k rv
    subst e3
    obtain ⟨oc, od, dt, sl⟩ := o
    simp only at h2 h3
    subst h2 h3
    exact PySem.W.kia_tup Z I.kIn J h1 e (fun z => nomatch z) fun tk => ⟨.bl b, H, I.kept (t' := tk) fun _ _ z => z, rfl, q⟩
/-- a method of a built-in object, the fragment told -/
theorem pe_bmK {X : Cx} {K : PySem.W.Frag} {o e : Expr} {es : List Expr} {to : TE} {t : TA} {name : Str} {apos cpos : Pos} {T id : String} {r : V → List V → Hp → VK → Prop} (hK : X.K = K) (pa : PlainAttrs T) (slot : Slot T name id) (hty : typeOf (.builtin id) = pure (.type "method_descriptor")) (hm : MtR X id r) (ho : PE X o to) (ha : PA X (e :: es) t)
    (h1 : attributeBase o name X.env (eval o X.env) = eval o X.env := by rfl)
    (h2 : ((backTo cpos (starEach (e :: es) X.env)).all (fun x => !x.1) && (backToKw cpos (keywordEach [] X.env)).all (fun x => x.1.isSome) && decide ((e :: es).length + ([] : List Keyword).length + (if ([] : List Keyword).isEmpty then 0 else 1) < 30)) = true := by rfl)
    (h3 : (apos.endLine == cpos.line) = true := by rfl) (h4 : starEach (e :: es) X.env = (false, eval e X.env) :: starEach es X.env := by rfl) (h5 : (backTo cpos (starEach es X.env)).any (·.1) = false := by rfl) :
    PE X (.Call (.Attribute o name apos) (e :: es) [] cpos) (tBM K T r to t) := by
  subst hK
  exact pe_bm pa slot hty hm ho ha h1 h2 h3 h4 h5
theorem isX1 {K : PySem.W.Frag} {D a C : Addr} {b : Bool} {H : Hp} {Q : VK} (E : ExcC K D) (h : PySem.W.kitOne K (.ref D) (.ref C) = some b) (q : Q (.bl b) H) : rIsX K (.ref D) none a [.ref a, .ref C] H Q :=
  ⟨D, _, b, rfl, rfl, rfl, E, .inl ⟨_, .own C, h⟩, q⟩
theorem isXT {K : PySem.W.Frag} {D a : Addr} {n : String} {b : Bool} {H : Hp} {Q : VK} (E : ExcC K D) (h : PySem.W.kitOne K (.ref D) (.type n) = some b) (q : Q (.bl b) H) : rIsX K (.ref D) none a [.ref a, .ty n] H Q :=
  ⟨D, _, b, rfl, rfl, rfl, E, .inl ⟨_, .ty n, h⟩, q⟩
/-- of none of these classes -/
def NoneOf (K : PySem.W.Frag) (D : Addr) (cs : List Addr) : Prop := ∀ c ∈ cs, PySem.W.kitOne K (.ref D) (.ref c) = some false
theorem NoneOf.any {K : PySem.W.Frag} {D : Addr} : ∀ {cs : List Addr}, NoneOf K D cs → PySem.W.kitAny K (.ref D) (cs.map Value.ref) = some false
  | [], _ => rfl
  | c :: cs, h => kitAny_cons (h c List.mem_cons_self) (fun _ => NoneOf.any fun x hx => h x (List.mem_cons_of_mem _ hx)) (fun z => nomatch z)
theorem NoneOf.pair : ∀ (cs : List Addr), Paired ClsV (cs.map V.ref) (cs.map Value.ref)
  | [] => .nil
  | c :: cs => .cons (.own c) (NoneOf.pair cs)
theorem isX2 {K : PySem.W.Frag} {D a p : Addr} {vs : List V} {cs : List Addr} {H : Hp} {Q : VK} (E : ExcC K D) (h : NoneOf K D cs) (e : H p = some (.tup vs)) (hv : vs = cs.map V.ref) (q : Q (.bl false) H) : rIsX K (.ref D) none a [.ref a, .ref p] H Q :=
  ⟨D, _, false, rfl, rfl, rfl, E, .inr ⟨p, _, _, rfl, by rw [e, hv], NoneOf.pair cs, h.any⟩, q⟩
theorem NoneOf.nil {K : PySem.W.Frag} {D : Addr} : NoneOf K D [] := fun _ h => nomatch h
theorem NoneOf.cons {K : PySem.W.Frag} {D c : Addr} {cs : List Addr} (h : PySem.W.kitOne K (.ref D) (.ref c) = some false) (t : NoneOf K D cs) : NoneOf K D (c :: cs) := fun x hx => by
  rcases List.mem_cons.mp hx with rfl | k
  · exact h
  · exact t x k
theorem rEq_kinds {K : PySem.W.Frag} {H : Hp} {a b : Addr} {Q : VK} (h1 : H a = some (.lst [.bl true, .bl true, .bl false])) (h2 : H b = some (.lst [.bl true, .bl true, .bl false])) (q : Q (.bl true) H) : rEqD K (.ref a) (.ref b) H Q :=
  ⟨_, _, .lst (SqL.of h1) (.cons (.bl _) (.cons (.bl _) (.cons (.bl _) .nil))), .lst (SqL.of h2) (.cons (.bl _) (.cons (.bl _) (.cons (.bl _) .nil))), by decide, by decide, q⟩
end Ur

namespace Ur
open PySem L2
/-! ### range(0, b, c) -/
theorem rgc_up {b c : Int} (hb : 0 ≤ b) (hb' : b ≤ 1000000) (hc : 0 < c) (hc' : c ≤ 1000000) : ∃ n : Nat, (n : Int) ≤ b ∧ (∀ i : Nat, i < n → 0 ≤ 0 + (i : Int) * c ∧ 0 + (i : Int) * c < b) ∧ RgC 0 b c n := by
  by_cases h : 0 < b
  · have h1 : 0 ≤ (b - 0 - 1) / c := Int.ediv_nonneg (by omega) (by omega)
    have h2 : (b - 0 - 1) / c ≤ b - 0 - 1 := Int.ediv_le_self c (by omega)
    have e : Builtin.Range.rangeSize 0 b c = (b - 0 - 1) / c + 1 := by
      unfold Builtin.Range.rangeSize
      rw [if_pos hc, if_pos h]
    refine ⟨((b - 0 - 1) / c + 1).toNat, by omega, fun i hi => ⟨by have := Int.mul_nonneg (Int.natCast_nonneg i) (Int.le_of_lt hc); omega, ?_⟩, by omega, by omega, ?_, ?_⟩
    · have k1 : (i : Int) ≤ (b - 0 - 1) / c := by omega
      have k2 : (i : Int) * c ≤ (b - 0 - 1) / c * c := Int.mul_le_mul_of_nonneg_right k1 (by omega)
      have k3 := Int.ediv_mul_le (b - 0 - 1) (show c ≠ 0 by omega)
      omega
    · unfold Builtin.Range.small
      rw [e, if_pos hc]
      simp only [Builtin.Range.rangeFitsLong, Bool.and_eq_true, Bool.or_eq_true, decide_eq_true_eq, beq_iff_eq]
      omega
    · rw [e]; omega
  · have hb0 : b = 0 := by omega
    subst hb0
    refine ⟨0, by omega, fun i hi => absurd hi (Nat.not_lt_zero _), by omega, by omega, ?_, ?_⟩
    · unfold Builtin.Range.small Builtin.Range.rangeSize
      rw [if_pos hc, if_pos hc]
      simp only [Builtin.Range.rangeFitsLong, Bool.and_eq_true, Bool.or_eq_true, decide_eq_true_eq, beq_iff_eq]
      omega
    · unfold Builtin.Range.rangeSize
      rw [if_pos hc]
      rfl
end Ur

namespace Ur
open PySem L2
/-! ### lists of lists of ints -/
/-- n lists at ls, the k-th of them F k -/
structure RowsF (H : Hp) (ls : List Addr) (n : Nat) (F : Nat → List Int) : Prop where
  len : ls.length = n
  row : ∀ k p, ls[k]? = some p → H p = some (.lst ((F k).map V.int))
theorem RowsF.same {H H' : Hp} {ls : List Addr} {n : Nat} {F : Nat → List Int} (r : RowsF H ls n F) (s : Same H H') : RowsF H' ls n F := ⟨r.len, fun k p e => s _ _ (r.row k p e)⟩
theorem RowsF.but {a : Addr} {H H' : Hp} {ls : List Addr} {n : Nat} {F : Nat → List Int} (r : RowsF H ls n F) (b : But a H H') (no : ∀ p ∈ ls, p ≠ a) : RowsF H' ls n F := ⟨r.len, fun k p e => b _ _ (no p (List.mem_of_getElem? e)) (r.row k p e)⟩
theorem RowsF.congr {H : Hp} {ls : List Addr} {n : Nat} {F G : Nat → List Int} (r : RowsF H ls n F) (e : ∀ k, k < n → F k = G k) : RowsF H ls n G := ⟨r.len, fun k p h => by
  have hk := (List.getElem?_eq_some_iff.mp h).1
  rw [← e k (by have := r.len; omega)]
  exact r.row k p h⟩
theorem RowsF.is {H : Hp} {ls : List Addr} {n : Nat} {F : Nat → List Int} (r : RowsF H ls n F) {p : Addr} (hp : p ∈ ls) : ∃ ns : List Int, H p = some (.lst (ns.map V.int)) := by
  obtain ⟨k, hk⟩ := List.getElem?_of_mem hp
  exact ⟨F k, r.row k p hk⟩
theorem RowsF.snoc {H H4 : Hp} {Dl q : Addr} {qs : List Addr} {i : Nat} {F : Nat → List Int} {o : HO} (r : RowsF H qs i F) (s : Same H H4) (no : ∀ p ∈ qs, p ≠ Dl) (e : H4 q = some (.lst ((F i).map V.int))) (hq : q ≠ Dl) : RowsF (upd H4 Dl o) (qs ++ [q]) (i + 1) F := by
  refine ⟨by rw [List.length_append, r.len]; rfl, fun k p h => ?_⟩
  by_cases hk : k < qs.length
  · rw [List.getElem?_append_left hk] at h
    rw [upd_ne (no p (List.mem_of_getElem? h))]
    exact s _ _ (r.row k p h)
  · have h2 := (List.getElem?_eq_some_iff.mp h).1
    rw [List.length_append] at h2
    have h3 : [q].length = 1 := rfl
    have hk2 : k = qs.length := by omega
    subst hk2
    rw [List.getElem?_append_right (Nat.le_refl _), Nat.sub_self] at h
    cases h
    rw [upd_ne hq, r.len]
    exact e
theorem dpAll_of {K : PySem.W.Frag} {H : Hp} : ∀ (vs : List V) (ds : List PyData), vs.length = ds.length → (∀ (k : Nat) (v : V) (d : PyData), vs[k]? = some v → ds[k]? = some d → Dp K H v d) → DpAll K H vs ds
  | [], [], _, _ => .nil
  | [], _ :: _, h, _ => by cases h
  | _ :: _, [], h, _ => by cases h
  | v :: vs, d :: ds, h, f => .cons (f 0 v d rfl rfl) (dpAll_of vs ds (Nat.succ.inj h) fun k v d h1 h2 => f (k + 1) v d h1 h2)
theorem canLayAll_of : ∀ ds : List PyData, (∀ d ∈ ds, PyData.canLay0 d = true) → PyData.canLayAll0 ds = true
  | [], _ => rfl
  | d :: ds, f => by
    show (PyData.canLay0 d && PyData.canLayAll0 ds) = true
    rw [canLayAll_of ds fun x h => f x (List.mem_cons_of_mem _ h), f d List.mem_cons_self]
    rfl
theorem depthAll_of {m : Nat} : ∀ ds : List PyData, (∀ d ∈ ds, PyData.depth d ≤ m) → PyData.depthAll ds ≤ m
  | [], _ => by
    rw [PyData.depthAll]
    exact Nat.zero_le _
  | d :: ds, f => by
    rw [PyData.depthAll]
    exact Nat.max_le.mpr ⟨f d List.mem_cons_self, depthAll_of ds fun x h => f x (List.mem_cons_of_mem _ h)⟩
theorem eqvAll_refl : ∀ ds : List PyData, (∀ d ∈ ds, PyData.eqv d d = true) → PyData.eqvAll ds ds = true
  | [], _ => rfl
  | d :: ds, f => by
    show (PyData.eqv d d && PyData.eqvAll ds ds) = true
    rw [eqvAll_refl ds fun x h => f x (List.mem_cons_of_mem _ h), f d List.mem_cons_self]
    rfl
/-- the data of such a list -/
def rowsD (n : Nat) (F : Nat → List Int) : List PyData := (List.range n).map fun k => PyData.list ((F k).map PyData.int)
theorem dp_rows {K : PySem.W.Frag} {H : Hp} {a : Addr} {ls : List Addr} {n : Nat} {F : Nat → List Int} (h : SqL K H a (ls.map V.ref)) (r : RowsF H ls n F) : Dp K H (.ref a) (.list (rowsD n F)) := by
  refine .lst h (dpAll_of _ _ (by rw [rowsD, List.length_map, List.length_map, List.length_range, r.len]) fun k v d h1 h2 => ?_)
  rw [List.getElem?_map] at h1
  obtain ⟨p, hp, rfl⟩ := Option.map_eq_some_iff.mp h1
  have hk := (List.getElem?_eq_some_iff.mp hp).1
  rw [rowsD, List.getElem?_map, List.getElem?_range (by have := r.len; omega)] at h2
  cases h2
  exact dp_ints (SqL.of (r.row k p hp))
theorem shaped_rows (n : Nat) (F : Nat → List Int) : SeqAt.shaped (.list (rowsD n F)) = true := by
  refine shaped_of (canLayAll_of _ fun d h => ?_) ?_
  · obtain ⟨k, _, rfl⟩ := List.mem_map.mp h
    exact canLayAll_ints _
  · have h := depthAll_of (m := 2) (rowsD n F) fun d h => by
      obtain ⟨k, _, rfl⟩ := List.mem_map.mp h
      exact depth_ints _
    rw [PyData.depth]
    omega
theorem eqv_rows (n : Nat) (F : Nat → List Int) : PyData.eqv (.list (rowsD n F)) (.list (rowsD n F)) = true := by
  show PyData.eqvAll _ _ = true
  refine eqvAll_refl _ fun d h => ?_
  obtain ⟨k, _, rfl⟩ := List.mem_map.mp h
  rw [eqv_ints]
  exact decide_eq_true rfl
theorem rEq_rows {K : PySem.W.Frag} {H : Hp} {a b : Addr} {ls ms : List Addr} {n : Nat} {F : Nat → List Int} {Q : VK} (h1 : SqL K H a (ls.map V.ref)) (h2 : SqL K H b (ms.map V.ref)) (r1 : RowsF H ls n F) (r2 : RowsF H ms n F) (q : Q (.bl true) H) : rEqD K (.ref a) (.ref b) H Q :=
  ⟨_, _, dp_rows h1 r1, dp_rows h2 r2, shaped_rows n F, shaped_rows n F, by rw [eqv_rows]; exact q⟩
theorem rNe_rows {K : PySem.W.Frag} {H : Hp} {a b : Addr} {ls ms : List Addr} {n : Nat} {F : Nat → List Int} {Q : VK} (h1 : SqL K H a (ls.map V.ref)) (h2 : SqL K H b (ms.map V.ref)) (r1 : RowsF H ls n F) (r2 : RowsF H ms n F) (q : Q (.bl false) H) : rNeD K (.ref a) (.ref b) H Q :=
  ⟨_, _, dp_rows h1 r1, dp_rows h2 r2, shaped_rows n F, shaped_rows n F, by rw [eqv_rows]; exact q⟩
section
variable {K : PySem.W.Frag} {a : Addr} {σ : L2.St} {H1 : Hp} {Dl : Addr} {te : TE} {vs : List Nat} {j : Nat} {lo : Int} {n : Nat} {Qd : Hp → Prop}
/-- [e for k in range(..)], each e a new list of ints -/
theorem lc_rngL (F : Nat → List Int) (hn : n ≤ 1000000) (hD : H1 Dl = none) (hw : ∀ x, wipe ((wipe σ vs).set j (some x)) vs = wipe σ vs)
    (he : ∀ (k : Nat) H', k < n → Same H1 H' → ∀ Q' : VK, (∀ q H4, Same H' H4 → H4 q = some (.lst ((F k).map V.int)) → H' q = none → Q' (.ref q) H4) → te ((wipe σ vs).set j (some (.int (lo + (k : Nat))))) H' Q')
    (hd : ∀ H' qs, Same H1 H' → H' Dl = some (.lst (qs.map V.ref)) → RowsF H' qs n F → (∀ q ∈ qs, H1 q = none ∧ q ≠ Dl) → qs.Nodup → Qd H') :
    ∃ W : Nat → Nat → Hp → Prop, (∃ m, W 0 m (upd H1 Dl (.lst []))) ∧ ∀ i m H, W i m H →
      ((Itr lo n).stop i H ∧ Qd H) ∨ ((Itr lo n).go i H ∧ ∃ Nx : Hp → Prop, (∀ H', Nx H' → ∃ m', m' < m ∧ W (i + 1) m' H') ∧ ∀ x H', (Itr lo n).yld i H x H' → gName j x (wipe σ vs) H' fun σ2 H2 => wipe σ2 vs = wipe σ vs ∧ tYes σ2 H2 fun b H3 =>
        if b = true then te σ2 H3 fun y H4 => ∃ acc, H4 Dl = some (.lst acc) ∧ acc.length < sizeLine ∧ Nx (upd H4 Dl (.lst (acc ++ [y]))) else Nx H3) := by
  refine lc_range (lo := lo) (n := n) (fun i H' => ∃ qs : List Addr, Same H1 H' ∧ H' Dl = some (.lst (qs.map V.ref)) ∧ RowsF H' qs i F ∧ (∀ q ∈ qs, H1 q = none ∧ q ≠ Dl) ∧ qs.Nodup) ⟨[], same_new hD, upd_same, ⟨rfl, fun k p h => nomatch h⟩, (fun q h => nomatch h), List.nodup_nil⟩ (fun i H' hi p => ?_) (fun H' p => ?_)
  · obtain ⟨qs, s1, eD, r, f, nd⟩ := p
    refine ⟨hw _, ?_⟩
    refine tyes_ok ?_
    refine he i H' hi s1 _ fun q H4 s e nq => ?_
    have qD : q ≠ Dl := fun z => by rw [z, eD] at nq; cases nq
    refine ⟨_, s _ _ eD, szl (by rw [List.length_map, r.len]; omega), qs ++ [q], same_upd' hD (s1.trans s), ?_, r.snoc s (fun p hp => (f p hp).2) e qD, fun p hp => ?_, ?_⟩
    · rw [upd_same, List.map_append]; rfl
    · rcases List.mem_append.mp hp with h | h
      · exact f p h
      · rw [List.mem_singleton.mp h]; exact ⟨s1.free nq, qD⟩
    · rw [List.nodup_append]
      refine ⟨nd, List.nodup_cons.mpr ⟨List.not_mem_nil, List.nodup_nil⟩, fun x hx y hy z => ?_⟩
      rw [List.mem_singleton.mp hy] at z
      obtain ⟨ms, em⟩ := r.is hx
      rw [z, nq] at em
      cases em
  · obtain ⟨qs, s1, eD, r, f, nd⟩ := p
    exact hd H' qs s1 eD r f nd
/-- [e for p in a list], each e a new list of ints -/
theorem lc_refsL {ls : List Addr} (F : Nat → List Int) (hn : ls.length ≤ 1000000) (ha : SqL K H1 a (ls.map V.ref)) (hD : H1 Dl = none) (hw : ∀ x, wipe ((wipe σ vs).set j (some x)) vs = wipe σ vs)
    (he : ∀ (k : Nat) p H', ls[k]? = some p → Same H1 H' → ∀ Q' : VK, (∀ q H4, Same H' H4 → H4 q = some (.lst ((F k).map V.int)) → H' q = none → Q' (.ref q) H4) → te ((wipe σ vs).set j (some (.ref p))) H' Q')
    (hd : ∀ H' qs, Same H1 H' → H' Dl = some (.lst (qs.map V.ref)) → RowsF H' qs ls.length F → (∀ q ∈ qs, H1 q = none ∧ q ≠ Dl) → qs.Nodup → Qd H') :
    ∃ W : Nat → Nat → Hp → Prop, (∃ m, W 0 m (upd H1 Dl (.lst []))) ∧ ∀ i m H, W i m H →
      ((Itl K a).stop i H ∧ Qd H) ∨ ((Itl K a).go i H ∧ ∃ Nx : Hp → Prop, (∀ H', Nx H' → ∃ m', m' < m ∧ W (i + 1) m' H') ∧ ∀ x H', (Itl K a).yld i H x H' → gName j x (wipe σ vs) H' fun σ2 H2 => wipe σ2 vs = wipe σ vs ∧ tYes σ2 H2 fun b H3 =>
        if b = true then te σ2 H3 fun y H4 => ∃ acc, H4 Dl = some (.lst acc) ∧ acc.length < sizeLine ∧ Nx (upd H4 Dl (.lst (acc ++ [y]))) else Nx H3) := by
  refine lc_list (K := K) (a := a) (xs := ls.map V.ref) (fun i H' => ∃ qs : List Addr, Same H1 H' ∧ H' Dl = some (.lst (qs.map V.ref)) ∧ RowsF H' qs i F ∧ (∀ q ∈ qs, H1 q = none ∧ q ≠ Dl) ∧ qs.Nodup) ⟨[], same_new hD, upd_same, ⟨rfl, fun k p h => nomatch h⟩, (fun q h => nomatch h), List.nodup_nil⟩ (fun i H' _ p => ?_) (fun i x H' hx p => ?_) (fun H' p => ?_)
  · obtain ⟨qs, s1, _⟩ := p
    exact s1.seq ha
  · obtain ⟨qs, s1, eD, r, f, nd⟩ := p
    rw [List.getElem?_map] at hx
    obtain ⟨p0, hp0, rfl⟩ := Option.map_eq_some_iff.mp hx
    have hi := (List.getElem?_eq_some_iff.mp hp0).1
    refine ⟨hw _, ?_⟩
    refine tyes_ok ?_
    refine he i p0 H' hp0 s1 _ fun q H4 s e nq => ?_
    have qD : q ≠ Dl := fun z => by rw [z, eD] at nq; cases nq
    refine ⟨_, s _ _ eD, szl (by rw [List.length_map, r.len]; omega), qs ++ [q], same_upd' hD (s1.trans s), ?_, r.snoc s (fun p hp => (f p hp).2) e qD, fun p hp => ?_, ?_⟩
    · rw [upd_same, List.map_append]; rfl
    · rcases List.mem_append.mp hp with h | h
      · exact f p h
      · rw [List.mem_singleton.mp h]; exact ⟨s1.free nq, qD⟩
    · rw [List.nodup_append]
      refine ⟨nd, List.nodup_cons.mpr ⟨List.not_mem_nil, List.nodup_nil⟩, fun x hx y hy z => ?_⟩
      rw [List.mem_singleton.mp hy] at z
      obtain ⟨ms, em⟩ := r.is hx
      rw [z, nq] at em
      cases em
  · obtain ⟨qs, s1, eD, r, f, nd⟩ := p
    rw [List.length_map] at r
    exact hd H' qs s1 eD r f nd
end
end Ur
namespace Ur
open PySem L2
theorem lineW_drop {ns : List Int} {k : Nat} (h : k ≤ ns.length) : lineW (ns.drop k) 0 = lineW ns k := by
  unfold lineW
  rw [List.length_drop, Nat.sub_zero]
  refine List.map_congr_left fun j _ => ?_
  show ((ulen (((ns.drop k).drop 0).take (0 + j - 0)) : Nat) : Int) = ((ulen ((ns.drop k).take (k + j - k)) : Nat) : Int)
  rw [List.drop_zero, show 0 + j - 0 = j by omega, show k + j - k = j by omega]
end Ur
namespace Ur
open PySem L2
/-- all of ls are other places than a -/
structure Off (ls : List Addr) (a : Addr) : Prop where
  out : ∀ p ∈ ls, p ≠ a
theorem RowsF.offNew {H : Hp} {x : Addr} {ls : List Addr} {n : Nat} {F : Nat → List Int} (r : RowsF H ls n F) (e : H x = none) : Off ls x := ⟨fun p hp z => by
  obtain ⟨ms, em⟩ := r.is hp
  rw [z, e] at em
  cases em⟩
theorem offOld {H : Hp} {x : Addr} {o : HO} {ls : List Addr} (f : ∀ p ∈ ls, H p = none) (e : H x = some o) : Off ls x := ⟨fun p hp z => by
  have h := f p hp
  rw [z, e] at h
  cases h⟩
theorem RowsF.upd {H : Hp} {x : Addr} {o : HO} {ls : List Addr} {n : Nat} {F : Nat → List Int} (r : RowsF H ls n F) (f : Off ls x) : RowsF (upd H x o) ls n F := ⟨r.len, fun k p e => by
  rw [upd_ne (f.out p (List.mem_of_getElem? e))]
  exact r.row k p e⟩
theorem nodup_idx {α : Type} {ls : List α} (nd : ls.Nodup) {i k : Nat} {p : α} (h1 : ls[i]? = some p) (h2 : ls[k]? = some p) : i = k := by
  obtain ⟨a1, b1⟩ := List.getElem?_eq_some_iff.mp h1
  obtain ⟨a2, b2⟩ := List.getElem?_eq_some_iff.mp h2
  have w := List.pairwise_iff_getElem.mp nd
  rcases Nat.lt_trichotomy i k with c | c | c
  · exact absurd (b1.trans b2.symm) (w i k a1 a2 c)
  · exact c
  · exact absurd (b2.trans b1.symm) (w k i a2 a1 c)
/-- one of the lists has changed -/
theorem RowsF.set {H H' : Hp} {qs : List Addr} {n i : Nat} {l : Addr} {F : Nat → List Int} {ns : List Int} (r : RowsF H qs n F) (nd : qs.Nodup) (hl : qs[i]? = some l) (e : H' l = some (.lst (ns.map V.int))) (b : But l H H') : RowsF H' qs n (fun k => if k = i then ns else F k) := ⟨r.len, fun k p h => by
  show _ = some (HO.lst ((if k = i then ns else F k).map V.int))
  by_cases hk : k = i
  · subst hk
    rw [hl] at h
    cases h
    rw [if_pos rfl]
    exact e
  · rw [if_neg hk]
    refine b _ _ (fun z => hk ?_) (r.row k p h)
    exact nodup_idx nd h (by rw [hl, z])⟩
/-! ### told tables that are held, each a tuple of two of the same -/
structure PairR (h : Addr) (H : Hp) (p : Addr) : Prop where
  both : ∃ (a b : Addr) (ls ms : List Addr) (n : Nat) (F : Nat → List Int), a ≠ h ∧ b ≠ h ∧ p ≠ h ∧ Off ls h ∧ Off ms h ∧ H p = some (.tup [.ref a, .ref b]) ∧ H a = some (.lst (ls.map V.ref)) ∧ H b = some (.lst (ms.map V.ref)) ∧ RowsF H ls n F ∧ RowsF H ms n F
structure HeldR (h : Addr) (H : Hp) (n : Nat) : Prop where
  all : ∃ ps : List Addr, H h = some (.lst (ps.map V.ref)) ∧ ps.length ≤ n ∧ ∀ p ∈ ps, PairR h H p
theorem PairR.step {h p : Addr} {H H' : Hp} (k : PairR h H p) (b : But h H H') : PairR h H' p := by
  obtain ⟨x, y, ls, ms, n, F, hx, hy, hp, o1, o2, e, e1, e2, r1, r2⟩ := k.both
  exact ⟨x, y, ls, ms, n, F, hx, hy, hp, o1, o2, b _ _ hp e, b _ _ hx e1, b _ _ hy e2, r1.but b o1.out, r2.but b o2.out⟩
theorem HeldR.same {h : Addr} {H H' : Hp} {n : Nat} (k : HeldR h H n) (s : Same H H') : HeldR h H' n := by
  obtain ⟨ps, e, l, f⟩ := k.all
  exact ⟨ps, s _ _ e, l, fun p hp => (f p hp).step (Same.but s)⟩
theorem HeldR.snoc {h p : Addr} {H H' : Hp} {m n : Nat} {ps : List Addr} (l : ps.length ≤ n) (f : ∀ p ∈ ps, PairR h H p) (b : But h H H') (e' : H' h = some (.lst (ps.map V.ref ++ [V.ref p]))) (g : PairR h H' p) (hm : n + 1 ≤ m) : HeldR h H' m :=
  ⟨ps ++ [p], by rw [e', List.map_append]; rfl, by rw [List.length_append]; exact Nat.le_trans (Nat.succ_le_succ l) hm, fun q hq => by
    rcases List.mem_append.mp hq with k | k
    · exact (f q k).step b
    · rw [List.mem_singleton.mp k]; exact g⟩
end Ur
namespace Ur
open PySem L2
theorem len_refs {K : PySem.W.Frag} {H : Hp} {p : Addr} {ls : List Addr} {Q : VK} (h : SqL K H p (ls.map V.ref)) (q : Q (.int ls.length) H) : rLenI K [.ref p] H Q :=
  ⟨p, _, rfl, Or.inl h, by rw [List.length_map]; exact q⟩
end Ur
namespace Ur
open PySem L2
/-- while, the test's answer told; Pv by a measure; the search does not open what is due of a turn -/
theorem while_iv {tb : TS} {D : Ends} {σ : L2.St} {H : Hp} {c : TT} (Pv : Nat → L2.St → Hp → Prop) (m0 : Nat) (h0 : Pv m0 σ H)
    (hs : ∀ m σ H, Pv m σ H → ∃ b, (∀ Q : Bool → Hp → Prop, Q b H → c σ H Q) ∧
      (b = true → tb { D with nx := fun σ' H' => Iv (∃ m', m' < m ∧ Pv m' σ' H'), ct := fun σ' H' => Iv (∃ m', m' < m ∧ Pv m' σ' H'), bk := D.nx } σ H) ∧ (b = false → D.nx σ H)) : tWhile c tb D σ H := by
  refine ⟨Pv, ⟨m0, h0⟩, fun m σ H p => ?_⟩
  obtain ⟨b, hb, h1, h2⟩ := hs m σ H p
  refine hb _ ?_
  cases b with
  | true => exact (if_pos rfl).mpr ⟨_, fun _ _ n => n.out, h1 rfl⟩
  | false => exact (if_neg Bool.false_ne_true).mpr (h2 rfl)
theorem getD_mem {ns : List Int} {k : Nat} (h : k < ns.length) : ns.getD k 0 ∈ ns := List.mem_of_getElem? (get_of h)
theorem getD_all {ns : List Int} {k : Nat} {P : Int → Prop} (h : k < ns.length) (f : ∀ x ∈ ns, P x) : P (ns.getD k 0) := f _ (getD_mem h)
end Ur
namespace Ur
open PySem L2
/-- while, the test may lay new things; the body is reached where the measure is above 0 only -/
theorem while_t {tb : TS} {D : Ends} {σ : L2.St} {H : Hp} {c : TT} (Pv : Nat → L2.St → Hp → Prop) (m0 : Nat) (h0 : Pv m0 σ H)
    (ht : ∀ m σ H, Pv m σ H → ∀ Q : Bool → Hp → Prop, (∀ b H', Same H H' → (b = true → 0 < m) → Q b H') → c σ H Q)
    (hs : ∀ m σ H H', Pv m σ H → 0 < m → Same H H' → tb { D with nx := fun σ' H' => Iv (∃ m', m' < m ∧ Pv m' σ' H'), ct := fun σ' H' => Iv (∃ m', m' < m ∧ Pv m' σ' H'), bk := D.nx } σ H')
    (hd : ∀ m σ H H', Pv m σ H → Same H H' → D.nx σ H') : tWhile c tb D σ H := by
  refine ⟨Pv, ⟨m0, h0⟩, fun m σ H p => ht m σ H p _ fun b H' s hb => ?_⟩
  cases b with
  | true => exact (if_pos rfl).mpr ⟨_, fun _ _ n => n.out, hs m σ H H' p (hb rfl) s⟩
  | false => exact (if_neg Bool.false_ne_true).mpr (hd m σ H H' p s)
end Ur
namespace Ur
open PySem L2
/-! ### a window's numbers, held -/
def hldF (d : Addr) : List (Str × V) := putF "times" (.ref d) []
theorem hld_times {d : Addr} : (hldF d).lookup ("times" : Str) = some (.ref d) := by
  unfold hldF
  rw [lookup_putF, if_pos rfl]
theorem hld_no {d : Addr} {m : Str} (h : ¬ m = "times") : (hldF d).lookup m = none := by
  unfold hldF
  rw [lookup_putF, if_neg h]
  rfl
end Ur
namespace Ur
open PySem L2
theorem pop1_int {H : Hp} {a : Addr} {kvs : List (Key × V)} {n : Int} {v : V} {Q : VK} (h : H a = some (.dK kvs)) (hv : valV kvs (Sum.inl n) = some v) (q : Q v (upd H a (.dK (dropK kvs (Sum.inl n))))) :
    ∃ (kvs : List (Key × V)) (k : Key) (v : V), H a = some (.dK kvs) ∧ V.int n = kV k ∧ valV kvs k = some v ∧ Q v (upd H a (.dK (dropK kvs k))) := ⟨kvs, Sum.inl n, v, h, rfl, hv, q⟩
end Ur
namespace Ur
open PySem L2
theorem pg_tupK {X : Cx} {K : PySem.W.Frag} (hk : X.K = K) {es : List Expr} {k : Nat} {pos : Pos} {t : TGs} {n : Nat} (hc : X.calm = true) (h : PGs X es t)
    (hn : (assignEach es X.env).length = n := by rfl) (hst : (assignEach es X.env).findIdx? (·.1) = none := by rfl) : PG X (.Tuple es k pos) (gTup K n t) := by
  subst hk
  exact pg_tup hc h hn hst
end Ur
namespace Ur
open PySem L2
/-! ### repr -/
/-- repr of data laid in the heap -/
def rRepr (K : PySem.W.Frag) : List V → Hp → VK → Prop := fun xs H Q => ∃ (p : Addr) (d : PyData), xs = [.ref p] ∧ Dp K H (.ref p) d ∧
  d.showable = true ∧ d.hasDict = false ∧ d.depth ≤ 64 ∧ d.shown.length ≤ sizeLine ∧ Q (.str d.shown) H
/-- data whose repr is told -/
structure GoodD (d : PyData) : Prop where
  show_ : d.showable = true
  dict : d.hasDict = false
  deep : d.depth ≤ 64
  fits : d.shown.length ≤ sizeLine
abbrev SmI (i : Int) : Prop := -1000000 < i ∧ i < 1000000
theorem weight_sm {i : Int} (h : SmI i) : PyData.weight (.int i) ≤ 20 := by
  rw [PyData.weight]
  by_cases c : (i == 0) = true
  · rw [if_pos c]; omega
  · rw [if_neg c]
    have c2 : i ≠ 0 := fun e => c (by rw [e]; rfl)
    have k := (Nat.log2_lt (n := i.natAbs) (k := 20) (by omega)).mpr (by have e : (2 : Nat) ^ 20 = 1048576 := by decide
                                                                         omega)
    omega
theorem weightAll_sm : ∀ {ns : List Int}, (∀ n ∈ ns, SmI n) → PyData.weightAll (ns.map .int) ≤ 21 * ns.length
  | [], _ => by rw [List.map_nil, PyData.weightAll]; exact Nat.zero_le _
  | n :: r, h => by
    have k1 := weight_sm (h n List.mem_cons_self)
    have k2 := weightAll_sm (ns := r) fun m hm => h m (List.mem_cons_of_mem _ hm)
    rw [List.map_cons, PyData.weightAll, List.length_cons]
    omega
theorem showAll_sm : ∀ {ns : List Int}, (∀ n ∈ ns, SmI n) → PyData.showableAll (ns.map .int) = true
  | [], _ => by rw [List.map_nil, PyData.showableAll]
  | n :: r, h => by
    have h1 := h n List.mem_cons_self
    rw [List.map_cons, PyData.showableAll, showAll_sm (ns := r) fun m hm => h m (List.mem_cons_of_mem _ hm), Bool.and_true, PyData.showable]
    refine decide_eq_true ?_
    by_cases c : n.natAbs = 0
    · rw [c]; decide
    · exact Nat.lt_of_lt_of_le ((Nat.log2_lt (n := n.natAbs) (k := 20) c).mpr (by have e : (2 : Nat) ^ 20 = 1048576 := by decide
                                                                                  omega)) (by decide)
theorem shortAll_sm {ns : List Int} (h : ∀ n ∈ ns, SmI n) : PyData.intsShortAll 13 (ns.map .int) = true :=
  PyData.intsShortAll_ints ns fun n hn => by
    have := h n hn
    have e : (10 : Nat) ^ 12 = 1000000000000 := by decide
    omega
theorem good_of {d : PyData} (c : d.canLay0 = true) (dp : d.depth ≤ 64) (w : d.weight ≤ 2 ^ 20) (s : d.showable = true) (i : d.intsShort 13 = true) : GoodD d := by
  refine ⟨s, PyData.hasDict_of_canLay d c, dp, PyData.shown_fits_of_layable0 (B := 13) (by decide) (by decide) ?_ i⟩
  show (d.canLay0 && decide (d.depth ≤ 64) && decide (d.weight ≤ 2 ^ 20)) = true
  rw [c, decide_eq_true dp, decide_eq_true w]
  rfl
/-- a tuple of ints -/
def tupD (ns : List Int) : PyData := .tuple (ns.map .int)
theorem depth_tup (ns : List Int) : (tupD ns).depth ≤ 2 := by
  have h := depthAll_ints ns
  unfold tupD
  rw [PyData.depth]
  omega
theorem good_tup {ns : List Int} (h : ∀ n ∈ ns, SmI n) (hl : ns.length ≤ 1000) : GoodD (tupD ns) := by
  have w := weightAll_sm h
  refine good_of (canLayAll_ints ns) (Nat.le_trans (depth_tup ns) (by decide)) ?_ ?_ ?_
  · unfold tupD
    rw [PyData.weight]
    have e : (2 : Nat) ^ 20 = 1048576 := by decide
    omega
  · unfold tupD
    rw [PyData.showable]
    exact showAll_sm h
  · unfold tupD
    rw [PyData.intsShort]
    exact shortAll_sm h
theorem goodAll {ts : List (List Int)} (h : ∀ ns ∈ ts, ns.length ≤ 3 ∧ ∀ n ∈ ns, SmI n) : PyData.weightAll (ts.map tupD) ≤ 64 * ts.length ∧ PyData.showableAll (ts.map tupD) = true ∧ PyData.intsShortAll 13 (ts.map tupD) = true := by
  induction ts with
  | nil => exact ⟨by rw [List.map_nil, PyData.weightAll]; exact Nat.zero_le _, by rw [List.map_nil, PyData.showableAll], by rw [List.map_nil, PyData.intsShortAll]⟩
  | cons ns ts ih =>
    obtain ⟨h1, h2⟩ := h ns List.mem_cons_self
    obtain ⟨i1, i2, i3⟩ := ih fun m hm => h m (List.mem_cons_of_mem _ hm)
    have w := weightAll_sm h2
    have g := good_tup h2 (by omega)
    refine ⟨?_, ?_, ?_⟩
    · have e : PyData.weight (tupD ns) = PyData.weightAll (ns.map .int) := by unfold tupD; rw [PyData.weight]
      rw [List.map_cons, PyData.weightAll, List.length_cons, e]
      omega
    · rw [List.map_cons, PyData.showableAll, g.show_, i2]; rfl
    · have e : PyData.intsShort 13 (tupD ns) = true := by unfold tupD; rw [PyData.intsShort]; exact shortAll_sm h2
      rw [List.map_cons, PyData.intsShortAll, e, i3]; rfl
theorem good_tups {ts : List (List Int)} (h : ∀ ns ∈ ts, ns.length ≤ 3 ∧ ∀ n ∈ ns, SmI n) (hl : ts.length ≤ 1000) : GoodD (.list (ts.map tupD)) := by
  obtain ⟨w, s, i⟩ := goodAll h
  refine good_of (canLayAll_of _ fun d hd => ?_) ?_ ?_ ?_ ?_
  · obtain ⟨ns, _, rfl⟩ := List.mem_map.mp hd
    exact canLayAll_ints ns
  · have k := depthAll_of (m := 2) (ts.map tupD) fun d hd => by
      obtain ⟨ns, _, rfl⟩ := List.mem_map.mp hd
      exact depth_tup ns
    rw [PyData.depth]
    omega
  · rw [PyData.weight]
    have e : (2 : Nat) ^ 20 = 1048576 := by decide
    omega
  · rw [PyData.showable]; exact s
  · rw [PyData.intsShort]; exact i
theorem repr_good {K : PySem.W.Frag} {H : Hp} {p : Addr} {d : PyData} {Q : VK} (h : Dp K H (.ref p) d) (g : GoodD d) (q : Q (.str d.shown) H) : rRepr K [.ref p] H Q :=
  ⟨p, d, rfl, h, g.show_, g.dict, g.deep, g.fits, q⟩
theorem dp_tup {K : PySem.W.Frag} {H : Hp} {p : Addr} {ns : List Int} (h : H p = some (.tup (ns.map V.int))) : Dp K H (.ref p) (tupD ns) := .tup (SqT.of h) (dpAll_ints ns)
theorem repr_pair {K : PySem.W.Frag} {H : Hp} {p : Addr} {x y : Int} {Q : VK} (h : H p = some (.tup [.int x, .int y])) (q : (SmI x ∧ SmI y) ∧ Q (.str (tupD [x, y]).shown) H) : rRepr K [.ref p] H Q :=
  repr_good (dp_tup (ns := [x, y]) h) (good_tup (fun n hn => by
    rcases List.mem_cons.mp hn with rfl | hn
    · exact q.1.1
    · rw [List.mem_singleton.mp hn]; exact q.1.2) (by show 2 ≤ 1000; omega)) q.2
theorem units66 {k : Nat} {A : Around} (r : Room k A) : A.units + 66 < cLine := by have := r.un; omega
end Ur

namespace Ur
open PySem L2 PySem.Spec PyProof.Rows
/-! ### things of any kind: whole or not, lists of such -/
/-- whether a thing is a whole number -/
def IsW (H : Hp) (v : V) (b : Bool) : Prop := (b = true ∧ ∃ i, v = .int i) ∨ (b = false ∧ Kind H v ∧ ∀ i, v ≠ .int i)
theorem IsW.int {H : Hp} {i : Int} : IsW H (.int i) true := .inl ⟨rfl, i, rfl⟩
theorem IsW.bl {H : Hp} {c : Bool} : IsW H (.bl c) false := .inr ⟨rfl, .bl, fun _ z => nomatch z⟩
theorem IsW.str {H : Hp} {x : Str} : IsW H (.str x) false := .inr ⟨rfl, .str, fun _ z => nomatch z⟩
theorem IsW.non {H : Hp} : IsW H .non false := .inr ⟨rfl, .non, fun _ z => nomatch z⟩
theorem IsW.lst {H : Hp} {p : Addr} {xs : List V} (e : H p = some (.lst xs)) : IsW H (.ref p) false := .inr ⟨rfl, .lst e, fun _ z => nomatch z⟩
theorem IsW.tup {H : Hp} {p : Addr} {xs : List V} (e : H p = some (.tup xs)) : IsW H (.ref p) false := .inr ⟨rfl, .tup e, fun _ z => nomatch z⟩
theorem IsW.dct {H : Hp} {p : Addr} {xs : List (Key × V)} (e : H p = some (.dK xs)) : IsW H (.ref p) false := .inr ⟨rfl, .dct e, fun _ z => nomatch z⟩
theorem IsW.same {H H' : Hp} {v : V} {b : Bool} (w : IsW H v b) (s : Same H H') : IsW H' v b := by
  rcases w with w | ⟨e, k, n⟩
  · exact .inl w
  · exact .inr ⟨e, k.same s, n⟩
theorem Kind.whole {H : Hp} {v : V} (k : Kind H v) : (∃ i, v = .int i) ∨ ((∀ i, v ≠ .int i) ∧ IsW H v false) := by
  by_cases h : ∃ i, v = .int i
  · exact .inl h
  · exact .inr ⟨fun i e => h ⟨i, e⟩, .inr ⟨rfl, k, fun i e => h ⟨i, e⟩⟩⟩
theorem Kind.some {H : Hp} {p : Addr} (k : Kind H (.ref p)) : ∃ o, H p = Option.some o := by
  rcases k with ⟨i, e⟩ | ⟨c, e⟩ | ⟨x, e⟩ | e | ⟨q, xs, e, h⟩ | ⟨q, xs, e, h⟩ | ⟨q, xs, e, h⟩
  · cases e
  · cases e
  · cases e
  · cases e
  · cases e; exact ⟨_, h⟩
  · cases e; exact ⟨_, h⟩
  · cases e; exact ⟨_, h⟩
/-- the kind of a thing, a list told apart -/
theorem Kind.isList {K : PySem.W.Frag} {H : Hp} {v : V} (k : Kind H v) : (∃ p xs, v = .ref p ∧ H p = Option.some (.lst xs)) ∨ ((∀ p xs, v = .ref p → H p ≠ Option.some (.lst xs)) ∧ ∃ t, TyX K H v (.type t) ∧ kitB t "list" = Option.some false) := by
  rcases k with ⟨i, rfl⟩ | ⟨c, rfl⟩ | ⟨x, rfl⟩ | rfl | ⟨q, xs, rfl, h⟩ | ⟨q, xs, rfl, h⟩ | ⟨q, xs, rfl, h⟩
  · exact .inr ⟨fun _ _ e => (nomatch e), _, tyx_int, kb_int_list⟩
  · exact .inr ⟨fun _ _ e => (nomatch e), _, tyx_bl, kb_bool_list⟩
  · exact .inr ⟨fun _ _ e => (nomatch e), _, tyx_str, kb_str_list⟩
  · exact .inr ⟨fun _ _ e => (nomatch e), _, tyx_non, kb_NoneType_list⟩
  · exact .inl ⟨q, xs, rfl, h⟩
  · exact .inr ⟨fun p ys e z => (by cases e; rw [h] at z; cases z), _, tyx_tup h, kb_tuple_list⟩
  · exact .inr ⟨fun p ys e z => (by cases e; rw [h] at z; cases z), _, tyx_dK h, kb_dict_list⟩
/-- .. a tuple told apart -/
theorem Kind.isTup {K : PySem.W.Frag} {H : Hp} {v : V} (k : Kind H v) : (∃ p xs, v = .ref p ∧ H p = Option.some (.tup xs)) ∨ ((∀ p xs, v = .ref p → H p ≠ Option.some (.tup xs)) ∧ ∃ t, TyX K H v (.type t) ∧ kitB t "tuple" = Option.some false) := by
  rcases k with ⟨i, rfl⟩ | ⟨c, rfl⟩ | ⟨x, rfl⟩ | rfl | ⟨q, xs, rfl, h⟩ | ⟨q, xs, rfl, h⟩ | ⟨q, xs, rfl, h⟩
  · exact .inr ⟨fun _ _ e => (nomatch e), _, tyx_int, kb_int_tuple⟩
  · exact .inr ⟨fun _ _ e => (nomatch e), _, tyx_bl, kb_bool_tuple⟩
  · exact .inr ⟨fun _ _ e => (nomatch e), _, tyx_str, kb_str_tuple⟩
  · exact .inr ⟨fun _ _ e => (nomatch e), _, tyx_non, kb_NoneType_tuple⟩
  · exact .inr ⟨fun p ys e z => (by cases e; rw [h] at z; cases z), _, tyx_lst h, kb_list_tuple⟩
  · exact .inl ⟨q, xs, rfl, h⟩
  · exact .inr ⟨fun p ys e z => (by cases e; rw [h] at z; cases z), _, tyx_dK h, kb_dict_tuple⟩
/-- all these addresses are taken -/
structure Old (L : Addr → Prop) (H : Hp) : Prop where
  has : ∀ b, L b → ∃ o, H b = some o
theorem Old.free {L : Addr → Prop} {H : Hp} {p : Addr} (o : Old L H) (n : H p = none) : ∀ b, L b → p ≠ b := fun b l e => by
  obtain ⟨u, h⟩ := o.has b l
  rw [← e, n] at h
  cases h
theorem Old.freeV {L : Addr → Prop} {H : Hp} {p : Addr} (o : Old L H) (n : H p = none) : ∀ b, L b → V.ref p ≠ .ref b := fun b l e => o.free n b l (by injection e)
theorem Old.same {L : Addr → Prop} {H H' : Hp} (o : Old L H) (s : Same H H') : Old L H' := ⟨fun b l => by
  obtain ⟨u, h⟩ := o.has b l
  exact ⟨u, s _ _ h⟩⟩
theorem Old.but {L : Addr → Prop} {a : Addr} {u : HO} {H H' : Hp} (o : Old L H) (b : But a H H') (h : H' a = some u) : Old L H' := ⟨fun c l => by
  by_cases e : c = a
  · rw [e]; exact ⟨u, h⟩
  · obtain ⟨w, k⟩ := o.has c l
    exact ⟨w, b _ _ e k⟩⟩
def Bar0 : Addr → Prop := fun _ => False
def Bar1 (a : Addr) : Addr → Prop := fun b => b = a
def Bar2 (a c : Addr) : Addr → Prop := fun b => b = a ∨ b = c
theorem Bar1.self {a : Addr} : Bar1 a a := rfl
theorem Bar1.ne {a p : Addr} (h : p ≠ a) : ∀ b, Bar1 a b → p ≠ b := fun b e z => h (z.trans e)
theorem Bar1.old {a : Addr} {o : HO} {H : Hp} (e : H a = some o) : Old (Bar1 a) H := ⟨fun b l => by cases l; exact ⟨o, e⟩⟩
theorem Bar2.l {a c : Addr} : Bar2 a c a := .inl rfl
theorem Bar2.r {a c : Addr} : Bar2 a c c := .inr rfl
theorem Bar2.ne {a c p : Addr} (h : p ≠ a) (k : p ≠ c) : ∀ b, Bar2 a c b → p ≠ b := fun b e z => e.elim (fun e => h (z.trans e)) fun e => k (z.trans e)
theorem Bar2.old {a c : Addr} {o u : HO} {H : Hp} (e : H a = some o) (f : H c = some u) : Old (Bar2 a c) H := ⟨fun b l => by
  rcases l with rfl | rfl
  · exact ⟨o, e⟩
  · exact ⟨u, f⟩⟩
theorem neV {L : Addr → Prop} {p : Addr} (n : ∀ b, L b → p ≠ b) : ∀ b, L b → V.ref p ≠ .ref b := fun b l e => n b l (by injection e)
/-- items of known kinds, none of them at L -/
structure Its (L : Addr → Prop) (H : Hp) (xs : List V) : Prop where
  all : ∀ x ∈ xs, Kind H x ∧ ∀ b, L b → x ≠ .ref b
theorem Its.nil {L : Addr → Prop} {H : Hp} : Its L H [] := ⟨fun _ h => nomatch h⟩
theorem Its.ints {L : Addr → Prop} {H : Hp} (ns : List Int) : Its L H (ns.map V.int) := ⟨fun x h => by
  obtain ⟨n, _, rfl⟩ := List.mem_map.mp h
  exact ⟨.int, fun _ _ z => nomatch z⟩⟩
theorem Its.sub {L : Addr → Prop} {H : Hp} {xs ys : List V} (t : Its L H xs) (f : ∀ y ∈ ys, y ∈ xs) : Its L H ys := ⟨fun y h => t.all y (f y h)⟩
theorem Its.app {L : Addr → Prop} {H : Hp} {xs ys : List V} (t : Its L H xs) (u : Its L H ys) : Its L H (xs ++ ys) := ⟨fun y h => by
  rcases List.mem_append.mp h with k | k
  · exact t.all y k
  · exact u.all y k⟩
theorem Its.one {L : Addr → Prop} {H : Hp} {x : V} (k : Kind H x) (n : ∀ b, L b → x ≠ .ref b) : Its L H [x] := ⟨fun y h => by rw [List.mem_singleton.mp h]; exact ⟨k, n⟩⟩
theorem Its.two {L : Addr → Prop} {H : Hp} {x y : V} (kx : Kind H x) (nx : ∀ b, L b → x ≠ .ref b) (ky : Kind H y) (ny : ∀ b, L b → y ≠ .ref b) : Its L H [x, y] := (Its.one kx nx).app (.one ky ny)
theorem Its.rep {L : Addr → Prop} {H : Hp} {xs : List V} (t : Its L H xs) (k : Nat) : Its L H (List.replicate k xs).flatten := ⟨fun y h => by
  obtain ⟨l, h1, h2⟩ := List.mem_flatten.mp h
  rw [List.eq_of_mem_replicate h1] at h2
  exact t.all y h2⟩
theorem Its.same {L : Addr → Prop} {H H' : Hp} {xs : List V} (t : Its L H xs) (s : Same H H') : Its L H' xs := ⟨fun x h => ⟨(t.all x h).1.same s, (t.all x h).2⟩⟩
theorem Its.but {L : Addr → Prop} {a : Addr} {H H' : Hp} {xs : List V} (t : Its L H xs) (l : L a) (b : But a H H') : Its L H' xs := ⟨fun x h => ⟨(t.all x h).1.but b ((t.all x h).2 a l), (t.all x h).2⟩⟩
theorem Its.less {L M : Addr → Prop} {H : Hp} {xs : List V} (t : Its L H xs) (f : ∀ b, M b → L b) : Its M H xs := ⟨fun x h => ⟨(t.all x h).1, fun b m => (t.all x h).2 b (f b m)⟩⟩
/-- a thing, a list's items of known kinds; none of this is at L -/
structure Th (L : Addr → Prop) (H : Hp) (v : V) : Prop where
  kind : Kind H v
  ne : ∀ b, L b → v ≠ .ref b
  items : ∀ p xs, v = .ref p → H p = some (.lst xs) → xs.length ≤ 2000 ∧ Its L H xs
theorem Th.same {L : Addr → Prop} {H H' : Hp} {v : V} (t : Th L H v) (s : Same H H') : Th L H' v := ⟨t.kind.same s, t.ne, fun p xs e h => by
  subst e
  obtain ⟨o, ho⟩ := t.kind.some
  have z := s _ _ ho
  rw [h] at z
  cases z
  obtain ⟨l, f⟩ := t.items p xs rfl ho
  exact ⟨l, f.same s⟩⟩
theorem Th.but {L : Addr → Prop} {a : Addr} {H H' : Hp} {v : V} (t : Th L H v) (la : L a) (b : But a H H') : Th L H' v := ⟨t.kind.but b (t.ne a la), t.ne, fun p xs e h => by
  subst e
  obtain ⟨o, ho⟩ := t.kind.some
  have z := b _ _ (fun z => t.ne a la (by rw [z])) ho
  rw [h] at z
  cases z
  obtain ⟨l, f⟩ := t.items p xs rfl ho
  exact ⟨l, f.but la b⟩⟩
theorem Th.less {L M : Addr → Prop} {H : Hp} {v : V} (t : Th L H v) (f : ∀ b, M b → L b) : Th M H v := ⟨t.kind, fun b m => t.ne b (f b m), fun p xs e h => ⟨(t.items p xs e h).1, (t.items p xs e h).2.less f⟩⟩
theorem Th.lst {L : Addr → Prop} {H : Hp} {p : Addr} {xs : List V} (e : H p = some (.lst xs)) (n : ∀ b, L b → p ≠ b) (l : xs.length ≤ 2000) (t : Its L H xs) : Th L H (.ref p) :=
  ⟨.lst e, neV n, fun q ys z h => by cases z; rw [e] at h; cases h; exact ⟨l, t⟩⟩
theorem Th.of {L : Addr → Prop} {H : Hp} {v : V} (k : Kind H v) (n : ∀ b, L b → v ≠ .ref b) (f : ∀ p xs, v = .ref p → H p ≠ some (.lst xs)) : Th L H v := ⟨k, n, fun p xs e h => (f p xs e h).elim⟩
theorem Th.int {L : Addr → Prop} {H : Hp} {i : Int} : Th L H (.int i) := .of .int (fun _ _ z => nomatch z) fun _ _ z => nomatch z
theorem Th.bl {L : Addr → Prop} {H : Hp} {c : Bool} : Th L H (.bl c) := .of .bl (fun _ _ z => nomatch z) fun _ _ z => nomatch z
theorem Th.str {L : Addr → Prop} {H : Hp} {x : Str} : Th L H (.str x) := .of .str (fun _ _ z => nomatch z) fun _ _ z => nomatch z
theorem Th.non {L : Addr → Prop} {H : Hp} : Th L H .non := .of .non (fun _ _ z => nomatch z) fun _ _ z => nomatch z
theorem Th.tup {L : Addr → Prop} {H : Hp} {p : Addr} {xs : List V} (e : H p = some (.tup xs)) (n : ∀ b, L b → p ≠ b) : Th L H (.ref p) := .of (.tup e) (neV n) fun q ys z h => by cases z; rw [e] at h; cases h
theorem Th.dct {L : Addr → Prop} {H : Hp} {p : Addr} {xs : List (Key × V)} (e : H p = some (.dK xs)) (n : ∀ b, L b → p ≠ b) : Th L H (.ref p) := .of (.dct e) (neV n) fun q ys z h => by cases z; rw [e] at h; cases h
/-! lists of values -/
theorem atI_get {xs : List V} {i : Int} (h0 : 0 ≤ i) (h1 : i < xs.length) : ∃ v, atI xs i = some v ∧ v ∈ xs ∧ xs[i.toNat]? = some v := by
  obtain ⟨k, rfl⟩ := Int.eq_ofNat_of_zero_le h0
  have hj : k < xs.length := by omega
  exact ⟨xs[k], atI_nat (List.getElem?_eq_getElem hj), List.getElem_mem hj, by rw [Int.toNat_natCast]; exact List.getElem?_eq_getElem hj⟩
theorem mem_cut {xs : List V} {lo hi : Option Int} {x : V} (h : x ∈ cutV xs lo hi) : x ∈ xs := by
  unfold cutV at h
  exact List.mem_of_mem_drop (List.mem_of_mem_take h)
/-- a cut of a list, its contents no longer looked at -/
theorem cut_is (xs : List V) (lo hi : Option Int) : ∃ ys, cutV xs lo hi = ys ∧ ys.length ≤ xs.length ∧ ∀ y ∈ ys, y ∈ xs := ⟨_, rfl, cutV_length _ _ _, fun _ h => mem_cut h⟩
theorem rep01 (b : Bool) (xs : List V) : ((List.replicate (if b = true then (1 : Int) else 0).toNat xs).flatten).length ≤ xs.length := by
  cases b <;> simp
theorem len_any {K : PySem.W.Frag} {H : Hp} {p : Addr} {xs : List V} {Q : VK} (h : SqL K H p xs) (q : Q (.int xs.length) H) : rLenI K [.ref p] H Q := ⟨p, _, rfl, Or.inl h, q⟩
end Ur
namespace Ur
open PySem L2
theorem nwA' {H : Hp} {x p : Addr} {o : HO} (h : H x = some o) (n : H p = none) : p ≠ x := fun e => by rw [e, h] at n; cases n
theorem ints_of : ∀ {xs : List V}, (∀ x ∈ xs, ∃ n : Int, x = .int n) → ∃ ns : List Int, xs = ns.map V.int
  | [], _ => ⟨[], rfl⟩
  | x :: xs, h => by
    obtain ⟨n, rfl⟩ := h x List.mem_cons_self
    obtain ⟨ns, e⟩ := ints_of fun y hy => h y (List.mem_cons_of_mem _ hy)
    exact ⟨n :: ns, by rw [e]; rfl⟩
theorem int_mem {ns : List Int} {n : Int} : V.int n ∈ ns.map V.int ↔ n ∈ ns := ⟨fun h => by
  obtain ⟨m, hm, e⟩ := List.mem_map.mp h
  cases e; exact hm, fun h => List.mem_map.mpr ⟨n, h, rfl⟩⟩
theorem take_snocV {xs : List V} {i : Nat} {x : V} (h : xs[i]? = some x) : xs.take (i + 1) = xs.take i ++ [x] := by
  rw [List.take_succ, h]; rfl
end Ur

namespace Ur
open PySem PySem.Spec PyProof.Rows L2
/-! ### == and != of lists of things of any kind: of unlike lengths, or with the very same items -/
def rEqL (K : PySem.W.Frag) (neg : Bool) : R2 := fun x y H Q => ∃ (a b : Addr) (xs ys : List V), x = .ref a ∧ y = .ref b ∧ SqL K H a xs ∧ SqL K H b ys ∧
  ((xs.length ≠ ys.length ∧ Q (.bl neg) H) ∨ (xs = ys ∧ (∀ v ∈ xs, flatV v = true ∨ ∃ p, v = .ref p) ∧ Q (.bl (!neg)) H))
theorem eqV_self : ∀ {v : V}, flatV v = true → eqV v v = true
  | .non, _ => rfl
  | .bl b, _ => by simp [eqV]
  | .int i, _ => by simp [eqV]
  | .str x, _ => by simp [eqV]
theorem eqAt_ref {A : Around} {s : Shared} {p : Addr} : SeqAt.EqAt A s (.ref p) (.ref p) true := fun prog w E Q h => by
  unfold eqBool
  refine wpAny_holding ?_
  rw [if_pos (by simp)]
  exact wpAny_pure (M := model prog w) (E := E) h
theorem items_same {A : Around} {s : Shared} {xs : List V} {us ws : List Value} (r1 : Vals xs us) (r2 : Vals xs ws) (f : ∀ v ∈ xs, flatV v = true ∨ ∃ p, v = .ref p) :
    ∀ j (h1 : j < us.toArray.size) (h2 : j < ws.toArray.size), SeqAt.EqAt A s us.toArray[j] ws.toArray[j] true := fun j h1 h2 => by
  have hx : j < xs.length := by rw [r1.length]; simpa using h1
  have e0 := List.getElem?_eq_getElem hx
  obtain ⟨u, e1, ru⟩ := r1.get e0
  obtain ⟨v, e2, rv⟩ := r2.get e0
  have g1 : us.toArray[j] = u := by
    have := (List.getElem?_eq_some_iff.mp e1).2
    simpa using this
  have g2 : ws.toArray[j] = v := by
    have := (List.getElem?_eq_some_iff.mp e2).2
    simpa using this
  rw [g1, g2]
  rcases f _ (List.getElem_mem hx) with k | ⟨p, k⟩
  · have z := eqAt_V (A := A) (s := s) ru rv k k
    rwa [eqV_self k] at z
  · rw [k] at ru rv
    cases (show u = Value.ref p from ru)
    cases (show v = Value.ref p from rv)
    exact eqAt_ref
section
variable {X : Cx} {K : PySem.W.Frag}
theorem op_eqL (hK : X.K = K) (hu : X.A.units + 64 < cLine) : OpR X (compareOp .Eq) (rEqL K false) := by
  subst hK
  intro pins s σ H x y v u Q I rx ry h
  obtain ⟨a, b, xs, ys, rfl, rfl, ha, hb, h⟩ := h
  cases (show v = Value.ref a from rx)
  cases (show u = Value.ref b from ry)
  obtain ⟨i1, r1, p1, _⟩ := I.list ha
  obtain ⟨i2, r2, p2, _⟩ := I.list hb
  have l1 := r1.length
  have l2 := r2.length
  rcases h with ⟨hn, q⟩ | ⟨rfl, f, q⟩
  · exact SeqAt.RcAt.lists_lengths p1.isList p2.isList (by simp; omega) (by omega) X.prog X.w _ _ ⟨.bl _, H, I, rfl, q⟩
  · have z := SeqAt.RcAt.lists (A := X.A) (e := fun _ => true) p1.isList p2.isList (by simp; omega) (by omega) (items_same r1 r2 f) X.prog X.w
    have all : (List.range i1.toArray.size).all (fun _ => true) = true := List.all_eq_true.mpr fun _ _ => rfl
    rw [all] at z
    exact z _ _ ⟨.bl _, H, I, rfl, q⟩
theorem op_neL (hK : X.K = K) (hu : X.A.units + 64 < cLine) : OpR X (compareOp .NotEq) (rEqL K true) := by
  subst hK
  intro pins s σ H x y v u Q I rx ry h
  obtain ⟨a, b, xs, ys, rfl, rfl, ha, hb, h⟩ := h
  cases (show v = Value.ref a from rx)
  cases (show u = Value.ref b from ry)
  obtain ⟨i1, r1, p1, _⟩ := I.list ha
  obtain ⟨i2, r2, p2, _⟩ := I.list hb
  have l1 := r1.length
  have l2 := r2.length
  rcases h with ⟨hn, q⟩ | ⟨rfl, f, q⟩
  · exact SeqAt.RcNeAt.lists_lengths p1.isList p2.isList (by simp; omega) (by omega) X.prog X.w _ _ ⟨.bl _, H, I, rfl, q⟩
  · have z := SeqAt.RcNeAt.lists (A := X.A) (e := fun _ => true) p1.isList p2.isList (by simp; omega) (by omega) (items_same r1 r2 f) X.prog X.w
    have all : (List.range i1.toArray.size).all (fun _ => true) = true := List.all_eq_true.mpr fun _ _ => rfl
    rw [all] at z
    exact z _ _ ⟨.bl _, H, I, rfl, q⟩
end
/-- against a list without items -/
theorem rEqL_nil {K : PySem.W.Frag} {H : Hp} {a b : Addr} {xs : List V} {Q : VK} (h1 : SqL K H a xs) (h2 : SqL K H b []) (q : Q (.bl xs.isEmpty) H) : rEqL K false (.ref a) (.ref b) H Q := by
  cases xs with
  | nil => exact ⟨a, b, [], [], rfl, rfl, h1, h2, .inr ⟨rfl, (fun _ h => nomatch h), q⟩⟩
  | cons x xs => exact ⟨a, b, _, [], rfl, rfl, h1, h2, .inl ⟨by simp, q⟩⟩
theorem rNeL_nil {K : PySem.W.Frag} {H : Hp} {a b : Addr} {xs : List V} {Q : VK} (h1 : SqL K H a xs) (h2 : SqL K H b []) (q : Q (.bl (!xs.isEmpty)) H) : rEqL K true (.ref a) (.ref b) H Q := by
  cases xs with
  | nil => exact ⟨a, b, [], [], rfl, rfl, h1, h2, .inr ⟨rfl, (fun _ h => nomatch h), q⟩⟩
  | cons x xs => exact ⟨a, b, _, [], rfl, rfl, h1, h2, .inl ⟨by simp, q⟩⟩
theorem Kind.flat {H : Hp} {v : V} (k : Kind H v) : flatV v = true ∨ ∃ p, v = .ref p := by
  rcases k with ⟨i, rfl⟩ | ⟨b, rfl⟩ | ⟨x, rfl⟩ | rfl | ⟨p, xs, rfl, _⟩ | ⟨p, xs, rfl, _⟩ | ⟨p, xs, rfl, _⟩
  · exact .inl rfl
  · exact .inl rfl
  · exact .inl rfl
  · exact .inl rfl
  · exact .inr ⟨p, rfl⟩
  · exact .inr ⟨p, rfl⟩
  · exact .inr ⟨p, rfl⟩
theorem rEqL_same {K : PySem.W.Frag} {H : Hp} {neg : Bool} {a b : Addr} {xs : List V} {Q : VK} (h1 : SqL K H a xs) (h2 : SqL K H b xs) (f : ∀ x ∈ xs, Kind H x) (q : Q (.bl (!neg)) H) : rEqL K neg (.ref a) (.ref b) H Q :=
  ⟨a, b, xs, xs, rfl, rfl, h1, h2, .inr ⟨rfl, fun v hv => (f v hv).flat, q⟩⟩
section
variable {K : PySem.W.Frag} {a : Addr} {xs : List V} {σ : L2.St} {H1 : Hp} {Dl : Addr} {te : TE} {tt : TT} {vs : List Nat} {j : Nat} {Qd : Hp → Prop}
/-- [e for x in a list of things if t] -/
theorem lc_valsIf (t : V → Bool) (f : V → V) (hn : xs.length ≤ 1000000) (ha : SqL K H1 a xs) (hD : H1 Dl = none) (hw : ∀ x, wipe ((wipe σ vs).set j (some x)) vs = wipe σ vs)
    (ht : ∀ (x : V) H', x ∈ xs → Same H1 H' → ∀ Q' : Bool → Hp → Prop, (∀ H4, Same H' H4 → Q' (t x) H4) → tt ((wipe σ vs).set j (some x)) H' Q')
    (he : ∀ (x : V) H', x ∈ xs → t x = true → Same H1 H' → ∀ Q' : VK, (∀ H4, Same H' H4 → Q' (f x) H4) → te ((wipe σ vs).set j (some x)) H' Q')
    (hd : ∀ H', Same H1 H' → H' Dl = some (.lst ((xs.filter t).map f)) → Qd H') :
    ∃ W : Nat → Nat → Hp → Prop, (∃ m, W 0 m (upd H1 Dl (.lst []))) ∧ ∀ i m H, W i m H →
      ((Itl K a).stop i H ∧ Qd H) ∨ ((Itl K a).go i H ∧ ∃ Nx : Hp → Prop, (∀ H', Nx H' → ∃ m', m' < m ∧ W (i + 1) m' H') ∧ ∀ x H', (Itl K a).yld i H x H' → gName j x (wipe σ vs) H' fun σ2 H2 => wipe σ2 vs = wipe σ vs ∧ tt σ2 H2 fun b H3 =>
        if b = true then te σ2 H3 fun y H4 => ∃ acc, H4 Dl = some (.lst acc) ∧ acc.length < sizeLine ∧ Nx (upd H4 Dl (.lst (acc ++ [y]))) else Nx H3) := by
  refine lc_list (K := K) (a := a) (xs := xs) (fun i H' => Same H1 H' ∧ H' Dl = some (.lst (((xs.take i).filter t).map f))) ⟨same_new hD, upd_same⟩ (fun i H' _ p => p.1.seq ha) (fun i x H' hx p => ?_) (fun H' p => ?_)
  · have hi := (List.getElem?_eq_some_iff.mp hx).1
    have hm := List.mem_of_getElem? hx
    refine ⟨hw _, ?_⟩
    refine ht x H' hm p.1 _ fun H3 s3 => ?_
    have e1 := take_snocV hx
    cases hb : t x with
    | true =>
      refine (if_pos rfl).mpr ?_
      refine he x H3 hm hb (p.1.trans s3) _ fun H4 s => ⟨_, s _ _ (s3 _ _ p.2), szl ?_, same_upd' hD ((p.1.trans s3).trans s), ?_⟩
      · have := List.length_filter_le t (xs.take i)
        rw [List.length_take] at this
        rw [List.length_map]; omega
      rw [upd_same, e1, List.filter_append, List.map_append, List.filter_cons, if_pos hb]
      rfl
    | false =>
      refine (if_neg Bool.false_ne_true).mpr ⟨p.1.trans s3, ?_⟩
      rw [e1, List.filter_append, List.map_append, List.filter_cons, if_neg (by rw [hb]; exact Bool.false_ne_true)]
      simpa using s3 _ _ p.2
  · rw [List.take_length] at p
    exact hd H' p.1 p.2
/-- [e for x in a list of things] -/
theorem lc_vals (f : V → V) (hn : xs.length ≤ 1000000) (ha : SqL K H1 a xs) (hD : H1 Dl = none) (hw : ∀ x, wipe ((wipe σ vs).set j (some x)) vs = wipe σ vs)
    (he : ∀ (x : V) H', x ∈ xs → Same H1 H' → ∀ Q' : VK, (∀ H4, Same H' H4 → Q' (f x) H4) → te ((wipe σ vs).set j (some x)) H' Q')
    (hd : ∀ H', Same H1 H' → H' Dl = some (.lst (xs.map f)) → Qd H') :
    ∃ W : Nat → Nat → Hp → Prop, (∃ m, W 0 m (upd H1 Dl (.lst []))) ∧ ∀ i m H, W i m H →
      ((Itl K a).stop i H ∧ Qd H) ∨ ((Itl K a).go i H ∧ ∃ Nx : Hp → Prop, (∀ H', Nx H' → ∃ m', m' < m ∧ W (i + 1) m' H') ∧ ∀ x H', (Itl K a).yld i H x H' → gName j x (wipe σ vs) H' fun σ2 H2 => wipe σ2 vs = wipe σ vs ∧ tYes σ2 H2 fun b H3 =>
        if b = true then te σ2 H3 fun y H4 => ∃ acc, H4 Dl = some (.lst acc) ∧ acc.length < sizeLine ∧ Nx (upd H4 Dl (.lst (acc ++ [y]))) else Nx H3) := by
  refine lc_list (K := K) (a := a) (xs := xs) (fun i H' => Same H1 H' ∧ H' Dl = some (.lst ((xs.take i).map f))) ⟨same_new hD, upd_same⟩ (fun i H' _ p => p.1.seq ha) (fun i x H' hx p => ?_) (fun H' p => ?_)
  · have hi := (List.getElem?_eq_some_iff.mp hx).1
    have hm := List.mem_of_getElem? hx
    refine ⟨hw _, tyes_ok ?_⟩
    refine he x H' hm p.1 _ fun H4 s => ⟨_, s _ _ p.2, szl ?_, same_upd' hD (p.1.trans s), ?_⟩
    · rw [List.length_map, List.length_take]; omega
    rw [upd_same, take_snocV hx, List.map_append]
    rfl
  · rw [List.take_length] at p
    exact hd H' p.1 p.2
end
/-- whether a value is a whole number -/
def isI : V → Bool
  | .int _ => true
  | _ => false
theorem isI_int {v : V} (h : isI v = true) : ∃ i, v = .int i := by
  cases v <;> first | exact ⟨_, rfl⟩ | cases h
theorem Kind.isW {H : Hp} {v : V} (k : Kind H v) : IsW H v (isI v) := by
  rcases k.whole with ⟨i, rfl⟩ | ⟨hn, w⟩
  · exact .int
  · have : isI v = false := by
      cases h : isI v with
      | false => rfl
      | true => obtain ⟨i, e⟩ := isI_int h; exact (hn i e).elim
    rw [this]; exact w
end Ur

namespace Ur
open PySem L2
/-! ### partings, window by window as long as can be -/
/-- behind i numbers: the places at which windows ended, and where the last one began -/
def gs (ns : List Int) (m : Int) : Nat → List Int × Nat
  | 0 => ([], 0)
  | i + 1 => if ns.getD i 0 ∉ (ns.drop (gs ns m i).2).take (i - (gs ns m i).2) ∧ (ulen ((ns.drop (gs ns m i).2).take (i - (gs ns m i).2)) : Int) = m then ((gs ns m i).1 ++ [(i : Int)], i) else gs ns m i
/-- the window that is open behind i numbers -/
def gwin (ns : List Int) (m : Int) (i : Nat) : List Int := (ns.drop (gs ns m i).2).take (i - (gs ns m i).2)
def parts (ns : List Int) (m : Int) : List Int := (gs ns m ns.length).1 ++ if ns.length = 0 then [] else [(ns.length : Int)]
theorem gs_succ (ns : List Int) (m : Int) (i : Nat) : gs ns m (i + 1) = if ns.getD i 0 ∉ gwin ns m i ∧ (ulen (gwin ns m i) : Int) = m then ((gs ns m i).1 ++ [(i : Int)], i) else gs ns m i := rfl
theorem gs_le (ns : List Int) (m : Int) : ∀ i, (gs ns m i).2 ≤ i
  | 0 => Nat.le_refl 0
  | i + 1 => by
    rw [gs_succ]
    split
    · exact Nat.le_succ i
    · exact Nat.le_succ_of_le (gs_le ns m i)
theorem gs_len (ns : List Int) (m : Int) : ∀ i, (gs ns m i).1.length ≤ i
  | 0 => Nat.le_refl 0
  | i + 1 => by
    have := gs_len ns m i
    rw [gs_succ]
    split
    · rw [List.length_append]; exact Nat.succ_le_succ this
    · exact Nat.le_succ_of_le this
theorem gs_cut {ns : List Int} {m : Int} {i : Nat} {x : Int} (hx : ns[i]? = some x) (h1 : x ∉ gwin ns m i) (h2 : (ulen (gwin ns m i) : Int) = m) : gs ns m (i + 1) = ((gs ns m i).1 ++ [(i : Int)], i) ∧ gwin ns m (i + 1) = [x] := by
  have e : gs ns m (i + 1) = ((gs ns m i).1 ++ [(i : Int)], i) := by rw [gs_succ, getD_of hx, if_pos ⟨h1, h2⟩]
  refine ⟨e, ?_⟩
  unfold gwin
  rw [e]
  show (ns.drop i).take (i + 1 - i) = [x]
  have h := (List.getElem?_eq_some_iff.mp hx)
  obtain ⟨hi, hg⟩ := h
  rw [List.drop_eq_getElem_cons hi, show i + 1 - i = 1 by omega, hg]
  rfl
theorem gs_go {ns : List Int} {m : Int} {i : Nat} {x : Int} (hx : ns[i]? = some x) (h : ¬ (x ∉ gwin ns m i ∧ (ulen (gwin ns m i) : Int) = m)) : gs ns m (i + 1) = gs ns m i ∧ gwin ns m (i + 1) = gwin ns m i ++ [x] := by
  have e : gs ns m (i + 1) = gs ns m i := by rw [gs_succ, getD_of hx, if_neg h]
  refine ⟨e, ?_⟩
  unfold gwin
  rw [e]
  have hl := gs_le ns m i
  rw [show i + 1 - (gs ns m i).2 = i - (gs ns m i).2 + 1 by omega]
  exact take_snoc (by rw [List.getElem?_drop, show (gs ns m i).2 + (i - (gs ns m i).2) = i by omega]; exact hx)
theorem gwin_le {ns : List Int} {m : Int} (hm : 1 ≤ m) : ∀ i, i ≤ ns.length → (ulen (gwin ns m i) : Int) ≤ m
  | 0, _ => by
    show ((ulen ((ns.drop 0).take 0) : Nat) : Int) ≤ m
    rw [List.take_zero]
    exact Int.le_trans (by decide) hm
  | i + 1, h => by
    have ih := gwin_le (ns := ns) hm i (by omega)
    have hx := get_of (ns := ns) (i := i) (by omega)
    by_cases c : ns.getD i 0 ∉ gwin ns m i ∧ (ulen (gwin ns m i) : Int) = m
    · rw [(gs_cut hx c.1 c.2).2]
      exact hm
    · rw [(gs_go hx c).2, ulen_snoc]
      by_cases q : ns.getD i 0 ∈ gwin ns m i
      · rw [if_pos q]; exact ih
      · rw [if_neg q]
        have : ¬ (ulen (gwin ns m i) : Int) = m := fun z => c ⟨q, z⟩
        omega
theorem gs_1 {ns : List Int} {m : Int} (hm : 1 ≤ m) (hn : 0 < ns.length) : gs ns m 1 = ([], 0) := by
  refine (gs_go (i := 0) (get_of hn) (fun z => ?_)).1
  have h := z.2
  have e : gwin ns m 0 = [] := by
    show (ns.drop 0).take 0 = []
    rw [List.take_zero]
  rw [e] at h
  have e2 : ((ulen ([] : List Int) : Nat) : Int) = 0 := rfl
  omega
theorem parts_of {ns : List Int} {m : Int} {fs : List Int} {f : Nat} (h : gs ns m ns.length = (fs, f)) (hn : 0 < ns.length) : parts ns m = fs ++ [(ns.length : Int)] := by
  unfold parts
  rw [h, if_neg (by omega)]
theorem parts_nil {ns : List Int} {m : Int} (hn : ns.length = 0) : parts ns m = [] := by
  unfold parts
  rw [hn, if_pos rfl]
  rfl
theorem parts_take (ns : List Int) (m : Int) : (gs ns m ns.length).1 ++ ([(ns.length : Int)].take (ns.length : Int).toNat) = parts ns m := by
  unfold parts
  congr 1
  rcases Nat.eq_zero_or_pos ns.length with h | h
  · rw [h, if_pos rfl]; rfl
  · rw [if_neg (by omega), List.take_of_length_le (by show 1 ≤ _; omega)]
theorem parts_len (ns : List Int) (m : Int) : (parts ns m).length ≤ ns.length + 1 := by
  have := gs_len ns m ns.length
  unfold parts
  rw [List.length_append]
  split <;> simp <;> omega
theorem gwin_of {ns : List Int} {m : Int} {fs : List Int} {f b : Nat} (h : gs ns m b = (fs, f)) : gwin ns m b = (ns.drop f).take (b - f) := by
  unfold gwin
  rw [h]
end Ur
namespace Ur
open PySem L2
/-- where windows ended, but for the last -/
def cuts (ns : List Int) (m : Int) : List Int := (gs ns m ns.length).1
/-- where the j-th window began -/
def stc (cs : List Int) (j : Nat) : Int := ((0 : Int) :: cs).getD j 0
theorem stc_0 (cs : List Int) : stc cs 0 = 0 := rfl
theorem stc_s (cs : List Int) (j : Nat) : stc cs (j + 1) = cs.getD j 0 := rfl
theorem getD_app1 {cs : List Int} {x : Int} {j : Nat} (h : j < cs.length) : (cs ++ [x]).getD j 0 = cs.getD j 0 := by
  rw [List.getD_eq_getElem?_getD, List.getD_eq_getElem?_getD, List.getElem?_append_left h]
theorem getD_app2 {cs : List Int} {x : Int} : (cs ++ [x]).getD cs.length 0 = x := by
  rw [List.getD_eq_getElem?_getD, List.getElem?_append_right (Nat.le_refl _), Nat.sub_self]; rfl
theorem stc_app {cs : List Int} {x : Int} {j : Nat} (h : j ≤ cs.length) : stc (cs ++ [x]) j = stc cs j := by
  cases j with
  | zero => rfl
  | succ j => rw [stc_s, stc_s, getD_app1 (by omega)]
/-- what is known of the windows behind i numbers -/
structure GInv (ns : List Int) (m : Int) (i : Nat) (cs : List Int) (f : Nat) : Prop where
  last : stc cs cs.length = (f : Int)
  each : ∀ j, j < cs.length → 0 ≤ stc cs j ∧ stc cs j < cs.getD j 0 ∧ cs.getD j 0 < i ∧ (wunN ns (stc cs j).toNat (cs.getD j 0).toNat : Int) = m ∧ (wunN ns (stc cs j).toNat (cs.getD j 0 + 1).toNat : Int) = m + 1
theorem gs_inv {ns : List Int} {m : Int} (hm : 1 ≤ m) : ∀ i, i ≤ ns.length → GInv ns m i (gs ns m i).1 (gs ns m i).2
  | 0, _ => ⟨rfl, fun j h => absurd h (Nat.not_lt_zero j)⟩
  | i + 1, h => by
    have ih := gs_inv (ns := ns) hm i (by omega)
    have hx := get_of (ns := ns) (i := i) (by omega)
    by_cases c : ns.getD i 0 ∉ gwin ns m i ∧ (ulen (gwin ns m i) : Int) = m
    · have e := (gs_cut hx c.1 c.2).1
      rw [e]
      have hl := gs_le ns m i
      have hfi : (gs ns m i).2 < i := by
        refine Nat.lt_of_le_of_ne hl fun k => ?_
        have c2 := c.2
        unfold gwin at c2
        rw [k, Nat.sub_self, List.take_zero] at c2
        have e0 : ((ulen ([] : List Int) : Nat) : Int) = 0 := rfl
        omega
      refine ⟨?_, fun j hj => ?_⟩
      · show stc ((gs ns m i).1 ++ [(i : Int)]) ((gs ns m i).1 ++ [(i : Int)]).length = (i : Int)
        rw [List.length_append]
        show stc _ ((gs ns m i).1.length + 1) = _
        rw [stc_s, getD_app2]
      · have hj2 : j < (gs ns m i).1.length + 1 := by
          have h3 : ((gs ns m i).1 ++ [(i : Int)]).length = (gs ns m i).1.length + 1 := by rw [List.length_append]; rfl
          show j < _
          rw [← h3]; exact hj
        rw [stc_app (cs := (gs ns m i).1) (show j ≤ (gs ns m i).1.length by omega)]
        by_cases hjl : j < (gs ns m i).1.length
        · rw [getD_app1 hjl]
          obtain ⟨a1, a2, a3, a4, a5⟩ := ih.each j hjl
          exact ⟨a1, a2, by omega, a4, a5⟩
        · have hje : j = (gs ns m i).1.length := by omega
          subst hje
          rw [getD_app2, ih.last]
          have w1 : (wunN ns (gs ns m i).2 i : Int) = m := c.2
          have w2 : (wunN ns (gs ns m i).2 (i + 1) : Int) = m + 1 := by
            unfold wunN
            rw [show i + 1 - (gs ns m i).2 = i - (gs ns m i).2 + 1 by omega, take_snoc (x := ns.getD i 0) (by rw [List.getElem?_drop, show (gs ns m i).2 + (i - (gs ns m i).2) = i by omega]; exact hx), ulen_snoc, if_neg (show ns.getD i 0 ∉ (ns.drop (gs ns m i).2).take (i - (gs ns m i).2) from c.1)]
            have := c.2
            unfold gwin at this
            omega
          refine ⟨by omega, by omega, by omega, ?_, ?_⟩
          · rw [Int.toNat_natCast, Int.toNat_natCast]; exact w1
          · rw [Int.toNat_natCast, show ((i : Int) + 1).toNat = i + 1 by omega]; exact w2
    · rw [(gs_go hx c).1]
      exact ⟨ih.last, fun j hj => by
        obtain ⟨a1, a2, a3, a4, a5⟩ := ih.each j hj
        exact ⟨a1, a2, by omega, a4, a5⟩⟩
theorem cuts_ok {ns : List Int} {m : Int} (hm : 1 ≤ m) {j : Nat} (hj : j < (cuts ns m).length) : 0 ≤ stc (cuts ns m) j ∧ stc (cuts ns m) j < (cuts ns m).getD j 0 ∧ (cuts ns m).getD j 0 < ns.length ∧ (wunN ns (stc (cuts ns m) j).toNat ((cuts ns m).getD j 0).toNat : Int) = m ∧ (wunN ns (stc (cuts ns m) j).toNat ((cuts ns m).getD j 0 + 1).toNat : Int) = m + 1 :=
  (gs_inv hm ns.length (Nat.le_refl _)).each j hj
theorem cuts_last {ns : List Int} {m : Int} (hm : 1 ≤ m) : stc (cuts ns m) (cuts ns m).length = ((gs ns m ns.length).2 : Int) := (gs_inv hm ns.length (Nat.le_refl _)).last
theorem parts_cuts (ns : List Int) (m : Int) : parts ns m = cuts ns m ++ if ns.length = 0 then [] else [(ns.length : Int)] := rfl
theorem parts_init (ns : List Int) (m : Int) : (parts ns m).dropLast = cuts ns m := by
  rw [parts_cuts]
  by_cases h : ns.length = 0
  · rw [if_pos h, List.append_nil]
    have : cuts ns m = [] := by unfold cuts; rw [h]; rfl
    rw [this]; rfl
  · rw [if_neg h, List.dropLast_concat]
theorem parts_length (ns : List Int) (m : Int) : ((parts ns m).length : Int) = (cuts ns m).length + (if ns.length = 0 then 0 else 1 : Int) := by
  rw [parts_cuts, List.length_append]
  split <;> simp
theorem cuts_len (ns : List Int) (m : Int) : (cuts ns m).length ≤ ns.length := gs_len ns m ns.length
/-- the paper: windows one number too wide -/
def paperK (cs : List Int) (k : Nat) : List (Int × Int) := (List.range k).map fun j => (stc cs j, cs.getD j 0 + 1)
theorem paperK_s (cs : List Int) (k : Nat) : paperK cs (k + 1) = paperK cs k ++ [(stc cs k, cs.getD k 0 + 1)] := by
  unfold paperK
  rw [List.range_succ, List.map_append]; rfl
theorem paperK_len (cs : List Int) (k : Nat) : (paperK cs k).length = k := by simp [paperK]
theorem paperK_get {cs : List Int} {k j : Nat} (h : j < k) : (paperK cs k).getD j (0, 0) = (stc cs j, cs.getD j 0 + 1) := by
  unfold paperK
  rw [List.getD_eq_getElem?_getD, List.getElem?_map, List.getElem?_range h]; rfl
end Ur

namespace Ur
open PySem L2
/-! ### fewest windows -/
/-- idx tells each place its window: rising, and none with more than m unlike numbers -/
structure Col (ns : List Int) (m : Int) (idx : Nat → Nat) : Prop where
  up : ∀ i, i + 1 < ns.length → idx i ≤ idx (i + 1)
  few : ∀ p q, p ≤ q → q < ns.length → idx p = idx q → (wunN ns p (q + 1) : Int) ≤ m
theorem Col.mono {ns : List Int} {m : Int} {idx : Nat → Nat} (c : Col ns m idx) {p : Nat} : ∀ {k : Nat}, p + k < ns.length → idx p ≤ idx (p + k)
  | 0, _ => Nat.le_refl _
  | k + 1, h => Nat.le_trans (c.mono (k := k) (by omega)) (c.up (p + k) h)
theorem gs_grow (ns : List Int) (m : Int) (i : Nat) : ∃ cs, (gs ns m (i + 1)).1 = (gs ns m i).1 ++ cs ∧ (cs = [] → gs ns m (i + 1) = gs ns m i) := by
  rw [gs_succ]
  split
  · exact ⟨[(i : Int)], rfl, fun h => nomatch h⟩
  · exact ⟨[], (List.append_nil _).symm, fun _ => rfl⟩
theorem gs_more (ns : List Int) (m : Int) (i : Nat) : ∀ k, ∃ cs, (gs ns m (i + k)).1 = (gs ns m i).1 ++ cs ∧ (cs = [] → gs ns m (i + k) = gs ns m i)
  | 0 => ⟨[], (List.append_nil _).symm, fun _ => rfl⟩
  | k + 1 => by
    obtain ⟨cs, e1, e2⟩ := gs_more ns m i k
    obtain ⟨ds, d1, d2⟩ := gs_grow ns m (i + k)
    refine ⟨cs ++ ds, by rw [← Nat.add_assoc, d1, e1, List.append_assoc], fun h => ?_⟩
    obtain ⟨h1, h2⟩ := List.append_eq_nil_iff.mp h
    rw [← Nat.add_assoc, d2 h2, e2 h1]
/-- the greedy parting is one -/
theorem gs_col {ns : List Int} {m m' : Int} (hm : 1 ≤ m) (hmm : m ≤ m') : Col ns m' (fun i => (gs ns m (i + 1)).1.length) := by
  refine ⟨fun i h => ?_, fun p q hpq hq e => ?_⟩
  · obtain ⟨cs, e, _⟩ := gs_grow ns m (i + 1)
    show (gs ns m (i + 1)).1.length ≤ (gs ns m (i + 1 + 1)).1.length
    rw [e, List.length_append]
    omega
  · obtain ⟨cs, e1, e2⟩ := gs_more ns m (p + 1) (q - p)
    rw [show p + 1 + (q - p) = q + 1 by omega] at e1 e2
    have e3 : (gs ns m (p + 1)).1.length = (gs ns m (q + 1)).1.length := e
    rw [e1, List.length_append] at e3
    have e4 := e2 (List.eq_nil_of_length_eq_zero (by omega))
    have w := gwin_le (ns := ns) hm (q + 1) (by omega)
    have hl := gs_le ns m (p + 1)
    rw [← e4] at hl
    have w2 : (wunN ns (gs ns m (q + 1)).2 (q + 1) : Int) ≤ m := w
    by_cases c : (gs ns m (q + 1)).2 ≤ p
    · have k := wunN_monoF (ns := ns) (b := q + 1) (by omega) (k := p - (gs ns m (q + 1)).2) (f := (gs ns m (q + 1)).2) (by omega)
      rw [show (gs ns m (q + 1)).2 + (p - (gs ns m (q + 1)).2) = p by omega] at k
      omega
    · have c2 : (gs ns m (p + 1)).2 ≤ p := by
        rw [gs_succ]
        split
        · exact Nat.le_refl p
        · exact gs_le ns m p
      rw [← e4] at c2
      omega
/-- .. and none has fewer windows -/
theorem gs_few {ns : List Int} {m : Int} {idx : Nat → Nat} (hm : 1 ≤ m) (c : Col ns m idx) : ∀ i, i < ns.length → (gs ns m (i + 1)).1.length + idx 0 ≤ idx i ∧ ((gs ns m (i + 1)).1.length + idx 0 = idx i → idx (gs ns m (i + 1)).2 = idx i)
  | 0, h => by
    have e := gs_1 hm h
    show (gs ns m 1).1.length + idx 0 ≤ idx 0 ∧ ((gs ns m 1).1.length + idx 0 = idx 0 → idx (gs ns m 1).2 = idx 0)
    rw [e]
    exact ⟨by show 0 + idx 0 ≤ idx 0; omega, fun _ => rfl⟩
  | i + 1, h => by
    obtain ⟨h1, h2⟩ := gs_few hm c i (by omega)
    have u := c.up i h
    have hx := get_of (ns := ns) (i := i + 1) h
    by_cases k : ns.getD (i + 1) 0 ∉ gwin ns m (i + 1) ∧ (ulen (gwin ns m (i + 1)) : Int) = m
    · have e := (gs_cut hx k.1 k.2).1
      rw [e]
      refine ⟨?_, fun _ => rfl⟩
      show ((gs ns m (i + 1)).1 ++ [((i + 1 : Nat) : Int)]).length + idx 0 ≤ idx (i + 1)
      rw [List.length_append]
      show (gs ns m (i + 1)).1.length + 1 + idx 0 ≤ idx (i + 1)
      by_cases q : (gs ns m (i + 1)).1.length + idx 0 = idx i
      · by_cases z : idx (i + 1) = idx i
        · exfalso
          have h3 := h2 q
          have hl := gs_le ns m (i + 1)
          have f := c.few (gs ns m (i + 1)).2 (i + 1) hl h (h3.trans z.symm)
          have w : (wunN ns (gs ns m (i + 1)).2 (i + 1 + 1) : Int) = m + 1 := by
            have k2 := k.2
            unfold gwin at k2
            unfold wunN
            rw [show i + 1 + 1 - (gs ns m (i + 1)).2 = i + 1 - (gs ns m (i + 1)).2 + 1 by omega, take_snoc (x := ns.getD (i + 1) 0) (by rw [List.getElem?_drop, show (gs ns m (i + 1)).2 + (i + 1 - (gs ns m (i + 1)).2) = i + 1 by omega]; exact hx), ulen_snoc, if_neg (show ns.getD (i + 1) 0 ∉ (ns.drop (gs ns m (i + 1)).2).take (i + 1 - (gs ns m (i + 1)).2) from k.1)]
            omega
          omega
        · omega
      · omega
    · have e := (gs_go hx k).1
      rw [e]
      exact ⟨by omega, fun q => by
        have h3 := h2 (by omega)
        have : idx i = idx (i + 1) := by omega
        omega⟩
/-- how many windows -/
def nparts (ns : List Int) (m : Int) : Nat := (parts ns m).length
theorem nparts_0 {ns : List Int} {m : Int} (h : ns.length = 0) : nparts ns m = 0 := by
  unfold nparts
  rw [parts_nil h]; rfl
theorem nparts_1 {ns : List Int} {m : Int} (h : 0 < ns.length) : nparts ns m = (cuts ns m).length + 1 := by
  unfold nparts
  rw [parts_cuts, if_neg (by omega), List.length_append]; rfl
theorem nparts_le {ns : List Int} {m : Int} {idx : Nat → Nat} (hm : 1 ≤ m) (h : 0 < ns.length) (c : Col ns m idx) : nparts ns m + idx 0 ≤ idx (ns.length - 1) + 1 := by
  rw [nparts_1 h]
  have k := (gs_few hm c (ns.length - 1) (by omega)).1
  rw [show ns.length - 1 + 1 = ns.length by omega] at k
  unfold cuts
  omega
/-- with more at once there are no more windows -/
theorem nparts_mono {ns : List Int} {m m' : Int} (hm : 1 ≤ m) (hmm : m ≤ m') : nparts ns m' ≤ nparts ns m := by
  by_cases h : ns.length = 0
  · rw [nparts_0 h, nparts_0 h]; exact Nat.le_refl 0
  · have k := nparts_le (by omega) (by omega) (gs_col (ns := ns) hm hmm)
    have e := gs_1 (ns := ns) hm (by omega)
    rw [nparts_1 (m := m) (by omega)]
    have e2 : (gs ns m (ns.length - 1 + 1)).1.length = (cuts ns m).length := by rw [show ns.length - 1 + 1 = ns.length by omega]; rfl
    have e3 : (gs ns m (0 + 1)).1.length = 0 := by
      show (gs ns m 1).1.length = 0
      rw [e]; rfl
    have k2 : nparts ns m' + (gs ns m (0 + 1)).1.length ≤ (gs ns m (ns.length - 1 + 1)).1.length + 1 := k
    omega
theorem wunN_reverse {ns : List Int} {p q : Nat} (h : p ≤ q) (hq : q ≤ ns.length) : wunN ns.reverse p q = wunN ns (ns.length - q) (ns.length - p) := by
  refine ulen_congr fun x => ?_
  rw [mem_win, mem_win]
  constructor
  · rintro ⟨j, h1, h2, e⟩
    have hj : j < ns.length := by omega
    rw [List.getElem?_reverse hj] at e
    exact ⟨ns.length - 1 - j, by omega, by omega, e⟩
  · rintro ⟨j, h1, h2, e⟩
    have hj := (List.getElem?_eq_some_iff.mp e).1
    refine ⟨ns.length - 1 - j, by omega, by omega, ?_⟩
    rw [List.getElem?_reverse (by omega), show ns.length - 1 - (ns.length - 1 - j) = j by omega]
    exact e
theorem col_rev {ns : List Int} {m : Int} {idx : Nat → Nat} (c : Col ns m idx) : Col ns.reverse m (fun i => idx (ns.length - 1) - idx (ns.length - 1 - i)) := by
  have top : ∀ i, i < ns.length → idx i ≤ idx (ns.length - 1) := fun i hi => by
    have k := c.mono (p := i) (k := ns.length - 1 - i) (by omega)
    rwa [show i + (ns.length - 1 - i) = ns.length - 1 by omega] at k
  refine ⟨fun i h => ?_, fun p q hpq hq e => ?_⟩
  · rw [List.length_reverse] at h
    have u := c.up (ns.length - 1 - (i + 1)) (by omega)
    rw [show ns.length - 1 - (i + 1) + 1 = ns.length - 1 - i by omega] at u
    show idx (ns.length - 1) - idx (ns.length - 1 - i) ≤ idx (ns.length - 1) - idx (ns.length - 1 - (i + 1))
    omega
  · rw [List.length_reverse] at hq
    have e2 : idx (ns.length - 1) - idx (ns.length - 1 - p) = idx (ns.length - 1) - idx (ns.length - 1 - q) := e
    have t1 := top (ns.length - 1 - p) (by omega)
    have t2 := top (ns.length - 1 - q) (by omega)
    have f := c.few (ns.length - 1 - q) (ns.length - 1 - p) (by omega) (by omega) (by omega)
    rw [wunN_reverse (by omega) (by omega)]
    rwa [show ns.length - 1 - q = ns.length - (q + 1) by omega, show ns.length - 1 - p + 1 = ns.length - p by omega] at f
theorem nparts_rev_le {ns : List Int} {m : Int} (hm : 1 ≤ m) : nparts ns.reverse m ≤ nparts ns m := by
  by_cases h : ns.length = 0
  · rw [nparts_0 h, nparts_0 (by rw [List.length_reverse]; exact h)]; exact Nat.le_refl 0
  · have k := nparts_le (ns := ns.reverse) hm (by rw [List.length_reverse]; omega) (col_rev (gs_col (ns := ns) hm (Int.le_refl m)))
    rw [List.length_reverse] at k
    have e := gs_1 (ns := ns) hm (by omega)
    rw [nparts_1 (m := m) (ns := ns) (by omega)]
    have e2 : (gs ns m (ns.length - 1 + 1)).1.length = (cuts ns m).length := by rw [show ns.length - 1 + 1 = ns.length by omega]; rfl
    have e3 : (gs ns m (ns.length - 1 - (ns.length - 1) + 1)).1.length = 0 := by
      rw [Nat.sub_self]
      show (gs ns m 1).1.length = 0
      rw [e]; rfl
    have k2 : nparts ns.reverse m + ((gs ns m (ns.length - 1 + 1)).1.length - (gs ns m (ns.length - 1 - 0 + 1)).1.length) ≤ (gs ns m (ns.length - 1 + 1)).1.length - (gs ns m (ns.length - 1 - (ns.length - 1) + 1)).1.length + 1 := k
    rw [Nat.sub_zero] at k2
    omega
theorem nparts_rev {ns : List Int} {m : Int} (hm : 1 ≤ m) : nparts ns.reverse m = nparts ns m := by
  refine Nat.le_antisymm (nparts_rev_le hm) ?_
  have k := nparts_rev_le (ns := ns.reverse) hm
  rwa [List.reverse_reverse] at k
/-! two rows, one behind the other -/
theorem win_app1 {r o : List Int} {f b : Nat} (h : b ≤ r.length) : ((r ++ o).drop f).take (b - f) = (r.drop f).take (b - f) := by
  by_cases hf : f ≤ r.length
  · rw [List.drop_append_of_le_length hf, List.take_append_of_le_length (by rw [List.length_drop]; omega)]
  · rw [show b - f = 0 by omega]; rfl
theorem gs_app {r o : List Int} {m : Int} : ∀ i, i ≤ r.length → gs (r ++ o) m i = gs r m i
  | 0, _ => rfl
  | i + 1, h => by
    have ih := gs_app (r := r) (o := o) (m := m) i (by omega)
    have e : gwin (r ++ o) m i = gwin r m i := by
      unfold gwin
      rw [ih, win_app1 (by omega)]
    rw [gs_succ, gs_succ, e, ih, getD_app (by omega)]
theorem cuts_app {r o : List Int} {m : Int} : ∃ cs, cuts (r ++ o) m = cuts r m ++ cs := by
  obtain ⟨cs, e, _⟩ := gs_more (r ++ o) m r.length o.length
  refine ⟨cs, ?_⟩
  unfold cuts
  rw [List.length_append, e, gs_app _ (Nat.le_refl _)]
theorem nparts_app_ge {r o : List Int} {m : Int} : nparts r m ≤ nparts (r ++ o) m := by
  by_cases h : r.length = 0
  · rw [nparts_0 h]; exact Nat.zero_le _
  · obtain ⟨cs, e⟩ := cuts_app (r := r) (o := o) (m := m)
    rw [nparts_1 (by omega), nparts_1 (by rw [List.length_append]; omega), e, List.length_append]
    omega
theorem nparts_app_ge2 {r o : List Int} {m : Int} (hm : 1 ≤ m) : nparts o m ≤ nparts (r ++ o) m := by
  rw [← nparts_rev (ns := o) hm, ← nparts_rev (ns := r ++ o) hm, List.reverse_append]
  exact nparts_app_ge
theorem nparts_app {r o : List Int} {m : Int} (hm : 1 ≤ m) : nparts (r ++ o) m ≤ nparts r m + nparts o m := by
  by_cases hr : r.length = 0
  · rw [List.eq_nil_of_length_eq_zero hr, List.nil_append]; omega
  by_cases ho : o.length = 0
  · rw [List.eq_nil_of_length_eq_zero ho, List.append_nil]; omega
  have c1 := gs_col (ns := r) hm (Int.le_refl m)
  have c2 := gs_col (ns := o) hm (Int.le_refl m)
  have top : ∀ i, i < r.length → (gs r m (i + 1)).1.length ≤ (cuts r m).length := fun i hi => by
    obtain ⟨cs, e, _⟩ := gs_more r m (i + 1) (r.length - (i + 1))
    rw [show i + 1 + (r.length - (i + 1)) = r.length by omega] at e
    unfold cuts
    rw [e, List.length_append]; omega
  have c : Col (r ++ o) m (fun i => if i < r.length then (gs r m (i + 1)).1.length else (cuts r m).length + 1 + (gs o m (i - r.length + 1)).1.length) := by
    refine ⟨fun i h => ?_, fun p q hpq hq e => ?_⟩
    · rw [List.length_append] at h
      show (if i < r.length then _ else _) ≤ (if i + 1 < r.length then _ else _)
      by_cases h1 : i + 1 < r.length
      · rw [if_pos h1, if_pos (by omega)]
        exact c1.up i h1
      · rw [if_neg h1]
        by_cases h2 : i < r.length
        · rw [if_pos h2]
          have := top i h2
          omega
        · rw [if_neg h2]
          have k := c2.up (i - r.length) (by omega)
          have k2 : (gs o m (i - r.length + 1)).1.length ≤ (gs o m (i - r.length + 1 + 1)).1.length := k
          rw [show i + 1 - r.length + 1 = i - r.length + 1 + 1 by omega]
          omega
    · rw [List.length_append] at hq
      have e2 : (if p < r.length then (gs r m (p + 1)).1.length else (cuts r m).length + 1 + (gs o m (p - r.length + 1)).1.length) = (if q < r.length then (gs r m (q + 1)).1.length else (cuts r m).length + 1 + (gs o m (q - r.length + 1)).1.length) := e
      by_cases h1 : q < r.length
      · rw [if_pos h1, if_pos (by omega)] at e2
        have f := c1.few p q hpq h1 e2
        unfold wunN at f ⊢
        rw [win_app1 (by omega)]
        exact f
      · rw [if_neg h1] at e2
        by_cases h2 : p < r.length
        · rw [if_pos h2] at e2
          have := top p h2
          omega
        · rw [if_neg h2] at e2
          have f := c2.few (p - r.length) (q - r.length) (by omega) (by omega) (by show (gs o m (p - r.length + 1)).1.length = (gs o m (q - r.length + 1)).1.length; omega)
          unfold wunN at f ⊢
          rw [List.drop_append, List.drop_of_length_le (by omega), List.nil_append]
          rwa [show q - r.length + 1 - (p - r.length) = q + 1 - p by omega] at f
  have k := nparts_le hm (by rw [List.length_append]; omega) c
  rw [List.length_append] at k
  have e1 := gs_1 (ns := r) hm (by omega)
  have k2 : nparts (r ++ o) m + (if 0 < r.length then (gs r m (0 + 1)).1.length else _) ≤ (if r.length + o.length - 1 < r.length then _ else (cuts r m).length + 1 + (gs o m (r.length + o.length - 1 - r.length + 1)).1.length) + 1 := k
  rw [if_pos (show 0 < r.length by omega), if_neg (show ¬ r.length + o.length - 1 < r.length by omega), show r.length + o.length - 1 - r.length + 1 = o.length by omega] at k2
  rw [nparts_1 (ns := r) (by omega), nparts_1 (ns := o) (by omega)]
  unfold cuts at k2 ⊢
  omega
/-- what is known of the parting -/
theorem parts_ok {ns : List Int} {m : Int} (hm : 1 ≤ m) {k : Nat} {x : Int} (hk : (parts ns m)[k]? = some x) : 0 ≤ stc (parts ns m) k ∧ stc (parts ns m) k < x ∧ x ≤ ns.length ∧ (wunN ns (stc (parts ns m) k).toNat x.toNat : Int) ≤ m := by
  have hc := parts_cuts ns m
  have hl := (List.getElem?_eq_some_iff.mp hk).1
  by_cases h0 : ns.length = 0
  · rw [parts_nil h0] at hl
    exact absurd hl (Nat.not_lt_zero k)
  rw [if_neg h0] at hc
  rw [hc, List.length_append] at hl
  have h1 : ([(ns.length : Int)] : List Int).length = 1 := rfl
  rw [hc, stc_app (cs := cuts ns m) (by omega)]
  rw [hc] at hk
  by_cases h : k < (cuts ns m).length
  · rw [List.getElem?_append_left h] at hk
    have e := getD_of hk
    obtain ⟨a1, a2, a3, a4, _⟩ := cuts_ok hm h
    rw [e] at a2 a3 a4
    exact ⟨a1, a2, by omega, by omega⟩
  · have hk2 : k = (cuts ns m).length := by omega
    subst hk2
    rw [List.getElem?_append_right (Nat.le_refl _), Nat.sub_self] at hk
    cases hk
    have w := gwin_le (ns := ns) hm ns.length (Nat.le_refl _)
    have hlast := cuts_last (ns := ns) hm
    have hlt : (gs ns m ns.length).2 < ns.length := by
      have e : gs ns m (ns.length - 1 + 1) = gs ns m ns.length := by rw [show ns.length - 1 + 1 = ns.length by omega]
      rw [← e, gs_succ]
      split
      · show ns.length - 1 < ns.length
        omega
      · have := gs_le ns m (ns.length - 1)
        omega
    rw [hlast, Int.toNat_natCast, Int.toNat_natCast]
    exact ⟨by omega, by omega, by omega, w⟩
theorem parts_end (ns : List Int) (m : Int) : stc (parts ns m) (parts ns m).length = (ns.length : Int) := by
  by_cases h0 : ns.length = 0
  · rw [parts_nil h0, h0]; rfl
  · rw [parts_cuts, if_neg h0, List.length_append]
    show stc _ ((cuts ns m).length + 1) = _
    rw [stc_s, getD_app2]
/-! called otherwise -/
theorem gs_map {f : Int → Int} {ns : List Int} {m : Int} (h : InjOn f ns) : ∀ i, i ≤ ns.length → gs (ns.map f) m i = gs ns m i
  | 0, _ => rfl
  | i + 1, hi => by
    have ih := gs_map (m := m) h i (by omega)
    have hx := get_of (ns := ns) (i := i) (by omega)
    have e : gwin (ns.map f) m i = (gwin ns m i).map f := by
      unfold gwin
      rw [ih, ← List.map_drop, ← List.map_take]
    have hs : ∀ y ∈ gwin ns m i, y ∈ ns := fun y hy => List.mem_of_mem_drop (List.mem_of_mem_take hy)
    have hxm : ns.getD i 0 ∈ ns := List.mem_of_getElem? hx
    have ex : (ns.map f).getD i 0 = f (ns.getD i 0) := getD_of (by rw [List.getElem?_map, hx]; rfl)
    have eu : ulen ((gwin ns m i).map f) = ulen (gwin ns m i) := ulen_map fun x hx y hy k => h x (hs x hx) y (hs y hy) k
    rw [gs_succ, gs_succ, e, ih, ex, eu]
    by_cases q : ns.getD i 0 ∈ gwin ns m i
    · rw [if_neg (fun z => z.1 ((mem_map_inj h hxm hs).mpr q)), if_neg (fun z => z.1 q)]
    · by_cases z : (ulen (gwin ns m i) : Int) = m
      · rw [if_pos ⟨fun k => q ((mem_map_inj h hxm hs).mp k), z⟩, if_pos ⟨q, z⟩]
      · rw [if_neg (fun k => z k.2), if_neg (fun k => z k.2)]
theorem parts_map {f : Int → Int} {ns : List Int} {m : Int} (h : InjOn f ns) : parts (ns.map f) m = parts ns m := by
  unfold parts
  rw [List.length_map, gs_map h _ (Nat.le_refl _)]
/-- where there are no more unlike numbers there is one window -/
theorem gs_all {ns : List Int} {m : Int} (h : (ulen ns : Int) ≤ m) : ∀ i, i ≤ ns.length → gs ns m i = ([], 0)
  | 0, _ => rfl
  | i + 1, hi => by
    have ih := gs_all h i (by omega)
    have hx := get_of (ns := ns) (i := i) (by omega)
    have e : gwin ns m i = ns.take i := by
      unfold gwin
      rw [ih]; rfl
    rw [gs_succ, e, ih, if_neg]
    rintro ⟨z1, z2⟩
    have k : ulen (ns.take (i + 1)) ≤ ulen ns := by
      have := ulen_mono (ns := ns) (i := i + 1) (j := ns.length) hi
      rwa [List.take_length] at this
    rw [take_snoc hx, ulen_snoc, if_neg z1] at k
    omega
theorem parts_all {ns : List Int} {m : Int} (h : (ulen ns : Int) ≤ m) : parts ns m = if ns.length = 0 then [] else [(ns.length : Int)] := by
  unfold parts
  rw [gs_all h _ (Nat.le_refl _)]; rfl
theorem take_len (n : Nat) : ([(n : Int)].take (n : Int).toNat) = if n = 0 then [] else [(n : Int)] := by
  rcases Nat.eq_zero_or_pos n with h | h
  · rw [h, if_pos rfl]; rfl
  · rw [if_neg (by omega), List.take_of_length_le (by show 1 ≤ _; omega)]
end Ur

namespace Ur
open PySem L2
/-! ### lists of pairs of ints -/
/-- objects at ls, the k-th of them O k -/
structure ObjsF (H : Hp) (ls : List Addr) (n : Nat) (O : Nat → HO) : Prop where
  len : ls.length = n
  row : ∀ k p, ls[k]? = some p → H p = some (O k)
theorem ObjsF.same {H H' : Hp} {ls : List Addr} {n : Nat} {O : Nat → HO} (r : ObjsF H ls n O) (s : Same H H') : ObjsF H' ls n O := ⟨r.len, fun k p e => s _ _ (r.row k p e)⟩
theorem ObjsF.but {a : Addr} {H H' : Hp} {ls : List Addr} {n : Nat} {O : Nat → HO} (r : ObjsF H ls n O) (b : But a H H') (no : ∀ p ∈ ls, p ≠ a) : ObjsF H' ls n O := ⟨r.len, fun k p e => b _ _ (no p (List.mem_of_getElem? e)) (r.row k p e)⟩
theorem ObjsF.is {H : Hp} {ls : List Addr} {n : Nat} {O : Nat → HO} (r : ObjsF H ls n O) {p : Addr} (hp : p ∈ ls) : ∃ k, k < n ∧ H p = some (O k) := by
  obtain ⟨k, hk⟩ := List.getElem?_of_mem hp
  exact ⟨k, by have := (List.getElem?_eq_some_iff.mp hk).1; have := r.len; omega, r.row k p hk⟩
theorem ObjsF.offNew {H : Hp} {x : Addr} {ls : List Addr} {n : Nat} {O : Nat → HO} (r : ObjsF H ls n O) (e : H x = none) : Off ls x := ⟨fun p hp z => by
  obtain ⟨k, _, em⟩ := r.is hp
  rw [z, e] at em
  cases em⟩
/-- .. of another kind than what lies at x -/
theorem ObjsF.offKind {H : Hp} {x : Addr} {o : HO} {ls : List Addr} {n : Nat} {O : Nat → HO} (r : ObjsF H ls n O) (e : H x = some o) (h : ∀ k, O k ≠ o) : Off ls x := ⟨fun p hp z => by
  obtain ⟨k, _, em⟩ := r.is hp
  rw [z, e] at em
  exact h k (Option.some.inj em).symm⟩
theorem ObjsF.upd {H : Hp} {x : Addr} {o : HO} {ls : List Addr} {n : Nat} {O : Nat → HO} (r : ObjsF H ls n O) (f : Off ls x) : ObjsF (upd H x o) ls n O := ⟨r.len, fun k p e => by
  rw [upd_ne (f.out p (List.mem_of_getElem? e))]
  exact r.row k p e⟩
/-- a pair -/
def pr (q : Int × Int) : HO := .tup [.int q.1, .int q.2]
abbrev PairsF (H : Hp) (ls : List Addr) (ps : List (Int × Int)) : Prop := ObjsF H ls ps.length (fun k => pr (ps.getD k (0, 0)))
theorem PairsF.nil {H : Hp} : PairsF H [] [] := ⟨rfl, fun k p h => nomatch h⟩
theorem PairsF.snoc {H : Hp} {ls : List Addr} {ps : List (Int × Int)} {p : Addr} {x y : Int} (r : PairsF H ls ps) (e : H p = some (.tup [.int x, .int y])) : PairsF H (ls ++ [p]) (ps ++ [(x, y)]) := by
  have hl := r.len
  refine ⟨by rw [List.length_append, List.length_append, hl]; rfl, fun k q h => ?_⟩
  by_cases hk : k < ls.length
  · rw [List.getElem?_append_left hk] at h
    have h2 := r.row k q h
    have h3 : (ps ++ [(x, y)]).getD k (0, 0) = ps.getD k (0, 0) := by
      rw [List.getD_eq_getElem?_getD, List.getD_eq_getElem?_getD, List.getElem?_append_left (by omega)]
    show H q = some (pr ((ps ++ [(x, y)]).getD k (0, 0)))
    rw [h3]
    exact h2
  · have h2 := (List.getElem?_eq_some_iff.mp h).1
    rw [List.length_append] at h2
    have h3 : [p].length = 1 := rfl
    have hk2 : k = ls.length := by omega
    subst hk2
    rw [List.getElem?_append_right (Nat.le_refl _), Nat.sub_self] at h
    cases h
    have h4 : (ps ++ [(x, y)]).getD ls.length (0, 0) = (x, y) := by
      rw [List.getD_eq_getElem?_getD, List.getElem?_append_right (by omega), hl, Nat.sub_self]
      rfl
    show H p = some (pr ((ps ++ [(x, y)]).getD ls.length (0, 0)))
    rw [h4]
    exact e
theorem PairsF.get {H : Hp} {ls : List Addr} {ps : List (Int × Int)} {k : Nat} {p : Addr} (r : PairsF H ls ps) (h : ls[k]? = some p) : k < ps.length ∧ H p = some (.tup [.int (ps.getD k (0, 0)).1, .int (ps.getD k (0, 0)).2]) :=
  ⟨by have := (List.getElem?_eq_some_iff.mp h).1; have := r.len; omega, r.row k p h⟩
theorem PairsF.offL {H : Hp} {x : Addr} {xs : List V} {ls : List Addr} {ps : List (Int × Int)} (r : PairsF H ls ps) (e : H x = some (.lst xs)) : Off ls x := ObjsF.offKind r e fun k z => nomatch z
/-- the data of such a list -/
def pairsD (ps : List (Int × Int)) : List PyData := ps.map fun q => PyData.tuple [.int q.1, .int q.2]
theorem dp_pairs {K : PySem.W.Frag} {H : Hp} {a : Addr} {ls : List Addr} {ps : List (Int × Int)} (h : SqL K H a (ls.map V.ref)) (r : PairsF H ls ps) : Dp K H (.ref a) (.list (pairsD ps)) := by
  refine .lst h (dpAll_of _ _ (by rw [pairsD, List.length_map, List.length_map, r.len]) fun k v d h1 h2 => ?_)
  rw [List.getElem?_map] at h1
  obtain ⟨p, hp, rfl⟩ := Option.map_eq_some_iff.mp h1
  obtain ⟨hk, e⟩ := r.get hp
  rw [pairsD, List.getElem?_map, List.getElem?_eq_getElem hk] at h2
  cases h2
  have e2 : ps.getD k (0, 0) = ps[k] := by rw [List.getD_eq_getElem?_getD, List.getElem?_eq_getElem hk]; rfl
  rw [e2] at e
  exact .tup (SqT.of e) (.cons (.int _) (.cons (.int _) .nil))
theorem shaped_pairs (ps : List (Int × Int)) : SeqAt.shaped (.list (pairsD ps)) = true := by
  refine shaped_of (canLayAll_of _ fun d h => ?_) ?_
  · obtain ⟨q, _, rfl⟩ := List.mem_map.mp h
    rfl
  · have h := depthAll_of (m := 2) (pairsD ps) fun d h => by
      obtain ⟨q, _, rfl⟩ := List.mem_map.mp h
      rw [PyData.depth]
      have := depthAll_of (m := 1) [PyData.int q.1, .int q.2] fun d h => by
        rcases List.mem_cons.mp h with rfl | h
        · simp [PyData.depth]
        · rw [List.mem_singleton.mp h]; simp [PyData.depth]
      omega
    rw [PyData.depth]
    omega
theorem eqv_pairs (ps : List (Int × Int)) : PyData.eqv (.list (pairsD ps)) (.list (pairsD ps)) = true := by
  show PyData.eqvAll _ _ = true
  refine eqvAll_refl _ fun d h => ?_
  obtain ⟨q, _, rfl⟩ := List.mem_map.mp h
  show PyData.eqvAll _ _ = true
  refine eqvAll_refl _ fun d h => ?_
  rcases List.mem_cons.mp h with rfl | h
  · show (q.1 == q.1) = true
    exact beq_self_eq_true _
  · rw [List.mem_singleton.mp h]
    show (q.2 == q.2) = true
    exact beq_self_eq_true _
theorem rEq_pairs {K : PySem.W.Frag} {H : Hp} {a b : Addr} {ls ms : List Addr} {ps : List (Int × Int)} {Q : VK} (h1 : SqL K H a (ls.map V.ref)) (h2 : SqL K H b (ms.map V.ref)) (r1 : PairsF H ls ps) (r2 : PairsF H ms ps) (q : Q (.bl true) H) : rEqD K (.ref a) (.ref b) H Q :=
  ⟨_, _, dp_pairs h1 r1, dp_pairs h2 r2, shaped_pairs ps, shaped_pairs ps, by rw [eqv_pairs]; exact q⟩
theorem rNe_pairs {K : PySem.W.Frag} {H : Hp} {a b : Addr} {ls ms : List Addr} {ps : List (Int × Int)} {Q : VK} (h1 : SqL K H a (ls.map V.ref)) (h2 : SqL K H b (ms.map V.ref)) (r1 : PairsF H ls ps) (r2 : PairsF H ms ps) (q : Q (.bl false) H) : rNeD K (.ref a) (.ref b) H Q :=
  ⟨_, _, dp_pairs h1 r1, dp_pairs h2 r2, shaped_pairs ps, shaped_pairs ps, by rw [eqv_pairs]; exact q⟩
/-! ### xs[:-1] -/
theorem cut_m1 (xs : List V) : cutV xs none (some (-1)) = xs.dropLast := by
  unfold cutV
  rw [HT.sIx_none]
  have e : HT.sIx xs.length xs.length (some (-1)) = xs.length - 1 := by
    show (if (-1 : Int) < 0 then ((-1 : Int) + (xs.length : Int)).toNat else min (-1 : Int).toNat xs.length) = xs.length - 1
    rw [if_pos (by decide)]
    omega
  rw [e, List.drop_zero, Nat.sub_zero, List.dropLast_eq_take]
end Ur

namespace Ur
open PySem L2
/-! ### things that are partings -/
def prevI (xs : List V) : Nat → Int
  | 0 => 0
  | i + 1 => match xs[i]? with
    | some (.int n) => n
    | _ => 0
theorem prevI_s {xs : List V} {i : Nat} {n : Int} (h : xs[i]? = some (.int n)) : prevI xs (i + 1) = n := by
  simp only [prevI, h]
def PAt (ns : List Int) (m : Int) (xs : List V) (i : Nat) (x : V) : Prop := ∃ n : Int, x = .int n ∧ prevI xs i < n ∧ n ≤ ns.length ∧ (wunN ns (prevI xs i).toNat n.toNat : Int) ≤ m
def PartOk (ns : List Int) (m : Int) (xs : List V) : Prop := (∀ i x, xs[i]? = some x → PAt ns m xs i x) ∧ prevI xs xs.length = ns.length
def PartB (H : Hp) (ns : List Int) (m : Int) (v : V) (b : Bool) : Prop := b = true ↔ ∃ p xs, v = .ref p ∧ H p = some (.lst xs) ∧ PartOk ns m xs
theorem PartB.ex (H : Hp) (ns : List Int) (m : Int) (v : V) : ∃ b, PartB H ns m v b := by
  by_cases h : ∃ p xs, v = .ref p ∧ H p = some (.lst xs) ∧ PartOk ns m xs
  · exact ⟨true, fun _ => h, fun _ => rfl⟩
  · exact ⟨false, fun e => Bool.noConfusion e, fun k => (h k).elim⟩
theorem PartB.off {H : Hp} {ns : List Int} {m : Int} {v : V} {b : Bool} (h : PartB H ns m v b) (n : ∀ p xs, v = .ref p → H p ≠ some (.lst xs)) : b = false := by
  cases b with
  | false => rfl
  | true => obtain ⟨p, xs, e, k, _⟩ := h.mp rfl; exact (n p xs e k).elim
theorem PartB.bad {H : Hp} {ns : List Int} {m : Int} {p : Addr} {b : Bool} {xs : List V} {i : Nat} {x : V} (h : PartB H ns m (.ref p) b) (e : H p = some (.lst xs)) (hx : xs[i]? = some x) (n : ¬ PAt ns m xs i x) : b = false := by
  cases b with
  | false => rfl
  | true =>
    obtain ⟨q, ys, z, k, f⟩ := h.mp rfl
    cases z
    rw [e] at k
    cases k
    exact (n (f.1 i x hx)).elim
theorem PartB.last {H : Hp} {ns : List Int} {m : Int} {p : Addr} {b : Bool} {xs : List V} (h : PartB H ns m (.ref p) b) (e : H p = some (.lst xs)) (f : ∀ i x, xs[i]? = some x → PAt ns m xs i x) : b = decide (prevI xs xs.length = ns.length) := by
  by_cases hl : prevI xs xs.length = ns.length
  · rw [decide_eq_true hl]
    exact h.mpr ⟨p, xs, rfl, e, f, hl⟩
  · rw [decide_eq_false hl]
    cases b with
    | false => rfl
    | true =>
      obtain ⟨q, ys, z, k, f⟩ := h.mp rfl
      cases z
      rw [e] at k
      cases k
      exact (hl f.2).elim
theorem PartB.same {H H' : Hp} {ns : List Int} {m : Int} {v : V} {b : Bool} (h : PartB H ns m v b) (k : Kind H v) (s : Same H H') : PartB H' ns m v b := by
  refine h.trans ⟨fun ⟨p, xs, e, z, f⟩ => ⟨p, xs, e, s _ _ z, f⟩, fun ⟨p, xs, e, z, f⟩ => ?_⟩
  subst e
  obtain ⟨o, ho⟩ := k.some
  have w := s _ _ ho
  rw [z] at w
  cases w
  exact ⟨p, xs, rfl, ho, f⟩
theorem PartB.noList {H : Hp} {ns : List Int} {m : Int} {v : V} (n : ∀ p xs, v = .ref p → H p ≠ some (.lst xs)) : PartB H ns m v false := ⟨fun z => (nomatch z), fun ⟨q, ys, z, k, _⟩ => (n q ys z k).elim⟩
theorem PartB.noAt {H : Hp} {ns : List Int} {m : Int} {p : Addr} {xs : List V} {i : Nat} {x : V} (e : H p = some (.lst xs)) (hx : xs[i]? = some x) (n : ∀ k : Int, x ≠ .int k) : PartB H ns m (.ref p) false :=
  ⟨fun z => (nomatch z), fun ⟨q, ys, z, k, f⟩ => by
    cases z
    rw [e] at k
    cases k
    obtain ⟨m, e1, _⟩ := f.1 i x hx
    exact (n m e1).elim⟩
end Ur

namespace Ur
open PySem L2
/-! ### things of any kind, two deep: lists of tuples -/
structure K2 (L : Addr → Prop) (H : Hp) (v : V) : Prop where
  kind : Kind H v
  ne : ∀ b, L b → v ≠ .ref b
  tup : ∀ p ys, v = .ref p → H p = some (.tup ys) → ys.length ≤ 2000 ∧ Its L H ys
theorem K2.same {L : Addr → Prop} {H H' : Hp} {v : V} (t : K2 L H v) (s : Same H H') : K2 L H' v := ⟨t.kind.same s, t.ne, fun p ys e h => by
  subst e
  obtain ⟨o, ho⟩ := t.kind.some
  have z := s _ _ ho
  rw [h] at z
  cases z
  obtain ⟨l, f⟩ := t.tup p ys rfl ho
  exact ⟨l, f.same s⟩⟩
theorem K2.but {L : Addr → Prop} {a : Addr} {H H' : Hp} {v : V} (t : K2 L H v) (la : L a) (b : But a H H') : K2 L H' v := ⟨t.kind.but b (t.ne a la), t.ne, fun p ys e h => by
  subst e
  obtain ⟨o, ho⟩ := t.kind.some
  have z := b _ _ (fun z => t.ne a la (by rw [z])) ho
  rw [h] at z
  cases z
  obtain ⟨l, f⟩ := t.tup p ys rfl ho
  exact ⟨l, f.but la b⟩⟩
theorem K2.of {L : Addr → Prop} {H : Hp} {v : V} (k : Kind H v) (n : ∀ b, L b → v ≠ .ref b) (f : ∀ p ys, v = .ref p → H p ≠ some (.tup ys)) : K2 L H v := ⟨k, n, fun p ys e h => (f p ys e h).elim⟩
theorem K2.int {L : Addr → Prop} {H : Hp} {i : Int} : K2 L H (.int i) := .of .int (fun _ _ z => nomatch z) fun _ _ z => nomatch z
theorem K2.bl {L : Addr → Prop} {H : Hp} {c : Bool} : K2 L H (.bl c) := .of .bl (fun _ _ z => nomatch z) fun _ _ z => nomatch z
theorem K2.str {L : Addr → Prop} {H : Hp} {x : Str} : K2 L H (.str x) := .of .str (fun _ _ z => nomatch z) fun _ _ z => nomatch z
theorem K2.non {L : Addr → Prop} {H : Hp} : K2 L H .non := .of .non (fun _ _ z => nomatch z) fun _ _ z => nomatch z
theorem K2.lst {L : Addr → Prop} {H : Hp} {p : Addr} {xs : List V} (e : H p = some (.lst xs)) (n : ∀ b, L b → p ≠ b) : K2 L H (.ref p) := .of (.lst e) (neV n) fun q ys z h => by cases z; rw [e] at h; cases h
theorem K2.dct {L : Addr → Prop} {H : Hp} {p : Addr} {xs : List (Key × V)} (e : H p = some (.dK xs)) (n : ∀ b, L b → p ≠ b) : K2 L H (.ref p) := .of (.dct e) (neV n) fun q ys z h => by cases z; rw [e] at h; cases h
theorem K2.tpl {L : Addr → Prop} {H : Hp} {p : Addr} {ys : List V} (e : H p = some (.tup ys)) (n : ∀ b, L b → p ≠ b) (l : ys.length ≤ 2000) (t : Its L H ys) : K2 L H (.ref p) :=
  ⟨.tup e, neV n, fun q zs z h => by cases z; rw [e] at h; cases h; exact ⟨l, t⟩⟩
structure I2 (L : Addr → Prop) (H : Hp) (xs : List V) : Prop where
  all : ∀ x ∈ xs, K2 L H x
theorem I2.nil {L : Addr → Prop} {H : Hp} : I2 L H [] := ⟨fun _ h => nomatch h⟩
theorem I2.sub {L : Addr → Prop} {H : Hp} {xs ys : List V} (t : I2 L H xs) (f : ∀ y ∈ ys, y ∈ xs) : I2 L H ys := ⟨fun y h => t.all y (f y h)⟩
theorem I2.app {L : Addr → Prop} {H : Hp} {xs ys : List V} (t : I2 L H xs) (u : I2 L H ys) : I2 L H (xs ++ ys) := ⟨fun y h => by
  rcases List.mem_append.mp h with k | k
  · exact t.all y k
  · exact u.all y k⟩
theorem I2.one {L : Addr → Prop} {H : Hp} {x : V} (k : K2 L H x) : I2 L H [x] := ⟨fun y h => by rw [List.mem_singleton.mp h]; exact k⟩
theorem I2.same {L : Addr → Prop} {H H' : Hp} {xs : List V} (t : I2 L H xs) (s : Same H H') : I2 L H' xs := ⟨fun x h => (t.all x h).same s⟩
theorem I2.but {L : Addr → Prop} {a : Addr} {H H' : Hp} {xs : List V} (t : I2 L H xs) (l : L a) (b : But a H H') : I2 L H' xs := ⟨fun x h => (t.all x h).but l b⟩
structure T2 (L : Addr → Prop) (H : Hp) (v : V) : Prop where
  kind : Kind H v
  ne : ∀ b, L b → v ≠ .ref b
  items : ∀ p xs, v = .ref p → H p = some (.lst xs) → xs.length ≤ 2000 ∧ I2 L H xs
theorem T2.same {L : Addr → Prop} {H H' : Hp} {v : V} (t : T2 L H v) (s : Same H H') : T2 L H' v := ⟨t.kind.same s, t.ne, fun p xs e h => by
  subst e
  obtain ⟨o, ho⟩ := t.kind.some
  have z := s _ _ ho
  rw [h] at z
  cases z
  obtain ⟨l, f⟩ := t.items p xs rfl ho
  exact ⟨l, f.same s⟩⟩
theorem T2.but {L : Addr → Prop} {a : Addr} {H H' : Hp} {v : V} (t : T2 L H v) (la : L a) (b : But a H H') : T2 L H' v := ⟨t.kind.but b (t.ne a la), t.ne, fun p xs e h => by
  subst e
  obtain ⟨o, ho⟩ := t.kind.some
  have z := b _ _ (fun z => t.ne a la (by rw [z])) ho
  rw [h] at z
  cases z
  obtain ⟨l, f⟩ := t.items p xs rfl ho
  exact ⟨l, f.but la b⟩⟩
theorem T2.lst {L : Addr → Prop} {H : Hp} {p : Addr} {xs : List V} (e : H p = some (.lst xs)) (n : ∀ b, L b → p ≠ b) (l : xs.length ≤ 2000) (t : I2 L H xs) : T2 L H (.ref p) :=
  ⟨.lst e, neV n, fun q ys z h => by cases z; rw [e] at h; cases h; exact ⟨l, t⟩⟩
theorem T2.of {L : Addr → Prop} {H : Hp} {v : V} (k : Kind H v) (n : ∀ b, L b → v ≠ .ref b) (f : ∀ p xs, v = .ref p → H p ≠ some (.lst xs)) : T2 L H v := ⟨k, n, fun p xs e h => (f p xs e h).elim⟩
/-- the two whole numbers of a tuple -/
def pairOf (H : Hp) : V → Option (Int × Int)
  | .ref p => match H p with
    | some (.tup [.int f, .int b]) => some (f, b)
    | _ => none
  | _ => none
theorem pairOf_is {H : Hp} {p : Addr} {f b : Int} (e : H p = some (.tup [.int f, .int b])) : pairOf H (.ref p) = some (f, b) := by simp only [pairOf, e]
theorem pairOf_ex {H : Hp} {v : V} {f b : Int} (h : pairOf H v = some (f, b)) : ∃ p, v = .ref p ∧ H p = some (.tup [.int f, .int b]) := by
  cases v with
  | ref p =>
    simp only [pairOf] at h
    split at h
    · next e => cases h; exact ⟨p, rfl, e⟩
    · cases h
  | _ => cases h
theorem K2.pair {L : Addr → Prop} {H H' : Hp} {v : V} (t : K2 L H v) (s : Same H H') : pairOf H' v = pairOf H v := by
  cases h : pairOf H v with
  | some q =>
    obtain ⟨f, b⟩ := q
    obtain ⟨p, rfl, e⟩ := pairOf_ex h
    exact pairOf_is (s _ _ e)
  | none =>
    cases h2 : pairOf H' v with
    | none => rfl
    | some q =>
      obtain ⟨f, b⟩ := q
      obtain ⟨p, rfl, e⟩ := pairOf_ex h2
      obtain ⟨o, ho⟩ := t.kind.some
      have z := s _ _ ho
      rw [e] at z
      cases z
      rw [pairOf_is ho] at h
      cases h
theorem pairOf_no {H : Hp} {v : V} (n : ∀ p ys, v = .ref p → H p ≠ some (.tup ys)) : pairOf H v = none := by
  cases h : pairOf H v with
  | none => rfl
  | some q =>
    obtain ⟨f, b⟩ := q
    obtain ⟨p, e, z⟩ := pairOf_ex h
    exact (n p _ e z).elim
theorem pairOf_len {H : Hp} {p : Addr} {ys : List V} (e : H p = some (.tup ys)) (n : ys.length ≠ 2) : pairOf H (.ref p) = none := by
  cases h : pairOf H (.ref p) with
  | none => rfl
  | some q =>
    obtain ⟨f, b⟩ := q
    obtain ⟨p', e', z⟩ := pairOf_ex h
    cases e'
    rw [e] at z
    cases z
    exact (n rfl).elim
theorem pairOf_two {H : Hp} {p : Addr} {x y : V} (e : H p = some (.tup [x, y])) (n : (∀ i, x ≠ .int i) ∨ ∀ i, y ≠ .int i) : pairOf H (.ref p) = none := by
  cases h : pairOf H (.ref p) with
  | none => rfl
  | some q =>
    obtain ⟨f, b⟩ := q
    obtain ⟨p', e', z⟩ := pairOf_ex h
    cases e'
    rw [e] at z
    cases z
    rcases n with n | n
    · exact (n f rfl).elim
    · exact (n b rfl).elim
theorem two_of {ys : List V} (h : ys.length = 2) : ∃ x y, ys = [x, y] := by
  match ys, h with
  | [x, y], _ => exact ⟨x, y, rfl⟩
/-! papers that fewer can't do -/
def prevW (H : Hp) (xs : List V) : Nat → Int
  | 0 => 0
  | i + 1 => match xs[i]? with
    | some x => match pairOf H x with
      | some (_, b) => b - 1
      | none => 0
    | none => 0
theorem prevW_s {H : Hp} {xs : List V} {i : Nat} {x : V} {f b : Int} (h : xs[i]? = some x) (e : pairOf H x = some (f, b)) : prevW H xs (i + 1) = b - 1 := by
  simp only [prevW, h, e]
def WAt (H : Hp) (ns : List Int) (m : Int) (xs : List V) (i : Nat) (x : V) : Prop := ∃ f b : Int, pairOf H x = some (f, b) ∧ prevW H xs i ≤ f ∧ 0 ≤ f ∧ f ≤ b ∧ b ≤ ns.length ∧ m < (wunN ns f.toNat b.toNat : Int)
def ByOk (H : Hp) (ns : List Int) (m : Int) (v : V) : Prop := ∃ p xs, v = .ref p ∧ H p = some (.lst xs) ∧ ∀ i x, xs[i]? = some x → WAt H ns m xs i x
def ByR (H : Hp) (ns : List Int) (m : Int) (v r : V) : Prop := (∃ p xs, v = .ref p ∧ H p = some (.lst xs) ∧ (∀ i x, xs[i]? = some x → WAt H ns m xs i x) ∧ r = .int ((xs.length : Int) + if ns = [] then 0 else 1)) ∨ (r = .non ∧ ¬ ByOk H ns m v)
theorem ByR.ex (H : Hp) (ns : List Int) (m : Int) (v : V) : ∃ r, ByR H ns m v r := by
  by_cases h : ByOk H ns m v
  · obtain ⟨p, xs, e, k, f⟩ := h
    exact ⟨_, .inl ⟨p, xs, e, k, f, rfl⟩⟩
  · exact ⟨.non, .inr ⟨rfl, h⟩⟩
theorem ByR.off {H : Hp} {ns : List Int} {m : Int} {v r : V} (h : ByR H ns m v r) (n : ∀ p xs, v = .ref p → H p ≠ some (.lst xs)) : r = .non := by
  rcases h with ⟨p, xs, e, k, _⟩ | ⟨e, _⟩
  · exact (n p xs e k).elim
  · exact e
theorem ByR.bad {H : Hp} {ns : List Int} {m : Int} {p : Addr} {r : V} {xs : List V} {i : Nat} {x : V} (h : ByR H ns m (.ref p) r) (e : H p = some (.lst xs)) (hx : xs[i]? = some x) (n : ¬ WAt H ns m xs i x) : r = .non := by
  rcases h with ⟨q, ys, z, k, f, _⟩ | ⟨z, _⟩
  · cases z
    rw [e] at k
    cases k
    exact (n (f i x hx)).elim
  · exact z
theorem ByR.good {H : Hp} {ns : List Int} {m : Int} {p : Addr} {r : V} {xs : List V} (h : ByR H ns m (.ref p) r) (e : H p = some (.lst xs)) (f : ∀ i x, xs[i]? = some x → WAt H ns m xs i x) : r = .int ((xs.length : Int) + if ns = [] then 0 else 1) := by
  rcases h with ⟨q, ys, z, k, _, g⟩ | ⟨_, n⟩
  · cases z
    rw [e] at k
    cases k
    exact g
  · exact (n ⟨p, xs, rfl, e, f⟩).elim
theorem prevW_same {L : Addr → Prop} {H H' : Hp} {xs : List V} (t : I2 L H xs) (s : Same H H') : ∀ i, prevW H' xs i = prevW H xs i
  | 0 => rfl
  | i + 1 => by
    simp only [prevW]
    cases h : xs[i]? with
    | none => rfl
    | some x => simp only [(t.all x (List.mem_of_getElem? h)).pair s]
theorem WAt.same {L : Addr → Prop} {H H' : Hp} {ns : List Int} {m : Int} {xs : List V} (t : I2 L H xs) (s : Same H H') {i : Nat} {x : V} (hx : xs[i]? = some x) : WAt H' ns m xs i x ↔ WAt H ns m xs i x := by
  unfold WAt
  rw [prevW_same t s, (t.all x (List.mem_of_getElem? hx)).pair s]
theorem ByR.same {L : Addr → Prop} {H H' : Hp} {ns : List Int} {m : Int} {v r : V} (h : ByR H ns m v r) (t : T2 L H v) (s : Same H H') : ByR H' ns m v r := by
  rcases h with ⟨p, xs, e, k, f, g⟩ | ⟨e, n⟩
  · exact .inl ⟨p, xs, e, s _ _ k, fun i x hx => (WAt.same (t.items p xs e k).2 s hx).mpr (f i x hx), g⟩
  · refine .inr ⟨e, fun ⟨p, xs, e2, k, f⟩ => n ?_⟩
    subst e2
    obtain ⟨o, ho⟩ := t.kind.some
    have w := s _ _ ho
    rw [k] at w
    cases w
    exact ⟨p, xs, rfl, ho, fun i x hx => (WAt.same (t.items p xs rfl ho).2 s hx).mp (f i x hx)⟩
theorem wunN_wide {ns : List Int} {f b : Nat} : wunN ns f b ≤ b - f := by
  have h := ulen_le ((ns.drop f).take (b - f))
  rw [List.length_take] at h
  have e : wunN ns f b = ulen ((ns.drop f).take (b - f)) := rfl
  omega
/-- pairs of whole numbers, none of them there in B -/
structure Prs (B H : Hp) (ls : List Addr) : Prop where
  all : ∀ l ∈ ls, B l = none ∧ ∃ f b : Int, H l = some (.tup [.int f, .int b])
theorem Prs.nil {B H : Hp} : Prs B H [] := ⟨fun _ h => nomatch h⟩
theorem Prs.same {B H H' : Hp} {ls : List Addr} (p : Prs B H ls) (s : Same H H') : Prs B H' ls := ⟨fun l h => by
  obtain ⟨n, f, b, e⟩ := p.all l h
  exact ⟨n, f, b, s _ _ e⟩⟩
theorem Prs.step {B H H' : Hp} {a : Addr} {xs : List V} {ls : List Addr} (p : Prs B H ls) (ha : H a = some (.lst xs)) (bb : But a H H') : Prs B H' ls := ⟨fun l h => by
  obtain ⟨n, f, b, e⟩ := p.all l h
  exact ⟨n, f, b, bb _ _ (fun z => by rw [z, ha] at e; cases e) e⟩⟩
theorem Prs.snoc {B H : Hp} {ls : List Addr} {l : Addr} {f b : Int} (p : Prs B H ls) (n : B l = none) (e : H l = some (.tup [.int f, .int b])) : Prs B H (ls ++ [l]) := ⟨fun x h => by
  rcases List.mem_append.mp h with k | k
  · exact p.all x k
  · rw [List.mem_singleton.mp k]; exact ⟨n, f, b, e⟩⟩
theorem Prs.items {L : Addr → Prop} {B H : Hp} {ls : List Addr} (p : Prs B H ls) (o : Old L B) : I2 L H (ls.map V.ref) := ⟨fun x h => by
  obtain ⟨l, hl, rfl⟩ := List.mem_map.mp h
  obtain ⟨n, f, b, e⟩ := p.all l hl
  exact .tpl e (o.free n) (by simp) (Its.ints [f, b])⟩
theorem Prs.base {B C H : Hp} {ls : List Addr} (p : Prs B H ls) (s : Same C B) : Prs C H ls := ⟨fun l h => ⟨s.free (p.all l h).1, (p.all l h).2⟩⟩
theorem Prs.any {B H : Hp} {ls : List Addr} (p : Prs B H ls) : Prs (fun _ => none) H ls := ⟨fun l h => ⟨rfl, (p.all l h).2⟩⟩
theorem refs_of {H : Hp} : ∀ {ys : List V}, (∀ y ∈ ys, (pairOf H y).isSome = true) → ∃ ls : List Addr, ys = ls.map V.ref ∧ Prs (fun _ => none) H ls
  | [], _ => ⟨[], rfl, .nil⟩
  | y :: ys, h => by
    obtain ⟨ls, e, p⟩ := refs_of (ys := ys) fun z hz => h z (List.mem_cons_of_mem _ hz)
    have hy := h y List.mem_cons_self
    cases hp : pairOf H y with
    | none => rw [hp] at hy; cases hy
    | some q =>
      obtain ⟨f, b⟩ := q
      obtain ⟨l, rfl, el⟩ := pairOf_ex hp
      refine ⟨l :: ls, by rw [e]; rfl, ⟨fun x hx => ?_⟩⟩
      rcases List.mem_cons.mp hx with rfl | k
      · exact ⟨rfl, f, b, el⟩
      · exact p.all x k
theorem ByR.not {H : Hp} {ns : List Int} {m : Int} {v : V} (n : ∀ p xs, v = .ref p → H p ≠ some (.lst xs)) : ByR H ns m v .non := .inr ⟨rfl, fun ⟨p, xs, e, k, _⟩ => n p xs e k⟩
end Ur

namespace Ur
open PySem L2 PySem.Spec PyProof.Rows
open PySem.W (keyToksAll keyToks dataLt alike alikeAll rcLt_alike)
/-! ### all partings; none before the told one -/
structure Inc (p : List Int) (n : Int) : Prop where
  up : ∀ k x, p[k]? = some x → 0 ≤ stc p k ∧ stc p k < x ∧ x ≤ n
def Fit (ns : List Int) (m : Int) (p : List Int) : Prop := ∀ k x, p[k]? = some x → (wunN ns (stc p k).toNat x.toNat : Int) ≤ m
theorem stc_of {p : List Int} {k : Nat} {x : Int} (h : p[k]? = some x) : stc p (k + 1) = x := by rw [stc_s]; exact getD_of h
theorem parts_get {ns : List Int} {m : Int} {k : Nat} {y : Int} (h : (parts ns m)[k]? = some y) : (k < (cuts ns m).length ∧ y = (cuts ns m).getD k 0) ∨ (k = (cuts ns m).length ∧ y = ns.length) := by
  rw [parts_cuts] at h
  by_cases hk : k < (cuts ns m).length
  · rw [List.getElem?_append_left hk] at h
    exact .inl ⟨hk, (getD_of h).symm⟩
  · rw [List.getElem?_append_right (by omega)] at h
    by_cases z : ns.length = 0
    · rw [if_pos z] at h; cases h
    · rw [if_neg z] at h
      have h2 := (List.getElem?_eq_some_iff.mp h).1
      have h3 : [(ns.length : Int)].length = 1 := rfl
      have h4 : k = (cuts ns m).length := by omega
      subst h4
      rw [Nat.sub_self] at h
      cases h
      exact .inr ⟨rfl, rfl⟩
theorem stc_parts {ns : List Int} {m : Int} {k : Nat} (h : k ≤ (cuts ns m).length) : stc (parts ns m) k = stc (cuts ns m) k := by
  rw [parts_cuts]
  by_cases z : ns.length = 0
  · rw [if_pos z, List.append_nil]
  · rw [if_neg z]; exact stc_app h
theorem ahead {ns : List Int} {m : Int} {p : List Int} (hm : 1 ≤ m) (hi : Inc p ns.length) (hf : Fit ns m p) : ∀ k, k ≤ p.length → k ≤ (parts ns m).length → stc p k ≤ stc (parts ns m) k
  | 0, _, _ => Int.le_refl _
  | k + 1, h1, h2 => by
    have ih := ahead hm hi hf k (by omega) (by omega)
    obtain ⟨x, hx⟩ : ∃ x, p[k]? = some x := ⟨_, List.getElem?_eq_getElem (by omega)⟩
    obtain ⟨y, hy⟩ : ∃ y, (parts ns m)[k]? = some y := ⟨_, List.getElem?_eq_getElem (by omega)⟩
    rw [stc_of hx, stc_of hy]
    obtain ⟨i0, i1, i2⟩ := hi.up k x hx
    have ifit := hf k x hx
    rcases parts_get hy with ⟨hk, e⟩ | ⟨_, e⟩
    · obtain ⟨c0, c1, c2, c3, c4⟩ := cuts_ok hm hk
      rw [stc_parts (by omega)] at ih
      rw [← e] at c1 c2 c4
      by_cases hxy : x ≤ y
      · exact hxy
      · exfalso
        have a1 := wunN_monoB (ns := ns) (f := (stc (cuts ns m) k).toNat) (b := (y + 1).toNat) (k := x.toNat - (y + 1).toNat) (by omega) (by omega)
        have a2 := wunN_monoF (ns := ns) (b := x.toNat) (by omega) (k := (stc (cuts ns m) k).toNat - (stc p k).toNat) (f := (stc p k).toNat) (by omega)
        rw [show (y + 1).toNat + (x.toNat - (y + 1).toNat) = x.toNat by omega] at a1
        rw [show (stc p k).toNat + ((stc (cuts ns m) k).toNat - (stc p k).toNat) = (stc (cuts ns m) k).toNat by omega] at a2
        omega
    · rw [e]; exact i2
theorem no_fewer {ns : List Int} {m : Int} {p : List Int} (hm : 1 ≤ m) (hi : Inc p ns.length) (hf : Fit ns m p) (hl : stc p p.length = ns.length) : (parts ns m).length ≤ p.length := by
  by_cases h : p.length < (parts ns m).length
  · exfalso
    have a := ahead hm hi hf p.length (Nat.le_refl _) (by omega)
    obtain ⟨y, hy⟩ : ∃ y, (parts ns m)[p.length]? = some y := ⟨_, List.getElem?_eq_getElem h⟩
    have b := parts_ok hm hy
    omega
  · omega
theorem ahead_at {ns : List Int} {m : Int} {p : List Int} (hm : 1 ≤ m) (hi : Inc p ns.length) (hf : Fit ns m p) {k : Nat} {x y : Int} (hx : p[k]? = some x) (hy : (parts ns m)[k]? = some y) : x ≤ y := by
  have a := ahead hm hi hf (k + 1) (by have := (List.getElem?_eq_some_iff.mp hx).1; omega) (by have := (List.getElem?_eq_some_iff.mp hy).1; omega)
  rwa [stc_of hx, stc_of hy] at a
theorem parts_good {ns : List Int} {m : Int} (hm : 1 ≤ m) : Inc (parts ns m) ns.length ∧ Fit ns m (parts ns m) := ⟨⟨fun k x hx => ⟨(parts_ok hm hx).1, (parts_ok hm hx).2.1, (parts_ok hm hx).2.2.1⟩⟩, fun k x hx => (parts_ok hm hx).2.2.2⟩
/-! keys -/
def negD (p : List Int) : List PyData := p.map fun x => .int (0 - x)
def keyD (p : List Int) : PyData := .tuple [.int p.length, .list (negD p)]
theorem lex_c (a : Int) (r t : List (Int ⊕ List Nat)) : lexLt itemOrd (.inl a :: r) (.inl a :: t) = lexLt itemOrd r t := lex_self (O := itemOrd) _ r t
theorem lex_lt {a b : Int} (h : a < b) (r t : List (Int ⊕ List Nat)) : lexLt itemOrd (.inl a :: r) (.inl b :: t) = true := by
  show (decide (a < b) || _) = true
  rw [decide_eq_true h]; rfl
theorem lex_gt {a b : Int} (h : b < a) (r t : List (Int ⊕ List Nat)) : lexLt itemOrd (.inl a :: r) (.inl b :: t) = false := by
  show (decide (a < b) || (!decide (b < a) && _)) = false
  rw [decide_eq_false (by omega), decide_eq_true h]; rfl
theorem toks_neg (x : Int) (p : List Int) : keyToksAll (negD (x :: p)) = .inl 1 :: .inl (0 - x) :: keyToksAll (negD p) := rfl
theorem lexNeg : ∀ (qs ps : List Int) (r t : List (Int ⊕ List Nat)), qs.length = ps.length → (∀ (k : Nat) x y, ps[k]? = some x → qs[k]? = some y → x ≤ y) → qs ≠ ps → lexLt itemOrd (keyToksAll (negD qs) ++ r) (keyToksAll (negD ps) ++ t) = true
  | [], [], _, _, _, _, n => (n rfl).elim
  | [], _ :: _, _, _, h, _, _ => by cases h
  | _ :: _, [], _, _, h, _, _ => by cases h
  | q :: qs, p :: ps, r, t, hl, h, n => by
    have hpq := h 0 p q rfl rfl
    rw [toks_neg, toks_neg]
    show lexLt itemOrd (.inl 1 :: .inl (0 - q) :: (keyToksAll (negD qs) ++ r)) (.inl 1 :: .inl (0 - p) :: (keyToksAll (negD ps) ++ t)) = true
    rw [lex_c]
    by_cases e : p = q
    · subst e
      rw [lex_c]
      exact lexNeg qs ps r t (by simpa using hl) (fun k x y h1 h2 => h (k + 1) x y h1 h2) fun z => n (by rw [z])
    · exact lex_lt (by omega) _ _
theorem lexNegF : ∀ (qs ps : List Int) (r : List (Int ⊕ List Nat)), qs.length = ps.length → (∀ (k : Nat) x y, ps[k]? = some x → qs[k]? = some y → x ≤ y) → lexLt itemOrd r r = false → lexLt itemOrd (keyToksAll (negD ps) ++ r) (keyToksAll (negD qs) ++ r) = false
  | [], [], _, _, _, hr => by
    show lexLt itemOrd (.inl 0 :: _) (.inl 0 :: _) = false
    rw [lex_c]; exact hr
  | [], _ :: _, _, h, _, _ => by cases h
  | _ :: _, [], _, h, _, _ => by cases h
  | q :: qs, p :: ps, r, hl, h, hr => by
    have hpq := h 0 p q rfl rfl
    rw [toks_neg, toks_neg]
    show lexLt itemOrd (.inl 1 :: .inl (0 - p) :: (keyToksAll (negD ps) ++ r)) (.inl 1 :: .inl (0 - q) :: (keyToksAll (negD qs) ++ r)) = false
    rw [lex_c]
    by_cases e : p = q
    · subst e
      rw [lex_c]
      exact lexNegF qs ps r (by simpa using hl) (fun k x y h1 h2 => h (k + 1) x y h1 h2) hr
    · exact lex_gt (by omega) _ _
theorem key_lt (a b : List Int) : dataLt (keyD a) (keyD b) = lexLt itemOrd (.inl (a.length : Int) :: .inl 1 :: (keyToksAll (negD a) ++ [.inl 0])) (.inl (b.length : Int) :: .inl 1 :: (keyToksAll (negD b) ++ [.inl 0])) := by
  show lexLt itemOrd (.inl 1 :: .inl (a.length : Int) :: .inl 1 :: (keyToksAll (negD a) ++ [.inl 0])) (.inl 1 :: .inl (b.length : Int) :: .inl 1 :: (keyToksAll (negD b) ++ [.inl 0])) = _
  rw [lex_c]
theorem ltT {ns : List Int} {m : Int} {p : List Int} (hm : 1 ≤ m) (hi : Inc p ns.length) (hf : Fit ns m p) (hl : stc p p.length = ns.length) (n : p ≠ parts ns m) : dataLt (keyD (parts ns m)) (keyD p) = true := by
  have h1 := no_fewer hm hi hf hl
  rw [key_lt]
  by_cases e : (parts ns m).length = p.length
  · rw [e, lex_c, lex_c]
    exact lexNeg _ _ _ _ e (fun k x y hx hy => ahead_at hm hi hf hx hy) (Ne.symm n)
  · exact lex_lt (by omega) _ _
theorem ltF {ns : List Int} {m : Int} {p : List Int} (hm : 1 ≤ m) (hi : Inc p ns.length) (hf : Fit ns m p) (hl : stc p p.length = ns.length) : dataLt (keyD p) (keyD (parts ns m)) = false := by
  have h1 := no_fewer hm hi hf hl
  rw [key_lt]
  by_cases e : (parts ns m).length = p.length
  · rw [e, lex_c, lex_c]
    exact lexNegF _ _ _ e (fun k x y hx hy => ahead_at hm hi hf hx hy) (by rw [lex_c]; rfl)
  · exact lex_gt (by omega) _ _
theorem alike_neg : ∀ p q : List Int, alikeAll (negD p) (negD q) = true
  | [], _ => by cases ‹List Int› <;> rfl
  | _ :: _, [] => rfl
  | x :: p, y :: q => by
    show (alike (.int (0 - x)) (.int (0 - y)) && alikeAll (negD p) (negD q)) = true
    rw [alike_neg p q]; rfl
theorem alike_key (p q : List Int) : alike (keyD p) (keyD q) = true := by
  show (true && (alikeAll (negD p) (negD q) && true)) = true
  rw [alike_neg]; rfl
/-! all of them -/
def subsP : Nat → List (List Int)
  | 0 => [[]]
  | k + 1 => subsP k ++ (subsP k).map (· ++ [((k + 1 : Nat) : Int)])
def allP (n : Nat) : List (List Int) := if n = 0 then [[]] else (subsP (n - 1)).map (· ++ [(n : Int)])
theorem Inc.snoc {p : List Int} {k : Nat} {x : Int} (h : Inc p k) (hx : (k : Int) < x) : Inc (p ++ [x]) x ∧ stc (p ++ [x]) (p ++ [x]).length = x := by
  have hs : 0 ≤ stc p p.length ∧ stc p p.length ≤ k := by
    cases hp : p.length with
    | zero => rw [stc_0]; omega
    | succ j =>
      obtain ⟨y, hy⟩ : ∃ y, p[j]? = some y := ⟨_, List.getElem?_eq_getElem (by omega)⟩
      have := h.up j y hy
      rw [stc_of hy]
      omega
  constructor
  · refine ⟨fun j y hy => ?_⟩
    by_cases hj : j < p.length
    · rw [List.getElem?_append_left hj] at hy
      rw [stc_app (by omega)]
      have := h.up j y hy
      omega
    · have h2 := (List.getElem?_eq_some_iff.mp hy).1
      rw [List.length_append] at h2
      have h3 : [x].length = 1 := rfl
      have h4 : j = p.length := by omega
      subst h4
      rw [List.getElem?_append_right (Nat.le_refl _), Nat.sub_self] at hy
      cases hy
      rw [stc_app (Nat.le_refl _)]
      omega
  · rw [List.length_append]
    show stc (p ++ [x]) (p.length + 1) = x
    rw [stc_s]
    exact getD_app2
theorem subs_inc : ∀ {k : Nat} {p : List Int}, p ∈ subsP k → Inc p k
  | 0, p, h => by
    rw [List.mem_singleton.mp h]
    exact ⟨fun k x hx => by cases hx⟩
  | k + 1, p, h => by
    rcases List.mem_append.mp h with h | h
    · have := subs_inc h
      exact ⟨fun j x hx => by have := this.up j x hx; omega⟩
    · obtain ⟨q, hq, rfl⟩ := List.mem_map.mp h
      exact ((subs_inc hq).snoc (x := ((k + 1 : Nat) : Int)) (by omega)).1
theorem subs_mem : ∀ {k : Nat} {p : List Int}, Inc p k → p ∈ subsP k
  | 0, p, h => by
    cases p with
    | nil => exact List.mem_singleton.mpr rfl
    | cons x p =>
      have := h.up 0 x rfl
      omega
  | k + 1, p, h => by
    by_cases hp : p = []
    · subst hp
      exact List.mem_append_left _ (subs_mem ⟨fun j x hx => by cases hx⟩)
    obtain ⟨q, x, rfl⟩ : ∃ q x, p = q ++ [x] := ⟨p.dropLast, p.getLast hp, (List.dropLast_concat_getLast hp).symm⟩
    have hx := h.up q.length x (by rw [List.getElem?_append_right (Nat.le_refl _), Nat.sub_self]; rfl)
    rw [stc_app (Nat.le_refl _)] at hx
    have hq : ∀ j y, q[j]? = some y → 0 ≤ stc q j ∧ stc q j < y := fun j y hy => by
      have hj := (List.getElem?_eq_some_iff.mp hy).1
      have := h.up j y (by rw [List.getElem?_append_left hj]; exact hy)
      rw [stc_app (by omega)] at this
      exact ⟨this.1, this.2.1⟩
    have mono : ∀ d j, j + d = q.length → stc q j ≤ stc q q.length := by
      intro d
      induction d with
      | zero => intro j hj; rw [show j = q.length by omega]; exact Int.le_refl _
      | succ d ih =>
        intro j hj
        obtain ⟨y, hy⟩ : ∃ y, q[j]? = some y := ⟨_, List.getElem?_eq_getElem (by omega)⟩
        have a := (hq j y hy).2
        have b := ih (j + 1) (by omega)
        rw [stc_of hy] at b
        omega
    have hinc : Inc q k := ⟨fun j y hy => by
      have hj := (List.getElem?_eq_some_iff.mp hy).1
      have a := hq j y hy
      have b := mono (q.length - (j + 1)) (j + 1) (by omega)
      rw [stc_of hy] at b
      omega⟩
    by_cases e : x = ((k + 1 : Nat) : Int)
    · subst e
      exact List.mem_append_right _ (List.mem_map.mpr ⟨q, subs_mem hinc, rfl⟩)
    · refine List.mem_append_left _ (subs_mem ⟨fun j y hy => ?_⟩)
      have a := h.up j y hy
      by_cases hj : j < q.length
      · rw [List.getElem?_append_left hj] at hy
        have := hinc.up j y hy
        omega
      · have h2 := (List.getElem?_eq_some_iff.mp hy).1
        rw [List.length_append] at h2
        have h3 : [x].length = 1 := rfl
        have h4 : j = q.length := by omega
        subst h4
        rw [List.getElem?_append_right (Nat.le_refl _), Nat.sub_self] at hy
        cases hy
        omega
theorem all_ok {n : Nat} {p : List Int} (h : p ∈ allP n) : Inc p n ∧ stc p p.length = n := by
  unfold allP at h
  by_cases z : n = 0
  · rw [if_pos z] at h
    rw [List.mem_singleton.mp h, z]
    exact ⟨⟨fun k x hx => by cases hx⟩, rfl⟩
  · rw [if_neg z] at h
    obtain ⟨q, hq, rfl⟩ := List.mem_map.mp h
    exact (subs_inc hq).snoc (by omega)
theorem parts_mem {ns : List Int} {m : Int} (hm : 1 ≤ m) : parts ns m ∈ allP ns.length := by
  unfold allP
  by_cases z : ns.length = 0
  · rw [if_pos z, parts_nil z]; exact List.mem_singleton.mpr rfl
  · rw [if_neg z, parts_cuts, if_neg z]
    refine List.mem_map.mpr ⟨cuts ns m, subs_mem ⟨fun k x hx => ?_⟩, rfl⟩
    obtain ⟨c0, c1, c2, _⟩ := cuts_ok hm (List.getElem?_eq_some_iff.mp hx).1
    rw [getD_of hx] at c1 c2
    exact ⟨c0, c1, by omega⟩
theorem subs_len : ∀ k, (subsP k).length = 2 ^ k
  | 0 => rfl
  | k + 1 => by
    show (subsP k ++ (subsP k).map _).length = _
    rw [List.length_append, List.length_map, subs_len k, Nat.pow_succ]
    omega
theorem prev_stc {p : List Int} : ∀ k, k ≤ p.length → prevI (p.map V.int) k = stc p k
  | 0, _ => rfl
  | k + 1, h => by
    obtain ⟨x, hx⟩ : ∃ x, p[k]? = some x := ⟨_, List.getElem?_eq_getElem (by omega)⟩
    rw [prevI_s (iv_get' hx), stc_of hx]
noncomputable instance fitDec (ns : List Int) (m : Int) (p : List Int) : Decidable (Fit ns m p) := Classical.propDecidable _
theorem part_of {H : Hp} {ns : List Int} {m : Int} {q : Addr} {p : List Int} (e : H q = some (.lst (p.map V.int))) (hi : Inc p ns.length) (hl : stc p p.length = ns.length) : PartB H ns m (.ref q) (decide (Fit ns m p)) := by
  refine ⟨fun h => ⟨q, _, rfl, e, fun k x hx => ?_, ?_⟩, fun ⟨q', xs, z, e2, f, _⟩ => decide_eq_true fun k x hx => ?_⟩
  · obtain ⟨y, hy, rfl⟩ := iv_get hx
    have hk := (List.getElem?_eq_some_iff.mp hy).1
    obtain ⟨a, b, c⟩ := hi.up k y hy
    refine ⟨y, rfl, ?_, c, ?_⟩
    · rw [prev_stc k (by omega)]; exact b
    · rw [prev_stc k (by omega)]; exact of_decide_eq_true h k y hy
  · rw [List.length_map, prev_stc _ (Nat.le_refl _)]; exact hl
  · cases z
    rw [e] at e2
    cases e2
    have hk := (List.getElem?_eq_some_iff.mp hx).1
    obtain ⟨y, hy, _, _, d⟩ := f k _ (iv_get' hx)
    cases hy
    rwa [prev_stc k (by omega)] at d
theorem inc_len {p : List Int} {n : Nat} (h : Inc p n) : p.length ≤ n := by
  have key : ∀ k, k ≤ p.length → (k : Int) ≤ stc p k := by
    intro k
    induction k with
    | zero => intro _; exact Int.le_refl _
    | succ k ih =>
      intro hk
      obtain ⟨x, hx⟩ : ∃ x, p[k]? = some x := ⟨_, List.getElem?_eq_getElem (by omega)⟩
      have a := (h.up k x hx).2.1
      have b := ih (by omega)
      rw [stc_of hx]
      omega
  cases hp : p.length with
  | zero => omega
  | succ j =>
    obtain ⟨x, hx⟩ : ∃ x, p[j]? = some x := ⟨_, List.getElem?_eq_getElem (by omega)⟩
    have a := key (j + 1) (by omega)
    have b := (h.up j x hx).2.2
    rw [stc_of hx] at a
    omega
end Ur

namespace Ur
open PySem L2 PySem.Spec PyProof.Rows
open PySem.W (keyToksAll keyToks dataLt alike alikeAll rcLt_alike)
/-- lists of ints, one for each -/
abbrev PsF (H : Hp) (ls : List Addr) (ps : List (List Int)) : Prop := RowsF H ls ps.length (fun k => ps.getD k [])
theorem PsF.nil {H : Hp} : PsF H [] [] := ⟨rfl, fun k p h => nomatch h⟩
theorem PsF.app {H : Hp} {ls ms : List Addr} {ps qs : List (List Int)} (a : PsF H ls ps) (b : PsF H ms qs) : PsF H (ls ++ ms) (ps ++ qs) := by
  have ha := a.len
  have hb := b.len
  refine ⟨by rw [List.length_append, List.length_append, ha, hb], fun k p h => ?_⟩
  by_cases hk : k < ls.length
  · rw [List.getElem?_append_left hk] at h
    have := a.row k p h
    rw [List.getD_eq_getElem?_getD, List.getElem?_append_left (by omega), ← List.getD_eq_getElem?_getD]
    exact this
  · rw [List.getElem?_append_right (by omega)] at h
    have := b.row _ p h
    rw [List.getD_eq_getElem?_getD, List.getElem?_append_right (by omega), ← ha, ← List.getD_eq_getElem?_getD]
    exact this
theorem PsF.one {H : Hp} {q : Addr} {p : List Int} (e : H q = some (.lst (p.map V.int))) : PsF H [q] [p] := ⟨rfl, fun k x h => by
  cases k with
  | zero => cases h; exact e
  | succ k => cases h⟩
theorem PsF.get {H : Hp} {ls : List Addr} {ps : List (List Int)} (a : PsF H ls ps) {k : Nat} {q : Addr} (h : ls[k]? = some q) : ∃ p, ps[k]? = some p ∧ H q = some (.lst (p.map V.int)) := by
  have hk := (List.getElem?_eq_some_iff.mp h).1
  have hl := a.len
  have hp : ps[k]? = some ps[k] := List.getElem?_eq_getElem (by omega)
  refine ⟨_, hp, ?_⟩
  have := a.row k q h
  rwa [List.getD_eq_getElem?_getD, hp] at this
section
variable {K : PySem.W.Frag} {a b : Addr} {σ : L2.St} {H1 : Hp} {Dl : Addr} {te : TE} {tt : TT} {vs : List Nat} {Qd : Hp → Prop}
/-- [e for some in a list of lists of ints], each e a new list of ints -/
theorem lc_psL {j : Nat} {ls : List Addr} {ps : List (List Int)} (g : List Int → List Int) (hn : ps.length ≤ 1000000) (ha : SqL K H1 a (ls.map V.ref)) (r : PsF H1 ls ps) (hD : H1 Dl = none) (hw : ∀ x, wipe ((wipe σ vs).set j (some x)) vs = wipe σ vs)
    (he : ∀ (p : Addr) (q : List Int) H', q ∈ ps → Same H1 H' → H' p = some (.lst (q.map V.int)) → ∀ Q' : VK, (∀ y H4, Same H' H4 → H4 y = some (.lst ((g q).map V.int)) → H' y = none → Q' (.ref y) H4) → te ((wipe σ vs).set j (some (.ref p))) H' Q')
    (hd : ∀ H' qs, Same H1 H' → H' Dl = some (.lst (qs.map V.ref)) → PsF H' qs (ps.map g) → Qd H') :
    ∃ W : Nat → Nat → Hp → Prop, (∃ m, W 0 m (upd H1 Dl (.lst []))) ∧ ∀ i m H, W i m H →
      ((Itl K a).stop i H ∧ Qd H) ∨ ((Itl K a).go i H ∧ ∃ Nx : Hp → Prop, (∀ H', Nx H' → ∃ m', m' < m ∧ W (i + 1) m' H') ∧ ∀ x H', (Itl K a).yld i H x H' → gName j x (wipe σ vs) H' fun σ2 H2 => wipe σ2 vs = wipe σ vs ∧ tYes σ2 H2 fun b H3 =>
        if b = true then te σ2 H3 fun y H4 => ∃ acc, H4 Dl = some (.lst acc) ∧ acc.length < sizeLine ∧ Nx (upd H4 Dl (.lst (acc ++ [y]))) else Nx H3) := by
  refine lc_list (K := K) (a := a) (xs := ls.map V.ref) (fun i H' => ∃ qs : List Addr, Same H1 H' ∧ H' Dl = some (.lst (qs.map V.ref)) ∧ PsF H' qs ((ps.take i).map g) ∧ ∀ q ∈ qs, q ≠ Dl) ⟨[], same_new hD, upd_same, by rw [List.take_zero]; exact PsF.nil, fun _ h => nomatch h⟩ (fun i H' _ z => by obtain ⟨qs, s, _⟩ := z; exact s.seq ha) (fun i x H' hx z => ?_) (fun H' z => ?_)
  · obtain ⟨qs, s, eD, rq, off⟩ := z
    rw [List.getElem?_map] at hx
    obtain ⟨p, hp, rfl⟩ := Option.map_eq_some_iff.mp hx
    obtain ⟨q, hq, eq⟩ := r.get hp
    have hi := (List.getElem?_eq_some_iff.mp hq).1
    refine ⟨hw _, tyes_ok ?_⟩
    refine he p q H' (List.mem_of_getElem? hq) s (s _ _ eq) _ fun y H4 s4 ey ny => ?_
    have hrl := rq.len
    rw [List.length_map, List.length_take] at hrl
    have hyD : y ≠ Dl := fun e => by rw [e, eD] at ny; cases ny
    have off2 : ∀ z ∈ qs ++ [y], z ≠ Dl := fun z hz => by
      rcases List.mem_append.mp hz with h | h
      · exact off z h
      · rw [List.mem_singleton.mp h]; exact hyD
    refine ⟨_, s4 _ _ eD, szl (by rw [List.length_map]; omega), qs ++ [y], same_upd' hD (s.trans s4), by rw [upd_same, List.map_append]; rfl, ?_, off2⟩
    have r4 : PsF H4 (qs ++ [y]) ((ps.take i).map g ++ [g q]) := PsF.app (RowsF.same rq s4) (PsF.one ey)
    rw [show ps.take (i + 1) = ps.take i ++ [q] by rw [List.take_add_one, hq]; rfl, List.map_append]
    exact RowsF.upd r4 ⟨off2⟩
  · obtain ⟨qs, s, eD, rq, _⟩ := z
    have hl := r.len
    rw [List.length_map, hl, List.take_length] at rq
    exact hd H' qs s eD rq
/-- [1 for x, y in zip(two lists of ints) if ..] -/
theorem lc_zip1 {j l : Nat} {xs ys : List Int} {n : Nat} (hn : n = min xs.length ys.length) (t : Nat → Bool) (hsz : n ≤ 1000000) (ha : SqL K H1 a (xs.map V.int)) (hb : SqL K H1 b (ys.map V.int)) (hD : H1 Dl = none)
    (hw : ∀ x y, wipe (((wipe σ vs).set j (some x)).set l (some y)) vs = wipe σ vs)
    (ht : ∀ (k : Nat) x y H', xs[k]? = some x → ys[k]? = some y → Same H1 H' → ∀ Q' : Bool → Hp → Prop, (∀ H4, Same H' H4 → Q' (t k) H4) → tt (((wipe σ vs).set j (some (.int x))).set l (some (.int y))) H' Q')
    (he : ∀ s H' (Q' : VK), Q' (.int 1) H' → te s H' Q')
    (hd : ∀ H', Same H1 H' → H' Dl = some (.lst ((List.replicate ((List.range n).filter t).length (1 : Int)).map V.int)) → Qd H') :
    ∃ W : Nat → Nat → Hp → Prop, (∃ m, W 0 m (upd H1 Dl (.lst []))) ∧ ∀ i m H, W i m H →
      ((Itz K a b).stop i H ∧ Qd H) ∨ ((Itz K a b).go i H ∧ ∃ Nx : Hp → Prop, (∀ H', Nx H' → ∃ m', m' < m ∧ W (i + 1) m' H') ∧ ∀ x H', (Itz K a b).yld i H x H' → gTup K 2 (gCons (gName j) (gCons (gName l) gNil)) x (wipe σ vs) H' fun σ2 H2 => wipe σ2 vs = wipe σ vs ∧ tt σ2 H2 fun b H3 =>
        if b = true then te σ2 H3 fun y H4 => ∃ acc, H4 Dl = some (.lst acc) ∧ acc.length < sizeLine ∧ Nx (upd H4 Dl (.lst (acc ++ [y]))) else Nx H3) := by
  refine lc_it (walk_zip (K := K) (a := a) (b := b) (xs := xs.map V.int) (ys := ys.map V.int) (n := n) (by rw [List.length_map, List.length_map]; exact hn)) (fun i H' => Same H1 H' ∧ H' Dl = some (.lst ((List.replicate ((List.range i).filter t).length (1 : Int)).map V.int))) ⟨same_new hD, upd_same⟩ (fun i H' _ z => ⟨z.1.seq ha, z.1.seq hb⟩) (fun i v H' H'' hi z y => ?_) (fun H' z => hd H' z.1 z.2)
  obtain ⟨s, eD⟩ := z
  obtain ⟨T, x, z, rfl, hT, rfl, hx, hz⟩ := y
  obtain ⟨x', hx', rfl⟩ := iv_get hx
  obtain ⟨z', hz', rfl⟩ := iv_get hz
  have sT : Same H' (upd H' T (.tup [V.int x', V.int z'])) := same_new hT
  have hTD : Dl ≠ T := fun e => by rw [← e, eD] at hT; cases hT
  refine ⟨T, [V.int x', V.int z'], rfl, SqT.of upd_same, rfl, _, _, rfl, _, _, rfl, rfl, hw _ _, ?_⟩
  refine ht i x' z' _ hx' hz' (s.trans sT) _ fun H3 s3 => ?_
  have eD3 := s3 _ _ (sT _ _ eD)
  cases hb : t i with
  | true =>
    refine (if_pos rfl).mpr (he _ _ _ ⟨_, eD3, szl ?_, same_upd' hD ((s.trans sT).trans s3), ?_⟩)
    · have hfl := List.length_filter_le t (List.range i)
      rw [List.length_range] at hfl
      rw [List.length_map, List.length_replicate]
      omega
    · rw [upd_same, List.range_succ, List.filter_append, List.length_append, List.filter_cons, if_pos hb, List.filter_nil]
      show some (HO.lst _) = some (.lst ((List.replicate (((List.range i).filter t).length + 1) (1 : Int)).map V.int))
      rw [List.replicate_succ', List.map_append]
      rfl
  | false =>
    refine (if_neg Bool.false_ne_true).mpr ⟨(s.trans sT).trans s3, ?_⟩
    rw [eD3, List.range_succ, List.filter_append, List.filter_cons, if_neg (by rw [hb]; exact Bool.false_ne_true), List.filter_nil, List.append_nil]
end
/-! ### (n, a list of ints) < another -/
structure LD (K : PySem.W.Frag) (x y : V) (H : Hp) (Q : VK) : Prop where
  h : ∃ d e, Dp K H x d ∧ Dp K H y e ∧ alike d e = true ∧ d ≠ .none ∧ min d.depth e.depth ≤ 64 ∧ Q (.bl (dataLt d e)) H
def rLtD (K : PySem.W.Frag) : R2 := fun x y H Q => LD K x y H Q
theorem op_ltD {X : Cx} {K : PySem.W.Frag} (hK : X.K = K) (hu : X.A.units + 64 < cLine) : OpR X (compareOp .Lt) (rLtD K) := by
  subst hK
  intro pins s σ H x y v u Q I rx ry h
  obtain ⟨d, e, hd, he, al, nn, dp, q⟩ := h.h
  obtain ⟨as, r1⟩ := Dp.reads I d x v hd rx
  obtain ⟨bs, r2⟩ := Dp.reads I e y u he ry
  exact rcLt_alike d e X.A s v u as bs r1 r2 al nn (by omega) _ _ _ _ ⟨.bl _, H, I, rfl, q⟩
/-- the key of a parting: (how many, the places turned) -/
structure KeyF (H : Hp) (v : V) (p : List Int) : Prop where
  ex : ∃ q l, v = .ref q ∧ H q = some (.tup [.int (p.length : Nat), .ref l]) ∧ H l = some (.lst ((p.map fun x => 0 - x).map V.int))
theorem KeyF.same {H H' : Hp} {v : V} {p : List Int} (k : KeyF H v p) (s : Same H H') : KeyF H' v p := by
  obtain ⟨q, l, e, h1, h2⟩ := k.ex
  exact ⟨q, l, e, s _ _ h1, s _ _ h2⟩
theorem negD_is (p : List Int) : negD p = (p.map fun x => 0 - x).map PyData.int := by unfold negD; rw [List.map_map]; rfl
theorem KeyF.dp {K : PySem.W.Frag} {H : Hp} {v : V} {p : List Int} (k : KeyF H v p) : Dp K H v (keyD p) := by
  obtain ⟨q, l, rfl, h1, h2⟩ := k.ex
  refine .tup (SqT.of h1) (.cons (.int _) (.cons ?_ .nil))
  rw [negD_is]
  exact dp_ints (SqL.of h2)
theorem depth_key (p : List Int) : (keyD p).depth ≤ 3 := by
  unfold keyD
  have h := depthAll_of (m := 2) [.int (p.length : Int), .list (negD p)] fun d hd => by
    rcases List.mem_cons.mp hd with rfl | hd
    · rw [PyData.depth]; omega
    · rw [List.mem_singleton.mp hd, negD_is]; exact depth_ints _
  rw [PyData.depth]
  omega
theorem lt_key {K : PySem.W.Frag} {H : Hp} {v w : V} {p b : List Int} {Q : VK} (h1 : KeyF H v p) (h2 : KeyF H w b) (q : Q (.bl (dataLt (keyD p) (keyD b))) H) : rLtD K v w H Q :=
  ⟨_, _, h1.dp, h2.dp, alike_key p b, (fun z => nomatch z), by have := depth_key p; omega, q⟩
theorem eqv_key (p : List Int) : PyData.eqv (keyD p) (keyD p) = true := by
  show PyData.eqvAll [.int (p.length : Int), .list (negD p)] [.int (p.length : Int), .list (negD p)] = true
  refine eqvAll_refl _ fun d hd => ?_
  rcases List.mem_cons.mp hd with rfl | hd
  · show ((p.length : Int) == (p.length : Int)) = true
    exact beq_self_eq_true _
  · rw [List.mem_singleton.mp hd, negD_is, eqv_ints]; exact decide_eq_true rfl
theorem shaped_key (p : List Int) : SeqAt.shaped (keyD p) = true := by
  refine shaped_of (canLayAll_of _ fun d hd => ?_) (Nat.le_trans (depth_key p) (by decide))
  rcases List.mem_cons.mp hd with rfl | hd
  · rfl
  · rw [List.mem_singleton.mp hd, negD_is]; exact canLayAll_ints _
theorem ne_key {K : PySem.W.Frag} {H : Hp} {v w : V} {p : List Int} {Q : VK} (h1 : KeyF H v p) (h2 : KeyF H w p) (q : Q (.bl false) H) : rNeD K v w H Q :=
  ⟨_, _, h1.dp, h2.dp, shaped_key p, shaped_key p, by rw [eqv_key]; exact q⟩
/-- the best so far -/
def BestK (H : Hp) (ns : List Int) (m : Int) (v : V) (ps : List (List Int)) : Prop := (v = .non ∧ ∀ p ∈ ps, ¬ Fit ns m p) ∨ ∃ b, KeyF H v b ∧ Inc b ns.length ∧ stc b b.length = ns.length ∧ Fit ns m b ∧ (parts ns m ∈ ps → b = parts ns m)
theorem BestK.same {H H' : Hp} {ns : List Int} {m : Int} {v : V} {ps : List (List Int)} (b : BestK H ns m v ps) (s : Same H H') : BestK H' ns m v ps := by
  rcases b with b | ⟨b, k, r⟩
  · exact .inl b
  · exact .inr ⟨b, k.same s, r⟩
theorem BestK.no {H : Hp} {ns : List Int} {m : Int} {v : V} {ps : List (List Int)} {p : List Int} (hm : 1 ≤ m) (b : BestK H ns m v ps) (h : ¬ Fit ns m p) : BestK H ns m v (ps ++ [p]) := by
  rcases b with ⟨e, f⟩ | ⟨b, k, i, l, f, g⟩
  · exact .inl ⟨e, fun x hx => (List.mem_append.mp hx).elim (f x) fun hx => by rw [List.mem_singleton.mp hx]; exact h⟩
  · refine .inr ⟨b, k, i, l, f, fun hx => (List.mem_append.mp hx).elim g fun hx => ?_⟩
    exact (h (by rw [← List.mem_singleton.mp hx]; exact (parts_good hm).2)).elim
theorem BestK.new {H : Hp} {ns : List Int} {m : Int} {v w : V} {ps : List (List Int)} {p : List Int} (hm : 1 ≤ m) (b : BestK H ns m v ps) (hv : v = .non ∨ ∃ c, KeyF H v c ∧ dataLt (keyD p) (keyD c) = true) (hk : KeyF H w p) (i : Inc p ns.length) (l : stc p p.length = ns.length) (f : Fit ns m p) : BestK H ns m w (ps ++ [p]) := by
  refine .inr ⟨p, hk, i, l, f, fun hx => (List.mem_append.mp hx).elim (fun hx => ?_) fun hx => (List.mem_singleton.mp hx).symm⟩
  rcases b with ⟨e, g⟩ | ⟨b, k, _, _, _, g⟩
  · exact (g _ hx (parts_good hm).2).elim
  · exfalso
    have hb := g hx
    subst hb
    rcases hv with e | ⟨c, kc, hc⟩
    · obtain ⟨q, _, e2, _⟩ := k.ex
      rw [e] at e2; cases e2
    · have : c = parts ns m := by
        obtain ⟨q, l1, e1, a1, b1⟩ := k.ex
        obtain ⟨q', l2, e2, a2, b2⟩ := kc.ex
        rw [e1] at e2
        cases e2
        rw [a1] at a2
        injection a2 with a2
        injection a2 with a2
        have hl : l1 = l2 := by
          have := (List.cons.inj (List.cons.inj a2).2).1
          injection this
        subst hl
        rw [b1] at b2
        injection b2 with b2
        injection b2 with b2
        have h3 := (List.map_inj_right (fun _ _ z => by injection z)).mp b2
        exact ((List.map_inj_right (fun x y z => by omega)).mp h3).symm
      rw [this, ltF hm i f l] at hc
      cases hc
theorem BestK.old {H : Hp} {ns : List Int} {m : Int} {v : V} {ps : List (List Int)} {p c : List Int} (hm : 1 ≤ m) (hc : KeyF H v c) (ic : Inc c ns.length) (lc : stc c c.length = ns.length) (fc : Fit ns m c) (g : parts ns m ∈ ps → c = parts ns m) (hlt : dataLt (keyD p) (keyD c) = false) : BestK H ns m v (ps ++ [p]) := by
  refine .inr ⟨c, hc, ic, lc, fc, fun hx => (List.mem_append.mp hx).elim g fun hx => ?_⟩
  have e := List.mem_singleton.mp hx
  subst e
  by_cases z : c = parts ns m
  · exact z
  · rw [ltT hm ic fc lc z] at hlt
    cases hlt
/-- the told paper -/
theorem paper_by {H : Hp} {ns : List Int} {m : Int} {p : Addr} {ls : List Addr} (hm : 1 ≤ m) (hl : ns.length ≤ 1000) (e : H p = some (.lst (ls.map V.ref))) (r : PairsF H ls (paperK (cuts ns m) (cuts ns m).length)) : T2 Bar0 H (.ref p) ∧ ByR H ns m (.ref p) (.int ((parts ns m).length : Nat)) := by
  have hll := r.len
  rw [paperK_len] at hll
  have hcl := cuts_len ns m
  have at_ : ∀ k l, ls[k]? = some l → k < (cuts ns m).length ∧ H l = some (.tup [.int (stc (cuts ns m) k), .int ((cuts ns m).getD k 0 + 1)]) := fun k l h => by
    have hk := (List.getElem?_eq_some_iff.mp h).1
    have h2 := r.row k l h
    rw [paperK_get (by omega)] at h2
    exact ⟨by omega, h2⟩
  constructor
  · refine ⟨.lst e, fun _ z => z.elim, fun q xs z h => ?_⟩
    cases z
    rw [e] at h
    cases h
    refine ⟨by rw [List.length_map]; omega, ⟨fun x hx => ?_⟩⟩
    obtain ⟨l, hm2, rfl⟩ := List.mem_map.mp hx
    obtain ⟨k, hk⟩ := List.mem_iff_getElem?.mp hm2
    exact K2.tpl (at_ k l hk).2 (fun _ z => z.elim) (by simp) (Its.ints [_, _])
  · refine .inl ⟨p, _, rfl, e, fun k x hx => ?_, ?_⟩
    · rw [List.getElem?_map] at hx
      obtain ⟨l, hl2, rfl⟩ := Option.map_eq_some_iff.mp hx
      obtain ⟨hk, el⟩ := at_ k l hl2
      obtain ⟨c0, c1, c2, c3, c4⟩ := cuts_ok hm hk
      refine ⟨_, _, pairOf_is el, ?_, c0, by omega, by omega, by omega⟩
      have hp : prevW H (ls.map V.ref) k = stc (cuts ns m) k := by
        cases k with
        | zero => rfl
        | succ j =>
          obtain ⟨l', hl'⟩ : ∃ l', ls[j]? = some l' := ⟨_, List.getElem?_eq_getElem (by omega)⟩
          rw [prevW_s (x := .ref l') (by rw [List.getElem?_map, hl']; rfl) (pairOf_is (at_ j l' hl').2), stc_s]
          omega
      rw [hp]
      exact Int.le_refl _
    · have hpl := parts_length ns m
      rw [List.length_map, hll, hpl]
      by_cases z : ns = []
      · subst z; rfl
      · rw [if_neg z, if_neg (fun h => z (List.eq_nil_of_length_eq_zero h))]
end Ur

namespace Ur
open PySem L2 PySem.Spec PyProof.Rows
/-! ### many rows made ready -/
/-- what one of four questions is answered -/
def AnsR (H : Hp) (v : V) (ns : List Int) (w f b m : Int) : Prop :=
  (w = 0 ∧ v = .int (wun ns f b : Nat)) ∨ (w = 1 ∧ ∃ q, v = .ref q ∧ H q = some (.lst ((firP ns f b).map V.int))) ∨ (w = 2 ∧ v = optV (endAt ns f.toNat m)) ∨ (w = 3 ∧ v = optV (begAt ns b.toNat m))
theorem AnsR.same {H H' : Hp} {v : V} {ns : List Int} {w f b m : Int} (a : AnsR H v ns w f b m) (s : Same H H') : AnsR H' v ns w f b m := by
  rcases a with h | ⟨h, q, e, k⟩ | h | h
  · exact .inl h
  · exact .inr (.inl ⟨h, q, e, s _ _ k⟩)
  · exact .inr (.inr (.inl h))
  · exact .inr (.inr (.inr h))
theorem ne_optV {K : PySem.W.Frag} {H : Hp} (o : Option Nat) {Q : VK} (q : Q (.bl false) H) : rNeD K (optV o) (optV o) H Q := by
  cases o with
  | none => exact ⟨.none, .none, .non, .non, by decide, by decide, q⟩
  | some n =>
    refine ⟨.int n, .int n, .int _, .int _, rfl, rfl, ?_⟩
    rw [show PyData.eqv (.int (n : Int)) (.int (n : Int)) = true from beq_self_eq_true _]
    exact q
theorem AnsR.ne {K : PySem.W.Frag} {H : Hp} {v u : V} {ns : List Int} {w f b m : Int} {Q : VK} (a : AnsR H v ns w f b m) (c : AnsR H u ns w f b m) (q : Q (.bl false) H) : rNeD K v u H Q := by
  rcases a with ⟨h, rfl⟩ | ⟨h, p, rfl, k⟩ | ⟨h, rfl⟩ | ⟨h, rfl⟩
  · rcases c with ⟨_, rfl⟩ | ⟨h2, _⟩ | ⟨h2, _⟩ | ⟨h2, _⟩
    · refine ⟨.int _, .int _, .int _, .int _, rfl, rfl, ?_⟩
      rw [show PyData.eqv (.int ((wun ns f b : Nat) : Int)) (.int ((wun ns f b : Nat) : Int)) = true from beq_self_eq_true _]
      exact q
    all_goals omega
  · rcases c with ⟨h2, _⟩ | ⟨_, p2, rfl, k2⟩ | ⟨h2, _⟩ | ⟨h2, _⟩
    · omega
    · exact rNe_ints (SqL.of k) (SqL.of k2) (by rw [decide_eq_true rfl]; exact q)
    all_goals omega
  · rcases c with ⟨h2, _⟩ | ⟨h2, _⟩ | ⟨_, rfl⟩ | ⟨h2, _⟩
    · omega
    · omega
    · exact ne_optV _ q
    · omega
  · rcases c with ⟨h2, _⟩ | ⟨h2, _⟩ | ⟨h2, _⟩ | ⟨_, rfl⟩
    · omega
    · omega
    · omega
    · exact ne_optV _ q
theorem range_split {n j : Nat} (h : j < n) : List.range n = List.range j ++ j :: (List.range n).drop (j + 1) := by
  have h1 := (List.take_append_drop j (List.range n)).symm
  rw [List.take_range, show min j n = j by omega, List.drop_eq_getElem_cons (by rw [List.length_range]; exact h), List.getElem_range] at h1
  exact h1
theorem filter_head {n j : Nat} {t : Nat → Bool} (h : j < n) (ht : t j = true) (hn : ∀ i, i < j → t i = false) : ∃ tl, (List.range n).filter t = j :: tl := by
  rw [range_split h, List.filter_append, List.filter_eq_nil_iff.mpr (fun i hi => by rw [hn i (List.mem_range.mp hi)]; exact Bool.false_ne_true), List.filter_cons, if_pos ht]
  exact ⟨_, rfl⟩
theorem filter_last {n j : Nat} {t : Nat → Bool} (h : j < n) (ht : t j = true) (hn : ∀ i, j < i → i < n → t i = false) : ∃ pre, (List.range n).filter t = pre ++ [j] := by
  have hd : ((List.range n).drop (j + 1)).filter t = [] := List.filter_eq_nil_iff.mpr fun i hi => by
    obtain ⟨k, hk⟩ := List.mem_iff_getElem?.mp hi
    rw [List.getElem?_drop] at hk
    have h1 := (List.getElem?_eq_some_iff.mp hk).1
    rw [List.length_range] at h1
    rw [List.getElem?_range h1] at hk
    cases hk
    rw [hn _ (by omega) h1]
    exact Bool.false_ne_true
  rw [range_split h, List.filter_append, List.filter_cons, if_pos ht, hd]
  exact ⟨_, rfl⟩
theorem ends_first {ns : List Int} {f : Nat} {m : Int} (hf : f ≤ ns.length) (h0 : 0 ≤ m) : atI ((((List.range (ns.length + 1 - f)).filter fun k => decide ((wunN ns f (f + k) : Int) = m)).map fun (k : Nat) => (f : Int) + (k : Int)).map V.int ++ [V.non]) 0 = some (optV (endAt ns f m)) := by
  rcases endAt_spec (m := m) hf with ⟨e, h⟩ | ⟨e, h1, h2, h3, h4, h5⟩
  · rw [e, List.filter_eq_nil_iff.mpr fun k hk => ?_]
    · rfl
    · have := List.mem_range.mp hk
      have := h (f + k) (by omega) (by omega)
      intro z
      have := of_decide_eq_true z
      omega
  · have hj := end_just h0 h2 h3 h4 h5
    obtain ⟨tl, htl⟩ := filter_head (n := ns.length + 1 - f) (j := e - f) (t := fun k => decide ((wunN ns f (f + k) : Int) = m)) (by omega) (by
      rw [show f + (e - f) = e by omega]; exact decide_eq_true hj.1) (fun i hi => decide_eq_false fun z => h5 (f + i) (by omega) (by omega) (by omega))
    rw [htl, h1]
    show atI (V.int ((f : Int) + ((e - f : Nat) : Int)) :: _) 0 = some (V.int (e : Int))
    rw [show (f : Int) + ((e - f : Nat) : Int) = e by omega]
    exact atI_nat (j := 0) rfl
theorem begs_last {ns : List Int} {b : Nat} {m : Int} (hb : b ≤ ns.length) (h0 : 0 ≤ m) : atI ([V.non] ++ (((List.range (b + 1)).filter fun k => decide ((wunN ns k b : Int) = m)).map fun (k : Nat) => (0 : Int) + (k : Int)).map V.int) (-1) = some (optV (begAt ns b m)) := by
  have hl : ∀ (xs : List V) (x : V), atI (xs ++ [x]) (-1) = some x := fun xs x => atI_last xs x
  rcases begK_spec (ns := ns) (b := b) (m := m) b with ⟨e, h⟩ | ⟨e, h1, h2, h4, h5⟩
  · rw [show begAt ns b m = none from e, List.filter_eq_nil_iff.mpr fun k hk => ?_]
    · rfl
    · have := List.mem_range.mp hk
      have := h k (by omega)
      intro z
      have := of_decide_eq_true z
      omega
  · have hj := beg_just h0 h2 hb h4 h5
    obtain ⟨pre, hp⟩ := filter_last (n := b + 1) (j := e) (t := fun k => decide ((wunN ns k b : Int) = m)) (by omega) (decide_eq_true hj.1) (fun i hi hi2 => decide_eq_false fun z => h5 i (by omega) (by omega) (by omega))
    rw [hp, show begAt ns b m = some e from h1, List.map_append, List.map_append, ← List.append_assoc]
    show atI (_ ++ [V.int ((0 : Int) + (e : Int))]) (-1) = some (V.int (e : Int))
    rw [hl, Int.zero_add]
theorem Rdy.bar {C : Addr} {L : Addr → Prop} {H : Hp} {o h : Addr} {ns : List Int} (r : Rdy C L H o ns) (n : H h = none) : Rdy C (fun b => L b ∨ b = h) H o ns := by
  obtain ⟨dx, la, na, e1, e2, e3, f⟩ := r.all
  refine ⟨dx, la, na, e1, e2, e3, fun b l => l.elim (f b) fun e => ?_⟩
  subst e
  exact ⟨(fun z => by rw [z, n] at e1; cases e1), (fun z => by rw [z, n] at e2; cases e2), (fun z => by rw [z, n] at e3; cases e3)⟩
section
variable {K : PySem.W.Frag} {a : Addr} {σ : L2.St} {H1 : Hp} {Dl : Addr} {te : TE} {vs : List Nat} {Qd : Hp → Prop}
/-- [e for k in range(..)], each e a new row, drawn from a hand -/
theorem lc_rowsH {j : Nat} {lo : Int} {n : Nat} {st : Addr} {d0 m0 : Int} (ha : H1 st = some (.lst [.int d0, .int m0])) (hk0 : HandOk d0 m0) (hn : n ≤ 1000) (hD : H1 Dl = none) (hw : ∀ x, wipe ((wipe σ vs).set j (some x)) vs = wipe σ vs)
    (he : ∀ (k : Nat) H' d m, k < n → But st H1 H' → H' st = some (.lst [.int d, .int m]) → HandOk d m → ∀ Q' : VK, (∀ q (ns : List Int) d' m' H4, H4 q = some (.lst (ns.map V.int)) → ns.length ≤ 300 → H4 st = some (.lst [.int d', .int m']) → HandOk d' m' → But st H' H4 → H' q = none → Q' (.ref q) H4) → te ((wipe σ vs).set j (some (.int (lo + (k : Nat))))) H' Q')
    (hd : ∀ H' qs ps d m, But st H1 H' → H' Dl = some (.lst (qs.map V.ref)) → PsF H' qs ps → ps.length = n → (∀ p ∈ ps, p.length ≤ 300) → (∀ q ∈ qs, H1 q = none) → H' st = some (.lst [.int d, .int m]) → HandOk d m → Qd H') :
    ∃ W : Nat → Nat → Hp → Prop, (∃ m, W 0 m (upd H1 Dl (.lst []))) ∧ ∀ i m H, W i m H →
      ((Itr lo n).stop i H ∧ Qd H) ∨ ((Itr lo n).go i H ∧ ∃ Nx : Hp → Prop, (∀ H', Nx H' → ∃ m', m' < m ∧ W (i + 1) m' H') ∧ ∀ x H', (Itr lo n).yld i H x H' → gName j x (wipe σ vs) H' fun σ2 H2 => wipe σ2 vs = wipe σ vs ∧ tYes σ2 H2 fun b H3 =>
        if b = true then te σ2 H3 fun y H4 => ∃ acc, H4 Dl = some (.lst acc) ∧ acc.length < sizeLine ∧ Nx (upd H4 Dl (.lst (acc ++ [y]))) else Nx H3) := by
  have hsD : st ≠ Dl := fun e => by rw [e, hD] at ha; cases ha
  refine lc_range (lo := lo) (n := n) (fun i H' => ∃ (qs : List Addr) (ps : List (List Int)) (d m : Int), But st H1 H' ∧ H' Dl = some (.lst (qs.map V.ref)) ∧ PsF H' qs ps ∧ ps.length = i ∧ (∀ p ∈ ps, p.length ≤ 300) ∧ (∀ q ∈ qs, H1 q = none ∧ q ≠ Dl ∧ q ≠ st) ∧ H' st = some (.lst [.int d, .int m]) ∧ HandOk d m)
    ⟨[], [], d0, m0, but_snoc hD but_refl, upd_same, PsF.nil, rfl, (fun _ h => nomatch h), (fun _ h => nomatch h), by rw [upd_ne hsD]; exact ha, hk0⟩ (fun i H' hi p => ?_) (fun H' p => ?_)
  · obtain ⟨qs, ps, d, m, b, eD, r, hpl, f3, f, es, hk⟩ := p
    refine ⟨hw _, tyes_ok ?_⟩
    refine he i H' d m hi b es hk _ fun q ns d' m' H4 e4 hl4 a4 k4 b4 nq => ?_
    have hqD : q ≠ Dl := fun e => by rw [e, eD] at nq; cases nq
    have hqs : q ≠ st := fun e => by rw [e, es] at nq; cases nq
    have hq1 : H1 q = none := but_free nq b es
    have r4 : PsF H4 (qs ++ [q]) (ps ++ [ns]) := PsF.app (RowsF.but r b4 fun p hp => (f p hp).2.2) (PsF.one e4)
    have off2 : ∀ z ∈ qs ++ [q], H1 z = none ∧ z ≠ Dl ∧ z ≠ st := fun z hz => by
      rcases List.mem_append.mp hz with h | h
      · exact f z h
      · rw [List.mem_singleton.mp h]; exact ⟨hq1, hqD, hqs⟩
    have hrl := r.len
    refine ⟨_, b4 _ _ (Ne.symm hsD) eD, szl (by rw [List.length_map]; omega), qs ++ [q], ps ++ [ns], d', m', ?_, by rw [upd_same, List.map_append]; rfl, RowsF.upd r4 ⟨fun z hz => (off2 z hz).2.1⟩, by rw [List.length_append, hpl]; rfl, ?_, off2, by rw [upd_ne hsD]; exact a4, k4⟩
    · intro x o ne e
      have hx : x ≠ Dl := fun z => by rw [z, hD] at e; cases e
      rw [upd_ne hx]
      exact b4 _ _ ne (b _ _ ne e)
    · intro p hp
      rcases List.mem_append.mp hp with h | h
      · exact f3 p h
      · rw [List.mem_singleton.mp h]; exact hl4
  · obtain ⟨qs, ps, d, m, b, eD, r, hpl, f3, f, es, hk⟩ := p
    exact hd H' qs ps d m b eD r hpl f3 (fun q hq => (f q hq).1) es hk
/-- [e for row in a list of rows], each e a new row, all of them new -/
theorem lc_psN {j : Nat} {ls : List Addr} {ps : List (List Int)} (hn : ps.length ≤ 1000000) (ha : SqL K H1 a (ls.map V.ref)) (r : PsF H1 ls ps) (hD : H1 Dl = none) (hw : ∀ x, wipe ((wipe σ vs).set j (some x)) vs = wipe σ vs)
    (he : ∀ (p : Addr) (q : List Int) H', q ∈ ps → Same H1 H' → H' p = some (.lst (q.map V.int)) → ∀ Q' : VK, (∀ y H4, Same H' H4 → H4 y = some (.lst (q.map V.int)) → H' y = none → Q' (.ref y) H4) → te ((wipe σ vs).set j (some (.ref p))) H' Q')
    (hd : ∀ H' qs, Same H1 H' → H' Dl = some (.lst (qs.map V.ref)) → PsF H' qs ps → (∀ q ∈ qs, H1 q = none) → qs.Nodup → Qd H') :
    ∃ W : Nat → Nat → Hp → Prop, (∃ m, W 0 m (upd H1 Dl (.lst []))) ∧ ∀ i m H, W i m H →
      ((Itl K a).stop i H ∧ Qd H) ∨ ((Itl K a).go i H ∧ ∃ Nx : Hp → Prop, (∀ H', Nx H' → ∃ m', m' < m ∧ W (i + 1) m' H') ∧ ∀ x H', (Itl K a).yld i H x H' → gName j x (wipe σ vs) H' fun σ2 H2 => wipe σ2 vs = wipe σ vs ∧ tYes σ2 H2 fun b H3 =>
        if b = true then te σ2 H3 fun y H4 => ∃ acc, H4 Dl = some (.lst acc) ∧ acc.length < sizeLine ∧ Nx (upd H4 Dl (.lst (acc ++ [y]))) else Nx H3) := by
  refine lc_list (K := K) (a := a) (xs := ls.map V.ref) (fun i H' => ∃ qs : List Addr, Same H1 H' ∧ H' Dl = some (.lst (qs.map V.ref)) ∧ PsF H' qs (ps.take i) ∧ (∀ q ∈ qs, q ≠ Dl ∧ H1 q = none) ∧ qs.Nodup) ⟨[], same_new hD, upd_same, by rw [List.take_zero]; exact PsF.nil, (fun _ h => nomatch h), List.nodup_nil⟩ (fun i H' _ z => by obtain ⟨qs, s, _⟩ := z; exact s.seq ha) (fun i x H' hx z => ?_) (fun H' z => ?_)
  · obtain ⟨qs, s, eD, rq, off, nd⟩ := z
    rw [List.getElem?_map] at hx
    obtain ⟨p, hp, rfl⟩ := Option.map_eq_some_iff.mp hx
    obtain ⟨q, hq, eq⟩ := r.get hp
    have hi := (List.getElem?_eq_some_iff.mp hq).1
    refine ⟨hw _, tyes_ok ?_⟩
    refine he p q H' (List.mem_of_getElem? hq) s (s _ _ eq) _ fun y H4 s4 ey ny => ?_
    have hrl := rq.len
    rw [List.length_take] at hrl
    have hyD : y ≠ Dl := fun e => by rw [e, eD] at ny; cases ny
    have hyq : ∀ z ∈ qs, z ≠ y := fun z hz e => by
      obtain ⟨k, hk⟩ := List.mem_iff_getElem?.mp hz
      have := rq.row k z hk
      rw [e, ny] at this
      cases this
    have off2 : ∀ z ∈ qs ++ [y], z ≠ Dl ∧ H1 z = none := fun z hz => by
      rcases List.mem_append.mp hz with h | h
      · exact off z h
      · rw [List.mem_singleton.mp h]; exact ⟨hyD, s.free ny⟩
    refine ⟨_, s4 _ _ eD, szl (by rw [List.length_map]; omega), qs ++ [y], same_upd' hD (s.trans s4), by rw [upd_same, List.map_append]; rfl, ?_, off2, ?_⟩
    · have r4 : PsF H4 (qs ++ [y]) (ps.take i ++ [q]) := PsF.app (RowsF.same rq s4) (PsF.one ey)
      rw [show ps.take (i + 1) = ps.take i ++ [q] by rw [List.take_add_one, hq]; rfl]
      exact RowsF.upd r4 ⟨fun z hz => (off2 z hz).1⟩
    · refine List.nodup_append.mpr ⟨nd, List.nodup_cons.mpr ⟨fun h => (nomatch h), List.nodup_nil⟩, fun z hz w hw2 => ?_⟩
      rw [List.mem_singleton.mp hw2]
      exact hyq z hz
  · obtain ⟨qs, s, eD, rq, off, nd⟩ := z
    have hl := r.len
    rw [List.length_map, hl, List.take_length] at rq
    exact hd H' qs s eD rq (fun q hq => (off q hq).2) nd
/-- [Ready(row) for row in a list of rows] -/
theorem lc_rdy {C : Addr} {j : Nat} {ls : List Addr} {ps : List (List Int)} (hn : ps.length ≤ 1000000) (ha : SqL K H1 a (ls.map V.ref)) (r : PsF H1 ls ps) (hD : H1 Dl = none) (hw : ∀ x, wipe ((wipe σ vs).set j (some x)) vs = wipe σ vs)
    (he : ∀ (p : Addr) (q : List Int) H', q ∈ ps → Same H1 H' → H' p = some (.lst (q.map V.int)) → ∀ Q' : VK, (∀ o H4, Rdy C (fun b => H' b ≠ none) H4 o q → Same H' H4 → Q' (.ref o) H4) → te ((wipe σ vs).set j (some (.ref p))) H' Q')
    (hd : ∀ H' os, Same H1 H' → H' Dl = some (.lst ((os : List Addr).map V.ref)) → os.length = ps.length → (∀ (k : Nat) o p, os[k]? = some o → ps[k]? = some p → Rdy C (fun b => H1 b ≠ none) H' o p) → Qd H') :
    ∃ W : Nat → Nat → Hp → Prop, (∃ m, W 0 m (upd H1 Dl (.lst []))) ∧ ∀ i m H, W i m H →
      ((Itl K a).stop i H ∧ Qd H) ∨ ((Itl K a).go i H ∧ ∃ Nx : Hp → Prop, (∀ H', Nx H' → ∃ m', m' < m ∧ W (i + 1) m' H') ∧ ∀ x H', (Itl K a).yld i H x H' → gName j x (wipe σ vs) H' fun σ2 H2 => wipe σ2 vs = wipe σ vs ∧ tYes σ2 H2 fun b H3 =>
        if b = true then te σ2 H3 fun y H4 => ∃ acc, H4 Dl = some (.lst acc) ∧ acc.length < sizeLine ∧ Nx (upd H4 Dl (.lst (acc ++ [y]))) else Nx H3) := by
  refine lc_list (K := K) (a := a) (xs := ls.map V.ref) (fun i H' => ∃ os : List Addr, Same H1 H' ∧ H' Dl = some (.lst (os.map V.ref)) ∧ os.length = min i ps.length ∧ ∀ (k : Nat) o p, os[k]? = some o → ps[k]? = some p → Rdy C (fun b => H1 b ≠ none ∨ b = Dl) H' o p) ⟨[], same_new hD, upd_same, by simp, fun k o p h => nomatch h⟩ (fun i H' _ z => by obtain ⟨qs, s, _⟩ := z; exact s.seq ha) (fun i x H' hx z => ?_) (fun H' z => ?_)
  · obtain ⟨os, s, eD, hol, f⟩ := z
    rw [List.getElem?_map] at hx
    obtain ⟨p, hp, rfl⟩ := Option.map_eq_some_iff.mp hx
    obtain ⟨q, hq, eq⟩ := r.get hp
    have hi := (List.getElem?_eq_some_iff.mp hq).1
    refine ⟨hw _, tyes_ok ?_⟩
    refine he p q H' (List.mem_of_getElem? hq) s (s _ _ eq) _ fun o H4 ro s4 => ?_
    have hb : But Dl H4 (upd H4 Dl (.lst (os.map V.ref ++ [V.ref o]))) := fun x u e h => by rw [upd_ne e]; exact h
    refine ⟨_, s4 _ _ eD, szl (by rw [List.length_map]; omega), os ++ [o], same_upd' hD (s.trans s4), by rw [upd_same, List.map_append]; rfl, by rw [List.length_append, hol]; show _ + 1 = _; omega, fun k o' p' ho hp' => ?_⟩
    by_cases hk : k < os.length
    · rw [List.getElem?_append_left hk] at ho
      exact ((f k o' p' ho hp').same s4).but (.inr rfl) hb
    · have h2 := (List.getElem?_eq_some_iff.mp ho).1
      rw [List.length_append] at h2
      have h3 : [o].length = 1 := rfl
      have h4 : k = os.length := by omega
      subst h4
      rw [List.getElem?_append_right (Nat.le_refl _), Nat.sub_self] at ho
      cases ho
      have h5 : os.length = i := by omega
      rw [h5, hq] at hp'
      cases hp'
      refine (ro.sub (L' := fun b => H1 b ≠ none ∨ b = Dl) fun b l => ?_).but (.inr rfl) hb
      rcases l with l | rfl
      · cases e : H1 b with
        | none => exact (l e).elim
        | some u => rw [s _ _ e]; exact fun z => nomatch z
      · rw [eD]; exact fun z => nomatch z
  · obtain ⟨os, s, eD, hol, f⟩ := z
    have hl := r.len
    rw [List.length_map, hl, Nat.min_self] at hol
    exact hd H' os s eD hol fun k o p h1 h2 => (f k o p h1 h2).sub fun b l => .inl l
end
theorem offRefs {H : Hp} {D : Addr} {hs : List Addr} {ps : List (List Int)} (e : H D = some (.lst (hs.map V.ref))) (r : PsF H hs ps) : ∀ q ∈ hs, q ≠ D := fun q hq z => by
  obtain ⟨k, hk⟩ := List.mem_iff_getElem?.mp hq
  have w := r.row k q hk
  rw [z, e] at w
  injection w with w
  injection w with w
  cases hs with
  | nil => cases hq
  | cons x hs =>
    cases hp : ps.getD k [] with
    | nil => rw [hp] at w; cases w
    | cons y ys => rw [hp] at w; cases w
/-- a new list + a list handed in -/
def rCatS (K : PySem.W.Frag) : R2 := fun x y H Q => ∃ l b xs zs, x = .ref l ∧ y = .ref b ∧ H l = some (.lst xs) ∧ SqL K H b zs ∧ xs.length + zs.length ≤ sizeLine ∧ ∀ p, H p = none → Q (.ref p) (upd H p (.lst (xs ++ zs)))
theorem op_catS {X : Cx} {K : PySem.W.Frag} (hK : X.K = K) : OpR X (binaryOp .Add) (rCatS K) := by
  subst hK
  intro pins s σ H x y v u Q I rx ry h
  obtain ⟨l, b, xs, zs, rfl, rfl, hH, hB, hz, q⟩ := h
  cases rx
  cases ry
  obtain ⟨z, its, n, r, hl, e⟩ := I.lstM hH
  obtain ⟨its2, r2, p2, _⟩ := I.list hB
  obtain ⟨⟨cls2, dd2, data2, sl2⟩, n2, ho2, hc2, hdd, hd2⟩ := p2
  simp only at hc2 hdd hd2
  subst hc2 hdd hd2
  have hl2 := r2.length
  have ea : its.toArray ++ its2.toArray = (its ++ its2).toArray := by simp
  refine concat_meets ⟨_, e, rfl⟩ ⟨_, ho2, rfl⟩ noFill_list_add seq_list_add PySem.F.slot_list_add PySem.F.entry_list_add (PySem.F.args_list_add_2 _ _) (list_addW l b its.toArray its2.toArray n n2 none none #[] sl2 (by rw [List.size_toArray, List.size_toArray]; omega)) ⟨e, ho2, ?_⟩
  rw [ea]
  exact ⟨.ref _, _, I.lnew (t' := s.toks) (r.append r2) (by rw [List.length_append]; omega), rfl, q _ I.fresh⟩
end Ur

local macro_rules | `(tactic| kct_strs) => `(tactic| first
  | (with_reducible assumption)
  | ((with_reducible show (_ : Option L2.HO) = some _); first
    | (with_reducible exact Ur.upd_snoc)
    | (with_reducible exact Ur.upd_cutto (by omega))
    | (with_reducible exact Ur.upd_cutmid (by omega) (by omega))
    | (with_reducible exact Ur.upd_cutfrom (by omega))
    | (with_reducible exact Ur.upd_cutall)
    | (with_reducible exact Ur.upd_set)
    | (with_reducible exact Ur.upd_app)
    | (with_reducible exact Ur.upd_rep)
    | (with_reducible exact Ur.upd_rep0)
    | (with_reducible exact Ur.upd_1cat)
    | (with_reducible exact L2.upd_same)
    | ((with_reducible apply Ur.dead_upd); exact L2.upd_same)
    | ((fail_if_success (with_reducible apply Ur.dead_upd)); (with_reducible apply Ur.get_upd); (focus kcj_m); kct_strs)
    | ((with_reducible apply Ur.same_get); (focus (with_reducible assumption)); kct_strs)
    | ((with_reducible apply Ur.but_get); (focus (with_reducible assumption)); (focus kcj_m); kct_strs))
  | ((with_reducible show L2.SqL _ _ _ _); first
    | ((with_reducible apply Ur.sqlK); (focus (with_reducible assumption)); (focus (first | (with_reducible rfl) | rfl)))
    | ((with_reducible apply L2.SqL.of); kct_strs)
    | ((with_reducible apply L2.Same.seq); (focus (with_reducible assumption)); kct_strs)
    | ((with_reducible apply Ur.sql_new); (focus (with_reducible assumption)); kct_strs)
    | ((with_reducible apply Ur.sql_upd); (focus kcj_m); kct_strs))
  | ((with_reducible show L2.SqT _ _ _ _); (with_reducible apply L2.SqT.of); kct_strs))
local macro_rules | `(tactic| kcj_m) => `(tactic| ((with_reducible show _ ≠ _); (fail_if_success (with_reducible apply Ur.dead_ne)); first
  | (with_reducible assumption)
  | (with_reducible exact Ne.symm (by assumption))
  | ((with_reducible apply Ur.ne_new); (focus (with_reducible assumption)); kct_strs)
  | ((with_reducible apply Ur.ne_new'); (focus (with_reducible assumption)); kct_strs)
  | (refine L2.ne_of (by assumption) (by kct_strs) (by intro q; cases q))))
local macro_rules | `(tactic| tb_rel) => `(tactic| first
  | ((with_reducible show List.length (L2.putF _ _ _) < _); first | exact Ur.pf1 | exact Ur.pf2 | exact Ur.pf3)
  | ((with_reducible show List.length (Ur.livF _ _ _) < _); exact Ur.pfL)
  | ((with_reducible show List.length (L2.putF _ _ (Ur.livF _ _ _)) < _); exact Ur.pfM)
  | ((with_reducible show List.lookup _ _ = _); first | exact Ur.rdy_many | exact Ur.rdy_lasts | exact Ur.rdy_nexts | exact Ur.rdy_no (by decide) (by decide) (by decide) | exact Ur.hld_times | exact Ur.hld_no (by decide) | exact Ur.liv_numbers | exact Ur.liv_changes | exact Ur.liv_made | exact Ur.liv_no (by decide) (by decide) (by decide))
  | ((fail_if_success (with_reducible show (_ : Option L2.HO) = _)); (with_reducible show _ = _); exact rfl)
  | (with_reducible assumption)
  | ((with_reducible show (_ : Option L2.HO) = Option.some _); kct_strs)
  | ((with_reducible show L2.SqL _ _ _ _); kct_strs)
  | ((with_reducible show ∃ xs, L2.SqL _ _ _ xs); exact ⟨_, by kct_strs⟩)
  | ((with_reducible show L2.SqT _ _ _ _); kct_strs)
  | ((with_reducible show ∃ xs, L2.SqT _ _ _ xs); exact ⟨_, by kct_strs⟩)
  | ((with_reducible show _ ≠ _); kcj_m)
  | ((with_reducible show L2.Same _ _); kcj_in)
  | ((with_reducible show Ur.IsW _ _ _); first | (with_reducible assumption) | exact Ur.IsW.int | exact Ur.IsW.bl | exact Ur.IsW.str | exact Ur.IsW.non | exact Ur.IsW.lst (by kct_strs) | exact Ur.IsW.tup (by kct_strs) | exact Ur.IsW.dct (by kct_strs))
  | ((with_reducible show Ur.Kind _ _); first | (with_reducible assumption) | exact Ur.Kind.int | exact Ur.Kind.bl | exact Ur.Kind.str | exact Ur.Kind.non | ((with_reducible apply Ur.Kind.same); (focus (with_reducible assumption)); kcj_in) | exact Ur.Kind.lst (by kct_strs) | exact Ur.Kind.tup (by kct_strs) | exact Ur.Kind.dct (by kct_strs))
  | ((with_reducible show Ur.But _ _ _); cc_are)
  | ((with_reducible show (_ : Option L2.HO) = Option.none); cc_off)
  | ((fail_if_success (with_reducible show (_ : Option L2.HO) = _)); first
    | (intros; omega)
    | assumption
    | exact Ur.at_int' (by omega) (by omega)
    | exact Ur.at_int' (by dsimp only; omega) (by dsimp only; omega)
    | exact Ur.ixN_iv (by omega) (by omega)
    | exact Ur.at2 (by omega) (by omega)
    | exact Ur.at3 (by omega) (by omega)
    | exact Ur.at4 (by omega) (by omega)
    | exact Ur.at6 (by omega) (by omega)
    | ((with_reducible show L2.IsD _ _); exact Ur.isD_of (by kct_strs))
    | ((with_reducible show L2.tyV _ _ _ _); exact Ur.tyL (by kct_strs))
    | ((with_reducible show L2.DGet _ _ _ _); exact Ur.dget_int (by kct_strs))
    | ((with_reducible show L2.DPut _ _ _ _ _); exact Ur.dput_int (by kct_strs) (Ur.szl (by omega)))
    | ((with_reducible show _ ∨ _); first | exact Or.inl (by kct_strs) | exact Or.inr (by kct_strs) | exact Or.inl ⟨by omega, by omega⟩ | exact Or.inr ⟨by omega, by omega⟩ | exact Or.inr ⟨by decide, by decide⟩ | exact Or.inl ⟨by decide, by decide⟩)
    | ((with_reducible show _ ∧ _); first | exact ⟨by omega, by omega⟩ | exact ⟨by decide, by decide⟩ | exact ⟨by decide, by decide, by decide⟩)
    | exact Ur.sz (by (try simp only [List.length_append, List.length_map, List.length_cons, List.length_nil, List.length_take, List.length_drop, List.length_range, List.length_replicate, List.length_set, List.length_reverse]); omega)
    | exact Ur.szl (by (try simp only [List.length_append, List.length_map, List.length_cons, List.length_nil, List.length_take, List.length_drop, List.length_range, List.length_replicate, List.length_set, List.length_reverse]); omega)
    | (apply Ur.szT; (focus (repeat (first | (apply Nat.add_le_add) | (apply Ur.lb_map) | (apply Ur.lb_filter) | (apply Ur.lb_app) | (apply Ur.lb_cons) | exact Ur.lb_nil | exact Ur.lb_range | exact Nat.le_refl _))); omega)
    | (apply Ur.szlT; (focus (repeat (first | (apply Nat.add_le_add) | (apply Ur.lb_map) | (apply Ur.lb_filter) | (apply Ur.lb_app) | (apply Ur.lb_cons) | exact Ur.lb_nil | exact Ur.lb_range | exact Nat.le_refl _))); omega)
    | ((with_reducible show List.length _ ≤ _); (first | (rw [List.length_take, List.length_drop]; omega) | (rw [List.length_take]; omega) | (rw [List.length_drop]; omega) | (rw [List.length_reverse]; omega)))
    | ((with_reducible show L2.RgOk _ _); exact L2.RgOk.of_le (by omega) (by omega) (by omega) (by omega))
    | exact Nat.succ_pos _
    | exact Ur.pos_app
    | exact ⟨by omega, by omega⟩
    | exact Or.inl ⟨by omega, by omega⟩
    | exact Or.inr ⟨by omega, by omega⟩
    | exact Or.inr ⟨by decide, by decide⟩
    | exact Or.inl ⟨by decide, by decide⟩
    | exact ⟨by decide, by decide⟩
    | exact ⟨by decide, by decide, by decide⟩
    | decide))
local macro_rules | `(tactic| tb_start) => `(tactic| repeat (first
  | (with_reducible refine Ur.tCi ?_)
  | (with_reducible refine Ur.tNilI ?_)
  | (with_reducible refine L2.iteF ?_)
  | (with_reducible refine L2.iteT ?_)
  | (with_reducible refine Ur.neg_same ?_)
  | (with_reducible refine Ur.pos_same ?_)
  | ((with_reducible apply Ur.isiK); (focus (first | exact Ur.tyx_int | exact Ur.tyx_bl | exact Ur.tyx_non | exact Ur.tyx_str | exact Ur.tyx_lst (by kct_strs) | exact Ur.tyx_tup (by kct_strs) | exact Ur.tyx_dK (by kct_strs))); (focus (first | exact Ur.kb_int_int | exact Ur.kb_int_bool | exact Ur.kb_int_str | exact Ur.kb_int_list | exact Ur.kb_int_tuple | exact Ur.kb_int_dict | exact Ur.kb_bool_int | exact Ur.kb_bool_bool | exact Ur.kb_bool_str | exact Ur.kb_bool_list | exact Ur.kb_bool_tuple | exact Ur.kb_bool_dict | exact Ur.kb_str_int | exact Ur.kb_str_bool | exact Ur.kb_str_str | exact Ur.kb_str_list | exact Ur.kb_str_tuple | exact Ur.kb_str_dict | exact Ur.kb_NoneType_int | exact Ur.kb_NoneType_bool | exact Ur.kb_NoneType_str | exact Ur.kb_NoneType_list | exact Ur.kb_NoneType_tuple | exact Ur.kb_NoneType_dict | exact Ur.kb_list_int | exact Ur.kb_list_bool | exact Ur.kb_list_str | exact Ur.kb_list_list | exact Ur.kb_list_tuple | exact Ur.kb_list_dict | exact Ur.kb_tuple_int | exact Ur.kb_tuple_bool | exact Ur.kb_tuple_str | exact Ur.kb_tuple_list | exact Ur.kb_tuple_tuple | exact Ur.kb_tuple_dict | exact Ur.kb_dict_int | exact Ur.kb_dict_bool | exact Ur.kb_dict_str | exact Ur.kb_dict_list | exact Ur.kb_dict_tuple | exact Ur.kb_dict_dict)))
  | ((with_reducible apply Ur.isiK); (focus (with_reducible assumption)); (focus (with_reducible assumption)))
  | ((with_reducible apply Ur.isK1); (focus kct_strs); (focus (with_reducible assumption)); (focus (with_reducible assumption)))
  | ((with_reducible apply Ur.isKT); (focus kct_strs); (focus (with_reducible assumption)); (focus (with_reducible assumption)))
  | ((with_reducible apply Ur.isK2); (focus kct_strs); (focus (with_reducible assumption)); (focus (with_reducible assumption)); (focus kct_strs); (focus rfl))
  | (with_reducible refine Ur.isN_ref ?_)
  | ((with_reducible apply Ur.isX1); (focus (with_reducible assumption)); (focus (with_reducible assumption)))
  | ((with_reducible apply Ur.isXT); (focus (with_reducible assumption)); (focus (with_reducible assumption)))
  | ((with_reducible apply Ur.isX2); (focus (with_reducible assumption)); (focus (with_reducible assumption)); (focus kct_strs); (focus rfl))
  | ((with_reducible apply Ur.rEq_kinds); (focus kct_strs); (focus kct_strs))
  | ((with_reducible apply Ur.len_ints); (focus kct_strs))
  | ((with_reducible apply Ur.len_refs); (focus kct_strs))
  | ((with_reducible apply Ur.in_int); (focus kct_strs))
  | ((with_reducible apply Ur.notin_int); (focus kct_strs))
  | ((with_reducible apply Ur.setd_int); (focus kct_strs))
  | ((with_reducible apply Ur.repr_pair); (focus kct_strs))
  | ((with_reducible apply Ur.pop1_int); (focus kct_strs); (focus assumption))
  | ((with_reducible apply Ur.index_int); (focus kct_strs))
  | ((with_reducible apply Ur.rEq_intsN); (focus kct_strs); (focus kct_strs))
  | ((with_reducible apply Ur.rNe_intsN); (focus kct_strs); (focus kct_strs))
  | ((with_reducible apply Ur.rEq_ints); (focus kct_strs); (focus kct_strs))
  | ((with_reducible apply Ur.rNe_ints); (focus kct_strs); (focus kct_strs))
  | (with_reducible refine Ur.noN ?_)
  | (with_reducible refine Ur.noNn ?_)
  | ((with_reducible refine Ur.brT ?_ ?_); (focus omega))
  | ((with_reducible refine Ur.brF ?_ ?_); (focus omega))
  | ((with_reducible refine Ur.brnT ?_ ?_); (focus omega))
  | ((with_reducible refine Ur.brnF ?_ ?_); (focus omega))
  | (refine And.intro ?_ ?_; (first | (focus tb_rel) | rotate_left 1))
  | refine Or.inl ⟨_, rfl, ?_⟩
  | refine Or.inr ⟨_, rfl, ?_⟩
  | ((fail_if_success (with_reducible show L2.rEqD _ _ _ _ _)); (fail_if_success (with_reducible show L2.rNeD _ _ _ _ _)); (fail_if_success (with_reducible show Ur.rRepr _ _ _ _)); (fail_if_success (with_reducible show Ur.rEqL _ _ _ _ _ _)); (fail_if_success (refine Ur.isWN ?_)); (fail_if_success (refine Ur.isW4 ?_)); apply Exists.intro)))
local macro_rules | `(tactic| kqd_all) => `(tactic| repeat (first
  | (with_reducible refine Ur.tCi ?_)
  | (with_reducible refine Ur.tNilI ?_)
  | (with_reducible refine L2.iteF ?_)
  | (with_reducible refine L2.iteT ?_)
  | (with_reducible refine Ur.neg_same ?_)
  | (with_reducible refine Ur.pos_same ?_)
  | ((with_reducible apply Ur.isiK); (focus (first | exact Ur.tyx_int | exact Ur.tyx_bl | exact Ur.tyx_non | exact Ur.tyx_str | exact Ur.tyx_lst (by kct_strs) | exact Ur.tyx_tup (by kct_strs) | exact Ur.tyx_dK (by kct_strs))); (focus (first | exact Ur.kb_int_int | exact Ur.kb_int_bool | exact Ur.kb_int_str | exact Ur.kb_int_list | exact Ur.kb_int_tuple | exact Ur.kb_int_dict | exact Ur.kb_bool_int | exact Ur.kb_bool_bool | exact Ur.kb_bool_str | exact Ur.kb_bool_list | exact Ur.kb_bool_tuple | exact Ur.kb_bool_dict | exact Ur.kb_str_int | exact Ur.kb_str_bool | exact Ur.kb_str_str | exact Ur.kb_str_list | exact Ur.kb_str_tuple | exact Ur.kb_str_dict | exact Ur.kb_NoneType_int | exact Ur.kb_NoneType_bool | exact Ur.kb_NoneType_str | exact Ur.kb_NoneType_list | exact Ur.kb_NoneType_tuple | exact Ur.kb_NoneType_dict | exact Ur.kb_list_int | exact Ur.kb_list_bool | exact Ur.kb_list_str | exact Ur.kb_list_list | exact Ur.kb_list_tuple | exact Ur.kb_list_dict | exact Ur.kb_tuple_int | exact Ur.kb_tuple_bool | exact Ur.kb_tuple_str | exact Ur.kb_tuple_list | exact Ur.kb_tuple_tuple | exact Ur.kb_tuple_dict | exact Ur.kb_dict_int | exact Ur.kb_dict_bool | exact Ur.kb_dict_str | exact Ur.kb_dict_list | exact Ur.kb_dict_tuple | exact Ur.kb_dict_dict)))
  | ((with_reducible apply Ur.isiK); (focus (with_reducible assumption)); (focus (with_reducible assumption)))
  | ((with_reducible apply Ur.isK1); (focus kct_strs); (focus (with_reducible assumption)); (focus (with_reducible assumption)))
  | ((with_reducible apply Ur.isKT); (focus kct_strs); (focus (with_reducible assumption)); (focus (with_reducible assumption)))
  | ((with_reducible apply Ur.isK2); (focus kct_strs); (focus (with_reducible assumption)); (focus (with_reducible assumption)); (focus kct_strs); (focus rfl))
  | (with_reducible refine Ur.isN_ref ?_)
  | ((with_reducible apply Ur.isX1); (focus (with_reducible assumption)); (focus (with_reducible assumption)))
  | ((with_reducible apply Ur.isXT); (focus (with_reducible assumption)); (focus (with_reducible assumption)))
  | ((with_reducible apply Ur.isX2); (focus (with_reducible assumption)); (focus (with_reducible assumption)); (focus kct_strs); (focus rfl))
  | ((with_reducible apply Ur.rEq_kinds); (focus kct_strs); (focus kct_strs))
  | ((with_reducible apply Ur.len_ints); (focus kct_strs))
  | ((with_reducible apply Ur.len_refs); (focus kct_strs))
  | ((with_reducible apply Ur.in_int); (focus kct_strs))
  | ((with_reducible apply Ur.notin_int); (focus kct_strs))
  | ((with_reducible apply Ur.setd_int); (focus kct_strs))
  | ((with_reducible apply Ur.repr_pair); (focus kct_strs))
  | ((with_reducible apply Ur.pop1_int); (focus kct_strs); (focus assumption))
  | ((with_reducible apply Ur.index_int); (focus kct_strs))
  | ((with_reducible apply Ur.rEq_intsN); (focus kct_strs); (focus kct_strs))
  | ((with_reducible apply Ur.rNe_intsN); (focus kct_strs); (focus kct_strs))
  | ((with_reducible apply Ur.rEq_ints); (focus kct_strs); (focus kct_strs))
  | ((with_reducible apply Ur.rNe_ints); (focus kct_strs); (focus kct_strs))
  | (with_reducible refine Ur.noN ?_)
  | (with_reducible refine Ur.noNn ?_)
  | ((with_reducible refine Ur.brT ?_ ?_); (focus omega))
  | ((with_reducible refine Ur.brF ?_ ?_); (focus omega))
  | ((with_reducible refine Ur.brnT ?_ ?_); (focus omega))
  | ((with_reducible refine Ur.brnF ?_ ?_); (focus omega))
  | (refine And.intro ?_ ?_; (first | (focus tb_rel) | rotate_left 1))
  | refine Or.inl ⟨_, rfl, ?_⟩
  | refine Or.inr ⟨_, rfl, ?_⟩
  | ((fail_if_success (with_reducible show L2.rEqD _ _ _ _ _)); (fail_if_success (with_reducible show L2.rNeD _ _ _ _ _)); (fail_if_success (with_reducible show Ur.rRepr _ _ _ _)); (fail_if_success (with_reducible show Ur.rEqL _ _ _ _ _ _)); (fail_if_success (refine Ur.isWN ?_)); (fail_if_success (refine Ur.isW4 ?_)); apply Exists.intro)
  | intro _))
local macro_rules | `(tactic| kcj_in) => `(tactic| first
  | (with_reducible exact L2.Same.refl _)
  | (with_reducible assumption)
  | ((with_reducible apply Ur.same_snoc); (focus (with_reducible assumption)); kcj_in)
  | ((with_reducible apply Ur.same_upd'); (focus cc_off); kcj_in)
  | ((with_reducible apply Ur.same_step); (focus (with_reducible assumption)); kcj_in)
  | ((with_reducible apply Ur.same_pairs); (focus (with_reducible assumption)); kcj_in)
  | ((with_reducible apply Ur.same_but); (focus (with_reducible assumption)); (focus cc_off); kcj_in))
local macro_rules | `(tactic| cc_off) => `(tactic| first
  | (with_reducible assumption)
  | ((with_reducible apply Ur.same_free); (focus (with_reducible assumption)); kcj_in)
  | ((with_reducible apply Ur.but_free); (focus (with_reducible assumption)); (focus cc_are); kct_strs))
local macro_rules | `(tactic| cc_are) => `(tactic| first
  | (with_reducible exact Ur.but_refl)
  | (with_reducible assumption)
  | ((with_reducible apply Ur.but_at); cc_are)
  | ((with_reducible apply Ur.but_snoc); (focus (with_reducible assumption)); cc_are)
  | ((with_reducible apply Ur.but_upd); (focus cc_off); cc_are)
  | ((with_reducible apply Ur.but_step); (focus (with_reducible assumption)); cc_are)
  | ((with_reducible apply Ur.but_step'); (focus (with_reducible assumption)); cc_are))
local macro_rules | `(tactic| kqd_in) => `(tactic| (kqd_all; try ((first | refine Ur.bri (fun _ => ?_) (fun _ => ?_) | refine Ur.brni (fun _ => ?_) (fun _ => ?_) | refine Ur.br (fun _ => ?_) (fun _ => ?_) | refine Ur.brn (fun _ => ?_) (fun _ => ?_) | refine Ur.brb (fun _ => ?_) (fun _ => ?_)) <;> kqd_in)))
namespace Ur
open PySem L2
def top (i : Nat) : Stmt := PySem.Challenge.pw_unlikerow_k11_whole_rows_made_ready.main.body.getD i (.Pass ⟨0, 0, 0, 0⟩)
abbrev s_last_places : Stmt := top 5
theorem sc_last_places : FnScope ["row", "met", "found", "place", "number"] ["row"] (defScope s_last_places) := ⟨rfl, rfl, rfl, by decide +kernel, rfl, by decide +kernel, by decide +kernel⟩
abbrev s_next_places : Stmt := top 6
theorem sc_next_places : FnScope ["row", "found", "place", "last"] ["row"] (defScope s_next_places) := ⟨rfl, rfl, rfl, by decide +kernel, rfl, by decide +kernel, by decide +kernel⟩
abbrev s_Ready___init__ : Stmt := inClass (top 8) 0
theorem sc_Ready___init__ : FnScope ["self", "row"] ["self", "row"] (defScope s_Ready___init__) := ⟨rfl, rfl, rfl, by decide +kernel, rfl, by decide +kernel, by decide +kernel⟩
abbrev s_is_whole : Stmt := top 4
theorem sc_is_whole : FnScope ["thing"] ["thing"] (defScope s_is_whole) := ⟨rfl, rfl, rfl, by decide +kernel, rfl, by decide +kernel, by decide +kernel⟩
abbrev s_Ready_need_place : Stmt := inClass (top 8) 1
theorem sc_Ready_need_place : FnScope ["self", "place"] ["self", "place"] (defScope s_Ready_need_place) := ⟨rfl, rfl, rfl, by decide +kernel, rfl, by decide +kernel, by decide +kernel⟩
abbrev s_Ready_begin_of : Stmt := inClass (top 8) 6
theorem sc_Ready_begin_of : FnScope ["self", "behind", "many", "left", "first"] ["self", "behind", "many"] (defScope s_Ready_begin_of) := ⟨rfl, rfl, rfl, by decide +kernel, rfl, by decide +kernel, by decide +kernel⟩
abbrev s_Ready_end_of : Stmt := inClass (top 8) 5
theorem sc_Ready_end_of : FnScope ["self", "first", "many", "left", "behind"] ["self", "first", "many"] (defScope s_Ready_end_of) := ⟨rfl, rfl, rfl, by decide +kernel, rfl, by decide +kernel, by decide +kernel⟩
abbrev s_Ready_need_window : Stmt := inClass (top 8) 2
theorem sc_Ready_need_window : FnScope ["self", "first", "behind"] ["self", "first", "behind"] (defScope s_Ready_need_window) := ⟨rfl, rfl, rfl, by decide +kernel, rfl, by decide +kernel, by decide +kernel⟩
abbrev s_Ready_firsts : Stmt := inClass (top 8) 4
theorem sc_Ready_firsts : FnScope ["self", "first", "behind", "place"] ["self", "first", "behind"] (defScope s_Ready_firsts) := ⟨rfl, rfl, rfl, by decide +kernel, rfl, by decide +kernel, by decide +kernel⟩
abbrev s_Ready_unlike : Stmt := inClass (top 8) 3
theorem sc_Ready_unlike : FnScope ["self", "first", "behind", "last"] ["self", "first", "behind"] (defScope s_Ready_unlike) := ⟨rfl, rfl, rfl, by decide +kernel, rfl, by decide +kernel, by decide +kernel⟩
abbrev s__law_asked : Stmt := top 18
theorem sc__law_asked : FnScope ["ready", "way", "window", "many", "first", "behind"] ["ready", "way", "window", "many"] (defScope s__law_asked) := ⟨rfl, rfl, rfl, by decide +kernel, rfl, by decide +kernel, by decide +kernel⟩
abbrev s__law_cells : Stmt := top 12
theorem sc__law_cells : FnScope ["script", "many"] ["script", "many"] (defScope s__law_cells) := ⟨rfl, rfl, rfl, by decide +kernel, rfl, by decide +kernel, by decide +kernel⟩
abbrev s__law_draw : Stmt := top 11
theorem sc__law_draw : FnScope ["hand", "limit", "got"] ["hand", "limit"] (defScope s__law_draw) := ⟨rfl, rfl, rfl, by decide +kernel, rfl, by decide +kernel, by decide +kernel⟩
abbrev s__law_due : Stmt := top 19
theorem sc__law_due : FnScope ["row", "way", "window", "many", "first", "behind", "ends", "begins", "place"] ["row", "way", "window", "many"] (defScope s__law_due) := ⟨rfl, rfl, rfl, by decide +kernel, rfl, by decide +kernel, by decide +kernel⟩
abbrev s__law_great : Stmt := top 13
theorem sc__law_great : FnScope ["script"] ["script"] (defScope s__law_great) := ⟨rfl, rfl, rfl, by decide +kernel, rfl, by decide +kernel, by decide +kernel⟩
abbrev s__law_hand : Stmt := top 10
theorem sc__law_hand : FnScope ["cell", "k", "digits"] ["cell", "k"] (defScope s__law_hand) := ⟨rfl, rfl, rfl, by decide +kernel, rfl, by decide +kernel, by decide +kernel⟩
abbrev s__law_number : Stmt := top 14
theorem sc__law_number : FnScope ["hand", "kind", "number"] ["hand", "kind"] (defScope s__law_number) := ⟨rfl, rfl, rfl, by decide +kernel, rfl, by decide +kernel, by decide +kernel⟩
abbrev s__law_unlike : Stmt := top 15
theorem sc__law_unlike : FnScope ["hand", "many", "step", "by", "k", "row"] ["hand", "many"] (defScope s__law_unlike) := ⟨rfl, rfl, rfl, by decide +kernel, rfl, by decide +kernel, by decide +kernel⟩
abbrev s__law_row : Stmt := top 16
theorem sc__law_row : FnScope ["hand", "great", "many", "kind", "some", "row", "k"] ["hand", "great"] (defScope s__law_row) := ⟨rfl, rfl, rfl, by decide +kernel, rfl, by decide +kernel, by decide +kernel⟩
abbrev s__law_window : Stmt := top 17
theorem sc__law_window : FnScope ["hand", "many", "first", "kind"] ["hand", "many"] (defScope s__law_window) := ⟨rfl, rfl, rfl, by decide +kernel, rfl, by decide +kernel, by decide +kernel⟩
abbrev s_law : Stmt := top 20
theorem sc_law : FnScope ["script", "hand", "k", "rows", "row", "handed", "made", "held", "cell", "at", "way", "window", "many", "due", "told", "one"] ["script"] (defScope s_law) := ⟨rfl, rfl, rfl, by decide +kernel, rfl, by decide +kernel, by decide +kernel⟩
/-- where the defs and classes stand -/
structure Adr where
  f_last_places : Addr
  d_last_places : FuncData
  f_next_places : Addr
  d_next_places : FuncData
  f_Ready___init__ : Addr
  d_Ready___init__ : FuncData
  f_is_whole : Addr
  d_is_whole : FuncData
  f_Ready_need_place : Addr
  d_Ready_need_place : FuncData
  f_Ready_begin_of : Addr
  d_Ready_begin_of : FuncData
  f_Ready_end_of : Addr
  d_Ready_end_of : FuncData
  f_Ready_need_window : Addr
  d_Ready_need_window : FuncData
  f_Ready_firsts : Addr
  d_Ready_firsts : FuncData
  f_Ready_unlike : Addr
  d_Ready_unlike : FuncData
  f__law_asked : Addr
  d__law_asked : FuncData
  f__law_cells : Addr
  d__law_cells : FuncData
  f__law_draw : Addr
  d__law_draw : FuncData
  f__law_due : Addr
  d__law_due : FuncData
  f__law_great : Addr
  d__law_great : FuncData
  f__law_hand : Addr
  d__law_hand : FuncData
  f__law_number : Addr
  d__law_number : FuncData
  f__law_unlike : Addr
  d__law_unlike : FuncData
  f__law_row : Addr
  d__law_row : FuncData
  f__law_window : Addr
  d__law_window : FuncData
  f_law : Addr
  d_law : FuncData
  c_Ready : Addr
  c_NoWindow : Addr
structure Txt (K : PySem.W.Frag) (mg : Str → Option Value) (A : Adr) : Prop where
  F_last_places : Fun K "last_places" "last_places" s_last_places A.f_last_places A.d_last_places
  b_last_places : Binds K A.d_last_places ["row"] []
  g_last_places : mg "last_places" = some (.ref A.f_last_places)
  F_next_places : Fun K "next_places" "next_places" s_next_places A.f_next_places A.d_next_places
  b_next_places : Binds K A.d_next_places ["row"] []
  g_next_places : mg "next_places" = some (.ref A.f_next_places)
  F_Ready___init__ : Fun K "__init__" "Ready.__init__" s_Ready___init__ A.f_Ready___init__ A.d_Ready___init__
  b_Ready___init__ : Binds K A.d_Ready___init__ ["self", "row"] []
  M_Ready : Mk K A.c_Ready A.f_Ready___init__
  F_is_whole : Fun K "is_whole" "is_whole" s_is_whole A.f_is_whole A.d_is_whole
  b_is_whole : Binds K A.d_is_whole ["thing"] []
  g_is_whole : mg "is_whole" = some (.ref A.f_is_whole)
  F_Ready_need_place : Fun K "need_place" "Ready.need_place" s_Ready_need_place A.f_Ready_need_place A.d_Ready_need_place
  b_Ready_need_place : Binds K A.d_Ready_need_place ["self", "place"] []
  M_Ready_need_place : Meth K A.c_Ready "need_place" A.f_Ready_need_place
  F_Ready_begin_of : Fun K "begin_of" "Ready.begin_of" s_Ready_begin_of A.f_Ready_begin_of A.d_Ready_begin_of
  b_Ready_begin_of : Binds K A.d_Ready_begin_of ["self", "behind", "many"] []
  M_Ready_begin_of : Meth K A.c_Ready "begin_of" A.f_Ready_begin_of
  F_Ready_end_of : Fun K "end_of" "Ready.end_of" s_Ready_end_of A.f_Ready_end_of A.d_Ready_end_of
  b_Ready_end_of : Binds K A.d_Ready_end_of ["self", "first", "many"] []
  M_Ready_end_of : Meth K A.c_Ready "end_of" A.f_Ready_end_of
  F_Ready_need_window : Fun K "need_window" "Ready.need_window" s_Ready_need_window A.f_Ready_need_window A.d_Ready_need_window
  b_Ready_need_window : Binds K A.d_Ready_need_window ["self", "first", "behind"] []
  M_Ready_need_window : Meth K A.c_Ready "need_window" A.f_Ready_need_window
  F_Ready_firsts : Fun K "firsts" "Ready.firsts" s_Ready_firsts A.f_Ready_firsts A.d_Ready_firsts
  b_Ready_firsts : Binds K A.d_Ready_firsts ["self", "first", "behind"] []
  M_Ready_firsts : Meth K A.c_Ready "firsts" A.f_Ready_firsts
  F_Ready_unlike : Fun K "unlike" "Ready.unlike" s_Ready_unlike A.f_Ready_unlike A.d_Ready_unlike
  b_Ready_unlike : Binds K A.d_Ready_unlike ["self", "first", "behind"] []
  M_Ready_unlike : Meth K A.c_Ready "unlike" A.f_Ready_unlike
  F__law_asked : Fun K "_law_asked" "_law_asked" s__law_asked A.f__law_asked A.d__law_asked
  b__law_asked : Binds K A.d__law_asked ["ready", "way", "window", "many"] []
  g__law_asked : mg "_law_asked" = some (.ref A.f__law_asked)
  F__law_cells : Fun K "_law_cells" "_law_cells" s__law_cells A.f__law_cells A.d__law_cells
  b__law_cells : Binds K A.d__law_cells ["script", "many"] []
  g__law_cells : mg "_law_cells" = some (.ref A.f__law_cells)
  F__law_draw : Fun K "_law_draw" "_law_draw" s__law_draw A.f__law_draw A.d__law_draw
  b__law_draw : Binds K A.d__law_draw ["hand", "limit"] []
  g__law_draw : mg "_law_draw" = some (.ref A.f__law_draw)
  F__law_due : Fun K "_law_due" "_law_due" s__law_due A.f__law_due A.d__law_due
  b__law_due : Binds K A.d__law_due ["row", "way", "window", "many"] []
  g__law_due : mg "_law_due" = some (.ref A.f__law_due)
  F__law_great : Fun K "_law_great" "_law_great" s__law_great A.f__law_great A.d__law_great
  b__law_great : Binds K A.d__law_great ["script"] []
  g__law_great : mg "_law_great" = some (.ref A.f__law_great)
  F__law_hand : Fun K "_law_hand" "_law_hand" s__law_hand A.f__law_hand A.d__law_hand
  b__law_hand : Binds K A.d__law_hand ["cell", "k"] []
  g__law_hand : mg "_law_hand" = some (.ref A.f__law_hand)
  F__law_number : Fun K "_law_number" "_law_number" s__law_number A.f__law_number A.d__law_number
  b__law_number : Binds K A.d__law_number ["hand", "kind"] []
  g__law_number : mg "_law_number" = some (.ref A.f__law_number)
  F__law_unlike : Fun K "_law_unlike" "_law_unlike" s__law_unlike A.f__law_unlike A.d__law_unlike
  b__law_unlike : Binds K A.d__law_unlike ["hand", "many"] []
  g__law_unlike : mg "_law_unlike" = some (.ref A.f__law_unlike)
  F__law_row : Fun K "_law_row" "_law_row" s__law_row A.f__law_row A.d__law_row
  b__law_row : Binds K A.d__law_row ["hand", "great"] []
  g__law_row : mg "_law_row" = some (.ref A.f__law_row)
  F__law_window : Fun K "_law_window" "_law_window" s__law_window A.f__law_window A.d__law_window
  b__law_window : Binds K A.d__law_window ["hand", "many"] []
  g__law_window : mg "_law_window" = some (.ref A.f__law_window)
  F_law : Fun K "law" "law" s_law A.f_law A.d_law
  b_law : Binds K A.d_law ["script"] []
  g_law : mg "law" = some (.ref A.f_law)
  g_Ready : mg "Ready" = some (.ref A.c_Ready)
  C_Ready : Cls K A.c_Ready
  n_Ready_many : NoAttr K A.c_Ready "many"
  n_Ready_lasts : NoAttr K A.c_Ready "lasts"
  n_Ready_nexts : NoAttr K A.c_Ready "nexts"
  g_NoWindow : mg "NoWindow" = some (.ref A.c_NoWindow)
  m_bool : mg "bool" = none
  m_enumerate : mg "enumerate" = none
  m_int : mg "int" = none
  m_isinstance : mg "isinstance" = none
  m_len : mg "len" = none
  m_list : mg "list" = none
  m_min : mg "min" = none
  m_range : mg "range" = none
  m_set : mg "set" = none
  m_sum : mg "sum" = none
end Ur
namespace Ur
open PySem L2
/-- the last places, a new list -/
def sp_last_places (K : PySem.W.Frag) : Sp := fun vs H Q _ => ∃ (a : Addr) (ns : List Int), vs = [.ref a] ∧ SqL K H a (ns.map V.int) ∧ ns.length ≤ 1000 ∧ ∀ p H', H' p = some (.lst ((lastP ns).map V.int)) → Same H H' → H p = none → Q (.ref p) H'
section
variable {P : Program} {w : World} {K : PySem.W.Frag} {mg : Str → Option Value} {base : Heap} {A : Adr}
theorem ok_last_places (T : Txt K mg A) : FnOk P w K mg base CX0 1 A.f_last_places A.d_last_places ["row"] (sp_last_places K) := by
  refine T.F_last_places.ok sc_last_places (fun vs H Q E h => ?_) (fun cdv Ar outer s H vs Q E hr h => ?_)
  · obtain ⟨a, ns, rfl, _⟩ := h
    rfl
  · obtain ⟨a, ns, rfl, ha, hl, q⟩ := h
    refine ⟨_, (pss_cons (ps_set (i := 1) sc_last_places.nd rfl (Or.inl rfl) pe_dnewK)
    (pss_cons (ps_set (i := 2) sc_last_places.nd rfl (Or.inl rfl) (pe_lst pa_nil))
    (pss_cons (ps_for PassesOwn.never (by rfl) (pi_enum (by rfl) T.m_enumerate (pa_cons (pv 0) pa_nil)) (pg_tup (by rfl) (pgs_cons (pg_name (i := 3) sc_last_places.nd rfl (Or.inl rfl)) (pgs_cons (pg_name (i := 4) sc_last_places.nd rfl (Or.inl rfl)) pgs_nil))) (pss_cons (ps_expr (pe_bm PySem.F.plainAttrs_list PySem.F.slot_list_append PySem.F.type_list_append mt_append (pv 2) (pa_cons (pe_dget2 (hu_of hr) (pv 1) (pv 4) (pe_un un_neg pe_int) ⟨rfl, rfl, rfl, rfl⟩) pa_nil)))
    (pss_one (ps_dput (hu_of hr) (pv 1) (pv 4) (pv 3) rfl))))
    (pss_one (ps_ret (pv 2)))))), ?_⟩
    tb_start
    intro m nm
    tb_start
    intro l nl
    tb_start
    refine for_enum (xs := ns.map V.int) (fun i σ H' => Iv (∃ (kvs : List (Key × V)) (x y : Option V), σ = [some (.ref a), some (.ref m), some (.ref l), x, y] ∧ H' m = some (.dK kvs) ∧ H' l = some (.lst (((lastP ns).take i).map V.int)) ∧ Same H H' ∧ kvs.length ≤ i ∧ ∀ z : Int, valV kvs (Sum.inl z) = if lastAt ns i z = -1 then none else some (.int (lastAt ns i z)))) ?h0 ?hl ?hs ?hd
    case h0 => exact ⟨[], _, _, rfl, by kct_strs, upd_same, by kcj_in, Nat.le_refl _, fun z => rfl⟩
    case hl =>
      rintro i σ H' hi ⟨kvs, x, y, rfl, hm, hl', s, hk, hv⟩
      kct_strs
    case hs =>
      rintro i x σ H1 H' hx ⟨kvs, u, y, rfl, hm, hl', s, hk, hv⟩ s2
      obtain ⟨n, hn, rfl⟩ := iv_get hx
      have hi := (List.getElem?_eq_some_iff.mp hn).1
      have hg := getD_of hn
      have nlm : l ≠ m := by kcj_m
      have hln := lastP_len ns
      have hr := lastAt_range ns n i
      have hv' : (valV kvs (Sum.inl n)).getD (.int (-1)) = .int (lastAt ns i n) := by
        rw [hv n]
        by_cases e : lastAt ns i n = -1
        · rw [if_pos e, e]; rfl
        · rw [if_neg e]; rfl
      tb_start
      refine ⟨_, _, _, rfl, by kct_strs, lst_cast (by kct_strs) ?_, by kcj_in, ?_, fun z => ?_⟩
      · rw [lastP_take hi, hg, List.map_append]
        exact congrArg (fun v => (List.map V.int (List.take i (lastP ns))) ++ [v]) hv'
      · exact Nat.le_trans (putK_le _ _ _) (by omega)
      · rw [val_put, hv z]
        show _ = if (if ns.getD i 0 = z then (i : Int) else lastAt ns i z) = -1 then none else some (V.int (if ns.getD i 0 = z then (i : Int) else lastAt ns i z))
        rw [hg]
        by_cases e : z = n
        · rw [if_pos e, if_pos e.symm, if_neg (by omega)]
        · have e2 : ¬ n = z := fun h => e h.symm
          simp only [if_neg e, if_neg e2]
    case hd =>
      rintro σ H' ⟨kvs, x, y, rfl, hm, hl', s, hk, hv⟩
      rw [List.length_map, ← lastP_len ns, List.take_length] at hl'
      tb_start
      exact q _ _ hl' s (by cc_off)
end
end Ur
namespace Ur
open PySem L2
/-- the next places, a new list -/
def sp_next_places (K : PySem.W.Frag) : Sp := fun vs H Q _ => ∃ (a : Addr) (ns : List Int), vs = [.ref a] ∧ SqL K H a (ns.map V.int) ∧ ns.length ≤ 1000 ∧ ∀ p H', H' p = some (.lst ((nextP ns).map V.int)) → Same H H' → H p = none → Q (.ref p) H'
section
variable {P : Program} {w : World} {K : PySem.W.Frag} {mg : Str → Option Value} {base : Heap} {A : Adr}
theorem ok_next_places (T : Txt K mg A) : FnOk P w K mg base CX0 2 A.f_next_places A.d_next_places ["row"] (sp_next_places K) := by
  have G_last_places := ok_last_places (P := P) (w := w) (base := base) T
  refine T.F_next_places.ok sc_next_places (fun vs H Q E h => ?_) (fun cdv Ar outer s H vs Q E hr h => ?_)
  · obtain ⟨a, ns, rfl, _⟩ := h
    rfl
  · obtain ⟨a, ns, rfl, ha, hl, q⟩ := h
    refine ⟨_, (pss_cons (ps_set (i := 1) sc_next_places.nd rfl (Or.inl rfl) (pe_op op_rep (pe_lst (pa_cons (Ur.pe_b1 (Ur.call_lenIK (K := K) rfl) (by rfl) T.m_len (by decide +kernel) (pv 0)) pa_nil)) (Ur.pe_b1 (Ur.call_lenIK (K := K) rfl) (by rfl) T.m_len (by decide +kernel) (pv 0))))
    (pss_cons (ps_for PassesOwn.never (by rfl) (pi_enum (by rfl) T.m_enumerate (pa_cons (pe_call G_last_places (hr.mono (by decide)) (by rfl) T.g_last_places T.F_last_places.kp T.b_last_places .nil pass0 (pa_cons (pv 0) pa_nil)) pa_nil)) (pg_tup (by rfl) (pgs_cons (pg_name (i := 2) sc_next_places.nd rfl (Or.inl rfl)) (pgs_cons (pg_name (i := 3) sc_next_places.nd rfl (Or.inl rfl)) pgs_nil))) (pss_one (ps_if (pt_cmpR op_ge (pv 3) pe_int (nomark _)) (pss_one (ps_asg (pv 2) (pg_sub (pv 1) (pv 3) set_list))) pss_nil)))
    (pss_one (ps_ret (pv 1))))), ?_⟩
    tb_start
    intro l0 nl0
    tb_start
    intro l nl
    tb_start
    intro p H2 e2 s2 np
    tb_start
    refine for_enum (xs := (lastP ns).map V.int) (fun i σ H' => Iv (∃ (x y : Option V), σ = [some (.ref a), some (.ref l), x, y] ∧ H' l = some (.lst (((List.range ns.length).map fun k => nextUp ns k i).map V.int)) ∧ H' p = some (.lst ((lastP ns).map V.int)) ∧ Same H H')) ?h0 ?hl ?hs ?hd
    case h0 =>
      refine ⟨_, _, rfl, lst_cast (by kct_strs) ?_, by kct_strs, by kcj_in⟩
      rw [Int.toNat_natCast]
      show _ = List.map V.int ((List.range ns.length).map fun _ => (ns.length : Int))
      rw [List.map_const', List.length_range]
    case hl =>
      rintro i σ H' hi ⟨x, y, rfl, hl', hp, s⟩
      kct_strs
    case hs =>
      rintro i x σ H1 H' hx ⟨u, y, rfl, hl', hp, s⟩ s3
      obtain ⟨n, hn, rfl⟩ := iv_get hx
      have hil : i < ns.length := by
        have h := (List.getElem?_eq_some_iff.mp hn).1
        rw [lastP_len] at h
        exact h
      have e : n = lastAt ns i (ns.getD i 0) := by
        rw [lastP_get hil] at hn
        exact (Option.some.inj hn).symm
      have hr := lastAt_range ns (ns.getD i 0) i
      rw [← e] at hr
      have hml : ((List.range ns.length).map fun k => nextUp ns k i).length = ns.length := by rw [List.length_map, List.length_range]
      have step : ((List.range ns.length).map fun k => nextUp ns k (i + 1)) = if 0 ≤ n then ((List.range ns.length).map fun k => nextUp ns k i).set n.toNat i else (List.range ns.length).map fun k => nextUp ns k i := by
        refine List.ext_getElem? fun k => ?_
        by_cases hk : k < ns.length
        · rw [List.getElem?_map, List.getElem?_range hk]
          show some (nextUp ns k (i + 1)) = _
          rw [nextUp_step hil hk, ← e]
          by_cases h0 : 0 ≤ n
          · rw [if_pos h0, List.getElem?_set, hml]
            by_cases hnk : n = (k : Int)
            · rw [if_pos hnk, if_pos (by omega), if_pos (by omega)]
            · rw [if_neg hnk, if_neg (by omega), List.getElem?_map, List.getElem?_range hk]
              rfl
          · rw [if_neg h0, if_neg (by omega), List.getElem?_map, List.getElem?_range hk]
            rfl
        · rw [List.getElem?_eq_none (by rw [List.length_map, List.length_range]; omega)]
          split
          · rw [List.getElem?_eq_none (by rw [List.length_set, hml]; omega)]
          · rw [List.getElem?_eq_none (by rw [hml]; omega)]
      tb_start
      refine br (fun h => ?_) (fun h => ?_)
      · tb_start
        refine ⟨_, _, rfl, lst_cast (by kct_strs) ?_, by kct_strs, by kcj_in⟩
        rw [step, if_pos h]
      · refine ⟨_, _, rfl, lst_cast (by kct_strs) ?_, by kct_strs, by kcj_in⟩
        rw [step, if_neg h]
    case hd =>
      rintro σ H' ⟨x, y, rfl, hl', hp, s⟩
      tb_start
      refine q _ _ (lst_cast hl' ?_) s (by cc_off)
      rw [List.length_map, lastP_len]
      rfl
end
end Ur
namespace Ur
open PySem L2
/-- made ready -/
def sp_Ready___init__ (K : PySem.W.Frag) (C : Addr) : Sp := fun vs H Q _ => ∃ (o a dx : Addr) (ns : List Int), vs = [.ref o, .ref a] ∧ H o = some (.ins C dx []) ∧ H a = some (.lst (ns.map V.int)) ∧ ns.length ≤ 1000 ∧ ∀ la na H', H' o = some (.ins C dx (rdyF ns.length la na)) → H' la = some (.lst ((lastP ns).map V.int)) → H' na = some (.lst ((nextP ns).map V.int)) → H la = none → H na = none → But o H H' → Q .non H'
section
variable {P : Program} {w : World} {K : PySem.W.Frag} {mg : Str → Option Value} {base : Heap} {A : Adr}
theorem ok_Ready___init__ (T : Txt K mg A) : FnOk P w K mg base CX0 3 A.f_Ready___init__ A.d_Ready___init__ ["self", "row"] (sp_Ready___init__ K A.c_Ready) := by
  have G_last_places := ok_last_places (P := P) (w := w) (base := base) T
  have G_next_places := ok_next_places (P := P) (w := w) (base := base) T
  refine T.F_Ready___init__.ok sc_Ready___init__ (fun vs H Q E h => ?_) (fun cdv Ar outer s H vs Q E hr h => ?_)
  · obtain ⟨o, a, dx, ns, rfl, _⟩ := h
    rfl
  · have C_Ready := T.C_Ready
    have n_Ready_many := T.n_Ready_many
    have n_Ready_lasts := T.n_Ready_lasts
    have n_Ready_nexts := T.n_Ready_nexts
    obtain ⟨o, a, dx, ns, rfl, eo, ha, hl, q⟩ := h
    refine ⟨_, (pss_cons (ps_fld (pv 0) (Ur.pe_b1 (Ur.call_lenIK (K := K) rfl) (by rfl) T.m_len (by decide +kernel) (pv 1)) rfl)
    (pss_cons (ps_fld (pv 0) (pe_call G_last_places (hr.mono (by decide)) (by rfl) T.g_last_places T.F_last_places.kp T.b_last_places .nil pass0 (pa_cons (pv 1) pa_nil)) rfl)
    (pss_one (ps_fld (pv 0) (pe_call G_next_places (hr.mono (by decide)) (by rfl) T.g_next_places T.F_next_places.kp T.b_next_places .nil pass0 (pa_cons (pv 1) pa_nil)) rfl)))), ?_⟩
    tb_start
    intro la H1 e1 s1 f1
    have eo1 := s1 o _ upd_same
    have hf1 := upd_none f1
    repeat (rename H _ = some _ => hx; first | (have hA := Ur.adv0 s1 hx; obtain ⟨hz, hw, hv⟩ := hA; (first | have := hw _ f1 | have := hv _ f1); clear hw hv hx; rename H1 _ = some _ => hq) | (have hA := Ur.adv1 s1 (by kcj_m) hx; obtain ⟨hz, hw, hv⟩ := hA; (first | have := hw _ f1 | have := hv _ f1); clear hw hv hx; rename H1 _ = some _ => hq) | (have hA := Ur.adv2 s1 (by kcj_m) (by kcj_m) hx; obtain ⟨hz, hw, hv⟩ := hA; (first | have := hw _ f1 | have := hv _ f1); clear hw hv hx; rename H1 _ = some _ => hq) | (have hA := Ur.adv3 s1 (by kcj_m) (by kcj_m) (by kcj_m) hx; obtain ⟨hz, hw, hv⟩ := hA; (first | have := hw _ f1 | have := hv _ f1); clear hw hv hx; rename H1 _ = some _ => hq) | (have hA := Ur.adv4 s1 (by kcj_m) (by kcj_m) (by kcj_m) (by kcj_m) hx; obtain ⟨hz, hw, hv⟩ := hA; (first | have := hw _ f1 | have := hv _ f1); clear hw hv hx; rename H1 _ = some _ => hq) | (have hA := Ur.adv5 s1 (by kcj_m) (by kcj_m) (by kcj_m) (by kcj_m) (by kcj_m) hx; obtain ⟨hz, hw, hv⟩ := hA; (first | have := hw _ f1 | have := hv _ f1); clear hw hv hx; rename H1 _ = some _ => hq) | (have hA := Ur.adv6 s1 (by kcj_m) (by kcj_m) (by kcj_m) (by kcj_m) (by kcj_m) (by kcj_m) hx; obtain ⟨hz, hw, hv⟩ := hA; (first | have := hw _ f1 | have := hv _ f1); clear hw hv hx; rename H1 _ = some _ => hq) | (have hA := Ur.adv7 s1 (by kcj_m) (by kcj_m) (by kcj_m) (by kcj_m) (by kcj_m) (by kcj_m) (by kcj_m) hx; obtain ⟨hz, hw, hv⟩ := hA; (first | have := hw _ f1 | have := hv _ f1); clear hw hv hx; rename H1 _ = some _ => hq) | clear hx)
    tb_start
    intro na H2 e2 s2 f2
    have eo2 := s2 o _ upd_same
    have hf2 := upd_none (s1.free (upd_none f2))
    have ho2 : o ≠ na := by kcj_m
    repeat (rename H1 _ = some _ => hx; first | (have hA := Ur.adv0 s2 hx; obtain ⟨hz, hw, hv⟩ := hA; (first | have := hw _ f2 | have := hv _ f2); clear hw hv hx; rename H2 _ = some _ => hq) | (have hA := Ur.adv1 s2 (by kcj_m) hx; obtain ⟨hz, hw, hv⟩ := hA; (first | have := hw _ f2 | have := hv _ f2); clear hw hv hx; rename H2 _ = some _ => hq) | (have hA := Ur.adv2 s2 (by kcj_m) (by kcj_m) hx; obtain ⟨hz, hw, hv⟩ := hA; (first | have := hw _ f2 | have := hv _ f2); clear hw hv hx; rename H2 _ = some _ => hq) | (have hA := Ur.adv3 s2 (by kcj_m) (by kcj_m) (by kcj_m) hx; obtain ⟨hz, hw, hv⟩ := hA; (first | have := hw _ f2 | have := hv _ f2); clear hw hv hx; rename H2 _ = some _ => hq) | (have hA := Ur.adv4 s2 (by kcj_m) (by kcj_m) (by kcj_m) (by kcj_m) hx; obtain ⟨hz, hw, hv⟩ := hA; (first | have := hw _ f2 | have := hv _ f2); clear hw hv hx; rename H2 _ = some _ => hq) | (have hA := Ur.adv5 s2 (by kcj_m) (by kcj_m) (by kcj_m) (by kcj_m) (by kcj_m) hx; obtain ⟨hz, hw, hv⟩ := hA; (first | have := hw _ f2 | have := hv _ f2); clear hw hv hx; rename H2 _ = some _ => hq) | (have hA := Ur.adv6 s2 (by kcj_m) (by kcj_m) (by kcj_m) (by kcj_m) (by kcj_m) (by kcj_m) hx; obtain ⟨hz, hw, hv⟩ := hA; (first | have := hw _ f2 | have := hv _ f2); clear hw hv hx; rename H2 _ = some _ => hq) | (have hA := Ur.adv7 s2 (by kcj_m) (by kcj_m) (by kcj_m) (by kcj_m) (by kcj_m) (by kcj_m) (by kcj_m) hx; obtain ⟨hz, hw, hv⟩ := hA; (first | have := hw _ f2 | have := hv _ f2); clear hw hv hx; rename H2 _ = some _ => hq) | clear hx)
    tb_start
    exact q la na _ (show _ = some (.ins A.c_Ready dx (rdyF _ la na)) from upd_same) (by kct_strs) (by kct_strs) hf1 hf2 (by cc_are)
end
/-- a row made ready, where it is made -/
theorem mk_rdy {K : PySem.W.Frag} {C a x dx : Addr} {H : Hp} {ns : List Int} {R : Hp → Prop} {E : XK} (nx : H x = none) (nd : H dx = none) (ne : dx ≠ x) (ha : H a = some (.lst (ns.map V.int))) (hl : ns.length ≤ 1000)
    (q : ∀ H', Rdy C (fun b => H b ≠ none) H' x ns → Same H H' → R H') :
    sp_Ready___init__ K C ([.ref x, .ref a]) (upd (upd H dx (.own x)) x (.ins C dx [])) (fun v H2 => v = .non ∧ R H2) E := by
  have s1 : Same H (upd (upd H dx (.own x)) x (.ins C dx [])) := same_upd' nx (same_new nd)
  refine ⟨x, a, dx, ns, rfl, upd_same, s1 _ _ ha, hl, fun la na H' e1 e2 e3 n1 n2 b => ⟨rfl, ?_⟩⟩
  have s2 : Same H H' := same_but b nx s1
  refine q H' ⟨dx, la, na, e1, e2, e3, fun b hb => ?_⟩ s2
  refine ⟨fun e => hb (e ▸ nx), fun e => hb (e ▸ s1.free n1), fun e => hb (e ▸ s1.free n2)⟩
end Ur
namespace Ur
open PySem L2
/-- whether a thing is a whole number -/
def sp_is_whole (K : PySem.W.Frag) : Sp := fun vs H Q _ => ∃ (v : V) (b : Bool), vs = [v] ∧ IsW H v b ∧ Q (.bl b) H
section
variable {P : Program} {w : World} {K : PySem.W.Frag} {mg : Str → Option Value} {base : Heap} {A : Adr}
theorem ok_is_whole (T : Txt K mg A) : FnOk P w K mg base CX0 1 A.f_is_whole A.d_is_whole ["thing"] (sp_is_whole K) := by
  refine T.F_is_whole.ok sc_is_whole (fun vs H Q E h => ?_) (fun cdv Ar outer s H vs Q E hr h => ?_)
  · obtain ⟨v, b, rfl, _⟩ := h
    rfl
  · obtain ⟨v, b, rfl, hw, q⟩ := h
    refine ⟨_, (pss_one (ps_ret (pe_and (Ur.pe_b2 (Ur.call_isiK (K := K) rfl) (by rfl) T.m_isinstance (by decide +kernel) (pv 0) (pe_bltn (v := .ty "int") (by rfl) T.m_int (by decide +kernel) rfl)) (pe_one (pe_not (Ur.pe_b2 (Ur.call_isiK (K := K) rfl) (by rfl) T.m_isinstance (by decide +kernel) (pv 0) (pe_bltn (v := .ty "bool") (by rfl) T.m_bool (by decide +kernel) rfl))))))), ?_⟩
    rcases hw with ⟨rfl, i, rfl⟩ | ⟨rfl, hk, hn⟩
    · tb_start
      exact q
    · rcases hk with ⟨i, rfl⟩ | ⟨c, rfl⟩ | ⟨x, rfl⟩ | rfl | ⟨p, xs, rfl, hp⟩ | ⟨p, xs, rfl, hp⟩ | ⟨p, xs, rfl, hp⟩
      · exact (hn i rfl).elim
      all_goals
        tb_start
        exact q
end
end Ur
namespace Ur
open PySem L2
/-- a place is let by -/
def sp_Ready_need_place (K : PySem.W.Frag) (C : Addr) : Sp := fun vs H Q _ => ∃ (L : Addr → Prop) (o : Addr) (p : Int) (ns : List Int), vs = [.ref o, .int p] ∧ Rdy C L H o ns ∧ 0 ≤ p ∧ p ≤ ns.length ∧ Q .non H
section
variable {P : Program} {w : World} {K : PySem.W.Frag} {mg : Str → Option Value} {base : Heap} {A : Adr}
theorem ok_Ready_need_place (T : Txt K mg A) : FnOk P w K mg base CX0 2 A.f_Ready_need_place A.d_Ready_need_place ["self", "place"] (sp_Ready_need_place K A.c_Ready) := by
  have G_is_whole := ok_is_whole (P := P) (w := w) (base := base) T
  refine T.F_Ready_need_place.ok sc_Ready_need_place (fun vs H Q E h => ?_) (fun cdv Ar outer s H vs Q E hr h => ?_)
  · obtain ⟨L, o, p, ns, rfl, _⟩ := h
    rfl
  · have C_Ready := T.C_Ready
    have n_Ready_many := T.n_Ready_many
    have n_Ready_lasts := T.n_Ready_lasts
    have n_Ready_nexts := T.n_Ready_nexts
    obtain ⟨L, o, p, ns, rfl, r, h0, h1, q⟩ := h
    obtain ⟨dx, la, na, eo, el, en, _⟩ := r.all
    refine ⟨_, (pss_one (ps_if (PW.pt (pw_or (pt_not (pt_val (pe_call G_is_whole (hr.mono (by decide)) (by rfl) T.g_is_whole T.F_is_whole.kp T.b_is_whole .nil pass0 (pa_cons (pv 1) pa_nil)))) (pw_or1 (pt_not (pt_chain op_le op_le pe_int (pv 1) (Ur.pe_fldK (K := K) rfl (pv 0) rfl)))))) (pss_one Ur.ps_never) pss_nil)), ?_⟩
    tb_start
    trace_state
    exact q
end
end Ur
namespace Ur
open PySem L2
/-- the greatest first place of a window with so many unlike numbers -/
def sp_Ready_begin_of (K : PySem.W.Frag) (C : Addr) : Sp := fun vs H Q _ => ∃ (L : Addr → Prop) (o : Addr) (b m : Int) (ns : List Int), vs = [.ref o, .int b, .int m] ∧ Rdy C L H o ns ∧ 0 ≤ b ∧ b ≤ ns.length ∧ ns.length ≤ 1000 ∧ Q (optV (begAt ns b.toNat m)) H
section
variable {P : Program} {w : World} {K : PySem.W.Frag} {mg : Str → Option Value} {base : Heap} {A : Adr}
theorem ok_Ready_begin_of (T : Txt K mg A) : FnOk P w K mg base CX0 3 A.f_Ready_begin_of A.d_Ready_begin_of ["self", "behind", "many"] (sp_Ready_begin_of K A.c_Ready) := by
  have G_Ready_need_place := ok_Ready_need_place (P := P) (w := w) (base := base) T
  refine T.F_Ready_begin_of.ok sc_Ready_begin_of (fun vs H Q E h => ?_) (fun cdv Ar outer s H vs Q E hr h => ?_)
  · obtain ⟨L, o, b, m, ns, rfl, _⟩ := h
    rfl
  · have C_Ready := T.C_Ready
    have n_Ready_many := T.n_Ready_many
    have n_Ready_lasts := T.n_Ready_lasts
    have n_Ready_nexts := T.n_Ready_nexts
    obtain ⟨L, o, b, m, ns, rfl, r, h0, h1, hl, q⟩ := h
    obtain ⟨dx, la, na, eo, el, en, _⟩ := r.all
    have hnp := nextP_len ns
    refine ⟨_, (pss_cons (ps_expr (pe_meth (pv 0) T.C_Ready T.M_Ready_need_place G_Ready_need_place (hr.mono (by decide)) T.b_Ready_need_place .nil pass0 (pa_cons (pv 1) pa_nil)))
    (pss_cons (ps_set (i := 3) sc_Ready_begin_of.nd rfl (Or.inl rfl) (pv 2))
    (pss_cons (ps_set (i := 4) sc_Ready_begin_of.nd rfl (Or.inl rfl) (pv 1))
    (pss_cons (ps_while PassesOwn.never (pt_cmpR op_gt (pv 3) pe_int (nomark _)) (pss_cons (ps_if (pt_cmpR op_eq (pv 4) pe_int (nomark _)) (pss_one (ps_ret pe_non)) pss_nil)
    (pss_cons (ps_aug (i := 4) sc_Ready_begin_of.nd rfl (Or.inl rfl) pe_int ip_sub)
    (pss_one (ps_aug (i := 3) sc_Ready_begin_of.nd rfl (Or.inl rfl) (Ur.pe_t1 call_int1 (by rfl) T.m_int (by decide +kernel) (pe_cmpR op_ge (pe_ix (Ur.ix_listK (K := K) rfl) (Ur.pe_fldK (K := K) rfl (pv 0) rfl) (pv 4) (fun _ _ => rfl)) (pv 1) (nomark _))) ip_sub)))))
    (pss_one (ps_ret (pv 4))))))), ?_⟩
    tb_start
    refine while_ans (fun mu σ H' => Iv (∃ (g : Nat) (lf fs : Int), σ = [some (.ref o), some (.int b), some (.int m), some (.int lf), some (.int fs)] ∧ H' = H ∧ fs = g ∧ g ≤ b.toNat ∧ mu = g ∧ lf = m - (wunN ns g b.toNat : Int) ∧ begAt ns b.toNat m = begK ns b.toNat m g)) b.toNat ?h0 ?hs
    case h0 => exact ⟨b.toNat, _, _, rfl, rfl, by omega, by omega, rfl, by rw [wunN_none]; omega, rfl⟩
    case hs =>
      rintro mu σ H' ⟨g, lf, fs, rfl, rfl, hfs, hg, hmu, hlf, he⟩
      refine ⟨decide (0 < lf), fun Q' q' => ?_, fun hlt => ?_, fun hge => ?_⟩
      · tb_start
        exact q'
      · have hlt' := of_decide_eq_true hlt
        tb_start
        refine bri (fun hn => ?_) (fun hn => ?_)
        · have e0 : begAt ns b.toNat m = none := by
            rw [he, show g = 0 from by omega]
            exact begK_none (by rw [show (0 : Nat) = g from by omega]; omega)
          rw [e0] at q
          tb_start
          exact q
        · have hb3 : g - 1 < ns.length := by omega
          have hlg : (nextP ns).getD (fs - 1).toNat 0 = nx ns (g - 1) := by rw [show (fs - 1).toNat = g - 1 from by omega]; exact nextP_getD hb3
          have hup : wunN ns (g - 1) b.toNat = wunN ns (g - 1 + 1) b.toNat + if (b.toNat : Int) ≤ nx ns (g - 1) then 1 else 0 := wunN_down (ns := ns) (p := g - 1) (b := b.toNat) (by omega) (by omega)
          rw [show g - 1 + 1 = g from by omega] at hup
          have hbn := begK_no (ns := ns) (b := b.toNat) (g := g - 1) (m := m) (by rw [show g - 1 + 1 = g from by omega]; omega)
          rw [show g - 1 + 1 = g from by omega] at hbn
          tb_start
          have hc : decide (b ≤ (nextP ns).getD (fs - 1).toNat 0) = decide ((b.toNat : Int) ≤ nx ns (g - 1)) := by rw [hlg, show (b.toNat : Int) = b from by omega]
          refine ⟨g - 1, _, _, rfl, rfl, (show fs - 1 = _ by omega), by omega, rfl, ?_, ?_⟩
          · rw [hc, hup, hlf]
            show m - (wunN ns g b.toNat : Int) - _ = _
            by_cases hq : (b.toNat : Int) ≤ nx ns (g - 1)
            · rw [if_pos (decide_eq_true hq), if_pos hq]; omega
            · rw [if_neg (by rw [decide_eq_false hq]; exact Bool.false_ne_true), if_neg hq]; omega
          · rw [he, hbn]
          all_goals (first | omega | trace_state)
      · have hge' := of_decide_eq_false hge
        have e0 : begAt ns b.toNat m = some g := by
          rw [he]
          exact begK_yes (by omega)
        rw [e0] at q
        subst hfs
        tb_start
        exact q
end
end Ur
namespace Ur
open PySem L2
/-- the least behind of a window with so many unlike numbers -/
def sp_Ready_end_of (K : PySem.W.Frag) (C : Addr) : Sp := fun vs H Q _ => ∃ (L : Addr → Prop) (o : Addr) (f m : Int) (ns : List Int), vs = [.ref o, .int f, .int m] ∧ Rdy C L H o ns ∧ 0 ≤ f ∧ f ≤ ns.length ∧ ns.length ≤ 1000 ∧ Q (optV (endAt ns f.toNat m)) H
section
variable {P : Program} {w : World} {K : PySem.W.Frag} {mg : Str → Option Value} {base : Heap} {A : Adr}
theorem ok_Ready_end_of (T : Txt K mg A) : FnOk P w K mg base CX0 3 A.f_Ready_end_of A.d_Ready_end_of ["self", "first", "many"] (sp_Ready_end_of K A.c_Ready) := by
  have G_Ready_need_place := ok_Ready_need_place (P := P) (w := w) (base := base) T
  refine T.F_Ready_end_of.ok sc_Ready_end_of (fun vs H Q E h => ?_) (fun cdv Ar outer s H vs Q E hr h => ?_)
  · obtain ⟨L, o, f, m, ns, rfl, _⟩ := h
    rfl
  · have C_Ready := T.C_Ready
    have n_Ready_many := T.n_Ready_many
    have n_Ready_lasts := T.n_Ready_lasts
    have n_Ready_nexts := T.n_Ready_nexts
    obtain ⟨L, o, f, m, ns, rfl, r, h0, h1, hl, q⟩ := h
    obtain ⟨dx, la, na, eo, el, en, _⟩ := r.all
    have hlp := lastP_len ns
    refine ⟨_, (pss_cons (ps_expr (pe_meth (pv 0) T.C_Ready T.M_Ready_need_place G_Ready_need_place (hr.mono (by decide)) T.b_Ready_need_place .nil pass0 (pa_cons (pv 1) pa_nil)))
    (pss_cons (ps_set (i := 3) sc_Ready_end_of.nd rfl (Or.inl rfl) (pv 2))
    (pss_cons (ps_set (i := 4) sc_Ready_end_of.nd rfl (Or.inl rfl) (pv 1))
    (pss_cons (ps_while PassesOwn.never (pt_cmpR op_gt (pv 3) pe_int (nomark _)) (pss_cons (ps_if (pt_cmpR op_eq (pv 4) (Ur.pe_fldK (K := K) rfl (pv 0) rfl) (nomark _)) (pss_one (ps_ret pe_non)) pss_nil)
    (pss_cons (ps_aug (i := 3) sc_Ready_end_of.nd rfl (Or.inl rfl) (Ur.pe_t1 call_int1 (by rfl) T.m_int (by decide +kernel) (pe_cmpR op_lt (pe_ix (Ur.ix_listK (K := K) rfl) (Ur.pe_fldK (K := K) rfl (pv 0) rfl) (pv 4) (fun _ _ => rfl)) (pv 1) (nomark _))) ip_sub)
    (pss_one (ps_aug (i := 4) sc_Ready_end_of.nd rfl (Or.inl rfl) pe_int ip_add)))))
    (pss_one (ps_ret (pv 4))))))), ?_⟩
    tb_start
    refine while_ans (fun mu σ H' => Iv (∃ (b : Nat) (lf bh : Int), σ = [some (.ref o), some (.int f), some (.int m), some (.int lf), some (.int bh)] ∧ H' = H ∧ bh = b ∧ f.toNat ≤ b ∧ b ≤ ns.length ∧ mu = ns.length - b ∧ lf = m - (wunN ns f.toNat b : Int) ∧ endAt ns f.toNat m = endK ns f.toNat m (ns.length - b))) (ns.length - f.toNat) ?h0 ?hs
    case h0 => exact ⟨f.toNat, _, _, rfl, rfl, by omega, by omega, by omega, rfl, by rw [wunN_none]; omega, rfl⟩
    case hs =>
      rintro mu σ H' ⟨b, lf, bh, rfl, rfl, hbh, hb1, hb2, hmu, hlf, he⟩
      refine ⟨decide (0 < lf), fun Q' q' => ?_, fun hlt => ?_, fun hge => ?_⟩
      · tb_start
        exact q'
      · have hlt' := of_decide_eq_true hlt
        tb_start
        refine bri (fun hn => ?_) (fun hn => ?_)
        · have e0 : endAt ns f.toNat m = none := by
            rw [he, show ns.length - b = 0 from by omega]
            exact endK_none (by rw [show ns.length = b from by omega]; omega)
          rw [e0] at q
          tb_start
          exact q
        · have hb3 : b < ns.length := by omega
          have hlg : (lastP ns).getD bh.toNat 0 = lp ns b := by rw [show bh.toNat = b from by omega]; exact lastP_getD hb3
          have hup : wunN ns f.toNat (b + 1) = wunN ns f.toNat b + if lp ns b < (f.toNat : Int) then 1 else 0 := wunN_up hb1 hb3
          tb_start
          have hc : decide ((lastP ns).getD bh.toNat 0 < f) = decide (lp ns b < (f.toNat : Int)) := by rw [hlg, show (f.toNat : Int) = f from by omega]
          refine ⟨b + 1, _, _, rfl, rfl, (show bh + 1 = _ by omega), by omega, by omega, rfl, ?_, ?_⟩
          · rw [hc, hup, hlf]
            show m - (wunN ns f.toNat b : Int) - _ = _
            by_cases hq : lp ns b < (f.toNat : Int)
            · rw [if_pos (decide_eq_true hq), if_pos hq]; omega
            · rw [if_neg (by rw [decide_eq_false hq]; exact Bool.false_ne_true), if_neg hq]; omega
          · rw [he, show ns.length - b = (ns.length - (b + 1)) + 1 from by omega]
            exact endK_no (by rw [show ns.length - (ns.length - (b + 1) + 1) = b from by omega]; omega)
          · omega
      · have hge' := of_decide_eq_false hge
        have e0 : endAt ns f.toNat m = some b := by
          rw [he]
          have := endK_yes (ns := ns) (f := f.toNat) (k := ns.length - b) (m := m) (by rw [show ns.length - (ns.length - b) = b from by omega]; omega)
          rw [this, show ns.length - (ns.length - b) = b from by omega]
        rw [e0] at q
        subst hbh
        tb_start
        exact q
end
end Ur
namespace Ur
open PySem L2
/-- a window is let by -/
def sp_Ready_need_window (K : PySem.W.Frag) (C : Addr) : Sp := fun vs H Q _ => ∃ (L : Addr → Prop) (o : Addr) (f b : Int) (ns : List Int), vs = [.ref o, .int f, .int b] ∧ Rdy C L H o ns ∧ 0 ≤ f ∧ f ≤ b ∧ b ≤ ns.length ∧ Q .non H
section
variable {P : Program} {w : World} {K : PySem.W.Frag} {mg : Str → Option Value} {base : Heap} {A : Adr}
theorem ok_Ready_need_window (T : Txt K mg A) : FnOk P w K mg base CX0 3 A.f_Ready_need_window A.d_Ready_need_window ["self", "first", "behind"] (sp_Ready_need_window K A.c_Ready) := by
  have G_Ready_need_place := ok_Ready_need_place (P := P) (w := w) (base := base) T
  refine T.F_Ready_need_window.ok sc_Ready_need_window (fun vs H Q E h => ?_) (fun cdv Ar outer s H vs Q E hr h => ?_)
  · obtain ⟨L, o, f, b, ns, rfl, _⟩ := h
    rfl
  · have C_Ready := T.C_Ready
    have n_Ready_many := T.n_Ready_many
    have n_Ready_lasts := T.n_Ready_lasts
    have n_Ready_nexts := T.n_Ready_nexts
    obtain ⟨L, o, f, b, ns, rfl, r, h0, h1, h2, q⟩ := h
    obtain ⟨dx, la, na, eo, el, en, _⟩ := r.all
    refine ⟨_, (pss_cons (ps_expr (pe_meth (pv 0) T.C_Ready T.M_Ready_need_place G_Ready_need_place (hr.mono (by decide)) T.b_Ready_need_place .nil pass0 (pa_cons (pv 1) pa_nil)))
    (pss_cons (ps_expr (pe_meth (pv 0) T.C_Ready T.M_Ready_need_place G_Ready_need_place (hr.mono (by decide)) T.b_Ready_need_place .nil pass0 (pa_cons (pv 2) pa_nil)))
    (pss_one (ps_if (pt_cmpR op_gt (pv 1) (pv 2) (nomark _)) (pss_one Ur.ps_never) pss_nil)))), ?_⟩
    tb_start
    trace_state
    exact q
end
end Ur
namespace Ur
open PySem L2
/-- the first places of a window, a new list -/
def sp_Ready_firsts (K : PySem.W.Frag) (C : Addr) : Sp := fun vs H Q _ => ∃ (L : Addr → Prop) (o : Addr) (f b : Int) (ns : List Int), vs = [.ref o, .int f, .int b] ∧ Rdy C L H o ns ∧ 0 ≤ f ∧ f ≤ b ∧ b ≤ ns.length ∧ ns.length ≤ 1000 ∧ ∀ p H', H' p = some (.lst ((firP ns f b).map V.int)) → Same H H' → H p = none → Q (.ref p) H'
section
variable {P : Program} {w : World} {K : PySem.W.Frag} {mg : Str → Option Value} {base : Heap} {A : Adr}
theorem ok_Ready_firsts (T : Txt K mg A) : FnOk P w K mg base CX0 4 A.f_Ready_firsts A.d_Ready_firsts ["self", "first", "behind"] (sp_Ready_firsts K A.c_Ready) := by
  have G_Ready_need_window := ok_Ready_need_window (P := P) (w := w) (base := base) T
  refine T.F_Ready_firsts.ok sc_Ready_firsts (fun vs H Q E h => ?_) (fun cdv Ar outer s H vs Q E hr h => ?_)
  · obtain ⟨L, o, f, b, ns, rfl, _⟩ := h
    rfl
  · have C_Ready := T.C_Ready
    have n_Ready_many := T.n_Ready_many
    have n_Ready_lasts := T.n_Ready_lasts
    have n_Ready_nexts := T.n_Ready_nexts
    obtain ⟨L, o, f, b, ns, rfl, r, h0, h1, h2, hl, q⟩ := h
    obtain ⟨dx, la, na, eo, el, en, _⟩ := r.all
    have hlp := lastP_len ns
    refine ⟨_, (pss_cons (ps_expr (pe_meth (pv 0) T.C_Ready T.M_Ready_need_window G_Ready_need_window (hr.mono (by decide)) T.b_Ready_need_window .nil pass0 (pa_cons (pv 1) (pa_cons (pv 2) pa_nil))))
    (pss_one (ps_ret (pe_lc (own := [("place", 3)]) (g := gName 3) (by rfl) sc_Ready_firsts.nd (pi_range2 (by rfl) T.m_range (pa_cons (pv 1) (pa_cons (pv 2) pa_nil))) (blkOk_by (own := [("place", 3)]) (N := ["self", "first", "behind", "place"]) (by kernel_rfl)) (fun _ _ _ _ _ => pg_name (i := 3) sc_Ready_firsts.nd rfl (Or.inl rfl)) (fun _ _ _ _ _ => pts_one (pt_cmpR op_lt (pe_ix (Ur.ix_listK (K := K) rfl) (Ur.pe_fldK (K := K) rfl (pv 0) rfl) (pv 3) (fun _ _ => rfl)) (pv 1) (nomark _))) (fun _ _ _ _ _ => (pv 3)))))), ?_⟩
    tb_start
    intro D nD
    refine lc_rngIfI (fun k => decide (lp ns (f.toNat + k) < f)) (fun k => f + (k : Nat)) (by omega) nD (fun _ => rfl) ?ht ?he ?hd
    case ht =>
      intro k H' hk s Q2 q2
      have e : (lastP ns).getD (f + (k : Int)).toNat 0 = lp ns (f.toNat + k) := by
        rw [show (f + (k : Int)).toNat = f.toNat + k from by omega]
        exact lastP_getD (by omega)
      have eo' := s _ _ eo
      have el' := s _ _ el
      tb_start
      exact qbl (q2 _ (by kcj_in)) (by rw [e])
    case he =>
      intro k H' hk _ s Q2 q2
      tb_start
      exact q2 _ (by kcj_in)
    case hd =>
      intro H' s e
      exact q _ _ e (by kcj_in) nD
end
end Ur
namespace Ur
open PySem L2
/-- how many unlike numbers a window has -/
def sp_Ready_unlike (K : PySem.W.Frag) (C : Addr) : Sp := fun vs H Q _ => ∃ (L : Addr → Prop) (o : Addr) (f b : Int) (ns : List Int), vs = [.ref o, .int f, .int b] ∧ Rdy C L H o ns ∧ 0 ≤ f ∧ f ≤ b ∧ b ≤ ns.length ∧ ns.length ≤ 1000 ∧ ∀ H', Same H H' → Q (.int (wun ns f b : Nat)) H'
section
variable {P : Program} {w : World} {K : PySem.W.Frag} {mg : Str → Option Value} {base : Heap} {A : Adr}
theorem ok_Ready_unlike (T : Txt K mg A) : FnOk P w K mg base CX0 4 A.f_Ready_unlike A.d_Ready_unlike ["self", "first", "behind"] (sp_Ready_unlike K A.c_Ready) := by
  have G_Ready_need_window := ok_Ready_need_window (P := P) (w := w) (base := base) T
  refine T.F_Ready_unlike.ok sc_Ready_unlike (fun vs H Q E h => ?_) (fun cdv Ar outer s H vs Q E hr h => ?_)
  · obtain ⟨L, o, f, b, ns, rfl, _⟩ := h
    rfl
  · have C_Ready := T.C_Ready
    have n_Ready_many := T.n_Ready_many
    have n_Ready_lasts := T.n_Ready_lasts
    have n_Ready_nexts := T.n_Ready_nexts
    obtain ⟨L, o, f, b, ns, rfl, r, h0, h1, h2, hl, q⟩ := h
    obtain ⟨dx, la, na, eo, el, en, _⟩ := r.all
    have hlp := lastP_len ns
    refine ⟨_, (pss_cons (ps_expr (pe_meth (pv 0) T.C_Ready T.M_Ready_need_window G_Ready_need_window (hr.mono (by decide)) T.b_Ready_need_window .nil pass0 (pa_cons (pv 1) (pa_cons (pv 2) pa_nil))))
    (pss_one (ps_ret (Ur.pe_b1 (Ur.call_lenIK (K := K) rfl) (by rfl) T.m_len (by decide +kernel) (pe_lc (own := [("last", 3)]) (g := gName 3) (by rfl) sc_Ready_unlike.nd (pi_list (pe_slice (Ur.sl_listK (K := K) rfl) (Ur.pe_fldK (K := K) rfl (pv 0) rfl) (po_some (pv 1)) (po_some (pv 2)))) (blkOk_by (own := [("last", 3)]) (N := ["self", "first", "behind", "last"]) (by kernel_rfl)) (fun _ _ _ _ _ => pg_name (i := 3) sc_Ready_unlike.nd rfl (Or.inl rfl)) (fun _ _ _ _ _ => pts_one (pt_cmpR op_lt (pv 3) (pv 1) (nomark _))) (fun _ _ _ _ _ => (pv 3))))))), ?_⟩
    tb_start
    intro p np
    tb_start
    intro D nD
    have hwl : (((lastP ns).drop f.toNat).take (b.toNat - f.toNat)).length ≤ 1000 := by rw [List.length_take, List.length_drop]; omega
    refine lc_intsIfI (ns := ((lastP ns).drop f.toNat).take (b.toNat - f.toNat)) (fun x => decide (x < f)) (fun x => x) (by omega) (by kct_strs) nD (fun _ => rfl) ?ht ?he ?hd
    case ht =>
      intro x H' hx s Q2 q2
      tb_start
      exact q2 _ (by kcj_in)
    case he =>
      intro x H' hx ht s Q2 q2
      tb_start
      exact q2 _ (by kcj_in)
    case hd =>
      intro H' s e
      tb_start
      rw [List.length_map, wun_lasts h0 h1 h2]
      exact q _ (by kcj_in)
end
end Ur
namespace Ur
open PySem L2
/-- one of four questions, asked -/
def sp__law_asked (K : PySem.W.Frag) (C : Addr) : Sp := fun vs H Q _ => ∃ (L : Addr → Prop) (o p : Addr) (w f b m : Int) (ns : List Int), vs = [.ref o, .int w, .ref p, .int m] ∧ Rdy C L H o ns ∧ H p = some (.tup [.int f, .int b]) ∧ (0 ≤ w ∧ w < 4) ∧ (0 ≤ f ∧ f ≤ b ∧ b ≤ ns.length) ∧ ns.length ≤ 1000 ∧ ∀ v H', AnsR H' v ns w f b m → Same H H' → (∀ q, v = .ref q → H q = none) → Q v H'
section
variable {P : Program} {w : World} {K : PySem.W.Frag} {mg : Str → Option Value} {base : Heap} {A : Adr}
theorem ok__law_asked (T : Txt K mg A) : FnOk P w K mg base CX0 5 A.f__law_asked A.d__law_asked ["ready", "way", "window", "many"] (sp__law_asked K A.c_Ready) := by
  have G_Ready_begin_of := ok_Ready_begin_of (P := P) (w := w) (base := base) T
  have G_Ready_end_of := ok_Ready_end_of (P := P) (w := w) (base := base) T
  have G_Ready_firsts := ok_Ready_firsts (P := P) (w := w) (base := base) T
  have G_Ready_unlike := ok_Ready_unlike (P := P) (w := w) (base := base) T
  refine T.F__law_asked.ok sc__law_asked (fun vs H Q E h => ?_) (fun cdv Ar outer s H vs Q E hr h => ?_)
  · obtain ⟨L, o, p, w, f, b, m, ns, rfl, _⟩ := h
    rfl
  · have C_Ready := T.C_Ready
    have n_Ready_many := T.n_Ready_many
    have n_Ready_lasts := T.n_Ready_lasts
    have n_Ready_nexts := T.n_Ready_nexts
    obtain ⟨L, o, p, w, f, b, m, ns, rfl, r, ep, hw, hf, hl, q⟩ := h
    have no : ∀ (x : Option Nat) q, optV x = .ref q → H q = none := fun x q z => by cases x <;> cases z
    obtain ⟨dx, la, na, eo, _⟩ := r.all
    have hc : w = 0 ∨ w = 1 ∨ w = 2 ∨ w = 3 := by omega
    refine ⟨_, (pss_cons (ps_asg (pv 2) (pg_tup (by rfl) (pgs_cons (pg_name (i := 4) sc__law_asked.nd rfl (Or.inl rfl)) (pgs_cons (pg_name (i := 5) sc__law_asked.nd rfl (Or.inl rfl)) pgs_nil))))
    (pss_cons (ps_if (pt_cmpR op_eq (pv 1) pe_int (nomark _)) (pss_one (ps_ret (pe_meth (pv 0) T.C_Ready T.M_Ready_unlike G_Ready_unlike (hr.mono (by decide)) T.b_Ready_unlike .nil pass0 (pa_cons (pv 4) (pa_cons (pv 5) pa_nil))))) pss_nil)
    (pss_cons (ps_if (pt_cmpR op_eq (pv 1) pe_int (nomark _)) (pss_one (ps_ret (pe_meth (pv 0) T.C_Ready T.M_Ready_firsts G_Ready_firsts (hr.mono (by decide)) T.b_Ready_firsts .nil pass0 (pa_cons (pv 4) (pa_cons (pv 5) pa_nil))))) pss_nil)
    (pss_cons (ps_if (pt_cmpR op_eq (pv 1) pe_int (nomark _)) (pss_one (ps_ret (pe_meth (pv 0) T.C_Ready T.M_Ready_end_of G_Ready_end_of (hr.mono (by decide)) T.b_Ready_end_of .nil pass0 (pa_cons (pv 4) (pa_cons (pv 3) pa_nil))))) pss_nil)
    (pss_one (ps_ret (pe_meth (pv 0) T.C_Ready T.M_Ready_begin_of G_Ready_begin_of (hr.mono (by decide)) T.b_Ready_begin_of .nil pass0 (pa_cons (pv 5) (pa_cons (pv 3) pa_nil))))))))), ?_⟩
    rcases hc with rfl | rfl | rfl | rfl
    · tb_start
      intro H1 s1
      tb_start
      exact q _ _ (.inl ⟨rfl, rfl⟩) s1 (fun _ z => nomatch z)
    · tb_start
      intro p1 H1 e1 s1 n1
      tb_start
      exact q _ _ (.inr (.inl ⟨rfl, p1, rfl, e1⟩)) s1 (fun q' z => by cases z; exact n1)
    · tb_start
      exact q _ _ (.inr (.inr (.inl ⟨rfl, rfl⟩))) (by kcj_in) (no _)
    · tb_start
      exact q _ _ (.inr (.inr (.inr ⟨rfl, rfl⟩))) (by kcj_in) (no _)
end
end Ur
namespace Ur
open PySem L2
/-- the first cells, each with its place -/
def sp__law_cells (K : PySem.W.Frag) : Sp := fun vs H Q _ => ∃ (a : Addr) (ns : List Int) (m : Int), vs = [.ref a, .int m] ∧ SqL K H a (ns.map V.int) ∧ ns.length ≤ 63 ∧ 0 ≤ m ∧ m ≤ 100 ∧ ∀ p ts H' (cs : List Int), cs.length ≤ 64 → UrE.NewPairs H (UrE.enumC (cs.map V.int)) p ts H' → Q (.ref p) H'
section
variable {P : Program} {w : World} {K : PySem.W.Frag} {mg : Str → Option Value} {base : Heap} {A : Adr}
theorem ok__law_cells (T : Txt K mg A) : FnOk P w K mg base CX0 1 A.f__law_cells A.d__law_cells ["script", "many"] (sp__law_cells K) := by
  refine T.F__law_cells.ok sc__law_cells (fun vs H Q E h => ?_) (fun cdv Ar outer s H vs Q E hr h => ?_)
  · obtain ⟨a, ns, m, rfl, _⟩ := h
    rfl
  · obtain ⟨a, ns, m, rfl, hs, hl, hm0, hm1, q⟩ := h
    refine ⟨_, (pss_one (ps_ret (UrE.pe_list_enum (by rfl) T.m_list T.m_enumerate (by rfl) (pa_cons (pe_op op_cat (pe_slice (Ur.sl_listK (K := K) rfl) (pv 0) po_none (po_some (pv 1))) (pe_op op_rep (pe_lst (pa_cons pe_int pa_nil)) (Ur.pe_t1 call_int1 (by rfl) T.m_int (by decide +kernel) (pe_cmpR (Ur.op_eqDK (K := K) rfl hr.units) (pv 0) (pe_lst pa_nil) (nomark _))))) pa_nil)))), ?_⟩
    tb_start
    intro p1 n1
    tb_start
    intro p2 n2
    have hb := b01 (decide (ns = []))
    tb_start
    intro p3 n3
    tb_start
    intro p4 n4
    tb_start
    intro p5 n5
    tb_start
    intro p ts H' N
    have N' := NewPairs_of (H := H) (by kcj_in) N
    exact q p ts H' _ (by rw [List.length_append, List.length_take, List.length_replicate]; omega) N'
end
end Ur
namespace Ur
open PySem L2
/-- a draw: a number below the limit; the hand stays a hand -/
def sp__law_draw (K : PySem.W.Frag) : Sp := fun vs H Q _ => ∃ (a : Addr) (d m l : Int), vs = [.ref a, .int l] ∧ H a = some (.lst [.int d, .int m]) ∧ HandOk d m ∧ (0 < l ∧ l ≤ 1000000000) ∧ ∀ n d' m' H', (0 ≤ n ∧ n < l) → But a H H' → H' a = some (.lst [.int d', .int m']) → HandOk d' m' → Q (.int n) H'
section
variable {P : Program} {w : World} {K : PySem.W.Frag} {mg : Str → Option Value} {base : Heap} {A : Adr}
theorem ok__law_draw (T : Txt K mg A) : FnOk P w K mg base CX0 1 A.f__law_draw A.d__law_draw ["hand", "limit"] (sp__law_draw K) := by
  refine T.F__law_draw.ok sc__law_draw (fun vs H Q E h => ?_) (fun cdv Ar outer s H vs Q E hr h => ?_)
  · obtain ⟨a, d, m, l, rfl, _⟩ := h
    rfl
  · obtain ⟨a, d, m, l, rfl, ha, ⟨hd, hm0, hm1⟩, ⟨hl0, hl1⟩, q⟩ := h
    refine ⟨_, (pss_cons (ps_if (pt_cmpR op_gt (pe_ix (Ur.ix_listK (K := K) rfl) (pv 0) pe_int (fun _ _ => rfl)) pe_int (nomark _)) (pss_cons (ps_set (i := 2) sc__law_draw.nd rfl (Or.inl rfl) (pe_op op_mod (pe_ix (Ur.ix_listK (K := K) rfl) (pv 0) pe_int (fun _ _ => rfl)) (pv 1)))
    (pss_cons (ps_asg (pe_op op_fdiv (pe_ix (Ur.ix_listK (K := K) rfl) (pv 0) pe_int (fun _ _ => rfl)) (pv 1)) (pg_sub (pv 0) pe_int set_list))
    (pss_one (ps_ret (pv 2))))) pss_nil)
    (pss_cons (ps_asg (pe_op op_mod (pe_op op_add (pe_op op_add (pe_op op_mul (pe_ix (Ur.ix_listK (K := K) rfl) (pv 0) pe_int (fun _ _ => rfl)) (pe_ix (Ur.ix_listK (K := K) rfl) (pv 0) pe_int (fun _ _ => rfl))) (pe_op op_mul pe_int (pe_ix (Ur.ix_listK (K := K) rfl) (pv 0) pe_int (fun _ _ => rfl)))) pe_int) pe_int) (pg_sub (pv 0) pe_int set_list))
    (pss_one (ps_ret (pe_op op_mod (pe_op op_fdiv (pe_ix (Ur.ix_listK (K := K) rfl) (pv 0) pe_int (fun _ _ => rfl)) pe_int) (pv 1)))))), ?_⟩
    kqd_in
    · exact q _ _ _ _ ⟨Int.emod_nonneg _ (by omega), Int.emod_lt_of_pos _ hl0⟩ (by cc_are) (by kct_strs) ⟨Int.ediv_nonneg hd (by omega), hm0, hm1⟩
    · exact q _ _ _ _ ⟨Int.emod_nonneg _ (by omega), Int.emod_lt_of_pos _ hl0⟩ (by cc_are) (by kct_strs) ⟨hd, Int.emod_nonneg _ (by omega), Int.emod_lt_of_pos _ (by omega)⟩
end
end Ur
namespace Ur
open PySem L2
/-- what is due -/
def sp__law_due (K : PySem.W.Frag) : Sp := fun vs H Q _ => ∃ (a p : Addr) (w f b m : Int) (ns : List Int), vs = [.ref a, .int w, .ref p, .int m] ∧ H a = some (.lst (ns.map V.int)) ∧ H p = some (.tup [.int f, .int b]) ∧ (0 ≤ w ∧ w < 4) ∧ (0 ≤ f ∧ f ≤ b ∧ b ≤ ns.length) ∧ 0 ≤ m ∧ ns.length ≤ 1000 ∧ ∀ v H', AnsR H' v ns w f b m → Same H H' → (∀ q, v = .ref q → H q = none) → Q v H'
section
variable {P : Program} {w : World} {K : PySem.W.Frag} {mg : Str → Option Value} {base : Heap} {A : Adr}
theorem ok__law_due (T : Txt K mg A) : FnOk P w K mg base CX0 1 A.f__law_due A.d__law_due ["row", "way", "window", "many"] (sp__law_due K) := by
  refine T.F__law_due.ok sc__law_due (fun vs H Q E h => ?_) (fun cdv Ar outer s H vs Q E hr h => ?_)
  · obtain ⟨a, p, w, f, b, m, ns, rfl, _⟩ := h
    rfl
  · obtain ⟨a, p, w, f, b, m, ns, rfl, ha, ep, hw, ⟨h0, h1, h2⟩, hm, hl, q⟩ := h
    have no : ∀ (x : Option Nat) q, optV x = .ref q → H q = none := fun x q z => by cases x <;> cases z
    have hc : w = 0 ∨ w = 1 ∨ w = 2 ∨ w = 3 := by omega
    refine ⟨_, (pss_cons (ps_asg (pv 2) (pg_tup (by rfl) (pgs_cons (pg_name (i := 4) sc__law_due.nd rfl (Or.inr rfl)) (pgs_cons (pg_name (i := 5) sc__law_due.nd rfl (Or.inr rfl)) pgs_nil))))
    (pss_cons (ps_if (pt_cmpR op_eq (pv 1) pe_int (nomark _)) (pss_one (ps_ret (Ur.pe_lenSetU (K := K) rfl (by rfl) T.m_len (by rfl) T.m_set (pe_slice (Ur.sl_listK (K := K) rfl) (pv 0) (po_some (pv 4)) (po_some (pv 5)))))) pss_nil)
    (pss_cons (ps_if (pt_cmpR op_eq (pv 1) pe_int (nomark _)) (pss_one (ps_ret (pe_lc (own := [("place", 8)]) (g := gName 8) (by rfl) sc__law_due.nd (pi_range2 (by rfl) T.m_range (pa_cons (pv 4) (pa_cons (pv 5) pa_nil))) (blkOk_by (own := [("place", 8)]) (N := ["row", "way", "window", "many", "first", "behind", "ends", "begins", "place"]) (by kernel_rfl)) (fun _ _ _ _ _ => pg_name (i := 8) sc__law_due.nd rfl (Or.inl rfl)) (fun _ _ _ _ _ => pts_one (pt_cmpR (Ur.op_notIn_seqK (K := K) rfl) (pe_ix (Ur.ix_listK (K := K) rfl) (pv 0) (pv 8) (fun _ _ => rfl)) (pe_slice (Ur.sl_listK (K := K) rfl) (pv 0) (po_some (pv 4)) (po_some (pv 8))) rfl)) (fun _ _ _ _ _ => (pv 8))))) pss_nil)
    (pss_cons (ps_if (pt_cmpR op_eq (pv 1) pe_int (nomark _)) (pss_cons (ps_setLc (i := 6) (own := [("place", 8)]) (g := gName 8) (by rfl) sc__law_due.nd rfl rfl (sw_true rfl rfl rfl (by decide +kernel)) (pi_range2 (by rfl) T.m_range (pa_cons (pv 4) (pa_cons (pe_op op_add (Ur.pe_b1 (Ur.call_lenIK (K := K) rfl) (by rfl) T.m_len (by decide +kernel) (pv 0)) pe_int) pa_nil))) (blkOk_by (own := [("place", 8)]) (N := ["row", "way", "window", "many", "first", "behind", "ends", "begins", "place"]) (by kernel_rfl)) (fun _ _ _ _ _ => pg_name (i := 8) sc__law_due.nd rfl (Or.inl rfl)) (fun _ _ _ _ _ => pts_one (pt_cmpR op_eq (Ur.pe_lenSetU (K := K) rfl (by rfl) T.m_len (by rfl) T.m_set (pe_slice (Ur.sl_listK (K := K) rfl) (pv 0) (po_some (pv 4)) (po_some (pv 8)))) (pv 3) (nomark _))) (fun _ _ _ _ _ => (pv 8)))
    (pss_one (ps_ret (pe_ix (Ur.ix_listK (K := K) rfl) (pe_op op_cat (pv 6) (pe_lst (pa_cons pe_non pa_nil))) pe_int (fun _ _ => rfl))))) pss_nil)
    (pss_cons (ps_setLc (i := 7) (own := [("place", 8)]) (g := gName 8) (by rfl) sc__law_due.nd rfl rfl (sw_true rfl rfl rfl (by decide +kernel)) (pi_range1 (by rfl) T.m_range (pa_cons (pe_op op_add (pv 5) pe_int) pa_nil)) (blkOk_by (own := [("place", 8)]) (N := ["row", "way", "window", "many", "first", "behind", "ends", "begins", "place"]) (by kernel_rfl)) (fun _ _ _ _ _ => pg_name (i := 8) sc__law_due.nd rfl (Or.inl rfl)) (fun _ _ _ _ _ => pts_one (pt_cmpR op_eq (Ur.pe_lenSetU (K := K) rfl (by rfl) T.m_len (by rfl) T.m_set (pe_slice (Ur.sl_listK (K := K) rfl) (pv 0) (po_some (pv 8)) (po_some (pv 5)))) (pv 3) (nomark _))) (fun _ _ _ _ _ => (pv 8)))
    (pss_one (ps_ret (pe_ix (Ur.ix_listK (K := K) rfl) (pe_op op_cat (pe_lst (pa_cons pe_non pa_nil)) (pv 7)) (pe_un un_neg pe_int) (fun _ _ => rfl))))))))), ?_⟩
    rcases hc with rfl | rfl | rfl | rfl
    · tb_start
      intro s ns1
      have es : (upd H s (.lst (cutV (ns.map V.int) (some f) (some b)))) s = some (.lst ((win ns f b).map V.int)) := lst_cast upd_same (cutI_mid _ h0 (by omega))
      have hwl : (win ns f b).length ≤ 1000 := by
        unfold win
        rw [List.length_take, List.length_drop]; omega
      tb_start
      exact q _ _ (.inl ⟨rfl, rfl⟩) (same_new ns1) (fun _ z => nomatch z)
    · tb_start
      intro D nD
      refine lc_rngIfI (fun k => decide (lp ns (f.toNat + k) < f)) (fun k => f + (k : Nat)) (by omega) nD (fun _ => rfl) ?ht ?he ?hd
      case ht =>
        intro k H' hk s Q2 q2
        have ha' := s _ _ ha
        have ek : (f + (k : Int)).toNat = f.toNat + k := by omega
        have e := fir_not (ns := ns) (f := f.toNat) (k := k) (by omega)
        rw [Int.toNat_of_nonneg h0] at e
        tb_start
        intro p np
        tb_start
        refine qbl (q2 _ (by kcj_in)) ?_
        rw [ek, show f.toNat + k - f.toNat = k from by omega, ← e]
      case he =>
        intro k H' hk _ s Q2 q2
        tb_start
        exact q2 _ (by kcj_in)
      case hd =>
        intro H' s e
        exact q _ _ (.inr (.inl ⟨rfl, D, rfl, e⟩)) s (fun q' z => by cases z; exact nD)
    · tb_start
      intro D nD
      refine lc_rngIfI (fun k => decide ((wunN ns f.toNat (f.toNat + k) : Int) = m)) (fun k => f + (k : Nat)) (by omega) nD (fun _ => rfl) ?ht ?he ?hd
      case ht =>
        intro k H' hk s Q2 q2
        have ha' := s _ _ ha
        have hwl : (win ns f (f + (k : Int))).length ≤ 1000 := by
          unfold win
          rw [List.length_take, List.length_drop]; omega
        tb_start
        intro p1 np1
        have es : (upd H' p1 (.lst (cutV (ns.map V.int) (some f) (some (f + (k : Int)))))) p1 = some (.lst ((win ns f (f + (k : Int))).map V.int)) := lst_cast upd_same (cutI_mid _ h0 (by omega))
        have ew : wun ns f (f + (k : Int)) = wunN ns f.toNat (f.toNat + k) := by
          unfold wun win wunN
          rw [show (f + (k : Int)).toNat = f.toNat + k by omega]
        tb_start
        refine qbl (q2 _ (same_new np1)) ?_
        rw [← ew]
        exact decide_eq_decide.mpr ⟨fun h => by injection h, fun h => by rw [← h]; rfl⟩
      case he =>
        intro k H' hk _ s Q2 q2
        tb_start
        exact q2 _ (by kcj_in)
      case hd =>
        intro H1 s1 e1
        have hat := ends_first (ns := ns) (f := f.toNat) (m := m) (by omega) hm
        rw [Int.toNat_of_nonneg h0, show ns.length + 1 - f.toNat = ((ns.length : Int) + 1 - f).toNat by omega] at hat
        have hlen : ((((List.range ((ns.length : Int) + 1 - f).toNat).filter fun k => decide ((wunN ns f.toNat (f.toNat + k) : Int) = m)).map fun (k : Nat) => f + (k : Int))).length ≤ 1001 := by
          rw [List.length_map]
          have := List.length_filter_le (fun k => decide ((wunN ns f.toNat (f.toNat + k) : Int) = m)) (List.range ((ns.length : Int) + 1 - f).toNat)
          rw [List.length_range] at this
          omega
        generalize (((List.range ((ns.length : Int) + 1 - f).toNat).filter fun k => decide ((wunN ns f.toNat (f.toNat + k) : Int) = m)).map fun (k : Nat) => f + (k : Int)) = es at e1 hat hlen
        tb_start
        intro p2 n2
        have e2 := (same_new (o := .lst [V.non]) n2) _ _ e1
        tb_start
        intro p3 n3
        tb_start
        exact q _ _ (.inr (.inr (.inl ⟨rfl, rfl⟩))) (s1.trans ((same_new n2).trans (same_new n3))) (no _)
    · tb_start
      intro D nD
      refine lc_rngIfI (fun k => decide ((wunN ns k b.toNat : Int) = m)) (fun k => 0 + (k : Nat)) (by omega) nD (fun _ => rfl) ?ht ?he ?hd
      case ht =>
        intro k H' hk s Q2 q2
        have ha' := s _ _ ha
        have hwl : (win ns (0 + (k : Int)) b).length ≤ 1000 := by
          unfold win
          rw [List.length_take, List.length_drop]; omega
        tb_start
        intro p1 np1
        have es : (upd H' p1 (.lst (cutV (ns.map V.int) (some (0 + (k : Int))) (some b)))) p1 = some (.lst ((win ns (0 + (k : Int)) b).map V.int)) := lst_cast upd_same (cutI_mid _ (by omega) (by omega))
        have ew : wun ns (0 + (k : Int)) b = wunN ns k b.toNat := by
          unfold wun win wunN
          rw [show (0 + (k : Int)).toNat = k by omega]
        tb_start
        refine qbl (q2 _ (same_new np1)) ?_
        rw [← ew]
        exact decide_eq_decide.mpr ⟨fun h => by injection h, fun h => by rw [← h]; rfl⟩
      case he =>
        intro k H' hk _ s Q2 q2
        tb_start
        exact q2 _ (by kcj_in)
      case hd =>
        intro H1 s1 e1
        have hat := begs_last (ns := ns) (b := b.toNat) (m := m) (by omega) hm
        rw [show b.toNat + 1 = (b + 1).toNat by omega] at hat
        have hlen : ((((List.range (b + 1).toNat).filter fun k => decide ((wunN ns k b.toNat : Int) = m)).map fun (k : Nat) => (0 : Int) + (k : Int))).length ≤ 1001 := by
          rw [List.length_map]
          have := List.length_filter_le (fun k => decide ((wunN ns k b.toNat : Int) = m)) (List.range (b + 1).toNat)
          rw [List.length_range] at this
          omega
        generalize (((List.range (b + 1).toNat).filter fun k => decide ((wunN ns k b.toNat : Int) = m)).map fun (k : Nat) => (0 : Int) + (k : Int)) = es at e1 hat hlen
        tb_start
        intro p2 n2
        have e2 := (same_new (o := .lst [V.non]) n2) _ _ e1
        tb_start
        intro p3 n3
        tb_start
        exact q _ _ (.inr (.inr (.inr ⟨rfl, rfl⟩))) (s1.trans ((same_new n2).trans (same_new n3))) (no _)
end
end Ur
namespace Ur
open PySem L2
/-- whether a row is long: a truth -/
def sp__law_great (K : PySem.W.Frag) : Sp := fun vs H Q _ => ∃ (a : Addr) (ns : List Int), vs = [.ref a] ∧ SqL K H a (ns.map V.int) ∧ ∀ b, Q (.bl b) H
section
variable {P : Program} {w : World} {K : PySem.W.Frag} {mg : Str → Option Value} {base : Heap} {A : Adr}
theorem ok__law_great (T : Txt K mg A) : FnOk P w K mg base CX0 1 A.f__law_great A.d__law_great ["script"] (sp__law_great K) := by
  refine T.F__law_great.ok sc__law_great (fun vs H Q E h => ?_) (fun cdv Ar outer s H vs Q E hr h => ?_)
  · obtain ⟨a, ns, rfl, _⟩ := h
    rfl
  · obtain ⟨a, ns, rfl, hs, q⟩ := h
    refine ⟨_, (pss_one (ps_ret (pe_cmpR op_eq (pe_op op_mod (pe_op op_fdiv (Ur.pe_b1 (Ur.cr_sumK (K := K) rfl rfl) (by rfl) T.m_sum (by decide +kernel) (pv 0)) pe_int) pe_int) pe_int (nomark _)))), ?_⟩
    tb_start
    exact q _
end
end Ur
namespace Ur
open PySem L2
/-- a hand: two whole numbers -/
def sp__law_hand (K : PySem.W.Frag) : Sp := fun vs H Q _ => ∃ (c k : Int), vs = [.int c, .int k] ∧ 0 ≤ k ∧ k ≤ 1000 ∧ ∀ p d m H', Same H H' → H p = none → H' p = some (.lst [.int d, .int m]) → HandOk d m → Q (.ref p) H'
section
variable {P : Program} {w : World} {K : PySem.W.Frag} {mg : Str → Option Value} {base : Heap} {A : Adr}
theorem ok__law_hand (T : Txt K mg A) : FnOk P w K mg base CX0 1 A.f__law_hand A.d__law_hand ["cell", "k"] (sp__law_hand K) := by
  refine T.F__law_hand.ok sc__law_hand (fun vs H Q E h => ?_) (fun cdv Ar outer s H vs Q E hr h => ?_)
  · obtain ⟨c, k, rfl, _⟩ := h
    rfl
  · obtain ⟨c, k, rfl, hk0, hk1, q⟩ := h
    refine ⟨_, (pss_cons (ps_set (i := 2) sc__law_hand.nd rfl (Or.inl rfl) pe_int)
    (pss_cons (ps_if (pt_cmpR op_ge (pv 0) (pe_op op_pow pe_int pe_int) (nomark _)) (pss_one (ps_set (i := 2) sc__law_hand.nd rfl (Or.inl rfl) (pv 0))) pss_nil)
    (pss_one (ps_ret (pe_lst (pa_cons (pv 2) (pa_cons (pe_op op_mod (pe_op op_mul (pe_op op_add (pe_op op_add (pe_op op_mod (pv 0) pe_int) (pe_op op_mul pe_int (pv 1))) pe_int) pe_int) pe_int) pa_nil))))))), ?_⟩
    kqd_in
    · exact q _ _ _ _ (by kcj_in) (by assumption) upd_same ⟨Int.le_trans (by decide) ‹10 ^ Int.toNat 18 ≤ c›, Int.emod_nonneg _ (by omega), Int.emod_lt_of_pos _ (by omega)⟩
    · exact q _ _ _ _ (by kcj_in) (by assumption) upd_same ⟨by omega, Int.emod_nonneg _ (by omega), Int.emod_lt_of_pos _ (by omega)⟩
end
end Ur
namespace Ur
open PySem L2
/-- a number -/
def sp__law_number (K : PySem.W.Frag) : Sp := fun vs H Q _ => ∃ (a : Addr) (d m k : Int), vs = [.ref a, .int k] ∧ H a = some (.lst [.int d, .int m]) ∧ HandOk d m ∧ ∀ n d' m' H', But a H H' → H' a = some (.lst [.int d', .int m']) → HandOk d' m' → Q (.int n) H'
section
variable {P : Program} {w : World} {K : PySem.W.Frag} {mg : Str → Option Value} {base : Heap} {A : Adr}
theorem ok__law_number (T : Txt K mg A) : FnOk P w K mg base CX0 2 A.f__law_number A.d__law_number ["hand", "kind"] (sp__law_number K) := by
  have G__law_draw := ok__law_draw (P := P) (w := w) (base := base) T
  refine T.F__law_number.ok sc__law_number (fun vs H Q E h => ?_) (fun cdv Ar outer s H vs Q E hr h => ?_)
  · obtain ⟨a, d, m, k, rfl, _⟩ := h
    rfl
  · obtain ⟨a, d, m, k, rfl, ha, hk, q⟩ := h
    refine ⟨_, (pss_cons (ps_if (pt_cmpR op_eq (pv 1) pe_int (nomark _)) (pss_one (ps_ret (pe_op op_sub (pe_call G__law_draw (hr.mono (by decide)) (by rfl) T.g__law_draw T.F__law_draw.kp T.b__law_draw .nil pass0 (pa_cons (pv 0) (pa_cons pe_int pa_nil))) pe_int))) pss_nil)
    (pss_cons (ps_if (pt_cmpR op_eq (pv 1) pe_int (nomark _)) (pss_one (ps_ret (pe_op op_sub (pe_call G__law_draw (hr.mono (by decide)) (by rfl) T.g__law_draw T.F__law_draw.kp T.b__law_draw .nil pass0 (pa_cons (pv 0) (pa_cons pe_int pa_nil))) pe_int))) pss_nil)
    (pss_cons (ps_set (i := 2) sc__law_number.nd rfl (Or.inl rfl) (pe_op op_add (pe_op op_add (pe_op op_mul (pe_call G__law_draw (hr.mono (by decide)) (by rfl) T.g__law_draw T.F__law_draw.kp T.b__law_draw .nil pass0 (pa_cons (pv 0) (pa_cons (pe_op op_pow pe_int pe_int) pa_nil))) (pe_op op_pow pe_int pe_int)) (pe_op op_mul (pe_call G__law_draw (hr.mono (by decide)) (by rfl) T.g__law_draw T.F__law_draw.kp T.b__law_draw .nil pass0 (pa_cons (pv 0) (pa_cons (pe_op op_pow pe_int pe_int) pa_nil))) (pe_op op_pow pe_int pe_int))) (pe_call G__law_draw (hr.mono (by decide)) (by rfl) T.g__law_draw T.F__law_draw.kp T.b__law_draw .nil pass0 (pa_cons (pv 0) (pa_cons (pe_op op_pow pe_int pe_int) pa_nil)))))
    (pss_one (ps_ret (pe_ix (Ur.ix_listK (K := K) rfl) (pe_lst (pa_cons (pv 2) (pa_cons (pe_op op_sub pe_int (pv 2)) (pa_cons (pe_op op_sub (pe_op op_pow pe_int pe_int) (pe_call G__law_draw (hr.mono (by decide)) (by rfl) T.g__law_draw T.F__law_draw.kp T.b__law_draw .nil pass0 (pa_cons (pv 0) (pa_cons pe_int pa_nil)))) (pa_cons (pe_op op_sub (pe_call G__law_draw (hr.mono (by decide)) (by rfl) T.g__law_draw T.F__law_draw.kp T.b__law_draw .nil pass0 (pa_cons (pv 0) (pa_cons pe_int pa_nil))) (pe_op op_pow pe_int pe_int)) pa_nil))))) (pe_call G__law_draw (hr.mono (by decide)) (by rfl) T.g__law_draw T.F__law_draw.kp T.b__law_draw .nil pass0 (pa_cons (pv 0) (pa_cons pe_int pa_nil))) (fun _ _ => rfl))))))), ?_⟩
    kqd_in
    all_goals (apply q <;> tb_rel)
end
end Ur
namespace Ur
open PySem L2
/-- a row of so many numbers -/
def sp__law_unlike (K : PySem.W.Frag) : Sp := fun vs H Q _ => ∃ (a : Addr) (d m k : Int), vs = [.ref a, .int k] ∧ H a = some (.lst [.int d, .int m]) ∧ HandOk d m ∧ (1 ≤ k ∧ k ≤ 300) ∧ ∀ p (ns : List Int) d' m' H', H' p = some (.lst (ns.map V.int)) → H' a = some (.lst [.int d', .int m']) → HandOk d' m' → But a H H' → H p = none → (ns.length : Int) = k → Q (.ref p) H'
section
variable {P : Program} {w : World} {K : PySem.W.Frag} {mg : Str → Option Value} {base : Heap} {A : Adr}
theorem ok__law_unlike (T : Txt K mg A) : FnOk P w K mg base CX0 2 A.f__law_unlike A.d__law_unlike ["hand", "many"] (sp__law_unlike K) := by
  have G__law_draw := ok__law_draw (P := P) (w := w) (base := base) T
  refine T.F__law_unlike.ok sc__law_unlike (fun vs H Q E h => ?_) (fun cdv Ar outer s H vs Q E hr h => ?_)
  · obtain ⟨a, d, m, k, rfl, _⟩ := h
    rfl
  · obtain ⟨a, d, m, k, rfl, ha, hk, hl, q⟩ := h
    refine ⟨_, (pss_cons (ps_set (i := 2) sc__law_unlike.nd rfl (Or.inr rfl) (pe_op op_add pe_int (pe_call G__law_draw (hr.mono (by decide)) (by rfl) T.g__law_draw T.F__law_draw.kp T.b__law_draw .nil pass0 (pa_cons (pv 0) (pa_cons pe_int pa_nil)))))
    (pss_cons (ps_set (i := 3) sc__law_unlike.nd rfl (Or.inr rfl) (pe_ix (Ur.ix_listK (K := K) rfl) (pe_lst (pa_cons pe_int (pa_cons (pe_un un_neg pe_int) (pa_cons (pe_op op_pow pe_int pe_int) pa_nil)))) (pe_call G__law_draw (hr.mono (by decide)) (by rfl) T.g__law_draw T.F__law_draw.kp T.b__law_draw .nil pass0 (pa_cons (pv 0) (pa_cons pe_int pa_nil))) (fun _ _ => rfl)))
    (pss_cons (ps_setLc (i := 5) (own := [("k", 4)]) (g := gName 4) (by rfl) sc__law_unlike.nd rfl rfl (sw_true rfl rfl rfl (by decide +kernel)) (pi_range1 (by rfl) T.m_range (pa_cons (pv 1) pa_nil)) (blkOk_by (own := [("k", 4)]) (N := ["hand", "many", "step", "by", "k", "row"]) (by kernel_rfl)) (fun _ _ _ _ _ => pg_name (i := 4) sc__law_unlike.nd rfl (Or.inl rfl)) (fun _ _ _ _ _ => pts_nil) (fun _ _ _ _ _ => (pe_op op_mul (pe_op op_sub (pe_op op_mod (pe_op op_mul (pv 4) (pv 2)) pe_int) pe_int) (pv 3))))
    (pss_cons (ps_for PassesOwn.never (by rfl) (pi_range1 (by rfl) T.m_range (pa_cons (pe_call G__law_draw (hr.mono (by decide)) (by rfl) T.g__law_draw T.F__law_draw.kp T.b__law_draw .nil pass0 (pa_cons (pv 0) (pa_cons pe_int pa_nil))) pa_nil)) (pg_name (i := 4) sc__law_unlike.nd rfl (Or.inl rfl)) (pss_one (ps_asg (pe_ix (Ur.ix_listK (K := K) rfl) (pv 5) (pe_call G__law_draw (hr.mono (by decide)) (by rfl) T.g__law_draw T.F__law_draw.kp T.b__law_draw .nil pass0 (pa_cons (pv 0) (pa_cons (pv 1) pa_nil))) (fun _ _ => rfl)) (pg_sub (pv 5) (pe_call G__law_draw (hr.mono (by decide)) (by rfl) T.g__law_draw T.F__law_draw.kp T.b__law_draw .nil pass0 (pa_cons (pv 0) (pa_cons (pv 1) pa_nil))) set_list))))
    (pss_one (ps_ret (pv 5))))))), ?_⟩
    tb_start
    intro n1 d1 m1 H1 hn1 b1 a1 k1
    tb_start
    intro p1 np1
    tb_start
    intro n2 d2 m2 H2 hn2 b2 a2 k2
    tb_start
    intro D nD
    refine lc_rngI ?f (by omega) nD (fun _ => rfl) ?he ?hd
    case he =>
      intro k H' hk s Q' q'
      kqd_all
      exact q' _ (by kcj_in)
    intro H3 s3 e3
    tb_start
    intro n4 d4 m4 H4 hn4 b4 a4 k4
    tb_start
    refine for_range (fun _ σ H' => ∃ (u v x : Option V) (ns : List Int) (d m : Int), σ = [some (.ref a), some (.int k), u, v, x, some (.ref D)] ∧ H' D = some (.lst (ns.map V.int)) ∧ H' a = some (.lst [.int d, .int m]) ∧ HandOk d m ∧ But a H H' ∧ (ns.length : Int) = k) ?h0 ?hs ?hd2
    case h0 => exact ⟨_, _, _, _, d4, m4, rfl, b4 _ _ (by kcj_m) e3, a4, k4, by cc_are, by rw [List.length_map, List.length_range]; omega⟩
    case hs =>
      rintro i σ H' hi ⟨u, v, x, ns, d, m, rfl, hD, ha', hk', b, hlen⟩
      kqd_all
      rw [List.length_set]; exact hlen
    case hd2 =>
      rintro σ H' ⟨u, v, x, ns, d, m, rfl, hD, ha', hk', b, hlen⟩
      tb_start
      exact q _ ns _ _ _ hD ha' hk' b (by cc_off) hlen
end
end Ur
namespace Ur
open PySem L2
/-- a row of at most 300 numbers -/
def sp__law_row (K : PySem.W.Frag) : Sp := fun vs H Q _ => ∃ (a : Addr) (d m : Int) (g : Bool), vs = [.ref a, .bl g] ∧ H a = some (.lst [.int d, .int m]) ∧ HandOk d m ∧ ∀ p (ns : List Int) d' m' H', H' p = some (.lst (ns.map V.int)) → H' a = some (.lst [.int d', .int m']) → HandOk d' m' → But a H H' → H p = none → ns.length ≤ 300 → Q (.ref p) H'
section
variable {P : Program} {w : World} {K : PySem.W.Frag} {mg : Str → Option Value} {base : Heap} {A : Adr}
theorem ok__law_row (T : Txt K mg A) : FnOk P w K mg base CX0 3 A.f__law_row A.d__law_row ["hand", "great"] (sp__law_row K) := by
  have G__law_draw := ok__law_draw (P := P) (w := w) (base := base) T
  have G__law_number := ok__law_number (P := P) (w := w) (base := base) T
  have G__law_unlike := ok__law_unlike (P := P) (w := w) (base := base) T
  refine T.F__law_row.ok sc__law_row (fun vs H Q E h => ?_) (fun cdv Ar outer s H vs Q E hr h => ?_)
  · obtain ⟨a, d, m, g, rfl, _⟩ := h
    rfl
  · obtain ⟨a, d, m, g, rfl, ha, hk, q⟩ := h
    refine ⟨_, (pss_cons (ps_set (i := 2) sc__law_row.nd rfl (Or.inl rfl) (pe_ix (Ur.ix_listK (K := K) rfl) (pe_lst (pa_cons (pe_call G__law_draw (hr.mono (by decide)) (by rfl) T.g__law_draw T.F__law_draw.kp T.b__law_draw .nil pass0 (pa_cons (pv 0) (pa_cons pe_int pa_nil))) (pa_cons (pe_call G__law_draw (hr.mono (by decide)) (by rfl) T.g__law_draw T.F__law_draw.kp T.b__law_draw .nil pass0 (pa_cons (pv 0) (pa_cons pe_int pa_nil))) (pa_cons (pe_call G__law_draw (hr.mono (by decide)) (by rfl) T.g__law_draw T.F__law_draw.kp T.b__law_draw .nil pass0 (pa_cons (pv 0) (pa_cons pe_int pa_nil))) pa_nil)))) (pe_call G__law_draw (hr.mono (by decide)) (by rfl) T.g__law_draw T.F__law_draw.kp T.b__law_draw .nil pass0 (pa_cons (pv 0) (pa_cons pe_int pa_nil))) (fun _ _ => rfl)))
    (Evl.pss_cut (ps_if (pt_val (pv 1)) (pss_cons (ps_set (i := 2) sc__law_row.nd rfl (Or.inl rfl) (pe_op op_add pe_int (pe_call G__law_draw (hr.mono (by decide)) (by rfl) T.g__law_draw T.F__law_draw.kp T.b__law_draw .nil pass0 (pa_cons (pv 0) (pa_cons pe_int pa_nil)))))
    (pss_one (ps_if (pt_cmpR op_eq (pe_call G__law_draw (hr.mono (by decide)) (by rfl) T.g__law_draw T.F__law_draw.kp T.b__law_draw .nil pass0 (pa_cons (pv 0) (pa_cons pe_int pa_nil))) pe_int (nomark _)) (pss_one (ps_ret (pe_call G__law_unlike (hr.mono (by decide)) (by rfl) T.g__law_unlike T.F__law_unlike.kp T.b__law_unlike .nil pass0 (pa_cons (pv 0) (pa_cons (pv 2) pa_nil))))) pss_nil))) pss_nil)
    (pss_cons (ps_set (i := 3) sc__law_row.nd rfl (Or.inr rfl) (pe_call G__law_draw (hr.mono (by decide)) (by rfl) T.g__law_draw T.F__law_draw.kp T.b__law_draw .nil pass0 (pa_cons (pv 0) (pa_cons pe_int pa_nil))))
    (pss_cons (ps_if (pt_cmpR op_eq (pe_call G__law_draw (hr.mono (by decide)) (by rfl) T.g__law_draw T.F__law_draw.kp T.b__law_draw .nil pass0 (pa_cons (pv 0) (pa_cons pe_int pa_nil))) pe_int (nomark _)) (pss_one (ps_ret (pe_lc (own := [("k", 6)]) (g := gName 6) (by rfl) sc__law_row.nd (pi_range1 (by rfl) T.m_range (pa_cons (pv 2) pa_nil)) (blkOk_by (own := [("k", 6)]) (N := ["hand", "great", "many", "kind", "some", "row", "k"]) (by kernel_rfl)) (fun _ _ _ _ _ => pg_name (i := 6) sc__law_row.nd rfl (Or.inl rfl)) (fun _ _ _ _ _ => pts_nil) (fun _ _ _ _ _ => (pe_call G__law_number (hr.mono (by decide)) (by rfl) T.g__law_number T.F__law_number.kp T.b__law_number .nil pass0 (pa_cons (pv 0) (pa_cons (pv 3) pa_nil))))))) pss_nil)
    (pss_cons (ps_setLc (i := 4) (own := [("k", 6)]) (g := gName 6) (by rfl) sc__law_row.nd rfl rfl (sw_true rfl rfl rfl (by decide +kernel)) (pi_range1 (by rfl) T.m_range (pa_cons (pe_op op_add pe_int (pe_call G__law_draw (hr.mono (by decide)) (by rfl) T.g__law_draw T.F__law_draw.kp T.b__law_draw .nil pass0 (pa_cons (pv 0) (pa_cons (pe_ix (Ur.ix_listK (K := K) rfl) (pe_lst (pa_cons pe_int (pa_cons pe_int (pa_cons pe_int pa_nil)))) (pe_call G__law_draw (hr.mono (by decide)) (by rfl) T.g__law_draw T.F__law_draw.kp T.b__law_draw .nil pass0 (pa_cons (pv 0) (pa_cons (pe_op op_add pe_int (Ur.pe_t1 call_int1 (by rfl) T.m_int (by decide +kernel) (pv 1))) pa_nil))) (fun _ _ => rfl)) pa_nil)))) pa_nil)) (blkOk_by (own := [("k", 6)]) (N := ["hand", "great", "many", "kind", "some", "row", "k"]) (by kernel_rfl)) (fun _ _ _ _ _ => pg_name (i := 6) sc__law_row.nd rfl (Or.inl rfl)) (fun _ _ _ _ _ => pts_nil) (fun _ _ _ _ _ => (pe_call G__law_number (hr.mono (by decide)) (by rfl) T.g__law_number T.F__law_number.kp T.b__law_number .nil pass0 (pa_cons (pv 0) (pa_cons (pv 3) pa_nil)))))
    (pss_cons (ps_set (i := 5) sc__law_row.nd rfl (Or.inl rfl) (pe_lst pa_nil))
    (pss_cons (ps_while PassesOwn.never (pt_cmpR op_lt (Ur.pe_b1 (Ur.call_lenIK (K := K) rfl) (by rfl) T.m_len (by decide +kernel) (pv 5)) (pv 2) (nomark _)) (pss_one (ps_set (i := 5) sc__law_row.nd rfl (Or.inl rfl) (pe_op op_cat (pv 5) (pe_op op_rep (pe_lst (pa_cons (pe_ix (Ur.ix_listK (K := K) rfl) (pv 4) (pe_call G__law_draw (hr.mono (by decide)) (by rfl) T.g__law_draw T.F__law_draw.kp T.b__law_draw .nil pass0 (pa_cons (pv 0) (pa_cons (Ur.pe_b1 (Ur.call_lenIK (K := K) rfl) (by rfl) T.m_len (by decide +kernel) (pv 4)) pa_nil))) (fun _ _ => rfl)) pa_nil)) (pe_op op_add pe_int (pe_op op_mul (pe_op op_fdiv (pe_call G__law_draw (hr.mono (by decide)) (by rfl) T.g__law_draw T.F__law_draw.kp T.b__law_draw .nil pass0 (pa_cons (pv 0) (pa_cons pe_int pa_nil))) pe_int) (pe_call G__law_draw (hr.mono (by decide)) (by rfl) T.g__law_draw T.F__law_draw.kp T.b__law_draw .nil pass0 (pa_cons (pv 0) (pa_cons pe_int pa_nil))))))))))
    (pss_one (ps_ret (pe_slice (Ur.sl_listK (K := K) rfl) (pv 5) po_none (po_some (pv 2)))))))))))), ?_⟩
    tb_start
    intro n1 d1 m1 H1 hn1 b1 a1 k1
    tb_start
    intro n2 d2 m2 H2 hn2 b2 a2 k2
    tb_start
    intro n3 d3 m3 H3 hn3 b3 a3 k3
    tb_start
    intro p4 np4
    tb_start
    intro n5 d5 m5 H5 hn5 b5 a5 k5
    have hm := getD3 (x := n1) (y := n2) (z := n3) (lo := 0) (hi := 40) hn5.1 hn5.2 (by omega) (by omega) (by omega)
    tb_start
    refine ⟨fun σ H' => ∃ (mm : Int) (d m : Int) (x y z w : Option V), σ = [some (.ref a), some (.bl g), some (.int mm), x, y, z, w] ∧ H' a = some (.lst [.int d, .int m]) ∧ HandOk d m ∧ But a H H' ∧ (0 ≤ mm ∧ mm ≤ 300), ?_, ?_⟩
    · tb_start
      refine brb (fun hg => ?_) (fun hg => ?_)
      · kqd_all
        refine bri (fun _ => ?_) (fun _ => ?_)
        · kqd_all
          refine q _ _ _ _ _ (by assumption) (by assumption) (by assumption) (by cc_are) (by cc_off) (by omega)
        · refine ⟨_, _, _, _, _, _, _, rfl, by assumption, by assumption, by cc_are, by omega⟩
      · exact ⟨_, _, _, _, _, _, _, rfl, a5, k5, by cc_are, by omega⟩
    rintro σ H6 ⟨mm, d6, m6, x, y, z, w, rfl, a6, k6, b6, hmm⟩
    have hb := b01 g
    tb_start
    intro n7 d7 m7 H7 hn7 b7 a7 k7
    tb_start
    intro n8 d8 m8 H8 hn8 b8 a8 k8
    tb_start
    refine bri (fun _ => ?_) (fun _ => ?_)
    · tb_start
      intro D nD
      refine lc_rngS (fun o => ∃ d m, o = .lst [.int d, .int m] ∧ HandOk d m) (fun _ => True) a8 ⟨_, _, rfl, k8⟩ (by omega) nD (fun _ => rfl) ?he ?hd
      case he =>
        rintro k H' o hk b' ao ⟨d', m', rfl, k'⟩ Q' q'
        kqd_all
        exact q' _ _ _ trivial (by assumption) (by assumption) ⟨_, _, rfl, by assumption⟩
      case hd =>
        rintro H' ms o hl _ b' e' ao ⟨d', m', rfl, k'⟩
        exact q _ ms _ _ _ e' ao k' (by cc_are) (by cc_off) (by omega)
    tb_start
    intro p9 np9
    tb_start
    intro n10 d10 m10 H10 hn10 b10 a10 k10
    have hm2 := getD3 (x := 4) (y := 12) (z := 150) (i := n10) (lo := 4) (hi := 150) (by omega) (by omega) (by omega) (by omega) (by omega)
    tb_start
    intro n11 d11 m11 H11 hn11 b11 a11 k11
    tb_start
    intro D nD
    refine lc_rngS (fun o => ∃ d m, o = .lst [.int d, .int m] ∧ HandOk d m) (fun _ => True) a11 ⟨_, _, rfl, k11⟩ (by omega) nD (fun _ => rfl) ?he2 ?hd2
    case he2 =>
      rintro k H' o hk b' ao ⟨d', m', rfl, k'⟩ Q' q'
      kqd_all
      exact q' _ _ _ trivial (by assumption) (by assumption) ⟨_, _, rfl, by assumption⟩
    rintro H12 ss o hls _ b12 e12 a12 ⟨d12, m12, rfl, k12⟩
    tb_start
    intro r nr
    refine while_ans (fun mu σ H' => ∃ (p : Addr) (ns : List Int) (kd : V) (d m : Int) (x : Option V), σ = [some (.ref a), some (.bl g), some (.int mm), some kd, some (.ref D), some (.ref p), x] ∧ H' p = some (.lst (ns.map V.int)) ∧ H' D = some (.lst (ss.map V.int)) ∧ H' a = some (.lst [.int d, .int m]) ∧ HandOk d m ∧ But a H H' ∧ p ≠ a ∧ p ≠ D ∧ H p = none ∧ mu = mm.toNat - ns.length ∧ ns.length ≤ 310) (mm.toNat) ?h0 ?hs
    case h0 => exact ⟨r, [], _, d12, m12, _, rfl, upd_same, by kct_strs, by kct_strs, k12, by cc_are, by kcj_m, by kcj_m, by cc_off, rfl, by decide⟩
    case hs =>
      rintro mu σ H' ⟨p, ns, kd, d, m, x, rfl, hp, hD, ha', hk', b', npa, npD, fp, hmu, hln⟩
      refine ⟨decide ((ns.length : Int) < mm), fun Q' q' => ?_, fun hlt => ?_, fun hge => ?_⟩
      · tb_start
        exact q'
      · have hlt' := of_decide_eq_true hlt
        tb_start
        intro n1 d1 m1 H1 hn1 b1 a1 k1
        tb_start
        intro p2 np2
        tb_start
        intro n3 d3 m3 H3 hn3 b3 a3 k3
        tb_start
        intro n4 d4 m4 H4 hn4 b4 a4 k4
        have hp1 : 0 ≤ n3 / 2 * n4 ∧ n3 / 2 * n4 ≤ 3 := by
          have h : n3 / 2 = 0 ∨ n3 / 2 = 1 := by omega
          rcases h with e | e <;> rw [e] <;> omega
        tb_start
        intro p5 np5
        tb_start
        intro p6 np6
        refine ⟨_, ?_, p6, _, _, _, _, _, rfl, upd_app, by kct_strs, by kct_strs, k4, by cc_are, by kcj_m, by kcj_m, by cc_off, rfl, ?_⟩
        · rw [List.length_append, List.length_replicate]; omega
        · rw [List.length_append, List.length_replicate]; omega
      · tb_start
        intro p9 np9
        tb_start
        rw [cutI_to ns hmm.1]
        exact q _ (ns.take mm.toNat) _ _ _ upd_same (by kct_strs) hk' (by cc_are) (by cc_off) (by rw [List.length_take]; omega)
end
end Ur
namespace Ur
open PySem L2
/-- a window of a row of so many -/
def sp__law_window (K : PySem.W.Frag) : Sp := fun vs H Q _ => ∃ (a : Addr) (d m n : Int), vs = [.ref a, .int n] ∧ H a = some (.lst [.int d, .int m]) ∧ HandOk d m ∧ 0 ≤ n ∧ n ≤ 1000 ∧ ∀ p (f b d' m' : Int) H', H' p = some (.tup [.int f, .int b]) → (0 ≤ f ∧ f ≤ b ∧ b ≤ n) → But a H H' → H' a = some (.lst [.int d', .int m']) → HandOk d' m' → H p = none → Q (.ref p) H'
section
variable {P : Program} {w : World} {K : PySem.W.Frag} {mg : Str → Option Value} {base : Heap} {A : Adr}
theorem ok__law_window (T : Txt K mg A) : FnOk P w K mg base CX0 2 A.f__law_window A.d__law_window ["hand", "many"] (sp__law_window K) := by
  have G__law_draw := ok__law_draw (P := P) (w := w) (base := base) T
  refine T.F__law_window.ok sc__law_window (fun vs H Q E h => ?_) (fun cdv Ar outer s H vs Q E hr h => ?_)
  · obtain ⟨a, d, m, n, rfl, _⟩ := h
    rfl
  · obtain ⟨a, d, m, n, rfl, ha, hk, h0, h1, q⟩ := h
    refine ⟨_, (pss_cons (ps_set (i := 2) sc__law_window.nd rfl (Or.inl rfl) (pe_call G__law_draw (hr.mono (by decide)) (by rfl) T.g__law_draw T.F__law_draw.kp T.b__law_draw .nil pass0 (pa_cons (pv 0) (pa_cons (pe_op op_add (pv 1) pe_int) pa_nil))))
    (pss_cons (ps_set (i := 3) sc__law_window.nd rfl (Or.inl rfl) (pe_call G__law_draw (hr.mono (by decide)) (by rfl) T.g__law_draw T.F__law_draw.kp T.b__law_draw .nil pass0 (pa_cons (pv 0) (pa_cons pe_int pa_nil))))
    (pss_cons (ps_if (pt_cmpR op_eq (pv 3) pe_int (nomark _)) (pss_one (ps_ret (pe_tup (pa_cons (pv 2) (pa_cons (pe_op op_add (pv 2) (pe_call G__law_draw (hr.mono (by decide)) (by rfl) T.g__law_draw T.F__law_draw.kp T.b__law_draw .nil pass0 (pa_cons (pv 0) (pa_cons (pe_op op_sub (pe_op op_add (pv 1) pe_int) (pv 2)) pa_nil)))) pa_nil))))) pss_nil)
    (pss_cons (ps_if (pt_cmpR op_eq (pv 3) pe_int (nomark _)) (pss_one (ps_ret (pe_tup (pa_cons (pv 2) (pa_cons (Ur.pe_b2 (Ur.call_min2K rfl) (by rfl) T.m_min (by decide +kernel) (pv 1) (pe_op op_add (pv 2) (pe_call G__law_draw (hr.mono (by decide)) (by rfl) T.g__law_draw T.F__law_draw.kp T.b__law_draw .nil pass0 (pa_cons (pv 0) (pa_cons pe_int pa_nil))))) pa_nil))))) pss_nil)
    (pss_one (ps_ret (pe_ix (Ur.ix_listK (K := K) rfl) (pe_lst (pa_cons (pe_tup (pa_cons pe_int (pa_cons (pv 2) pa_nil))) (pa_cons (pe_tup (pa_cons (pv 2) (pa_cons (pv 1) pa_nil))) pa_nil))) (pe_op op_sub (pv 3) pe_int) (fun _ _ => rfl)))))))), ?_⟩
    tb_start
    intro n1 d1 m1 H1 hn1 b1 a1 k1
    tb_start
    intro n2 d2 m2 H2 hn2 b2 a2 k2
    tb_start
    refine bri (fun _ => ?_) (fun _ => ?_)
    · tb_start
      intro n3 d3 m3 H3 hn3 b3 a3 k3
      tb_start
      intro p np
      exact q _ _ _ _ _ _ upd_same (by omega) (by cc_are) (by kct_strs) k3 (by cc_off)
    tb_start
    refine bri (fun _ => ?_) (fun _ => ?_)
    · tb_start
      intro n3 d3 m3 H3 hn3 b3 a3 k3
      tb_start
      intro p np
      exact q _ _ _ _ _ _ upd_same (by split <;> omega) (by cc_are) (by kct_strs) k3 (by cc_off)
    tb_start
    intro p3 np3
    have hap3 : a ≠ p3 := by kcj_m
    tb_start
    intro p4 np4
    have hap4 : a ≠ p4 := by kcj_m
    have n34 : p3 ≠ p4 := by kcj_m
    tb_start
    intro p5 np5
    have hap5 : a ≠ p5 := by kcj_m
    have n35 : p3 ≠ p5 := by kcj_m
    have n45 : p4 ≠ p5 := by kcj_m
    have hn23 : n2 = 2 ∨ n2 = 3 := by omega
    rcases hn23 with rfl | rfl
    · have e : atI [V.ref p3, V.ref p4] ((2 : Int) - 2) = some (V.ref p3) := rfl
      tb_start
      exact q p3 0 n1 d2 m2 _ (by kct_strs) (by omega) (by cc_are) (by kct_strs) k2 (by cc_off)
    · have e : atI [V.ref p3, V.ref p4] ((3 : Int) - 2) = some (V.ref p4) := rfl
      tb_start
      exact q p4 n1 n d2 m2 _ (by kct_strs) (by omega) (by cc_are) (by kct_strs) k2 (by cc_off)
end
end Ur
namespace Ur
open PySem L2
/-- the law holds -/
def sp_law (K : PySem.W.Frag) : Sp := fun vs H Q _ => ∃ (a : Addr) (ns : List Int), vs = [.ref a] ∧ SqL K H a (ns.map V.int) ∧ ns.length ≤ 63 ∧ ∀ H', Q (.bl true) H'
section
variable {P : Program} {w : World} {K : PySem.W.Frag} {mg : Str → Option Value} {base : Heap} {A : Adr}
theorem ok_law (T : Txt K mg A) : FnOk P w K mg base CX0 6 A.f_law A.d_law ["script"] (sp_law K) := by
  have G_Ready___init__ := ok_Ready___init__ (P := P) (w := w) (base := base) T
  have G__law_asked := ok__law_asked (P := P) (w := w) (base := base) T
  have G__law_cells := ok__law_cells (P := P) (w := w) (base := base) T
  have G__law_draw := ok__law_draw (P := P) (w := w) (base := base) T
  have G__law_due := ok__law_due (P := P) (w := w) (base := base) T
  have G__law_great := ok__law_great (P := P) (w := w) (base := base) T
  have G__law_hand := ok__law_hand (P := P) (w := w) (base := base) T
  have G__law_row := ok__law_row (P := P) (w := w) (base := base) T
  have G__law_window := ok__law_window (P := P) (w := w) (base := base) T
  refine T.F_law.ok sc_law (fun vs H Q E h => ?_) (fun cdv Ar outer s H vs Q E hr h => ?_)
  · obtain ⟨a, ns, rfl, _⟩ := h
    rfl
  · have C_Ready := T.C_Ready
    have n_Ready_many := T.n_Ready_many
    have n_Ready_lasts := T.n_Ready_lasts
    have n_Ready_nexts := T.n_Ready_nexts
    obtain ⟨a, ns, rfl, ha, hl, q⟩ := h
    refine ⟨_, (pss_cons (ps_set (i := 1) sc_law.nd rfl (Or.inr rfl) (pe_call G__law_hand (hr.mono (by decide)) (by rfl) T.g__law_hand T.F__law_hand.kp T.b__law_hand .nil pass0 (pa_cons (pe_ix (Ur.ix_listK (K := K) rfl) (pe_op (Ur.op_catS (K := K) (by rfl)) (pe_lst (pa_cons pe_int pa_nil)) (pv 0)) (pe_un un_neg pe_int) (fun _ _ => rfl)) (pa_cons pe_int pa_nil))))
    (pss_cons (ps_setLc (i := 3) (own := [("k", 2)]) (g := gName 2) (by rfl) sc_law.nd rfl rfl (sw_true rfl rfl rfl (by decide +kernel)) (pi_range1 (by rfl) T.m_range (pa_cons (pe_op op_add pe_int (pe_call G__law_draw (hr.mono (by decide)) (by rfl) T.g__law_draw T.F__law_draw.kp T.b__law_draw .nil pass0 (pa_cons (pv 1) (pa_cons pe_int pa_nil)))) pa_nil)) (blkOk_by (own := [("k", 2)]) (N := ["script", "hand", "k", "rows", "row", "handed", "made", "held", "cell", "at", "way", "window", "many", "due", "told", "one"]) (by kernel_rfl)) (fun _ _ _ _ _ => pg_name (i := 2) sc_law.nd rfl (Or.inl rfl)) (fun _ _ _ _ _ => pts_nil) (fun _ _ _ _ _ => (pe_call G__law_row (hr.mono (by decide)) (by rfl) T.g__law_row T.F__law_row.kp T.b__law_row .nil pass0 (pa_cons (pv 1) (pa_cons (pe_and (pe_cmpR op_eq (pv 2) pe_int (nomark _)) (pe_one (pe_call G__law_great (hr.mono (by decide)) (by rfl) T.g__law_great T.F__law_great.kp T.b__law_great .nil pass0 (pa_cons (pv 0) pa_nil)))) pa_nil)))))
    (pss_cons (ps_setLc (i := 5) (own := [("row", 4)]) (g := gName 4) (by rfl) sc_law.nd rfl rfl (sw_true rfl rfl rfl (by decide +kernel)) (pi_list (pv 3)) (blkOk_by (own := [("row", 4)]) (N := ["script", "hand", "k", "rows", "row", "handed", "made", "held", "cell", "at", "way", "window", "many", "due", "told", "one"]) (by kernel_rfl)) (fun _ _ _ _ _ => pg_name (i := 4) sc_law.nd rfl (Or.inl rfl)) (fun _ _ _ _ _ => pts_nil) (fun _ _ _ _ _ => (Ur.pe_t1 (Ur.call_list_ofK (K := K) rfl) (by rfl) T.m_list (by decide +kernel) (pv 4))))
    (pss_cons (ps_setLc (i := 6) (own := [("row", 4)]) (g := gName 4) (by rfl) sc_law.nd rfl rfl (sw_true rfl rfl rfl (by decide +kernel)) (pi_list (pv 5)) (blkOk_by (own := [("row", 4)]) (N := ["script", "hand", "k", "rows", "row", "handed", "made", "held", "cell", "at", "way", "window", "many", "due", "told", "one"]) (by kernel_rfl)) (fun _ _ _ _ _ => pg_name (i := 4) sc_law.nd rfl (Or.inl rfl)) (fun _ _ _ _ _ => pts_nil) (fun _ _ _ _ _ => (pe_make T.M_Ready G_Ready___init__ (hr.mono (by decide)) (by rfl) T.g_Ready T.b_Ready___init__ .nil pass0 (pa_cons (pv 4) pa_nil))))
    (pss_cons (ps_for PassesOwn.never (by rfl) (pi_list (pv 5)) (pg_name (i := 4) sc_law.nd rfl (Or.inl rfl)) (pss_one (ps_asg (pe_lst (pa_cons (pe_op op_pow pe_int pe_int) pa_nil)) (UrS.pg_front (pv 4)))))
    (pss_cons (ps_set (i := 7) sc_law.nd rfl (Or.inl rfl) (pe_lst pa_nil))
    (pss_cons (ps_for PassesOwn.never (by rfl) (pi_list (pe_call G__law_cells (hr.mono (by decide)) (by rfl) T.g__law_cells T.F__law_cells.kp T.b__law_cells .nil pass0 (pa_cons (pv 0) (pa_cons pe_int pa_nil)))) (pg_tup (by rfl) (pgs_cons (pg_name (i := 2) sc_law.nd rfl (Or.inl rfl)) (pgs_cons (pg_name (i := 8) sc_law.nd rfl (Or.inl rfl)) pgs_nil))) (pss_cons (ps_set (i := 1) sc_law.nd rfl (Or.inr rfl) (pe_call G__law_hand (hr.mono (by decide)) (by rfl) T.g__law_hand T.F__law_hand.kp T.b__law_hand .nil pass0 (pa_cons (pv 8) (pa_cons (pv 2) pa_nil))))
    (pss_cons (ps_set (i := 9) sc_law.nd rfl (Or.inl rfl) (pe_call G__law_draw (hr.mono (by decide)) (by rfl) T.g__law_draw T.F__law_draw.kp T.b__law_draw .nil pass0 (pa_cons (pv 1) (pa_cons (Ur.pe_b1 (Ur.call_lenIK (K := K) rfl) (by rfl) T.m_len (by decide +kernel) (pv 3)) pa_nil))))
    (pss_cons (ps_set (i := 10) sc_law.nd rfl (Or.inl rfl) (pe_call G__law_draw (hr.mono (by decide)) (by rfl) T.g__law_draw T.F__law_draw.kp T.b__law_draw .nil pass0 (pa_cons (pv 1) (pa_cons pe_int pa_nil))))
    (pss_cons (ps_set (i := 11) sc_law.nd rfl (Or.inl rfl) (pe_call G__law_window (hr.mono (by decide)) (by rfl) T.g__law_window T.F__law_window.kp T.b__law_window .nil pass0 (pa_cons (pv 1) (pa_cons (Ur.pe_b1 (Ur.call_lenIK (K := K) rfl) (by rfl) T.m_len (by decide +kernel) (pe_ix (Ur.ix_listK (K := K) rfl) (pv 3) (pv 9) (fun _ _ => rfl))) pa_nil))))
    (pss_cons (ps_set (i := 12) sc_law.nd rfl (Or.inl rfl) (pe_call G__law_draw (hr.mono (by decide)) (by rfl) T.g__law_draw T.F__law_draw.kp T.b__law_draw .nil pass0 (pa_cons (pv 1) (pa_cons pe_int pa_nil))))
    (pss_cons (ps_set (i := 13) sc_law.nd rfl (Or.inl rfl) (pe_call G__law_due (hr.mono (by decide)) (by rfl) T.g__law_due T.F__law_due.kp T.b__law_due .nil pass0 (pa_cons (pe_ix (Ur.ix_listK (K := K) rfl) (pv 3) (pv 9) (fun _ _ => rfl)) (pa_cons (pv 10) (pa_cons (pv 11) (pa_cons (pv 12) pa_nil))))))
    (pss_cons (ps_set (i := 14) sc_law.nd rfl (Or.inl rfl) (pe_call G__law_asked (hr.mono (by decide)) (by rfl) T.g__law_asked T.F__law_asked.kp T.b__law_asked .nil pass0 (pa_cons (pe_ix (Ur.ix_listK (K := K) rfl) (pv 6) (pv 9) (fun _ _ => rfl)) (pa_cons (pv 10) (pa_cons (pv 11) (pa_cons (pv 12) pa_nil))))))
    (pss_cons (ps_if (PW.pt (pw_or (pt_cmpR (Ur.op_neDK (K := K) rfl hr.units) (pv 14) (pv 13) (nomark _)) (pw_or1 (pt_cmpR (Ur.op_neDK (K := K) rfl hr.units) (pe_call G__law_asked (hr.mono (by decide)) (by rfl) T.g__law_asked T.F__law_asked.kp T.b__law_asked .nil pass0 (pa_cons (pe_make T.M_Ready G_Ready___init__ (hr.mono (by decide)) (by rfl) T.g_Ready T.b_Ready___init__ .nil pass0 (pa_cons (Ur.pe_t1 (Ur.call_list_ofK (K := K) rfl) (by rfl) T.m_list (by decide +kernel) (pe_ix (Ur.ix_listK (K := K) rfl) (pv 3) (pv 9) (fun _ _ => rfl))) pa_nil)) (pa_cons (pv 10) (pa_cons (pv 11) (pa_cons (pv 12) pa_nil))))) (pv 13) (nomark _))))) (pss_one (ps_ret pe_bl)) pss_nil)
    (pss_one (ps_if (pt_cmpR op_eq (pv 10) pe_int (nomark _)) (pss_one (ps_expr (pe_bm PySem.F.plainAttrs_list PySem.F.slot_list_append PySem.F.type_list_append mt_append (pv 7) (pa_cons (pe_lst (pa_cons (pv 14) (pa_cons (Ur.pe_t1 (Ur.call_list_ofK (K := K) rfl) (by rfl) T.m_list (by decide +kernel) (pv 13)) pa_nil))) pa_nil)))) pss_nil)))))))))))
    (pss_one (ps_ret (pe_cmpR (Ur.op_eqDK (K := K) rfl hr.units) (pe_lc (own := [("one", 15)]) (g := gName 15) (by rfl) sc_law.nd (pi_list (pv 7)) (blkOk_by (own := [("one", 15)]) (N := ["script", "hand", "k", "rows", "row", "handed", "made", "held", "cell", "at", "way", "window", "many", "due", "told", "one"]) (by kernel_rfl)) (fun _ _ _ _ _ => pg_name (i := 15) sc_law.nd rfl (Or.inl rfl)) (fun _ _ _ _ _ => pts_one (pt_cmpR (Ur.op_neDK (K := K) rfl hr.units) (pe_ix (Ur.ix_listK (K := K) rfl) (pv 15) pe_int (fun _ _ => rfl)) (pe_ix (Ur.ix_listK (K := K) rfl) (pv 15) pe_int (fun _ _ => rfl)) (nomark _))) (fun _ _ _ _ _ => (pv 15))) (pe_lst pa_nil) (nomark _))))))))))), ?_⟩
    tb_start
    intro p0 n0
    have ha0 : SqL K (upd H p0 (.lst [.int 0])) a (ns.map V.int) := (same_new n0).seq ha
    tb_start
    intro p1 n1
    generalize hX : (upd _ p1 _) = HA
    have sA : Same H HA := by rw [← hX]; exact (same_new n0).trans (same_new n1)
    have eA : ∃ xs : List Int, xs ≠ [] ∧ HA p1 = some (.lst (xs.map V.int)) := ⟨0 :: ns, by simp, by rw [← hX]; exact upd_same⟩
    have haA := sA.seq ha
    obtain ⟨xs, hxs, eA⟩ := eA
    have hat : atI (xs.map V.int) (-1) = some (.int (xs.getLast hxs)) := by
      have h := List.dropLast_concat_getLast hxs
      have h2 : xs.map V.int = xs.dropLast.map V.int ++ [V.int (xs.getLast hxs)] := by
        rw [← List.map_singleton (f := V.int), ← List.map_append, h]
      rw [h2]
      exact atI_last _ _
    clear hX n0 n1 ha0 ha
    tb_start
    intro st d0 m0 HB sB nB eB kB
    have haB := sB.seq haA
    clear eA hat sA
    tb_start
    intro n2 d2 m2 HC hn2 bC aC kC
    have sC : Same HA HC := same_but bC nB sB
    clear haB bC eB
    tb_start
    intro D nD
    refine lc_rowsH aC kC (by omega) nD (fun _ => rfl) ?he1 ?hd1
    case he1 =>
      intro k H' d m hk b es hkk Q' q'
      have haX := (same_but b nB sC).seq haA
      tb_start
      refine bri (fun _ => ?_) (fun _ => ?_)
      · tb_start
        intro g
        tb_start
        intro p3 ns3 d3 m3 H3 e3 a3 k3 b3 f3 l3
        exact q' p3 ns3 d3 m3 H3 e3 l3 a3 k3 b3 f3
      · tb_start
        intro p3 ns3 d3 m3 H3 e3 a3 k3 b3 f3 l3
        exact q' p3 ns3 d3 m3 H3 e3 l3 a3 k3 b3 f3
    case hd1 =>
    intro HD ls ps d m bD eD rD hpn hp3 fD aD kD
    have sD : Same HA HD := same_but bD nB sC
    clear bD nD fD kD aC kC sC kB nB
    tb_start
    intro D2 nD2
    refine lc_psN (by omega) (SqL.of eD) rD nD2 (fun _ => rfl) ?he2 ?hd2
    case he2 =>
      intro p q0 H' hq s ep Q' q'
      have hql := hp3 _ hq
      tb_start
      intro y ny
      tb_start
      exact q' y _ (same_new ny) upd_same ny
    case hd2 =>
    intro HE hs sE eE rE fE ndE
    have eDE := sE _ _ eD
    have rDE := RowsF.same rD sE
    have offD2 := offRefs eE rE
    have offD : ∀ q ∈ hs, q ≠ D := fun q hq z => by have := fE q hq; rw [z, eD] at this; cases this
    have offst : ∀ q ∈ hs, q ≠ st := fun q hq z => by have := fE q hq; rw [z, aD] at this; cases this
    have offls : ∀ l ∈ ls, l ∉ hs := fun l hl hq => by
      obtain ⟨k, hk⟩ := List.mem_iff_getElem?.mp hl
      have := fE l hq
      rw [rD.row k l hk] at this
      cases this
    tb_start
    intro D3 nD3
    refine lc_rdy (C := A.c_Ready) (by omega) (SqL.of eE) rE nD3 (fun _ => rfl) ?he3 ?hd3
    case he3 =>
      intro p q0 H' hq s ep Q' q'
      have hql := hp3 _ hq
      tb_start
      intro o dx nox ndx hne
      refine mk_rdy (ns := q0) nox ndx hne ep (by omega) (fun H1 r s1 => ?_)
      exact q' o H1 r s1
    case hd3 =>
    intro HF os sF eF hol rF
    have eDF := sF _ _ eDE
    have rDF := RowsF.same rDE sF
    have eEF := sF _ _ eE
    have rEF := RowsF.same rE sF
    have offD3 : ∀ q ∈ hs, q ≠ D3 := fun q hq z => by
      obtain ⟨k, hk⟩ := List.mem_iff_getElem?.mp hq
      have := rE.row k q hk
      rw [z, nD3] at this
      cases this
    have hhl := rE.len
    have hll := rD.len
    clear nD2 eD nD3 eDE rDE rD
    tb_start
    refine for_list (xs := hs.map V.ref) (fun i σ H' => Iv (∃ (u1 u2 u4 u7 u8 u9 u10 u11 u12 u13 u14 u15 : Option V), σ = [some (.ref a), u1, u2, some (.ref D), u4, some (.ref D2), some (.ref D3), u7, u8, u9, u10, u11, u12, u13, u14, u15] ∧ ButL (fun x => x ∈ hs) HF H' ∧ ∀ q ∈ hs, ∃ ms : List Int, H' q = some (.lst (ms.map V.int)) ∧ ms.length ≤ 300 + i)) ?f0 ?fl ?fs ?fd
    case f0 =>
      refine ⟨_, _, _, _, _, _, _, _, _, _, _, _, rfl, ButL.refl, fun q hq => ?_⟩
      obtain ⟨k, hk⟩ := List.mem_iff_getElem?.mp hq
      obtain ⟨p, hp, e⟩ := PsF.get rEF hk
      exact ⟨p, e, hp3 _ (List.mem_of_getElem? hp)⟩
    case fl =>
      rintro i σ H' hi ⟨u1, u2, u4, u7, u8, u9, u10, u11, u12, u13, u14, u15, rfl, b, f⟩
      exact SqL.of (b _ _ (fun hq => offD2 _ hq rfl) eEF)
    case fs =>
      rintro i x σ H' hx ⟨u1, u2, u4, u7, u8, u9, u10, u11, u12, u13, u14, u15, rfl, b, f⟩
      rw [List.getElem?_map] at hx
      obtain ⟨w, hw, rfl⟩ := Option.map_eq_some_iff.mp hx
      have hwm := List.mem_of_getElem? hw
      have hi := (List.getElem?_eq_some_iff.mp hw).1
      obtain ⟨ms, ew, hml⟩ := f w hwm
      tb_start
      intro p np
      have hwp : w ≠ p := fun z => by rw [z, np] at ew; cases ew
      have ewp := (same_new (o := .lst [V.int (10 ^ (20 : Int).toNat)]) np) _ _ ew
      have hsz : (ms.map V.int).length + [V.int (10 ^ (20 : Int).toNat)].length ≤ 1000000 := by
        rw [List.length_map]
        show _ + 1 ≤ _
        omega
      tb_start
      refine ⟨_, _, _, _, _, _, _, _, _, _, _, _, rfl, (b.new np).at_ hwm, fun q hq => ?_⟩
      by_cases hqw : q = w
      · subst hqw
        exact ⟨10 ^ (20 : Int).toNat :: ms, upd_same, by rw [List.length_cons]; omega⟩
      · obtain ⟨ms2, e2, h2⟩ := f q hq
        exact ⟨ms2, by rw [upd_ne hqw]; exact same_new np _ _ e2, by omega⟩
    case fd =>
    rintro σ HG ⟨u1, u2, u4, u7, u8, u9, u10, u11, u12, u13, u14, u15, rfl, bG, _⟩
    have sG : Same HA HG := fun x o e => bG x o (fun hx => by have := fE x hx; rw [sD _ _ e] at this; cases this) (sF _ _ (sE _ _ (sD _ _ e)))
    have eDG := bG _ _ (fun hq => offD _ hq rfl) eDF
    have eFG := bG _ _ (fun hq => offD3 _ hq rfl) eF
    have rDG : PsF HG ls ps := ⟨rDF.len, fun k p h => bG _ _ (offls p (List.mem_of_getElem? h)) (rDF.row k p h)⟩
    have rG : ∀ (k : Nat) o p, os[k]? = some o → ps[k]? = some p → Rdy A.c_Ready (fun b => HE b ≠ none) HG o p := fun k o p h1 h2 => (rF k o p h1 h2).butL (fun b hb => by
      obtain ⟨j, hj⟩ := List.mem_iff_getElem?.mp hb
      rw [rE.row j b hj]
      exact fun z => nomatch z) bG
    have haG := sG.seq haA
    clear bG eDF eF rDF rF eEF rEF offD offD2 offD3 offst offls sE sF sD aD fE ndE haA eE rE
    tb_start
    intro hh nh
    generalize hX : (upd _ hh _) = HH
    have sH : Same HG HH := by rw [← hX]; exact same_new nh
    have eh : HH hh = some (.lst []) := by rw [← hX]; exact upd_same
    have haH := sH.seq haG
    have dD : D ≠ hh := fun z => by rw [← z, eDG] at nh; cases nh
    have dD3 : D3 ≠ hh := fun z => by rw [← z, eFG] at nh; cases nh
    have dls : ∀ l ∈ ls, l ≠ hh := fun l hl z => by
      obtain ⟨k, hk⟩ := List.mem_iff_getElem?.mp hl
      have := rDG.row k l hk
      rw [z, nh] at this
      cases this
    have eDH := sH _ _ eDG
    have eFH := sH _ _ eFG
    have rDH : PsF HH ls ps := RowsF.same rDG sH
    have rH : ∀ (k : Nat) o p, os[k]? = some o → ps[k]? = some p → Rdy A.c_Ready (fun b => b = hh) HH o p := fun k o p h1 h2 => (((rG k o p h1 h2).bar nh).sub (fun b hb => .inr hb)).same sH
    clear hX nh sH haG eDG eFG rDG rG sG
    tb_start
    intro p ts H1 cs hcs N
    tb_start
    refine for_cells (cs := cs) N (fun n σ H' => Iv (∃ (u1 u2 u4 u5 u8 u9 u10 u11 u12 u13 u14 u15 : Option V), σ = [some (.ref a), u1, u2, some (.ref D), u4, u5, some (.ref D3), some (.ref hh), u8, u9, u10, u11, u12, u13, u14, u15] ∧ HeldL (fun x => x = hh) hh H' n ∧ ButL (fun x => x = hh) H1 H')) ?h0 ?hb ?hs ?hd
    case h0 => exact ⟨_, _, _, _, _, _, _, _, _, _, _, _, rfl, ⟨[], N.1 _ _ eh, Nat.le_refl _, fun p hp => nomatch hp⟩, ButL.refl⟩
    case hb =>
      rintro n σ H' ⟨u1, u2, u4, u5, u8, u9, u10, u11, u12, u13, u14, u15, rfl, _, b⟩ t o e0 e1
      exact b t o (fun e => by rw [e, eh] at e0; cases e0) e1
    case hs =>
      rintro n c σ H' hc ⟨u1, u2, u4, u5, u8, u9, u10, u11, u12, u13, u14, u15, rfl, hH, b⟩
      have hn := (List.getElem?_eq_some_iff.mp hc).1
      have eD' := b _ _ dD (N.1 _ _ eDH)
      have eF' := b _ _ dD3 (N.1 _ _ eFH)
      have rD' : PsF H' ls ps := ⟨rDH.len, fun k p h => b _ _ (dls p (List.mem_of_getElem? h)) (N.1 _ _ (rDH.row k p h))⟩
      have r' : ∀ (k : Nat) o p, os[k]? = some o → ps[k]? = some p → Rdy A.c_Ready (fun b => b = hh) H' o p := fun k o p h1 h2 => ((rH k o p h1 h2).same N.1).butL (fun _ h => h) b
      tb_start
      intro p1 d m H2 s2 f2 e2 k2
      tb_start
      intro n1 d3 m3 H3 hn1 b3 a3 k3
      tb_start
      intro wy d4 m4 H4 hwy b4 a4 k4
      have S4 : Same H' H4 := same_but (but_step b4 b3) f2 s2
      have hk1 : n1.toNat < ls.length := by omega
      obtain ⟨l, hl1⟩ : ∃ l, ls[n1.toNat]? = some l := ⟨_, List.getElem?_eq_getElem hk1⟩
      obtain ⟨o, ho1⟩ : ∃ o, os[n1.toNat]? = some o := ⟨_, List.getElem?_eq_getElem (by omega)⟩
      obtain ⟨row, hp1, el'⟩ := PsF.get rD' hl1
      have hrow := hp3 _ (List.mem_of_getElem? hp1)
      have hat1 : atI (ls.map V.ref) n1 = some (.ref l) := by
        rw [show n1 = ((n1.toNat : Nat) : Int) by omega]
        exact at_nat (by rw [List.getElem?_map, hl1]; rfl)
      have hat2 : atI (os.map V.ref) n1 = some (.ref o) := by
        rw [show n1 = ((n1.toNat : Nat) : Int) by omega]
        exact at_nat (by rw [List.getElem?_map, ho1]; rfl)
      have ro := r' n1.toNat o row ho1 hp1
      have eD4 := S4 _ _ eD'
      have el4 := S4 _ _ el'
      clear r' rD'
      tb_start
      intro pw f bb d5 m5 H5 ew hf b5 a5 k5 npw
      have dpw : pw ≠ p1 := fun z => by rw [z, a4] at npw; cases npw
      tb_start
      intro mm d6 m6 H6 hmm b6 a6 k6
      have S6 : Same H' H6 := same_but (but_step b6 (but_step b5 (but_step b4 b3))) f2 s2
      have ew6 := b6 _ _ dpw ew
      have eD6 := S6 _ _ eD'
      have el6 := S6 _ _ el'
      clear eD4 el4 S4 b3 b4 b5 b6 a3 a4 a5 ew npw f2 s2 e2 k2 k3 k4 k5 a6 k6
      tb_start
      intro v7 H7 an7 s7 nv7
      have eF7 := s7 _ _ (S6 _ _ eF')
      have ro7 := (ro.same S6).same s7
      have ew7 := s7 _ _ ew6
      have eD7 := s7 _ _ eD6
      have el7 := s7 _ _ el6
      have S7 := S6.trans s7
      clear eD6 el6 ew6 S6
      tb_start
      intro v8 H8 an8 s8 nv8
      have an78 := an7.same s8
      have ew8 := s8 _ _ ew7
      have eD8 := s8 _ _ eD7
      have el8 := s8 _ _ el7
      have S8 := S7.trans s8
      clear eD7 el7 ew7 eF7 ro7
      tb_start
      refine AnsR.ne an8 an78 ?_
      tb_start
      intro l9 nl9
      have s9a : Same H8 (upd H8 l9 (.lst (row.map V.int))) := same_new nl9
      have ew9 := s9a _ _ ew8
      tb_start
      intro o9 dx9 nox ndx hne
      refine mk_rdy (ns := row) nox ndx hne upd_same (by omega) (fun H9 r9 s9 => ?_)
      have ew10 := s9 _ _ ew9
      have S9 : Same H8 H9 := s9a.trans s9
      tb_start
      intro v10 H10 an10 s10 nv10
      have S810 := S9.trans s10
      have an710 := an78.same S810
      tb_start
      refine AnsR.ne an10 an710 ?_
      have an810 := an8.same S810
      have S10 : Same H' H10 := S8.trans S810
      have eh10 : ∃ pp : List Addr, H' hh = some (.lst (pp.map V.ref)) ∧ pp.length ≤ n ∧ ∀ p ∈ pp, PairL (fun x => x = hh) H' p := hH.all
      obtain ⟨pp, ehp, hpl, fpp⟩ := eh10
      have eh7 := S7 _ _ ehp
      have eh1 := S10 _ _ ehp
      clear ew10 ew9 ew8 eD8 el8 an10 an78 an8 an7 nv10 r9 ro s9 s9a nl9
      have hfl := firP_len hf.1 hf.2.1 hf.2.2
      have hwl := wun_le (ns := row) (f := f) (b := bb)
      have hn64 : n ≤ 64 := by omega
      by_cases hw1 : wy = 1
      · subst hw1
        obtain ⟨q8, rfl, e8⟩ : ∃ q, v8 = .ref q ∧ H10 q = some (.lst ((firP row f bb).map V.int)) := by
          rcases an810 with ⟨h, _⟩ | ⟨_, q, e, k⟩ | ⟨h, _⟩ | ⟨h, _⟩
          · omega
          · exact ⟨q, e, k⟩
          all_goals omega
        obtain ⟨q7, rfl, e7⟩ : ∃ q, v7 = .ref q ∧ H10 q = some (.lst ((firP row f bb).map V.int)) := by
          rcases an710 with ⟨h, _⟩ | ⟨_, q, e, k⟩ | ⟨h, _⟩ | ⟨h, _⟩
          · omega
          · exact ⟨q, e, k⟩
          all_goals omega
        have d8 : q8 ≠ hh := fun z => by have := nv8 q8 rfl; rw [z, eh7] at this; cases this
        tb_start
        intro c' nc
        have n8c : q8 ≠ c' := fun z => by rw [← z, e8] at nc; cases nc
        have dc : c' ≠ hh := fun z => by rw [z, eh1] at nc; cases nc
        have eh2 := (same_new (o := .lst ((firP row f bb).map V.int)) nc) _ _ eh1
        tb_start
        intro t nt
        have n8t : q8 ≠ t := fun z => by rw [← z, upd_ne n8c, e8] at nt; cases nt
        have nct : c' ≠ t := fun z => by rw [← z, upd_same] at nt; cases nt
        have dt : t ≠ hh := fun z => by rw [z, eh2] at nt; cases nt
        have eh3 := (same_new (o := .lst [V.ref q8, V.ref c']) nt) _ _ eh2
        tb_start
        have bN : ButL (fun x => x = hh) H' (upd (upd (upd H10 c' (.lst ((firP row f bb).map V.int))) t (.lst [V.ref q8, V.ref c'])) hh (.lst (pp.map V.ref ++ [V.ref t]))) := (((ButL.same S10).new nc).new nt).at_ rfl
        refine ⟨_, _, _, _, _, _, _, _, _, _, _, _, rfl, HeldL.grow hpl fpp bN (by rw [upd_same, List.map_append]; rfl) ⟨dt, q8, c', firP row f bb, d8, dc, ?_, ?_, ?_⟩, b.trans bN⟩
        · rw [upd_ne dt, upd_same]
        · rw [upd_ne d8, upd_ne n8t, upd_ne n8c]; exact e8
        · rw [upd_ne dc, upd_ne nct, upd_same]
      · tb_start
        refine bri (fun h => absurd h hw1) (fun _ => ?_)
        tb_start
        exact ⟨_, _, _, _, _, _, _, _, _, _, _, _, rfl, (hH.step (ButL.same S10) (fun xs e => S10 _ _ e)).mono (by omega), b.trans (ButL.same S10)⟩
    case hd =>
      rintro σ H' ⟨u1, u2, u4, u5, u8, u9, u10, u11, u12, u13, u14, u15, rfl, hH, b⟩
      obtain ⟨pp, ehp, hlp, fps⟩ := hH.all
      tb_start
      intro D9 nD9
      refine lc_none (xs := pp.map V.ref) (SqL.of ehp) nD9 (fun _ => rfl) ?ct ?cd
      case ct =>
        rintro x H' hx s Q2 q2
        obtain ⟨p, hp2, rfl⟩ := List.mem_map.mp hx
        obtain ⟨_, x2, y2, ms, _, _, g1, g2, g3⟩ := (fps p hp2).both
        have en : (!decide (ms = ms)) = false := by simp
        clear hH b
        tb_start
        rw [en]
        exact q2 _ (by kcj_in)
      case cd =>
        intro H' s e
        have e0 : H' D9 = some (.lst (([] : List Int).map V.int)) := e
        tb_start
        intro p15 n15
        tb_start
        exact q _
    exact ⟨_, .of N.2.2.2.2.2.2.1⟩
end
end Ur
namespace Ur
open PySem L2
theorem all_mk {l : PySem.W.OpenLaw} {w : World} {K : PySem.W.Frag} {h : Heap} {mg : Str → Option Value} {fa : Addr} {c_Ready c_NoWindow : Addr} (X : K.In h) (G : h.Ns mainGlobals mg) (hfa : mg "law" = some (.ref fa))
    {f_last_places : Addr} {oc_last_places kV_last_places dc_last_places pm_last_places cd_last_places ct_last_places : Value} {od_last_places an_last_places : Option Addr} {sl_last_places : Array (Option Value)}
    {f_next_places : Addr} {oc_next_places kV_next_places dc_next_places pm_next_places cd_next_places ct_next_places : Value} {od_next_places an_next_places : Option Addr} {sl_next_places : Array (Option Value)}
    {f_Ready___init__ : Addr} {oc_Ready___init__ kV_Ready___init__ dc_Ready___init__ pm_Ready___init__ cd_Ready___init__ ct_Ready___init__ : Value} {od_Ready___init__ an_Ready___init__ : Option Addr} {sl_Ready___init__ : Array (Option Value)}
    {f_is_whole : Addr} {oc_is_whole kV_is_whole dc_is_whole pm_is_whole cd_is_whole ct_is_whole : Value} {od_is_whole an_is_whole : Option Addr} {sl_is_whole : Array (Option Value)}
    {f_Ready_need_place : Addr} {oc_Ready_need_place kV_Ready_need_place dc_Ready_need_place pm_Ready_need_place cd_Ready_need_place ct_Ready_need_place : Value} {od_Ready_need_place an_Ready_need_place : Option Addr} {sl_Ready_need_place : Array (Option Value)}
    {f_Ready_begin_of : Addr} {oc_Ready_begin_of kV_Ready_begin_of dc_Ready_begin_of pm_Ready_begin_of cd_Ready_begin_of ct_Ready_begin_of : Value} {od_Ready_begin_of an_Ready_begin_of : Option Addr} {sl_Ready_begin_of : Array (Option Value)}
    {f_Ready_end_of : Addr} {oc_Ready_end_of kV_Ready_end_of dc_Ready_end_of pm_Ready_end_of cd_Ready_end_of ct_Ready_end_of : Value} {od_Ready_end_of an_Ready_end_of : Option Addr} {sl_Ready_end_of : Array (Option Value)}
    {f_Ready_need_window : Addr} {oc_Ready_need_window kV_Ready_need_window dc_Ready_need_window pm_Ready_need_window cd_Ready_need_window ct_Ready_need_window : Value} {od_Ready_need_window an_Ready_need_window : Option Addr} {sl_Ready_need_window : Array (Option Value)}
    {f_Ready_firsts : Addr} {oc_Ready_firsts kV_Ready_firsts dc_Ready_firsts pm_Ready_firsts cd_Ready_firsts ct_Ready_firsts : Value} {od_Ready_firsts an_Ready_firsts : Option Addr} {sl_Ready_firsts : Array (Option Value)}
    {f_Ready_unlike : Addr} {oc_Ready_unlike kV_Ready_unlike dc_Ready_unlike pm_Ready_unlike cd_Ready_unlike ct_Ready_unlike : Value} {od_Ready_unlike an_Ready_unlike : Option Addr} {sl_Ready_unlike : Array (Option Value)}
    {f__law_asked : Addr} {oc__law_asked kV__law_asked dc__law_asked pm__law_asked cd__law_asked ct__law_asked : Value} {od__law_asked an__law_asked : Option Addr} {sl__law_asked : Array (Option Value)}
    {f__law_cells : Addr} {oc__law_cells kV__law_cells dc__law_cells pm__law_cells cd__law_cells ct__law_cells : Value} {od__law_cells an__law_cells : Option Addr} {sl__law_cells : Array (Option Value)}
    {f__law_draw : Addr} {oc__law_draw kV__law_draw dc__law_draw pm__law_draw cd__law_draw ct__law_draw : Value} {od__law_draw an__law_draw : Option Addr} {sl__law_draw : Array (Option Value)}
    {f__law_due : Addr} {oc__law_due kV__law_due dc__law_due pm__law_due cd__law_due ct__law_due : Value} {od__law_due an__law_due : Option Addr} {sl__law_due : Array (Option Value)}
    {f__law_great : Addr} {oc__law_great kV__law_great dc__law_great pm__law_great cd__law_great ct__law_great : Value} {od__law_great an__law_great : Option Addr} {sl__law_great : Array (Option Value)}
    {f__law_hand : Addr} {oc__law_hand kV__law_hand dc__law_hand pm__law_hand cd__law_hand ct__law_hand : Value} {od__law_hand an__law_hand : Option Addr} {sl__law_hand : Array (Option Value)}
    {f__law_number : Addr} {oc__law_number kV__law_number dc__law_number pm__law_number cd__law_number ct__law_number : Value} {od__law_number an__law_number : Option Addr} {sl__law_number : Array (Option Value)}
    {f__law_unlike : Addr} {oc__law_unlike kV__law_unlike dc__law_unlike pm__law_unlike cd__law_unlike ct__law_unlike : Value} {od__law_unlike an__law_unlike : Option Addr} {sl__law_unlike : Array (Option Value)}
    {f__law_row : Addr} {oc__law_row kV__law_row dc__law_row pm__law_row cd__law_row ct__law_row : Value} {od__law_row an__law_row : Option Addr} {sl__law_row : Array (Option Value)}
    {f__law_window : Addr} {oc__law_window kV__law_window dc__law_window pm__law_window cd__law_window ct__law_window : Value} {od__law_window an__law_window : Option Addr} {sl__law_window : Array (Option Value)}
    {f_law : Addr} {oc_law kV_law dc_law pm_law cd_law ct_law : Value} {od_law an_law : Option Addr} {sl_law : Array (Option Value)}
    (aC_Ready : PySem.W.nsIn K mainGlobals "Ready" = some (some (.ref c_Ready)))
    (pg_Ready : PySem.W.plainGet K c_Ready Str.empty = true)
    (hd_Ready : PySem.W.hasDictIn K c_Ready = true)
    (po_Ready : PySem.W.plainOver K c_Ready = true)
    (sa_Ready : PySem.W.findIn K (.ref c_Ready) "__setattr__" = some (some (.builtin "object.__setattr__")))
    (mk_Ready : PySem.W.makesIn K c_Ready = true)
    (kc_Ready : PySem.W.keepIn K (.ref c_Ready) = true)
    (n_Ready_many : PySem.W.findIn K (.ref c_Ready) "many" = some none)
    (n_Ready_lasts : PySem.W.findIn K (.ref c_Ready) "lasts" = some none)
    (n_Ready_nexts : PySem.W.findIn K (.ref c_Ready) "nexts" = some none)
    (aC_NoWindow : PySem.W.nsIn K mainGlobals "NoWindow" = some (some (.ref c_NoWindow)))
    (a_last_places : PySem.W.nsIn K mainGlobals "last_places" = some (some (.ref f_last_places)))
    (l_last_places : K.lookup f_last_places = some ⟨oc_last_places, od_last_places, .func (PySem.W.fnOf "last_places" "last_places" (defArgs s_last_places) (defBody s_last_places) (defScope s_last_places) .none kV_last_places dc_last_places pm_last_places an_last_places cd_last_places ct_last_places), sl_last_places⟩)
    (q_last_places : PySem.W.codeIn K cd_last_places "last_places" = true)
    (k_last_places : PySem.W.keepIn K (.ref f_last_places) = true)
    (a_next_places : PySem.W.nsIn K mainGlobals "next_places" = some (some (.ref f_next_places)))
    (l_next_places : K.lookup f_next_places = some ⟨oc_next_places, od_next_places, .func (PySem.W.fnOf "next_places" "next_places" (defArgs s_next_places) (defBody s_next_places) (defScope s_next_places) .none kV_next_places dc_next_places pm_next_places an_next_places cd_next_places ct_next_places), sl_next_places⟩)
    (q_next_places : PySem.W.codeIn K cd_next_places "next_places" = true)
    (k_next_places : PySem.W.keepIn K (.ref f_next_places) = true)
    (a_Ready___init__ : PySem.W.findIn K (.ref c_Ready) "__init__" = some (some (.ref f_Ready___init__)))
    (i_Ready___init__ : PySem.W.isFn K (.ref f_Ready___init__) = true)
    (l_Ready___init__ : K.lookup f_Ready___init__ = some ⟨oc_Ready___init__, od_Ready___init__, .func (PySem.W.fnOf "__init__" "Ready.__init__" (defArgs s_Ready___init__) (defBody s_Ready___init__) (defScope s_Ready___init__) .none kV_Ready___init__ dc_Ready___init__ pm_Ready___init__ an_Ready___init__ cd_Ready___init__ ct_Ready___init__), sl_Ready___init__⟩)
    (q_Ready___init__ : PySem.W.codeIn K cd_Ready___init__ "Ready.__init__" = true)
    (k_Ready___init__ : PySem.W.keepIn K (.ref f_Ready___init__) = true)
    (a_is_whole : PySem.W.nsIn K mainGlobals "is_whole" = some (some (.ref f_is_whole)))
    (l_is_whole : K.lookup f_is_whole = some ⟨oc_is_whole, od_is_whole, .func (PySem.W.fnOf "is_whole" "is_whole" (defArgs s_is_whole) (defBody s_is_whole) (defScope s_is_whole) .none kV_is_whole dc_is_whole pm_is_whole an_is_whole cd_is_whole ct_is_whole), sl_is_whole⟩)
    (q_is_whole : PySem.W.codeIn K cd_is_whole "is_whole" = true)
    (k_is_whole : PySem.W.keepIn K (.ref f_is_whole) = true)
    (a_Ready_need_place : PySem.W.findIn K (.ref c_Ready) "need_place" = some (some (.ref f_Ready_need_place)))
    (i_Ready_need_place : PySem.W.isFn K (.ref f_Ready_need_place) = true)
    (l_Ready_need_place : K.lookup f_Ready_need_place = some ⟨oc_Ready_need_place, od_Ready_need_place, .func (PySem.W.fnOf "need_place" "Ready.need_place" (defArgs s_Ready_need_place) (defBody s_Ready_need_place) (defScope s_Ready_need_place) .none kV_Ready_need_place dc_Ready_need_place pm_Ready_need_place an_Ready_need_place cd_Ready_need_place ct_Ready_need_place), sl_Ready_need_place⟩)
    (q_Ready_need_place : PySem.W.codeIn K cd_Ready_need_place "Ready.need_place" = true)
    (k_Ready_need_place : PySem.W.keepIn K (.ref f_Ready_need_place) = true)
    (a_Ready_begin_of : PySem.W.findIn K (.ref c_Ready) "begin_of" = some (some (.ref f_Ready_begin_of)))
    (i_Ready_begin_of : PySem.W.isFn K (.ref f_Ready_begin_of) = true)
    (l_Ready_begin_of : K.lookup f_Ready_begin_of = some ⟨oc_Ready_begin_of, od_Ready_begin_of, .func (PySem.W.fnOf "begin_of" "Ready.begin_of" (defArgs s_Ready_begin_of) (defBody s_Ready_begin_of) (defScope s_Ready_begin_of) .none kV_Ready_begin_of dc_Ready_begin_of pm_Ready_begin_of an_Ready_begin_of cd_Ready_begin_of ct_Ready_begin_of), sl_Ready_begin_of⟩)
    (q_Ready_begin_of : PySem.W.codeIn K cd_Ready_begin_of "Ready.begin_of" = true)
    (k_Ready_begin_of : PySem.W.keepIn K (.ref f_Ready_begin_of) = true)
    (a_Ready_end_of : PySem.W.findIn K (.ref c_Ready) "end_of" = some (some (.ref f_Ready_end_of)))
    (i_Ready_end_of : PySem.W.isFn K (.ref f_Ready_end_of) = true)
    (l_Ready_end_of : K.lookup f_Ready_end_of = some ⟨oc_Ready_end_of, od_Ready_end_of, .func (PySem.W.fnOf "end_of" "Ready.end_of" (defArgs s_Ready_end_of) (defBody s_Ready_end_of) (defScope s_Ready_end_of) .none kV_Ready_end_of dc_Ready_end_of pm_Ready_end_of an_Ready_end_of cd_Ready_end_of ct_Ready_end_of), sl_Ready_end_of⟩)
    (q_Ready_end_of : PySem.W.codeIn K cd_Ready_end_of "Ready.end_of" = true)
    (k_Ready_end_of : PySem.W.keepIn K (.ref f_Ready_end_of) = true)
    (a_Ready_need_window : PySem.W.findIn K (.ref c_Ready) "need_window" = some (some (.ref f_Ready_need_window)))
    (i_Ready_need_window : PySem.W.isFn K (.ref f_Ready_need_window) = true)
    (l_Ready_need_window : K.lookup f_Ready_need_window = some ⟨oc_Ready_need_window, od_Ready_need_window, .func (PySem.W.fnOf "need_window" "Ready.need_window" (defArgs s_Ready_need_window) (defBody s_Ready_need_window) (defScope s_Ready_need_window) .none kV_Ready_need_window dc_Ready_need_window pm_Ready_need_window an_Ready_need_window cd_Ready_need_window ct_Ready_need_window), sl_Ready_need_window⟩)
    (q_Ready_need_window : PySem.W.codeIn K cd_Ready_need_window "Ready.need_window" = true)
    (k_Ready_need_window : PySem.W.keepIn K (.ref f_Ready_need_window) = true)
    (a_Ready_firsts : PySem.W.findIn K (.ref c_Ready) "firsts" = some (some (.ref f_Ready_firsts)))
    (i_Ready_firsts : PySem.W.isFn K (.ref f_Ready_firsts) = true)
    (l_Ready_firsts : K.lookup f_Ready_firsts = some ⟨oc_Ready_firsts, od_Ready_firsts, .func (PySem.W.fnOf "firsts" "Ready.firsts" (defArgs s_Ready_firsts) (defBody s_Ready_firsts) (defScope s_Ready_firsts) .none kV_Ready_firsts dc_Ready_firsts pm_Ready_firsts an_Ready_firsts cd_Ready_firsts ct_Ready_firsts), sl_Ready_firsts⟩)
    (q_Ready_firsts : PySem.W.codeIn K cd_Ready_firsts "Ready.firsts" = true)
    (k_Ready_firsts : PySem.W.keepIn K (.ref f_Ready_firsts) = true)
    (a_Ready_unlike : PySem.W.findIn K (.ref c_Ready) "unlike" = some (some (.ref f_Ready_unlike)))
    (i_Ready_unlike : PySem.W.isFn K (.ref f_Ready_unlike) = true)
    (l_Ready_unlike : K.lookup f_Ready_unlike = some ⟨oc_Ready_unlike, od_Ready_unlike, .func (PySem.W.fnOf "unlike" "Ready.unlike" (defArgs s_Ready_unlike) (defBody s_Ready_unlike) (defScope s_Ready_unlike) .none kV_Ready_unlike dc_Ready_unlike pm_Ready_unlike an_Ready_unlike cd_Ready_unlike ct_Ready_unlike), sl_Ready_unlike⟩)
    (q_Ready_unlike : PySem.W.codeIn K cd_Ready_unlike "Ready.unlike" = true)
    (k_Ready_unlike : PySem.W.keepIn K (.ref f_Ready_unlike) = true)
    (a__law_asked : PySem.W.nsIn K mainGlobals "_law_asked" = some (some (.ref f__law_asked)))
    (l__law_asked : K.lookup f__law_asked = some ⟨oc__law_asked, od__law_asked, .func (PySem.W.fnOf "_law_asked" "_law_asked" (defArgs s__law_asked) (defBody s__law_asked) (defScope s__law_asked) .none kV__law_asked dc__law_asked pm__law_asked an__law_asked cd__law_asked ct__law_asked), sl__law_asked⟩)
    (q__law_asked : PySem.W.codeIn K cd__law_asked "_law_asked" = true)
    (k__law_asked : PySem.W.keepIn K (.ref f__law_asked) = true)
    (a__law_cells : PySem.W.nsIn K mainGlobals "_law_cells" = some (some (.ref f__law_cells)))
    (l__law_cells : K.lookup f__law_cells = some ⟨oc__law_cells, od__law_cells, .func (PySem.W.fnOf "_law_cells" "_law_cells" (defArgs s__law_cells) (defBody s__law_cells) (defScope s__law_cells) .none kV__law_cells dc__law_cells pm__law_cells an__law_cells cd__law_cells ct__law_cells), sl__law_cells⟩)
    (q__law_cells : PySem.W.codeIn K cd__law_cells "_law_cells" = true)
    (k__law_cells : PySem.W.keepIn K (.ref f__law_cells) = true)
    (a__law_draw : PySem.W.nsIn K mainGlobals "_law_draw" = some (some (.ref f__law_draw)))
    (l__law_draw : K.lookup f__law_draw = some ⟨oc__law_draw, od__law_draw, .func (PySem.W.fnOf "_law_draw" "_law_draw" (defArgs s__law_draw) (defBody s__law_draw) (defScope s__law_draw) .none kV__law_draw dc__law_draw pm__law_draw an__law_draw cd__law_draw ct__law_draw), sl__law_draw⟩)
    (q__law_draw : PySem.W.codeIn K cd__law_draw "_law_draw" = true)
    (k__law_draw : PySem.W.keepIn K (.ref f__law_draw) = true)
    (a__law_due : PySem.W.nsIn K mainGlobals "_law_due" = some (some (.ref f__law_due)))
    (l__law_due : K.lookup f__law_due = some ⟨oc__law_due, od__law_due, .func (PySem.W.fnOf "_law_due" "_law_due" (defArgs s__law_due) (defBody s__law_due) (defScope s__law_due) .none kV__law_due dc__law_due pm__law_due an__law_due cd__law_due ct__law_due), sl__law_due⟩)
    (q__law_due : PySem.W.codeIn K cd__law_due "_law_due" = true)
    (k__law_due : PySem.W.keepIn K (.ref f__law_due) = true)
    (a__law_great : PySem.W.nsIn K mainGlobals "_law_great" = some (some (.ref f__law_great)))
    (l__law_great : K.lookup f__law_great = some ⟨oc__law_great, od__law_great, .func (PySem.W.fnOf "_law_great" "_law_great" (defArgs s__law_great) (defBody s__law_great) (defScope s__law_great) .none kV__law_great dc__law_great pm__law_great an__law_great cd__law_great ct__law_great), sl__law_great⟩)
    (q__law_great : PySem.W.codeIn K cd__law_great "_law_great" = true)
    (k__law_great : PySem.W.keepIn K (.ref f__law_great) = true)
    (a__law_hand : PySem.W.nsIn K mainGlobals "_law_hand" = some (some (.ref f__law_hand)))
    (l__law_hand : K.lookup f__law_hand = some ⟨oc__law_hand, od__law_hand, .func (PySem.W.fnOf "_law_hand" "_law_hand" (defArgs s__law_hand) (defBody s__law_hand) (defScope s__law_hand) .none kV__law_hand dc__law_hand pm__law_hand an__law_hand cd__law_hand ct__law_hand), sl__law_hand⟩)
    (q__law_hand : PySem.W.codeIn K cd__law_hand "_law_hand" = true)
    (k__law_hand : PySem.W.keepIn K (.ref f__law_hand) = true)
    (a__law_number : PySem.W.nsIn K mainGlobals "_law_number" = some (some (.ref f__law_number)))
    (l__law_number : K.lookup f__law_number = some ⟨oc__law_number, od__law_number, .func (PySem.W.fnOf "_law_number" "_law_number" (defArgs s__law_number) (defBody s__law_number) (defScope s__law_number) .none kV__law_number dc__law_number pm__law_number an__law_number cd__law_number ct__law_number), sl__law_number⟩)
    (q__law_number : PySem.W.codeIn K cd__law_number "_law_number" = true)
    (k__law_number : PySem.W.keepIn K (.ref f__law_number) = true)
    (a__law_unlike : PySem.W.nsIn K mainGlobals "_law_unlike" = some (some (.ref f__law_unlike)))
    (l__law_unlike : K.lookup f__law_unlike = some ⟨oc__law_unlike, od__law_unlike, .func (PySem.W.fnOf "_law_unlike" "_law_unlike" (defArgs s__law_unlike) (defBody s__law_unlike) (defScope s__law_unlike) .none kV__law_unlike dc__law_unlike pm__law_unlike an__law_unlike cd__law_unlike ct__law_unlike), sl__law_unlike⟩)
    (q__law_unlike : PySem.W.codeIn K cd__law_unlike "_law_unlike" = true)
    (k__law_unlike : PySem.W.keepIn K (.ref f__law_unlike) = true)
    (a__law_row : PySem.W.nsIn K mainGlobals "_law_row" = some (some (.ref f__law_row)))
    (l__law_row : K.lookup f__law_row = some ⟨oc__law_row, od__law_row, .func (PySem.W.fnOf "_law_row" "_law_row" (defArgs s__law_row) (defBody s__law_row) (defScope s__law_row) .none kV__law_row dc__law_row pm__law_row an__law_row cd__law_row ct__law_row), sl__law_row⟩)
    (q__law_row : PySem.W.codeIn K cd__law_row "_law_row" = true)
    (k__law_row : PySem.W.keepIn K (.ref f__law_row) = true)
    (a__law_window : PySem.W.nsIn K mainGlobals "_law_window" = some (some (.ref f__law_window)))
    (l__law_window : K.lookup f__law_window = some ⟨oc__law_window, od__law_window, .func (PySem.W.fnOf "_law_window" "_law_window" (defArgs s__law_window) (defBody s__law_window) (defScope s__law_window) .none kV__law_window dc__law_window pm__law_window an__law_window cd__law_window ct__law_window), sl__law_window⟩)
    (q__law_window : PySem.W.codeIn K cd__law_window "_law_window" = true)
    (k__law_window : PySem.W.keepIn K (.ref f__law_window) = true)
    (a_law : PySem.W.nsIn K mainGlobals "law" = some (some (.ref f_law)))
    (l_law : K.lookup f_law = some ⟨oc_law, od_law, .func (PySem.W.fnOf "law" "law" (defArgs s_law) (defBody s_law) (defScope s_law) .none kV_law dc_law pm_law an_law cd_law ct_law), sl_law⟩)
    (q_law : PySem.W.codeIn K cd_law "law" = true)
    (k_law : PySem.W.keepIn K (.ref f_law) = true)
    (z_bool : PySem.W.nsIn K mainGlobals "bool" = some none)
    (z_enumerate : PySem.W.nsIn K mainGlobals "enumerate" = some none)
    (z_int : PySem.W.nsIn K mainGlobals "int" = some none)
    (z_isinstance : PySem.W.nsIn K mainGlobals "isinstance" = some none)
    (z_len : PySem.W.nsIn K mainGlobals "len" = some none)
    (z_list : PySem.W.nsIn K mainGlobals "list" = some none)
    (z_min : PySem.W.nsIn K mainGlobals "min" = some none)
    (z_range : PySem.W.nsIn K mainGlobals "range" = some none)
    (z_set : PySem.W.nsIn K mainGlobals "set" = some none)
    (z_sum : PySem.W.nsIn K mainGlobals "sum" = some none)
    : ∃ fd : FuncData, (∀ (s : Shared) (v : Value), BindsTo s fd ⟨[v], []⟩ [("script", v)]) ∧ ∀ base : Heap, K.In base → base.Ns mainGlobals mg → FnOk l.prog w K mg base CX0 6 fa fd ["script"] (sp_law K) := by
  have e0 := (PySem.W.mg_of X G a_law).symm.trans hfa
  have e : f_law = fa := by injection e0 with e0; injection e0
  subst e
  have F_last_places := fun_mk (st := s_last_places) l_last_places q_last_places k_last_places
  have b_last_places := F_last_places.binds (ps := ["row"]) fun _ _ _ _ _ _ us hl => match us, hl with | [_], _ => rfl
  have F_next_places := fun_mk (st := s_next_places) l_next_places q_next_places k_next_places
  have b_next_places := F_next_places.binds (ps := ["row"]) fun _ _ _ _ _ _ us hl => match us, hl with | [_], _ => rfl
  have F_Ready___init__ := fun_mk (st := s_Ready___init__) l_Ready___init__ q_Ready___init__ k_Ready___init__
  have b_Ready___init__ := F_Ready___init__.binds (ps := ["self", "row"]) fun _ _ _ _ _ _ us hl => match us, hl with | [_, _], _ => rfl
  have F_is_whole := fun_mk (st := s_is_whole) l_is_whole q_is_whole k_is_whole
  have b_is_whole := F_is_whole.binds (ps := ["thing"]) fun _ _ _ _ _ _ us hl => match us, hl with | [_], _ => rfl
  have F_Ready_need_place := fun_mk (st := s_Ready_need_place) l_Ready_need_place q_Ready_need_place k_Ready_need_place
  have b_Ready_need_place := F_Ready_need_place.binds (ps := ["self", "place"]) fun _ _ _ _ _ _ us hl => match us, hl with | [_, _], _ => rfl
  have F_Ready_begin_of := fun_mk (st := s_Ready_begin_of) l_Ready_begin_of q_Ready_begin_of k_Ready_begin_of
  have b_Ready_begin_of := F_Ready_begin_of.binds (ps := ["self", "behind", "many"]) fun _ _ _ _ _ _ us hl => match us, hl with | [_, _, _], _ => rfl
  have F_Ready_end_of := fun_mk (st := s_Ready_end_of) l_Ready_end_of q_Ready_end_of k_Ready_end_of
  have b_Ready_end_of := F_Ready_end_of.binds (ps := ["self", "first", "many"]) fun _ _ _ _ _ _ us hl => match us, hl with | [_, _, _], _ => rfl
  have F_Ready_need_window := fun_mk (st := s_Ready_need_window) l_Ready_need_window q_Ready_need_window k_Ready_need_window
  have b_Ready_need_window := F_Ready_need_window.binds (ps := ["self", "first", "behind"]) fun _ _ _ _ _ _ us hl => match us, hl with | [_, _, _], _ => rfl
  have F_Ready_firsts := fun_mk (st := s_Ready_firsts) l_Ready_firsts q_Ready_firsts k_Ready_firsts
  have b_Ready_firsts := F_Ready_firsts.binds (ps := ["self", "first", "behind"]) fun _ _ _ _ _ _ us hl => match us, hl with | [_, _, _], _ => rfl
  have F_Ready_unlike := fun_mk (st := s_Ready_unlike) l_Ready_unlike q_Ready_unlike k_Ready_unlike
  have b_Ready_unlike := F_Ready_unlike.binds (ps := ["self", "first", "behind"]) fun _ _ _ _ _ _ us hl => match us, hl with | [_, _, _], _ => rfl
  have F__law_asked := fun_mk (st := s__law_asked) l__law_asked q__law_asked k__law_asked
  have b__law_asked := F__law_asked.binds (ps := ["ready", "way", "window", "many"]) fun _ _ _ _ _ _ us hl => match us, hl with | [_, _, _, _], _ => rfl
  have F__law_cells := fun_mk (st := s__law_cells) l__law_cells q__law_cells k__law_cells
  have b__law_cells := F__law_cells.binds (ps := ["script", "many"]) fun _ _ _ _ _ _ us hl => match us, hl with | [_, _], _ => rfl
  have F__law_draw := fun_mk (st := s__law_draw) l__law_draw q__law_draw k__law_draw
  have b__law_draw := F__law_draw.binds (ps := ["hand", "limit"]) fun _ _ _ _ _ _ us hl => match us, hl with | [_, _], _ => rfl
  have F__law_due := fun_mk (st := s__law_due) l__law_due q__law_due k__law_due
  have b__law_due := F__law_due.binds (ps := ["row", "way", "window", "many"]) fun _ _ _ _ _ _ us hl => match us, hl with | [_, _, _, _], _ => rfl
  have F__law_great := fun_mk (st := s__law_great) l__law_great q__law_great k__law_great
  have b__law_great := F__law_great.binds (ps := ["script"]) fun _ _ _ _ _ _ us hl => match us, hl with | [_], _ => rfl
  have F__law_hand := fun_mk (st := s__law_hand) l__law_hand q__law_hand k__law_hand
  have b__law_hand := F__law_hand.binds (ps := ["cell", "k"]) fun _ _ _ _ _ _ us hl => match us, hl with | [_, _], _ => rfl
  have F__law_number := fun_mk (st := s__law_number) l__law_number q__law_number k__law_number
  have b__law_number := F__law_number.binds (ps := ["hand", "kind"]) fun _ _ _ _ _ _ us hl => match us, hl with | [_, _], _ => rfl
  have F__law_unlike := fun_mk (st := s__law_unlike) l__law_unlike q__law_unlike k__law_unlike
  have b__law_unlike := F__law_unlike.binds (ps := ["hand", "many"]) fun _ _ _ _ _ _ us hl => match us, hl with | [_, _], _ => rfl
  have F__law_row := fun_mk (st := s__law_row) l__law_row q__law_row k__law_row
  have b__law_row := F__law_row.binds (ps := ["hand", "great"]) fun _ _ _ _ _ _ us hl => match us, hl with | [_, _], _ => rfl
  have F__law_window := fun_mk (st := s__law_window) l__law_window q__law_window k__law_window
  have b__law_window := F__law_window.binds (ps := ["hand", "many"]) fun _ _ _ _ _ _ us hl => match us, hl with | [_, _], _ => rfl
  have F_law := fun_mk (st := s_law) l_law q_law k_law
  have b_law := F_law.binds (ps := ["script"]) fun _ _ _ _ _ _ us hl => match us, hl with | [_], _ => rfl
  have T : Txt K mg { f_last_places := f_last_places, d_last_places := (PySem.W.fnOf "last_places" "last_places" (defArgs s_last_places) (defBody s_last_places) (defScope s_last_places) .none kV_last_places dc_last_places pm_last_places an_last_places cd_last_places ct_last_places), f_next_places := f_next_places, d_next_places := (PySem.W.fnOf "next_places" "next_places" (defArgs s_next_places) (defBody s_next_places) (defScope s_next_places) .none kV_next_places dc_next_places pm_next_places an_next_places cd_next_places ct_next_places), f_Ready___init__ := f_Ready___init__, d_Ready___init__ := (PySem.W.fnOf "__init__" "Ready.__init__" (defArgs s_Ready___init__) (defBody s_Ready___init__) (defScope s_Ready___init__) .none kV_Ready___init__ dc_Ready___init__ pm_Ready___init__ an_Ready___init__ cd_Ready___init__ ct_Ready___init__), f_is_whole := f_is_whole, d_is_whole := (PySem.W.fnOf "is_whole" "is_whole" (defArgs s_is_whole) (defBody s_is_whole) (defScope s_is_whole) .none kV_is_whole dc_is_whole pm_is_whole an_is_whole cd_is_whole ct_is_whole), f_Ready_need_place := f_Ready_need_place, d_Ready_need_place := (PySem.W.fnOf "need_place" "Ready.need_place" (defArgs s_Ready_need_place) (defBody s_Ready_need_place) (defScope s_Ready_need_place) .none kV_Ready_need_place dc_Ready_need_place pm_Ready_need_place an_Ready_need_place cd_Ready_need_place ct_Ready_need_place), f_Ready_begin_of := f_Ready_begin_of, d_Ready_begin_of := (PySem.W.fnOf "begin_of" "Ready.begin_of" (defArgs s_Ready_begin_of) (defBody s_Ready_begin_of) (defScope s_Ready_begin_of) .none kV_Ready_begin_of dc_Ready_begin_of pm_Ready_begin_of an_Ready_begin_of cd_Ready_begin_of ct_Ready_begin_of), f_Ready_end_of := f_Ready_end_of, d_Ready_end_of := (PySem.W.fnOf "end_of" "Ready.end_of" (defArgs s_Ready_end_of) (defBody s_Ready_end_of) (defScope s_Ready_end_of) .none kV_Ready_end_of dc_Ready_end_of pm_Ready_end_of an_Ready_end_of cd_Ready_end_of ct_Ready_end_of), f_Ready_need_window := f_Ready_need_window, d_Ready_need_window := (PySem.W.fnOf "need_window" "Ready.need_window" (defArgs s_Ready_need_window) (defBody s_Ready_need_window) (defScope s_Ready_need_window) .none kV_Ready_need_window dc_Ready_need_window pm_Ready_need_window an_Ready_need_window cd_Ready_need_window ct_Ready_need_window), f_Ready_firsts := f_Ready_firsts, d_Ready_firsts := (PySem.W.fnOf "firsts" "Ready.firsts" (defArgs s_Ready_firsts) (defBody s_Ready_firsts) (defScope s_Ready_firsts) .none kV_Ready_firsts dc_Ready_firsts pm_Ready_firsts an_Ready_firsts cd_Ready_firsts ct_Ready_firsts), f_Ready_unlike := f_Ready_unlike, d_Ready_unlike := (PySem.W.fnOf "unlike" "Ready.unlike" (defArgs s_Ready_unlike) (defBody s_Ready_unlike) (defScope s_Ready_unlike) .none kV_Ready_unlike dc_Ready_unlike pm_Ready_unlike an_Ready_unlike cd_Ready_unlike ct_Ready_unlike), f__law_asked := f__law_asked, d__law_asked := (PySem.W.fnOf "_law_asked" "_law_asked" (defArgs s__law_asked) (defBody s__law_asked) (defScope s__law_asked) .none kV__law_asked dc__law_asked pm__law_asked an__law_asked cd__law_asked ct__law_asked), f__law_cells := f__law_cells, d__law_cells := (PySem.W.fnOf "_law_cells" "_law_cells" (defArgs s__law_cells) (defBody s__law_cells) (defScope s__law_cells) .none kV__law_cells dc__law_cells pm__law_cells an__law_cells cd__law_cells ct__law_cells), f__law_draw := f__law_draw, d__law_draw := (PySem.W.fnOf "_law_draw" "_law_draw" (defArgs s__law_draw) (defBody s__law_draw) (defScope s__law_draw) .none kV__law_draw dc__law_draw pm__law_draw an__law_draw cd__law_draw ct__law_draw), f__law_due := f__law_due, d__law_due := (PySem.W.fnOf "_law_due" "_law_due" (defArgs s__law_due) (defBody s__law_due) (defScope s__law_due) .none kV__law_due dc__law_due pm__law_due an__law_due cd__law_due ct__law_due), f__law_great := f__law_great, d__law_great := (PySem.W.fnOf "_law_great" "_law_great" (defArgs s__law_great) (defBody s__law_great) (defScope s__law_great) .none kV__law_great dc__law_great pm__law_great an__law_great cd__law_great ct__law_great), f__law_hand := f__law_hand, d__law_hand := (PySem.W.fnOf "_law_hand" "_law_hand" (defArgs s__law_hand) (defBody s__law_hand) (defScope s__law_hand) .none kV__law_hand dc__law_hand pm__law_hand an__law_hand cd__law_hand ct__law_hand), f__law_number := f__law_number, d__law_number := (PySem.W.fnOf "_law_number" "_law_number" (defArgs s__law_number) (defBody s__law_number) (defScope s__law_number) .none kV__law_number dc__law_number pm__law_number an__law_number cd__law_number ct__law_number), f__law_unlike := f__law_unlike, d__law_unlike := (PySem.W.fnOf "_law_unlike" "_law_unlike" (defArgs s__law_unlike) (defBody s__law_unlike) (defScope s__law_unlike) .none kV__law_unlike dc__law_unlike pm__law_unlike an__law_unlike cd__law_unlike ct__law_unlike), f__law_row := f__law_row, d__law_row := (PySem.W.fnOf "_law_row" "_law_row" (defArgs s__law_row) (defBody s__law_row) (defScope s__law_row) .none kV__law_row dc__law_row pm__law_row an__law_row cd__law_row ct__law_row), f__law_window := f__law_window, d__law_window := (PySem.W.fnOf "_law_window" "_law_window" (defArgs s__law_window) (defBody s__law_window) (defScope s__law_window) .none kV__law_window dc__law_window pm__law_window an__law_window cd__law_window ct__law_window), f_law := f_law, d_law := (PySem.W.fnOf "law" "law" (defArgs s_law) (defBody s_law) (defScope s_law) .none kV_law dc_law pm_law an_law cd_law ct_law), c_Ready := c_Ready, c_NoWindow := c_NoWindow } := {
    F_last_places := F_last_places,
    b_last_places := b_last_places,
    g_last_places := PySem.W.mg_of X G a_last_places,
    F_next_places := F_next_places,
    b_next_places := b_next_places,
    g_next_places := PySem.W.mg_of X G a_next_places,
    F_Ready___init__ := F_Ready___init__,
    b_Ready___init__ := b_Ready___init__,
    M_Ready := ⟨mk_Ready, a_Ready___init__, i_Ready___init__, kc_Ready⟩,
    F_is_whole := F_is_whole,
    b_is_whole := b_is_whole,
    g_is_whole := PySem.W.mg_of X G a_is_whole,
    F_Ready_need_place := F_Ready_need_place,
    b_Ready_need_place := b_Ready_need_place,
    M_Ready_need_place := ⟨a_Ready_need_place, i_Ready_need_place, k_Ready_need_place⟩,
    F_Ready_begin_of := F_Ready_begin_of,
    b_Ready_begin_of := b_Ready_begin_of,
    M_Ready_begin_of := ⟨a_Ready_begin_of, i_Ready_begin_of, k_Ready_begin_of⟩,
    F_Ready_end_of := F_Ready_end_of,
    b_Ready_end_of := b_Ready_end_of,
    M_Ready_end_of := ⟨a_Ready_end_of, i_Ready_end_of, k_Ready_end_of⟩,
    F_Ready_need_window := F_Ready_need_window,
    b_Ready_need_window := b_Ready_need_window,
    M_Ready_need_window := ⟨a_Ready_need_window, i_Ready_need_window, k_Ready_need_window⟩,
    F_Ready_firsts := F_Ready_firsts,
    b_Ready_firsts := b_Ready_firsts,
    M_Ready_firsts := ⟨a_Ready_firsts, i_Ready_firsts, k_Ready_firsts⟩,
    F_Ready_unlike := F_Ready_unlike,
    b_Ready_unlike := b_Ready_unlike,
    M_Ready_unlike := ⟨a_Ready_unlike, i_Ready_unlike, k_Ready_unlike⟩,
    F__law_asked := F__law_asked,
    b__law_asked := b__law_asked,
    g__law_asked := PySem.W.mg_of X G a__law_asked,
    F__law_cells := F__law_cells,
    b__law_cells := b__law_cells,
    g__law_cells := PySem.W.mg_of X G a__law_cells,
    F__law_draw := F__law_draw,
    b__law_draw := b__law_draw,
    g__law_draw := PySem.W.mg_of X G a__law_draw,
    F__law_due := F__law_due,
    b__law_due := b__law_due,
    g__law_due := PySem.W.mg_of X G a__law_due,
    F__law_great := F__law_great,
    b__law_great := b__law_great,
    g__law_great := PySem.W.mg_of X G a__law_great,
    F__law_hand := F__law_hand,
    b__law_hand := b__law_hand,
    g__law_hand := PySem.W.mg_of X G a__law_hand,
    F__law_number := F__law_number,
    b__law_number := b__law_number,
    g__law_number := PySem.W.mg_of X G a__law_number,
    F__law_unlike := F__law_unlike,
    b__law_unlike := b__law_unlike,
    g__law_unlike := PySem.W.mg_of X G a__law_unlike,
    F__law_row := F__law_row,
    b__law_row := b__law_row,
    g__law_row := PySem.W.mg_of X G a__law_row,
    F__law_window := F__law_window,
    b__law_window := b__law_window,
    g__law_window := PySem.W.mg_of X G a__law_window,
    F_law := F_law,
    b_law := b_law,
    g_law := PySem.W.mg_of X G a_law,
    g_Ready := PySem.W.mg_of X G aC_Ready,
    C_Ready := ⟨pg_Ready, hd_Ready, po_Ready, sa_Ready⟩,
    n_Ready_many := n_Ready_many,
    n_Ready_lasts := n_Ready_lasts,
    n_Ready_nexts := n_Ready_nexts,
    g_NoWindow := PySem.W.mg_of X G aC_NoWindow,
    m_bool := PySem.W.mg_none_of X G z_bool,
    m_enumerate := PySem.W.mg_none_of X G z_enumerate,
    m_int := PySem.W.mg_none_of X G z_int,
    m_isinstance := PySem.W.mg_none_of X G z_isinstance,
    m_len := PySem.W.mg_none_of X G z_len,
    m_list := PySem.W.mg_none_of X G z_list,
    m_min := PySem.W.mg_none_of X G z_min,
    m_range := PySem.W.mg_none_of X G z_range,
    m_set := PySem.W.mg_none_of X G z_set,
    m_sum := PySem.W.mg_none_of X G z_sum }
  exact ⟨(PySem.W.fnOf "law" "law" (defArgs s_law) (defBody s_law) (defScope s_law) .none kV_law dc_law pm_law an_law cd_law ct_law), fun s v => .of_eq rfl, fun base _ _ => ok_law T⟩
theorem walk {l : PySem.W.OpenLaw} {q : Program} {loose : List Str} {XP : (Str → Option Value) → Heap → Prop} {YP : World → Heap → Prop} {d : DefRec} {K : Params → PySem.W.Frag} (hn : l.most = some 63) (hdf : d.params.defaults = [])
    (hY : ∀ (w : World) (h : Heap), YP w h → (K w.params).In h)
    (F : ∀ (w : World) (mg : Str → Option Value) (fa : Addr) (h : Heap), (K w.params).In h → h.Ns mainGlobals mg → mg d.name = some (.ref fa) →
      ∃ fd : FuncData, (∀ (s : Shared) (u : Value), BindsTo s fd ⟨[u], []⟩ [("script", u)]) ∧ ∀ base : Heap, (K w.params).In base → base.Ns mainGlobals mg → FnOk l.prog w (K w.params) mg base CX0 6 fa fd ["script"] (sp_law (K w.params))) :
    PySem.W.WalkO q loose XP YP l.row.toRowW d [] (fun f vs => PySem.call f vs) :=
  L2.walk_of (n := 63) (k := 6) (x := "script") (CX := fun _ => CX0) (sp := fun w => sp_law (K w.params)) hn (by decide) hdf ⟨rfl, by decide, by decide⟩ hY F (fun _ _ a ns hl _ hS => ⟨a, ns, rfl, hS, hl, fun _ => rfl⟩) fun _ _ _ _ _ z => z
end Ur
open PySem PySem.W PyProof.Rows in
set_option maxRecDepth 100000 in
set_option maxHeartbeats 0 in
theorem PySem.Challenge.cw_unlikerow_k11_whole_rows_made_ready_holds : PySem.Challenge.rw_unlikerow_k11_whole_rows_made_ready.Holds := by
  w_on; o_law; k_head; (case hw => w_witness2)
  k_fill
  refine Ur.walk (l := PySem.Challenge.rw_unlikerow_k11_whole_rows_made_ready) rfl rfl (fun w h Y => PySem.W.kIn_of Y) ?F
  case F =>
    intro w mg fa h KX G hmg
    refine' Ur.all_mk KX G hmg ?aC_Ready ?pg_Ready ?hd_Ready ?po_Ready ?sa_Ready ?mk_Ready ?kc_Ready ?n_Ready_many ?n_Ready_lasts ?n_Ready_nexts ?aC_NoWindow ?a_last_places ?l_last_places ?q_last_places ?k_last_places ?a_next_places ?l_next_places ?q_next_places ?k_next_places ?a_Ready___init__ ?i_Ready___init__ ?l_Ready___init__ ?q_Ready___init__ ?k_Ready___init__ ?a_is_whole ?l_is_whole ?q_is_whole ?k_is_whole ?a_Ready_need_place ?i_Ready_need_place ?l_Ready_need_place ?q_Ready_need_place ?k_Ready_need_place ?a_Ready_begin_of ?i_Ready_begin_of ?l_Ready_begin_of ?q_Ready_begin_of ?k_Ready_begin_of ?a_Ready_end_of ?i_Ready_end_of ?l_Ready_end_of ?q_Ready_end_of ?k_Ready_end_of ?a_Ready_need_window ?i_Ready_need_window ?l_Ready_need_window ?q_Ready_need_window ?k_Ready_need_window ?a_Ready_firsts ?i_Ready_firsts ?l_Ready_firsts ?q_Ready_firsts ?k_Ready_firsts ?a_Ready_unlike ?i_Ready_unlike ?l_Ready_unlike ?q_Ready_unlike ?k_Ready_unlike ?a__law_asked ?l__law_asked ?q__law_asked ?k__law_asked ?a__law_cells ?l__law_cells ?q__law_cells ?k__law_cells ?a__law_draw ?l__law_draw ?q__law_draw ?k__law_draw ?a__law_due ?l__law_due ?q__law_due ?k__law_due ?a__law_great ?l__law_great ?q__law_great ?k__law_great ?a__law_hand ?l__law_hand ?q__law_hand ?k__law_hand ?a__law_number ?l__law_number ?q__law_number ?k__law_number ?a__law_unlike ?l__law_unlike ?q__law_unlike ?k__law_unlike ?a__law_row ?l__law_row ?q__law_row ?k__law_row ?a__law_window ?l__law_window ?q__law_window ?k__law_window ?a_law ?l_law ?q_law ?k_law ?z_bool ?z_enumerate ?z_int ?z_isinstance ?z_len ?z_list ?z_min ?z_range ?z_set ?z_sum
    (case aC_Ready => k_is)
    (case pg_Ready => k_is)
    (case hd_Ready => k_is)
    (case po_Ready => k_is)
    (case sa_Ready => k_is)
    (case mk_Ready => k_is)
    (case kc_Ready => k_is)
    (case n_Ready_many => k_is)
    (case n_Ready_lasts => k_is)
    (case n_Ready_nexts => k_is)
    (case aC_NoWindow => k_is)
    (case a_last_places => k_is)
    (case l_last_places => k_is)
    (case q_last_places => k_is)
    (case k_last_places => k_is)
    (case a_next_places => k_is)
    (case l_next_places => k_is)
    (case q_next_places => k_is)
    (case k_next_places => k_is)
    (case a_Ready___init__ => k_is)
    (case i_Ready___init__ => k_is)
    (case l_Ready___init__ => k_is)
    (case q_Ready___init__ => k_is)
    (case k_Ready___init__ => k_is)
    (case a_is_whole => k_is)
    (case l_is_whole => k_is)
    (case q_is_whole => k_is)
    (case k_is_whole => k_is)
    (case a_Ready_need_place => k_is)
    (case i_Ready_need_place => k_is)
    (case l_Ready_need_place => k_is)
    (case q_Ready_need_place => k_is)
    (case k_Ready_need_place => k_is)
    (case a_Ready_begin_of => k_is)
    (case i_Ready_begin_of => k_is)
    (case l_Ready_begin_of => k_is)
    (case q_Ready_begin_of => k_is)
    (case k_Ready_begin_of => k_is)
    (case a_Ready_end_of => k_is)
    (case i_Ready_end_of => k_is)
    (case l_Ready_end_of => k_is)
    (case q_Ready_end_of => k_is)
    (case k_Ready_end_of => k_is)
    (case a_Ready_need_window => k_is)
    (case i_Ready_need_window => k_is)
    (case l_Ready_need_window => k_is)
    (case q_Ready_need_window => k_is)
    (case k_Ready_need_window => k_is)
    (case a_Ready_firsts => k_is)
    (case i_Ready_firsts => k_is)
    (case l_Ready_firsts => k_is)
    (case q_Ready_firsts => k_is)
    (case k_Ready_firsts => k_is)
    (case a_Ready_unlike => k_is)
    (case i_Ready_unlike => k_is)
    (case l_Ready_unlike => k_is)
    (case q_Ready_unlike => k_is)
    (case k_Ready_unlike => k_is)
    (case a__law_asked => k_is)
    (case l__law_asked => k_is)
    (case q__law_asked => k_is)
    (case k__law_asked => k_is)
    (case a__law_cells => k_is)
    (case l__law_cells => k_is)
    (case q__law_cells => k_is)
    (case k__law_cells => k_is)
    (case a__law_draw => k_is)
    (case l__law_draw => k_is)
    (case q__law_draw => k_is)
    (case k__law_draw => k_is)
    (case a__law_due => k_is)
    (case l__law_due => k_is)
    (case q__law_due => k_is)
    (case k__law_due => k_is)
    (case a__law_great => k_is)
    (case l__law_great => k_is)
    (case q__law_great => k_is)
    (case k__law_great => k_is)
    (case a__law_hand => k_is)
    (case l__law_hand => k_is)
    (case q__law_hand => k_is)
    (case k__law_hand => k_is)
    (case a__law_number => k_is)
    (case l__law_number => k_is)
    (case q__law_number => k_is)
    (case k__law_number => k_is)
    (case a__law_unlike => k_is)
    (case l__law_unlike => k_is)
    (case q__law_unlike => k_is)
    (case k__law_unlike => k_is)
    (case a__law_row => k_is)
    (case l__law_row => k_is)
    (case q__law_row => k_is)
    (case k__law_row => k_is)
    (case a__law_window => k_is)
    (case l__law_window => k_is)
    (case q__law_window => k_is)
    (case k__law_window => k_is)
    (case a_law => k_is)
    (case l_law => k_is)
    (case q_law => k_is)
    (case k_law => k_is)
    (case z_bool => k_is)
    (case z_enumerate => k_is)
    (case z_int => k_is)
    (case z_isinstance => k_is)
    (case z_len => k_is)
    (case z_list => k_is)
    (case z_min => k_is)
    (case z_range => k_is)
    (case z_set => k_is)
    (case z_sum => k_is)
