import PyProof.Rows.All
import Wide.All
import OpenK.AllK
import Wide.FinOn
import KE.KItemsList
import PyProof.EnumMake
import HandS.ForMost
import PyProof.ReprRoads
import PyProof.ReprLen
import PyProof.Rows.StrOr
import HandS.IsInst
import HandS.Wide
import HandS.SortInts
import PyProof.StrOps2
import PySem.Challenge.RW_smallparts_k01_prime_parts
set_option Elab.async false
set_option linter.all false
set_option maxRecDepth 100000
set_option maxHeartbeats 4000000
/-! The list made of an enumeration of a list: the pairs are new tuples, all of them kept. -/
namespace SpEn
open PySem PySem.Calls PyProof.Rows PyProof.V PySem.Spec PySem.W L2

/-- the record behind a turn whose tuple was kept by somebody -/
abbrev EnO (h : Heap) (e it : Addr) (i : Int) (old : Value) (a : Addr) (f : Bool) : Prop :=
  h.get? e = some { cls := .type "enumerate", dict := none, data := .fields #[rawInt a, .bool f, .ref it, rawInt i, .none, old], slots := #[] }
section
variable {prog : Program} {w : World} {A : Around} {E : Value → Shared → Prop} {s : Shared}

theorem en_next_out {e it l a : Addr} {f : Bool} {oa : Obj} {i : Nat} {items : Array Value} {x old : Value} {Q : Value → Shared → Prop}
    (he : EnO s.heap e it i old a f) (ha : s.heap.get? a = some oa) (hae : a ≠ e) (hai : a ≠ it) (hit : s.heap.IsListIter it l i) (hl : s.heap.IsList l items) (hx : items[i]? = some x) (hne : e ≠ it)
    (hQ : ∀ h', EnO h' e it ((i : Int) + 1) old a true → h'.IsListIter it l (i + 1) →
      h'.get? s.heap.objs.size = some { cls := .type "tuple", data := .seq #[.int i s.toks, x] } → h'.objs.size = s.heap.objs.size + 1 →
      (∀ b o, b ≠ e → b ≠ it → s.heap.get? b = some o → h'.get? b = some o) → Q (.ref s.heap.objs.size) { s with heap := h', toks := s.toks + 1 }) :
    wpAny (model prog w) A (Builtin.«enumerate.__next__» ⟨[.ref e], []⟩) (fun fin s' => ∃ v, fin = .done (.ret v) ∧ Q v s') E s := by
  obtain ⟨hp, g, d, tk, os⟩ := s
  show wpAny _ _ (field (.ref e) 2 >>= _) _ _ _
  refine wpAny_bind (wpAny_field he rfl (x := .ref it) rfl ?_)
  refine wpAny_bind (wpAny_nextOf_list_item hit hl hx fun h₁ hit₁ hs₁ => ?_)
  replace hs₁ : Heap.SameBut it hp h₁ := hs₁
  have he₁ : EnO h₁ e it i old a f := (hs₁.2 e hne).trans he
  show wpAny _ _ (field (.ref e) 3 >>= _) _ _ ⟨h₁, g, d, tk, os⟩
  refine wpAny_bind (wpAny_field he₁ rfl (x := rawInt i) rfl ?_)
  show wpAny _ _ (field (.ref e) 4 >>= _) _ _ ⟨h₁, g, d, tk, os⟩
  refine wpAny_bind (wpAny_field he₁ rfl (x := .none) rfl ?_)
  show wpAny _ _ (mkInt i >>= _) _ _ ⟨h₁, g, d, tk, os⟩
  refine wpAny_bind (wpAny_mkInt ?_)
  show wpAny _ _ (setField (.ref e) 3 (rawInt ((i : Int) + 1)) >>= _) _ _ ⟨h₁, g, d, tk + 1, os⟩
  refine wpAny_bind (wpAny_setField_rec he₁ (by simp) fun h₂ he₂ hs₂ => ?_)
  replace hs₂ : Heap.SameBut e h₁ h₂ := hs₂
  replace he₂ : EnO h₂ e it ((i : Int) + 1) old a f := he₂
  show wpAny _ _ (setField (.ref e) 4 .none >>= _) _ _ ⟨h₂, g, d, tk + 1, os⟩
  refine wpAny_bind (wpAny_setField_rec he₂ (by simp) fun h₃ he₃ hs₃ => ?_)
  replace hs₃ : Heap.SameBut e h₂ h₃ := hs₃
  replace he₃ : EnO h₃ e it ((i : Int) + 1) old a f := he₃
  show wpAny _ _ (newTuple [.int i tk, x] >>= _) _ _ ⟨h₃, g, d, tk + 1, os⟩
  refine wpAny_bind (wpAny_newTuple ?_)
  have he₄ : EnO (h₃.push { cls := .type "tuple", data := .seq #[.int i tk, x] }) e it ((i : Int) + 1) old a f := Heap.get?_push_of_some _ he₃
  generalize hh₄ : h₃.push { cls := .type "tuple", data := .seq #[.int i tk, x] } = h₄ at he₄
  have hsz : h₃.objs.size = hp.objs.size := by rw [hs₃.1, hs₂.1, hs₁.1]
  have hel : e < hp.objs.size := Heap.lt_size he
  have ht₄ : h₄.get? hp.objs.size = some { cls := .type "tuple", data := .seq #[.int i tk, x] } := by rw [← hh₄, ← hsz]; exact Heap.get?_push_size _ rfl
  have hz₄ : h₄.objs.size = hp.objs.size + 1 := by rw [← hh₄, Heap.size_push, hsz]
  have hk₄ : ∀ b o, b ≠ e → b ≠ it → hp.get? b = some o → h₄.get? b = some o := fun b o hbe hbi hb => by
    rw [← hh₄]; exact Heap.get?_push_of_some _ (hs₃.extBut b o hbe (hs₂.extBut b o hbe (hs₁.extBut b o hbi hb)))
  have hit₄ : h₄.IsListIter it l (i + 1) := by
    rw [← hh₄]; obtain ⟨o, ho, r⟩ := (hit₁.extBut hs₂.extBut (Ne.symm hne)).extBut hs₃.extBut (Ne.symm hne); exact ⟨o, Heap.get?_push_of_some _ ho, r⟩
  show wpAny _ _ (Builtin.SmallTypes.ownedTupleIsFree (.ref e) >>= _) _ _ ⟨h₄, g, d, tk + 1, os⟩
  rw [hsz]
  clear hh₄ he₃ hs₃ he₂ hs₂ he₁ hs₁ hit₁ hsz h₃ h₂ h₁
  have ha₄ : h₄.get? a = some oa := hk₄ a oa hae hai ha
  have fin : ∀ h₅ : Heap, EnO h₅ e it ((i : Int) + 1) old a true → Heap.SameBut e h₄ h₅ → Q (.ref hp.objs.size) ⟨h₅, g, d, tk + 1, os⟩ := fun h₅ he₅ hs₅ =>
    hQ h₅ he₅ (hit₄.extBut hs₅.extBut (Ne.symm hne)) (hs₅.extBut _ _ (Nat.ne_of_gt hel) ht₄) (by show h₅.objs.size = hp.objs.size + 1; rw [hs₅.1, hz₄]) fun b o hb hb' q => hs₅.extBut b o hb (hk₄ b o hb hb' q)
  refine wpAny_bind ?_
  unfold Builtin.SmallTypes.ownedTupleIsFree
  refine wpAny_bind (wpAny_field he₄ rfl (x := rawInt a) rfl ?_)
  show wpAny _ _ (loadIfAlive ((a : Int).toNat) >>= _) _ _ _
  rw [Int.toNat_natCast]
  refine wpAny_bind (kdx_alive ha₄ ?_)
  simp only [Option.isNone_some, Bool.false_eq_true, if_false]
  refine wpAny_bind (wpAny_field he₄ rfl (x := .bool f) rfl ?_)
  cases f with
  | true =>
    rw [if_neg (show ¬ ((Value.bool true != Value.bool true) = true) from Bool.false_ne_true)]
    refine wpAny_pure ?_
    simp only [Bool.false_eq_true, if_false]
    exact wpAny_pure ⟨_, rfl, fin h₄ he₄ (Heap.SameBut.refl _ _)⟩
  | false =>
    rw [if_pos (show (Value.bool false != Value.bool true) = true from rfl)]
    refine wpAny_bind (wpAny_setField_rec he₄ (by simp) fun h₅ he₅ hs₅ => ?_)
    replace hs₅ : Heap.SameBut e h₄ h₅ := hs₅
    replace he₅ : EnO h₅ e it ((i : Int) + 1) old a true := he₅
    refine wpAny_pure ?_
    simp only [Bool.false_eq_true, if_false]
    exact wpAny_pure ⟨_, rfl, fin h₅ he₅ hs₅⟩

theorem en_pyNext_out {e it l a : Addr} {f : Bool} {oa : Obj} {i : Nat} {items : Array Value} {x old : Value} {Q : Option Value → Shared → Prop}
    (he : EnO s.heap e it i old a f) (ha : s.heap.get? a = some oa) (hae : a ≠ e) (hai : a ≠ it) (hit : s.heap.IsListIter it l i) (hl : s.heap.IsList l items) (hx : items[i]? = some x) (hne : e ≠ it)
    (hQ : ∀ h', EnO h' e it ((i : Int) + 1) old a true → h'.IsListIter it l (i + 1) →
      h'.get? s.heap.objs.size = some { cls := .type "tuple", data := .seq #[.int i s.toks, x] } → h'.objs.size = s.heap.objs.size + 1 →
      (∀ b o, b ≠ e → b ≠ it → s.heap.get? b = some o → h'.get? b = some o) → Q (some (.ref s.heap.objs.size)) { s with heap := h', toks := s.toks + 1 }) :
    wpAny (model prog w) A (pyNext (.ref e)) Q E s := by
  have hT : s.TypeIs (.ref e) "enumerate" := ⟨_, he, rfl⟩
  unfold pyNext
  exact wpAny_bind (wpAny_attempt (wpAny_callSpecial?_slot (name := Str.ofString "__next__") hT F.slot_enumerate_next
    (wpAny_call_entry F.slot_enumerate_next hT F.entry_enumerate_next
      (en_next_out he ha hae hai hit hl hx hne fun h' a b c d k => wpAny_pure (hQ h' a b c d k)) (F.args_enumerate_next_1 _))))

theorem en_end_out {e it l a : Addr} {f : Bool} {i : Nat} {items : Array Value} {old : Value} {Q : Option Value → Shared → Prop} (hh : A.handled = none)
    (he : EnO s.heap e it i old a f) (hit : s.heap.IsListIter it l i) (hl : s.heap.IsList l items) (hx : items[i]? = none)
    (hQ : ∀ h', Heap.ExtBut it s.heap h' → Q none { s with heap := h' }) : wpAny (model prog w) A (pyNext (.ref e)) Q E s := by
  have hT : s.TypeIs (.ref e) "enumerate" := ⟨_, he, rfl⟩
  unfold pyNext
  refine wpAny_bind (wpAny_attempt (wpAny_callSpecial?_slot (name := Str.ofString "__next__") hT F.slot_enumerate_next
    (wpAny_call_entry F.slot_enumerate_next hT F.entry_enumerate_next ?_ (F.args_enumerate_next_1 _))))
  show wpAny _ _ (field (.ref e) 2 >>= _) _ _ _
  refine wpAny_bind (wpAny_field he rfl (x := .ref it) rfl ?_)
  refine wpAny_bind (wpAny_nextOf_list_end hh hit hl hx fun h' x he' hx' => ?_)
  obtain ⟨o, ho, hc⟩ := hx'
  refine wpAny_bind (wpAny_isInstance (T := "StopIteration") (b := true) ⟨o, ho, hc⟩ isSubtype_stop ?_)
  exact wpAny_pure (hQ _ he')

/-- the enumeration's records between two turns, the list at S left out of what they lean on -/
def EnSt (h : Heap) (e it l S : Addr) (i : Nat) : Prop :=
  h.IsListIter it l i ∧ ((i = 0 ∧ ∃ old, IsEnum h e it 0 old) ∨ ∃ old a f oa, EnO h e it (i : Int) old a f ∧ h.get? a = some oa ∧ a ≠ e ∧ a ≠ it ∧ a ≠ S)
theorem EnSt.keep {h h' : Heap} {e it l S : Addr} {i : Nat} (x : EnSt h e it l S i) (hk : ∀ b o, b ≠ S → h.get? b = some o → h'.get? b = some o) (h1 : e ≠ S) (h2 : it ≠ S) : EnSt h' e it l S i := by
  obtain ⟨hi, x⟩ := x
  refine ⟨hi.at fun o q => hk it o h2 q, ?_⟩
  rcases x with ⟨z, old, q⟩ | ⟨old, a, f, oa, q, ha, n1, n2, n3⟩
  · exact .inl ⟨z, old, hk _ _ h1 q⟩
  · exact .inr ⟨old, a, f, oa, hk _ _ h1 q, hk _ _ n3 ha, n1, n2, n3⟩
theorem en_item {e it l S : Addr} {i : Nat} {items : Array Value} {x : Value} {Q : Option Value → Shared → Prop} (st : EnSt s.heap e it l S i) (hS : S < s.heap.objs.size) (hl : s.heap.IsList l items) (hx : items[i]? = some x) (hne : e ≠ it)
    (hQ : ∀ h', EnSt h' e it l S (i + 1) → h'.get? s.heap.objs.size = some { cls := .type "tuple", data := .seq #[.int i s.toks, x] } → h'.objs.size = s.heap.objs.size + 1 →
      (∀ b o, b ≠ e → b ≠ it → s.heap.get? b = some o → h'.get? b = some o) → Q (some (.ref s.heap.objs.size)) { s with heap := h', toks := s.toks + 1 }) :
    wpAny (model prog w) A (pyNext (.ref e)) Q E s := by
  obtain ⟨hit, st⟩ := st
  have itl : it < s.heap.objs.size := by obtain ⟨o, q, _⟩ := hit; exact Heap.lt_size q
  have cst : ((i + 1 : Nat) : Int) = (i : Int) + 1 := by omega
  rcases st with ⟨z, old, he⟩ | ⟨old, a, f, oa, he, ha, n1, n2, n3⟩
  · subst z
    refine wpAny_pyNext_enum_item he hit hl hx hne fun h' q1 q2 q3 q4 q5 => hQ h' ⟨q2, .inr ⟨x, _, false, _, ?_, q3, Nat.ne_of_gt (Heap.lt_size he), Nat.ne_of_gt itl, Nat.ne_of_gt hS⟩⟩ q3 q4 q5
    rw [cst]
    exact q1
  · refine en_pyNext_out he ha n1 n2 hit hl hx hne fun h' q1 q2 q3 q4 q5 => hQ h' ⟨q2, .inr ⟨old, a, true, oa, ?_, q5 a oa n1 n2 ha, n1, n2, n3⟩⟩ q3 q4 q5
    rw [cst]
    exact q1
theorem en_done {e it l S : Addr} {i : Nat} {items : Array Value} {Q : Option Value → Shared → Prop} (hh : A.handled = none) (st : EnSt s.heap e it l S i) (hl : s.heap.IsList l items) (hx : items[i]? = none)
    (hQ : ∀ h', Heap.ExtBut it s.heap h' → Q none { s with heap := h' }) : wpAny (model prog w) A (pyNext (.ref e)) Q E s := by
  obtain ⟨hit, st⟩ := st
  rcases st with ⟨z, old, he⟩ | ⟨old, a, f, oa, he, ha, n1, n2, n3⟩
  · subst z
    exact wpAny_pyNext_enum_end hh he hit hl hx hQ
  · exact en_end_out hh he hit hl hx hQ

/-- the tuples made: new ones, rising, each the pair of its turn -/
structure EnG (items : Array Value) (lo : Addr) (h : Heap) (as : List Addr) : Prop where
  rise : as.Pairwise (· < ·)
  above : ∀ a ∈ as, lo < a
  pairs : ∀ (j : Nat) (a : Addr), as[j]? = some a → ∃ (t : Tok) (x : Value), items[j]? = some x ∧ h.get? a = some { cls := .type "tuple", data := .seq #[.int (j : Int) t, x] }
theorem EnG.there {items : Array Value} {lo : Addr} {h : Heap} {as : List Addr} (g : EnG items lo h as) {a : Addr} (ha : a ∈ as) : a < h.objs.size := by
  obtain ⟨j, hj⟩ := List.mem_iff_getElem?.mp ha
  obtain ⟨_, _, _, e⟩ := g.pairs j a hj
  exact Heap.lt_size e
theorem EnG.low {items : Array Value} {lo lo' : Addr} {h : Heap} {as : List Addr} (g : EnG items lo h as) (hl : lo' ≤ lo) : EnG items lo' h as := ⟨g.rise, fun a ha => Nat.lt_of_le_of_lt hl (g.above a ha), g.pairs⟩
end

section
variable {prog : Program} {w : World} {A : Around} {s : Shared} {R : Result → Shared → Prop} {items : Array Value}
theorem en_loop {S e it l M : Addr} (hh : A.handled = none) (hSM : S ≤ M) (heM : e ≤ M) (hiM : it ≤ M) (hSe : e ≠ S) (hSi : it ≠ S) (hSl : l ≠ S) (hel : l ≠ e) (hil : l ≠ it) (hne : e ≠ it) (hn : items.size ≤ sizeLine) (res : Value) {h₁ : Heap}
    (hR : ∀ h' tk acc c as, (∀ b o, b ≠ S → b ≠ e → b ≠ it → h₁.get? b = some o → h'.get? b = some o) → h'.get? S = some { cls := .type "list", dict := none, data := .seq acc c, slots := #[] } → as.length = items.size → EnG items M h' as →
      acc.toList = as.map Value.ref → R (.ok (.ret res)) { s with heap := h', toks := tk }) :
    ∀ (k i : Nat) (h : Heap) (tk c : Nat) (acc : Array Value) (as : List Addr), items.size - i = k → i ≤ items.size → EnSt h e it l S i → h.IsList l items → (∀ b o, b ≠ S → b ≠ e → b ≠ it → h₁.get? b = some o → h.get? b = some o) →
      h.get? S = some { cls := .type "list", dict := none, data := .seq acc c, slots := #[] } → acc.toList = as.map Value.ref → as.length = i → EnG items M h as → M < h.objs.size →
      codeAny (model prog w) A (.builtin "list.extend.loop" ⟨[.ref S, .ref e, res], []⟩) R { s with heap := h, toks := tk } := by
  intro k
  induction k with
  | zero =>
    intro i h tk c acc as hk hi hst hD hkeep hS hacc hal hG hIs
    have hin : i = items.size := by omega
    refine codeAny_builtin PySem.F.entry_extend_loop ?_
    rw [Around.under_plainId PySem.F.plain_extend_loop _]
    show wpAny _ A.in1 (pyNext (.ref e) >>= _) _ _ _
    refine wpAny_bind (en_done (s := { s with heap := h, toks := tk }) (A := A.in1) hh hst hD (Array.getElem?_eq_none (by omega)) fun h' he => ?_)
    refine wpAny_pure (hR h' tk acc c as (fun b o h1 h2 h3 q => he b o h3 (hkeep b o h1 h2 h3 q)) (he S _ (Ne.symm hSi) hS) (by omega) ⟨hG.rise, hG.above, fun j a hj => ?_⟩ hacc)
    obtain ⟨t, x, e1, e3⟩ := hG.pairs j a hj
    exact ⟨t, x, e1, he a _ (Nat.ne_of_gt (Nat.lt_of_le_of_lt hiM (hG.above a (List.mem_of_getElem? hj)))) e3⟩
  | succ k ih =>
    intro i h tk c acc as hk hi hst hD hkeep hS hacc hal hG hIs
    have hlt : i < items.size := by omega
    have hx : items[i]? = some items[i] := Array.getElem?_eq_getElem hlt
    have hsz : acc.size = i := by rw [← Array.length_toList, hacc, List.length_map, hal]
    refine codeAny_builtin PySem.F.entry_extend_loop ?_
    rw [Around.under_plainId PySem.F.plain_extend_loop _]
    show wpAny _ A.in1 (pyNext (.ref e) >>= _) _ _ _
    refine wpAny_bind (en_item (s := { s with heap := h, toks := tk }) (S := S) hst (Heap.lt_size hS) hD hx hne fun h' hst' ht hz hkp => ?_)
    dsimp only at ht hz hkp ⊢
    have hS' := hkp S _ (Ne.symm hSe) (Ne.symm hSi) hS
    have up : ∀ b o, b ≠ S → h'.get? b = some o → (h'.update S (Obj.mapSeq (·.push (Value.ref h.objs.size)))).get? b = some o := fun b o hb q => (Heap.get?_update_other _ _ (Ne.symm hb)).trans q
    have hSl' : S < h.objs.size := Heap.lt_size hS
    show wpAny _ A.in1 (updateSeq S (·.push (Value.ref h.objs.size)) >>= _) _ _ _
    refine wpAny_bind ?_
    refine wpAny_updateSeq hS' rfl (wpAny_pure ⟨plainId_quiet PySem.F.plain_extend_loop _, ih (i + 1) _ (tk + 1) _ (acc.push (Value.ref h.objs.size)) (as ++ [h.objs.size]) (by omega) hlt (hst'.keep up hSe hSi) ((hD.at fun o q => hkp l o hel hil q).at fun o q => up l o hSl q)
      (fun b o h1 h2 h3 q => up b o h1 (hkp b o h2 h3 (hkeep b o h1 h2 h3 q))) (Heap.get?_update_self _ hS' rfl) (by rw [Array.toList_push, hacc, List.map_append]; rfl) (by rw [List.length_append, hal]; rfl) ⟨?_, ?_, ?_⟩ ?_⟩) (by rw [hsz]; omega) (by show (acc.push (Value.ref h.objs.size)).size ≤ sizeLine + 1; rw [Array.size_push, hsz]; omega)
    · refine List.pairwise_append.mpr ⟨hG.rise, List.pairwise_singleton _ _, fun a ha b hb => ?_⟩
      rw [List.mem_singleton.mp hb]
      exact hG.there ha
    · intro a ha
      rcases List.mem_append.mp ha with ha | ha
      · exact hG.above a ha
      · rw [List.mem_singleton.mp ha]; exact hIs
    · intro j b hj
      rcases Nat.lt_trichotomy j as.length with h1 | h1 | h1
      · rw [List.getElem?_append_left h1] at hj
        obtain ⟨t', x', e1, e3⟩ := hG.pairs j b hj
        have hb := hG.above b (List.mem_of_getElem? hj)
        exact ⟨t', x', e1, up b _ (Nat.ne_of_gt (Nat.lt_of_le_of_lt hSM hb)) (hkp b _ (Nat.ne_of_gt (Nat.lt_of_le_of_lt heM hb)) (Nat.ne_of_gt (Nat.lt_of_le_of_lt hiM hb)) e3)⟩
      · subst h1
        have hb : h.objs.size = b := by simpa using hj
        subst hb
        exact ⟨tk, items[i], by rw [hal]; exact hx, by rw [hal]; exact up _ _ (Nat.ne_of_gt hSl') ht⟩
      · have hnone : (as ++ [h.objs.size])[j]? = none := List.getElem?_eq_none (by rw [List.length_append, List.length_singleton]; omega)
        rw [hnone] at hj; cases hj
    · have q : (h'.update S (Obj.mapSeq (·.push (Value.ref h.objs.size)))).get? h.objs.size = _ := up _ _ (Nat.ne_of_gt hSl') ht
      exact Nat.lt_trans hIs (Heap.lt_size q)
end
theorem en_no_len : typeLookup (.type "enumerate") "__len__" = pure none := by rw [typeLookup_type, builtinLookup_eq_fast]; kernel_rfl
theorem en_no_hint : typeLookup (.type "enumerate") "__length_hint__" = pure none := by rw [typeLookup_type, builtinLookup_eq_fast]; kernel_rfl
section
variable {prog : Program} {w : World} {A : Around} {E : Value → Shared → Prop} {s : Shared} {items : Array Value}
theorem en_hint {e : Addr} (hT : s.TypeIs (.ref e) "enumerate") {Q : Bool → Shared → Prop} (h : Q true s) : wpAny (model prog w) A (Builtin.List.listLengthHint (.ref e)) Q E s := by
  unfold Builtin.List.listLengthHint
  refine wpAny_bind (wpAny_specialOf hT en_no_len ?_)
  show wpAny _ _ (specialOf (Value.ref e) (Str.ofString "__length_hint__") >>= _) _ _ _
  refine wpAny_bind (wpAny_specialOf hT en_no_hint ?_)
  exact wpAny_pure h
theorem en_extend {R : Result → Shared → Prop} {e it l M : Addr} (hh : A.handled = none) (S : Addr) {old : Value} (he : IsEnum s.heap e it 0 old) (hit : s.heap.IsListIter it l 0) (hl : s.heap.IsList l items) (hne : e ≠ it) (hSe : e ≠ S) (hSi : it ≠ S) (hSl : l ≠ S) (hel : l ≠ e) (hil : l ≠ it)
    (hSM : S ≤ M) (heM : e ≤ M) (hiM : it ≤ M) (hM : M < s.heap.objs.size) (res : Value) (c₀ : Nat) (hS : s.heap.get? S = some { cls := .type "list", data := .seq #[] c₀ })
    (hR : ∀ h' tk acc c as, (∀ b o, b ≠ S → b ≠ e → b ≠ it → s.heap.get? b = some o → h'.get? b = some o) → h'.get? S = some { cls := .type "list", dict := none, data := .seq acc c, slots := #[] } → as.length = items.size → EnG items M h' as →
      acc.toList = as.map Value.ref → R (.ok (.ret res)) { s with heap := h', toks := tk }) (hn : items.size ≤ sizeLine) :
    wpAny (model prog w) A.in1 (Builtin.List.listExtendWith (.ref S) (.ref e) res)
      (fun fin s' => match fin with | .done f => R (.ok f) s' | .again c' => c'.quiet = true ∧ codeAny (model prog w) A c' R s') (fun e s' => R (.error e) s') s := by
  have hT : s.TypeIs (.ref e) "enumerate" := ⟨_, he, rfl⟩
  unfold Builtin.List.listExtendWith
  refine wpAny_bind (wpAny_typeOf (T := "enumerate") hT ?_)
  have h1 : Builtin.List.listSameRef (.ref S) (.ref e) = false := by simp [Builtin.List.listSameRef, Ne.symm hSe]
  have h2 : (Value.type "enumerate" == Value.type "list") = false := by decide
  have h3 : (Value.type "enumerate" == Value.type "tuple") = false := by decide
  simp only [h1, h2, h3, Bool.or_false, Bool.false_eq_true, if_false]
  refine wpAny_bind (wpAny_pyIter_enum he ?_)
  refine wpAny_bind (wpAny_holding (en_hint hT ?_))
  show wpAny _ A.in1 (rule "list.extend.makes-room" >>= fun _ => Builtin.List.listTouch (.ref S) >>= fun _ => again (.builtin "list.extend.loop" ⟨[.ref S, .ref e, res], []⟩)) _ _ _
  refine wpAny_bind (wpAny_rule ?_)
  refine wpAny_bind ?_
  show wpAny _ A.in1 (updateSeq S (·.push .none) >>= fun _ => updateSeq S (·.pop)) _ _ _
  refine wpAny_bind (wpAny_updateSeq hS rfl ?_)
  have hS₂ := Heap.get?_update_self (Obj.mapSeq (·.push Value.none)) hS rfl
  refine wpAny_updateSeq (hz := by seq_fits) hS₂ rfl ?_
  have hS₃ := Heap.get?_update_self (Obj.mapSeq (·.pop)) hS₂ rfl
  have up : ∀ b o, b ≠ S → s.heap.get? b = some o → ((s.heap.update S (Obj.mapSeq (·.push Value.none))).update S (Obj.mapSeq (·.pop))).get? b = some o :=
    fun b o hb q => (Heap.get?_update_other _ _ (Ne.symm hb)).trans ((Heap.get?_update_other _ _ (Ne.symm hb)).trans q)
  refine wpAny_pure ⟨plainId_quiet PySem.F.plain_extend_loop _, ?_⟩
  refine en_loop (M := M) (h₁ := s.heap) hh hSM heM hiM hSe hSi hSl hel hil hne hn res hR items.size 0 _ s.toks _ #[] [] (Nat.sub_zero _) (Nat.zero_le _) (EnSt.keep ⟨hit, .inl ⟨rfl, old, he⟩⟩ up hSe hSi) (hl.at fun o q => up l o hSl q)
    (fun b o hb _ _ q => up b o hb q) hS₃ rfl rfl ⟨List.Pairwise.nil, (fun _ ha => nomatch ha), (fun j a hj => by simp at hj)⟩ ?_
  rw [Heap.size_update, Heap.size_update]
  exact hM
end
section
variable {prog : Program} {w : World} {A : Around} {E : Value → Shared → Prop} {s : Shared} {items : Array Value}
theorem en_init {R : Result → Shared → Prop} {e it l : Addr} (hh : A.handled = none) (S : Addr) {old : Value} (he : IsEnum s.heap e it 0 old) (hit : s.heap.IsListIter it l 0) (hl : s.heap.IsList l items) (hne : e ≠ it) (hel : l ≠ e) (hil : l ≠ it)
    (heS : e < S) (hiS : it < S) (hlS : l < S) (hS : s.heap.get? S = some { cls := .type "list", data := .seq #[] })
    (hR : ∀ h' tk acc c as, (∀ b o, b ≠ S → b ≠ e → b ≠ it → s.heap.get? b = some o → h'.get? b = some o) → h'.get? S = some { cls := .type "list", dict := none, data := .seq acc c, slots := #[] } → as.length = items.size → EnG items S h' as →
      acc.toList = as.map Value.ref → R (.ok (.ret .none)) { s with heap := h', toks := tk }) (hn : items.size ≤ sizeLine) :
    wpAny (model prog w) A.in1 (Builtin.«list.__init__» ⟨[.ref S, .ref e], []⟩)
      (fun fin s' => match fin with | .done f => R (.ok f) s' | .again c' => c'.quiet = true ∧ codeAny (model prog w) A c' R s') (fun e s' => R (.error e) s') s := by
  have heS' : e ≠ S := Nat.ne_of_lt heS
  have hiS' : it ≠ S := Nat.ne_of_lt hiS
  have hlS' : l ≠ S := Nat.ne_of_lt hlS
  show wpAny _ _ (do let old ← Builtin.List.listItems (.ref S); Builtin.List.listUpdate (.ref S) (fun _ => #[]); letGo old.toList.reverse; Builtin.List.listExtendWith (.ref S) (.ref e) .none) _ _ s
  refine wpAny_bind ?_
  unfold Builtin.List.listItems
  refine wpAny_bind (wpAny_seqItems hS rfl (wpAny_pure ?_))
  show wpAny _ _ (updateSeq S (fun _ => #[]) >>= fun _ => letGo (#[] : Array Value).toList.reverse >>= fun _ => Builtin.List.listExtendWith (.ref S) (.ref e) .none) _ _ s
  refine wpAny_bind (wpAny_updateSeq hS rfl ?_)
  have hS₂ := Heap.get?_update_self (Obj.mapSeq (fun _ => (#[] : Array Value))) hS rfl
  have oth : ∀ b o, b ≠ S → s.heap.get? b = some o → (s.heap.update S (Obj.mapSeq (fun _ => (#[] : Array Value)))).get? b = some o :=
    fun b o hb q => (Heap.get?_update_other _ _ (Ne.symm hb)).trans q
  refine wpAny_bind (wpAny_letGo ?_)
  refine en_extend (s := { s with heap := s.heap.update S (Obj.mapSeq (fun _ => (#[] : Array Value))) }) (M := S) hh S (oth _ _ heS' he) (hit.at fun o q => oth it o hiS' q) (hl.at fun o q => oth l o hlS' q) hne heS' hiS' hlS' hel hil (Nat.le_refl _) (Nat.le_of_lt heS) (Nat.le_of_lt hiS)
    (Heap.lt_size hS₂) .none _ hS₂ (fun h' tk acc c as hk hS' hle hG hacc => ?_) hn
  exact hR h' tk acc c as (fun b o hb h2 h3 q => hk b o hb h2 h3 (oth b o hb q)) hS' hle hG hacc
theorem en_call {Q : Value → Shared → Prop} {e it l : Addr} {old : Value} (hh : A.handled = none) (he : IsEnum s.heap e it 0 old) (hit : s.heap.IsListIter it l 0) (hl : s.heap.IsList l items) (hne : e ≠ it) (hel : l ≠ e) (hil : l ≠ it) (hn : items.size ≤ sizeLine)
    (hQ : ∀ h' tk acc c as, (∀ b o, b ≠ e → b ≠ it → s.heap.get? b = some o → h'.get? b = some o) → h'.get? s.heap.objs.size = some { cls := .type "list", dict := none, data := .seq acc c, slots := #[] } → as.length = items.size → EnG items s.heap.objs.size h' as →
      acc.toList = as.map Value.ref → Q (.ref s.heap.objs.size) { s with heap := h', toks := tk }) :
    wpAny (model prog w) A (call (.type "list") [.ref e]) Q E s := by
  have el : e < s.heap.objs.size := Heap.lt_size he
  have il : it < s.heap.objs.size := by obtain ⟨o, q, _⟩ := hit; exact Heap.lt_size q
  have ll : l < s.heap.objs.size := by obtain ⟨o, q, _⟩ := hl; exact Heap.lt_size q
  refine callType_codes (Q₁ := fun obj s₁ => obj = .ref s.heap.objs.size ∧ s₁ = { s with heap := s.heap.push { cls := .type "list", data := .seq #[] } }) PySem.F.called_list (PySem.F.typeCall_list_1 _) PySem.F.entry_list_init
    (code_list_new _ ⟨rfl, rfl⟩) fun obj s₁ h₁ => ?_
  obtain ⟨rfl, rfl⟩ := h₁
  have hS : (s.heap.push { cls := .type "list", data := .seq #[] }).get? s.heap.objs.size = some { cls := .type "list", data := .seq #[] } := Heap.get?_push_size _ rfl
  have pu : ∀ b o, s.heap.get? b = some o → (s.heap.push { cls := .type "list", data := .seq #[] }).get? b = some o := fun b o q => Heap.get?_push_of_some _ q
  refine ⟨⟨_, hS, rfl⟩, PySem.F.args_list_init_2 _ _, en_init (s := { s with heap := s.heap.push { cls := .type "list", data := .seq #[] } }) (A := A.in1) hh s.heap.objs.size (pu _ _ he) (hit.at fun o q => pu it o q) (hl.at fun o q => pu l o q) hne hel hil el il ll hS (fun h' tk acc c as hk hS' hle hG hacc => ?_) hn⟩
  exact ⟨rfl, hQ h' tk acc c as (fun b o h2 h3 q => hk b o (Nat.ne_of_lt (Heap.lt_size q)) h2 h3 (pu b o q)) hS' hle hG hacc⟩
end

/-! ### over the layer -/
/-- the pairs tracked at their addresses, the first one's number i -/
def putE : Hp → Nat → List Addr → List V → Hp
  | H, i, a :: as, x :: xs => putE (upd H a (.tup [.int (i : Int), x])) (i + 1) as xs
  | H, _, _, _ => H
theorem putE_off {b : Addr} : ∀ (as : List Addr) (xs : List V) (i : Nat) (H : Hp), b ∉ as → putE H i as xs b = H b
  | [], _, _, _, _ => rfl
  | _ :: _, [], _, _, _ => rfl
  | a :: as, x :: xs, i, H, h => by
    show putE (upd H a (.tup [.int (i : Int), x])) (i + 1) as xs b = H b
    rw [putE_off as xs _ _ (fun z => h (List.mem_cons_of_mem _ z)), upd_ne (fun z => h (by rw [z]; exact List.mem_cons_self))]
theorem putE_at : ∀ (as : List Addr) (xs : List V) (i : Nat) (H : Hp), as.length = xs.length → as.Nodup → ∀ (j : Nat) (t : Addr), as[j]? = some t → ∃ x, xs[j]? = some x ∧ putE H i as xs t = some (.tup [.int ((i + j : Nat) : Int), x])
  | [], _, _, _, _, _, j, t, e => by simp at e
  | a :: as, [], _, _, h, _, _, _, _ => by simp at h
  | a :: as, x :: xs, i, H, h, hn, 0, t, e => by
    have e' : a = t := by simpa using e
    subst e'
    refine ⟨x, rfl, ?_⟩
    show putE (upd H a (.tup [.int (i : Int), x])) (i + 1) as xs a = _
    rw [putE_off as xs _ _ (List.nodup_cons.mp hn).1, upd_same]
    rfl
  | a :: as, x :: xs, i, H, h, hn, j + 1, t, e => by
    obtain ⟨y, e1, e2⟩ := putE_at as xs (i + 1) (upd H a (.tup [.int (i : Int), x])) (by simpa using h) (List.nodup_cons.mp hn).2 j t (by simpa using e)
    refine ⟨y, by simpa using e1, ?_⟩
    show putE (upd H a (.tup [.int (i : Int), x])) (i + 1) as xs t = _
    rw [e2, show i + 1 + j = i + (j + 1) by omega]
theorem refs_vals : ∀ as : List Addr, Vals (as.map V.ref) (as.map Value.ref)
  | [] => .nil
  | _ :: as => .cons rfl (refs_vals as)
/-- list(enumerate(a list)) -/
def rListEnum (K : PySem.W.Frag) : V → Hp → VK → Prop := fun x H Q => ∃ (a : Addr) (xs : List V), x = .ref a ∧ SqL K H a xs ∧
  ∀ (H' : Hp) (p : Addr) (ts : List Addr), Same H H' → H p = none → (∀ t ∈ ts, H t = none) → H' p = some (.lst (ts.map V.ref)) → ts.length = xs.length →
    (∀ (j : Nat) (t : Addr), ts[j]? = some t → ∃ x, xs[j]? = some x ∧ H' t = some (.tup [.int (j : Int), x])) → Q (.ref p) H'
def tListEnum (K : PySem.W.Frag) (te : TE) : TE := fun σ H Q => te σ H fun x H1 => rListEnum K x H1 Q
section
variable {X : Cx} {e : Expr} {te : TE} {p p2 pos pos2 : Pos}
theorem enum_laid {pins : List (Addr × Obj)} {σ : L2.St} {H : Hp} {s : Shared} {h' : Heap} {S : Addr} {tk : Nat} {xs : List V} {items : Array Value} {acc : Array Value} {c : Nat} {as : List Addr} (I : Inv X pins σ H s) (hz : xs.length ≤ sizeLine) (rv : Vals xs items.toList)
    (hp : s.heap.objs.size ≤ S) (hk : ∀ b o, s.heap.get? b = some o → h'.get? b = some o) (hS : h'.get? S = some { cls := .type "list", dict := none, data := .seq acc c, slots := #[] }) (hl : as.length = items.size) (hG : EnG items S h' as) (hacc : acc.toList = as.map Value.ref) :
    ∃ H' : Hp, Same H H' ∧ H S = none ∧ (∀ t ∈ as, H t = none) ∧ H' S = some (.lst (as.map V.ref)) ∧ as.length = xs.length ∧ (∀ (j : Nat) (t : Addr), as[j]? = some t → ∃ x, xs[j]? = some x ∧ H' t = some (.tup [.int (j : Int), x])) ∧ Inv X pins σ H' { s with heap := h', toks := tk } := by
  have lk : xs.length = items.size := by rw [Vals.length rv, Array.length_toList]
  have hSn : S ∉ as := fun z => Nat.lt_irrefl _ (hG.above _ z)
  have nd : as.Nodup := List.Pairwise.imp (fun {a b} (h : a < b) => Nat.ne_of_lt h) hG.rise
  have new : ∀ t ∈ as, H t = none := fun t ht => I.hok.fresh (Nat.le_trans hp (Nat.le_of_lt (hG.above t ht)))
  have newS : H S = none := I.hok.fresh hp
  have atP := putE_at as xs 0 (upd H S (.lst (as.map V.ref))) (by omega) nd
  have off : ∀ b, b ∉ as → b ≠ S → putE (upd H S (.lst (as.map V.ref))) 0 as xs b = H b := fun b h1 h2 => by rw [putE_off as xs _ _ h1, upd_ne h2]
  have low : ∀ b o, s.heap.get? b = some o → b ∉ as ∧ b ≠ S := fun b o q => ⟨fun z => absurd (Heap.lt_size q) (Nat.not_lt.mpr (Nat.le_trans hp (Nat.le_of_lt (hG.above b z)))), Nat.ne_of_lt (Nat.lt_of_lt_of_le (Heap.lt_size q) hp)⟩
  have kp : Same H (putE (upd H S (.lst (as.map V.ref))) 0 as xs) := fun b u q => by
    rw [off b (fun z => by rw [new b z] at q; cases q) (fun z => by rw [z, newS] at q; cases q)]
    exact q
  have eS : putE (upd H S (.lst (as.map V.ref))) 0 as xs S = some (.lst (as.map V.ref)) := by rw [putE_off as xs _ _ hSn, upd_same]
  refine ⟨putE (upd H S (.lst (as.map V.ref))) 0 as xs, kp, newS, new, eS, by omega, fun j t q => ?_, ?_⟩
  · obtain ⟨x, q1, q2⟩ := atP j t q
    rw [Nat.zero_add] at q2
    exact ⟨x, q1, q2⟩
  refine I.call' (ch := []) rfl ⟨fun b o q _ _ _ => hk b o q, fun b o q _ _ _ => ⟨o.slots, hk b o q⟩, fun b o q n _ => ?_, fun b o q _ => ⟨o, hk b o q⟩, fun b xs q => kp b _ q, fun b o u q => kp b _ q, fun b ps q => ⟨#[], by rw [kp b _ q]; simp⟩⟩ (fun b u q => ?_) I.bare fun b z => by simp at z
  · obtain ⟨z1, z2⟩ := low b o q
    rw [off b z1 z2]
    exact n
  · by_cases hb : b ∈ as
    · obtain ⟨j, hj⟩ := List.mem_iff_getElem?.mp hb
      obtain ⟨x, e2, e3⟩ := atP j b hj
      rw [e3] at q
      cases q
      obtain ⟨t, y, f1, f3⟩ := hG.pairs j b hj
      obtain ⟨u, g1, g2⟩ := rv.get e2
      have g1' : items[j]? = some u := by rw [← Array.getElem?_toList]; exact g1
      rw [f1] at g1'
      cases g1'
      rw [Nat.zero_add]
      exact ⟨by show 2 ≤ sizeLine; decide, [.int (j : Int) t, y], .cons ⟨t, rfl⟩ (.cons g2 .nil), ⟨_, f3, rfl, _, rfl⟩⟩
    · by_cases hb2 : b = S
      · rw [hb2] at q ⊢
        rw [eS] at q
        cases q
        refine ⟨by rw [List.length_map]; omega, acc.toList, c, by rw [hacc]; exact refs_vals as, ?_⟩
        rw [Array.toArray_toList]
        exact hS
      · rw [off b hb hb2] at q
        exact (I.hok b u q).stay (fun d v _ y => hk d v y) (fun d y => kp d _ y) fun d xs y => kp d _ y
theorem pe_listEnum (hc : X.calm = true) (he : PE X e te) (hg : Gl X "list") (hm : X.mg "list" = none) (hg2 : Gl X "enumerate") (hm2 : X.mg "enumerate" = none)
    (hs : starEach [e] X.env = (false, eval e X.env) :: starEach [] X.env := by rfl)
    (hs2 : starEach [.Call (.Name "enumerate" p2) [e] [] pos2] X.env = (false, eval (.Call (.Name "enumerate" p2) [e] [] pos2) X.env) :: starEach [] X.env := by rfl) :
    PE X (.Call (.Name "list" p) [.Call (.Name "enumerate" p2) [e] [] pos2] [] pos) (tListEnum X.K te) := by
  refine ⟨fun pins s σ H Q I h => ?_⟩
  refine Call_ (ld_blt I hg hm (show bootBuiltins "list" = some (.type "list") by decide +kernel) (PyProof.Rows.callWith_type1 (args_cons (Call_ (ld_blt I hg2 hm2 boot_enumerate (PyProof.Rows.callWith_type1 (args_cons (thn (he.run pins s σ H _ I h) fun u s1 ⟨v, H1, I1, r1, q1⟩ => args_nil ?_) hs) hs rfl))) hs2) hs2 rfl))
  obtain ⟨a, xs, ev, hq, q⟩ := q1
  subst ev
  obtain rfl : u = Value.ref a := r1
  obtain ⟨its, rv, p', hz⟩ := I1.list hq
  refine call_enumerate_list p'.isList fun h' he' hit hsz hk => args_nil ?_
  have hl := p'.isList
  obtain ⟨ol, hol, _⟩ := id hl
  have all : a < s1.heap.objs.size := Heap.lt_size hol
  have hn : its.toArray.size ≤ sizeLine := by rw [List.size_toArray, ← rv.length]; exact hz
  refine en_call (s := { s1 with heap := h' }) (I1.ok.hd hc) he' hit (hl.at fun o q => hk a o q) (Nat.succ_ne_self _) (Nat.ne_of_lt (Nat.lt_succ_of_lt all)) (Nat.ne_of_lt all) hn fun h2 tk acc c as k2 hS hle hG hacc => ?_
  obtain ⟨H', k1, k2', k3, k4, k5, k6, J⟩ := enum_laid (tk := tk) (S := h'.objs.size) (h' := h2) I1 hz (items := its.toArray) (by simpa using rv) (by rw [hsz]; omega) (fun b o q => k2 b o (Nat.ne_of_lt (Nat.lt_succ_of_lt (Heap.lt_size q))) (Nat.ne_of_lt (Heap.lt_size q)) (hk b o q)) hS hle hG hacc
  exact ⟨.ref _, H', J, rfl, q H' _ as k1 k2' k3 k4 k5 k6⟩
end
end SpEn

/-! The layer's calls with one fact more: no repr is under way around (the fact that repr of a list wants). After HandS.Call, HandS.Ends. -/
namespace SpG
open PySem PySem.Spec PyProof.Rows L2

/-- FnOk, where no repr is under way -/
structure FnOkG (P : Program) (w : World) (K : PySem.W.Frag) (mg : Str → Option Value) (base : Heap) (CX : CXT) (k : Nat) (f : Addr) (fd : FuncData) (ps : List Str) (sp : Sp) : Prop where
  len : ∀ vs H Q E, sp vs H Q E → vs.length = ps.length
  run : ∀ (A : Around) (outer : List Env) (s : Shared) (H : Hp) (args : Args) (us : List Value) (vs : List V) (Q : VK) (E : XK), A.guards = some [] → Room k A → Env0 P w K mg base A outer s H → BindsTo s fd args (ps.zip us) → Vals vs us → sp vs H Q E →
    codeAny (model P w) A (.call (.ref f) args) (CR CX outer P w H s Q E) s
theorem fn_ofG {CX : CXT} {P : Program} {w : World} {K : PySem.W.Frag} {mg : Str → Option Value} {base : Heap} {k : Nat} {f : Addr} {name qual : Str} {params : Arguments} {body : List Stmt} {scope : Scope} {dV kV doc pm cdv ct oc : Value} {an od : Option Addr}
    {osl : Array (Option Value)} {N ps : List Str} {sp : Sp} (lk : K.lookup f = some ⟨oc, od, .func (PySem.W.fnOf name qual params body scope dV kV doc pm an cdv ct), osl⟩) (hcd : PySem.W.codeIn K cdv qual = true) (S : FnScope N ps scope)
    (len : ∀ vs H Q E, sp vs H Q E → vs.length = ps.length)
    (hbody : ∀ (A : Around) (outer : List Env) (s : Shared) (H : Hp) (vs : List V) (Q : VK) (E : XK), A.guards = some [] → Room k (A.deeper (envOfC qual scope s.heap.objs.size f cdv)) → sp vs H Q E →
      ∃ t, PSs (cxOf CX P w K mg base N qual scope f cdv A outer s H E) body t ∧ t { nx := fun _ H' => Q .non H', rt := Q } (start N vs) H) :
    FnOkG P w K mg base CX (k + 1) f (PySem.W.fnOf name qual params body scope dV kV doc pm an cdv ct) ps sp := by
  refine ⟨len, fun A outer s H args us vs Q E hgu hr e0 hb r hsp => ?_⟩
  have hl := len _ _ _ _ hsp
  have KX : K.In s.heap := e0.mod.kin.keeps fun b o e => (e0.bs b o e).1
  have lim : s.heap.NoLimit := e0.mod.nolimit.keeps fun b o e => (e0.bs b o e).1
  have hkind : ∀ y ∈ ps.zip us, scope.names.lookup y.1 = some .local ∨ (scope.names.lookup y.1 = some .cell ∧ ((cellsFrom (s.heap.objs.size + 1) scope.names []).lookup y.1).isSome = true) := fun ⟨n, v⟩ hy => by
    rcases S.par n (List.of_mem_zip hy).1 with q | q
    · exact .inl q
    · exact .inr ⟨q, PySem.W.cellsFrom_some _ _ _ (.inl q)⟩
  refine codeAny_call_function hr.depth (KX _ _ lk) rfl S.co S.gen rfl (PySem.W.codeRec_of KX hcd) (hb _ _ _ _ ?_)
  refine wpAny_newFunctionEnv_cells S.kind hkind fun env he s1 x => ?_
  subst he
  refine ⟨lim.keeps x.toInCall.keep, codeAny_func ?_⟩
  obtain ⟨t, ht, hq⟩ := hbody A outer s H vs Q E hgu (hr.deeper _) hsp
  have I : Inv (cxOf CX P w K mg base N qual scope f cdv A outer s H E) [] (start N vs) H s1 := L2.inv_start S hr.hd e0 hl r x
  refine wpAny_mono (ht.run [] s1 (start N vs) H _ I hq) (fun fl s' hs => ?_) fun e s' hs => hs
  have fin : ∀ {σ' : L2.St} {H' : Hp} {v : V} {u : Value}, Inv (cxOf CX P w K mg base N qual scope f cdv A outer s H E) [] σ' H' s' → RelV v u → Q v H' → CE outer P w H s Q u s' :=
    fun {σ' H' v u} J rv q => ⟨v, H', J.os, J.bare, J.base, J.hok, rv, q⟩
  cases fl with
  | ret u =>
    obtain ⟨v, σ', H', J, rv, q⟩ := hs
    exact fin J rv q
  | next =>
    obtain ⟨σ', H', J, q⟩ := hs
    exact fin (v := V.non) (u := Value.none) J rfl q
  | brk =>
    obtain ⟨_, _, _, q⟩ := hs
    exact False.elim q
  | cont =>
    obtain ⟨_, _, _, q⟩ := hs
    exact False.elim q

section
variable {P : Program} {w : World} {K : PySem.W.Frag} {mg : Str → Option Value} {base : Heap}
/-- a def by its body, where no repr is under way -/
theorem okG {x qual : Str} {st : Stmt} {f : Addr} {fd : FuncData} {N ps : List Str} {k : Nat} {sp : Sp} (F : Fun K x qual st f fd) (S : FnScope N ps (defScope st)) (len : ∀ vs H Q E, sp vs H Q E → vs.length = ps.length)
    (hbody : ∀ (cdv : Value) (A : Around) (outer : List Env) (s : Shared) (H : Hp) (vs : List V) (Q : VK) (E : XK), A.guards = some [] → Room k (A.deeper (envOfC qual (defScope st) s.heap.objs.size f cdv)) → sp vs H Q E →
      ∃ t, PSs (cxOf CX0 P w K mg base N qual (defScope st) f cdv A outer s H E).nox (defBody st) t ∧ t { nx := fun _ H' => Q .non H', rt := Q } (start N vs) H) : FnOkG P w K mg base CX0 (k + 1) f fd ps sp := by
  obtain ⟨oc, od, kV, doc, pm, an, cdv, ct, osl, rfl, lk, hcd⟩ := F.ex
  refine fn_ofG lk hcd S len fun A outer s H vs Q E hg hr hsp => ?_
  obtain ⟨t, h, q⟩ := hbody cdv A outer s H vs Q E hg hr hsp
  exact ⟨t, h.nox, q⟩
end
section
variable {X : Cx} {CX : CXT} {k : Nat} {f C : Addr} {fd : FuncData} {ps : List Str} {sp : Sp} {E : XK} {x m : Str} {p pos : Pos} {e : Expr} {es : List Expr} {t : TA}
theorem run_fnG {pins : List (Addr × Obj)} {σ : L2.St} {H : Hp} {s : Shared} {Q : VK} {us : List Value} {vs : List V} (F : FnOkG X.prog X.w X.K X.mg X.base CX k f fd ps sp) (hgu : X.A.guards = some []) (hr : Room k X.A) (hb : Binds X.K fd ps []) (hx : Passes CX X E)
    (I : Inv X pins σ H s) (r : Vals vs us) (h : sp vs H Q E) : wpAny (model X.prog X.w) X.A (call (.ref f) us) (EP X pins σ Q) X.xe s := by
  have hl : (us ++ []).length = ps.length := by rw [List.append_nil, ← r.length]; exact F.len _ _ _ _ h
  have hb' := hb s us I.kIn hl
  rw [List.append_nil] at hb'
  refine wpAny_call (codeAny_mono (F.run X.A X.stack s H ⟨us, []⟩ us vs Q E hgu hr I.env0 hb' r h) fun r s' hq => ?_)
  cases r with
  | error e => exact hx pins σ H s e s' I hq
  | ok fl =>
    cases fl with
    | ret u => exact I.after hq
    | next => exact False.elim hq
    | brk => exact False.elim hq
    | cont => exact False.elim hq
theorem pe_callG (F : FnOkG X.prog X.w X.K X.mg X.base CX k f fd ps sp) (hgu : X.A.guards = some []) (hr : Room k X.A) (hg : Gl X x) (hm : X.mg x = some (.ref f)) (hk : PySem.W.keepIn X.K (.ref f) = true) (hb : Binds X.K fd ps []) (hx : Passes CX X E)
    (ha : PA X (e :: es) t) (hdb : (x == ("__debug__" : Str)) = false := by decide) (he : starEach (e :: es) X.env = (false, eval e X.env) :: starEach es X.env := by rfl) (hpl : (backTo pos (starEach es X.env)).any (·.1) = false := by rfl) :
    PE X (.Call (.Name x p) (e :: es) [] pos) (fun σ H Q => t σ H fun vs H1 => sp vs H1 Q E) := by
  refine ⟨fun pins s σ H Q I h => ?_⟩
  refine wpAny_Call_Name_kw (ld_glob I hg hm ?_ hdb)
  refine PySem.W.callWith_K (h₀ := X.base) I.ok.mod.kin hk (thn (ha.run pos pins s σ H _ I h) fun us s1 ⟨vs, H1, I1, r, q⟩ => ⟨I1.kIn, ?_⟩) he hpl
  exact run_fnG F hgu hr hb hx I1 r q
end
theorem law_callG {P : Program} {w : World} {K : PySem.W.Frag} {mg mb : Str → Option Value} {CX : CXT} {k : Nat} {fa a : Addr} {fd : FuncData} {x : Str} {sp : Sp} {s₁ : Shared} {vs : List Value} {ns : List Int}
    (KX : K.In s₁.heap) (hns : s₁.heap.Ns mainGlobals mg) (hb : s₁.heap.Ns builtinsNs mb) (hbb : ∀ x : Str, x ≠ "__name__" → mb x = bootBuiltins x) (hlim : s₁.heap.NoLimit) (hdig : s₁.heap.NoDigits) (hg : s₁.gens = #[])
    (ha : s₁.heap.get? a = some { cls := .type "list", data := .seq vs.toArray }) (hi : IntsAre vs ns) (hl : ns.length ≤ sizeLine) (hr : Room k callerA)
    (F : ∀ base : Heap, K.In base → base.Ns mainGlobals mg → base.NoDigits → FnOkG P w K mg base CX k fa fd [x] sp) (hbind : ∀ (s : Shared) (u : Value), BindsTo s fd ⟨[u], []⟩ [(x, u)])
    (hsp : ∀ H : Hp, Only H → SqL K H a (ns.map V.int) → sp [.ref a] H (fun v _ => v = .bl true) fun _ _ _ => False)
    (hCX : ∀ H e s', CX [] H s₁ (fun _ _ _ => False) e s' → False) :
    codeAny (model P w) callerA (.call (.ref fa) ⟨[.ref a], []⟩) (fun r s' => r = .ok (.ret (.bool true)) ∧ OldK s₁.heap s'.heap ∧ s'.os = s₁.os ∧ AllBare s'.gens) s₁ := by
  have rv := vals_ints hi
  have lenV := hi.length
  -- from an abstract heap in which nothing but the script may be tracked
  have core : ∀ H : Hp, Only H → SqL K H a (ns.map V.int) → HOk P w H s₁.heap → (∀ b, H b ≠ none → b = a) → (H a ≠ none → K.lookup a = none) →
      codeAny (model P w) callerA (.call (.ref fa) ⟨[.ref a], []⟩) (fun r s' => r = .ok (.ret (.bool true)) ∧ OldK s₁.heap s'.heap ∧ s'.os = s₁.os ∧ AllBare s'.gens) s₁ := by
    intro H hO hS hok hA hK
    have base_of : ∀ {b : Addr} {o : Obj}, s₁.heap.get? b = some o → H b = none → (hidT s₁.heap H).get? b = some o := fun e n => hidT_get e n
    have noA : ∀ {b : Addr} {o : Obj} {es : Array DictEntry} {ep : Nat}, s₁.heap.get? b = some o → o.data = .dict es ep → H b = none := fun {b o es ep} e d => by
      cases q : H b with
      | none => rfl
      | some u =>
        have e' : b = a := hA b (by rw [q]; simp)
        subst e'
        rw [ha] at e; cases e
        have d' : Data.seq vs.toArray _ = Data.dict es ep := d
        cases d'
    have nsK : ∀ {b : Addr} {m : Str → Option Value}, s₁.heap.Ns b m → (hidT s₁.heap H).Ns b m := fun {b m} ⟨o, es, ep, e, d, r⟩ => ⟨o, es, ep, base_of e (noA e d), d, r⟩
    have hKb : K.In (hidT s₁.heap H) := fun b o e => base_of (KX b o e) (by
      cases q : H b with
      | none => rfl
      | some u =>
        have e' : b = a := hA b (by rw [q]; simp)
        subst e'
        rw [hK (by rw [q]; simp)] at e; cases e)
    have hM : Mod K mg (hidT s₁.heap H) := ⟨hKb, nsK hns, ⟨mb, nsK hb, hbb⟩, let ⟨mc, h1, h2⟩ := hlim; ⟨mc, nsK h1, h2⟩⟩
    have hDg : (hidT s₁.heap H).NoDigits := let ⟨mc, h1, h2⟩ := hdig; ⟨mc, nsK h1, h2⟩
    have e0 : Env0 P w K mg (hidT s₁.heap H) callerA [] s₁ H := ⟨rfl, hM, fun b o e => of_hidT e, Nat.le_of_eq (hidT_size _ _), trivial, fun b hb => absurd (show b ∈ ([] : List Addr) from hb) (by simp), hok, .of_eq hg⟩
    refine codeAny_mono ((F _ hKb (nsK hns) hDg).run callerA [] s₁ H ⟨[.ref a], []⟩ [.ref a] [.ref a] _ _ rfl hr e0 (hbind s₁ (.ref a)) (.cons rfl .nil) (hsp H hO hS)) fun r s' h => ?_
    cases r with
    | error e => exact (hCX H e s' h).elim
    | ok fl =>
      cases fl with
      | next => exact False.elim h
      | brk => exact False.elim h
      | cont => exact False.elim h
      | ret u =>
        obtain ⟨v, H', os, bare, un, hok', r', q⟩ := h
        have q' : v = .bl true := q
        subst q'
        obtain rfl : u = Value.bool true := r'
        refine ⟨rfl, OldK.of_keep fun b o e => ?_, os, bare⟩
        cases q : H b with
        | none => exact un.keep b o e q (by intro z; exact absurd (show b ∈ ([] : List Addr) from z) (by simp)) (by simp)
        | some u =>
          rcases hO b with z | ⟨ob, xs, z⟩
          · rw [q] at z; cases z
          · have z2 := un.frzs b ob _ z
            obtain ⟨e1, _⟩ := hok b _ z
            obtain ⟨e2, _⟩ := hok' b _ z2
            rw [e] at e1; cases e1
            exact e2
  cases hk : K.lookup a with
  | some o =>
    -- the script is one of the module's own objects
    have e := KX a o hk
    rw [ha] at e
    cases e
    refine core (fun _ => none) (fun _ => .inl rfl) (.inr ⟨_, vs.toArray, _, hk, rfl, rfl, rfl, by rw [List.size_toArray, lenV]; exact hl, by simpa using rv⟩) (fun b u z => by have z' : (none : Option HO) = some u := z; cases z') (fun b z => absurd rfl z) fun z => absurd rfl z
  | none =>
    refine core (fun b => if b = a then some (.frz { cls := .type "list", data := .seq vs.toArray } (.lst (ns.map V.int))) else none) (fun b => ?_) (.inl (.inr ⟨{ cls := .type "list", data := .seq vs.toArray }, if_pos rfl⟩)) (fun b u z => ?_) (fun b z => ?_) fun _ => hk
    · by_cases hb : b = a
      · exact .inr ⟨_, _, if_pos hb⟩
      · exact .inl (if_neg hb)
    · by_cases hb : b = a
      · have z' := (if_pos hb).symm.trans z
        cases z'
        subst hb
        exact ⟨ha, by rw [List.length_map]; exact hl, vs, _, rv, ha⟩
      · have z' := (if_neg hb).symm.trans z
        cases z'
    · by_cases hb : b = a
      · exact hb
      · exact absurd (if_neg hb) z
theorem walk_ofG {l : PySem.W.OpenLaw} {n k : Nat} {q : Program} {loose : List Str} {XP : (Str → Option Value) → Heap → Prop} {YP : World → Heap → Prop} {d : DefRec} {K : Params → PySem.W.Frag} {CX : World → CXT} {sp : World → Sp} {x : Str}
    (hn : l.most = some n) (hn2 : n ≤ sizeLine) (hdf : d.params.defaults = []) (hr : Room k callerA)
    (hY : ∀ (w : World) (h : Heap), YP w h → (K w.params).In h)
    (F : ∀ (w : World) (mg : Str → Option Value) (fa : Addr) (h : Heap), (K w.params).In h → h.Ns mainGlobals mg → mg d.name = some (.ref fa) →
      ∃ fd : FuncData, (∀ (s : Shared) (u : Value), BindsTo s fd ⟨[u], []⟩ [(x, u)]) ∧
        ∀ base : Heap, (K w.params).In base → base.Ns mainGlobals mg → base.NoDigits → FnOkG l.prog w (K w.params) mg base (CX w) k fa fd [x] (sp w))
    (hsp : ∀ (w : World) (H : Hp) (a : Addr) (ns : List Int), ns.length ≤ n → Only H → SqL (K w.params) H a (ns.map V.int) → sp w [.ref a] H (fun v _ => v = .bl true) fun _ _ _ => False)
    (hCX : ∀ (w : World) (H : Hp) (s : Shared) (e : Value) (s' : Shared), CX w [] H s (fun _ _ _ => False) e s' → False) :
    PySem.W.WalkO q loose XP YP l.row.toRowW d [] (fun f vs => PySem.call f vs) := by
  refine Att.attach_call hn hdf fun w s₀ s₁ mg mb fa o pm cd doc a vs ns G Y ho hd hcd hmg hobj hints hlen hg => ?_
  have KX := hY w _ Y
  obtain ⟨fd, hb, hF⟩ := F w mg fa _ KX G.T.g hmg
  exact law_callG KX G.T.g G.T.b G.T.builtins G.T.nolimit (Top.nodigits G.T) hg hobj hints (Nat.le_trans hlen hn2) hr hF hb (fun H hO hS => hsp w H a ns hlen hO hS) fun H e s' => hCX w H s₁ e s'

end SpG

set_option exponentiation.threshold 5000
/-! repr of a list of data, ints of up to 4,300 figures among them: what is shown is told as a text that hangs on the data alone. -/
namespace SpR
open PySem PySem.Spec PyProof.Rows L2

/-- ten to the 4,300th, never unfolded but in two lemmas -/
def figs : Nat := 10 ^ 4300
theorem figs_eq : figs = 10 ^ 4300 := rfl
theorem figs_of {n k : Nat} (h : n < 2 ^ k) (hk : k ≤ 14000) : n < figs := by
  refine Nat.lt_of_lt_of_le h (Nat.le_trans (Nat.pow_le_pow_right (by decide) hk) ?_)
  unfold figs
  decide +kernel
theorem figs_len {i : Int} (h : i.natAbs < figs) : (toString i).length ≤ 4301 := int_text_length_le10 (by decide) h

mutual
/-- what a value shows in a heap, and how deep it is -/
inductive Shw (h : Heap) : Value → Str → Nat → Prop
  | none : Shw h .none "None" 0
  | bool (b : Bool) : Shw h (.bool b) (if b then "True" else "False") 0
  | int {i : Int} (t : Tok) : i.natAbs < figs → Shw h (.int i t) (toString i) 0
  | str (x : Str) (t : Tok) : Shw h (.str x t) (reprText x) 0
  | list {a : Addr} {o : Obj} {vs : Array Value} {n m : Nat} {ts : List Str} : h.get? a = some o → o.cls = .type "list" → o.data = .seq vs n → ShwAll h vs.toList ts m → Shw h (.ref a) (listText ts) (m + 1)
  | tuple {a : Addr} {o : Obj} {vs : Array Value} {n m : Nat} {ts : List Str} : h.get? a = some o → o.cls = .type "tuple" → o.data = .seq vs n → ShwAll h vs.toList ts m → Shw h (.ref a) (tupleText ts) (m + 1)
  | dict {a : Addr} {o : Obj} {es : Array DictEntry} {n m1 m2 : Nat} {ks vs : List Str} : h.get? a = some o → o.cls = .type "dict" → o.data = .dict es n → (a == sysModules) = false → ShwAll h (es.toList.map (·.key)) ks m1 → ShwAll h (es.toList.map (·.val)) vs m2 →
      Shw h (.ref a) (dictText (List.zipWith (fun k v : Str => k ++ ": " ++ v) ks vs)) (max m1 m2 + 1)
inductive ShwAll (h : Heap) : List Value → List Str → Nat → Prop
  | nil : ShwAll h [] [] 0
  | cons {v : Value} {vs : List Value} {t : Str} {ts : List Str} {m n : Nat} : Shw h v t m → ShwAll h vs ts n → ShwAll h (v :: vs) (t :: ts) (max m n)
end
mutual
theorem Shw.deep {h : Heap} : ∀ {v : Value} {t t' : Str} {m m' : Nat}, Shw h v t m → Shw h v t' m' → m = m'
  | _, _, _, _, _, .none, .none => rfl
  | _, _, _, _, _, .bool _, .bool _ => rfl
  | _, _, _, _, _, .int _ _, .int _ _ => rfl
  | _, _, _, _, _, .str _ _, .str _ _ => rfl
  | _, _, _, _, _, .list h1 h2 h3 h4, .list g1 g2 g3 g4 => by
    rw [h1] at g1; cases g1
    rw [h3] at g3; cases g3
    rw [ShwAll.deep h4 g4]
  | _, _, _, _, _, .tuple h1 h2 h3 h4, .tuple g1 g2 g3 g4 => by
    rw [h1] at g1; cases g1
    rw [h3] at g3; cases g3
    rw [ShwAll.deep h4 g4]
  | _, _, _, _, _, .dict h1 h2 h3 _ h4 h5, .dict g1 g2 g3 _ g4 g5 => by
    rw [h1] at g1; cases g1
    rw [h3] at g3; cases g3
    rw [ShwAll.deep h4 g4, ShwAll.deep h5 g5]
  | _, _, _, _, _, .list h1 h2 _ _, .tuple g1 g2 _ _ => by
    rw [h1] at g1; cases g1
    rw [h2] at g2; exact absurd g2 (by decide)
  | _, _, _, _, _, .list h1 h2 _ _, .dict g1 g2 _ _ _ _ => by
    rw [h1] at g1; cases g1
    rw [h2] at g2; exact absurd g2 (by decide)
  | _, _, _, _, _, .tuple h1 h2 _ _, .list g1 g2 _ _ => by
    rw [h1] at g1; cases g1
    rw [h2] at g2; exact absurd g2 (by decide)
  | _, _, _, _, _, .tuple h1 h2 _ _, .dict g1 g2 _ _ _ _ => by
    rw [h1] at g1; cases g1
    rw [h2] at g2; exact absurd g2 (by decide)
  | _, _, _, _, _, .dict h1 h2 _ _ _ _, .list g1 g2 _ _ => by
    rw [h1] at g1; cases g1
    rw [h2] at g2; exact absurd g2 (by decide)
  | _, _, _, _, _, .dict h1 h2 _ _ _ _, .tuple g1 g2 _ _ => by
    rw [h1] at g1; cases g1
    rw [h2] at g2; exact absurd g2 (by decide)
theorem ShwAll.deep {h : Heap} : ∀ {vs : List Value} {t t' : List Str} {m m' : Nat}, ShwAll h vs t m → ShwAll h vs t' m' → m = m'
  | _, _, _, _, _, .nil, .nil => rfl
  | _, _, _, _, _, .cons a b, .cons c d => by rw [Shw.deep a c, ShwAll.deep b d]
end
theorem ShwAll.len {h : Heap} : ∀ {vs : List Value} {ts : List Str} {m : Nat}, ShwAll h vs ts m → ts.length = vs.length
  | _, _, _, .nil => rfl
  | _, _, _, .cons _ r => by simp [r.len]

section
variable {prog : Program} {w : World} {h₀ : Heap}
theorem intK {i : Int} {t : Tok} {d : Nat} (hd : h₀.NoDigits) (hi : i.natAbs < figs) (as : List Addr) : ReprK prog w as h₀ d (.int i t) (toString i) := by
  intro base hb A g E s Q hg hcl hu hk0 hQ
  have hn : s.heap.NoDigits := hd.keeps hk0
  rw [pyReprUnder_leaf (v := .int i t) (by omega) (fun _ e => nomatch e)]
  unfold pyRepr pyReprObj
  try (have hv : [Value.int i t].any Value.onHeap = false := rfl; simp only [cRoomFor, hv, Bool.false_eq_true, if_false, pure_bind])
  refine wpAny_bind (wpAny_bind (wpAny_specialOf (name := Str.ofString "__repr__") (typeIs_int s i t) F.slot_int_repr.lookup ?_))
  refine wpAny_bind (m := callSpecialIfBound? (.int i t) (Str.ofString "__repr__")) (wpAny_callSpecialIfBound?_slot (name := Str.ofString "__repr__") (typeIs_int s i t) F.slot_int_repr ?_)
  refine wpAny_call_entry F.slot_int_repr (typeIs_int s i t) F.entry_int_repr ?_ (F.args_int_repr_1 _)
  unfold Builtin.«int.__repr__»
  show wpAny _ _ (do let r ← Builtin.overDigitLimit? i; _) _ _ s
  refine wpAny_bind (overDigitLimit_any hn (fun hlt => ?_) (fun hge => ?_))
  · refine wpAny_bind (wpAny_mkStr (wpAny_pure ⟨_, rfl, ?_⟩) (int_text_fits10 hlt))
    refine wpAny_bind (wpAny_isInstance (T := "str") (b := true) rfl isSubtype_str_str (wpAny_pure ?_))
    exact wpAny_pure (hQ s.heap _ fun _ _ e => e)
  · exact absurd hi (Nat.not_lt.mpr hge)

/-- the addresses that are on the way are no deeper -/
def Most (h₀ : Heap) (n : Nat) (bs : List Addr) : Prop := ∀ b ∈ bs, ∃ t m, Shw h₀ (.ref b) t m ∧ m ≤ n
theorem Most.mono {n m : Nat} {bs : List Addr} (h : Most h₀ n bs) (hn : n ≤ m) : Most h₀ m bs := fun b hb =>
  let ⟨t, k, r, hk⟩ := h b hb
  ⟨t, k, r, Nat.le_trans hk hn⟩
theorem Most.app {n : Nat} {bs cs : List Addr} (h1 : Most h₀ n bs) (h2 : Most h₀ n cs) : Most h₀ n (bs ++ cs) := fun b hb => (List.mem_append.mp hb).elim (h1 b) (h2 b)
theorem Most.here {a : Addr} {t : Str} {m n : Nat} {bs : List Addr} (r : Shw h₀ (.ref a) t m) (hn : n ≤ m) (hb : Most h₀ n bs) : Most h₀ m (a :: bs) := by
  intro b hm
  rcases List.mem_cons.mp hm with e | hm
  · subst e
    exact ⟨_, _, r, Nat.le_refl _⟩
  · exact hb.mono hn b hm
theorem Most.out {a : Addr} {t : Str} {m n : Nat} {bs : List Addr} (r : Shw h₀ (.ref a) t m) (hn : n < m) (hb : Most h₀ n bs) : a ∉ bs := by
  intro hm
  obtain ⟨t', m', r', h'⟩ := hb a hm
  have := Shw.deep r r'
  omega
theorem zip_key : ∀ {ks vs : List Str} {t : Str}, t ∈ ks → ks.length = vs.length → ∃ p ∈ List.zipWith (fun k v : Str => k ++ ": " ++ v) ks vs, t.length ≤ p.length
  | k :: ks, [], t, _, h => by cases h
  | k :: ks, v :: vs, t, hm, h => by
    rcases List.mem_cons.mp hm with e | hm
    · subst e
      exact ⟨_, List.mem_cons_self, by rw [strLen_append, strLen_append]; omega⟩
    · obtain ⟨p, hp, hl⟩ := zip_key hm (Nat.succ.inj h)
      exact ⟨p, List.mem_cons_of_mem _ hp, hl⟩
theorem zip_val : ∀ {ks vs : List Str} {t : Str}, t ∈ vs → ks.length = vs.length → ∃ p ∈ List.zipWith (fun k v : Str => k ++ ": " ++ v) ks vs, t.length ≤ p.length
  | [], v :: vs, t, _, h => by cases h
  | k :: ks, v :: vs, t, hm, h => by
    rcases List.mem_cons.mp hm with e | hm
    · subst e
      exact ⟨_, List.mem_cons_self, by rw [strLen_append, strLen_append]; omega⟩
    · obtain ⟨p, hp, hl⟩ := zip_val hm (Nat.succ.inj h)
      exact ⟨p, List.mem_cons_of_mem _ hp, hl⟩
mutual
theorem shwK (hd : h₀.NoDigits) : ∀ {v : Value} {t : Str} {m : Nat}, Shw h₀ v t m → t.length ≤ sizeLine → ∃ bs, Most h₀ m bs ∧ ReprK prog w bs h₀ m v t
  | _, _, _, .none, _ => ⟨[], (fun _ h => nomatch h), .of_is ReprIs.none _ _ _⟩
  | _, _, _, .bool b, _ => ⟨[], (fun _ h => nomatch h), .of_is (ReprIs.bool b) _ _ _⟩
  | _, _, _, .int t hi, _ => ⟨[], (fun _ h => nomatch h), intK hd hi _⟩
  | _, _, _, .str x t, hz => ⟨[], (fun _ h => nomatch h), .of_is (ReprIs.str x t hz) _ _ _⟩
  | _, _, _, .list (vs := vs) h1 h2 h3 h4, hz => by
    obtain ⟨bs, hb, hk⟩ := shwKall hd h4 (fun t ht => Nat.le_trans (listText_mem_le ht) hz)
    have r := Shw.list h1 h2 h3 h4
    have hna := Most.out r (Nat.lt_succ_self _) hb
    refine ⟨_, Most.here r (Nat.le_succ _) hb, ?_⟩
    obtain ⟨l⟩ := vs
    cases l with
    | nil =>
      have h4' : ShwAll h₀ [] _ _ := h4
      cases h4'
      rw [listText_nil]
      exact ReprK.level_le (ReprK.listEmpty h1 h2 h3) (Nat.zero_le _)
    | cons x l => exact ReprK.list h1 h2 h3 hna (by simpa using hk.length_eq) (fun i y e => hk.item i y (by simpa using e))
  | _, _, _, .tuple h1 h2 h3 h4, hz => by
    obtain ⟨bs, hb, hk⟩ := shwKall hd h4 (fun t ht => Nat.le_trans (tupleText_mem_le ht) hz)
    have r := Shw.tuple h1 h2 h3 h4
    have hna := Most.out r (Nat.lt_succ_self _) hb
    exact ⟨_, Most.here r (Nat.le_succ _) hb, ReprK.tuple h1 h2 h3 hna hk⟩
  | _, _, _, .dict (es := es) h1 h2 h3 hs h4 h5, hz => by
    have e4 := h4.len
    have e5 := h5.len
    rw [List.length_map] at e4 e5
    obtain ⟨b1, hb1, k1⟩ := shwKall hd h4 (fun t ht => let ⟨p, hp, hl⟩ := zip_key ht (by omega); Nat.le_trans hl (Nat.le_trans (dictText_mem_le hp) hz))
    obtain ⟨b2, hb2, k2⟩ := shwKall hd h5 (fun t ht => let ⟨p, hp, hl⟩ := zip_val ht (by omega); Nat.le_trans hl (Nat.le_trans (dictText_mem_le hp) hz))
    have r := Shw.dict h1 h2 h3 hs h4 h5
    have hb := (hb1.mono (Nat.le_max_left _ _)).app (hb2.mono (Nat.le_max_right _ _))
    have hna := Most.out r (Nat.lt_succ_self _) hb
    exact ⟨_, Most.here r (Nat.le_succ _) hb, ReprK.dict h1 h2 h3 hs hna (ReprEntriesK.of_two es.toList _ _ (k1.more_le (fun b hb => List.mem_append_left _ hb) (Nat.le_max_left _ _)) (k2.more_le (fun b hb => List.mem_append_right _ hb) (Nat.le_max_right _ _)))⟩
theorem shwKall (hd : h₀.NoDigits) : ∀ {vs : List Value} {ts : List Str} {m : Nat}, ShwAll h₀ vs ts m → (∀ t ∈ ts, t.length ≤ sizeLine) → ∃ bs, Most h₀ m bs ∧ ReprAllK prog w bs h₀ m vs ts
  | _, _, _, .nil, _ => ⟨[], (fun _ h => nomatch h), .nil⟩
  | _, _, _, .cons r rs, hz => by
    obtain ⟨b1, hb1, k1⟩ := shwK hd r (hz _ List.mem_cons_self)
    obtain ⟨b2, hb2, k2⟩ := shwKall hd rs (fun t ht => hz t (List.mem_cons_of_mem _ ht))
    exact ⟨b1 ++ b2, (hb1.mono (Nat.le_max_left _ _)).app (hb2.mono (Nat.le_max_right _ _)), .cons ((k1.more fun b hb => List.mem_append_left _ hb).level_le (Nat.le_max_left _ _)) (k2.more_le (fun b hb => List.mem_append_right _ hb) (Nat.le_max_right _ _))⟩
end
/-- repr(a list) -/
theorem repr_list {A : Around} {E : Value → Shared → Prop} {s : Shared} {Q : Value → Shared → Prop} {a : Addr} {o : Obj} {vs : Array Value} {n m : Nat} {ts : List Str} (hd : s.heap.NoDigits) (h1 : s.heap.get? a = some o) (h2 : o.cls = .type "list") (h3 : o.data = .seq vs n) (h4 : ShwAll s.heap vs.toList ts m)
    (hz : (listText ts).length ≤ sizeLine) (hg : A.guards = some []) (hu : A.units + (m + 3) < cLine)
    (hQ : ∀ h' u tk, (∀ b o, s.heap.get? b = some o → h'.get? b = some o) → Q (.str (listText ts) u) { s with heap := h', toks := tk }) : wpAny (model prog w) A (call (.builtin "repr") [.ref a]) Q E s := by
  refine call_repr_slot (by omega) ⟨o, h1, h2⟩ F.slot_list_repr.toG ?_
  obtain ⟨bs, hb, hk⟩ := shwKall (prog := prog) (w := w) hd h4 (fun t ht => Nat.le_trans (listText_mem_le ht) hz)
  have hna := Most.out (Shw.list h1 h2 h3 h4) (Nat.lt_succ_self _) hb
  obtain ⟨l⟩ := vs
  cases l with
  | nil =>
    have h4' : ShwAll s.heap [] ts m := h4
    cases h4'
    refine call_list_repr_empty ⟨o, h1, h2⟩ h1 h3 ⟨_, _, rfl, ?_⟩
    have q := hQ s.heap s.toks (s.toks + 1) fun _ _ e => e
    rw [listText_nil] at q
    exact q
  | cons x l =>
    exact call_list_reprK h1 h2 h3 hna (by simpa using hk.length_eq) (fun i y e => hk.item i y (by simpa using e)) hg (fun b _ => Clear.nil b) (by show A.units + 1 + (m + 1) < cLine; omega) (fun _ _ e => e) (fun h' u tk hkk => ⟨_, _, rfl, hQ h' u tk hkk⟩) hz
end

/-! ### over the layer -/
mutual
/-- what a value of the layer shows -/
inductive Sh (K : PySem.W.Frag) (H : Hp) : V → Str → Nat → Prop
  | non : Sh K H .non "None" 0
  | bl (b : Bool) : Sh K H (.bl b) (if b then "True" else "False") 0
  | int {i : Int} : i.natAbs < figs → Sh K H (.int i) (toString i) 0
  | str (x : Str) : Sh K H (.str x) (reprText x) 0
  | lst {a : Addr} {xs : List V} {ts : List Str} {m : Nat} : SqL K H a xs → ShAll K H xs ts m → Sh K H (.ref a) (listText ts) (m + 1)
  | tup {a : Addr} {xs : List V} {ts : List Str} {m : Nat} : SqT K H a xs → ShAll K H xs ts m → Sh K H (.ref a) (tupleText ts) (m + 1)
  | dct {a : Addr} {kvs : List (Key × V)} {ks vs : List Str} {m1 m2 : Nat} : H a = some (.dK kvs) → ShAll K H (kvs.map fun kv => kV kv.1) ks m1 → ShAll K H (kvs.map (·.2)) vs m2 → Sh K H (.ref a) (dictText (List.zipWith (fun k v : Str => k ++ ": " ++ v) ks vs)) (max m1 m2 + 1)
inductive ShAll (K : PySem.W.Frag) (H : Hp) : List V → List Str → Nat → Prop
  | nil : ShAll K H [] [] 0
  | cons {v : V} {vs : List V} {t : Str} {ts : List Str} {m n : Nat} : Sh K H v t m → ShAll K H vs ts n → ShAll K H (v :: vs) (t :: ts) (max m n)
end
theorem same_seqT {K : PySem.W.Frag} {H H' : Hp} {a : Addr} {xs : List V} (e : Same H H') (h : SqT K H a xs) : SqT K H' a xs := by
  rcases h with (h | ⟨o, h⟩) | h
  · exact .inl (.inl (e _ _ h))
  · exact .inl (.inr ⟨o, e _ _ h⟩)
  · exact .inr h
mutual
theorem Sh.same {K : PySem.W.Frag} {H H' : Hp} (e : Same H H') : ∀ {v : V} {t : Str} {m : Nat}, Sh K H v t m → Sh K H' v t m
  | _, _, _, .non => .non
  | _, _, _, .bl b => .bl b
  | _, _, _, .int h => .int h
  | _, _, _, .str x => .str x
  | _, _, _, .lst h r => .lst (e.seq h) (ShAll.same e r)
  | _, _, _, .tup h r => .tup (same_seqT e h) (ShAll.same e r)
  | _, _, _, .dct h r1 r2 => .dct (e _ _ h) (ShAll.same e r1) (ShAll.same e r2)
theorem ShAll.same {K : PySem.W.Frag} {H H' : Hp} (e : Same H H') : ∀ {vs : List V} {ts : List Str} {m : Nat}, ShAll K H vs ts m → ShAll K H' vs ts m
  | _, _, _, .nil => .nil
  | _, _, _, .cons a b => .cons (Sh.same e a) (ShAll.same e b)
end
theorem ShAll.len {K : PySem.W.Frag} {H : Hp} : ∀ {vs : List V} {ts : List Str} {m : Nat}, ShAll K H vs ts m → ts.length = vs.length
  | _, _, _, .nil => rfl
  | _, _, _, .cons _ r => by simp [r.len]
section
variable {X : Cx} {pins : List (Addr × Obj)} {σ : L2.St} {H : Hp} {s : Shared}
theorem keys_vals : ∀ {kvs : List (Key × V)} {vs : List (Key × Value)} {es : List DictEntry}, KV kvs vs → Pairs (mixKind X.prog X.w) es vs → Vals (kvs.map fun kv => kV kv.1) (es.map (·.key)) ∧ Vals (kvs.map (·.2)) (es.map (·.val))
  | _, _, _, .nil, .nil => ⟨.nil, .nil⟩
  | _, _, _, .cons (a := p) (b := q) ⟨e1, r1⟩ t, .cons h1 h2 t2 => by
    obtain ⟨i1, i2⟩ := keys_vals t t2
    refine ⟨.cons ?_ i1, .cons ?_ i2⟩
    · dsimp only
      rw [e1]
      exact relV_key h1
    · dsimp only
      rw [h2]
      exact r1
mutual
theorem Sh.at (I : Inv X pins σ H s) : ∀ {v : V} {t : Str} {m : Nat} {u : Value}, Sh X.K H v t m → RelV v u → Shw s.heap u t m
  | _, _, _, _, .non, r => by cases r; exact .none
  | _, _, _, _, .bl b, r => by cases r; exact .bool b
  | _, _, _, _, .int h, r => by
    obtain ⟨t, rfl⟩ := r
    exact .int t h
  | _, _, _, _, .str x, r => by
    obtain ⟨t, rfl⟩ := r
    exact .str x t
  | _, _, _, _, .lst h q, r => by
    cases r
    obtain ⟨its, rv, ⟨o, n, ho, hc, _, hd⟩, _⟩ := I.list h
    exact .list ho hc hd (ShAll.at I q (by simpa using rv))
  | _, _, _, _, .tup h q, r => by
    cases r
    obtain ⟨its, rv, ⟨o, ho, hc, n, hd⟩, _⟩ := I.tuple h
    exact .tuple ho hc hd (ShAll.at I q (by simpa using rv))
  | _, _, _, _, .dct (a := a) h q1 q2, r => by
    cases r
    obtain ⟨hz, hs, vs, kv, o, es, ep, ho, hx, hd, hk, hp, hn⟩ := (show ObjOk X.prog X.w H s.heap a (.dK _) from I.hok a _ h)
    obtain ⟨k1, k2⟩ := keys_vals (X := X) kv hp
    exact .dict ho hx.1 hd hs (ShAll.at I q1 k1) (ShAll.at I q2 k2)
theorem ShAll.at (I : Inv X pins σ H s) : ∀ {vs : List V} {ts : List Str} {m : Nat} {us : List Value}, ShAll X.K H vs ts m → Vals vs us → ShwAll s.heap us ts m
  | _, _, _, _, .nil, r => by cases r; exact .nil
  | _, _, _, _, .cons a b, r => by
    cases r with
    | cons r1 r2 => exact .cons (Sh.at I a r1) (ShAll.at I b r2)
end
end
def rRepr (K : PySem.W.Frag) : List V → Hp → VK → Prop := fun xs H Q => ∃ (a : Addr) (ys : List V) (ts : List Str) (m : Nat), xs = [.ref a] ∧ SqL K H a ys ∧ ShAll K H ys ts m ∧ m ≤ 40 ∧ (listText ts).length ≤ sizeLine ∧ Q (.str (listText ts)) H
theorem call_repr {X : Cx} (hd : X.base.NoDigits) (hg : X.A.guards = some []) (hu : X.A.units + 64 < cLine) : CallR X (.builtin "repr") (rRepr X.K) := by
  intro pins s σ H xs us Q I r h
  obtain ⟨a, ys, ts, m, rfl, hl, hs, hm, hz, q⟩ := h
  obtain ⟨u, rfl, rx⟩ := vals1 r
  cases rx
  obtain ⟨its, rv, ⟨o, n, ho, hc, _, ht⟩, _⟩ := I.list hl
  refine repr_list (hd.keeps I.bk) ho hc ht (ShAll.at I hs (by simpa using rv)) hz hg (by omega) fun h' u tk hk => ⟨.str _, H, I.kept (t' := tk) hk, ⟨u, rfl⟩, q⟩
end SpR

/-! Heaps of the laws: the hand that is drawn from, the cells, small lemmas. -/
namespace SpH
open PySem PySem.Spec PyProof.Rows L2 SpG SpR SpEn

/-! ### heaps -/
/-- all that was tracked is as it was, but what stands at p -/
def Off (p : Addr) (H H' : Hp) : Prop := ∀ b o, b ≠ p → H b = some o → H' b = some o
theorem Off.refl (p : Addr) (H : Hp) : Off p H H := fun _ _ _ h => h
theorem Off.trans {p : Addr} {H H1 H2 : Hp} (a : Off p H H1) (b : Off p H1 H2) : Off p H H2 := fun c o n h => b c o n (a c o n h)
theorem Off.of {p : Addr} {H H' : Hp} (a : Same H H') : Off p H H' := fun c o _ h => a c o h
theorem Off.put {p : Addr} {H : Hp} {o : HO} : Off p H (upd H p o) := fun c u n h => by rw [upd_ne n]; exact h
theorem same_new {H : Hp} {p : Addr} {o : HO} (h : H p = none) : Same H (upd H p o) := fun b x e => by
  rw [upd_ne (ne_of_none e h)]
  exact e
theorem Off.free {p q : Addr} {H H' : Hp} (a : Off p H H') (n : q ≠ p) (h : H' q = none) : H q = none := by
  cases e : H q with
  | none => rfl
  | some o => rw [a q o n e] at h; cases h
theorem Off.seq {K : PySem.W.Frag} {p a : Addr} {H H' : Hp} {xs : List V} (e : Off p H H') (n : a ≠ p) (h : SqL K H a xs) : SqL K H' a xs := by
  rcases h with (h | ⟨o, h⟩) | h
  · exact .inl (.inl (e _ _ n h))
  · exact .inl (.inr ⟨o, e _ _ n h⟩)
  · exact .inr h
theorem Off.seqT {K : PySem.W.Frag} {p a : Addr} {H H' : Hp} {xs : List V} (e : Off p H H') (n : a ≠ p) (h : SqT K H a xs) : SqT K H' a xs := by
  rcases h with (h | ⟨o, h⟩) | h
  · exact .inl (.inl (e _ _ n h))
  · exact .inl (.inr ⟨o, e _ _ n h⟩)
  · exact .inr h
/-- a new object at q, p changed besides -/
theorem Off.newp {p q : Addr} {H H' : Hp} {o : HO} (a : Off p H H') (h : H' q = none) : Off p H (upd H' q o) := a.trans (.of (same_new h))
/-- p, not there at first, may be anything -/
theorem Off.same {p : Addr} {H H' : Hp} (a : Off p H H') (h : H p = none) : Same H H' := fun b o e => a b o (ne_of_none e h) e

/-! ### lists of ints -/
theorem ints_at {ns : List Int} {i : Nat} {y : V} (h : (ns.map V.int)[i]? = some y) : ∃ n, ns[i]? = some n ∧ y = .int n := by
  rw [List.getElem?_map] at h
  cases e : ns[i]? with
  | none => rw [e] at h; cases h
  | some n => rw [e] at h; exact ⟨n, rfl, (Option.some.inj h).symm⟩
theorem take_more {α : Type} {l : List α} {i : Nat} {x : α} (h : l[i]? = some x) : l.take (i + 1) = l.take i ++ [x] := by
  rw [List.take_add_one, h]
  rfl
theorem dpAll_ints (K : PySem.W.Frag) (H : Hp) : ∀ ns : List Int, DpAll K H (ns.map V.int) (ns.map PyData.int)
  | [] => .nil
  | n :: ns => .cons (.int n) (dpAll_ints K H ns)
theorem shaped_ints (ns : List Int) : SeqAt.shaped (.list (ns.map PyData.int)) = true := by
  have h1 : ∀ ns : List Int, PyData.canLayAll0 (ns.map PyData.int) = true := by
    intro ns
    induction ns with
    | nil => rfl
    | cons n ns ih => rw [List.map_cons]; simp only [PyData.canLayAll0, PyData.canLay0, ih, Bool.and_self]
  have h2 : ∀ ns : List Int, PyData.depthAll (ns.map PyData.int) = 0 := by
    intro ns
    induction ns with
    | nil => rfl
    | cons n ns ih => rw [List.map_cons]; simp only [PyData.depthAll, PyData.depth, ih, Nat.max_self]
  unfold SeqAt.shaped
  simp only [PyData.canLay0, PyData.depth, h1, h2, Bool.true_and]
  decide
theorem eqv_ints_nil (ns : List Int) : PyData.eqv (.list (ns.map PyData.int)) (.list []) = ns.isEmpty := by
  cases ns with
  | nil => rfl
  | cons n ns => rfl

/-! ### slices -/
theorem cut_to (xs : List V) (n : Nat) : cutV xs none (some (n : Int)) = xs.take n := by
  unfold cutV
  rw [HT.sIx_none, HT.sIx_nat, Nat.sub_zero]
  show List.take (min n xs.length) xs = _
  rcases Nat.le_total n xs.length with h | h
  · rw [Nat.min_eq_left h]
  · rw [Nat.min_eq_right h, List.take_of_length_le (Nat.le_refl _), List.take_of_length_le h]
theorem cut_from (xs : List V) (n : Nat) : cutV xs (some (n : Int)) none = xs.drop n := by
  unfold cutV
  rw [HT.sIx_none, HT.sIx_nat]
  rcases Nat.le_total n xs.length with h | h
  · rw [Nat.min_eq_left h, List.take_of_length_le (by rw [List.length_drop]; omega)]
  · rw [Nat.min_eq_right h, List.drop_of_length_le (Nat.le_refl _), List.drop_of_length_le h, Nat.sub_self]
    all_goals rfl

/-! ### the hand -/
/-- a hand at p: its figures, its mixing number -/
def Hand (H : Hp) (p : Addr) : Prop := ∃ d m : Int, H p = some (.lst [.int d, .int m]) ∧ 0 ≤ m ∧ m < 2147483587
theorem Hand.off {p q : Addr} {H H' : Hp} (e : Off q H H') (n : p ≠ q) (h : Hand H p) : Hand H' p := by
  obtain ⟨d, m, h, r⟩ := h
  exact ⟨d, m, e p _ n h, r⟩
theorem Hand.same {p : Addr} {H H' : Hp} (e : Same H H') (h : Hand H p) : Hand H' p := by
  obtain ⟨d, m, h, r⟩ := h
  exact ⟨d, m, e p _ h, r⟩
theorem Hand.some {p : Addr} {H : Hp} (h : Hand H p) : ∃ o, H p = some o := let ⟨_, _, e, _⟩ := h; ⟨_, e⟩
theorem Hand.ne {p q : Addr} {H : Hp} (h : Hand H p) (hq : H q = none) : p ≠ q := let ⟨_, e⟩ := h.some; ne_of_none e hq

/-! ### promises of the laws' own helpers -/
def spHand : Sp := fun vs H Q _ => ∃ cell k : Int, vs = [.int cell, .int k] ∧ ∀ (p : Addr) (H' : Hp), H p = none → Same H H' → Hand H' p → Q (.ref p) H'
def spDraw : Sp := fun vs H Q _ => ∃ (p : Addr) (n : Int), vs = [.ref p, .int n] ∧ Hand H p ∧ 0 < n ∧ n < 1073741824 ∧ ∀ (g : Int) (H' : Hp), 0 ≤ g → g < n → Off p H H' → Hand H' p → Q (.int g) H'
def spCells (K : PySem.W.Frag) : Sp := fun vs H Q _ => ∃ (a : Addr) (ns : List Int) (n : Nat), vs = [.ref a, .int (n : Int)] ∧ SqL K H a (ns.map V.int) ∧ ns.length ≤ 63 ∧
  ∀ (H' : Hp) (p : Addr) (ts : List Addr) (cs : List Int), Same H H' → H p = none → H' p = some (.lst (ts.map V.ref)) → cs.length ≤ 64 → ts.length = cs.length →
    (∀ (j : Nat) (t : Addr), ts[j]? = some t → ∃ c : Int, cs[j]? = some c ∧ H' t = some (.tup [.int (j : Int), .int c])) → Q (.ref p) H'
def spWide : Sp := fun vs H Q _ => ∃ (p : Addr) (n : Int), vs = [.ref p, .int n] ∧ Hand H p ∧ 0 < n ∧ ∀ (g : Int) (H' : Hp), 0 ≤ g → g < n → Off p H H' → Hand H' p → Q (.int g) H'

/-! ### a one and noughts, read as a number -/
def noughts (n : Nat) : Str := ⟨(List.replicate n #[48]).foldl (· ++ ·) #[]⟩
def rNoughts : R2 := fun x y H Q => ∃ n : Nat, x = .str ("0" : Str) ∧ y = .int (n : Int) ∧ 1 ≤ n ∧ n ≤ 18 ∧ Q (.str (noughts n)) H
theorem nought_one : noughts 1 = ("0" : Str) := by decide +kernel
theorem nought_len : ("0" : Str).length = 1 := by decide +kernel
theorem nought_cps : ("0" : Str).cps = #[48] := by decide +kernel
theorem op_noughts {X : Cx} : OpR X (binaryOp .Mult) rNoughts := by
  intro pins s σ H x y v u Q I rx ry h
  obtain ⟨n, rfl, rfl, h1, h2, q⟩ := h
  obtain ⟨t, rfl⟩ := rx
  obtain ⟨t', rfl⟩ := ry
  refine PySem.P.mul_str ?_ ?_ ?_ ?_
  · rw [decide_eq_false (by omega), decide_eq_false (by omega)]
    rfl
  · intro _ _
    rw [nought_len]
    intro hh
    have h3 : (1 : Int) ≤ (2 ^ 63 - 1) / (n : Int) := by
      refine (Int.le_ediv_iff_mul_le (by omega)).mpr ?_
      omega
    have h4 : ((1 : Nat) : Int) = 1 := rfl
    omega
  · intro _ _
    rw [nought_len, Nat.one_mul, Int.toNat_natCast]
    show decide _ = false
    exact decide_eq_false (by rw [sizeLine_eq]; omega)
  · rw [if_neg (show ¬ ((n : Int) < 1) by omega), nought_len, nought_cps, Int.toNat_natCast]
    by_cases e : n = 1
    · subst e
      rw [if_pos (show (((1 : Nat) : Int) == 1 || (1 : Nat) == 0) = true from rfl)]
      rw [nought_one] at q
      exact ⟨.str _, H, I, ⟨t, rfl⟩, q⟩
    · have ne : (((n : Int) == 1 || (1 : Nat) == 0)) = false := by
        have : ((n : Int) == 1) = false := beq_eq_false_iff_ne.mpr (by omega)
        rw [this]
        rfl
      rw [if_neg (by rw [ne]; exact Bool.false_ne_true)]
      refine ⟨?_, .str _, H, I.tok _, ⟨_, rfl⟩, q⟩
      have : ∀ n : Fin 19, (noughts n.val).length ≤ 18 := by decide +kernel
      have h := this ⟨n, by omega⟩
      exact Nat.le_trans h (by decide)
theorem power_text : ∀ n : Fin 19, 1 ≤ n.val → PySem.intText? (("1" : Str) ++ noughts n.val) = some ((10 : Int) ^ n.val) ∧ (("1" : Str) ++ noughts n.val).length ≤ 19 ∧ (noughts n.val).length ≤ 18 := by decide +kernel

/-! ### a list of pairs of numbers -/
/-- the pairs l stand in tuples at ts -/
def PairsAt (H : Hp) : List Addr → List (Nat × Nat) → Prop
  | [], [] => True
  | t :: ts, x :: l => H t = some (.tup [.int (x.1 : Int), .int (x.2 : Int)]) ∧ PairsAt H ts l
  | _, _ => False
theorem PairsAt.len {H : Hp} : ∀ {ts : List Addr} {l : List (Nat × Nat)}, PairsAt H ts l → ts.length = l.length
  | [], [], _ => rfl
  | _ :: _, _ :: _, h => by simp [PairsAt.len h.2]
theorem PairsAt.keep {H H' : Hp} : ∀ {ts : List Addr} {l : List (Nat × Nat)}, PairsAt H ts l → (∀ b xs, H b = some (.tup xs) → H' b = some (.tup xs)) → PairsAt H' ts l
  | [], [], _, _ => trivial
  | _ :: _, _ :: _, h, k => ⟨k _ _ h.1, PairsAt.keep h.2 k⟩
theorem PairsAt.app {H : Hp} {us : List Addr} {r : List (Nat × Nat)} (k : PairsAt H us r) : ∀ {ts : List Addr} {l : List (Nat × Nat)}, PairsAt H ts l → PairsAt H (ts ++ us) (l ++ r)
  | [], [], _ => k
  | _ :: _, _ :: _, h => ⟨h.1, PairsAt.app k h.2⟩
theorem PairsAt.get {H : Hp} : ∀ {ts : List Addr} {l : List (Nat × Nat)} {j : Nat} {x : Nat × Nat}, PairsAt H ts l → l[j]? = some x → ∃ t, ts[j]? = some t ∧ H t = some (.tup [.int (x.1 : Int), .int (x.2 : Int)])
  | [], _ :: _, _, _, h, _ => False.elim h
  | [], [], _, _, _, e => by simp at e
  | t :: ts, y :: l, 0, x, h, e => by
    have e' : y = x := by simpa using e
    subst e'
    exact ⟨t, rfl, h.1⟩
  | t :: ts, y :: l, j + 1, x, h, e => by
    obtain ⟨u, e1, e2⟩ := PairsAt.get (j := j) h.2 (by simpa using e)
    exact ⟨u, by simpa using e1, e2⟩
theorem PairsAt.of {H : Hp} : ∀ {ts : List Addr} {l : List (Nat × Nat)} {j : Nat} {t : Addr}, PairsAt H ts l → ts[j]? = some t → ∃ x, l[j]? = some x ∧ H t = some (.tup [.int (x.1 : Int), .int (x.2 : Int)])
  | t :: ts, y :: l, 0, x, h, e => by
    have e' : t = x := by simpa using e
    subst e'
    exact ⟨y, rfl, h.1⟩
  | t :: ts, y :: l, j + 1, x, h, e => by
    obtain ⟨u, e1, e2⟩ := PairsAt.of (j := j) h.2 (by simpa using e)
    exact ⟨u, by simpa using e1, e2⟩
/-- a list of pairs at p -/
def Pairs2 (H : Hp) (p : Addr) (l : List (Nat × Nat)) : Prop := ∃ ts : List Addr, H p = some (.lst (ts.map V.ref)) ∧ PairsAt H ts l
theorem Pairs2.same {H H' : Hp} {p : Addr} {l : List (Nat × Nat)} (h : Pairs2 H p l) (e : Same H H') : Pairs2 H' p l :=
  let ⟨ts, a, b⟩ := h; ⟨ts, e _ _ a, b.keep fun c xs q => e c _ q⟩
theorem Pairs2.off {H H' : Hp} {p q : Addr} {l : List (Nat × Nat)} (h : Pairs2 H p l) (e : Off q H H') (n : p ≠ q) (hq : ∀ xs, H q ≠ some (.tup xs)) : Pairs2 H' p l :=
  let ⟨ts, a, b⟩ := h; ⟨ts, e _ _ n a, b.keep fun c xs z => e c _ (fun y => hq xs (y ▸ z)) z⟩
theorem PairsAt.show {K : PySem.W.Frag} {H : Hp} : ∀ {ts : List Addr} {l : List (Nat × Nat)}, PairsAt H ts l → (∀ x ∈ l, x.1 < 2 ^ 30 ∧ x.2 < 2 ^ 30) →
    ∃ m, ShAll K H (ts.map V.ref) (l.map fun x => tupleText [(toString (x.1 : Int) : Str), (toString (x.2 : Int) : Str)]) m ∧ m ≤ 1
  | [], [], _, _ => ⟨0, .nil, Nat.zero_le _⟩
  | t :: ts, x :: l, h, hs => by
    obtain ⟨m, q, hm⟩ := PairsAt.show (K := K) h.2 fun y hy => hs y (List.mem_cons_of_mem _ hy)
    have f : ∀ n : Nat, n < 2 ^ 30 → ((n : Nat) : Int).natAbs < figs := fun n hn => figs_of (k := 30) (by rw [Int.natAbs_natCast]; exact hn) (by decide)
    obtain ⟨h1, h2⟩ := hs x List.mem_cons_self
    exact ⟨_, .cons (.tup (SqT.of h.1) (.cons (.int (f _ h1)) (.cons (.int (f _ h2)) .nil))) q, by omega⟩
theorem pairs_text (l : List (Nat × Nat)) (hs : ∀ x ∈ l, x.1 < 2 ^ 30 ∧ x.2 < 2 ^ 30) (hl : l.length ≤ 1000) : (listText (l.map fun x => tupleText [(toString (x.1 : Int) : Str), (toString (x.2 : Int) : Str)])).length ≤ sizeLine := by
  have h1 : ∀ l : List (Nat × Nat), (∀ x ∈ l, x.1 < 2 ^ 30 ∧ x.2 < 2 ^ 30) → ((l.map fun x => tupleText [(toString (x.1 : Int) : Str), (toString (x.2 : Int) : Str)]).map (·.length)).sum ≤ 100 * l.length := by
    intro l
    induction l with
    | nil => intro _; exact Nat.le_refl _
    | cons x l ih =>
      intro hs
      have i := ih fun y hy => hs y (List.mem_cons_of_mem _ hy)
      obtain ⟨g1, g2⟩ := hs x List.mem_cons_self
      have f : ∀ n : Nat, n < 2 ^ 30 → (toString ((n : Nat) : Int)).length ≤ 31 := fun n hn => int_text_length_le (k := 30) (by decide) (by
        rw [Int.natAbs_natCast]
        by_cases h0 : n = 0
        · subst h0; decide
        · exact (Nat.log2_lt h0).mpr hn)
      have t1 := tupleText_len_le [(toString (x.1 : Int) : Str), (toString (x.2 : Int) : Str)]
      have t2 : (([(toString (x.1 : Int) : Str), (toString (x.2 : Int) : Str)] : List Str).map (·.length)).sum = (toString (x.1 : Int)).length + ((toString (x.2 : Int)).length + 0) := by
        simp only [List.map_cons, List.map_nil, List.sum_cons, List.sum_nil, PySem.ofString_length]
      have f1 := f _ g1
      have f2 := f _ g2
      rw [List.map_cons, List.map_cons, List.sum_cons, List.length_cons]
      rw [t2, List.length_cons, List.length_cons, List.length_nil] at t1
      omega
  have h2 := listText_len_le (l.map fun x => tupleText [(toString (x.1 : Int) : Str), (toString (x.2 : Int) : Str)])
  have h3 := h1 l hs
  rw [List.length_map] at h2
  have h4 : sizeLine = 16777216 := rfl
  omega

/-! ### the built-in names -/
theorem bt_int : bootBuiltins "int" = some (.type "int") := by decide +kernel
theorem bt_bool : bootBuiltins "bool" = some (.type "bool") := by decide +kernel
theorem bt_list : bootBuiltins "list" = some (.type "list") := by decide +kernel
theorem bt_tuple : bootBuiltins "tuple" = some (.type "tuple") := by decide +kernel
theorem bt_str : bootBuiltins "str" = some (.type "str") := by decide +kernel
theorem bt_isi : bootBuiltins "isinstance" = some (.builtin "isinstance") := by decide +kernel
theorem bt_repr : bootBuiltins "repr" = some (.builtin "repr") := by decide +kernel
theorem bt_len : bootBuiltins "len" = some (.builtin "len") := by decide +kernel
theorem bt_min : bootBuiltins "min" = some (.builtin "min") := by decide +kernel
theorem bt_max : bootBuiltins "max" = some (.builtin "max") := by decide +kernel
theorem bt_sum : bootBuiltins "sum" = some (.builtin "sum") := by decide +kernel
theorem bt_sorted : bootBuiltins "sorted" = some (.builtin "sorted") := by decide +kernel
/-! ### types told apart -/
section
variable {K : PySem.W.Frag} {H : Hp}
theorem ki_ii : PySem.W.kitOne K (.type "int") (.type "int") = some true := kit_ty (by decide +kernel)
theorem ki_ib : PySem.W.kitOne K (.type "int") (.type "bool") = some false := kit_ty (by decide +kernel)
theorem ki_bi : PySem.W.kitOne K (.type "bool") (.type "int") = some true := kit_ty (by decide +kernel)
theorem ki_bb : PySem.W.kitOne K (.type "bool") (.type "bool") = some true := kit_ty (by decide +kernel)
theorem ki_ll : PySem.W.kitOne K (.type "list") (.type "list") = some true := kit_ty (by decide +kernel)
theorem ki_tt : PySem.W.kitOne K (.type "tuple") (.type "tuple") = some true := kit_ty (by decide +kernel)
end

/-! ### rules with the written part named (within a comprehension's block) -/
section
variable {X : Cx} (K : PySem.W.Frag)
theorem isiK (h : X.K = K := by rfl) : CallR X (.builtin "isinstance") (rIsi K) := by subst h; exact call_isi
theorem ixlK (h : X.K = K := by rfl) : IxR X (rIxL K) := by subst h; exact ix_list
theorem ixtK (h : X.K = K := by rfl) : IxR X (rIxT K) := by subst h; exact ix_tup
theorem notInK (h : X.K = K := by rfl) : OpR X (compareOp .NotIn) (rIn K true) := by subst h; exact op_notIn_seq
theorem inK (h : X.K = K := by rfl) : OpR X (compareOp .In) (rIn K false) := by subst h; exact op_in_seq
theorem lenK (h : X.K = K := by rfl) : CallR X (.builtin "len") (fun xs H Q => ∃ p ys, xs = [.ref p] ∧ (SqL K H p ys ∨ SqT K H p ys) ∧ Q (.int (ys.length : Int)) H) := by subst h; exact call_len_seq
end

/-! ### items of written lists -/
theorem at_ints {ns : List Int} {g : Int} (h0 : 0 ≤ g) (h1 : g < ns.length) : ∃ x ∈ ns, atI (ns.map V.int) g = some (.int x) := by
  obtain ⟨k, rfl⟩ : ∃ k : Nat, g = (k : Int) := ⟨g.toNat, by omega⟩
  have hk : k < ns.length := by omega
  refine ⟨ns[k], List.getElem_mem hk, atI_nat ?_⟩
  rw [List.getElem?_map, List.getElem?_eq_getElem hk]
  rfl
theorem at_two {a b : V} (c : Bool) : atI [a, b] (if c = true then 1 else 0) = some (if c = true then b else a) := by
  cases c
  · exact atI_nat (j := 0) rfl
  · exact atI_nat (j := 1) rfl

theorem at_two_int {a b : Int} (c : Bool) : atI [V.int a, V.int b] (if c = true then 1 else 0) = some (.int (if c = true then b else a)) := by
  cases c
  · exact atI_nat (j := 0) rfl
  · exact atI_nat (j := 1) rfl
theorem cut_to_int (xs : List V) {j : Int} (h : 0 ≤ j) : cutV xs none (some j) = xs.take j.toNat := by
  have e := cut_to xs j.toNat
  rw [Int.toNat_of_nonneg h] at e
  exact e
theorem dpAll_pairs (K : PySem.W.Frag) {H : Hp} : ∀ {ts : List Addr} {l : List (Nat × Nat)}, PairsAt H ts l → DpAll K H (ts.map V.ref) (l.map fun x => PyData.tuple [.int (x.1 : Int), .int (x.2 : Int)])
  | [], [], _ => .nil
  | _ :: _, _ :: _, h => .cons (.tup (.of h.1) (.cons (.int _) (.cons (.int _) .nil))) (dpAll_pairs K h.2)
/-- the script, its cells -/
def CellsAt (H : Hp) (p : Addr) (ts : List Addr) (cs : List Int) : Prop := H p = some (.lst (ts.map V.ref)) ∧ ts.length = cs.length ∧ ∀ (j : Nat) (t : Addr), ts[j]? = some t → ∃ c : Int, cs[j]? = some c ∧ H t = some (.tup [.int (j : Int), .int c])
/-- what a law promises -/
def spLaw (K : PySem.W.Frag) : Sp := fun vs H Q _ => ∃ (a : Addr) (ns : List Int), vs = [.ref a] ∧ SqL K H a (ns.map V.int) ∧ ns.length ≤ 63 ∧ ∀ H', Q (.bl true) H'

section
variable {X : Cx} (K : PySem.W.Frag)
theorem sllK (h : X.K = K := by rfl) : SlR X (rSlL K) := by subst h; exact sl_list
theorem listK (h : X.K = K := by rfl) : CallR X (.type "list") (fun xs H Q => ∃ p ys, xs = [.ref p] ∧ (SqL K H p ys ∨ SqT K H p ys) ∧ ∀ l, H l = none → Q (.ref l) (upd H l (.lst ys))) := by subst h; exact call_list_of
end
end SpH

/-! Trial division, as a relation: dividing by each number from p on, or from 2 by 3, 5, 7 ..; both find the same. -/
namespace MP
/-- what is found of n from p on -/
inductive PF : Nat → Nat → List (Nat × Nat) → Prop
  | done {p n : Nat} : n < p * p → PF p n (if 1 < n then [(n, 1)] else [])
  | step {p n t m : Nat} {l : List (Nat × Nat)} : p * p ≤ n → n = p ^ t * m → ¬ p ∣ m → PF (p + 1) m l → PF p n ((if 0 < t then [(p, t)] else []) ++ l)
/-- the same by steps of two behind 2 -/
inductive LF : Nat → Nat → List (Nat × Nat) → Prop
  | done {p n : Nat} : n < p * p → LF p n (if 1 < n then [(n, 1)] else [])
  | step {p n t m : Nat} {l : List (Nat × Nat)} : p * p ≤ n → n = p ^ t * m → ¬ p ∣ m → LF (p + 1 + (if 2 < p then 1 else 0)) m l → LF p n ((if 0 < t then [(p, t)] else []) ++ l)

theorem split_one {p : Nat} (hp : 2 ≤ p) : ∀ {t t' m m' : Nat}, p ^ t * m = p ^ t' * m' → ¬ p ∣ m → ¬ p ∣ m' → t = t' ∧ m = m'
  | 0, 0, m, m', e, _, _ => by
    rw [Nat.pow_zero, Nat.one_mul, Nat.one_mul] at e
    exact ⟨rfl, e⟩
  | 0, t' + 1, m, m', e, h, _ => by
    rw [Nat.pow_zero, Nat.one_mul, Nat.pow_succ] at e
    exact absurd (⟨p ^ t' * m', by rw [e, Nat.mul_comm (p ^ t') p, Nat.mul_assoc]⟩ : p ∣ m) h
  | t + 1, 0, m, m', e, _, h => by
    rw [Nat.pow_zero, Nat.one_mul, Nat.pow_succ] at e
    exact absurd (⟨p ^ t * m, by rw [← e, Nat.mul_comm (p ^ t) p, Nat.mul_assoc]⟩ : p ∣ m') h
  | t + 1, t' + 1, m, m', e, h, h' => by
    rw [Nat.pow_succ, Nat.pow_succ, Nat.mul_comm (p ^ t) p, Nat.mul_comm (p ^ t') p, Nat.mul_assoc, Nat.mul_assoc] at e
    obtain ⟨e1, e2⟩ := split_one hp (Nat.eq_of_mul_eq_mul_left (by omega) e) h h'
    exact ⟨by rw [e1], e2⟩

theorem PF.one {p n : Nat} {l : List (Nat × Nat)} (h : PF p n l) : ∀ {l' : List (Nat × Nat)}, 2 ≤ p → PF p n l' → l = l' := by
  induction h with
  | done h1 =>
    intro l' hp h'
    cases h' with
    | done _ => rfl
    | step h2 _ _ _ => omega
  | step h1 h2 h3 _ ih =>
    intro l' hp h'
    cases h' with
    | done h4 => omega
    | step g1 g2 g3 g4 =>
      obtain ⟨e1, e2⟩ := split_one hp (h2.symm.trans g2) h3 g3
      subst e1 e2
      rw [ih (by omega) g4]

theorem PF.some {p n : Nat} {l : List (Nat × Nat)} (h : PF p n l) : 1 < n → l ≠ [] := by
  induction h with
  | done h1 =>
    intro hn
    rw [if_pos hn]
    exact List.cons_ne_nil _ _
  | @step p n t m l h1 h2 h3 _ ih =>
    intro hn
    by_cases ht : 0 < t
    · rw [if_pos ht]
      exact List.cons_ne_nil _ _
    · have e : t = 0 := by omega
      subst e
      rw [Nat.pow_zero, Nat.one_mul] at h2
      rw [if_neg ht]
      exact ih (by omega)
theorem PF.of_one {l : List (Nat × Nat)} (h : PF 2 1 l) : l = [] := by
  cases h with
  | done _ => rfl
  | step h1 _ _ _ => omega

theorem PF.small {p n : Nat} {l : List (Nat × Nat)} (h : PF p n l) : 2 ≤ p → 1 ≤ n → (∀ x ∈ l, 1 ≤ x.1 ∧ x.1 ≤ n ∧ x.2 ≤ n) ∧ 2 ^ l.length ≤ n := by
  induction h with
  | @done p n h1 =>
    intro _ hn
    by_cases h : 1 < n
    · rw [if_pos h]
      refine ⟨fun x hx => ?_, by show 2 ^ 1 ≤ n; omega⟩
      rw [List.mem_singleton.mp hx]
      exact ⟨hn, Nat.le_refl _, hn⟩
    · rw [if_neg h]
      exact ⟨fun x hx => (by cases hx), hn⟩
  | @step p n t m l h1 h2 h3 _ ih =>
    intro hp hn
    have hm : 1 ≤ m := by
      rcases Nat.eq_zero_or_pos m with e | e
      · subst e
        exact absurd (Nat.dvd_zero p) h3
      · exact e
    obtain ⟨i1, i2⟩ := ih (by omega) hm
    have hpt : 0 < p ^ t := Nat.pow_pos (by omega)
    have hmn : m ≤ n := by
      rw [h2]
      exact Nat.le_mul_of_pos_left _ hpt
    have htn : p ^ t ≤ n := by
      rw [h2]
      exact Nat.le_mul_of_pos_right _ hm
    have ht : t < p ^ t := Nat.lt_pow_self (by omega)
    have hpn : p ≤ n := Nat.le_trans (Nat.le_mul_of_pos_left _ (by omega)) h1
    refine ⟨fun x hx => ?_, ?_⟩
    · rcases List.mem_append.mp hx with hx | hx
      · by_cases h0 : 0 < t
        · rw [if_pos h0] at hx
          rw [List.mem_singleton.mp hx]
          exact ⟨by show 1 ≤ p; omega, hpn, by show t ≤ n; omega⟩
        · rw [if_neg h0] at hx
          cases hx
      · obtain ⟨a, b, c⟩ := i1 x hx
        exact ⟨a, by omega, by omega⟩
    · by_cases h0 : 0 < t
      · rw [if_pos h0, List.length_append, List.length_singleton, Nat.pow_add]
        have h5 : 2 ≤ p ^ t := by
          obtain ⟨s, rfl⟩ : ∃ s, t = s + 1 := ⟨t - 1, by omega⟩
          have : 0 < p ^ s := Nat.pow_pos (by omega)
          rw [Nat.pow_succ]
          exact Nat.le_trans hp (Nat.le_mul_of_pos_left _ this)
        rw [h2]
        exact Nat.mul_le_mul h5 i2
      · rw [if_neg h0, List.nil_append]
        omega

theorem LF.pf {p n : Nat} {l : List (Nat × Nat)} (h : LF p n l) : (p = 2 ∨ (2 < p ∧ p % 2 = 1 ∧ n % 2 = 1)) → PF p n l := by
  induction h with
  | done h1 => intro _; exact .done h1
  | @step p n t m l h1 h2 h3 h4 ih =>
    intro hp
    refine .step h1 h2 h3 ?_
    have hm0 : 1 ≤ m := by
      rcases Nat.eq_zero_or_pos m with e | e
      · subst e
        exact absurd (Nat.dvd_zero p) h3
      · exact e
    rcases hp with e | ⟨hp, ho, hn⟩
    · subst e
      rw [if_neg (by omega)] at ih
      refine ih (.inr ⟨by omega, by omega, ?_⟩)
      rcases Nat.mod_two_eq_zero_or_one m with e | e
      · exact absurd (Nat.dvd_of_mod_eq_zero e) h3
      · exact e
    · rw [if_pos hp] at ih
      have hm : m % 2 = 1 := by
        rcases Nat.mod_two_eq_zero_or_one m with e | e
        · rw [h2, Nat.mul_mod, e, Nat.mul_zero] at hn
          omega
        · exact e
      have h5 : PF (p + 1 + 1) m l := ih (.inr ⟨by omega, by omega, hm⟩)
      by_cases hc : (p + 1) * (p + 1) ≤ m
      · refine PF.step (p := p + 1) (n := m) (t := 0) (m := m) (l := l) hc (by rw [Nat.pow_zero, Nat.one_mul]) ?_ h5
        rintro ⟨k, hk⟩
        rw [hk, Nat.mul_mod, show (p + 1) % 2 = 0 by omega, Nat.zero_mul] at hm
        omega
      · have hlt : m < (p + 1) * (p + 1) := by omega
        have hlt2 : m < (p + 1 + 1) * (p + 1 + 1) := Nat.lt_of_lt_of_le hlt (Nat.mul_le_mul (by omega) (by omega))
        have e := PF.one h5 (by omega) (.done hlt2)
        rw [e]
        exact .done hlt
theorem LF.eq {n : Nat} {l l' : List (Nat × Nat)} (h : PF 2 n l) (h' : LF 2 n l') : l = l' := PF.one h (by omega) (h'.pf (.inl rfl))

/-- the last prime told, 1 of none -/
def lastP (l : List (Nat × Nat)) : Nat := match l.getLast? with
  | .some x => x.1
  | .none => 1
theorem pf12 : PF 2 12 [(2, 2), (3, 1)] :=
  .step (t := 2) (m := 3) (l := [(3, 1)]) (by decide) (by decide) (by decide) (.done (p := 3) (n := 3) (by decide))
theorem pf98 : PF 2 98 [(2, 1), (7, 2)] :=
  .step (t := 1) (m := 49) (l := [(7, 2)]) (by decide) (by decide) (by decide) (.step (p := 3) (t := 0) (m := 49) (l := [(7, 2)]) (by decide) (by decide) (by decide) (.step (p := 4) (t := 0) (m := 49) (l := [(7, 2)]) (by decide) (by decide) (by decide)
    (.step (p := 5) (t := 0) (m := 49) (l := [(7, 2)]) (by decide) (by decide) (by decide) (.step (p := 6) (t := 0) (m := 49) (l := [(7, 2)]) (by decide) (by decide) (by decide) (.step (p := 7) (t := 2) (m := 1) (l := []) (by decide) (by decide) (by decide) (.done (p := 8) (n := 1) (by decide)))))))
end MP

/-! ### the text by places -/
namespace Sp
open PySem PySem.Spec PyProof.Rows L2 SpG SpR SpEn SpH
def topS (i : Nat) : Stmt := PySem.Challenge.pw_smallparts_k01_prime_parts.main.body.getD i (.Pass ⟨0, 0, 0, 0⟩)
end Sp

/-! ### the laws' hand -/
namespace Sp
open PySem PySem.Spec PyProof.Rows L2 SpG SpR SpEn SpH
abbrev sHand : Stmt := topS 4
abbrev sDraw : Stmt := topS 5
theorem scHand : FnScope ["cell", "k", "digits"] ["cell", "k"] (defScope sHand) := ⟨rfl, rfl, rfl, by decide +kernel, rfl, by decide +kernel, by decide +kernel⟩
theorem scDraw : FnScope ["hand", "limit", "got"] ["hand", "limit"] (defScope sDraw) := ⟨rfl, rfl, rfl, by decide +kernel, rfl, by decide +kernel, by decide +kernel⟩
section
variable {P : Program} {w : World} {K : PySem.W.Frag} {mg : Str → Option Value} {base : Heap}
theorem ok_hand {f : Addr} {fd : FuncData} {k : Nat} (F : Fun K "_law_hand" "_law_hand" sHand f fd) : FnOk P w K mg base CX0 (k + 1) f fd ["cell", "k"] spHand := by
  refine F.ok scHand (fun vs H Q E h => ?_) (fun cdv A outer s H vs Q E hr h => ?_)
  · obtain ⟨c, k, rfl, _⟩ := h
    rfl
  · obtain ⟨c, k, rfl, q⟩ := h
    refine ⟨_, pss_cons (ps_set (i := 2) scHand.nd rfl (.inl rfl) pe_int)
      (pss_cons (ps_if (pt_cmpR op_ge (pv 0) (pe_op op_pow pe_int pe_int) (nomark _)) (pss_one (ps_set (i := 2) scHand.nd rfl (.inl rfl) (pv 0))) pss_nil)
      (pss_one (ps_ret (pe_lst (pa_cons (pv 2) (pa_cons (pe_op op_mod (pe_op op_mul (pe_op op_add (pe_op op_add (pe_op op_mod (pv 0) pe_int) (pe_op op_mul pe_int (pv 1))) pe_int) pe_int) pe_int) pa_nil)))))), ?_⟩
    have fin : ∀ (d m : Int) (p : Addr), H p = none → 0 ≤ m → m < 2147483587 → Q (.ref p) (upd H p (.lst [.int d, .int m])) := fun d m p hp h0 h1 => q p _ hp (same_new hp) ⟨d, m, upd_same, h0, h1⟩
    refine ⟨.int c, rfl, 10, 18, rfl, rfl, ⟨by decide, by decide, by decide⟩, c, _, rfl, rfl, _, rfl, ite2 (fun e => ?_) (fun e => ?_)⟩
    · refine ⟨.int c, rfl, ?_⟩
      refine ⟨.int c, rfl, .int c, rfl, c, 2147483587, rfl, rfl, (show (0 : Int) < 2147483587 by decide), .int k, rfl, 7919, k, rfl, rfl, .inl ⟨by decide, by decide⟩, _, _, rfl, rfl, _, 1, rfl, rfl, _, 48271, rfl, rfl, .inr ⟨by decide, by decide⟩, _, 2147483587, rfl, rfl, (show (0 : Int) < 2147483587 by decide), by show 2 ≤ sizeLine; decide, fun p hp => ?_⟩
      exact fin c _ p hp (Int.emod_nonneg _ (by decide)) (Int.emod_lt_of_pos _ (by decide))
    · refine ⟨.int 0, rfl, .int c, rfl, c, 2147483587, rfl, rfl, (show (0 : Int) < 2147483587 by decide), .int k, rfl, 7919, k, rfl, rfl, .inl ⟨by decide, by decide⟩, _, _, rfl, rfl, _, 1, rfl, rfl, _, 48271, rfl, rfl, .inr ⟨by decide, by decide⟩, _, 2147483587, rfl, rfl, (show (0 : Int) < 2147483587 by decide), by show 2 ≤ sizeLine; decide, fun p hp => ?_⟩
      exact fin 0 _ p hp (Int.emod_nonneg _ (by decide)) (Int.emod_lt_of_pos _ (by decide))
theorem ok_draw {f : Addr} {fd : FuncData} {k : Nat} (F : Fun K "_law_draw" "_law_draw" sDraw f fd) : FnOk P w K mg base CX0 (k + 1) f fd ["hand", "limit"] spDraw := by
  refine F.ok scDraw (fun vs H Q E h => ?_) (fun cdv A outer s H vs Q E hr h => ?_)
  · obtain ⟨p, n, rfl, _⟩ := h
    rfl
  · obtain ⟨p, n, rfl, ⟨d, m, hp, h0, h1⟩, n0, n1, q⟩ := h
    refine ⟨_, pss_cons (ps_if (pt_cmpR op_gt (pe_ix ix_list (pv 0) pe_int (fun _ _ => rfl)) pe_int (nomark _))
        (pss_cons (ps_set (i := 2) scDraw.nd rfl (.inl rfl) (pe_op op_mod (pe_ix ix_list (pv 0) pe_int (fun _ _ => rfl)) (pv 1)))
        (pss_cons (ps_asg (pe_op op_fdiv (pe_ix ix_list (pv 0) pe_int (fun _ _ => rfl)) (pv 1)) (pg_sub (pv 0) pe_int set_list))
        (pss_one (ps_ret (pv 2))))) pss_nil)
      (pss_cons (ps_asg (pe_op op_mod (pe_op op_add (pe_op op_add (pe_op op_mul (pe_ix ix_list (pv 0) pe_int (fun _ _ => rfl)) (pe_ix ix_list (pv 0) pe_int (fun _ _ => rfl))) (pe_op op_mul pe_int (pe_ix ix_list (pv 0) pe_int (fun _ _ => rfl)))) pe_int) pe_int) (pg_sub (pv 0) pe_int set_list))
      (pss_one (ps_ret (pe_op op_mod (pe_op op_fdiv (pe_ix ix_list (pv 0) pe_int (fun _ _ => rfl)) pe_int) (pv 1))))), ?_⟩
    have hl : SqL K H p [.int d, .int m] := .of hp
    refine ⟨.ref p, rfl, p, _, 0, .int d, rfl, rfl, hl, atI_nat (j := 0) rfl, d, 0, rfl, rfl, _, rfl, ite2 (fun e => ?_) (fun e => ?_)⟩
    · refine ⟨.ref p, rfl, p, _, 0, .int d, rfl, rfl, hl, atI_nat (j := 0) rfl, .int n, rfl, d, n, rfl, rfl, n0, ?_⟩
      refine ⟨.ref p, rfl, p, _, 0, .int d, rfl, rfl, hl, atI_nat (j := 0) rfl, .int n, rfl, d, n, rfl, rfl, ⟨n0, n1⟩, .ref p, rfl, p, _, 0, 0, rfl, rfl, hp, rfl, .int (d % n), rfl, ?_⟩
      exact q _ _ (Int.emod_nonneg _ (by omega)) (Int.emod_lt_of_pos _ n0) .put ⟨_, m, upd_same, h0, h1⟩
    · have hm : SqL K H p [.int d, .int m] := hl
      have e1 : atI [V.int d, V.int m] 1 = some (.int m) := atI_nat (j := 1) rfl
      refine ⟨.ref p, rfl, p, _, 1, .int m, rfl, rfl, hl, e1, .ref p, rfl, p, _, 1, .int m, rfl, rfl, hl, e1, m, m, rfl, rfl, .inl ⟨by omega, by omega⟩,
        .ref p, rfl, p, _, 1, .int m, rfl, rfl, hl, e1, 69621, m, rfl, rfl, .inl ⟨by decide, by decide⟩, _, _, rfl, rfl, _, 12345, rfl, rfl, _, 2147483587, rfl, rfl, (show (0 : Int) < 2147483587 by decide), .ref p, rfl, p, _, 1, 1, rfl, rfl, hp, rfl, ?_⟩
      refine ⟨.ref p, rfl, p, _, 1, _, rfl, rfl, .of upd_same, atI_nat (j := 1) rfl, _, 8, rfl, rfl, ⟨by decide, by decide⟩, .int n, rfl, _, n, rfl, rfl, n0, ?_⟩
      exact q _ _ (Int.emod_nonneg _ (by omega)) (Int.emod_lt_of_pos _ n0) .put ⟨d, _, upd_same, Int.emod_nonneg _ (by decide), Int.emod_lt_of_pos _ (by decide)⟩
end
end Sp

/-! ### the laws' cells -/
namespace Sp
open PySem PySem.Spec PyProof.Rows L2 SpG SpR SpEn SpH
abbrev sCells : Stmt := topS 6
theorem scCells : FnScope ["script", "many"] ["script", "many"] (defScope sCells) := ⟨rfl, rfl, rfl, by decide +kernel, rfl, by decide +kernel, by decide +kernel⟩
theorem boot_int : bootBuiltins "int" = some (.type "int") := by decide +kernel
section
variable {P : Program} {w : World} {K : PySem.W.Frag} {mg : Str → Option Value} {base : Heap}
theorem ok_cells {f : Addr} {fd : FuncData} {k : Nat} (F : Fun K "_law_cells" "_law_cells" sCells f fd) (mi : mg "int" = none) (ml : mg "list" = none) (me : mg "enumerate" = none) : FnOk P w K mg base CX0 (k + 1) f fd ["script", "many"] (spCells K) := by
  refine F.ok scCells (fun vs H Q E h => ?_) (fun cdv A outer s H vs Q E hr h => ?_)
  · obtain ⟨a, ns, n, rfl, _⟩ := h
    rfl
  · obtain ⟨a, ns, n, rfl, hS, hl, q⟩ := h
    refine ⟨_, pss_one (ps_ret (pe_listEnum rfl (pe_op op_cat (pe_slice sl_list (pv 0) po_none (po_some (pv 1)))
      (pe_op op_rep (pe_lst (pa_cons pe_int pa_nil)) (pe_callTy call_int1 (by rfl) mi boot_int (pa_cons (pe_cmpR (op_eqD hr.units) (pv 0) (pe_lst pa_nil) (nomark _)) pa_nil)))) (by rfl) ml (by rfl) me)), ?_⟩
    refine ⟨.ref a, rfl, .int (n : Int), rfl, n, rfl, a, _, rfl, hS, fun p hp => ?_⟩
    rw [cut_to, ← List.map_take]
    have s1 : Same H (upd H p (.lst ((ns.take n).map V.int))) := same_new hp
    refine ⟨by show 1 ≤ sizeLine; decide, fun z hz => ?_⟩
    have s2 := same_new (o := .lst [V.int 0]) hz
    refine ⟨.ref a, rfl, Nat.zero_le _, fun y hy => ?_⟩
    have s3 := same_new (o := .lst []) hy
    refine ⟨_, _, .lst ((s1.trans (s2.trans s3)).seq hS) (dpAll_ints _ _ _), .lst (.of upd_same) .nil, shaped_ints ns, rfl, ?_⟩
    rw [eqv_ints_nil]
    refine .inr ⟨_, rfl, ?_⟩
    refine ⟨z, _, _, rfl, rfl, s3 _ _ upd_same, ?_, ?_, ?_, fun x hx => ?_⟩
    · split <;> decide
    · split <;> decide
    · split <;> decide
    have s4 := same_new (o := .lst (List.replicate (if ns.isEmpty = true then (1 : Int) else 0).toNat [V.int 0]).flatten) hx
    obtain ⟨zs, ez, lz⟩ : ∃ zs : List Int, (List.replicate (if ns.isEmpty = true then (1 : Int) else 0).toNat [V.int 0]).flatten = zs.map V.int ∧ zs.length ≤ 1 := by
      split
      · exact ⟨[0], rfl, Nat.le_refl _⟩
      · exact ⟨[], rfl, Nat.zero_le _⟩
    rw [ez] at s4 ⊢
    have hlen : (ns.take n ++ zs).length ≤ 64 := by
      rw [List.length_append, List.length_take]
      omega
    refine ⟨p, x, _, _, rfl, rfl, (s2.trans (s3.trans s4)) _ _ upd_same, upd_same, ?_, fun c hc => ?_⟩
    · rw [← List.length_append, ← List.map_append, List.length_map]
      exact Nat.le_trans hlen (by decide)
    rw [← List.map_append]
    have s5 := same_new (o := .lst ((ns.take n ++ zs).map V.int)) hc
    have s0 := s1.trans (s2.trans (s3.trans (s4.trans s5)))
    refine ⟨c, _, rfl, .of upd_same, fun H' t ts sm ht _ h' hlt hts => ?_⟩
    refine q H' t ts (ns.take n ++ zs) (s0.trans sm) (s0.free ht) h' hlen (by rw [hlt, List.length_map]) fun j u e => ?_
    obtain ⟨v, e1, e2⟩ := hts j u e
    obtain ⟨i, e3, rfl⟩ := ints_at e1
    exact ⟨i, e3, e2⟩
end
end Sp

/-! ### a wide draw -/
namespace Sp
open PySem PySem.Spec PyProof.Rows L2 SpG SpR SpEn SpH
abbrev sWide : Stmt := topS 7
theorem scWide : FnScope ["hand", "most", "found", "turn"] ["hand", "most"] (defScope sWide) := ⟨rfl, rfl, rfl, by decide +kernel, rfl, by decide +kernel, by decide +kernel⟩
section
variable {P : Program} {w : World} {K : PySem.W.Frag} {mg : Str → Option Value} {base : Heap}
theorem ok_wide {f fD : Addr} {fd fdD : FuncData} (F : Fun K "_law_wide" "_law_wide" sWide f fd) (FD : Fun K "_law_draw" "_law_draw" sDraw fD fdD) (bD : Binds K fdD ["hand", "limit"] []) (gD : mg "_law_draw" = some (.ref fD)) (mr : mg "range" = none) :
    FnOk P w K mg base CX0 2 f fd ["hand", "most"] spWide := by
  have GD : FnOk P w K mg base CX0 1 fD fdD ["hand", "limit"] spDraw := ok_draw FD
  refine F.ok scWide (fun vs H Q E h => ?_) (fun cdv A outer s H vs Q E hr h => ?_)
  · obtain ⟨p, n, rfl, _⟩ := h
    rfl
  · obtain ⟨p, n, rfl, hp, n0, q⟩ := h
    refine ⟨_, pss_cons (ps_set (i := 2) scWide.nd rfl (.inl rfl) pe_int)
      (pss_cons (ps_for PassesOwn.never rfl (pi_range1 rfl mr (pa_cons pe_int pa_nil)) (pg_name (i := 3) scWide.nd rfl (.inl rfl))
        (pss_one (ps_set (i := 2) scWide.nd rfl (.inl rfl) (pe_op op_add (pe_op op_mul (pv 2) (pe_op op_pow pe_int pe_int)) (pe_call GD hr rfl gD FD.kp bD .nil pass0 (pa_cons (pv 0) (pa_cons (pe_op op_pow pe_int pe_int) pa_nil)))))))
      (pss_one (ps_ret (pe_op op_mod (pv 2) (pv 1))))), ?_⟩
    refine ⟨3, rfl, by decide, by decide, for_range (n := 3) (fun i σ H1 => ∃ (g : Int) (v : Option V), σ = [some (.ref p), some (.int n), some (.int g), v] ∧ Off p H H1 ∧ Hand H1 p) ⟨0, none, rfl, .refl _ _, hp⟩ ?_ ?_⟩
    · rintro i σ H1 hi ⟨g, v, rfl, o1, h1⟩
      refine ⟨_, rfl, 10, 8, rfl, rfl, ⟨by decide, by decide, by decide⟩, g, _, rfl, rfl, .inr ⟨by decide, by decide⟩, .ref p, rfl, 10, 8, rfl, rfl, ⟨by decide, by decide, by decide⟩, p, _, rfl, h1, by decide, by decide, fun d H2 d0 d1 o2 h2 => ?_⟩
      exact ⟨_, _, rfl, rfl, _, _, rfl, o1.trans o2, h2⟩
    · rintro σ H1 ⟨g, v, rfl, o1, h1⟩
      refine ⟨_, rfl, .int n, rfl, g, n, rfl, rfl, n0, ?_⟩
      exact q _ _ (Int.emod_nonneg _ (by omega)) (Int.emod_lt_of_pos _ n0) o1 h1
end
end Sp

/-! ### the parts, as the program finds them -/
namespace SpP
open PySem PySem.Spec PyProof.Rows L2 SpH MP
def spParts : Sp := fun vs H Q _ => ∃ N : Nat, vs = [.int (N : Int)] ∧ 1 ≤ N ∧ N ≤ 1000000000 ∧ ∀ (p : Addr) (H' : Hp) (l : List (Nat × Nat)), Same H H' → H p = none → Pairs2 H' p l → PF 2 N l → Q (.ref p) H'
def spLParts : Sp := fun vs H Q _ => ∃ N : Nat, vs = [.int (N : Int)] ∧ 1 ≤ N ∧ N ≤ 1000000000 ∧ ∀ (p : Addr) (H' : Hp) (l : List (Nat × Nat)), Same H H' → H p = none → Pairs2 H' p l → LF 2 N l → Q (.ref p) H'
def spGreatest : Sp := fun vs H Q _ => ∃ N : Nat, vs = [.int (N : Int)] ∧ 1 ≤ N ∧ N ≤ 1000000000 ∧ ∀ (H' : Hp) (l : List (Nat × Nat)), Same H H' → PF 2 N l → Q (.int (lastP l : Int)) H'
theorem pow_len {k n N : Nat} (h : 2 ^ k * n ≤ N) (hn : 1 ≤ n) (hN : N ≤ 1000000000) : k ≤ 30 := by
  rcases Nat.lt_or_ge k 31 with h1 | h1
  · omega
  · have h2 : 2 ^ 31 ≤ 2 ^ k := Nat.pow_le_pow_right (by decide) h1
    have h3 : 2 ^ k ≤ 2 ^ k * n := Nat.le_mul_of_pos_right _ hn
    have h4 : (2 : Nat) ^ 31 = 2147483648 := by decide
    omega
theorem int_mod (a b : Nat) : ((a : Int) % (b : Int)) = ((a % b : Nat) : Int) := (Int.natCast_emod a b).symm
theorem int_div (a b : Nat) : ((a : Int) / (b : Int)) = ((a / b : Nat) : Int) := (Int.natCast_ediv a b).symm
theorem int_mul (a b : Nat) : ((a : Int) * (b : Int)) = ((a * b : Nat) : Int) := (Int.natCast_mul a b).symm
theorem dec_int {i j : Int} : decide (V.int i = V.int j) = true ↔ i = j := by
  rw [decide_eq_true_iff]
  exact ⟨fun h => V.int.inj h, fun h => by rw [h]⟩
/-- what is appended to a list of pairs -/
theorem Pairs2.put {H : Hp} {p T : Addr} {l : List (Nat × Nat)} {ts : List Addr} {x : Nat × Nat} (hp : H p = some (.lst (ts.map V.ref))) (ht : PairsAt H ts l) (hT : H T = some (.tup [.int (x.1 : Int), .int (x.2 : Int)])) : Pairs2 (upd H p (.lst (ts.map V.ref ++ [.ref T]))) p (l ++ [x]) := by
  refine ⟨ts ++ [T], by rw [upd_same, List.map_append]; rfl, PairsAt.app (us := [T]) (r := [x]) ⟨?_, trivial⟩ (ht.keep fun b xs e => ?_)⟩
  · rw [upd_ne (fun z => by rw [z, hp] at hT; cases hT)]
    exact hT
  · rw [upd_ne (fun z => by rw [z, hp] at e; cases e)]
    exact e
end SpP
namespace Sp
open PySem PySem.Spec PyProof.Rows L2 SpG SpR SpEn SpH SpP MP
abbrev sParts : Stmt := topS 1
abbrev sGreatest : Stmt := topS 2
theorem scParts : FnScope ["number", "found", "prime", "times"] ["number"] (defScope sParts) := ⟨rfl, rfl, rfl, by decide +kernel, rfl, by decide +kernel, by decide +kernel⟩
theorem scGreatest : FnScope ["number"] ["number"] (defScope sGreatest) := ⟨rfl, rfl, rfl, by decide +kernel, rfl, by decide +kernel, by decide +kernel⟩
section
variable {P : Program} {w : World} {K : PySem.W.Frag} {mg : Str → Option Value} {base : Heap}
theorem ok_parts {f : Addr} {fd : FuncData} {k : Nat} (F : Fun K "parts_of" "parts_of" sParts f fd) : FnOk P w K mg base CX0 (k + 1) f fd ["number"] spParts := by
  refine F.ok scParts (fun vs H Q E h => ?_) (fun cdv A outer s H vs Q E hr h => ?_)
  · obtain ⟨N, rfl, _⟩ := h
    rfl
  · obtain ⟨N, rfl, n1, n9, q⟩ := h
    refine ⟨_, pss_cons (ps_set (i := 1) scParts.nd rfl (.inl rfl) (pe_lst pa_nil))
      (pss_cons (ps_set (i := 2) scParts.nd rfl (.inl rfl) pe_int)
      (pss_cons (ps_while PassesOwn.never (pt_cmpR op_le (pe_op op_mul (pv 2) (pv 2)) (pv 0) (nomark _))
        (pss_cons (ps_set (i := 3) scParts.nd rfl (.inl rfl) pe_int)
        (pss_cons (ps_while PassesOwn.never (pt_cmpR op_eq (pe_op op_mod (pv 0) (pv 2)) pe_int (nomark _))
          (pss_cons (ps_aug (i := 0) scParts.nd rfl (.inl rfl) (pv 2) iop_fdiv) (pss_one (ps_aug (i := 3) scParts.nd rfl (.inl rfl) pe_int ip_add))))
        (pss_cons (ps_if (pt_cmpR op_gt (pv 3) pe_int (nomark _)) (pss_one (ps_expr (pe_bm PySem.F.plainAttrs_list PySem.F.slot_list_append PySem.F.type_list_append mt_append (pv 1) (pa_cons (pe_tup (pa_cons (pv 2) (pa_cons (pv 3) pa_nil))) pa_nil)))) pss_nil)
        (pss_one (ps_aug (i := 2) scParts.nd rfl (.inl rfl) pe_int ip_add))))))
      (pss_cons (ps_if (pt_cmpR op_gt (pv 0) pe_int (nomark _)) (pss_one (ps_expr (pe_bm PySem.F.plainAttrs_list PySem.F.slot_list_append PySem.F.type_list_append mt_append (pv 1) (pa_cons (pe_tup (pa_cons (pv 0) (pa_cons pe_int pa_nil))) pa_nil)))) pss_nil)
      (pss_one (ps_ret (pv 1)))))), ?_⟩
    refine ⟨Nat.zero_le _, fun p hp => ?_⟩
    -- one more pair in the list
    have put : ∀ (H1 : Hp) (l0 : List (Nat × Nat)) (ts : List Addr) (x : Nat × Nat) (T : Addr), Same H H1 → H1 p = some (.lst (ts.map V.ref)) → PairsAt H1 ts l0 → H1 T = none →
        Same H (upd (upd H1 T (.tup [.int (x.1 : Int), .int (x.2 : Int)])) p (.lst (ts.map V.ref ++ [.ref T]))) ∧ (upd H1 T (.tup [.int (x.1 : Int), .int (x.2 : Int)])) p = some (.lst (ts.map V.ref)) ∧ Pairs2 (upd (upd H1 T (.tup [.int (x.1 : Int), .int (x.2 : Int)])) p (.lst (ts.map V.ref ++ [.ref T]))) p (l0 ++ [x]) := fun H1 l0 ts x T sm h1 h2 hT => by
      have sT := same_new (o := .tup [.int (x.1 : Int), .int (x.2 : Int)]) hT
      have e1 := sT _ _ h1
      exact ⟨fun b o e => by rw [upd_ne (ne_of_none e hp)]; exact sT _ _ (sm _ _ e), e1, Pairs2.put e1 (h2.keep fun b xs e => sT _ _ e) upd_same⟩
    refine ⟨fun m σ H1 => ∃ (n z : Nat) (l0 : List (Nat × Nat)) (v : Option V), m = n + 1 - z ∧ σ = [some (.int (n : Int)), some (.ref p), some (.int (z : Int)), v] ∧ 2 ≤ z ∧ z ≤ 40000 ∧ 1 ≤ n ∧ n ≤ N ∧ 2 ^ l0.length * n ≤ N ∧ Same H H1 ∧ Pairs2 H1 p l0 ∧ ∀ l, PF z n l → PF 2 N (l0 ++ l),
      ⟨_, N, 2, [], none, rfl, rfl, Nat.le_refl _, by decide, n1, Nat.le_refl _, by simp, same_new hp, ⟨[], upd_same, trivial⟩, fun l h => h⟩, fun m σ H1 hW => ?_⟩
    obtain ⟨n, z, l0, v, rfl, rfl, z2, z4, n0, nN, hpow, sm, ⟨ts, ep, eP⟩, hPF⟩ := hW
    have hlen := pow_len hpow n0 n9
    refine ⟨_, rfl, _, rfl, _, _, rfl, rfl, .inl ⟨by omega, by omega⟩, _, rfl, _, _, rfl, rfl, _, rfl, ite2 (fun e => ?_) (fun e => ?_)⟩
    · -- one more prime is looked at
      have ez : z * z ≤ n := by
        have := of_decide_eq_true e
        rw [int_mul] at this
        exact Int.ofNat_le.mp this
      have zn : z ≤ n := Nat.le_trans (Nat.le_mul_of_pos_left _ (by omega)) ez
      have z5 : z < 31623 := by
        rcases Nat.lt_or_ge z 31623 with h | h
        · exact h
        · have : 31623 * 31623 ≤ z * z := Nat.mul_le_mul h h
          omega
      refine ⟨fun σ' H' => ∃ (n' : Nat) (l1 : List (Nat × Nat)) (v' : Option V), σ' = [some (.int (n' : Int)), some (.ref p), some (.int ((z + 1 : Nat) : Int)), v'] ∧ 1 ≤ n' ∧ n' ≤ n ∧ 2 ^ l1.length * n' ≤ N ∧ Same H H' ∧ Pairs2 H' p l1 ∧ ∀ l, PF (z + 1) n' l → PF 2 N (l1 ++ l),
        fun σ' H' hN => ?_, ?_⟩
      · obtain ⟨n', l1, v', e1, e2, e3, e4, e5, e6, e7⟩ := hN
        exact ⟨n' + 1 - (z + 1), by omega, n', z + 1, l1, v', rfl, e1, by omega, by omega, e2, by omega, e4, e5, e6, e7⟩
      -- how many times
      refine ⟨fun k σ' H' => ∃ (c t : Nat), k = c ∧ σ' = [some (.int (c : Int)), some (.ref p), some (.int (z : Int)), some (.int (t : Int))] ∧ H' = H1 ∧ n = z ^ t * c ∧ 1 ≤ c, ⟨n, n, 0, rfl, rfl, rfl, by simp, n0⟩, fun c σ' H' hV => ?_⟩
      obtain ⟨_, t, rfl, rfl, rfl, ec, c1⟩ := hV
      refine ⟨_, rfl, _, rfl, _, _, rfl, rfl, (show (0 : Int) < (z : Int) by omega), rfl, _, rfl, ite2 (fun e => ?_) (fun e => ?_)⟩
      · have hd : c % z = 0 := by
          have := dec_int.mp e
          rw [int_mod] at this
          omega
        have hc : c / z * z = c := Nat.div_mul_cancel (Nat.dvd_of_mod_eq_zero hd)
        have hlt : c / z < c := Nat.div_lt_self (by omega) (by omega)
        have hpos : 1 ≤ c / z := by
          rcases Nat.eq_zero_or_pos (c / z) with h | h
          · rw [h, Nat.zero_mul] at hc
            omega
          · exact h
        refine ⟨fun σ'' H'' => σ'' = [some (.int ((c / z : Nat) : Int)), some (.ref p), some (.int (z : Int)), some (.int ((t + 1 : Nat) : Int))] ∧ H'' = H', fun σ'' H'' hN => ?_, ?_⟩
        · obtain ⟨rfl, rfl⟩ := hN
          refine ⟨c / z, hlt, c / z, t + 1, rfl, rfl, rfl, ?_, hpos⟩
          rw [ec, Nat.pow_succ, Nat.mul_assoc, Nat.mul_comm z (c / z), hc]
        refine ⟨_, rfl, _, rfl, _, _, rfl, rfl, ⟨by omega, by omega⟩, ?_⟩
        exact ⟨_, rfl, _, _, rfl, rfl, rfl, rfl⟩
      · have hnd : ¬ z ∣ c := fun hd => e (dec_int.mpr (by rw [int_mod, Nat.mod_eq_zero_of_dvd hd]; rfl))
        have hcn : c ≤ n := by
          rw [ec]
          exact Nat.le_mul_of_pos_left _ (Nat.pow_pos (by omega))
        refine ⟨_, rfl, _, _, rfl, rfl, _, rfl, ite2 (fun e2 => ?_) (fun e2 => ?_)⟩
        · have t0 : 0 < t := by
            have := of_decide_eq_true e2
            omega
          have h2t : 2 ≤ z ^ t := by
            obtain ⟨s, rfl⟩ : ∃ s, t = s + 1 := ⟨t - 1, by omega⟩
            rw [Nat.pow_succ]
            exact Nat.le_trans z2 (Nat.le_mul_of_pos_left _ (Nat.pow_pos (by omega)))
          refine ⟨_, rfl, .inl ⟨rfl, _, SqL.of ep⟩, _, rfl, _, rfl, by show 2 ≤ sizeLine; decide, fun T hT => ?_⟩
          obtain ⟨p1, p2, p3⟩ := put H' l0 ts (z, t) T sm ep eP hT
          refine ⟨p, _, _, rfl, rfl, p2, ?_, ?_⟩
          · rw [List.length_map, eP.len]
            exact small1000 (by omega)
          refine ⟨_, rfl, _, _, rfl, rfl, c, l0 ++ [(z, t)], _, rfl, c1, hcn, ?_, p1, p3, fun l hl => ?_⟩
          · rw [List.length_append, List.length_singleton, Nat.pow_succ, Nat.mul_assoc]
            refine Nat.le_trans (Nat.mul_le_mul_left _ ?_) hpow
            rw [ec]
            exact Nat.mul_le_mul_right _ h2t
          · have := hPF _ (PF.step ez ec hnd hl)
            rw [if_pos t0] at this
            rw [List.append_assoc]
            exact this
        · have t0 : t = 0 := by
            rcases Nat.eq_zero_or_pos t with h | h
            · exact h
            · exact absurd (decide_eq_true (show (0 : Int) < (t : Int) by omega)) e2
          subst t0
          rw [Nat.pow_zero, Nat.one_mul] at ec
          subst ec
          refine ⟨_, rfl, _, _, rfl, rfl, n, l0, _, rfl, n0, Nat.le_refl _, hpow, sm, ⟨ts, ep, eP⟩, fun l hl => ?_⟩
          have := hPF _ (PF.step (t := 0) ez (by rw [Nat.pow_zero, Nat.one_mul]) hnd hl)
          rw [if_neg (Nat.lt_irrefl 0)] at this
          exact this
    · -- what is left is one or a prime
      have ez : n < z * z := by
        rcases Nat.lt_or_ge n (z * z) with h | h
        · exact h
        · exact absurd (decide_eq_true (show (z : Int) * (z : Int) ≤ (n : Int) by rw [int_mul]; exact Int.ofNat_le.mpr h)) e
      have hP := hPF _ (PF.done ez)
      refine ⟨_, rfl, _, _, rfl, rfl, _, rfl, ite2 (fun e2 => ?_) (fun e2 => ?_)⟩
      · have hn : 1 < n := by
          have := of_decide_eq_true e2
          omega
        rw [if_pos hn] at hP
        refine ⟨_, rfl, .inl ⟨rfl, _, SqL.of ep⟩, _, rfl, by show 2 ≤ sizeLine; decide, fun T hT => ?_⟩
        obtain ⟨p1, p2, p3⟩ := put H1 l0 ts (n, 1) T sm ep eP hT
        refine ⟨p, _, _, rfl, rfl, p2, ?_, _, rfl, q p _ _ p1 hp p3 hP⟩
        rw [List.length_map, eP.len]
        exact small1000 (by omega)
      · have hn : ¬ 1 < n := fun h => e2 (decide_eq_true (show (1 : Int) < (n : Int) by omega))
        rw [if_neg hn, List.append_nil] at hP
        exact ⟨_, rfl, q p _ _ sm hp ⟨ts, ep, eP⟩ hP⟩
theorem ok_greatest {f fP : Addr} {fd fdP : FuncData} (F : Fun K "greatest_part" "greatest_part" sGreatest f fd) (FP : Fun K "parts_of" "parts_of" sParts fP fdP) (bP : Binds K fdP ["number"] []) (gP : mg "parts_of" = some (.ref fP)) : FnOk P w K mg base CX0 2 f fd ["number"] spGreatest := by
  have GP : FnOk P w K mg base CX0 1 fP fdP ["number"] spParts := ok_parts FP
  refine F.ok scGreatest (fun vs H Q E h => ?_) (fun cdv A outer s H vs Q E hr h => ?_)
  · obtain ⟨N, rfl, _⟩ := h
    rfl
  · obtain ⟨N, rfl, n1, n9, q⟩ := h
    refine ⟨_, pss_cons (ps_if (pt_cmpR op_eq (pv 0) pe_int (nomark _)) (pss_one (ps_ret pe_int)) pss_nil)
      (pss_one (ps_ret (pe_ix ix_tup (pe_ix ix_list (pe_call GP hr (by rfl) gP FP.kp bP .nil pass0 (pa_cons (pv 0) pa_nil)) (pe_un un_neg pe_int) (fun _ _ => rfl)) pe_int (fun _ _ => rfl)))), ?_⟩
    refine ⟨_, rfl, rfl, _, rfl, ite2 (fun e => ?_) (fun e => ?_)⟩
    · have e1 : N = 1 := by
        have := dec_int.mp e
        omega
      subst e1
      exact q H [] (Same.refl H) (.done (by decide))
    · have hN : 1 < N := by
        rcases Nat.lt_or_ge 1 N with h | h
        · exact h
        · exact absurd (dec_int.mpr (show ((N : Nat) : Int) = 1 by omega)) e
      refine ⟨_, rfl, N, rfl, n1, n9, fun p H' l sm hp ⟨ts, ep, eP⟩ hl => ?_⟩
      have hne := hl.some hN
      obtain ⟨l1, x, rfl⟩ : ∃ l1 x, l = l1 ++ [x] := ⟨l.dropLast, l.getLast hne, (List.dropLast_concat_getLast hne).symm⟩
      obtain ⟨t, e1, e2⟩ := eP.get (j := l1.length) (x := x) (by simp)
      have hts : ts.length = l1.length + 1 := by rw [eP.len]; simp
      have e3 : ts = ts.take l1.length ++ [t] := by
        have := take_more e1
        rw [← this, List.take_of_length_le (by omega)]
      refine ⟨1, rfl, p, _, -1, .ref t, rfl, rfl, .of ep, ?_, t, _, 0, .int (x.1 : Int), rfl, rfl, .of e2, atI_nat (j := 0) rfl, ?_⟩
      · rw [e3, List.map_append]
        exact atI_last _ _
      · have h := q H' (l1 ++ [x]) sm hl
        rw [show lastP (l1 ++ [x]) = x.1 by unfold lastP; simp] at h
        exact h
end
end Sp

/-! ### the parts, as the law finds them -/
namespace Sp
open PySem PySem.Spec PyProof.Rows L2 SpG SpR SpEn SpH SpP MP
abbrev sLParts : Stmt := topS 9
theorem scLParts : FnScope ["number", "found", "rest", "one", "times"] ["number"] (defScope sLParts) := ⟨rfl, rfl, rfl, by decide +kernel, rfl, by decide +kernel, by decide +kernel⟩
section
variable {P : Program} {w : World} {K : PySem.W.Frag} {mg : Str → Option Value} {base : Heap}
theorem ok_lparts {f : Addr} {fd : FuncData} {k : Nat} (F : Fun K "_law_parts" "_law_parts" sLParts f fd) (mi : mg "int" = none) : FnOk P w K mg base CX0 (k + 1) f fd ["number"] spLParts := by
  refine F.ok scLParts (fun vs H Q E h => ?_) (fun cdv A outer s H vs Q E hr h => ?_)
  · obtain ⟨N, rfl, _⟩ := h
    rfl
  · obtain ⟨N, rfl, n1, n9, q⟩ := h
    refine ⟨_, pss_cons (ps_set (i := 1) scLParts.nd rfl (.inl rfl) (pe_lst pa_nil))
      (pss_cons (ps_set (i := 2) scLParts.nd rfl (.inl rfl) (pv 0))
      (pss_cons (ps_set (i := 3) scLParts.nd rfl (.inl rfl) pe_int)
      (pss_cons (ps_while PassesOwn.never (pt_cmpR op_le (pe_op op_mul (pv 3) (pv 3)) (pv 2) (nomark _))
        (pss_cons (ps_set (i := 4) scLParts.nd rfl (.inl rfl) pe_int)
        (pss_cons (ps_while PassesOwn.never (pt_cmpR op_eq (pe_op op_mod (pv 2) (pv 3)) pe_int (nomark _))
          (pss_cons (ps_set (i := 2) scLParts.nd rfl (.inl rfl) (pe_op op_fdiv (pv 2) (pv 3))) (pss_one (ps_set (i := 4) scLParts.nd rfl (.inl rfl) (pe_op op_add (pv 4) pe_int)))))
        (pss_cons (ps_if (pt_cmpR op_gt (pv 4) pe_int (nomark _)) (pss_one (ps_expr (pe_bm PySem.F.plainAttrs_list PySem.F.slot_list_append PySem.F.type_list_append mt_append (pv 1) (pa_cons (pe_tup (pa_cons (pv 3) (pa_cons (pv 4) pa_nil))) pa_nil)))) pss_nil)
        (pss_one (ps_set (i := 3) scLParts.nd rfl (.inl rfl) (pe_op op_add (pe_op op_add (pv 3) pe_int) (pe_callTy call_int1 (by rfl) mi boot_int (pa_cons (pe_cmpR op_gt (pv 3) pe_int (nomark _)) pa_nil)))))))))
      (pss_cons (ps_if (pt_cmpR op_gt (pv 2) pe_int (nomark _)) (pss_one (ps_expr (pe_bm PySem.F.plainAttrs_list PySem.F.slot_list_append PySem.F.type_list_append mt_append (pv 1) (pa_cons (pe_tup (pa_cons (pv 2) (pa_cons pe_int pa_nil))) pa_nil)))) pss_nil)
      (pss_one (ps_ret (pv 1))))))), ?_⟩
    refine ⟨Nat.zero_le _, fun p hp => ⟨_, rfl, ?_⟩⟩
    -- one more pair in the list
    have put : ∀ (H1 : Hp) (l0 : List (Nat × Nat)) (ts : List Addr) (x : Nat × Nat) (T : Addr), Same H H1 → H1 p = some (.lst (ts.map V.ref)) → PairsAt H1 ts l0 → H1 T = none →
        Same H (upd (upd H1 T (.tup [.int (x.1 : Int), .int (x.2 : Int)])) p (.lst (ts.map V.ref ++ [.ref T]))) ∧ (upd H1 T (.tup [.int (x.1 : Int), .int (x.2 : Int)])) p = some (.lst (ts.map V.ref)) ∧ Pairs2 (upd (upd H1 T (.tup [.int (x.1 : Int), .int (x.2 : Int)])) p (.lst (ts.map V.ref ++ [.ref T]))) p (l0 ++ [x]) := fun H1 l0 ts x T sm h1 h2 hT => by
      have sT := same_new (o := .tup [.int (x.1 : Int), .int (x.2 : Int)]) hT
      have e1 := sT _ _ h1
      exact ⟨fun b o e => by rw [upd_ne (ne_of_none e hp)]; exact sT _ _ (sm _ _ e), e1, Pairs2.put e1 (h2.keep fun b xs e => sT _ _ e) upd_same⟩
    refine ⟨fun m σ H1 => ∃ (n z : Nat) (l0 : List (Nat × Nat)) (v : Option V), m = n + 1 - z ∧ σ = [some (.int (N : Int)), some (.ref p), some (.int (n : Int)), some (.int (z : Int)), v] ∧ 2 ≤ z ∧ z ≤ 40000 ∧ 1 ≤ n ∧ n ≤ N ∧ 2 ^ l0.length * n ≤ N ∧ Same H H1 ∧ Pairs2 H1 p l0 ∧ ∀ l, LF z n l → LF 2 N (l0 ++ l),
      ⟨_, N, 2, [], none, rfl, rfl, Nat.le_refl _, by decide, n1, Nat.le_refl _, by simp, same_new hp, ⟨[], upd_same, trivial⟩, fun l h => h⟩, fun m σ H1 hW => ?_⟩
    obtain ⟨n, z, l0, v, rfl, rfl, z2, z4, n0, nN, hpow, sm, ⟨ts, ep, eP⟩, hLF⟩ := hW
    have hlen := pow_len hpow n0 n9
    refine ⟨_, rfl, _, rfl, _, _, rfl, rfl, .inl ⟨by omega, by omega⟩, _, rfl, _, _, rfl, rfl, _, rfl, ite2 (fun e => ?_) (fun e => ?_)⟩
    · -- one more prime is looked at
      have ez : z * z ≤ n := by
        have := of_decide_eq_true e
        rw [int_mul] at this
        exact Int.ofNat_le.mp this
      have zn : z ≤ n := Nat.le_trans (Nat.le_mul_of_pos_left _ (by omega)) ez
      have z5 : z < 31623 := by
        rcases Nat.lt_or_ge z 31623 with h | h
        · exact h
        · have : 31623 * 31623 ≤ z * z := Nat.mul_le_mul h h
          omega
      refine ⟨fun σ' H' => ∃ (n' : Nat) (l1 : List (Nat × Nat)) (v' : Option V), σ' = [some (.int (N : Int)), some (.ref p), some (.int (n' : Int)), some (.int ((z + 1 + (if 2 < z then 1 else 0) : Nat) : Int)), v'] ∧ 1 ≤ n' ∧ n' ≤ n ∧ 2 ^ l1.length * n' ≤ N ∧ Same H H' ∧ Pairs2 H' p l1 ∧ ∀ l, LF (z + 1 + (if 2 < z then 1 else 0)) n' l → LF 2 N (l1 ++ l),
        fun σ' H' hN => ?_, ?_⟩
      · obtain ⟨n', l1, v', e1, e2, e3, e4, e5, e6, e7⟩ := hN
        have hs : (if 2 < z then 1 else 0) ≤ 1 := by split <;> omega
        exact ⟨n' + 1 - (z + 1 + (if 2 < z then 1 else 0)), by omega, n', z + 1 + (if 2 < z then 1 else 0), l1, v', rfl, e1, by omega, by omega, e2, by omega, e4, e5, e6, e7⟩
      have nxt : ((z + 1 + (if 2 < z then 1 else 0) : Nat) : Int) = (z : Int) + 1 + (if (decide ((2 : Int) < (z : Int))) = true then 1 else 0) := by
        by_cases h2 : 2 < z
        · rw [if_pos h2, if_pos (decide_eq_true (show (2 : Int) < (z : Int) by omega))]
          omega
        · rw [if_neg h2, if_neg (fun h => h2 (by have := of_decide_eq_true h; omega))]
          omega
      -- how many times
      refine ⟨fun k σ' H' => ∃ (c t : Nat), k = c ∧ σ' = [some (.int (N : Int)), some (.ref p), some (.int (c : Int)), some (.int (z : Int)), some (.int (t : Int))] ∧ H' = H1 ∧ n = z ^ t * c ∧ 1 ≤ c, ⟨n, n, 0, rfl, rfl, rfl, by simp, n0⟩, fun c σ' H' hV => ?_⟩
      obtain ⟨_, t, rfl, rfl, rfl, ec, c1⟩ := hV
      refine ⟨_, rfl, _, rfl, _, _, rfl, rfl, (show (0 : Int) < (z : Int) by omega), rfl, _, rfl, ite2 (fun e => ?_) (fun e => ?_)⟩
      · have hd : c % z = 0 := by
          have := dec_int.mp e
          rw [int_mod] at this
          omega
        have hc : c / z * z = c := Nat.div_mul_cancel (Nat.dvd_of_mod_eq_zero hd)
        have hlt : c / z < c := Nat.div_lt_self (by omega) (by omega)
        have hpos : 1 ≤ c / z := by
          rcases Nat.eq_zero_or_pos (c / z) with h | h
          · rw [h, Nat.zero_mul] at hc
            omega
          · exact h
        refine ⟨fun σ'' H'' => σ'' = [some (.int (N : Int)), some (.ref p), some (.int ((c / z : Nat) : Int)), some (.int (z : Int)), some (.int ((t + 1 : Nat) : Int))] ∧ H'' = H', fun σ'' H'' hN => ?_, ?_⟩
        · obtain ⟨rfl, rfl⟩ := hN
          refine ⟨c / z, hlt, c / z, t + 1, rfl, rfl, rfl, ?_, hpos⟩
          rw [ec, Nat.pow_succ, Nat.mul_assoc, Nat.mul_comm z (c / z), hc]
        refine ⟨_, rfl, _, rfl, _, _, rfl, rfl, ⟨by omega, by omega⟩, ?_⟩
        exact ⟨_, rfl, _, _, rfl, rfl, rfl, rfl⟩
      · have hnd : ¬ z ∣ c := fun hd => e (dec_int.mpr (by rw [int_mod, Nat.mod_eq_zero_of_dvd hd]; rfl))
        have hcn : c ≤ n := by
          rw [ec]
          exact Nat.le_mul_of_pos_left _ (Nat.pow_pos (by omega))
        refine ⟨_, rfl, _, _, rfl, rfl, _, rfl, ite2 (fun e2 => ?_) (fun e2 => ?_)⟩
        · have t0 : 0 < t := by
            have := of_decide_eq_true e2
            omega
          have h2t : 2 ≤ z ^ t := by
            obtain ⟨s, rfl⟩ : ∃ s, t = s + 1 := ⟨t - 1, by omega⟩
            rw [Nat.pow_succ]
            exact Nat.le_trans z2 (Nat.le_mul_of_pos_left _ (Nat.pow_pos (by omega)))
          refine ⟨_, rfl, .inl ⟨rfl, _, SqL.of ep⟩, _, rfl, _, rfl, by show 2 ≤ sizeLine; decide, fun T hT => ?_⟩
          obtain ⟨p1, p2, p3⟩ := put H' l0 ts (z, t) T sm ep eP hT
          refine ⟨p, _, _, rfl, rfl, p2, ?_, ?_⟩
          · rw [List.length_map, eP.len]
            exact small1000 (by omega)
          refine ⟨_, rfl, _, _, rfl, rfl, _, rfl, _, _, rfl, rfl, .inr ⟨_, rfl, _, _, rfl, rfl, c, l0 ++ [(z, t)], some (.int (t : Int)), ?_, c1, hcn, ?_, p1, p3, fun l hl => ?_⟩⟩
          · rw [nxt]
            rfl
          · rw [List.length_append, List.length_singleton, Nat.pow_succ, Nat.mul_assoc]
            refine Nat.le_trans (Nat.mul_le_mul_left _ ?_) hpow
            rw [ec]
            exact Nat.mul_le_mul_right _ h2t
          · have := hLF _ (LF.step ez ec hnd hl)
            rw [if_pos t0] at this
            rw [List.append_assoc]
            exact this
        · have t0 : t = 0 := by
            rcases Nat.eq_zero_or_pos t with h | h
            · exact h
            · exact absurd (decide_eq_true (show (0 : Int) < (t : Int) by omega)) e2
          subst t0
          rw [Nat.pow_zero, Nat.one_mul] at ec
          subst ec
          refine ⟨_, rfl, _, _, rfl, rfl, _, rfl, _, _, rfl, rfl, .inr ⟨_, rfl, _, _, rfl, rfl, n, l0, some (.int ((0 : Nat) : Int)), ?_, n0, Nat.le_refl _, hpow, sm, ⟨ts, ep, eP⟩, fun l hl => ?_⟩⟩
          · rw [nxt]
            rfl
          have := hLF _ (LF.step (t := 0) ez (by rw [Nat.pow_zero, Nat.one_mul]) hnd hl)
          rw [if_neg (Nat.lt_irrefl 0)] at this
          exact this
    · -- what is left is one or a prime
      have ez : n < z * z := by
        rcases Nat.lt_or_ge n (z * z) with h | h
        · exact h
        · exact absurd (decide_eq_true (show (z : Int) * (z : Int) ≤ (n : Int) by rw [int_mul]; exact Int.ofNat_le.mpr h)) e
      have hP := hLF _ (LF.done ez)
      refine ⟨_, rfl, _, _, rfl, rfl, _, rfl, ite2 (fun e2 => ?_) (fun e2 => ?_)⟩
      · have hn : 1 < n := by
          have := of_decide_eq_true e2
          omega
        rw [if_pos hn] at hP
        refine ⟨_, rfl, .inl ⟨rfl, _, SqL.of ep⟩, _, rfl, by show 2 ≤ sizeLine; decide, fun T hT => ?_⟩
        obtain ⟨p1, p2, p3⟩ := put H1 l0 ts (n, 1) T sm ep eP hT
        refine ⟨p, _, _, rfl, rfl, p2, ?_, _, rfl, q p _ _ p1 hp p3 hP⟩
        rw [List.length_map, eP.len]
        exact small1000 (by omega)
      · have hn : ¬ 1 < n := fun h => e2 (decide_eq_true (show (1 : Int) < (n : Int) by omega))
        rw [if_neg hn, List.append_nil] at hP
        exact ⟨_, rfl, q p _ _ sm hp ⟨ts, ep, eP⟩ hP⟩
end
end Sp

/-! ### two lists of pairs, compared by what they show -/
namespace SpP
open PySem PySem.Spec PyProof.Rows L2 SpH MP
/-- _law_same of two such lists: True where they are the same -/
def spSame : Sp := fun vs H Q _ => ∃ (a b : Addr) (l : List (Nat × Nat)), vs = [.ref a, .ref b] ∧ Pairs2 H a l ∧ Pairs2 H b l ∧ (∀ x ∈ l, x.1 < 2 ^ 30 ∧ x.2 < 2 ^ 30) ∧ l.length ≤ 1000 ∧ ∀ H' : Hp, Same H H' → Q (.bl true) H'
end SpP
namespace Sp
open PySem PySem.Spec PyProof.Rows L2 SpG SpR SpEn SpH SpP MP
abbrev sSame : Stmt := topS 8
theorem scSame : FnScope ["found", "due", "pair", "one"] ["found", "due"] (defScope sSame) := ⟨rfl, rfl, rfl, by decide +kernel, rfl, by decide +kernel, by decide +kernel⟩
section
variable {P : Program} {w : World} {K : PySem.W.Frag} {mg : Str → Option Value} {base : Heap}
theorem ok_same {f : Addr} {fd : FuncData} {k : Nat} (hdg : base.NoDigits) (F : Fun K "_law_same" "_law_same" sSame f fd) (mis : mg "isinstance" = none) (ml : mg "list" = none) (mt : mg "tuple" = none) (mi : mg "int" = none) (mr : mg "repr" = none) : FnOkG P w K mg base CX0 (k + 1) f fd ["found", "due"] spSame := by
  refine okG F scSame (fun vs H Q E h => ?_) (fun cdv A outer s H vs Q E hgu hr h => ?_)
  · obtain ⟨a, b, l, rfl, _⟩ := h
    rfl
  · obtain ⟨a, b, l, rfl, ⟨ts, ea, eA⟩, ⟨us, eb, eB⟩, hs, hlen, q⟩ := h
    refine ⟨_, pss_cons (ps_if (PW.pt (pw_or (pt_not (pt_val (pe_callB call_isi (by rfl) mis bt_isi (pa_cons (pv 0) (pa_cons (pe_bltn (v := .ty "list") (by rfl) ml bt_list rfl) pa_nil)))))
        (pw_or1 (pt_cmpR (op_neD hr.units) (pe_lc (own := [("one", 3)]) (g := gName 3) (by rfl) scSame.nd (pi_list (pv 0)) (blkOk_by (own := [("one", 3)]) (N := ["found", "due", "pair", "one"]) (sc := defScope sSame) (by decide +kernel))
          (fun _ _ _ _ _ => pg_name (i := 3) scSame.nd rfl (Or.inl rfl)) (fun _ _ _ _ _ => pts_one (pt_not (pt_val (pe_callB (isiK K) (by rfl) mis bt_isi (pa_cons (pv 3) (pa_cons (pe_bltn (v := .ty "tuple") (by rfl) mt bt_tuple rfl) pa_nil))))))
          (fun _ _ _ _ _ => pe_int)) (pe_lst pa_nil) (nomark _))))) (pss_one (ps_ret pe_bl)) pss_nil)
      (pss_cons (ps_for PassesOwn.never rfl (pi_list (pv 0)) (pg_name (i := 2) scSame.nd rfl (.inl rfl))
        (pss_one (ps_if (pt_cmpR (op_neD hr.units) (pe_lc (own := [("one", 3)]) (g := gName 3) (by rfl) scSame.nd (pi_tup (pv 2)) (blkOk_by (own := [("one", 3)]) (N := ["found", "due", "pair", "one"]) (sc := defScope sSame) (by decide +kernel))
          (fun _ _ _ _ _ => pg_name (i := 3) scSame.nd rfl (Or.inl rfl)) (fun _ _ _ _ _ => pts_one (pt_not (pt_val (pe_callB (isiK K) (by rfl) mis bt_isi (pa_cons (pv 3) (pa_cons (pe_bltn (v := .ty "int") (by rfl) mi bt_int rfl) pa_nil))))))
          (fun _ _ _ _ _ => pe_int)) (pe_lst pa_nil) (nomark _)) (pss_one (ps_ret pe_bl)) pss_nil)))
      (pss_one (ps_ret (pe_cmpR op_eq (pe_callB (call_repr hdg hgu hr.units) (by rfl) mr bt_repr (pa_cons (pv 0) pa_nil)) (pe_callB (call_repr hdg hgu hr.units) (by rfl) mr bt_repr (pa_cons (pv 1) pa_nil)) (nomark _))))), ?_⟩
    -- it is a list, of tuples alone
    refine ⟨_, rfl, _, _, _, _, _, rfl, .ty _, .base (.lst ea), ki_ll, _, rfl, iteF ?_⟩
    refine ⟨_, rfl, a, rfl, ⟨_, .of ea⟩, fun D hD => lc_list (K := K) (a := a) (xs := ts.map V.ref) (fun i H2 => H2 = upd H D (.lst [])) rfl (fun i H2 _ e => ?_) (fun i x H2 hx e => ?_) (fun H2 e => ?_)⟩
    · subst e
      exact .of ((same_new hD) _ _ ea)
    · subst e
      rw [List.getElem?_map] at hx
      obtain ⟨t, ht, rfl⟩ := Option.map_eq_some_iff.mp hx
      obtain ⟨y, _, hy⟩ := eA.of ht
      exact ⟨rfl, _, rfl, _, _, _, _, _, rfl, .ty _, .base (.tup ((same_new hD) _ _ hy)), ki_tt, _, rfl, iteF rfl⟩
    subst e
    refine ⟨Nat.zero_le _, fun y hy => ?_⟩
    have sy := same_new (o := .lst []) hy
    have s1 : Same H _ := (same_new (o := .lst []) hD).trans sy
    refine ⟨_, _, .lst (.of (sy _ _ upd_same)) .nil, .lst (.of upd_same) .nil, rfl, rfl, _, rfl, iteF ?_⟩
    -- the pairs are of ints
    refine ⟨_, rfl, a, rfl, ⟨_, .of (s1 _ _ ea)⟩, for_list (K := K) (a := a) (xs := ts.map V.ref) (fun i σ H2 => ∃ v2 : Option V, σ = [some (.ref a), some (.ref b), v2, none] ∧ Same H H2) ⟨none, rfl, s1⟩ (fun i σ H2 _ ⟨_, _, s2⟩ => .of (s2 _ _ ea)) ?_ ?_⟩
    · rintro i x σ H2 hx ⟨v2, rfl, s2⟩
      rw [List.getElem?_map] at hx
      obtain ⟨t, ht, rfl⟩ := Option.map_eq_some_iff.mp hx
      obtain ⟨z, _, hz⟩ := eA.of ht
      refine ⟨_, rfl, t, rfl, ⟨_, .of (s2 _ _ hz)⟩, fun D2 hD2 => lc_tup (K := K) (a := t) (xs := [.int (z.1 : Int), .int (z.2 : Int)]) (fun i H3 => H3 = upd H2 D2 (.lst [])) rfl (fun i H3 _ e => ?_) (fun i x H3 hx e => ?_) (fun H3 e => ?_)⟩
      · subst e
        exact .of ((same_new hD2) _ _ (s2 _ _ hz))
      · subst e
        obtain ⟨n, rfl⟩ : ∃ n : Int, x = .int n := by
          match i, hx with
          | 0, hx => exact ⟨_, (Option.some.inj hx).symm⟩
          | 1, hx => exact ⟨_, (Option.some.inj hx).symm⟩
        exact ⟨rfl, _, rfl, _, _, _, _, _, rfl, .ty _, .base (.int n), ki_ii, _, rfl, iteF rfl⟩
      subst e
      refine ⟨Nat.zero_le _, fun y2 hy2 => ?_⟩
      have sy2 := same_new (o := .lst []) hy2
      refine ⟨_, _, .lst (.of (sy2 _ _ upd_same)) .nil, .lst (.of upd_same) .nil, rfl, rfl, _, rfl, iteF ?_⟩
      exact ⟨_, rfl, s2.trans ((same_new hD2).trans sy2)⟩
    · rintro σ H2 ⟨v2, rfl, s2⟩
      obtain ⟨m, sh, hm⟩ := PairsAt.show (K := K) (eA.keep fun c xs e => s2 _ _ e) hs
      obtain ⟨m', sh', hm'⟩ := PairsAt.show (K := K) (eB.keep fun c xs e => s2 _ _ e) hs
      have htx := pairs_text l hs hlen
      refine ⟨_, rfl, a, _, _, m, rfl, .of (s2 _ _ ea), sh, by omega, htx, _, rfl, b, _, _, m', rfl, .of (s2 _ _ eb), sh', by omega, htx, rfl, ?_⟩
      show Q (.bl (decide _)) _
      rw [decide_eq_true rfl]
      exact q _ s2
end
end Sp

/-! ### the numbers that are drawn -/
namespace SpP
open PySem PySem.Spec PyProof.Rows L2 SpH MP
def spNumbers : Sp := fun vs H Q _ => ∃ p : Addr, vs = [.ref p] ∧ Hand H p ∧ ∀ (q : Addr) (ns : List Int) (H' : Hp), Off p H H' → Hand H' p → H q = none → H' q = some (.lst (ns.map V.int)) → (∀ n ∈ ns, 1 ≤ n ∧ n ≤ 1000000000) → ns.length = 6 → Q (.ref q) H'
def smalls : List Int := [2, 2, 2, 3, 3, 5, 7, 11, 13, 17, 19, 23, 97, 101, 9973]
def greats : List Int := [31607, 31601, 31583, 30011, 31627, 28657, 999999937, 999999929, 1009]
theorem smalls_ok : ∀ x ∈ smalls, 1 ≤ x ∧ x ≤ 1000000000 := by decide
theorem greats_ok : ∀ x ∈ greats, 1 ≤ x ∧ x ≤ 1000000000 := by decide
theorem tens_ok : ∀ k : Fin 10, 0 < (10 : Int) ^ k.val ∧ (10 : Int) ^ k.val ≤ 1000000000 := by decide
/-- times another one, where it stays small -/
def grow (a b : Int) : Int := a * (if decide (a * b ≤ 10 ^ (9 : Int).toNat) = true then b else 1)
theorem grow_ok {a b : Int} (ha : 1 ≤ a ∧ a ≤ 1000000000) (hb : 1 ≤ b) : 1 ≤ grow a b ∧ grow a b ≤ 1000000000 := by
  unfold grow
  have e : (10 : Int) ^ (9 : Int).toNat = 1000000000 := by decide
  rw [e]
  by_cases h : a * b ≤ 1000000000
  · rw [if_pos (decide_eq_true h)]
    refine ⟨?_, h⟩
    have := Int.mul_le_mul ha.1 hb (by decide) (by omega)
    omega
  · rw [if_neg (fun z => h (of_decide_eq_true z)), Int.mul_one]
    exact ha
end SpP
namespace Sp
open PySem PySem.Spec PyProof.Rows L2 SpG SpR SpEn SpH SpP MP
abbrev sNumbers : Stmt := topS 10
theorem scNumbers : FnScope ["hand", "primes", "great", "number", "turn", "prime", "one", "other", "any_one", "some"] ["hand"] (defScope sNumbers) := ⟨rfl, rfl, rfl, by decide +kernel, rfl, by decide +kernel, by decide +kernel⟩
section
variable {P : Program} {w : World} {K : PySem.W.Frag} {mg : Str → Option Value} {base : Heap}
theorem ok_numbers {f fD fW : Addr} {fd fdD fdW : FuncData} (F : Fun K "_law_numbers" "_law_numbers" sNumbers f fd) (FD : Fun K "_law_draw" "_law_draw" sDraw fD fdD) (bD : Binds K fdD ["hand", "limit"] []) (gD : mg "_law_draw" = some (.ref fD))
    (FW : Fun K "_law_wide" "_law_wide" sWide fW fdW) (bW : Binds K fdW ["hand", "most"] []) (gW : mg "_law_wide" = some (.ref fW)) (mr : mg "range" = none) (mi : mg "int" = none) :
    FnOk P w K mg base CX0 3 f fd ["hand"] spNumbers := by
  have GD : FnOk P w K mg base CX0 1 fD fdD ["hand", "limit"] spDraw := ok_draw FD
  have GW : FnOk P w K mg base CX0 2 fW fdW ["hand", "most"] spWide := ok_wide FW FD bD gD mr
  refine F.ok scNumbers (fun vs H Q E h => ?_) (fun cdv A outer s H vs Q E hr h => ?_)
  · obtain ⟨p, rfl, _⟩ := h
    rfl
  · obtain ⟨p, rfl, hp, q⟩ := h
    have hr1 : Room 1 _ := hr.mono (by decide)
    refine ⟨_, pss_cons (ps_set (i := 1) scNumbers.nd rfl (.inl rfl) (pe_lst (pa_cons pe_int (pa_cons pe_int (pa_cons pe_int (pa_cons pe_int (pa_cons pe_int (pa_cons pe_int (pa_cons pe_int (pa_cons pe_int (pa_cons pe_int (pa_cons pe_int (pa_cons pe_int (pa_cons pe_int (pa_cons pe_int (pa_cons pe_int (pa_cons pe_int pa_nil)))))))))))))))))
      (pss_cons (ps_set (i := 2) scNumbers.nd rfl (.inl rfl) (pe_lst (pa_cons pe_int (pa_cons pe_int (pa_cons pe_int (pa_cons pe_int (pa_cons pe_int (pa_cons pe_int (pa_cons pe_int (pa_cons pe_int (pa_cons pe_int pa_nil)))))))))))
      (pss_cons (ps_set (i := 3) scNumbers.nd rfl (.inl rfl) pe_int)
      (pss_cons (ps_for PassesOwn.never rfl (pi_range1 rfl mr (pa_cons (pe_call GD hr1 (by rfl) gD FD.kp bD .nil pass0 (pa_cons (pv 0) (pa_cons pe_int pa_nil))) pa_nil)) (pg_name (i := 4) scNumbers.nd rfl (.inl rfl))
        (pss_cons (ps_set (i := 5) scNumbers.nd rfl (.inl rfl) (pe_ix ix_list (pv 1) (pe_call GD hr1 (by rfl) gD FD.kp bD .nil pass0 (pa_cons (pv 0) (pa_cons pe_int pa_nil))) (fun _ _ => rfl)))
        (pss_one (ps_set (i := 3) scNumbers.nd rfl (.inl rfl) (pe_op op_mul (pv 3) (pe_ix ix_list (pe_lst (pa_cons pe_int (pa_cons (pv 5) pa_nil))) (pe_callTy call_int1 (by rfl) mi bt_int (pa_cons (pe_cmpR op_le (pe_op op_mul (pv 3) (pv 5)) (pe_op op_pow pe_int pe_int) (nomark _)) pa_nil)) (fun _ _ => rfl)))))))
      (pss_cons (ps_set (i := 6) scNumbers.nd rfl (.inl rfl) (pe_ix ix_list (pv 2) (pe_call GD hr1 (by rfl) gD FD.kp bD .nil pass0 (pa_cons (pv 0) (pa_cons pe_int pa_nil))) (fun _ _ => rfl)))
      (pss_cons (ps_set (i := 7) scNumbers.nd rfl (.inl rfl) (pe_ix ix_list (pv 2) (pe_call GD hr1 (by rfl) gD FD.kp bD .nil pass0 (pa_cons (pv 0) (pa_cons pe_int pa_nil))) (fun _ _ => rfl)))
      (pss_cons (ps_set (i := 8) scNumbers.nd rfl (.inl rfl) (pe_op op_add pe_int (pe_call GW hr (by rfl) gW FW.kp bW .nil pass0 (pa_cons (pv 0) (pa_cons (pe_callTy call_int_str (by rfl) mi bt_int (pa_cons (pe_op op_add_str pe_str (pe_op op_noughts pe_str (pe_op op_add pe_int (pe_call GD hr1 (by rfl) gD FD.kp bD .nil pass0 (pa_cons (pv 0) (pa_cons pe_int pa_nil)))))) pa_nil)) pa_nil)))))
      (pss_cons (ps_set (i := 9) scNumbers.nd rfl (.inl rfl) (pe_lst (pa_cons (pv 3) (pa_cons (pe_op op_add pe_int (pe_call GD hr1 (by rfl) gD FD.kp bD .nil pass0 (pa_cons (pv 0) (pa_cons pe_int pa_nil)))) (pa_cons (pv 8) (pa_cons (pv 6) pa_nil))))))
      (pss_one (ps_ret (pe_op op_cat (pv 9) (pe_lst (pa_cons (pe_op op_mul (pv 6) (pe_ix ix_list (pe_lst (pa_cons pe_int (pa_cons (pv 7) pa_nil))) (pe_callTy call_int1 (by rfl) mi bt_int (pa_cons (pe_cmpR op_le (pe_op op_mul (pv 6) (pv 7)) (pe_op op_pow pe_int pe_int) (nomark _)) pa_nil)) (fun _ _ => rfl)))
        (pa_cons (pe_op op_mul (pv 6) (pe_ix ix_list (pe_lst (pa_cons pe_int (pa_cons (pv 6) pa_nil))) (pe_callTy call_int1 (by rfl) mi bt_int (pa_cons (pe_cmpR op_le (pe_op op_mul (pv 6) (pv 6)) (pe_op op_pow pe_int pe_int) (nomark _)) pa_nil)) (fun _ _ => rfl))) pa_nil))))))))))))), ?_⟩
    -- the two lists
    refine ⟨by show 15 ≤ sizeLine; decide, fun P1 hP1 => ⟨by show 9 ≤ sizeLine; decide, fun P2 hP2 => ?_⟩⟩
    have sP2 := same_new (o := .lst (greats.map V.int)) hP2
    have sm : Same H (upd (upd H P1 (.lst (smalls.map V.int))) P2 (.lst (greats.map V.int))) := (same_new (o := .lst (smalls.map V.int)) hP1).trans sP2
    have np1 : P1 ≠ p := (hp.ne hP1).symm
    have np2 : P2 ≠ p := ((hp.same (same_new hP1)).ne hP2).symm
    have e1 : (upd (upd H P1 (.lst (smalls.map V.int))) P2 (.lst (greats.map V.int))) P1 = some (.lst (smalls.map V.int)) := sP2 _ _ upd_same
    have e2 : (upd (upd H P1 (.lst (smalls.map V.int))) P2 (.lst (greats.map V.int))) P2 = some (.lst (greats.map V.int)) := upd_same
    have hp0 : Hand (upd (upd H P1 (.lst (smalls.map V.int))) P2 (.lst (greats.map V.int))) p := hp.same sm
    generalize hH0 : upd (upd H P1 (.lst (smalls.map V.int))) P2 (.lst (greats.map V.int)) = H0 at sm e1 e2 hp0
    change tSeq _ _ _ _ (upd (upd H P1 (.lst (smalls.map V.int))) P2 (.lst (greats.map V.int)))
    rw [hH0]
    refine ⟨_, rfl, p, 30, rfl, hp0, by decide, by decide, fun g H1 g0 g1 o1 h1 => ?_⟩
    refine ⟨g, rfl, by omega, by omega, for_range (n := g.toNat) (fun i σ H2 => ∃ (n : Int) (v4 v5 : Option V), σ = [some (.ref p), some (.ref P1), some (.ref P2), some (.int n), v4, v5, none, none, none, none] ∧ (1 ≤ n ∧ n ≤ 1000000000) ∧ Off p H0 H2 ∧ Hand H2 p) ⟨1, none, none, rfl, ⟨by decide, by decide⟩, o1, h1⟩ ?_ ?_⟩
    · rintro i σ H2 hi ⟨n, v4, v5, rfl, hn, o2, h2⟩
      refine ⟨_, rfl, _, rfl, p, 15, rfl, h2, by decide, by decide, fun d H3 d0 d1 o3 h3 => ?_⟩
      have o13 := o2.trans o3
      obtain ⟨x, hx, ex⟩ := at_ints (ns := smalls) d0 (by show d < (15 : Nat); omega)
      have hx1 := smalls_ok x hx
      refine ⟨P1, _, d, .int x, rfl, rfl, .of (o13 _ _ np1 e1), ex, ?_⟩
      refine ⟨_, rfl, _, rfl, by show 2 ≤ sizeLine; decide, fun T hT => ⟨_, rfl, _, rfl, n, x, rfl, rfl, .inl ⟨by omega, by omega⟩, 10, 9, rfl, rfl, ⟨by decide, by decide, by decide⟩, _, _, rfl, rfl, .inr ⟨_, rfl, T, _, _, _, rfl, rfl, .of upd_same, at_two _, ?_⟩⟩⟩
      refine ⟨n, (if decide (n * x ≤ 10 ^ (9 : Int).toNat) = true then x else 1), rfl, ?_, .inl ⟨by omega, by omega⟩, grow n x, _, _, rfl, grow_ok hn hx1.1, o13.newp hT, h3.same (same_new hT)⟩
      split <;> rfl
    · rintro σ H2 ⟨n, v4, v5, rfl, hn, o2, h2⟩
      refine ⟨_, rfl, _, rfl, p, 9, rfl, h2, by decide, by decide, fun d H3 d0 d1 o3 h3 => ?_⟩
      have oa := o2.trans o3
      obtain ⟨x, hx, ex⟩ := at_ints (ns := greats) d0 (by show d < (9 : Nat); omega)
      have hx1 := greats_ok x hx
      refine ⟨P2, _, d, .int x, rfl, rfl, .of (oa _ _ np2 e2), ex, ?_⟩
      refine ⟨_, rfl, _, rfl, p, 9, rfl, h3, by decide, by decide, fun d' H4 d0' d1' o4 h4 => ?_⟩
      have ob := oa.trans o4
      obtain ⟨y, hy, ey⟩ := at_ints (ns := greats) d0' (by show d' < (9 : Nat); omega)
      have hy1 := greats_ok y hy
      refine ⟨P2, _, d', .int y, rfl, rfl, .of (ob _ _ np2 e2), ey, ?_⟩
      -- any one
      refine ⟨_, rfl, _, rfl, p, 9, rfl, h4, by decide, by decide, fun c H5 c0 c1 o5 h5 => ?_⟩
      have oc := ob.trans o5
      obtain ⟨hw1, hw2, hw3⟩ := power_text ⟨(1 + c).toNat, by omega⟩ (by show 1 ≤ (1 + c).toNat; omega)
      refine ⟨1, c, rfl, rfl, (1 + c).toNat, rfl, by show V.int (1 + c) = V.int (((1 + c).toNat : Nat) : Int); rw [Int.toNat_of_nonneg (by omega)], by omega, by omega, _, _, rfl, rfl, ?_, _, _, rfl, hw1, ?_, p, _, rfl, h5, ?_, fun m H6 m0 m1 o6 h6 => ?_⟩
      · have : ("1" : Str).length = 1 := by decide +kernel
        have hw4 : (noughts (1 + c).toNat).length ≤ 18 := hw3
        have : sizeLine = 16777216 := rfl
        omega
      · exact Nat.le_trans hw2 (by decide)
      · exact (tens_ok ⟨(1 + c).toNat, by omega⟩).1
      have hm : 1 + m ≤ 1000000000 := by
        have := (tens_ok ⟨(1 + c).toNat, by omega⟩).2
        have m2 : m < (10 : Int) ^ (1 + c).toNat := m1
        have m3 : (10 : Int) ^ (1 + c).toNat ≤ 1000000000 := this
        omega
      have od := oc.trans o6
      refine ⟨1, m, rfl, rfl, ?_⟩
      -- the first four
      refine ⟨_, rfl, _, rfl, p, 400, rfl, h6, by decide, by decide, fun z H7 z0 z1 o7 h7 => ⟨1, z, rfl, rfl, _, rfl, _, rfl, by show 4 ≤ sizeLine; decide, fun S hS => ?_⟩⟩
      have oe := od.trans o7
      have of' := oe.newp (o := .lst [.int n, .int (1 + z), .int (1 + m), .int x]) hS
      have hS2 := same_new (o := .lst [.int n, .int (1 + z), .int (1 + m), .int x]) hS
      have hf := h7.same hS2
      -- the last two
      refine ⟨_, rfl, _, rfl, _, rfl, by show 2 ≤ sizeLine; decide, fun T hT => ⟨_, rfl, _, rfl, x, y, rfl, rfl, .inl ⟨by omega, by omega⟩, 10, 9, rfl, rfl, ⟨by decide, by decide, by decide⟩, _, _, rfl, rfl, .inr ⟨_, rfl, T, _, _, _, rfl, rfl, .of upd_same, at_two _, ?_⟩⟩⟩
      have sT := same_new (o := .lst [.int 1, .int y]) hT
      refine ⟨x, (if decide (x * y ≤ 10 ^ (9 : Int).toNat) = true then y else 1), rfl, (by split <;> rfl), .inl ⟨by omega, by omega⟩, ?_⟩
      refine ⟨_, rfl, _, rfl, by show 2 ≤ sizeLine; decide, fun T' hT' => ⟨_, rfl, _, rfl, x, x, rfl, rfl, .inl ⟨by omega, by omega⟩, 10, 9, rfl, rfl, ⟨by decide, by decide, by decide⟩, _, _, rfl, rfl, .inr ⟨_, rfl, T', _, _, _, rfl, rfl, .of upd_same, at_two _, ?_⟩⟩⟩
      have sT' := same_new (o := .lst [.int 1, .int x]) hT'
      refine ⟨x, (if decide (x * x ≤ 10 ^ (9 : Int).toNat) = true then x else 1), rfl, (by split <;> rfl), .inl ⟨by omega, by omega⟩, ?_⟩
      refine ⟨by show 2 ≤ sizeLine; decide, fun U hU => ?_⟩
      have sU := same_new (o := .lst [.int (grow x y), .int (grow x x)]) hU
      refine ⟨S, U, _, _, rfl, rfl, (sT.trans (sT'.trans sU)) _ _ upd_same, upd_same, by show 4 + 2 ≤ sizeLine; decide, fun R hR => ?_⟩
      have sR := same_new (o := .lst [.int n, .int (1 + z), .int (1 + m), .int x, .int (grow x y), .int (grow x x)]) hR
      have sA := sT.trans (sT'.trans (sU.trans sR))
      have gx := grow_ok hx1 hy1.1
      have gxx := grow_ok hx1 hx1.1
      refine q R [n, 1 + z, 1 + m, x, grow x y, grow x x] _ ((Off.of sm).trans (of'.trans (.of sA))) (hf.same sA) ?_ upd_same ?_ rfl
      · have n1 : R ≠ p := (hf.same (sT.trans (sT'.trans sU))).ne hR |>.symm
        exact ((Off.of sm).trans (of'.trans (.of (sT.trans (sT'.trans sU))))).free n1 hR
      · intro a ha
        simp only [List.mem_cons, List.not_mem_nil, or_false] at ha
        rcases ha with rfl | rfl | rfl | rfl | rfl | rfl
        · exact hn
        · omega
        · omega
        · exact hx1
        · exact gx
        · exact gxx
end
end Sp

/-! ### the law -/
namespace Sp
open PySem PySem.Spec PyProof.Rows L2 SpG SpR SpEn SpH SpP MP
abbrev sLaw : Stmt := topS 11
theorem scLaw : FnScope ["script", "k", "cell", "hand", "number", "due", "told"] ["script"] (defScope sLaw) := ⟨rfl, rfl, rfl, by decide +kernel, rfl, by decide +kernel, by decide +kernel⟩
section
variable {P : Program} {w : World} {K : PySem.W.Frag} {mg : Str → Option Value} {base : Heap}
theorem ok_law {f fC fH fN fD fW fL fP fG fS : Addr} {fd fdC fdH fdN fdD fdW fdL fdP fdG fdS : FuncData} (hdg : base.NoDigits) (F : Fun K "law" "law" sLaw f fd)
    (FC : Fun K "_law_cells" "_law_cells" sCells fC fdC) (bC : Binds K fdC ["script", "many"] []) (gC : mg "_law_cells" = some (.ref fC))
    (FH : Fun K "_law_hand" "_law_hand" sHand fH fdH) (bH : Binds K fdH ["cell", "k"] []) (gH : mg "_law_hand" = some (.ref fH))
    (FN : Fun K "_law_numbers" "_law_numbers" sNumbers fN fdN) (bN : Binds K fdN ["hand"] []) (gN : mg "_law_numbers" = some (.ref fN))
    (FD : Fun K "_law_draw" "_law_draw" sDraw fD fdD) (bD : Binds K fdD ["hand", "limit"] []) (gD : mg "_law_draw" = some (.ref fD))
    (FW : Fun K "_law_wide" "_law_wide" sWide fW fdW) (bW : Binds K fdW ["hand", "most"] []) (gW : mg "_law_wide" = some (.ref fW))
    (FL : Fun K "_law_parts" "_law_parts" sLParts fL fdL) (bL : Binds K fdL ["number"] []) (gL : mg "_law_parts" = some (.ref fL))
    (FP : Fun K "parts_of" "parts_of" sParts fP fdP) (bP : Binds K fdP ["number"] []) (gP : mg "parts_of" = some (.ref fP))
    (FG : Fun K "greatest_part" "greatest_part" sGreatest fG fdG) (bG : Binds K fdG ["number"] []) (gG : mg "greatest_part" = some (.ref fG))
    (FS : Fun K "_law_same" "_law_same" sSame fS fdS) (bS : Binds K fdS ["found", "due"] []) (gS : mg "_law_same" = some (.ref fS))
    (mr : mg "range" = none) (mi : mg "int" = none) (ml : mg "list" = none) (me : mg "enumerate" = none) (mt : mg "tuple" = none) (mb : mg "bool" = none) (mis : mg "isinstance" = none) (mrp : mg "repr" = none) :
    FnOkG P w K mg base CX0 4 f fd ["script"] (spLaw K) := by
  have GC : FnOk P w K mg base CX0 1 fC fdC ["script", "many"] (spCells K) := ok_cells FC mi ml me
  have GH : FnOk P w K mg base CX0 1 fH fdH ["cell", "k"] spHand := ok_hand FH
  have GN : FnOk P w K mg base CX0 3 fN fdN ["hand"] spNumbers := ok_numbers FN FD bD gD FW bW gW mr mi
  have GL : FnOk P w K mg base CX0 1 fL fdL ["number"] spLParts := ok_lparts FL mi
  have GP : FnOk P w K mg base CX0 1 fP fdP ["number"] spParts := ok_parts FP
  have GG : FnOk P w K mg base CX0 2 fG fdG ["number"] spGreatest := ok_greatest FG FP bP gP
  have GS : FnOkG P w K mg base CX0 1 fS fdS ["found", "due"] spSame := ok_same hdg FS mis ml mt mi mrp
  refine okG F scLaw (fun vs H Q E h => ?_) (fun cdv A outer s H vs Q E hgu hr h => ?_)
  · obtain ⟨a, ns, rfl, _⟩ := h
    rfl
  · obtain ⟨a, ns, rfl, hS, hl, q⟩ := h
    have hr1 : Room 1 _ := hr.mono (by decide)
    have hr2 : Room 2 _ := hr.mono (by decide)
    have hr3 : Room 3 _ := hr.mono (by decide)
    refine ⟨_, (pss_cons (ps_for PassesOwn.never rfl (pi_list (pe_call GC hr1 (by rfl) gC FC.kp bC .nil pass0 (pa_cons (pv 0) (pa_cons pe_int pa_nil)))) (pg_tup rfl (pgs_cons (pg_name (i := 1) scLaw.nd rfl (Or.inl rfl)) (pgs_cons (pg_name (i := 2) scLaw.nd rfl (Or.inl rfl)) pgs_nil))) (pss_cons (ps_set (i := 3) scLaw.nd rfl (.inl rfl) (pe_call GH hr1 (by rfl) gH FH.kp bH .nil pass0 (pa_cons (pv 2) (pa_cons (pv 1) pa_nil))))
      (pss_one (ps_for PassesOwn.never rfl (pi_list (pe_slice (sllK K) (pe_call GN hr3 (by rfl) gN FN.kp bN .nil pass0 (pa_cons (pv 3) pa_nil)) po_none (po_some (pe_ix (ixlK K) (pe_lst (pa_cons pe_int (pa_cons pe_int pa_nil))) (pe_callTy call_int1 (by rfl) mi bt_int (pa_cons (pe_cmpR op_gt (pv 1) pe_int (nomark _)) pa_nil)) (fun _ _ => rfl))))) (pg_name (i := 4) scLaw.nd rfl (Or.inl rfl)) (pss_cons (ps_set (i := 5) scLaw.nd rfl (.inl rfl) (pe_call GL hr1 (by rfl) gL FL.kp bL .nil pass0 (pa_cons (pv 4) pa_nil)))
      (pss_cons (ps_set (i := 6) scLaw.nd rfl (.inl rfl) (pe_call GP hr1 (by rfl) gP FP.kp bP .nil pass0 (pa_cons (pv 4) pa_nil)))
      (pss_cons (ps_if (PW.pt (pw_or (pt_not (pt_val (pe_callG GS hgu hr1 (by rfl) gS FS.kp bS pass0 (pa_cons (pv 6) (pa_cons (pv 5) pa_nil))))) (pw_or1 (pt_val (pe_callB (isiK K) (by rfl) mis bt_isi (pa_cons (pe_call GG hr2 (by rfl) gG FG.kp bG .nil pass0 (pa_cons (pv 4) pa_nil)) (pa_cons (pe_bltn (v := .ty "bool") (by rfl) mb bt_bool rfl) pa_nil))))))) (pss_one (ps_ret pe_bl)) pss_nil)
      (pss_cons (ps_if (pt_cmpR op_ne (pe_call GG hr2 (by rfl) gG FG.kp bG .nil pass0 (pa_cons (pv 4) pa_nil)) (pe_ix (ixtK K) (pe_ix (ixlK K) (pe_op op_cat (pe_lst (pa_cons (pe_tup (pa_cons pe_int (pa_cons pe_int pa_nil))) pa_nil)) (pv 5)) (pe_un un_neg pe_int) (fun _ _ => rfl)) pe_int (fun _ _ => rfl)) (nomark _)) (pss_one (ps_ret pe_bl)) pss_nil)
      (pss_cons (ps_expr (pe_bm PySem.F.plainAttrs_list PySem.F.slot_list_append PySem.F.type_list_append mt_append (pv 6) (pa_cons (pe_tup (pa_cons pe_int (pa_cons pe_int pa_nil))) pa_nil)))
      (pss_one (ps_if (pt_not (pt_val (pe_callG GS hgu hr1 (by rfl) gS FS.kp bS pass0 (pa_cons (pe_call GP hr1 (by rfl) gP FP.kp bP .nil pass0 (pa_cons (pv 4) pa_nil)) (pa_cons (pv 5) pa_nil))))) (pss_one (ps_ret pe_bl)) pss_nil)))))))))))
      (pss_cons (ps_if (PW.pt (pw_or (pt_cmpR (op_neD hr.units) (pe_call GP hr1 (by rfl) gP FP.kp bP .nil pass0 (pa_cons pe_int pa_nil)) (pe_lst pa_nil) (nomark _)) (pw_or1 (pt_cmpR op_ne (pe_call GG hr2 (by rfl) gG FG.kp bG .nil pass0 (pa_cons pe_int pa_nil)) pe_int (nomark _))))) (pss_one (ps_ret pe_bl)) pss_nil)
      (pss_one (ps_ret (pe_and (pe_cmpR (op_eqD hr.units) (pe_call GP hr1 (by rfl) gP FP.kp bP .nil pass0 (pa_cons pe_int pa_nil)) (pe_lst (pa_cons (pe_tup (pa_cons pe_int (pa_cons pe_int pa_nil))) (pa_cons (pe_tup (pa_cons pe_int (pa_cons pe_int pa_nil))) pa_nil))) (nomark _)) (pe_one (pe_cmpR op_eq (pe_call GG hr2 (by rfl) gG FG.kp bG .nil pass0 (pa_cons pe_int pa_nil)) pe_int (nomark _)))))))), ?_⟩
    -- the cells
    refine ⟨_, rfl, a, ns, 12, rfl, hS, hl, fun H1 pc ts cs s1 n1 ec hcs hts hcells => ?_⟩
    refine ⟨pc, rfl, ⟨_, .of ec⟩, for_list (K := K) (a := pc) (xs := ts.map V.ref) (fun i σ H2 => ∃ v1 v2 v3 v4 v5 v6 : Option V, σ = [some (.ref a), v1, v2, v3, v4, v5, v6] ∧ Same H1 H2) ⟨none, none, none, none, none, none, rfl, Same.refl _⟩ (fun i σ H2 _ ⟨_, _, _, _, _, _, _, s2⟩ => .of (s2 _ _ ec)) ?_ ?_⟩
    · rintro i x σ H2 hx ⟨v1, v2, v3, v4, v5, v6, rfl, s2⟩
      rw [List.getElem?_map] at hx
      obtain ⟨t, ht, rfl⟩ := Option.map_eq_some_iff.mp hx
      obtain ⟨c, _, hc⟩ := hcells i t ht
      refine ⟨t, _, rfl, .of (s2 _ _ hc), rfl, _, _, rfl, _, _, rfl, rfl, ?_⟩
      -- the hand
      refine ⟨_, rfl, _, rfl, c, i, rfl, fun ph H3 nh s3 hh => ?_⟩
      -- the numbers
      refine ⟨_, rfl, ph, rfl, hh, fun pn nums H4 o4 hh4 nn en hnums hlen => ?_⟩
      have s4 : Same H1 H4 := fun b o e => o4 b o (ne_of_none ((s2 _ _ e)) nh) (s3 _ _ (s2 _ _ e))
      refine ⟨by show 2 ≤ sizeLine; decide, fun T hT => ?_⟩
      have sT := same_new (o := .lst [.int 6, .int 2]) hT
      refine ⟨_, rfl, _, _, rfl, rfl, .inr ⟨_, rfl, T, _, _, _, rfl, rfl, .of upd_same, at_two_int _, _, rfl, pn, _, rfl, .of (sT _ _ en), fun L hL => ?_⟩⟩
      rw [cut_to_int _ (by split <;> decide), ← List.map_take]
      generalize hk : (if decide ((3 : Int) < (i : Int)) = true then (2 : Int) else 6).toNat = kk
      have sL := same_new (o := .lst ((nums.take kk).map V.int)) hL
      have s5 := s4.trans (sT.trans sL)
      refine ⟨L, rfl, ⟨_, .of upd_same⟩, for_list (K := K) (a := L) (xs := (nums.take kk).map V.int) (fun j σ H6 => ∃ v4 v5 v6 : Option V, σ = [some (.ref a), some (.int (i : Int)), some (.int c), some (.ref ph), v4, v5, v6] ∧ Same _ H6) ⟨v4, v5, v6, rfl, Same.refl _⟩ (fun j σ H6 _ ⟨_, _, _, _, s6⟩ => .of (s6 _ _ upd_same)) ?_ ?_⟩
      · rintro j x σ H6 hx ⟨w4, w5, w6, rfl, s6⟩
        obtain ⟨z, hz, rfl⟩ := ints_at hx
        have hz1 := hnums z (List.mem_of_mem_take (List.mem_of_getElem? hz))
        obtain ⟨N, rfl⟩ : ∃ N : Nat, z = (N : Int) := ⟨z.toNat, by omega⟩
        have N1 : 1 ≤ N := by omega
        have N9 : N ≤ 1000000000 := by omega
        -- due, told
        refine ⟨_, rfl, N, rfl, N1, N9, fun pd H7 l s7 nd hd hlf => ?_⟩
        refine ⟨_, rfl, N, rfl, N1, N9, fun pt H8 l' s8 nt ht' hpf => ?_⟩
        have el := hpf.one (by decide) (hlf.pf (.inl rfl))
        subst el
        obtain ⟨hsm, hpw⟩ := hpf.small (by decide) N1
        have hl30 : l'.length ≤ 1000 := by
          have := pow_len (k := l'.length) (n := 1) (by rw [Nat.mul_one]; exact hpw) (by decide) N9
          omega
        have hsz : ∀ x ∈ l', x.1 < 2 ^ 30 ∧ x.2 < 2 ^ 30 := fun x hx => by
          obtain ⟨_, b, c⟩ := hsm x hx
          have : (2 : Nat) ^ 30 = 1073741824 := by decide
          omega
        refine ⟨_, rfl, _, rfl, pt, pd, l', rfl, ht', hd.same s8, hsz, hl30, fun H9 s9 => ⟨_, rfl, iteF ?_⟩⟩
        refine ⟨_, rfl, N, rfl, N1, N9, fun H10 l2 s10 hpf2 => ?_⟩
        refine ⟨_, _, _, _, _, rfl, .ty _, .base (.int _), ki_ib, _, rfl, iteF ?_⟩
        -- the greatest
        refine ⟨_, rfl, N, rfl, N1, N9, fun H11 l3 s11 hpf3 => ?_⟩
        have e3 := hpf3.one (by decide) hpf
        subst e3
        have s711 : Same H7 H11 := s8.trans (s9.trans (s10.trans s11))
        have hd11 := hd.same s711
        obtain ⟨ds, ed, eD⟩ := hd11
        refine ⟨by show 2 ≤ sizeLine; decide, fun U hU => ⟨by show 1 ≤ sizeLine; decide, fun W hW => ?_⟩⟩
        have sU := same_new (o := .tup [.int 1, .int 1]) hU
        have sW := same_new (o := .lst [.ref U]) hW
        refine ⟨_, rfl, W, pd, _, _, rfl, rfl, upd_same, sW _ _ (sU _ _ ed), ?_, fun Y hY => ?_⟩
        · rw [List.length_map, eD.len]
          have : sizeLine = 16777216 := rfl
          show 1 + l3.length ≤ sizeLine
          omega
        have sY := same_new (o := .lst (.ref U :: ds.map V.ref)) hY
        have hUD : PairsAt (upd (upd (upd H11 U (.tup [.int 1, .int 1])) W (.lst [.ref U])) Y (.lst (.ref U :: ds.map V.ref))) (U :: ds) ((1, 1) :: l3) := ⟨sY _ _ (sW _ _ upd_same), eD.keep fun b xs e => sY _ _ (sW _ _ (sU _ _ e))⟩
        obtain ⟨r1, y, hy⟩ : ∃ r1 y, (1, 1) :: l3 = r1 ++ [y] := ⟨((1, 1) :: l3).dropLast, ((1, 1) :: l3).getLast (List.cons_ne_nil _ _), (List.dropLast_concat_getLast _).symm⟩
        obtain ⟨tl, e1, e2⟩ := hUD.get (j := r1.length) (x := y) (by rw [hy]; simp)
        have hts2 : (U :: ds).length = r1.length + 1 := by rw [hUD.len, hy]; simp
        have e4 : U :: ds = (U :: ds).take r1.length ++ [tl] := by
          have := take_more e1
          rw [← this, List.take_of_length_le (by omega)]
        have e5 : lastP l3 = y.1 := by
          unfold lastP
          cases l3 with
          | nil =>
            have : r1 = [] ∧ y = (1, 1) := by
              cases r1 with
              | nil => exact ⟨rfl, (List.cons.inj hy).1.symm⟩
              | cons u v => have := congrArg List.length hy; simp at this
            rw [this.2]
            rfl
          | cons u v =>
            have h6 : ((1, 1) :: u :: v).getLast? = some y := by rw [hy]; simp
            rw [List.getLast?_cons_cons] at h6
            rw [h6]
        refine ⟨1, rfl, Y, _, -1, .ref tl, rfl, rfl, .of upd_same, ?_, tl, _, 0, .int (y.1 : Int), rfl, rfl, .of e2, atI_nat (j := 0) rfl, rfl, _, rfl, iteNS ?_ ?_⟩
        · show atI ((U :: ds).map V.ref) (-1) = some (.ref tl)
          rw [e4, List.map_append]
          exact atI_last _ _
        · rw [e5]
        -- told is changed
        have s12 := s711.trans (sU.trans (sW.trans sY))
        have s812 := s9.trans (s10.trans (s11.trans (sU.trans (sW.trans sY))))
        obtain ⟨us, eu, eU⟩ := ht'
        refine ⟨_, rfl, .inl ⟨rfl, _, SqL.of (s812 _ _ eu)⟩, by show 2 ≤ sizeLine; decide, fun Z hZ => ?_⟩
        have sZ := same_new (o := .tup [.int 2, .int 1]) hZ
        refine ⟨pt, _, _, rfl, rfl, sZ _ _ (s812 _ _ eu), ?_, ?_⟩
        · rw [List.length_map, eU.len]
          exact small1000 hl30
        have o7 : Off pt H7 (upd (upd (upd (upd (upd H11 U (.tup [.int 1, .int 1])) W (.lst [.ref U])) Y (.lst (.ref U :: ds.map V.ref))) Z (.tup [.int 2, .int 1])) pt (.lst (us.map V.ref ++ [.ref Z]))) := (Off.of (s12.trans sZ)).trans .put
        have hdpt : pd ≠ pt := by
          obtain ⟨zs, ez, _⟩ := id hd
          exact ne_of_none ez nt
        have hd13 := hd.off o7 hdpt (fun xs e => by rw [nt] at e; cases e)
        have s613 := s7.trans (o7.same nt)
        refine ⟨_, rfl, N, rfl, N1, N9, fun pt2 H14 l4 s14 n14 ht14 hpf4 => ⟨_, rfl, ?_⟩⟩
        have e7 := hpf4.one (by decide) hpf
        subst e7
        refine ⟨pt2, pd, l4, rfl, ht14, hd13.same s14, hsz, hl30, fun H15 s15 => ⟨_, rfl, iteF ?_⟩⟩
        exact ⟨_, _, _, rfl, s6.trans (s613.trans (s14.trans s15))⟩
      · rintro σ H6 ⟨w4, w5, w6, rfl, s6⟩
        exact ⟨_, _, _, _, _, _, rfl, s5.trans s6⟩
    · rintro σ H2 ⟨v1, v2, v3, v4, v5, v6, rfl, s2⟩
      -- parts_of(1), greatest_part(1)
      refine ⟨1, rfl, by decide, by decide, fun p1 H3 l s3 np ⟨us, eu, eU⟩ hpf => ?_⟩
      have e1 := hpf.of_one
      subst e1
      have e2 : us = [] := List.length_eq_zero_iff.mp eU.len
      subst e2
      refine ⟨Nat.zero_le _, fun U hU => ?_⟩
      have sU := same_new (o := .lst []) hU
      refine ⟨_, _, .lst (.of (sU _ _ eu)) .nil, .lst (.of upd_same) .nil, rfl, rfl, _, rfl, iteF ?_⟩
      refine ⟨1, rfl, by decide, by decide, fun H4 l4 s4 hpf4 => ?_⟩
      have e4 := hpf4.of_one
      subst e4
      refine ⟨rfl, _, rfl, iteNS rfl ?_⟩
      -- parts_of(12), greatest_part(98)
      refine ⟨12, rfl, by decide, by decide, fun p2 H5 l5 s5 np2 ⟨ws, ew, eW⟩ hpf5 => ?_⟩
      have e5 := hpf5.one (by decide) pf12
      subst e5
      refine ⟨by show 2 ≤ sizeLine; decide, fun X1 h1 => ⟨by show 2 ≤ sizeLine; decide, fun X2 h2 => ⟨by show 2 ≤ sizeLine; decide, fun X3 h3 => ?_⟩⟩⟩
      have t1 := same_new (o := .tup [.int 2, .int 2]) h1
      have t2 := same_new (o := .tup [.int 3, .int 1]) h2
      have t3 := same_new (o := .lst [.ref X1, .ref X2]) h3
      have t4 := t1.trans (t2.trans t3)
      refine ⟨_, _, .lst (.of (t4 _ _ ew)) (dpAll_pairs K (eW.keep fun b xs e => t4 _ _ e)), .lst (.of upd_same) (.cons (.tup (.of (t3 _ _ (t2 _ _ upd_same))) (.cons (.int 2) (.cons (.int 2) .nil))) (.cons (.tup (.of (t3 _ _ upd_same)) (.cons (.int 3) (.cons (.int 1) .nil))) .nil)), by decide, by decide, _, rfl, ?_⟩
      have e6 : PyData.eqv (.list ((([(2, 2), (3, 1)] : List (Nat × Nat)).map fun x => PyData.tuple [.int (x.1 : Int), .int (x.2 : Int)]))) (.list [.tuple [.int 2, .int 2], .tuple [.int 3, .int 1]]) = true := by decide
      rw [e6]
      refine iteT ⟨98, rfl, by decide, by decide, fun H6 l6 s6 hpf6 => ?_⟩
      have e7 := hpf6.one (by decide) pf98
      subst e7
      refine ⟨rfl, ?_⟩
      exact q _
end
end Sp

/-! ### what the top has written; the head -/
namespace Sp
open PySem PySem.Spec PyProof.Rows L2 SpG SpR SpEn SpH
theorem all_mk {l : PySem.W.OpenLaw} {w : World} {K : PySem.W.Frag} {h : Heap} {mg : Str → Option Value} {fa f0 f1 f2 f3 f4 f5 f6 f7 f8 f9 : Addr} (X : K.In h) (G : h.Ns mainGlobals mg) (hfa : mg "law" = some (.ref fa))
    {od0 an0 od1 an1 od2 an2 od3 an3 od4 an4 od5 an5 od6 an6 od7 an7 od8 an8 od9 an9 : Option Addr} {sl0 sl1 sl2 sl3 sl4 sl5 sl6 sl7 sl8 sl9 : Array (Option Value)} {oc0 kV0 dc0 pm0 cd0 ct0 oc1 kV1 dc1 pm1 cd1 ct1 oc2 kV2 dc2 pm2 cd2 ct2 oc3 kV3 dc3 pm3 cd3 ct3 oc4 kV4 dc4 pm4 cd4 ct4 oc5 kV5 dc5 pm5 cd5 ct5 oc6 kV6 dc6 pm6 cd6 ct6 oc7 kV7 dc7 pm7 cd7 ct7 oc8 kV8 dc8 pm8 cd8 ct8 oc9 kV9 dc9 pm9 cd9 ct9 : Value}
    (a0 : PySem.W.nsIn K mainGlobals "_law_cells" = some (some (.ref f0))) (l0 : K.lookup f0 = some ⟨oc0, od0, .func (PySem.W.fnOf "_law_cells" "_law_cells" (defArgs sCells) (defBody sCells) (defScope sCells) .none kV0 dc0 pm0 an0 cd0 ct0), sl0⟩) (c0 : PySem.W.codeIn K cd0 "_law_cells" = true) (k0 : PySem.W.keepIn K (.ref f0) = true)
    (a1 : PySem.W.nsIn K mainGlobals "_law_hand" = some (some (.ref f1))) (l1 : K.lookup f1 = some ⟨oc1, od1, .func (PySem.W.fnOf "_law_hand" "_law_hand" (defArgs sHand) (defBody sHand) (defScope sHand) .none kV1 dc1 pm1 an1 cd1 ct1), sl1⟩) (c1 : PySem.W.codeIn K cd1 "_law_hand" = true) (k1 : PySem.W.keepIn K (.ref f1) = true)
    (a2 : PySem.W.nsIn K mainGlobals "_law_numbers" = some (some (.ref f2))) (l2 : K.lookup f2 = some ⟨oc2, od2, .func (PySem.W.fnOf "_law_numbers" "_law_numbers" (defArgs sNumbers) (defBody sNumbers) (defScope sNumbers) .none kV2 dc2 pm2 an2 cd2 ct2), sl2⟩) (c2 : PySem.W.codeIn K cd2 "_law_numbers" = true) (k2 : PySem.W.keepIn K (.ref f2) = true)
    (a3 : PySem.W.nsIn K mainGlobals "_law_draw" = some (some (.ref f3))) (l3 : K.lookup f3 = some ⟨oc3, od3, .func (PySem.W.fnOf "_law_draw" "_law_draw" (defArgs sDraw) (defBody sDraw) (defScope sDraw) .none kV3 dc3 pm3 an3 cd3 ct3), sl3⟩) (c3 : PySem.W.codeIn K cd3 "_law_draw" = true) (k3 : PySem.W.keepIn K (.ref f3) = true)
    (a4 : PySem.W.nsIn K mainGlobals "_law_wide" = some (some (.ref f4))) (l4 : K.lookup f4 = some ⟨oc4, od4, .func (PySem.W.fnOf "_law_wide" "_law_wide" (defArgs sWide) (defBody sWide) (defScope sWide) .none kV4 dc4 pm4 an4 cd4 ct4), sl4⟩) (c4 : PySem.W.codeIn K cd4 "_law_wide" = true) (k4 : PySem.W.keepIn K (.ref f4) = true)
    (a5 : PySem.W.nsIn K mainGlobals "_law_parts" = some (some (.ref f5))) (l5 : K.lookup f5 = some ⟨oc5, od5, .func (PySem.W.fnOf "_law_parts" "_law_parts" (defArgs sLParts) (defBody sLParts) (defScope sLParts) .none kV5 dc5 pm5 an5 cd5 ct5), sl5⟩) (c5 : PySem.W.codeIn K cd5 "_law_parts" = true) (k5 : PySem.W.keepIn K (.ref f5) = true)
    (a6 : PySem.W.nsIn K mainGlobals "parts_of" = some (some (.ref f6))) (l6 : K.lookup f6 = some ⟨oc6, od6, .func (PySem.W.fnOf "parts_of" "parts_of" (defArgs sParts) (defBody sParts) (defScope sParts) .none kV6 dc6 pm6 an6 cd6 ct6), sl6⟩) (c6 : PySem.W.codeIn K cd6 "parts_of" = true) (k6 : PySem.W.keepIn K (.ref f6) = true)
    (a7 : PySem.W.nsIn K mainGlobals "greatest_part" = some (some (.ref f7))) (l7 : K.lookup f7 = some ⟨oc7, od7, .func (PySem.W.fnOf "greatest_part" "greatest_part" (defArgs sGreatest) (defBody sGreatest) (defScope sGreatest) .none kV7 dc7 pm7 an7 cd7 ct7), sl7⟩) (c7 : PySem.W.codeIn K cd7 "greatest_part" = true) (k7 : PySem.W.keepIn K (.ref f7) = true)
    (a8 : PySem.W.nsIn K mainGlobals "_law_same" = some (some (.ref f8))) (l8 : K.lookup f8 = some ⟨oc8, od8, .func (PySem.W.fnOf "_law_same" "_law_same" (defArgs sSame) (defBody sSame) (defScope sSame) .none kV8 dc8 pm8 an8 cd8 ct8), sl8⟩) (c8 : PySem.W.codeIn K cd8 "_law_same" = true) (k8 : PySem.W.keepIn K (.ref f8) = true)
    (a9 : PySem.W.nsIn K mainGlobals "law" = some (some (.ref f9))) (l9 : K.lookup f9 = some ⟨oc9, od9, .func (PySem.W.fnOf "law" "law" (defArgs sLaw) (defBody sLaw) (defScope sLaw) .none kV9 dc9 pm9 an9 cd9 ct9), sl9⟩) (c9 : PySem.W.codeIn K cd9 "law" = true) (k9 : PySem.W.keepIn K (.ref f9) = true)
    (z0 : PySem.W.nsIn K mainGlobals "range" = some none)
    (z1 : PySem.W.nsIn K mainGlobals "int" = some none)
    (z2 : PySem.W.nsIn K mainGlobals "list" = some none)
    (z3 : PySem.W.nsIn K mainGlobals "enumerate" = some none)
    (z4 : PySem.W.nsIn K mainGlobals "tuple" = some none)
    (z5 : PySem.W.nsIn K mainGlobals "bool" = some none)
    (z6 : PySem.W.nsIn K mainGlobals "isinstance" = some none)
    (z7 : PySem.W.nsIn K mainGlobals "repr" = some none)
    : ∃ fd : FuncData, (∀ (s : Shared) (v : Value), BindsTo s fd ⟨[v], []⟩ [("script", v)]) ∧ ∀ base : Heap, K.In base → base.Ns mainGlobals mg → base.NoDigits → FnOkG l.prog w K mg base CX0 4 fa fd ["script"] (spLaw K) := by
  have e := hfa.symm.trans (PySem.W.mg_of X G a9)
  cases e
  have F0 := fun_mk (st := sCells) l0 c0 k0
  have b0 := F0.binds (ps := ["script", "many"]) fun _ _ _ _ _ _ us hl => match us, hl with | [_, _], _ => rfl
  have F1 := fun_mk (st := sHand) l1 c1 k1
  have b1 := F1.binds (ps := ["cell", "k"]) fun _ _ _ _ _ _ us hl => match us, hl with | [_, _], _ => rfl
  have F2 := fun_mk (st := sNumbers) l2 c2 k2
  have b2 := F2.binds (ps := ["hand"]) fun _ _ _ _ _ _ us hl => match us, hl with | [_], _ => rfl
  have F3 := fun_mk (st := sDraw) l3 c3 k3
  have b3 := F3.binds (ps := ["hand", "limit"]) fun _ _ _ _ _ _ us hl => match us, hl with | [_, _], _ => rfl
  have F4 := fun_mk (st := sWide) l4 c4 k4
  have b4 := F4.binds (ps := ["hand", "most"]) fun _ _ _ _ _ _ us hl => match us, hl with | [_, _], _ => rfl
  have F5 := fun_mk (st := sLParts) l5 c5 k5
  have b5 := F5.binds (ps := ["number"]) fun _ _ _ _ _ _ us hl => match us, hl with | [_], _ => rfl
  have F6 := fun_mk (st := sParts) l6 c6 k6
  have b6 := F6.binds (ps := ["number"]) fun _ _ _ _ _ _ us hl => match us, hl with | [_], _ => rfl
  have F7 := fun_mk (st := sGreatest) l7 c7 k7
  have b7 := F7.binds (ps := ["number"]) fun _ _ _ _ _ _ us hl => match us, hl with | [_], _ => rfl
  have F8 := fun_mk (st := sSame) l8 c8 k8
  have b8 := F8.binds (ps := ["found", "due"]) fun _ _ _ _ _ _ us hl => match us, hl with | [_, _], _ => rfl
  have F9 := fun_mk (st := sLaw) l9 c9 k9
  exact ⟨PySem.W.fnOf "law" "law" (defArgs sLaw) (defBody sLaw) (defScope sLaw) .none kV9 dc9 pm9 an9 cd9 ct9, fun s v => .of_eq rfl, fun base _ _ hd => ok_law hd F9 F0 b0 (PySem.W.mg_of X G a0) F1 b1 (PySem.W.mg_of X G a1) F2 b2 (PySem.W.mg_of X G a2) F3 b3 (PySem.W.mg_of X G a3) F4 b4 (PySem.W.mg_of X G a4) F5 b5 (PySem.W.mg_of X G a5) F6 b6 (PySem.W.mg_of X G a6) F7 b7 (PySem.W.mg_of X G a7) F8 b8 (PySem.W.mg_of X G a8) (PySem.W.mg_none_of X G z0) (PySem.W.mg_none_of X G z1) (PySem.W.mg_none_of X G z2) (PySem.W.mg_none_of X G z3) (PySem.W.mg_none_of X G z4) (PySem.W.mg_none_of X G z5) (PySem.W.mg_none_of X G z6) (PySem.W.mg_none_of X G z7) ⟩
end Sp
open PySem PySem.W PyProof.Rows
set_option maxHeartbeats 0 in
theorem PySem.Challenge.cw_smallparts_k01_prime_parts_holds : PySem.Challenge.rw_smallparts_k01_prime_parts.Holds := by
  w_on; o_law; k_head; (case hw => w_witness2)
  k_fill
  refine SpG.walk_ofG (l := PySem.Challenge.rw_smallparts_k01_prime_parts) (n := 63) (k := 4) (x := "script") (CX := fun _ => L2.CX0) (sp := fun w => SpH.spLaw _) rfl (by decide) rfl ⟨rfl, by decide, by decide⟩ (fun w h Y => PySem.W.kIn_of Y) ?F (fun _ _ a ns hl _ hS => ⟨a, ns, rfl, hS, hl, fun _ => rfl⟩) (fun _ _ _ _ _ h => h)
  case F =>
    intro w mg fa h KX G hmg
    refine' Sp.all_mk KX G hmg ?a0 ?l0 ?c0 ?k0 ?a1 ?l1 ?c1 ?k1 ?a2 ?l2 ?c2 ?k2 ?a3 ?l3 ?c3 ?k3 ?a4 ?l4 ?c4 ?k4 ?a5 ?l5 ?c5 ?k5 ?a6 ?l6 ?c6 ?k6 ?a7 ?l7 ?c7 ?k7 ?a8 ?l8 ?c8 ?k8 ?a9 ?l9 ?c9 ?k9 ?z0 ?z1 ?z2 ?z3 ?z4 ?z5 ?z6 ?z7
    (case a0 => k_is)
    (case l0 => k_is)
    (case c0 => k_is)
    (case k0 => k_is)
    (case a1 => k_is)
    (case l1 => k_is)
    (case c1 => k_is)
    (case k1 => k_is)
    (case a2 => k_is)
    (case l2 => k_is)
    (case c2 => k_is)
    (case k2 => k_is)
    (case a3 => k_is)
    (case l3 => k_is)
    (case c3 => k_is)
    (case k3 => k_is)
    (case a4 => k_is)
    (case l4 => k_is)
    (case c4 => k_is)
    (case k4 => k_is)
    (case a5 => k_is)
    (case l5 => k_is)
    (case c5 => k_is)
    (case k5 => k_is)
    (case a6 => k_is)
    (case l6 => k_is)
    (case c6 => k_is)
    (case k6 => k_is)
    (case a7 => k_is)
    (case l7 => k_is)
    (case c7 => k_is)
    (case k7 => k_is)
    (case a8 => k_is)
    (case l8 => k_is)
    (case c8 => k_is)
    (case k8 => k_is)
    (case a9 => k_is)
    (case l9 => k_is)
    (case c9 => k_is)
    (case k9 => k_is)
    (case z0 => k_is)
    (case z1 => k_is)
    (case z2 => k_is)
    (case z3 => k_is)
    (case z4 => k_is)
    (case z5 => k_is)
    (case z6 => k_is)
    (case z7 => k_is)
