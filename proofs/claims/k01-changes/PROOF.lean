import PyProof.Rows.All
import Wide.All
import OpenK.AllK
import Wide.FinOn
import HandS.Set
import HandS.Strs
import HandS.SetFor
import PyProof.Rows.SortShellAny
import KE.DataMinMax
import HandS.List
import HandS.Call
import HandS.ForMost
import HandS.ForExc
import HandS.SortKw
import HandS.SortRule
import KE.KSortKey
import HandS.Iter
import KE.KExcSuper
import HandS.ExcInit
import HandS.FStr
import KE.KExcIs
import HandS.ExcIs
import HandS.ExcField
import HandS.Wide
import HandS.WideBits
import HandS.Conv
import HandS.TupMul
import HandS.TupAny
import HandS.Flow
import HandS.SortInts
import HandS.Style
import HandS.CallSlots
import HandS.TryOnly
import HandS.TryMany
import HandS.ExcOwn
import HandS.IsInst
import HandS.Rev
import PyProof.StrOps2
import HandS.More
import HandS.DictComp
import HandS.Deep
import HandS.RevRange
import HandS.TupLen
import KE.GoesComp
import KE.GoesRaise
import KE.KStateDown
import HandS.Head0
import HandS.Head1
import HandS.Head2
import HandS.HeadEnd
import HandS.HeadHook1
import HandS.HeadHook2
import HandS.HeadHook3
import PySem.Challenge.RW_closedcuts_k01_changes_and_others
set_option Elab.async false
set_option linter.all false
set_option maxRecDepth 100000
set_option maxHeartbeats 4000000
/-! Ev, the sets of texts: set(list or tuple of texts), and sorted of it. -/
namespace EvSet
open PySem PySem.Spec PyProof.Rows L2
/-- the text of an entry -/
def txt (e : Int × Value) : Str := match e.2 with
  | .str k _ => k
  | _ => Str.empty
def IsTxt (w : World) (e : Int × Value) : Prop := ∃ k tk, e.2 = Value.str k tk ∧ e.1 = hashStr w k
/-- at a: a set whose members are the texts M tells; its table can be walked -/
def Txts (w : World) (h : Heap) (a : Addr) (M : Str → Prop) : Prop :=
  ∃ o es ep t, h.get? a = some o ∧ o.ExactSet ∧ o.data = .set es ep t ∧ (∀ e ∈ es.toList, IsTxt w e) ∧ (es.toList.map txt).Nodup ∧ (∀ k, M k ↔ k ∈ es.toList.map txt) ∧
    es.size < scanBound ∧ t.fits es.size = true ∧ Ris t.place.toList ∧ (w.params.followText "set-order" = true ∨ t.led = true)
section
variable {P : Program} {w : World} {h h' : Heap} {a : Addr} {M : Str → Prop}
theorem Txts.at (R : Txts w h a M) (k : ∀ o, h.get? a = some o → h'.get? a = some o) : Txts w h' a M := by
  obtain ⟨o, es, ep, t, ho, r⟩ := R
  exact ⟨o, es, ep, t, k o ho, r⟩
theorem Txts.congr {M' : Str → Prop} (R : Txts w h a M) (e : ∀ k, M' k ↔ M k) : Txts w h a M' := by
  obtain ⟨o, es, ep, t, ho, hx, hd, g, nd, hm, r⟩ := R
  exact ⟨o, es, ep, t, ho, hx, hd, g, nd, fun k => (e k).trans (hm k), r⟩
theorem elems {l : List (Int × Value)} (g : ∀ e ∈ l, IsTxt w e) : ElemsOf (strKind P w) l := fun e he => by
  obtain ⟨k, tk, h1, h2⟩ := g e he
  exact ⟨⟨k, by rw [h1]; exact strKind_is P w k tk, h2⟩, by rw [h1] <;> rfl⟩
theorem is_txt {e : Int × Value} (g : IsTxt w e) (k : Str) : (strKind P w).is k e.2 = true ↔ txt e = k := by
  obtain ⟨k0, tk, h1, _⟩ := g
  unfold txt
  rw [h1]
  show ((k0 == k) = true) ↔ k0 = k
  exact beq_iff_eq
theorem mem_txt {l : List (Int × Value)} (g : ∀ e ∈ l, IsTxt w e) (k : Str) : k ∈ l.map txt ↔ ∃ e ∈ l, (strKind P w).is k e.2 = true := by
  rw [List.mem_map]
  constructor
  · rintro ⟨e, he, q⟩
    exact ⟨e, he, (is_txt (g e he) k).2 q⟩
  · rintro ⟨e, he, q⟩
    exact ⟨e, he, (is_txt (g e he) k).1 q⟩
end
section
variable {P : Program} {w : World} {A : Around} {E : Value → Shared → Prop} {s : Shared} {a : Addr} {M : Str → Prop}
theorem add_tail {g : Bool → Sem Unit} (hg : ∀ (b : Bool) (s₁ : Shared) (Q' : Unit → Shared → Prop), Q' () s₁ → wpAny (model P w) A (g b) Q' E s₁)
    {o : Obj} {es : Array (Int × Value)} {ep : Nat} {t : SetTable} (ho : s.heap.get? a = some o) (hex : o.ExactSet) (hd : o.data = .set es ep t)
    {es1 : Array (Int × Value)} {t2 : SetTable} {M' : Str → Prop} (g1 : ∀ e ∈ es1.toList, IsTxt w e) (nd1 : (es1.toList.map txt).Nodup) (m1 : ∀ k, M' k ↔ k ∈ es1.toList.map txt)
    (hb1 : es1.size < scanBound) (hf2 : t2.fits es1.size = true) (hr : Ris t2.place.toList) (hl : w.params.followText "set-order" = true ∨ t2.led = true) {wasDummy : Bool} {R : Option Bool → Shared → Prop}
    (hR : ∀ h', Heap.SameBut a s.heap h' → Txts w h' a M' → R (some true) { s with heap := h' }) :
    wpAny (model P w) A (do
        storeSet a es1 t2
        if (!wasDummy && t2.tooFull) = true then do
            g (relayAll t2 es1 (SetTable.grown es1.size)).2.2
            storeSet a (relayAll t2 es1 (SetTable.grown es1.size)).1 (relayAll t2 es1 (SetTable.grown es1.size)).2.1
            pure (some true)
          else pure (some true)) R E s := by
  refine wpAny_bind (wpAny_storeSet_of ho hd ?_ (fits_of_scanBound hb1))
  have ho1 := store_at (es' := es1) (t' := t2) ho hd
  have sb1 := Heap.SameBut.update s.heap a (Obj.putSet es1 t2)
  split
  · have pm := relayAll_perm t2 es1 (SetTable.grown es1.size)
    have hf3 := relayAll_fits t2 es1 (SetTable.grown es1.size)
    have hr3 := relayAll_ris t2 es1 (SetTable.grown es1.size)
    have hl3 := relayAll_led t2 es1 (SetTable.grown es1.size)
    generalize relayAll t2 es1 (SetTable.grown es1.size) = Z at pm hf3 hr3 hl3 ⊢
    obtain ⟨es2, t3, gave⟩ := Z
    dsimp only at pm hf3 hr3 hl3 ⊢
    have hsz : es2.size = es1.size := by rw [← Array.length_toList, pm.length_eq, Array.length_toList]
    have hb2 : es2.size < scanBound := by rw [hsz]; exact hb1
    refine wpAny_bind (hg _ _ _ ?_)
    refine wpAny_bind (wpAny_storeSet_of ho1 rfl ?_ (fits_of_scanBound hb2))
    have ho2 := store_at (es' := es2) (t' := t3) ho1 rfl
    refine wpAny_pure (hR _ (sb1.trans (Heap.SameBut.update _ a _)) ?_)
    exact ⟨_, es2, _, t3, ho2, hex, rfl, fun e he => g1 e (pm.mem_iff.mp he), (pm.map txt).nodup_iff.mpr nd1, fun k => (m1 k).trans (pm.map txt).mem_iff.symm, hb2, hf3, hr3,
      hl.imp id fun z => by rw [hl3]; exact z⟩
  · exact wpAny_pure (hR _ sb1 ⟨_, es1, _, t2, ho1, hex, rfl, g1, nd1, m1, hb1, hf2, hr, hl⟩)
theorem add_txt {k : Str} {tk : Tok} {Q : Bool → Shared → Prop} (R : Txts w s.heap a M) (room : ∀ l : List Str, l.Nodup → (∀ x ∈ l, M x) → l.length + 1 < scanBound)
    (hQ : ∀ b h', Heap.SameBut a s.heap h' → Txts w h' a (fun j => M j ∨ j = k) → Q b { s with heap := h' }) :
    wpAny (model P w) A (setAddHashed a (.str k tk) ((strKind P w).hash k)) Q E s := by
  obtain ⟨o, es, ep, t, ho, hex, hd, g, nd, hm, hb, hf, hr, hl⟩ := R
  have hroom : es.size + 1 < scanBound := by
    have := room (es.toList.map txt) nd fun x hx => (hm x).2 hx
    rwa [List.length_map, Array.length_toList] at this
  have hkey : (strKind P w).is k (.str k tk) = true := strKind_is P w k tk
  have hsc : (Value.str k tk).scannable = true := rfl
  have hel : ElemsOf (strKind P w) es.toList := elems g
  unfold setAddHashed setAddHashedIn
  refine wpAny_holding (wpAny_bind (wpAny_setState_of ho hd hf ?_))
  dsimp only
  rw [byScan_of hsc hb hel]
  simp only [↓reduceIte]
  unfold setAddByScan
  refine wpAny_bind ?_
  refine wpAny_bind (wpAny_rule ?_)
  refine wpAny_bind (wpAny_setScan_of hkey ho hd hf hel ?_)
  cases hfi : List.findIdx? (fun e => (strKind P w).is k e.2) es.toList with
  | some j =>
    dsimp only
    obtain ⟨hj, pj, _⟩ := List.findIdx?_eq_some_iff_getElem.mp hfi
    have hMk : M k := (hm k).2 ((mem_txt (P := P) (w := w) g k).2 ⟨es.toList[j], List.getElem_mem hj, pj⟩)
    refine wpAny_pure (wpAny_pure ?_)
    exact hQ _ s.heap (Heap.SameBut.refl a s.heap) ⟨o, es, ep, t, ho, hex, hd, g, nd, fun i => by
      rw [← hm i]
      exact ⟨fun z => z.elim id (fun e => e ▸ hMk), .inl⟩, hb, hf, hr, hl⟩
  | none =>
    dsimp only
    have hnk : k ∉ es.toList.map txt := fun z => by
      obtain ⟨e, he, q⟩ := (mem_txt (P := P) (w := w) g k).1 z
      have c := List.findIdx?_eq_none_iff.mp hfi e he
      rw [q] at c
      cases c
    have hgw : ∀ (b : Bool) {s₁ : Shared} {Q' : Unit → Shared → Prop}, Q' () s₁ → wpAny (model P w) A (match b with | true => rule "set.scan.the-table-gave-way" | false => pure ()) Q' E s₁ :=
      fun b s₁ Q' q => by cases b <;> first | exact wpAny_pure q | exact wpAny_rule q
    have pm := layNew_perm t es ((strKind P w).hash k) (.str k tk)
    have hf1 := layNew_fits t es ((strKind P w).hash k) (.str k tk)
    have hr1 := layNew_ris t es ((strKind P w).hash k) (.str k tk) hr
    have hl1 := layNew_led t es ((strKind P w).hash k) (.str k tk)
    generalize layNew t es ((strKind P w).hash k) (.str k tk) = Z at pm hf1 hr1 hl1 ⊢
    obtain ⟨es1, t1, wasDummy, gave⟩ := Z
    dsimp only at pm hf1 hr1 hl1 ⊢
    rw [Array.toList_push] at pm
    have pc : es1.toList.Perm (((strKind P w).hash k, Value.str k tk) :: es.toList) := pm.trans (List.perm_append_singleton _ _)
    have pk : (es1.toList.map txt).Perm (k :: es.toList.map txt) := pc.map txt
    have g1 : ∀ e ∈ es1.toList, IsTxt w e := fun e he => by
      rcases List.mem_cons.mp (pc.mem_iff.mp he) with z | z
      · rw [z]; exact ⟨k, tk, rfl, rfl⟩
      · exact g e z
    have nd1 : (es1.toList.map txt).Nodup := pk.nodup_iff.mpr (List.nodup_cons.mpr ⟨hnk, nd⟩)
    have m1 : ∀ i, (M i ∨ i = k) ↔ i ∈ es1.toList.map txt := fun i => by
      rw [hm i, pk.mem_iff, List.mem_cons]
      exact Or.comm
    have hsz : es1.size = es.size + 1 := by rw [← Array.length_toList, pc.length_eq, List.length_cons, Array.length_toList]
    have hb1 : es1.size < scanBound := by rw [hsz]; exact hroom
    have hled : w.params.followText "set-order" = true ∨ t1.led = true := hl.imp id fun z => by rw [hl1]; exact z
    refine wpAny_bind (hgw _ ?_)
    split
    · refine wpAny_bind ?_
      rw [hashByValue_scannable 8 hsc]
      refine wpAny_pure ?_
      refine add_tail ?_ ho hex hd g1 nd1 m1 hb1 ?_ ?_ ?_ ?_
      · intro b s₁ Q' q; cases b <;> first | exact wpAny_pure q | exact wpAny_rule q
      · first | (split <;> first | exact hf1 | exact SetTable.fits_plain_off hf1) | exact hf1
      · first | (split <;> exact hr1) | exact hr1
      · first | (split <;> exact hled) | exact hled
      · intro h' sb r; dsimp only; exact wpAny_pure (hQ _ h' sb r)
    · refine wpAny_bind (wpAny_pure ?_)
      simp only [↓reduceIte]
      refine add_tail ?_ ho hex hd g1 nd1 m1 hb1 hf1 hr1 hled ?_
      · intro b s₁ Q' q; cases b <;> first | exact wpAny_pure q | exact wpAny_rule q
      · intro h' sb r; dsimp only; exact wpAny_pure (hQ _ h' sb r)
theorem update_txts {I : Addr} {fp wr : List Addr} {G : Array GenState → Array GenState → Prop} {n : Nat} {Pv : Nat → Value → Prop} {St : Nat → Shared → Prop} {R : Result → Shared → Prop}
    (W : WalksS P w A.in1 I fp wr G n Pv St) (S : Addr) (hSf : S ∉ fp) (xs : List Str) (hn : n = xs.length) (room : ∀ l : List Str, l.Nodup → (∀ x ∈ l, x ∈ xs) → l.length + 1 < scanBound) (hval : ∀ i v, Pv i v → ∃ k t, xs[i]? = some k ∧ v = .str k t) :
    ∀ (k i : Nat) (s : Shared), n - i = k → i ≤ n → St i s → Txts w s.heap S (fun j => j ∈ xs.take i) →
      (∀ s', Moved (S :: wr) G s s' → Txts w s'.heap S (fun j => j ∈ xs) → R (.ok (.ret .none)) s') →
      codeAny (model P w) A (.builtin "set.update.loop" ⟨[.ref S, .ref I], []⟩) R s := by
  have hSw : S ∉ wr := fun h => hSf (W.sub _ h)
  have hsub : ∀ b ∈ wr, b ∈ S :: wr := fun b hb => List.mem_cons_of_mem _ hb
  intro k
  induction k with
  | zero =>
    intro i s hk' hi hst hS hR
    have hin : i = n := by omega
    subst hin
    refine codeAny_builtin PyProof.Rows.F.entry_set_update_loop ?_
    rw [Around.under_plainId PyProof.Rows.F.plain_set_update_loop _]
    show wpAny _ A.in1 (pyNext (.ref I) >>= _) _ _ s
    refine wpAny_bind (W.done s _ _ hst fun s' hm => ?_)
    show wpAny _ A.in1 (ret Value.none) _ _ s'
    have e : xs.take i = xs := List.take_of_length_le (by omega)
    rw [e] at hS
    exact wpAny_pure (hR s' (hm.mono hsub) (hS.at fun o e => hm.heap S o hSw e))
  | succ k ih =>
    intro i s hk' hi hst hS hR
    have hlt : i < n := by omega
    refine codeAny_builtin PyProof.Rows.F.entry_set_update_loop ?_
    rw [Around.under_plainId PyProof.Rows.F.plain_set_update_loop _]
    show wpAny _ A.in1 (pyNext (.ref I) >>= _) _ _ s
    refine wpAny_bind (W.item i s _ _ hlt hst fun v s' hP hst' hm => ?_)
    obtain ⟨z, t, hz, rfl⟩ := hval i v hP
    have hS' : Txts w s'.heap S (fun j => j ∈ xs.take i) := hS.at fun o e => hm.heap S o hSw e
    show wpAny _ A.in1 (holding [Value.str z t] (setAdd S (.str z t)) >>= _) _ _ s'
    refine wpAny_bind (wpAny_holding ?_)
    unfold setAdd
    refine wpAny_holding ?_
    refine wpAny_bind ((strKind P w).pyHash (k := z) (strKind_is _ _ _ _) ?_)
    refine add_txt (s := { s' with toks := s'.toks + 1 }) hS' (fun l h1 h2 => room l h1 fun x hx => List.mem_of_mem_take (h2 x hx)) fun b h' hsb hS2 => ?_
    have hS3 : Txts w h' S (fun j => j ∈ xs.take (i + 1)) := hS2.congr fun j => by
      rw [List.take_add_one, hz]
      simp [List.mem_append]
    refine wpAny_pure ⟨plainId_quiet PyProof.Rows.F.plain_set_update_loop _, ih (i + 1) _ (by omega) hlt (W.frame _ s' _ _ hst' (Nat.le_succ _) fun b hb o e => ?_) hS3 fun s'' hm'' hS'' => ?_⟩
    · rw [hsb.2 b (fun h : b = S => hSf (by rw [← h]; exact hb))]; exact e
    · refine hR s'' (Moved.trans W.gtrans ((hm.mono hsub).then_heap (Nat.le_succ _) fun b o hb e => ?_) hm'') hS''
      rw [hsb.2 b (fun h : b = S => hb (by rw [h]; exact List.mem_cons_self))]; exact e
theorem txts_new {w : World} {h : Heap} {a : Addr} {xs : List Str} (ho : h.get? a = some { cls := .type "set", dict := none, data := .set #[] 0 (.fresh 0 0 (!w.params.followText "set-order")) }) : Txts w h a (fun j => j ∈ xs.take 0) :=
  ⟨_, #[], 0, _, ho, ⟨rfl, rfl, rfl⟩, rfl, (fun e he => by simp at he), (by simp), (fun k => by simp), (by decide), (by rfl), List.Pairwise.nil, by
    show _ ∨ (!w.params.followText "set-order") = true
    cases w.params.followText "set-order"
    · exact .inr rfl
    · exact .inl rfl⟩

set_option maxHeartbeats 3200000 in
theorem set_of_list {l : Addr} {items : Array Value} (xs : List Str) {Q : Value → Shared → Prop} (hh : A.handled = none) (hl : s.heap.IsList l items) (hit : StrsAre items.toList xs) (room : ∀ l : List Str, l.Nodup → (∀ x ∈ l, x ∈ xs) → l.length + 1 < scanBound)
    (h : ∀ (h' : Heap) (tk : Nat), Txts w h' s.heap.objs.size (fun j => j ∈ xs) → (∀ b o, s.heap.get? b = some o → h'.get? b = some o) → Q (.ref s.heap.objs.size) { s with heap := h', toks := tk }) :
    wpAny (model P w) A (call (.type "set") [.ref l]) Q E s := by
  have hisz : items.size = xs.length := by rw [← StrsAre.len_eq hit, Array.length_toList]
  obtain ⟨c, tl, hmro⟩ := PySem.F.called_set.mro
  have hmade := PySem.F.called_set.made
  have hsub := PySem.F.called_set.sub
  refine wpAny_call (codeAny_of_tree ?_)
  show wpAny _ _ (callAny (.type "set") _) _ _ _
  refine wpAny_pure ⟨Code.quiet_builtin _ (by decide +kernel), codeAny_builtin PySem.F.entry_type_call ?_⟩
  rw [Around.under_plain (weight_type_call_type "set" [.ref l] []) rfl]
  have h1 := PySem.F.called_set.notType
  have h2 := PySem.F.called_set.canCreate
  have hct := PySem.F.typeCall_set_1 (.ref l)
  repeat (any_goals (first | assumption | wp_step))
  refine codeAny_mono (code_set_led1 (.ref l) (E := E) (Q₁ := fun obj s₁ => obj = .ref s.heap.objs.size ∧ s₁ = { s with heap := s.heap.push { cls := .type "set", dict := none, data := .set #[] 0 (.fresh 0 0 (!w.params.followText "set-order")) } }) ⟨rfl, rfl⟩) fun r s₁ hr => ?_
  cases r with
  | error e => exact hr
  | ok fl =>
    cases fl with
    | ret obj =>
      obtain ⟨rfl, rfl⟩ := hr
      have hS : (s.heap.push { cls := .type "set", dict := none, data := .set #[] 0 (.fresh 0 0 (!w.params.followText "set-order")) }).get? s.heap.objs.size = some { cls := .type "set", dict := none, data := .set #[] 0 (.fresh 0 0 (!w.params.followText "set-order")) } := Heap.get?_push_size _ rfl
      have hT : Shared.TypeIs { s with heap := s.heap.push { cls := .type "set", dict := none, data := .set #[] 0 (.fresh 0 0 (!w.params.followText "set-order")) } } (.ref s.heap.objs.size) "set" := ⟨_, hS, rfl⟩
      have hli := PySem.F.called_set.init.lookup
      have hbi := PySem.F.called_set.init.bind (.ref s.heap.objs.size)
      repeat (any_goals (first | assumption | wp_step))
      refine codeAny_mono (codeAny_call_builtin (R := wants (fun r s₂ => r = .none ∧ ∃ h' tk, s₂ = { s with heap := h', toks := tk } ∧ Txts w h' s.heap.objs.size (fun j => j ∈ xs) ∧
          (∀ b o, s.heap.get? b = some o → h'.get? b = some o)) E) PySem.F.called_set.init.plain PySem.F.entry_set_init (check_set_init_1 hT ?_)) fun r₂ s₂ hr₂ => ?_
      · obtain ⟨ol, hol, hcl, nl, hdl⟩ := hl
        obtain ⟨ocls, odict, odata, oslots⟩ := ol
        simp only at hcl hdl
        subst hcl; subst hdl
        have hol' : (s.heap.push { cls := .type "set", dict := none, data := .set #[] 0 (.fresh 0 0 (!w.params.followText "set-order")) }).get? l = some { cls := .type "list", dict := odict, data := .seq items nl, slots := oslots } := Heap.get?_push_of_some _ hol
        have hsls := PySem.F.sub_list_set
        have hslf := PySem.F.sub_list_frozenset
        have hne : (Value.type "list" == Value.type "dict") = false := by decide
        have hl1 : (s.heap.push { cls := .type "set", dict := none, data := .set #[] 0 (.fresh 0 0 (!w.params.followText "set-order")) }).IsList l items := ⟨_, hol', rfl, nl, rfl⟩
        unfold Builtin.«set.__init__» noKeywords Builtin.Frozenset.updateFrom
        generalize hPI : pyIter = PI
        wp_walk
        subst hPI
        refine wpAny_pyIter_list hl1 ?_
        refine wpAny_bind (wpAny_runValue ?_)
        have hlS : l < s.heap.objs.size := Heap.lt_size hol
        have hh3 : A.in1.in1.in1.handled = none := by simp [hh]
        have hneI : l ≠ (s.heap.push { cls := .type "set", dict := none, data := .set #[] 0 (.fresh 0 0 (!w.params.followText "set-order")) }).objs.size := by
          rw [Heap.size_push]; exact Nat.ne_of_lt (Nat.lt_succ_of_lt hlS)
        have hSf : s.heap.objs.size ∉ [(s.heap.push { cls := .type "set", dict := none, data := .set #[] 0 (.fresh 0 0 (!w.params.followText "set-order")) }).objs.size, l] := by
          rw [Heap.size_push]; simp only [List.mem_cons, List.mem_singleton, List.not_mem_nil, or_false, not_or]
          exact ⟨Nat.ne_of_lt (Nat.lt_succ_self _), Nat.ne_of_gt hlS⟩
        have hval : ∀ (i : Nat) (v : Value), items[i]? = some v → ∃ k t, xs[i]? = some k ∧ v = .str k t := fun i v hv => by
          have hi : i < xs.length := by rw [← hisz]; exact (Array.getElem?_eq_some_iff.mp hv).1
          obtain ⟨t, e⟩ := SS.strs_at hit i v (by rw [Array.getElem?_toList]; exact hv)
          refine ⟨xs[i], t, List.getElem?_eq_getElem hi, ?_⟩
          rw [e, List.getD_eq_getElem?_getD, List.getElem?_eq_getElem hi] <;> rfl
        refine update_txts ((Walks.list hh3 _ l hneI items).toS) s.heap.objs.size
          hSf xs hisz room hval (items.size - 0) 0 _ (by omega) (Nat.zero_le _)
          ⟨⟨_, Heap.get?_push_size _ rfl, rfl, rfl⟩, (hl1.push _)⟩ ?hS0 ?hR
        case hS0 =>
          have hget : ((s.heap.push { cls := .type "set", dict := none, data := .set #[] 0 (.fresh 0 0 (!w.params.followText "set-order")) }).push { cls := .type "list_iterator", data := .fields #[.ref l, .int 0 0] }).get? s.heap.objs.size
              = some { cls := .type "set", dict := none, data := .set #[] 0 (.fresh 0 0 (!w.params.followText "set-order")) } := Heap.get?_push_of_some _ hS
          exact txts_new hget
        case hR =>
          intro s' hm hS'
          obtain ⟨h', g2, d', tk', os'⟩ := s'
          have eg : g2 = s.gens := hm.gens
          have ed : d' = s.drawn := hm.drawn
          have eo : os' = s.os := hm.os
          subst eg; subst ed; subst eo
          show wpAny _ _ _ _ _ _
          refine wpAny_pure ?_
          show wpAny _ _ (ret Value.none) _ _ _
          refine wpAny_pure ⟨rfl, h', tk', rfl, hS', fun b o e => ?_⟩
          have hb0 : b < s.heap.objs.size := Heap.lt_size e
          have hb1 : b ≠ s.heap.objs.size := Nat.ne_of_lt hb0
          have hb2 : b ≠ (s.heap.push { cls := .type "set", dict := none, data := .set #[] 0 (.fresh 0 0 (!w.params.followText "set-order")) }).objs.size := by
            rw [Heap.size_push]; exact Nat.ne_of_lt (Nat.lt_succ_of_lt hb0)
          exact hm.heap b o (by simp only [List.mem_cons, List.mem_singleton, List.not_mem_nil, or_false, not_or]; exact ⟨hb1, hb2⟩) (Heap.get?_push_of_some _ (Heap.get?_push_of_some _ e))
      · cases r₂ with
        | error e => exact hr₂
        | ok fl₂ =>
          cases fl₂ with
          | ret r =>
            obtain ⟨rfl, h', tk, rfl, hS', hk'⟩ := hr₂
            repeat (any_goals (first | assumption | wp_step))
            exact h _ _ hS' hk'
          | _ => exact hr₂.elim
    | _ => exact hr.elim

set_option maxHeartbeats 3200000 in
theorem set_of_tuple {l : Addr} {items : Array Value} (xs : List Str) {Q : Value → Shared → Prop} (hh : A.handled = none) (hl : s.heap.IsTuple l items) (hit : StrsAre items.toList xs) (room : ∀ l : List Str, l.Nodup → (∀ x ∈ l, x ∈ xs) → l.length + 1 < scanBound)
    (h : ∀ (h' : Heap) (tk : Nat), Txts w h' s.heap.objs.size (fun j => j ∈ xs) → (∀ b o, s.heap.get? b = some o → h'.get? b = some o) → Q (.ref s.heap.objs.size) { s with heap := h', toks := tk }) :
    wpAny (model P w) A (call (.type "set") [.ref l]) Q E s := by
  have hisz : items.size = xs.length := by rw [← StrsAre.len_eq hit, Array.length_toList]
  obtain ⟨c, tl, hmro⟩ := PySem.F.called_set.mro
  have hmade := PySem.F.called_set.made
  have hsub := PySem.F.called_set.sub
  refine wpAny_call (codeAny_of_tree ?_)
  show wpAny _ _ (callAny (.type "set") _) _ _ _
  refine wpAny_pure ⟨Code.quiet_builtin _ (by decide +kernel), codeAny_builtin PySem.F.entry_type_call ?_⟩
  rw [Around.under_plain (weight_type_call_type "set" [.ref l] []) rfl]
  have h1 := PySem.F.called_set.notType
  have h2 := PySem.F.called_set.canCreate
  have hct := PySem.F.typeCall_set_1 (.ref l)
  repeat (any_goals (first | assumption | wp_step))
  refine codeAny_mono (code_set_led1 (.ref l) (E := E) (Q₁ := fun obj s₁ => obj = .ref s.heap.objs.size ∧ s₁ = { s with heap := s.heap.push { cls := .type "set", dict := none, data := .set #[] 0 (.fresh 0 0 (!w.params.followText "set-order")) } }) ⟨rfl, rfl⟩) fun r s₁ hr => ?_
  cases r with
  | error e => exact hr
  | ok fl =>
    cases fl with
    | ret obj =>
      obtain ⟨rfl, rfl⟩ := hr
      have hS : (s.heap.push { cls := .type "set", dict := none, data := .set #[] 0 (.fresh 0 0 (!w.params.followText "set-order")) }).get? s.heap.objs.size = some { cls := .type "set", dict := none, data := .set #[] 0 (.fresh 0 0 (!w.params.followText "set-order")) } := Heap.get?_push_size _ rfl
      have hT : Shared.TypeIs { s with heap := s.heap.push { cls := .type "set", dict := none, data := .set #[] 0 (.fresh 0 0 (!w.params.followText "set-order")) } } (.ref s.heap.objs.size) "set" := ⟨_, hS, rfl⟩
      have hli := PySem.F.called_set.init.lookup
      have hbi := PySem.F.called_set.init.bind (.ref s.heap.objs.size)
      repeat (any_goals (first | assumption | wp_step))
      refine codeAny_mono (codeAny_call_builtin (R := wants (fun r s₂ => r = .none ∧ ∃ h' tk, s₂ = { s with heap := h', toks := tk } ∧ Txts w h' s.heap.objs.size (fun j => j ∈ xs) ∧
          (∀ b o, s.heap.get? b = some o → h'.get? b = some o)) E) PySem.F.called_set.init.plain PySem.F.entry_set_init (check_set_init_1 hT ?_)) fun r₂ s₂ hr₂ => ?_
      · obtain ⟨ol, hol, hcl, nl, hdl⟩ := hl
        obtain ⟨ocls, odict, odata, oslots⟩ := ol
        simp only at hcl hdl
        subst hcl; subst hdl
        have hol' : (s.heap.push { cls := .type "set", dict := none, data := .set #[] 0 (.fresh 0 0 (!w.params.followText "set-order")) }).get? l = some { cls := .type "tuple", dict := odict, data := .seq items nl, slots := oslots } := Heap.get?_push_of_some _ hol
        have hsls := PySem.F.sub_tuple_set
        have hslf := PySem.F.sub_tuple_frozenset
        have hne : (Value.type "tuple" == Value.type "dict") = false := by decide
        have hl1 : (s.heap.push { cls := .type "set", dict := none, data := .set #[] 0 (.fresh 0 0 (!w.params.followText "set-order")) }).IsTuple l items := ⟨_, hol', rfl, nl, rfl⟩
        unfold Builtin.«set.__init__» noKeywords Builtin.Frozenset.updateFrom
        generalize hPI : pyIter = PI
        wp_walk
        subst hPI
        refine wpAny_pyIter_tuple hl1 ?_
        refine wpAny_bind (wpAny_runValue ?_)
        have hlS : l < s.heap.objs.size := Heap.lt_size hol
        have hh3 : A.in1.in1.in1.handled = none := by simp [hh]
        have hneI : l ≠ (s.heap.push { cls := .type "set", dict := none, data := .set #[] 0 (.fresh 0 0 (!w.params.followText "set-order")) }).objs.size := by
          rw [Heap.size_push]; exact Nat.ne_of_lt (Nat.lt_succ_of_lt hlS)
        have hSf : s.heap.objs.size ∉ [(s.heap.push { cls := .type "set", dict := none, data := .set #[] 0 (.fresh 0 0 (!w.params.followText "set-order")) }).objs.size, l] := by
          rw [Heap.size_push]; simp only [List.mem_cons, List.mem_singleton, List.not_mem_nil, or_false, not_or]
          exact ⟨Nat.ne_of_lt (Nat.lt_succ_self _), Nat.ne_of_gt hlS⟩
        have hval : ∀ (i : Nat) (v : Value), items[i]? = some v → ∃ k t, xs[i]? = some k ∧ v = .str k t := fun i v hv => by
          have hi : i < xs.length := by rw [← hisz]; exact (Array.getElem?_eq_some_iff.mp hv).1
          obtain ⟨t, e⟩ := SS.strs_at hit i v (by rw [Array.getElem?_toList]; exact hv)
          refine ⟨xs[i], t, List.getElem?_eq_getElem hi, ?_⟩
          rw [e, List.getD_eq_getElem?_getD, List.getElem?_eq_getElem hi] <;> rfl
        refine update_txts ((Walks.tuple hh3 _ l hneI items).toS) s.heap.objs.size
          hSf xs hisz room hval (items.size - 0) 0 _ (by omega) (Nat.zero_le _)
          ⟨⟨_, Heap.get?_push_size _ rfl, rfl, rfl⟩, (hl1.push _)⟩ ?hS0 ?hR
        case hS0 =>
          have hget : ((s.heap.push { cls := .type "set", dict := none, data := .set #[] 0 (.fresh 0 0 (!w.params.followText "set-order")) }).push { cls := .type "tuple_iterator", data := .fields #[.ref l, .int 0 0] }).get? s.heap.objs.size
              = some { cls := .type "set", dict := none, data := .set #[] 0 (.fresh 0 0 (!w.params.followText "set-order")) } := Heap.get?_push_of_some _ hS
          exact txts_new hget
        case hR =>
          intro s' hm hS'
          obtain ⟨h', g2, d', tk', os'⟩ := s'
          have eg : g2 = s.gens := hm.gens
          have ed : d' = s.drawn := hm.drawn
          have eo : os' = s.os := hm.os
          subst eg; subst ed; subst eo
          show wpAny _ _ _ _ _ _
          refine wpAny_pure ?_
          show wpAny _ _ (ret Value.none) _ _ _
          refine wpAny_pure ⟨rfl, h', tk', rfl, hS', fun b o e => ?_⟩
          have hb0 : b < s.heap.objs.size := Heap.lt_size e
          have hb1 : b ≠ s.heap.objs.size := Nat.ne_of_lt hb0
          have hb2 : b ≠ (s.heap.push { cls := .type "set", dict := none, data := .set #[] 0 (.fresh 0 0 (!w.params.followText "set-order")) }).objs.size := by
            rw [Heap.size_push]; exact Nat.ne_of_lt (Nat.lt_succ_of_lt hb0)
          exact hm.heap b o (by simp only [List.mem_cons, List.mem_singleton, List.not_mem_nil, or_false, not_or]; exact ⟨hb1, hb2⟩) (Heap.get?_push_of_some _ (Heap.get?_push_of_some _ e))
      · cases r₂ with
        | error e => exact hr₂
        | ok fl₂ =>
          cases fl₂ with
          | ret r =>
            obtain ⟨rfl, h', tk, rfl, hS', hk'⟩ := hr₂
            repeat (any_goals (first | assumption | wp_step))
            exact h _ _ hS' hk'
          | _ => exact hr₂.elim
    | _ => exact hr.elim

theorem strs_of : ∀ (l : List Value), (∀ v ∈ l, ∃ k tk, v = Value.str k tk) → ∃ ks, StrsAre l ks
  | [], _ => ⟨[], .nil⟩
  | v :: r, h => by
    obtain ⟨k, tk, rfl⟩ := h v (by simp)
    obtain ⟨ks, hr⟩ := strs_of r fun x hx => h x (by simp [hx])
    exact ⟨k :: ks, .cons k tk hr⟩
theorem strs_txt : ∀ {l : List (Int × Value)} {vs : List Value} {ks : List Str}, (∀ e ∈ l, IsTxt w e) → vs = l.map (·.2) → StrsAre vs ks → ks = l.map txt
  | [], _, _, _, e, h => by
    subst e
    cases h
    rfl
  | x :: l, _, _, g, e, h => by
    subst e
    obtain ⟨k, tk, h1, _⟩ := g x (by simp)
    rw [List.map_cons, h1] at h
    cases h with
    | cons _ _ hr =>
      rw [List.map_cons, strs_txt (fun e he => g e (by simp [he])) rfl hr]
      congr 1
      unfold txt
      rw [h1]
theorem strsAre_inj : ∀ {vs : List Value} {a b : List Str}, StrsAre vs a → StrsAre vs b → a = b
  | _, _, _, .nil, .nil => rfl
  | _, _, _, .cons k tk h, .cons _ _ h' => by rw [strsAre_inj h h']
/-- sorted of a set of texts -/
theorem sorted_txts {Q : Value → Shared → Prop} (R : Txts w s.heap a M) (hh : A.handled = none)
    (hQ : ∀ s' p (out : Array Value) (c : Nat) (ks : List Str), (∀ b o, s.heap.get? b = some o → s'.heap.get? b = some o) → s'.gens = s.gens → s'.os = s.os → s.heap.objs.size ≤ p →
      s'.heap.get? p = some (seqObj "list" out c) → StrsAre out.toList ks → sortedS ks = true → ks.Nodup → (∀ k, k ∈ ks ↔ M k) → Q (.ref p) s') :
    wpAny (model P w) A (call (.builtin "sorted") [.ref a]) Q E s := by
  obtain ⟨o, es, ep, t, ho, hex, hd, g, nd, hm, hb, hf, hr, hl⟩ := R
  refine Calls.call_function_entry kind_sorted plain_sorted entry_sorted (args_sorted1 _) ?_
  unfold Builtin.«sorted»
  refine wpAny_bind (m := checkCount "sorted" 1 1 _) (wpAny_pure ?_)
  refine wpAny_bind (collect_set (A := A.in1) hh ⟨o, ho, hex.1, hd⟩ hf hb hr hl fun s1 vs k1 hz g1 o1 pm => ?_)
  have hvl : vs.length = es.size := by rw [pm.length_eq, List.length_map, Array.length_toList]
  have hve : ∀ v ∈ vs, ∃ k tk, v = Value.str k tk := fun v hv => by
    obtain ⟨e, he, q⟩ := List.mem_map.mp (pm.mem_iff.mp hv)
    obtain ⟨k, tk, h1, _⟩ := g e he
    exact ⟨k, tk, by rw [← q]; exact h1⟩
  obtain ⟨us, hI⟩ := strs_of vs hve
  have hus : us.Perm (es.toList.map txt) := by
    let F : Value → Str := fun v => match v with
      | .str k _ => k
      | _ => Str.empty
    have h1 : ∀ {vs : List Value} {us : List Str}, StrsAre vs us → us = vs.map F := by
      intro vs us h
      induction h with
      | nil => rfl
      | cons k tk _ ih => rw [List.map_cons, ← ih]
    rw [h1 hI]
    have q := pm.map F
    rw [List.map_map] at q
    exact q
  have hL : vs.length ≤ sizeLine := by rw [hvl, sizeLine_eq]; unfold scanBound at hb; omega
  refine wpAny_bind (wpAny_newList ?_ hL)
  have hoL : (s1.heap.push (seqObj "list" vs.toArray 0)).get? s1.heap.objs.size = some (seqObj "list" vs.toArray 0) := Heap.get?_push_size _ rfl
  refine wpAny_bind (wpAny_holding (wpAny_call_entry slot_list_sort ⟨_, hoL, rfl⟩ entry_list_sort (list_sort_treeKAny strKind_oneLt hoL hI.keysOf (fun v₁ v₂ rest e => keyKind_strs (by rw [← e]; exact hI)) hL fun st' a1 a2 => ⟨_, rfl, ?_⟩) (args_list_sort _)))
  obtain ⟨ks, b1, b2, b3⟩ := sorted_out_str hI a1 a2
  obtain ⟨c, hc⟩ := sortedHeap_at (vs := vs) (out := (arrOf st').map (·.2)) hoL
  have pn : ks.Perm (es.toList.map txt) := b2.trans hus
  refine wpAny_pure ⟨_, rfl, hQ _ s1.heap.objs.size _ c ks (fun b u e => ?_) g1 o1 hz hc b1 b3 (pn.nodup_iff.mpr nd) (fun k => by rw [pn.mem_iff, ← hm k])⟩
  have q := k1 b u e
  have hlt := Heap.lt_size q
  show (sortedHeap (s1.heap.push (seqObj "list" vs.toArray 0)) s1.heap.objs.size vs _).get? b = some u
  rw [sortedHeap_old (Nat.ne_of_lt hlt) (by rw [size_push']; exact Nat.lt_succ_of_lt hlt)]
  exact Heap.get?_push_of_some _ q
end
end EvSet

set_option Elab.async false
set_option linter.all false
set_option maxRecDepth 100000
set_option maxHeartbeats 4000000
/-! Ev, rules of sorted, min, max, sum: texts, tuples of numbers, sets of texts. -/
namespace EvSet
open PySem PySem.Spec PyProof.Rows L2
def rSortTx (K : PySem.W.Frag) : List V → Hp → VK → Prop := fun vs H Q => ∃ (a : Addr) (xs : List Str), vs = [V.ref a] ∧ SqL K H a (xs.map V.str) ∧
  ∀ (ys : List Str) (p : Addr), ys.Perm xs → sortedS ys = true → H p = none → Q (.ref p) (upd H p (.lst (ys.map V.str)))
section
variable {X : Cx}
theorem cr_sortTx : CallR X (.builtin "sorted") (rSortTx X.K) := by
  intro pins s σ H vs us Q I r h
  obtain ⟨a, xs, rfl, hs, q⟩ := h
  obtain ⟨its, rv, hl, hz⟩ := I.list hs
  rw [Vals.ref1 r]
  have hlen0 := rv.length
  rw [List.length_map] at hlen0
  have hL : its.length ≤ sizeLine := by
    have := hz
    first | exact this | (rw [← hlen0]; simpa using this) | simpa [hlen0] using this
  refine PyProof.Rows.sorted_strsAny hl.isList rv.strs hL fun out ys h1 h2 h3 => ?_
  obtain ⟨ep, he'⟩ := PyProof.Rows.sortedAll_at s.heap its out
  have hlen : (ys.map V.str).length ≤ sizeLine := by rw [List.length_map, h2.length_eq, hlen0]; exact hL
  exact ⟨.ref _, upd H (s.heap.objs.size + 1) (.lst (ys.map V.str)), I.laid (t' := s.toks) (fun _ _ => PyProof.Rows.sortedAll_old) (Nat.le_succ _) ⟨hlen, out.toList, ep, vals_of_strs h1, he'⟩, rfl, q ys _ h2 h3 (I.hok.fresh (Nat.le_succ _))⟩
def tSSet (K : PySem.W.Frag) (ta : TE) : TE := fun σ H Q => ta σ H fun x H1 => ∃ l, ∃ xs : List Str, x = .ref l ∧ (SqL K H1 l (xs.map V.str) ∨ SqT K H1 l (xs.map V.str)) ∧
  (∀ l : List Str, l.Nodup → (∀ x ∈ l, x ∈ xs) → l.length + 1 < scanBound) ∧ ∀ (ys : List Str) (p : Addr), sortedS ys = true → ys.Nodup → (∀ k, k ∈ ys ↔ k ∈ xs) → H1 p = none → Q (.ref p) (upd H1 p (.lst (ys.map V.str)))
theorem boot_sorted : bootBuiltins "sorted" = some (.builtin "sorted") := by decide +kernel
theorem pe_sset {a : Expr} {ta : TE} {p p2 q pos : Pos} (hc : X.calm = true) (hg : Gl X "sorted") (hm : X.mg "sorted" = none) (hg2 : Gl X "set") (hm2 : X.mg "set" = none) (ha : PE X a ta)
    (na : starEach [a] X.env = (false, eval a X.env) :: starEach [] X.env := by rfl) : PE X (.Call (.Name "sorted" p) [.Call (.Name "set" p2) [a] [] q] [] pos) (tSSet X.K ta) := by
  refine ⟨fun pins s σ H Q I h => ?_⟩
  refine Call_ (ld_blt I hg hm boot_sorted ?_)
  refine PyProof.Rows.callWith_builtin1 (PyProof.Rows.args_cons ?_ rfl) rfl rfl
  refine Call_ (ld_blt I hg2 hm2 boot_set ?_)
  refine PyProof.Rows.callWith_type1 (PyProof.Rows.args_cons (thn (ha.run pins s σ H _ I h) fun v s1 ⟨x, H1, I1, r1, q1⟩ => PyProof.Rows.args_nil ?_) na) na rfl
  obtain ⟨l, xs, rfl, hq, room, q1⟩ := q1
  cases r1
  have fin : ∀ (h' : Heap) (tk : Nat), Txts X.w h' s1.heap.objs.size (fun j => j ∈ xs) → (∀ b o, s1.heap.get? b = some o → h'.get? b = some o) →
      wpAny (model X.prog X.w) X.A (spliced (backTo pos (starEach [] X.env))) (fun vs s₂ => wpAny (model X.prog X.w) X.A (call (.builtin "sorted") (Value.ref s1.heap.objs.size :: vs)) (EP X pins σ Q) X.xe s₂) X.xe { s1 with heap := h', toks := tk } := fun h' tk hS hk => by
    refine PyProof.Rows.args_nil ?_
    have I2 : Inv X pins σ H1 { s1 with heap := h', toks := tk } := I1.kept hk
    refine sorted_txts (s := _) (a := s1.heap.objs.size) (M := fun j => j ∈ xs) hS (I1.ok.hd hc) fun s' p' out c ks k g o hp hget hi hs hn hm => ?_
    have hlen : (ks.map V.str).length ≤ sizeLine := by
      have hroom := room ks hn fun x hx => (hm x).1 hx
      rw [List.length_map, sizeLine_eq]; unfold scanBound at hroom; omega
    have hpn : H1 p' = none := I2.hok.fresh hp
    obtain ⟨hp2, g2, d2, t2, os2⟩ := s'
    have og : g2 = s1.gens := g
    have oo : os2 = s1.os := o
    have J : Inv X pins σ (upd H1 p' (.lst (ks.map V.str))) ⟨hp2, g2, d2, t2, os2⟩ := by
      have J0 : Inv X pins σ (upd H1 p' (.lst (ks.map V.str))) ⟨hp2, g2, d2, t2, s1.os⟩ := Inv.call (s := { s1 with heap := h', toks := tk }) I2 (ch := []) (h' := hp2) (g' := g2) (d' := d2) (t' := t2) (Un.laid k hp hpn) (I2.hok.laid k hp ⟨hlen, out.toList, c, vals_of_strs hi, hget⟩) (by rw [og]; exact I2.bare) (fun _ z => nomatch z)
      rw [oo]
      exact J0
    exact ⟨.ref p', _, J, rfl, q1 ks p' hs hn hm hpn⟩
  rcases hq with hq | hq
  · obtain ⟨its, r, pl, hz⟩ := I1.list hq
    exact set_of_list xs (I1.ok.hd hc) pl.isList (by simpa using strsAre_of r) room fun h' tk hS hk => fin h' tk hS hk
  · obtain ⟨its, r, pl, hz⟩ := I1.tuple hq
    exact set_of_tuple xs (I1.ok.hd hc) pl (by simpa using strsAre_of r) room fun h' tk hS hk => fin h' tk hS hk
/-! ### min and max of texts -/
open PySem.W (minD maxD dataLt dataLt_str AlikeAll min_list_data max_list_data)
def smin (x : Str) (xs : List Str) : Str := xs.foldl (fun a y => if decide (y.cps.toList < a.cps.toList) = true then y else a) x
def smax (x : Str) (xs : List Str) : Str := xs.foldl (fun a y => if decide (a.cps.toList < y.cps.toList) = true then y else a) x
theorem minD_strs : ∀ (xs : List Str) (x : Str), minD (.str x) (xs.map .str) = .str (smin x xs)
  | [], _ => rfl
  | y :: r, x => by
    have ih := minD_strs r (if decide (y.cps.toList < x.cps.toList) = true then y else x)
    unfold minD smin at *
    rw [List.map_cons, List.foldl_cons, List.foldl_cons, dataLt_str, ← ih]
    congr 1
    split <;> rfl
theorem maxD_strs : ∀ (xs : List Str) (x : Str), maxD (.str x) (xs.map .str) = .str (smax x xs)
  | [], _ => rfl
  | y :: r, x => by
    have ih := maxD_strs r (if decide (x.cps.toList < y.cps.toList) = true then y else x)
    unfold maxD smax at *
    rw [List.map_cons, List.foldl_cons, List.foldl_cons, dataLt_str, ← ih]
    congr 1
    split <;> rfl
theorem reads_strs {h : Heap} : ∀ {us : List Value} {xs : List Str}, StrsAre us xs → ReadsAll h us (xs.map PyData.str) []
  | _, _, .nil => .nil
  | _, _, .cons n t hr => ReadsAll.cons (as := []) (bs := []) (.str n t) (reads_strs hr)
theorem alike_strs (xs : List Str) : AlikeAll (xs.map PyData.str) := by
  refine ⟨fun a ha b hb => ?_, fun a ha => ?_⟩
  · obtain ⟨x, _, rfl⟩ := List.mem_map.mp ha
    obtain ⟨y, _, rfl⟩ := List.mem_map.mp hb
    rfl
  · obtain ⟨x, _, rfl⟩ := List.mem_map.mp ha
    intro z
    cases z
theorem depth_strs : ∀ (xs : List Str), PyData.depthAll (xs.map PyData.str) ≤ 1
  | [] => by simp [PyData.depthAll]
  | x :: r => by
    have := depth_strs r
    rw [List.map_cons]
    simp only [PyData.depthAll, PyData.depth]
    omega
def rMinTx (K : PySem.W.Frag) : List V → Hp → VK → Prop := fun vs H Q => ∃ (a : Addr) (x : Str) (xs : List Str), vs = [V.ref a] ∧ SqL K H a ((x :: xs).map V.str) ∧ Q (.str (smin x xs)) H
def rMaxTx (K : PySem.W.Frag) : List V → Hp → VK → Prop := fun vs H Q => ∃ (a : Addr) (x : Str) (xs : List Str), vs = [V.ref a] ∧ SqL K H a ((x :: xs).map V.str) ∧ Q (.str (smax x xs)) H
theorem cr_minTx (hc : X.calm = true) (hu : X.A.units + 65 < cLine) : CallR X (.builtin "min") (rMinTx X.K) := by
  intro pins s σ H vs us Q I r h
  obtain ⟨a, x, xs, rfl, hs, q⟩ := h
  obtain ⟨its, rv, hl, hz⟩ := I.list hs
  rw [Vals.ref1 r]
  have hd := depth_strs (x :: xs)
  refine min_list_data (x := .str x) (xs := xs.map .str) (I.ok.hd hc) hl.isList (by simpa using reads_strs rv.strs) (alike_strs (x :: xs)) (by show _ + 1 + PyData.depthAll ((x :: xs).map PyData.str) < _; omega) fun i v h' tk bs hv hr hk => ?_
  rw [minD_strs] at hr
  cases hr with
  | str z t => exact ⟨.str _, H, I.kept hk, ⟨_, rfl⟩, q⟩
theorem cr_maxTx (hc : X.calm = true) (hu : X.A.units + 65 < cLine) : CallR X (.builtin "max") (rMaxTx X.K) := by
  intro pins s σ H vs us Q I r h
  obtain ⟨a, x, xs, rfl, hs, q⟩ := h
  obtain ⟨its, rv, hl, hz⟩ := I.list hs
  rw [Vals.ref1 r]
  have hd := depth_strs (x :: xs)
  refine max_list_data (x := .str x) (xs := xs.map .str) (I.ok.hd hc) hl.isList (by simpa using reads_strs rv.strs) (alike_strs (x :: xs)) (by show _ + 1 + PyData.depthAll ((x :: xs).map PyData.str) < _; omega) fun i v h' tk bs hv hr hk => ?_
  rw [maxD_strs] at hr
  cases hr with
  | str z t => exact ⟨.str _, H, I.kept hk, ⟨_, rfl⟩, q⟩
/-! ### sum of a tuple -/
theorem preSum_getD : ∀ (ns : List Int) (k : Nat), preSum (fun i => ns.getD i 0) k = (ns.take k).sum := by
  intro ns k
  induction k with
  | zero => simp [preSum]
  | succ k ih =>
    rw [preSum, ih]
    by_cases h : k < ns.length
    · rw [List.take_succ, List.getElem?_eq_getElem h, List.sum_append, List.getD_eq_getElem?_getD, List.getElem?_eq_getElem h]
      simp
    · rw [List.take_of_length_le (by omega), List.take_of_length_le (by omega), List.getD_eq_getElem?_getD, List.getElem?_eq_none (by omega)]
      simp
def rSumT (K : PySem.W.Frag) : List V → Hp → VK → Prop := fun vs H Q => ∃ (a : Addr) (ns : List Int), vs = [V.ref a] ∧ SqT K H a (ns.map V.int) ∧ Q (.int ns.sum) H
theorem cr_sumT (hc : X.calm = true) : CallR X (.builtin "sum") (rSumT X.K) := by
  intro pins s σ H vs us Q I r h
  obtain ⟨a, ns, rfl, hs, q⟩ := h
  obtain ⟨its, rv, pl, hz⟩ := I.tuple hs
  rw [Vals.ref1 r]
  have hi := rv.ints
  have hlen : its.length = ns.length := hi.length
  have hlt : a < s.heap.objs.size := by obtain ⟨_, e, _⟩ := pl; exact Heap.lt_size e
  refine call_sum_walkG (wpAny_pyIter_tuple pl ?_)
  refine ⟨_, [s.heap.objs.size, a], [s.heap.objs.size], its.toArray.size, (fun i v => its.toArray[i]? = some v), _, (fun i => ns.getD i 0), rfl, Walks.tuple (A := X.A.in1) (I.ok.hd hc) _ a (Nat.ne_of_lt hlt) its.toArray, ⟨⟨_, Heap.get?_push_size _ rfl, rfl, rfl⟩, pl.push _⟩, (fun b hb => ?_), (fun i v hv => ?_), fun h' tk t' hk => ?_⟩
  · show b < (s.heap.push _).objs.size
    rw [Heap.size_push]
    rcases List.mem_cons.mp hb with rfl | hb
    · exact Nat.lt_succ_self _
    · rw [List.mem_singleton.mp hb]; exact Nat.lt_succ_of_lt hlt
  · exact IntsAre.int_at hi i v (by simpa using hv)
  · rw [preSum_getD, List.size_toArray, hlen, List.take_length]
    refine ⟨.int _, H, I.kept (h' := h') (t' := tk) fun b o e => hk b o (fun z => ?_) (Heap.get?_push_of_some _ e), ⟨_, rfl⟩, q⟩
    rw [List.mem_singleton.mp z] at e
    exact Nat.lt_irrefl _ (Heap.lt_size e)
/-! ### extend by a tuple -/
theorem ext_tup (l : Addr) (items : Array Value) (n : Nat) (b : Addr) (items2 : Array Value) (n2 : Nat) (dd : Option Addr) (sl : Array (Option Value)) (hs0 : ¬(!items.isEmpty && Builtin.List.listTooLong (items.size + items2.size)) = true) (hs1 : items.size ≤ sizeLine) (hs2 : items.size + items2.size ≤ sizeLine + 1) :
    Meets (Builtin.«list.extend» ⟨[.ref l, .ref b], []⟩) (fun _ R s => s.heap.get? l = some { cls := .type "list", dict := none, data := .seq items n, slots := #[] } ∧ s.heap.get? b = some { cls := .type "tuple", dict := dd, data := .seq items2 n2, slots := sl } ∧ R (.ok (.ret Value.none)) { s with heap := s.heap.update l (Obj.mapSeq fun x => x ++ items2), toks := s.toks }) :=
  .of_wp fun prog w A R s h => by
    obtain ⟨hp, g, d, tk, os⟩ := s
    obtain ⟨hl, hb, h⟩ := h
    have f1 := PySem.AutoSeq1.idx_int; have f2 := PySem.AutoSeq1.sub_tuple_tuple; have f3 := PySem.AutoSeq1.sub_list_list; have f4 := PySem.AutoSeq1.sub_tuple_list; have f5 := PySem.AutoSeq1.sub_list_tuple
    have hz' : (items ++ items2).size ≤ sizeLine + 1 := by rw [Array.size_append]; exact hs2
    wp_walk using (wpAny_updateSeq hl rfl (hz := hs1) (_hz' := hz')), PySem.AutoSeq1.wpAny_loadPart' hl, PySem.AutoSeq1.wpAny_loadPart' hb
    exact ⟨_, rfl, h⟩
def rExtendT (K : PySem.W.Frag) : V → List V → Hp → VK → Prop := fun x vs H Q => ∃ l b xs zs, x = .ref l ∧ vs = [.ref b] ∧ H l = some (.lst xs) ∧ SqT K H b zs ∧ xs.length + zs.length ≤ sizeLine ∧ Q .non (upd H l (.lst (xs ++ zs)))
theorem mt_extendT : MtM X "list.extend" (rExtendT X.K) := by
  intro pins s σ H x vs v us Q I rx rv h
  obtain ⟨l, b, xs, zs, rfl, rfl, hH, hB, hz, q⟩ := h
  cases rx
  obtain ⟨u, rfl, ru⟩ := rv.one
  cases ru
  obtain ⟨z, its, n, r, hl, e⟩ := I.lstM hH
  obtain ⟨its2, r2, pl, hz2⟩ := I.tuple hB
  obtain ⟨⟨oc, dd, od, sl⟩, ho, hc, n2, hd⟩ := pl
  simp only at hc hd
  subst hc
  subst hd
  have hl2 : its2.length = zs.length := r2.length.symm
  have hl1 : its.length = xs.length := r.length.symm
  have hsz : its.toArray.size + its2.toArray.size ≤ sizeLine := by rw [List.size_toArray, List.size_toArray]; omega
  have hlong : ¬ (!its.toArray.isEmpty && Builtin.List.listTooLong (its.toArray.size + its2.toArray.size)) = true := by
    rw [notLongL hsz, Bool.and_false]
    exact Bool.false_ne_true
  refine call_meets PySem.F.slot_list_extend ⟨_, e, rfl⟩ PySem.F.entry_list_extend (PySem.F.args_list_extend_2 _ _)
    (ext_tup l its.toArray n b its2.toArray n2 dd sl hlong (by rw [List.size_toArray]; omega) (by omega)) ⟨e, ho, ?_⟩
  refine ⟨.non, _, I.lset (its' := its ++ its2) hH e (by simp) (r.append r2) ?_, rfl, q⟩
  rw [List.length_append]
  omega
end
end EvSet

set_option Elab.async false
set_option linter.all false
set_option maxRecDepth 100000
set_option maxHeartbeats 4000000
/-! Ev, sets of ints by the same way: set(list of ints), and sorted of it, of any length (EvSet with ints). -/
namespace EvSetI
open PySem PySem.Spec PyProof.Rows L2
/-- the text of an entry -/
def txt (e : Int × Value) : Int := match e.2 with
  | .int k _ => k
  | _ => 0
def IsTxt (w : World) (e : Int × Value) : Prop := ∃ k tk, e.2 = Value.int k tk ∧ e.1 = hashInt k
/-- at a: a set whose members are the texts M tells; its table can be walked -/
def Txts (w : World) (h : Heap) (a : Addr) (M : Int → Prop) : Prop :=
  ∃ o es ep t, h.get? a = some o ∧ o.ExactSet ∧ o.data = .set es ep t ∧ (∀ e ∈ es.toList, IsTxt w e) ∧ (es.toList.map txt).Nodup ∧ (∀ k, M k ↔ k ∈ es.toList.map txt) ∧
    es.size < scanBound ∧ t.fits es.size = true ∧ Ris t.place.toList ∧ (w.params.followText "set-order" = true ∨ t.led = true)
section
variable {P : Program} {w : World} {h h' : Heap} {a : Addr} {M : Int → Prop}
theorem Txts.at (R : Txts w h a M) (k : ∀ o, h.get? a = some o → h'.get? a = some o) : Txts w h' a M := by
  obtain ⟨o, es, ep, t, ho, r⟩ := R
  exact ⟨o, es, ep, t, k o ho, r⟩
theorem Txts.congr {M' : Int → Prop} (R : Txts w h a M) (e : ∀ k, M' k ↔ M k) : Txts w h a M' := by
  obtain ⟨o, es, ep, t, ho, hx, hd, g, nd, hm, r⟩ := R
  exact ⟨o, es, ep, t, ho, hx, hd, g, nd, fun k => (e k).trans (hm k), r⟩
theorem elems {l : List (Int × Value)} (g : ∀ e ∈ l, IsTxt w e) : ElemsOf (PySem.intKind P w) l := fun e he => by
  obtain ⟨k, tk, h1, h2⟩ := g e he
  exact ⟨⟨k, by rw [h1]; exact intKind_is P w k tk, h2⟩, by rw [h1] <;> rfl⟩
theorem is_txt {e : Int × Value} (g : IsTxt w e) (k : Int) : (PySem.intKind P w).is k e.2 = true ↔ txt e = k := by
  obtain ⟨k0, tk, h1, _⟩ := g
  unfold txt
  rw [h1]
  show ((k0 == k) = true) ↔ k0 = k
  exact beq_iff_eq
theorem mem_txt {l : List (Int × Value)} (g : ∀ e ∈ l, IsTxt w e) (k : Int) : k ∈ l.map txt ↔ ∃ e ∈ l, (PySem.intKind P w).is k e.2 = true := by
  rw [List.mem_map]
  constructor
  · rintro ⟨e, he, q⟩
    exact ⟨e, he, (is_txt (g e he) k).2 q⟩
  · rintro ⟨e, he, q⟩
    exact ⟨e, he, (is_txt (g e he) k).1 q⟩
end
section
variable {P : Program} {w : World} {A : Around} {E : Value → Shared → Prop} {s : Shared} {a : Addr} {M : Int → Prop}
theorem add_tail {g : Bool → Sem Unit} (hg : ∀ (b : Bool) (s₁ : Shared) (Q' : Unit → Shared → Prop), Q' () s₁ → wpAny (model P w) A (g b) Q' E s₁)
    {o : Obj} {es : Array (Int × Value)} {ep : Nat} {t : SetTable} (ho : s.heap.get? a = some o) (hex : o.ExactSet) (hd : o.data = .set es ep t)
    {es1 : Array (Int × Value)} {t2 : SetTable} {M' : Int → Prop} (g1 : ∀ e ∈ es1.toList, IsTxt w e) (nd1 : (es1.toList.map txt).Nodup) (m1 : ∀ k, M' k ↔ k ∈ es1.toList.map txt)
    (hb1 : es1.size < scanBound) (hf2 : t2.fits es1.size = true) (hr : Ris t2.place.toList) (hl : w.params.followText "set-order" = true ∨ t2.led = true) {wasDummy : Bool} {R : Option Bool → Shared → Prop}
    (hR : ∀ h', Heap.SameBut a s.heap h' → Txts w h' a M' → R (some true) { s with heap := h' }) :
    wpAny (model P w) A (do
        storeSet a es1 t2
        if (!wasDummy && t2.tooFull) = true then do
            g (relayAll t2 es1 (SetTable.grown es1.size)).2.2
            storeSet a (relayAll t2 es1 (SetTable.grown es1.size)).1 (relayAll t2 es1 (SetTable.grown es1.size)).2.1
            pure (some true)
          else pure (some true)) R E s := by
  refine wpAny_bind (wpAny_storeSet_of ho hd ?_ (fits_of_scanBound hb1))
  have ho1 := store_at (es' := es1) (t' := t2) ho hd
  have sb1 := Heap.SameBut.update s.heap a (Obj.putSet es1 t2)
  split
  · have pm := relayAll_perm t2 es1 (SetTable.grown es1.size)
    have hf3 := relayAll_fits t2 es1 (SetTable.grown es1.size)
    have hr3 := relayAll_ris t2 es1 (SetTable.grown es1.size)
    have hl3 := relayAll_led t2 es1 (SetTable.grown es1.size)
    generalize relayAll t2 es1 (SetTable.grown es1.size) = Z at pm hf3 hr3 hl3 ⊢
    obtain ⟨es2, t3, gave⟩ := Z
    dsimp only at pm hf3 hr3 hl3 ⊢
    have hsz : es2.size = es1.size := by rw [← Array.length_toList, pm.length_eq, Array.length_toList]
    have hb2 : es2.size < scanBound := by rw [hsz]; exact hb1
    refine wpAny_bind (hg _ _ _ ?_)
    refine wpAny_bind (wpAny_storeSet_of ho1 rfl ?_ (fits_of_scanBound hb2))
    have ho2 := store_at (es' := es2) (t' := t3) ho1 rfl
    refine wpAny_pure (hR _ (sb1.trans (Heap.SameBut.update _ a _)) ?_)
    exact ⟨_, es2, _, t3, ho2, hex, rfl, fun e he => g1 e (pm.mem_iff.mp he), (pm.map txt).nodup_iff.mpr nd1, fun k => (m1 k).trans (pm.map txt).mem_iff.symm, hb2, hf3, hr3,
      hl.imp id fun z => by rw [hl3]; exact z⟩
  · exact wpAny_pure (hR _ sb1 ⟨_, es1, _, t2, ho1, hex, rfl, g1, nd1, m1, hb1, hf2, hr, hl⟩)
theorem add_txt {k : Int} {tk : Tok} {Q : Bool → Shared → Prop} (R : Txts w s.heap a M) (room : ∀ l : List Int, l.Nodup → (∀ x ∈ l, M x) → l.length + 1 < scanBound)
    (hQ : ∀ b h', Heap.SameBut a s.heap h' → Txts w h' a (fun j => M j ∨ j = k) → Q b { s with heap := h' }) :
    wpAny (model P w) A (setAddHashed a (.int k tk) ((PySem.intKind P w).hash k)) Q E s := by
  obtain ⟨o, es, ep, t, ho, hex, hd, g, nd, hm, hb, hf, hr, hl⟩ := R
  have hroom : es.size + 1 < scanBound := by
    have := room (es.toList.map txt) nd fun x hx => (hm x).2 hx
    rwa [List.length_map, Array.length_toList] at this
  have hkey : (PySem.intKind P w).is k (.int k tk) = true := intKind_is P w k tk
  have hsc : (Value.int k tk).scannable = true := rfl
  have hel : ElemsOf (PySem.intKind P w) es.toList := elems g
  unfold setAddHashed setAddHashedIn
  refine wpAny_holding (wpAny_bind (wpAny_setState_of ho hd hf ?_))
  dsimp only
  rw [byScan_of hsc hb hel]
  simp only [↓reduceIte]
  unfold setAddByScan
  refine wpAny_bind ?_
  refine wpAny_bind (wpAny_rule ?_)
  refine wpAny_bind (wpAny_setScan_of hkey ho hd hf hel ?_)
  cases hfi : List.findIdx? (fun e => (PySem.intKind P w).is k e.2) es.toList with
  | some j =>
    dsimp only
    obtain ⟨hj, pj, _⟩ := List.findIdx?_eq_some_iff_getElem.mp hfi
    have hMk : M k := (hm k).2 ((mem_txt (P := P) (w := w) g k).2 ⟨es.toList[j], List.getElem_mem hj, pj⟩)
    refine wpAny_pure (wpAny_pure ?_)
    exact hQ _ s.heap (Heap.SameBut.refl a s.heap) ⟨o, es, ep, t, ho, hex, hd, g, nd, fun i => by
      rw [← hm i]
      exact ⟨fun z => z.elim id (fun e => e ▸ hMk), .inl⟩, hb, hf, hr, hl⟩
  | none =>
    dsimp only
    have hnk : k ∉ es.toList.map txt := fun z => by
      obtain ⟨e, he, q⟩ := (mem_txt (P := P) (w := w) g k).1 z
      have c := List.findIdx?_eq_none_iff.mp hfi e he
      rw [q] at c
      cases c
    have hgw : ∀ (b : Bool) {s₁ : Shared} {Q' : Unit → Shared → Prop}, Q' () s₁ → wpAny (model P w) A (match b with | true => rule "set.scan.the-table-gave-way" | false => pure ()) Q' E s₁ :=
      fun b s₁ Q' q => by cases b <;> first | exact wpAny_pure q | exact wpAny_rule q
    have pm := layNew_perm t es ((PySem.intKind P w).hash k) (.int k tk)
    have hf1 := layNew_fits t es ((PySem.intKind P w).hash k) (.int k tk)
    have hr1 := layNew_ris t es ((PySem.intKind P w).hash k) (.int k tk) hr
    have hl1 := layNew_led t es ((PySem.intKind P w).hash k) (.int k tk)
    generalize layNew t es ((PySem.intKind P w).hash k) (.int k tk) = Z at pm hf1 hr1 hl1 ⊢
    obtain ⟨es1, t1, wasDummy, gave⟩ := Z
    dsimp only at pm hf1 hr1 hl1 ⊢
    rw [Array.toList_push] at pm
    have pc : es1.toList.Perm (((PySem.intKind P w).hash k, Value.int k tk) :: es.toList) := pm.trans (List.perm_append_singleton _ _)
    have pk : (es1.toList.map txt).Perm (k :: es.toList.map txt) := pc.map txt
    have g1 : ∀ e ∈ es1.toList, IsTxt w e := fun e he => by
      rcases List.mem_cons.mp (pc.mem_iff.mp he) with z | z
      · rw [z]; exact ⟨k, tk, rfl, rfl⟩
      · exact g e z
    have nd1 : (es1.toList.map txt).Nodup := pk.nodup_iff.mpr (List.nodup_cons.mpr ⟨hnk, nd⟩)
    have m1 : ∀ i, (M i ∨ i = k) ↔ i ∈ es1.toList.map txt := fun i => by
      rw [hm i, pk.mem_iff, List.mem_cons]
      exact Or.comm
    have hsz : es1.size = es.size + 1 := by rw [← Array.length_toList, pc.length_eq, List.length_cons, Array.length_toList]
    have hb1 : es1.size < scanBound := by rw [hsz]; exact hroom
    have hled : w.params.followText "set-order" = true ∨ t1.led = true := hl.imp id fun z => by rw [hl1]; exact z
    refine wpAny_bind (hgw _ ?_)
    split
    · refine wpAny_bind ?_
      rw [hashByValue_scannable 8 hsc]
      refine wpAny_pure ?_
      refine add_tail ?_ ho hex hd g1 nd1 m1 hb1 ?_ ?_ ?_ ?_
      · intro b s₁ Q' q; cases b <;> first | exact wpAny_pure q | exact wpAny_rule q
      · first | (split <;> first | exact hf1 | exact SetTable.fits_plain_off hf1) | exact hf1
      · first | (split <;> exact hr1) | exact hr1
      · first | (split <;> exact hled) | exact hled
      · intro h' sb r; dsimp only; exact wpAny_pure (hQ _ h' sb r)
    · refine wpAny_bind (wpAny_pure ?_)
      simp only [↓reduceIte]
      refine add_tail ?_ ho hex hd g1 nd1 m1 hb1 hf1 hr1 hled ?_
      · intro b s₁ Q' q; cases b <;> first | exact wpAny_pure q | exact wpAny_rule q
      · intro h' sb r; dsimp only; exact wpAny_pure (hQ _ h' sb r)
theorem update_txts {I : Addr} {fp wr : List Addr} {G : Array GenState → Array GenState → Prop} {n : Nat} {Pv : Nat → Value → Prop} {St : Nat → Shared → Prop} {R : Result → Shared → Prop}
    (W : WalksS P w A.in1 I fp wr G n Pv St) (S : Addr) (hSf : S ∉ fp) (xs : List Int) (hn : n = xs.length) (room : ∀ l : List Int, l.Nodup → (∀ x ∈ l, x ∈ xs) → l.length + 1 < scanBound) (hval : ∀ i v, Pv i v → ∃ k t, xs[i]? = some k ∧ v = .int k t) :
    ∀ (k i : Nat) (s : Shared), n - i = k → i ≤ n → St i s → Txts w s.heap S (fun j => j ∈ xs.take i) →
      (∀ s', Moved (S :: wr) G s s' → Txts w s'.heap S (fun j => j ∈ xs) → R (.ok (.ret .none)) s') →
      codeAny (model P w) A (.builtin "set.update.loop" ⟨[.ref S, .ref I], []⟩) R s := by
  have hSw : S ∉ wr := fun h => hSf (W.sub _ h)
  have hsub : ∀ b ∈ wr, b ∈ S :: wr := fun b hb => List.mem_cons_of_mem _ hb
  intro k
  induction k with
  | zero =>
    intro i s hk' hi hst hS hR
    have hin : i = n := by omega
    subst hin
    refine codeAny_builtin PyProof.Rows.F.entry_set_update_loop ?_
    rw [Around.under_plainId PyProof.Rows.F.plain_set_update_loop _]
    show wpAny _ A.in1 (pyNext (.ref I) >>= _) _ _ s
    refine wpAny_bind (W.done s _ _ hst fun s' hm => ?_)
    show wpAny _ A.in1 (ret Value.none) _ _ s'
    have e : xs.take i = xs := List.take_of_length_le (by omega)
    rw [e] at hS
    exact wpAny_pure (hR s' (hm.mono hsub) (hS.at fun o e => hm.heap S o hSw e))
  | succ k ih =>
    intro i s hk' hi hst hS hR
    have hlt : i < n := by omega
    refine codeAny_builtin PyProof.Rows.F.entry_set_update_loop ?_
    rw [Around.under_plainId PyProof.Rows.F.plain_set_update_loop _]
    show wpAny _ A.in1 (pyNext (.ref I) >>= _) _ _ s
    refine wpAny_bind (W.item i s _ _ hlt hst fun v s' hP hst' hm => ?_)
    obtain ⟨z, t, hz, rfl⟩ := hval i v hP
    have hS' : Txts w s'.heap S (fun j => j ∈ xs.take i) := hS.at fun o e => hm.heap S o hSw e
    show wpAny _ A.in1 (holding [Value.int z t] (setAdd S (.int z t)) >>= _) _ _ s'
    refine wpAny_bind (wpAny_holding ?_)
    unfold setAdd
    refine wpAny_holding ?_
    refine wpAny_bind ((PySem.intKind P w).pyHash (k := z) (intKind_is _ _ _ _) ?_)
    refine add_txt (s := { s' with toks := s'.toks + 1 }) hS' (fun l h1 h2 => room l h1 fun x hx => List.mem_of_mem_take (h2 x hx)) fun b h' hsb hS2 => ?_
    have hS3 : Txts w h' S (fun j => j ∈ xs.take (i + 1)) := hS2.congr fun j => by
      rw [List.take_add_one, hz]
      simp [List.mem_append]
    refine wpAny_pure ⟨plainId_quiet PyProof.Rows.F.plain_set_update_loop _, ih (i + 1) _ (by omega) hlt (W.frame _ s' _ _ hst' (Nat.le_succ _) fun b hb o e => ?_) hS3 fun s'' hm'' hS'' => ?_⟩
    · rw [hsb.2 b (fun h : b = S => hSf (by rw [← h]; exact hb))]; exact e
    · refine hR s'' (Moved.trans W.gtrans ((hm.mono hsub).then_heap (Nat.le_succ _) fun b o hb e => ?_) hm'') hS''
      rw [hsb.2 b (fun h : b = S => hb (by rw [h]; exact List.mem_cons_self))]; exact e
theorem txts_new {w : World} {h : Heap} {a : Addr} {xs : List Int} (ho : h.get? a = some { cls := .type "set", dict := none, data := .set #[] 0 (.fresh 0 0 (!w.params.followText "set-order")) }) : Txts w h a (fun j => j ∈ xs.take 0) :=
  ⟨_, #[], 0, _, ho, ⟨rfl, rfl, rfl⟩, rfl, (fun e he => by simp at he), (by simp), (fun k => by simp), (by decide), (by rfl), List.Pairwise.nil, by
    show _ ∨ (!w.params.followText "set-order") = true
    cases w.params.followText "set-order"
    · exact .inr rfl
    · exact .inl rfl⟩

set_option maxHeartbeats 3200000 in
theorem set_of_list {l : Addr} {items : Array Value} (xs : List Int) {Q : Value → Shared → Prop} (hh : A.handled = none) (hl : s.heap.IsList l items) (hit : IntsAre items.toList xs) (room : ∀ l : List Int, l.Nodup → (∀ x ∈ l, x ∈ xs) → l.length + 1 < scanBound)
    (h : ∀ (h' : Heap) (tk : Nat), Txts w h' s.heap.objs.size (fun j => j ∈ xs) → (∀ b o, s.heap.get? b = some o → h'.get? b = some o) → Q (.ref s.heap.objs.size) { s with heap := h', toks := tk }) :
    wpAny (model P w) A (call (.type "set") [.ref l]) Q E s := by
  have hisz : items.size = xs.length := by rw [← IntsAre.length hit, Array.length_toList]
  obtain ⟨c, tl, hmro⟩ := PySem.F.called_set.mro
  have hmade := PySem.F.called_set.made
  have hsub := PySem.F.called_set.sub
  refine wpAny_call (codeAny_of_tree ?_)
  show wpAny _ _ (callAny (.type "set") _) _ _ _
  refine wpAny_pure ⟨Code.quiet_builtin _ (by decide +kernel), codeAny_builtin PySem.F.entry_type_call ?_⟩
  rw [Around.under_plain (weight_type_call_type "set" [.ref l] []) rfl]
  have h1 := PySem.F.called_set.notType
  have h2 := PySem.F.called_set.canCreate
  have hct := PySem.F.typeCall_set_1 (.ref l)
  repeat (any_goals (first | assumption | wp_step))
  refine codeAny_mono (code_set_led1 (.ref l) (E := E) (Q₁ := fun obj s₁ => obj = .ref s.heap.objs.size ∧ s₁ = { s with heap := s.heap.push { cls := .type "set", dict := none, data := .set #[] 0 (.fresh 0 0 (!w.params.followText "set-order")) } }) ⟨rfl, rfl⟩) fun r s₁ hr => ?_
  cases r with
  | error e => exact hr
  | ok fl =>
    cases fl with
    | ret obj =>
      obtain ⟨rfl, rfl⟩ := hr
      have hS : (s.heap.push { cls := .type "set", dict := none, data := .set #[] 0 (.fresh 0 0 (!w.params.followText "set-order")) }).get? s.heap.objs.size = some { cls := .type "set", dict := none, data := .set #[] 0 (.fresh 0 0 (!w.params.followText "set-order")) } := Heap.get?_push_size _ rfl
      have hT : Shared.TypeIs { s with heap := s.heap.push { cls := .type "set", dict := none, data := .set #[] 0 (.fresh 0 0 (!w.params.followText "set-order")) } } (.ref s.heap.objs.size) "set" := ⟨_, hS, rfl⟩
      have hli := PySem.F.called_set.init.lookup
      have hbi := PySem.F.called_set.init.bind (.ref s.heap.objs.size)
      repeat (any_goals (first | assumption | wp_step))
      refine codeAny_mono (codeAny_call_builtin (R := wants (fun r s₂ => r = .none ∧ ∃ h' tk, s₂ = { s with heap := h', toks := tk } ∧ Txts w h' s.heap.objs.size (fun j => j ∈ xs) ∧
          (∀ b o, s.heap.get? b = some o → h'.get? b = some o)) E) PySem.F.called_set.init.plain PySem.F.entry_set_init (check_set_init_1 hT ?_)) fun r₂ s₂ hr₂ => ?_
      · obtain ⟨ol, hol, hcl, nl, hdl⟩ := hl
        obtain ⟨ocls, odict, odata, oslots⟩ := ol
        simp only at hcl hdl
        subst hcl; subst hdl
        have hol' : (s.heap.push { cls := .type "set", dict := none, data := .set #[] 0 (.fresh 0 0 (!w.params.followText "set-order")) }).get? l = some { cls := .type "list", dict := odict, data := .seq items nl, slots := oslots } := Heap.get?_push_of_some _ hol
        have hsls := PySem.F.sub_list_set
        have hslf := PySem.F.sub_list_frozenset
        have hne : (Value.type "list" == Value.type "dict") = false := by decide
        have hl1 : (s.heap.push { cls := .type "set", dict := none, data := .set #[] 0 (.fresh 0 0 (!w.params.followText "set-order")) }).IsList l items := ⟨_, hol', rfl, nl, rfl⟩
        unfold Builtin.«set.__init__» noKeywords Builtin.Frozenset.updateFrom
        generalize hPI : pyIter = PI
        wp_walk
        subst hPI
        refine wpAny_pyIter_list hl1 ?_
        refine wpAny_bind (wpAny_runValue ?_)
        have hlS : l < s.heap.objs.size := Heap.lt_size hol
        have hh3 : A.in1.in1.in1.handled = none := by simp [hh]
        have hneI : l ≠ (s.heap.push { cls := .type "set", dict := none, data := .set #[] 0 (.fresh 0 0 (!w.params.followText "set-order")) }).objs.size := by
          rw [Heap.size_push]; exact Nat.ne_of_lt (Nat.lt_succ_of_lt hlS)
        have hSf : s.heap.objs.size ∉ [(s.heap.push { cls := .type "set", dict := none, data := .set #[] 0 (.fresh 0 0 (!w.params.followText "set-order")) }).objs.size, l] := by
          rw [Heap.size_push]; simp only [List.mem_cons, List.mem_singleton, List.not_mem_nil, or_false, not_or]
          exact ⟨Nat.ne_of_lt (Nat.lt_succ_self _), Nat.ne_of_gt hlS⟩
        have hval : ∀ (i : Nat) (v : Value), items[i]? = some v → ∃ k t, xs[i]? = some k ∧ v = .int k t := fun i v hv => by
          have hi : i < xs.length := by rw [← hisz]; exact (Array.getElem?_eq_some_iff.mp hv).1
          obtain ⟨t, e⟩ := IntsAre.int_at hit i v (by rw [Array.getElem?_toList]; exact hv)
          refine ⟨xs[i], t, List.getElem?_eq_getElem hi, ?_⟩
          rw [e, List.getD_eq_getElem?_getD, List.getElem?_eq_getElem hi] <;> rfl
        refine update_txts ((Walks.list hh3 _ l hneI items).toS) s.heap.objs.size
          hSf xs hisz room hval (items.size - 0) 0 _ (by omega) (Nat.zero_le _)
          ⟨⟨_, Heap.get?_push_size _ rfl, rfl, rfl⟩, (hl1.push _)⟩ ?hS0 ?hR
        case hS0 =>
          have hget : ((s.heap.push { cls := .type "set", dict := none, data := .set #[] 0 (.fresh 0 0 (!w.params.followText "set-order")) }).push { cls := .type "list_iterator", data := .fields #[.ref l, .int 0 0] }).get? s.heap.objs.size
              = some { cls := .type "set", dict := none, data := .set #[] 0 (.fresh 0 0 (!w.params.followText "set-order")) } := Heap.get?_push_of_some _ hS
          exact txts_new hget
        case hR =>
          intro s' hm hS'
          obtain ⟨h', g2, d', tk', os'⟩ := s'
          have eg : g2 = s.gens := hm.gens
          have ed : d' = s.drawn := hm.drawn
          have eo : os' = s.os := hm.os
          subst eg; subst ed; subst eo
          show wpAny _ _ _ _ _ _
          refine wpAny_pure ?_
          show wpAny _ _ (ret Value.none) _ _ _
          refine wpAny_pure ⟨rfl, h', tk', rfl, hS', fun b o e => ?_⟩
          have hb0 : b < s.heap.objs.size := Heap.lt_size e
          have hb1 : b ≠ s.heap.objs.size := Nat.ne_of_lt hb0
          have hb2 : b ≠ (s.heap.push { cls := .type "set", dict := none, data := .set #[] 0 (.fresh 0 0 (!w.params.followText "set-order")) }).objs.size := by
            rw [Heap.size_push]; exact Nat.ne_of_lt (Nat.lt_succ_of_lt hb0)
          exact hm.heap b o (by simp only [List.mem_cons, List.mem_singleton, List.not_mem_nil, or_false, not_or]; exact ⟨hb1, hb2⟩) (Heap.get?_push_of_some _ (Heap.get?_push_of_some _ e))
      · cases r₂ with
        | error e => exact hr₂
        | ok fl₂ =>
          cases fl₂ with
          | ret r =>
            obtain ⟨rfl, h', tk, rfl, hS', hk'⟩ := hr₂
            repeat (any_goals (first | assumption | wp_step))
            exact h _ _ hS' hk'
          | _ => exact hr₂.elim
    | _ => exact hr.elim

theorem strs_of : ∀ (l : List Value), (∀ v ∈ l, ∃ k tk, v = Value.int k tk) → ∃ ks, IntsAre l ks
  | [], _ => ⟨[], .nil⟩
  | v :: r, h => by
    obtain ⟨k, tk, rfl⟩ := h v (by simp)
    obtain ⟨ks, hr⟩ := strs_of r fun x hx => h x (by simp [hx])
    exact ⟨k :: ks, .cons k tk hr⟩
theorem strs_txt : ∀ {l : List (Int × Value)} {vs : List Value} {ks : List Int}, (∀ e ∈ l, IsTxt w e) → vs = l.map (·.2) → IntsAre vs ks → ks = l.map txt
  | [], _, _, _, e, h => by
    subst e
    cases h
    rfl
  | x :: l, _, _, g, e, h => by
    subst e
    obtain ⟨k, tk, h1, _⟩ := g x (by simp)
    rw [List.map_cons, h1] at h
    cases h with
    | cons _ _ hr =>
      rw [List.map_cons, strs_txt (fun e he => g e (by simp [he])) rfl hr]
      congr 1
      unfold txt
      rw [h1]
theorem strsAre_inj : ∀ {vs : List Value} {a b : List Int}, IntsAre vs a → IntsAre vs b → a = b
  | _, _, _, .nil, .nil => rfl
  | _, _, _, .cons k tk h, .cons _ _ h' => by rw [strsAre_inj h h']
/-- sorted of a set of texts -/
theorem sorted_txts {Q : Value → Shared → Prop} (R : Txts w s.heap a M) (hh : A.handled = none)
    (hQ : ∀ s' p (out : Array Value) (c : Nat) (ks : List Int), (∀ b o, s.heap.get? b = some o → s'.heap.get? b = some o) → s'.gens = s.gens → s'.os = s.os → s.heap.objs.size ≤ p →
      s'.heap.get? p = some (seqObj "list" out c) → IntsAre out.toList ks → ks.Pairwise (· ≤ ·) → ks.Nodup → (∀ k, k ∈ ks ↔ M k) → Q (.ref p) s') :
    wpAny (model P w) A (call (.builtin "sorted") [.ref a]) Q E s := by
  obtain ⟨o, es, ep, t, ho, hex, hd, g, nd, hm, hb, hf, hr, hl⟩ := R
  refine Calls.call_function_entry kind_sorted plain_sorted entry_sorted (args_sorted1 _) ?_
  unfold Builtin.«sorted»
  refine wpAny_bind (m := checkCount "sorted" 1 1 _) (wpAny_pure ?_)
  refine wpAny_bind (collect_set (A := A.in1) hh ⟨o, ho, hex.1, hd⟩ hf hb hr hl fun s1 vs k1 hz g1 o1 pm => ?_)
  have hvl : vs.length = es.size := by rw [pm.length_eq, List.length_map, Array.length_toList]
  have hve : ∀ v ∈ vs, ∃ k tk, v = Value.int k tk := fun v hv => by
    obtain ⟨e, he, q⟩ := List.mem_map.mp (pm.mem_iff.mp hv)
    obtain ⟨k, tk, h1, _⟩ := g e he
    exact ⟨k, tk, by rw [← q]; exact h1⟩
  obtain ⟨us, hI⟩ := strs_of vs hve
  have hus : us.Perm (es.toList.map txt) := by
    let F : Value → Int := fun v => match v with
      | .int k _ => k
      | _ => 0
    have h1 : ∀ {vs : List Value} {us : List Int}, IntsAre vs us → us = vs.map F := by
      intro vs us h
      induction h with
      | nil => rfl
      | cons k tk _ ih => rw [List.map_cons, ← ih]
    rw [h1 hI]
    have q := pm.map F
    rw [List.map_map] at q
    exact q
  have hL : vs.length ≤ sizeLine := by rw [hvl, sizeLine_eq]; unfold scanBound at hb; omega
  refine wpAny_bind (wpAny_newList ?_ hL)
  have hoL : (s1.heap.push (seqObj "list" vs.toArray 0)).get? s1.heap.objs.size = some (seqObj "list" vs.toArray 0) := Heap.get?_push_size _ rfl
  refine wpAny_bind (wpAny_holding (wpAny_call_entry slot_list_sort ⟨_, hoL, rfl⟩ entry_list_sort (list_sort_treeKAny intKind_oneLt hoL hI.keysOfInt (fun v₁ v₂ rest e => keyKind_ints (by rw [← e]; exact hI)) hL fun st' a1 a2 => ⟨_, rfl, ?_⟩) (args_list_sort _)))
  obtain ⟨ks, b1, b2, b3⟩ := sorted_out hI a1 (sortedTo_of_int a2)
  obtain ⟨c, hc⟩ := sortedHeap_at (vs := vs) (out := (arrOf st').map (·.2)) hoL
  have pn : ks.Perm (es.toList.map txt) := b2.trans hus
  refine wpAny_pure ⟨_, rfl, hQ _ s1.heap.objs.size _ c ks (fun b u e => ?_) g1 o1 hz hc b1 b3 (pn.nodup_iff.mpr nd) (fun k => by rw [pn.mem_iff, ← hm k])⟩
  have q := k1 b u e
  have hlt := Heap.lt_size q
  show (sortedHeap (s1.heap.push (seqObj "list" vs.toArray 0)) s1.heap.objs.size vs _).get? b = some u
  rw [sortedHeap_old (Nat.ne_of_lt hlt) (by rw [size_push']; exact Nat.lt_succ_of_lt hlt)]
  exact Heap.get?_push_of_some _ q
end
end EvSetI

set_option Elab.async false
set_option linter.all false
set_option maxRecDepth 100000
set_option maxHeartbeats 4000000
/-! Ev: sorted(set(..)) of texts or ints. -/
namespace EvSetI
open PySem PySem.Spec PyProof.Rows L2
/-- sorted(set(a)): a list or tuple of texts, or a list of ints -/
def tSSet2 (K : PySem.W.Frag) (ta : TE) : TE := fun σ H Q => ta σ H fun x H1 =>
  (∃ l, ∃ xs : List Str, x = .ref l ∧ (SqL K H1 l (xs.map V.str) ∨ SqT K H1 l (xs.map V.str)) ∧
    (∀ l : List Str, l.Nodup → (∀ x ∈ l, x ∈ xs) → l.length + 1 < scanBound) ∧ ∀ (ys : List Str) (p : Addr), sortedS ys = true → ys.Nodup → (∀ k, k ∈ ys ↔ k ∈ xs) → H1 p = none → Q (.ref p) (upd H1 p (.lst (ys.map V.str)))) ∨
  (∃ l, ∃ xs : List Int, x = .ref l ∧ SqL K H1 l (xs.map V.int) ∧
    (∀ l : List Int, l.Nodup → (∀ x ∈ l, x ∈ xs) → l.length + 1 < scanBound) ∧ ∀ (ys : List Int) (p : Addr), ys.Pairwise (· ≤ ·) → ys.Nodup → (∀ k, k ∈ ys ↔ k ∈ xs) → H1 p = none → Q (.ref p) (upd H1 p (.lst (ys.map V.int))))
section
variable {X : Cx}
theorem laid_list {pins : List (Addr × Obj)} {s1 : Shared} {σ : L2.St} {H1 : Hp} {h' : Heap} {tk : Nat} (I2 : L2.Inv X pins σ H1 { s1 with heap := h', toks := tk }) {s' : Shared} {p' : Addr} {vs : List V} {out : Array Value} {c : Nat} (k : ∀ b o, h'.get? b = some o → s'.heap.get? b = some o) (g : s'.gens = s1.gens) (o : s'.os = s1.os)
    (hp : h'.objs.size ≤ p') (hget : s'.heap.get? p' = some (seqObj "list" out c)) (hv : Vals vs out.toList) (hlen : vs.length ≤ sizeLine) : L2.Inv X pins σ (upd H1 p' (.lst vs)) s' ∧ H1 p' = none := by
  have hpn : H1 p' = none := I2.hok.fresh hp
  obtain ⟨hp2, g2, d2, t2, os2⟩ := s'
  have og : g2 = s1.gens := g
  have oo : os2 = s1.os := o
  have J0 : L2.Inv X pins σ (upd H1 p' (.lst vs)) ⟨hp2, g2, d2, t2, s1.os⟩ := L2.Inv.call (s := { s1 with heap := h', toks := tk }) I2 (ch := []) (h' := hp2) (g' := g2) (d' := d2) (t' := t2) (Un.laid k hp hpn) (I2.hok.laid k hp ⟨hlen, out.toList, c, hv, hget⟩) (by rw [og]; exact I2.bare) (fun _ z => nomatch z)
  refine ⟨?_, hpn⟩
  rw [oo]
  exact J0
theorem pe_sset2 {a : Expr} {ta : TE} {p p2 q pos : Pos} (hc : X.calm = true) (hg : Gl X "sorted") (hm : X.mg "sorted" = none) (hg2 : Gl X "set") (hm2 : X.mg "set" = none) (ha : PE X a ta)
    (na : starEach [a] X.env = (false, eval a X.env) :: starEach [] X.env := by rfl) : PE X (.Call (.Name "sorted" p) [.Call (.Name "set" p2) [a] [] q] [] pos) (tSSet2 X.K ta) := by
  refine ⟨fun pins s σ H Q I h => ?_⟩
  refine Call_ (ld_blt I hg hm EvSet.boot_sorted ?_)
  refine PyProof.Rows.callWith_builtin1 (PyProof.Rows.args_cons ?_ rfl) rfl rfl
  refine Call_ (ld_blt I hg2 hm2 boot_set ?_)
  refine PyProof.Rows.callWith_type1 (PyProof.Rows.args_cons (thn (ha.run pins s σ H _ I h) fun v s1 ⟨x, H1, I1, r1, q1⟩ => PyProof.Rows.args_nil ?_) na) na rfl
  rcases q1 with ⟨l, xs, rfl, hq, room, q1⟩ | ⟨l, xs, rfl, hq, room, q1⟩
  · cases r1
    have fin : ∀ (h' : Heap) (tk : Nat), EvSet.Txts X.w h' s1.heap.objs.size (fun j => j ∈ xs) → (∀ b o, s1.heap.get? b = some o → h'.get? b = some o) →
        wpAny (model X.prog X.w) X.A (spliced (backTo pos (starEach [] X.env))) (fun vs s₂ => wpAny (model X.prog X.w) X.A (call (.builtin "sorted") (Value.ref s1.heap.objs.size :: vs)) (EP X pins σ Q) X.xe s₂) X.xe { s1 with heap := h', toks := tk } := fun h' tk hS hk => by
      refine PyProof.Rows.args_nil ?_
      have I2 : L2.Inv X pins σ H1 { s1 with heap := h', toks := tk } := I1.kept hk
      refine EvSet.sorted_txts (s := _) (a := s1.heap.objs.size) (M := fun j => j ∈ xs) hS (I1.ok.hd hc) fun s' p' out c ks k g o hp hget hi hs hn hm => ?_
      have hlen : (ks.map V.str).length ≤ sizeLine := by
        have hroom := room ks hn fun x hx => (hm x).1 hx
        rw [List.length_map, sizeLine_eq]; unfold scanBound at hroom; omega
      obtain ⟨J, hpn⟩ := laid_list I2 k g o hp hget (vals_of_strs hi) hlen
      exact ⟨.ref p', _, J, rfl, q1 ks p' hs hn hm hpn⟩
    rcases hq with hq | hq
    · obtain ⟨its, r, pl, hz⟩ := I1.list hq
      exact EvSet.set_of_list xs (I1.ok.hd hc) pl.isList (by simpa using strsAre_of r) room fun h' tk hS hk => fin h' tk hS hk
    · obtain ⟨its, r, pl, hz⟩ := I1.tuple hq
      exact EvSet.set_of_tuple xs (I1.ok.hd hc) pl (by simpa using strsAre_of r) room fun h' tk hS hk => fin h' tk hS hk
  · cases r1
    obtain ⟨its, r, pl, hz⟩ := I1.list hq
    refine set_of_list xs (I1.ok.hd hc) pl.isList (by simpa using r.ints) room fun h' tk hS hk => ?_
    refine PyProof.Rows.args_nil ?_
    have I2 : L2.Inv X pins σ H1 { s1 with heap := h', toks := tk } := I1.kept hk
    refine sorted_txts (s := _) (a := s1.heap.objs.size) (M := fun j => j ∈ xs) hS (I1.ok.hd hc) fun s' p' out c ks k g o hp hget hi hs hn hm => ?_
    have hlen : (ks.map V.int).length ≤ sizeLine := by
      have hroom := room ks hn fun x hx => (hm x).1 hx
      rw [List.length_map, sizeLine_eq]; unfold scanBound at hroom; omega
    obtain ⟨J, hpn⟩ := laid_list I2 k g o hp hget (vals_of_ints hi) hlen
    exact ⟨.ref p', _, J, rfl, q1 ks p' hs hn hm hpn⟩
end
end EvSetI

set_option Elab.async false
set_option linter.all false
set_option maxRecDepth 100000
set_option maxHeartbeats 4000000
/-! Ev, sorted(list, key=def) whose keys are pairs of ints. -/
namespace EvSK
open PySem PySem.Spec L2
open PyProof.Rows hiding St
open SrtO

section
variable {α β : Type}
/-- into a row that ascends by two ints, ahead of equal ones -/
def insP (x : (Int × Int) × α) : List ((Int × Int) × α) → List ((Int × Int) × α)
  | [] => [x]
  | y :: r => if SrtO.lexB y.1 x.1 = true then y :: insP x r else x :: y :: r
def psort : List ((Int × Int) × α) → List ((Int × Int) × α)
  | [] => []
  | x :: r => insP x (psort r)
abbrev ltF (x y : (Int × Int) × α) : Bool := SrtO.lexB x.1 y.1
theorem ltF_swo : Swo (ltF (α := α)) := by
  refine ⟨fun x y h => ?_, fun x y z h1 h2 => ?_⟩
  · have a := lexB_iff.mp h
    refine lexB_no.mpr ?_
    omega
  · have a := lexB_no.mp h1
    have b := lexB_no.mp h2
    refine lexB_no.mpr ?_
    omega
theorem ins_parts (x : (Int × Int) × α) : ∀ l, Srtd ltF l → ∃ M N, l = M ++ N ∧ insP x l = M ++ x :: N ∧ (∀ m ∈ M, ltF m x = true) ∧ ∀ n ∈ N, ltF n x = false
  | [], _ => ⟨[], [], rfl, rfl, by simp, by simp⟩
  | y :: r, h => by
    unfold insP
    have h' := List.pairwise_cons.mp h
    by_cases hy : SrtO.lexB y.1 x.1 = true
    · rw [if_pos hy]
      obtain ⟨M, N, e1, e2, e3, e4⟩ := ins_parts x r h'.2
      exact ⟨y :: M, N, by rw [e1]; rfl, by rw [e2]; rfl, fun m hm => by
        rcases List.mem_cons.mp hm with rfl | hm
        · exact hy
        · exact e3 m hm, e4⟩
    · rw [if_neg hy]
      refine ⟨[], y :: r, rfl, rfl, by simp, fun n hn => ?_⟩
      have hy' : ltF y x = false := by simpa using hy
      rcases List.mem_cons.mp hn with rfl | hn
      · exact hy'
      · exact ltF_swo.tr x y n hy' (h'.1 n hn)
theorem psort_ok : ∀ l : List ((Int × Int) × α), Srtd ltF (psort l) ∧ Stb ltF (psort l) l
  | [] => ⟨List.Pairwise.nil, Stb.refl _⟩
  | x :: r => by
    obtain ⟨h1, h2⟩ := psort_ok r
    obtain ⟨M, N, e1, e2, e3, e4⟩ := ins_parts x (psort r) h1
    unfold psort
    rw [e2]
    rw [e1] at h1 h2
    obtain ⟨m, n, z⟩ := srtd_app.mp h1
    refine ⟨srtd_app.mpr ⟨m, List.pairwise_cons.mpr ⟨e4, n⟩, fun a ha b hb => ?_⟩, ?_⟩
    · rcases List.mem_cons.mp hb with rfl | hb
      · exact ltF_swo.asym _ _ (e3 a ha)
      · exact z a ha b hb
    · have q : Stb ltF (M ++ [x] ++ N) ([x] ++ M ++ N) := (Stb.swap ltF_swo (A := M) (B := [x]) fun a ha b hb => by rw [List.mem_singleton.mp hb]; exact e3 a ha).app (Stb.refl N)
      have q2 : Stb ltF ([x] ++ (M ++ N)) ([x] ++ r) := (Stb.refl [x]).app h2
      have q3 : Stb ltF (M ++ x :: N) ([x] ++ (M ++ N)) := by simpa [List.append_assoc] using q
      exact q3.trans q2
theorem psort_uniq {l m : List ((Int × Int) × α)} (h1 : Srtd ltF l) (h2 : Stb ltF l m) : l = psort m :=
  stb_uniq ltF_swo h1 (psort_ok m).1 (h2.trans ⟨(psort_ok m).2.perm.symm, fun x => ((psort_ok m).2.cls x).symm⟩)
theorem insP_pair {R : α → β → Prop} {k : Int × Int} {a : α} {b : β} (hr : R a b) : ∀ {l : List ((Int × Int) × α)} {m : List ((Int × Int) × β)}, Paired (fun x y => x.1 = y.1 ∧ R x.2 y.2) l m → Paired (fun x y => x.1 = y.1 ∧ R x.2 y.2) (insP (k, a) l) (insP (k, b) m)
  | _, _, .nil => .cons ⟨rfl, hr⟩ .nil
  | _, _, .cons (a := x) (b := y) h t => by
    unfold insP
    obtain ⟨h1, h2⟩ := h
    rw [h1]
    split
    · exact .cons ⟨h1, h2⟩ (insP_pair hr t)
    · exact .cons ⟨rfl, hr⟩ (.cons ⟨h1, h2⟩ t)
theorem psort_pair {R : α → β → Prop} : ∀ {l : List ((Int × Int) × α)} {m : List ((Int × Int) × β)}, Paired (fun x y => x.1 = y.1 ∧ R x.2 y.2) l m → Paired (fun x y => x.1 = y.1 ∧ R x.2 y.2) (psort l) (psort m)
  | _, _, .nil => .nil
  | _, _, .cons (a := x) (b := y) h t => by
    obtain ⟨k, a⟩ := x
    obtain ⟨k', b⟩ := y
    obtain ⟨h1, h2⟩ := h
    have h1 : k = k' := h1
    subst h1
    exact insP_pair h2 (psort_pair t)
theorem psort_len : ∀ l : List ((Int × Int) × α), (psort l).length = l.length := fun l => (psort_ok l).2.len
end

/-! ### the rule -/
/-- a pair of ints -/
def KeyAt (H : Hp) (k : V) (ab : Int × Int) : Prop := ∃ T, k = .ref T ∧ H T = some (.tup [.int ab.1, .int ab.2])
theorem isPair_uniq {h : Heap} {v : Value} {x y x' y' : Int} (p : Srt.IsPair h v x y) (q : Srt.IsPair h v x' y') : x = x' ∧ y = y' := by
  obtain ⟨a, o, t, u, n, rfl, ho, hc, hd⟩ := p
  obtain ⟨a', o', t', u', n', e, ho', hc', hd'⟩ := q
  cases e
  rw [ho] at ho'
  cases ho'
  rw [hd] at hd'
  simp at hd'
  exact ⟨hd'.1.1.1, hd'.1.2.1⟩
open Classical in
noncomputable def kk (h : Heap) (v : Value) : Int × Int := if e : ∃ ab : Int × Int, Srt.IsPair h v ab.1 ab.2 then Classical.choose e else (0, 0)
theorem kk_eq {h : Heap} {v : Value} {ab : Int × Int} (p : Srt.IsPair h v ab.1 ab.2) : kk h v = ab := by
  have e : ∃ ab : Int × Int, Srt.IsPair h v ab.1 ab.2 := ⟨ab, p⟩
  unfold kk
  rw [dif_pos e]
  have := Classical.choose_spec e
  obtain ⟨h1, h2⟩ := isPair_uniq this p
  exact Prod.ext h1 h2
section
variable {prog : Program} {w : World} {A : Around} {E : Value → Shared → Prop} {s : Shared} {P : PySem.Fin → Shared → Prop}
noncomputable abbrev ltK (h : Heap) (p q : Keyed) : Bool := ltF (kk h p.1, p.2) (kk h q.1, q.2)
theorem end_pairs {itk its : List Value} {D kS : Addr} {e1 : Nat} (hik : itk.length = its.length) (hpair : ∀ u ∈ itk, Srt.IsPair s.heap u (kk s.heap u).1 (kk s.heap u).2)
    (tail : ∀ st' : SortSt, Srtd (ltK s.heap) (arrOf st').toList → Stb (ltK s.heap) (arrOf st').toList (itk.zip its) → failedOf st' = none → wpAny (model prog w) A (ksk_tail D false e1 (.ref kS) st') P E s) :
    wpAny (model prog w) A (ksk_end D false its.toArray e1 (.ref kS) itk.toArray) P E s := by
  unfold ksk_end
  try dsimp only
  simp only [Bool.false_eq_true, if_false]
  have hzt : (itk.toArray.zip its.toArray).toList = itk.zip its := by rw [ksk_zip]
  have start : ∀ κ : SortKind, (arrOf (SortSt.mk' κ (itk.toArray.zip its.toArray) #[] 7 none)).toList = itk.zip its := fun κ => hzt
  by_cases h2 : its.toArray.size < 2
  · rw [if_pos h2, if_pos h2]
    refine wpAny_bind (wpAny_pure ?_)
    rw [StateT.run_pure]
    refine wpAny_bind (wpAny_pure ?_)
    try dsimp only
    refine tail (SortSt.mk' general' (itk.toArray.zip its.toArray) #[] 7 none) ?_ (Stb.of_eq (start _)) rfl
    rw [start]
    have : (itk.zip its).length < 2 := by
      rw [List.length_zip, hik, Nat.min_self]
      simpa using h2
    match hq : itk.zip its, this with
    | [], _ => exact List.Pairwise.nil
    | [v], _ => exact List.pairwise_singleton _ _
    | _ :: _ :: l, h => exact absurd h (by rw [List.length_cons, List.length_cons]; omega)
  · rw [if_neg h2, if_neg h2]
    obtain ⟨fs, f1, f2, f3⟩ := Srt.firsts_of (h := s.heap) (vs := itk) fun v hm => ⟨_, _, hpair v hm⟩
    have h2' : 2 ≤ its.length := by simpa using h2
    refine wpAny_bind (PySem.W.kat_kind (T := .type "int") f1 (by rw [f2, hik]; omega) (fun f hm => ?_) (by rfl) ?_)
    · obtain ⟨x, t, rfl⟩ := f3 f hm
      exact PySem.W.Looks.now
    have et : (Value.type "int" != Value.type "tuple") = true := by first | decide +kernel | rfl | decide
    rw [et]
    have hall : AllL (fun p : Keyed => p.1 ∈ itk) (itk.toArray.zip its.toArray).toList := fun p hm => by
      rw [hzt] at hm
      exact (List.of_mem_zip hm).1
    have hT : Cmp prog w A s (tuples' true) (fun p => p.1 ∈ itk) (fun p q : Keyed => ltF (kk s.heap p.1, p.2) (kk s.heap q.1, q.2)) := pair_cmp hpair
    have hO : Swo (fun p q : Keyed => ltF (kk s.heap p.1, p.2) (kk s.heap q.1, q.2)) := ⟨fun x y => ltF_swo.asym _ _, fun x y z => ltF_swo.tr _ _ _⟩
    refine wpAny_bind (wpAny_mono (wpS_sortO (st0 := SortSt.mk' (tuples' true) (itk.toArray.zip its.toArray) #[] 7 none)
      (Q := fun _ st' => Srtd (fun p q : Keyed => ltF (kk s.heap p.1, p.2) (kk s.heap q.1, q.2)) (arrOf st').toList ∧ Stb (fun p q : Keyed => ltF (kk s.heap p.1, p.2) (kk s.heap q.1, q.2)) (arrOf st').toList (itk.zip its) ∧ failedOf st' = none) hO hT rfl hall rfl rfl fun st' a1 a2 a3 => ⟨a1, by rw [start] at a2; exact a2, a3⟩) ?_ fun _ _ e => e)
    rintro ⟨⟨⟩, st'⟩ s2 ⟨rfl, hp1, hp2, hf⟩
    try dsimp only
    exact tail st' hp1 hp2 hf
end
section
variable {X : Cx} {pins : List (Addr × Obj)} {σ : St} {H : Hp} {s : Shared}
theorem keyAt_pair (I : Inv X pins σ H s) {k : V} {u : Value} {ab : Int × Int} (h : KeyAt H k ab) (r : RelV k u) : Srt.IsPair s.heap u ab.1 ab.2 := by
  obtain ⟨T, rfl, hT⟩ := h
  obtain rfl : u = Value.ref T := r
  obtain ⟨_, its2, r2, o, ho, hc, n, hd⟩ := I.hok _ _ hT
  obtain ⟨u1, u2, rfl, ri, rj⟩ := vals2 r2
  obtain ⟨t1, rfl⟩ := ri
  obtain ⟨t2, rfl⟩ := rj
  exact ⟨T, o, t1, t2, n, rfl, ho, hc, hd⟩
theorem keys_pairs (I : Inv X pins σ H s) : ∀ {kvs : List V} {ks : List (Int × Int)} {us : List Value}, Paired (KeyAt H) kvs ks → Vals kvs us → us.map (kk s.heap) = ks ∧ ∀ u ∈ us, Srt.IsPair s.heap u (kk s.heap u).1 (kk s.heap u).2
  | _, _, _, .nil, .nil => ⟨rfl, by simp⟩
  | _, _, _, .cons h t, .cons r rs => by
    have p := keyAt_pair I h r
    have e := kk_eq p
    obtain ⟨e1, e2⟩ := keys_pairs I t rs
    refine ⟨by simp [e, e1], fun u hu => ?_⟩
    rcases List.mem_cons.mp hu with rfl | hu
    · rw [e]; exact p
    · exact e2 u hu
theorem zip_map_g {h : Heap} : ∀ (ks us : List Value), ks.length = us.length → (ks.zip us).map (fun p : Keyed => (kk h p.1, p.2)) = (ks.map (kk h)).zip us
  | [], _, _ => rfl
  | _ :: _, [], e => by simp at e
  | k :: ks, u :: us, e => by
    have := zip_map_g (h := h) ks us (by simpa using e)
    simp [this]
theorem zip_paired {ks : List (Int × Int)} : ∀ {vs : List V} {us : List Value}, Vals vs us → ks.length = vs.length → Paired (fun (x : (Int × Int) × V) (y : (Int × Int) × Value) => x.1 = y.1 ∧ RelV x.2 y.2) (ks.zip vs) (ks.zip us) := by
  induction ks with
  | nil => intro vs us r e; cases r <;> first | exact .nil | (simp at e)
  | cons k ks ih =>
    intro vs us r e
    cases r with
    | nil => simp at e
    | cons r rs => exact .cons ⟨rfl, r⟩ (ih rs (by simpa using e))
theorem paired_vals : ∀ {l : List ((Int × Int) × V)} {m : List ((Int × Int) × Value)}, Paired (fun x y => x.1 = y.1 ∧ RelV x.2 y.2) l m → Vals (l.map (·.2)) (m.map (·.2))
  | _, _, .nil => .nil
  | _, _, .cons h t => .cons h.2 (paired_vals t)

structure Run (fa : Addr) (vs : List V) (H : Hp) (sp : Sp) (W : Addr → Addr → Obj → Nat → List (Int × Int) → List V → Hp → Prop) (Q : VK) : Prop where
  h0 : ∀ D T kS od, H D = none → H T = none → H kS = none → D ≠ T → D ≠ kS → T ≠ kS → W D kS od 0 [] [] (upd (upd (upd H D (.frz od (.lst []))) T (.tup vs)) kS (.lst []))
  fz : ∀ D kS od i ks kvs Hc, W D kS od i ks kvs Hc → Hc D = some (.frz od (.lst [])) ∧ Hc kS = some (.lst kvs) ∧ Paired (KeyAt Hc) kvs ks ∧ i = ks.length
  step : ∀ D kS od i ks kvs Hc v, W D kS od i ks kvs Hc → vs[i]? = some v → sp [v] Hc (fun k H' => ∃ ab, H' kS = some (.lst kvs) ∧ W D kS od (i + 1) (ks ++ [ab]) (kvs ++ [k]) (upd H' kS (.lst (kvs ++ [k])))) (fun _ _ _ => False)
  done : ∀ D kS od ks kvs Hc, W D kS od vs.length ks kvs Hc → D ≠ kS → Q (.ref D) (upd (upd Hc kS (.lst [])) D (.lst ((psort (ks.zip vs)).map (·.2))))

theorem sorted_key {fa l : Addr} {fd : FuncData} {ps : List Str} {sp : Sp} {n : Nat} {vs : List V} {Q : VK} {W : Addr → Addr → Obj → Nat → List (Int × Int) → List V → Hp → Prop}
    (F : FnOk X.prog X.w X.K X.mg X.base (CX X.prog X.w) n fa fd ps sp) (hr : Room (n + 2) X.A) (bd : Binds X.K fd ps []) (I : Inv X pins σ H s) (hl : SqL X.K H l vs) (R : Run fa vs H sp W Q) :
    wpAny (model X.prog X.w) X.A (call (.builtin "sorted") [.ref l] [(Str.ofString "key", .ref fa)]) (EP X pins σ Q) X.xe s := by
  obtain ⟨its, rv, pl, hz⟩ := I.list hl
  have hzi : its.length ≤ sizeLine := by rw [← rv.length]; exact hz
  refine call_function_entry_kw kind_sorted plain_sorted entry_sorted (ksk_s1 _ _) ?_
  unfold Builtin.«sorted»
  refine wpAny_bind (m := checkCount "sorted" 1 1 _) (wpAny_pure ?_)
  refine wpAny_bind (collect_list pl.isList ?_ hzi)
  refine wpAny_bind (wpAny_newList ?_ hzi)
  have hsz : ((s.heap.push (seqObj "list" #[] 0)).update s.heap.objs.size (Obj.mapSeq (· ++ its.toArray))).objs.size = s.heap.objs.size + 1 := by
    rw [Heap.size_update, size_push']
  have hoL : (((s.heap.push (seqObj "list" #[] 0)).update s.heap.objs.size (Obj.mapSeq (· ++ its.toArray))).push (seqObj "list" its.toArray 0)).get? (s.heap.objs.size + 1) = some (seqObj "list" its.toArray 0) := by
    rw [← hsz]; exact Heap.get?_push_size _ rfl
  have keep : ∀ b o, s.heap.get? b = some o → b ≠ s.heap.objs.size + 1 ∧ (((s.heap.push (seqObj "list" #[] 0)).update s.heap.objs.size (Obj.mapSeq (· ++ its.toArray))).push (seqObj "list" its.toArray 0)).get? b = some o := fun b o q => by
    have hlt : b < s.heap.objs.size := Heap.lt_size q
    refine ⟨Nat.ne_of_lt (Nat.lt_succ_of_lt hlt), Heap.get?_push_of_some _ ?_⟩
    rw [Heap.get?_update_ne _ _ _ _ (Nat.ne_of_lt hlt)]
    exact Heap.get?_push_of_some _ q
  show wpAny _ _ _ _ _ { s with heap := ((s.heap.push (seqObj "list" #[] 0)).update s.heap.objs.size (Obj.mapSeq (· ++ its.toArray))).push (seqObj "list" its.toArray 0) }
  rw [hsz]
  refine wpAny_bind (wpAny_holding (wpAny_call_entry_kw slot_list_sort ⟨_, hoL, rfl⟩ entry_list_sort ?_ (ksk_l1 _ _)))
  rw [ksk_t1]
  have hszA : (((s.heap.push (seqObj "list" #[] 0)).update s.heap.objs.size (Obj.mapSeq (· ++ its.toArray))).push (seqObj "list" its.toArray 0)).objs.size = s.heap.objs.size + 2 := by
    rw [size_push', hsz]
  generalize ((s.heap.push (seqObj "list" #[] 0)).update s.heap.objs.size (Obj.mapSeq (· ++ its.toArray))).push (seqObj "list" its.toArray 0) = hA at hoL keep hszA ⊢
  have hDs : s.heap.objs.size ≤ s.heap.objs.size + 1 := Nat.le_succ _
  generalize hDD : s.heap.objs.size + 1 = D at hoL keep hDs ⊢
  have keepB : ∀ b o, s.heap.get? b = some o → (hA.update D (Obj.mapSeq fun _ => (#[] : Array Value))).get? b = some o := fun b o q => by
    obtain ⟨h1, h2⟩ := keep b o q
    rw [Heap.get?_update_ne _ _ _ _ h1]
    exact h2
  refine wpAny_bind (listItems_at hoL rfl ?_)
  refine wpAny_bind (listUpdate_at hoL rfl ?_ (by rw [List.size_toArray]; exact hzi) (Nat.zero_le _))
  obtain ⟨e1, ho1⟩ : ∃ e1, (hA.update D (Obj.mapSeq fun _ => (#[] : Array Value))).get? D = some (seqObj "list" #[] e1) := ⟨_, get?_update_seq hoL (fun _ => #[])⟩
  have hszB : (hA.update D (Obj.mapSeq fun _ => (#[] : Array Value))).objs.size = s.heap.objs.size + 2 := by rw [Heap.size_update, hszA]
  refine wpAny_bind (seqEpoch_at ho1 rfl ?_)
  refine wpAny_bind (wpAny_newTuple ?_ (by show its.length ≤ _; exact hzi))
  refine wpAny_bind (wpAny_newList ?_ (Nat.zero_le _))
  refine wpAny_holding ?_
  show wpAny _ _ _ _ _ { s with heap := ((hA.update D (Obj.mapSeq fun _ => (#[] : Array Value))).push (seqObj "tuple" its.toArray 0)).push (seqObj "list" #[] 0) }
  generalize hA.update D (Obj.mapSeq fun _ => (#[] : Array Value)) = hB at keepB ho1 hszB ⊢
  have I1 : Inv X pins σ (upd H D (.lst [])) { s with heap := hB } := I.laid (t' := s.toks) keepB hDs ⟨Nat.zero_le _, [], e1, .nil, ho1⟩
  have hnf := I1.nofrz (d := D) upd_same trivial
  obtain ⟨od, I2⟩ := I1.lock upd_same trivial
  rw [upd_upd] at I2
  have hod : od = seqObj "list" #[] e1 := by
    obtain ⟨z, _⟩ := I2.hok D _ upd_same
    have z : hB.get? D = some od := z
    rw [ho1] at z
    exact (Option.some.inj z).symm
  have I3 : Inv X pins σ (upd (upd H D (.frz od (.lst []))) hB.objs.size (.tup vs)) { s with heap := hB.push (seqObj "tuple" its.toArray 0) } :=
    I2.laid (t' := s.toks) (fun b u q => Heap.get?_push_of_some _ q) (Nat.le_refl _) ⟨hz, its, rv, _, Heap.get?_push_size _ rfl, rfl, _, rfl⟩
  have I4 := I3.laid (a := (hB.push (seqObj "tuple" its.toArray 0)).objs.size) (o := .lst []) (h' := (hB.push (seqObj "tuple" its.toArray 0)).push (seqObj "list" #[] 0)) (t' := s.toks) (fun b u q => Heap.get?_push_of_some _ q) (Nat.le_refl _)
    ⟨Nat.zero_le _, [], 0, .nil, Heap.get?_push_size _ rfl⟩
  have hD0 : H D = none := I.hok.fresh hDs
  have hT0 : H hB.objs.size = none := I.hok.fresh (by rw [hszB]; omega)
  have hkz : (hB.push (seqObj "tuple" its.toArray 0)).objs.size = s.heap.objs.size + 3 := by rw [size_push', hszB]
  have hK0 : H (hB.push (seqObj "tuple" its.toArray 0)).objs.size = none := I.hok.fresh (by rw [hkz]; omega)
  have hDT : D ≠ hB.objs.size := by rw [hszB, ← hDD]; omega
  have hDK : D ≠ (hB.push (seqObj "tuple" its.toArray 0)).objs.size := by rw [hkz, ← hDD]; omega
  have hTK : hB.objs.size ≠ (hB.push (seqObj "tuple" its.toArray 0)).objs.size := by rw [hkz, hszB]; omega
  have W0 := R.h0 D hB.objs.size _ od hD0 hT0 hK0 hDT hDK hTK
  generalize hkk : (hB.push (seqObj "tuple" its.toArray 0)).objs.size = kS at I4 hDK W0 ⊢
  have room : Room n X.A.in1.in1 := Room.in1 (Room.in1 hr)
  unfold ksk_rest
  refine wpAny_bind (wpAny_rule ?_)
  first
    | rw [List.forIn_toArray]
    | (rw [← Array.forIn_toList]; simp only [List.toList_toArray])
    | rw [← Array.forIn_toList]
  refine wpAny_bind (ksk_fold (fun i s' => ∃ ks kvs Hc, Inv X pins σ Hc s' ∧ W D kS od i ks kvs Hc) its 0 _ ⟨[], [], _, I4, W0⟩ ?step ?done)
  case step =>
    rintro j u s' hu ⟨ks, kvs, Hc, I', hW⟩
    simp only [Nat.zero_add] at hW ⊢
    have hj : j < its.length := (List.getElem?_eq_some_iff.mp hu).1
    obtain ⟨v, hv⟩ : ∃ v, vs[j]? = some v := ⟨_, List.getElem?_eq_getElem (by rw [rv.length]; exact hj)⟩
    obtain ⟨u', hu', ru⟩ := rv.get hv
    rw [hu] at hu'
    cases hu'
    have e0 : Env0 X.prog X.w X.K X.mg X.base X.A.in1.in1 X.stack s' Hc := I'.env0.in1.in1
    have hsp := R.step D kS od j ks kvs Hc v hW hv
    have hl1 := F.len _ _ _ _ hsp
    obtain ⟨_, _, hpk, hjk⟩ := R.fz _ _ _ _ _ _ _ hW
    have hkl : kvs.length = j := by rw [hpk.length, ← hjk]
    refine wpAny_bind (wpAny_attempt (wpAny_call (codeAny_mono (F.run X.A.in1.in1 X.stack s' Hc ⟨[u], []⟩ [u] [v] _ _ room e0 (by
      have := bd s' [u] I'.kIn (by simpa using hl1)
      simpa using this) (.cons ru .nil) hsp) fun r s'' hq => ?_)))
    cases r with
    | error e =>
      obtain ⟨_, _, _, _, _, _, _, _, _, _, _, _, z⟩ := hq
      exact z.elim
    | ok fl =>
      cases fl with
      | next => exact False.elim hq
      | brk => exact False.elim hq
      | cont => exact False.elim hq
      | ret k =>
        obtain ⟨v', H', I'', rk, ab, hkS, hW'⟩ := I'.after hq
        dsimp only
        obtain ⟨z, itk, nk, r2, hl2, e⟩ := I''.lstM hkS
        refine wpAny_bind (listUpdate_at e rfl ?_ (by rw [List.size_toArray, ← hl2]; exact z) (by show (itk.toArray.push k).size ≤ _; rw [Array.size_push, List.size_toArray, ← hl2]; omega))
        refine wpAny_pure ⟨rfl, ks ++ [ab], kvs ++ [v'], _, I''.lset (its' := itk ++ [k]) (t' := s''.toks) hkS e (by simp) (r2.append (.cons rk .nil)) ?_, hW'⟩
        rw [List.length_append, List.length_singleton, hkl]
        omega
  case done =>
    rintro s' ⟨ks, kvs, Hc, I', hW⟩
    simp only [Nat.zero_add] at hW
    rw [← rv.length] at hW
    obtain ⟨hD, hkS, hpk, hlen⟩ := R.fz _ _ _ _ _ _ _ hW
    obtain ⟨z, itk, nk, rk, hl2, e⟩ := I'.lstM hkS
    obtain ⟨hmap, hpair⟩ := keys_pairs I' hpk rk
    refine wpAny_bind (listItems_at e rfl ?_)
    have hik : itk.length = its.length := by rw [← hl2, hpk.length, ← hlen, rv.length]
    have hzip : (itk.zip its).map (fun p : Keyed => (kk s'.heap p.1, p.2)) = ks.zip its := by rw [zip_map_g itk its hik, hmap]
    have hlen' : ks.length = vs.length := hlen.symm
    refine end_pairs hik hpair fun st' hs hb hf => ?_
    have g1 := srtd_map (lt := ltF) (f := fun p : Keyed => (kk s'.heap p.1, p.2)) hs
    have g2 := Stb.map ltF_swo (fun p : Keyed => (kk s'.heap p.1, p.2)) hb
    rw [hzip] at g2
    have g3 := psort_uniq g1 g2
    have hout : ((arrOf st').map (·.2)).toList = (psort (ks.zip its)).map (·.2) := by
      rw [← g3, List.map_map, Array.toList_map]
      rfl
    have hov : Vals ((psort (ks.zip vs)).map (·.2)) ((arrOf st').map (·.2)).toList := by
      rw [hout]
      exact paired_vals (psort_pair (zip_paired rv hlen'))
    have hol : ((psort (ks.zip vs)).map (·.2)).length ≤ sizeLine := by
      rw [List.length_map, psort_len, List.length_zip, hlen', Nat.min_self]
      exact hz
    have hol2 : ((arrOf st').map (·.2)).size ≤ sizeLine := by
      rw [← Array.length_toList, ← hov.length]
      exact hol
    have J1 := I'.lset (f := fun _ => (#[] : Array Value)) (its' := []) (ys := []) (t' := s'.toks) hkS e (by simp) .nil (Nat.zero_le _)
    have hD1 : (upd Hc kS (.lst [])) D = some (.frz od (.lst [])) := by rw [upd_ne hDK]; exact hD
    have hobj : (s'.heap.update kS (Obj.mapSeq fun _ => (#[] : Array Value))).get? D = some (seqObj "list" #[] e1) := by
      obtain ⟨z, _⟩ := J1.hok D _ hD1
      rw [hod] at z
      exact z
    unfold ksk_tail
    try dsimp only
    refine wpAny_bind (listUpdate_at e rfl ?_ (by rw [List.size_toArray, ← hl2]; exact z) (Nat.zero_le _))
    refine wpAny_bind (wpAny_letGo ?_)
    refine wpAny_bind (seqEpoch_at hobj rfl ?_)
    refine wpAny_bind (listUpdate_at hobj rfl ?_ (Nat.zero_le _) (Nat.le_succ_of_le hol2))
    rw [hf]
    simp only [bne_self_eq_false, Bool.false_eq_true, if_false]
    have J2 := J1.unlock hD1 hnf
    have J3 := J2.lset (f := fun _ => (arrOf st').map (·.2)) (its := []) (its' := ((arrOf st').map (·.2)).toList) (t' := s'.toks) upd_same hobj (by rw [Array.toArray_toList]) hov hol
    rw [upd_upd] at J3
    refine wpAny_pure ⟨_, rfl, wpAny_pure ⟨_, rfl, .ref D, _, J3, rfl, R.done D kS od ks kvs Hc hW hDK⟩⟩
end
end EvSK

set_option Elab.async false
set_option linter.all false
set_option maxRecDepth 100000
set_option maxHeartbeats 4000000
/-! EvI: an own error that keeps an index: __init__ says super().__init__(a text with the index), self.index = index. -/
namespace EvI
open PySem PySem.W PySem.Calls PyProof.Rows
/-- the two rows of __init__ -/
def IxT (body : List Stmt) : Prop := ∃ (p0 p1 p2 p3 p4 p5 p6 p7 p8 p9 pa pb pc : Pos) (j : Nat) (t : Str), t.length ≤ 100 ∧ (p2.endLine == p7.line) = true ∧
  body = [.Expr (.Call (.Attribute (.Call (.Name "super" p0) [] [] p1) "__init__" p2) [.JoinedStr [.Constant (.str t) j p3, .FormattedValue (.Name "index" p4) (-1) none p5] p6] [] p7) p8,
    .Assign [.Attribute (.Name "self" p9) "index" pa] (.Name "index" pb) pc]
abbrev exR (C : Addr) (d : Option Addr) (t : Addr) : Obj := { cls := .ref C, dict := d, data := .fields #[.ref t, .none, .none, .none, .bool false, .none] }
section
variable {P : Program} {w : World} {A : Around} {E : Value → Shared → Prop} {h : Heap} {g : Array GenState} {d : Drawn} {t : Nat} {os : OsState} {K : Frag}
/-- the bound __init__, called -/
theorem ix_bound {x C u t0 : Addr} {rest : List Value} {Q : Value → Shared → Prop} (T : L2.OexC K C) (X : K.In h) (hx : h.get? x = some (exR C none t0)) (hu : h.get? u = some (kxs_mw "ValueError.__init__" x)) (hz : rest.length ≤ sizeLine)
    (hq : ∀ h' t', (∀ b o, b ≠ x → h.get? b = some o → h'.get? b = some o) → h'.get? x = some (exR C none t') → Q .none ⟨h', g, d, t, os⟩) : wpAny (model P w) A (call (.ref u) rest) Q E ⟨h, g, d, t, os⟩ := by
  obtain ⟨nm, q, N, bs, bm, sn, sub, ab, col, dd, k0, k1, k2, k3, k5, hC, hbm⟩ := T.cls
  refine wpAny_call (codeAny_of_tree ?_)
  show wpAny _ A.in1 (callAny (.ref u) ⟨rest, []⟩) _ _ _
  simp only [callAny]
  refine wpAny_bind (wpAny_load hu ?_)
  simp only [kxs_mw, show (Value.type "method-wrapper" == Value.type "method" || Value.type "method-wrapper" == Value.type "builtin_function_or_method" || Value.type "method-wrapper" == Value.type "method-wrapper") = true by decide, if_true]
  refine KFB.if_so (by decide) ?_
  refine wpAny_bind (check_bound_init F.excBase_ValueError.toExcCallFacts (X _ _ hC) hx rfl ?_)
  refine wpAny_bind (wpAny_pure (wpAny_pure ?_))
  refine ⟨plainId_quiet F.excBase_ValueError.init.plain _, codeAny_builtin F.excBase_ValueError.initEntry ?_⟩
  exact exc_init_tree (cls := .ref C) (t0 := t0) (dv := none) (c2 := .none) (c3 := .none) (b4 := .bool false) hx hz fun h' k e' _ => hq h' _ k e'
end
/-- what the written part says of the def -/
structure IxF (P : Program) (K : Frag) (f D : Addr) (fd : FuncData) : Prop where
  ex : ∃ (oc : Value) (od an : Option Addr) (osl : Array (Option Value)) (name qual : Str) (params : Arguments) (body : List Stmt) (scope : Scope) (dV kV doc pm ct : Value) (cda cc : Addr) (ar : Arg) (ccl : Value) (cdd : Option Addr) (vs : Array Value) (ccs : Array (Option Value)) (file : Str) (tf : Tok) (cl : Value) (cld : Option Addr) (csl : Array (Option Value)) (cdD : ClassData),
    fd = ksFn name qual params body scope dV kV doc pm an (.ref cda) ct cc ∧ K.lookup f = some ⟨oc, od, .func fd, osl⟩ ∧ codeIn K (.ref cda) qual = true ∧ IxT body ∧
    (params.posonlyargs ++ params.args).head? = some ar ∧ ar.arg = "self" ∧
    K.lookup cda = some ⟨ccl, cdd, .fields vs, ccs⟩ ∧ vs[2]? = some (.str file tf) ∧ ((P.main.file : Str) == file) = true ∧ K.lookup cc = some ⟨cl, cld, .cell (some (.ref D)), csl⟩ ∧ clsIn K D = some cdD ∧
    scope.names.lookup ("super" : Str) = some .globalImplicit ∧ scope.names.lookup ("__class__" : Str) = some .free ∧ scope.names.lookup ("self" : Str) = some .local ∧ scope.names.lookup ("index" : Str) = some .local ∧ scope.kind = .function ∧ scope.isCoroutine = false ∧ scope.isGenerator = false ∧ ∀ x ∈ scope.names, x.2 ≠ .cell
  top : (P.main.scope.names.lookup ("super" : Str)).isSome = false
/-- what it says of an error class -/
structure IxC (K : Frag) (C D f : Addr) : Prop where
  o : L2.OexC K C
  cls : ∃ cd, clsIn K C = some cd ∧ alongIn K "__init__" ((cd.mro.dropWhile (· != .ref D)).drop 1) = some (some (.builtin "ValueError.__init__"))
  sub : mroIn K C (.ref D) = some true
  ve : subIn K (.ref C) (.type "ValueError") = some true
  no : nsIn K cStatics "thirdparty.any" = some none
  fld : findIn K (.ref C) "index" = some none
  ini : findIn K (.ref C) "__init__" = some (some (.ref f))
  ty : typeIn K (.ref f) = some (.type "function")
section
variable {P : Program} {w : World} {A : Around} {s : Shared} {K : Frag} {f D C x t0 : Addr} {fd : FuncData} {R : Result → Shared → Prop} {args : Args} {i : Int} {tk : Tok} {mg mb : Str → Option Value}
theorem ix_run (F : IxF P K f D fd) (T : IxC K C D f) (X : K.In s.heap) (hx : s.heap.get? x = some (exR C none t0)) (hKx : K.lookup x = none) (hlim : s.heap.NoLimit) (hg : s.heap.Ns mainGlobals mg) (hsup : mg "super" = none) (hb : s.heap.Ns builtinsNs mb) (hmb : mb "super" = bootBuiltins "super")
    (hbind : BindsTo s fd args [("self", .ref x), ("index", .int i tk)]) (hi : i.natAbs.log2 < 1920) (hroom : A.depth < recursionLimit)
    (hq : ∀ h' dx t', (∀ b o, b ≠ x → s.heap.get? b = some o → h'.get? b = some o) → s.heap.objs.size ≤ dx → dx ≠ x → (∃ t1, h'.get? x = some (exR C (some dx) t1)) → h'.Ns1 dx (fun y => if y = "index" then some (.int i tk) else none) → R (.ok (.ret .none)) { s with heap := h', toks := t' }) :
    codeAny (model P w) A (.call (.ref f) args) R s := by
  obtain ⟨oc, od, an, osl, name, qual, params, body, scope, dV, kV, doc, pm, ct, cda, cc, ar, ccl, cdd, vs, ccs, file, tf, cl, cld, csl, cdD, rfl, lk, hcd, hT, hp, har, hcode, hvs, hfile, hcell, hD, hks, hkc, hka, hki, hk, hco, hgen, hnc⟩ := F.ex
  obtain ⟨p0, p1, p2, p3, p4, p5, p6, p7, p8, p9, pa, pb, pc, j, tx, htx, hpos, rfl⟩ := hT
  obtain ⟨cd, hC, hal⟩ := T.cls
  refine ks_codeAny_call_defAt (fd := ksFn name qual params _ scope dV kV doc pm an (.ref cda) ct cc) (body := _) (binds := [("self", .ref x), ("index", .int i tk)]) hroom (X _ _ lk) rfl hlim (codeRec_of X hcd) rfl hbind hnc (fun y hy => ?_) (fun h₁ hns hk₁ => ?_) hco hgen hk
  · simp only [List.mem_cons, List.not_mem_nil, or_false] at hy
    rcases hy with rfl | rfl
    · exact hka
    · exact hki
  obtain ⟨hh, g, d, t, os⟩ := s
  have hk1 : ∀ b o, hh.get? b = some o → h₁.get? b = some o := hk₁
  have X1 : K.In h₁ := X.keeps hk1
  have hx1 := hk1 _ _ hx
  have hself : ([("self", Value.ref x), ("index", .int i tk)] : List (Str × Value)).reverse.lookup (PySem.Str.ofString "self") = some (.ref x) := rfl
  have hindex : ([("self", Value.ref x), ("index", .int i tk)] : List (Str × Value)).reverse.lookup (PySem.Str.ofString "index") = some (.int i tk) := rfl
  have hns : h₁.Ns hh.objs.size (fun y => ([("self", Value.ref x), ("index", .int i tk)] : List (Str × Value)).reverse.lookup y) := hns
  obtain ⟨oD, hD1, hD2⟩ : ∃ oD, h₁.get? D = some oD ∧ oD.data = .cls cdD := by
    unfold clsIn at hD
    split at hD
    · rename_i c d cd' sl ho
      cases hD
      exact ⟨_, X1 _ _ ho, rfl⟩
    · cases hD
  have I1 : InstAt h₁ x (exR C none t0) C none := ⟨hx1, rfl, rfl, trivial⟩
  have he : ∀ env : Env, eval (.Call (.Attribute (.Call (.Name "super" p0) [] [] p1) "__init__" p2) [.JoinedStr [.Constant (.str tx) j p3, .FormattedValue (.Name "index" p4) (-1) none p5] p6] [] p7) env = (do
      let ov ← attributeBase (.Call (.Name "super" p0) [] [] p1) "__init__" env (eval (.Call (.Name "super" p0) [] [] p1) env)
      standAt p2.atName
      let (f, first) ← holding [ov] (getMethod ov "__init__" (do return (← importBound (.Call (.Name "super" p0) [] [] p1) env).getD true))
      callWith p7 f first (backTo p7 (starEach [.JoinedStr [.Constant (.str tx) j p3, .FormattedValue (.Name "index" p4) (-1) none p5] p6] env)) []) := fun env => by
    rw [arm_eval_Call]
    unfold methodCall
    rw [show methodCallForm (([.JoinedStr [.Constant (.str tx) j p3, .FormattedValue (.Name "index" p4) (-1) none p5] p6] : List Expr).length + ([] : List Keyword).length) (backTo p7 (starEach [.JoinedStr [.Constant (.str tx) j p3, .FormattedValue (.Name "index" p4) (-1) none p5] p6] env)) (backToKw p7 (keywordEach [] env)) = true from rfl]
    unfold calleeOf methodCallPos
    rw [hpos]
    rfl
  have hint : ∀ {fd : FuncData} {L a : Addr}, fd.scope = scope → interactive (callEnv fd L a) = false := fun {fd L a} e => by
    unfold interactive callEnv newEnv
    simp [e, hk]
  refine ks_wpAt_execs_cons (ks_wpAt_Expr_any (ks_wpAt_MethodCall ?_ (he _)) (hi := hint rfl))
  refine ks_wpAt_super_base (env := ksEnv qual scope hh.objs.size f (.ref cda) cc) hks hkc (by decide) rfl (X1 _ _ lk) rfl hp rfl (X1 _ _ hcode) rfl hvs hfile F.top ?_
  rw [har]
  refine ks_loadName_global hk hks (loadGlobal_builtin (env := ksEnv qual scope hh.objs.size f (.ref cda) cc) (hg.keeps hk1) hsup (hb.keeps hk1) hmb ⟨rfl, ?_⟩)
  refine wpAny_loadName_free hk hkc rfl ⟨_, X1 _ _ hcell, rfl⟩ ?_
  refine wpAny_loadName_local hk hka hns hself ?_
  refine ks_wpAny_isType_cls hD1 hD2 ⟨rfl, ?_⟩
  refine ks_wpAny_call_super hD1 hD2 hx1 rfl (fun c e => ?_) (looks_mroIn X1 T.sub) (fun h2 e2 k2 => ?_)
  · cases e
  have X2 : K.In h2 := X1.keeps k2
  have I2 : InstAt h2 x (exR C none t0) C none := ⟨k2 _ _ hx1, rfl, rfl, trivial⟩
  refine kxs_getMethod kxs_ValueError e2 (looks_opaque X2 T.no) (l₀ := cd.mro) (fun A Q E s k q => wpAny_bind ((looks_clsIn X2 hC) A _ E s k (wpAny_pure q))) rfl X2 hal (I2.type.andThen (looks_subIn X2 T.ve)) (ks_ne X2 I2 hC) (by decide) ?_
  obtain ⟨h3, hh3⟩ : ∃ h3, h2.push (kxs_mw "ValueError.__init__" x) = h3 := ⟨_, rfl⟩
  have k3 : ∀ b o, h2.get? b = some o → h3.get? b = some o := fun b o e => by rw [← hh3]; exact Heap.get?_push_of_some _ e
  have hu3 : h3.get? h2.objs.size = some (kxs_mw "ValueError.__init__" x) := by rw [← hh3]; exact Heap.get?_push_at rfl rfl
  rw [hh3]
  have X3 : K.In h3 := X2.keeps k3
  have hns3 := (hns.keeps k2).keeps k3
  have hx3 := k3 _ _ (k2 _ _ hx1)
  show wpAny _ _ (callWith p7 (.ref h2.objs.size) [] [(false, eval (.JoinedStr [.Constant (.str tx) j p3, .FormattedValue (.Name "index" p4) (-1) none p5] p6) _)] []) _ _ _
  refine kxs_callWith (i := "ValueError.__init__") (x := x) rfl (evalArgs_plain (spliced_cons (wpAny_JoinedStr ?_)))
  have hlen : (Str.ofString (toString i)).length ≤ 1921 := by
    rw [PySem.ofString_length]
    exact int_text_length_le (k := 1920) (by decide) hi
  have hz : sizeLine = 16777216 := by rw [sizeLine_eq]
  have htx2 : (Str.empty ++ tx).length ≤ 100 := by
    rw [strLen_append]
    show 0 + tx.length ≤ 100
    omega
  refine Calls.Constant_str ⟨tx, _, rfl, by omega, ?_⟩
  refine wpAny_FormattedValue_plain (wpAny_Name (wpAny_loadName_local hk hki hns3 hindex (wpAny_formatField_int hi ⟨_, _, rfl, ?_, ?_⟩)))
  · rw [strLen_append]
    omega
  refine ⟨by rw [strLen_append]; omega, ?_⟩
  refine spliced_nil ⟨hu3, ?_⟩
  refine ix_bound T.o X3 hx3 hu3 (by show 1 ≤ sizeLine; omega) fun h4 t4 k4 e4 => ?_
  have X4 : K.In h4 := fun b o e => k4 b o (fun z => by rw [z, hKx] at e; cases e) (X3 b o e)
  have hns4 : h4.Ns hh.objs.size (fun y => ([("self", Value.ref x), ("index", .int i tk)] : List (Str × Value)).reverse.lookup y) := by
    obtain ⟨oL, es, ep, hL, r⟩ := hns3
    exact ⟨oL, es, ep, k4 _ _ (fun z => Nat.lt_irrefl _ (Nat.lt_of_lt_of_eq (Heap.lt_size hx) z)) hL, r⟩
  obtain ⟨nm, q, N, bs, bm, sn, sub, ab, col, dd, k0, k1, k2', k3', k5, hC', hbm⟩ := T.o.cls
  have hcl : clsIn K C = some { name := nm, bases := bs, mro := .ref C :: bm, ns := N, qualname := q, hasDict := true, slotNames := sn, subclasses := sub, abstract := ab, collection := col, hasDel := false } := by unfold clsIn; rw [hC'] <;> rfl
  refine ks_wpAt_execs_cons (wpAt_of_wpAny (plainObj_wpAny_Assign_Attribute (wpAny_Name (wpAny_loadName_local hk hki hns4 hindex (wpAny_Name (wpAny_loadName_local hk hka hns4 hself (set_plain X4 (ox := exR C none t4) (od := none) ⟨e4, rfl, rfl, trivial⟩ T.o.sa ?_)))))))
  refine PySem.HandSPX.exc_osa X4 e4 hcl (show PySem.HandSPX.refsVE (.ref C :: bm) = true from hbm) rfl T.fld (fun h' tk' dx k dn dne hx' hn => ?_)
  have kk : ∀ b o, b ≠ x → hh.get? b = some o → h'.get? b = some o := fun b o hb e => k b o hb (k4 b o hb (k3 _ _ (k2 _ _ (hk1 _ _ e))))
  refine wpAt_of_wpAny (wpAny_pure ?_)
  have hsz : hh.objs.size ≤ dx := Nat.le_trans (Nat.le_of_lt hns4.lt) dn
  exact hq h' dx _ kk hsz dne ⟨_, hx'⟩ hn
end
end EvI

set_option Elab.async false
set_option linter.all false
set_option maxRecDepth 100000
set_option maxHeartbeats 4000000
/-! EvIm: C(i) for an error class that keeps an index. -/
namespace EvI
open PySem PySem.Spec L2
open PyProof.Rows hiding St
section
variable {X : Cx} {e : Expr} {ta : TA} {p pos : Pos}
/-- C(e), C keeps an index -/
def tMkIx (C : Addr) (ta : TA) : St → Hp → XK → Prop := fun σ H Q => ta σ H fun vs H1 => ∃ i : Int, vs = [.int i] ∧ i.natAbs.log2 < 1920 ∧ ∀ d, H1 d = none → Q (.ref C) (some d) (upd H1 d (.xd [("index", .int i)]))
theorem pmk_ix {x : Str} {C D fI : Addr} {fd : FuncData} (F : IxF X.prog X.K fI D fd) (T : IxC X.K C D fI) (hr : Room 1 X.A) (hb : Binds X.K fd ["self", "index"] []) (hsup : X.mg "super" = none) (hg : Gl X x) (hm : X.mg x = some (.ref C)) (ha : PA X [e] ta)
    (hdb : (x == ("__debug__" : Str)) = false := by decide) (he : starEach [e] X.env = (false, eval e X.env) :: starEach [] X.env := by rfl) (hpl : (backTo pos (starEach [] X.env)).any (·.1) = false := by rfl) :
    PMk X (.Call (.Name x p) [e] [] pos) (tMkIx C ta) := by
  intro pins s σ H Q I h
  obtain ⟨nm, q, N, bs, bm, sn, sub, ab, col, dd, k0, k1, k2, k3, k5, hC, hbm⟩ := T.o.cls
  refine wpAny_Call_Name_kw (ld_glob I hg hm ?_ hdb)
  refine PySem.W.callWith_K (h₀ := X.base) I.ok.mod.kin T.o.kC (thn (ha.run pos pins s σ H _ I h) fun us s1 ⟨vs, H1, I1, r1, q1⟩ => ⟨I1.kIn, ?_⟩) he hpl
  obtain ⟨i, rfl, hi, q1⟩ := q1
  cases r1 with
  | @cons _ u _ us' ru rn =>
  cases rn
  obtain ⟨tk0, rfl⟩ := (show ∃ t, u = Value.int i t from ru)
  show wpAny _ _ (call (.ref C) [.int i tk0]) _ _ _
  obtain ⟨hp, g, dr, tk, os⟩ := s1
  obtain ⟨a, ea⟩ : ∃ a, hp.objs.size + 1 = a := ⟨_, rfl⟩
  have hsz : hp.objs.size ≤ a := by omega
  have hn : H1 a = none := I1.hok.fresh hsz
  have kk : ∀ b o, hp.get? b = some o → ((hp.push (PySem.W.kdv_tup [.int i tk0])).push (PySem.HandSPX.excO C hp.objs.size)).get? b = some o := fun b o e => Heap.get?_push_of_some _ (Heap.get?_push_of_some _ e)
  have hget : ((hp.push (PySem.W.kdv_tup [.int i tk0])).push (PySem.HandSPX.excO C hp.objs.size)).get? a = some (PySem.HandSPX.excO C hp.objs.size) := by rw [← ea]; heap_get
  have I2 : Inv X pins σ (upd H1 a (exo a C none)) ⟨(hp.push (PySem.W.kdv_tup [.int i tk0])).push (PySem.HandSPX.excO C hp.objs.size), g, dr, tk, os⟩ :=
    I1.laid (t' := tk) (a := a) (o := exo a C none) (h' := (hp.push (PySem.W.kdv_tup [.int i tk0])).push (PySem.HandSPX.excO C hp.objs.size)) kk hsz (exo_ok hget)
  have hKx : X.K.lookup a = none := by
    cases z : X.K.lookup a with
    | none => rfl
    | some o => exact absurd (Heap.lt_size (I1.kIn _ _ z)) (Nat.not_lt.mpr hsz)
  obtain ⟨mb, b1, b2⟩ := I2.mod.blt
  have hbind := hb ⟨(hp.push (PySem.W.kdv_tup [.int i tk0])).push (PySem.HandSPX.excO C hp.objs.size), g, dr, tk, os⟩ [.ref a, .int i tk0] I2.kIn rfl
  rw [List.append_nil] at hbind
  refine wpAny_call (PySem.HandSPX.call_own PySem.F.excBase_ValueError (fun Y => PySem.HandSPX.refsVE_contains Y bm hbm) (I1.kIn _ _ hC) (PySem.W.looks_findIn I1.kIn T.ini) (fun self => PySem.W.bind_fn I1.kIn self T.ty) (by show 1 ≤ sizeLine; rw [sizeLine_eq]; omega) ?_)
  rw [ea]
  refine ix_run F T I2.kIn hget hKx I2.nolimit (I2.mod.glob.keeps I2.bk) hsup (b1.keeps I2.bk) (b2 _ (by decide)) hbind hi (hr.make C [.int i tk0] []).depth fun h' dx t' k dn dne hx hns => ?_
  refine ⟨rfl, ?_⟩
  have hs2 : hp.objs.size ≤ ((hp.push (PySem.W.kdv_tup [.int i tk0])).push (PySem.HandSPX.excO C hp.objs.size)).objs.size := by rw [Heap.size_push, Heap.size_push]; omega
  have hd1 : H1 dx = none := I1.hok.fresh (Nat.le_trans hs2 dn)
  have hda : dx ≠ a := dne
  have H2d : upd H1 a (exo a C none) dx = none := by rw [upd_ne hda]; exact hd1
  have e0 : upd H1 a (exo a C none) a = some (exo a C none) := upd_same
  have hx' : ∃ t1 : Addr, h'.get? a = some ({ cls := .ref C, dict := some dx, data := .fields #[.ref t1, .none, .none, .none, .bool false, .none] } : Obj) := hx
  have nd : ∀ {b : Addr} {o : Obj}, ((hp.push (PySem.W.kdv_tup [.int i tk0])).push (PySem.HandSPX.excO C hp.objs.size)).get? b = some o → b ≠ dx := fun {b o} q => Nat.ne_of_lt (Nat.lt_of_lt_of_le (Heap.lt_size q) dn)
  have na : ∀ {b : Addr}, upd H1 a (exo a C none) b = none → b ≠ a := fun {b} n z => by
    rw [z, e0] at n
    cases n
  have Un1 : Un (frs X.stack) [] (upd H1 a (exo a C none)) (upd (upd (upd H1 a (exo a C none)) dx (exd dx [("index", .int i)])) a (exo a C (some dx))) ((hp.push (PySem.W.kdv_tup [.int i tk0])).push (PySem.HandSPX.excO C hp.objs.size)) h' := {
    keep := fun b o q n _ _ => k b o (na n) q
    slot := fun b o q n _ _ => ⟨o.slots, k b o (na n) q⟩
    free := fun b o q n _ => by rw [upd_ne (na n), upd_ne (nd q)]; exact n
    there := fun b o q _ => by
      by_cases hb : b = a
      · obtain ⟨t1, hx1⟩ := hx'
        exact ⟨_, by rw [hb]; exact hx1⟩
      · exact ⟨o, k b o hb q⟩
    tups := fun b xs q => by rw [upd_ne (at_ne e0 q exo_tup), upd_ne (ne_of_none q H2d)]; exact q
    frzs := fun b o v q => by rw [upd_ne (at_ne e0 q exo_frz), upd_ne (ne_of_none q H2d)]; exact q
    tbls := fun b ps q => ⟨#[], by rw [upd_ne (at_ne e0 q exo_tbl), upd_ne (ne_of_none q H2d), q]; simp⟩ }
  have hok2 : HOk X.prog X.w (upd (upd (upd H1 a (exo a C none)) dx (exd dx [("index", .int i)])) a (exo a C (some dx))) h' := fun b o q => by
    by_cases hb : b = a
    · subst hb
      rw [upd_same] at q
      cases q
      obtain ⟨t1, hx1⟩ := hx'
      exact exo_ok hx1
    · rw [upd_ne hb] at q
      by_cases hd : b = dx
      · subst hd
        rw [upd_same] at q
        cases q
        exact exd_ok hns (relO_put (fs := []) (y := .int i) ⟨tk0, rfl⟩ fun g => True.intro)
      · rw [upd_ne hd] at q
        exact (I2.hok b o q).stay (fun c v hc z => k c v (by
            rcases hc with hc | hc
            · rw [hc]
              exact hb
            · exact at_ne e0 hc exo_own) z)
          (fun c hc => by rw [upd_ne (at_ne e0 hc exo_own), upd_ne (ne_of_none hc H2d)]; exact hc) (fun c xs hc => by rw [upd_ne (at_ne e0 hc exo_tup), upd_ne (ne_of_none hc H2d)]; exact hc)
  refine mk_end (H2 := upd (upd (upd H1 a (exo a C none)) dx (exd dx [("index", .int i)])) a (exo a C (some dx))) (raises_own T.o.exC T.o.tyC) I1 hsz kk Un1 hok2 rfl I2.bare upd_same (by rw [upd_ne hda, upd_same]) hd1 ?_
  have eH : upd (del (upd (upd (upd H1 a (exo a C none)) dx (exd dx [("index", .int i)])) a (exo a C (some dx))) a) dx (.xd [("index", .int i)]) = upd H1 dx (.xd [("index", .int i)]) := by
    funext b
    by_cases hb : b = dx
    · rw [hb, upd_same, upd_same]
    · rw [upd_ne hb, upd_ne hb]
      by_cases hba : b = a
      · rw [hba, del_same, hn]
      · rw [del_ne hba, upd_ne hba, upd_ne hb, upd_ne hba]
  rw [eH]
  exact q1 dx hd1
end
end EvI

set_option Elab.async false
set_option linter.all false
set_option maxRecDepth 100000
set_option maxHeartbeats 4000000
/-! EvIi: isinstance of a caught error, with an index or without; its index. -/
namespace EvI
open PySem PySem.Spec L2
open PyProof.Rows hiding St
/-- isinstance(e, c), e the error that the suite holds, d its dict -/
def rIsE2 (K : PySem.W.Frag) (D a : Addr) (d : Option Addr) : List V → Hp → VK → Prop := fun xs H Q => ∃ (c : V) (cv : Value) (b : Bool), xs = [.ref a, c] ∧ (∀ u, RelV c u → u = cv) ∧ PySem.W.kitOne K (.ref D) cv = some b ∧ (∀ dd, d = some dd → ∃ fs, H dd = some (.xd fs)) ∧ Q (.bl b) H
theorem call_isE2 {X : Cx} {a D : Addr} {d : Option Addr} {oe : Obj} {pn : List (Addr × Obj)} (C : ExcC X.K D) (hz : Zc (.ref D) d oe) (hf : ∃ vs, oe.data = .fields vs) : CallR (X.suite a ((a, oe) :: pn)) (.builtin "isinstance") (rIsE2 X.K D a d) := by
  intro pins s σ H xs us Q I r h
  obtain ⟨c, cv, b, rfl, hcv, e, hdd, q⟩ := h
  cases r with
  | cons rx rr =>
    cases rr with
    | cons rt rr =>
      cases rr
      cases rx
      have ec := hcv _ rt
      subst ec
      obtain ⟨hget, _⟩ := I.pin (a, oe) (List.mem_append.mpr (.inl List.mem_cons_self))
      obtain ⟨vs, hv⟩ := hf
      obtain ⟨od, J⟩ : ∃ od, PySem.W.InstAt s.heap a oe D od := by
        obtain ⟨oc, oda, odt, osl⟩ := oe
        obtain ⟨h1, h2⟩ := hz
        dsimp only at h1 h2 hv
        subst h1 h2 hv
        cases oda with
        | none => exact ⟨none, hget, rfl, rfl, trivial⟩
        | some dd =>
          obtain ⟨fs, hx⟩ := hdd dd rfl
          have hx : ObjOk X.prog X.w H s.heap dd (.xd fs) := I.hok dd _ hx
          obtain ⟨mA, hns, hr⟩ := hx
          obtain ⟨od, ho, _⟩ := lookIn_ns hns
          exact ⟨some od, hget, rfl, rfl, ho⟩
      have hcl : (PySem.W.clsIn X.K D).isSome = true := by
        obtain ⟨cd, hc, _⟩ := PySem.W.any_some C.hd
        rw [hc] <;> rfl
      exact PySem.W.kia_one (PySem.W.kitx_exc hcl C.hg C.hk C.hs C.ha C.hn C.ht C.hm) I.kIn J e (fun z => nomatch z) fun tk => ⟨.bl b, H, I.kept (t' := tk) fun _ _ z => z, rfl, q⟩
end EvI

set_option Elab.async false
set_option linter.all false
set_option maxRecDepth 100000
/-! Ev, part 1: data, own syntax, the evaluator. -/
namespace Ev
open PySem L2

/-- a text by its codes -/
abbrev S (l : List Nat) : Str := ⟨l.toArray⟩

/-- data: tuples and frozen lists and dicts are plain values; ref n is cell n of the store -/
inductive D where
  | non | bl (b : Bool) | int (i : Int) | str (x : Str)
  | tup (xs : List D) | lst (xs : List D) | fz (xs : List D) | tk (xs : List D)
  | dk (kvs : List (Key × D)) | dt (kvs : List (List Key × D))
  | ins (c : Nat) (fs : List (Str × D))
  | ref (n : Nat) | fn (f : Nat) | cl (c : Nat) | ty (n : String)
  | err (c : Nat) (fs : List (Nat × D))
  /-- a cell's dict while a loop walks it -/
  | lk (d : D)

/-- the most items of a list -/
def SZ : Nat := 16777216

mutual
/-- every reference is below f -/
def D.lo (f : Nat) : D → Bool
  | .tup xs => D.los f xs
  | .lst xs => D.los f xs
  | .fz xs => D.los f xs
  | .tk xs => D.los f xs
  | .dk kvs => D.loK f kvs
  | .dt kvs => D.loT f kvs
  | .ins _ fs => D.loS f fs
  | .err _ fs => D.loF f fs
  | .lk d => D.lo f d
  | .ref n => decide (n < f)
  | .non => true | .bl _ => true | .int _ => true | .str _ => true | .fn _ => true | .cl _ => true | .ty _ => true
def D.los (f : Nat) : List D → Bool
  | [] => true
  | d :: r => D.lo f d && D.los f r
def D.loK (f : Nat) : List (Key × D) → Bool
  | [] => true
  | p :: r => D.lo f p.2 && D.loK f r
def D.loT (f : Nat) : List (List Key × D) → Bool
  | [] => true
  | p :: r => D.lo f p.2 && D.loT f r
def D.loF (f : Nat) : List (Nat × D) → Bool
  | [] => true
  | p :: r => D.lo f p.2 && D.loF f r
def D.loS (f : Nat) : List (Str × D) → Bool
  | [] => true
  | p :: r => D.lo f p.2 && D.loS f r
end

abbrev Sto := List D
abbrev Env := List (Option D)

inductive Out (α : Type) where
  | ok (a : α) (st : Sto)
  | exc (c : Nat) (fs : List (Nat × D)) (st : Sto)
  | bad

@[inline] def Out.bind {α β : Type} (x : Out α) (f : α → Sto → Out β) : Out β :=
  match x with
  | .ok a st => f a st
  | .exc c fs st => .exc c fs st
  | .bad => .bad
@[simp] theorem Out.bind_ok {α β : Type} {a : α} {st : Sto} {f : α → Sto → Out β} : (Out.ok a st).bind f = f a st := rfl
@[simp] theorem Out.bind_exc {α β : Type} {c : Nat} {fs : List (Nat × D)} {st : Sto} {f : α → Sto → Out β} : (Out.exc c fs st : Out α).bind f = .exc c fs st := rfl
@[simp] theorem Out.bind_bad {α β : Type} {f : α → Sto → Out β} : (Out.bad : Out α).bind f = .bad := rfl
theorem Out.bind_assoc {α β γ : Type} {x : Out α} {f : α → Sto → Out β} {g : β → Sto → Out γ} : (x.bind f).bind g = x.bind fun a s => (f a s).bind g := by
  cases x <;> rfl
/-- what may not raise -/
def Out.noX {α : Type} (x : Out α) : Out α :=
  match x with
  | .ok a st => .ok a st
  | _ => .bad
@[simp] theorem Out.noX_ok {α : Type} {a : α} {st : Sto} : (Out.ok a st).noX = .ok a st := rfl
@[simp] theorem Out.noX_bad {α : Type} : (Out.bad : Out α).noX = .bad := rfl
/-- a partial operation -/
def lift {α : Type} (o : Option α) (st : Sto) : Out α :=
  match o with
  | some a => .ok a st
  | none => .bad
@[simp] theorem lift_some {α : Type} {a : α} {st : Sto} : lift (some a) st = .ok a st := rfl
@[simp] theorem lift_none {α : Type} {st : Sto} : lift (none : Option α) st = .bad := rfl

/-- what a value holds: a cell's content, or itself -/
def view (st : Sto) (d : D) : D :=
  match d with
  | .ref n => (st[n]?).getD .non
  | d => d
/-- a cell that a loop walks -/
def lkB (st : Sto) (d : D) : Bool :=
  match d with
  | .ref n => match st[n]? with
    | some (.lk _) => true
    | _ => false
  | _ => false

/-! ### own syntax -/
inductive BOp where | add | sub | mul | mod | fdiv | pow
  deriving DecidableEq
inductive COp where | eq | ne | lt | le | gt | ge | mem | nmem
  deriving DecidableEq
/-- built-ins by one name and positional arguments -/
inductive Bi where | len | abs | int | tuple | list | all | any | min1 | max1 | min2 | max2 | sum | sorted | str | ord | dict | isinst | set
  deriving DecidableEq
/-- methods of built-in types -/
inductive Bm where | append | extend | index | get1 | get2 | join | pop2 | bitlen
  deriving DecidableEq

/-- targets: a slot, or a tuple of slots -/
inductive Tg where | one (i : Nat) | many (is : List Nat)
  deriving DecidableEq

mutual
inductive Ex where
  | non | bool (b : Bool) | int (i : Int) | str (x : Str)
  | var (i : Nat)
  | gf (f : Nat)
  | gc (c : Nat)
  | tyE (n : String)
  | bin (op : BOp) (a b : Ex)
  | neg (a : Ex) | nt (a : Ex)
  | andE (as : Exs) | orE (as : Exs)
  | cmp (op : COp) (a b : Ex)
  | chain (op op2 : COp) (a b c : Ex)
  | isN (a : Ex) | notN (a : Ex)
  | isB (a : Ex) (b : Bool) | notB (a : Ex) (b : Bool)
  | call (f : Nat) (as : Exs)
  | callv (i : Nat) (as : Exs)
  | bi (n : Bi) (as : Exs)
  | listR (s : Src)
  | bm (m : Bm) (o : Ex) (as : Exs)
  | meth (c : Nat) (m : Str) (o : Ex) (as : Exs)
  | mk (c : Nat) (as : Exs)
  | attr (o : Ex) (f : Str)
  | idx (o i : Ex)
  | slc (o : Ex) (lo hi : Exs)
  | tupE (as : Exs) | lstE (as : Exs)
  | dicE (ps : Prs)
  | dic0 (t : Bool)
  | lc (elt : Ex) (tg : Tg) (src : Src) (test : Exs) (own : List Nat)
  | box (a : Ex)
  | ite (c a b : Ex)
  | bits (a : Ex)
  | sset (a : Ex)
  | dix (c : Nat) (i : Ex)
  | orV (a b : Ex)
  | dc (k v : Ex) (tg : Tg) (src : Src) (test : Exs) (own : List Nat)
  | badE
  | chain3 (op op2 op3 : COp) (a b c d : Ex)
  | dixg (c : Nat) (i d : Ex)
  | dget1 (o k : Ex) | dget2 (o k d : Ex)
  | tix (o v : Ex)
  /-- sorted(a, key=f) -/
  | sortK (f : Nat) (a : Ex)
inductive Exs where
  | nil | cons (a : Ex) (r : Exs)
inductive Prs where
  | nil | cons (k v : Ex) (r : Prs)
inductive Src where
  | rng1 (a : Ex) | rng2 (a b : Ex) | seq (a : Ex) | rev (a : Ex) | cel (a : Ex) | rng3 (a b c : Ex)
  /-- the keys of a dict that is walked -/
  | kys (a : Ex)
end

/-- what an except suite may say -/
inductive Su where
  | non | bool (b : Bool) | int (i : Int) | str (x : Str)
  | var (i : Nat)
  | tup2 (a b : Su)
  | nt (a : Su) | andS (a b : Su) | orS (a b : Su)
  | isE (c : Nat)
  /-- the caught error's index -/
  | ix
inductive Sh where
  | ret (e : Su) | retN
  | setN (i : Nat) (e : Su)
  | ifR (c a : Su) (r : Sh)
  | raise (c : Nat)
  | badH
/-- a target that may be an attribute of a name -/
inductive TA1 where | v (i : Nat) | f (o : Nat) (f : Str)
  deriving DecidableEq
inductive Hds where
  | nil | cons (c : Nat) (n : Option Nat) (s : Sh) (r : Hds)
mutual
inductive Sm where
  | set (i : Nat) (e : Ex)
  | sets (is : List Nat) (e : Ex)
  | put (o i e : Ex)
  | fld (o : Ex) (f : Str) (e : Ex)
  | setA (ts : List TA1) (e : Ex)
  | badS
  | tryB (b : Sms)
  | lock (o : Ex) (s : Sm)
  | expr (e : Ex)
  | doc
  | ret (e : Ex) | retN
  | ifS (c : Ex) (a b : Sms)
  | forS (tg : Tg) (src : Src) (b : Sms)
  | whl (c : Ex) (b : Sms)
  | brk | cont
  | raise (c : Nat) (m : Str)
  | raiseI (c : Nat) (e : Ex)
  | tryS (b : Sms) (hs : Hds)
inductive Sms where
  | nil | cons (a : Sm) (r : Sms)
end

structure Fn where
  name : Str
  np : Nat
  N : List Str
  body : Sms
  pop : Bool := true
  /-- it stands at the module's top -/
  glob : Bool := true

structure Prog where
  fns : List Fn
  cons : List (Str × D)
  /-- own error classes: the name, whether they are made with an index, what they stand under -/
  excs : List (Str × Bool × List Nat)
  /-- dicts of the module whose keys are texts -/
  dics : List (Str × List (Str × D)) := []
  /-- own classes: the name, the methods' defs, the attributes -/
  clss : List (Str × List (Str × Nat) × List Str) := []
/-- a method of a class -/
def mthOf (G : Prog) (c : Nat) (m : Str) : Option Nat := match G.clss[c]? with
  | some p => p.2.1.lookup m
  | none => none
/-- an attribute of a class -/
def fldB (G : Prog) (c : Nat) (f : Str) : Bool := match G.clss[c]? with
  | some p => p.2.2.contains f
  | none => false
/-- class c stands under class c' -/
def subB (G : Prog) (c c' : Nat) : Bool := match G.excs[c]? with
  | some p => p.2.2.contains c'
  | none => false

/-! ### operations -/
/-- the product is not too great -/
def mulOk (i j : Int) : Bool := decide (i.natAbs < 2 ^ 64) || decide (j.natAbs < 2 ^ 64) || decide (i.natAbs.log2 + j.natAbs.log2 < 1000000)
def divOk (j : Int) : Bool := decide (0 < j) && decide (j.natAbs.log2 < 9000)
/-- x * n -/
def repS (x : Str) (n : Nat) : Str := ⟨(List.replicate n x.cps).foldl (· ++ ·) #[]⟩
def binD (st : Sto) (op : BOp) (a b : D) : Option D :=
  match op, view st a, view st b with
  | .add, .int i, .int j => some (.int (i + j))
  | .add, .lst xs, .lst ys => if xs.length + ys.length ≤ SZ then some (.lst (xs ++ ys)) else none
  | .add, .tup xs, .tup ys => if xs.length + ys.length ≤ SZ then some (.tup (xs ++ ys)) else none
  | .add, .str x, .str y => if x.length + y.length ≤ SZ then some (.str (x ++ y)) else none
  | .sub, .int i, .int j => some (.int (i - j))
  | .mul, .int i, .int j => if mulOk i j then some (.int (i * j)) else none
  | .mul, .lst xs, .int k => if xs.length * k.toNat ≤ SZ ∧ k.natAbs ≤ SZ then some (.lst (List.replicate k.toNat xs).flatten) else none
  | .mul, .tup xs, .int k => if xs.length ≤ 1000 ∧ 1 ≤ k ∧ k ≤ 1000 ∧ xs ≠ [] then some (.tup (List.replicate k.toNat xs).flatten) else none
  | .mul, .str x, .int k => if 2 ≤ k ∧ k ≤ 1000 ∧ 1 ≤ x.length ∧ x.length ≤ 1000 then some (.str (repS x k.toNat)) else none
  | .mod, .int i, .int j => if 0 < j then some (.int (i % j)) else none
  | .fdiv, .int i, .int j => if divOk j then some (.int (i / j)) else none
  | .pow, .int i, .int j => if 0 ≤ j ∧ j ≤ 1000000 ∧ i.natAbs < 2 ^ 64 then some (.int (i ^ j.toNat)) else none
  | _, _, _ => none

mutual
/-- may be compared: no references, dicts, texts of codes that are none; n deep -/
def okN : Nat → D → Bool
  | _, .non => true
  | _, .bl _ => true
  | _, .int _ => true
  | _, .str _ => true
  | n + 1, .tup xs => okNs n xs
  | n + 1, .lst xs => okNs n xs
  | _, _ => false
def okNs : Nat → List D → Bool
  | _, [] => true
  | n, x :: xs => okN n x && okNs n xs
end
mutual
def eqv : D → D → Bool
  | .non, .non => true
  | .bl a, .bl b => a == b
  | .bl a, .int j => (if a then 1 else 0) == j
  | .int i, .bl b => i == (if b then 1 else 0)
  | .int i, .int j => decide (i = j)
  | .str x, .str y => decide (x = y)
  | .lst xs, .lst ys => eqvs xs ys
  | .tup xs, .tup ys => eqvs xs ys
  | _, _ => false
def eqvs : List D → List D → Bool
  | [], [] => true
  | x :: xs, y :: ys => eqv x y && eqvs xs ys
  | _, _ => false
end
def eqD (st : Sto) (a b : D) : Option Bool :=
  if okN 60 (view st a) && okN 60 (view st b) then some (eqv (view st a) (view st b)) else none

def keyD : D → Option Key
  | .int i => some (.inl i)
  | .str x => some (.inr x)
  | _ => none
def keysD : List D → Option (List Key)
  | [] => some []
  | d :: r => match keyD d, keysD r with
    | some k, some ks => some (k :: ks)
    | _, _ => none
section
variable {κ : Type} [DecidableEq κ]
def dget (kvs : List (κ × D)) (k : κ) : Option D := (kvs.find? fun kv => decide (kv.1 = k)).map (·.2)
def dput (kvs : List (κ × D)) (k : κ) (v : D) : List (κ × D) :=
  if (kvs.any fun kv => decide (kv.1 = k)) = true then kvs.map (fun kv => if kv.1 = k then (kv.1, v) else kv) else kvs ++ [(k, v)]
end

/-- a flat thing -/
def flat : D → Bool
  | .non => true
  | .bl _ => true
  | .int _ => true
  | .str _ => true
  | _ => false
def memD (st : Sto) (a b : D) : Option Bool :=
  match view st b with
  | .lst xs => if okN 60 a && okNs 59 xs then some (xs.any fun x => eqv x a) else none
  | .tup xs => if flat a && xs.all flat then some (xs.any fun x => eqv x a) else none
  | .tk xs => if flat a && xs.all flat then some (xs.any fun x => eqv x a) else none
  | .str z => match a with
    | .str x => (match x.cps.toList with
      | [c] => some (decide (c ∈ z.cps.toList))
      | _ => none)
    | _ => none
  | .dk kvs => (keyD a).map fun k => (dget kvs k).isSome
  | .dt kvs => match a with
    | .tup ds => (keysD ds).map fun k => (dget kvs k).isSome
    | _ => none
  | .lk (.dk kvs) => (keyD a).map fun k => (dget kvs k).isSome
  | .lk (.dt kvs) => match a with
    | .tup ds => (keysD ds).map fun k => (dget kvs k).isSome
    | _ => none
  | _ => none

def ltS (x y : Str) : Bool := decide (x.cps.toList < y.cps.toList)
def cmpD (st : Sto) (op : COp) (a b : D) : Option Bool :=
  match op with
  | .eq => eqD st a b
  | .ne => (eqD st a b).map (!·)
  | .mem => memD st a b
  | .nmem => (memD st a b).map (!·)
  | .lt => match a, b with
    | .int i, .int j => some (decide (i < j))
    | .str x, .str y => some (ltS x y)
    | _, _ => none
  | .le => match a, b with
    | .int i, .int j => some (decide (i ≤ j))
    | .str x, .str y => some (!ltS y x)
    | _, _ => none
  | .gt => match a, b with
    | .int i, .int j => some (decide (j < i))
    | .str x, .str y => some (ltS y x)
    | _, _ => none
  | .ge => match a, b with
    | .int i, .int j => some (decide (j ≤ i))
    | .str x, .str y => some (!ltS x y)
    | _, _ => none

def idxD (st : Sto) (o i : D) : Option D :=
  match view st o, i with
  | .lst xs, .int i => atI xs i
  | .tup xs, .int i => atI xs i
  | .fz xs, .int i => atI xs i
  | .tk xs, .int i => atI xs i
  | .str z, .int i => if z.length ≤ SZ then (atI z.cps.toList i).map fun c => .str ⟨#[c]⟩ else none
  | .dk kvs, i => (keyD i).bind fun k => dget kvs k
  | .dt kvs, .tup ds => (keysD ds).bind fun k => dget kvs k
  | .lk (.dk kvs), i => (keyD i).bind fun k => dget kvs k
  | .lk (.dt kvs), .tup ds => (keysD ds).bind fun k => dget kvs k
  | _, _ => none

/-- d.get(k): what is there -/
def getO (st : Sto) (x y : D) : Option (Option D) :=
  match view st x with
  | .dk kvs => (keyD y).map fun k => dget kvs k
  | .dt kvs => match y with
    | .tup ds => (keysD ds).map fun k => dget kvs k
    | _ => none
  | .lk (.dk kvs) => (keyD y).map fun k => dget kvs k
  | .lk (.dt kvs) => match y with
    | .tup ds => (keysD ds).map fun k => dget kvs k
    | _ => none
  | _ => none
def isDc (st : Sto) (x : D) : Bool := match view st x with
  | .dk _ => true
  | .dt _ => true
  | .lk (.dk _) => true
  | .lk (.dt _) => true
  | _ => false
def cutD (xs : List D) (lo hi : Option Int) : List D :=
  List.take (HT.sIx xs.length xs.length hi - HT.sIx xs.length 0 lo) (List.drop (HT.sIx xs.length 0 lo) xs)
def optI : List D → Option (Option Int)
  | [] => some none
  | [.int i] => some (some i)
  | _ => none
def slcD (st : Sto) (o : D) (lo hi : Option Int) : Option D :=
  match view st o with
  | .lst xs => some (.lst (cutD xs lo hi))
  | .tup xs => some (.tup (cutD xs lo hi))
  | _ => none

/-- a pair of ints -/
def pairD (p : Int × Int) : D := .tup [.int p.1, .int p.2]
def toPrs : List D → Option (List (Int × Int))
  | [] => some []
  | .tup [.int a, .int b] :: r => (toPrs r).map ((a, b) :: ·)
  | _ => none
/-- pairs of ints, sorted -/
def prsort (ps : List (Int × Int)) : List (Int × Int) := (EvSK.psort (ps.map fun p => (p, ()))).map (·.1)
def toBools : List D → Option (List Bool)
  | [] => some []
  | .bl b :: r => (toBools r).map (b :: ·)
  | _ :: _ => none
def toInts : List D → Option (List Int)
  | [] => some []
  | .int i :: r => (toInts r).map (i :: ·)
  | _ :: _ => none
def toStrs : List D → Option (List Str)
  | [] => some []
  | .str i :: r => (toStrs r).map (i :: ·)
  | _ :: _ => none
/-- into a row of texts that ascends -/
def insT (x : Str) : List Str → List Str
  | [] => [x]
  | y :: r => if ltS y x = true then y :: insT x r else x :: y :: r
def tsort : List Str → List Str
  | [] => []
  | x :: r => insT x (tsort r)
/-- the same, each text once -/
def insU (x : Str) : List Str → List Str
  | [] => [x]
  | y :: r => if x = y then y :: r else if ltS y x = true then y :: insU x r else x :: y :: r
def usort : List Str → List Str
  | [] => []
  | x :: r => insU x (usort r)
/-- ints, each once -/
def insUI (x : Int) : List Int → List Int
  | [] => [x]
  | y :: r => if x = y then y :: r else if y < x then y :: insUI x r else x :: y :: r
def uisort : List Int → List Int
  | [] => []
  | x :: r => insUI x (uisort r)
def ins1 (x : Int) : List Int → List Int
  | [] => [x]
  | y :: r => if x ≤ y then x :: y :: r else y :: ins1 x r
def isort : List Int → List Int
  | [] => []
  | x :: r => ins1 x (isort r)
def imin : Int → List Int → Int
  | x, [] => x
  | x, y :: r => imin (if y < x then y else x) r
def imax : Int → List Int → Int
  | x, [] => x
  | x, y :: r => imax (if x < y then y else x) r

/-- the items of a list or a tuple -/
def items (st : Sto) (d : D) : Option (List D) :=
  match view st d with
  | .lst xs => some xs
  | .tup xs => some xs
  | .fz xs => some xs
  | .tk xs => some xs
  | _ => none

/-- the name of a value's type -/
def tyD : D → Option String
  | .non => some "NoneType"
  | .bl _ => some "bool"
  | .int _ => some "int"
  | .str _ => some "str"
  | .tup _ => some "tuple"
  | .tk _ => some "tuple"
  | .lst _ => some "list"
  | .fz _ => some "list"
  | .dk _ => some "dict"
  | .dt _ => some "dict"
  | _ => none
def biD (st : Sto) (n : Bi) (as : List D) : Option D :=
  match n, as with
  | .len, [d] => match view st d with
    | .lst xs => some (.int xs.length)
    | .tup xs => some (.int xs.length)
    | .fz xs => some (.int xs.length)
    | .tk xs => some (.int xs.length)
    | .str x => if x.length ≤ SZ then some (.int x.length) else none
    | .dk kvs => some (.int kvs.length)
    | .dt kvs => some (.int kvs.length)
    | _ => none
  | .abs, [.int i] => some (.int (if i < 0 then -i else i))
  | .int, [.int i] => some (.int i)
  | .int, [.bl b] => some (.int (if b = true then 1 else 0))
  | .tuple, [d] => match view st d with
    | .lst xs => some (.tup xs)
    | .tup xs => some (.tup xs)
    | _ => none
  | .list, [d] => match view st d with
    | .lst xs => some (.lst xs)
    | .tup xs => some (.lst xs)
    | _ => none
  | .all, [d] => match view st d with
    | .lst xs => (toBools xs).map fun bs => .bl (bs.all id)
    | _ => none
  | .any, [d] => match view st d with
    | .lst xs => (toBools xs).map fun bs => .bl (bs.any id)
    | _ => none
  | .min2, [.int i, .int j] => some (.int (if j < i then j else i))
  | .max2, [.int i, .int j] => some (.int (if j > i then j else i))
  | .min1, [d] => match view st d with
    | .lst xs => match toInts xs with
      | some (x :: r) => some (.int (imin x r))
      | some [] => none
      | none => match toStrs xs with
        | some (x :: r) => some (.str (EvSet.smin x r))
        | _ => none
    | _ => none
  | .max1, [d] => match view st d with
    | .lst xs => match toInts xs with
      | some (x :: r) => some (.int (imax x r))
      | some [] => none
      | none => match toStrs xs with
        | some (x :: r) => some (.str (EvSet.smax x r))
        | _ => none
    | _ => none
  | .sum, [d] => match view st d with
    | .lst xs => (toInts xs).map fun ns => .int ns.sum
    | .tup xs => (toInts xs).map fun ns => .int ns.sum
    | _ => none
  | .sorted, [d] => match view st d with
    | .lst xs => match toInts xs with
      | some ns => some (.lst ((isort ns).map .int))
      | none => match toStrs xs with
        | some ss => some (.lst ((tsort ss).map .str))
        | none => (toPrs xs).map fun ps => .lst ((prsort ps).map pairD)
    | _ => none
  | .str, [.int i] => if i.natAbs.log2 < 1920 then some (.str (toString i)) else none
  | .ord, [.str x] => if x.length = 1 then some (.int (x.cps.getD 0 0 : Nat)) else none
  | .isinst, [d, .ty t] => (tyD (view st d)).bind fun n => (kitB n t).map .bl
  | _, _ => none

def textsOf (st : Sto) (x : D) : Option (List Str) := match view st x with
  | .lst xs => toStrs xs
  | .tup xs => toStrs xs
  | _ => none
def intsOfL (st : Sto) (x : D) : Option (List Int) := match view st x with
  | .lst xs => toInts xs
  | _ => none
/-! ### the evaluator -/
def setSlots (ρ : Env) : List Nat → List D → Option Env
  | [], [] => some ρ
  | i :: is, d :: ds => setSlots (ρ.set i (some d)) is ds
  | _, _ => none
def asg (ρ : Env) (tg : Tg) (d : D) : Option Env :=
  match tg with
  | .one i => some (ρ.set i (some d))
  | .many is => match d with
    | .tup ds => setSlots ρ is ds
    | .tk ds => setSlots ρ is ds
    | _ => none
def wipeD (ρ : Env) : List Nat → Env
  | [] => ρ
  | v :: vs => (wipeD ρ vs).set v none

def lcGo (f : D → Sto → Out (Option D)) : List D → Sto → Out (List D)
  | [], st => .ok [] st
  | x :: xs, st => (f x st).bind fun o st1 => (lcGo f xs st1).bind fun r st2 => .ok (match o with | some d => d :: r | none => r) st2

def dcGo (f : D → Sto → Out (Option (Key × D))) : List D → List (Key × D) → Sto → Out (List (Key × D))
  | [], acc, st => .ok acc st
  | x :: xs, acc, st => (f x st).bind fun o st1 => dcGo f xs (match o with | some p => dput acc p.1 p.2 | none => acc) st1
/-- a value's truth -/
def trD : D → Option Bool
  | .non => some false
  | .bl b => some b
  | .tup xs => some (!xs.isEmpty)
  | _ => none

def rng (lo hi : Int) : List D := (List.range (hi - lo).toNat).map fun k => .int (lo + (k : Nat))
def rngS (lo c : Int) (n : Nat) : List D := (List.range n).map fun k => .int (lo + (k : Nat) * c)
/-- the signs of a text -/
def chars (x : Str) : List D := x.cps.toList.map fun c => .str ⟨#[c]⟩
def isNon : D → Bool
  | .non => true
  | _ => false
def isC : D → Bool
  | .lst _ => true
  | .dk _ => true
  | .dt _ => true
  | _ => false
def small62 (i : Int) : Bool := decide (i.natAbs < 2 ^ 62)
theorem small62_b {i : Int} (h : small62 i = true) : -(2 ^ 62) ≤ i ∧ i < 2 ^ 62 := by
  have h := of_decide_eq_true h
  omega

/-- a cell may be written: it is the frame's own, or what is written holds no reference -/
def wrOk (fl n : Nat) (d : D) : Bool := decide (fl ≤ n) || d.lo 0
/-- the type of a method's receiver -/
def recvT (b : Bm) (x : D) : Option String :=
  match b, x with
  | .append, .lst _ => some "list"
  | .extend, .lst _ => some "list"
  | .index, .lst _ => some "list"
  | .join, .str _ => some "str"
  | _, _ => none
/-- methods of built-in types -/
def bmD (fl : Nat) (b : Bm) (x : D) (as : List D) (st : Sto) : Out D :=
  match b, x, as with
  | .append, .ref n, [v] => match st[n]? with
    | some (.lst xs) => if xs.length < SZ ∧ wrOk fl n v = true then .ok .non (st.set n (.lst (xs ++ [v]))) else .bad
    | _ => .bad
  | .extend, .ref n, [v] => match st[n]?, view st v with
    | some (.lst xs), .lst ys => if xs.length + ys.length ≤ SZ ∧ wrOk fl n (.lst ys) = true then .ok .non (st.set n (.lst (xs ++ ys))) else .bad
    | some (.lst xs), .tup ys => if xs.length + ys.length ≤ SZ ∧ wrOk fl n (.lst ys) = true then .ok .non (st.set n (.lst (xs ++ ys))) else .bad
    | _, _ => .bad
  | .index, x, [v] => match view st x with
    | .lst xs => if flat v = true ∧ xs.all flat = true then (match xs.findIdx? (fun x => eqv x v) with
      | some j => .ok (.int (j : Nat)) st
      | none => .bad) else .bad
    | _ => .bad
  | .join, .str a, [v] => match textsOf st v with
    | some ys => if (ys.map (·.length)).sum + ys.length * a.length ≤ SZ then .ok (.str (Str.join a ys)) st else .bad
    | none => .bad
  | _, _, _ => .bad

/-- the items of a walk over a cell: where they stand -/
def celIt (n L : Nat) : List D := (List.range L).map fun i : Nat => .tup [.ref n, .int (L : Nat), .int (i : Nat)]
def itmD (st : Sto) : D → Option D
  | .tup [.ref n, .int L, .int i] => match st[n]? with
    | some (.lst ys) => if (ys.length : Int) = L then ys[i.toNat]? else none
    | _ => none
  | _ => none
def srcRes (src : Src) (st : Sto) (x : D) : Option D := match src with
  | .cel _ => itmD st x
  | _ => some x
def srcEnd (src : Src) (xs : List D) (st : Sto) : Bool := match src with
  | .cel _ => (match xs with
    | .tup [.ref n, .int L] :: _ => (match st[n]? with
      | some (.lst ys) => decide ((ys.length : Int) = L)
      | _ => false)
    | _ => false)
  | _ => true
def srcIts (src : Src) (xs : List D) : List D := match src with
  | .cel _ => xs.tail
  | _ => xs
/-- a key as a value, if its text is one -/
def dKey : Key → Option D
  | .inl i => some (.int i)
  | .inr x => if (x.cps.all fun c => decide (c < 0x110000)) = true then some (.str x) else none
def dKeys : List Key → Option (List D)
  | [] => some []
  | k :: r => match dKey k, dKeys r with
    | some d, some ds => some (d :: ds)
    | _, _ => none
def dKeyss : List (List Key) → Option (List D)
  | [] => some []
  | k :: r => match dKeys k, dKeyss r with
    | some d, some ds => some (.tup d :: ds)
    | _, _ => none
/-- the keys of a dict that is walked, in their order -/
def keysL (st : Sto) (x : D) : Option (List D) := match x with
  | .ref n => match st[n]? with
    | some (.lk (.dk kvs)) => dKeys (kvs.map (·.1))
    | some (.lk (.dt kvs)) => dKeyss (kvs.map (·.1))
    | _ => none
  | _ => none
def isDcC : D → Bool
  | .dk _ => true
  | .dt _ => true
  | _ => false
/-- the walk begins -/
def lockS (x : Out D) (st : Sto) : Option (Nat × Sto) := match x with
  | .ok (.ref n) _ => match st[n]? with
    | some c => if isDcC c = true then some (n, st.set n (.lk c)) else none
    | none => none
  | _ => none
def alreadyLk (x : Out D) (st : Sto) : Bool := match x with
  | .ok d _ => lkB st d
  | _ => false
/-- it ends -/
def unlockS (n : Nat) (st : Sto) : Option Sto := match st[n]? with
  | some (.lk c) => some (st.set n c)
  | _ => none
def keyP : D → Option (Int × Int)
  | .tup [.int a, .int b] => some (a, b)
  | _ => none
/-- the keys by which a list is sorted -/
def keysGo (f : D → Sto → Out D) : List D → Sto → Out (List (Int × Int))
  | [], st => .ok [] st
  | x :: r, st => (f x st).noX.bind fun k st1 => match keyP k with
    | some p => (keysGo f r st1).bind fun ps st2 => .ok (p :: ps) st2
    | none => .bad
section
variable (G : Prog) (C : Nat → List D → Sto → Out D) (fl : Nat)
mutual
def evE (ρ : Env) : Ex → Sto → Out D
  | .non, st => .ok .non st
  | .bool b, st => .ok (.bl b) st
  | .int i, st => .ok (.int i) st
  | .str x, st => .ok (.str x) st
  | .var i, st => match ρ[i]? with
    | some (some d) => .ok d st
    | _ => .bad
  | .gf f, st => .ok (.fn f) st
  | .gc c, st => match G.cons[c]? with
    | some p => .ok p.2 st
    | none => .bad
  | .tyE n, st => .ok (.ty n) st
  | .bin op a b, st => (evE ρ a st).bind fun x st => (evE ρ b st).bind fun y st => lift (binD st op x y) st
  | .neg a, st => (evE ρ a st).bind fun x st => match x with
    | .int i => .ok (.int (-i)) st
    | _ => .bad
  | .nt a, st => (evE ρ a st).bind fun x st => match x with
    | .bl b => .ok (.bl (!b)) st
    | _ => .bad
  | .andE as, st => evAnd ρ as st
  | .orE as, st => evOr ρ as st
  | .cmp op a b, st => (evE ρ a st).bind fun x st => (evE ρ b st).bind fun y st => lift ((cmpD st op x y).map D.bl) st
  | .chain op op2 a b c, st => (evE ρ a st).bind fun x st => (evE ρ b st).bind fun y st =>
      match cmpD st op x y with
      | some true => (evE ρ c st).bind fun z st => lift ((cmpD st op2 y z).map D.bl) st
      | some false => .ok (.bl false) st
      | none => .bad
  | .isN a, st => (evE ρ a st).bind fun x st => .ok (.bl (isNon x)) st
  | .notN a, st => (evE ρ a st).bind fun x st => .ok (.bl (!isNon x)) st
  | .isB a b, st => (evE ρ a st).bind fun x st => match x with
    | .bl c => .ok (.bl (decide (c = b))) st
    | _ => .bad
  | .notB a b, st => (evE ρ a st).bind fun x st => match x with
    | .bl c => .ok (.bl (!decide (c = b))) st
    | _ => .bad
  | .call f as, st => (evEs ρ as st).bind fun ds st => C f ds st
  | .callv i as, st => match ρ[i]? with
    | some (some (.fn f)) => (evEs ρ as st).bind fun ds st => if (G.fns[f]?).map (·.np) = some ds.length then C f ds st else .bad
    | _ => .bad
  | .bi n as, st => (evEs ρ as st).bind fun ds st => lift (biD st n ds) st
  | .listR s, st => match s with
    | .seq _ => .bad
    | .rev _ => .bad
    | .cel _ => .bad
    | .kys _ => .bad
    | .rng3 _ _ _ => .bad
    | s => (evI ρ s st).bind fun xs st => if xs.length ≤ SZ then .ok (.lst xs) st else .bad
  | .bm m o as, st => (evE ρ o st).bind fun x st => match recvT m (view st x) with
    | none => .bad
    | some T => (evEs ρ as st).bind fun ds st => if recvT m (view st x) = some T then bmD fl m x ds st else .bad
  | .meth c m o as, st => (evE ρ o st).bind fun x st => match view st x with
    | .ins c' fs => if c' = c ∧ fs.lookup m = none then (evEs ρ as st).bind fun ds st => (match mthOf G c m with
      | some f => if (G.fns[f]?).map (·.np) = some (ds.length + 1) then C f (x :: ds) st else .bad
      | none => .bad) else .bad
    | _ => .bad
  | .mk c as, st => (evEs ρ as st).bind fun ds st => match mthOf G c "__init__" with
    | some f => if (G.fns[f]?).map (·.np) = some (ds.length + 1) then (C f (.ref st.length :: ds) (st ++ [.ins c []])).noX.bind fun d st' => (match d with
      | .non => .ok (.ref st.length) st'
      | _ => .bad) else .bad
    | none => .bad
  | .attr o f, st => (evE ρ o st).bind fun x st => match view st x with
    | .ins c fs => if fldB G c f = true then lift (fs.lookup f) st else .bad
    | _ => .bad
  | .badE, _ => .bad
  | .sortK f a, st => (evE ρ a st).bind fun x st => match view st x with
    | .lst xs => (keysGo (fun x st => C f [x] st) xs st).bind fun ks st => .ok (.lst ((EvSK.psort (ks.zip xs)).map (·.2))) st
    | _ => .bad
  | .chain3 op op2 op3 a b c d, st => (evE ρ a st).bind fun x st => (evE ρ b st).bind fun y st =>
      match cmpD st op x y with
      | some true => (evE ρ c st).bind fun z st => (match cmpD st op2 y z with
        | some true => (evE ρ d st).bind fun w st => lift ((cmpD st op3 z w).map D.bl) st
        | some false => .ok (.bl false) st
        | none => .bad)
      | some false => .ok (.bl false) st
      | none => .bad
  | .dixg c i d, st => (evE ρ i st).bind fun x st => (evE ρ d st).bind fun y st => match x with
    | .str z => (match G.dics[c]? with
      | some p => .ok ((p.2.lookup z).getD y) st
      | none => .bad)
    | _ => .bad
  | .dget1 o k, st => (evE ρ o st).bind fun x st => if isDc st x = true then (evE ρ k st).bind fun y st => (match getO st x y with
    | some r => .ok (r.getD .non) st
    | none => .bad) else .bad
  | .dget2 o k d, st => (evE ρ o st).bind fun x st => if isDc st x = true then (evE ρ k st).bind fun y st => (evE ρ d st).bind fun z st => (match getO st x y with
    | some r => .ok (r.getD z) st
    | none => .bad) else .bad
  | .tix o v, st => (evE ρ o st).bind fun x st => match x with
    | .tk xs => (evE ρ v st).bind fun y st => (match y, toStrs xs with
      | .str z, some ss => (match ss.findIdx? fun w => decide (w = z) with
        | some j => .ok (.int (j : Nat)) st
        | none => .bad)
      | _, _ => .bad)
    | _ => .bad
  | .idx o i, st => (evE ρ o st).bind fun x st => (evE ρ i st).bind fun y st => lift (idxD st x y) st
  | .slc o lo hi, st => (evE ρ o st).bind fun x st => (evEs ρ lo st).bind fun l st => match optI l with
    | none => .bad
    | some l => (evEs ρ hi st).bind fun h st => match optI h with
      | none => .bad
      | some h => lift (slcD st x l h) st
  | .tupE as, st => (evEs ρ as st).bind fun ds st => .ok (.tup ds) st
  | .lstE as, st => (evEs ρ as st).bind fun ds st => .ok (.lst ds) st
  | .dicE ps, st => (evPs ρ ps st).noX.bind fun kvs st => .ok (.dk (kvs.foldl (fun a p => dput a p.1 p.2) [])) st
  | .dic0 t, st => .ok (if t then .dt [] else .dk []) st
  | .lc elt tg src test own, st => (evI ρ src st).bind fun xs st =>
      if xs.length ≤ SZ then
        (lcGo (fun x st => match srcRes src st x with
          | some x => (match asg (wipeD ρ own) tg x with
            | some ρ' => (evT ρ' test st).bind fun b st => if b = true then (evE ρ' elt st).bind fun d st => .ok (some d) st else .ok none st
            | none => .bad)
          | none => .bad) (srcIts src xs) st).bind fun ds st' => if srcEnd src xs st' = true then .ok (.lst ds) st' else .bad
      else .bad
  | .box a, st => (evE ρ a st).bind fun d st => if isC d = true then .ok (.ref st.length) (st ++ [d]) else .bad
  | .ite c a b, st => (evE ρ c st).bind fun x st => match x with
    | .bl true => evE ρ a st
    | .bl false => evE ρ b st
    | _ => .bad
  | .bits a, st => (evE ρ a st).bind fun x st => match x with
    | .int i => .ok (.int (Builtin.Int.intBits i : Nat)) st
    | _ => .bad
  | .sset a, st => (evE ρ a st).bind fun x st => match textsOf st x with
    | some ss => if (usort ss).length < 4095 then .ok (.lst ((usort ss).map .str)) st else .bad
    | none => (match intsOfL st x with
      | some ns => if (uisort ns).length < 4095 then .ok (.lst ((uisort ns).map .int)) st else .bad
      | none => .bad)
  | .dix c i, st => (evE ρ i st).bind fun x st => match x with
    | .str z => match G.dics[c]? with
      | some p => match p.2.lookup z with
        | some d => .ok d st
        | none => .bad
      | none => .bad
    | _ => .bad
  | .orV a b, st => (evE ρ a st).bind fun x st => match trD x with
    | some true => .ok x st
    | some false => evE ρ b st
    | none => .bad
  | .dc k v tg src test own, st => (evI ρ src st).bind fun xs st =>
      if xs.length ≤ SZ then
        (dcGo (fun x st => match srcRes src st x with
          | some x => (match asg (wipeD ρ own) tg x with
            | some ρ' => (evT ρ' test st).bind fun b st => if b = true then (evE ρ' k st).bind fun kd st => (evE ρ' v st).bind fun d st => (match keyD kd with
              | some key => .ok (some (key, d)) st
              | none => .bad) else .ok none st
            | none => .bad)
          | none => .bad) (srcIts src xs) [] st).noX.bind fun ds st' => if srcEnd src xs st' = true then .ok (.dk ds) st' else .bad
      else .bad
def evEs (ρ : Env) : Exs → Sto → Out (List D)
  | .nil, st => .ok [] st
  | .cons a r, st => (evE ρ a st).bind fun x st => (evEs ρ r st).bind fun xs st => .ok (x :: xs) st
def evPs (ρ : Env) : Prs → Sto → Out (List (Key × D))
  | .nil, st => .ok [] st
  | .cons k v r, st => (evE ρ k st).bind fun x st => (evE ρ v st).bind fun d st => match keyD x with
    | some key => (evPs ρ r st).bind fun ps st => .ok ((key, d) :: ps) st
    | none => .bad
/-- tests of a clause: none, or one -/
def evT (ρ : Env) : Exs → Sto → Out Bool
  | .nil, st => .ok true st
  | .cons a _, st => (evE ρ a st).bind fun x st => match x with
    | .bl b => .ok b st
    | _ => .bad
def evAnd (ρ : Env) : Exs → Sto → Out D
  | .nil, _ => .bad
  | .cons a .nil, st => evE ρ a st
  | .cons a r, st => (evE ρ a st).bind fun x st => match x with
    | .bl true => evAnd ρ r st
    | .bl false => .ok (.bl false) st
    | _ => .bad
def evOr (ρ : Env) : Exs → Sto → Out D
  | .nil, _ => .bad
  | .cons a .nil, st => evE ρ a st
  | .cons a r, st => (evE ρ a st).bind fun x st => match x with
    | .bl true => .ok (.bl true) st
    | .bl false => evOr ρ r st
    | _ => .bad
def evI (ρ : Env) : Src → Sto → Out (List D)
  | .rng1 a, st => (evE ρ a st).bind fun x st => match x with
    | .int n => if small62 n = true then .ok (rng 0 n) st else .bad
    | _ => .bad
  | .rng2 a b, st => (evE ρ a st).bind fun x st => (evE ρ b st).bind fun y st => match x, y with
    | .int i, .int j => if small62 i = true ∧ small62 j = true then .ok (rng i j) st else .bad
    | _, _ => .bad
  | .seq a, st => (evE ρ a st).bind fun x st => match x with
    | .lst xs => .ok xs st
    | .tup xs => .ok xs st
    | .fz xs => .ok xs st
    | .tk xs => .ok xs st
    | .str x => .ok (chars x) st
    | _ => .bad
  | .rev a, st => (evE ρ a st).bind fun x st => match x with
    | .lst xs => .ok xs.reverse st
    | .tup xs => .ok xs.reverse st
    | .fz xs => .ok xs.reverse st
    | .tk xs => .ok xs.reverse st
    | _ => .bad
  | .rng3 a b c, st => (evE ρ a st).bind fun x st => (evE ρ b st).bind fun y st => (evE ρ c st).bind fun z st => match x, y, z with
    | .int i, .int j, .int k => if 0 < k ∧ k < 1073741824 ∧ Builtin.Range.small i j k = true then .ok (rngS i k (Builtin.Range.rangeSize i j k).toNat) st else .bad
    | _, _, _ => .bad
  | .cel a, st => (evE ρ a st).bind fun x st => match x with
    | .ref n => (match st[n]? with
      | some (.lst ys) => .ok (.tup [.ref n, .int (ys.length : Nat)] :: celIt n ys.length) st
      | _ => .bad)
    | _ => .bad
  | .kys a, st => (evE ρ a st).bind fun x st => match keysL st x with
    | some ks => .ok ks st
    | none => .bad
end
end


/-! ### statements -/
inductive OutS where
  | next (ρ : Env) (st : Sto)
  | ret (d : D) (st : Sto)
  | brk (ρ : Env) (st : Sto)
  | cont (ρ : Env) (st : Sto)
  | exc (c : Nat) (fs : List (Nat × D)) (ρ : Env) (st : Sto)
  | bad
/-- an expression's outcome, then the rest of a statement -/
def Out.thenS {α : Type} (x : Out α) (ρ : Env) (f : α → Sto → OutS) : OutS :=
  match x with
  | .ok a st => f a st
  | .exc c fs st => .exc c fs ρ st
  | .bad => .bad
@[simp] theorem Out.thenS_ok {α : Type} {a : α} {st : Sto} {ρ : Env} {f : α → Sto → OutS} : (Out.ok a st).thenS ρ f = f a st := rfl
@[simp] theorem Out.thenS_bad {α : Type} {ρ : Env} {f : α → Sto → OutS} : (Out.bad : Out α).thenS ρ f = .bad := rfl
@[simp] theorem Out.thenS_exc {α : Type} {c : Nat} {fs : List (Nat × D)} {st : Sto} {ρ : Env} {f : α → Sto → OutS} : (Out.exc c fs st : Out α).thenS ρ f = .exc c fs ρ st := rfl
theorem Out.thenS_bind {α β : Type} {x : Out α} {f : α → Sto → Out β} {ρ : Env} {g : β → Sto → OutS} : (x.bind f).thenS ρ g = x.thenS ρ fun a s => (f a s).thenS ρ g := by
  cases x <;> rfl
/-- a block's rest -/
def OutS.seq (r : OutS) (f : Env → Sto → OutS) : OutS :=
  match r with
  | .next ρ st => f ρ st
  | r => r
@[simp] theorem OutS.seq_next {ρ : Env} {st : Sto} {f : Env → Sto → OutS} : (OutS.next ρ st).seq f = f ρ st := rfl
@[simp] theorem OutS.seq_ret {d : D} {st : Sto} {f : Env → Sto → OutS} : (OutS.ret d st).seq f = .ret d st := rfl
@[simp] theorem OutS.seq_brk {ρ : Env} {st : Sto} {f : Env → Sto → OutS} : (OutS.brk ρ st).seq f = .brk ρ st := rfl
@[simp] theorem OutS.seq_cont {ρ : Env} {st : Sto} {f : Env → Sto → OutS} : (OutS.cont ρ st).seq f = .cont ρ st := rfl
@[simp] theorem OutS.seq_exc {c : Nat} {fs : List (Nat × D)} {ρ : Env} {st : Sto} {f : Env → Sto → OutS} : (OutS.exc c fs ρ st).seq f = .exc c fs ρ st := rfl
@[simp] theorem OutS.seq_bad {f : Env → Sto → OutS} : (OutS.bad).seq f = .bad := rfl
/-- a loop's turn, then the further turns -/
def OutS.turn (r : OutS) (f : Env → Sto → OutS) : OutS :=
  match r with
  | .next ρ st => f ρ st
  | .cont ρ st => f ρ st
  | .brk ρ st => .next ρ st
  | r => r
@[simp] theorem OutS.turn_next {ρ : Env} {st : Sto} {f : Env → Sto → OutS} : (OutS.next ρ st).turn f = f ρ st := rfl
@[simp] theorem OutS.turn_ret {d : D} {st : Sto} {f : Env → Sto → OutS} : (OutS.ret d st).turn f = .ret d st := rfl
@[simp] theorem OutS.turn_brk {ρ : Env} {st : Sto} {f : Env → Sto → OutS} : (OutS.brk ρ st).turn f = .next ρ st := rfl
@[simp] theorem OutS.turn_cont {ρ : Env} {st : Sto} {f : Env → Sto → OutS} : (OutS.cont ρ st).turn f = f ρ st := rfl
@[simp] theorem OutS.turn_exc {c : Nat} {fs : List (Nat × D)} {ρ : Env} {st : Sto} {f : Env → Sto → OutS} : (OutS.exc c fs ρ st).turn f = .exc c fs ρ st := rfl
@[simp] theorem OutS.turn_bad {f : Env → Sto → OutS} : (OutS.bad).turn f = .bad := rfl
/-- behind a walk -/
def OutS.chk (r : OutS) (p : Sto → Bool) : OutS := match r with
  | .next ρ st => if p st = true then .next ρ st else .bad
  | r => r
/-- a walk over a dict ends -/
def OutS.unlk (r : OutS) (n : Nat) : OutS := match r with
  | .next ρ st => (match unlockS n st with
    | some st' => .next ρ st'
    | none => .bad)
  | .ret d st => (match unlockS n st with
    | some st' => .ret d st'
    | none => .bad)
  | .brk ρ st => (match unlockS n st with
    | some st' => .brk ρ st'
    | none => .bad)
  | .cont ρ st => (match unlockS n st with
    | some st' => .cont ρ st'
    | none => .bad)
  | _ => .bad
def forGo (b : D → Env → Sto → OutS) : List D → Env → Sto → OutS
  | [], ρ, st => .next ρ st
  | x :: xs, ρ, st => (b x ρ st).turn (forGo b xs)
def whlN (c : Env → Sto → Out D) (b : Env → Sto → OutS) : Nat → Env → Sto → Option OutS
  | 0, _, _ => none
  | n + 1, ρ, st => match c ρ st with
    | .ok (.bl true) st1 => match b ρ st1 with
      | .next ρ' st' => whlN c b n ρ' st'
      | .cont ρ' st' => whlN c b n ρ' st'
      | .brk ρ' st' => some (.next ρ' st')
      | r => some r
    | .ok (.bl false) st1 => some (.next ρ st1)
    | .exc x fs st1 => some (.exc x fs ρ st1)
    | _ => some .bad
open Classical in
noncomputable def whlE (c : Env → Sto → Out D) (b : Env → Sto → OutS) (ρ : Env) (st : Sto) : OutS :=
  if h : ∃ n r, whlN c b n ρ st = some r then Classical.choose (Classical.choose_spec h) else .bad
theorem whlN_mono {c : Env → Sto → Out D} {b : Env → Sto → OutS} : ∀ {n : Nat} {ρ : Env} {st : Sto} {r : OutS}, whlN c b n ρ st = some r → whlN c b (n + 1) ρ st = some r
  | 0, _, _, _, h => by cases h
  | n + 1, ρ, st, r, h => by
    unfold whlN at h ⊢
    split at h
    · split at h
      · exact whlN_mono h
      · exact whlN_mono h
      · exact h
      · exact h
    · exact h
    · exact h
    · exact h
theorem whlN_le {c : Env → Sto → Out D} {b : Env → Sto → OutS} {n k : Nat} (hk : n ≤ k) {ρ : Env} {st : Sto} {r : OutS} (h : whlN c b n ρ st = some r) : whlN c b k ρ st = some r := by
  induction hk with
  | refl => exact h
  | step _ ih => exact whlN_mono ih
theorem whlE_of {c : Env → Sto → Out D} {b : Env → Sto → OutS} {n : Nat} {ρ : Env} {st : Sto} {r : OutS} (h : whlN c b n ρ st = some r) : whlE c b ρ st = r := by
  have hx : ∃ n r, whlN c b n ρ st = some r := ⟨n, r, h⟩
  unfold whlE
  rw [dif_pos hx]
  have h2 := Classical.choose_spec (Classical.choose_spec hx)
  have h3 := whlN_le (Nat.le_max_left _ n) h2
  rw [whlN_le (Nat.le_max_right _ n) h] at h3
  exact (Option.some.inj h3).symm
theorem whlE_bad {c : Env → Sto → Out D} {b : Env → Sto → OutS} {ρ : Env} {st : Sto} (h : whlE c b ρ st ≠ .bad) : ∃ n, whlN c b n ρ st = some (whlE c b ρ st) := by
  by_cases hx : ∃ n r, whlN c b n ρ st = some r
  · obtain ⟨n, r, e⟩ := hx
    exact ⟨n, by rw [whlE_of e]; exact e⟩
  · unfold whlE at h
    rw [dif_neg hx] at h
    exact absurd rfl h

/-- o[i] = v -/
def putD (fl : Nat) (x i v : D) (st : Sto) : Option Sto :=
  match x with
  | .ref n => match st[n]? with
    | some (.lst xs) => match i with
      | .int j => match ixN xs.length j with
        | some k => if wrOk fl n v = true then some (st.set n (.lst (xs.set k v))) else none
        | none => none
      | _ => none
    | some (.dk kvs) => match keyD i with
      | some k => if kvs.length < SZ ∧ wrOk fl n v = true then some (st.set n (.dk (dput kvs k v))) else none
      | none => none
    | some (.dt kvs) => match i with
      | .tup ds => match keysD ds with
        | some k => if kvs.length < SZ ∧ wrOk fl n v = true then some (st.set n (.dt (dput kvs k v))) else none
        | none => none
      | _ => none
    | _ => none
  | _ => none

/-- an instance's attributes, one changed -/
def putS (f : Str) (v : D) : List (Str × D) → List (Str × D)
  | [] => [(f, v)]
  | p :: r => if p.1 = f then (p.1, v) :: r else p :: putS f v r
/-- o.f = v -/
def fldD (G : Prog) (fl : Nat) (x : D) (f : Str) (v : D) (st : Sto) : Option Sto :=
  match x with
  | .ref n => match st[n]? with
    | some (.ins c fs) => if fldB G c f = true ∧ fs.length < 1000 ∧ wrOk fl n v = true then some (st.set n (.ins c (putS f v fs))) else none
    | _ => none
  | _ => none
/-- several targets -/
def setTA (G : Prog) (fl : Nat) : List TA1 → List D → Env → Sto → Option (Env × Sto)
  | [], [], ρ, st => some (ρ, st)
  | .v i :: ts, d :: ds, ρ, st => setTA G fl ts ds (ρ.set i (some d)) st
  | .f o f :: ts, d :: ds, ρ, st => match ρ[o]? with
    | some (some x) => match fldD G fl x f d st with
      | some st' => setTA G fl ts ds ρ st'
      | none => none
    | _ => none
  | _, _, _, _ => none
/-- an except suite's expressions: c is the class of the error -/
def evU (G : Prog) (c : Nat) (fs : List (Nat × D)) (ρ : Env) : Su → Option D
  | .non => some .non
  | .bool b => some (.bl b)
  | .int i => some (.int i)
  | .str x => some (.str x)
  | .var i => match ρ[i]? with
    | some (some d) => some d
    | _ => none
  | .tup2 a b => match evU G c fs ρ a, evU G c fs ρ b with
    | some x, some y => some (.tup [x, y])
    | _, _ => none
  | .nt a => match evU G c fs ρ a with
    | some (.bl b) => some (.bl (!b))
    | _ => none
  | .andS a b => match evU G c fs ρ a with
    | some (.bl true) => evU G c fs ρ b
    | some (.bl false) => some (.bl false)
    | _ => none
  | .orS a b => match evU G c fs ρ a with
    | some (.bl true) => some (.bl true)
    | some (.bl false) => evU G c fs ρ b
    | _ => none
  | .isE c' => some (.bl (subB G c c'))
  | .ix => match fs with
    | [(0, d)] => some d
    | _ => none
def evSh (G : Prog) (c : Nat) (fs : List (Nat × D)) (ρ : Env) (st : Sto) : Sh → OutS
  | .ret e => match evU G c fs ρ e with
    | some d => .ret d st
    | none => .bad
  | .retN => .ret .non st
  | .setN i e => match evU G c fs ρ e with
    | some d => .next (ρ.set i (some d)) st
    | none => .bad
  | .raise _ => .bad
  | .badH => .bad
  | .ifR e a r => match evU G c fs ρ e with
    | some (.bl true) => (match evU G c fs ρ a with
      | some d => .ret d st
      | none => .bad)
    | some (.bl false) => evSh G c fs ρ st r
    | _ => .bad
/-- the error's name goes -/
def OutS.wipeN (r : OutS) (i : Nat) : OutS := match r with
  | .next ρ st => .next (ρ.set i none) st
  | r => r
def evH (G : Prog) : Hds → Nat → List (Nat × D) → Env → Sto → OutS
  | .nil, c, fs, ρ, st => .exc c fs ρ st
  | .cons c' n s r, c, fs, ρ, st => if subB G c c' = true then (match n with | some i => if i < ρ.length then (evSh G c fs (ρ.set i none) st s).wipeN i else .bad | none => evSh G c fs ρ st s) else evH G r c fs ρ st
section
variable (G : Prog) (C : Nat → List D → Sto → Out D) (fl : Nat)
mutual
noncomputable def evS : Sm → Env → Sto → OutS
  | .set i e, ρ, st => (evE G C fl ρ e st).thenS ρ fun d st => .next (ρ.set i (some d)) st
  | .sets is e, ρ, st => (evE G C fl ρ e st).thenS ρ fun d st => match asg ρ (.many is) d with
    | some ρ' => .next ρ' st
    | none => .bad
  | .put o i e, ρ, st => (evE G C fl ρ e st).thenS ρ fun v st => (evE G C fl ρ o st).thenS ρ fun x st => (evE G C fl ρ i st).thenS ρ fun y st => match putD fl x y v st with
    | some st' => .next ρ st'
    | none => .bad
  | .fld o f e, ρ, st => (evE G C fl ρ e st).thenS ρ fun v st => (evE G C fl ρ o st).thenS ρ fun x st => match fldD G fl x f v st with
    | some st' => .next ρ st'
    | none => .bad
  | .setA ts e, ρ, st => (evE G C fl ρ e st).thenS ρ fun d st => match d with
    | .tup ds => (match setTA G fl ts ds ρ st with
      | some q => .next q.1 q.2
      | none => .bad)
    | _ => .bad
  | .badS, _, _ => .bad
  | .tryB b, ρ, st => match evSs b ρ st with
    | .exc _ _ _ _ => .bad
    | r => r
  | .lock o s, ρ, st => if alreadyLk (evE G C fl ρ o st) st = true then evS s ρ st else match lockS (evE G C fl ρ o st) st with
    | some p => (evS s ρ p.2).unlk p.1
    | none => .bad
  | .expr e, ρ, st => (evE G C fl ρ e st).thenS ρ fun _ st => .next ρ st
  | .doc, ρ, st => .next ρ st
  | .ret e, ρ, st => (evE G C fl ρ e st).thenS ρ fun d st => .ret d st
  | .retN, _, st => .ret .non st
  | .ifS c a b, ρ, st => (evE G C fl ρ c st).thenS ρ fun x st => match x with
    | .bl true => evSs a ρ st
    | .bl false => evSs b ρ st
    | _ => .bad
  | .forS tg src b, ρ, st => (evI G C fl ρ src st).thenS ρ fun xs st => (forGo (fun x ρ st => match srcRes src st x with
    | some x => (match asg ρ tg x with
      | some ρ' => evSs b ρ' st
      | none => .bad)
    | none => .bad) (srcIts src xs) ρ st).chk (srcEnd src xs)
  | .whl c b, ρ, st => whlE (fun ρ st => evE G C fl ρ c st) (fun ρ st => evSs b ρ st) ρ st
  | .brk, ρ, st => .brk ρ st
  | .cont, ρ, st => .cont ρ st
  | .raise c _, ρ, st => .exc c [] ρ st
  | .raiseI c e, ρ, st => (evE G C fl ρ e st).thenS ρ fun d st => match d with
    | .int i => if small62 i = true then .exc c [(0, .int i)] ρ st else .bad
    | _ => .bad
  | .tryS b hs, ρ, st => match evSs b ρ st with
    | .exc c fs ρ' st' => evH G hs c fs ρ' st'
    | r => r
noncomputable def evSs : Sms → Env → Sto → OutS
  | .nil, ρ, st => .next ρ st
  | .cons a r, ρ, st => (evS a ρ st).seq fun ρ st => evSs r ρ st
end
end

/-- what a frame's cell becomes when it is left -/
def unbox1 (fl : Nat) (st : Sto) (d : D) : Option D :=
  match d with
  | .ref n => if n < fl then some (.ref n) else match st[n]? with
    | some c => if isC c = true ∧ c.lo 0 = true then some c else none
    | none => none
  | d => if d.lo 0 = true then some d else none
def unboxs (fl : Nat) (st : Sto) : List D → Option (List D)
  | [] => some []
  | d :: ds => match unbox1 fl st d, unboxs fl st ds with
    | some a, some as => some (a :: as)
    | _, _ => none
def unbox (fl : Nat) (st : Sto) (d : D) : Option D :=
  match d with
  | .ref n => if n < fl then some (.ref n) else match st[n]? with
    | some c => if isC c = true ∧ c.lo 0 = true then some c else none
    | none => none
  | d => if d.lo 0 = true then some d else match d with
    | .tup ds => (unboxs fl st ds).map .tup
    | _ => none
def fin (pop : Bool) (fl : Nat) (d : D) (st : Sto) : Out D :=
  if pop = true then match unbox fl st d with
    | some d' => .ok d' (st.take fl)
    | none => .bad
  else .ok d st
/-- a call of def f, at most k deep; fl: the caller's floor -/
noncomputable def run (G : Prog) : Nat → Nat → Nat → List D → Sto → Out D
  | 0, _, _, _, _ => .bad
  | k + 1, fl, f, ds, st => match G.fns[f]? with
    | none => .bad
    | some F =>
      if ds.length = F.np then
        match evSs G (run G k (if F.pop = true then st.length else fl)) (if F.pop = true then st.length else fl) F.body (ds.map some ++ List.replicate (F.N.length - F.np) none) st with
        | .ret d st' => fin F.pop st.length d st'
        | .next _ st' => fin F.pop st.length .non st'
        | .exc c fs _ st' => .exc c fs (if F.pop = true then st'.take st.length else st')
        | _ => .bad
      else .bad
end Ev

set_option Elab.async false
set_option linter.all false
set_option maxRecDepth 100000
/-! Ev, part 2: how data lies in the abstract heap. -/
namespace Ev
open PySem L2 PySem.Spec
open PyProof.Rows hiding St

/-- where the cells lie; what is hidden (being made) -/
structure Mp where
  c : List Addr
  h : List Addr
def Mp.live (m : Mp) (p : Addr) : Prop := p ∈ m.c ∨ p ∈ m.h
/-- a tuple of the written part -/
def KTup (K : PySem.W.Frag) (p : Addr) (vs : List V) : Prop :=
  ∃ (o : Obj) (its : Array Value) (n : Nat), K.lookup p = some o ∧ o.cls = .type "tuple" ∧ o.data = .seq its n ∧ its.size ≤ sizeLine ∧ Vals vs its.toList

/-- a list of the written part -/
def KLst (K : PySem.W.Frag) (p : Addr) (vs : List V) : Prop :=
  ∃ (o : Obj) (its : Array Value) (n : Nat), K.lookup p = some o ∧ o.cls = .type "list" ∧ o.dict = none ∧ o.data = .seq its n ∧ its.size ≤ sizeLine ∧ Vals vs its.toList

section
variable (K : PySem.W.Frag) (mg : Str → Option Value) (G : Prog) (m : Mp) (H : Hp)
mutual
inductive Rep : D → V → Prop
  | non : Rep .non .non
  | bl (b : Bool) : Rep (.bl b) (.bl b)
  | int (i : Int) : Rep (.int i) (.int i)
  | str {x : Str} : (x.cps.all fun c => decide (c < 0x110000)) = true → Rep (.str x) (.str x)
  | tup {p vs ds} : ¬ m.live p → H p = some (.tup vs) → Reps ds vs → Rep (.tup ds) (.ref p)
  | tk {p vs ds} : (KTup K p vs ∧ ∃ o, K.lookup p = some o ∧ o.cls = .type "tuple" ∧ o.dict = none) → Reps ds vs → Rep (.tk ds) (.ref p)
  | lst {p vs ds} : ¬ m.live p → H p = some (.lst vs) → Reps ds vs → Rep (.lst ds) (.ref p)
  | fz {p o vs ds} : ¬ m.live p → H p = some (.frz o (.lst vs)) → Reps ds vs → Rep (.fz ds) (.ref p)
  | fzK {p vs ds} : KLst K p vs → Reps ds vs → Rep (.fz ds) (.ref p)
  | dk {p kvs ds} : ¬ m.live p → H p = some (.dK kvs) → RepK ds kvs → Rep (.dk ds) (.ref p)
  | dt {p kvs ds} : ¬ m.live p → H p = some (.dT kvs) → RepT ds kvs → Rep (.dt ds) (.ref p)
  | ref {n p} : m.c[n]? = some p → Rep (.ref n) (.ref p)
  | fn {f F a} : G.fns[f]? = some F ∧ F.glob = true → mg F.name = some (.ref a) → Rep (.fn f) (.ref a)
  | ty (n : String) : Rep (.ty n) (.ty n)
inductive Reps : List D → List V → Prop
  | nil : Reps [] []
  | cons {d v ds vs} : Rep d v → Reps ds vs → Reps (d :: ds) (v :: vs)
inductive RepK : List (Key × D) → List (Key × V) → Prop
  | nil : RepK [] []
  | cons {k d v r r'} : Rep d v → RepK r r' → RepK ((k, d) :: r) ((k, v) :: r')
inductive RepT : List (List Key × D) → List (List Key × V) → Prop
  | nil : RepT [] []
  | cons {k d v r r'} : Rep d v → RepT r r' → RepT ((k, d) :: r) ((k, v) :: r')
end
end

/-- attributes -/
inductive RepF (K : PySem.W.Frag) (mg : Str → Option Value) (G : Prog) (m : Mp) (H : Hp) : List (Str × D) → List (Str × V) → Prop
  | nil : RepF K mg G m H [] []
  | cons {f d v r r'} : Rep K mg G m H d v → RepF K mg G m H r r' → RepF K mg G m H ((f, d) :: r) ((f, v) :: r')
/-- what a cell holds, and the object there -/
inductive CellR (K : PySem.W.Frag) (mg : Str → Option Value) (G : Prog) (m : Mp) (H : Hp) : D → HO → Prop
  | lst {ds vs} : Reps K mg G m H ds vs → CellR K mg G m H (.lst ds) (.lst vs)
  | dk {ds kvs} : RepK K mg G m H ds kvs → CellR K mg G m H (.dk ds) (.dK kvs)
  | dt {ds kvs} : RepT K mg G m H ds kvs → CellR K mg G m H (.dt ds) (.dT kvs)
  | ins {c p C dx fs vs} : G.clss[c]? = some p → mg p.1 = some (.ref C) → RepF K mg G m H fs vs → CellR K mg G m H (.ins c fs) (.ins C dx vs)
  | lkK {ds kvs od} : RepK K mg G m H ds kvs → CellR K mg G m H (.lk (.dk ds)) (.frz od (.dK kvs))
  | lkT {ds kvs od} : RepT K mg G m H ds kvs → CellR K mg G m H (.lk (.dt ds)) (.frz od (.dT kvs))

/-- what is frozen stays -/
def Fz (H H' : Hp) : Prop := ∀ b od u, H b = some (.frz od u) → H' b = some (.frz od u)
/-- from (m, H) to (m', H'): what is not a cell stays, no cell is lost, what is hidden is not touched -/
structure Ext (m : Mp) (H : Hp) (m' : Mp) (H' : Hp) : Prop where
  pre : ∀ (n : Nat) p, m.c[n]? = some p → m'.c[n]? = some p
  old : ∀ p o, H p = some o → ¬ m.live p → H' p = some o ∧ ¬ m'.live p
  hid : m'.h = m.h
  hkeep : ∀ p, p ∈ m.h → H' p = H p
  fz : Fz H H'

/-- what Rep leans on -/
structure Grow (m : Mp) (H : Hp) (m' : Mp) (H' : Hp) : Prop where
  pre : ∀ (n : Nat) p, m.c[n]? = some p → m'.c[n]? = some p
  old : ∀ p o, H p = some o → ¬ m.live p → H' p = some o ∧ ¬ m'.live p
theorem Ext.grow {m H m' H'} (x : Ext m H m' H') : Grow m H m' H' := ⟨x.pre, x.old⟩
theorem Grow.trans {m H m' H' m2 H2} (a : Grow m H m' H') (b : Grow m' H' m2 H2) : Grow m H m2 H2 :=
  ⟨fun n p e => b.pre n p (a.pre n p e), fun p o e n => let ⟨e1, n1⟩ := a.old p o e n; b.old p o e1 n1⟩

structure Rel (K : PySem.W.Frag) (mg : Str → Option Value) (G : Prog) (fls : List Nat) (st : Sto) (m : Mp) (H : Hp) : Prop where
  len : m.c.length = st.length
  nd : m.c.Nodup
  cell : ∀ (n : Nat) c p, st[n]? = some c → m.c[n]? = some p → ∃ o, H p = some o ∧ CellR K mg G m H c o
  hid : ∀ p, p ∈ m.h → p ∉ m.c ∧ ∃ o, H p = some o
  clean : ∀ f ∈ fls, ∀ (n : Nat) c, n < f → st[n]? = some c → c.lo f = true
  fle : ∀ f ∈ fls, f ≤ st.length
  hnt : ∀ p, p ∈ m.h → ∀ vs, H p ≠ some (.tup vs)

def EnvR (K : PySem.W.Frag) (mg : Str → Option Value) (G : Prog) (m : Mp) (H : Hp) (ρ : Env) (σ : St) : Prop :=
  ρ.length = σ.length ∧ ∀ (i : Nat) d, ρ[i]? = some (some d) → ∃ v, σ[i]? = some (some v) ∧ Rep K mg G m H d v

section
variable {K : PySem.W.Frag} {mg : Str → Option Value} {G : Prog} {m m' m2 : Mp} {H H' H2 : Hp}

theorem Ext.refl : Ext m H m H := ⟨fun _ _ e => e, fun _ _ e n => ⟨e, n⟩, rfl, fun _ _ => rfl, fun _ _ _ e => e⟩
theorem Ext.trans (a : Ext m H m' H') (b : Ext m' H' m2 H2) : Ext m H m2 H2 :=
  ⟨fun n p e => b.pre n p (a.pre n p e), fun p o e n => let ⟨e1, n1⟩ := a.old p o e n; b.old p o e1 n1, b.hid.trans a.hid, fun p hp => (b.hkeep p (by rw [a.hid]; exact hp)).trans (a.hkeep p hp), fun q od u e => b.fz q od u (a.fz q od u e)⟩

mutual
theorem Rep.gr (x : Grow m H m' H') : ∀ {d : D} {v : V}, Rep K mg G m H d v → Rep K mg G m' H' d v
  | _, _, .non => .non
  | _, _, .bl b => .bl b
  | _, _, .int i => .int i
  | _, _, .str h => .str h
  | _, _, .tup n e r => .tup (x.old _ _ e n).2 (x.old _ _ e n).1 (Reps.gr x r)
  | _, _, .tk e r => .tk e (Reps.gr x r)
  | _, _, .lst n e r => .lst (x.old _ _ e n).2 (x.old _ _ e n).1 (Reps.gr x r)
  | _, _, .fz n e r => .fz (x.old _ _ e n).2 (x.old _ _ e n).1 (Reps.gr x r)
  | _, _, .fzK e r => .fzK e (Reps.gr x r)
  | _, _, .dk n e r => .dk (x.old _ _ e n).2 (x.old _ _ e n).1 (RepK.gr x r)
  | _, _, .dt n e r => .dt (x.old _ _ e n).2 (x.old _ _ e n).1 (RepT.gr x r)
  | _, _, .ref e => .ref (x.pre _ _ e)
  | _, _, .fn e q => .fn e q
  | _, _, .ty n => .ty n
theorem Reps.gr (x : Grow m H m' H') : ∀ {d : List D} {v : List V}, Reps K mg G m H d v → Reps K mg G m' H' d v
  | _, _, .nil => .nil
  | _, _, .cons r t => .cons (Rep.gr x r) (Reps.gr x t)
theorem RepK.gr (x : Grow m H m' H') : ∀ {d : List (Key × D)} {v : List (Key × V)}, RepK K mg G m H d v → RepK K mg G m' H' d v
  | _, _, .nil => .nil
  | _, _, .cons r t => .cons (Rep.gr x r) (RepK.gr x t)
theorem RepT.gr (x : Grow m H m' H') : ∀ {d : List (List Key × D)} {v : List (List Key × V)}, RepT K mg G m H d v → RepT K mg G m' H' d v
  | _, _, .nil => .nil
  | _, _, .cons r t => .cons (Rep.gr x r) (RepT.gr x t)
end
theorem RepF.gr (x : Grow m H m' H') : ∀ {d : List (Str × D)} {v : List (Str × V)}, RepF K mg G m H d v → RepF K mg G m' H' d v
  | _, _, .nil => .nil
  | _, _, .cons r t => .cons (Rep.gr x r) (RepF.gr x t)
theorem CellR.gr (x : Grow m H m' H') {d : D} {o : HO} (r : CellR K mg G m H d o) : CellR K mg G m' H' d o := by
  cases r with
  | lst r => exact .lst (r.gr x)
  | dk r => exact .dk (r.gr x)
  | dt r => exact .dt (r.gr x)
  | ins a b r => exact .ins a b (r.gr x)
  | lkK r => exact .lkK (r.gr x)
  | lkT r => exact .lkT (r.gr x)
theorem EnvR.gr {ρ : Env} {σ : St} (x : Grow m H m' H') (r : EnvR K mg G m H ρ σ) : EnvR K mg G m' H' ρ σ :=
  ⟨r.1, fun i d e => let ⟨v, h, q⟩ := r.2 i d e; ⟨v, h, q.gr x⟩⟩

theorem Rep.ext (x : Ext m H m' H') {d : D} {v : V} (r : Rep K mg G m H d v) : Rep K mg G m' H' d v := r.gr x.grow
theorem Reps.ext (x : Ext m H m' H') {d : List D} {v : List V} (r : Reps K mg G m H d v) : Reps K mg G m' H' d v := r.gr x.grow
theorem RepK.ext (x : Ext m H m' H') {d : List (Key × D)} {v : List (Key × V)} (r : RepK K mg G m H d v) : RepK K mg G m' H' d v := r.gr x.grow
theorem RepT.ext (x : Ext m H m' H') {d : List (List Key × D)} {v : List (List Key × V)} (r : RepT K mg G m H d v) : RepT K mg G m' H' d v := r.gr x.grow
theorem CellR.ext (x : Ext m H m' H') {d : D} {o : HO} (r : CellR K mg G m H d o) : CellR K mg G m' H' d o := r.gr x.grow
theorem EnvR.ext {ρ : Env} {σ : St} (x : Ext m H m' H') (r : EnvR K mg G m H ρ σ) : EnvR K mg G m' H' ρ σ := r.gr x.grow

theorem Reps.length {ds : List D} {vs : List V} (r : Reps K mg G m H ds vs) : ds.length = vs.length := by
  induction ds generalizing vs with
  | nil => cases r; rfl
  | cons d ds ih => cases r with | cons _ t => simp [ih t]
theorem Reps.get {ds : List D} {vs : List V} (r : Reps K mg G m H ds vs) {i : Nat} {d : D} (e : ds[i]? = some d) : ∃ v, vs[i]? = some v ∧ Rep K mg G m H d v := by
  induction ds generalizing vs i with
  | nil => simp at e
  | cons d0 ds ih =>
    cases r with
    | cons a t =>
      cases i with
      | zero => simp at e; subst e; exact ⟨_, rfl, a⟩
      | succ i => simpa using ih t (by simpa using e)
theorem Reps.get' {ds : List D} {vs : List V} (r : Reps K mg G m H ds vs) {i : Nat} {v : V} (e : vs[i]? = some v) : ∃ d, ds[i]? = some d ∧ Rep K mg G m H d v := by
  induction ds generalizing vs i with
  | nil => cases r; simp at e
  | cons d0 ds ih =>
    cases r with
    | cons a t =>
      cases i with
      | zero => simp at e; subst e; exact ⟨_, rfl, a⟩
      | succ i => simpa using ih t (by simpa using e)
theorem Reps.app {ds ds' : List D} {vs vs' : List V} (r : Reps K mg G m H ds vs) (r' : Reps K mg G m H ds' vs') : Reps K mg G m H (ds ++ ds') (vs ++ vs') := by
  induction ds generalizing vs with
  | nil => cases r; exact r'
  | cons d ds ih => cases r with | cons a t => exact .cons a (ih t)
theorem Reps.take {ds : List D} {vs : List V} (r : Reps K mg G m H ds vs) : ∀ n : Nat, Reps K mg G m H (ds.take n) (vs.take n) := by
  induction ds generalizing vs with
  | nil => cases r; intro n; simp; exact .nil
  | cons d ds ih =>
    cases r with
    | cons a t =>
      intro n
      cases n with
      | zero => exact .nil
      | succ n => exact .cons a (ih t n)
theorem Reps.drop {ds : List D} {vs : List V} (r : Reps K mg G m H ds vs) : ∀ n : Nat, Reps K mg G m H (ds.drop n) (vs.drop n) := by
  induction ds generalizing vs with
  | nil => cases r; intro n; simp; exact .nil
  | cons d ds ih =>
    cases r with
    | cons a t =>
      intro n
      cases n with
      | zero => exact .cons a t
      | succ n => exact ih t n
theorem Reps.set {ds : List D} {vs : List V} (r : Reps K mg G m H ds vs) {d : D} {v : V} (q : Rep K mg G m H d v) : ∀ n : Nat, Reps K mg G m H (ds.set n d) (vs.set n v) := by
  induction ds generalizing vs with
  | nil => cases r; intro n; simp; exact .nil
  | cons d0 ds ih =>
    cases r with
    | cons a t =>
      intro n
      cases n with
      | zero => exact .cons q t
      | succ n => exact .cons a (ih t n)
theorem Reps.rep {ds : List D} {vs : List V} (r : Reps K mg G m H ds vs) : ∀ n : Nat, Reps K mg G m H (List.replicate n ds).flatten (List.replicate n vs).flatten
  | 0 => .nil
  | n + 1 => by
    simp only [List.replicate_succ, List.flatten_cons]
    exact r.app (Reps.rep r n)
theorem Reps.ints : ∀ (ns : List Int), Reps K mg G m H (ns.map D.int) (ns.map V.int)
  | [] => .nil
  | n :: r => .cons (.int n) (Reps.ints r)

/-- a cell's address is tracked -/
theorem Rel.at {fls st} (R : Rel K mg G fls st m H) {p : Addr} (h : p ∈ m.c) : ∃ (n : Nat) (c : D) (o : HO), st[n]? = some c ∧ m.c[n]? = some p ∧ H p = some o ∧ CellR K mg G m H c o := by
  obtain ⟨n, hn, e⟩ := List.getElem_of_mem h
  have hn' : n < st.length := by rw [← R.len]; exact hn
  have e1 : m.c[n]? = some p := by rw [List.getElem?_eq_getElem hn, e]
  obtain ⟨o, a, b⟩ := R.cell n _ p (List.getElem?_eq_getElem hn') e1
  exact ⟨n, _, o, List.getElem?_eq_getElem hn', e1, a, b⟩
theorem Rel.notin {fls st} (R : Rel K mg G fls st m H) {p : Addr} (h : H p = none) : ¬ m.live p := fun q => by
  rcases q with q | q
  · obtain ⟨_, _, o, _, _, e, _⟩ := R.at q
    rw [h] at e; cases e
  · obtain ⟨_, o, e⟩ := R.hid p q
    rw [h] at e; cases e
/-- a new object beside the cells -/
theorem Ext.new {fls st} (R : Rel K mg G fls st m H) {p : Addr} (o : HO) (h : H p = none) : Ext m H m (upd H p o) :=
  ⟨fun _ _ e => e, fun q u e n => ⟨by rw [upd_ne (ne_of_none e h)]; exact e, n⟩, rfl, fun q hq => by
    obtain ⟨_, u, e⟩ := R.hid q hq
    rw [upd_ne (ne_of_none e h)], fun b od u e => by rw [upd_ne (ne_of_none e h)]; exact e⟩
theorem Rel.new {fls st} (R : Rel K mg G fls st m H) {p : Addr} (o : HO) (h : H p = none) : Rel K mg G fls st m (upd H p o) :=
  ⟨R.len, R.nd, fun n c q e1 e2 => by
    obtain ⟨u, a, b⟩ := R.cell n c q e1 e2
    exact ⟨u, by rw [upd_ne (ne_of_none a h)]; exact a, b.ext (Ext.new R o h)⟩, fun q hq => by
    obtain ⟨a, u, e⟩ := R.hid q hq
    exact ⟨a, u, by rw [upd_ne (ne_of_none e h)]; exact e⟩, R.clean, R.fle, fun q hq vs => by
    obtain ⟨a, u, e⟩ := R.hid q hq
    rw [upd_ne (ne_of_none e h)]
    exact R.hnt q hq vs⟩

/-! ### what is behind an operation -/
/-- Q holds of each value that is d, behind a growth -/
def QV (K : PySem.W.Frag) (mg : Str → Option Value) (G : Prog) (fls : List Nat) (st : Sto) (m : Mp) (H : Hp) (d : D) (Q : VK) : Prop :=
  ∀ v m' H', Ext m H m' H' → Rel K mg G fls st m' H' → Rep K mg G m' H' d v → Q v H'
/-- Q holds of each new object that holds d, which nothing else knows -/
def QF (K : PySem.W.Frag) (mg : Str → Option Value) (G : Prog) (fls : List Nat) (st : Sto) (m : Mp) (H : Hp) (d : D) (Q : VK) : Prop :=
  ∀ p o m' Hm, Ext m H m' Hm → Rel K mg G fls st m' Hm → Hm p = none → CellR K mg G m' Hm d o → isC d = true → Q (.ref p) (upd Hm p o)
theorem QV.fresh {fls st d Q} (q : QV K mg G fls st m H d Q) : QF K mg G fls st m H d Q := fun p o m' Hm x R n c hc => by
  have x2 := Ext.new R o n
  refine q (.ref p) m' _ (x.trans x2) (R.new o n) ?_
  have hp : ¬ m'.live p := R.notin n
  cases c with
  | lst r => exact .lst hp upd_same (r.ext x2)
  | dk r => exact .dk hp upd_same (r.ext x2)
  | dt r => exact .dt hp upd_same (r.ext x2)
  | ins a b r => cases hc
  | lkK r => cases hc
  | lkT r => cases hc
theorem QV.here {fls st d Q} {v : V} (q : QV K mg G fls st m H d Q) (R : Rel K mg G fls st m H) (r : Rep K mg G m H d v) : Q v H := q v m H Ext.refl R r
theorem QV.tup {fls st Q} {ds : List D} {vs : List V} (q : QV K mg G fls st m H (.tup ds) Q) (R : Rel K mg G fls st m H) (r : Reps K mg G m H ds vs) {p : Addr} (n : H p = none) : Q (.ref p) (upd H p (.tup vs)) := by
  have x := Ext.new R (.tup vs) n
  exact q _ m _ x (R.new _ n) (.tup (R.notin n) upd_same (r.ext x))
theorem QF.lst {fls st Q} {ds : List D} {vs : List V} (q : QF K mg G fls st m H (.lst ds) Q) (R : Rel K mg G fls st m H) (r : Reps K mg G m H ds vs) {p : Addr} (n : H p = none) : Q (.ref p) (upd H p (.lst vs)) :=
  q p _ m H Ext.refl R n (.lst r) rfl

/-- a list, frozen or a cell's, as it is tracked -/
theorem Rel.lst {fls st} (R : Rel K mg G fls st m H) {d : D} {v : V} {ds : List D} (r : Rep K mg G m H d v) (e : view st d = .lst ds) : ∃ p vs, v = .ref p ∧ H p = some (.lst vs) ∧ Reps K mg G m H ds vs := by
  cases r with
  | lst n h r => simp [view] at e; subst e; exact ⟨_, _, rfl, h, r⟩
  | @ref n p h =>
    have hn : n < st.length := by rw [← R.len]; exact (List.getElem?_eq_some_iff.mp h).1
    obtain ⟨o, a, b⟩ := R.cell n _ p (List.getElem?_eq_getElem hn) h
    simp [view, hn] at e
    rw [e] at b
    cases b with
    | lst r => exact ⟨p, _, rfl, a, r⟩
  | _ => simp [view] at e
theorem Rel.tup {fls st} (R : Rel K mg G fls st m H) {d : D} {v : V} {ds : List D} (r : Rep K mg G m H d v) (e : view st d = .tup ds) : ∃ p vs, v = .ref p ∧ H p = some (.tup vs) ∧ Reps K mg G m H ds vs := by
  cases r with
  | tup n h r => simp [view] at e; subst e; exact ⟨_, _, rfl, h, r⟩
  | @ref n p h =>
    have hn : n < st.length := by rw [← R.len]; exact (List.getElem?_eq_some_iff.mp h).1
    obtain ⟨o, a, b⟩ := R.cell n _ p (List.getElem?_eq_getElem hn) h
    simp [view, hn] at e
    rw [e] at b
    cases b
  | _ => simp [view] at e
theorem Rel.tk {fls st} (R : Rel K mg G fls st m H) {d : D} {v : V} {ds : List D} (r : Rep K mg G m H d v) (e : view st d = .tk ds) : ∃ p vs, v = .ref p ∧ SqT K H p vs ∧ Reps K mg G m H ds vs := by
  cases r with
  | tk h r => simp [view] at e; subst e; exact ⟨_, _, rfl, .inr h.1, r⟩
  | @ref n p h =>
    have hn : n < st.length := by rw [← R.len]; exact (List.getElem?_eq_some_iff.mp h).1
    obtain ⟨o, a, b⟩ := R.cell n _ p (List.getElem?_eq_getElem hn) h
    simp [view, hn] at e
    rw [e] at b
    cases b
  | _ => simp [view] at e
/-- a tuple stands for itself -/
theorem Rel.tupS {fls st} (R : Rel K mg G fls st m H) {d : D} {v : V} {ds : List D} (r : Rep K mg G m H d v) (e : view st d = .tup ds) : d = .tup ds := by
  cases r with
  | tup n h r => simpa [view] using e
  | @ref n p h =>
    have hn : n < st.length := by rw [← R.len]; exact (List.getElem?_eq_some_iff.mp h).1
    obtain ⟨o, a, b⟩ := R.cell n _ p (List.getElem?_eq_getElem hn) h
    simp [view, hn] at e
    rw [e] at b
    cases b
  | _ => simp [view] at e
theorem Rel.dk {fls st} (R : Rel K mg G fls st m H) {d : D} {v : V} {ds : List (Key × D)} (r : Rep K mg G m H d v) (e : view st d = .dk ds) : ∃ p kvs, v = .ref p ∧ H p = some (.dK kvs) ∧ RepK K mg G m H ds kvs := by
  cases r with
  | dk n h r => simp [view] at e; subst e; exact ⟨_, _, rfl, h, r⟩
  | @ref n p h =>
    have hn : n < st.length := by rw [← R.len]; exact (List.getElem?_eq_some_iff.mp h).1
    obtain ⟨o, a, b⟩ := R.cell n _ p (List.getElem?_eq_getElem hn) h
    simp [view, hn] at e
    rw [e] at b
    cases b with
    | dk r => exact ⟨p, _, rfl, a, r⟩
  | _ => simp [view] at e
theorem Rel.dt {fls st} (R : Rel K mg G fls st m H) {d : D} {v : V} {ds : List (List Key × D)} (r : Rep K mg G m H d v) (e : view st d = .dt ds) : ∃ p kvs, v = .ref p ∧ H p = some (.dT kvs) ∧ RepT K mg G m H ds kvs := by
  cases r with
  | dt n h r => simp [view] at e; subst e; exact ⟨_, _, rfl, h, r⟩
  | @ref n p h =>
    have hn : n < st.length := by rw [← R.len]; exact (List.getElem?_eq_some_iff.mp h).1
    obtain ⟨o, a, b⟩ := R.cell n _ p (List.getElem?_eq_getElem hn) h
    simp [view, hn] at e
    rw [e] at b
    cases b with
    | dt r => exact ⟨p, _, rfl, a, r⟩
  | _ => simp [view] at e
/-- a dict that is walked -/
theorem Rel.lkdk {fls st} (R : Rel K mg G fls st m H) {d : D} {v : V} {ds : List (Key × D)} (r : Rep K mg G m H d v) (e : view st d = .lk (.dk ds)) : ∃ p kvs, v = .ref p ∧ Rd H p (.dK kvs) ∧ RepK K mg G m H ds kvs := by
  cases r with
  | @ref n p h =>
    have hn : n < st.length := by rw [← R.len]; exact (List.getElem?_eq_some_iff.mp h).1
    obtain ⟨o, a, b⟩ := R.cell n _ p (List.getElem?_eq_getElem hn) h
    simp [view, hn] at e
    rw [e] at b
    cases b with
    | lkK r => exact ⟨p, _, rfl, .inr ⟨_, a⟩, r⟩
  | _ => simp [view] at e
theorem Rel.lkdt {fls st} (R : Rel K mg G fls st m H) {d : D} {v : V} {ds : List (List Key × D)} (r : Rep K mg G m H d v) (e : view st d = .lk (.dt ds)) : ∃ p kvs, v = .ref p ∧ Rd H p (.dT kvs) ∧ RepT K mg G m H ds kvs := by
  cases r with
  | @ref n p h =>
    have hn : n < st.length := by rw [← R.len]; exact (List.getElem?_eq_some_iff.mp h).1
    obtain ⟨o, a, b⟩ := R.cell n _ p (List.getElem?_eq_getElem hn) h
    simp [view, hn] at e
    rw [e] at b
    cases b with
    | lkT r => exact ⟨p, _, rfl, .inr ⟨_, a⟩, r⟩
  | _ => simp [view] at e
theorem Rel.fz {fls st} (R : Rel K mg G fls st m H) {d : D} {v : V} {ds : List D} (r : Rep K mg G m H d v) (e : view st d = .fz ds) : ∃ p vs, v = .ref p ∧ SqL K H p vs ∧ Reps K mg G m H ds vs := by
  cases r with
  | fz n h r => simp [view] at e; subst e; exact ⟨_, _, rfl, .inl (.inr ⟨_, h⟩), r⟩
  | fzK h r => simp [view] at e; subst e; exact ⟨_, _, rfl, .inr h, r⟩
  | @ref n p h =>
    have hn : n < st.length := by rw [← R.len]; exact (List.getElem?_eq_some_iff.mp h).1
    obtain ⟨o, a, b⟩ := R.cell n _ p (List.getElem?_eq_getElem hn) h
    simp [view, hn] at e
    rw [e] at b
    cases b
  | _ => simp [view] at e
/-- ints, bools, texts: not in cells -/
theorem Rel.int {fls st} (R : Rel K mg G fls st m H) {d : D} {v : V} {i : Int} (r : Rep K mg G m H d v) (e : view st d = .int i) : v = .int i ∧ d = .int i := by
  cases r with
  | int j => simp [view] at e; subst e; exact ⟨rfl, rfl⟩
  | @ref n p h =>
    have hn : n < st.length := by rw [← R.len]; exact (List.getElem?_eq_some_iff.mp h).1
    obtain ⟨o, a, b⟩ := R.cell n _ p (List.getElem?_eq_getElem hn) h
    simp [view, hn] at e
    rw [e] at b
    cases b
  | _ => simp [view] at e
theorem Rel.str {fls st} (R : Rel K mg G fls st m H) {d : D} {v : V} {i : Str} (r : Rep K mg G m H d v) (e : view st d = .str i) : v = .str i ∧ d = .str i ∧ (i.cps.all fun c => decide (c < 0x110000)) = true := by
  cases r with
  | str j => simp [view] at e; subst e; exact ⟨rfl, rfl, j⟩
  | @ref n p h =>
    have hn : n < st.length := by rw [← R.len]; exact (List.getElem?_eq_some_iff.mp h).1
    obtain ⟨o, a, b⟩ := R.cell n _ p (List.getElem?_eq_getElem hn) h
    simp [view, hn] at e
    rw [e] at b
    cases b
  | _ => simp [view] at e
end
end Ev

set_option Elab.async false
set_option linter.all false
set_option maxRecDepth 100000
set_option maxHeartbeats 4000000
namespace Ev
open PySem L2 PySem.Spec
open PyProof.Rows hiding St
/-- t * 1 is t -/
theorem tuple_mul1 (l : Addr) (items : Array Value) (n : Nat) (sl : Array (Option Value)) (dd : Option Addr) (u : Tok) :
    Meets (Builtin.«tuple.__mul__» ⟨[.ref l, .int 1 u], []⟩) (fun _ R s => s.heap.get? l = some { cls := .type "tuple", dict := dd, data := .seq items n, slots := sl } ∧
      R (.ok (.ret (Value.ref l))) s) :=
  .of_wp fun prog w A R s h => by
    obtain ⟨hp, g, d, tk, os⟩ := s
    obtain ⟨hl, h⟩ := h
    have f1 := AutoSeq1.idx_int
    wp_walk using wpAny_loadPart' hl
    repeat (first
      | (refine wpAny_ite_false (decide_eq_false (by decide)) ?_; wp_walk using wpAny_loadPart' hl)
      | (refine wpAny_ite_true (decide_eq_true (by simp)) ?_; wp_walk using wpAny_loadPart' hl))
    exact ⟨_, rfl, h⟩
end Ev

set_option Elab.async false
set_option linter.all false
set_option maxRecDepth 100000
set_option maxHeartbeats 4000000
/-! Ev, part 3: operators, comparisons, subscripts, built-ins: by values. -/
namespace Ev
open PySem L2 PySem.Spec
open PyProof.Rows hiding St

abbrev StrOk (x : Str) : Prop := (x.cps.all fun c => decide (c < 0x110000)) = true
theorem str_app {x y : Str} (a : StrOk x) (b : StrOk y) : StrOk (x ++ y) := by
  show ((x.cps ++ y.cps).all _) = true
  rw [Array.all_append, a, b]; rfl
theorem SZ_eq : SZ = sizeLine := by rw [sizeLine_eq]; rfl

def QD (K : PySem.W.Frag) (mg : Str → Option Value) (G : Prog) (fls : List Nat) (st : Sto) (m : Mp) (H : Hp) (d : D) (Q : VK) : Prop :=
  match d with
  | .lst _ => QF K mg G fls st m H d Q
  | .dk _ => QF K mg G fls st m H d Q
  | .dt _ => QF K mg G fls st m H d Q
  | _ => QV K mg G fls st m H d Q
section
variable {K : PySem.W.Frag} {mg : Str → Option Value} {G : Prog} {fls : List Nat} {st : Sto} {m : Mp} {H : Hp} {Q : VK} {d : D}
theorem QV.qd (q : QV K mg G fls st m H d Q) : QD K mg G fls st m H d Q := by
  cases d <;> first | exact q.fresh | exact q
end

/-- t * k, also once -/
def rRep1 (K : PySem.W.Frag) : R2 := fun x y H Q => ∃ l k xs, x = .ref l ∧ y = .int k ∧ SqT K H l xs ∧ xs ≠ [] ∧ 1 ≤ k ∧ k ≤ 1000 ∧ xs.length ≤ 1000 ∧ (k = 1 → Q (.ref l) H) ∧ ∀ p, H p = none → Q (.ref p) (upd H p (.tup (List.replicate k.toNat xs).flatten))
theorem op_rep1 {X : Cx} : OpR X (binaryOp .Mult) (rRep1 X.K) := by
  intro pins s σ H x y v u Q I rx ry h
  obtain ⟨l, k, xs, rfl, rfl, hT, hne, h1, h2, hz, q1, q⟩ := h
  by_cases hk : k = 1
  · subst hk
    cases rx
    obtain ⟨t, rfl⟩ := ry
    obtain ⟨its, r, ⟨⟨cls, dd, data, sl⟩, ho, hc, n, hd⟩, hs⟩ := I.tuple hT
    simp only at hc hd
    subst hc hd
    refine wpAny_binaryOp_repeat_ref (T := "tuple") (U := "int") (by decide) ⟨_, ho, rfl⟩ (fun s' => typeIs_int s' 1 t) noFill_tuple_mul F.fills_int_mul F.slot_int_rmul repeat_tuple F.slot_int_index.lookup
      (call_meets F.slot_int_rmul (typeIs_int s 1 t) F.entry_int_rmul (F.args_int_rmul_2 _ _) (int_rmul_tuple 1 t l its.toArray n dd sl)
        ⟨ho, rfl, ⟨_, ho, rfl⟩, call_meets F.slot_tuple_mul ⟨_, ho, rfl⟩ F.entry_tuple_mul (F.args_tuple_mul_2 _ _) (tuple_mul1 l its.toArray n sl dd t) ⟨ho, ?_⟩⟩)
    exact ⟨.ref l, H, I, rfl, q1 rfl⟩
  · exact op_repT pins s σ H _ _ v u Q I rx ry ⟨l, k, xs, rfl, rfl, hT, hne, by omega, h2, hz, q⟩

/-- x * k for a text -/
def rRepS : R2 := fun x y H Q => ∃ z k, x = .str z ∧ y = .int k ∧ 2 ≤ k ∧ k ≤ 1000 ∧ 1 ≤ z.length ∧ z.length ≤ 1000 ∧ Q (.str (repS z k.toNat)) H
theorem foldl_app (x : Array Nat) : ∀ (n : Nat) (a : Array Nat), ((List.replicate n x).foldl (· ++ ·) a).size = a.size + n * x.size
  | 0, a => by simp
  | n + 1, a => by
    rw [List.replicate_succ, List.foldl_cons, foldl_app x n, Array.size_append, Nat.add_mul]
    omega
theorem repS_len (x : Str) (n : Nat) : (repS x n).length = n * x.length := by
  show ((List.replicate n x.cps).foldl (· ++ ·) #[]).size = _
  rw [foldl_app]
  show 0 + _ = _
  rw [Nat.zero_add]; rfl
theorem op_repS {X : Cx} : OpR X (binaryOp .Mult) rRepS := by
  intro pins s σ H x y v u Q I rx ry h
  obtain ⟨z, k, rfl, rfl, h1, h2, h3, h4, q⟩ := h
  obtain ⟨t, rfl⟩ := rx
  obtain ⟨t', rfl⟩ := ry
  have e1 : (k == 1) = false := by rw [beq_eq_false_iff_ne]; omega
  have e2 : (z.length == 0) = false := by rw [beq_eq_false_iff_ne]; omega
  have hk : z.length * k.toNat ≤ 1000000 := by
    have : k.toNat ≤ 1000 := by omega
    exact Nat.le_trans (Nat.mul_le_mul h4 this) (by decide)
  refine PySem.P.mul_str (by
      have a1 : ¬ k < -(2 ^ 63 : Int) := by omega
      have a2 : ¬ k ≥ (2 ^ 63 : Int) := by omega
      rw [decide_eq_false a1, decide_eq_false a2]; rfl) (fun _ _ => ?_) (fun _ _ => ?_) ?_
  · have : (1000 : Int) ≤ (2 ^ 63 - 1) / k := by
      apply (Int.le_ediv_iff_mul_le (by omega)).mpr
      have : (2 : Int) ^ 63 = 9223372036854775808 := by decide
      omega
    omega
  · have hsz : sizeLine = 16777216 := by rw [sizeLine_eq]
    show decide _ = false
    apply decide_eq_false
    omega
  · rw [if_neg (by omega), e1, e2, Bool.or_self]
    simp only [Bool.false_eq_true, if_false]
    refine ⟨?_, .str (repS z k.toNat), H, I.tok _, ⟨_, rfl⟩, q⟩
    have := repS_len z k.toNat
    have hsz : sizeLine = 16777216 := by rw [sizeLine_eq]
    show (repS z k.toNat).length ≤ sizeLine
    rw [this, Nat.mul_comm]
    omega
theorem str_rep {x : Str} (h : StrOk x) {n : Nat} : StrOk (repS x n) := by
  have go : ∀ (n : Nat) (a : Array Nat), (a.all fun c => decide (c < 0x110000)) = true → (((List.replicate n x.cps).foldl (· ++ ·) a).all fun c => decide (c < 0x110000)) = true := by
    intro n
    induction n with
    | zero => intro a ha; exact ha
    | succ n ih =>
      intro a ha
      rw [List.replicate_succ, List.foldl_cons]
      exact ih _ (by rw [Array.all_append, ha, h]; rfl)
  exact go n #[] (by simp)
def opOf : BOp → Operator
  | .add => .Add | .sub => .Sub | .mul => .Mult | .mod => .Mod | .fdiv => .FloorDiv | .pow => .Pow

section
variable {X : Cx} {G : Prog} {st : Sto} {x y d : D}
abbrev RelX (X : Cx) (G : Prog) := Rel X.K X.mg G
abbrev RepX (X : Cx) (G : Prog) := Rep X.K X.mg G
abbrev QDX (X : Cx) (G : Prog) := QD X.K X.mg G
abbrev QVX (X : Cx) (G : Prog) := QV X.K X.mg G
abbrev QFX (X : Cx) (G : Prog) := QF X.K X.mg G

theorem binD_ok {op : BOp} (e : binD st op x y = some d) : ∃ r, OpR X (binaryOp (opOf op)) r ∧
    ∀ fls m H v u Q, RelX X G fls st m H → RepX X G m H x v → RepX X G m H y u → QDX X G fls st m H d Q → r v u H Q := by
  unfold binD at e
  split at e
  · -- ints
    rename_i i j e1 e2
    cases e
    refine ⟨_, op_add, fun fls m H v u Q R rx ry q => ?_⟩
    exact ⟨i, j, (R.int rx e1).1, (R.int ry e2).1, QV.here q R (.int _)⟩
  · rename_i xs ys e1 e2
    split at e
    · rename_i hz
      cases e
      refine ⟨_, op_cat, fun fls m H v u Q R rx ry q => ?_⟩
      obtain ⟨p, vs, rfl, hp, r1⟩ := R.lst rx e1
      obtain ⟨p', vs', rfl, hp', r2⟩ := R.lst ry e2
      exact ⟨p, p', vs, vs', rfl, rfl, hp, hp', by rw [← r1.length, ← r2.length, ← SZ_eq]; exact hz, fun p hp => QF.lst q R (r1.app r2) hp⟩
    · cases e
  · rename_i xs ys e1 e2
    split at e
    · rename_i hz
      cases e
      refine ⟨_, op_catA, fun fls m H v u Q R rx ry q => ?_⟩
      obtain ⟨p, vs, rfl, hp, r1⟩ := R.tup rx e1
      obtain ⟨p', vs', rfl, hp', r2⟩ := R.tup ry e2
      refine ⟨p, p', vs, vs', rfl, rfl, SqT.of hp, SqT.of hp', by rw [← r1.length, ← r2.length, ← SZ_eq]; exact hz, fun z => ?_, fun z1 z => ?_, fun _ _ p hp => QV.tup q R (r1.app r2) hp⟩
      · subst z
        cases r1
        rw [List.nil_append] at q
        exact QV.here q R (R.tupS ry e2 ▸ ry)
      · subst z
        cases r2
        rw [List.append_nil] at q
        exact QV.here q R (R.tupS rx e1 ▸ rx)
    · cases e
  · rename_i a b e1 e2
    split at e
    · rename_i hz
      cases e
      refine ⟨_, op_add_str, fun fls m H v u Q R rx ry q => ?_⟩
      exact ⟨a, b, (R.str rx e1).1, (R.str ry e2).1, by rw [← SZ_eq]; exact hz, QV.here q R (.str (str_app (R.str rx e1).2.2 (R.str ry e2).2.2))⟩
    · cases e
  · rename_i i j e1 e2
    cases e
    refine ⟨_, op_sub, fun fls m H v u Q R rx ry q => ?_⟩
    exact ⟨i, j, (R.int rx e1).1, (R.int ry e2).1, QV.here q R (.int _)⟩
  · rename_i i j e1 e2
    split at e
    · rename_i hz
      cases e
      unfold mulOk at hz
      simp only [Bool.or_eq_true, decide_eq_true_eq] at hz
      have hz : ((-(2 ^ 64) < i ∧ i < 2 ^ 64) ∨ (-(2 ^ 64) < j ∧ j < 2 ^ 64)) ∨ i.natAbs.log2 + j.natAbs.log2 < 1000000 := by
        rcases hz with (hz | hz) | hz
        · left; left; omega
        · left; right; omega
        · right; exact hz
      rcases hz with hz | hz
      · refine ⟨_, op_mul, fun fls m H v u Q R rx ry q => ?_⟩
        exact ⟨i, j, (R.int rx e1).1, (R.int ry e2).1, hz, QV.here q R (.int _)⟩
      · refine ⟨_, op_mulW, fun fls m H v u Q R rx ry q => ?_⟩
        exact ⟨i, j, (R.int rx e1).1, (R.int ry e2).1, hz, QV.here q R (.int _)⟩
    · cases e
  · rename_i xs k e1 e2
    split at e
    · rename_i hz
      cases e
      refine ⟨_, op_rep, fun fls m H v u Q R rx ry q => ?_⟩
      obtain ⟨p, vs, rfl, hp, r1⟩ := R.lst rx e1
      obtain ⟨rfl, _⟩ := R.int ry e2
      obtain ⟨h1, h2⟩ := hz
      have h2' : k.natAbs ≤ 16777216 := h2
      exact ⟨p, k, vs, rfl, rfl, hp, by omega, by omega, by rw [← r1.length, ← SZ_eq]; exact h1, fun p hp => QF.lst q R (r1.rep _) hp⟩
    · cases e
  · rename_i xs k e1 e2
    split at e
    · rename_i hz
      cases e
      refine ⟨_, op_rep1, fun fls m H v u Q R rx ry q => ?_⟩
      obtain ⟨p, vs, rfl, hp, r1⟩ := R.tup rx e1
      obtain ⟨rfl, _⟩ := R.int ry e2
      obtain ⟨h1, h2, h3, h4⟩ := hz
      have hne : vs ≠ [] := fun z => by subst z; cases r1; exact h4 rfl
      refine ⟨p, k, vs, rfl, rfl, SqT.of hp, hne, h2, h3, by rw [← r1.length]; exact h1, fun z => ?_, fun p hp => QV.tup q R (r1.rep _) hp⟩
      subst z
      have e3 : (List.replicate (1 : Int).toNat xs).flatten = xs := by simp
      rw [e3] at q
      exact QV.here q R (R.tupS rx e1 ▸ rx)
    · cases e
  · rename_i x k e1 e2
    split at e
    · rename_i hz
      cases e
      refine ⟨_, op_repS, fun fls m H v u Q R rx ry q => ?_⟩
      obtain ⟨h1, h2, h3, h4⟩ := hz
      refine ⟨x, k, (R.str rx e1).1, (R.int ry e2).1, h1, h2, h3, h4, QV.here q R (.str (str_rep (R.str rx e1).2.2))⟩
    · cases e
  · rename_i i j e1 e2
    split at e
    · rename_i hz
      cases e
      refine ⟨_, op_modN, fun fls m H v u Q R rx ry q => ?_⟩
      refine ⟨i, j, (R.int rx e1).1, (R.int ry e2).1, by show j ≠ 0; omega, ?_⟩
      show Q (V.int (i.fmod j)) H
      rw [Int.fmod_eq_emod_of_nonneg _ (by omega)]
      exact QV.here q R (.int _)
    · cases e
  · rename_i i j e1 e2
    split at e
    · rename_i hz
      cases e
      unfold divOk at hz
      simp only [Bool.and_eq_true, decide_eq_true_eq] at hz
      refine ⟨_, op_fdivW, fun fls m H v u Q R rx ry q => ?_⟩
      exact ⟨i, j, (R.int rx e1).1, (R.int ry e2).1, hz, QV.here q R (.int _)⟩
    · cases e
  · rename_i i j e1 e2
    split at e
    · rename_i hz
      cases e
      refine ⟨_, op_pow, fun fls m H v u Q R rx ry q => ?_⟩
      exact ⟨i, j, (R.int rx e1).1, (R.int ry e2).1, hz, QV.here q R (.int _)⟩
    · cases e
  · cases e
end
end Ev

set_option Elab.async false
set_option linter.all false
set_option maxRecDepth 100000
set_option maxHeartbeats 4000000
/-! Ev, part 4: comparisons, subscripts. -/
namespace Ev
open PySem L2 PySem.Spec
open PyProof.Rows hiding St

mutual
def toPy : D → PyData
  | .bl b => .bool b
  | .int i => .int i
  | .str x => .str x
  | .tup xs => .tuple (toPys xs)
  | .lst xs => .list (toPys xs)
  | .non => .none | .fz _ => .none | .tk _ => .none | .dk _ => .none | .dt _ => .none | .ins _ _ => .none
  | .ref _ => .none | .fn _ => .none | .cl _ => .none | .ty _ => .none | .err _ _ => .none | .lk _ => .none
def toPys : List D → List PyData
  | [] => []
  | x :: xs => toPy x :: toPys xs
end
theorem toPys_eq : ∀ xs : List D, toPys xs = xs.map toPy
  | [] => rfl
  | x :: xs => by rw [toPys, toPys_eq xs]; rfl

section
variable {K : PySem.W.Frag} {mg : Str → Option Value} {G : Prog} {m : Mp} {H : Hp}
mutual
theorem Rep.dp : ∀ (d : D) (n : Nat) (v : V), Rep K mg G m H d v → okN n d = true → Dp K H v (toPy d) ∧ (toPy d).canLay0 = true ∧ (toPy d).depth ≤ n
  | .non, n, _, .non, _ => ⟨.non, rfl, by simp [toPy, PyData.depth]⟩
  | .bl b, n, _, .bl _, _ => ⟨.bl b, rfl, by simp [toPy, PyData.depth]⟩
  | .int i, n, _, .int _, _ => ⟨.int i, rfl, by simp [toPy, PyData.depth]⟩
  | .str x, n, _, .str h, _ => ⟨.str x, h, by simp [toPy, PyData.depth]⟩
  | .tup xs, n + 1, _, .tup a b r, o => by
    obtain ⟨h1, h2, h3⟩ := Reps.dp xs n _ r (by simpa [okN] using o)
    exact ⟨.tup (.inl (.inl b)) h1, by simpa [toPy, PyData.canLay0] using h2, by simp [toPy, PyData.depth]; omega⟩
  | .lst xs, n + 1, _, .lst a b r, o => by
    obtain ⟨h1, h2, h3⟩ := Reps.dp xs n _ r (by simpa [okN] using o)
    exact ⟨.lst (.inl (.inl b)) h1, by simpa [toPy, PyData.canLay0] using h2, by simp [toPy, PyData.depth]; omega⟩
  | .tup xs, 0, _, _, o => by simp [okN] at o
  | .lst xs, 0, _, _, o => by simp [okN] at o
  | .fz _, n, _, _, o => by cases n <;> simp [okN] at o
  | .tk _, n, _, _, o => by cases n <;> simp [okN] at o
  | .dk _, n, _, _, o => by cases n <;> simp [okN] at o
  | .dt _, n, _, _, o => by cases n <;> simp [okN] at o
  | .ins _ _, n, _, _, o => by cases n <;> simp [okN] at o
  | .ref _, n, _, _, o => by cases n <;> simp [okN] at o
  | .fn _, n, _, _, o => by cases n <;> simp [okN] at o
  | .cl _, n, _, _, o => by cases n <;> simp [okN] at o
  | .ty _, n, _, _, o => by cases n <;> simp [okN] at o
  | .err _ _, n, _, _, o => by cases n <;> simp [okN] at o
theorem Reps.dp : ∀ (xs : List D) (n : Nat) (vs : List V), Reps K mg G m H xs vs → okNs n xs = true → DpAll K H vs (toPys xs) ∧ PyData.canLayAll0 (toPys xs) = true ∧ PyData.depthAll (toPys xs) ≤ n
  | [], n, _, .nil, _ => ⟨.nil, rfl, by simp [toPys, PyData.depthAll]⟩
  | x :: xs, n, _, .cons a t, o => by
    have o' : okN n x = true ∧ okNs n xs = true := by simpa [okNs] using o
    obtain ⟨h1, h2, h3⟩ := Rep.dp x n _ a o'.1
    obtain ⟨g1, g2, g3⟩ := Reps.dp xs n _ t o'.2
    exact ⟨.cons h1 g1, by simp [toPys, PyData.canLayAll0, h2, g2], by simp [toPys, PyData.depthAll]; omega⟩
end
theorem shaped_of {p : PyData} {n : Nat} (h : n ≤ 64) (a : p.canLay0 = true) (b : p.depth ≤ n) : SeqAt.shaped p = true := by
  unfold SeqAt.shaped
  rw [a, decide_eq_true (by omega)]; rfl
/-- a thing or a cell's content, as data -/
theorem Rel.dp {fls st} (R : Rel K mg G fls st m H) {d : D} {v : V} (r : Rep K mg G m H d v) (o : okN 60 (view st d) = true) :
    Dp K H v (toPy (view st d)) ∧ SeqAt.shaped (toPy (view st d)) = true := by
  have key : ∀ {d' : D}, Rep K mg G m H d' v → okN 60 d' = true → Dp K H v (toPy d') ∧ SeqAt.shaped (toPy d') = true := fun r o => by
    obtain ⟨a, b, c⟩ := r.dp _ 60 _ o
    exact ⟨a, shaped_of (by omega) b c⟩
  cases r with
  | @ref n p h =>
    have hn : n < st.length := by rw [← R.len]; exact (List.getElem?_eq_some_iff.mp h).1
    obtain ⟨u, a, b⟩ := R.cell n _ p (List.getElem?_eq_getElem hn) h
    have e : view st (.ref n) = st[n] := by simp [view, hn]
    rw [e] at o ⊢
    generalize st[n] = c at b o
    cases b with
    | lst r =>
      rename_i ds vs
      obtain ⟨h1, h2, h3⟩ := Reps.dp ds 59 _ r (by simpa [okN] using o)
      exact ⟨.lst (.inl (.inl a)) h1, shaped_of (n := 60) (by omega) (by simpa [toPy, PyData.canLay0] using h2) (by simp [toPy, PyData.depth]; omega)⟩
    | dk r => simp [okN] at o
    | dt r => simp [okN] at o
    | ins _ _ r => simp [okN] at o
    | lkK r => simp [okN] at o
    | lkT r => simp [okN] at o
  | non => exact key .non o
  | bl b => exact key (.bl b) o
  | int i => exact key (.int i) o
  | str h => exact key (.str h) o
  | tup a b c => exact key (.tup a b c) o
  | lst a b c => exact key (.lst a b c) o
  | fz a b c => exact key (.fz a b c) o
  | fzK a b => exact key (.fzK a b) o
  | tk a b => exact key (.tk a b) o
  | dk a b c => exact key (.dk a b c) o
  | dt a b c => exact key (.dt a b c) o
  | fn a b => exact key (.fn a b) o
  | ty n => exact key (.ty n) o
end

mutual
theorem eqv_py : ∀ (a b : D) (n k : Nat), okN n a = true → okN k b = true → PyData.eqv (toPy a) (toPy b) = eqv a b
  | .non, b, n, k, _, ob => by cases b <;> first | (simp [toPy, PyData.eqv, eqv]; done) | (cases k <;> simp [okN] at ob)
  | .bl x, b, n, k, _, ob => by cases b <;> first | (simp [toPy, PyData.eqv, eqv]; done) | (cases k <;> simp [okN] at ob)
  | .int i, b, n, k, _, ob => by
    cases b <;> first
      | (simp [toPy, PyData.eqv, eqv]; done)
      | (rename_i j; show (i == j) = decide (i = j); rw [Bool.beq_eq_decide_eq])
      | (cases k <;> simp [okN] at ob)
  | .str i, b, n, k, _, ob => by
    cases b <;> first
      | (simp [toPy, PyData.eqv, eqv]; done)
      | (rename_i j; show (i == j) = decide (i = j); rw [Bool.beq_eq_decide_eq])
      | (cases k <;> simp [okN] at ob)
  | .tup xs, b, 0, k, oa, ob => by simp [okN] at oa
  | .tup xs, b, n + 1, k, oa, ob => by
    cases b with
    | tup ys =>
      cases k with
      | zero => simp [okN] at ob
      | succ k => simpa [toPy, PyData.eqv, eqv] using eqvs_py xs ys n k (by simpa [okN] using oa) (by simpa [okN] using ob)
    | non => simp [toPy, PyData.eqv, eqv]
    | bl _ => simp [toPy, PyData.eqv, eqv]
    | int _ => simp [toPy, PyData.eqv, eqv]
    | str _ => simp [toPy, PyData.eqv, eqv]
    | lst _ => simp [toPy, PyData.eqv, eqv]
    | _ => cases k <;> simp [okN] at ob
  | .lst xs, b, 0, k, oa, ob => by simp [okN] at oa
  | .lst xs, b, n + 1, k, oa, ob => by
    cases b with
    | lst ys =>
      cases k with
      | zero => simp [okN] at ob
      | succ k => simpa [toPy, PyData.eqv, eqv] using eqvs_py xs ys n k (by simpa [okN] using oa) (by simpa [okN] using ob)
    | non => simp [toPy, PyData.eqv, eqv]
    | bl _ => simp [toPy, PyData.eqv, eqv]
    | int _ => simp [toPy, PyData.eqv, eqv]
    | str _ => simp [toPy, PyData.eqv, eqv]
    | tup _ => simp [toPy, PyData.eqv, eqv]
    | _ => cases k <;> simp [okN] at ob
  | .fz _, b, n, k, oa, ob => by cases n <;> simp [okN] at oa
  | .tk _, b, n, k, oa, ob => by cases n <;> simp [okN] at oa
  | .dk _, b, n, k, oa, ob => by cases n <;> simp [okN] at oa
  | .dt _, b, n, k, oa, ob => by cases n <;> simp [okN] at oa
  | .ins _ _, b, n, k, oa, ob => by cases n <;> simp [okN] at oa
  | .ref _, b, n, k, oa, ob => by cases n <;> simp [okN] at oa
  | .fn _, b, n, k, oa, ob => by cases n <;> simp [okN] at oa
  | .cl _, b, n, k, oa, ob => by cases n <;> simp [okN] at oa
  | .ty _, b, n, k, oa, ob => by cases n <;> simp [okN] at oa
  | .err _ _, b, n, k, oa, ob => by cases n <;> simp [okN] at oa
theorem eqvs_py : ∀ (xs ys : List D) (n k : Nat), okNs n xs = true → okNs k ys = true → PyData.eqvAll (toPys xs) (toPys ys) = eqvs xs ys
  | [], [], n, k, _, _ => rfl
  | [], _ :: _, n, k, _, _ => rfl
  | _ :: _, [], n, k, _, _ => rfl
  | x :: xs, y :: ys, n, k, oa, ob => by
    have oa' : okN n x = true ∧ okNs n xs = true := by simpa [okNs] using oa
    have ob' : okN k y = true ∧ okNs k ys = true := by simpa [okNs] using ob
    simp only [toPys, PyData.eqvAll, eqvs, eqv_py x y n k oa'.1 ob'.1, eqvs_py xs ys n k oa'.2 ob'.2]
end

def copOf : COp → CmpOp
  | .eq => .Eq | .ne => .NotEq | .lt => .Lt | .le => .LtE | .gt => .Gt | .ge => .GtE | .mem => .In | .nmem => .NotIn

theorem okN_of_okNs {n : Nat} {xs : List D} (h : okNs n xs = true) : ∀ x ∈ xs, okN n x = true := by
  induction xs with
  | nil => intro x h; cases h
  | cons y ys ih =>
    have h' : okN n y = true ∧ okNs n ys = true := by simpa [okNs] using h
    intro x hx
    rcases List.mem_cons.mp hx with rfl | hx
    · exact h'.1
    · exact ih h'.2 x hx

section
variable {X : Cx} {G : Prog} {st : Sto} {x y d : D}
theorem RepK.val {κ : Type} {K : PySem.W.Frag} {mg : Str → Option Value} {m : Mp} {H : Hp} {ds : List (Key × D)} {kvs : List (Key × V)} (r : RepK K mg G m H ds kvs) (k : Key) :
    (dget ds k = none ∧ valV kvs k = none) ∨ ∃ d v, dget ds k = some d ∧ valV kvs k = some v ∧ Rep K mg G m H d v := by
  induction ds generalizing kvs with
  | nil => cases r; exact .inl ⟨rfl, rfl⟩
  | cons p ds ih =>
    cases r with
    | @cons k0 d v r0 r' a t =>
      by_cases e : k0 = k
      · exact .inr ⟨d, v, by simp [dget, List.find?_cons, e], valV_pos (p := (k0, v)) e, a⟩
      · have e1 : dget ((k0, d) :: ds) k = dget ds k := by simp [dget, List.find?_cons, e]
        rw [e1, valV_neg (p := (k0, v)) e]
        exact ih t
theorem RepT.val {K : PySem.W.Frag} {mg : Str → Option Value} {m : Mp} {H : Hp} {ds : List (List Key × D)} {kvs : List (List Key × V)} (r : RepT K mg G m H ds kvs) (k : List Key) :
    (dget ds k = none ∧ valV kvs k = none) ∨ ∃ d v, dget ds k = some d ∧ valV kvs k = some v ∧ Rep K mg G m H d v := by
  induction ds generalizing kvs with
  | nil => cases r; exact .inl ⟨rfl, rfl⟩
  | cons p ds ih =>
    cases r with
    | @cons k0 d v r0 r' a t =>
      by_cases e : k0 = k
      · exact .inr ⟨d, v, by simp [dget, List.find?_cons, e], valV_pos (p := (k0, v)) e, a⟩
      · have e1 : dget ((k0, d) :: ds) k = dget ds k := by simp [dget, List.find?_cons, e]
        rw [e1, valV_neg (p := (k0, v)) e]
        exact ih t
theorem keyD_rep {K : PySem.W.Frag} {mg : Str → Option Value} {m : Mp} {H : Hp} {d : D} {v : V} {k : Key} (e : keyD d = some k) (r : Rep K mg G m H d v) : v = kV k := by
  cases d <;> simp [keyD] at e
  all_goals (subst e; cases r; rfl)
theorem keysD_rep {K : PySem.W.Frag} {mg : Str → Option Value} {m : Mp} {H : Hp} : ∀ {ds : List D} {vs : List V} {ks : List Key}, keysD ds = some ks → Reps K mg G m H ds vs → vs = ks.map kV
  | [], _, ks, e, .nil => by simp [keysD] at e; subst e; rfl
  | d :: ds, _, ks, e, .cons a t => by
    simp only [keysD] at e
    split at e
    · rename_i k ks' e1 e2
      cases e
      rw [keyD_rep e1 a, keysD_rep e2 t]; rfl
    · cases e
/-- membership in dicts, by values -/
def rInDict (neg : Bool) : R2 := fun x y H Q => ∃ a o, y = .ref a ∧ DGet H a x o ∧ Q (.bl (if neg = true then !o.isSome else o.isSome)) H
theorem op_inDict (hu : X.A.units + 1 < cLine) : OpR X (compareOp .In) (rInDict false) := by
  intro pins s σ H x y v u Q I rx ry h
  obtain ⟨a, o, rfl, g, q⟩ := h
  cases ry
  exact d_in hu I g rx fun s' I' => ⟨.bl o.isSome, H, I', rfl, by simpa using q⟩
theorem op_ninDict (hu : X.A.units + 1 < cLine) : OpR X (compareOp .NotIn) (rInDict true) := by
  intro pins s σ H x y v u Q I rx ry h
  obtain ⟨a, o, rfl, g, q⟩ := h
  cases ry
  exact d_notIn hu I g rx fun s' I' => ⟨.bl (!o.isSome), H, I', rfl, by simpa using q⟩

theorem eqD_ok {b : Bool} (hu : X.A.units + 65 < cLine) (e : eqD st x y = some b) : 
    ∀ {fls m H v u}, RelX X G fls st m H → RepX X G m H x v → RepX X G m H y u → ∃ d e, Dp X.K H v d ∧ Dp X.K H u e ∧ SeqAt.shaped d = true ∧ SeqAt.shaped e = true ∧ PyData.eqv d e = b := fun {fls m H v u} R rx ry => by
  unfold eqD at e
  split at e
  · rename_i h
    simp only [Bool.and_eq_true] at h
    cases e
    obtain ⟨d1, s1⟩ := R.dp rx h.1
    obtain ⟨d2, s2⟩ := R.dp ry h.2
    exact ⟨_, _, d1, d2, s1, s2, eqv_py _ _ _ _ h.1 h.2⟩
  · cases e

theorem flat_rep {K : PySem.W.Frag} {mg : Str → Option Value} {m : Mp} {H : Hp} {d : D} {v : V} (f : flat d = true) (r : Rep K mg G m H d v) : flatV v = true := by
  cases r <;> first | rfl | simp [flat] at f
theorem flats_rep {K : PySem.W.Frag} {mg : Str → Option Value} {m : Mp} {H : Hp} : ∀ {ds : List D} {vs : List V}, ds.all flat = true → Reps K mg G m H ds vs → vs.all flatV = true
  | [], _, _, .nil => rfl
  | d :: ds, _, f, .cons a t => by
    simp only [List.all_cons, Bool.and_eq_true] at f
    simp only [List.all_cons, flat_rep f.1 a, flats_rep f.2 t, Bool.and_self]
end
end Ev

set_option Elab.async false
set_option linter.all false
set_option maxRecDepth 100000
set_option maxHeartbeats 4000000
/-! Ev, part 5: comparisons, subscripts, built-ins. -/
namespace Ev
open PySem L2 PySem.Spec
open PyProof.Rows hiding St
section
variable {X : Cx} {G : Prog} {st : Sto} {x y d : D}

theorem eqV_eqv {K : PySem.W.Frag} {mg : Str → Option Value} {m : Mp} {H : Hp} {a b : D} {u v : V} (fa : flat a = true) (fb : flat b = true) (ra : Rep K mg G m H a u) (rb : Rep K mg G m H b v) : eqV u v = eqv a b := by
  cases ra <;> first | (simp [flat] at fa; done) | skip
  all_goals (cases rb <;> first | (simp [flat] at fb; done) | skip)
  all_goals (simp [eqV, eqv])
  all_goals (first | rw [Bool.beq_eq_decide_eq] | rfl)
theorem inV_any {K : PySem.W.Frag} {mg : Str → Option Value} {m : Mp} {H : Hp} {a : D} {u : V} (fa : flat a = true) (ra : Rep K mg G m H a u) : ∀ {xs : List D} {vs : List V}, xs.all flat = true → Reps K mg G m H xs vs → inV u vs = xs.any fun x => eqv x a
  | [], _, _, .nil => rfl
  | x :: xs, _, f, .cons r t => by
    simp only [List.all_cons, Bool.and_eq_true] at f
    show (eqV _ u || inV u _) = _
    rw [eqV_eqv f.1 fa r ra, inV_any fa ra f.2 t]; rfl
theorem any_py {a : D} {n : Nat} (oa : okN n a = true) : ∀ (xs : List D) {k : Nat}, okNs k xs = true → ((toPys xs).any fun z => PyData.eqv z (toPy a)) = xs.any fun x => eqv x a
  | [], _, _ => rfl
  | x :: xs, k, h => by
    have h' : okN k x = true ∧ okNs k xs = true := by simpa [okNs] using h
    simp only [toPys, List.any_cons, eqv_py x a k n h'.1 oa, any_py oa xs h'.2]

theorem memD_ok {b : Bool} (hu : X.A.units + 65 < cLine) (e : memD st x y = some b) (neg : Bool) : ∃ r, OpR X (compareOp (if neg = true then .NotIn else .In)) r ∧
    ∀ fls m H v u Q, RelX X G fls st m H → RepX X G m H x v → RepX X G m H y u → Q (.bl (if neg = true then !b else b)) H → r v u H Q := by
  unfold memD at e
  split at e
  · rename_i xs ev
    split at e
    · rename_i h
      simp only [Bool.and_eq_true] at h
      cases e
      have key : ∀ {fls m H v u}, RelX X G fls st m H → RepX X G m H x v → RepX X G m H y u → ∃ d ds, Dp X.K H v d ∧ Dp X.K H u (.list ds) ∧ SeqAt.shaped d = true ∧ SeqAt.shaped (.list ds) = true ∧ (ds.any fun z => PyData.eqv z d) = xs.any fun z => eqv z x := fun {fls m H v u} R rx ry => by
        obtain ⟨a1, a2, a3⟩ := rx.dp _ 60 _ h.1
        obtain ⟨p, vs, rfl, hp, r⟩ := R.lst ry ev
        obtain ⟨g1, g2, g3⟩ := Reps.dp xs 59 _ r h.2
        exact ⟨_, _, a1, .lst (.inl (.inl hp)) g1, shaped_of (by omega) a2 a3, shaped_of (n := 60) (by omega) (by simpa [PyData.canLay0] using g2) (by simp [PyData.depth]; omega), any_py h.1 xs h.2⟩
      cases neg with
      | false =>
        refine ⟨_, op_inD hu, fun fls m H v u Q R rx ry q => ?_⟩
        obtain ⟨d, ds, h1, h2, h3, h4, h5⟩ := key R rx ry
        exact ⟨d, ds, h1, h2, h3, h4, by rw [h5]; simpa using q⟩
      | true =>
        refine ⟨_, op_notInD hu, fun fls m H v u Q R rx ry q => ?_⟩
        obtain ⟨d, ds, h1, h2, h3, h4, h5⟩ := key R rx ry
        exact ⟨d, ds, h1, h2, h3, h4, by rw [h5]; simpa using q⟩
    · cases e
  · rename_i xs ev
    split at e
    · rename_i h
      simp only [Bool.and_eq_true] at h
      cases e
      cases neg with
      | false =>
        refine ⟨_, op_in_seq, fun fls m H v u Q R rx ry q => ?_⟩
        obtain ⟨p, vs, rfl, hp, r⟩ := R.tup ry ev
        exact ⟨p, vs, rfl, .inr (SqT.of hp), flat_rep h.1 rx, flats_rep h.2 r, by rw [inV_any h.1 rx h.2 r]; simpa using q⟩
      | true =>
        refine ⟨_, op_notIn_seq, fun fls m H v u Q R rx ry q => ?_⟩
        obtain ⟨p, vs, rfl, hp, r⟩ := R.tup ry ev
        exact ⟨p, vs, rfl, .inr (SqT.of hp), flat_rep h.1 rx, flats_rep h.2 r, by rw [inV_any h.1 rx h.2 r]; simpa using q⟩
    · cases e
  · rename_i xs ev
    split at e
    · rename_i h
      simp only [Bool.and_eq_true] at h
      cases e
      cases neg with
      | false =>
        refine ⟨_, op_in_seq, fun fls m H v u Q R rx ry q => ?_⟩
        obtain ⟨p, vs, rfl, hp, r⟩ := R.tk ry ev
        exact ⟨p, vs, rfl, .inr hp, flat_rep h.1 rx, flats_rep h.2 r, by rw [inV_any h.1 rx h.2 r]; simpa using q⟩
      | true =>
        refine ⟨_, op_notIn_seq, fun fls m H v u Q R rx ry q => ?_⟩
        obtain ⟨p, vs, rfl, hp, r⟩ := R.tk ry ev
        exact ⟨p, vs, rfl, .inr hp, flat_rep h.1 rx, flats_rep h.2 r, by rw [inV_any h.1 rx h.2 r]; simpa using q⟩
    · cases e
  · rename_i z ev
    split at e
    · rename_i x0
      split at e
      · rename_i c hc
        cases e
        have hx : x0 = ⟨#[c]⟩ := by
          obtain ⟨a⟩ := x0
          congr 1
          apply Array.toList_inj.mp
          exact hc
        cases neg with
        | false =>
          refine ⟨_, op_in_sign, fun fls m H v u Q R rx ry q => ?_⟩
          cases rx
          exact ⟨c, z, by rw [hx], (R.str ry ev).1, by simpa using q⟩
        | true =>
          refine ⟨_, op_notIn_sign, fun fls m H v u Q R rx ry q => ?_⟩
          cases rx
          exact ⟨c, z, by rw [hx], (R.str ry ev).1, by simpa using q⟩
      · cases e
    · cases e
  · rename_i kvs ev
    have key : ∀ {fls m H v u}, RelX X G fls st m H → RepX X G m H x v → RepX X G m H y u → ∃ a o, u = .ref a ∧ DGet H a v o ∧ o.isSome = b := fun {fls m H v u} R rx ry => by
      obtain ⟨p, vs, rfl, hp, r⟩ := R.dk ry ev
      cases ek : keyD x with
      | none => rw [ek] at e; cases e
      | some k =>
        rw [ek] at e
        simp at e
        have ekv := keyD_rep ek rx
        subst ekv
        refine ⟨p, valV vs k, rfl, DGet.k hp, ?_⟩
        rcases r.val (κ := Nat) k with ⟨h1, h2⟩ | ⟨d, v, h1, h2, _⟩
        · rw [h2, ← e, h1]; rfl
        · rw [h2, ← e, h1]; rfl
    cases neg with
    | false =>
      refine ⟨_, op_inDict (by omega), fun fls m H v u Q R rx ry q => ?_⟩
      obtain ⟨a, o, h1, h2, h3⟩ := key R rx ry
      exact ⟨a, o, h1, h2, by rw [h3]; simpa using q⟩
    | true =>
      refine ⟨_, op_ninDict (by omega), fun fls m H v u Q R rx ry q => ?_⟩
      obtain ⟨a, o, h1, h2, h3⟩ := key R rx ry
      exact ⟨a, o, h1, h2, by rw [h3]; simpa using q⟩
  · rename_i kvs ev
    split at e
    · rename_i ds
      have key : ∀ {fls m H v u}, RelX X G fls st m H → RepX X G m H (.tup ds) v → RepX X G m H y u → ∃ a o, u = .ref a ∧ DGet H a v o ∧ o.isSome = b := fun {fls m H v u} R rx ry => by
        obtain ⟨p, vs, rfl, hp, r⟩ := R.dt ry ev
        obtain ⟨p', vs', rfl, hp', r'⟩ := R.tup rx rfl
        cases ek : keysD ds with
        | none => rw [ek] at e; cases e
        | some k =>
          rw [ek] at e
          simp at e
          have ekv := keysD_rep ek r'
          subst ekv
          refine ⟨p, valV vs k, rfl, DGet.t hp hp', ?_⟩
          rcases r.val k with ⟨h1, h2⟩ | ⟨d, v, h1, h2, _⟩
          · rw [h2, ← e, h1]; rfl
          · rw [h2, ← e, h1]; rfl
      cases neg with
      | false =>
        refine ⟨_, op_inDict (by omega), fun fls m H v u Q R rx ry q => ?_⟩
        obtain ⟨a, o, h1, h2, h3⟩ := key R rx ry
        exact ⟨a, o, h1, h2, by rw [h3]; simpa using q⟩
      | true =>
        refine ⟨_, op_ninDict (by omega), fun fls m H v u Q R rx ry q => ?_⟩
        obtain ⟨a, o, h1, h2, h3⟩ := key R rx ry
        exact ⟨a, o, h1, h2, by rw [h3]; simpa using q⟩
    · cases e
  · rename_i kvs ev
    have key : ∀ {fls m H v u}, RelX X G fls st m H → RepX X G m H x v → RepX X G m H y u → ∃ a o, u = .ref a ∧ DGet H a v o ∧ o.isSome = b := fun {fls m H v u} R rx ry => by
      obtain ⟨p, vs, rfl, hp, r⟩ := R.lkdk ry ev
      cases ek : keyD x with
      | none => rw [ek] at e; cases e
      | some k =>
        rw [ek] at e
        simp at e
        have ekv := keyD_rep ek rx
        subst ekv
        refine ⟨p, valV vs k, rfl, .inl ⟨_, k, hp, rfl, rfl⟩, ?_⟩
        rcases r.val (κ := Nat) k with ⟨h1, h2⟩ | ⟨d, v, h1, h2, _⟩
        · rw [h2, ← e, h1]; rfl
        · rw [h2, ← e, h1]; rfl
    cases neg with
    | false =>
      refine ⟨_, op_inDict (by omega), fun fls m H v u Q R rx ry q => ?_⟩
      obtain ⟨a, o, h1, h2, h3⟩ := key R rx ry
      exact ⟨a, o, h1, h2, by rw [h3]; simpa using q⟩
    | true =>
      refine ⟨_, op_ninDict (by omega), fun fls m H v u Q R rx ry q => ?_⟩
      obtain ⟨a, o, h1, h2, h3⟩ := key R rx ry
      exact ⟨a, o, h1, h2, by rw [h3]; simpa using q⟩
  · rename_i kvs ev
    split at e
    · rename_i ds
      have key : ∀ {fls m H v u}, RelX X G fls st m H → RepX X G m H (.tup ds) v → RepX X G m H y u → ∃ a o, u = .ref a ∧ DGet H a v o ∧ o.isSome = b := fun {fls m H v u} R rx ry => by
        obtain ⟨p, vs, rfl, hp, r⟩ := R.lkdt ry ev
        obtain ⟨p', vs', rfl, hp', r'⟩ := R.tup rx rfl
        cases ek : keysD ds with
        | none => rw [ek] at e; cases e
        | some k =>
          rw [ek] at e
          simp at e
          have ekv := keysD_rep ek r'
          subst ekv
          refine ⟨p, valV vs k, rfl, .inr ⟨_, k, _, hp, rfl, hp', rfl⟩, ?_⟩
          rcases r.val k with ⟨h1, h2⟩ | ⟨d, v, h1, h2, _⟩
          · rw [h2, ← e, h1]; rfl
          · rw [h2, ← e, h1]; rfl
      cases neg with
      | false =>
        refine ⟨_, op_inDict (by omega), fun fls m H v u Q R rx ry q => ?_⟩
        obtain ⟨a, o, h1, h2, h3⟩ := key R rx ry
        exact ⟨a, o, h1, h2, by rw [h3]; simpa using q⟩
      | true =>
        refine ⟨_, op_ninDict (by omega), fun fls m H v u Q R rx ry q => ?_⟩
        obtain ⟨a, o, h1, h2, h3⟩ := key R rx ry
        exact ⟨a, o, h1, h2, by rw [h3]; simpa using q⟩
    · cases e
  · cases e

theorem cmpD_ok {op : COp} {b : Bool} (hu : X.A.units + 65 < cLine) (e : cmpD st op x y = some b) : ∃ r, OpR X (compareOp (copOf op)) r ∧
    ∀ fls m H v u Q, RelX X G fls st m H → RepX X G m H x v → RepX X G m H y u → Q (.bl b) H → r v u H Q := by
  unfold cmpD at e
  cases op with
  | eq =>
    refine ⟨_, op_eqD (by omega), fun fls m H v u Q R rx ry q => ?_⟩
    obtain ⟨d, e', h1, h2, h3, h4, h5⟩ := eqD_ok hu e R rx ry
    exact ⟨d, e', h1, h2, h3, h4, by rw [h5]; exact q⟩
  | ne =>
    simp only [Option.map_eq_some_iff] at e
    obtain ⟨c, e, rfl⟩ := e
    refine ⟨_, op_neD (by omega), fun fls m H v u Q R rx ry q => ?_⟩
    obtain ⟨d, e', h1, h2, h3, h4, h5⟩ := eqD_ok hu e R rx ry
    exact ⟨d, e', h1, h2, h3, h4, by rw [h5]; exact q⟩
  | mem =>
    obtain ⟨r, h1, h2⟩ := memD_ok (G := G) hu e false
    exact ⟨r, h1, fun fls m H v u Q R rx ry q => h2 fls m H v u Q R rx ry (by simpa using q)⟩
  | nmem =>
    simp only [Option.map_eq_some_iff] at e
    obtain ⟨c, e, rfl⟩ := e
    obtain ⟨r, h1, h2⟩ := memD_ok (G := G) hu e true
    exact ⟨r, h1, fun fls m H v u Q R rx ry q => h2 fls m H v u Q R rx ry (by simpa using q)⟩
  | lt =>
    simp only at e
    split at e
    · cases e
      refine ⟨_, op_lt, fun fls m H v u Q R rx ry q => ?_⟩
      cases rx; cases ry
      exact ⟨_, _, rfl, rfl, q⟩
    · cases e
      refine ⟨_, op_lt_str, fun fls m H v u Q R rx ry q => ?_⟩
      cases rx; cases ry
      exact ⟨_, _, rfl, rfl, q⟩
    · cases e
  | le =>
    simp only at e
    split at e
    · cases e
      refine ⟨_, op_le, fun fls m H v u Q R rx ry q => ?_⟩
      cases rx; cases ry
      exact ⟨_, _, rfl, rfl, q⟩
    · cases e
      refine ⟨_, op_le_str, fun fls m H v u Q R rx ry q => ?_⟩
      cases rx; cases ry
      exact ⟨_, _, rfl, rfl, q⟩
    · cases e
  | gt =>
    simp only at e
    split at e
    · cases e
      refine ⟨_, op_gt, fun fls m H v u Q R rx ry q => ?_⟩
      cases rx; cases ry
      exact ⟨_, _, rfl, rfl, q⟩
    · cases e
      refine ⟨_, op_gt_str, fun fls m H v u Q R rx ry q => ?_⟩
      cases rx; cases ry
      exact ⟨_, _, rfl, rfl, q⟩
    · cases e
  | ge =>
    simp only at e
    split at e
    · cases e
      refine ⟨_, op_ge, fun fls m H v u Q R rx ry q => ?_⟩
      cases rx; cases ry
      exact ⟨_, _, rfl, rfl, q⟩
    · cases e
      refine ⟨_, op_ge_str, fun fls m H v u Q R rx ry q => ?_⟩
      cases rx; cases ry
      exact ⟨_, _, rfl, rfl, q⟩
    · cases e
end
end Ev

set_option Elab.async false
set_option linter.all false
set_option maxRecDepth 100000
set_option maxHeartbeats 4000000
/-! Ev, part 6: built-ins by values. -/
namespace Ev
open PySem L2 PySem.Spec
open PyProof.Rows hiding St

/-! ### plain facts -/
theorem ins1_perm (x : Int) : ∀ l : List Int, (ins1 x l).Perm (x :: l)
  | [] => .refl _
  | y :: r => by
    unfold ins1
    split
    · exact .refl _
    · exact (List.Perm.cons y (ins1_perm x r)).trans (List.Perm.swap x y r)
theorem ins1_pair (x : Int) : ∀ l : List Int, l.Pairwise (· ≤ ·) → (ins1 x l).Pairwise (· ≤ ·)
  | [], _ => by simp [ins1]
  | y :: r, h => by
    have h' := List.pairwise_cons.mp h
    unfold ins1
    split
    · rename_i hxy
      refine List.pairwise_cons.mpr ⟨fun z hz => ?_, h⟩
      rcases List.mem_cons.mp hz with rfl | hz
      · exact hxy
      · exact Int.le_trans hxy (h'.1 z hz)
    · rename_i hxy
      refine List.pairwise_cons.mpr ⟨fun z hz => ?_, ins1_pair x r h'.2⟩
      rcases List.mem_cons.mp ((ins1_perm x r).subset hz) with rfl | hz
      · omega
      · exact h'.1 z hz
theorem isort_perm : ∀ l : List Int, (isort l).Perm l
  | [] => .refl _
  | x :: r => (ins1_perm x _).trans (List.Perm.cons x (isort_perm r))
theorem isort_pair : ∀ l : List Int, (isort l).Pairwise (· ≤ ·)
  | [] => .nil
  | x :: r => ins1_pair x _ (isort_pair r)
theorem sorted_unique {a b : List Int} (p : a.Perm b) (ha : a.Pairwise (· ≤ ·)) (hb : b.Pairwise (· ≤ ·)) : a = b :=
  p.eq_of_pairwise (fun x y _ _ h1 h2 => Int.le_antisymm h1 h2) ha hb

theorem ltS_irr (x : Str) : ltS x x = false := by
  unfold ltS
  exact decide_eq_false (List.lt_irrefl _)
theorem ltS_le {x y : Str} : ltS y x = false ↔ x.cps.toList ≤ y.cps.toList := by
  unfold ltS
  rw [decide_eq_false_iff_not]
  exact Iff.rfl
theorem ltS_trans' {x y z : Str} (h1 : ltS y x = false) (h2 : ltS z y = false) : ltS z x = false :=
  ltS_le.mpr (List.le_trans (ltS_le.mp h1) (ltS_le.mp h2))
theorem ltS_anti {x y : Str} (h1 : ltS y x = false) (h2 : ltS x y = false) : x = y := by
  have := List.le_antisymm (ltS_le.mp h1) (ltS_le.mp h2)
  cases x; cases y
  congr 1
  exact Array.toList_inj.mp this
theorem ltS_asymm {x y : Str} (h : ltS x y = true) : ltS y x = false := by
  unfold ltS at *
  exact decide_eq_false (List.lt_asymm (of_decide_eq_true h))
theorem ltCps_ltS (x y : Str) : ltCps x.cps.toList y.cps.toList = ltS x y := by
  unfold ltS
  have : ∀ a b : List Nat, ltCps a b = decide (a < b) := by
    intro a
    induction a with
    | nil => intro b; cases b <;> simp [ltCps]
    | cons c r ih =>
      intro b
      cases b with
      | nil => simp [ltCps]
      | cons d t =>
        rw [ltCps, ih]
        by_cases h1 : c < d
        · simp [h1, List.cons_lt_cons_iff]
        · by_cases h2 : c = d
          · subst h2; simp [List.cons_lt_cons_iff]
          · simp [h1, h2, List.cons_lt_cons_iff]
  exact this _ _
abbrev leS (x y : Str) : Prop := ltS y x = false
theorem rising_pair : ∀ (l : List Str) (p : Str), risingS p l = true → (p :: l).Pairwise leS
  | [], p, _ => by simp
  | x :: r, p, h => by
    rw [risingS, Bool.and_eq_true, ltCps_ltS] at h
    have h1 : leS p x := by simpa using h.1
    have ih := rising_pair r x h.2
    refine List.pairwise_cons.mpr ⟨fun z hz => ?_, ih⟩
    rcases List.mem_cons.mp hz with rfl | hz
    · exact h1
    · exact ltS_trans' h1 ((List.pairwise_cons.mp ih).1 z hz)
theorem sortedS_pair : ∀ (l : List Str), sortedS l = true → l.Pairwise leS
  | [], _ => .nil
  | x :: r, h => rising_pair r x h
theorem insT_perm (x : Str) : ∀ l : List Str, (insT x l).Perm (x :: l)
  | [] => .refl _
  | y :: r => by
    unfold insT
    split
    · exact (List.Perm.cons y (insT_perm x r)).trans (List.Perm.swap x y r)
    · exact .refl _
theorem insT_pair (x : Str) : ∀ l : List Str, l.Pairwise leS → (insT x l).Pairwise leS
  | [], _ => by simp [insT]
  | y :: r, h => by
    have h' := List.pairwise_cons.mp h
    unfold insT
    split
    · rename_i hyx
      refine List.pairwise_cons.mpr ⟨fun z hz => ?_, insT_pair x r h'.2⟩
      rcases List.mem_cons.mp ((insT_perm x r).subset hz) with rfl | hz
      · exact ltS_asymm hyx
      · exact h'.1 z hz
    · rename_i hyx
      have hxy : leS x y := by simpa using hyx
      refine List.pairwise_cons.mpr ⟨fun z hz => ?_, h⟩
      rcases List.mem_cons.mp hz with rfl | hz
      · exact hxy
      · exact ltS_trans' hxy (h'.1 z hz)
theorem tsort_perm : ∀ l : List Str, (tsort l).Perm l
  | [] => .refl _
  | x :: r => (insT_perm x _).trans (List.Perm.cons x (tsort_perm r))
theorem tsort_pair : ∀ l : List Str, (tsort l).Pairwise leS
  | [] => .nil
  | x :: r => insT_pair x _ (tsort_pair r)
theorem tsort_unique {a l : List Str} (p : a.Perm l) (ha : sortedS a = true) : a = tsort l :=
  (p.trans (tsort_perm l).symm).eq_of_pairwise (fun x y _ _ h1 h2 => ltS_anti h1 h2) (sortedS_pair a ha) (tsort_pair l)
theorem insU_mem (x z : Str) : ∀ l : List Str, z ∈ insU x l ↔ z = x ∨ z ∈ l
  | [] => by simp [insU]
  | y :: r => by
    unfold insU
    split
    · rename_i h; subst h; simp
    · split
      · rw [List.mem_cons, insU_mem x z r, List.mem_cons]
        constructor
        · rintro (h | h | h)
          · exact .inr (.inl h)
          · exact .inl h
          · exact .inr (.inr h)
        · rintro (h | h | h)
          · exact .inr (.inl h)
          · exact .inl h
          · exact .inr (.inr h)
      · simp
theorem usort_mem (z : Str) : ∀ l : List Str, z ∈ usort l ↔ z ∈ l
  | [] => by simp [usort]
  | x :: r => by rw [usort, insU_mem, usort_mem z r, List.mem_cons]
theorem insU_lt (x : Str) : ∀ l : List Str, l.Pairwise (fun a b => ltS a b = true) → (insU x l).Pairwise (fun a b => ltS a b = true)
  | [], _ => by simp [insU]
  | y :: r, h => by
    have h' := List.pairwise_cons.mp h
    unfold insU
    split
    · exact h
    · rename_i hne
      split
      · rename_i hyx
        refine List.pairwise_cons.mpr ⟨fun z hz => ?_, insU_lt x r h'.2⟩
        rcases (insU_mem x z r).mp hz with rfl | hz
        · exact hyx
        · exact h'.1 z hz
      · rename_i hyx
        have hxy : ltS x y = true := by
          cases q : ltS x y with
          | true => rfl
          | false => exact absurd (ltS_anti (by simpa using hyx) q) hne
        refine List.pairwise_cons.mpr ⟨fun z hz => ?_, h⟩
        rcases List.mem_cons.mp hz with rfl | hz
        · exact hxy
        · have := h'.1 z hz
          unfold ltS at *
          exact decide_eq_true (List.lt_trans (of_decide_eq_true hxy) (of_decide_eq_true this))
theorem usort_lt : ∀ l : List Str, (usort l).Pairwise (fun a b => ltS a b = true)
  | [] => .nil
  | x :: r => insU_lt x _ (usort_lt r)
theorem usort_nodup (l : List Str) : (usort l).Nodup := (usort_lt l).imp fun {a b} h e => by
  subst e
  rw [ltS_irr] at h
  cases h
theorem usort_unique {a l : List Str} (ha : sortedS a = true) (hn : a.Nodup) (hm : ∀ k, k ∈ a ↔ k ∈ l) : a = usort l := by
  have p : a.Perm (usort l) := (List.perm_ext_iff_of_nodup hn (usort_nodup l)).mpr fun k => (hm k).trans (usort_mem k l).symm
  exact p.eq_of_pairwise (fun x y _ _ h1 h2 => ltS_anti h1 h2) (sortedS_pair a ha) ((usort_lt l).imp fun h => ltS_asymm h)
theorem nodup_len {α : Type} [DecidableEq α] : ∀ {a b : List α}, a.Nodup → (∀ k ∈ a, k ∈ b) → a.length ≤ b.length
  | [], _, _, _ => by simp
  | x :: r, b, hn, hm => by
    have h' := List.nodup_cons.mp hn
    have hx := hm x (by simp)
    have := nodup_len (a := r) (b := b.erase x) h'.2 fun k hk => (List.mem_erase_of_ne (fun e : k = x => h'.1 (by rw [← e]; exact hk))).mpr (hm k (by simp [hk]))
    rw [List.length_erase_of_mem hx] at this
    have hp := List.length_pos_of_mem hx
    rw [List.length_cons]
    omega
theorem usort_room {l a : List Str} (hn : a.Nodup) (hm : ∀ k ∈ a, k ∈ l) : a.length ≤ (usort l).length :=
  nodup_len hn fun k hk => (usort_mem k l).mpr (hm k hk)
theorem insUI_mem (x z : Int) : ∀ l : List Int, z ∈ insUI x l ↔ z = x ∨ z ∈ l
  | [] => by simp [insUI]
  | y :: r => by
    unfold insUI
    split
    · rename_i h
      subst h
      simp
    · split
      · rw [List.mem_cons, insUI_mem x z r, List.mem_cons]
        constructor
        · rintro (h | h | h)
          · exact .inr (.inl h)
          · exact .inl h
          · exact .inr (.inr h)
        · rintro (h | h | h)
          · exact .inr (.inl h)
          · exact .inl h
          · exact .inr (.inr h)
      · rw [List.mem_cons]
theorem uisort_mem (z : Int) : ∀ l : List Int, z ∈ uisort l ↔ z ∈ l
  | [] => by simp [uisort]
  | x :: r => by rw [uisort, insUI_mem, uisort_mem z r, List.mem_cons]
theorem insUI_lt (x : Int) : ∀ l : List Int, l.Pairwise (· < ·) → (insUI x l).Pairwise (· < ·)
  | [], _ => by simp [insUI]
  | y :: r, h => by
    obtain ⟨h1, h2⟩ := List.pairwise_cons.mp h
    unfold insUI
    split
    · exact h
    · split
      · rename_i hlt
        refine List.pairwise_cons.mpr ⟨fun z hz => ?_, insUI_lt x r h2⟩
        rcases (insUI_mem x z r).mp hz with q | q
        · rw [q]; exact hlt
        · exact h1 z q
      · refine List.pairwise_cons.mpr ⟨fun z hz => ?_, h⟩
        rcases List.mem_cons.mp hz with q | q
        · rw [q]; omega
        · have := h1 z q; omega
theorem uisort_lt : ∀ l : List Int, (uisort l).Pairwise (· < ·)
  | [] => List.Pairwise.nil
  | x :: r => insUI_lt x _ (uisort_lt r)
theorem uisort_nodup (l : List Int) : (uisort l).Nodup := (uisort_lt l).imp fun {a b} h => by omega
theorem uisort_unique {a l : List Int} (ha : a.Pairwise (· ≤ ·)) (hn : a.Nodup) (hm : ∀ k, k ∈ a ↔ k ∈ l) : a = uisort l := by
  have p : a.Perm (uisort l) := (List.perm_ext_iff_of_nodup hn (uisort_nodup l)).mpr fun k => (hm k).trans (uisort_mem k l).symm
  exact p.eq_of_pairwise (fun x y _ _ h1 h2 => Int.le_antisymm h1 h2) ha ((uisort_lt l).imp fun h => Int.le_of_lt h)
theorem uisort_room {l a : List Int} (hn : a.Nodup) (hm : ∀ k ∈ a, k ∈ l) : a.length ≤ (uisort l).length :=
  nodup_len hn fun k hk => (uisort_mem k l).mpr (hm k hk)
theorem imin_mem : ∀ (r : List Int) (x : Int), imin x r ∈ x :: r
  | [], x => by simp [imin]
  | y :: r, x => by
    unfold imin
    have := imin_mem r (if y < x then y else x)
    rcases List.mem_cons.mp this with e | e
    · rw [e]; split <;> simp
    · simp [e]
theorem imin_le : ∀ (r : List Int) (x : Int), ∀ y ∈ x :: r, imin x r ≤ y
  | [], x, y, h => by simp at h; simp [imin, h]
  | z :: r, x, y, h => by
    unfold imin
    have ih := imin_le r (if z < x then z else x)
    have h0 := ih _ (List.mem_cons_self)
    rcases List.mem_cons.mp h with rfl | h
    · refine Int.le_trans h0 ?_; split <;> omega
    · rcases List.mem_cons.mp h with rfl | h
      · refine Int.le_trans h0 ?_; split <;> omega
      · exact ih y (List.mem_cons_of_mem _ h)
theorem imax_mem : ∀ (r : List Int) (x : Int), imax x r ∈ x :: r
  | [], x => by simp [imax]
  | y :: r, x => by
    unfold imax
    have := imax_mem r (if x < y then y else x)
    rcases List.mem_cons.mp this with e | e
    · rw [e]; split <;> simp
    · simp [e]
theorem imax_ge : ∀ (r : List Int) (x : Int), ∀ y ∈ x :: r, y ≤ imax x r
  | [], x, y, h => by simp at h; simp [imax, h]
  | z :: r, x, y, h => by
    unfold imax
    have ih := imax_ge r (if x < z then z else x)
    have h0 := ih _ (List.mem_cons_self)
    rcases List.mem_cons.mp h with rfl | h
    · refine Int.le_trans ?_ h0; split <;> omega
    · rcases List.mem_cons.mp h with rfl | h
      · refine Int.le_trans ?_ h0; split <;> omega
      · exact ih y (List.mem_cons_of_mem _ h)

def biName : Bi → Str
  | .len => "len" | .abs => "abs" | .int => "int" | .tuple => "tuple" | .list => "list" | .all => "all" | .any => "any"
  | .min1 => "min" | .max1 => "max" | .min2 => "min" | .max2 => "max" | .sum => "sum" | .sorted => "sorted" | .str => "str" | .ord => "ord" | .dict => "dict" | .isinst => "isinstance" | .set => "set"
def biVal : Bi → Value
  | .len => .builtin "len" | .abs => .builtin "abs" | .int => .type "int" | .tuple => .type "tuple" | .list => .type "list" | .all => .builtin "all" | .any => .builtin "any"
  | .min1 => .builtin "min" | .max1 => .builtin "max" | .min2 => .builtin "min" | .max2 => .builtin "max" | .sum => .builtin "sum" | .sorted => .builtin "sorted" | .str => .type "str" | .ord => .builtin "ord" | .dict => .type "dict" | .isinst => .builtin "isinstance" | .set => .type "set"

section
variable {X : Cx} {G : Prog} {st : Sto} {d : D}
theorem reps1 {K : PySem.W.Frag} {mg : Str → Option Value} {m : Mp} {H : Hp} {x : D} {vs : List V} (r : Reps K mg G m H [x] vs) : ∃ v, vs = [v] ∧ Rep K mg G m H x v := by
  cases r with | cons a t => cases t; exact ⟨_, rfl, a⟩
theorem reps2 {K : PySem.W.Frag} {mg : Str → Option Value} {m : Mp} {H : Hp} {x y : D} {vs : List V} (r : Reps K mg G m H [x, y] vs) : ∃ v u, vs = [v, u] ∧ Rep K mg G m H x v ∧ Rep K mg G m H y u := by
  cases r with | cons a t => cases t with | cons b t => cases t; exact ⟨_, _, rfl, a, b⟩
theorem bools_rep {K : PySem.W.Frag} {mg : Str → Option Value} {m : Mp} {H : Hp} : ∀ {ds : List D} {vs : List V} {bs : List Bool}, toBools ds = some bs → Reps K mg G m H ds vs → vs = bs.map V.bl
  | [], _, bs, e, .nil => by simp [toBools] at e; subst e; rfl
  | d :: ds, _, bs, e, .cons a t => by
    cases a <;> simp [toBools] at e
    obtain ⟨r, e, rfl⟩ := e
    rw [bools_rep e t]; rfl
theorem ints_rep {K : PySem.W.Frag} {mg : Str → Option Value} {m : Mp} {H : Hp} : ∀ {ds : List D} {vs : List V} {bs : List Int}, toInts ds = some bs → Reps K mg G m H ds vs → vs = bs.map V.int
  | [], _, bs, e, .nil => by simp [toInts] at e; subst e; rfl
  | d :: ds, _, bs, e, .cons a t => by
    cases a <;> simp [toInts] at e
    obtain ⟨r, e, rfl⟩ := e
    rw [ints_rep e t]; rfl
theorem strs_rep {K : PySem.W.Frag} {mg : Str → Option Value} {m : Mp} {H : Hp} : ∀ {ds : List D} {vs : List V} {bs : List Str}, toStrs ds = some bs → Reps K mg G m H ds vs → vs = bs.map V.str ∧ ∀ x ∈ bs, StrOk x
  | [], _, bs, e, .nil => by simp [toStrs] at e; subst e; simp
  | d :: ds, _, bs, e, .cons a t => by
    cases a <;> simp [toStrs] at e
    rename_i x hx
    obtain ⟨r, e, rfl⟩ := e
    obtain ⟨h1, h2⟩ := strs_rep e t
    rw [h1]
    refine ⟨rfl, fun y hy => ?_⟩
    rcases List.mem_cons.mp hy with rfl | hy
    · exact hx
    · exact h2 y hy
theorem Reps.strs {K : PySem.W.Frag} {mg : Str → Option Value} {m : Mp} {H : Hp} : ∀ {ss : List Str}, (∀ x ∈ ss, StrOk x) → Reps K mg G m H (ss.map D.str) (ss.map V.str)
  | [], _ => .nil
  | x :: r, h => .cons (.str (h x (by simp))) (Reps.strs fun y hy => h y (by simp [hy]))
/-- what stands at a pair -/
def prK (H : Hp) : V → Int × Int
  | .ref t => match H t with
    | some (.tup [.int a, .int b]) => (a, b)
    | _ => (0, 0)
  | _ => (0, 0)
theorem prs_rep {K : PySem.W.Frag} {mg : Str → Option Value} {m : Mp} {H : Hp} : ∀ {ds : List D} {vs : List V} {bs : List (Int × Int)}, toPrs ds = some bs → Reps K mg G m H ds vs → (∀ x ∈ vs, (∃ t, x = V.ref t ∧ H t = some (.tup [.int (prK H x).1, .int (prK H x).2])) ∧ Rep K mg G m H (pairD (prK H x)) x) ∧ vs.map (prK H) = bs
  | [], _, bs, e, .nil => by simp [toPrs] at e; subst e; simp
  | d :: ds, _, bs, e, .cons a t => by
    unfold toPrs at e
    split at e
    · rename_i heq
      cases heq
    · rename_i x y r heq
      injection heq with h1 h2
      subst h1 h2
      rw [Option.map_eq_some_iff] at e
      obtain ⟨r', e, rfl⟩ := e
      obtain ⟨i1, i2⟩ := prs_rep e t
      have ha := a
      cases a with
      | tup n1 hh rs =>
      cases rs with
      | cons ra t1 =>
      cases t1 with
      | cons rb t2 =>
      cases t2
      cases ra
      cases rb
      rename_i p
      have ek : prK H (.ref p) = (x, y) := by unfold prK; dsimp only; rw [hh]
      refine ⟨fun z hz => ?_, by rw [List.map_cons, ek, i2]⟩
      rcases List.mem_cons.mp hz with rfl | hz
      · exact ⟨⟨p, rfl, by rw [ek]; exact hh⟩, by rw [ek]; exact ha⟩
      · exact i1 z hz
    · cases e
theorem prs_reps {K : PySem.W.Frag} {mg : Str → Option Value} {m : Mp} {H : Hp} {P : V → Prop} : ∀ {ys : List V}, (∀ x ∈ ys, P x ∧ Rep K mg G m H (pairD (prK H x)) x) → Reps K mg G m H ((ys.map (prK H)).map pairD) ys
  | [], _ => .nil
  | y :: ys, h => .cons (h y (by simp)).2 (prs_reps fun x hx => h x (by simp [hx]))
theorem prsort_perm (ps : List (Int × Int)) : (prsort ps).Perm ps := by
  unfold prsort
  have := ((EvSK.psort_ok (ps.map fun p => (p, ()))).2.perm).map (·.1)
  rw [List.map_map] at this
  have e : ((fun x : (Int × Int) × Unit => x.1) ∘ fun p => (p, ())) = id := rfl
  rw [e, List.map_id] at this
  exact this
theorem prsort_srt (ps : List (Int × Int)) : (prsort ps).Pairwise fun a b => SrtO.lexB b a = false := by
  unfold prsort
  rw [List.pairwise_map]
  exact (EvSK.psort_ok (ps.map fun p => (p, ()))).1
theorem lex_anti {a b : Int × Int} (h1 : SrtO.lexB b a = false) (h2 : SrtO.lexB a b = false) : a = b := by
  have := SrtO.lexB_no.mp h1
  have := SrtO.lexB_no.mp h2
  exact Prod.ext (by omega) (by omega)
theorem prsort_uniq {l ps : List (Int × Int)} (hp : l.Perm ps) (hs : l.Pairwise fun a b => SrtO.lexB b a = false) : l = prsort ps :=
  (hp.trans (prsort_perm ps).symm).eq_of_pairwise (fun x y _ _ h1 h2 => lex_anti h1 h2) hs (prsort_srt ps)
theorem prs_unique {H : Hp} {ys : List V} {bs : List (Int × Int)} (hp : (ys.map (prK H)).Perm bs) (hs : SrtO.Srtd (ltP (prK H)) ys) : ys.map (prK H) = prsort bs :=
  prsort_uniq hp (List.pairwise_map.mpr hs)
theorem smin_mem : ∀ (r : List Str) (x : Str), EvSet.smin x r ∈ x :: r
  | [], x => by simp [EvSet.smin]
  | y :: r, x => by
    have := smin_mem r (if decide (y.cps.toList < x.cps.toList) = true then y else x)
    unfold EvSet.smin at *
    rw [List.foldl_cons]
    rcases List.mem_cons.mp this with e | e
    · rw [e]; split <;> simp
    · exact List.mem_cons_of_mem _ (List.mem_cons_of_mem _ e)
theorem smax_mem : ∀ (r : List Str) (x : Str), EvSet.smax x r ∈ x :: r
  | [], x => by simp [EvSet.smax]
  | y :: r, x => by
    have := smax_mem r (if decide (x.cps.toList < y.cps.toList) = true then y else x)
    unfold EvSet.smax at *
    rw [List.foldl_cons]
    rcases List.mem_cons.mp this with e | e
    · rw [e]; split <;> simp
    · exact List.mem_cons_of_mem _ (List.mem_cons_of_mem _ e)
theorem tyD_ok {fls : List Nat} {m : Mp} {H : Hp} {t : String} {d : D} {v : V} (R : RelX X G fls st m H) (r : RepX X G m H d v) (e : tyD (view st d) = some t) : TyX X.K H v (.type t) := by
  cases r with
  | non => cases e; exact .base .non
  | bl b => cases e; exact .base (.bl b)
  | int i => cases e; exact .base (.int i)
  | str h => cases e; exact .base (.str _)
  | tup n h r => cases e; exact .base (.tup h)
  | tk h r => cases e; obtain ⟨⟨o, its, n, h1, h2, _⟩, _⟩ := h; exact .kTuple h1 h2
  | lst n h r => cases e; exact .base (.lst h)
  | fz n h r => cases e; exact .base (.frz h)
  | fzK h r => cases e; obtain ⟨o, its, n, h1, h2, _⟩ := h; exact .kList h1 h2
  | dk n h r => cases e; exact .base (.dK h)
  | dt n h r => cases e; exact .base (.dT h)
  | @ref n p h =>
    unfold view at e
    simp only at e
    cases hs : st[n]? with
    | none => rw [hs] at e; cases e; have := R.len; have h2 := (List.getElem?_eq_some_iff.mp h).1; rw [List.getElem?_eq_none_iff] at hs; omega
    | some c =>
      rw [hs] at e
      obtain ⟨o, h1, h2⟩ := R.cell n c p hs h
      cases h2 with
      | lst r => cases e; exact .base (.lst h1)
      | dk r => cases e; exact .base (.dK h1)
      | dt r => cases e; exact .base (.dT h1)
      | ins _ _ r => cases e
      | lkK r => cases e
      | lkT r => cases e
  | fn _ _ => cases e
  | ty n => cases e
theorem str_of_ok (t : String) : StrOk (Str.ofString t) := by
  rw [Str.ofString_eq_toList]
  show ((t.toList.map Char.toNat).toArray.all _) = true
  rw [List.all_toArray, List.all_eq_true]
  intro c hc
  obtain ⟨ch, _, rfl⟩ := List.mem_map.mp hc
  have := ch.valid
  apply decide_eq_true
  have h2 : ch.toNat = ch.val.toNat := rfl
  rw [h2]
  unfold UInt32.isValidChar Nat.isValidChar at this
  omega
theorem str_int_ok (i : Int) : StrOk (toString i : Str) := str_of_ok _
theorem RepK.len {K : PySem.W.Frag} {mg : Str → Option Value} {G : Prog} {m : Mp} {H : Hp} : ∀ {ds : List (Key × D)} {kvs : List (Key × V)}, RepK K mg G m H ds kvs → ds.length = kvs.length
  | _, _, .nil => rfl
  | _, _, .cons _ r => by rw [List.length_cons, List.length_cons, r.len]
theorem RepT.len {K : PySem.W.Frag} {mg : Str → Option Value} {G : Prog} {m : Mp} {H : Hp} : ∀ {ds : List (List Key × D)} {kvs : List (List Key × V)}, RepT K mg G m H ds kvs → ds.length = kvs.length
  | _, _, .nil => rfl
  | _, _, .cons _ r => by rw [List.length_cons, List.length_cons, r.len]
theorem call_len_dK {X : Cx} : CallR X (.builtin "len") (fun xs H Q => ∃ (p : Addr) (kvs : List (Key × V)), xs = [.ref p] ∧ H p = some (.dK kvs) ∧ Q (.int ((kvs.length : Nat) : Int)) H) := by
  intro pins s σ H xs us Q I r h
  obtain ⟨p, kvs, rfl, hp, q⟩ := h
  obtain ⟨u, rfl, rx⟩ := vals1 r
  obtain rfl : u = .ref p := rx
  exact d_len I (.inl hp) fun t s' I' => ⟨.int ((kvs.length : Nat) : Int), H, I', ⟨_, rfl⟩, q⟩
theorem biD_ok {n : Bi} {as : List D} (hc : X.calm = true) (hu : X.A.units + 65 < cLine) (e : biD st n as = some d) : ∃ r, CallR X (biVal n) r ∧
    ∀ fls m H vs Q, RelX X G fls st m H → Reps X.K X.mg G m H as vs → QDX X G fls st m H d Q → r vs H Q := by
  unfold biD at e
  split at e
  · -- len
    split at e
    · rename_i ev
      refine ⟨_, call_len, fun fls m H vs Q R rs q => ?_⟩
      obtain ⟨v, rfl, r⟩ := reps1 rs
      cases e
      obtain ⟨p, vs, rfl, hp, r1⟩ := R.lst r ev
      exact ⟨_, _, rfl, .inl ⟨_, SqL.of hp, rfl⟩, by rw [← r1.length]; exact QV.here q R (.int _)⟩
    · rename_i ev
      refine ⟨_, call_len, fun fls m H vs Q R rs q => ?_⟩
      obtain ⟨v, rfl, r⟩ := reps1 rs
      cases e
      obtain ⟨p, vs, rfl, hp, r1⟩ := R.tup r ev
      exact ⟨_, _, rfl, .inr ⟨_, SqT.of hp, rfl⟩, by rw [← r1.length]; exact QV.here q R (.int _)⟩
    · rename_i ev
      refine ⟨_, call_len, fun fls m H vs Q R rs q => ?_⟩
      obtain ⟨v, rfl, r⟩ := reps1 rs
      cases e
      obtain ⟨p, vs, rfl, hp, r1⟩ := R.fz r ev
      exact ⟨_, _, rfl, .inl ⟨_, hp, rfl⟩, by rw [← r1.length]; exact QV.here q R (.int _)⟩
    · rename_i ev
      refine ⟨_, call_len, fun fls m H vs Q R rs q => ?_⟩
      obtain ⟨v, rfl, r⟩ := reps1 rs
      cases e
      obtain ⟨p, vs, rfl, hp, r1⟩ := R.tk r ev
      exact ⟨_, _, rfl, .inr ⟨_, hp, rfl⟩, by rw [← r1.length]; exact QV.here q R (.int _)⟩
    · rename_i x ev
      split at e
      · rename_i hz
        refine ⟨_, call_len, fun fls m H vs Q R rs q => ?_⟩
        obtain ⟨v, rfl, r⟩ := reps1 rs
        cases e
        obtain ⟨rfl, _⟩ := R.str r ev
        exact ⟨_, _, rfl, ⟨by rw [← SZ_eq]; exact hz, rfl⟩, QV.here q R (.int _)⟩
      · cases e
    · rename_i kvs ev
      refine ⟨_, call_len_dK, fun fls m H vs Q R rs q => ?_⟩
      obtain ⟨v, rfl, r⟩ := reps1 rs
      cases e
      obtain ⟨p, vs, rfl, hp, r1⟩ := R.dk r ev
      exact ⟨_, _, rfl, hp, by rw [← r1.len]; exact QV.here q R (.int _)⟩
    · rename_i kvs ev
      refine ⟨_, call_len_dT, fun fls m H vs Q R rs q => ?_⟩
      obtain ⟨v, rfl, r⟩ := reps1 rs
      cases e
      obtain ⟨p, vs, rfl, hp, r1⟩ := R.dt r ev
      exact ⟨_, _, rfl, hp, by rw [← r1.len]; exact QV.here q R (.int _)⟩
    · cases e
  · cases e
    refine ⟨_, call_abs, fun fls m H vs Q R rs q => ?_⟩
    obtain ⟨v, rfl, r⟩ := reps1 rs
    cases r
    exact ⟨_, rfl, QV.here q R (.int _)⟩
  · cases e
    refine ⟨_, call_int1, fun fls m H vs Q R rs q => ?_⟩
    obtain ⟨v, rfl, r⟩ := reps1 rs
    cases r
    exact .inl ⟨_, rfl, QV.here q R (.int _)⟩
  · cases e
    refine ⟨_, call_int1, fun fls m H vs Q R rs q => ?_⟩
    obtain ⟨v, rfl, r⟩ := reps1 rs
    cases r
    exact .inr ⟨_, rfl, QV.here q R (.int _)⟩
  · -- tuple
    refine ⟨_, call_tuple_of, fun fls m H vs Q R rs q => ?_⟩
    obtain ⟨v, rfl, r⟩ := reps1 rs
    split at e
    · rename_i ev
      cases e
      obtain ⟨p, vs, rfl, hp, r1⟩ := R.lst r ev
      exact ⟨_, _, rfl, .inl ⟨SqL.of hp, fun l hl => QV.tup q R r1 hl⟩⟩
    · rename_i ev
      cases e
      have e2 := R.tupS r ev
      obtain ⟨p, vs, rfl, hp, r1⟩ := R.tup r ev
      exact ⟨_, _, rfl, .inr ⟨SqT.of hp, QV.here q R (e2 ▸ r)⟩⟩
    · cases e
  · -- list
    refine ⟨_, call_list_of, fun fls m H vs Q R rs q => ?_⟩
    obtain ⟨v, rfl, r⟩ := reps1 rs
    split at e
    · rename_i ev
      cases e
      obtain ⟨p, vs, rfl, hp, r1⟩ := R.lst r ev
      exact ⟨_, _, rfl, .inl (SqL.of hp), fun l hl => QF.lst q R r1 hl⟩
    · rename_i ev
      cases e
      obtain ⟨p, vs, rfl, hp, r1⟩ := R.tup r ev
      exact ⟨_, _, rfl, .inr (SqT.of hp), fun l hl => QF.lst q R r1 hl⟩
    · cases e
  · -- all
    refine ⟨_, cr_all hc, fun fls m H vs Q R rs q => ?_⟩
    obtain ⟨v, rfl, r⟩ := reps1 rs
    split at e
    · rename_i ev
      simp only [Option.map_eq_some_iff] at e
      obtain ⟨bs, eb, rfl⟩ := e
      obtain ⟨p, vs, rfl, hp, r1⟩ := R.lst r ev
      have := bools_rep eb r1
      subst this
      exact ⟨_, bs, rfl, SqL.of hp, QV.here q R (.bl _)⟩
    · cases e
  · -- any
    refine ⟨_, cr_any hc, fun fls m H vs Q R rs q => ?_⟩
    obtain ⟨v, rfl, r⟩ := reps1 rs
    split at e
    · rename_i ev
      simp only [Option.map_eq_some_iff] at e
      obtain ⟨bs, eb, rfl⟩ := e
      obtain ⟨p, vs, rfl, hp, r1⟩ := R.lst r ev
      have := bools_rep eb r1
      subst this
      exact ⟨_, bs, rfl, SqL.of hp, QV.here q R (.bl _)⟩
    · cases e
  · cases e
    refine ⟨_, call_min2 hc, fun fls m H vs Q R rs q => ?_⟩
    obtain ⟨v, u, rfl, r, r'⟩ := reps2 rs
    cases r; cases r'
    exact ⟨_, _, rfl, QV.here q R (.int _)⟩
  · cases e
    refine ⟨_, call_max2 hc, fun fls m H vs Q R rs q => ?_⟩
    obtain ⟨v, u, rfl, r, r'⟩ := reps2 rs
    cases r; cases r'
    exact ⟨_, _, rfl, QV.here q R (.int _)⟩
  · -- min
    split at e
    · rename_i ev
      split at e
      · rename_i x rr eb
        cases e
        refine ⟨_, cr_min hc, fun fls m H vs Q R rs q => ?_⟩
        obtain ⟨v, rfl, r⟩ := reps1 rs
        obtain ⟨p, vs, rfl, hp, r1⟩ := R.lst r ev
        have := ints_rep eb r1
        subst this
        refine ⟨_, x :: rr, rfl, SqL.of hp, by simp, fun k hk hle => ?_⟩
        have e2 : k = imin x rr := Int.le_antisymm (hle _ (imin_mem rr x)) (imin_le rr x k hk)
        rw [e2]; exact QV.here q R (.int _)
      · cases e
      · split at e
        · rename_i x rr eb
          cases e
          refine ⟨_, EvSet.cr_minTx hc hu, fun fls m H vs Q R rs q => ?_⟩
          obtain ⟨v, rfl, r⟩ := reps1 rs
          obtain ⟨p, vs, rfl, hp, r1⟩ := R.lst r ev
          obtain ⟨e3, hok⟩ := strs_rep eb r1
          subst e3
          exact ⟨_, x, rr, rfl, SqL.of hp, QV.here q R (.str (hok _ (smin_mem rr x)))⟩
        · cases e
    · cases e
  · -- max
    split at e
    · rename_i ev
      split at e
      · rename_i x rr eb
        cases e
        refine ⟨_, cr_max hc, fun fls m H vs Q R rs q => ?_⟩
        obtain ⟨v, rfl, r⟩ := reps1 rs
        obtain ⟨p, vs, rfl, hp, r1⟩ := R.lst r ev
        have := ints_rep eb r1
        subst this
        refine ⟨_, x :: rr, rfl, SqL.of hp, by simp, fun k hk hle => ?_⟩
        have e2 : k = imax x rr := Int.le_antisymm (imax_ge rr x k hk) (hle _ (imax_mem rr x))
        rw [e2]; exact QV.here q R (.int _)
      · cases e
      · split at e
        · rename_i x rr eb
          cases e
          refine ⟨_, EvSet.cr_maxTx hc hu, fun fls m H vs Q R rs q => ?_⟩
          obtain ⟨v, rfl, r⟩ := reps1 rs
          obtain ⟨p, vs, rfl, hp, r1⟩ := R.lst r ev
          obtain ⟨e3, hok⟩ := strs_rep eb r1
          subst e3
          exact ⟨_, x, rr, rfl, SqL.of hp, QV.here q R (.str (hok _ (smax_mem rr x)))⟩
        · cases e
    · cases e
  · -- sum
    split at e
    · rename_i ev
      refine ⟨_, cr_sum hc, fun fls m H vs Q R rs q => ?_⟩
      obtain ⟨v, rfl, r⟩ := reps1 rs
      simp only [Option.map_eq_some_iff] at e
      obtain ⟨bs, eb, rfl⟩ := e
      obtain ⟨p, vs, rfl, hp, r1⟩ := R.lst r ev
      have := ints_rep eb r1
      subst this
      exact ⟨_, bs, rfl, SqL.of hp, QV.here q R (.int _)⟩
    · rename_i ev
      refine ⟨_, EvSet.cr_sumT hc, fun fls m H vs Q R rs q => ?_⟩
      obtain ⟨v, rfl, r⟩ := reps1 rs
      simp only [Option.map_eq_some_iff] at e
      obtain ⟨bs, eb, rfl⟩ := e
      obtain ⟨p, vs, rfl, hp, r1⟩ := R.tup r ev
      have := ints_rep eb r1
      subst this
      exact ⟨_, bs, rfl, SqT.of hp, QV.here q R (.int _)⟩
    · cases e
  · -- sorted
    split at e
    · rename_i ev
      split at e
      · rename_i bs eb
        cases e
        refine ⟨_, cr_sortedI, fun fls m H vs Q R rs q => ?_⟩
        obtain ⟨v, rfl, r⟩ := reps1 rs
        obtain ⟨p, vs, rfl, hp, r1⟩ := R.lst r ev
        have := ints_rep eb r1
        subst this
        refine ⟨_, bs, rfl, SqL.of hp, fun ns' p' hp1 hs1 hn => ?_⟩
        have e2 : ns' = isort bs := sorted_unique (hp1.trans (isort_perm bs).symm) hs1 (isort_pair bs)
        rw [e2]
        exact QF.lst q R (Reps.ints _) hn
      · split at e
        · rename_i bs eb
          cases e
          refine ⟨_, EvSet.cr_sortTx, fun fls m H vs Q R rs q => ?_⟩
          obtain ⟨v, rfl, r⟩ := reps1 rs
          obtain ⟨p, vs, rfl, hp, r1⟩ := R.lst r ev
          obtain ⟨e3, hok⟩ := strs_rep eb r1
          subst e3
          refine ⟨_, bs, rfl, SqL.of hp, fun ys p' hp1 hs1 hn => ?_⟩
          have e2 : ys = tsort bs := tsort_unique hp1 hs1
          rw [e2]
          exact QF.lst q R (Reps.strs fun x hx => hok x ((tsort_perm bs).subset hx)) hn
        · simp only [Option.map_eq_some_iff] at e
          obtain ⟨bs, eb, rfl⟩ := e
          refine ⟨_, cr_sortedPO, fun fls m H vs Q R rs q => ?_⟩
          obtain ⟨v, rfl, r⟩ := reps1 rs
          obtain ⟨p, vs, rfl, hp, r1⟩ := R.lst r ev
          obtain ⟨hall, hmap⟩ := prs_rep eb r1
          refine ⟨_, vs, prK H, rfl, SqL.of hp, fun x hx => (hall x hx).1, fun ys p' hs1 hb1 hn => ?_⟩
          have hperm := hb1.perm
          have e2 : ys.map (prK H) = prsort bs := prs_unique (by rw [← hmap]; exact hperm.map _) hs1
          have hr := prs_reps (K := X.K) (mg := X.mg) (G := G) (m := m) (H := H) (ys := ys) fun x hx => hall x (hperm.mem_iff.mp hx)
          rw [e2] at hr
          exact QF.lst q R hr hn
    · cases e
  · -- str
    split at e
    · rename_i hz
      cases e
      refine ⟨_, call_str_int, fun fls m H vs Q R rs q => ?_⟩
      obtain ⟨v, rfl, r⟩ := reps1 rs
      cases r
      exact ⟨_, rfl, hz, QV.here q R (.str (str_int_ok _))⟩
    · cases e
  · -- ord
    split at e
    · rename_i hz
      cases e
      refine ⟨_, call_ord, fun fls m H vs Q R rs q => ?_⟩
      obtain ⟨v, rfl, r⟩ := reps1 rs
      cases r
      exact ⟨_, rfl, hz, QV.here q R (.int _)⟩
    · cases e
  · -- isinstance
    rename_i d0 t
    refine ⟨_, call_isi, fun fls m H vs Q R rs q => ?_⟩
    obtain ⟨v, u, rfl, r, r'⟩ := reps2 rs
    simp only [Option.bind_eq_some_iff, Option.map_eq_some_iff] at e
    obtain ⟨n, e1, b, e2, rfl⟩ := e
    cases r'
    exact ⟨v, _, _, _, b, rfl, .ty t, tyD_ok R r e1, kit_ty e2, QV.here q R (.bl _)⟩
  · cases e

theorem slcD_ok {x : D} {lo hi : Option Int} (e : slcD st x lo hi = some d) : ∃ r, SlR X r ∧
    ∀ fls m H v Q, RelX X G fls st m H → RepX X G m H x v → QDX X G fls st m H d Q → r v lo hi H Q := by
  unfold slcD at e
  split at e
  · rename_i xs ev
    cases e
    refine ⟨_, sl_list, fun fls m H v Q R r q => ?_⟩
    obtain ⟨p, vs, rfl, hp, r1⟩ := R.lst r ev
    refine ⟨_, _, rfl, SqL.of hp, fun p' hn => ?_⟩
    have r2 : Reps X.K X.mg G m H (cutD xs lo hi) (cutV vs lo hi) := by
      unfold cutD cutV
      rw [r1.length]
      exact (r1.drop _).take _
    exact QF.lst q R r2 hn
  · rename_i xs ev
    cases e
    refine ⟨_, sl_tupA, fun fls m H v Q R r q => ?_⟩
    have e2 := R.tupS r ev
    obtain ⟨p, vs, rfl, hp, r1⟩ := R.tup r ev
    have r2 : Reps X.K X.mg G m H (cutD xs lo hi) (cutV vs lo hi) := by
      unfold cutD cutV
      rw [r1.length]
      exact (r1.drop _).take _
    refine ⟨_, _, rfl, SqT.of hp, fun hw => ?_, fun _ p' hn => QV.tup q R r2 hn⟩
    have e3 : cutD xs lo hi = xs := by
      unfold cutD
      rw [r1.length, hw.1, hw.2, ← r1.length]
      simp
    rw [e3] at q
    exact QV.here q R (e2 ▸ r)
  · cases e
end
end Ev

set_option Elab.async false
set_option linter.all false
set_option maxRecDepth 100000
set_option maxHeartbeats 4000000
/-! Ev, part 6b: exceptions over a frame. -/
namespace Ev
open PySem L2 PySem.Spec
open PyProof.Rows hiding St

/-- an exception over X's frame: out of a call, or noted by the frame already -/
def XG (X : Cx) (W : WX) (u : Value) (s' : Shared) : Prop :=
  ∃ (a : Addr) (B : Heap) (sI : Shared) (pins : List (Addr × Obj)) (σ : St) (H : Hp) (cls : Value) (d : Option Addr) (L : Addr),
    u = .ref a ∧ X.env.frame = some L ∧ Inv X pins σ H sI ∧ (∀ b o, sI.heap.get? b = some o → b ∉ frs X.stack → B.get? b = some o) ∧ sI.heap.UpToSlots s'.heap ∧
      (HandSPX.FlyingZ B X.stack a (Zc cls d) s'.heap ∨ HandSPX.HeldZ B X.stack a (Zc cls d) L s'.heap) ∧ H a = none ∧ s'.os = sI.os ∧ AllBare s'.gens ∧ W cls d σ H
def TakesG (X : Cx) (W : WX) : Prop := ∀ u s', XG X W u s' → X.xe u s'
/-- the frame that X runs in -/
def InFrame (X : Cx) : Prop := ∃ env0 l L, X.stack = env0 :: l ∧ env0.frame = some L ∧ X.env.frame = some L
theorem takesG_of {X : Cx} {W : WX} (tk : Takes X W) (hf : X.env.frame = some X.env.locals) : TakesG X W := fun u s' ⟨a, B, sI, pins, σ, H, cls, d, L, e, f, I, nb, up, sky, r⟩ => by
  rw [hf] at f
  cases f
  exact tk u s' ⟨a, B, sI, pins, σ, H, cls, d, e, I, nb, up, .inr sky, r⟩
theorem takesG_none {X : Cx} : TakesG X (fun _ _ _ _ => False) := fun u s' ⟨a, B, sI, pins, σ, H, cls, d, L, e, f, I, nb, up, sky, na, os, ag, w⟩ => w.elim
section
variable {X : Cx} {pins : List (Addr × Obj)} {σ : St} {H : Hp} {sI s s' : Shared} {B : Heap} {W : WX} {E : XK}
/-- a call's exception -/
theorem XG.of_call {L : Addr} (hf : X.env.frame = some L) (I : Inv X pins σ H s) (hW : ∀ cls d H', E cls d H' → W cls d σ H') {u : Value} (c : CX X.prog X.w X.stack H s E u s') : XG X W u s' := by
  obtain ⟨a, B, H', cls, d, rfl, fl, hok, ub, na, os, ag, hE⟩ := c
  obtain ⟨G, g1, g2⟩ := restrict s'.heap fun b => (B.get? b).isSome || decide (b ∈ frs X.stack)
  have st : B.StaysIn s'.heap := fl.1
  have gB : ∀ b o, B.get? b = some o → G.get? b = some o := fun b o e => by
    rw [g1 b (by simp [e])]
    exact st b o e
  have gF : ∀ b, b ∈ frs X.stack → G.get? b = s'.heap.get? b := fun b hb => g1 b (by simp [hb])
  have og : ∀ b o, G.get? b = some o → s'.heap.get? b = some o ∧ ((B.get? b).isSome = true ∨ b ∈ frs X.stack) := fun b o e => by
    cases q : ((B.get? b).isSome || decide (b ∈ frs X.stack)) with
    | false => rw [g2 b q] at e; cases e
    | true =>
      rw [g1 b q] at e
      exact ⟨e, by simpa [Bool.or_eq_true] using q⟩
  refine ⟨a, B, { s with heap := G, gens := s'.gens, drawn := s'.drawn, toks := s'.toks }, pins, σ, H', cls, d, L, rfl, hf, ?_, fun b o e hb => ?_, Heap.UpToSlots.of_keeps fun b o e => (og b o e).1, .inl fl, na, os, ag, hW _ _ _ hE⟩
  · refine I.call (ch := []) ⟨fun b o e n hb _ => gB b o (ub.keep b o e n hb), fun b o e n hb _ => ?_, fun b o e n _ => ub.free b o e n, fun b o e _ => ?_, ub.tups, ub.frzs, ub.tbls⟩ (hok.kept gB) ag (fun _ z => nomatch z)
    · obtain ⟨sl, q⟩ := ub.slot b o e hb
      exact ⟨sl, by rw [gF b hb]; exact q⟩
    · by_cases hb : b ∈ frs X.stack
      · obtain ⟨sl, q⟩ := ub.slot b o e hb
        exact ⟨_, by rw [gF b hb]; exact q⟩
      · obtain ⟨o', q⟩ := ub.there b o e hb
        exact ⟨o', gB b o' q⟩
  · obtain ⟨e', h⟩ := og b o e
    rcases h with h | h
    · obtain ⟨o', q⟩ := Option.isSome_iff_exists.mp h
      have z := st b o' q
      rw [e'] at z; cases z
      exact q
    · exact absurd h hb
theorem passAtG (tk : TakesG X W) (inF : InFrame X) (σ : St) : PassesAt (L2.CX X.prog X.w) X σ (WE W σ) := fun _ _ _ e s' I c => by
  obtain ⟨_, _, L, _, _, hf⟩ := inF
  exact tk e s' (XG.of_call hf I (fun _ _ _ h => h) c)
end
end Ev

set_option Elab.async false
set_option linter.all false
set_option maxRecDepth 100000
set_option maxHeartbeats 4000000
/-! Ev, part 7: own syntax stands for the program's text. -/
namespace Ev
open PySem L2 PySem.Spec
open PyProof.Rows hiding St

def visB (sc : Scope) (x : Str) : Bool := match sc.names.lookup x with
  | some .local => true | some .cell => true | some .free => true | _ => false
def locB (sc : Scope) (x : Str) : Bool := match sc.names.lookup x with
  | some .local => true | some .cell => true | _ => false
def lclB (sc : Scope) (x : Str) : Bool := match sc.names.lookup x with
  | some .local => true | _ => false
def gloB (sc : Scope) (x : Str) : Bool := match sc.names.lookup x with
  | some .globalImplicit => true | _ => false
def nameB (x : Str) : Bool := (x == ("__debug__" : Str)) == false && (x == ("__classdict__" : Str)) == false && !decide (x = "__name__")
/-- a text's codes are codes -/
def strB (x : Str) : Bool := x.cps.all fun c => decide (c < 0x110000)
def plB : Expr → Bool
  | .Starred _ _ => false
  | .Set _ _ _ => false
  | .Slice _ _ _ _ => false
  | .NamedExpr _ _ _ => false
  | .Lambda _ _ _ _ => false
  | .Yield _ _ => false
  | .YieldFrom _ _ => false
  | .Await _ _ => false
  | .GeneratorExp _ _ _ _ => false
  | .SetComp _ _ _ _ => false
  | _ => true

/-- one target: a name's slot -/
def emT1 (N : List Str) (ok : Str → Bool) (i : Nat) (e : Expr) : Bool := match e with
  | .Name x _ => decide (N[i]? = some x) && ok x
  | _ => false
def emTs (N : List Str) (ok : Str → Bool) : List Nat → List Expr → Bool
  | [], [] => true
  | i :: is, e :: es => emT1 N ok i e && emTs N ok is es
  | _, _ => false
def emTg (N : List Str) (ok : Str → Bool) (t : Tg) (e : Expr) : Bool := match t with
  | .one i => emT1 N ok i e
  | .many is => match e with
    | .Tuple es _ _ => emTs N ok is es
    | _ => false
def tgIx : Tg → List Nat
  | .one i => [i]
  | .many is => is
/-- the names of a comprehension's own slots -/
def ownN (N : List Str) : List Nat → List (Str × Nat)
  | [] => []
  | i :: is => match N[i]? with
    | some x => (x, i) :: ownN N is
    | none => ownN N is

def bmName : Bm → Str
  | .append => "append" | .extend => "extend" | .index => "index" | .get1 => "get" | .get2 => "get" | .join => "join" | .pop2 => "pop" | .bitlen => "bit_length"
/-- the built-in types that stand by their names -/
def tyNames : List (String × Str) := [("int", "int"), ("str", "str"), ("list", "list"), ("tuple", "tuple"), ("dict", "dict"), ("bool", "bool")]
/-- no call of super -/
def baseB : Expr → Bool
  | .Call (.Name _ _) [] [] _ => false
  | _ => true
mutual
/-- may stand as a test -/
def tsOk : Ex → Bool
  | .var _ => true
  | .call _ _ => true
  | .callv _ _ => true
  | .bi _ _ => true
  | .bm _ _ _ => true
  | .meth _ _ _ _ => true
  | .idx _ _ => true
  | .attr _ _ => true
  | .nt a => tsOk a
  | .andE as => tsOks as
  | .orE as => tsOks as
  | .cmp _ _ _ => true
  | .chain _ _ _ _ _ => true
  | .isN _ => true
  | .notN _ => true
  | .isB _ _ => true
  | .notB _ _ => true
  | .badE => true
  | .chain3 _ _ _ _ _ _ _ => true
  | _ => false
def tsOks : Exs → Bool
  | .nil => true
  | .cons a r => tsOk a && tsOks r
end
/-- it makes a new thing -/
def isF : Ex → Bool
  | .bin _ _ _ => true
  | .lstE _ => true
  | .lc _ _ _ _ _ => true
  | .slc _ _ _ => true
  | .bi .list _ => true
  | .bi .sorted _ => true
  | .sset _ => true
  | .sortK _ _ => true
  | .dc _ _ _ _ _ _ => true
  | .dic0 _ => true
  | .dicE _ => true
  | .listR _ => true
  | _ => false

section
variable (G : Prog) (N : List Str)
mutual
def emE : Ex → Scope → Expr → Bool
  | .non, sc, e => match e with
    | .Constant .none _ _ => true
    | _ => false
  | .bool b, sc, e => match e with
    | .Constant (.bool c) _ _ => b == c
    | _ => false
  | .int i, sc, e => match e with
    | .Constant (.int j) _ _ => decide (i = j)
    | _ => false
  | .str x, sc, e => match e with
    | .Constant (.str y) _ _ => decide (x = y) && strB x
    | _ => false
  | .var i, sc, e => match e with
    | .Name x _ => decide (N[i]? = some x) && visB sc x && nameB x
    | _ => false
  | .gf f, sc, e => match e with
    | .Name x _ => decide ((G.fns[f]?).map (·.name) = some x) && gloB sc x && nameB x && decide ((G.fns[f]?).map (·.glob) = some true)
    | _ => false
  | .gc c, sc, e => match e with
    | .Name x _ => decide ((G.cons[c]?).map (·.1) = some x) && gloB sc x && nameB x
    | _ => false
  | .tyE n, sc, e => match e with
    | .Name x _ => tyNames.any (fun t => decide (t.1 = n) && decide (x = t.2)) && gloB sc x
    | _ => false
  | .bin op a b, sc, e => match e with
    | .BinOp ea o eb _ => decide (o = opOf op) && emE a sc ea && emE b sc eb
    | _ => false
  | .neg a, sc, e => match e with
    | .UnaryOp .USub ea _ => emE a sc ea
    | _ => false
  | .nt a, sc, e => match e with
    | .UnaryOp .Not ea _ => emE a sc ea
    | _ => false
  | .andE as, sc, e => match e with
    | .BoolOp .And es _ => emEs as sc es && !es.isEmpty
    | _ => false
  | .orE as, sc, e => match e with
    | .BoolOp .Or es _ => emEs as sc es && !es.isEmpty
    | _ => false
  | .cmp op a b, sc, e => match e with
    | .Compare ea [o] [eb] _ => decide (o = copOf op) && emE a sc ea && emE b sc eb && plB eb && (behindInMarks o eb == false)
    | _ => false
  | .chain op op2 a b c, sc, e => match e with
    | .Compare ea [o, o2] [eb, ec] _ => decide (o = copOf op) && decide (o2 = copOf op2) && emE a sc ea && emE b sc eb && emE c sc ec && (lastMarks [o, o2] [eb, ec] == false)
    | _ => false
  | .isN a, sc, e => match e with
    | .Compare ea [.Is] [.Constant .none _ _] _ => emE a sc ea
    | _ => false
  | .notN a, sc, e => match e with
    | .Compare ea [.IsNot] [.Constant .none _ _] _ => emE a sc ea
    | _ => false
  | .isB a b, sc, e => match e with
    | .Compare ea [.Is] [.Constant (.bool c) _ _] _ => emE a sc ea && (b == c)
    | _ => false
  | .notB a b, sc, e => match e with
    | .Compare ea [.IsNot] [.Constant (.bool c) _ _] _ => emE a sc ea && (b == c)
    | _ => false
  | .call f as, sc, e => match e with
    | .Call (.Name x _) es [] _ => decide ((G.fns[f]?).map (·.name) = some x) && gloB sc x && nameB x && emEs as sc es && !es.isEmpty && decide ((G.fns[f]?).map (·.np) = some es.length) && decide ((G.fns[f]?).map (·.glob) = some true)
    | _ => false
  | .callv i as, sc, e => match e with
    | .Call (.Name x _) es [] _ => decide (N[i]? = some x) && visB sc x && nameB x && emEs as sc es && !es.isEmpty
    | _ => false
  | .bi n as, sc, e => match e with
    | .Call (.Name x _) es [] _ => decide (x = biName n) && gloB sc x && emEs as sc es && !es.isEmpty
    | _ => false
  | .listR s, sc, e => match e with
    | .Call (.Name x _) [er] [] _ => decide (x = "list") && gloB sc x && (match s with
      | .rng1 a => (match er with
        | .Call (.Name y _) [ea] [] _ => decide (y = "range") && gloB sc y && emE a sc ea && plB ea
        | _ => false)
      | .rng2 a b => (match er with
        | .Call (.Name y _) [ea, eb] [] _ => decide (y = "range") && gloB sc y && emE a sc ea && plB ea && emE b sc eb && plB eb
        | _ => false)
      | .seq _ => false
      | .rev _ => false
      | .cel _ => false
      | .kys _ => false
      | .rng3 _ _ _ => false)
    | _ => false
  | .bm m o as, sc, e => match e with
    | .Call (.Attribute eo name apos) es [] cpos => decide (name = bmName m) && emE o sc eo && baseB eo && (apos.endLine == cpos.line) && emEs as sc es && !es.isEmpty && decide (es.length < 30)
    | _ => false
  | .meth c m o as, sc, e => match e with
    | .Call (.Attribute eo name apos) es [] cpos => decide (name = m) && emE o sc eo && baseB eo && (apos.endLine == cpos.line) && emEs as sc es && decide (es.length < 30) && (mthOf G c m).isSome
    | _ => false
  | .mk c as, sc, e => match e with
    | .Call (.Name x _) es [] _ => decide ((G.clss[c]?).map (·.1) = some x) && gloB sc x && nameB x && emEs as sc es && !es.isEmpty && (mthOf G c "__init__").isSome
    | _ => false
  | .attr o f, sc, e => match e with
    | .Attribute eo name _ => decide (name = f) && emE o sc eo && baseB eo
    | _ => false
  | .badE, sc, e => true
  | .chain3 op op2 op3 a b c d, sc, e => match e with
    | .Compare ea [o, o2, o3] [eb, ec, ed] _ => decide (o = copOf op) && decide (o2 = copOf op2) && decide (o3 = copOf op3) && emE a sc ea && emE b sc eb && emE c sc ec && emE d sc ed && (lastMarks [o, o2, o3] [eb, ec, ed] == false)
    | _ => false
  | .dixg c i d, sc, e => match e with
    | .Call (.Attribute (.Name x _) name apos) [ei, ed] [] cpos => decide (name = "get") && decide ((G.dics[c]?).map (fun p => (p.1, p.2.isEmpty)) = some (x, false)) && gloB sc x && nameB x && emE i sc ei && plB ei && emE d sc ed && plB ed && (apos.endLine == cpos.line)
    | _ => false
  | .dget1 o k, sc, e => match e with
    | .Call (.Attribute eo name apos) [ek] [] cpos => decide (name = "get") && emE o sc eo && baseB eo && emE k sc ek && plB ek && (apos.endLine == cpos.line)
    | _ => false
  | .dget2 o k d, sc, e => match e with
    | .Call (.Attribute eo name apos) [ek, ed] [] cpos => decide (name = "get") && emE o sc eo && baseB eo && emE k sc ek && plB ek && emE d sc ed && plB ed && (apos.endLine == cpos.line)
    | _ => false
  | .tix o v, sc, e => match e with
    | .Call (.Attribute eo name apos) [ev] [] cpos => decide (name = "index") && emE o sc eo && baseB eo && emE v sc ev && plB ev && (apos.endLine == cpos.line)
    | _ => false
  | .idx o i, sc, e => match e with
    | .Subscript eo ei _ => emE o sc eo && emE i sc ei && plB ei
    | _ => false
  | .slc o lo hi, sc, e => match e with
    | .Subscript eo (.Slice l h none _) _ => emE o sc eo && emO lo sc l && emO hi sc h
    | _ => false
  | .tupE as, sc, e => match e with
    | .Tuple es _ _ => emEs as sc es && decide (es.length ≤ 1000)
    | _ => false
  | .lstE as, sc, e => match e with
    | .List es _ => emEs as sc es && decide (es.length ≤ 1000)
    | _ => false
  | .dicE ps, sc, e => match e with
    | .Dict ks vs _ => emPs ps sc ks vs && decide (ks.length ≤ 15) && !ks.isEmpty
    | _ => false
  | .dic0 t, sc, e => match e with
    | .Dict [] [] _ => true
    | _ => false
  | .lc elt tg src test own, sc, e => match e with
    | .ListComp eelt [⟨etg, eit, eifs, 0⟩] scope _ =>
      emE elt (relS scope sc) eelt && emTg N (locB scope) tg etg && emI src sc eit && emEs test (relS scope sc) eifs && tsOks test && plB eit && decide (eifs.length ≤ 1) &&
        blkC N sc scope (ownN N own) && (tgIx tg).all (own.contains ·) && decide ((ownN N own).map (·.2) = own)
    | _ => false
  | .box a, sc, e => isF a && emE a sc e
  | .ite c a b, sc, e => false
  | .bits a, sc, e => match e with
    | .Call (.Attribute eo name apos) [] [] cpos => decide (name = "bit_length") && emE a sc eo && baseB eo && (apos.endLine == cpos.line)
    | _ => false
  | .dix c i, sc, e => match e with
    | .Subscript (.Name x _) ei _ => decide ((G.dics[c]?).map (·.1) = some x) && gloB sc x && nameB x && emE i sc ei && plB ei
    | _ => false
  | .sset a, sc, e => match e with
    | .Call (.Name x _) [.Call (.Name y _) [ea] [] _] [] _ => decide (x = "sorted") && decide (y = "set") && gloB sc x && gloB sc y && emE a sc ea && plB ea
    | _ => false
  | .sortK f a, sc, e => match e with
    | .Call (.Name x _) [ea] [⟨some y, .Name g _, _⟩] _ => decide (x = "sorted") && decide (y = "key") && gloB sc x && emE a sc ea && plB ea && decide ((G.fns[f]?).map (·.name) = some g) && gloB sc g && nameB g &&
        decide ((G.fns[f]?).map (·.np) = some 1) && decide ((G.fns[f]?).map (·.glob) = some true)
    | _ => false
  | .orV a b, sc, e => match e with
    | .BoolOp .Or [ea, eb] _ => emE a sc ea && emE b sc eb
    | _ => false
  | .dc k v tg src test own, sc, e => match e with
    | .DictComp ek ev [⟨etg, eit, eifs, 0⟩] scope _ =>
      emE k (relS scope sc) ek && emE v (relS scope sc) ev && emTg N (locB scope) tg etg && emI src sc eit && emEs test (relS scope sc) eifs && tsOks test && plB eit && decide (eifs.length ≤ 1) &&
        blkC N sc scope (ownN N own) && (tgIx tg).all (own.contains ·) && decide ((ownN N own).map (·.2) = own)
    | _ => false
def emEs : Exs → Scope → List Expr → Bool
  | .nil, sc, es => match es with
    | [] => true
    | _ => false
  | .cons a r, sc, es => match es with
    | e :: es => emE a sc e && plB e && emEs r sc es
    | _ => false
def emPs : Prs → Scope → List (Option Expr) → List Expr → Bool
  | .nil, sc, ks, vs => match ks, vs with
    | [], [] => true
    | _, _ => false
  | .cons a b r, sc, ks, vs => match ks, vs with
    | some k :: ks, v :: vs => emE a sc k && emE b sc v && emPs r sc ks vs
    | _, _ => false
def emO : Exs → Scope → Option Expr → Bool
  | .nil, sc, e => match e with
    | none => true
    | _ => false
  | .cons a r, sc, e => match e with
    | some e => emE a sc e && (match r with | .nil => true | _ => false)
    | _ => false
def emI : Src → Scope → Expr → Bool
  | .rng1 a, sc, e => match e with
    | .Call (.Name x _) [ea] [] _ => decide (x = "range") && gloB sc x && emE a sc ea && plB ea
    | _ => false
  | .rng2 a b, sc, e => match e with
    | .Call (.Name x _) [ea, eb] [] _ => decide (x = "range") && gloB sc x && emE a sc ea && plB ea && emE b sc eb && plB eb
    | _ => false
  | .seq a, sc, e => emE a sc e && plB e
  | .cel a, sc, e => emE a sc e && plB e
  | .kys a, sc, e => emE a sc e && plB e
  | .rng3 a b c, sc, e => match e with
    | .Call (.Name x _) [ea, eb, ec] [] _ => decide (x = "range") && gloB sc x && emE a sc ea && plB ea && emE b sc eb && plB eb && emE c sc ec && plB ec
    | _ => false
  | .rev a, sc, e => match e with
    | .Call (.Name x _) [ea] [] _ => decide (x = "reversed") && gloB sc x && emE a sc ea && plB ea
    | _ => false
end
end

/-! ### what stands behind a call -/
/-- an exception lies in the heap as the error c with the fields fs -/
def ErrR (G : Prog) (mg : Str → Option Value) (m : Mp) (H : Hp) (c : Nat) (fs : List (Nat × D)) (cls : Value) (dd : Option Addr) : Prop :=
  ∃ p A, G.excs[c]? = some p ∧ mg p.1 = some (.ref A) ∧ cls = .ref A ∧ ((p.2.1 = false ∧ fs = [] ∧ dd = none) ∨ (p.2.1 = true ∧ ∃ i d, fs = [(0, .int i)] ∧ dd = some d ∧ H d = some (.xd [("index", .int i)]) ∧ ¬ m.live d))
/-- what is known of the own error classes -/
structure ExcF (K : PySem.W.Frag) (mg : Str → Option Value) (G : Prog) : Prop where
  one : ∀ (c : Nat) p, G.excs[c]? = some p → ∃ A, mg p.1 = some (.ref A) ∧ PySem.W.keepIn K (.ref A) = true ∧ (p.2.1 = false → PySem.W.excIn K A [.type "ValueError", .type "Exception", .type "BaseException", .type "object"] "ValueError.__new__" = true) ∧
    PySem.W.subIn K (.ref A) (.type "BaseException") = some true ∧ PySem.W.typeIn K (.ref A) = some (.type "type") ∧ ExcC K A
  two : ∀ (c : Nat) p (c' : Nat) p' A A', G.excs[c]? = some p → G.excs[c']? = some p' → mg p.1 = some (.ref A) → mg p'.1 = some (.ref A') → PySem.W.exmOne K (.ref A) (.ref A') = some (subB G c c') ∧ PySem.W.kitOne K (.ref A) (.ref A') = some (subB G c c')

/-- what is known of the own error classes that keep an index -/
def IxsF (P : Program) (K : PySem.W.Frag) (mg : Str → Option Value) (G : Prog) : Prop := ∀ (c : Nat) p, G.excs[c]? = some p → p.2.1 = true → ∃ A fI D fd, mg p.1 = some (.ref A) ∧ EvI.IxF P K fI D fd ∧ EvI.IxC K A D fI ∧ Binds K fd ["self", "index"] [] ∧ mg "super" = none
/-- the outcome of a run, as what is wanted -/
def Post {α : Type} (K : PySem.W.Frag) (mg : Str → Option Value) (G : Prog) (fls : List Nat) (m : Mp) (H : Hp) (E : XK) (o : Out α) (R : α → Sto → Prop) : Prop :=
  match o with
  | .ok d st => R d st
  | .exc c fs st => ∀ cls dd m' H', Ext m H m' H' → Rel K mg G fls st m' H' → ErrR G mg m' H' c fs cls dd → E cls dd H'
  | .bad => False

/-- the promise of a def: what run says -/
def spEv (K : PySem.W.Frag) (mg : Str → Option Value) (G : Prog) (C : Nat → Nat → List D → Sto → Out D) (f : Nat) (np : Nat) : Sp := fun vs H Q E =>
  ∃ ds fls st m fl, Rel K mg G fls st m H ∧ (∀ g ∈ fls, g ≤ fl) ∧ fl ≤ st.length ∧ Reps K mg G m H ds vs ∧ ds.length = np ∧
    Post K mg G fls m H E (C fl f ds st) fun d st' => QV K mg G fls st' m H d Q

/-- a dict of the module that has not this key -/
def KNo (K : PySem.W.Frag) (w : World) (a : Addr) (x : Str) : Prop := ∃ es n, K.lookup a = some ⟨.type "dict", none, .dict es n, #[]⟩ ∧ PySem.W.KeysLit w.params es.toList ∧ PySem.W.nsIn K a x = some none
/-- what a body's context must bear -/
structure XOk (G : Prog) (C : Nat → Nat → List D → Sto → Out D) (k : Nat) (W : WX) (N : List Str) (sc : Scope) (X : Cx) : Prop where
  n : X.N = N
  nd : X.N.Nodup
  sc : X.env.scope = sc
  calm : X.calm = true
  room : Room (3 * k + 2) X.A
  tk : TakesG X W
  inF : InFrame X
  blt : ∀ n, X.mg (biName n) = none
  rng : X.mg "range" = none
  rev : X.mg "reversed" = none
  tys : ∀ t ∈ tyNames, X.mg t.2 = none
  exc : ExcF X.K X.mg G
  ixs : IxsF X.prog X.K X.mg G
  fns : ∀ f F, G.fns[f]? = some F → F.glob = true → ∃ a fd ps, X.mg F.name = some (.ref a) ∧ PySem.W.keepIn X.K (.ref a) = true ∧ ps.length = F.np ∧ Binds X.K fd ps [] ∧
    FnOk X.prog X.w X.K X.mg X.base (CX X.prog X.w) (3 * k) a fd ps (spEv X.K X.mg G C f F.np)
  clss : ∀ (c : Nat) p, G.clss[c]? = some p → ∃ A, X.mg p.1 = some (.ref A) ∧ Cls X.K A ∧ PySem.W.makesIn X.K A = true ∧ PySem.W.keepIn X.K (.ref A) = true ∧ (∀ f, p.2.2.contains f = true → NoAttr X.K A f) ∧
    ∀ m f, p.2.1.lookup m = some f → ∃ F a fd ps, G.fns[f]? = some F ∧ Meth X.K A m a ∧ ps.length = F.np ∧ Binds X.K fd ps [] ∧ FnOk X.prog X.w X.K X.mg X.base (CX X.prog X.w) (3 * k) a fd ps (spEv X.K X.mg G C f F.np)
  cons : ∀ (c : Nat) (p : Str × D), G.cons[c]? = some p → ∃ u v, X.mg p.1 = some u ∧ RelV v u ∧ ∀ m H, Rep X.K X.mg G m H p.2 v
  dics : ∀ (c : Nat) (p : Str × List (Str × D)), G.dics[c]? = some p → ∃ a, X.mg p.1 = some (.ref a) ∧ (∀ z d, p.2.lookup z = some d → ∃ v, KDct X.K X.w a z v ∧ ∀ m H, Rep X.K X.mg G m H d v) ∧ ((a == sysModules) = false ∧ ∀ z, p.2.lookup z = none → KNo X.K X.w a z)
end Ev

set_option Elab.async false
set_option linter.all false
set_option maxRecDepth 100000
set_option maxHeartbeats 4000000
/-! Ev, part 8: expressions do what the evaluator says. -/
namespace Ev
open PySem L2 PySem.Spec
open PyProof.Rows hiding St

section
variable {K : PySem.W.Frag} {mg : Str → Option Value} {G : Prog} {fls : List Nat} {st : Sto} {m m1 : Mp} {H H1 : Hp}
theorem Ext.le (x : Ext m H m1 H1) : m.c.length ≤ m1.c.length := by
  by_cases h : m.c.length = 0
  · omega
  · have hl : m.c.length - 1 < m.c.length := by omega
    have := x.pre _ _ (List.getElem?_eq_getElem hl)
    have := (List.getElem?_eq_some_iff.mp this).1
    omega
theorem QV.ext {d : D} {Q : VK} (x : Ext m H m1 H1) (q : QV K mg G fls st m H d Q) : QV K mg G fls st m1 H1 d Q := fun v m' H' e R r => q v m' H' (x.trans e) R r
theorem QF.ext {d : D} {Q : VK} (x : Ext m H m1 H1) (q : QF K mg G fls st m H d Q) : QF K mg G fls st m1 H1 d Q := fun p o m' Hm e R n c => q p o m' Hm (x.trans e) R n c
theorem QD.ext {d : D} {Q : VK} (x : Ext m H m1 H1) (q : QD K mg G fls st m H d Q) : QD K mg G fls st m1 H1 d Q := by
  cases d <;> first | exact QV.ext x q | exact QF.ext x q
theorem Post.ext {α : Type} {E : XK} {o : Out α} {R : α → Sto → Prop} (x : Ext m H m1 H1) (h : Post K mg G fls m H E o R) : Post K mg G fls m1 H1 E o R := by
  cases o with
  | ok a s => exact h
  | exc c fs s => exact fun cls dd m' H' e R' r => h cls dd m' H' (x.trans e) R' r
  | bad => exact h
theorem Post.imp {α : Type} {E : XK} {o : Out α} {R R' : α → Sto → Prop} (h : Post K mg G fls m H E o R) (f : ∀ a s, R a s → R' a s) : Post K mg G fls m H E o R' := by
  cases o with
  | ok a s => exact f a s h
  | exc c fs s => exact h
  | bad => exact h
end

/-! ### rules joined -/
section
variable {X : Cx}
def rOp (X : Cx) (f : Value → Value → Sem Value) : R2 := fun v u H Q => ∃ r, OpR X f r ∧ r v u H Q
theorem opAny {f : Value → Value → Sem Value} : OpR X f (rOp X f) := fun pins s σ H x y v u Q I rx ry ⟨_, hr, h⟩ => hr pins s σ H x y v u Q I rx ry h
def rCall (X : Cx) (f : Value) : List V → Hp → VK → Prop := fun vs H Q => ∃ r, CallR X f r ∧ r vs H Q
theorem callAny {f : Value} : CallR X f (rCall X f) := fun pins s σ H vs us Q I rs ⟨_, hr, h⟩ => hr pins s σ H vs us Q I rs h
def rIx (X : Cx) : R2 := fun v u H Q => ∃ r, IxR X r ∧ r v u H Q
theorem ixAny : IxR X (rIx X) := fun value slice pins s σ H x y v u Q I rx ry ⟨_, hr, h⟩ hs => hr value slice pins s σ H x y v u Q I rx ry h hs
def rSl (X : Cx) : V → Option Int → Option Int → Hp → VK → Prop := fun v lo hi H Q => ∃ r, SlR X r ∧ r v lo hi H Q
theorem slAny : SlR X (rSl X) := fun pins s σ H x v vl vu lo hi sl Q I rx hs pl pu ⟨_, hr, h⟩ => hr pins s σ H x v vl vu lo hi sl Q I rx hs pl pu h
end

/-- a state of a body: what the evaluator knows of it -/
structure Stt (K : PySem.W.Frag) (mg : Str → Option Value) (G : Prog) (fl : Nat) (fls : List Nat) (st : Sto) (m : Mp) (H : Hp) (ρ : Env) (σ : St) : Prop where
  rel : Rel K mg G fls st m H
  flf : ∀ g ∈ fls, g ≤ fl
  fll : fl ≤ st.length
  env : EnvR K mg G m H ρ σ
/-- the items of a walk: J yields them one by one, while what is frozen stands -/
structure ItOk (K : PySem.W.Frag) (mg : Str → Option Value) (G : Prog) (src : Src) (J : It) (xs : List D) (m : Mp) (H : Hp) : Prop where
  go : ∀ fls st2 m2 H2, Grow m H m2 H2 → Fz H H2 → Rel K mg G fls st2 m2 H2 → ∀ (i : Nat) d d', (srcIts src xs)[i]? = some d → srcRes src st2 d = some d' → J.go i H2 ∧ ∀ v H3, J.yld i H2 v H3 → H3 = H2 ∧ Rep K mg G m2 H2 d' v
  stop : ∀ fls st2 m2 H2, Grow m H m2 H2 → Fz H H2 → Rel K mg G fls st2 m2 H2 → srcEnd src xs st2 = true → ∀ i : Nat, (srcIts src xs).length ≤ i → J.stop i H2
/-- a walk over what stays -/
theorem ItOk.of {K : PySem.W.Frag} {mg : Str → Option Value} {G : Prog} {src : Src} {J : It} {xs : List D} {m : Mp} {H : Hp} (hs : ∀ st x, srcRes src st x = some x ∧ ∀ xs, srcIts src xs = xs)
    (go : ∀ m2 H2, Grow m H m2 H2 → ∀ (i : Nat) d, xs[i]? = some d → J.go i H2 ∧ ∀ v H3, J.yld i H2 v H3 → H3 = H2 ∧ Rep K mg G m2 H2 d v) (stop : ∀ m2 H2, Grow m H m2 H2 → ∀ i : Nat, xs.length ≤ i → J.stop i H2) : ItOk K mg G src J xs m H :=
  ⟨fun _ st2 m2 H2 g _ _ i d d' e e' => by rw [(hs st2 d).1] at e'; rw [(hs st2 d).2] at e; cases e'; exact go m2 H2 g i d e, fun _ st2 m2 H2 g _ _ _ i h => by rw [(hs st2 .non).2] at h; exact stop m2 H2 g i h⟩
/-! ### the readings -/
section
variable (X : Cx) (G : Prog) (C : Nat → Nat → List D → Sto → Out D) (fl : Nat) (W : WX)
def tE (x : Ex) : TE := fun σ H Q => ∃ ρ fls st m, Stt X.K X.mg G fl fls st m H ρ σ ∧
  Post X.K X.mg G fls m H (WE W σ) (evE G (C fl) fl ρ x st) fun d st' => QV X.K X.mg G fls st' m H d Q
/-- the same for a fresh thing -/
def tF (x : Ex) : TE := fun σ H Q => ∃ ρ fls st m, Stt X.K X.mg G fl fls st m H ρ σ ∧
  Post X.K X.mg G fls m H (WE W σ) (evE G (C fl) fl ρ x st) fun d st' => QD X.K X.mg G fls st' m H d Q
def tAs (x : Exs) : TA := fun σ H Q => ∃ ρ fls st m, Stt X.K X.mg G fl fls st m H ρ σ ∧
  Post X.K X.mg G fls m H (WE W σ) (evEs G (C fl) fl ρ x st) fun ds st' => ∀ vs m' H', Ext m H m' H' → Rel X.K X.mg G fls st' m' H' → Reps X.K X.mg G m' H' ds vs → Q vs H'
def tPs (x : Prs) : St → Hp → (List (V × V) → Hp → Prop) → Prop := fun σ H Q => ∃ ρ fls st m, Stt X.K X.mg G fl fls st m H ρ σ ∧
  Post X.K X.mg G fls m H (WE W σ) (evPs G (C fl) fl ρ x st) fun kds st' => ∀ kvs m' H', Ext m H m' H' → Rel X.K X.mg G fls st' m' H' → RepK X.K X.mg G m' H' kds kvs → Q (kvs.map fun kv => (kV kv.1, kv.2)) H'
/-- a test -/
def tT (x : Ex) : TT := fun σ H Q => ∃ ρ fls st m, Stt X.K X.mg G fl fls st m H ρ σ ∧
  Post X.K X.mg G fls m H (WE W σ) (evE G (C fl) fl ρ x st) fun d st' => ∃ b, d = .bl b ∧ ∀ m' H', Ext m H m' H' → Rel X.K X.mg G fls st' m' H' → Q b H'
def tAndX (x : Exs) : TE := fun σ H Q => ∃ ρ fls st m, Stt X.K X.mg G fl fls st m H ρ σ ∧
  Post X.K X.mg G fls m H (WE W σ) (evAnd G (C fl) fl ρ x st) fun d st' => QV X.K X.mg G fls st' m H d Q
def tOrX (x : Exs) : TE := fun σ H Q => ∃ ρ fls st m, Stt X.K X.mg G fl fls st m H ρ σ ∧
  Post X.K X.mg G fls m H (WE W σ) (evOr G (C fl) fl ρ x st) fun d st' => QV X.K X.mg G fls st' m H d Q
def tAndT (x : Exs) : TT := fun σ H Q => ∃ ρ fls st m, Stt X.K X.mg G fl fls st m H ρ σ ∧
  Post X.K X.mg G fls m H (WE W σ) (evAnd G (C fl) fl ρ x st) fun d st' => ∃ b, d = .bl b ∧ ∀ m' H', Ext m H m' H' → Rel X.K X.mg G fls st' m' H' → Q b H'
def tOrT (x : Exs) : TT := fun σ H Q => ∃ ρ fls st m, Stt X.K X.mg G fl fls st m H ρ σ ∧
  Post X.K X.mg G fls m H (WE W σ) (evOr G (C fl) fl ρ x st) fun d st' => ∃ b, d = .bl b ∧ ∀ m' H', Ext m H m' H' → Rel X.K X.mg G fls st' m' H' → Q b H'
def tTs (x : Exs) : TT := fun σ H Q => ∃ ρ fls st m, Stt X.K X.mg G fl fls st m H ρ σ ∧
  Post X.K X.mg G fls m H (WE W σ) (evT G (C fl) fl ρ x st) fun b st' => ∀ m' H', Ext m H m' H' → Rel X.K X.mg G fls st' m' H' → Q b H'
/-- a slice's part -/
def tPo (x : Exs) : TO := fun σ H Q => ∃ ρ fls st m, Stt X.K X.mg G fl fls st m H ρ σ ∧
  Post X.K X.mg G fls m H (WE W σ) (evEs G (C fl) fl ρ x st) fun ds st' => ∃ o, optI ds = some o ∧ ∀ m' H', Ext m H m' H' → Rel X.K X.mg G fls st' m' H' → Q o H'
def tI (x : Src) : TI := fun σ H R => ∃ ρ fls st m, Stt X.K X.mg G fl fls st m H ρ σ ∧
  Post X.K X.mg G fls m H (WE W σ) (evI G (C fl) fl ρ x st) fun xs st' => ∀ J m' H', Ext m H m' H' → Rel X.K X.mg G fls st' m' H' → ItOk X.K X.mg G x J xs m' H' → R J H'
end

section
variable {X : Cx} {G : Prog} {C : Nat → Nat → List D → Sto → Out D} {fl : Nat} {W : WX} {fls : List Nat} {st : Sto} {m : Mp} {H : Hp} {ρ : Env} {σ : St}
theorem Stt.ext (S : Stt X.K X.mg G fl fls st m H ρ σ) {m1 : Mp} {H1 : Hp} {st1 : Sto} (x : Ext m H m1 H1) (R : Rel X.K X.mg G fls st1 m1 H1) : Stt X.K X.mg G fl fls st1 m1 H1 ρ σ :=
  ⟨R, S.flf, by have := x.le; rw [S.rel.len, R.len] at this; exact Nat.le_trans S.fll this, S.env.ext x⟩
/-- one part, then the rest -/
theorem t1 {α : Type} {a : Ex} {f : D → Sto → Out α} {R : α → Sto → Prop} {P : V → Hp → Prop} (S : Stt X.K X.mg G fl fls st m H ρ σ)
    (h : Post X.K X.mg G fls m H (WE W σ) ((evE G (C fl) fl ρ a st).bind f) R)
    (k : ∀ x st1 v m1 H1, Ext m H m1 H1 → Stt X.K X.mg G fl fls st1 m1 H1 ρ σ → Rep X.K X.mg G m1 H1 x v → Post X.K X.mg G fls m1 H1 (WE W σ) (f x st1) R → P v H1) : tE X G C fl W a σ H P := by
  refine ⟨ρ, fls, st, m, S, ?_⟩
  cases e : evE G (C fl) fl ρ a st with
  | ok x st1 =>
    rw [e] at h
    exact fun v m1 H1 e1 R1 r1 => k x st1 v m1 H1 e1 (S.ext e1 R1) r1 (Post.ext e1 h)
  | exc c fs s1 =>
    rw [e] at h
    exact h
  | bad =>
    rw [e] at h
    exact h
theorem tl1 {α : Type} {a : Exs} {f : List D → Sto → Out α} {R : α → Sto → Prop} {P : List V → Hp → Prop} (S : Stt X.K X.mg G fl fls st m H ρ σ)
    (h : Post X.K X.mg G fls m H (WE W σ) ((evEs G (C fl) fl ρ a st).bind f) R)
    (k : ∀ x st1 v m1 H1, Ext m H m1 H1 → Stt X.K X.mg G fl fls st1 m1 H1 ρ σ → Reps X.K X.mg G m1 H1 x v → Post X.K X.mg G fls m1 H1 (WE W σ) (f x st1) R → P v H1) : tAs X G C fl W a σ H P := by
  refine ⟨ρ, fls, st, m, S, ?_⟩
  cases e : evEs G (C fl) fl ρ a st with
  | ok x st1 =>
    rw [e] at h
    exact fun v m1 H1 e1 R1 r1 => k x st1 v m1 H1 e1 (S.ext e1 R1) r1 (Post.ext e1 h)
  | exc c fs s1 =>
    rw [e] at h
    exact h
  | bad =>
    rw [e] at h
    exact h
theorem tT1 {α : Type} {a : Ex} {f : D → Sto → Out α} {R : α → Sto → Prop} {P : Bool → Hp → Prop} (S : Stt X.K X.mg G fl fls st m H ρ σ)
    (h : Post X.K X.mg G fls m H (WE W σ) ((evE G (C fl) fl ρ a st).bind f) R) (hb : ∀ x st1, (∀ b, x ≠ .bl b) → f x st1 = .bad)
    (k : ∀ b st1 m1 H1, Ext m H m1 H1 → Stt X.K X.mg G fl fls st1 m1 H1 ρ σ → Post X.K X.mg G fls m1 H1 (WE W σ) (f (.bl b) st1) R → P b H1) : tT X G C fl W a σ H P := by
  refine ⟨ρ, fls, st, m, S, ?_⟩
  cases e : evE G (C fl) fl ρ a st with
  | ok x st1 =>
    rw [e] at h
    by_cases hx : ∃ b, x = .bl b
    · obtain ⟨b, rfl⟩ := hx
      exact ⟨b, rfl, fun m1 H1 e1 R1 => k b st1 m1 H1 e1 (S.ext e1 R1) (Post.ext e1 h)⟩
    · have h' : Post X.K X.mg G fls m H (WE W σ) (f x st1) R := h
      rw [hb x st1 fun b e => hx ⟨b, e⟩] at h'
      exact h'.elim
  | exc c fs s1 =>
    rw [e] at h
    exact h
  | bad =>
    rw [e] at h
    exact h
end
end Ev

set_option Elab.async false
set_option linter.all false
set_option maxRecDepth 100000
set_option maxHeartbeats 4000000
/-! Ev, part 9: targets, walks, comprehensions. -/
namespace Ev
open PySem L2 PySem.Spec
open PyProof.Rows hiding St

/-! ### targets -/
def gMany : List Nat → TGs
  | [] => gNil
  | i :: is => gCons (gName i) (gMany is)
def gT (K : PySem.W.Frag) : Tg → TG
  | .one i => gName i
  | .many is => gTup K is.length (gMany is)
theorem assignEach_name {x : Str} {p : Pos} {es : List Expr} {env : PySem.Env} : assignEach (.Name x p :: es) env = (false, assign (.Name x p) env) :: assignEach es env := rfl
section
variable {X : Cx}
theorem pg1 {N : List Str} {ok : Str → Bool} {i : Nat} {e : Expr} (h : emT1 N ok i e = true) (hN : X.N = N) (nd : X.N.Nodup)
    (hok : ∀ x, ok x = true → Loc X.env.scope x ∧ (X.fn x = true ∨ X.env.scope.names.lookup x = some .local)) : PG X e (gName i) := by
  unfold emT1 at h
  split at h
  · rename_i x p
    simp only [Bool.and_eq_true, decide_eq_true_eq] at h
    obtain ⟨h1, h2⟩ := hok x h.2
    exact pg_name nd (by rw [hN]; exact h.1) h1 h2
  · cases h
theorem pgs {N : List Str} {ok : Str → Bool} (hN : X.N = N) (nd : X.N.Nodup)
    (hok : ∀ x, ok x = true → Loc X.env.scope x ∧ (X.fn x = true ∨ X.env.scope.names.lookup x = some .local)) :
    ∀ {is : List Nat} {es : List Expr}, emTs N ok is es = true → PGs X es (gMany is) ∧ (assignEach es X.env).length = is.length ∧ (assignEach es X.env).findIdx? (·.1) = none
  | [], [], _ => ⟨pgs_nil, rfl, rfl⟩
  | [], _ :: _, h => by simp [emTs] at h
  | _ :: _, [], h => by simp [emTs] at h
  | i :: is, e :: es, h => by
    have h' : emT1 N ok i e = true ∧ emTs N ok is es = true := by simpa [emTs] using h
    obtain ⟨g1, g2, g3⟩ := pgs hN nd hok h'.2
    have g := pg1 h'.1 hN nd hok
    have h1 := h'.1
    unfold emT1 at h1
    split at h1
    · rename_i x p
      refine ⟨pgs_cons g g1, ?_, ?_⟩
      · rw [assignEach_name, List.length_cons, g2]; rfl
      · rw [assignEach_name, List.findIdx?_cons, g3]; rfl
    · cases h1
theorem pgT {N : List Str} {ok : Str → Bool} {t : Tg} {e : Expr} (h : emTg N ok t e = true) (hN : X.N = N) (nd : X.N.Nodup) (hc : X.calm = true)
    (hok : ∀ x, ok x = true → Loc X.env.scope x ∧ (X.fn x = true ∨ X.env.scope.names.lookup x = some .local)) : PG X e (gT X.K t) := by
  cases t with
  | one i => exact pg1 h hN nd hok
  | many is =>
    unfold emTg at h
    simp only at h
    split at h
    · obtain ⟨g1, g2, g3⟩ := pgs hN nd hok h
      exact pg_tup hc g1 g2 g3
    · cases h
end

section
variable {K : PySem.W.Frag} {mg : Str → Option Value} {G : Prog} {m : Mp} {H : Hp} {ρ ρ' : Env} {σ : St}
theorem EnvR.set (r : EnvR K mg G m H ρ σ) {d : D} {v : V} (q : Rep K mg G m H d v) (i : Nat) : EnvR K mg G m H (ρ.set i (some d)) (σ.set i (some v)) := by
  refine ⟨by simp [r.1], fun j e h => ?_⟩
  by_cases hj : i = j
  · subst hj
    have hl : i < ρ.length := by
      by_cases hl : i < ρ.length
      · exact hl
      · rw [List.getElem?_eq_none (by simpa using hl)] at h; cases h
    rw [List.getElem?_set_self hl] at h
    cases h
    exact ⟨v, List.getElem?_set_self (by rw [← r.1]; exact hl), q⟩
  · rw [List.getElem?_set_ne hj] at h ⊢
    exact r.2 j e h
theorem wipe_set {σ : St} {v : Option V} {i : Nat} : ∀ {vs : List Nat}, i ∈ vs → wipe (σ.set i v) vs = wipe σ vs
  | [], h => by cases h
  | j :: vs, h => by
    by_cases e : i ∈ vs
    · unfold wipe; rw [wipe_set e]
    · have hj : i = j := by
        rcases List.mem_cons.mp h with h | h
        · exact h
        · exact absurd h e
      subst hj
      have key : ∀ (ws : List Nat) (τ : St), i ∉ ws → wipe (τ.set i v) ws = (wipe τ ws).set i v := by
        intro ws
        induction ws with
        | nil => intro τ _; rfl
        | cons w ws ih =>
          intro τ hw
          have h1 : i ≠ w := fun e => hw (by rw [e]; exact List.mem_cons_self)
          have h2 : i ∉ ws := fun e => hw (List.mem_cons_of_mem _ e)
          unfold wipe
          rw [ih τ h2, List.set_comm _ _ h1]
      unfold wipe
      rw [key vs σ e, List.set_set]
theorem many_read : ∀ {is : List Nat} {ds : List D} {vs : List V} {ρ ρ' : Env} {σ : St} {Q : St → Hp → Prop}, setSlots ρ is ds = some ρ' → Reps K mg G m H ds vs → EnvR K mg G m H ρ σ →
    (∀ σ', EnvR K mg G m H ρ' σ' → (∀ ws : List Nat, (∀ i ∈ is, i ∈ ws) → wipe σ' ws = wipe σ ws) → Q σ' H) → gMany is vs σ H Q
  | [], [], _, ρ, ρ', σ, Q, e, .nil, E, k => by
    simp [setSlots] at e
    subst e
    exact ⟨rfl, k σ E fun _ _ => rfl⟩
  | i :: is, d :: ds, _, ρ, ρ', σ, Q, e, .cons (v := v) a t, E, k => by
    simp only [setSlots] at e
    refine ⟨v, _, rfl, ?_⟩
    exact many_read e t (E.set a i) fun σ' E' hw => k σ' E' fun ws hs => (hw ws fun j hj => hs j (List.mem_cons_of_mem _ hj)).trans (wipe_set (hs i List.mem_cons_self))
  | [], _ :: _, _, _, _, _, _, e, _, _, _ => by simp [setSlots] at e
  | _ :: _, [], _, _, _, _, _, e, _, _, _ => by simp [setSlots] at e
theorem asg_read {tg : Tg} {d : D} {v : V} {Q : St → Hp → Prop} (e : asg ρ tg d = some ρ') (r : Rep K mg G m H d v) (E : EnvR K mg G m H ρ σ)
    (k : ∀ σ', EnvR K mg G m H ρ' σ' → (∀ ws : List Nat, (∀ i ∈ tgIx tg, i ∈ ws) → wipe σ' ws = wipe σ ws) → Q σ' H) : gT K tg v σ H Q := by
  cases tg with
  | one i =>
    simp [asg] at e
    subst e
    exact k _ (E.set r i) fun ws hs => wipe_set (hs i (by simp [tgIx]))
  | many is =>
    have hl : ∀ {is : List Nat} {ds : List D} {ρ ρ' : Env}, setSlots ρ is ds = some ρ' → is.length = ds.length := by
      intro is
      induction is with
      | nil => intro ds ρ ρ' h; cases ds <;> simp [setSlots] at h; rfl
      | cons i is ih => intro ds ρ ρ' h; cases ds <;> simp [setSlots] at h; simp [ih h]
    simp only [asg] at e
    split at e
    · cases r with
      | tup n h rs => exact ⟨_, _, rfl, .inl (.inl h), by rw [← rs.length, hl e], many_read e rs E k⟩
    · cases r with
      | tk h rs => exact ⟨_, _, rfl, .inr h.1, by rw [← rs.length, hl e], many_read e rs E k⟩
    · cases e
theorem EnvR.wipe (r : EnvR K mg G m H ρ σ) : ∀ vs : List Nat, EnvR K mg G m H (wipeD ρ vs) (wipe σ vs)
  | [] => r
  | i :: vs => by
    have ih := EnvR.wipe r vs
    unfold wipeD L2.wipe
    refine ⟨by simp [ih.1], fun j e h => ?_⟩
    by_cases hj : i = j
    · subst hj
      by_cases hl : i < (wipeD ρ vs).length
      · rw [List.getElem?_set_self hl] at h; cases h
      · rw [List.getElem?_eq_none (by simpa using hl)] at h; cases h
    · rw [List.getElem?_set_ne hj] at h ⊢
      exact ih.2 j e h
end

/-! ### what is being made, hidden -/
def Mp.hide (m : Mp) (p : Addr) : Mp := ⟨m.c, p :: m.h⟩
def Mp.show (m : Mp) (h : List Addr) : Mp := ⟨m.c, h⟩
def cut (H : Hp) (p : Addr) : Hp := fun q => if q = p then none else H q
theorem cut_same {H : Hp} {p : Addr} : cut H p p = none := by unfold cut; rw [if_pos rfl]
theorem cut_ne {H : Hp} {p q : Addr} (h : q ≠ p) : cut H p q = H q := by unfold cut; rw [if_neg h]
theorem upd_cut {H : Hp} {p : Addr} {o : HO} (h : H p = some o) : upd (cut H p) p o = H := by
  funext q
  by_cases e : q = p
  · subst e; rw [upd_same, h]
  · rw [upd_ne e, cut_ne e]
theorem upd_cut' {H : Hp} {p : Addr} {o : HO} : upd (cut H p) p o = upd H p o := by
  funext q
  by_cases e : q = p
  · subst e; rw [upd_same, upd_same]
  · rw [upd_ne e, upd_ne e, cut_ne e]
section
variable {K : PySem.W.Frag} {mg : Str → Option Value} {G : Prog} {fls : List Nat} {st st' : Sto} {m m' : Mp} {H H' : Hp} {p : Addr} {o : HO}
theorem Grow.hide (h : H p = none) : Grow m H (m.hide p) (upd H p o) :=
  ⟨fun _ _ e => e, fun q u e n => by
    have hq := ne_of_none e h
    refine ⟨by rw [upd_ne hq]; exact e, fun z => ?_⟩
    rcases z with z | z
    · exact n (.inl z)
    · rcases List.mem_cons.mp z with z | z
      · exact hq z
      · exact n (.inr z)⟩
theorem Rel.hide (R : Rel K mg G fls st m H) (h : H p = none) (ho : ∀ vs, o ≠ .tup vs) : Rel K mg G fls st (m.hide p) (upd H p o) :=
  ⟨R.len, R.nd, fun n c q e1 e2 => by
    obtain ⟨u, a, b⟩ := R.cell n c q e1 e2
    exact ⟨u, by rw [upd_ne (ne_of_none a h)]; exact a, b.gr (Grow.hide h)⟩, fun q hq => by
    rcases List.mem_cons.mp hq with rfl | hq
    · exact ⟨fun z => R.notin h (.inl z), o, upd_same⟩
    · obtain ⟨a, u, e⟩ := R.hid q hq
      exact ⟨a, u, by rw [upd_ne (ne_of_none e h)]; exact e⟩, R.clean, R.fle, fun q hq vs => by
    rcases List.mem_cons.mp hq with rfl | hq
    · rw [upd_same]
      exact fun e => ho vs (Option.some.inj e)
    · obtain ⟨a, u, e⟩ := R.hid q hq
      rw [upd_ne (ne_of_none e h)]
      exact R.hnt q hq vs⟩
/-- behind a step that left it alone, it is shown again -/
theorem Grow.show (h : m'.h = p :: m.h) : Grow m' H' (m'.show m.h) (cut H' p) :=
  ⟨fun _ _ e => e, fun q u e n => by
    have hq : q ≠ p := fun z => n (.inr (by rw [h, z]; exact List.mem_cons_self))
    refine ⟨by rw [cut_ne hq]; exact e, fun z => ?_⟩
    rcases z with z | z
    · exact n (.inl z)
    · exact n (.inr (by rw [h]; exact List.mem_cons_of_mem _ z))⟩
theorem Rel.show (R : Rel K mg G fls st' m' H') (h : m'.h = p :: m.h) (hp : p ∉ m.h) : Rel K mg G fls st' (m'.show m.h) (cut H' p) :=
  ⟨R.len, R.nd, fun n c q e1 e2 => by
    obtain ⟨u, a, b⟩ := R.cell n c q e1 e2
    have hq : q ≠ p := fun z => (R.hid p (by rw [h]; exact List.mem_cons_self)).1 (by rw [← z]; exact List.mem_of_getElem? e2)
    exact ⟨u, by rw [cut_ne hq]; exact a, b.gr (Grow.show h)⟩, fun q hq => by
    have hqp : q ≠ p := fun z => hp (by rw [← z]; exact hq)
    obtain ⟨a, u, e⟩ := R.hid q (by rw [h]; exact List.mem_cons_of_mem _ hq)
    exact ⟨a, u, by rw [cut_ne hqp]; exact e⟩, R.clean, R.fle, fun q hq vs => by
    have hqp : q ≠ p := fun z => hp (by rw [← z]; exact hq)
    rw [cut_ne hqp]
    exact R.hnt q (by rw [h]; exact List.mem_cons_of_mem _ hq) vs⟩
theorem Ext.show (R : Rel K mg G fls st m H) (h : H p = none) (x : Ext (m.hide p) (upd H p o) m' H') : Ext m H (m'.show m.h) (cut H' p) ∧ H' p = some o ∧ m'.h = p :: m.h ∧ p ∉ m.h := by
  have hpm : p ∉ m.h := fun z => R.notin h (.inr z)
  refine ⟨⟨x.pre, fun q u e n => ?_, rfl, fun q hq => ?_, fun q od u e => ?_⟩, (x.hkeep p List.mem_cons_self).trans upd_same, x.hid, hpm⟩
  · have hq := ne_of_none e h
    obtain ⟨e1, n1⟩ := x.old q u (by rw [upd_ne hq]; exact e) fun z => by
      rcases z with z | z
      · exact n (.inl z)
      · rcases List.mem_cons.mp z with z | z
        · exact hq z
        · exact n (.inr z)
    refine ⟨by rw [cut_ne hq]; exact e1, fun z => n1 ?_⟩
    rcases z with z | z
    · exact .inl z
    · exact .inr (by rw [x.hid]; exact List.mem_cons_of_mem _ z)
  · have hqp : q ≠ p := fun z => hpm (by rw [← z]; exact hq)
    rw [cut_ne hqp, x.hkeep q (List.mem_cons_of_mem _ hq), upd_ne hqp]
  · have hqp := ne_of_none e h
    rw [cut_ne hqp]
    exact x.fz q od u (by rw [upd_ne hqp]; exact e)
end

/-! ### walks -/
section
variable {X : Cx} {G : Prog} {C : Nat → Nat → List D → Sto → Out D} {fl k : Nat} {W : WX} {N : List Str} {sc : Scope}
theorem gl_of (ok : XOk G C k W N sc X) {x : Str} (h : gloB sc x = true) : Gl X x := by
  show X.env.scope.names.lookup x = _
  rw [ok.sc]
  unfold gloB at h
  split at h <;> first | assumption | cases h
theorem star_pl {e : Expr} {es : List Expr} {env : PySem.Env} (h : plB e = true) : starEach (e :: es) env = (false, eval e env) :: starEach es env := by
  cases e <;> first | rfl | (simp [plB] at h)
theorem fold_pl {e : Expr} {env : PySem.Env} (h : plB e = true) : ∀ x, foldedSetIterable e env x = pure x := by
  intro x
  cases e <;> first | rfl | (simp [plB] at h)
theorem _root_.L2.PI.im {tg it : Expr} {t t' : TI} (h : PI X tg it t) (f : ∀ σ H R, t' σ H R → t σ H R) : PI X tg it t' := ⟨fun pins s σ H R I q => h.run pins s σ H R I (f σ H R q)⟩
theorem _root_.L2.PE.im {e : Expr} {t t' : TE} (h : PE X e t) (f : ∀ σ H R, t' σ H R → t σ H R) : PE X e t' := ⟨fun pins s σ H R I q => h.run pins s σ H R I (f σ H R q)⟩
theorem _root_.L2.PT.im {e : Expr} {t t' : TT} (h : PT X e t) (f : ∀ σ H R, t' σ H R → t σ H R) : PT X e t' := ⟨fun pins s σ H R I q => h.run pins s σ H R I (f σ H R q)⟩
theorem _root_.L2.PA.im {e : List Expr} {t t' : TA} (h : PA X e t) (f : ∀ σ H R, t' σ H R → t σ H R) : PA X e t' := ⟨fun pos pins s σ H R I q => h.run pos pins s σ H R I (f σ H R q)⟩
theorem _root_.L2.PO.im {e : Option Expr} {t t' : TO} (h : PO X e t) (f : ∀ σ H R, t' σ H R → t σ H R) : PO X e t' := ⟨fun pins s σ H R I q => h.run pins s σ H R I (f σ H R q)⟩
theorem _root_.L2.PTs.im {e : List Expr} {t t' : TT} (h : PTs X e t) (f : ∀ σ H R, t' σ H R → t σ H R) : PTs X e t' := ⟨fun pins s σ H R I q => h.run pins s σ H R I (f σ H R q)⟩

theorem rng_length (lo hi : Int) : (rng lo hi).length = (hi - lo).toNat := by simp [rng]
theorem rng_get {lo hi : Int} {i : Nat} {d : D} (e : (rng lo hi)[i]? = some d) : i < (hi - lo).toNat ∧ d = .int (lo + (i : Nat)) := by
  have hl := (List.getElem?_eq_some_iff.mp e).1
  rw [rng_length] at hl
  refine ⟨hl, ?_⟩
  simp only [rng, List.getElem?_map] at e
  rw [List.getElem?_range hl] at e
  simpa using e.symm
theorem itOk_rng {src : Src} (hs : ∀ st x, srcRes src st x = some x ∧ ∀ xs, srcIts src xs = xs) {lo hi : Int} {n : Nat} {m : Mp} {H : Hp} (hn : n = (hi - lo).toNat) : ItOk X.K X.mg G src (Itr lo n) (rng lo hi) m H := by
  subst hn
  refine .of hs (fun m2 H2 x i d e => ?_) (fun m2 H2 x i h => by rw [rng_length] at h; exact h)
  obtain ⟨h1, rfl⟩ := rng_get e
  refine ⟨h1, fun v H3 y => ?_⟩
  obtain ⟨e1, e2⟩ := y
  subst e1 e2
  exact ⟨rfl, .int _⟩
theorem itOk_list {src : Src} (hs : ∀ st x, srcRes src st x = some x ∧ ∀ xs, srcIts src xs = xs) {a : Addr} {vs : List V} {xs : List D} {m : Mp} {H : Hp} (hq : SqL X.K H a vs) (st : ∀ m2 H2, Grow m H m2 H2 → SqL X.K H2 a vs) (r : Reps X.K X.mg G m H xs vs) : ItOk X.K X.mg G src (Itl X.K a) xs m H := by
  refine .of hs (fun m2 H2 x i d e => ?_) (fun m2 H2 x i h => ⟨vs, st m2 H2 x, by rw [← r.length]; exact h⟩)
  obtain ⟨v, hv, rv⟩ := r.get e
  refine ⟨⟨vs, v, st m2 H2 x, hv⟩, fun v' H3 y => ?_⟩
  obtain ⟨e1, e2⟩ := y
  subst e1
  have := e2 vs (st m2 H3 x)
  rw [hv] at this
  cases this
  exact ⟨rfl, rv.gr x⟩
end
end Ev

set_option Elab.async false
set_option linter.all false
set_option maxRecDepth 100000
set_option maxHeartbeats 4000000
/-! Ev, part 9b: exceptions out of the block of a comprehension. -/
namespace Ev
open PySem L2 PySem.Spec
open PyProof.Rows hiding St

section
variable {X : Cx} {pins : List (Addr × Obj)} {σ : St} {H : Hp} {s : Shared}
/-- a list of ours is forgotten -/
theorem inv_cut {D : Addr} {acc : List V} (I : Inv X pins σ H s) (hD : H D = some (.lst acc)) : Inv X pins σ (cut H D) s := by
  have tn : ∀ {b : Addr} {o : HO}, H b = some o → (∀ xs, o ≠ .lst xs) → cut H D b = some o := fun {b o} e n => by
    rw [cut_ne fun z => ?_]
    · exact e
    · subst z
      rw [hD] at e
      cases e
      exact n acc rfl
  have hok : HOk X.prog X.w (cut H D) s.heap := fun b o q => by
    have hb : b ≠ D := fun z => by subst z; rw [cut_same] at q; cases q
    rw [cut_ne hb] at q
    exact (I.hok b o q).stay (fun c u _ r => r) (fun c r => tn r fun _ => by simp) fun c xs r => tn r fun _ => by simp
  refine I.un (h' := s.heap) (t' := s.toks) ⟨fun b o e _ _ _ => e, fun b o e _ _ _ => ⟨o.slots, e⟩, fun b o e n _ => ?_, fun b o e _ => ⟨o, e⟩, fun b xs e => tn e fun _ => by simp, fun b o u e => tn e fun _ => by simp, fun b ps e => ⟨#[], by rw [tn e fun _ => by simp]; simp⟩⟩ hok
  unfold cut
  split
  · rfl
  · exact n
end

/-- the context of a block that lets exceptions out -/
abbrev blkX (X : Cx) (s : Shared) (H : Hp) (scope : Scope) (cenv : PySem.Env) (fp : List Addr) (W : WX) : Cx := { X.blk s H scope cenv fp with xe := XG (X.blk s H scope cenv fp) W }
section
variable {X : Cx} {pins : List (Addr × Obj)} {σ : St} {H : Hp} {s : Shared}
theorem inv_xe {xe : Value → Shared → Prop} (I : Inv X pins σ H s) : Inv { X with xe := xe } pins σ H s :=
  ⟨⟨I.ok.mod, I.ok.kind, I.ok.glob, I.ok.blt, I.ok.above, I.ok.inj, I.ok.has, I.ok.cab, I.ok.hd, I.ok.frames, I.ok.stk, I.ok.exf, I.ok.bs, I.ok.bsz, I.ok.noex, I.ok.exfs, I.ok.funs, I.ok.frf⟩, I.os, I.bare, I.base, I.loc, I.cell, I.free, I.freeC, I.pin, I.hok, I.len⟩
theorem inv_ofxe {xe : Value → Shared → Prop} (I : Inv { X with xe := xe } pins σ H s) : Inv X pins σ H s :=
  ⟨⟨I.ok.mod, I.ok.kind, I.ok.glob, I.ok.blt, I.ok.above, I.ok.inj, I.ok.has, I.ok.cab, I.ok.hd, I.ok.frames, I.ok.stk, I.ok.exf, I.ok.bs, I.ok.bsz, I.ok.noex, I.ok.exfs, I.ok.funs, I.ok.frf⟩, I.os, I.bare, I.base, I.loc, I.cell, I.free, I.freeC, I.pin, I.hok, I.len⟩
theorem takesG_blk {scope : Scope} {cenv : PySem.Env} {fp : List Addr} {W : WX} : TakesG (blkX X s H scope cenv fp W) W := fun u s' ⟨a, B, sI, pins, σ, H, cls, d, L, e, f, I, r⟩ => ⟨a, B, sI, pins, σ, H, cls, d, L, e, f, inv_ofxe (X := X.blk _ _ _ _ _) I, r⟩
end

/-- what the block wishes of exceptions: the new list at D is forgotten -/
def WB (W : WX) (σ : St) (D : Addr) : WX := fun cls d _ H => (∃ acc, H D = some (.lst acc)) ∧ W cls d σ (cut H D)

theorem traced_cut {h h₂ B B₂ : Heap} {a C : Addr} {Z : Obj → Prop} {fl : Value} {m : Str → Option Value} (hn : h.Ns C m) (hs : Heap.SameBut C h h₂) (hB : ∀ b, B.get? b = none → B₂.get? b = none) (t : HandSPX.TracedZ h B a Z fl) : HandSPX.TracedZ h₂ B₂ a Z fl := by
  obtain ⟨oe, vs, T, oT, ts, he, hz, hd, h1, hnT, hTe, hT, hdT, h3⟩ := t
  obtain ⟨oC, es, ep, hoC, hdC, _⟩ := hn
  have n1 : a ≠ C := fun z => by
    subst z
    rw [he] at hoC; cases hoC
    rw [hd] at hdC; cases hdC
  have n2 : T ≠ C := fun z => by
    subst z
    rw [hT] at hoC; cases hoC
    rw [hdT] at hdC; cases hdC
  exact ⟨oe, vs, T, oT, ts, (hs.2 a n1).trans he, hz, hd, h1, hB _ hnT, hTe, (hs.2 T n2).trans hT, hdT, h3⟩

theorem comp_out {X : Cx} {W : WX} (tk : TakesG X W) (inF : InFrame X) {pins : List (Addr × Obj)} {σ : St} {H3 : Hp} {s3 : Shared} {D : Addr} {fp : List Addr} {cenv : PySem.Env} {scope : Scope} (I3 : Inv X pins σ H3 s3)
    (f3 : ∀ b ∈ fp, FpOk X pins H3 b ∧ b < s3.heap.objs.size) (hC : cenv.locals = s3.heap.objs.size) (hcf : cenv.frame = X.env.frame) {u : Value} {s' : Shared} (x : XG (X.blk s3 H3 scope cenv fp) (WB W σ D) u s') :
    notedBy (model X.prog X.w) X.A cenv (CompFails (model X.prog X.w) X.A X.xe cenv) u s' := by
  obtain ⟨a, B, sI, pins', σ', H', cls, d, L, rfl, hL, I, nb, up, sky, na, os, ag, ⟨acc, hD⟩, w⟩ := x
  obtain ⟨env0, l, L0, hst, hf0, hfX⟩ := inF
  have hL : cenv.frame = some L := hL
  have eL : L0 = L := by
    rw [hcf, hfX] at hL
    exact Option.some.inj hL
  subst eL
  have hfr : X.A.frames = some (env0 :: l) := by rw [I3.ok.frames, hst]
  have sky : HandSPX.FlyingZ B X.stack a (Zc cls d) s'.heap ∨ HandSPX.HeldZ B X.stack a (Zc cls d) L0 s'.heap := sky
  have nb : ∀ b o, sI.heap.get? b = some o → b ∉ frs X.stack → B.get? b = some o := nb
  show wpAny (model X.prog X.w) X.A (noteFrame (.ref a) cenv) _ _ s'
  rw [noteFrame_env _ (hcf.trans (hfX.trans hf0.symm))]
  -- noted by the frame: the block is let go, then on
  have fin : ∀ h', HandSPX.HeldZ B X.stack a (Zc cls d) L0 h' → s'.heap.UpToSlots h' → CompFails (model X.prog X.w) X.A X.xe cenv (.ref a) { s' with heap := h' } := fun h' hh up' => by
    obtain ⟨m, hn, _⟩ := I.loc
    have hn : sI.heap.Ns cenv.locals m := hn
    have hn2 : h'.Ns cenv.locals m := hn.upToSlots (up.trans up')
    refine ⟨m, hn2, fun h₂ m₂ hn₂ hs₂ => ?_⟩
    have hs₂ : Heap.SameBut cenv.locals h' h₂ := hs₂
    obtain ⟨b1, b0, f1, t1⟩ := hh
    generalize hB2 : PySem.W.hideAll B [cenv.locals] = B2
    have B2n : ∀ b, B.get? b = none → B2.get? b = none := fun b e => by
      cases q : B2.get? b with
      | none => rfl
      | some o =>
        rw [← hB2] at q
        rw [PySem.W.of_hideAll _ q] at e; cases e
    have b2 : B2.StaysIn h₂ := fun b o hb => by
      rw [← hB2] at hb
      have hbC : b ≠ cenv.locals := fun z => by
        rw [PySem.W.hideAll_none _ (by simp [z])] at hb; cases hb
      exact (hs₂.2 b hbC).trans (b1 b o (PySem.W.of_hideAll _ hb))
    have f2 : h₂.FunFrames B2 X.stack := funFrames_none (Heap.FunFrames.sameBut hs₂ hn₂ f1) fun b hb => B2n b (f1.mem hb).1
    have t2 := traced_cut hn2 hs₂ B2n t1
    have hh2 : HandSPX.HeldZ B2 X.stack a (Zc cls d) L0 h₂ := ⟨b2, B2n _ b0, f2, t2⟩
    obtain ⟨oe, vs, T, oT, ts, he, hz, hd, h1, r⟩ := t2
    unfold PySem.passOn
    refine wpAny_bind (wpAny_field he hd h1 ?_)
    rw [if_neg (show ¬ ((Value.ref T == Value.none) = true) from by simp)]
    rw [hL]
    refine wpAny_bind (HandSPX.setFlight_onZ hh2 fun h₃ hh3 k3 => ?_)
    refine wpAny_throw ?_
    refine tk _ _ ⟨a, B2, { sI with heap := PySem.W.hideAll sI.heap [cenv.locals], toks := sI.toks }, pins, σ, cut H' D, cls, d, L0, rfl, hfX, ?_, fun b o e hb => ?_, fun b o e hnf => ?_, .inr hh3, ?_, os, ag, w⟩
    · have nC : H' s3.heap.objs.size = none := by
        have z : H' cenv.locals = none := I.free
        rw [hC] at z
        exact z
      have I7 : Inv X pins σ H' sI := I3.call' (ch := fp) I.os I.base I.hok I.bare fun b hb => ⟨(f3 b hb).1.2.2.2.1, (f3 b hb).1.2.1, (f3 b hb).1.2.2.2.2.1, (f3 b hb).1.2.2.2.2.2⟩
      obtain ⟨f0, g1, g2, g3, g4, g5⟩ : FpOk X pins H' s3.heap.objs.size := I3.fpOk (Nat.le_refl _) nC
      rw [hC]
      exact inv_cut (I7.turned (t' := sI.toks) (fun b o hb e => PySem.W.hideAll_get _ e (by simp [hb])) f0 g1 g3 g4 g5) hD
    · have hbC : b ≠ cenv.locals := fun z => by
        have e : (PySem.W.hideAll sI.heap [cenv.locals]).get? b = some o := e
        rw [PySem.W.hideAll_none _ (by simp [z])] at e; cases e
      rw [← hB2]
      exact PySem.W.hideAll_get _ (nb b o (PySem.W.of_hideAll _ e) hb) (by simp [hbC])
    · have e : (PySem.W.hideAll sI.heap [cenv.locals]).get? b = some o := e
      have hbC : b ≠ cenv.locals := fun z => by
        rw [PySem.W.hideAll_none _ (by simp [z])] at e; cases e
      obtain ⟨sl, e1⟩ := up.trans up' b o (PySem.W.of_hideAll _ e) hnf
      exact k3 b { o with slots := sl } ((hs₂.2 b hbC).trans e1) hnf
    · unfold cut
      split
      · rfl
      · exact na
  have fin' : ∀ h', HandSPX.HeldZ B (env0 :: l) a (Zc cls d) L0 h' → s'.heap.UpToSlots h' → CompFails (model X.prog X.w) X.A X.xe cenv (.ref a) { s' with heap := h' } := fun h' hh => fin h' (by rw [hst]; exact hh)
  rw [hst] at sky
  rcases sky with fl | hh
  · exact HandSPX.looks_onZ Zc.steady hfr hf0 fl fin'
  · exact HandSPX.againZ hf0 hh.2.2.2 (fin' s'.heap hh (Heap.UpToSlots.refl _))
end Ev

set_option Elab.async false
set_option linter.all false
set_option maxRecDepth 100000
set_option maxHeartbeats 4000000
/-! Ev, part 9c: a list comprehension whose block may let exceptions out (turned from HandS's lc_core: the block runs in blkX). -/
namespace Ev
open PySem L2 PySem.Spec
open PyProof.Rows hiding St
section
variable {X : Cx}
/-- as HandS's tLc; the tests and the element may depend on the slots at the start and on the new list -/
def tLcX (wi : TI) (g : TG) (tt : St → Addr → TT) (te : St → Addr → TE) (vs : List Nat) : TE := fun σ H Q => wi σ H fun J H1 => ∀ D, H1 D = none → ∃ W : Nat → Nat → Hp → Prop, (∃ m, W 0 m (upd H1 D (.lst []))) ∧ ∀ i m H, W i m H →
  (J.stop i H ∧ Q (.ref D) H) ∨ (J.go i H ∧ ∃ Nx : Hp → Prop, (∀ H', Nx H' → ∃ m', m' < m ∧ W (i + 1) m' H') ∧ ∀ x H', J.yld i H x H' → g x (wipe σ vs) H' fun σ2 H2 => wipe σ2 vs = wipe σ vs ∧ tt σ D σ2 H2 fun b H3 =>
    if b = true then te σ D σ2 H3 fun y H4 => ∃ acc, H4 D = some (.lst acc) ∧ acc.length < sizeLine ∧ Nx (upd H4 D (.lst (acc ++ [y]))) else Nx H3)

theorem lc_coreX {W0 : WX} {pins : List (Addr × Obj)} {s : Shared} {σ : St} {H : Hp} {Q : VK} {elt tg iter : Expr} {ifs : List Expr} {scope : Scope} {own : List (Str × Nat)} {pos pos' : Pos} {wi : TI} {g : TG} {tt : St → Addr → TT} {te : St → Addr → TE} {use : Option (Value → Sem Unit)} {Qf : Value → Shared → Prop}
    (tk : TakesG X W0) (inF : InFrame X) (hc : X.calm = true) (hN : X.N.Nodup) (I : Inv X pins σ H s) (hi : PI X tg iter wi) (ok : BlkOk X.N X.env.scope scope own)
    (hg : ∀ (s : Shared) (H : Hp) (C : Addr) (cl : List (Str × Addr)) (fp : List Addr) (D : Addr), PG (blkX X s H scope (compEnvC scope cl C X.env) fp (WB W0 σ D)) tg g)
    (ht : ∀ (s : Shared) (H : Hp) (C : Addr) (cl : List (Str × Addr)) (fp : List Addr) (D : Addr), PTs (blkX X s H scope (compEnvC scope cl C X.env) fp (WB W0 σ D)) ifs (tt σ D))
    (he : ∀ (s : Shared) (H : Hp) (C : Addr) (cl : List (Str × Addr)) (fp : List Addr) (D : Addr), PE (blkX X s H scope (compEnvC scope cl C X.env) fp (WB W0 σ D)) elt (te σ D)) (hs : ∀ x, foldedSetIterable iter X.env x = pure x)
    (h : tLcX wi g tt te (own.map (·.2)) σ H Q)
    (hRR : ∀ D (cenv : PySem.Env) s' m H', Inv X pins σ H' s' → Q (.ref D) H' → s'.heap.Ns cenv.locals m → FpOk X pins H' cenv.locals → compEnds (model X.prog X.w) X.A X.xe use Qf (.ref D) cenv (.ok .next) s') :
    wpAny (model X.prog X.w) X.A (comprehension (.ListComp elt [⟨tg, iter, ifs, 0⟩] scope pos) scope X.env pos' (newList []) false (eval iter X.env) use) Qf X.xe s := by
  have hfree : ∀ y ∈ scope.names, y.2 = .free → ∃ c, X.env.cells.lookup y.1 = some c := fun y hy e => by
    rcases ok.free y hy e with k | k
    · exact I.ok.has _ (.inl k)
    · exact I.ok.has _ (.inr k)
  refine comprehension_at (use := use) rfl hs (closure_ok hfree) ok.kind (fun y hy e => by rw [ok.uniq y hy, e])
    (thn (hi.run pins s σ H _ I h) fun xv s1 hx => thn hx fun itv s2 h2 => ?_)
  obtain ⟨it, fp, tn, J, H2, e, I2, T, st2, f2, q⟩ := h2
  subst e
  refine wpAny_newObj_type (newEnv_comp ?_) (by show 0 ≤ sizeLine; decide)
  generalize hD : s2.heap.objs.size = D
  have hDn : H2 D = none := I2.hok.fresh (Nat.le_of_eq hD)
  obtain ⟨W, ⟨m0, w0⟩, turn⟩ := q D hDn
  generalize hs3 : ({ s2 with heap := s2.heap.push { cls := .type "list", data := .seq ([] : List Value).toArray } } : Shared) = s3
  have I3 : Inv X pins σ (upd H2 D (.lst [])) s3 := by
    rw [← hs3]
    refine I2.laid (t' := s2.toks) (fun b o e => Heap.get?_push_of_some _ e) (Nat.le_of_eq hD) ⟨Nat.zero_le _, [], 0, .nil, ?_⟩
    rw [← hD]
    exact Heap.get?_push_size _ rfl
  have h3 : s3.heap = s2.heap.push { cls := .type "list", data := .seq ([] : List Value).toArray } := by rw [← hs3]
  have sz : ∀ b ∈ fp, b < s2.heap.objs.size := fun b hb => by
    obtain ⟨o, e, _⟩ := T.obj _ _ st2 b hb
    exact Heap.lt_size e
  have f3 : ∀ b ∈ fp, FpOk X pins (upd H2 D (.lst [])) b ∧ b < s3.heap.objs.size := fun b hb => by
    have hlt := sz b hb
    refine ⟨⟨?_, (f2 b hb).2⟩, by rw [h3, Heap.size_push]; exact Nat.lt_succ_of_lt hlt⟩
    rw [upd_ne (by rw [← hD]; exact Nat.ne_of_lt hlt)]
    exact (f2 b hb).1
  have st3 : tn 0 s3.heap := T.keep _ _ _ st2 fun b _ o e => by rw [h3]; exact Heap.get?_push_of_some _ e
  have I4 := block_start I3 ok hN f3
  have pg := hg s3 (upd H2 D (.lst [])) s3.heap.objs.size (cellsFrom (s3.heap.objs.size + 1) scope.names (cloFrom X.env.cells scope.names [])) fp D
  have pt := ht s3 (upd H2 D (.lst [])) s3.heap.objs.size (cellsFrom (s3.heap.objs.size + 1) scope.names (cloFrom X.env.cells scope.names [])) fp D
  have pe := he s3 (upd H2 D (.lst [])) s3.heap.objs.size (cellsFrom (s3.heap.objs.size + 1) scope.names (cloFrom X.env.cells scope.names [])) fp D
  show codeAny _ _ (.compStart (.ListComp elt [⟨tg, iter, ifs, 0⟩] scope pos) 0 (.ref it) (.ref D) (compEnvC scope (cellsFrom (s3.heap.objs.size + 1) scope.names (cloFrom X.env.cells scope.names [])) s3.heap.objs.size X.env)) (compEnds (model X.prog X.w) X.A X.xe use Qf (.ref D) (compEnvC scope (cellsFrom (s3.heap.objs.size + 1) scope.names (cloFrom X.env.cells scope.names [])) s3.heap.objs.size X.env)) { s3 with heap := pushCells (s3.heap.push { cls := .type "dict", data := .dict #[] }) scope.names }
  have nfp : ∀ b ∈ fp, (upd H2 D (.lst [])) b = none := fun b hb => (f3 b hb).1.1
  generalize hce : compEnvC scope (cellsFrom (s3.heap.objs.size + 1) scope.names (cloFrom X.env.cells scope.names [])) s3.heap.objs.size X.env = ce at I4 pg pt pe ⊢
  have cL : ce.locals = s3.heap.objs.size := by subst hce; rfl
  have cF : ce.frame = X.env.frame := by subst hce; rfl
  generalize hH3 : upd H2 D (.lst []) = H3 at I3 I4 pg pt pe w0 nfp f3
  generalize hs4 : ({ s3 with heap := pushCells (s3.heap.push { cls := .type "dict", data := .dict #[] }) scope.names } : Shared) = s4 at I4 ⊢
  have st4 : tn 0 s4.heap := T.keep _ _ _ st3 fun b _ o e => by rw [← hs4]; exact pushCells_keeps _ _ _ _ (Heap.get?_push_of_some _ e)
  have I4 : Inv (blkX X s3 H3 scope ce fp (WB W0 σ D)) [] (wipe σ (own.map (·.2))) H3 s4 := inv_xe (X := X.blk s3 H3 scope ce fp) I4
  have stat : ∀ {σ' : St} {H' : Hp} {s' : Shared}, Inv (blkX X s3 H3 scope ce fp (WB W0 σ D)) [] σ' H' s' → (∀ b ∈ fp, H' b = none) → ∀ b ∈ fp, FpOk (blkX X s3 H3 scope ce fp (WB W0 σ D)) [] H' b := fun {σ' H' s'} I' hn b hb =>
    ⟨hn b hb, (I'.ok.exf b hb).1, I'.ok.exfs b hb, .inl hb, fun x c e => (I'.ok.exf b hb).2 x c e, fun p hp => absurd (show p ∈ ([] : List (Addr × Obj)) ++ [] from hp) (by simp)⟩
  have out : ∀ u s', (blkX X s3 H3 scope ce fp (WB W0 σ D)).xe u s' → notedBy (model X.prog X.w) X.A ce (fun e s' => compEnds (model X.prog X.w) X.A X.xe use Qf (.ref D) ce (.error e) s') u s' := fun u s' x => by
    have z := comp_out tk inF I3 f3 cL cF x
    cases use <;> exact z
  have loop : codeAny (model X.prog X.w) X.A (.compLoop (.ListComp elt [⟨tg, iter, ifs, 0⟩] scope pos) 0 (.ref it) (.ref D) ce) (compEnds (model X.prog X.w) X.A X.xe use Qf (.ref D) ce) s4 := by
    refine compLoop_any (fun n s' => ∃ i H', Inv (blkX X s3 H3 scope ce fp (WB W0 σ D)) [] (wipe σ (own.map (·.2))) H' s' ∧ tn i s'.heap ∧ (∀ b ∈ fp, H' b = none) ∧ W i n H') ?_ m0 ⟨0, H3, I4, st4, nfp, w0⟩
    rintro n s5 ⟨i, H5, I5, st5, n5, w5⟩
    rcases turn i n H5 w5 with ⟨stop, qq⟩ | ⟨go, Nx, hNx, step⟩
    · have td := T.done (blkX X s3 H3 scope ce fp (WB W0 σ D)) rfl rfl rfl hc i [] s5 _ H5 (fun _ _ => False) I5 (stat I5 n5) st5 stop
      refine thnF td fun r s6 ⟨hr, I6⟩ => ?_
      subst hr
      have I7 : Inv X pins σ H5 s6 := I3.call' (ch := fp) I6.os I6.base I6.hok I6.bare fun b hb => ⟨(f3 b hb).1.2.2.2.1, (f3 b hb).1.2.1, (f3 b hb).1.2.2.2.2.1, (f3 b hb).1.2.2.2.2.2⟩
      have nC : H5 s3.heap.objs.size = none := by
        have z : H5 ce.locals = none := I6.free
        rw [cL] at z
        exact z
      obtain ⟨m, hn, _⟩ := I6.loc
      have hn : s6.heap.Ns ce.locals m := hn
      exact hRR D ce s6 m H5 I7 qq hn (by rw [cL]; exact I3.fpOk (Nat.le_refl _) nC)
    · have ti := T.item (blkX X s3 H3 scope ce fp (WB W0 σ D)) rfl rfl rfl hc i [] s5 _ H5 (fun _ _ => False) I5 (stat I5 n5) st5 go
      refine thnF ti fun r s6 ⟨u, hr, h6⟩ => ?_
      subst hr
      refine thnF h6 fun _ s7 ⟨x, H7, I7, r7, y7, st7, n7⟩ => ?_
      have I7' := I7.pinned (stat I7 n7) (T.obj _ _ st7)
      refine wpAny_mono (pg.run _ s7 _ H7 x u _ I7' r7 (step x H7 y7)) (fun _ s8 ⟨σ8, H8, I8, hw8, q8⟩ => ?_) out
      refine wpAny_mono (pt.run _ s8 σ8 H8 _ I8 q8) (fun b s9 ⟨H9, I9, q9⟩ => ?_) out
      have fin : ∀ {s' : Shared} {H' : Hp}, Inv (blkX X s3 H3 scope ce fp (WB W0 σ D)) ([] ++ pinsAt fp s7.heap) σ8 H' s' → Nx H' → ∃ m, m < n ∧ ∃ i H', Inv (blkX X s3 H3 scope ce fp (WB W0 σ D)) [] (wipe σ (own.map (·.2))) H' s' ∧ tn i s'.heap ∧ (∀ b ∈ fp, H' b = none) ∧ W i m H' := fun {s' H'} I' nx => by
        obtain ⟨m', hm, w'⟩ := hNx H' nx
        have pin' : ∀ b ∈ fp, ∀ o, s7.heap.get? b = some o → s'.heap.get? b = some o ∧ H' b = none := fun b hb o e =>
          let z := I'.pin (b, o) (List.mem_append_right _ (List.mem_append_right _ (mem_pinsAt hb e)))
          ⟨z.1, z.2.1⟩
        have hl : (wipe σ (own.map (·.2))).length = σ8.length := by rw [← hw8, wipe_length]
        refine ⟨m', hm, i + 1, H', (I'.unpinned (pins := [])).weak hl (fun j v e => ?_), T.keep _ _ _ st7 fun b hb o e => (pin' b hb o e).1, fun b hb => ?_, w'⟩
        · rw [← hw8] at e
          exact (wipe_some e).1
        · obtain ⟨o, e, _⟩ := T.obj _ _ st7 b hb
          exact (pin' b hb o e).2
      cases b with
      | false =>
        simp only [Bool.false_eq_true, if_false] at q9 ⊢
        exact fin I9 q9
      | true =>
        simp only [if_true] at q9 ⊢
        refine wpAny_mono (pe.run _ s9 σ8 H9 _ I9 q9) (fun z s10 ⟨yv, H10, I10, r10, acc, hD10, hz10, nx⟩ => ?_) out
        exact app_ok (X := blkX X s3 H3 scope ce fp (WB W0 σ D)) I10 hD10 hz10 r10 fun s11 I11 => fin I11 nx
  exact codeAny_compStart_list loop (T.self X.A 0 _ _ _ st4 loop)
/-- as a value -/
theorem pe_lcX {W0 : WX} {elt tg iter : Expr} {ifs : List Expr} {scope : Scope} {own : List (Str × Nat)} {pos : Pos} {wi : TI} {g : TG} {tt : St → Addr → TT} {te : St → Addr → TE} (tk : TakesG X W0) (inF : InFrame X) (hc : X.calm = true) (hN : X.N.Nodup) (hi : PI X tg iter wi) (ok : BlkOk X.N X.env.scope scope own)
    (hg : ∀ (σ : St) (s : Shared) (H : Hp) (C : Addr) (cl : List (Str × Addr)) (fp : List Addr) (D : Addr), PG (blkX X s H scope (compEnvC scope cl C X.env) fp (WB W0 σ D)) tg g)
    (ht : ∀ (σ : St) (s : Shared) (H : Hp) (C : Addr) (cl : List (Str × Addr)) (fp : List Addr) (D : Addr), PTs (blkX X s H scope (compEnvC scope cl C X.env) fp (WB W0 σ D)) ifs (tt σ D))
    (he : ∀ (σ : St) (s : Shared) (H : Hp) (C : Addr) (cl : List (Str × Addr)) (fp : List Addr) (D : Addr), PE (blkX X s H scope (compEnvC scope cl C X.env) fp (WB W0 σ D)) elt (te σ D)) (hs : ∀ x, foldedSetIterable iter X.env x = pure x := by intro _; rfl) :
    PE X (.ListComp elt [⟨tg, iter, ifs, 0⟩] scope pos) (tLcX wi g tt te (own.map (·.2))) := by
  refine ⟨fun pins s σ H Q I h => ?_⟩
  rw [eval_ListComp]
  refine lc_coreX tk inF hc hN I hi ok (hg σ) (ht σ) (he σ) hs h fun D C s' m H' I' q hn f => ⟨m, hn, fun h'' sb => ?_⟩
  obtain ⟨f0, f1, f2, f3, f4, f5⟩ := f
  exact ⟨.ref D, H', I'.turned (t' := s'.toks) (fun b o hb e => (sb.2 b hb).trans e) f0 f1 f3 f4 f5, rfl, q⟩
/-- name = [..] on one line, the name a local -/
theorem ps_setLcX {W0 : WX} {i : Nat} {y : Str} {py : Pos} {elt tg iter : Expr} {ifs : List Expr} {scope : Scope} {own : List (Str × Nat)} {pos spos : Pos} {wi : TI} {g : TG} {tt : St → Addr → TT} {te : St → Addr → TE} (tk : TakesG X W0) (inF : InFrame X) (hc : X.calm = true) (hN : X.N.Nodup) (hy : X.N[i]? = some y) (hyl : X.env.scope.names.lookup y = some .local)
    (hsw : swapsWith (.ListComp elt [⟨tg, iter, ifs, 0⟩] scope pos) (some (.Name y py)) spos.line X.env = pure true) (hi : PI X tg iter wi) (ok : BlkOk X.N X.env.scope scope own)
    (hg : ∀ (σ : St) (s : Shared) (H : Hp) (C : Addr) (cl : List (Str × Addr)) (fp : List Addr) (D : Addr), PG (blkX X s H scope (compEnvC scope cl C X.env) fp (WB W0 σ D)) tg g)
    (ht : ∀ (σ : St) (s : Shared) (H : Hp) (C : Addr) (cl : List (Str × Addr)) (fp : List Addr) (D : Addr), PTs (blkX X s H scope (compEnvC scope cl C X.env) fp (WB W0 σ D)) ifs (tt σ D))
    (he : ∀ (σ : St) (s : Shared) (H : Hp) (C : Addr) (cl : List (Str × Addr)) (fp : List Addr) (D : Addr), PE (blkX X s H scope (compEnvC scope cl C X.env) fp (WB W0 σ D)) elt (te σ D)) (hs : ∀ x, foldedSetIterable iter X.env x = pure x := by intro _; rfl) :
    PS X (.Assign [.Name y py] (.ListComp elt [⟨tg, iter, ifs, 0⟩] scope pos) spos) (tAsg (tLcX wi g tt te (own.map (·.2))) (gName i)) := by
  refine ⟨fun pins s σ H D I h => ?_⟩
  rw [exec_Assign_Name_used _ _ _ _ hsw]
  refine wpAny_bind (wpAny_standAt (wpAny_bind ?_))
  show wpAny _ X.A (do let _ ← comprehension (.ListComp elt [⟨tg, iter, ifs, 0⟩] scope pos) scope X.env (firstIterPos [⟨tg, iter, ifs, 0⟩] pos) (newList []) false (eval iter X.env) (some (assign (.Name y py) X.env))) _ _ s
  have h : tLcX wi g tt te (own.map (·.2)) σ H (fun x H1 => gName i x σ H1 D.nx) := h
  refine wpAny_bind (thn (lc_coreX (Qf := fun _ s' => SP X pins D .next s') tk inF hc hN I hi ok (hg σ) (ht σ) (he σ) hs h fun L C s' m H' I' q hn f => ?_) fun _ s' hq => wpAny_pure (wpAny_pure hq))
  show wpAny _ _ (assign (.Name y py) X.env (.ref L)) _ _ _
  refine wpAny_assign_Name (store_ok2 (v := V.ref L) I' hN hy (.inl hyl) rfl (fun s2 I2 ⟨a, sb, ha⟩ => ?_) (.inr hyl))
  obtain ⟨f0, f1, f2, f3, f4, f5⟩ := f
  have haC : C.locals ≠ a := by
    rcases ha with z | z
    · rw [z]; exact f1
    · exact fun e => f4 y a z e.symm
  refine ⟨m, hn.sameBut sb haC, fun h3 sb3 => ?_⟩
  exact ⟨_, H', I2.turned (t' := s2.toks) (fun b o hb e => (sb3.2 b hb).trans e) f0 f1 f3 f4 f5, q⟩
end
end Ev

set_option Elab.async false
set_option linter.all false
set_option maxRecDepth 100000
set_option maxHeartbeats 4000000
/-! Ev, part 10: the cases of expressions. -/
namespace Ev
open PySem L2 PySem.Spec
open PyProof.Rows hiding St
section
variable {X : Cx} {G : Prog} {C : Nat → Nat → List D → Sto → Out D} {fl k : Nat} {W : WX} {N : List Str} {sc : Scope} {pos : Pos}
theorem pe_of_F {x : Ex} {e : Expr} (h : PE X e (tF X G C fl W x)) : PE X e (tE X G C fl W x) :=
  h.im fun σ H Q ⟨ρ, fls, st, m, S, q⟩ => ⟨ρ, fls, st, m, S, q.imp fun d s h => h.qd⟩
theorem to_F {x : Ex} {σ : St} {H : Hp} {Q : VK} (h : tE X G C fl W x σ H Q) : tF X G C fl W x σ H Q :=
  let ⟨ρ, fls, st, m, S, q⟩ := h
  ⟨ρ, fls, st, m, S, q.imp fun d s h => h.qd⟩

/-! ### plain ones -/
theorem sign_ok {x : Str} (h : StrOk x) {c : Nat} (hc : c ∈ x.cps.toList) : StrOk ⟨#[c]⟩ := by
  have h2 : ∀ c ∈ x.cps.toList, c < 0x110000 := by
    have : (x.cps.all fun c => decide (c < 0x110000)) = true := h
    rw [← Array.all_toList, List.all_eq_true] at this
    exact fun c hc => of_decide_eq_true (this c hc)
  show (#[c].all fun c => decide (c < 0x110000)) = true
  simpa using h2 c hc
theorem at_mem {α : Type} {xs : List α} {i : Int} {c : α} (h : atI xs i = some c) : c ∈ xs := by
  unfold atI at h
  cases hj : ixN xs.length i with
  | none => rw [hj] at h; cases h
  | some j => rw [hj, Option.bind_some] at h; exact List.mem_of_getElem? h
theorem c_const {x : Ex} {e : Expr} {d : D} {v : V} (he : PE X e (tC v)) (ev : ∀ ρ st, evE G (C fl) fl ρ x st = .ok d st) (r : ∀ m H, Rep X.K X.mg G m H d v) : PE X e (tE X G C fl W x) :=
  he.im fun σ H Q ⟨ρ, fls, st, m, S, q⟩ => by
    rw [ev] at q
    exact QV.here q S.rel (r m H)
theorem c_var {i : Nat} {x : Str} (ok : XOk G C k W N sc X) (h1 : N[i]? = some x) (h2 : visB sc x = true) (h3 : nameB x = true) : PE X (.Name x pos) (tE X G C fl W (.var i)) := by
  unfold nameB at h3
  simp only [Bool.and_eq_true, beq_iff_eq] at h3
  have hv : Vis X.env.scope x := by
    rw [ok.sc]
    unfold visB at h2
    split at h2 <;> first | exact .inl (by assumption) | exact .inr (.inl (by assumption)) | exact .inr (.inr (by assumption)) | cases h2
  refine (pe_var (i := i) (by rw [ok.n]; exact h1) hv h3.1.1 h3.1.2).im fun σ H Q ⟨ρ, fls, st, m, S, q⟩ => ?_
  unfold evE at q
  split at q
  · rename_i d e
    obtain ⟨v, hv, r⟩ := S.env.2 i d e
    exact ⟨v, hv, QV.here q S.rel r⟩
  · exact q.elim
theorem name_dbg {x : Str} (h3 : nameB x = true) : (x == ("__debug__" : Str)) = false ∧ x ≠ "__name__" := by
  unfold nameB at h3
  simp only [Bool.and_eq_true, beq_iff_eq, Bool.not_eq_true', decide_eq_false_iff_not] at h3
  exact ⟨h3.1.1, h3.2⟩
theorem c_bin {op : BOp} {a b : Ex} {ea eb : Expr} (ha : PE X ea (tE X G C fl W a)) (hb : PE X eb (tE X G C fl W b)) : PE X (.BinOp ea (opOf op) eb pos) (tF X G C fl W (.bin op a b)) := by
  refine (pe_op opAny ha hb).im fun σ H Q ⟨ρ, fls, st, m, S, q⟩ => ?_
  unfold evE at q
  refine t1 S q fun x st1 v m1 H1 e1 S1 r1 q1 => ?_
  refine t1 S1 q1 fun y st2 u m2 H2 e2 S2 r2 q2 => ?_
  cases hd : binD st2 op x y with
  | none => rw [hd] at q2; exact q2.elim
  | some d =>
    rw [hd] at q2
    obtain ⟨r, h1, h2⟩ := binD_ok (X := X) (G := G) hd
    exact ⟨r, h1, h2 _ _ _ _ _ _ S2.rel (r1.ext e2) r2 (QD.ext (e1.trans e2) q2)⟩
theorem c_neg {a : Ex} {ea : Expr} (ha : PE X ea (tE X G C fl W a)) : PE X (.UnaryOp .USub ea pos) (tE X G C fl W (.neg a)) := by
  refine (pe_un un_neg ha).im fun σ H Q ⟨ρ, fls, st, m, S, q⟩ => ?_
  unfold evE at q
  refine t1 S q fun x st1 v m1 H1 e1 S1 r1 q1 => ?_
  cases r1 <;> first | exact q1.elim | skip
  exact ⟨_, rfl, QV.here (QV.ext e1 q1) S1.rel (.int _)⟩
theorem c_not {a : Ex} {ea : Expr} (ha : PE X ea (tE X G C fl W a)) : PE X (.UnaryOp .Not ea pos) (tE X G C fl W (.nt a)) := by
  refine (pe_not ha).im fun σ H Q ⟨ρ, fls, st, m, S, q⟩ => ?_
  unfold evE at q
  refine t1 S q fun x st1 v m1 H1 e1 S1 r1 q1 => ?_
  cases r1 <;> first | exact q1.elim | skip
  exact ⟨_, rfl, QV.here (QV.ext e1 q1) S1.rel (.bl _)⟩
theorem units_of (ok : XOk G C k W N sc X) : X.A.units + 65 < cLine := by have := ok.room.un; omega
theorem c_cmp {op : COp} {a b : Ex} {ea eb : Expr} (ok : XOk G C k W N sc X) (ha : PE X ea (tE X G C fl W a)) (hb : PE X eb (tE X G C fl W b)) (hm : behindInMarks (copOf op) eb = false) :
    PE X (.Compare ea [copOf op] [eb] pos) (tE X G C fl W (.cmp op a b)) := by
  refine (pe_cmpR opAny ha hb hm).im fun σ H Q ⟨ρ, fls, st, m, S, q⟩ => ?_
  unfold evE at q
  refine t1 S q fun x st1 v m1 H1 e1 S1 r1 q1 => ?_
  refine t1 S1 q1 fun y st2 u m2 H2 e2 S2 r2 q2 => ?_
  cases hd : cmpD st2 op x y with
  | none => rw [hd] at q2; exact q2.elim
  | some d =>
    rw [hd] at q2
    obtain ⟨r, h1, h2⟩ := cmpD_ok (X := X) (G := G) (units_of ok) hd
    exact ⟨r, h1, h2 _ _ _ _ _ _ S2.rel (r1.ext e2) r2 (QV.here (QV.ext (e1.trans e2) q2) S2.rel (.bl _))⟩
theorem c_chain {op op2 : COp} {a b c : Ex} {ea eb ec : Expr} (ok : XOk G C k W N sc X) (ha : PE X ea (tE X G C fl W a)) (hb : PE X eb (tE X G C fl W b)) (hc : PE X ec (tE X G C fl W c)) (hm : lastMarks [copOf op, copOf op2] [eb, ec] = false) :
    PE X (.Compare ea [copOf op, copOf op2] [eb, ec] pos) (tE X G C fl W (.chain op op2 a b c)) := by
  refine (pe_chain opAny opAny ha hb hc hm).im fun σ H Q ⟨ρ, fls, st, m, S, q⟩ => ?_
  unfold evE at q
  refine t1 S q fun x st1 v m1 H1 e1 S1 r1 q1 => ?_
  refine t1 S1 q1 fun y st2 u m2 H2 e2 S2 r2 q2 => ?_
  cases hd : cmpD st2 op x y with
  | none => rw [hd] at q2; exact q2.elim
  | some d =>
    rw [hd] at q2
    obtain ⟨r, h1, h2⟩ := cmpD_ok (X := X) (G := G) (units_of ok) hd
    refine ⟨r, h1, h2 _ _ _ _ _ _ S2.rel (r1.ext e2) r2 ⟨d, rfl, ?_⟩⟩
    cases d with
    | false =>
      rw [if_neg Bool.false_ne_true]
      exact QV.here (QV.ext (e1.trans e2) q2) S2.rel (.bl _)
    | true =>
      rw [if_pos rfl]
      refine t1 S2 q2 fun z st3 w m3 H3 e3 S3 r3 q3 => ?_
      cases hd2 : cmpD st3 op2 y z with
      | none => rw [hd2] at q3; exact q3.elim
      | some d2 =>
        rw [hd2] at q3
        obtain ⟨r', h1, h2⟩ := cmpD_ok (X := X) (G := G) (units_of ok) hd2
        exact ⟨r', h1, h2 _ _ _ _ _ _ S3.rel (r2.ext e3) r3 (QV.here (QV.ext (e1.trans (e2.trans e3)) q3) S3.rel (.bl _))⟩
theorem non_rep {K : PySem.W.Frag} {mg : Str → Option Value} {m : Mp} {H : Hp} {x : D} {v : V} (r : Rep K mg G m H x v) : decide (v = .non) = isNon x := by
  cases r <;> rfl
theorem c_isN {a : Ex} {ea : Expr} {j : Nat} {p2 : Pos} (ha : PE X ea (tE X G C fl W a)) : PE X (.Compare ea [.Is] [.Constant .none j p2] pos) (tE X G C fl W (.isN a)) := by
  refine (pe_cmp (pc_isN ha) rfl).im fun σ H Q ⟨ρ, fls, st, m, S, q⟩ => ?_
  unfold evE at q
  refine t1 S q fun x st1 v m1 H1 e1 S1 r1 q1 => ?_
  rw [non_rep r1]
  exact QV.here (QV.ext e1 q1) S1.rel (.bl _)
theorem c_notN {a : Ex} {ea : Expr} {j : Nat} {p2 : Pos} (ha : PE X ea (tE X G C fl W a)) : PE X (.Compare ea [.IsNot] [.Constant .none j p2] pos) (tE X G C fl W (.notN a)) := by
  refine (pe_cmp (pc_notN ha) rfl).im fun σ H Q ⟨ρ, fls, st, m, S, q⟩ => ?_
  unfold evE at q
  refine t1 S q fun x st1 v m1 H1 e1 S1 r1 q1 => ?_
  rw [non_rep r1]
  exact QV.here (QV.ext e1 q1) S1.rel (.bl _)
theorem c_isB {a : Ex} {ea : Expr} {b : Bool} {j : Nat} {p2 : Pos} (ha : PE X ea (tE X G C fl W a)) : PE X (.Compare ea [.Is] [.Constant (.bool b) j p2] pos) (tE X G C fl W (.isB a b)) := by
  refine (pe_cmpR op_isBl ha pe_bl (nomark _)).im fun σ H Q ⟨ρ, fls, st, m, S, q⟩ => ?_
  unfold evE at q
  refine t1 S q fun x st1 v m1 H1 e1 S1 r1 q1 => ?_
  cases r1 <;> first | exact q1.elim | skip
  exact ⟨_, _, rfl, rfl, QV.here (QV.ext e1 q1) S1.rel (.bl _)⟩
theorem c_notB {a : Ex} {ea : Expr} {b : Bool} {j : Nat} {p2 : Pos} (ha : PE X ea (tE X G C fl W a)) : PE X (.Compare ea [.IsNot] [.Constant (.bool b) j p2] pos) (tE X G C fl W (.notB a b)) := by
  refine (pe_cmpR op_notBl ha pe_bl (nomark _)).im fun σ H Q ⟨ρ, fls, st, m, S, q⟩ => ?_
  unfold evE at q
  refine t1 S q fun x st1 v m1 H1 e1 S1 r1 q1 => ?_
  cases r1 <;> first | exact q1.elim | skip
  exact ⟨_, _, rfl, rfl, QV.here (QV.ext e1 q1) S1.rel (.bl _)⟩

/-! ### argument lists -/
theorem a_nil : PA X [] (tAs X G C fl W .nil) := pa_nil.im fun σ H Q ⟨ρ, fls, st, m, S, q⟩ => by
  unfold evEs at q
  exact q [] m H Ext.refl S.rel .nil
theorem a_cons {a : Ex} {r : Exs} {e : Expr} {es : List Expr} (ha : PE X e (tE X G C fl W a)) (hr : PA X es (tAs X G C fl W r)) (hp : plB e = true) : PA X (e :: es) (tAs X G C fl W (.cons a r)) := by
  refine (pa_cons ha hr (star_pl hp)).im fun σ H Q ⟨ρ, fls, st, m, S, q⟩ => ?_
  unfold evEs at q
  refine t1 S q fun x st1 v m1 H1 e1 S1 r1 q1 => ?_
  refine tl1 S1 q1 fun ds st2 vs m2 H2 e2 S2 r2 q2 => ?_
  exact q2 (v :: vs) m2 H2 (e1.trans e2) S2.rel (.cons (r1.ext e2) r2)
theorem c_tup {as : Exs} {es : List Expr} {j : Nat} (ha : PA X es (tAs X G C fl W as)) (hn : ∀ ρ st ds st', evEs G (C fl) fl ρ as st = .ok ds st' → ds.length ≤ 1000) : PE X (.Tuple es j pos) (tE X G C fl W (.tupE as)) := by
  refine (pe_tup ha).im fun σ H Q ⟨ρ, fls, st, m, S, q⟩ => ?_
  have hl := hn ρ st
  unfold evE at q
  refine ⟨ρ, fls, st, m, S, ?_⟩
  cases e : evEs G (C fl) fl ρ as st with
  | ok ds st1 =>
    rw [e] at q
    intro vs m1 H1 e1 R1 r1
    have := hl ds st1 e
    exact ⟨by rw [← r1.length, sizeLine_eq]; omega, fun p hp => QV.tup (QV.ext e1 q) R1 r1 hp⟩
  | exc c fs s1 => rw [e] at q; exact q
  | bad => rw [e] at q; exact q
theorem c_lst {as : Exs} {es : List Expr} (ha : PA X es (tAs X G C fl W as)) (hn : ∀ ρ st ds st', evEs G (C fl) fl ρ as st = .ok ds st' → ds.length ≤ 1000) : PE X (.List es pos) (tF X G C fl W (.lstE as)) := by
  refine (pe_lst ha).im fun σ H Q ⟨ρ, fls, st, m, S, q⟩ => ?_
  have hl := hn ρ st
  unfold evE at q
  refine ⟨ρ, fls, st, m, S, ?_⟩
  cases e : evEs G (C fl) fl ρ as st with
  | ok ds st1 =>
    rw [e] at q
    intro vs m1 H1 e1 R1 r1
    have := hl ds st1 e
    exact ⟨by rw [← r1.length, sizeLine_eq]; omega, fun p hp => QF.lst (QF.ext e1 q) R1 r1 hp⟩
  | exc c fs s1 => rw [e] at q; exact q
  | bad => rw [e] at q; exact q
theorem c_dic0 {t : Bool} : PE X (.Dict [] [] pos) (tF X G C fl W (.dic0 t)) := by
  cases t with
  | false =>
    refine pe_dnewK.im fun σ H Q ⟨ρ, fls, st, m, S, q⟩ p hp => ?_
    unfold evE at q
    exact q p _ m H Ext.refl S.rel hp (.dk .nil) rfl
  | true =>
    refine pe_dnewT.im fun σ H Q ⟨ρ, fls, st, m, S, q⟩ p hp => ?_
    unfold evE at q
    exact q p _ m H Ext.refl S.rel hp (.dt .nil) rfl
theorem anyF {es : List Expr} {env : PySem.Env} {pos : Pos} (h : es.all plB = true) : (backTo pos (starEach es env)).any (·.1) = false := by
  induction es with
  | nil => rfl
  | cons e es ih =>
    simp only [List.all_cons, Bool.and_eq_true] at h
    have e1 : ∀ l : List (Bool × Sem Value), (backTo pos l).any (·.1) = l.any (·.1) := by
      intro l
      unfold backTo
      induction l with
      | nil => rfl
      | cons a l ih => rw [List.map_cons, List.any_cons, List.any_cons, ih]
    rw [e1] at ih ⊢
    rw [star_pl h.1, List.any_cons, ih h.2]; rfl
theorem bi_type {n : Bi} : (∃ id, biVal n = .builtin id ∧ bootBuiltins (biName n) = some (.builtin id)) ∨ (∃ T, biVal n = .type T ∧ bootBuiltins (biName n) = some (.type T)) := by
  cases n <;> first
    | exact .inl ⟨_, rfl, by decide +kernel⟩
    | exact .inr ⟨_, rfl, by decide +kernel⟩
theorem bi_ne {n : Bi} : biName n ≠ "__name__" ∧ (biName n == ("__debug__" : Str)) = false := by
  cases n <;> exact ⟨by decide +kernel, by decide +kernel⟩
theorem c_bi {n : Bi} {as : Exs} {e : Expr} {es : List Expr} {p : Pos} (ok : XOk G C k W N sc X) (ha : PA X (e :: es) (tAs X G C fl W as)) (hg : Gl X (biName n)) (hp : (e :: es).all plB = true) :
    PE X (.Call (.Name (biName n) p) (e :: es) [] pos) (tF X G C fl W (.bi n as)) := by
  have hp' := hp
  simp only [List.all_cons, Bool.and_eq_true] at hp'
  have main : ∀ σ H Q, tF X G C fl W (.bi n as) σ H Q → tCB (rCall X (biVal n)) (tAs X G C fl W as) σ H Q := fun σ H Q ⟨ρ, fls, st, m, S, q⟩ => by
    unfold evE at q
    refine tl1 S q fun ds st1 vs m1 H1 e1 S1 r1 q1 => ?_
    cases hd : biD st1 n ds with
    | none => rw [hd] at q1; exact q1.elim
    | some d =>
      rw [hd] at q1
      obtain ⟨r, h1, h2⟩ := biD_ok (X := X) (G := G) ok.calm (units_of ok) hd
      exact ⟨r, h1, h2 _ _ _ _ _ S1.rel r1 (QD.ext e1 q1)⟩
  rcases bi_type (n := n) with ⟨id, e1, e2⟩ | ⟨T, e1, e2⟩
  · rw [e1] at main
    exact (pe_callB callAny hg (ok.blt n) e2 ha bi_ne.1 bi_ne.2 (star_pl hp'.1) (anyF hp'.2)).im main
  · rw [e1] at main
    exact (pe_callTy callAny hg (ok.blt n) e2 ha bi_ne.1 bi_ne.2 (star_pl hp'.1) (anyF hp'.2)).im main
theorem c_call {f : Nat} {as : Exs} {x : Str} {e : Expr} {es : List Expr} {p : Pos} (ok : XOk G C k W N sc X) (ha : PA X (e :: es) (tAs X G C fl W as)) (hf : (G.fns[f]?).map (·.name) = some x) (hgl : (G.fns[f]?).map (·.glob) = some true) (hg : Gl X x) (hx : nameB x = true) (hp : (e :: es).all plB = true)
    (hnp : ∀ F, G.fns[f]? = some F → ∀ ρ st ds st', evEs G (C fl) fl ρ as st = .ok ds st' → ds.length = F.np) :
    PE X (.Call (.Name x p) (e :: es) [] pos) (tE X G C fl W (.call f as)) := by
  have hp' := hp
  simp only [List.all_cons, Bool.and_eq_true] at hp'
  simp only [Option.map_eq_some_iff] at hf
  obtain ⟨F, hF, rfl⟩ := hf
  rw [hF] at hgl
  obtain ⟨a, fd, ps, h1, h2, h3, h4, h5⟩ := ok.fns f F hF (Option.some.inj hgl)
  refine (pe_callS h5 (ok.room.mono (by omega)) hg h1 h2 h4 (fun σ => passAtG ok.tk ok.inF σ) ha (name_dbg hx).1 (star_pl hp'.1) (anyF hp'.2)).im fun σ H Q ⟨ρ, fls, st, m, S, q⟩ => ?_
  have hl := hnp F hF ρ st
  unfold evE at q
  refine ⟨ρ, fls, st, m, S, ?_⟩
  cases e : evEs G (C fl) fl ρ as st with
  | ok ds st1 =>
    rw [e] at q
    intro vs m1 H1 e1 R1 r1
    have S1 := S.ext e1 R1
    exact ⟨ds, fls, st1, m1, fl, R1, S1.flf, S1.fll, r1, hl ds st1 e, (Post.ext e1 q).imp fun d s h => QV.ext e1 h⟩
  | exc c fs s1 => rw [e] at q; exact q
  | bad => rw [e] at q; exact q
theorem c_callv {i : Nat} {as : Exs} {x : Str} {e : Expr} {es : List Expr} {p : Pos} (ok : XOk G C k W N sc X) (ha : PA X (e :: es) (tAs X G C fl W as)) (h1 : N[i]? = some x) (h2 : visB sc x = true) (hx : nameB x = true) (hp : (e :: es).all plB = true) :
    PE X (.Call (.Name x p) (e :: es) [] pos) (tE X G C fl W (.callv i as)) := by
  have hp' := hp
  simp only [List.all_cons, Bool.and_eq_true] at hp'
  have hx' := hx
  unfold nameB at hx'
  simp only [Bool.and_eq_true, beq_iff_eq] at hx'
  have hv : Vis X.env.scope x := by
    rw [ok.sc]
    unfold visB at h2
    split at h2 <;> first | exact .inl (by assumption) | exact .inr (.inl (by assumption)) | exact .inr (.inr (by assumption)) | cases h2
  refine ⟨fun pins s σ H Q I ⟨ρ, fls, st, m, S, q⟩ => ?_⟩
  unfold evE at q
  split at q
  · rename_i f ef
    obtain ⟨v0, hs, r0⟩ := S.env.2 i _ ef
    cases r0 with
    | @fn _ F a hF hm =>
    obtain ⟨a', fd, ps, g1, g2, g3, g4, g5⟩ := ok.fns f F hF.1 hF.2
    rw [hm] at g1
    cases g1
    refine wpAny_Call_Name_kw (thn ((pe_var (pos := p) (by rw [ok.n]; exact h1) hv hx'.1.1 hx'.1.2).run pins s σ H (fun v H1 => v = .ref a ∧ H1 = H) I ⟨.ref a, hs, rfl, rfl⟩) fun u s1 ⟨v, H1, I1, r1, q1⟩ => ?_)
    obtain ⟨rfl, rfl⟩ := q1
    cases r1
    have ht : tAs X G C fl W as σ H1 (fun vs H2 => spEv X.K X.mg G C f F.np vs H2 Q (WE W σ)) := by
      refine ⟨ρ, fls, st, m, S, ?_⟩
      cases e : evEs G (C fl) fl ρ as st with
      | ok ds st1 =>
        rw [e, Out.bind_ok] at q
        intro vs m1 H2 e1 R1 r1
        have S1 := S.ext e1 R1
        split at q
        · rename_i hl
          rw [hF.1] at hl
          simp only [Option.map_some, Option.some.injEq] at hl
          exact ⟨ds, fls, st1, m1, fl, R1, S1.flf, S1.fll, r1, hl.symm, (Post.ext e1 q).imp fun d s h => QV.ext e1 h⟩
        · exact q.elim
      | exc c fs s1 => rw [e] at q; exact q
      | bad => rw [e] at q; exact q
    exact PySem.W.callWith_K (h₀ := X.base) I1.ok.mod.kin g2 (thn (ha.run pos pins s1 σ _ _ I1 ht) fun us s2 ⟨vs, H2, I2, r, q⟩ => ⟨I2.kIn, run_fnS (E := WE W) g5 (ok.room.mono (by omega)) g4 (passAtG ok.tk ok.inF σ) I2 r q⟩) (star_pl hp'.1) (anyF hp'.2)
  · exact q.elim
theorem c_idx {o i : Ex} {eo ei : Expr} (ok : XOk G C k W N sc X) (ho : PE X eo (tE X G C fl W o)) (hi : PE X ei (tE X G C fl W i)) (hp : plB ei = true) : PE X (.Subscript eo ei pos) (tE X G C fl W (.idx o i)) := by
  have hs : ∀ a b, subscripted ei false a b = operate [a, b] (getItem a b) := fun a b => by
    cases ei <;> first | rfl | (simp [plB] at hp)
  refine ⟨fun pins s σ H Q I h => ?_⟩
  obtain ⟨ρ, fls, st, m, S, q⟩ := h
  unfold evE at q
  -- dicts, or lists and tuples
  by_cases hk : ∃ x st1 y st2, evE G (C fl) fl ρ o st = .ok x st1 ∧ evE G (C fl) fl ρ i st1 = .ok y st2 ∧ ((∃ kvs, view st2 x = .dk kvs) ∨ (∃ kvs, view st2 x = .dt kvs) ∨ (∃ kvs, view st2 x = .lk (.dk kvs)) ∨ ∃ kvs, view st2 x = .lk (.dt kvs))
  · obtain ⟨x, st1, y, st2, e1, e2, hk⟩ := hk
    refine (pe_dget (by have := units_of ok; omega) ho hi hs).run pins s σ H Q I ⟨ρ, fls, st, m, S, ?_⟩
    rw [e1] at q ⊢
    intro v m1 H1 x1 R1 r1
    refine ⟨ρ, fls, st1, m1, S.ext x1 R1, ?_⟩
    rw [Out.bind_ok, e2] at q
    rw [e2]
    intro u m2 H2 x2 R2 r2
    have r1' := r1.ext x2
    rw [Out.bind_ok] at q
    rcases hk with ⟨kvs, hv⟩ | ⟨kvs, hv⟩ | ⟨kvs, hv⟩ | ⟨kvs, hv⟩
    · obtain ⟨p, vs, rfl, hp, rr⟩ := R2.dk r1' hv
      unfold idxD at q
      rw [hv] at q
      simp only at q
      cases ek : keyD y with
      | none => rw [ek] at q; exact q.elim
      | some key =>
        rw [ek] at q
        have := keyD_rep ek r2
        subst this
        rcases rr.val (κ := Nat) key with ⟨h1, h2⟩ | ⟨d, w, h1, h2, h3⟩
        · rw [Option.bind_some, h1] at q; exact q.elim
        · rw [Option.bind_some, h1] at q
          exact ⟨p, w, rfl, by rw [← h2]; exact DGet.k hp, QV.here (QV.ext (x1.trans x2) q) R2 h3⟩
    · obtain ⟨p, vs, rfl, hp, rr⟩ := R2.dt r1' hv
      unfold idxD at q
      rw [hv] at q
      cases y <;> first | exact q.elim | skip
      rename_i ds
      simp only at q
      cases ek : keysD ds with
      | none => rw [ek] at q; exact q.elim
      | some key =>
        rw [ek] at q
        obtain ⟨p', vs', rfl, hp', r'⟩ := R2.tup r2 rfl
        have := keysD_rep ek r'
        subst this
        rcases rr.val key with ⟨h1, h2⟩ | ⟨d, w, h1, h2, h3⟩
        · rw [Option.bind_some, h1] at q; exact q.elim
        · rw [Option.bind_some, h1] at q
          exact ⟨p, w, rfl, by rw [← h2]; exact DGet.t hp hp', QV.here (QV.ext (x1.trans x2) q) R2 h3⟩
    · obtain ⟨p, vs, rfl, hp, rr⟩ := R2.lkdk r1' hv
      unfold idxD at q
      rw [hv] at q
      simp only at q
      cases ek : keyD y with
      | none => rw [ek] at q; exact q.elim
      | some key =>
        rw [ek] at q
        have := keyD_rep ek r2
        subst this
        rcases rr.val (κ := Nat) key with ⟨h1, h2⟩ | ⟨d, w, h1, h2, h3⟩
        · rw [Option.bind_some, h1] at q; exact q.elim
        · rw [Option.bind_some, h1] at q
          exact ⟨p, w, rfl, by rw [← h2]; exact .inl ⟨_, key, hp, rfl, rfl⟩, QV.here (QV.ext (x1.trans x2) q) R2 h3⟩
    · obtain ⟨p, vs, rfl, hp, rr⟩ := R2.lkdt r1' hv
      unfold idxD at q
      rw [hv] at q
      cases y <;> first | exact q.elim | skip
      rename_i ds
      simp only at q
      cases ek : keysD ds with
      | none => rw [ek] at q; exact q.elim
      | some key =>
        rw [ek] at q
        obtain ⟨p', vs', rfl, hp', r'⟩ := R2.tup r2 rfl
        have := keysD_rep ek r'
        subst this
        rcases rr.val key with ⟨h1, h2⟩ | ⟨d, w, h1, h2, h3⟩
        · rw [Option.bind_some, h1] at q; exact q.elim
        · rw [Option.bind_some, h1] at q
          exact ⟨p, w, rfl, by rw [← h2]; exact .inr ⟨_, key, _, hp, rfl, hp', rfl⟩, QV.here (QV.ext (x1.trans x2) q) R2 h3⟩
  · refine (pe_ix ixAny ho hi hs).run pins s σ H Q I ⟨ρ, fls, st, m, S, ?_⟩
    cases e1 : evE G (C fl) fl ρ o st with
    | exc c fs s1 => rw [e1] at q; exact q
    | bad => rw [e1] at q; exact q
    | ok x st1 =>
      rw [e1, Out.bind_ok] at q
      intro v m1 H1 x1 R1 r1
      refine ⟨ρ, fls, st1, m1, S.ext x1 R1, ?_⟩
      cases e2 : evE G (C fl) fl ρ i st1 with
      | exc c fs s1 => rw [e2] at q; exact Post.ext x1 q
      | bad => rw [e2] at q; exact q
      | ok y st2 =>
        rw [e2, Out.bind_ok] at q
        intro u m2 H2 x2 R2 r2
        have r1' := r1.ext x2
        cases hd : idxD st2 x y with
        | none => rw [hd] at q; exact q.elim
        | some d =>
          rw [hd] at q
          unfold idxD at hd
          have at_get : ∀ {xs : List D} {vs : List V} {n : Int} {d : D}, Reps X.K X.mg G m2 H2 xs vs → atI xs n = some d → ∃ w, atI vs n = some w ∧ Rep X.K X.mg G m2 H2 d w := fun {xs vs n d} r e => by
            unfold atI at e ⊢
            rw [← r.length]
            cases h : ixN xs.length n with
            | none => rw [h] at e; cases e
            | some j =>
              rw [h, Option.bind_some] at e
              rw [Option.bind_some]
              exact r.get e
          split at hd
          · rename_i hv
            obtain ⟨p, vs, rfl, hp, rr⟩ := R2.lst r1' hv
            cases r2
            obtain ⟨w, h1, h2⟩ := at_get rr hd
            exact ⟨_, ix_list, p, vs, _, w, rfl, rfl, SqL.of hp, h1, QV.here (QV.ext (x1.trans x2) q) R2 h2⟩
          · rename_i hv
            obtain ⟨p, vs, rfl, hp, rr⟩ := R2.tup r1' hv
            cases r2
            obtain ⟨w, h1, h2⟩ := at_get rr hd
            exact ⟨_, ix_tup, p, vs, _, w, rfl, rfl, SqT.of hp, h1, QV.here (QV.ext (x1.trans x2) q) R2 h2⟩
          · rename_i hv
            obtain ⟨p, vs, rfl, hp, rr⟩ := R2.fz r1' hv
            cases r2
            obtain ⟨w, h1, h2⟩ := at_get rr hd
            exact ⟨_, ix_list, p, vs, _, w, rfl, rfl, hp, h1, QV.here (QV.ext (x1.trans x2) q) R2 h2⟩
          · rename_i hv
            obtain ⟨p, vs, rfl, hp, rr⟩ := R2.tk r1' hv
            cases r2
            obtain ⟨w, h1, h2⟩ := at_get rr hd
            exact ⟨_, ix_tup, p, vs, _, w, rfl, rfl, hp, h1, QV.here (QV.ext (x1.trans x2) q) R2 h2⟩
          · rename_i z n hv
            split at hd
            · rename_i hz
              rw [Option.map_eq_some_iff] at hd
              obtain ⟨c, hc, rfl⟩ := hd
              obtain ⟨rfl, _, hok⟩ := R2.str r1' hv
              cases r2
              exact ⟨_, ix_str, z, _, c, rfl, rfl, by rw [← SZ_eq]; exact hz, hc, QV.here (QV.ext (x1.trans x2) q) R2 (.str (sign_ok hok (at_mem hc)))⟩
            · cases hd
          · rename_i kvs hv
            exact (hk ⟨x, st1, _, st2, e1, e2, .inl ⟨_, hv⟩⟩).elim
          · rename_i hv
            exact (hk ⟨x, st1, _, st2, e1, e2, .inr (.inl ⟨_, hv⟩)⟩).elim
          · rename_i hv
            exact (hk ⟨x, st1, _, st2, e1, e2, .inr (.inr (.inl ⟨_, hv⟩))⟩).elim
          · rename_i hv
            exact (hk ⟨x, st1, _, st2, e1, e2, .inr (.inr (.inr ⟨_, hv⟩))⟩).elim
          · cases hd
/-! ### methods of built-in types -/
theorem base_pl0 {eo : Expr} {name : Str} {env : PySem.Env} (h : baseB eo = true) : attributeBase eo name env (eval eo env) = eval eo env := by
  cases eo <;> try rfl
  rename_i f as kws p
  cases f <;> try rfl
  cases as with
  | nil =>
    cases kws with
    | nil => simp [baseB] at h
    | cons _ _ => rfl
  | cons _ _ => rfl
theorem c_bits {a : Ex} {eo : Expr} {apos : Pos} (ha : PE X eo (tE X G C fl W a)) (hb : baseB eo = true) (hl : (apos.endLine == pos.line) = true) : PE X (.Call (.Attribute eo "bit_length" apos) [] [] pos) (tE X G C fl W (.bits a)) := by
  refine (pe_bits ha (base_pl0 hb) hl).im fun σ H Q ⟨ρ, fls, st, m, S, q⟩ => ?_
  unfold evE at q
  refine t1 S q fun x st1 v m1 H1 e1 S1 r1 q1 => ?_
  cases r1 <;> first | exact q1.elim | skip
  exact ⟨_, rfl, QV.here (QV.ext e1 q1) S1.rel (.int _)⟩
theorem c_dix {c : Nat} {i : Ex} {x : Str} {np : Pos} {ei : Expr} {p : Str × List (Str × D)} (ok : XOk G C k W N sc X) (hp : G.dics[c]? = some p) (hx : p.1 = x) (hg : Gl X x) (hn : nameB x = true) (hi : PE X ei (tE X G C fl W i)) (hpl : plB ei = true) :
    PE X (.Subscript (.Name x np) ei pos) (tE X G C fl W (.dix c i)) := by
  have hs : ∀ a b, subscripted ei false a b = operate [a, b] (getItem a b) := fun a b => by
    cases ei <;> first | rfl | (simp [plB] at hpl)
  obtain ⟨a, h1, h2, _⟩ := ok.dics c p hp
  rw [hx] at h1
  refine (pe_ix ix_kdict (pe_glob (v := .ref a) hg h1 rfl (name_dbg hn).1) hi hs).im fun σ H Q ⟨ρ, fls, st, m, S, q⟩ => ?_
  unfold evE at q
  refine t1 S q fun y st1 u m1 H1 e1 S1 r1 q1 => ?_
  cases r1 <;> first | exact q1.elim | skip
  rename_i z hz
  dsimp only at q1
  rw [hp] at q1
  dsimp only at q1
  cases hl : p.2.lookup z with
  | none => rw [hl] at q1; exact q1.elim
  | some d =>
    rw [hl] at q1
    obtain ⟨v, h3, h4⟩ := h2 z d hl
    exact ⟨a, z, v, rfl, rfl, h3, QV.here (QV.ext e1 q1) S1.rel (h4 _ _)⟩
theorem Reps.emp {K : PySem.W.Frag} {mg : Str → Option Value} {m : Mp} {H : Hp} {ds : List D} {vs : List V} (r : Reps K mg G m H ds vs) : (!ds.isEmpty) = !vs.isEmpty := by cases r <;> rfl
theorem c_orV {a b : Ex} {ea eb : Expr} (ha : PE X ea (tE X G C fl W a)) (hb : PE X eb (tE X G C fl W b)) : PE X (.BoolOp .Or [ea, eb] pos) (tE X G C fl W (.orV a b)) := by
  refine (pe_orT ha (pe_one hb)).im fun σ H Q ⟨ρ, fls, st, m, S, q⟩ => ?_
  unfold evE at q
  refine t1 S q fun x st1 v m1 H1 e1 S1 r1 q1 => ?_
  cases hx : trD x with
  | none => rw [hx] at q1; exact q1.elim
  | some c =>
    rw [hx] at q1
    have tr : TruV X.K v H1 c := by
      unfold trD at hx
      split at hx
      · cases hx; cases r1; rfl
      · cases hx; cases r1; rfl
      · cases hx
        cases r1 with
        | tup n e r => exact .inr (.inl ⟨_, SqT.of e, Reps.emp r⟩)
      · cases hx
    refine ⟨c, tr, ?_⟩
    cases c with
    | true =>
      rw [if_pos rfl]
      exact QV.here (QV.ext e1 q1) S1.rel r1
    | false =>
      rw [if_neg Bool.false_ne_true]
      exact ⟨ρ, fls, st1, m1, S1, Post.imp q1 fun d s h => QV.ext e1 h⟩
theorem c_sset {a : Ex} {ea : Expr} {p p2 q0 pos : Pos} (ok : XOk G C k W N sc X) (ha : PE X ea (tE X G C fl W a)) (hg : Gl X "sorted") (hg2 : Gl X "set") (hp : plB ea = true) :
    PE X (.Call (.Name "sorted" p) [.Call (.Name "set" p2) [ea] [] q0] [] pos) (tF X G C fl W (.sset a)) := by
  refine (EvSetI.pe_sset2 ok.calm hg (ok.blt .sorted) hg2 (ok.blt .set) ha (star_pl hp)).im fun σ H Q ⟨ρ, fls, st, m, S, q⟩ => ?_
  unfold evE at q
  refine t1 S q fun x st1 v m1 H1 e1 S1 r1 q1 => ?_
  cases ht : textsOf st1 x with
  | none =>
    rw [ht] at q1
    dsimp only at q1
    cases hi : intsOfL st1 x with
    | none => rw [hi] at q1; exact q1.elim
    | some ns =>
      rw [hi] at q1
      dsimp only at q1
      split at q1
      · rename_i hroom
        have q2 : QDX X G fls st1 m1 H1 (D.lst ((uisort ns).map .int)) Q := QD.ext e1 q1
        have room : ∀ l : List Int, l.Nodup → (∀ x ∈ l, x ∈ ns) → l.length + 1 < scanBound := fun l hn hm => by
          have := uisort_room hn hm
          unfold scanBound
          omega
        unfold intsOfL at hi
        split at hi
        · rename_i ev
          obtain ⟨p', vs, rfl, hp', rr⟩ := S1.rel.lst r1 ev
          have e3 := ints_rep hi rr
          subst e3
          refine .inr ⟨p', ns, rfl, SqL.of hp', room, fun ys z hs hn hm hz => ?_⟩
          rw [uisort_unique hs hn hm]
          exact QF.lst q2 S1.rel (Reps.ints _) hz
        · cases hi
      · exact q1.elim
  | some ss =>
    rw [ht] at q1
    dsimp only at q1
    split at q1
    · rename_i hroom
      have q2 : QDX X G fls st1 m1 H1 (D.lst ((usort ss).map .str)) Q := QD.ext e1 q1
      have room : ∀ l : List Str, l.Nodup → (∀ x ∈ l, x ∈ ss) → l.length + 1 < scanBound := fun l hn hm => by
        have := usort_room hn hm
        unfold scanBound
        omega
      unfold textsOf at ht
      split at ht
      · rename_i ev
        obtain ⟨p', vs, rfl, hp', rr⟩ := S1.rel.lst r1 ev
        obtain ⟨e3, hok⟩ := strs_rep ht rr
        subst e3
        refine .inl ⟨p', ss, rfl, .inl (SqL.of hp'), room, fun ys z hs hn hm hz => ?_⟩
        rw [usort_unique hs hn hm]
        exact QF.lst q2 S1.rel (Reps.strs fun y hy => hok y ((usort_mem y ss).mp hy)) hz
      · rename_i ev
        obtain ⟨p', vs, rfl, hp', rr⟩ := S1.rel.tup r1 ev
        obtain ⟨e3, hok⟩ := strs_rep ht rr
        subst e3
        refine .inl ⟨p', ss, rfl, .inr (SqT.of hp'), room, fun ys z hs hn hm hz => ?_⟩
        rw [usort_unique hs hn hm]
        exact QF.lst q2 S1.rel (Reps.strs fun y hy => hok y ((usort_mem y ss).mp hy)) hz
      · cases ht
    · exact q1.elim
theorem base_pl {eo : Expr} {name : Str} {env : PySem.Env} (h : baseB eo = true) : attributeBase eo name env (eval eo env) = eval eo env := by
  cases eo <;> try rfl
  rename_i f as kws p
  cases f <;> try rfl
  cases as with
  | nil =>
    cases kws with
    | nil => simp [baseB] at h
    | cons _ _ => rfl
  | cons _ _ => rfl
theorem few_pl {es : List Expr} {env : PySem.Env} {pos : Pos} (h : es.all plB = true) (hl : es.length < 30) : ((backTo pos (starEach es env)).all (fun x => !x.1) && (backToKw pos (keywordEach [] env)).all (fun x => x.1.isSome)
      && decide (es.length + ([] : List Keyword).length + (if ([] : List Keyword).isEmpty then 0 else 1) < 30)) = true := by
  have h1 : (backTo pos (starEach es env)).all (fun x => !x.1) = true := by
    have := anyF (env := env) (pos := pos) h
    rw [List.all_eq_not_any_not]
    simp only [Bool.not_not]
    rw [this]; rfl
  rw [h1]
  have h2 : decide (es.length + ([] : List Keyword).length + (if ([] : List Keyword).isEmpty then 0 else 1) < 30) = true := by
    apply decide_eq_true
    show es.length + 0 + 0 < 30
    omega
  rw [h2]
  rfl
/-- a cell is written -/
theorem Rel.writeR {K : PySem.W.Frag} {mg : Str → Option Value} {fls : List Nat} {st : Sto} {m : Mp} {H : Hp} {n : Nat} {p : Addr} {c : D} {o : HO} (R : Rel K mg G fls st m H) (hn : m.c[n]? = some p) (hc : CellR K mg G m H c o)
    (hw : ∀ f ∈ fls, n < f → c.lo f = true) : Rel K mg G fls (st.set n c) m (upd H p o) ∧ Grow m H m (upd H p o) ∧ ∀ q, q ∈ m.h → upd H p o q = H q := by
  have hp : p ∈ m.c := List.mem_of_getElem? hn
  have g : Grow m H m (upd H p o) := ⟨fun _ _ e => e, fun q u e h => ⟨by rw [upd_ne (fun z => h (.inl (by rw [z]; exact hp)))]; exact e, h⟩⟩
  have hh : ∀ q, q ∈ m.h → upd H p o q = H q := fun q hq => by rw [upd_ne (fun z => (R.hid q hq).1 (by rw [z]; exact hp))]
  refine ⟨⟨by rw [List.length_set]; exact R.len, R.nd, fun k c' q e1 e2 => ?_, fun q hq => ?_, fun f hf k c' hk e1 => ?_, fun f hf => by rw [List.length_set]; exact R.fle f hf, fun q hq vs => by rw [hh q hq]; exact R.hnt q hq vs⟩, g, hh⟩
  · by_cases hk : n = k
    · subst hk
      have hl : n < st.length := by rw [← R.len]; exact (List.getElem?_eq_some_iff.mp hn).1
      rw [List.getElem?_set_self hl] at e1
      cases e1
      rw [hn] at e2
      cases e2
      exact ⟨o, upd_same, hc.gr g⟩
    · rw [List.getElem?_set_ne hk] at e1
      obtain ⟨u, h1, h2⟩ := R.cell k c' q e1 e2
      have hq : q ≠ p := fun z => by
        subst z
        have := (List.getElem?_eq_some_iff.mp hn)
        have h3 := (List.getElem?_eq_some_iff.mp e2)
        exact hk ((List.getElem_inj R.nd).mp (this.2.trans h3.2.symm))
      exact ⟨u, by rw [upd_ne hq]; exact h1, h2.gr g⟩
  · obtain ⟨h1, u, h2⟩ := R.hid q hq
    exact ⟨h1, u, by rw [upd_ne (fun z => h1 (by rw [z]; exact hp))]; exact h2⟩
  · by_cases hk' : n = k
    · subst hk'
      by_cases hl : n < st.length
      · rw [List.getElem?_set_self hl] at e1
        cases e1
        exact hw f hf hk
      · rw [List.getElem?_eq_none (by simpa using hl)] at e1; cases e1
    · rw [List.getElem?_set_ne hk'] at e1
      exact R.clean f hf k c' hk e1
theorem Rel.write {K : PySem.W.Frag} {mg : Str → Option Value} {fls : List Nat} {st : Sto} {m : Mp} {H : Hp} {n : Nat} {p : Addr} {c : D} {o : HO} (R : Rel K mg G fls st m H) (hn : m.c[n]? = some p) (hc : CellR K mg G m H c o) (hf : ∀ od u, H p ≠ some (.frz od u))
    (hw : ∀ f ∈ fls, n < f → c.lo f = true) : Rel K mg G fls (st.set n c) m (upd H p o) ∧ Ext m H m (upd H p o) := by
  obtain ⟨a, b, d⟩ := R.writeR hn hc hw
  refine ⟨a, b.pre, b.old, rfl, d, fun q od u e => ?_⟩
  rw [upd_ne (fun z => hf od u (by rw [← z]; exact e))]
  exact e
/-- a cell's content -/
theorem Rel.content {K : PySem.W.Frag} {mg : Str → Option Value} {fls : List Nat} {st : Sto} {m : Mp} {H : Hp} {n : Nat} {p : Addr} {c : D} (R : Rel K mg G fls st m H) (hn : m.c[n]? = some p) (hc : st[n]? = some c) : ∃ o, H p = some o ∧ CellR K mg G m H c o := R.cell n c p hc hn
mutual
theorem lo_mono {f g : Nat} (h : f ≤ g) : ∀ d : D, d.lo f = true → d.lo g = true
  | .non, _ => rfl
  | .bl _, _ => rfl
  | .int _, _ => rfl
  | .str _, _ => rfl
  | .fn _, _ => rfl
  | .cl _, _ => rfl
  | .ty _, _ => rfl
  | .tup xs, e => los_mono h xs e
  | .lst xs, e => los_mono h xs e
  | .fz xs, e => los_mono h xs e
  | .tk xs, e => los_mono h xs e
  | .dk xs, e => loK_mono h xs e
  | .dt xs, e => loT_mono h xs e
  | .ins _ xs, e => loS_mono h xs e
  | .err _ xs, e => loF_mono h xs e
  | .lk d, e => lo_mono h d e
  | .ref n, e => by
    have e' : n < f := of_decide_eq_true e
    exact decide_eq_true (by omega)
theorem los_mono {f g : Nat} (h : f ≤ g) : ∀ d : List D, D.los f d = true → D.los g d = true
  | [], _ => rfl
  | x :: xs, e => by
    simp only [D.los, Bool.and_eq_true] at e ⊢
    exact ⟨lo_mono h x e.1, los_mono h xs e.2⟩
theorem loK_mono {f g : Nat} (h : f ≤ g) : ∀ d : List (Key × D), D.loK f d = true → D.loK g d = true
  | [], _ => rfl
  | (k, x) :: xs, e => by
    simp only [D.loK, Bool.and_eq_true] at e ⊢
    exact ⟨lo_mono h x e.1, loK_mono h xs e.2⟩
theorem loT_mono {f g : Nat} (h : f ≤ g) : ∀ d : List (List Key × D), D.loT f d = true → D.loT g d = true
  | [], _ => rfl
  | (k, x) :: xs, e => by
    simp only [D.loT, Bool.and_eq_true] at e ⊢
    exact ⟨lo_mono h x e.1, loT_mono h xs e.2⟩
theorem loF_mono {f g : Nat} (h : f ≤ g) : ∀ d : List (Nat × D), D.loF f d = true → D.loF g d = true
  | [], _ => rfl
  | (k, x) :: xs, e => by
    simp only [D.loF, Bool.and_eq_true] at e ⊢
    exact ⟨lo_mono h x e.1, loF_mono h xs e.2⟩
theorem loS_mono {f g : Nat} (h : f ≤ g) : ∀ d : List (Str × D), D.loS f d = true → D.loS g d = true
  | [], _ => rfl
  | (k, x) :: xs, e => by
    simp only [D.loS, Bool.and_eq_true] at e ⊢
    exact ⟨lo_mono h x e.1, loS_mono h xs e.2⟩
end
theorem los_app {f : Nat} : ∀ (xs ys : List D), D.los f (xs ++ ys) = (D.los f xs && D.los f ys)
  | [], ys => rfl
  | x :: xs, ys => by
    show (D.lo f x && D.los f (xs ++ ys)) = ((D.lo f x && D.los f xs) && D.los f ys)
    rw [los_app xs ys, Bool.and_assoc]
theorem wr_lo {fl n : Nat} {d : D} (h : wrOk fl n d = true) {f : Nat} (hf : f ≤ fl) (hn : n < f) : d.lo f = true := by
  unfold wrOk at h
  simp only [Bool.or_eq_true, decide_eq_true_eq] at h
  rcases h with h | h
  · omega
  · exact lo_mono (Nat.zero_le f) d h
theorem txt_join {a : Str} {ys : List Str} : Txt.join a ys = Str.join a ys := PySem.StrLaws.glued_eq_join a ys
theorem join_ok {a : Str} (ha : StrOk a) : ∀ {ys : List Str}, (∀ x ∈ ys, StrOk x) → StrOk (Str.join a ys)
  | [], _ => by show StrOk Str.empty; simp [Str.empty]
  | [x], h => h x (by simp)
  | x :: y :: r, h => by
    show StrOk (x ++ a ++ Str.join a (y :: r))
    exact str_app (str_app (h x (by simp)) ha) (join_ok ha fun z hz => h z (List.mem_cons_of_mem _ hz))
def bmId (b : Bm) (T : String) : String :=
  match b, T with
  | .append, _ => "list.append"
  | .extend, _ => "list.extend"
  | .index, _ => "list.index"
  | .join, _ => "str.join"
  | _, _ => ""
theorem recv_ok {b : Bm} {T : String} {st : Sto} {x : D} (e : recvT b (view st x) = some T) : PlainAttrs T ∧ Slot T (bmName b) (bmId b T) ∧ typeOf (.builtin (bmId b T)) = pure (.type "method_descriptor") ∧
    ∀ fls m H v, RelX X G fls st m H → RepX X G m H x v → tyV X.K T v H := by
  unfold recvT at e
  split at e
  · rename_i ev
    cases e
    refine ⟨PySem.F.plainAttrs_list, PySem.F.slot_list_append, PySem.F.type_list_append, fun fls m H v R r => ?_⟩
    obtain ⟨p, vs, rfl, hp, _⟩ := R.lst r ev
    exact .inl ⟨rfl, _, SqL.of hp⟩
  · rename_i ev
    cases e
    refine ⟨PySem.F.plainAttrs_list, PySem.F.slot_list_extend, PySem.F.type_list_extend, fun fls m H v R r => ?_⟩
    obtain ⟨p, vs, rfl, hp, _⟩ := R.lst r ev
    exact .inl ⟨rfl, _, SqL.of hp⟩
  · rename_i ev
    cases e
    refine ⟨PySem.F.plainAttrs_list, PySem.F.slot_list_index, PySem.F.type_list_index, fun fls m H v R r => ?_⟩
    obtain ⟨p, vs, rfl, hp, _⟩ := R.lst r ev
    exact .inl ⟨rfl, _, SqL.of hp⟩
  · rename_i ev
    cases e
    refine ⟨PySem.F.plainAttrs_str, PySem.F.slot_str_join, PySem.F.type_str_join, fun fls m H v R r => ?_⟩
    obtain ⟨rfl, _⟩ := R.str r ev
    rfl
  · cases e
theorem bmD_ok {b : Bm} {T : String} {x : D} {as : List D} {st st' : Sto} {d : D} (eT : recvT b (view st x) = some T) (e : bmD fl b x as st = .ok d st') : ∃ r, MtR X (bmId b T) r ∧
    ∀ fls m H v us, RelX X G fls st m H → (∀ f ∈ fls, f ≤ fl) → RepX X G m H x v → Reps X.K X.mg G m H as us → (∀ m0 H0 Q, Ext m0 H0 m H → QVX X G fls st' m0 H0 d Q → r v us H Q) := by
  unfold bmD at e
  split at e
  · rename_i n v0
    split at e
    · rename_i xs ec
      split at e
      · rename_i hz
        cases e
        refine ⟨_, mt_append, fun fls m H v us R hf rx ru m0 H0 Q x0 q => ?_⟩
        cases rx with
        | ref hn =>
        obtain ⟨o, h1, h2⟩ := R.content hn ec
        cases h2 with
        | lst rs =>
        obtain ⟨u, rfl, r⟩ := reps1 ru
        have hw := R.write (c := .lst (xs ++ [v0])) (o := .lst (_ ++ [u])) hn (.lst (rs.app (.cons r .nil))) (fun _ _ z => by rw [h1] at z; cases z) fun f hff hnf => by
          show D.los f (xs ++ [v0]) = true
          rw [los_app]
          have h3 : D.lo f (.lst xs) = true := R.clean f hff n _ hnf ec
          have h4 : D.los f xs = true := h3
          rw [h4, Bool.true_and]
          show (D.lo f v0 && true) = true
          rw [wr_lo hz.2 (hf f hff) hnf]; rfl
        exact ⟨_, _, u, rfl, rfl, h1, by rw [← rs.length, ← SZ_eq]; exact hz.1, q _ _ _ (x0.trans hw.2) hw.1 .non⟩
      · cases e
    · cases e
  · rename_i n v0
    split at e
    · rename_i xs ys ec ev
      split at e
      · rename_i hz
        cases e
        refine ⟨_, mt_extend, fun fls m H v us R hf rx ru m0 H0 Q x0 q => ?_⟩
        cases rx with
        | ref hn =>
        obtain ⟨o, h1, h2⟩ := R.content hn ec
        cases h2 with
        | lst rs =>
        obtain ⟨u, rfl, r⟩ := reps1 ru
        obtain ⟨p, vs, rfl, hp, rr⟩ := R.lst r ev
        have hw := R.write (c := .lst (xs ++ ys)) (o := .lst (_ ++ vs)) hn (.lst (rs.app rr)) (fun _ _ z => by rw [h1] at z; cases z) fun f hff hnf => by
          show D.los f (xs ++ ys) = true
          rw [los_app]
          have h3 : D.lo f (.lst xs) = true := R.clean f hff n _ hnf ec
          have h4 : D.los f xs = true := h3
          rw [h4, Bool.true_and]
          exact wr_lo (d := .lst ys) hz.2 (hf f hff) hnf
        exact ⟨_, p, _, vs, rfl, rfl, h1, hp, by rw [← rs.length, ← rr.length, ← SZ_eq]; exact hz.1, q _ _ _ (x0.trans hw.2) hw.1 .non⟩
      · cases e
    · rename_i xs ys ec ev
      split at e
      · rename_i hz
        cases e
        refine ⟨_, EvSet.mt_extendT, fun fls m H v us R hf rx ru m0 H0 Q x0 q => ?_⟩
        cases rx with
        | ref hn =>
        obtain ⟨o, h1, h2⟩ := R.content hn ec
        cases h2 with
        | lst rs =>
        obtain ⟨u, rfl, r⟩ := reps1 ru
        obtain ⟨p, vs, rfl, hp, rr⟩ := R.tup r ev
        have hw := R.write (c := .lst (xs ++ ys)) (o := .lst (_ ++ vs)) hn (.lst (rs.app rr)) (fun _ _ z => by rw [h1] at z; cases z) fun f hff hnf => by
          show D.los f (xs ++ ys) = true
          rw [los_app]
          have h3 : D.lo f (.lst xs) = true := R.clean f hff n _ hnf ec
          have h4 : D.los f xs = true := h3
          rw [h4, Bool.true_and]
          exact wr_lo (d := .lst ys) hz.2 (hf f hff) hnf
        exact ⟨_, p, _, vs, rfl, rfl, h1, SqT.of hp, by rw [← rs.length, ← rr.length, ← SZ_eq]; exact hz.1, q _ _ _ (x0.trans hw.2) hw.1 .non⟩
      · cases e
    · cases e
  · rename_i v0
    split at e
    · rename_i xs ev
      split at e
      · rename_i hz
        split at e
        · rename_i j hj
          cases e
          refine ⟨_, mt_index, fun fls m H v us R hf rx ru m0 H0 Q x0 q => ?_⟩
          obtain ⟨u, rfl, r⟩ := reps1 ru
          obtain ⟨p, vs, rfl, hp, rr⟩ := R.lst rx ev
          obtain ⟨hj1, hj2, hj3⟩ := List.findIdx?_eq_some_iff_getElem.mp hj
          obtain ⟨w, hw, rw_⟩ := rr.get (List.getElem?_eq_getElem hj1)
          have hfl : ∀ (k : Nat) (hk : k < xs.length), flat xs[k] = true := fun k hk => List.all_eq_true.mp hz.2 _ (List.getElem_mem hk)
          refine ⟨p, vs, u, j, w, rfl, rfl, SqL.of hp, flat_rep hz.1 r, flats_rep hz.2 rr, hw, ?_, fun mm z' hm hz' => ?_, QV.here (QV.ext x0 q) R (.int _)⟩
          · rw [eqV_eqv (hfl j hj1) hz.1 rw_ r]; exact hj2
          · have hm1 : mm < xs.length := by omega
            obtain ⟨w', hw', rw'⟩ := rr.get (List.getElem?_eq_getElem hm1)
            rw [hz'] at hw'
            cases hw'
            rw [eqV_eqv (hfl mm hm1) hz.1 rw' r]
            have := hj3 mm hm
            simpa using this
        · cases e
      · cases e
    · cases e
  · rename_i a v0
    split at e
    · rename_i ys ht
      split at e
      · rename_i hz
        cases e
        refine ⟨_, mt_join, fun fls m H v us R hf rx ru m0 H0 Q x0 q => ?_⟩
        obtain ⟨u, rfl, r⟩ := reps1 ru
        obtain ⟨rfl, _, ha⟩ := R.str rx rfl
        rw [SZ_eq] at hz
        unfold textsOf at ht
        split at ht
        · rename_i ev
          obtain ⟨p, vs, rfl, hp, rr⟩ := R.lst r ev
          obtain ⟨e3, hok⟩ := strs_rep ht rr
          subst e3
          refine ⟨a, p, ys, rfl, rfl, .inl (SqL.of hp), hz, ?_⟩
          rw [txt_join]
          exact QV.here (QV.ext x0 q) R (.str (join_ok ha hok))
        · rename_i ev
          obtain ⟨p, vs, rfl, hp, rr⟩ := R.tup r ev
          obtain ⟨e3, hok⟩ := strs_rep ht rr
          subst e3
          refine ⟨a, p, ys, rfl, rfl, .inr (SqT.of hp), hz, ?_⟩
          rw [txt_join]
          exact QV.here (QV.ext x0 q) R (.str (join_ok ha hok))
        · cases ht
      · cases e
    · cases e
  · cases e
/-- the union of a method's rules -/
def rMt (X : Cx) (id : String) : V → List V → Hp → VK → Prop := fun v us H Q => ∃ r, MtR X id r ∧ r v us H Q
theorem mtAny {id : String} : MtR X id (rMt X id) := fun pins s σ H x xs v us Q I rx rs ⟨_, hr, h⟩ => hr pins s σ H x xs v us Q I rx rs h
theorem bm_none {b : Bm} : ∃ T id, PlainAttrs T ∧ Slot T (bmName b) id ∧ typeOf (.builtin id) = pure (.type "method_descriptor") := by
  cases b with
  | append => exact ⟨_, _, PySem.F.plainAttrs_list, PySem.F.slot_list_append, PySem.F.type_list_append⟩
  | extend => exact ⟨_, _, PySem.F.plainAttrs_list, PySem.F.slot_list_extend, PySem.F.type_list_extend⟩
  | index => exact ⟨_, _, PySem.F.plainAttrs_list, PySem.F.slot_list_index, PySem.F.type_list_index⟩
  | get1 => exact ⟨_, _, PySem.F.plainAttrs_dict, PySem.F.slot_dict_get, PySem.F.type_dict_get⟩
  | get2 => exact ⟨_, _, PySem.F.plainAttrs_dict, PySem.F.slot_dict_get, PySem.F.type_dict_get⟩
  | join => exact ⟨_, _, PySem.F.plainAttrs_str, PySem.F.slot_str_join, PySem.F.type_str_join⟩
  | pop2 => exact ⟨_, _, PySem.F.plainAttrs_dict, PySem.F.slot_dict_pop, PySem.F.type_dict_pop⟩
  | bitlen => exact ⟨_, _, PySem.F.plainAttrs_int, PySem.F.slot_int_bit_length, PySem.F.type_int_bit_length⟩
theorem c_bm {b : Bm} {o : Ex} {as : Exs} {eo e : Expr} {es : List Expr} {apos : Pos} (ho : PE X eo (tE X G C fl W o)) (ha : PA X (e :: es) (tAs X G C fl W as)) (hb : baseB eo = true) (hl : (apos.endLine == pos.line) = true) (hp : (e :: es).all plB = true) (hlen : (e :: es).length < 30) :
    PE X (.Call (.Attribute eo (bmName b) apos) (e :: es) [] pos) (tE X G C fl W (.bm b o as)) := by
  have hp' := hp
  simp only [List.all_cons, Bool.and_eq_true] at hp'
  refine ⟨fun pins s σ H Q I h => ?_⟩
  obtain ⟨ρ, fls, st, m, S, q⟩ := h
  unfold evE at q
  cases e1 : evE G (C fl) fl ρ o st with
  | bad => rw [e1] at q; exact q.elim
  | exc c fs s1 =>
    obtain ⟨T, id, h1, h2, h3⟩ := bm_none (b := b)
    refine (pe_bm (cpos := pos) h1 h2 h3 (mtAny (X := X)) ho ha (base_pl hb) (few_pl hp hlen) hl (star_pl hp'.1) (anyF hp'.2)).run pins s σ H Q I ⟨ρ, fls, st, m, S, ?_⟩
    rw [e1] at q ⊢
    exact q
  | ok x st1 =>
    rw [e1, Out.bind_ok] at q
    cases eT : recvT b (view st1 x) with
    | none => rw [eT] at q; exact q.elim
    | some T =>
      rw [eT] at q
      dsimp only at q
      obtain ⟨h1, h2, h3, h4⟩ := recv_ok (X := X) (G := G) eT
      refine (pe_bm (cpos := pos) h1 h2 h3 (mtAny (X := X)) ho ha (base_pl hb) (few_pl hp hlen) hl (star_pl hp'.1) (anyF hp'.2)).run pins s σ H Q I ⟨ρ, fls, st, m, S, ?_⟩
      rw [e1]
      intro v m1 H1 x1 R1 r1
      refine ⟨h4 _ _ _ _ R1 r1, ?_⟩
      refine tl1 (S.ext x1 R1) (Post.ext x1 q) fun ds st2 vs m2 H2 x2 S2 r2 q2 => ?_
      split at q2
      · rename_i eT2
        cases ed : bmD fl b x ds st2 with
        | bad => rw [ed] at q2; exact q2.elim
        | exc c fs s => 
          exfalso
          unfold bmD at ed
          repeat (first | cases ed | split at ed)
        | ok d st3 =>
          rw [ed] at q2
          obtain ⟨r, h5, h6⟩ := bmD_ok (X := X) (G := G) eT2 ed
          exact ⟨r, h5, h6 _ _ _ _ _ S2.rel S2.flf (r1.ext x2) r2 m H Q (x1.trans x2) q2⟩
      · exact q2.elim
end
end Ev

set_option Elab.async false
set_option linter.all false
set_option maxRecDepth 100000
set_option maxHeartbeats 4000000
/-! Ev, part C: own classes: instances made, their fields read and stored, their methods called. -/
namespace Ev
open PySem L2 PySem.Spec
open PyProof.Rows hiding St

section
variable {K : PySem.W.Frag} {mg : Str → Option Value} {G : Prog} {m : Mp} {H : Hp}
theorem RepF.get {fs : List (Str × D)} {vs : List (Str × V)} (r : RepF K mg G m H fs vs) {f : Str} {d : D} (e : fs.lookup f = some d) : ∃ v, vs.lookup f = some v ∧ Rep K mg G m H d v := by
  induction r with
  | nil => cases e
  | @cons g d0 v0 r r' a t ih =>
    rw [List.lookup_cons] at e
    rw [List.lookup_cons]
    by_cases h : (f == g) = true
    · rw [h] at e ⊢
      cases e
      exact ⟨v0, rfl, a⟩
    · have h : (f == g) = false := by simpa using h
      rw [h] at e ⊢
      exact ih e
theorem RepF.none {fs : List (Str × D)} {vs : List (Str × V)} (r : RepF K mg G m H fs vs) {f : Str} (e : fs.lookup f = none) : vs.lookup f = none := by
  induction r with
  | nil => rfl
  | @cons g d0 v0 r r' a t ih =>
    rw [List.lookup_cons] at e
    rw [List.lookup_cons]
    by_cases h : (f == g) = true
    · rw [h] at e
      cases e
    · have h : (f == g) = false := by simpa using h
      rw [h] at e ⊢
      exact ih e
theorem RepF.len {fs : List (Str × D)} {vs : List (Str × V)} (r : RepF K mg G m H fs vs) : fs.length = vs.length := by
  induction r with
  | nil => rfl
  | cons _ _ ih => simp [ih]
theorem RepF.put {fs : List (Str × D)} {vs : List (Str × V)} (r : RepF K mg G m H fs vs) {d : D} {v : V} (q : Rep K mg G m H d v) (f : Str) : RepF K mg G m H (putS f d fs) (putF f v vs) := by
  induction r with
  | nil => exact .cons q .nil
  | @cons g d0 v0 r r' a t ih =>
    show RepF K mg G m H (if g = f then _ else _) (if g = f then _ else _)
    by_cases h : g = f
    · rw [if_pos h, if_pos h]
      exact .cons q t
    · rw [if_neg h, if_neg h]
      exact .cons a ih
theorem loS_put {f : Nat} {d : D} {g : Str} (hd : d.lo f = true) : ∀ fs : List (Str × D), D.loS f fs = true → D.loS f (putS g d fs) = true
  | [], _ => by show (d.lo f && true) = true; rw [hd]; rfl
  | p :: r, h => by
    simp only [D.loS, Bool.and_eq_true] at h
    show D.loS f (if p.1 = g then _ else _) = true
    split
    · show (d.lo f && D.loS f r) = true
      rw [hd, h.2]; rfl
    · show (p.2.lo f && D.loS f (putS g d r)) = true
      rw [h.1, loS_put hd r h.2]; rfl
/-- an instance as it is tracked -/
theorem Rel.ins {fls st} (R : Rel K mg G fls st m H) {d : D} {v : V} {c : Nat} {fs : List (Str × D)} (r : Rep K mg G m H d v) (e : view st d = .ins c fs) :
    ∃ n p P A dx vs, d = .ref n ∧ v = .ref p ∧ m.c[n]? = some p ∧ st[n]? = some (.ins c fs) ∧ G.clss[c]? = some P ∧ mg P.1 = some (.ref A) ∧ H p = some (.ins A dx vs) ∧ RepF K mg G m H fs vs := by
  cases r with
  | @ref n p h =>
    have hn : n < st.length := by rw [← R.len]; exact (List.getElem?_eq_some_iff.mp h).1
    obtain ⟨o, a, b⟩ := R.cell n _ p (List.getElem?_eq_getElem hn) h
    simp [view, hn] at e
    rw [e] at b
    have e2 : st[n]? = some (.ins c fs) := by rw [List.getElem?_eq_getElem hn, e]
    cases b with
    | @ins _ P A dx _ vs h1 h2 h3 => exact ⟨n, p, P, A, dx, vs, rfl, rfl, h, e2, h1, h2, a, h3⟩
  | _ => simp [view] at e
/-- a new cell -/
theorem Rel.push {fls st} (R : Rel K mg G fls st m H) {p : Addr} {o : HO} {d : D} (n : H p = none) (c : CellR K mg G m H d o) :
    Rel K mg G fls (st ++ [d]) ⟨m.c ++ [p], m.h⟩ (upd H p o) ∧ Ext m H ⟨m.c ++ [p], m.h⟩ (upd H p o) ∧ (m.c ++ [p])[st.length]? = some p := by
  have hp : ¬ m.live p := R.notin n
  have g : Ext m H ⟨m.c ++ [p], m.h⟩ (upd H p o) := by
    refine ⟨fun i a h => ?_, fun q u h1 h2 => ?_, rfl, fun q hq => ?_, fun q od u e => by rw [upd_ne (ne_of_none e n)]; exact e⟩
    · show (m.c ++ [p])[i]? = some a
      rw [List.getElem?_append_left (List.getElem?_eq_some_iff.mp h).1]; exact h
    · have hq := ne_of_none h1 n
      refine ⟨by rw [upd_ne hq]; exact h1, fun z => ?_⟩
      rcases z with z | z
      · rcases List.mem_append.mp z with z | z
        · exact h2 (.inl z)
        · exact hq (by simpa using z)
      · exact h2 (.inr z)
    · obtain ⟨_, u, h⟩ := R.hid q hq
      rw [upd_ne (ne_of_none h n)]
  have hlen : m.c.length = st.length := R.len
  refine ⟨⟨by simp [hlen], ?_, fun i c' q e1 e2 => ?_, fun q hq => ?_, fun f hf i c' hi e1 => ?_, fun f hf => ?_, fun q hq vs => ?_⟩, g, ?_⟩
  · refine List.nodup_append.mpr ⟨R.nd, by simp, fun a ha b hb => ?_⟩
    have : b = p := by simpa using hb
    subst this
    intro z
    subst z
    exact hp (.inl ha)
  · have e2 : (m.c ++ [p])[i]? = some q := e2
    by_cases hi : i < st.length
    · rw [List.getElem?_append_left hi] at e1
      rw [List.getElem?_append_left (by rw [hlen]; exact hi)] at e2
      obtain ⟨u, h1, h2⟩ := R.cell i c' q e1 e2
      exact ⟨u, by rw [upd_ne (ne_of_none h1 n)]; exact h1, h2.ext g⟩
    · rw [List.getElem?_append_right (by omega)] at e1
      rw [List.getElem?_append_right (by omega)] at e2
      have hi0 : i - st.length = 0 := by
        by_cases h0 : i - st.length = 0
        · exact h0
        · rw [List.getElem?_eq_none (by simp; omega)] at e1; cases e1
      rw [hi0] at e1
      have hi1 : i - m.c.length = 0 := by omega
      rw [hi1] at e2
      simp at e1 e2
      subst e1 e2
      exact ⟨o, upd_same, c.ext g⟩
  · obtain ⟨h1, u, h2⟩ := R.hid q hq
    have hq' := ne_of_none h2 n
    refine ⟨fun z => ?_, u, by rw [upd_ne hq']; exact h2⟩
    rcases List.mem_append.mp z with z | z
    · exact h1 z
    · exact hq' (by simpa using z)
  · have := R.fle f hf
    rw [List.getElem?_append_left (by omega)] at e1
    exact R.clean f hf i c' hi e1
  · have := R.fle f hf
    simp; omega
  · obtain ⟨_, u, h2⟩ := R.hid q hq
    rw [upd_ne (ne_of_none h2 n)]
    exact R.hnt q hq vs
  · rw [List.getElem?_append_right (by omega)]
    simp [hlen]
end

section
variable {X : Cx} {G : Prog} {C : Nat → Nat → List D → Sto → Out D} {fl k : Nat} {W : WX} {N : List Str} {sc : Scope} {pos : Pos}
theorem c_badE {e : Expr} : PE X e (tE X G C fl W .badE) := ⟨fun pins s σ H Q I h => by
  obtain ⟨ρ, fls, st, m, S, q⟩ := h
  unfold evE at q
  exact q.elim⟩
theorem p_badE {e : Expr} : PT X e (tT X G C fl W .badE) := ⟨fun pins s σ H Q I h => by
  obtain ⟨ρ, fls, st, m, S, q⟩ := h
  unfold evE at q
  exact q.elim⟩
theorem c_attr {o : Ex} {f : Str} {eo : Expr} (ok : XOk G C k W N sc X) (ho : PE X eo (tE X G C fl W o)) (hb : baseB eo = true) : PE X (.Attribute eo f pos) (tE X G C fl W (.attr o f)) := by
  refine (pe_fld ho (base_pl0 hb)).im fun σ H Q ⟨ρ, fls, st, m, S, q⟩ => ?_
  unfold evE at q
  refine t1 S q fun x st1 v m1 H1 e1 S1 r1 q1 => ?_
  split at q1
  · rename_i c fs hv
    split at q1
    · rename_i hf
      cases hl : fs.lookup f with
      | none => rw [hl] at q1; exact q1.elim
      | some d =>
        rw [hl, lift_some] at q1
        obtain ⟨n, p, P, A, dx, vs, rfl, rfl, hn, _, hP, hA, hH, rf⟩ := S1.rel.ins r1 hv
        obtain ⟨A', h1, h2, _, _, h5, _⟩ := ok.clss c P hP
        rw [hA] at h1
        cases h1
        obtain ⟨u, hu, ru⟩ := rf.get hl
        refine ⟨p, A, dx, vs, u, rfl, hH, h2, h5 f ?_, hu, QV.here (QV.ext e1 q1) S1.rel ru⟩
        unfold fldB at hf
        rw [hP] at hf
        exact hf
    · exact q1.elim
  · exact q1.elim

/-- o.m(e, ..) where what is raised is wished for at the caller's slots -/
def tMethE (A : Addr) (mm : Str) (sp : Sp) (E : St → XK) (ta : TE) (t : TA) : TE := fun σ H Q => ta σ H fun x H1 => ∃ a dx fs, x = .ref a ∧ H1 a = some (.ins A dx fs) ∧ fs.lookup mm = none ∧
  t σ H1 fun vs H2 => sp (x :: vs) H2 Q (E σ)
section
variable {CX : CXT} {j : Nat} {f A : Addr} {fd : FuncData} {ps : List Str} {sp : Sp} {E : St → XK} {mm : Str} {apos : Pos} {e o : Expr} {es : List Expr} {ta : TE} {t : TA}
theorem pe_methE {pl : Sem Bool} (he : PE X o ta) (c : Cls X.K A) (hm : Meth X.K A mm f) (F : FnOk X.prog X.w X.K X.mg X.base CX j f fd ps sp) (hr : Room j X.A) (hb : Binds X.K fd ps []) (hx : ∀ σ, PassesAt CX X σ (E σ)) (ha : PA X (e :: es) t)
    (hst : starEach (e :: es) X.env = (false, eval e X.env) :: starEach es X.env) (hpl : (backTo pos (starEach es X.env)).any (·.1) = false)
    (ht : eval (.Call (.Attribute o mm apos) (e :: es) [] pos) X.env = (do
      let ov ← eval o X.env
      standAt apos.atName
      let (f, first) ← holding [ov] (getMethod ov mm pl)
      callWith pos f first (backTo pos (starEach (e :: es) X.env)) (backToKw pos (keywordEach [] X.env)))) :
    PE X (.Call (.Attribute o mm apos) (e :: es) [] pos) (tMethE A mm sp E ta t) := by
  refine ⟨fun pins s σ H Q I h => ?_⟩
  refine PySem.W.methodCall_KW (pl := pl) (thn (he.run pins s σ H _ I h) fun u s1 ⟨x, H1, I1, rx, a, dx, fs, ex, ea, l, q⟩ => ?_) ht
  subst ex
  obtain rfl : u = Value.ref a := rx
  refine getmeth_ok I1 ea c hm l ?_
  refine PySem.W.callWith_K (first := [.ref a]) (h₀ := X.base) I.ok.mod.kin hm.kp (thn (ha.run pos pins s1 σ H1 _ I1 q) fun us s2 ⟨vs, H2, I2, r, q2⟩ => ⟨I2.kIn, ?_⟩) hst hpl
  exact run_fnS (us := .ref a :: us) (vs := .ref a :: vs) F hr hb (hx σ) I2 (.cons rfl r) q2
theorem pe_methE0 {pl : Sem Bool} (he : PE X o ta) (c : Cls X.K A) (hm : Meth X.K A mm f) (F : FnOk X.prog X.w X.K X.mg X.base CX j f fd ps sp) (hr : Room j X.A) (hb : Binds X.K fd ps []) (hx : ∀ σ, PassesAt CX X σ (E σ))
    (ht : eval (.Call (.Attribute o mm apos) [] [] pos) X.env = (do
      let ov ← eval o X.env
      standAt apos.atName
      let (f, first) ← holding [ov] (getMethod ov mm pl)
      callWith pos f first (backTo pos (starEach [] X.env)) (backToKw pos (keywordEach [] X.env)))) :
    PE X (.Call (.Attribute o mm apos) [] [] pos) (tMethE A mm sp E ta tNil) := by
  refine ⟨fun pins s σ H Q I h => ?_⟩
  refine PySem.W.methodCall_KW (pl := pl) (thn (he.run pins s σ H _ I h) fun u s1 ⟨x, H1, I1, rx, a, dx, fs, ex, ea, l, q⟩ => ?_) ht
  subst ex
  obtain rfl : u = Value.ref a := rx
  refine getmeth_ok I1 ea c hm l ?_
  exact PySem.W.callWith_K0 (first := [.ref a]) I1.kIn hm.kp (run_fnS (us := [.ref a]) (vs := [.ref a]) F hr hb (hx σ) I1 (.cons rfl .nil) q)
end
/-- how a method's call is evaluated -/
theorem meth_ht {eo : Expr} {name : Str} {apos : Pos} {es : List Expr} {env : PySem.Env} (hb : baseB eo = true) (hf : methodCallForm (es.length + ([] : List Keyword).length) (backTo pos (starEach es env)) (backToKw pos (keywordEach [] env)) = true) (hl : (apos.endLine == pos.line) = true) :
    eval (.Call (.Attribute eo name apos) es [] pos) env = (do
      let ov ← eval eo env
      standAt apos.atName
      let (f, first) ← holding [ov] (getMethod ov name (do return (← importBound eo env).getD true))
      callWith pos f first (backTo pos (starEach es env)) (backToKw pos (keywordEach [] env))) := by
  rw [arm_eval_Call, base_pl0 hb]
  unfold methodCall
  rw [hf]
  unfold calleeOf methodCallPos
  rw [hl]
  rfl
theorem few0 {env : PySem.Env} : methodCallForm (([] : List Expr).length + ([] : List Keyword).length) (backTo pos (starEach [] env)) (backToKw pos (keywordEach [] env)) = true := rfl
theorem mth_of {c : Nat} {mm : Str} {f : Nat} (h : mthOf G c mm = some f) : ∃ P, G.clss[c]? = some P ∧ P.2.1.lookup mm = some f := by
  unfold mthOf at h
  split at h
  · rename_i P hP
    exact ⟨P, hP, h⟩
  · cases h
theorem c_meth {c : Nat} {mm : Str} {o : Ex} {as : Exs} {eo : Expr} {es : List Expr} {apos : Pos} (ok : XOk G C k W N sc X) (ho : PE X eo (tE X G C fl W o)) (ha : PA X es (tAs X G C fl W as)) (hn : es = [] → as = .nil) (hb : baseB eo = true)
    (hl : (apos.endLine == pos.line) = true) (hp : es.all plB = true) (hlen : es.length < 30) (hm : (mthOf G c mm).isSome = true) :
    PE X (.Call (.Attribute eo mm apos) es [] pos) (tE X G C fl W (.meth c mm o as)) := by
  obtain ⟨f, hm⟩ := Option.isSome_iff_exists.mp hm
  obtain ⟨P, hP, hf⟩ := mth_of hm
  obtain ⟨A, hA, hCls, _, _, _, hMeth⟩ := ok.clss c P hP
  obtain ⟨F, a, fd, ps, hF, hM, hnp, hbi, hFn⟩ := hMeth mm f hf
  have key : ∀ {σ : St} {H : Hp} {Q : VK}, tE X G C fl W (.meth c mm o as) σ H Q → tE X G C fl W o σ H fun x H1 => ∃ p dx fs, x = .ref p ∧ H1 p = some (.ins A dx fs) ∧ fs.lookup mm = none ∧
      tAs X G C fl W as σ H1 fun vs H2 => spEv X.K X.mg G C f F.np (x :: vs) H2 Q (WE W σ) := by
    intro σ H Q ⟨ρ, fls, st, m, S, q⟩
    unfold evE at q
    refine t1 S q fun x st1 v m1 H1 e1 S1 r1 q1 => ?_
    split at q1
    · rename_i c' fs hv
      split at q1
      · rename_i hc
        obtain ⟨n, p, P', A', dx, vs, rfl, rfl, hn, _, hP', hA', hH, rf⟩ := S1.rel.ins r1 hv
        rw [hc.1] at hP'
        rw [hP] at hP'
        cases hP'
        rw [hA] at hA'
        cases hA'
        refine ⟨p, dx, vs, rfl, hH, rf.none hc.2, ?_⟩
        refine tl1 S1 q1 fun ds st2 us m2 H2 x2 S2 r2 q2 => ?_
        rw [hm] at q2
        dsimp only at q2
        split at q2
        · rename_i hq
          rw [hF] at hq
          simp only [Option.map_some, Option.some.injEq] at hq
          exact ⟨.ref n :: ds, fls, st2, m2, fl, S2.rel, S2.flf, S2.fll, .cons (r1.ext x2) r2, by rw [List.length_cons]; exact hq.symm, q2.imp fun d s h => QV.ext (e1.trans x2) h⟩
        · exact q2.elim
      · exact q1.elim
    · exact q1.elim
  cases es with
  | nil =>
    have hn := hn rfl
    subst hn
    refine (pe_methE0 ho hCls hM hFn (ok.room.mono (by omega)) hbi (fun σ => passAtG ok.tk ok.inF σ) (meth_ht hb few0 hl)).im fun σ H Q h => ?_
    obtain ⟨ρ, fls, st, m, S, q⟩ := key h
    refine ⟨ρ, fls, st, m, S, q.imp fun d s hq => fun v m1 H1 e1 R1 r1 => ?_⟩
    obtain ⟨p, dx, fs, h1, h2, h3, ρ2, fls2, st2, m2, S2, q2⟩ := hq v m1 H1 e1 R1 r1
    refine ⟨p, dx, fs, h1, h2, h3, ?_⟩
    unfold evEs at q2
    exact q2 [] m2 H1 Ext.refl S2.rel .nil
  | cons e es =>
    have hp' := hp
    simp only [List.all_cons, Bool.and_eq_true] at hp'
    exact (pe_methE ho hCls hM hFn (ok.room.mono (by omega)) hbi (fun σ => passAtG ok.tk ok.inF σ) ha (star_pl hp'.1) (anyF hp'.2) (meth_ht hb (few_pl hp hlen) hl)).im fun σ H Q h => key h
theorem pass_no : Passes (CX X.prog X.w) X (fun _ _ _ => False) := fun pins σ H s e s' I c => by
  obtain ⟨a, B, H', cls, d, _, _, _, _, _, _, _, h⟩ := c
  exact h.elim
theorem c_mk {c : Nat} {as : Exs} {x : Str} {e : Expr} {es : List Expr} {p : Pos} (ok : XOk G C k W N sc X) (ha : PA X (e :: es) (tAs X G C fl W as)) (hc : (G.clss[c]?).map (·.1) = some x) (hg : Gl X x) (hx : nameB x = true) (hp : (e :: es).all plB = true)
    (hm : (mthOf G c "__init__").isSome = true) : PE X (.Call (.Name x p) (e :: es) [] pos) (tE X G C fl W (.mk c as)) := by
  have hp' := hp
  simp only [List.all_cons, Bool.and_eq_true] at hp'
  obtain ⟨f, hm⟩ := Option.isSome_iff_exists.mp hm
  obtain ⟨P, hP, hf⟩ := mth_of hm
  rw [hP] at hc
  simp only [Option.map_some, Option.some.injEq] at hc
  subst hc
  obtain ⟨A, hA, hCls, hMk, hKp, _, hMeth⟩ := ok.clss c P hP
  obtain ⟨F, a, fd, ps, hF, hM, hnp, hbi, hFn⟩ := hMeth "__init__" f hf
  refine (pe_make (E := fun _ _ _ => False) ⟨hMk, hM.at_, hM.fn, hKp⟩ hFn (ok.room.mono (by omega)) hg hA hbi .nil pass_no ha (name_dbg hx).1 (star_pl hp'.1) (anyF hp'.2)).im fun σ H Q ⟨ρ, fls, st, m, S, q⟩ => ?_
  unfold evE at q
  refine tl1 S q fun ds st1 vs m1 H1 e1 S1 r1 q1 => ?_
  rw [hm] at q1
  dsimp only at q1
  split at q1
  · rename_i hq
    rw [hF] at hq
    simp only [Option.map_some, Option.some.injEq] at hq
    intro y dx ny ndx nex
    have R1 := S1.rel.new (.own y) ndx
    have x1 : Ext m1 H1 m1 (upd H1 dx (.own y)) := Ext.new S1.rel _ ndx
    have ny' : upd H1 dx (.own y) y = none := by rw [upd_ne (Ne.symm nex)]; exact ny
    obtain ⟨R2, x2, hy⟩ := R1.push (o := .ins A dx []) (d := .ins c []) ny' (.ins hP hA .nil)
    rw [List.append_nil]
    refine ⟨.ref st1.length :: ds, fls, st1 ++ [.ins c []], _, fl, R2, S1.flf, Nat.le_trans S1.fll (by rw [List.length_append]; omega), .cons (.ref hy) ((r1.ext x1).ext x2), by rw [List.length_cons]; exact hq.symm, ?_⟩
    cases hC : C fl f (.ref st1.length :: ds) (st1 ++ [.ins c []]) with
    | ok d st' =>
      rw [hC, Out.noX_ok, Out.bind_ok] at q1
      cases d <;> first | exact q1.elim | skip
      intro v m' H' x3 R3 r3
      cases r3
      refine ⟨rfl, ?_⟩
      exact QV.ext ((e1.trans x1).trans x2) q1 (.ref y) m' H' x3 R3 (.ref (x3.pre _ _ hy))
    | exc c' fs' st' => rw [hC] at q1; exact q1.elim
    | bad => rw [hC] at q1; exact q1.elim
  · exact q1.elim
end
end Ev

set_option Elab.async false
set_option linter.all false
set_option maxRecDepth 100000
set_option maxHeartbeats 4000000
/-! Ev, part D: chains of three, d.get, tuple.index. -/
namespace Ev
open PySem L2 PySem.Spec
open PyProof.Rows hiding St

section
variable {X : Cx} {G : Prog} {C : Nat → Nat → List D → Sto → Out D} {fl k : Nat} {W : WX} {N : List Str} {sc : Scope} {pos : Pos}
/-! ### a op b op2 c op3 d -/
def tChain3 (r r2 r3 : R2) (ta tb tc td : TE) : TE := fun σ H Q => ta σ H fun x H1 => tb σ H1 fun y H2 => r x y H2 fun z H3 => ∃ k, z = .bl k ∧
  (if k = true then tc σ H3 fun w H4 => r2 y w H4 fun z2 H5 => ∃ k2, z2 = .bl k2 ∧ (if k2 = true then td σ H5 fun u H6 => r3 w u H6 Q else Q (.bl false) H5) else Q (.bl false) H3)
theorem pe_chain3 {op op2 op3 : CmpOp} {r r2 r3 : R2} {a b c d : Expr} {ta tb tc td : TE} (ho : OpR X (compareOp op) r) (ho2 : OpR X (compareOp op2) r2) (ho3 : OpR X (compareOp op3) r3) (ha : PE X a ta) (hb : PE X b tb) (hc : PE X c tc) (hd : PE X d td)
    (hm : lastMarks [op, op2, op3] [b, c, d] = false) : PE X (.Compare a [op, op2, op3] [b, c, d] pos) (tChain3 r r2 r3 ta tb tc td) := by
  refine ⟨fun pins s σ H Q I h => ?_⟩
  refine Compare_chain (thn (ha.run pins s σ H _ I h) fun v s1 ⟨x, H1, I1, r1, q1⟩ => chain_link (thn (hb.run pins s1 σ H1 _ I1 q1) fun u s2 ⟨y, H2, I2, ry, q2⟩ =>
    thn (ho pins s2 σ H2 x y v u _ I2 r1 ry q2) fun e s3 ⟨z, H3, I3, rz, k, ez, q3⟩ => ?_)) hm
  subst ez
  cases rz
  refine wpAny_truthy_bool ?_
  cases k with
  | false => exact ite_ff ⟨.bl false, H3, I3, rfl, q3⟩
  | true =>
    refine ite_tt (chain_link (thn (hc.run pins s3 σ H3 _ I3 q3) fun w s4 ⟨z', H4, I4, rw4, q4⟩ =>
      thn (ho2 pins s4 σ H4 y z' u w _ I4 ry rw4 q4) fun e2 s5 ⟨z2, H5, I5, rz2, k2, ez2, q5⟩ => ?_))
    subst ez2
    cases rz2
    refine wpAny_truthy_bool ?_
    cases k2 with
    | false => exact ite_ff ⟨.bl false, H5, I5, rfl, q5⟩
    | true => exact ite_tt (chain_last (thn (hd.run pins s5 σ H5 _ I5 q5) fun w' s6 ⟨z3, H6, I6, r6, q6⟩ => ho3 pins s6 σ H6 z' z3 w w' Q I6 rw4 r6 q6))
theorem pt_chain3 {op op2 op3 : CmpOp} {r r2 r3 : R2} {a b c d : Expr} {ta tb tc td : TE} (ho : OpR X (compareOp op) r) (ho2 : OpR X (compareOp op2) r2) (ho3 : OpR X (compareOp op3) r3) (ha : PE X a ta) (hb : PE X b tb) (hc : PE X c tc) (hd : PE X d td)
    (hm : lastMarks [op, op2, op3] [b, c, d] = false) : PT X (.Compare a [op, op2, op3] [b, c, d] pos) (tTest (tChain3 r r2 r3 ta tb tc td)) := by
  refine ⟨fun pins s σ H Q I h => ?_⟩
  refine isTrue_chain (thn (ha.run pins s σ H _ I h) fun v s1 ⟨x, H1, I1, r1, q1⟩ => test_link (thn (hb.run pins s1 σ H1 _ I1 q1) fun u s2 ⟨y, H2, I2, ry, q2⟩ =>
    thn (ho pins s2 σ H2 x y v u _ I2 r1 ry q2) fun e s3 ⟨z, H3, I3, rz, k, ez, q3⟩ => ?_)) hm
  subst ez
  cases rz
  refine wpAny_truthy_bool ?_
  cases k with
  | false =>
    obtain ⟨k', e', q'⟩ := q3
    cases e'
    exact ite_ff ⟨H3, I3, q'⟩
  | true =>
    refine ite_tt (test_link (thn (hc.run pins s3 σ H3 _ I3 q3) fun w s4 ⟨z', H4, I4, rw4, q4⟩ =>
      thn (ho2 pins s4 σ H4 y z' u w _ I4 ry rw4 q4) fun e2 s5 ⟨z2, H5, I5, rz2, k2, ez2, q5⟩ => ?_))
    subst ez2
    cases rz2
    refine wpAny_truthy_bool ?_
    cases k2 with
    | false =>
      obtain ⟨k', e', q'⟩ := q5
      cases e'
      exact ite_ff ⟨H5, I5, q'⟩
    | true =>
      refine ite_tt (test_last (thn (hd.run pins s5 σ H5 _ I5 q5) fun w' s6 ⟨z3, H6, I6, r6, q6⟩ => thn (ho3 pins s6 σ H6 z' z3 w w' _ I6 rw4 r6 q6) fun e3 s7 ⟨z4, H7, I7, r7, k', e', q'⟩ => ?_))
      subst e'
      cases r7
      exact wpAny_truthy_bool ⟨H7, I7, q'⟩
theorem chain3_imp {op op2 op3 : COp} {a b c d : Ex} (ok : XOk G C k W N sc X) {σ : St} {H : Hp} {Q : VK} (h : tE X G C fl W (.chain3 op op2 op3 a b c d) σ H Q) :
    tChain3 (rOp X (compareOp (copOf op))) (rOp X (compareOp (copOf op2))) (rOp X (compareOp (copOf op3))) (tE X G C fl W a) (tE X G C fl W b) (tE X G C fl W c) (tE X G C fl W d) σ H Q := by
  obtain ⟨ρ, fls, st, m, S, q⟩ := h
  unfold evE at q
  refine t1 S q fun x st1 v m1 H1 e1 S1 r1 q1 => ?_
  refine t1 S1 q1 fun y st2 u m2 H2 e2 S2 r2 q2 => ?_
  cases hd : cmpD st2 op x y with
  | none => rw [hd] at q2; exact q2.elim
  | some d =>
    rw [hd] at q2
    obtain ⟨r, h1, h2⟩ := cmpD_ok (X := X) (G := G) (units_of ok) hd
    refine ⟨r, h1, h2 _ _ _ _ _ _ S2.rel (r1.ext e2) r2 ⟨d, rfl, ?_⟩⟩
    cases d with
    | false =>
      rw [if_neg Bool.false_ne_true]
      exact QV.here (QV.ext (e1.trans e2) q2) S2.rel (.bl _)
    | true =>
      rw [if_pos rfl]
      refine t1 S2 q2 fun z st3 w m3 H3 e3 S3 r3 q3 => ?_
      cases hd2 : cmpD st3 op2 y z with
      | none => rw [hd2] at q3; exact q3.elim
      | some d2 =>
        rw [hd2] at q3
        obtain ⟨r', h1, h2⟩ := cmpD_ok (X := X) (G := G) (units_of ok) hd2
        refine ⟨r', h1, h2 _ _ _ _ _ _ S3.rel (r2.ext e3) r3 ⟨d2, rfl, ?_⟩⟩
        cases d2 with
        | false =>
          rw [if_neg Bool.false_ne_true]
          exact QV.here (QV.ext (e1.trans (e2.trans e3)) q3) S3.rel (.bl _)
        | true =>
          rw [if_pos rfl]
          refine t1 S3 q3 fun w2 st4 w4 m4 H4 e4 S4 r4 q4 => ?_
          cases hd3 : cmpD st4 op3 z w2 with
          | none => rw [hd3] at q4; exact q4.elim
          | some d3 =>
            rw [hd3] at q4
            obtain ⟨r3', h1, h2⟩ := cmpD_ok (X := X) (G := G) (units_of ok) hd3
            exact ⟨r3', h1, h2 _ _ _ _ _ _ S4.rel (r3.ext e4) r4 (QV.here (QV.ext (e1.trans (e2.trans (e3.trans e4))) q4) S4.rel (.bl _))⟩
theorem c_chain3 {op op2 op3 : COp} {a b c d : Ex} {ea eb ec ed : Expr} (ok : XOk G C k W N sc X) (ha : PE X ea (tE X G C fl W a)) (hb : PE X eb (tE X G C fl W b)) (hc : PE X ec (tE X G C fl W c)) (hd : PE X ed (tE X G C fl W d)) (hm : lastMarks [copOf op, copOf op2, copOf op3] [eb, ec, ed] = false) :
    PE X (.Compare ea [copOf op, copOf op2, copOf op3] [eb, ec, ed] pos) (tE X G C fl W (.chain3 op op2 op3 a b c d)) :=
  (pe_chain3 opAny opAny opAny ha hb hc hd hm).im fun σ H Q h => chain3_imp ok h
theorem p_chain3 {op op2 op3 : COp} {a b c d : Ex} {ea eb ec ed : Expr} (ok : XOk G C k W N sc X) (ha : PE X ea (tE X G C fl W a)) (hb : PE X eb (tE X G C fl W b)) (hc : PE X ec (tE X G C fl W c)) (hd : PE X ed (tE X G C fl W d)) (hm : lastMarks [copOf op, copOf op2, copOf op3] [eb, ec, ed] = false) :
    PT X (.Compare ea [copOf op, copOf op2, copOf op3] [eb, ec, ed] pos) (tT X G C fl W (.chain3 op op2 op3 a b c d)) :=
  (pt_chain3 opAny opAny opAny ha hb hc hd hm).im fun σ H Q ⟨ρ, fls, st, m, S, q⟩ =>
    chain3_imp ok ⟨ρ, fls, st, m, S, q.imp fun dd s hq => fun v m1 H1 e1 R1 r1 => by
      obtain ⟨b, rfl, hk⟩ := hq
      cases r1
      exact ⟨b, rfl, hk m1 H1 e1 R1⟩⟩

/-! ### d.get -/
theorem m1_of {eo e : Expr} {mm : Str} {apos : Pos} (hb : baseB eo = true) (hl : (apos.endLine == pos.line) = true) (hp : plB e = true) : M1 X eo mm apos e pos := by
  have h1 : ([e] : List Expr).all plB = true := by simp [hp]
  refine ⟨base_pl0 hb, few_pl h1 (by show 1 < 30; decide), hl, ?_⟩
  rw [star_pl hp]
  rfl
theorem m2_of {eo e f : Expr} {mm : Str} {apos : Pos} (hb : baseB eo = true) (hl : (apos.endLine == pos.line) = true) (hp : plB e = true) (hp2 : plB f = true) : M2 X eo mm apos e f pos := by
  have h1 : ([e, f] : List Expr).all plB = true := by simp [hp, hp2]
  refine ⟨base_pl0 hb, few_pl h1 (by show 2 < 30; decide), hl, ?_⟩
  rw [star_pl hp, star_pl hp2]
  rfl
theorem isD_of {fls : List Nat} {st : Sto} {m : Mp} {H : Hp} {x : D} {v : V} (R : Rel X.K X.mg G fls st m H) (r : Rep X.K X.mg G m H x v) (h : isDc st x = true) : ∃ a, v = .ref a ∧ IsD H a := by
  unfold isDc at h
  split at h
  · rename_i kvs hv
    obtain ⟨p, vs, rfl, hp, _⟩ := R.dk r hv
    exact ⟨p, rfl, .inl ⟨_, .inl hp⟩⟩
  · rename_i kvs hv
    obtain ⟨p, vs, rfl, hp, _⟩ := R.dt r hv
    exact ⟨p, rfl, .inr ⟨_, .inl hp⟩⟩
  · rename_i kvs hv
    obtain ⟨p, vs, rfl, hp, _⟩ := R.lkdk r hv
    exact ⟨p, rfl, .inl ⟨_, hp⟩⟩
  · rename_i kvs hv
    obtain ⟨p, vs, rfl, hp, _⟩ := R.lkdt r hv
    exact ⟨p, rfl, .inr ⟨_, hp⟩⟩
  · cases h
theorem getO_ok {fls : List Nat} {st : Sto} {m : Mp} {H : Hp} {x y : D} {v u : V} {o : Option D} (R : Rel X.K X.mg G fls st m H) (r : Rep X.K X.mg G m H x v) (ry : Rep X.K X.mg G m H y u) (h : getO st x y = some o) :
    ∃ a w, v = .ref a ∧ DGet H a u w ∧ ∀ z t, Rep X.K X.mg G m H z t → Rep X.K X.mg G m H (o.getD z) (w.getD t) := by
  unfold getO at h
  split at h
  · rename_i kvs hv
    obtain ⟨p, vs, rfl, hp, rr⟩ := R.dk r hv
    obtain ⟨kk, hk, rfl⟩ := Option.map_eq_some_iff.mp h
    have hu := keyD_rep hk ry
    subst hu
    refine ⟨p, _, rfl, DGet.k hp, fun z t rz => ?_⟩
    rcases RepK.val (κ := Key) rr kk with ⟨h1, h2⟩ | ⟨d, w, h1, h2, h3⟩
    · rw [h1, h2]; exact rz
    · rw [h1, h2]; exact h3
  · rename_i kvs hv
    obtain ⟨p, vs, rfl, hp, rr⟩ := R.dt r hv
    split at h
    · rename_i ds
      obtain ⟨kk, hk, rfl⟩ := Option.map_eq_some_iff.mp h
      cases ry with
      | tup n e1 rs =>
      have hu := keysD_rep hk rs
      subst hu
      refine ⟨p, _, rfl, DGet.t hp e1, fun z t rz => ?_⟩
      rcases rr.val kk with ⟨h1, h2⟩ | ⟨d, w, h1, h2, h3⟩
      · rw [h1, h2]; exact rz
      · rw [h1, h2]; exact h3
    · cases h
  · rename_i kvs hv
    obtain ⟨p, vs, rfl, hp, rr⟩ := R.lkdk r hv
    obtain ⟨kk, hk, rfl⟩ := Option.map_eq_some_iff.mp h
    have hu := keyD_rep hk ry
    subst hu
    refine ⟨p, _, rfl, .inl ⟨_, kk, hp, rfl, rfl⟩, fun z t rz => ?_⟩
    rcases RepK.val (κ := Key) rr kk with ⟨h1, h2⟩ | ⟨d, w, h1, h2, h3⟩
    · rw [h1, h2]; exact rz
    · rw [h1, h2]; exact h3
  · rename_i kvs hv
    obtain ⟨p, vs, rfl, hp, rr⟩ := R.lkdt r hv
    split at h
    · rename_i ds
      obtain ⟨kk, hk, rfl⟩ := Option.map_eq_some_iff.mp h
      cases ry with
      | tup n e1 rs =>
      have hu := keysD_rep hk rs
      subst hu
      refine ⟨p, _, rfl, .inr ⟨_, kk, _, hp, rfl, e1, rfl⟩, fun z t rz => ?_⟩
      rcases rr.val kk with ⟨h1, h2⟩ | ⟨d, w, h1, h2, h3⟩
      · rw [h1, h2]; exact rz
      · rw [h1, h2]; exact h3
    · cases h
  · cases h
theorem c_dget1 {o kx : Ex} {eo ek : Expr} {apos : Pos} (ok : XOk G C k W N sc X) (ho : PE X eo (tE X G C fl W o)) (hk : PE X ek (tE X G C fl W kx)) (hb : baseB eo = true) (hl : (apos.endLine == pos.line) = true) (hp : plB ek = true) :
    PE X (.Call (.Attribute eo "get" apos) [ek] [] pos) (tE X G C fl W (.dget1 o kx)) := by
  refine (pe_dget1 (by have := units_of ok; omega) ho hk (m1_of hb hl hp)).im fun σ H Q ⟨ρ, fls, st, m, S, q⟩ => ?_
  unfold evE at q
  refine t1 S q fun x st1 v m1 H1 e1 S1 r1 q1 => ?_
  split at q1
  · rename_i hd
    obtain ⟨a, rfl, ha⟩ := isD_of S1.rel r1 hd
    refine ⟨a, rfl, ha, ?_⟩
    refine t1 S1 q1 fun y st2 u m2 H2 e2 S2 r2 q2 => ?_
    split at q2
    · rename_i w hw
      obtain ⟨a', w', h1, h2, h3⟩ := getO_ok S2.rel (r1.ext e2) r2 hw
      cases h1
      exact ⟨w', h2, QV.here (QV.ext (e1.trans e2) q2) S2.rel (h3 _ _ .non)⟩
    · exact q2.elim
  · exact q1.elim
theorem c_dget2 {o kx dx : Ex} {eo ek ed : Expr} {apos : Pos} (ok : XOk G C k W N sc X) (ho : PE X eo (tE X G C fl W o)) (hk : PE X ek (tE X G C fl W kx)) (hd : PE X ed (tE X G C fl W dx)) (hb : baseB eo = true) (hl : (apos.endLine == pos.line) = true) (hp : plB ek = true) (hp2 : plB ed = true) :
    PE X (.Call (.Attribute eo "get" apos) [ek, ed] [] pos) (tE X G C fl W (.dget2 o kx dx)) := by
  refine (pe_dget2 (by have := units_of ok; omega) ho hk hd (m2_of hb hl hp hp2)).im fun σ H Q ⟨ρ, fls, st, m, S, q⟩ => ?_
  unfold evE at q
  refine t1 S q fun x st1 v m1 H1 e1 S1 r1 q1 => ?_
  split at q1
  · rename_i hd
    obtain ⟨a, rfl, ha⟩ := isD_of S1.rel r1 hd
    refine ⟨a, rfl, ha, ?_⟩
    refine t1 S1 q1 fun y st2 u m2 H2 e2 S2 r2 q2 => ?_
    refine t1 S2 q2 fun z st3 t m3 H3 e3 S3 r3 q3 => ?_
    split at q3
    · rename_i w hw
      obtain ⟨a', w', h1, h2, h3⟩ := getO_ok S3.rel ((r1.ext e2).ext e3) (r2.ext e3) hw
      cases h1
      exact ⟨w', h2, QV.here (QV.ext (e1.trans (e2.trans e3)) q3) S3.rel (h3 _ _ r3)⟩
    · exact q3.elim
  · exact q1.elim
/-- NAME.get(k, d), a dict of the module whose keys are texts -/
def tKGet2 (K : PySem.W.Frag) (w : World) (a : Addr) (ty tx : TE) : TE := fun σ H Q => ty σ H fun y H1 => tx σ H1 fun z H2 => ∃ (x : Str) (es : Array DictEntry) (n : Nat) (r : Option Value) (v : V),
  y = .str x ∧ K.lookup a = some ⟨.type "dict", none, .dict es n, #[]⟩ ∧ PySem.W.KeysLit w.params es.toList ∧ PySem.W.nsIn K a x = some r ∧ ((r = none ∧ v = z) ∨ ∃ u, r = some u ∧ RelV v u) ∧ Q v H2
theorem pe_kget2 {o e f : Expr} {apos : Pos} {a : Addr} {ty tx : TE} {es0 : Array DictEntry} {n0 : Nat} (hl0 : X.K.lookup a = some ⟨.type "dict", none, .dict es0 n0, #[]⟩) (hk0 : PySem.W.KeysLit X.w.params es0.toList) (low : (a == sysModules) = false) (ho : PE X o (tC (.ref a))) (he : PE X e ty) (hf : PE X f tx) (m : M2 X o "get" apos e f pos) :
    PE X (.Call (.Attribute o "get" apos) [e, f] [] pos) (tKGet2 X.K X.w a ty tx) := by
  refine ⟨fun pins s σ H Q I h => ?_⟩
  refine wpAny_Call_method m.base m.few m.line PySem.F.plainAttrs_dict PySem.F.slot_dict_get PySem.F.type_dict_get (thn (ho.run pins s σ H (fun v H1 => v = .ref a ∧ H1 = H) I ⟨rfl, rfl⟩) fun u s1 ⟨x, H1, I1, rx, ex, eH⟩ => ?_)
  subst ex eH
  obtain rfl : u = Value.ref a := rx
  have hm0 := PySem.W.mapOf_K (prog := X.prog) (w := X.w) I1.kIn hl0 hk0
  refine ⟨hm0.typeIs, fun b hb => ?_, ?_⟩
  · cases hb
    exact ⟨_, I1.kIn _ _ hl0, rfl⟩
  rw [m.trees]
  refine Calls.callWith_builtin rfl (Calls.evalArgs_plain (Calls.spliced_cons (thn (he.run pins s1 σ H1 _ I1 h) fun iv s2 ⟨y, H2, I2, ry, q2⟩ =>
    Calls.spliced_cons (thn (hf.run pins s2 σ H2 _ I2 q2) fun fv s3 ⟨z, H3, I3, rz, x, es, n, r, v, ey, hl, hk, hn, hv, q3⟩ => Calls.spliced_nil ?_))))
  subst ey
  obtain ⟨t, rfl⟩ := (show ∃ t, iv = Value.str x t from ry)
  have hm := PySem.W.mapOf_K (prog := X.prog) (w := X.w) I3.kIn hl hk
  refine call_meetsIn PySem.F.slot_dict_get hm.typeIs PySem.F.entry_dict_get (PySem.F.args_dict_get_3 _ _ _) (meets_dict_get_default (strKind X.prog X.w) a (strKind_is X.prog X.w x t) low fv) ⟨_, hm, ?_⟩
  rw [PySem.W.find_K hl hn]
  rcases hv with ⟨rfl, rfl⟩ | ⟨u, rfl, ru⟩
  · exact ⟨_, H3, I3.tok _, rz, q3⟩
  · exact ⟨v, H3, I3.tok _, ru, q3⟩
/-- the const dict's reading -/
theorem c_dixg {c : Nat} {i d : Ex} {x : Str} {np apos : Pos} {ei ed : Expr} {p : Str × List (Str × D)} (ok : XOk G C k W N sc X) (hp : G.dics[c]? = some p) (hx : p.1 = x) (hg : Gl X x) (hn : nameB x = true) (hi : PE X ei (tE X G C fl W i)) (hd : PE X ed (tE X G C fl W d))
    (hpl : plB ei = true) (hpl2 : plB ed = true) (hl : (apos.endLine == pos.line) = true) (hne : p.2 ≠ []) :
    PE X (.Call (.Attribute (.Name x np) "get" apos) [ei, ed] [] pos) (tE X G C fl W (.dixg c i d)) := by
  obtain ⟨a, h1, h2, low, h4⟩ := ok.dics c p hp
  rw [hx] at h1
  have hq : ∃ es0 n0, X.K.lookup a = some ⟨.type "dict", none, .dict es0 n0, #[]⟩ ∧ PySem.W.KeysLit X.w.params es0.toList := by
    cases hpp : p.2 with
    | nil => exact absurd hpp hne
    | cons q r =>
      obtain ⟨v, ⟨es, n, u, g1, g2, _⟩, _⟩ := h2 q.1 q.2 (by rw [hpp]; simp [List.lookup])
      exact ⟨es, n, g1, g2⟩
  obtain ⟨es0, n0, hl0, hk0⟩ := hq
  refine (pe_kget2 hl0 hk0 low (pe_glob (v := .ref a) hg h1 rfl (name_dbg hn).1) hi hd (m2_of rfl hl hpl hpl2)).im fun σ H Q ⟨ρ, fls, st, m, S, q⟩ => ?_
  unfold evE at q
  refine t1 S q fun y st1 u m1 H1 e1 S1 r1 q1 => ?_
  refine t1 S1 q1 fun z st2 t m2 H2 e2 S2 r2 q2 => ?_
  split at q2
  · rename_i w
    cases r1
    rw [hp] at q2
    dsimp only at q2
    cases hlk : p.2.lookup w with
    | none =>
      rw [hlk] at q2
      obtain ⟨es, n, g1, g2, g3⟩ := h4 w hlk
      exact ⟨w, es, n, none, t, rfl, g1, g2, g3, .inl ⟨rfl, rfl⟩, QV.here (QV.ext (e1.trans e2) q2) S2.rel r2⟩
    | some d' =>
      rw [hlk] at q2
      obtain ⟨v, ⟨es, n, u', g1, g2, g3, g4⟩, g5⟩ := h2 w d' hlk
      exact ⟨w, es, n, some u', v, rfl, g1, g2, g3, .inr ⟨u', rfl, g4⟩, QV.here (QV.ext (e1.trans e2) q2) S2.rel (g5 _ _)⟩
  · exact q2.elim
/-! ### TUPLE.index(text) -/
theorem c_tix {o v : Ex} {eo ev : Expr} {apos : Pos} (ok : XOk G C k W N sc X) (ho : PE X eo (tE X G C fl W o)) (hv : PE X ev (tE X G C fl W v)) (hb : baseB eo = true) (hl : (apos.endLine == pos.line) = true) (hp : plB ev = true) :
    PE X (.Call (.Attribute eo "index" apos) [ev] [] pos) (tE X G C fl W (.tix o v)) := by
  have h1 : ([ev] : List Expr).all plB = true := by simp [hp]
  refine (pe_bm (cpos := pos) PySem.F.plainAttrs_tuple PySem.F.slot_tuple_index PySem.F.type_tuple_index mt_tup_index ho (a_cons hv a_nil hp) (base_pl hb) (few_pl h1 (by show 1 < 30; decide)) hl (star_pl hp) (anyF (es := []) rfl)).im fun σ H Q ⟨ρ, fls, st, m, S, q⟩ => ?_
  unfold evE at q
  refine t1 S q fun x st1 u m1 H1 e1 S1 r1 q1 => ?_
  split at q1
  · rename_i xs
    cases r1 with
    | @tk p vs _ hk rs =>
    refine ⟨.inr (.inl ⟨rfl, hk.2⟩), ?_⟩
    refine ⟨ρ, fls, st1, m1, S1, ?_⟩
    unfold evEs
    cases e2 : evE G (C fl) fl ρ v st1 with
    | bad => rw [e2] at q1; exact q1.elim
    | exc c fs s => rw [e2] at q1; exact Post.ext Ext.refl q1
    | ok y st2 =>
      rw [e2, Out.bind_ok] at q1
      rw [Out.bind_ok]
      unfold evEs
      rw [Out.bind_ok]
      intro us m2 H2 x2 R2 rr
      obtain ⟨w, rfl, rw2⟩ := reps1 rr
      split at q1
      · rename_i z ss es
        cases rw2
        split at q1
        · rename_i j hj
          obtain ⟨hvs, hok⟩ := strs_rep es (rs.ext x2)
          subst hvs
          obtain ⟨hj1, hj2, hj3⟩ := List.findIdx?_eq_some_iff_getElem.mp hj
          refine ⟨p, ss, z, j, rfl, rfl, .inr hk.1, ?_, fun mm hm => ?_, QV.here (QV.ext (e1.trans x2) q1) R2 (.int _)⟩
          · rw [List.getElem?_eq_getElem hj1]
            exact congrArg some (of_decide_eq_true hj2)
          · intro hq
            obtain ⟨hmm, he⟩ := List.getElem?_eq_some_iff.mp hq
            have := hj3 mm hm
            rw [he] at this
            simp at this
        · exact q1.elim
      · exact q1.elim
  · exact q1.elim
end
end Ev

set_option Elab.async false
set_option linter.all false
set_option maxRecDepth 100000
set_option maxHeartbeats 4000000
/-! Ev, part 11: slices, boxes, walks, comprehensions, tests. -/
namespace Ev
open PySem L2 PySem.Spec
open PyProof.Rows hiding St
section
variable {X : Cx} {G : Prog} {C : Nat → Nat → List D → Sto → Out D} {fl k : Nat} {W : WX} {N : List Str} {sc : Scope} {pos : Pos}

/-! ### slices -/
theorem o_none : PO X none (tPo X G C fl W .nil) := po_none.im fun σ H Q ⟨ρ, fls, st, m, S, q⟩ => by
  unfold evEs at q
  obtain ⟨o, h1, h2⟩ := q
  cases h1
  exact h2 m H Ext.refl S.rel
theorem o_some {a : Ex} {e : Expr} (ha : PE X e (tE X G C fl W a)) : PO X (some e) (tPo X G C fl W (.cons a .nil)) := by
  refine (po_some ha).im fun σ H Q ⟨ρ, fls, st, m, S, q⟩ => ?_
  unfold evEs at q
  refine t1 S q fun x st1 v m1 H1 e1 S1 r1 q1 => ?_
  unfold evEs at q1
  obtain ⟨o, h1, h2⟩ := q1
  cases r1 <;> simp [optI] at h1
  subst h1
  exact ⟨_, rfl, h2 m1 H1 e1 S1.rel⟩
theorem tP1 {α : Type} {a : Exs} {f : Option Int → Sto → Out α} {R : α → Sto → Prop} {P : Option Int → Hp → Prop} {fls : List Nat} {st : Sto} {m : Mp} {H : Hp} {ρ : Env} {σ : St} (S : Stt X.K X.mg G fl fls st m H ρ σ)
    (h : Post X.K X.mg G fls m H (WE W σ) ((evEs G (C fl) fl ρ a st).bind fun l st => match optI l with | none => .bad | some o => f o st) R)
    (k : ∀ o st1 m1 H1, Ext m H m1 H1 → Stt X.K X.mg G fl fls st1 m1 H1 ρ σ → Post X.K X.mg G fls m1 H1 (WE W σ) (f o st1) R → P o H1) : tPo X G C fl W a σ H P := by
  refine ⟨ρ, fls, st, m, S, ?_⟩
  cases e : evEs G (C fl) fl ρ a st with
  | ok x st1 =>
    rw [e, Out.bind_ok] at h
    cases ho : optI x with
    | none => rw [ho] at h; exact h.elim
    | some o =>
      rw [ho] at h
      exact ⟨o, ho, fun m1 H1 e1 R1 => k o st1 m1 H1 e1 (S.ext e1 R1) (Post.ext e1 h)⟩
  | exc c fs s1 =>
    rw [e] at h
    exact h
  | bad =>
    rw [e] at h
    exact h
theorem c_slc {o : Ex} {lo hi : Exs} {eo : Expr} {l h : Option Expr} {p2 : Pos} (ho : PE X eo (tE X G C fl W o)) (hl : PO X l (tPo X G C fl W lo)) (hh : PO X h (tPo X G C fl W hi)) :
    PE X (.Subscript eo (.Slice l h none p2) pos) (tF X G C fl W (.slc o lo hi)) := by
  refine (pe_slice slAny ho hl hh).im fun σ H Q ⟨ρ, fls, st, m, S, q⟩ => ?_
  unfold evE at q
  refine t1 S q fun x st1 v m1 H1 e1 S1 r1 q1 => ?_
  refine tP1 S1 q1 fun lo' st2 m2 H2 e2 S2 q2 => ?_
  refine tP1 S2 q2 fun hi' st3 m3 H3 e3 S3 q3 => ?_
  cases hd : slcD st3 x lo' hi' with
  | none => rw [hd] at q3; exact q3.elim
  | some d =>
    rw [hd] at q3
    obtain ⟨r, h1, h2⟩ := slcD_ok (X := X) (G := G) hd
    exact ⟨r, h1, h2 _ _ _ _ _ S3.rel (r1.ext (e2.trans e3)) (QD.ext (e1.trans (e2.trans e3)) q3)⟩

/-! ### boxes -/
theorem box_F {a : Ex} {σ : St} {H : Hp} {Q : VK} (hh : tE X G C fl W (.box a) σ H Q) : tF X G C fl W a σ H Q := by
  obtain ⟨ρ, fls, st, m, S, q⟩ := hh
  refine ⟨ρ, fls, st, m, S, ?_⟩
  unfold evE at q
  cases e : evE G (C fl) fl ρ a st with
  | exc c fs s1 => rw [e] at q; exact q
  | bad => rw [e] at q; exact q
  | ok d st1 =>
    rw [e, Out.bind_ok] at q
    by_cases hc : isC d = true
    · rw [if_pos hc] at q
      have key : QF X.K X.mg G fls st1 m H d Q := by
        intro p o m' Hm x R n c _
        obtain ⟨R2, g, h3⟩ := R.push n c
        exact q (.ref p) ⟨m'.c ++ [p], m'.h⟩ (upd Hm p o) (x.trans g) R2 (.ref h3)
      show QD X.K X.mg G fls st1 m H d Q
      cases d <;> first | exact key | (simp [isC] at hc)
    · rw [if_neg hc] at q
      exact q.elim

theorem c_box {a : Ex} {e : Expr} (ha : PE X e (tF X G C fl W a)) : PE X e (tE X G C fl W (.box a)) := ha.im fun _ _ _ h => box_F h

/-! ### walks -/
theorem rg_reps {K : PySem.W.Frag} {mg : Str → Option Value} {m : Mp} {H : Hp} (lo hi : Int) : Reps K mg G m H (rng lo hi) (rgV lo hi) := by
  unfold rgV rng
  generalize List.range (hi - lo).toNat = l
  induction l with
  | nil => exact .nil
  | cons x l ih => exact .cons (.int _) ih
theorem rg_end {fls : List Nat} {st1 : Sto} {m m1 : Mp} {H H1 : Hp} {Q : VK} {σ : St} {lo hi : Int} (e1 : Ext m H m1 H1) (R : Rel X.K X.mg G fls st1 m1 H1) (h1 : small62 lo = true) (h2 : small62 hi = true)
    (q : Post X.K X.mg G fls m1 H1 (WE W σ) (if (rng lo hi).length ≤ SZ then Out.ok (D.lst (rng lo hi)) st1 else .bad) fun d st' => QD X.K X.mg G fls st' m H d Q) :
    RgOk lo hi ∧ ∀ p, H1 p = none → Q (.ref p) (upd H1 p (.lst (rgV lo hi))) := by
  split at q
  · rename_i hz
    rw [rng_length] at hz
    have hz' : (hi - lo).toNat ≤ 16777216 := hz
    have h1 := small62_b h1
    have h2 := small62_b h2
    exact ⟨⟨h1.1, h1.2, h2.1, h2.2, by omega⟩, fun p hp => QF.lst (QF.ext e1 q) R (rg_reps lo hi) hp⟩
  · exact q.elim
theorem c_list1 {a : Ex} {ea : Expr} {p p2 pos2 : Pos} (ok : XOk G C k W N sc X) (ha : PE X ea (tE X G C fl W a)) (hp : plB ea = true) (hg2 : Gl X "range") (hg : Gl X "list") :
    PE X (.Call (.Name "list" p) [.Call (.Name "range" p2) [ea] [] pos2] [] pos) (tF X G C fl W (.listR (.rng1 a))) := by
  refine (pe_listRg ok.calm hg (ok.blt .list) (prg_1 hg2 ok.rng ha (star_pl hp)) rfl).im fun σ H Q ⟨ρ, fls, st, m, S, q⟩ => ?_
  unfold evE at q
  simp only at q
  unfold evI at q
  rw [Out.bind_assoc] at q
  refine t1 S q fun x st1 v m1 H1 e1 S1 r1 q1 => ?_
  cases r1 <;> first | exact q1.elim | skip
  rename_i n
  simp only at q1
  split at q1
  · rename_i hn
    rw [Out.bind_ok] at q1
    exact ⟨n, rfl, rg_end e1 S1.rel (by decide) hn q1⟩
  · exact q1.elim
theorem c_list2 {a b : Ex} {ea eb : Expr} {p p2 pos2 : Pos} (ok : XOk G C k W N sc X) (ha : PE X ea (tE X G C fl W a)) (hb : PE X eb (tE X G C fl W b)) (hp : plB ea = true) (hp2 : plB eb = true) (hg2 : Gl X "range") (hg : Gl X "list") :
    PE X (.Call (.Name "list" p) [.Call (.Name "range" p2) [ea, eb] [] pos2] [] pos) (tF X G C fl W (.listR (.rng2 a b))) := by
  refine (pe_listRg ok.calm hg (ok.blt .list) (prg_2 hg2 ok.rng ha hb (star_pl hp) (star_pl hp2) (by rw [star_pl hp2]; rfl)) rfl).im fun σ H Q ⟨ρ, fls, st, m, S, q⟩ => ?_
  unfold evE at q
  simp only at q
  unfold evI at q
  rw [Out.bind_assoc] at q
  refine t1 S q fun x st1 v m1 H1 e1 S1 r1 q1 => ?_
  rw [Out.bind_assoc] at q1
  refine t1 S1 q1 fun y st2 u m2 H2 e2 S2 r2 q2 => ?_
  cases r1 <;> first | exact q2.elim | skip
  cases r2 <;> first | exact q2.elim | skip
  rename_i i j
  simp only at q2
  split at q2
  · rename_i hn
    rw [Out.bind_ok] at q2
    exact ⟨i, j, rfl, rfl, rg_end (e1.trans e2) S2.rel hn.1 hn.2 q2⟩
  · exact q2.elim
theorem i_rng1 {a : Ex} {tg ea : Expr} {p : Pos} (ok : XOk G C k W N sc X) (ha : PE X ea (tE X G C fl W a)) (hp : plB ea = true) (hg : Gl X "range") : PI X tg (.Call (.Name "range" p) [ea] [] pos) (tI X G C fl W (.rng1 a)) := by
  refine (pi_range1 hg ok.rng (pa_cons ha pa_nil (star_pl hp)) (star_pl hp)).im fun σ H R ⟨ρ, fls, st, m, S, q⟩ => ?_
  unfold evI at q
  refine t1 S q fun x st1 v m1 H1 e1 S1 r1 q1 => ?_
  cases r1 <;> first | exact q1.elim | skip
  rename_i n
  simp only at q1
  split at q1
  · rename_i hn
    have hn' := small62_b hn
    exact ⟨n, rfl, hn'.1, hn'.2, q1 _ m1 H1 e1 S1.rel (itOk_rng (fun _ _ => ⟨rfl, fun _ => rfl⟩) (by simp))⟩
  · exact q1.elim
theorem i_rng2 {a b : Ex} {tg ea eb : Expr} {p : Pos} (ok : XOk G C k W N sc X) (ha : PE X ea (tE X G C fl W a)) (hb : PE X eb (tE X G C fl W b)) (hp : plB ea = true) (hp2 : plB eb = true) (hg : Gl X "range") : PI X tg (.Call (.Name "range" p) [ea, eb] [] pos) (tI X G C fl W (.rng2 a b)) := by
  refine (pi_range2 hg ok.rng (pa_cons ha (pa_cons hb pa_nil (star_pl hp2)) (star_pl hp)) (by rw [star_pl hp, star_pl hp2]; rfl) (star_pl hp2)).im fun σ H R ⟨ρ, fls, st, m, S, q⟩ => ?_
  unfold evI at q
  refine t1 S q fun x st1 v m1 H1 e1 S1 r1 q1 => ?_
  refine t1 S1 q1 fun y st2 u m2 H2 e2 S2 r2 q2 => ?_
  cases r1 <;> first | exact q2.elim | skip
  cases r2 <;> first | exact q2.elim | skip
  rename_i i j
  simp only at q2
  split at q2
  · rename_i hn
    obtain ⟨h1, h2⟩ := hn
    have h1' := small62_b h1
    have h2' := small62_b h2
    exact ⟨i, j, rfl, ⟨h1'.1, h1'.2, h2'.1, h2'.2⟩, q2 _ m2 H2 (e1.trans e2) S2.rel (itOk_rng (fun _ _ => ⟨rfl, fun _ => rfl⟩) rfl)⟩
  · exact q2.elim
theorem itOk_rngS {src : Src} (hs : ∀ st x, srcRes src st x = some x ∧ ∀ xs, srcIts src xs = xs) {lo c : Int} {n : Nat} {m : Mp} {H : Hp} : ItOk X.K X.mg G src (Itc lo c n) (rngS lo c n) m H := by
  have hl : (rngS lo c n).length = n := by simp [rngS]
  refine .of hs (fun m2 H2 x i d e => ?_) (fun m2 H2 x i h => by rw [hl] at h; exact h)
  have hi : i < n := by rw [← hl]; exact (List.getElem?_eq_some_iff.mp e).1
  unfold rngS at e
  rw [List.getElem?_map, List.getElem?_range hi] at e
  cases e
  refine ⟨hi, fun v H3 y => ?_⟩
  obtain ⟨e1, e2⟩ := y
  subst e1 e2
  exact ⟨rfl, .int _⟩
theorem i_rng3 {a b c : Ex} {tg ea eb ec : Expr} {p : Pos} (ok : XOk G C k W N sc X) (ha : PE X ea (tE X G C fl W a)) (hb : PE X eb (tE X G C fl W b)) (hc : PE X ec (tE X G C fl W c)) (hp : plB ea = true) (hp2 : plB eb = true) (hp3 : plB ec = true) (hg : Gl X "range") : PI X tg (.Call (.Name "range" p) [ea, eb, ec] [] pos) (tI X G C fl W (.rng3 a b c)) := by
  refine (pi_range3 hg ok.rng (pa_cons ha (pa_cons hb (pa_cons hc pa_nil (star_pl hp3)) (star_pl hp2)) (star_pl hp)) (star_pl hp) (by rw [star_pl hp2, star_pl hp3]; rfl)).im fun σ H R ⟨ρ, fls, st, m, S, q⟩ => ?_
  unfold evI at q
  refine t1 S q fun x st1 v m1 H1 e1 S1 r1 q1 => ?_
  refine t1 S1 q1 fun y st2 u m2 H2 e2 S2 r2 q2 => ?_
  refine t1 S2 q2 fun z st3 u3 m3 H3 e3 S3 r3 q3 => ?_
  cases r1 <;> first | exact q3.elim | skip
  cases r2 <;> first | exact q3.elim | skip
  cases r3 <;> first | exact q3.elim | skip
  rename_i i j c
  simp only at q3
  split at q3
  · rename_i hn
    obtain ⟨h1, h2, h3⟩ := hn
    exact ⟨i, j, c, _, rfl, ⟨by omega, by omega, h3, PyProof.Rows.rangeSize_toNat i j c⟩, q3 _ m3 H3 (e1.trans (e2.trans e3)) S3.rel (itOk_rngS (fun _ _ => ⟨rfl, fun _ => rfl⟩))⟩
  · exact q3.elim
/-- over a frozen list or tuple: by what it is -/
theorem i_seq {a : Ex} {tg e : Expr} (ok : XOk G C k W N sc X) (ha : PE X e (tE X G C fl W a)) : PI X tg e (tI X G C fl W (.seq a)) := by
  refine ⟨fun pins s σ H R I h => ?_⟩
  obtain ⟨ρ, fls, st, m, S, q⟩ := h
  unfold evI at q
  by_cases hk : ∃ x st1, evE G (C fl) fl ρ a st = .ok x st1 ∧ ((∃ xs, x = .tup xs) ∨ ∃ xs, x = .tk xs)
  · obtain ⟨x, st1, e1, hk⟩ := hk
    refine (pi_tup (tg := tg) ha).run pins s σ H R I ⟨ρ, fls, st, m, S, ?_⟩
    rw [e1, Out.bind_ok] at q
    rw [e1]
    intro v m1 H1 x1 R1 r1
    have go : ∀ {p : Addr} {vs : List V} {xs : List D}, SqT X.K H1 p vs → (∀ m2 H2, Grow m1 H1 m2 H2 → SqT X.K H2 p vs) → Reps X.K X.mg G m1 H1 xs vs → ItOk X.K X.mg G (.seq a) (Itt X.K p) xs m1 H1 := fun {p vs xs} hq st r => by
      refine .of (fun _ _ => ⟨rfl, fun _ => rfl⟩) (fun m2 H2 x i d e => ?_) (fun m2 H2 x i h => ⟨vs, st m2 H2 x, by rw [← r.length]; exact h⟩)
      obtain ⟨v, hv, rv⟩ := r.get e
      refine ⟨⟨vs, v, st m2 H2 x, hv⟩, fun v' H3 y => ?_⟩
      obtain ⟨e1, e2⟩ := y
      subst e1
      have := e2 vs (st m2 H3 x)
      rw [hv] at this
      cases this
      exact ⟨rfl, rv.gr x⟩
    rcases hk with ⟨xs, rfl⟩ | ⟨xs, rfl⟩
    · cases r1 with
      | tup n h r => exact ⟨_, rfl, ⟨_, SqT.of h⟩, q _ m1 H1 x1 R1 (go (SqT.of h) (fun m2 H2 g => SqT.of (g.old _ _ h n).1) r)⟩
    · cases r1 with
      | tk h r => exact ⟨_, rfl, ⟨_, .inr h.1⟩, q _ m1 H1 x1 R1 (go (.inr h.1) (fun m2 H2 g => .inr h.1) r)⟩
  · by_cases hks : ∃ x st1, evE G (C fl) fl ρ a st = .ok (.str x) st1
    · obtain ⟨x, st1, e1⟩ := hks
      refine (pi_str (tg := tg) ha).run pins s σ H R I ⟨ρ, fls, st, m, S, ?_⟩
      rw [e1, Out.bind_ok] at q
      rw [e1]
      intro v m1 H1 x1 R1 r1
      cases r1 with
      | str hok =>
        have hl : (chars x).length = x.cps.size := by unfold chars; simp
        refine ⟨x, rfl, q _ m1 H1 x1 R1 (.of (fun _ _ => ⟨rfl, fun _ => rfl⟩) (fun m2 H2 g i d e => ?_) fun m2 H2 g i h => by rw [hl] at h; exact h)⟩
        have hi : i < x.cps.size := by rw [← hl]; exact (List.getElem?_eq_some_iff.mp e).1
        unfold chars at e
        rw [List.getElem?_map, Array.getElem?_toList] at e
        refine ⟨hi, fun v' H3 y => ?_⟩
        obtain ⟨e1', c, hc, rfl⟩ := y
        rw [hc] at e
        cases e
        exact ⟨e1', .str (sign_ok hok (Array.mem_toList_iff.mpr (Array.mem_of_getElem? hc)))⟩
    · refine (pi_list (tg := tg) ha).run pins s σ H R I ⟨ρ, fls, st, m, S, ?_⟩
      cases e1 : evE G (C fl) fl ρ a st with
      | exc c fs s1 => rw [e1] at q; exact q
      | bad => rw [e1] at q; exact q
      | ok x st1 =>
        rw [e1, Out.bind_ok] at q
        intro v m1 H1 x1 R1 r1
        cases r1 with
        | lst n h r => exact ⟨_, rfl, ⟨_, SqL.of h⟩, q _ m1 H1 x1 R1 (itOk_list (fun _ _ => ⟨rfl, fun _ => rfl⟩) (SqL.of h) (fun m2 H2 g => SqL.of (g.old _ _ h n).1) r)⟩
        | fz n h r => exact ⟨_, rfl, ⟨_, .inl (.inr ⟨_, h⟩)⟩, q _ m1 H1 x1 R1 (itOk_list (fun _ _ => ⟨rfl, fun _ => rfl⟩) (.inl (.inr ⟨_, h⟩)) (fun m2 H2 g => .inl (.inr ⟨_, (g.old _ _ h n).1⟩)) r)⟩
        | fzK h r => exact ⟨_, rfl, ⟨_, .inr h⟩, q _ m1 H1 x1 R1 (itOk_list (fun _ _ => ⟨rfl, fun _ => rfl⟩) (.inr h) (fun m2 H2 g => .inr h) r)⟩
        | str hok => exact (hks ⟨_, _, e1⟩).elim
        | tup n h r => exact (hk ⟨_, _, e1, .inl ⟨_, rfl⟩⟩).elim
        | tk h r => exact (hk ⟨_, _, e1, .inr ⟨_, rfl⟩⟩).elim
        | _ => exact q.elim
/-- over a cell: each item is read anew -/
theorem i_cel {a : Ex} {tg e : Expr} (ok : XOk G C k W N sc X) (ha : PE X e (tE X G C fl W a)) : PI X tg e (tI X G C fl W (.cel a)) := by
  refine (pi_list (tg := tg) ha).im fun σ H R ⟨ρ, fls, st, m, S, q⟩ => ?_
  unfold evI at q
  refine t1 S q fun x st1 v m1 H1 x1 S1 r1 q1 => ?_
  cases r1 with
  | @ref n p hn =>
    dsimp only at q1
    cases hc : st1[n]? with
    | none => rw [hc] at q1; exact q1.elim
    | some c =>
      rw [hc] at q1
      cases c <;> first | exact q1.elim | skip
      rename_i ys
      dsimp only at q1
      have look : ∀ {fls : List Nat} {st2 : Sto} {m2 : Mp} {H2 : Hp} {zs : List D}, Grow m1 H1 m2 H2 → Rel X.K X.mg G fls st2 m2 H2 → st2[n]? = some (.lst zs) → ∃ vs, SqL X.K H2 p vs ∧ Reps X.K X.mg G m2 H2 zs vs := fun {fls st2 m2 H2 zs} g R2 e2 => by
        obtain ⟨o, h1, h2⟩ := R2.cell n _ p e2 (g.pre _ _ hn)
        cases h2 with
        | lst r => exact ⟨_, SqL.of h1, r⟩
      obtain ⟨vs0, hq0, r0⟩ := look ⟨fun _ _ e => e, fun _ _ e n => ⟨e, n⟩⟩ S1.rel hc
      refine ⟨p, rfl, ⟨vs0, hq0⟩, q1 _ m1 H1 x1 S1.rel ⟨fun fls2 st2 m2 H2 g _ R2 i d d' e e' => ?_, fun fls2 st2 m2 H2 g _ R2 e i hi => ?_⟩⟩
      · dsimp only [srcIts, List.tail_cons] at e
        unfold celIt at e
        rw [List.getElem?_map] at e
        have hlt : i < ys.length := by
          by_cases hlt : i < ys.length
          · exact hlt
          · rw [List.getElem?_eq_none (by simpa using hlt)] at e; cases e
        rw [List.getElem?_range hlt] at e
        cases e
        dsimp only [srcRes, itmD] at e'
        cases hc2 : st2[n]? with
        | none => rw [hc2] at e'; cases e'
        | some c2 =>
          rw [hc2] at e'
          cases c2 <;> first | cases e' | skip
          rename_i zs
          dsimp only at e'
          split at e'
          · rw [Int.toNat_natCast] at e'
            obtain ⟨vs, hq, r⟩ := look g R2 hc2
            obtain ⟨v, hv, rv⟩ := r.get e'
            refine ⟨⟨vs, v, hq, hv⟩, fun v' H3 y => ?_⟩
            obtain ⟨e1, e2⟩ := y
            subst e1
            have := e2 vs hq
            rw [hv] at this
            cases this
            exact ⟨rfl, rv⟩
          · cases e'
      · dsimp only [srcEnd] at e
        cases hc2 : st2[n]? with
        | none => rw [hc2] at e; cases e
        | some c2 =>
          rw [hc2] at e
          cases c2 <;> first | cases e | skip
          rename_i zs
          have e := of_decide_eq_true e
          obtain ⟨vs, hq, r⟩ := look g R2 hc2
          refine ⟨vs, hq, ?_⟩
          dsimp only [srcIts, List.tail_cons] at hi
          unfold celIt at hi
          rw [List.length_map, List.length_range] at hi
          rw [← r.length]
          omega
  | _ => exact q1.elim
theorem itOk_rev {src : Src} (hs : ∀ st x, srcRes src st x = some x ∧ ∀ xs, srcIts src xs = xs) {a : Addr} {vs : List V} {xs : List D} {m : Mp} {H : Hp} (hq : SqL X.K H a vs) (st : ∀ m2 H2, Grow m H m2 H2 → SqL X.K H2 a vs) (r : Reps X.K X.mg G m H xs vs) : ItOk X.K X.mg G src (Itv X.K a vs.length) xs.reverse m H := by
  have hl := r.length
  refine .of hs (fun m2 H2 x i d e => ?_) (fun m2 H2 x i h => by rw [List.length_reverse, hl] at h; exact h)
  have hi : i < xs.length := by have := (List.getElem?_eq_some_iff.mp e).1; rwa [List.length_reverse] at this
  rw [List.getElem?_reverse hi] at e
  obtain ⟨v, hv, rv⟩ := r.get e
  rw [hl] at hv
  refine ⟨⟨by omega, vs, v, st m2 H2 x, hv⟩, fun v' H3 y => ?_⟩
  obtain ⟨e1, e2⟩ := y
  subst e1
  have := e2 vs (st m2 H3 x)
  rw [hv] at this
  cases this
  exact ⟨rfl, rv.gr x⟩
theorem itOk_revT {src : Src} (hs : ∀ st x, srcRes src st x = some x ∧ ∀ xs, srcIts src xs = xs) {a : Addr} {vs : List V} {xs : List D} {m : Mp} {H : Hp} (hq : SqT X.K H a vs) (st : ∀ m2 H2, Grow m H m2 H2 → SqT X.K H2 a vs) (r : Reps X.K X.mg G m H xs vs) : ItOk X.K X.mg G src (RT.ItvT X.K a vs.length) xs.reverse m H := by
  have hl := r.length
  refine .of hs (fun m2 H2 x i d e => ?_) (fun m2 H2 x i h => by rw [List.length_reverse, hl] at h; exact h)
  have hi : i < xs.length := by have := (List.getElem?_eq_some_iff.mp e).1; rwa [List.length_reverse] at this
  rw [List.getElem?_reverse hi] at e
  obtain ⟨v, hv, rv⟩ := r.get e
  rw [hl] at hv
  refine ⟨⟨by omega, vs, v, st m2 H2 x, hv⟩, fun v' H3 y => ?_⟩
  obtain ⟨e1, e2⟩ := y
  subst e1
  have := e2 vs (st m2 H3 x)
  rw [hv] at this
  cases this
  exact ⟨rfl, rv.gr x⟩
theorem i_rev {a : Ex} {tg e : Expr} {p : Pos} (ok : XOk G C k W N sc X) (ha : PE X e (tE X G C fl W a)) (hp : plB e = true) (hg : Gl X "reversed") : PI X tg (.Call (.Name "reversed" p) [e] [] pos) (tI X G C fl W (.rev a)) := by
  refine (RT.pi_revA hg ok.rev ha (star_pl hp)).im fun σ H R ⟨ρ, fls, st, m, S, q⟩ => ?_
  unfold evI at q
  refine t1 S q fun x st1 v m1 H1 e1 S1 r1 q1 => ?_
  cases r1 with
  | lst n h r => exact ⟨_, _, rfl, .inl ⟨SqL.of h, q1 _ m1 H1 e1 S1.rel (itOk_rev (fun _ _ => ⟨rfl, fun _ => rfl⟩) (SqL.of h) (fun m2 H2 g => SqL.of (g.old _ _ h n).1) r)⟩⟩
  | fz n h r => exact ⟨_, _, rfl, .inl ⟨.inl (.inr ⟨_, h⟩), q1 _ m1 H1 e1 S1.rel (itOk_rev (fun _ _ => ⟨rfl, fun _ => rfl⟩) (.inl (.inr ⟨_, h⟩)) (fun m2 H2 g => .inl (.inr ⟨_, (g.old _ _ h n).1⟩)) r)⟩⟩
  | fzK h r => exact ⟨_, _, rfl, .inl ⟨.inr h, q1 _ m1 H1 e1 S1.rel (itOk_rev (fun _ _ => ⟨rfl, fun _ => rfl⟩) (.inr h) (fun m2 H2 g => .inr h) r)⟩⟩
  | tup n h r => exact ⟨_, _, rfl, .inr ⟨SqT.of h, q1 _ m1 H1 e1 S1.rel (itOk_revT (fun _ _ => ⟨rfl, fun _ => rfl⟩) (SqT.of h) (fun m2 H2 g => SqT.of (g.old _ _ h n).1) r)⟩⟩
  | tk h r => exact ⟨_, _, rfl, .inr ⟨.inr h.1, q1 _ m1 H1 e1 S1.rel (itOk_revT (fun _ _ => ⟨rfl, fun _ => rfl⟩) (.inr h.1) (fun m2 H2 g => .inr h.1) r)⟩⟩
  | _ => exact q1.elim
/-! ### a dict that is walked -/
theorem dKey_rep {K : PySem.W.Frag} {mg : Str → Option Value} {m : Mp} {H : Hp} {k : Key} {d : D} (h : dKey k = some d) : Rep K mg G m H d (kV k) := by
  cases k with
  | inl i => simp [dKey] at h; subst h; exact .int i
  | inr x =>
    unfold dKey at h
    simp only at h
    split at h
    · rename_i hx
      cases h
      exact .str hx
    · cases h
theorem dKeys_len : ∀ {ks : List Key} {ds : List D}, dKeys ks = some ds → ds.length = ks.length
  | [], ds, h => by simp [dKeys] at h; subst h; rfl
  | k :: r, ds, h => by
    unfold dKeys at h
    split at h
    · rename_i d ds' h1 h2
      cases h
      simp [dKeys_len h2]
    · cases h
theorem dKeys_get : ∀ {ks : List Key} {ds : List D}, dKeys ks = some ds → ∀ {i : Nat} {d : D}, ds[i]? = some d → ∃ k, ks[i]? = some k ∧ dKey k = some d
  | [], ds, h, i, d, e => by simp [dKeys] at h; subst h; simp at e
  | k :: r, ds, h, i, d, e => by
    unfold dKeys at h
    split at h
    · rename_i d0 ds' h1 h2
      cases h
      cases i with
      | zero => simp at e; subst e; exact ⟨k, rfl, h1⟩
      | succ i => simpa using dKeys_get h2 (by simpa using e)
    · cases h
theorem dKeys_rep {K : PySem.W.Frag} {mg : Str → Option Value} {m : Mp} {H : Hp} : ∀ {ks : List Key} {ds : List D}, dKeys ks = some ds → Reps K mg G m H ds (ks.map kV)
  | [], ds, h => by simp [dKeys] at h; subst h; exact .nil
  | k :: r, ds, h => by
    unfold dKeys at h
    split at h
    · rename_i d0 ds' h1 h2
      cases h
      exact .cons (dKey_rep h1) (dKeys_rep h2)
    · cases h
theorem dKeyss_len : ∀ {ks : List (List Key)} {ds : List D}, dKeyss ks = some ds → ds.length = ks.length
  | [], ds, h => by simp [dKeyss] at h; subst h; rfl
  | k :: r, ds, h => by
    unfold dKeyss at h
    split at h
    · rename_i d ds' h1 h2
      cases h
      simp [dKeyss_len h2]
    · cases h
theorem dKeyss_get : ∀ {ks : List (List Key)} {ds : List D}, dKeyss ks = some ds → ∀ {i : Nat} {d : D}, ds[i]? = some d → ∃ k d', ks[i]? = some k ∧ dKeys k = some d' ∧ d = .tup d'
  | [], ds, h, i, d, e => by simp [dKeyss] at h; subst h; simp at e
  | k :: r, ds, h, i, d, e => by
    unfold dKeyss at h
    split at h
    · rename_i d0 ds' h1 h2
      cases h
      cases i with
      | zero => simp at e; subst e; exact ⟨k, d0, rfl, h1, rfl⟩
      | succ i => simpa using dKeyss_get h2 (by simpa using e)
    · cases h
theorem RepK.keys {K : PySem.W.Frag} {mg : Str → Option Value} {m : Mp} {H : Hp} : ∀ {ds : List (Key × D)} {kvs : List (Key × V)}, RepK K mg G m H ds kvs → kvs.map (·.1) = ds.map (·.1)
  | _, _, .nil => rfl
  | _, _, .cons _ t => by simp [RepK.keys t]
theorem RepT.keys {K : PySem.W.Frag} {mg : Str → Option Value} {m : Mp} {H : Hp} : ∀ {ds : List (List Key × D)} {kvs : List (List Key × V)}, RepT K mg G m H ds kvs → kvs.map (·.1) = ds.map (·.1)
  | _, _, .nil => rfl
  | _, _, .cons _ t => by simp [RepT.keys t]
theorem key_at {κ : Type} {kvs : List (κ × V)} {i : Nat} {k k' : κ} {v : V} (e : kvs[i]? = some (k, v)) (h : (kvs.map (·.1))[i]? = some k') : k = k' := by
  rw [List.getElem?_map, e] at h
  exact Option.some.inj h
/-- a tuple is no cell -/
theorem Rel.tupNot {K : PySem.W.Frag} {mg : Str → Option Value} {fls : List Nat} {st : Sto} {m : Mp} {H : Hp} (R : Rel K mg G fls st m H) {q : Addr} {vs : List V} (h : H q = some (.tup vs)) : ¬ m.live q := fun z => by
  rcases z with z | z
  · obtain ⟨n, c, o, _, _, e, b⟩ := R.at z
    rw [h] at e
    cases e
    cases b
  · exact R.hnt q z vs h
theorem i_kys {a : Ex} {tg e : Expr} (ok : XOk G C k W N sc X) (ha : PE X e (tE X G C fl W a)) : PI X tg e (tI X G C fl W (.kys a)) := by
  refine (pi_keys (tg := tg) ha).im fun σ H R ⟨ρ, fls, st, m, S, q⟩ => ?_
  unfold evI at q
  refine t1 S q fun x st1 v m1 H1 x1 S1 r1 q1 => ?_
  cases hk : keysL st1 x with
  | none => rw [hk] at q1; exact q1.elim
  | some ks =>
  rw [hk] at q1
  unfold keysL at hk
  split at hk
  · rename_i n
    cases r1 with
    | @ref _ p hn =>
    split at hk
    · rename_i ds hc
      obtain ⟨o, h1, h2⟩ := S1.rel.cell n _ p hc hn
      cases h2 with
      | @lkK _ kvs od rk =>
      have hkey := RepK.keys rk
      refine ⟨p, od, rfl, .inl ⟨kvs, h1, q1 _ m1 H1 x1 S1.rel ⟨fun fls2 st2 m2 H2 g fz R2 i d d' e e' => ?_, fun fls2 st2 m2 H2 g fz R2 e i hi => ?_⟩⟩⟩
      · cases e'
        obtain ⟨key, e1, e2⟩ := dKeys_get hk e
        rw [← hkey] at e1
        have hl : i < kvs.length := by have := (List.getElem?_eq_some_iff.mp e1).1; simpa using this
        refine ⟨⟨fz _ _ _ h1, hl⟩, fun v H3 y => ?_⟩
        obtain ⟨rfl, k', v', f1, rfl⟩ := y
        refine ⟨rfl, ?_⟩
        rw [key_at f1 e1]
        exact dKey_rep e2
      · refine ⟨fz _ _ _ h1, ?_⟩
        have hl := dKeys_len hk
        have hl2 : kvs.length = ds.length := by have := congrArg List.length hkey; simpa using this
        simp only [List.length_map] at hl
        have hi' : ks.length ≤ i := hi
        omega
    · rename_i ds hc
      obtain ⟨o, h1, h2⟩ := S1.rel.cell n _ p hc hn
      cases h2 with
      | @lkT _ kvs od rk =>
      have hkey := RepT.keys rk
      refine ⟨p, od, rfl, .inr ⟨kvs, h1, q1 _ m1 H1 x1 S1.rel ⟨fun fls2 st2 m2 H2 g fz R2 i d d' e e' => ?_, fun fls2 st2 m2 H2 g fz R2 e i hi => ?_⟩⟩⟩
      · cases e'
        obtain ⟨key, ds', e1, e2, rfl⟩ := dKeyss_get hk e
        rw [← hkey] at e1
        have hl : i < kvs.length := by have := (List.getElem?_eq_some_iff.mp e1).1; simpa using this
        refine ⟨⟨fz _ _ _ h1, hl⟩, fun v H3 y => ?_⟩
        obtain ⟨rfl, k', v', q', f1, rfl, hq⟩ := y
        rw [key_at f1 e1] at hq
        exact ⟨rfl, .tup (R2.tupNot hq) hq (dKeys_rep e2)⟩
      · refine ⟨fz _ _ _ h1, ?_⟩
        have hl := dKeyss_len hk
        have hl2 : kvs.length = ds.length := by have := congrArg List.length hkey; simpa using this
        simp only [List.length_map] at hl
        have hi' : ks.length ≤ i := hi
        omega
    · cases hk
  · cases hk
end
end Ev

set_option Elab.async false
set_option linter.all false
set_option maxRecDepth 100000
set_option maxHeartbeats 4000000
/-! Ev, part 12: comprehensions, tests. -/
namespace Ev
open PySem L2 PySem.Spec
open PyProof.Rows hiding St
def W0 : WX := fun _ _ _ _ => False
theorem ErrR.show {G : Prog} {mg : Str → Option Value} {m' : Mp} {H' : Hp} {c : Nat} {fs : List (Nat × D)} {cls : Value} {dd : Option Addr} {p : Addr} {hs : List Addr} (er : ErrR G mg m' H' c fs cls dd) (h : m'.h = p :: hs) : ErrR G mg (m'.show hs) (cut H' p) c fs cls dd := by
  obtain ⟨q, A, h1, h2, h3, h4 | ⟨h4, i, d, h5, h6, h7, h8⟩⟩ := er
  · exact ⟨q, A, h1, h2, h3, .inl h4⟩
  · refine ⟨q, A, h1, h2, h3, .inr ⟨h4, i, d, h5, h6, ?_, fun z => h8 ?_⟩⟩
    · rw [cut_ne fun z => h8 (.inr (by rw [h, z]; exact List.mem_cons_self))]
      exact h7
    · rcases z with z | z
      · exact .inl z
      · exact .inr (by rw [h]; exact List.mem_cons_of_mem _ z)
section
variable {X : Cx} {G : Prog} {C : Nat → Nat → List D → Sto → Out D} {fl k : Nat} {W : WX} {N : List Str} {sc : Scope} {pos : Pos}

/-- the block of a comprehension bears what a body bears -/
theorem XOk.blk (ok : XOk G C k W N sc X) (s : Shared) (H : Hp) (scope : Scope) (cl : List (Str × Addr)) (c : Addr) (fp : List Addr) : XOk G C k W0 N (relS scope sc) (X.blk s H scope (compEnvC scope cl c X.env) fp) where
  n := ok.n
  nd := ok.nd
  sc := by show relS scope X.env.scope = _; rw [ok.sc]
  calm := ok.calm
  room := ok.room
  tk := takesG_none
  inF := ok.inF
  blt := ok.blt
  rng := ok.rng
  rev := ok.rev
  tys := ok.tys
  exc := ok.exc
  ixs := ok.ixs
  fns := ok.fns
  cons := ok.cons
  dics := ok.dics
  clss := ok.clss

/-- the block of a comprehension that lets exceptions out -/
theorem XOk.blkX (ok : XOk G C k W N sc X) (σ : St) (D : Addr) (s : Shared) (H : Hp) (scope : Scope) (cl : List (Str × Addr)) (c : Addr) (fp : List Addr) : XOk G C k (WB W σ D) N (relS scope sc) (Ev.blkX X s H scope (compEnvC scope cl c X.env) fp (WB W σ D)) where
  n := ok.n
  nd := ok.nd
  sc := by show relS scope X.env.scope = _; rw [ok.sc]
  calm := ok.calm
  room := ok.room
  tk := takesG_blk
  inF := ok.inF
  blt := ok.blt
  rng := ok.rng
  rev := ok.rev
  tys := ok.tys
  exc := ok.exc
  ixs := ok.ixs
  fns := ok.fns
  cons := ok.cons
  dics := ok.dics
  clss := ok.clss

theorem wipe_in {τ : St} {i : Nat} : ∀ {vs : List Nat}, i ∈ vs → (wipe τ vs)[i]? = if i < τ.length then some none else none
  | [], h => by cases h
  | v :: vs, h => by
    unfold wipe
    by_cases e : v = i
    · subst e
      rw [List.getElem?_set, if_pos rfl, wipe_length]
    · rw [List.getElem?_set_ne e]
      exact wipe_in ((List.mem_cons.mp h).resolve_left fun z => e z.symm)
theorem wipe_idem (τ : St) (vs : List Nat) : wipe (wipe τ vs) vs = wipe τ vs := by
  apply List.ext_getElem?
  intro i
  by_cases h : i ∈ vs
  · rw [wipe_in h, wipe_in h, wipe_length]
  · rw [wipe_out h]
theorem tests_nil : PTs X [] (tTs X G C fl W .nil) := pts_nil.im fun σ H Q ⟨ρ, fls, st, m, S, q⟩ => by
  unfold evT at q
  exact q m H Ext.refl S.rel
theorem tests_one {a : Ex} {r : Exs} {e : Expr} (ha : PT X e (tT X G C fl W a)) : PTs X [e] (tTs X G C fl W (.cons a r)) := by
  refine (pts_one ha).im fun σ H Q ⟨ρ, fls, st, m, S, q⟩ => ?_
  unfold evT at q
  refine tT1 S q (fun x st1 h => ?_) fun b st1 m1 H1 e1 S1 q1 => q1 m1 H1 e1 S1.rel
  cases x <;> first | rfl | exact absurd rfl (h _)

theorem Post.noX {α β : Type} {K : PySem.W.Frag} {mg : Str → Option Value} {fls : List Nat} {m : Mp} {H : Hp} {E : XK} {o : Out α} {f : α → Sto → Out β} {R : β → Sto → Prop} (hf : ∀ a st, ∃ b st', f a st = .ok b st') (h : Post K mg G fls m H E (o.noX.bind f) R) : Post K mg G fls m H (fun _ _ _ => False) (o.bind f) R := by
  cases o with
  | ok a st =>
    obtain ⟨b, st', e⟩ := hf a st
    rw [Out.noX_ok, Out.bind_ok, e] at h
    rw [Out.bind_ok, e]
    exact h
  | exc c fs st => exact h.elim
  | bad => exact h.elim
theorem Post.noX' {α β : Type} {K : PySem.W.Frag} {mg : Str → Option Value} {fls : List Nat} {m : Mp} {H : Hp} {E : XK} {o : Out α} {f : α → Sto → Out β} {R : β → Sto → Prop} (hf : ∀ a st c fs s, f a st ≠ .exc c fs s) (h : Post K mg G fls m H E (o.noX.bind f) R) : Post K mg G fls m H (fun _ _ _ => False) (o.bind f) R := by
  cases o with
  | ok a st =>
    rw [Out.noX_ok, Out.bind_ok] at h
    rw [Out.bind_ok]
    cases e : f a st with
    | ok b st' => rw [e] at h; exact h
    | exc c fs s => exact (hf a st c fs s e).elim
    | bad => rw [e] at h; exact h
  | exc c fs st => exact h.elim
  | bad => exact h.elim
/-! ### displayed dicts -/
theorem RepK.put' {K : PySem.W.Frag} {mg : Str → Option Value} {m : Mp} {H : Hp} {ds : List (Key × D)} {kvs : List (Key × V)} (r : RepK K mg G m H ds kvs) {d : D} {v : V} (q : Rep K mg G m H d v) (k : Key) : RepK K mg G m H (dput ds k d) (putK kvs k v) := by
  have any : ∀ {ds : List (Key × D)} {kvs : List (Key × V)}, RepK K mg G m H ds kvs → (ds.any fun kv => decide (kv.1 = k)) = kvs.any fun kv => decide (kv.1 = k) := by
    intro ds
    induction ds with
    | nil => intro kvs r; cases r; rfl
    | cons p ds ih => intro kvs r; cases r with | cons a t => simp only [List.any_cons, ih t]
  have mapp : ∀ {ds : List (Key × D)} {kvs : List (Key × V)}, RepK K mg G m H ds kvs → RepK K mg G m H (ds.map fun kv => if kv.1 = k then (kv.1, d) else kv) (kvs.map fun kv => if kv.1 = k then (kv.1, v) else kv) := by
    intro ds
    induction ds with
    | nil => intro kvs r; cases r; exact .nil
    | cons p ds ih =>
      intro kvs r
      cases r with
      | @cons k0 d0 v0 _ _ a t =>
        simp only [List.map_cons]
        by_cases e : k0 = k
        · rw [if_pos e, if_pos e]; exact .cons q (ih t)
        · rw [if_neg e, if_neg e]; exact .cons a (ih t)
  have app : ∀ {ds : List (Key × D)} {kvs : List (Key × V)}, RepK K mg G m H ds kvs → RepK K mg G m H (ds ++ [(k, d)]) (kvs ++ [(k, v)]) := by
    intro ds
    induction ds with
    | nil => intro kvs r; cases r; exact .cons q .nil
    | cons p ds ih => intro kvs r; cases r with | cons a t => exact .cons a (ih t)
  unfold dput putK
  rw [any r]
  split
  · exact mapp r
  · exact app r
theorem RepK.merge {K : PySem.W.Frag} {mg : Str → Option Value} {m : Mp} {H : Hp} {ds : List (Key × D)} : ∀ {kvs : List (Key × V)} {ds0 : List (Key × D)} {kvs0 : List (Key × V)}, RepK K mg G m H ds kvs → RepK K mg G m H ds0 kvs0 →
    RepK K mg G m H (ds.foldl (fun a p => dput a p.1 p.2) ds0) (mergeK kvs0 kvs) := by
  induction ds with
  | nil => intro kvs ds0 kvs0 r r0; cases r; exact r0
  | cons p ds ih => intro kvs ds0 kvs0 r r0; cases r with | @cons k d v _ _ a t =>
    have h := ih t (r0.put' a k)
    exact h
theorem RepK.length {K : PySem.W.Frag} {mg : Str → Option Value} {m : Mp} {H : Hp} : ∀ {ds : List (Key × D)} {kvs : List (Key × V)}, RepK K mg G m H ds kvs → ds.length = kvs.length
  | [], _, r => by cases r; rfl
  | p :: ds, _, r => by cases r with | cons a t => simp [RepK.length t]
theorem dput_len {ds : List (Key × D)} {k : Key} {d : D} : (dput ds k d).length ≤ ds.length + 1 := by
  unfold dput
  split <;> simp
theorem dc_imp {kx vx : Ex} {tg : Tg} {src : Src} {test : Exs} {own : List Nat} (htg : ∀ i ∈ tgIx tg, i ∈ own) : ∀ σ H Q, tF X G C fl W (.dc kx vx tg src test own) σ H Q →
    tDc (tI X G C fl W src) (gT X.K tg) (tTs X G C fl W0 test) (tE X G C fl W0 kx) (tE X G C fl W0 vx) own σ H Q := by
  intro σ H Q ⟨ρ, fls, st, m, S, q⟩
  unfold evE at q
  refine ⟨ρ, fls, st, m, S, ?_⟩
  cases e : evI G (C fl) fl ρ src st with
  | exc c fs s1 => rw [e] at q; exact q
  | bad => rw [e] at q; exact q
  | ok xs st1 =>
  rw [e, Out.bind_ok] at q
  intro J m1 H1 e1 R1 it L hL
  by_cases hz : xs.length ≤ SZ
  case neg => rw [if_neg hz] at q; exact q.elim
  rw [if_pos hz] at q
  rw [SZ_eq] at hz
  generalize hf : (fun (x : D) (st : Sto) => match srcRes src st x with
          | some x => (match asg (wipeD ρ own) tg x with
            | some ρ' => (evT G (C fl) fl ρ' test st).bind fun b st => if b = true then (evE G (C fl) fl ρ' kx st).bind fun kd st => (evE G (C fl) fl ρ' vx st).bind fun d st => (match keyD kd with
              | some key => Out.ok (some (key, d)) st
              | none => Out.bad) else Out.ok none st
            | none => Out.bad)
          | none => Out.bad) = f at q
  obtain ⟨ys, hys⟩ : ∃ ys, srcIts src xs = ys := ⟨_, rfl⟩
  have hzy : ys.length ≤ xs.length := by
    rw [← hys]
    cases src with
    | cel a => show xs.tail.length ≤ _; rw [List.length_tail]; omega
    | _ => exact Nat.le_refl _
  have itg := it.go
  have itst := it.stop
  rw [hys] at q itg itst
  refine ⟨fun i n Hc => n = ys.length - i ∧ i ≤ ys.length ∧ ∃ sti mi Hm acc accD, Hc = upd Hm L (.dK acc) ∧ Hm L = none ∧ Ext m1 H1 mi Hm ∧ Rel X.K X.mg G fls sti mi Hm ∧ RepK X.K X.mg G mi Hm accD acc ∧ accD.length ≤ i ∧
    Post X.K X.mg G fls m1 H1 (fun _ _ _ => False) ((dcGo f (ys.drop i) accD sti).bind fun r st => if srcEnd src xs st = true then .ok (.dk r) st else .bad) (fun d st' => QD X.K X.mg G fls st' m1 H1 d Q), ⟨ys.length, by simp, Nat.zero_le _, st1, m1, H1, [], [], rfl, hL, Ext.refl, R1, .nil, Nat.le_refl _, ?_⟩, ?_⟩
  · simp only [List.drop_zero]
    exact (Post.ext e1 (Post.noX' (fun a st c fs s => by split <;> exact fun z => nomatch z) q)).imp fun d s h => QD.ext e1 h
  rintro i n Hc ⟨rfl, hi, sti, mi, Hm, acc, accD, rfl, hDm, x1, Ri, rA, hA, qi⟩
  have gmi : Grow m1 H1 (mi.hide L) (upd Hm L (.dK acc)) := x1.grow.trans (Grow.hide hDm)
  have fzi : Fz H1 (upd Hm L (.dK acc)) := fun b od u e => by
    have e2 := x1.fz b od u e
    rw [upd_ne (ne_of_none e2 hDm)]
    exact e2
  by_cases hlt : i < ys.length
  · right
    rw [List.drop_eq_getElem_cons hlt] at qi
    simp only [dcGo] at qi
    rw [Out.bind_assoc] at qi
    have fe : f ys[i] sti = match srcRes src sti ys[i] with
          | some x => (match asg (wipeD ρ own) tg x with
            | some ρ' => (evT G (C fl) fl ρ' test sti).bind fun b st => if b = true then (evE G (C fl) fl ρ' kx st).bind fun kd st => (evE G (C fl) fl ρ' vx st).bind fun d st => (match keyD kd with
              | some key => Out.ok (some (key, d)) st
              | none => Out.bad) else Out.ok none st
            | none => Out.bad)
          | none => Out.bad := by rw [← hf]
    rw [fe] at qi
    cases hres : srcRes src sti ys[i] with
    | none => rw [hres] at qi; exact qi.elim
    | some x0 =>
    rw [hres] at qi
    dsimp only at qi
    obtain ⟨hgo, hyl⟩ := itg fls sti _ _ gmi fzi (Ri.hide hDm (fun _ z => by cases z)) i ys[i] x0 (List.getElem?_eq_getElem hlt) hres
    refine ⟨hgo, _, fun H' h' => ⟨ys.length - (i + 1), by omega, h'⟩, fun v H' y => ?_⟩
    obtain ⟨rfl, rv⟩ := hyl v H' y
    have hfll : fl ≤ sti.length := by
      have h1 := (S.ext e1 R1).fll
      have := x1.le
      rw [R1.len, Ri.len] at this
      omega
    cases ha : asg (wipeD ρ own) tg x0 with
    | none => rw [ha] at qi; exact qi.elim
    | some ρ' =>
      rw [ha] at qi
      dsimp only at qi
      have Ew : EnvR X.K X.mg G (mi.hide L) (upd Hm L (.dK acc)) (wipeD ρ own) (wipe σ own) := ((S.env.ext e1).gr gmi).wipe own
      refine asg_read ha rv Ew fun σ2 E2 hw => ⟨(hw own htg).trans (wipe_idem σ own), ?_⟩
      have S2 : Stt X.K X.mg G fl fls sti (mi.hide L) (upd Hm L (.dK acc)) ρ' σ2 := ⟨Ri.hide hDm (fun _ z => by cases z), S.flf, hfll, E2⟩
      refine ⟨ρ', fls, sti, _, S2, ?_⟩
      cases et : evT G (C fl) fl ρ' test sti with
      | exc c fs s1 =>
        rw [et] at qi
        intro cls dd m2 H2 x2 R2 er
        obtain ⟨xs', hD2, hh, hnm⟩ := Ext.show Ri hDm x2
        exact qi cls dd _ _ (x1.trans xs') (R2.show hh hnm) (er.show hh)
      | bad => rw [et] at qi; exact qi.elim
      | ok b st2 =>
        rw [et] at qi
        simp only [Out.bind_ok] at qi
        intro m2 H2 x2 R2
        cases b with
        | false =>
          simp only [Bool.false_eq_true, if_false, Out.bind_ok] at qi ⊢
          obtain ⟨xs', hD2, hh, hnm⟩ := Ext.show Ri hDm x2
          exact ⟨trivial, hlt, st2, m2.show mi.h, cut H2 L, acc, accD, (upd_cut hD2).symm, cut_same, x1.trans xs', R2.show hh hnm, rA.ext xs', by omega, qi⟩
        | true =>
          simp only [if_true] at qi ⊢
          refine ⟨ρ', fls, st2, m2, S2.ext x2 R2, ?_⟩
          cases ek : evE G (C fl) fl ρ' kx st2 with
          | exc c fs s1 =>
            rw [ek] at qi
            intro cls dd m3 H3 x3 R3 er
            obtain ⟨xs', hD2, hh, hnm⟩ := Ext.show Ri hDm (x2.trans x3)
            exact qi cls dd _ _ (x1.trans xs') (R3.show hh hnm) (er.show hh)
          | bad => rw [ek] at qi; exact qi.elim
          | ok kd st3 =>
            rw [ek] at qi
            simp only [Out.bind_ok] at qi
            intro yk m3 H3 x3 R3 rk
            refine ⟨ρ', fls, st3, m3, (S2.ext x2 R2).ext x3 R3, ?_⟩
            cases ee : evE G (C fl) fl ρ' vx st3 with
            | exc c fs s1 =>
              rw [ee] at qi
              intro cls dd m4 H4 x4 R4 er
              obtain ⟨xs', hD2, hh, hnm⟩ := Ext.show Ri hDm ((x2.trans x3).trans x4)
              exact qi cls dd _ _ (x1.trans xs') (R4.show hh hnm) (er.show hh)
            | bad => rw [ee] at qi; exact qi.elim
            | ok d st4 =>
              rw [ee] at qi
              simp only [Out.bind_ok] at qi
              cases hkey : keyD kd with
              | none => rw [hkey] at qi; exact qi.elim
              | some key =>
                rw [hkey] at qi
                simp only [Out.bind_ok] at qi
                intro y m4 H4 x4 R4 ry
                obtain ⟨xs', hD4, hh, hnm⟩ := Ext.show Ri hDm ((x2.trans x3).trans x4)
                have hl2 : acc.length < sizeLine := by rw [← rA.length]; omega
                have hd := dput_len (ds := accD) (k := key) (d := d)
                exact ⟨acc, key, keyD_rep hkey rk, hD4, hl2, trivial, hlt, st4, m4.show mi.h, cut H4 L, _, _, upd_cut'.symm, cut_same, x1.trans xs', R4.show hh hnm, (rA.ext xs').put' (ry.gr (Grow.show hh)) key, by omega, qi⟩
  · left
    have hi2 : i = ys.length := by omega
    subst hi2
    rw [List.drop_length] at qi
    simp only [dcGo, Out.bind_ok] at qi
    by_cases hend : srcEnd src xs sti = true
    · rw [if_pos hend] at qi
      refine ⟨itst fls sti _ _ gmi fzi (Ri.hide hDm (fun _ z => by cases z)) hend _ (Nat.le_refl _), ?_⟩
      have q2 : QF X.K X.mg G fls sti m1 H1 (.dk accD) Q := qi
      exact q2 L _ mi Hm x1 Ri hDm (.dk rA) rfl
    · rw [if_neg hend] at qi
      exact qi.elim
theorem lc_imp {elt : Ex} {tg : Tg} {src : Src} {test : Exs} {own : List Nat} (htg : ∀ i ∈ tgIx tg, i ∈ own) : ∀ σ H Q, tF X G C fl W (.lc elt tg src test own) σ H Q →
    tLcX (tI X G C fl W src) (gT X.K tg) (fun σ D => tTs X G C fl (WB W σ D) test) (fun σ D => tE X G C fl (WB W σ D) elt) own σ H Q := by
  intro σ H Q ⟨ρ, fls, st, m, S, q⟩
  unfold evE at q
  refine ⟨ρ, fls, st, m, S, ?_⟩
  cases e : evI G (C fl) fl ρ src st with
  | exc c fs s1 => rw [e] at q; exact q
  | bad => rw [e] at q; exact q
  | ok xs st1 =>
  rw [e, Out.bind_ok] at q
  intro J m1 H1 e1 R1 it L hL
  by_cases hz : xs.length ≤ SZ
  case neg => rw [if_neg hz] at q; exact q.elim
  rw [if_pos hz] at q
  rw [SZ_eq] at hz
  generalize hf : (fun (x : D) (st : Sto) => match srcRes src st x with
          | some x => (match asg (wipeD ρ own) tg x with
            | some ρ' => (evT G (C fl) fl ρ' test st).bind fun b st => if b = true then (evE G (C fl) fl ρ' elt st).bind fun d st => Out.ok (some d) st else Out.ok none st
            | none => Out.bad)
          | none => Out.bad) = f at q
  obtain ⟨ys, hys⟩ : ∃ ys, srcIts src xs = ys := ⟨_, rfl⟩
  have hzy : ys.length ≤ xs.length := by
    rw [← hys]
    cases src with
    | cel a => show xs.tail.length ≤ _; rw [List.length_tail]; omega
    | _ => exact Nat.le_refl _
  have itg := it.go
  have itst := it.stop
  rw [hys] at q itg itst
  refine ⟨fun i n Hc => n = ys.length - i ∧ i ≤ ys.length ∧ ∃ sti mi Hm acc accD, Hc = upd Hm L (.lst acc) ∧ Hm L = none ∧ Ext m1 H1 mi Hm ∧ Rel X.K X.mg G fls sti mi Hm ∧ Reps X.K X.mg G mi Hm accD acc ∧ acc.length ≤ i ∧
    Post X.K X.mg G fls m1 H1 (WE W σ) ((lcGo f (ys.drop i) sti).bind fun r st => if srcEnd src xs st = true then .ok (.lst (accD ++ r)) st else .bad) (fun d st' => QD X.K X.mg G fls st' m1 H1 d Q), ⟨ys.length, by simp, Nat.zero_le _, st1, m1, H1, [], [], rfl, hL, Ext.refl, R1, .nil, Nat.le_refl _, ?_⟩, ?_⟩
  · simp only [List.drop_zero, List.nil_append]
    exact (Post.ext e1 q).imp fun d s h => QD.ext e1 h
  rintro i n Hc ⟨rfl, hi, sti, mi, Hm, acc, accD, rfl, hDm, x1, Ri, rA, hA, qi⟩
  have gmi : Grow m1 H1 (mi.hide L) (upd Hm L (.lst acc)) := x1.grow.trans (Grow.hide hDm)
  have fzi : Fz H1 (upd Hm L (.lst acc)) := fun b od u e => by
    have e2 := x1.fz b od u e
    rw [upd_ne (ne_of_none e2 hDm)]
    exact e2
  by_cases hlt : i < ys.length
  · right
    rw [List.drop_eq_getElem_cons hlt] at qi
    simp only [lcGo] at qi
    rw [Out.bind_assoc] at qi
    have fe : f ys[i] sti = match srcRes src sti ys[i] with
          | some x => (match asg (wipeD ρ own) tg x with
            | some ρ' => (evT G (C fl) fl ρ' test sti).bind fun b st => if b = true then (evE G (C fl) fl ρ' elt st).bind fun d st => Out.ok (some d) st else Out.ok none st
            | none => Out.bad)
          | none => Out.bad := by rw [← hf]
    rw [fe] at qi
    cases hres : srcRes src sti ys[i] with
    | none => rw [hres] at qi; exact qi.elim
    | some x0 =>
    rw [hres] at qi
    dsimp only at qi
    obtain ⟨hgo, hyl⟩ := itg fls sti _ _ gmi fzi (Ri.hide hDm (fun _ z => by cases z)) i ys[i] x0 (List.getElem?_eq_getElem hlt) hres
    refine ⟨hgo, _, fun H' h' => ⟨ys.length - (i + 1), by omega, h'⟩, fun v H' y => ?_⟩
    obtain ⟨rfl, rv⟩ := hyl v H' y
    have hfll : fl ≤ sti.length := by
      have h1 := (S.ext e1 R1).fll
      have := x1.le
      rw [R1.len, Ri.len] at this
      omega
    cases ha : asg (wipeD ρ own) tg x0 with
    | none => rw [ha] at qi; exact qi.elim
    | some ρ' =>
      rw [ha] at qi
      dsimp only at qi
      have Ew : EnvR X.K X.mg G (mi.hide L) (upd Hm L (.lst acc)) (wipeD ρ own) (wipe σ own) := ((S.env.ext e1).gr gmi).wipe own
      refine asg_read ha rv Ew fun σ2 E2 hw => ⟨(hw own htg).trans (wipe_idem σ own), ?_⟩
      have S2 : Stt X.K X.mg G fl fls sti (mi.hide L) (upd Hm L (.lst acc)) ρ' σ2 := ⟨Ri.hide hDm (fun _ z => by cases z), S.flf, hfll, E2⟩
      refine ⟨ρ', fls, sti, _, S2, ?_⟩
      cases et : evT G (C fl) fl ρ' test sti with
      | exc c fs s1 =>
        rw [et] at qi
        intro cls dd m2 H2 x2 R2 er
        obtain ⟨xs', hD2, hh, hnm⟩ := Ext.show Ri hDm x2
        exact ⟨⟨acc, hD2⟩, qi cls dd _ _ (x1.trans xs') (R2.show hh hnm) (er.show hh)⟩
      | bad => rw [et] at qi; exact qi.elim
      | ok b st2 =>
        rw [et] at qi
        simp only [Out.bind_ok] at qi
        intro m2 H2 x2 R2
        cases b with
        | false =>
          simp only [Bool.false_eq_true, if_false, Out.bind_ok] at qi ⊢
          obtain ⟨xs', hD2, hh, hnm⟩ := Ext.show Ri hDm x2
          refine ⟨trivial, hlt, st2, m2.show mi.h, cut H2 L, acc, accD, (upd_cut hD2).symm, cut_same, x1.trans xs', R2.show hh hnm, rA.ext xs', by omega, ?_⟩
          rw [Out.bind_assoc] at qi
          exact qi
        | true =>
          simp only [if_true] at qi ⊢
          refine ⟨ρ', fls, st2, m2, S2.ext x2 R2, ?_⟩
          cases ee : evE G (C fl) fl ρ' elt st2 with
          | exc c fs s1 =>
            rw [ee] at qi
            intro cls dd m3 H3 x3 R3 er
            obtain ⟨xs', hD2, hh, hnm⟩ := Ext.show Ri hDm (x2.trans x3)
            exact ⟨⟨acc, hD2⟩, qi cls dd _ _ (x1.trans xs') (R3.show hh hnm) (er.show hh)⟩
          | bad => rw [ee] at qi; exact qi.elim
          | ok d st3 =>
            rw [ee] at qi
            simp only [Out.bind_ok] at qi
            intro y m3 H4 x3 R3 ry
            obtain ⟨xs', hD4, hh, hnm⟩ := Ext.show Ri hDm (x2.trans x3)
            refine ⟨acc, hD4, by omega, trivial, hlt, st3, m3.show mi.h, cut H4 L, acc ++ [y], accD ++ [d], upd_cut'.symm, cut_same, x1.trans xs', R3.show hh hnm, (rA.ext xs').app (.cons (ry.gr (Grow.show hh)) .nil), by simp; omega, ?_⟩
            rw [Out.bind_assoc] at qi
            simp only [Out.bind_ok] at qi
            simp only [List.append_assoc, List.cons_append, List.nil_append]
            exact qi
  · left
    have hi2 : i = ys.length := by omega
    subst hi2
    rw [List.drop_length] at qi
    simp only [lcGo, Out.bind_ok, List.append_nil] at qi
    by_cases hend : srcEnd src xs sti = true
    · rw [if_pos hend] at qi
      refine ⟨itst fls sti _ _ gmi fzi (Ri.hide hDm (fun _ z => by cases z)) hend _ (Nat.le_refl _), ?_⟩
      have q2 : QF X.K X.mg G fls sti m1 H1 (.lst accD) Q := qi
      exact q2 L _ mi Hm x1 Ri hDm (.lst rA) rfl
    · rw [if_neg hend] at qi
      exact qi.elim

theorem c_disp {ps : Prs} {ks : List (Option Expr)} {vs : List Expr} {trs : List (TE × TE)} (hp : PPs X pos ks vs trs) (hr : ∀ σ H Q, tPs X G C fl W ps σ H Q → tPairs trs σ H Q) (h1 : ks.all (·.isSome) = true) (h2 : ks.length = vs.length) (h3 : ks ≠ []) (h4 : ks.length ≤ 15)
    (hlen : ∀ ρ st kds st', evPs G (C fl) fl ρ ps st = .ok kds st' → kds.length = ks.length) :
    PE X (.Dict ks vs pos) (tF X G C fl W (.dicE ps)) := by
  refine (pe_disp hp h1 h2 h3 h4).im fun σ H Q ⟨ρ, fls, st, m, S, q⟩ p hn => ?_
  unfold evE at q
  refine hr _ _ _ ⟨ρ, fls, st, m.hide p, ⟨S.rel.hide hn (fun _ z => by cases z), S.flf, S.fll, S.env.gr (Grow.hide hn)⟩, ?_⟩
  have q := Post.noX (fun a st => ⟨_, _, rfl⟩) q
  cases e : evPs G (C fl) fl ρ ps st with
  | exc c fs s1 =>
    rw [e] at q
    intro cls dd m2 H2 x2 R2 er
    obtain ⟨xs', hD2, hh, hnm⟩ := Ext.show S.rel hn x2
    exact (q cls dd _ _ xs' (R2.show hh hnm) (er.show hh)).elim
  | bad => rw [e] at q; exact q
  | ok kds st1 =>
    rw [e, Out.bind_ok] at q
    have hl := hlen ρ st kds st1 e
    intro kvs m2 H2 x2 R2 r2
    obtain ⟨xs', hD, hh, hnm⟩ := Ext.show S.rel hn x2
    have hk : kvs.length ≤ 15 := by
      have : ∀ {ds : List (Key × D)} {kvs : List (Key × V)}, RepK X.K X.mg G m2 H2 ds kvs → ds.length = kvs.length := by
        intro ds
        induction ds with
        | nil => intro kvs r; cases r; rfl
        | cons p ds ih => intro kvs r; cases r with | cons a t => simp [ih t]
      rw [← this r2, hl]; exact h4
    refine ⟨hD, kvs, rfl, hk, ?_⟩
    have q2 : QF X.K X.mg G fls st1 m H (.dk (kds.foldl (fun a p => dput a p.1 p.2) [])) Q := q
    have := q2 p (.dK (mergeK [] kvs)) (m2.show m.h) (cut H2 p) xs' (R2.show hh hnm) cut_same (.dk (RepK.merge (r2.gr (Grow.show hh)) .nil)) rfl
    rw [upd_cut'] at this
    exact this
theorem ps_nil : ∀ σ H Q, tPs X G C fl W .nil σ H Q → tPairs [] σ H Q := fun σ H Q ⟨ρ, fls, st, m, S, q⟩ => by
  unfold evPs at q
  exact q [] m H Ext.refl S.rel .nil
theorem ps_cons {a b : Ex} {r : Prs} {trs : List (TE × TE)} (hr : ∀ σ H Q, tPs X G C fl W r σ H Q → tPairs trs σ H Q) : ∀ σ H Q, tPs X G C fl W (.cons a b r) σ H Q → tPairs ((tE X G C fl W a, tE X G C fl W b) :: trs) σ H Q := fun σ H Q ⟨ρ, fls, st, m, S, q⟩ => by
  unfold evPs at q
  refine t1 S q fun x st1 v m1 H1 e1 S1 r1 q1 => ?_
  refine t1 S1 q1 fun y st2 u m2 H2 e2 S2 r2 q2 => ?_
  cases ek : keyD x with
  | none => rw [ek] at q2; exact q2.elim
  | some key =>
    rw [ek] at q2
    dsimp only at q2
    refine hr _ _ _ ⟨ρ, fls, st2, m2, S2, ?_⟩
    cases e : evPs G (C fl) fl ρ r st2 with
    | exc c fs s1 => rw [e] at q2; exact q2
    | bad => rw [e] at q2; exact q2
    | ok kds st3 =>
      rw [e, Out.bind_ok] at q2
      intro kvs m3 H3 x3 R3 r3
      have hv := keyD_rep ek r1
      subst hv
      exact q2 ((key, u) :: kvs) m3 H3 ((e1.trans e2).trans x3) R3 (.cons (r2.ext x3) r3)
end
end Ev

set_option Elab.async false
set_option linter.all false
set_option maxRecDepth 100000
set_option maxHeartbeats 4000000
/-! Ev, sorted by a def of keys. -/
namespace Ev
open PySem L2 PySem.Spec
open PyProof.Rows hiding St
theorem upd_comm {H : Hp} {a b : Addr} {o u : HO} (h : a ≠ b) : upd (upd H a o) b u = upd (upd H b u) a o := by
  funext q
  by_cases e1 : q = a
  · subst e1; rw [upd_ne h, upd_same, upd_same]
  · by_cases e2 : q = b
    · subst e2; rw [upd_same, upd_ne (fun z => h z.symm), upd_same]
    · rw [upd_ne e2, upd_ne e1, upd_ne e1, upd_ne e2]
section
variable {K : PySem.W.Frag} {mg : Str → Option Value} {G : Prog} {m : Mp} {H : Hp}
theorem zip_reps {ks : List (Int × Int)} : ∀ {xs : List D} {vs : List V}, Reps K mg G m H xs vs → ks.length = xs.length → Paired (fun (x : (Int × Int) × D) (y : (Int × Int) × V) => x.1 = y.1 ∧ Rep K mg G m H x.2 y.2) (ks.zip xs) (ks.zip vs) := by
  induction ks with
  | nil => intro vs us r e; cases r <;> first | exact .nil | (simp at e)
  | cons k ks ih =>
    intro vs us r e
    cases r with
    | nil => simp at e
    | cons r rs => exact .cons ⟨rfl, r⟩ (ih rs (by simpa using e))
theorem paired_reps : ∀ {l : List ((Int × Int) × D)} {n : List ((Int × Int) × V)}, Paired (fun x y => x.1 = y.1 ∧ Rep K mg G m H x.2 y.2) l n → Reps K mg G m H (l.map (·.2)) (n.map (·.2))
  | _, _, .nil => .nil
  | _, _, .cons h t => .cons h.2 (paired_reps t)
end
section
variable {X : Cx} {G : Prog} {C : Nat → Nat → List D → Sto → Out D} {fl k : Nat} {W : WX} {N : List Str} {sc : Scope} {pos : Pos}
theorem c_sortK {f : Nat} {a : Ex} {ea : Expr} {g : Str} {F : Fn} {p pg kp : Pos} (ok : XOk G C k W N sc X) (ha : PE X ea (tE X G C fl W a)) (hg : Gl X "sorted") (hp : plB ea = true) (hF : G.fns[f]? = some F) (hn : F.name = g) (hgl : F.glob = true) (hnp : F.np = 1)
    (hgg : Gl X g) (hnb : nameB g = true) : PE X (.Call (.Name "sorted" p) [ea] [⟨some "key", .Name g pg, kp⟩] pos) (tF X G C fl W (.sortK f a)) := by
  refine ⟨fun pins s σ H Q I h => ?_⟩
  obtain ⟨ρ, fls, st, m, S, q⟩ := h
  unfold evE at q
  obtain ⟨fa, fd, ps, hm, hkeep, hps, hbd, hfn⟩ := ok.fns f F hF hgl
  rw [hn] at hm
  have hA : tE X G C fl W a σ H (fun v H1 => ∃ x st1 m1, Ext m H m1 H1 ∧ Stt X.K X.mg G fl fls st1 m1 H1 ρ σ ∧ Rep X.K X.mg G m1 H1 x v ∧ Post X.K X.mg G fls m1 H1 (WE W σ) (match view st1 x with
    | .lst xs => (keysGo (fun x st => C fl f [x] st) xs st1).bind fun ks st => .ok (.lst ((EvSK.psort (ks.zip xs)).map (·.2))) st
    | _ => .bad) fun d st' => QD X.K X.mg G fls st' m H d Q) := t1 S q fun x st1 v m1 H1 e1 S1 r1 q1 => ⟨x, st1, m1, e1, S1, r1, q1⟩
  refine wpAny_Call_Name_kw (ld_blt I hg (ok.blt .sorted) EvSet.boot_sorted ?_)
  refine PyProof.Rows.callWith_kw (thn ((pa_cons ha pa_nil (star_pl hp)).run pos pins s σ H (fun vs H1 => ∃ v, vs = [v] ∧ ∃ x st1 m1, Ext m H m1 H1 ∧ Stt X.K X.mg G fl fls st1 m1 H1 ρ σ ∧ Rep X.K X.mg G m1 H1 x v ∧ Post X.K X.mg G fls m1 H1 (WE W σ) (match view st1 x with
    | .lst xs => (keysGo (fun x st => C fl f [x] st) xs st1).bind fun ks st => .ok (.lst ((EvSK.psort (ks.zip xs)).map (·.2))) st
    | _ => .bad) fun d st' => QD X.K X.mg G fls st' m H d Q) I ?_) fun us s1 ⟨vs, H1, I1, r1, q1⟩ =>
      thn ((pk_cons (pe_glob (pos := pg) (v := .ref fa) hgg hm rfl (name_dbg hnb).1) pk_nil).run pos pins s1 σ H1 (fun zs H2 => zs = [.ref fa] ∧ H2 = H1) I1 ?_) fun ws s2 ⟨zs, H2, I2, r2, q2⟩ => ?_) ?_ ?_ ?_ ?_
  · obtain ⟨ρ', fls', st', m', S', q'⟩ := hA
    refine ⟨ρ', fls', st', m', S', q'.imp fun d s hq => fun v m1 H1 e1 R1 r1 => ⟨v, rfl, hq v m1 H1 e1 R1 r1⟩⟩
  · exact ⟨rfl, rfl⟩
  · obtain ⟨v, rfl, x, st1, m1, e1, S1, r1', q1⟩ := q1
    obtain ⟨rfl, rfl⟩ := q2
    obtain ⟨u, rfl, ru⟩ := vals1 r1
    obtain ⟨w1, rfl, rw1⟩ := vals1 r2
    obtain rfl : w1 = Value.ref fa := rw1
    cases ev : view st1 x <;> rw [ev] at q1 <;> first | exact q1.elim | skip
    rename_i xs
    obtain ⟨pa, vs, rfl, hpa, rr⟩ := S1.rel.lst r1' ev
    obtain rfl : u = Value.ref pa := ru
    refine EvSK.sorted_key (W := fun D kS od i ks kvs Hc => ∃ sti mi Hm, Hc = upd (upd Hm D (.frz od (.lst []))) kS (.lst kvs) ∧ Hm D = none ∧ Hm kS = none ∧ D ≠ kS ∧ Ext m1 H2 mi Hm ∧ Rel X.K X.mg G fls sti mi Hm ∧ fl ≤ sti.length ∧
      Paired (EvSK.KeyAt Hm) kvs ks ∧ i = ks.length ∧ Post X.K X.mg G fls m1 H2 (WE W σ) ((keysGo (fun x st => C fl f [x] st) (xs.drop i) sti).bind fun r st => .ok (.lst ((EvSK.psort ((ks ++ r).zip xs)).map (·.2))) st) fun d st' => QD X.K X.mg G fls st' m H d Q)
      hfn ok.room hbd I2 (SqL.of hpa) ⟨fun D T kS od hD hT hK h1 h2 h3 => ?_, fun D kS od i ks kvs Hc hW => ?_, fun D kS od i ks kvs Hc v hW hv => ?_, fun D kS od ks kvs Hc hW hDK => ?_⟩
    · refine ⟨st1, m1, upd H2 T (.tup vs), by rw [upd_comm h1], by rw [upd_ne h1]; exact hD, by rw [upd_ne (Ne.symm h3)]; exact hK, h2, Ext.new S1.rel _ hT, S1.rel.new _ hT, S1.fll, .nil, rfl, ?_⟩
      simp only [List.drop_zero, List.nil_append]
      exact q1
    · obtain ⟨sti, mi, Hm, rfl, hD, hK, hne, x2, R2, _, hp, hi, _⟩ := hW
      refine ⟨by rw [upd_ne hne, upd_same], upd_same, L2.Paired.mapP hp fun k ab z => ?_, hi⟩
      obtain ⟨T, rfl, hT⟩ := z
      exact ⟨T, rfl, by rw [upd_ne (ne_of_none hT hK), upd_ne (ne_of_none hT hD)]; exact hT⟩
    · obtain ⟨sti, mi, Hm, rfl, hD, hK, hne, x2, R2, hfl, hpk, hi, qi⟩ := hW
      obtain ⟨d, hd, rd⟩ := rr.get' hv
      have hlt : i < xs.length := (List.getElem?_eq_some_iff.mp hd).1
      have hgd : xs[i] = d := (List.getElem?_eq_some_iff.mp hd).2
      rw [List.drop_eq_getElem_cons hlt, hgd] at qi
      simp only [keysGo] at qi
      have hK' : (upd Hm D (.frz od (.lst []))) kS = none := by rw [upd_ne (Ne.symm hne)]; exact hK
      have RD : Rel X.K X.mg G fls sti (mi.hide D) (upd Hm D (.frz od (.lst []))) := R2.hide hD (fun _ z => by cases z)
      have RK : Rel X.K X.mg G fls sti ((mi.hide D).hide kS) (upd (upd Hm D (.frz od (.lst []))) kS (.lst kvs)) := RD.hide hK' (fun _ z => by cases z)
      have g2 : Grow m1 H2 ((mi.hide D).hide kS) (upd (upd Hm D (.frz od (.lst []))) kS (.lst kvs)) := (x2.grow.trans (Grow.hide hD)).trans (Grow.hide hK')
      refine ⟨[d], fls, sti, _, fl, RK, S1.flf, hfl, .cons (rd.gr g2) .nil, by rw [hnp]; rfl, ?_⟩
      cases ec : C fl f [d] sti with
      | exc c fs s1 => rw [ec] at qi; exact qi.elim
      | bad => rw [ec] at qi; exact qi.elim
      | ok kd st2 =>
        rw [ec] at qi
        simp only [Out.noX_ok, Out.bind_ok] at qi
        cases ek : keyP kd with
        | none => rw [ek] at qi; exact qi.elim
        | some pr =>
          rw [ek] at qi
          intro vk m' H' xk Rk rk
          obtain ⟨xs1, hk1, hh1, hnm1⟩ := Ext.show RD hK' xk
          have R1' := Rk.show hh1 hnm1
          obtain ⟨xs2, hk2, hh2, hnm2⟩ := Ext.show R2 hD xs1
          have R2' := R1'.show hh2 hnm2
          have hD' : H' D = some (.frz od (.lst [])) := by rw [cut_ne hne] at hk2; exact hk2
          obtain ⟨T, vs2, rfl, hT, hnl, hpr⟩ : ∃ T, ∃ (_ : Unit), vk = .ref T ∧ H' T = some (.tup [.int pr.1, .int pr.2]) ∧ ¬ m'.live T ∧ True := by
            unfold keyP at ek
            split at ek
            · cases ek
              cases rk with
              | tup n1 h1 rs =>
              cases rs with
              | cons ra t =>
              cases t with
              | cons rb t2 =>
              cases t2
              cases ra
              cases rb
              exact ⟨_, (), rfl, h1, n1, trivial⟩
            · cases ek
          have nTK : T ≠ kS := fun z => hnl (.inr (by rw [z, hh1]; exact List.mem_cons_self))
          have nTD : T ≠ D := fun z => hnl (.inr (by rw [z, hh1]; exact List.mem_cons_of_mem _ List.mem_cons_self))
          refine ⟨pr, hk1, st2, _, cut (cut H' kS) D, ?_, cut_same, by rw [cut_ne (Ne.symm hne), cut_same], hne, x2.trans xs2, R2', ?_, ?_, by rw [List.length_append, hi]; rfl, ?_⟩
          · funext q0
            by_cases e1 : q0 = kS
            · subst e1; rw [upd_same, upd_same]
            · rw [upd_ne e1, upd_ne e1]
              by_cases e2 : q0 = D
              · subst e2; rw [upd_same, hD']
              · rw [upd_ne e2, cut_ne e2, cut_ne e1]
          · have := Rk.len
            have h5 := xk.le
            rw [RK.len, Rk.len] at h5
            omega
          · refine Paired.snoc (L2.Paired.mapP hpk fun k ab z => ?_) ⟨T, rfl, by rw [cut_ne nTD, cut_ne nTK]; exact hT⟩
            obtain ⟨T', rfl, hT'⟩ := z
            exact ⟨T', rfl, (xs2.old _ _ hT' (R2.tupNot hT')).1⟩
          · rw [Out.bind_assoc] at qi
            simp only [Out.bind_ok] at qi
            simp only [List.append_assoc, List.cons_append, List.nil_append]
            exact qi
    · obtain ⟨sti, mi, Hm, rfl, hD, hK, hne, x2, R2, hfl, hpk, hi, qi⟩ := hW
      have hxl : xs.length = vs.length := rr.length
      rw [← hxl, List.drop_length] at qi
      simp only [keysGo, Out.bind_ok, List.append_nil] at qi
      have q2 : QF X.K X.mg G fls sti m H (.lst ((EvSK.psort (ks.zip xs)).map (·.2))) Q := qi
      have hz := zip_reps (rr.ext x2) (ks := ks) (by rw [← hi, hxl])
      have rout := paired_reps (EvSK.psort_pair hz)
      have hxn := Ext.new R2 (.lst []) hK
      have := q2 D (.lst ((EvSK.psort (ks.zip vs)).map (·.2))) mi (upd Hm kS (.lst [])) ((e1.trans x2).trans hxn) (R2.new _ hK) (by rw [upd_ne hne]; exact hD) (.lst (rout.ext hxn)) rfl
      have eh : upd (upd (upd (upd Hm D (.frz od (.lst []))) kS (.lst kvs)) kS (.lst [])) D (.lst ((EvSK.psort (ks.zip vs)).map (·.2))) = upd (upd Hm kS (.lst [])) D (.lst ((EvSK.psort (ks.zip vs)).map (·.2))) := by
        rw [upd_upd]
        rw [upd_comm (H := Hm) hne, upd_upd]
      rw [eh]
      exact this
  · rw [star_pl hp]; rfl
  · rw [star_pl hp]; rfl
  · rfl
  · rfl
end
end Ev

set_option Elab.async false
set_option linter.all false
set_option maxRecDepth 100000
set_option maxHeartbeats 4000000
/-! Ev, part 13: every expression does what the evaluator says. -/
namespace Ev
open PySem L2 PySem.Spec
open PyProof.Rows hiding St
section
variable {X : Cx} {G : Prog} {C : Nat → Nat → List D → Sto → Out D} {fl k : Nat} {W : WX} {N : List Str} {sc : Scope} {pos : Pos}

theorem tT_E {x : Ex} {σ : St} {H : Hp} {Q : Bool → Hp → Prop} (h : tT X G C fl W x σ H Q) : tB (tE X G C fl W x) σ H Q := by
  obtain ⟨ρ, fls, st, m, S, q⟩ := h
  refine ⟨ρ, fls, st, m, S, q.imp fun d s h => ?_⟩
  obtain ⟨b, rfl, h⟩ := h
  intro v m' H' e R r
  cases r
  exact ⟨b, rfl, h m' H' e R⟩
theorem p_val {x : Ex} {e : Expr} (h : PE X e (tE X G C fl W x)) (he : ∀ whole, isTrue e X.env whole = (do let v ← whole; standAt e.pos; holding [v] (truthy v))) : PT X e (tT X G C fl W x) :=
  (pt_val h he).im fun _ _ _ q => tT_E q
theorem p_not {a : Ex} {ea : Expr} (ha : PT X ea (tT X G C fl W a)) : PT X (.UnaryOp .Not ea pos) (tT X G C fl W (.nt a)) := by
  refine (pt_not ha).im fun σ H Q ⟨ρ, fls, st, m, S, q⟩ => ?_
  unfold evE at q
  refine tT1 S q (fun x st1 h => ?_) fun b st1 m1 H1 e1 S1 q1 => ?_
  · cases x <;> first | rfl | exact absurd rfl (h _)
  · obtain ⟨c, h1, h2⟩ := q1
    cases h1
    exact h2 m1 H1 e1 S1.rel
/-- a comparison's truth -/
theorem p_cmp {op : COp} {a b : Ex} {ea eb : Expr} (ok : XOk G C k W N sc X) (ha : PE X ea (tE X G C fl W a)) (hb : PE X eb (tE X G C fl W b)) (hm : behindInMarks (copOf op) eb = false) :
    PT X (.Compare ea [copOf op] [eb] pos) (tT X G C fl W (.cmp op a b)) := by
  refine (pt_cmpR opAny ha hb hm).im fun σ H Q ⟨ρ, fls, st, m, S, q⟩ => ?_
  unfold evE at q
  refine t1 S q fun x st1 v m1 H1 e1 S1 r1 q1 => ?_
  refine t1 S1 q1 fun y st2 u m2 H2 e2 S2 r2 q2 => ?_
  cases hd : cmpD st2 op x y with
  | none => rw [hd] at q2; exact q2.elim
  | some d =>
    rw [hd] at q2
    obtain ⟨c, h1, h2⟩ := q2
    cases h1
    obtain ⟨r, h3, h4⟩ := cmpD_ok (X := X) (G := G) (units_of ok) hd
    exact ⟨r, h3, h4 _ _ _ _ _ _ S2.rel (r1.ext e2) r2 ⟨d, rfl, h2 m2 H2 (e1.trans e2) S2.rel⟩⟩
theorem p_chain {op op2 : COp} {a b c : Ex} {ea eb ec : Expr} (ok : XOk G C k W N sc X) (ha : PE X ea (tE X G C fl W a)) (hb : PE X eb (tE X G C fl W b)) (hc : PE X ec (tE X G C fl W c)) (hm : lastMarks [copOf op, copOf op2] [eb, ec] = false) :
    PT X (.Compare ea [copOf op, copOf op2] [eb, ec] pos) (tT X G C fl W (.chain op op2 a b c)) := by
  refine (pt_chain opAny opAny ha hb hc hm).im fun σ H Q ⟨ρ, fls, st, m, S, q⟩ => ?_
  unfold evE at q
  refine t1 S q fun x st1 v m1 H1 e1 S1 r1 q1 => ?_
  refine t1 S1 q1 fun y st2 u m2 H2 e2 S2 r2 q2 => ?_
  cases hd : cmpD st2 op x y with
  | none => rw [hd] at q2; exact q2.elim
  | some d =>
    rw [hd] at q2
    obtain ⟨r, h1, h2⟩ := cmpD_ok (X := X) (G := G) (units_of ok) hd
    refine ⟨r, h1, h2 _ _ _ _ _ _ S2.rel (r1.ext e2) r2 ⟨d, rfl, ?_⟩⟩
    cases d with
    | false =>
      rw [if_neg Bool.false_ne_true]
      obtain ⟨c, h3, h4⟩ := q2
      cases h3
      exact ⟨_, rfl, h4 m2 H2 (e1.trans e2) S2.rel⟩
    | true =>
      rw [if_pos rfl]
      refine t1 S2 q2 fun z st3 w m3 H3 e3 S3 r3 q3 => ?_
      cases hd2 : cmpD st3 op2 y z with
      | none => rw [hd2] at q3; exact q3.elim
      | some d2 =>
        rw [hd2] at q3
        obtain ⟨c, h3, h4⟩ := q3
        cases h3
        obtain ⟨r', h1, h2⟩ := cmpD_ok (X := X) (G := G) (units_of ok) hd2
        exact ⟨r', h1, h2 _ _ _ _ _ _ S3.rel (r2.ext e3) r3 ⟨_, rfl, h4 m3 H3 (e1.trans (e2.trans e3)) S3.rel⟩⟩
theorem p_isN {a : Ex} {ea : Expr} {j : Nat} {p2 : Pos} (ha : PE X ea (tE X G C fl W a)) : PT X (.Compare ea [.Is] [.Constant .none j p2] pos) (tT X G C fl W (.isN a)) := by
  refine (pt_cmp (pc_isN ha) rfl).im fun σ H Q ⟨ρ, fls, st, m, S, q⟩ => ?_
  unfold evE at q
  refine t1 S q fun x st1 v m1 H1 e1 S1 r1 q1 => ?_
  obtain ⟨c, h1, h2⟩ := q1
  cases h1
  exact ⟨_, rfl, by rw [non_rep r1]; exact h2 m1 H1 e1 S1.rel⟩
theorem p_notN {a : Ex} {ea : Expr} {j : Nat} {p2 : Pos} (ha : PE X ea (tE X G C fl W a)) : PT X (.Compare ea [.IsNot] [.Constant .none j p2] pos) (tT X G C fl W (.notN a)) := by
  refine (pt_cmp (pc_notN ha) rfl).im fun σ H Q ⟨ρ, fls, st, m, S, q⟩ => ?_
  unfold evE at q
  refine t1 S q fun x st1 v m1 H1 e1 S1 r1 q1 => ?_
  obtain ⟨c, h1, h2⟩ := q1
  cases h1
  exact ⟨_, rfl, by rw [non_rep r1]; exact h2 m1 H1 e1 S1.rel⟩
theorem p_isB {a : Ex} {ea : Expr} {b : Bool} {j : Nat} {p2 : Pos} (ha : PE X ea (tE X G C fl W a)) : PT X (.Compare ea [.Is] [.Constant (.bool b) j p2] pos) (tT X G C fl W (.isB a b)) := by
  refine (pt_cmpR op_isBl ha pe_bl (nomark _)).im fun σ H Q ⟨ρ, fls, st, m, S, q⟩ => ?_
  unfold evE at q
  refine t1 S q fun x st1 v m1 H1 e1 S1 r1 q1 => ?_
  cases r1 <;> first | exact q1.elim | skip
  obtain ⟨c, h1, h2⟩ := q1
  cases h1
  exact ⟨_, _, rfl, rfl, _, rfl, h2 m1 H1 e1 S1.rel⟩
theorem p_notB {a : Ex} {ea : Expr} {b : Bool} {j : Nat} {p2 : Pos} (ha : PE X ea (tE X G C fl W a)) : PT X (.Compare ea [.IsNot] [.Constant (.bool b) j p2] pos) (tT X G C fl W (.notB a b)) := by
  refine (pt_cmpR op_notBl ha pe_bl (nomark _)).im fun σ H Q ⟨ρ, fls, st, m, S, q⟩ => ?_
  unfold evE at q
  refine t1 S q fun x st1 v m1 H1 e1 S1 r1 q1 => ?_
  cases r1 <;> first | exact q1.elim | skip
  obtain ⟨c, h1, h2⟩ := q1
  cases h1
  exact ⟨_, _, rfl, rfl, _, rfl, h2 m1 H1 e1 S1.rel⟩
end

/-- what is shown of an expression -/
structure FEx (X : Cx) (G : Prog) (C : Nat → Nat → List D → Sto → Out D) (fl : Nat) (W : WX) (x : Ex) (e : Expr) : Prop where
  pe : PE X e (tE X G C fl W x)
  pf : isF x = true → PE X e (tF X G C fl W x)
  pt : tsOk x = true → PT X e (tT X G C fl W x)
structure FExs (X : Cx) (G : Prog) (C : Nat → Nat → List D → Sto → Out D) (fl : Nat) (W : WX) (x : Exs) (es : List Expr) : Prop where
  pa : PA X es (tAs X G C fl W x)
  andv : es.isEmpty = false → ∀ pos, PE X (.BoolOp .And es pos) (tAndX X G C fl W x)
  orv : es.isEmpty = false → ∀ pos, PE X (.BoolOp .Or es pos) (tOrX X G C fl W x)
  andt : es.isEmpty = false → tsOks x = true → ∀ pos, PW X (.BoolOp .And es pos) (tAndT X G C fl W x)
  ort : es.isEmpty = false → tsOks x = true → ∀ pos, PW X (.BoolOp .Or es pos) (tOrT X G C fl W x)
  tests : es.length ≤ 1 → tsOks x = true → PTs X es (tTs X G C fl W x)
  plb : es.all plB = true
  len : ∀ ρ st ds st', evEs G (C fl) fl ρ x st = .ok ds st' → ds.length = es.length

section
variable {X : Cx} {G : Prog} {C : Nat → Nat → List D → Sto → Out D} {fl k : Nat} {W : WX} {N : List Str} {sc : Scope} {pos : Pos}
theorem FEx.mk1 {x : Ex} {e : Expr} (h : PE X e (tE X G C fl W x)) (hf : isF x = false) (ht : tsOk x = true → PT X e (tT X G C fl W x)) : FEx X G C fl W x e := ⟨h, (fun z => by rw [hf] at z; cases z), ht⟩
theorem FEx.mkF {x : Ex} {e : Expr} (h : PE X e (tF X G C fl W x)) (ht : tsOk x = true → PT X e (tT X G C fl W x)) : FEx X G C fl W x e := ⟨pe_of_F h, fun _ => h, ht⟩
theorem no_ts {x : Ex} {e : Expr} (h : tsOk x = false) : tsOk x = true → PT X e (tT X G C fl W x) := fun z => by rw [h] at z; cases z

theorem PW.im {e : Expr} {t t' : TT} (h : PW X e t) (f : ∀ σ H R, t' σ H R → t σ H R) : PW X e t' := ⟨fun wh pins s σ H R I q => h.run wh pins s σ H R I (f σ H R q)⟩
theorem FExs.nil : FExs X G C fl W .nil [] := ⟨a_nil, (fun h => by cases h), (fun h => by cases h), (fun h => by cases h), (fun h => by cases h), fun _ _ => tests_nil, rfl, (fun ρ st ds st' h => by unfold evEs at h; cases h; rfl)⟩
theorem FExs.cons {a : Ex} {r : Exs} {e : Expr} {es : List Expr} (ha : FEx X G C fl W a e) (hr : FExs X G C fl W r es) (hp : plB e = true) (hnil : es.isEmpty = true ↔ r = .nil) : FExs X G C fl W (.cons a r) (e :: es) where
  pa := a_cons ha.pe hr.pa hp
  andv := fun _ pos => by
    cases es with
    | nil =>
      have hr0 := hnil.mp rfl
      subst hr0
      refine (pe_one ha.pe).im fun σ H Q ⟨ρ, fls, st, m, S, q⟩ => ?_
      unfold evAnd at q
      exact ⟨ρ, fls, st, m, S, q⟩
    | cons e2 es2 =>
      refine (pe_and ha.pe (hr.andv rfl pos)).im fun σ H Q ⟨ρ, fls, st, m, S, q⟩ => ?_
      have hne : r ≠ .nil := fun z => by have := hnil.mpr z; cases this
      have q' : Post X.K X.mg G fls m H (WE W σ) ((evE G (C fl) fl ρ a st).bind fun x st => match x with | .bl true => evAnd G (C fl) fl ρ r st | .bl false => .ok (.bl false) st | _ => .bad) fun d st' => QV X.K X.mg G fls st' m H d Q := by
        cases r with
        | nil => exact absurd rfl hne
        | cons b r => unfold evAnd at q; exact q
      refine t1 S q' fun x st1 v m1 H1 e1 S1 r1 q1 => ?_
      cases r1 <;> first | exact q1.elim | skip
      rename_i b
      refine ⟨b, rfl, ?_⟩
      cases b with
      | true =>
        rw [if_pos rfl]
        exact ⟨ρ, fls, st1, m1, S1, Post.imp q1 fun d s h => QV.ext e1 h⟩
      | false =>
        rw [if_neg Bool.false_ne_true]
        exact QV.here (QV.ext e1 q1) S1.rel (.bl _)
  orv := fun _ pos => by
    cases es with
    | nil =>
      have hr0 := hnil.mp rfl
      subst hr0
      refine (pe_one ha.pe).im fun σ H Q ⟨ρ, fls, st, m, S, q⟩ => ?_
      unfold evOr at q
      exact ⟨ρ, fls, st, m, S, q⟩
    | cons e2 es2 =>
      refine (pe_or ha.pe (hr.orv rfl pos)).im fun σ H Q ⟨ρ, fls, st, m, S, q⟩ => ?_
      have hne : r ≠ .nil := fun z => by have := hnil.mpr z; cases this
      have q' : Post X.K X.mg G fls m H (WE W σ) ((evE G (C fl) fl ρ a st).bind fun x st => match x with | .bl true => .ok (.bl true) st | .bl false => evOr G (C fl) fl ρ r st | _ => .bad) fun d st' => QV X.K X.mg G fls st' m H d Q := by
        cases r with
        | nil => exact absurd rfl hne
        | cons b r => unfold evOr at q; exact q
      refine t1 S q' fun x st1 v m1 H1 e1 S1 r1 q1 => ?_
      cases r1 <;> first | exact q1.elim | skip
      rename_i b
      refine ⟨b, rfl, ?_⟩
      cases b with
      | true =>
        rw [if_pos rfl]
        exact QV.here (QV.ext e1 q1) S1.rel (.bl _)
      | false =>
        rw [if_neg Bool.false_ne_true]
        exact ⟨ρ, fls, st1, m1, S1, Post.imp q1 fun d s h => QV.ext e1 h⟩
  andt := fun _ ht pos => by
    have ht' : tsOk a = true ∧ tsOks r = true := by simpa [tsOks] using ht
    cases es with
    | nil =>
      have hr0 := hnil.mp rfl
      subst hr0
      refine PW.im (pw_and1 (ha.pt ht'.1)) fun σ H Q ⟨ρ, fls, st, m, S, q⟩ => ?_
      unfold evAnd at q
      exact ⟨ρ, fls, st, m, S, q⟩
    | cons e2 es2 =>
      refine PW.im (pw_and (ha.pt ht'.1) (hr.andt rfl ht'.2 pos)) fun σ H Q ⟨ρ, fls, st, m, S, q⟩ => ?_
      have hne : r ≠ .nil := fun z => by have := hnil.mpr z; cases this
      have q' : Post X.K X.mg G fls m H (WE W σ) ((evE G (C fl) fl ρ a st).bind fun x st => match x with | .bl true => evAnd G (C fl) fl ρ r st | .bl false => .ok (.bl false) st | _ => .bad) fun d st' => ∃ b, d = .bl b ∧ ∀ m' H', Ext m H m' H' → Rel X.K X.mg G fls st' m' H' → Q b H' := by
        cases r with
        | nil => exact absurd rfl hne
        | cons b r => unfold evAnd at q; exact q
      refine tT1 S q' (fun x st1 h => ?_) fun b st1 m1 H1 e1 S1 q1 => ?_
      · cases x <;> first | rfl | exact absurd rfl (h _)
      · cases b with
        | true =>
          rw [if_pos rfl]
          exact ⟨ρ, fls, st1, m1, S1, Post.imp q1 fun d s ⟨b, h1, h2⟩ => ⟨b, h1, fun m' H' e R => h2 m' H' (e1.trans e) R⟩⟩
        | false =>
          rw [if_neg Bool.false_ne_true]
          obtain ⟨b, h1, h2⟩ := q1
          cases h1
          exact h2 m1 H1 e1 S1.rel
  ort := fun _ ht pos => by
    have ht' : tsOk a = true ∧ tsOks r = true := by simpa [tsOks] using ht
    cases es with
    | nil =>
      have hr0 := hnil.mp rfl
      subst hr0
      refine PW.im (pw_or1 (ha.pt ht'.1)) fun σ H Q ⟨ρ, fls, st, m, S, q⟩ => ?_
      unfold evOr at q
      exact ⟨ρ, fls, st, m, S, q⟩
    | cons e2 es2 =>
      refine PW.im (pw_or (ha.pt ht'.1) (hr.ort rfl ht'.2 pos)) fun σ H Q ⟨ρ, fls, st, m, S, q⟩ => ?_
      have hne : r ≠ .nil := fun z => by have := hnil.mpr z; cases this
      have q' : Post X.K X.mg G fls m H (WE W σ) ((evE G (C fl) fl ρ a st).bind fun x st => match x with | .bl true => .ok (.bl true) st | .bl false => evOr G (C fl) fl ρ r st | _ => .bad) fun d st' => ∃ b, d = .bl b ∧ ∀ m' H', Ext m H m' H' → Rel X.K X.mg G fls st' m' H' → Q b H' := by
        cases r with
        | nil => exact absurd rfl hne
        | cons b r => unfold evOr at q; exact q
      refine tT1 S q' (fun x st1 h => ?_) fun b st1 m1 H1 e1 S1 q1 => ?_
      · cases x <;> first | rfl | exact absurd rfl (h _)
      · cases b with
        | true =>
          rw [if_pos rfl]
          obtain ⟨b, h1, h2⟩ := q1
          cases h1
          exact h2 m1 H1 e1 S1.rel
        | false =>
          rw [if_neg Bool.false_ne_true]
          exact ⟨ρ, fls, st1, m1, S1, Post.imp q1 fun d s ⟨b, h1, h2⟩ => ⟨b, h1, fun m' H' e R => h2 m' H' (e1.trans e) R⟩⟩
  tests := fun hl ht => by
    have ht' : tsOk a = true ∧ tsOks r = true := by simpa [tsOks] using ht
    cases es with
    | nil => exact tests_one (ha.pt ht'.1)
    | cons e2 es2 => simp at hl
  plb := by simp only [List.all_cons, hp, hr.plb, Bool.and_self]
  len := fun ρ st ds st' h => by
    unfold evEs at h
    cases e1 : evE G (C fl) fl ρ a st with
    | ok x st1 =>
      rw [e1, Out.bind_ok] at h
      cases e2 : evEs G (C fl) fl ρ r st1 with
      | ok xs st2 =>
        rw [e2, Out.bind_ok] at h
        cases h
        simp [hr.len ρ st1 xs _ e2]
      | exc c fs s => rw [e2] at h; cases h
      | bad => rw [e2] at h; cases h
    | exc c fs s => rw [e1] at h; cases h
    | bad => rw [e1] at h; cases h
end
end Ev

set_option Elab.async false
set_option linter.all false
set_option maxRecDepth 100000
set_option maxHeartbeats 8000000
/-! Ev, part 14: the induction over expressions. -/
namespace Ev
open PySem L2 PySem.Spec
open PyProof.Rows hiding St
section
variable {G : Prog} {C : Nat → Nat → List D → Sto → Out D} {fl k : Nat} {N : List Str}

theorem locB_ok {sc : Scope} {x : Str} (h : locB sc x = true) : sc.names.lookup x = some .local ∨ sc.names.lookup x = some .cell := by
  unfold locB at h
  split at h <;> first | exact .inl (by assumption) | exact .inr (by assumption) | cases h
theorem blk_loc {X : Cx} {scope : Scope} {x : Str} (s : Shared) (H : Hp) (c : Addr) (cl : List (Str × Addr)) (fp : List Addr) (h : locB scope x = true) :
    Loc (X.blk s H scope (compEnvC scope cl c X.env) fp).env.scope x ∧ ((X.blk s H scope (compEnvC scope cl c X.env) fp).fn x = true ∨ (X.blk s H scope (compEnvC scope cl c X.env) fp).env.scope.names.lookup x = some .local) := by
  rcases locB_ok h with e | e
  · have := lookup_relS_keep (sc := X.env.scope) (by decide) e
    exact ⟨.inl this, .inr this⟩
  · have := lookup_relS_keep (sc := X.env.scope) (by decide) e
    exact ⟨.inr this, .inl (by show (scope.names.lookup x == some NameKind.cell) = true; rw [e]; rfl)⟩
theorem empty_nil {N : List Str} {r : Exs} {sc : Scope} {es : List Expr} (h : emEs G N r sc es = true) : es.isEmpty = true ↔ r = .nil := by
  cases r with
  | nil =>
    unfold emEs at h
    cases es with
    | nil => simp
    | cons e es => simp at h
  | cons a r =>
    unfold emEs at h
    cases es with
    | nil => simp at h
    | cons e es => simp
theorem isE {es : List Expr} (h : (!es.isEmpty) = true) : es.isEmpty = false := by simpa using h
theorem ne_cons {es : List Expr} (h : (!es.isEmpty) = true) : ∃ e r, es = e :: r := by
  cases es with
  | nil => simp at h
  | cons e r => exact ⟨e, r, rfl⟩

mutual
theorem exE : ∀ (x : Ex) (sc : Scope) (e : Expr), emE G N x sc e = true → ∀ (X : Cx) (W : WX), XOk G C k W N sc X → FEx X G C fl W x e
  | .non, sc, e, h, X, W, ok => by
    unfold emE at h
    split at h
    · exact .mk1 (c_const pe_non (fun _ _ => by unfold evE; rfl) fun _ _ => .non) rfl (no_ts rfl)
    · cases h
  | .bool b, sc, e, h, X, W, ok => by
    unfold emE at h
    split at h
    · have := eq_of_beq h
      subst this
      exact .mk1 (c_const pe_bl (fun _ _ => by unfold evE; rfl) fun _ _ => .bl _) rfl (no_ts rfl)
    · cases h
  | .int i, sc, e, h, X, W, ok => by
    unfold emE at h
    split at h
    · have := of_decide_eq_true h
      subst this
      exact .mk1 (c_const pe_int (fun _ _ => by unfold evE; rfl) fun _ _ => .int _) rfl (no_ts rfl)
    · cases h
  | .str x, sc, e, h, X, W, ok => by
    unfold emE at h
    split at h
    · simp only [Bool.and_eq_true, decide_eq_true_eq] at h
      obtain ⟨rfl, h2⟩ := h
      exact .mk1 (c_const pe_str (fun _ _ => by unfold evE; rfl) fun _ _ => .str h2) rfl (no_ts rfl)
    · cases h
  | .var i, sc, e, h, X, W, ok => by
    unfold emE at h
    split at h
    · simp only [Bool.and_eq_true, decide_eq_true_eq] at h
      exact .mk1 (c_var ok h.1.1 h.1.2 h.2) rfl fun _ => p_val (c_var ok h.1.1 h.1.2 h.2) fun _ => rfl
    · cases h
  | .gf f, sc, e, h, X, W, ok => by
    unfold emE at h
    split at h
    · simp only [Bool.and_eq_true, decide_eq_true_eq, Option.map_eq_some_iff] at h
      obtain ⟨⟨⟨⟨F, hF, rfl⟩, h2⟩, h3⟩, F', hF', hg⟩ := h
      rw [hF] at hF'
      cases hF'
      obtain ⟨a, fd, ps, h4, _⟩ := ok.fns f F hF hg
      exact .mk1 (c_const (pe_glob (gl_of ok h2) h4 (v := .ref a) rfl (name_dbg h3).1) (fun _ _ => by unfold evE; rfl) fun _ _ => .fn ⟨hF, hg⟩ h4) rfl (no_ts rfl)
    · cases h
  | .gc c, sc, e, h, X, W, ok => by
    unfold emE at h
    split at h
    · simp only [Bool.and_eq_true, decide_eq_true_eq, Option.map_eq_some_iff] at h
      obtain ⟨⟨⟨p, hp, rfl⟩, h2⟩, h3⟩ := h
      obtain ⟨u, v, h4, h5, h6⟩ := ok.cons c p hp
      exact .mk1 (c_const (pe_glob (gl_of ok h2) h4 h5 (name_dbg h3).1) (fun _ _ => by unfold evE; rw [hp]) fun m H => h6 m H) rfl (no_ts rfl)
    · cases h
  | .tyE n, sc, e, h, X, W, ok => by
    unfold emE at h
    split at h
    · simp only [Bool.and_eq_true, List.any_eq_true, decide_eq_true_eq] at h
      obtain ⟨⟨t, ht, rfl, rfl⟩, h2⟩ := h
      have hb : bootBuiltins t.2 = some (.type t.1) := by
        simp only [tyNames, List.mem_cons, List.not_mem_nil, or_false] at ht
        rcases ht with rfl | rfl | rfl | rfl | rfl | rfl <;> decide +kernel
      have hn : t.2 ≠ "__name__" := by
        simp only [tyNames, List.mem_cons, List.not_mem_nil, or_false] at ht
        rcases ht with rfl | rfl | rfl | rfl | rfl | rfl <;> decide +kernel
      have hd : (t.2 == ("__debug__" : Str)) = false := by
        simp only [tyNames, List.mem_cons, List.not_mem_nil, or_false] at ht
        rcases ht with rfl | rfl | rfl | rfl | rfl | rfl <;> decide +kernel
      exact .mk1 (c_const (pe_bltn (v := .ty t.1) (gl_of ok h2) (ok.tys t ht) hb rfl hn hd) (fun _ _ => by unfold evE; rfl) fun _ _ => .ty _) rfl (no_ts rfl)
    · cases h
  | .bin op a b, sc, e, h, X, W, ok => by
    unfold emE at h
    split at h
    · simp only [Bool.and_eq_true, decide_eq_true_eq] at h
      obtain ⟨⟨rfl, h1⟩, h2⟩ := h
      exact .mkF (c_bin (exE a sc _ h1 X W ok).pe (exE b sc _ h2 X W ok).pe) (no_ts rfl)
    · cases h
  | .neg a, sc, e, h, X, W, ok => by
    unfold emE at h
    split at h
    · exact .mk1 (c_neg (exE a sc _ h X W ok).pe) rfl (no_ts rfl)
    · cases h
  | .nt a, sc, e, h, X, W, ok => by
    unfold emE at h
    split at h
    · exact .mk1 (c_not (exE a sc _ h X W ok).pe) rfl fun z => p_not ((exE a sc _ h X W ok).pt (by simpa [tsOk] using z))
    · cases h
  | .andE as, sc, e, h, X, W, ok => by
    unfold emE at h
    split at h
    · simp only [Bool.and_eq_true] at h
      have ih := exEs as sc _ h.1 X W ok
      exact .mk1 ((ih.andv (isE h.2) _).im fun σ H Q ⟨ρ, fls, st, m, S, q⟩ => ⟨ρ, fls, st, m, S, by unfold evE at q; exact q⟩) rfl
        fun z => (ih.andt (isE h.2) (by simpa [tsOk] using z) _).pt.im fun σ H Q ⟨ρ, fls, st, m, S, q⟩ => ⟨ρ, fls, st, m, S, by unfold evE at q; exact q⟩
    · cases h
  | .orE as, sc, e, h, X, W, ok => by
    unfold emE at h
    split at h
    · simp only [Bool.and_eq_true] at h
      have ih := exEs as sc _ h.1 X W ok
      exact .mk1 ((ih.orv (isE h.2) _).im fun σ H Q ⟨ρ, fls, st, m, S, q⟩ => ⟨ρ, fls, st, m, S, by unfold evE at q; exact q⟩) rfl
        fun z => (ih.ort (isE h.2) (by simpa [tsOk] using z) _).pt.im fun σ H Q ⟨ρ, fls, st, m, S, q⟩ => ⟨ρ, fls, st, m, S, by unfold evE at q; exact q⟩
    · cases h
  | .cmp op a b, sc, e, h, X, W, ok => by
    unfold emE at h
    split at h
    · simp only [Bool.and_eq_true, decide_eq_true_eq, beq_iff_eq] at h
      obtain ⟨⟨⟨⟨rfl, h1⟩, h2⟩, h3⟩, h4⟩ := h
      have ha := (exE a sc _ h1 X W ok).pe
      have hb := (exE b sc _ h2 X W ok).pe
      exact .mk1 (c_cmp ok ha hb h4) rfl fun _ => p_cmp ok ha hb h4
    · cases h
  | .chain op op2 a b c, sc, e, h, X, W, ok => by
    unfold emE at h
    split at h
    · simp only [Bool.and_eq_true, decide_eq_true_eq, beq_iff_eq] at h
      obtain ⟨⟨⟨⟨⟨rfl, rfl⟩, h1⟩, h2⟩, h3⟩, h4⟩ := h
      have ha := (exE a sc _ h1 X W ok).pe
      have hb := (exE b sc _ h2 X W ok).pe
      have hc := (exE c sc _ h3 X W ok).pe
      exact .mk1 (c_chain ok ha hb hc h4) rfl fun _ => p_chain ok ha hb hc h4
    · cases h
  | .isN a, sc, e, h, X, W, ok => by
    unfold emE at h
    split at h
    · have ha := (exE a sc _ h X W ok).pe
      exact .mk1 (c_isN ha) rfl fun _ => p_isN ha
    · cases h
  | .notN a, sc, e, h, X, W, ok => by
    unfold emE at h
    split at h
    · have ha := (exE a sc _ h X W ok).pe
      exact .mk1 (c_notN ha) rfl fun _ => p_notN ha
    · cases h
  | .isB a b, sc, e, h, X, W, ok => by
    unfold emE at h
    split at h
    · simp only [Bool.and_eq_true] at h
      have := eq_of_beq h.2
      subst this
      have ha := (exE a sc _ h.1 X W ok).pe
      exact .mk1 (c_isB ha) rfl fun _ => p_isB ha
    · cases h
  | .notB a b, sc, e, h, X, W, ok => by
    unfold emE at h
    split at h
    · simp only [Bool.and_eq_true] at h
      have := eq_of_beq h.2
      subst this
      have ha := (exE a sc _ h.1 X W ok).pe
      exact .mk1 (c_notB ha) rfl fun _ => p_notB ha
    · cases h
  | .call f as, sc, e, h, X, W, ok => by
    unfold emE at h
    split at h
    · simp only [Bool.and_eq_true, decide_eq_true_eq] at h
      obtain ⟨⟨⟨⟨⟨⟨h1, h2⟩, h3⟩, h4⟩, h5⟩, h6⟩, h7⟩ := h
      obtain ⟨e0, es, rfl⟩ := ne_cons h5
      have ih := exEs as sc _ h4 X W ok
      have hl : ∀ F, G.fns[f]? = some F → ∀ ρ st ds st', evEs G (C fl) fl ρ as st = .ok ds st' → ds.length = F.np := fun F hF ρ st ds st' e => by
        rw [hF] at h6
        have := ih.len ρ st ds st' e
        simp at h6
        simp at this
        omega
      exact .mk1 (c_call ok ih.pa h1 h7 (gl_of ok h2) h3 ih.plb hl) rfl fun _ => p_val (c_call ok ih.pa h1 h7 (gl_of ok h2) h3 ih.plb hl) fun _ => rfl
    · cases h
  | .callv i as, sc, e, h, X, W, ok => by
    unfold emE at h
    split at h
    · simp only [Bool.and_eq_true, decide_eq_true_eq] at h
      obtain ⟨⟨⟨⟨h1, h2⟩, h3⟩, h4⟩, h5⟩ := h
      obtain ⟨e0, es, rfl⟩ := ne_cons h5
      have ih := exEs as sc _ h4 X W ok
      exact .mk1 (c_callv ok ih.pa h1 h2 h3 ih.plb) rfl fun _ => p_val (c_callv ok ih.pa h1 h2 h3 ih.plb) fun _ => rfl
    · cases h
  | .bi n as, sc, e, h, X, W, ok => by
    unfold emE at h
    split at h
    · simp only [Bool.and_eq_true, decide_eq_true_eq] at h
      obtain ⟨⟨⟨rfl, h2⟩, h4⟩, h5⟩ := h
      obtain ⟨e0, es, rfl⟩ := ne_cons h5
      have ih := exEs as sc _ h4 X W ok
      exact .mkF (c_bi ok ih.pa (gl_of ok h2) ih.plb) fun _ => p_val (pe_of_F (c_bi ok ih.pa (gl_of ok h2) ih.plb)) fun _ => rfl
    · cases h
  | .listR s, sc, e, h, X, W, ok => by
    unfold emE at h
    split at h
    · simp only [Bool.and_eq_true, decide_eq_true_eq] at h
      obtain ⟨⟨rfl, h2⟩, h3⟩ := h
      split at h3
      · rename_i a
        split at h3
        · simp only [Bool.and_eq_true, decide_eq_true_eq] at h3
          obtain ⟨⟨⟨rfl, h4⟩, h5⟩, h6⟩ := h3
          exact .mkF (c_list1 ok (exE a sc _ h5 X W ok).pe h6 (gl_of ok h4) (gl_of ok h2)) (no_ts rfl)
        · cases h3
      · rename_i a b
        split at h3
        · simp only [Bool.and_eq_true, decide_eq_true_eq] at h3
          obtain ⟨⟨⟨⟨⟨rfl, h4⟩, h5⟩, h6⟩, h7⟩, h8⟩ := h3
          exact .mkF (c_list2 ok (exE a sc _ h5 X W ok).pe (exE b sc _ h7 X W ok).pe h6 h8 (gl_of ok h4) (gl_of ok h2)) (no_ts rfl)
        · cases h3
      · cases h3
      · cases h3
      · cases h3
      · cases h3
      · cases h3
    · cases h
  | .bm m o as, sc, e, h, X, W, ok => by
    unfold emE at h
    split at h
    · simp only [Bool.and_eq_true, decide_eq_true_eq] at h
      obtain ⟨⟨⟨⟨⟨⟨rfl, h1⟩, h2⟩, h3⟩, h4⟩, h5⟩, h6⟩ := h
      obtain ⟨e0, es, rfl⟩ := ne_cons h5
      have ho := (exE o sc _ h1 X W ok).pe
      have ih := exEs as sc _ h4 X W ok
      exact .mk1 (c_bm ho ih.pa h2 h3 ih.plb h6) rfl fun _ => p_val (c_bm ho ih.pa h2 h3 ih.plb h6) fun _ => rfl
    · cases h
  | .meth c m o as, sc, e, h, X, W, ok => by
    unfold emE at h
    split at h
    · simp only [Bool.and_eq_true, decide_eq_true_eq] at h
      obtain ⟨⟨⟨⟨⟨⟨rfl, h1⟩, h2⟩, h3⟩, h4⟩, h5⟩, h6⟩ := h
      have ho := (exE o sc _ h1 X W ok).pe
      have ih := exEs as sc _ h4 X W ok
      have hn : ∀ {es : List Expr}, emEs G N as sc es = true → es = [] → as = .nil := fun h e => (empty_nil h).mp (by rw [e]; rfl)
      exact .mk1 (c_meth ok ho ih.pa (hn h4) h2 h3 ih.plb h5 h6) rfl fun _ => p_val (c_meth ok ho ih.pa (hn h4) h2 h3 ih.plb h5 h6) fun _ => rfl
    · cases h
  | .mk c as, sc, e, h, X, W, ok => by
    unfold emE at h
    split at h
    · simp only [Bool.and_eq_true, decide_eq_true_eq] at h
      obtain ⟨⟨⟨⟨⟨h1, h2⟩, h3⟩, h4⟩, h5⟩, h6⟩ := h
      obtain ⟨e0, es, rfl⟩ := ne_cons h5
      have ih := exEs as sc _ h4 X W ok
      exact .mk1 (c_mk ok ih.pa h1 (gl_of ok h2) h3 ih.plb h6) rfl (no_ts rfl)
    · cases h
  | .attr o f, sc, e, h, X, W, ok => by
    unfold emE at h
    split at h
    · simp only [Bool.and_eq_true, decide_eq_true_eq] at h
      obtain ⟨⟨rfl, h1⟩, h2⟩ := h
      have ho := (exE o sc _ h1 X W ok).pe
      exact .mk1 (c_attr ok ho h2) rfl fun _ => p_val (c_attr ok ho h2) fun _ => rfl
    · cases h
  | .badE, sc, e, h, X, W, ok => .mk1 c_badE rfl fun _ => p_badE
  | .chain3 op op2 op3 a b c d, sc, e, h, X, W, ok => by
    unfold emE at h
    split at h
    · simp only [Bool.and_eq_true, decide_eq_true_eq, beq_iff_eq] at h
      obtain ⟨⟨⟨⟨⟨⟨⟨rfl, rfl⟩, rfl⟩, h1⟩, h2⟩, h3⟩, h4⟩, h5⟩ := h
      have ha := (exE a sc _ h1 X W ok).pe
      have hb := (exE b sc _ h2 X W ok).pe
      have hc := (exE c sc _ h3 X W ok).pe
      have hd := (exE d sc _ h4 X W ok).pe
      exact .mk1 (c_chain3 ok ha hb hc hd h5) rfl fun _ => p_chain3 ok ha hb hc hd h5
    · cases h
  | .dixg c i d, sc, e, h, X, W, ok => by
    unfold emE at h
    split at h
    · simp only [Bool.and_eq_true, decide_eq_true_eq, Option.map_eq_some_iff] at h
      obtain ⟨⟨⟨⟨⟨⟨⟨⟨rfl, p, hp, hx⟩, h2⟩, h3⟩, h4⟩, h5⟩, h6⟩, h7⟩, h8⟩ := h
      have hx1 := (Prod.mk.injEq ..).mp hx
      have hne : p.2 ≠ [] := fun z => by rw [z] at hx1; exact Bool.noConfusion hx1.2
      exact .mk1 (c_dixg ok hp hx1.1 (gl_of ok h2) h3 (exE i sc _ h4 X W ok).pe (exE d sc _ h6 X W ok).pe h5 h7 h8 hne) rfl (no_ts rfl)
    · cases h
  | .sortK f a, sc, e, h, X, W, ok => by
    unfold emE at h
    split at h
    · simp only [Bool.and_eq_true, decide_eq_true_eq, Option.map_eq_some_iff] at h
      obtain ⟨⟨⟨⟨⟨⟨⟨⟨⟨rfl, rfl⟩, h3⟩, h4⟩, h5⟩, ⟨F, hF, h6⟩⟩, h7⟩, h8⟩, ⟨F2, hF2, h9⟩⟩, ⟨F3, hF3, h10⟩⟩ := h
      rw [hF] at hF2 hF3
      cases hF2
      cases hF3
      exact .mkF (c_sortK ok (exE a sc _ h4 X W ok).pe (gl_of ok h3) h5 hF h6 h10 h9 (gl_of ok h7) h8) (no_ts rfl)
    · cases h
  | .dget1 o kx, sc, e, h, X, W, ok => by
    unfold emE at h
    split at h
    · simp only [Bool.and_eq_true, decide_eq_true_eq] at h
      obtain ⟨⟨⟨⟨⟨rfl, h1⟩, h2⟩, h3⟩, h4⟩, h5⟩ := h
      exact .mk1 (c_dget1 ok (exE o sc _ h1 X W ok).pe (exE kx sc _ h3 X W ok).pe h2 h5 h4) rfl (no_ts rfl)
    · cases h
  | .dget2 o kx d, sc, e, h, X, W, ok => by
    unfold emE at h
    split at h
    · simp only [Bool.and_eq_true, decide_eq_true_eq] at h
      obtain ⟨⟨⟨⟨⟨⟨⟨rfl, h1⟩, h2⟩, h3⟩, h4⟩, h5⟩, h6⟩, h7⟩ := h
      exact .mk1 (c_dget2 ok (exE o sc _ h1 X W ok).pe (exE kx sc _ h3 X W ok).pe (exE d sc _ h5 X W ok).pe h2 h7 h4 h6) rfl (no_ts rfl)
    · cases h
  | .tix o v, sc, e, h, X, W, ok => by
    unfold emE at h
    split at h
    · simp only [Bool.and_eq_true, decide_eq_true_eq] at h
      obtain ⟨⟨⟨⟨⟨rfl, h1⟩, h2⟩, h3⟩, h4⟩, h5⟩ := h
      exact .mk1 (c_tix ok (exE o sc _ h1 X W ok).pe (exE v sc _ h3 X W ok).pe h2 h5 h4) rfl (no_ts rfl)
    · cases h
  | .idx o i, sc, e, h, X, W, ok => by
    unfold emE at h
    split at h
    · simp only [Bool.and_eq_true] at h
      have ho := (exE o sc _ h.1.1 X W ok).pe
      have hi := (exE i sc _ h.1.2 X W ok).pe
      exact .mk1 (c_idx ok ho hi h.2) rfl fun _ => p_val (c_idx ok ho hi h.2) fun _ => rfl
    · cases h
  | .slc o lo hi, sc, e, h, X, W, ok => by
    unfold emE at h
    split at h
    · simp only [Bool.and_eq_true] at h
      exact .mkF (c_slc (exE o sc _ h.1.1 X W ok).pe (exO lo sc _ h.1.2 X W ok) (exO hi sc _ h.2 X W ok)) (no_ts rfl)
    · cases h
  | .tupE as, sc, e, h, X, W, ok => by
    unfold emE at h
    split at h
    · simp only [Bool.and_eq_true, decide_eq_true_eq] at h
      have ih := exEs as sc _ h.1 X W ok
      exact .mk1 (c_tup ih.pa fun ρ st ds st' e => by rw [ih.len ρ st ds st' e]; exact h.2) rfl (no_ts rfl)
    · cases h
  | .lstE as, sc, e, h, X, W, ok => by
    unfold emE at h
    split at h
    · simp only [Bool.and_eq_true, decide_eq_true_eq] at h
      have ih := exEs as sc _ h.1 X W ok
      exact .mkF (c_lst ih.pa fun ρ st ds st' e => by rw [ih.len ρ st ds st' e]; exact h.2) (no_ts rfl)
    · cases h
  | .dicE ps, sc, e, h, X, W, ok => by
    unfold emE at h
    split at h
    · rename_i ks vs p
      simp only [Bool.and_eq_true, decide_eq_true_eq] at h
      obtain ⟨trs, h1, h2, h3, h4, h5⟩ := exPs ps sc ks vs h.1.1 X W ok p
      exact .mkF (c_disp h1 h2 h3 h4 (fun z => by subst z; simp at h) h.1.2 h5) (no_ts rfl)
    · cases h
  | .dic0 t, sc, e, h, X, W, ok => by
    unfold emE at h
    split at h
    · exact .mkF c_dic0 (no_ts rfl)
    · cases h
  | .lc elt tg src test own, sc, e, h, X, W, ok => by
    unfold emE at h
    split at h
    · rename_i eelt etg eit eifs scope p
      simp only [Bool.and_eq_true, decide_eq_true_eq] at h
      obtain ⟨⟨⟨⟨⟨⟨⟨⟨⟨h1, h2⟩, h3⟩, h4⟩, h4b⟩, h4c⟩, h5⟩, h6⟩, h7⟩, h8⟩ := h
      have okB : BlkOk X.N X.env.scope scope (ownN N own) := by rw [ok.n, ok.sc]; exact blkOk_by h6
      refine .mkF (PE.im (pe_lcX (own := ownN N own) (g := gT X.K tg) (tt := fun σ D => tTs X G C fl (WB W σ D) test) (te := fun σ D => tE X G C fl (WB W σ D) elt) ok.tk ok.inF ok.calm ok.nd (exI src sc _ h3 etg X W ok) okB (fun σ s H c cl fp D => pgT h2 ok.n ok.nd ok.calm fun x hx => blk_loc s H c cl fp hx)
        (fun σ s H c cl fp D => (exEs test _ _ h4 _ (WB W σ D) (ok.blkX σ D s H scope cl c fp)).tests h5 h4b) (fun σ s H c cl fp D => (exE elt _ _ h1 _ (WB W σ D) (ok.blkX σ D s H scope cl c fp)).pe) (fold_pl h4c)) ?_) (no_ts rfl)
      rw [h8]
      exact lc_imp fun i hi => by simpa using List.all_eq_true.mp h7 i hi
    · cases h
  | .box a, sc, e, h, X, W, ok => by
    unfold emE at h
    simp only [Bool.and_eq_true] at h
    exact .mk1 (c_box ((exE a sc _ h.2 X W ok).pf h.1)) rfl (no_ts rfl)
  | .ite c a b, sc, e, h, X, W, ok => by unfold emE at h; cases h
  | .bits a, sc, e, h, X, W, ok => by
    unfold emE at h
    split at h
    · simp only [Bool.and_eq_true, decide_eq_true_eq] at h
      obtain ⟨⟨⟨rfl, h1⟩, h2⟩, h3⟩ := h
      exact .mk1 (c_bits (exE a sc _ h1 X W ok).pe h2 h3) rfl (no_ts rfl)
    · cases h
  | .dix c i, sc, e, h, X, W, ok => by
    unfold emE at h
    split at h
    · simp only [Bool.and_eq_true, decide_eq_true_eq, Option.map_eq_some_iff] at h
      obtain ⟨⟨⟨⟨⟨p, hp, h1⟩, h2⟩, h3⟩, h4⟩, h5⟩ := h
      exact .mk1 (c_dix ok hp h1 (gl_of ok h2) h3 (exE i sc _ h4 X W ok).pe h5) rfl (no_ts rfl)
    · cases h
  | .sset a, sc, e, h, X, W, ok => by
    unfold emE at h
    split at h
    · simp only [Bool.and_eq_true, decide_eq_true_eq] at h
      obtain ⟨⟨⟨⟨⟨rfl, rfl⟩, h1⟩, h2⟩, h3⟩, h4⟩ := h
      exact .mkF (c_sset ok (exE a sc _ h3 X W ok).pe (gl_of ok h1) (gl_of ok h2) h4) (no_ts rfl)
    · cases h
  | .orV a b, sc, e, h, X, W, ok => by
    unfold emE at h
    split at h
    · simp only [Bool.and_eq_true] at h
      exact .mk1 (c_orV (exE a sc _ h.1 X W ok).pe (exE b sc _ h.2 X W ok).pe) rfl (no_ts rfl)
    · cases h
  | .dc kx vx tg src test own, sc, e, h, X, W, ok => by
    unfold emE at h
    split at h
    · rename_i ek ev etg eit eifs scope p
      simp only [Bool.and_eq_true, decide_eq_true_eq] at h
      obtain ⟨⟨⟨⟨⟨⟨⟨⟨⟨⟨h1, h1b⟩, h2⟩, h3⟩, h4⟩, h4b⟩, h4c⟩, h5⟩, h6⟩, h7⟩, h8⟩ := h
      have okB : BlkOk X.N X.env.scope scope (ownN N own) := by rw [ok.n, ok.sc]; exact blkOk_by h6
      refine .mkF (PE.im (pe_dc (own := ownN N own) (g := gT X.K tg) (tt := tTs X G C fl W0 test) (tk := tE X G C fl W0 kx) (tv := tE X G C fl W0 vx) ok.calm ok.nd (exI src sc _ h3 etg X W ok) okB (fun s H c cl fp => pgT h2 ok.n ok.nd ok.calm fun x hx => blk_loc s H c cl fp hx)
        (fun s H c cl fp => (exEs test _ _ h4 _ W0 (ok.blk s H scope cl c fp)).tests h5 h4b) (fun s H c cl fp => (exE kx _ _ h1 _ W0 (ok.blk s H scope cl c fp)).pe) (fun s H c cl fp => (exE vx _ _ h1b _ W0 (ok.blk s H scope cl c fp)).pe) (fold_pl h4c)) ?_) (no_ts rfl)
      rw [h8]
      exact dc_imp fun i hi => by simpa using List.all_eq_true.mp h7 i hi
    · cases h
theorem exEs : ∀ (x : Exs) (sc : Scope) (es : List Expr), emEs G N x sc es = true → ∀ (X : Cx) (W : WX), XOk G C k W N sc X → FExs X G C fl W x es
  | .nil, sc, es, h, X, W, ok => by
    unfold emEs at h
    split at h
    · exact .nil
    · cases h
  | .cons a r, sc, es, h, X, W, ok => by
    unfold emEs at h
    split at h
    · simp only [Bool.and_eq_true] at h
      exact .cons (exE a sc _ h.1.1 X W ok) (exEs r sc _ h.2 X W ok) h.1.2 (empty_nil h.2)
    · cases h
theorem exPs : ∀ (x : Prs) (sc : Scope) (ks : List (Option Expr)) (vs : List Expr), emPs G N x sc ks vs = true → ∀ (X : Cx) (W : WX), XOk G C k W N sc X → ∀ pos, ∃ trs, PPs X pos ks vs trs ∧ (∀ σ H Q, tPs X G C fl W x σ H Q → tPairs trs σ H Q) ∧
    ks.all (·.isSome) = true ∧ ks.length = vs.length ∧ (∀ ρ st kds st', evPs G (C fl) fl ρ x st = .ok kds st' → kds.length = ks.length)
  | .nil, sc, ks, vs, h, X, W, ok, pos => by
    unfold emPs at h
    split at h
    · exact ⟨[], pps_nil, ps_nil, rfl, rfl, fun ρ st kds st' e => by unfold evPs at e; cases e; rfl⟩
    · cases h
  | .cons a b r, sc, ks, vs, h, X, W, ok, pos => by
    unfold emPs at h
    split at h
    · simp only [Bool.and_eq_true] at h
      obtain ⟨trs, h1, h2, h3, h4, h5⟩ := exPs r sc _ _ h.2 X W ok pos
      refine ⟨_, pps_cons (exE a sc _ h.1.1 X W ok).pe (exE b sc _ h.1.2 X W ok).pe h1, ps_cons h2, by simp only [List.all_cons, h3]; rfl, by simp [h4], fun ρ st kds st' e => ?_⟩
      unfold evPs at e
      cases ea : evE G (C fl) fl ρ a st with
      | exc c fs s => rw [ea] at e; cases e
      | bad => rw [ea] at e; cases e
      | ok x s =>
        rw [ea, Out.bind_ok] at e
        cases eb : evE G (C fl) fl ρ b s with
        | exc c fs s => rw [eb] at e; cases e
        | bad => rw [eb] at e; cases e
        | ok y s =>
          rw [eb, Out.bind_ok] at e
          split at e
          · cases er : evPs G (C fl) fl ρ r s with
            | exc c fs s => rw [er] at e; cases e
            | bad => rw [er] at e; cases e
            | ok z s =>
              rw [er, Out.bind_ok] at e
              cases e
              simp [h5 _ _ _ _ er]
          · cases e
    · cases h
theorem exO : ∀ (x : Exs) (sc : Scope) (e : Option Expr), emO G N x sc e = true → ∀ (X : Cx) (W : WX), XOk G C k W N sc X → PO X e (tPo X G C fl W x)
  | .nil, sc, e, h, X, W, ok => by
    unfold emO at h
    split at h
    · exact o_none
    · cases h
  | .cons a r, sc, e, h, X, W, ok => by
    unfold emO at h
    split at h
    · simp only [Bool.and_eq_true] at h
      cases r with
      | nil => exact o_some (exE a sc _ h.1 X W ok).pe
      | cons b r => simp at h
    · cases h
theorem exI : ∀ (x : Src) (sc : Scope) (e : Expr), emI G N x sc e = true → ∀ (tg : Expr) (X : Cx) (W : WX), XOk G C k W N sc X → PI X tg e (tI X G C fl W x)
  | .rng1 a, sc, e, h, tg, X, W, ok => by
    unfold emI at h
    split at h
    · simp only [Bool.and_eq_true, decide_eq_true_eq] at h
      obtain ⟨⟨⟨rfl, h2⟩, h3⟩, h4⟩ := h
      exact i_rng1 ok (exE a sc _ h3 X W ok).pe h4 (gl_of ok h2)
    · cases h
  | .rng2 a b, sc, e, h, tg, X, W, ok => by
    unfold emI at h
    split at h
    · simp only [Bool.and_eq_true, decide_eq_true_eq] at h
      obtain ⟨⟨⟨⟨⟨rfl, h2⟩, h3⟩, h4⟩, h5⟩, h6⟩ := h
      exact i_rng2 ok (exE a sc _ h3 X W ok).pe (exE b sc _ h5 X W ok).pe h4 h6 (gl_of ok h2)
    · cases h
  | .seq a, sc, e, h, tg, X, W, ok => by
    unfold emI at h
    simp only [Bool.and_eq_true] at h
    exact i_seq ok (exE a sc _ h.1 X W ok).pe
  | .cel a, sc, e, h, tg, X, W, ok => by
    unfold emI at h
    simp only [Bool.and_eq_true] at h
    exact i_cel ok (exE a sc _ h.1 X W ok).pe
  | .kys a, sc, e, h, tg, X, W, ok => by
    unfold emI at h
    simp only [Bool.and_eq_true] at h
    exact i_kys ok (exE a sc _ h.1 X W ok).pe
  | .rng3 a b c, sc, e, h, tg, X, W, ok => by
    unfold emI at h
    split at h
    · simp only [Bool.and_eq_true, decide_eq_true_eq] at h
      obtain ⟨⟨⟨⟨⟨⟨⟨rfl, h2⟩, h3⟩, h4⟩, h5⟩, h6⟩, h7⟩, h8⟩ := h
      exact i_rng3 ok (exE a sc _ h3 X W ok).pe (exE b sc _ h5 X W ok).pe (exE c sc _ h7 X W ok).pe h4 h6 h8 (gl_of ok h2)
    · cases h
  | .rev a, sc, e, h, tg, X, W, ok => by
    unfold emI at h
    split at h
    · simp only [Bool.and_eq_true, decide_eq_true_eq] at h
      obtain ⟨⟨⟨rfl, h2⟩, h3⟩, h4⟩ := h
      exact i_rev ok (exE a sc _ h3 X W ok).pe h4 (gl_of ok h2)
    · cases h
end
end
end Ev

set_option Elab.async false
set_option linter.all false
set_option maxRecDepth 100000
set_option maxHeartbeats 4000000
/-! Ev, part 14b: what an except suite says. -/
namespace Ev
open PySem L2 PySem.Spec
open PyProof.Rows hiding St

def cmpB : Expr → Bool
  | .ListComp _ _ _ _ => true
  | .SetComp _ _ _ _ => true
  | .DictComp _ _ _ _ _ => true
  | _ => false
theorem noswap {e : Expr} {t : Option Expr} {l : Nat} {env : PySem.Env} (h : cmpB e = false) : swapsWith e t l env = pure false := by
  cases e <;> first | rfl | (simp [cmpB] at h)
section
variable (G : Prog) (N : List Str) (sc : Scope) (nm : Option Str)
def excB (c : Nat) (x : Str) : Bool := decide ((G.excs[c]?).map (·.1) = some x) && gloB sc x && nameB x
def emU : Su → Expr → Bool
  | .non, e => match e with
    | .Constant .none _ _ => true
    | _ => false
  | .bool b, e => match e with
    | .Constant (.bool c) _ _ => b == c
    | _ => false
  | .int i, e => match e with
    | .Constant (.int j) _ _ => decide (i = j)
    | _ => false
  | .str x, e => match e with
    | .Constant (.str y) _ _ => decide (x = y) && strB x
    | _ => false
  | .var i, e => match e with
    | .Name x _ => decide (N[i]? = some x) && visB sc x && nameB x
    | _ => false
  | .tup2 a b, e => match e with
    | .Tuple [ea, eb] _ _ => emU a ea && emU b eb && plB ea && plB eb
    | _ => false
  | .nt a, e => match e with
    | .UnaryOp .Not ea _ => emU a ea
    | _ => false
  | .andS a b, e => match e with
    | .BoolOp .And [ea, eb] _ => emU a ea && emU b eb
    | _ => false
  | .orS a b, e => match e with
    | .BoolOp .Or [ea, eb] _ => emU a ea && emU b eb
    | _ => false
  | .isE c, e => match e with
    | .Call (.Name f _) [.Name y _, .Name x _] [] _ => decide (f = "isinstance") && gloB sc f && decide (nm = some y) && visB sc y && nameB y && excB G sc c x
    | _ => false
  | .ix, e => match e with
    | .Attribute (.Name y _) name _ => decide (name = "index") && decide (nm = some y) && visB sc y && nameB y
    | _ => false
/-- may stand as a test -/
def tsU : Su → Bool
  | .nt a => tsU a
  | .andS a b => tsU a && tsU b
  | .orS a b => tsU a && tsU b
  | .isE _ => true
  | _ => false
def emSh : Sh → List Stmt → Bool
  | .ret e, ss => match ss with
    | [.Return (some ev) _] => emU G N sc nm e ev
    | _ => false
  | .retN, ss => match ss with
    | [.Return none _] => true
    | _ => false
  | .ifR c a r, ss => match ss with
    | .If ec [.Return (some ea) _] [] _ :: rest => emU G N sc nm c ec && tsU c && emU G N sc nm a ea && emSh r rest
    | _ => false
  | .setN i e, ss => match ss with
    | [.Assign [.Name x _] ev _] => decide (N[i]? = some x) && locB sc x && emU G N sc nm e ev && !cmpB ev
    | _ => false
  | .raise c, ss => false
  | .badH, ss => true
end

/-- what a suite's context must bear -/
structure UOk (Y : Cx) (G : Prog) (N : List Str) (sc : Scope) (nm : Option Str) (i : Option Nat) (a : Addr) (c : Nat) (dd : Option Addr) : Prop where
  n : Y.N = N
  nd : Y.N.Nodup
  sc : Y.env.scope = sc
  isi : Y.mg "isinstance" = none
  exc : ExcF Y.K Y.mg G
  fn : ∀ x, Y.fn x = true
  slot : nm = i.bind fun j => N[j]?
  is : ∃ p A, G.excs[c]? = some p ∧ Y.mg p.1 = some (.ref A) ∧ CallR Y (.builtin "isinstance") (EvI.rIsE2 Y.K A a dd) ∧
    ∀ (d' : Addr) (e : Expr) (te : TE) (pos : Pos), dd = some d' → PE Y e te → attributeBase e "index" Y.env (eval e Y.env) = eval e Y.env → PE Y (.Attribute e "index" pos) (tXf a (.ref A) dd A "index" te)
/-- the error's dict -/
def XdR (m : Mp) (H : Hp) (fs : List (Nat × D)) (dd : Option Addr) : Prop := (fs = [] ∧ dd = none) ∨ ∃ i d, fs = [(0, .int i)] ∧ dd = some d ∧ H d = some (.xd [("index", .int i)]) ∧ ¬ m.live d
theorem XdR.ext {m m1 : Mp} {H H1 : Hp} {fs : List (Nat × D)} {dd : Option Addr} (h : XdR m H fs dd) (x : Ext m H m1 H1) : XdR m1 H1 fs dd := by
  rcases h with h | ⟨i, d, h1, h2, h3, h4⟩
  · exact .inl h
  · exact .inr ⟨i, d, h1, h2, (x.old d _ h3 h4).1, (x.old d _ h3 h4).2⟩
structure UStt (K : PySem.W.Frag) (mg : Str → Option Value) (G : Prog) (i : Option Nat) (a : Addr) (fs : List (Nat × D)) (dd : Option Addr) (fls : List Nat) (st : Sto) (m : Mp) (H : Hp) (ρ : Env) (σ : St) : Prop where
  rel : Rel K mg G fls st m H
  env : EnvR K mg G m H ρ σ
  ex : ∀ j, i = some j → σ[j]? = some (some (.ref a))
  xd : XdR m H fs dd
section
variable (Y : Cx) (G : Prog) (i : Option Nat) (a : Addr) (c : Nat) (fs : List (Nat × D)) (dd : Option Addr)
def tU (u : Su) : TE := fun σ H Q => ∃ ρ fls st m d, UStt Y.K Y.mg G i a fs dd fls st m H ρ σ ∧ evU G c fs ρ u = some d ∧ QV Y.K Y.mg G fls st m H d Q
def tUT (u : Su) : TT := fun σ H Q => ∃ ρ fls st m b, UStt Y.K Y.mg G i a fs dd fls st m H ρ σ ∧ evU G c fs ρ u = some (.bl b) ∧ ∀ m' H', Ext m H m' H' → Rel Y.K Y.mg G fls st m' H' → Q b H'
end
section
variable {Y : Cx} {G : Prog} {N : List Str} {sc : Scope} {nm : Option Str} {i : Option Nat} {a : Addr} {c : Nat} {fs : List (Nat × D)} {dd : Option Addr}
theorem UStt.ext {fls : List Nat} {st : Sto} {m m1 : Mp} {H H1 : Hp} {ρ : Env} {σ : St} (S : UStt Y.K Y.mg G i a fs dd fls st m H ρ σ) (x : Ext m H m1 H1) (R : Rel Y.K Y.mg G fls st m1 H1) : UStt Y.K Y.mg G i a fs dd fls st m1 H1 ρ σ := ⟨R, S.env.ext x, S.ex, S.xd.ext x⟩
theorem gl_u (ok : UOk Y G N sc nm i a c dd) {x : Str} (h : gloB sc x = true) : Gl Y x := by
  show Y.env.scope.names.lookup x = _
  rw [ok.sc]
  unfold gloB at h
  split at h
  · assumption
  · cases h
theorem vis_u (ok : UOk Y G N sc nm i a c dd) {x : Str} (h2 : visB sc x = true) : Vis Y.env.scope x := by
  rw [ok.sc]
  unfold visB at h2
  split at h2 <;> first | exact .inl (by assumption) | exact .inr (.inl (by assumption)) | exact .inr (.inr (by assumption)) | cases h2
theorem u_const {u : Su} {e : Expr} {d : D} {v : V} (he : PE Y e (tC v)) (ev : ∀ ρ, evU G c fs ρ u = some d) (r : ∀ m H, Rep Y.K Y.mg G m H d v) : PE Y e (tU Y G i a c fs dd u) :=
  he.im fun σ H Q ⟨ρ, fls, st, m, d', S, e, q⟩ => by
    rw [ev] at e
    cases e
    exact QV.here q S.rel (r m H)
theorem u_pe (ok : UOk Y G N sc nm i a c dd) : ∀ (u : Su) (e : Expr), emU G N sc nm u e = true → PE Y e (tU Y G i a c fs dd u) ∧ (tsU u = true → PT Y e (tUT Y G i a c fs dd u)) := by
  intro u
  induction u with
  | non =>
    intro e h
    unfold emU at h
    split at h
    · exact ⟨u_const pe_non (fun _ => rfl) fun _ _ => .non, fun z => by cases z⟩
    · cases h
  | bool b =>
    intro e h
    unfold emU at h
    split at h
    · rw [beq_iff_eq] at h
      subst h
      exact ⟨u_const pe_bl (fun _ => rfl) fun _ _ => .bl _, fun z => by cases z⟩
    · cases h
  | int j =>
    intro e h
    unfold emU at h
    split at h
    · rw [decide_eq_true_eq] at h
      subst h
      exact ⟨u_const pe_int (fun _ => rfl) fun _ _ => .int _, fun z => by cases z⟩
    · cases h
  | str x =>
    intro e h
    unfold emU at h
    split at h
    · simp only [Bool.and_eq_true, decide_eq_true_eq] at h
      obtain ⟨rfl, h2⟩ := h
      exact ⟨u_const pe_str (fun _ => rfl) fun _ _ => .str h2, fun z => by cases z⟩
    · cases h
  | var j =>
    intro e h
    unfold emU at h
    split at h
    · simp only [Bool.and_eq_true, decide_eq_true_eq] at h
      obtain ⟨⟨h1, h2⟩, h3⟩ := h
      have h3' := h3
      unfold nameB at h3'
      simp only [Bool.and_eq_true, beq_iff_eq] at h3'
      refine ⟨(pe_var (i := j) (by rw [ok.n]; exact h1) (vis_u ok h2) h3'.1.1 h3'.1.2).im fun σ H Q ⟨ρ, fls, st, m, d, S, e, q⟩ => ?_, fun z => by cases z⟩
      unfold evU at e
      split at e
      · rename_i d' e'
        cases e
        obtain ⟨v, hv, r⟩ := S.env.2 j _ e'
        exact ⟨v, hv, QV.here q S.rel r⟩
      · cases e
    · cases h
  | tup2 x y ihx ihy =>
    intro e h
    unfold emU at h
    split at h
    · simp only [Bool.and_eq_true] at h
      obtain ⟨⟨⟨h1, h2⟩, h3⟩, h4⟩ := h
      refine ⟨(pe_tup (pa_cons (ihx _ h1).1 (pa_cons (ihy _ h2).1 pa_nil (star_pl h4)) (star_pl h3))).im fun σ H Q ⟨ρ, fls, st, m, d, S, e, q⟩ => ?_, fun z => by cases z⟩
      unfold evU at e
      split at e
      · rename_i dx dy ex ey
        cases e
        refine ⟨ρ, fls, st, m, dx, S, ex, fun v m1 H1 x1 R1 r1 => ?_⟩
        refine ⟨ρ, fls, st, m1, dy, S.ext x1 R1, ey, fun v2 m2 H2 x2 R2 r2 => ?_⟩
        exact ⟨by show 2 ≤ sizeLine; decide, fun p hp => QV.tup (QV.ext (x1.trans x2) q) R2 (.cons (r1.ext x2) (.cons r2 .nil)) hp⟩
      · cases e
    · cases h
  | nt x ih =>
    intro e h
    unfold emU at h
    split at h
    · refine ⟨(pe_not (ih _ h).1).im fun σ H Q ⟨ρ, fls, st, m, d, S, e, q⟩ => ?_, fun z => (pt_not ((ih _ h).2 z)).im fun σ H Q ⟨ρ, fls, st, m, b, S, e, q⟩ => ?_⟩
      · unfold evU at e
        split at e
        · rename_i b eb
          cases e
          refine ⟨ρ, fls, st, m, _, S, eb, fun v m1 H1 x1 R1 r1 => ?_⟩
          cases r1
          exact ⟨_, rfl, QV.here (QV.ext x1 q) R1 (.bl _)⟩
        · cases e
      · unfold evU at e
        split at e
        · rename_i b' eb
          cases e
          exact ⟨ρ, fls, st, m, _, S, eb, q⟩
        · cases e
    · cases h
  | andS x y ihx ihy =>
    intro e h
    unfold emU at h
    split at h
    · simp only [Bool.and_eq_true] at h
      refine ⟨(pe_and (ihx _ h.1).1 (pe_one (ihy _ h.2).1)).im fun σ H Q ⟨ρ, fls, st, m, d, S, e, q⟩ => ?_, fun z => ?_⟩
      · unfold evU at e
        split at e
        · rename_i eb
          refine ⟨ρ, fls, st, m, _, S, eb, fun v m1 H1 x1 R1 r1 => ?_⟩
          cases r1
          exact ⟨_, rfl, by rw [if_pos rfl]; exact ⟨ρ, fls, st, m1, d, S.ext x1 R1, e, QV.ext x1 q⟩⟩
        · rename_i eb
          cases e
          refine ⟨ρ, fls, st, m, _, S, eb, fun v m1 H1 x1 R1 r1 => ?_⟩
          cases r1
          exact ⟨_, rfl, by rw [if_neg Bool.false_ne_true]; exact QV.here (QV.ext x1 q) R1 (.bl _)⟩
        · cases e
      · have z' : tsU x = true ∧ tsU y = true := by simpa [tsU] using z
        refine (PW.im (pw_and ((ihx _ h.1).2 z'.1) (pw_and1 ((ihy _ h.2).2 z'.2))) fun σ H Q ⟨ρ, fls, st, m, b, S, e, q⟩ => ?_).pt
        unfold evU at e
        split at e
        · rename_i eb
          exact ⟨ρ, fls, st, m, _, S, eb, fun m1 H1 x1 R1 => by show (if true = true then _ else _); rw [if_pos rfl]; exact ⟨ρ, fls, st, m1, _, S.ext x1 R1, e, fun m2 H2 x2 R2 => q m2 H2 (x1.trans x2) R2⟩⟩
        · rename_i eb
          cases e
          exact ⟨ρ, fls, st, m, _, S, eb, fun m1 H1 x1 R1 => by show (if false = true then _ else _); rw [if_neg Bool.false_ne_true]; exact q m1 H1 x1 R1⟩
        · cases e
    · cases h
  | orS x y ihx ihy =>
    intro e h
    unfold emU at h
    split at h
    · simp only [Bool.and_eq_true] at h
      refine ⟨(pe_or (ihx _ h.1).1 (pe_one (ihy _ h.2).1)).im fun σ H Q ⟨ρ, fls, st, m, d, S, e, q⟩ => ?_, fun z => ?_⟩
      · unfold evU at e
        split at e
        · rename_i eb
          cases e
          refine ⟨ρ, fls, st, m, _, S, eb, fun v m1 H1 x1 R1 r1 => ?_⟩
          cases r1
          exact ⟨_, rfl, by rw [if_pos rfl]; exact QV.here (QV.ext x1 q) R1 (.bl _)⟩
        · rename_i eb
          refine ⟨ρ, fls, st, m, _, S, eb, fun v m1 H1 x1 R1 r1 => ?_⟩
          cases r1
          exact ⟨_, rfl, by rw [if_neg Bool.false_ne_true]; exact ⟨ρ, fls, st, m1, d, S.ext x1 R1, e, QV.ext x1 q⟩⟩
        · cases e
      · have z' : tsU x = true ∧ tsU y = true := by simpa [tsU] using z
        refine (PW.im (pw_or ((ihx _ h.1).2 z'.1) (pw_or1 ((ihy _ h.2).2 z'.2))) fun σ H Q ⟨ρ, fls, st, m, b, S, e, q⟩ => ?_).pt
        unfold evU at e
        split at e
        · rename_i eb
          cases e
          exact ⟨ρ, fls, st, m, _, S, eb, fun m1 H1 x1 R1 => by show (if true = true then _ else _); rw [if_pos rfl]; exact q m1 H1 x1 R1⟩
        · rename_i eb
          exact ⟨ρ, fls, st, m, _, S, eb, fun m1 H1 x1 R1 => by show (if false = true then _ else _); rw [if_neg Bool.false_ne_true]; exact ⟨ρ, fls, st, m1, _, S.ext x1 R1, e, fun m2 H2 x2 R2 => q m2 H2 (x1.trans x2) R2⟩⟩
        · cases e
    · cases h
  | isE c' =>
    intro e h
    unfold emU at h
    split at h
    · rename_i f p1 y p2 x p3 pos
      simp only [Bool.and_eq_true, decide_eq_true_eq] at h
      obtain ⟨⟨⟨⟨⟨rfl, h1⟩, h2⟩, h3⟩, h4⟩, h5⟩ := h
      unfold excB at h5
      simp only [Bool.and_eq_true, decide_eq_true_eq, Option.map_eq_some_iff] at h5
      obtain ⟨⟨⟨p', hp', rfl⟩, h6⟩, h7⟩ := h5
      have h4' := h4
      unfold nameB at h4'
      simp only [Bool.and_eq_true, beq_iff_eq] at h4'
      have hs := ok.slot
      rw [h2] at hs
      obtain ⟨j, hj, hN⟩ : ∃ j, i = some j ∧ N[j]? = some y := by
        cases i with
        | none => cases hs
        | some j => exact ⟨j, rfl, hs.symm⟩
      obtain ⟨p, A, e1, e2, hc, _⟩ := ok.is
      obtain ⟨A', f1, f2, _⟩ := ok.exc.one c' p' hp'
      have f3 := (ok.exc.two c p c' p' A A' e1 hp' e2 f1).2
      have main : PE Y (.Call (.Name "isinstance" p1) [.Name y p2, .Name p'.1 p3] [] pos) (tU Y G i a c fs dd (.isE c')) := by
        refine (pe_callB hc (gl_u ok h1) ok.isi PyProof.Rows.boot_isinstance (pa_cons (pe_var (i := j) (by rw [ok.n]; exact hN) (vis_u ok h3) h4'.1.1 h4'.1.2) (pa_cons (pe_glob (gl_u ok h6) f1 (v := .ref A') rfl (name_dbg h7).1) pa_nil))).im fun σ H Q ⟨ρ, fls, st, m, d, S, e, q⟩ => ?_
        unfold evU at e
        cases e
        exact ⟨.ref a, S.ex j hj, .ref A', .ref A', _, rfl, fun u hu => hu, f3, fun d' hd' => by
          rcases S.xd with ⟨_, z⟩ | ⟨i', d2, _, z, z2, _⟩
          · rw [hd'] at z; cases z
          · rw [hd'] at z; cases z; exact ⟨_, z2⟩, QV.here q S.rel (.bl _)⟩
      refine ⟨main, fun _ => (pt_val main (fun _ => rfl)).im fun σ H Q ⟨ρ, fls, st, m, b, S, e, q⟩ => ?_⟩
      refine ⟨ρ, fls, st, m, _, S, e, fun v m1 H1 x1 R1 r1 => ?_⟩
      cases r1
      exact ⟨_, rfl, q m1 H1 x1 R1⟩
    · cases h
  | ix =>
    intro e h
    unfold emU at h
    split at h
    · rename_i y p1 name p2
      simp only [Bool.and_eq_true, decide_eq_true_eq] at h
      obtain ⟨⟨⟨rfl, h2⟩, h3⟩, h4⟩ := h
      refine ⟨?_, fun z => by cases z⟩
      have h4' := h4
      unfold nameB at h4'
      simp only [Bool.and_eq_true, beq_iff_eq] at h4'
      have hs := ok.slot
      rw [h2] at hs
      obtain ⟨j, hj, hN⟩ : ∃ j, i = some j ∧ N[j]? = some y := by
        cases i with
        | none => cases hs
        | some j => exact ⟨j, rfl, hs.symm⟩
      obtain ⟨p, A, e1, e2, _, hx⟩ := ok.is
      cases hdd : dd with
      | none =>
        refine ⟨fun pins s σ H Q I hh => ?_⟩
        obtain ⟨ρ, fls, st, m, d, S, e, q⟩ := hh
        rcases S.xd with ⟨z, _⟩ | ⟨_, _, _, z, _⟩
        · rw [z] at e
          cases e
        · cases z
      | some d' =>
        rw [← hdd]
        refine (hx d' _ _ p2 hdd (pe_var (i := j) (by rw [ok.n]; exact hN) (vis_u ok h3) h4'.1.1 h4'.1.2) rfl).im fun σ H Q ⟨ρ, fls, st, m, d, S, e, q⟩ => ?_
        rcases S.xd with ⟨z, _⟩ | ⟨i', d2, z, z1, z2, _⟩
        · rw [z] at e
          cases e
        · rw [z] at e
          cases e
          exact ⟨.ref a, S.ex j hj, rfl, rfl, d2, _, .int i', z1, z2, rfl, QV.here q S.rel (.int i')⟩
    · cases h
theorem _root_.L2.PS.im {X : Cx} {e : Stmt} {t t' : TS} (h : PS X e t) (f : ∀ B σ H, t' B σ H → t B σ H) : PS X e t' := ⟨fun pins s σ H B I q => h.run pins s σ H B I (f B σ H q)⟩
theorem _root_.L2.PSs.im {X : Cx} {e : List Stmt} {t t' : TS} (h : PSs X e t) (f : ∀ B σ H, t' B σ H → t B σ H) : PSs X e t' := ⟨fun pins s σ H B I q => h.run pins s σ H B I (f B σ H q)⟩
/-- what is wanted of a suite's outcome -/
def UPost (K : PySem.W.Frag) (mg : Str → Option Value) (G : Prog) (fls : List Nat) (m : Mp) (H : Hp) (o : OutS) (B : Ends) : Prop :=
  match o with
  | .ret d st => ∀ v m' H', Ext m H m' H' → Rel K mg G fls st m' H' → Rep K mg G m' H' d v → B.rt v H'
  | .next ρ st => ∀ σ m' H', Ext m H m' H' → Rel K mg G fls st m' H' → EnvR K mg G m' H' ρ σ → B.nx σ H'
  | _ => False
def tShT (Y : Cx) (G : Prog) (i : Option Nat) (a : Addr) (c : Nat) (fs : List (Nat × D)) (dd : Option Addr) (s : Sh) : TS := fun B σ H => ∃ ρ fls st m, UStt Y.K Y.mg G i a fs dd fls st m H ρ σ ∧ UPost Y.K Y.mg G fls m H (evSh G c fs ρ st s) B
theorem u_sh (ok : UOk Y G N sc nm i a c dd) : ∀ (s : Sh) (ss : List Stmt), emSh G N sc nm s ss = true → PSs Y ss (tShT Y G i a c fs dd s) := by
  intro s
  induction s with
  | raise c =>
    intro ss h
    unfold emSh at h
    cases h
  | badH =>
    intro ss h
    refine ⟨fun pins s0 σ H B I h0 => ?_⟩
    obtain ⟨ρ, fls, st, m, S, q⟩ := h0
    unfold evSh at q
    exact q.elim
  | ret e =>
    intro ss h
    unfold emSh at h
    split at h
    · refine pss_one ((ps_ret (u_pe (fs := fs) ok e _ h).1).im fun B σ H ⟨ρ, fls, st, m, S, q⟩ => ?_)
      unfold evSh at q
      split at q
      · rename_i d ed
        exact ⟨ρ, fls, st, m, d, S, ed, fun v m1 H1 x1 R1 r1 => q v m1 H1 x1 R1 r1⟩
      · exact q.elim
    · cases h
  | setN j e =>
    intro ss h
    unfold emSh at h
    split at h
    · rename_i x px ev pos
      simp only [Bool.and_eq_true, decide_eq_true_eq, Bool.not_eq_true'] at h
      obtain ⟨⟨⟨h1, h2⟩, h3⟩, h4⟩ := h
      have hl : Loc Y.env.scope x := by rw [ok.sc]; exact locB_ok h2
      refine pss_one ((ps_set (i := j) ok.nd (by rw [ok.n]; exact h1) hl (u_pe (fs := fs) ok e _ h3).1 (noswap h4) (.inl (ok.fn x))).im fun B σ H ⟨ρ, fls, st, m, S, q⟩ => ?_)
      unfold evSh at q
      split at q
      · rename_i d ed
        exact ⟨ρ, fls, st, m, d, S, ed, fun v m1 H1 x1 R1 r1 => q _ m1 H1 x1 R1 ((S.env.ext x1).set r1 j)⟩
      · exact q.elim
    · cases h
  | retN =>
    intro ss h
    unfold emSh at h
    split at h
    · refine pss_one (ps_retN.im fun B σ H ⟨ρ, fls, st, m, S, q⟩ => ?_)
      unfold evSh at q
      exact q .non m H Ext.refl S.rel .non
    · cases h
  | ifR ce ae r ih =>
    intro ss h
    unfold emSh at h
    split at h
    · simp only [Bool.and_eq_true] at h
      rename_i ec ea pos1 pos2 rest
      obtain ⟨⟨⟨h1, h2⟩, h3⟩, h4⟩ := h
      have pa : PSs Y [.Return (some ea) pos1] (fun B σ H => ∃ ρ fls st m d, UStt Y.K Y.mg G i a fs dd fls st m H ρ σ ∧ evU G c fs ρ ae = some d ∧ ∀ v m' H', Ext m H m' H' → Rel Y.K Y.mg G fls st m' H' → Rep Y.K Y.mg G m' H' d v → B.rt v H') :=
        pss_one ((ps_ret (u_pe (fs := fs) ok ae _ h3).1).im fun B σ H ⟨ρ, fls, st, m, d, S, ed, q⟩ => ⟨ρ, fls, st, m, d, S, ed, fun v m1 H1 x1 R1 r1 => q v m1 H1 x1 R1 r1⟩)
      refine (pss_cons (ps_if ((u_pe (fs := fs) ok ce _ h1).2 h2) pa pss_nil) (ih _ h4)).im fun B σ H ⟨ρ, fls, st, m, S, q⟩ => ?_
      unfold evSh at q
      split at q
      · rename_i ec
        split at q
        · rename_i d ed
          refine ⟨ρ, fls, st, m, _, S, ec, fun m1 H1 x1 R1 => ?_⟩
          show (if true = true then _ else _)
          rw [if_pos rfl]
          exact ⟨ρ, fls, st, m1, d, S.ext x1 R1, ed, fun v m2 H2 x2 R2 r2 => q v m2 H2 (x1.trans x2) R2 r2⟩
        · exact q.elim
      · rename_i ec
        refine ⟨ρ, fls, st, m, _, S, ec, fun m1 H1 x1 R1 => ?_⟩
        show (if false = true then _ else _)
        rw [if_neg Bool.false_ne_true]
        refine ⟨ρ, fls, st, m1, S.ext x1 R1, ?_⟩
        revert q
        cases evSh G c fs ρ st r with
        | ret d st' => exact fun q v m2 H2 x2 R2 r2 => q v m2 H2 (x1.trans x2) R2 r2
        | next ρ2 st' => exact fun q v m2 H2 x2 R2 r2 => q v m2 H2 (x1.trans x2) R2 r2
        | _ => exact fun q => q
      · exact q.elim
    · cases h
end
end Ev

set_option Elab.async false
set_option linter.all false
set_option maxRecDepth 100000
set_option maxHeartbeats 8000000
/-! Ev, part 15: statements. -/
namespace Ev
open PySem L2 PySem.Spec
open PyProof.Rows hiding St

def tupB : Expr → Bool
  | .Tuple _ _ _ => true
  | .List _ _ => true
  | _ => false
/-- a comprehension given to a local name on its line -/
def swpB (sc : Scope) (x : Str) (px : Pos) (e : Expr) : Bool := match e with
  | .ListComp _ [⟨_, _, _, 0⟩] scope p => lclB sc x && (px.line == p.line) && ((scope.names.any fun (n, k) => n == x && (k == .local || k == .cell)) == false)
  | .DictComp _ _ [⟨_, _, _, 0⟩] scope p => lclB sc x && (px.line == p.line) && ((scope.names.any fun (n, k) => n == x && (k == .local || k == .cell)) == false)
  | _ => false
/-- a comprehension given to a cell -/
def nswB (sc : Scope) (x : Str) (e : Expr) : Bool := match e with
  | .ListComp _ _ _ _ => (match sc.names.lookup x with
    | some .cell => true
    | _ => false)
  | .DictComp _ _ _ _ _ => (match sc.names.lookup x with
    | some .cell => true
    | _ => false)
  | _ => false
/-- the comprehension within a box -/
def unB : Ex → Ex
  | .box a => a
  | x => x
/-- targets that may be fields of names -/
def emTAs (N : List Str) (sc : Scope) : List TA1 → List Expr → Bool
  | [], es => match es with
    | [] => true
    | _ => false
  | t :: ts, es => match es with
    | e :: es => (match t, e with
      | .v i, .Name x _ => decide (N[i]? = some x) && locB sc x
      | .f o f, .Attribute (.Name x _) name _ => decide (N[o]? = some x) && visB sc x && nameB x && decide (name = f)
      | _, _ => false) && emTAs N sc ts es
    | _ => false
section
variable (G : Prog) (N : List Str) (sc : Scope)
/-- except clauses without names -/
def emHds : Hds → List ExceptHandler → Bool
  | .nil, hds => match hds with
    | [] => true
    | _ => false
  | .cons c n s r, hds => match hds with
    | .ExceptHandler (some (.Name x _)) none (s0 :: ss) _ :: hds => excB G sc c x && decide (n = none) && emSh G N sc none s (s0 :: ss) && emHds r hds
    | _ => false
/-- except clauses: one, or several without names -/
def emHd (hs : Hds) (hds : List ExceptHandler) : Bool := match hs with
  | .cons c n s .nil => match hds with
    | [.ExceptHandler (some (.Name x _)) nn (s0 :: ss) _] => excB G sc c x && (match n, nn with
      | none, none => emSh G N sc none s (s0 :: ss)
      | some i, some y => decide (N[i]? = some y) && lclB sc y && emSh G N sc (some y) s (s0 :: ss)
      | _, _ => false)
    | _ => false
  | .cons c n s r => emHds G N sc (.cons c n s r) hds
  | _ => false
mutual
def emS : Sm → Stmt → Bool
  | .set i e, s => match s with
    | .Assign [.Name x px] ev _ => decide (N[i]? = some x) && locB sc x && emE G N e sc ev && (!cmpB ev || swpB sc x px ev || nswB sc x ev)
    | _ => false
  | .sets is e, s => match s with
    | .Assign [.Tuple ts k p] ev _ => emTs N (locB sc) is ts && emE G N e sc ev && !cmpB ev && !tupB ev
    | _ => false
  | .put o i e, s => match s with
    | .Assign [.Subscript eo ei _] ev _ => emE G N o sc eo && emE G N i sc ei && emE G N e sc ev && !cmpB ev && plB ei
    | _ => false
  | .fld o f e, s => match s with
    | .Assign [.Attribute eo name _] ev _ => decide (name = f) && emE G N o sc eo && baseB eo && emE G N e sc ev && !cmpB ev
    | _ => false
  | .setA ts e, s => match s with
    | .Assign [.Tuple es _ _] ev _ => emTAs N sc ts es && emE G N e sc ev && !cmpB ev && !tupB ev
    | _ => false
  | .badS, s => true
  | .lock _ x, s => emS x s
  | .tryB b, s => match s with
    | .Try sb (_ :: _) [] [] _ => emSs b sb
    | _ => false
  | .expr e, s => match s with
    | .Expr ev _ => emE G N e sc ev && !cmpB ev
    | _ => false
  | .doc, s => match s with
    | .Expr (.Constant (.str _) _ _) _ => true
    | _ => false
  | .ret e, s => match s with
    | .Return (some ev) _ => emE G N e sc ev
    | _ => false
  | .retN, s => match s with
    | .Return none _ => true
    | _ => false
  | .ifS c a b, s => match s with
    | .If ec sa sb _ => emE G N c sc ec && tsOk c && emSs a sa && emSs b sb
    | _ => false
  | .forS tg src b, s => match s with
    | .For et ei sb [] _ => emTg N (locB sc) tg et && emI G N src sc ei && emSs b sb && plB ei
    | _ => false
  | .whl c b, s => match s with
    | .While ec sb [] _ => emE G N c sc ec && tsOk c && emSs b sb
    | _ => false
  | .brk, s => match s with
    | .Break _ => true
    | _ => false
  | .cont, s => match s with
    | .Continue _ => true
    | _ => false
  | .raise c _, s => match s with
    | .Raise (some (.Call (.Name x _) [.Constant (.str _) _ _] [] _)) none _ => excB G sc c x && decide ((G.excs[c]?).map (·.2.1) = some false)
    | _ => false
  | .raiseI c e, s => match s with
    | .Raise (some (.Call (.Name x _) [ea] [] _)) none _ => excB G sc c x && decide ((G.excs[c]?).map (·.2.1) = some true) && emE G N e sc ea && plB ea
    | _ => false
  | .tryS b hs, s => match s with
    | .Try sb hds [] [] _ => emSs b sb && emHd G N sc hs hds
    | _ => false
def emSs : Sms → List Stmt → Bool
  | .nil, ss => match ss with
    | [] => true
    | _ => false
  | .cons a r, ss => match ss with
    | s :: ss => emS a s && emSs r ss
    | _ => false
end
end

/-- the outcome of a statement, as what is wanted -/
def SPost (K : PySem.W.Frag) (mg : Str → Option Value) (G : Prog) (fls : List Nat) (m : Mp) (H : Hp) (W : WX) (o : OutS) (B : Ends) : Prop :=
  match o with
  | .next ρ st => ∀ σ m' H', Ext m H m' H' → Rel K mg G fls st m' H' → EnvR K mg G m' H' ρ σ → B.nx σ H'
  | .brk ρ st => ∀ σ m' H', Ext m H m' H' → Rel K mg G fls st m' H' → EnvR K mg G m' H' ρ σ → B.bk σ H'
  | .cont ρ st => ∀ σ m' H', Ext m H m' H' → Rel K mg G fls st m' H' → EnvR K mg G m' H' ρ σ → B.ct σ H'
  | .ret d st => ∀ v m' H', Ext m H m' H' → Rel K mg G fls st m' H' → Rep K mg G m' H' d v → B.rt v H'
  | .exc c fs ρ st => ∀ cls dd σ m' H', Ext m H m' H' → Rel K mg G fls st m' H' → EnvR K mg G m' H' ρ σ → ErrR G mg m' H' c fs cls dd → W cls dd σ H'
  | .bad => False
section
variable {K : PySem.W.Frag} {mg : Str → Option Value} {G : Prog} {fls : List Nat} {m m1 : Mp} {H H1 : Hp} {W : WX} {B B' : Ends}
theorem SPost.ext {o : OutS} (x : Ext m H m1 H1) (h : SPost K mg G fls m H W o B) : SPost K mg G fls m1 H1 W o B := by
  cases o with
  | next ρ st => exact fun σ m' H' e R E => h σ m' H' (x.trans e) R E
  | brk ρ st => exact fun σ m' H' e R E => h σ m' H' (x.trans e) R E
  | cont ρ st => exact fun σ m' H' e R E => h σ m' H' (x.trans e) R E
  | ret d st => exact fun σ m' H' e R E => h σ m' H' (x.trans e) R E
  | exc c fs ρ st => exact fun cls dd σ m' H' e R E r => h cls dd σ m' H' (x.trans e) R E r
  | bad => exact h
end
section
variable (X : Cx) (G : Prog) (C : Nat → Nat → List D → Sto → Out D) (fl : Nat) (W : WX)
def tS (x : Sm) : TS := fun B σ H => ∃ ρ fls st m, Stt X.K X.mg G fl fls st m H ρ σ ∧ SPost X.K X.mg G fls m H W (evS G (C fl) fl x ρ st) B
def tSs (x : Sms) : TS := fun B σ H => ∃ ρ fls st m, Stt X.K X.mg G fl fls st m H ρ σ ∧ SPost X.K X.mg G fls m H W (evSs G (C fl) fl x ρ st) B
end

/-- what a statement's context must bear besides -/
structure SOk (X : Cx) (W : WX) : Prop where
  fn : ∀ x, X.fn x = true
  stk : X.stack = X.env :: X.outer
  frm : X.env.frame = some X.env.locals
  pass : PassesOwn (model X.prog X.w) X.A X.env X.xe
  tk : Takes X W

section
variable {X : Cx} {G : Prog} {C : Nat → Nat → List D → Sto → Out D} {fl k : Nat} {W : WX} {N : List Str} {sc : Scope} {pos : Pos}
variable {fls : List Nat} {st : Sto} {m : Mp} {H : Hp} {ρ : Env} {σ : St} {B : Ends}
/-- an expression, then the rest -/
theorem s1 {a : Ex} {f : D → Sto → OutS} {P : V → Hp → Prop} (S : Stt X.K X.mg G fl fls st m H ρ σ)
    (h : SPost X.K X.mg G fls m H W ((evE G (C fl) fl ρ a st).thenS ρ f) B)
    (k : ∀ x st1 v m1 H1, Ext m H m1 H1 → Stt X.K X.mg G fl fls st1 m1 H1 ρ σ → Rep X.K X.mg G m1 H1 x v → SPost X.K X.mg G fls m1 H1 W (f x st1) B → P v H1) : tE X G C fl W a σ H P := by
  refine ⟨ρ, fls, st, m, S, ?_⟩
  cases e : evE G (C fl) fl ρ a st with
  | ok x st1 =>
    rw [e] at h
    exact fun v m1 H1 e1 R1 r1 => k x st1 v m1 H1 e1 (S.ext e1 R1) r1 (SPost.ext e1 h)
  | exc c fs s1 =>
    rw [e] at h
    exact fun cls dd m' H' e1 R r => h cls dd σ m' H' e1 R (S.env.ext e1) r
  | bad =>
    rw [e] at h
    exact h
theorem sT1 {a : Ex} {f : D → Sto → OutS} {P : Bool → Hp → Prop} (S : Stt X.K X.mg G fl fls st m H ρ σ)
    (h : SPost X.K X.mg G fls m H W ((evE G (C fl) fl ρ a st).thenS ρ f) B) (hb : ∀ x st1, (∀ b, x ≠ .bl b) → f x st1 = .bad)
    (k : ∀ b st1 m1 H1, Ext m H m1 H1 → Stt X.K X.mg G fl fls st1 m1 H1 ρ σ → SPost X.K X.mg G fls m1 H1 W (f (.bl b) st1) B → P b H1) : tT X G C fl W a σ H P := by
  refine ⟨ρ, fls, st, m, S, ?_⟩
  cases e : evE G (C fl) fl ρ a st with
  | ok x st1 =>
    rw [e] at h
    by_cases hx : ∃ b, x = .bl b
    · obtain ⟨b, rfl⟩ := hx
      exact ⟨b, rfl, fun m1 H1 e1 R1 => k b st1 m1 H1 e1 (S.ext e1 R1) (SPost.ext e1 h)⟩
    · have h' : SPost X.K X.mg G fls m H W (f x st1) B := h
      rw [hb x st1 fun b e => hx ⟨b, e⟩] at h'
      exact h'.elim
  | exc c fs s1 =>
    rw [e] at h
    exact fun cls dd m' H' e1 R r => h cls dd σ m' H' e1 R (S.env.ext e1) r
  | bad =>
    rw [e] at h
    exact h
theorem loc_ok (ok : XOk G C k W N sc X) {x : Str} (h : locB sc x = true) : Loc X.env.scope x := by
  rw [ok.sc]; exact locB_ok h

theorem q_ret {e : Ex} {ev : Expr} (he : PE X ev (tE X G C fl W e)) : PS X (.Return (some ev) pos) (tS X G C fl W (.ret e)) :=
  (ps_ret he).im fun B σ H ⟨ρ, fls, st, m, S, q⟩ => by
    unfold evS at q
    exact s1 S q fun x st1 v m1 H1 e1 S1 r1 q1 => q1 v m1 H1 Ext.refl S1.rel r1
theorem q_retN : PS X (.Return none pos) (tS X G C fl W .retN) :=
  ps_retN.im fun B σ H ⟨ρ, fls, st, m, S, q⟩ => by
    unfold evS at q
    exact q .non m H Ext.refl S.rel .non
theorem q_raise {c : Nat} {mm : Str} {x t : Str} {j : Nat} {p p2 p3 : Pos} (ok : XOk G C k W N sc X) (so : SOk X W) (h : excB G sc c x = true) (hfl : (G.excs[c]?).map (·.2.1) = some false) : PS X (.Raise (some (.Call (.Name x p) [.Constant (.str t) j p2] [] p3)) none pos) (tS X G C fl W (.raise c mm)) := by
  unfold excB at h
  simp only [Bool.and_eq_true, decide_eq_true_eq, Option.map_eq_some_iff] at h
  obtain ⟨⟨⟨p', hp, rfl⟩, h6⟩, h7⟩ := h
  have hf : p'.2.1 = false := by simpa [hp] using hfl
  obtain ⟨A, f1, f2, f3, f4, f5, _⟩ := ok.exc.one c p' hp
  refine (L2.ps_raise ok.calm so.tk (L2.pmk_own PySem.F.excBase_ValueError (f3 hf) f1 f2 (L2.raises_own f4 f5) (gl_of ok h6) (name_dbg h7).1)).im fun B σ H ⟨ρ, fls, st, m, S, q⟩ => ?_
  unfold evS at q
  exact q (.ref A) none σ m H Ext.refl S.rel S.env ⟨p', A, hp, f1, rfl, .inl ⟨hf, rfl, rfl⟩⟩
theorem small62_log {i : Int} (h : small62 i = true) : i.natAbs.log2 < 1920 := by
  have h := of_decide_eq_true h
  by_cases z : i.natAbs = 0
  · rw [z]; decide
  · exact Nat.lt_of_lt_of_le ((Nat.log2_lt z).mpr h) (by decide)
theorem q_raiseI {c : Nat} {e : Ex} {x : Str} {ea : Expr} {p p3 : Pos} (ok : XOk G C k W N sc X) (so : SOk X W) (h : excB G sc c x = true) (hfl : (G.excs[c]?).map (·.2.1) = some true) (he : PE X ea (tE X G C fl W e)) (hp : plB ea = true) : PS X (.Raise (some (.Call (.Name x p) [ea] [] p3)) none pos) (tS X G C fl W (.raiseI c e)) := by
  unfold excB at h
  simp only [Bool.and_eq_true, decide_eq_true_eq, Option.map_eq_some_iff] at h
  obtain ⟨⟨⟨p', hp', rfl⟩, h6⟩, h7⟩ := h
  have hf : p'.2.1 = true := by simpa [hp'] using hfl
  obtain ⟨A, fI, D, fd, f1, f2, f3, f4, f5⟩ := ok.ixs c p' hp' hf
  refine (L2.ps_raise ok.calm so.tk (EvI.pmk_ix f2 f3 (ok.room.mono (by omega)) f4 f5 (gl_of ok h6) f1 (pa_cons he pa_nil (star_pl hp)) (name_dbg h7).1 (star_pl hp))).im fun B σ H ⟨ρ, fls, st, m, S, q⟩ => ?_
  unfold evS at q
  refine s1 S q fun y st1 v m1 H1 e1 S1 r1 q1 => ?_
  cases r1 <;> first | exact q1.elim | skip
  rename_i i
  dsimp only at q1
  by_cases hs : small62 i = true
  · rw [if_pos hs] at q1
    refine ⟨i, rfl, small62_log hs, fun d hd => ?_⟩
    exact q1 (.ref A) (some d) σ m1 _ (Ext.new S1.rel _ hd) (S1.rel.new _ hd) (S1.env.ext (Ext.new S1.rel _ hd)) ⟨p', A, hp', f1, rfl, .inr ⟨hf, i, d, rfl, rfl, upd_same, S1.rel.notin hd⟩⟩
  · rw [if_neg hs] at q1
    exact q1.elim
theorem evSh_ret {c : Nat} {fs : List (Nat × D)} {ρ : Env} {st : Sto} : ∀ s : Sh, (∃ d, evSh G c fs ρ st s = .ret d st) ∨ (∃ ρ2, evSh G c fs ρ st s = .next ρ2 st) ∨ evSh G c fs ρ st s = .bad := by
  intro s
  induction s with
  | ret e =>
    unfold evSh
    split
    · exact .inl ⟨_, rfl⟩
    · exact .inr (.inr rfl)
  | retN => exact .inl ⟨_, rfl⟩
  | setN i e =>
    unfold evSh
    split
    · exact .inr (.inl ⟨_, rfl⟩)
    · exact .inr (.inr rfl)
  | ifR e a r ih =>
    unfold evSh
    split
    · split
      · exact .inl ⟨_, rfl⟩
      · exact .inr (.inr rfl)
    · exact ih
    · exact .inr (.inr rfl)
  | raise c => exact .inr (.inr rfl)
  | badH => exact .inr (.inr rfl)
theorem upost {c : Nat} {fs : List (Nat × D)} {s : Sh} {ρ' : Env} {st' : Sto} {m1 : Mp} {H1 : Hp} (x : Ext m H m1 H1) (q : SPost X.K X.mg G fls m H W (evSh G c fs ρ' st' s) B) : UPost X.K X.mg G fls m1 H1 (evSh G c fs ρ' st' s) B := by
  rcases evSh_ret (G := G) (c := c) (fs := fs) (ρ := ρ') (st := st') s with ⟨d, e⟩ | ⟨ρ2, e⟩ | e
  · rw [e] at q ⊢
    exact fun v m2 H2 x2 R2 r2 => q v m2 H2 (x.trans x2) R2 r2
  · rw [e] at q ⊢
    exact fun σ m2 H2 x2 R2 r2 => q σ m2 H2 (x.trans x2) R2 r2
  · rw [e] at q
    exact q.elim
theorem uok_of {a : Addr} {oe : Obj} {pn : List (Addr × Obj)} {c : Nat} {p : Str × Bool × List Nat} {A : Addr} {dd : Option Addr} {nm : Option Str} {i : Option Nat} (ok : XOk G C k W N sc X) (so : SOk X W) (hz : L2.Zc (.ref A) dd oe) (hv : ∃ vs, oe.data = .fields vs) (e1 : G.excs[c]? = some p) (e2 : X.mg p.1 = some (.ref A))
    (hd : dd = none ∨ p.2.1 = true) (hs : nm = i.bind fun j => N[j]?) :
    UOk (X.suite a ((a, oe) :: pn)) G N sc nm i a c dd := by
  obtain ⟨A', f1, f2, f3, f4, f5, f6⟩ := ok.exc.one c p e1
  rw [e2] at f1
  cases f1
  refine ⟨ok.n, ok.nd, ok.sc, ok.blt .isinst, ok.exc, so.fn, hs, p, A, e1, e2, EvI.call_isE2 f6 hz hv, fun d' e te pos hdd he hb => ?_⟩
  rcases hd with z | z
  · rw [z] at hdd; cases hdd
  · obtain ⟨A2, fI, D, fd, g1, g2, g3, g4, g5⟩ := ok.ixs c p e1 z
    rw [e2] at g1
    cases g1
    exact pe_xf ⟨f6.hg, f6.hk, f6.hs, f6.hd⟩ g3.fld hz hv he hb
theorem ErrR.xd {c : Nat} {fs : List (Nat × D)} {cls : Value} {dd : Option Addr} {mg : Str → Option Value} (h : ErrR G mg m H c fs cls dd) : ∃ p A, G.excs[c]? = some p ∧ mg p.1 = some (.ref A) ∧ cls = .ref A ∧ (dd = none ∨ p.2.1 = true) ∧ XdR m H fs dd := by
  obtain ⟨p, A, h1, h2, h3, ⟨h4, h5, h6⟩ | ⟨h4, h5⟩⟩ := h
  · exact ⟨p, A, h1, h2, h3, .inl h6, .inl ⟨h5, h6⟩⟩
  · exact ⟨p, A, h1, h2, h3, .inr h4, .inr h5⟩
/-- what the clause does with the error -/
def tsH (X : Cx) (G : Prog) (i : Option Nat) (s : Sh) : Addr → Value → Option Addr → TS := fun a cls d B σ H => ∃ c fs m0, ErrR G X.mg m0 H c fs cls d ∧ tShT X G i a c fs d s B σ H
theorem suite_ok {i : Option Nat} {nm : Option Str} {s : Sh} {ss : List Stmt} (ok : XOk G C k W N sc X) (so : SOk X W) (hs : nm = i.bind fun j => N[j]?) (h : emSh G N sc nm s ss = true) :
    ∀ (a : Addr) (oe : Obj) (cls : Value) (d : Option Addr) (pn : List (Addr × Obj)), L2.Zc cls d oe → (∃ vs, oe.data = .fields vs) → PSs (X.suite a ((a, oe) :: pn)) ss (tsH X G i s a cls d) := by
  intro a oe cls d pn hz hv
  refine ⟨fun pins s0 σ H D I h0 => ?_⟩
  obtain ⟨c, fs, m0, er, h1⟩ := h0
  obtain ⟨p, A, e1, e2, rfl, hd, _⟩ := er.xd
  exact (u_sh (uok_of ok so hz hv e1 e2 hd hs) s ss h).run pins s0 σ H D I h1
theorem XOk.tr (ok : XOk G C k W N sc X) (frm : X.env.frame = some X.env.locals) {W' : WX} {pn : List (Addr × Obj)} {xe : Value → Shared → Prop} (tk : Takes (X.tr pn xe) W') : XOk G C k W' N sc (X.tr pn xe) where
  n := ok.n
  nd := ok.nd
  sc := ok.sc
  calm := ok.calm
  room := ok.room
  tk := takesG_of tk frm
  inF := ok.inF
  blt := ok.blt
  rng := ok.rng
  rev := ok.rev
  tys := ok.tys
  exc := ok.exc
  ixs := ok.ixs
  fns := ok.fns
  cons := ok.cons
  dics := ok.dics
  clss := ok.clss
theorem names_of (ok : XOk G C k W N sc X) {c : Nat} {x : Str} (h : excB G sc c x = true) : ∃ p A, G.excs[c]? = some p ∧ p.1 = x ∧ X.mg x = some (.ref A) ∧ L2.Names X x (.ref A) := by
  unfold excB at h
  simp only [Bool.and_eq_true, decide_eq_true_eq, Option.map_eq_some_iff] at h
  obtain ⟨⟨⟨p', hp, rfl⟩, h6⟩, h7⟩ := h
  obtain ⟨A, f1, _⟩ := ok.exc.one c p' hp
  exact ⟨p', A, hp, rfl, f1, gl_of ok h6, (name_dbg h7).1, .inl f1⟩
theorem q_try0 {b : Sms} {s : Sh} {c : Nat} {x : Str} {sb : List Stmt} {s0 : Stmt} {ss : List Stmt} {np pos' : Pos} (ok : XOk G C k W N sc X) (so : SOk X W) (hx : excB G sc c x = true) (hs : emSh G N sc none s (s0 :: ss) = true)
    (hb : ∀ (X' : Cx) (W' : WX), XOk G C k W' N sc X' → SOk X' W' → PSs X' sb (tSs X' G C fl W' b)) :
    PS X (.Try sb [.ExceptHandler (some (.Name x np)) none (s0 :: ss) pos'] [] [] pos) (tS X G C fl W (.tryS b (.cons c none s .nil))) := by
  obtain ⟨p, A, e1, rfl, e2, hn⟩ := names_of ok hx
  refine (L2.ps_try_only (tb := fun W' => tSs X G C fl W' b) so.stk so.frm hn so.tk (fun W' pn xe tk ps => hb (X.tr pn xe) W' (ok.tr so.frm tk) ⟨so.fn, so.stk, so.frm, ps, tk⟩) (suite_ok (i := none) (nm := none) ok so rfl hs)).im fun B σ H ⟨ρ, fls, st, m, S, q⟩ => ?_
  unfold evS at q
  refine ⟨ρ, fls, st, m, S, ?_⟩
  cases e : evSs G (C fl) fl b ρ st with
  | next ρ' st' => rw [e] at q; exact q
  | brk ρ' st' => rw [e] at q; exact q
  | cont ρ' st' => rw [e] at q; exact q
  | ret d st' => rw [e] at q; exact q
  | bad => rw [e] at q; exact q
  | exc c1 fs ρ' st' =>
    rw [e] at q
    intro cls dd σ' m' H' x1 R1 E1 er
    obtain ⟨p1, A1, g1, g2, rfl, _, hxd⟩ := er.xd
    have two := (ok.exc.two c1 p1 c p A1 A g1 e1 g2 e2).1
    refine ⟨subB G c1 c, two, fun hb1 a ha => ?_, fun hb0 => ?_⟩
    · unfold evH at q
      dsimp only at q
      rw [if_pos hb1] at q
      exact ⟨c1, fs, m', er, ρ', fls, st', m', ⟨R1, E1, (fun j hj => by cases hj), hxd⟩, upost x1 q⟩
    · unfold evH at q
      dsimp only at q
      rw [if_neg (by rw [hb0]; exact Bool.false_ne_true)] at q
      unfold evH at q
      exact q (.ref A1) dd σ' m' H' x1 R1 E1 er
theorem EnvR.gone {K : PySem.W.Frag} {mg : Str → Option Value} {m : Mp} {H : Hp} {ρ : Env} {σ : St} (E : EnvR K mg G m H ρ σ) (i : Nat) (v : Option V) : EnvR K mg G m H (ρ.set i none) (σ.set i v) := by
  refine ⟨by simp [E.1], fun j d e => ?_⟩
  rw [List.getElem?_set] at e
  split at e
  · split at e <;> cases e
  · rename_i hne
    obtain ⟨u, h1, h2⟩ := E.2 j d e
    exact ⟨u, by rw [List.getElem?_set_ne hne]; exact h1, h2⟩
theorem q_try1 {b : Sms} {s : Sh} {c i : Nat} {x n : Str} {sb : List Stmt} {s0 : Stmt} {ss : List Stmt} {np pos' : Pos} (ok : XOk G C k W N sc X) (so : SOk X W) (hx : excB G sc c x = true) (hi : N[i]? = some n) (hl : lclB sc n = true) (hs : emSh G N sc (some n) s (s0 :: ss) = true)
    (hb : ∀ (X' : Cx) (W' : WX), XOk G C k W' N sc X' → SOk X' W' → PSs X' sb (tSs X' G C fl W' b)) :
    PS X (.Try sb [.ExceptHandler (some (.Name x np)) (some n) (s0 :: ss) pos'] [] [] pos) (tS X G C fl W (.tryS b (.cons c (some i) s .nil))) := by
  obtain ⟨p, A, e1, rfl, e2, hn⟩ := names_of ok hx
  have hk : X.env.kindOf n = some .local := by
    show X.env.scope.names.lookup n = _
    rw [ok.sc]
    unfold lclB at hl
    split at hl
    · assumption
    · cases hl
  refine (L2.ps_try_as (i := i) (tb := fun W' => tSs X G C fl W' b) so.stk so.frm ok.nd (by rw [ok.n]; exact hi) hk hn so.tk (fun W' pn xe tk ps => hb (X.tr pn xe) W' (ok.tr so.frm tk) ⟨so.fn, so.stk, so.frm, ps, tk⟩) (suite_ok (i := some i) (nm := some n) ok so hi.symm hs)).im fun B σ H ⟨ρ, fls, st, m, S, q⟩ => ?_
  unfold evS at q
  refine ⟨ρ, fls, st, m, S, ?_⟩
  cases e : evSs G (C fl) fl b ρ st with
  | next ρ' st' => rw [e] at q; exact q
  | brk ρ' st' => rw [e] at q; exact q
  | cont ρ' st' => rw [e] at q; exact q
  | ret d st' => rw [e] at q; exact q
  | bad => rw [e] at q; exact q
  | exc c1 fs ρ' st' =>
    rw [e] at q
    intro cls dd σ' m' H' x1 R1 E1 er
    obtain ⟨p1, A1, g1, g2, rfl, _, hxd⟩ := er.xd
    have two := (ok.exc.two c1 p1 c p A1 A g1 e1 g2 e2).1
    refine ⟨subB G c1 c, two, fun hb1 a ha => ?_, fun hb0 => ?_⟩
    · unfold evH at q
      dsimp only at q
      rw [if_pos hb1] at q
      split at q
      · rename_i hlt
        refine ⟨c1, fs, m', er, ρ'.set i none, fls, st', m', ⟨R1, E1.gone i _, fun j hj => ?_, hxd⟩, ?_⟩
        · cases hj
          rw [List.getElem?_set_self (by rw [← E1.1]; exact hlt)]
        · rcases evSh_ret (G := G) (c := c1) (fs := fs) (ρ := ρ'.set i none) (st := st') s with ⟨d, e⟩ | ⟨ρ2, e⟩ | e
          · rw [e] at q ⊢
            exact fun v m2 H2 x2 R2 r2 => q v m2 H2 (x1.trans x2) R2 r2
          · rw [e] at q ⊢
            exact fun σ2 m2 H2 x2 R2 r2 => q _ m2 H2 (x1.trans x2) R2 (r2.gone i none)
          · rw [e] at q
            exact q.elim
      · exact q.elim
    · unfold evH at q
      dsimp only at q
      rw [if_neg (by rw [hb0]; exact Bool.false_ne_true)] at q
      unfold evH at q
      exact q (.ref A1) dd σ' m' H' x1 R1 E1 er
theorem q_expr {e : Ex} {ev : Expr} (he : PE X ev (tE X G C fl W e)) (hc : cmpB ev = false) : PS X (.Expr ev pos) (tS X G C fl W (.expr e)) :=
  (ps_expr he (noswap hc)).im fun B σ H ⟨ρ, fls, st, m, S, q⟩ => by
    unfold evS at q
    exact s1 S q fun x st1 v m1 H1 e1 S1 r1 q1 => q1 σ m1 H1 Ext.refl S1.rel S1.env
theorem q_doc {x j p} : PS X (.Expr (.Constant (.str x) j p) pos) (tS X G C fl W .doc) :=
  ps_doc.im fun B σ H ⟨ρ, fls, st, m, S, q⟩ => by
    unfold evS at q
    exact q σ m H Ext.refl S.rel S.env
theorem q_brk : PS X (.Break pos) (tS X G C fl W .brk) :=
  ps_break.im fun B σ H ⟨ρ, fls, st, m, S, q⟩ => by
    unfold evS at q
    exact q σ m H Ext.refl S.rel S.env
theorem q_cont : PS X (.Continue pos) (tS X G C fl W .cont) :=
  ps_continue.im fun B σ H ⟨ρ, fls, st, m, S, q⟩ => by
    unfold evS at q
    exact q σ m H Ext.refl S.rel S.env
theorem q_set {i : Nat} {x : Str} {e : Ex} {ev : Expr} {px : Pos} (ok : XOk G C k W N sc X) (so : SOk X W) (h1 : N[i]? = some x) (h2 : locB sc x = true) (he : PE X ev (tE X G C fl W e)) (hc : cmpB ev = false) :
    PS X (.Assign [.Name x px] ev pos) (tS X G C fl W (.set i e)) :=
  (ps_set (i := i) ok.nd (by rw [ok.n]; exact h1) (loc_ok ok h2) he (noswap hc) (.inl (so.fn x))).im fun B σ H ⟨ρ, fls, st, m, S, q⟩ => by
    unfold evS at q
    exact s1 S q fun x st1 v m1 H1 e1 S1 r1 q1 => q1 _ m1 H1 Ext.refl S1.rel (S1.env.set r1 i)
theorem q_set2 {i : Nat} {x : Str} {e : Ex} {ev : Expr} {px : Pos} (ok : XOk G C k W N sc X) (so : SOk X W) (h1 : N[i]? = some x) (h2 : locB sc x = true) (he : PE X ev (tE X G C fl W e)) (hc : nswB sc x ev = true) :
    PS X (.Assign [.Name x px] ev pos) (tS X G C fl W (.set i e)) := by
  have hsw : swapsWith ev (some (.Name x px)) pos.line X.env = pure false := by
    unfold nswB at hc
    split at hc
    · split at hc
      · rename_i hk
        have hk2 : X.env.kindOf x = some .cell := by
          show X.env.scope.names.lookup x = _
          rw [ok.sc]; exact hk
        unfold swapsWith
        simp only [hk2]
        have : ((some NameKind.cell == some NameKind.local) : Bool) = false := rfl
        simp only [this, Bool.and_false, Bool.false_and]
      · cases hc
    · split at hc
      · rename_i hk
        have hk2 : X.env.kindOf x = some .cell := by
          show X.env.scope.names.lookup x = _
          rw [ok.sc]; exact hk
        unfold swapsWith
        simp only [hk2]
        have : ((some NameKind.cell == some NameKind.local) : Bool) = false := rfl
        simp only [this, Bool.and_false, Bool.false_and]
      · cases hc
    · cases hc
  exact (ps_set (i := i) ok.nd (by rw [ok.n]; exact h1) (loc_ok ok h2) he hsw (.inl (so.fn x))).im fun B σ H ⟨ρ, fls, st, m, S, q⟩ => by
    unfold evS at q
    exact s1 S q fun x st1 v m1 H1 e1 S1 r1 q1 => q1 _ m1 H1 Ext.refl S1.rel (S1.env.set r1 i)
theorem q_sets {is : List Nat} {e : Ex} {ev : Expr} {ts : List Expr} {j : Nat} {p : Pos} (ok : XOk G C k W N sc X) (so : SOk X W) (h1 : emTs N (locB sc) is ts = true) (he : PE X ev (tE X G C fl W e)) (hc : cmpB ev = false) (ht : tupB ev = false) :
    PS X (.Assign [.Tuple ts j p] ev pos) (tS X G C fl W (.sets is e)) := by
  have hg : PG X (.Tuple ts j p) (gT X.K (.many is)) := pgT (ok := locB sc) (by unfold emTg; exact h1) ok.n ok.nd ok.calm fun x hx => ⟨loc_ok ok hx, .inl (so.fn x)⟩
  have hw : swappedStores [.Tuple ts j p] ev X.env = pure none := by
    cases ev <;> first | rfl | (simp [tupB] at ht)
  refine (ps_asg (pos := pos) he hg (by show swapsWith ev (some (.Tuple ts j p)) pos.line X.env = pure false; exact noswap hc) hw rfl).im fun B σ H ⟨ρ, fls, st, m, S, q⟩ => ?_
  unfold evS at q
  refine s1 S q fun x st1 v m1 H1 e1 S1 r1 q1 => ?_
  cases ha : asg ρ (.many is) x with
  | none => rw [ha] at q1; exact q1.elim
  | some ρ' =>
    rw [ha] at q1
    exact asg_read ha r1 S1.env fun σ' E' _ => q1 σ' m1 H1 Ext.refl S1.rel E'
theorem q_if {c : Ex} {a b : Sms} {ec : Expr} {sa sb : List Stmt} (hc : PT X ec (tT X G C fl W c)) (ha : PSs X sa (tSs X G C fl W a)) (hb : PSs X sb (tSs X G C fl W b)) : PS X (.If ec sa sb pos) (tS X G C fl W (.ifS c a b)) := by
  refine (ps_if hc ha hb).im fun B σ H ⟨ρ, fls, st, m, S, q⟩ => ?_
  unfold evS at q
  refine sT1 S q (fun x st1 h => ?_) fun b st1 m1 H1 e1 S1 q1 => ?_
  · cases x <;> first | rfl | (rename_i b; cases b <;> exact absurd rfl (h _))
  · cases b with
    | true => rw [if_pos rfl]; exact ⟨ρ, fls, st1, m1, S1, q1⟩
    | false => rw [if_neg Bool.false_ne_true]; exact ⟨ρ, fls, st1, m1, S1, q1⟩
theorem q_nil : PSs X [] (tSs X G C fl W .nil) :=
  pss_nil.im fun B σ H ⟨ρ, fls, st, m, S, q⟩ => by
    unfold evSs at q
    exact q σ m H Ext.refl S.rel S.env
theorem q_cons {a : Sm} {r : Sms} {s : Stmt} {ss : List Stmt} (ha : PS X s (tS X G C fl W a)) (hr : PSs X ss (tSs X G C fl W r)) : PSs X (s :: ss) (tSs X G C fl W (.cons a r)) := by
  refine (pss_cons ha hr).im fun B σ H ⟨ρ, fls, st, m, S, q⟩ => ?_
  unfold evSs at q
  refine ⟨ρ, fls, st, m, S, ?_⟩
  cases e : evS G (C fl) fl a ρ st with
  | next ρ' st' =>
    rw [e] at q
    exact fun σ' m' H' e1 R1 E1 => ⟨ρ', fls, st', m', ⟨R1, S.flf, (S.ext e1 R1).fll, E1⟩, SPost.ext e1 q⟩
  | ret d st' => rw [e] at q; exact q
  | brk ρ' st' => rw [e] at q; exact q
  | cont ρ' st' => rw [e] at q; exact q
  | exc c fs ρ' st' => rw [e] at q; exact q
  | bad => rw [e] at q; exact q

/-! ### a comprehension given to a name -/
theorem q_lcset {i : Nat} {x : Str} {elt : Ex} {tg : Tg} {src : Src} {test : Exs} {own : List Nat} {box : Bool} {px spos : Pos} {eelt etg eit : Expr} {eifs : List Expr} {scope : Scope} {p : Pos} {eb : Ex}
    (ok : XOk G C k W N sc X) (so : SOk X W) (h1 : N[i]? = some x) (hsw : swpB sc x px (.ListComp eelt [⟨etg, eit, eifs, 0⟩] scope p) = true) (h : emE G N (.lc elt tg src test own) sc (.ListComp eelt [⟨etg, eit, eifs, 0⟩] scope p) = true)
    (hb : eb = if box = true then .box (.lc elt tg src test own) else .lc elt tg src test own) :
    PS X (.Assign [.Name x px] (.ListComp eelt [⟨etg, eit, eifs, 0⟩] scope p) spos) (tS X G C fl W (.set i eb)) := by
  unfold emE at h
  simp only [Bool.and_eq_true, decide_eq_true_eq] at h
  obtain ⟨⟨⟨⟨⟨⟨⟨⟨⟨h1', h2⟩, h3⟩, h4⟩, h4b⟩, h4c⟩, h5⟩, h6⟩, h7⟩, h8⟩ := h
  have okB : BlkOk X.N X.env.scope scope (ownN N own) := by rw [ok.n, ok.sc]; exact blkOk_by h6
  unfold swpB at hsw
  simp only [Bool.and_eq_true, beq_iff_eq] at hsw
  obtain ⟨⟨g1, g2⟩, g3⟩ := hsw
  have hxl : X.env.scope.names.lookup x = some .local := by
    rw [ok.sc]
    unfold lclB at g1
    split at g1 <;> first | assumption | cases g1
  have hkind : X.env.scope.kind = .function ∨ True := .inr trivial
  refine ⟨fun pins s σ H B I hq => ?_⟩
  have hsw : swapsWith (.ListComp eelt [⟨etg, eit, eifs, 0⟩] scope p) (some (.Name x px)) spos.line X.env = pure true := sw_true I.ok.kind hxl (by rw [g2]; simp) g3
  refine (ps_setLcX (own := ownN N own) (i := i) (g := gT X.K tg) (tt := fun σ D => tTs X G C fl (WB W σ D) test) (te := fun σ D => tE X G C fl (WB W σ D) elt) ok.tk ok.inF ok.calm ok.nd (by rw [ok.n]; exact h1) hxl hsw (exI (fl := fl) src sc _ h3 etg X W ok) okB
    (fun σ s H c cl fp D => pgT h2 ok.n ok.nd ok.calm fun x hx => blk_loc s H c cl fp hx)
    (fun σ s H c cl fp D => (exEs test _ _ h4 _ (WB W σ D) (ok.blkX σ D s H scope cl c fp)).tests h5 h4b) (fun σ s H c cl fp D => (exE elt _ _ h1' _ (WB W σ D) (ok.blkX σ D s H scope cl c fp)).pe) (fold_pl h4c)).run pins s σ H B I ?_
  rw [h8]
  refine lc_imp (fun i hi => by simpa using List.all_eq_true.mp h7 i hi) σ H _ ?_
  obtain ⟨ρ, fls, st, m, S, q⟩ := hq
  unfold evS at q
  cases box with
  | false =>
    rw [if_neg Bool.false_ne_true] at hb
    subst hb
    exact to_F (s1 S q fun x st1 v m1 H1 e1 S1 r1 q1 => q1 _ m1 H1 Ext.refl S1.rel (S1.env.set r1 i))
  | true =>
    rw [if_pos rfl] at hb
    subst hb
    have key := s1 (P := fun v H1 => gName i v σ H1 B.nx) S q fun x st1 v m1 H1 e1 S1 r1 q1 => q1 _ m1 H1 Ext.refl S1.rel (S1.env.set r1 i)
    exact box_F key

theorem sw_trueD {kx vx : Expr} {gs : List Comprehension} {scope : Scope} {pos py : Pos} {y : Str} {l : Nat} {env : PySem.Env} (hk : env.scope.kind = .function) (hy : env.scope.names.lookup y = some .local) (hl : (py.line == pos.line) = true)
    (ha : (scope.names.any fun (n, k) => n == y && (k == .local || k == .cell)) = false) : swapsWith (.DictComp kx vx gs scope pos) (some (.Name y py)) l env = pure true := by
  have ky : env.kindOf y = some .local := hy
  have hb : env.blockKind = .function := by unfold PySem.Env.blockKind; rw [hk]; rfl
  unfold swapsWith
  simp only [hb, ky, ha, Expr.pos, hl]
  rfl
theorem ps_setDc {i : Nat} {y : Str} {py : Pos} {kx vx tg iter : Expr} {ifs : List Expr} {scope : Scope} {own : List (Str × Nat)} {pos spos : Pos} {wi : TI} {g : TG} {tt : TT} {tk tv : TE} (hc : X.calm = true) (hN : X.N.Nodup) (hy : X.N[i]? = some y) (hyl : X.env.scope.names.lookup y = some .local)
    (hsw : swapsWith (.DictComp kx vx [⟨tg, iter, ifs, 0⟩] scope pos) (some (.Name y py)) spos.line X.env = pure true) (hi : PI X tg iter wi) (ok : BlkOk X.N X.env.scope scope own)
    (hg : ∀ (s : Shared) (H : Hp) (C : Addr) (cl : List (Str × Addr)) (fp : List Addr), PG (X.blk s H scope (compEnvC scope cl C X.env) fp) tg g) (ht : ∀ (s : Shared) (H : Hp) (C : Addr) (cl : List (Str × Addr)) (fp : List Addr), PTs (X.blk s H scope (compEnvC scope cl C X.env) fp) ifs tt)
    (hk : ∀ (s : Shared) (H : Hp) (C : Addr) (cl : List (Str × Addr)) (fp : List Addr), PE (X.blk s H scope (compEnvC scope cl C X.env) fp) kx tk)
    (he : ∀ (s : Shared) (H : Hp) (C : Addr) (cl : List (Str × Addr)) (fp : List Addr), PE (X.blk s H scope (compEnvC scope cl C X.env) fp) vx tv) (hs : ∀ x, foldedSetIterable iter X.env x = pure x) :
    PS X (.Assign [.Name y py] (.DictComp kx vx [⟨tg, iter, ifs, 0⟩] scope pos) spos) (tAsg (tDc wi g tt tk tv (own.map (·.2))) (gName i)) := by
  refine ⟨fun pins s σ H D I h => ?_⟩
  rw [exec_Assign_Name_used _ _ _ _ hsw]
  refine wpAny_bind (wpAny_standAt (wpAny_bind ?_))
  show wpAny _ X.A (do let _ ← comprehension (.DictComp kx vx [⟨tg, iter, ifs, 0⟩] scope pos) scope X.env (firstIterPos [⟨tg, iter, ifs, 0⟩] pos) newDict false (eval iter X.env) (some (assign (.Name y py) X.env))) _ _ s
  have h : tDc wi g tt tk tv (own.map (·.2)) σ H (fun x H1 => gName i x σ H1 D.nx) := h
  refine wpAny_bind (thn (dc_core (Qf := fun _ s' => SP X pins D .next s') hc hN I hi ok hg ht hk he hs h fun L C s' m H' I' q hn f => ?_) fun _ s' hq => wpAny_pure (wpAny_pure hq))
  show wpAny _ _ (assign (.Name y py) X.env (.ref L)) _ _ _
  refine wpAny_assign_Name (store_ok2 (v := V.ref L) I' hN hy (.inl hyl) rfl (fun s2 I2 ⟨a, sb, ha⟩ => ?_) (.inr hyl))
  obtain ⟨f0, f1, f2, f3, f4, f5⟩ := f
  have haC : C ≠ a := by
    rcases ha with z | z
    · rw [z]; exact f1
    · exact fun e => f4 y a z e.symm
  refine ⟨m, hn.sameBut sb haC, fun h3 sb3 => ?_⟩
  exact ⟨_, H', I2.turned (t' := s2.toks) (fun b o hb e => (sb3.2 b hb).trans e) f0 f1 f3 f4 f5, q⟩
theorem q_dcset {i : Nat} {x : Str} {kx vx : Ex} {tg : Tg} {src : Src} {test : Exs} {own : List Nat} {box : Bool} {px spos : Pos} {ek ev etg eit : Expr} {eifs : List Expr} {scope : Scope} {p : Pos} {eb : Ex}
    (ok : XOk G C k W N sc X) (so : SOk X W) (h1 : N[i]? = some x) (hsw : swpB sc x px (.DictComp ek ev [⟨etg, eit, eifs, 0⟩] scope p) = true) (h : emE G N (.dc kx vx tg src test own) sc (.DictComp ek ev [⟨etg, eit, eifs, 0⟩] scope p) = true)
    (hb : eb = if box = true then .box (.dc kx vx tg src test own) else .dc kx vx tg src test own) :
    PS X (.Assign [.Name x px] (.DictComp ek ev [⟨etg, eit, eifs, 0⟩] scope p) spos) (tS X G C fl W (.set i eb)) := by
  unfold emE at h
  simp only [Bool.and_eq_true, decide_eq_true_eq] at h
  obtain ⟨⟨⟨⟨⟨⟨⟨⟨⟨⟨h1', h1v⟩, h2⟩, h3⟩, h4⟩, h4b⟩, h4c⟩, h5⟩, h6⟩, h7⟩, h8⟩ := h
  have okB : BlkOk X.N X.env.scope scope (ownN N own) := by rw [ok.n, ok.sc]; exact blkOk_by h6
  unfold swpB at hsw
  simp only [Bool.and_eq_true, beq_iff_eq] at hsw
  obtain ⟨⟨g1, g2⟩, g3⟩ := hsw
  have hxl : X.env.scope.names.lookup x = some .local := by
    rw [ok.sc]
    unfold lclB at g1
    split at g1 <;> first | assumption | cases g1
  refine ⟨fun pins s σ H B I hq => ?_⟩
  have hsw : swapsWith (.DictComp ek ev [⟨etg, eit, eifs, 0⟩] scope p) (some (.Name x px)) spos.line X.env = pure true := sw_trueD I.ok.kind hxl (by rw [g2]; simp) g3
  refine (ps_setDc (own := ownN N own) (i := i) (g := gT X.K tg) (tt := tTs X G C fl W0 test) (tk := tE X G C fl W0 kx) (tv := tE X G C fl W0 vx) ok.calm ok.nd (by rw [ok.n]; exact h1) hxl hsw (exI (fl := fl) src sc _ h3 etg X W ok) okB
    (fun s H c cl fp => pgT h2 ok.n ok.nd ok.calm fun x hx => blk_loc s H c cl fp hx)
    (fun s H c cl fp => (exEs test _ _ h4 _ W0 (ok.blk s H scope cl c fp)).tests h5 h4b) (fun s H c cl fp => (exE kx _ _ h1' _ W0 (ok.blk s H scope cl c fp)).pe) (fun s H c cl fp => (exE vx _ _ h1v _ W0 (ok.blk s H scope cl c fp)).pe) (fold_pl h4c)).run pins s σ H B I ?_
  rw [h8]
  refine dc_imp (fun i hi => by simpa using List.all_eq_true.mp h7 i hi) σ H _ ?_
  obtain ⟨ρ, fls, st, m, S, q⟩ := hq
  unfold evS at q
  cases box with
  | false =>
    rw [if_neg Bool.false_ne_true] at hb
    subst hb
    exact to_F (s1 S q fun x st1 v m1 H1 e1 S1 r1 q1 => q1 _ m1 H1 Ext.refl S1.rel (S1.env.set r1 i))
  | true =>
    rw [if_pos rfl] at hb
    subst hb
    have key := s1 (P := fun v H1 => gName i v σ H1 B.nx) S q fun x st1 v m1 H1 e1 S1 r1 q1 => q1 _ m1 H1 Ext.refl S1.rel (S1.env.set r1 i)
    exact box_F key

/-! ### stores to items -/
def tSetD : V → V → V → Hp → (Hp → Prop) → Prop := fun o i v H Q => ∃ a H4, o = .ref a ∧ DPut H a i v H4 ∧ Q H4
theorem set_dict (hu : X.A.units + 1 < cLine) : PSet X tSetD := by
  intro pins s σ H o i v ov iv u Q I ro ri rv h
  obtain ⟨a, H4, rfl, g, q⟩ := h
  cases ro
  exact d_setItem hu I g ri rv fun s' I' => ⟨H4, I', q⟩
def tSetAny (X : Cx) : V → V → V → Hp → (Hp → Prop) → Prop := fun o i v H Q => ∃ t, PSet X t ∧ t o i v H Q
theorem setAny : PSet X (tSetAny X) := fun pins s σ H o i v ov iv u Q I ro ri rv ⟨_, h1, h2⟩ => h1 pins s σ H o i v ov iv u Q I ro ri rv h2
theorem RepK.put {K : PySem.W.Frag} {mg : Str → Option Value} {m : Mp} {H : Hp} {ds : List (Key × D)} {kvs : List (Key × V)} (r : RepK K mg G m H ds kvs) {d : D} {v : V} (q : Rep K mg G m H d v) (k : Key) : RepK K mg G m H (dput ds k d) (putK kvs k v) := by
  have any : ∀ {ds : List (Key × D)} {kvs : List (Key × V)}, RepK K mg G m H ds kvs → (ds.any fun kv => decide (kv.1 = k)) = kvs.any fun kv => decide (kv.1 = k) := by
    intro ds
    induction ds with
    | nil => intro kvs r; cases r; rfl
    | cons p ds ih => intro kvs r; cases r with | cons a t => simp only [List.any_cons, ih t]
  have mapp : ∀ {ds : List (Key × D)} {kvs : List (Key × V)}, RepK K mg G m H ds kvs → RepK K mg G m H (ds.map fun kv => if kv.1 = k then (kv.1, d) else kv) (kvs.map fun kv => if kv.1 = k then (kv.1, v) else kv) := by
    intro ds
    induction ds with
    | nil => intro kvs r; cases r; exact .nil
    | cons p ds ih =>
      intro kvs r
      cases r with
      | @cons k0 d0 v0 _ _ a t =>
        simp only [List.map_cons]
        by_cases e : k0 = k
        · rw [if_pos e, if_pos e]; exact .cons q (ih t)
        · rw [if_neg e, if_neg e]; exact .cons a (ih t)
  have app : ∀ {ds : List (Key × D)} {kvs : List (Key × V)}, RepK K mg G m H ds kvs → RepK K mg G m H (ds ++ [(k, d)]) (kvs ++ [(k, v)]) := by
    intro ds
    induction ds with
    | nil => intro kvs r; cases r; exact .cons q .nil
    | cons p ds ih => intro kvs r; cases r with | cons a t => exact .cons a (ih t)
  unfold dput putK
  rw [any r]
  split
  · exact mapp r
  · exact app r
theorem RepT.put {K : PySem.W.Frag} {mg : Str → Option Value} {m : Mp} {H : Hp} {ds : List (List Key × D)} {kvs : List (List Key × V)} (r : RepT K mg G m H ds kvs) {d : D} {v : V} (q : Rep K mg G m H d v) (k : List Key) : RepT K mg G m H (dput ds k d) (putK kvs k v) := by
  have any : ∀ {ds : List (List Key × D)} {kvs : List (List Key × V)}, RepT K mg G m H ds kvs → (ds.any fun kv => decide (kv.1 = k)) = kvs.any fun kv => decide (kv.1 = k) := by
    intro ds
    induction ds with
    | nil => intro kvs r; cases r; rfl
    | cons p ds ih => intro kvs r; cases r with | cons a t => simp only [List.any_cons, ih t]
  have mapp : ∀ {ds : List (List Key × D)} {kvs : List (List Key × V)}, RepT K mg G m H ds kvs → RepT K mg G m H (ds.map fun kv => if kv.1 = k then (kv.1, d) else kv) (kvs.map fun kv => if kv.1 = k then (kv.1, v) else kv) := by
    intro ds
    induction ds with
    | nil => intro kvs r; cases r; exact .nil
    | cons p ds ih =>
      intro kvs r
      cases r with
      | @cons k0 d0 v0 _ _ a t =>
        simp only [List.map_cons]
        by_cases e : k0 = k
        · rw [if_pos e, if_pos e]; exact .cons q (ih t)
        · rw [if_neg e, if_neg e]; exact .cons a (ih t)
  have app : ∀ {ds : List (List Key × D)} {kvs : List (List Key × V)}, RepT K mg G m H ds kvs → RepT K mg G m H (ds ++ [(k, d)]) (kvs ++ [(k, v)]) := by
    intro ds
    induction ds with
    | nil => intro kvs r; cases r; exact .cons q .nil
    | cons p ds ih => intro kvs r; cases r with | cons a t => exact .cons a (ih t)
  unfold dput putK
  rw [any r]
  split
  · exact mapp r
  · exact app r
theorem los_set {f : Nat} {d : D} (hd : d.lo f = true) : ∀ (xs : List D) (j : Nat), D.los f xs = true → D.los f (xs.set j d) = true
  | [], _, _ => rfl
  | x :: xs, 0, h => by
    simp only [D.los, Bool.and_eq_true] at h
    show (D.lo f d && D.los f xs) = true
    rw [hd, h.2]; rfl
  | x :: xs, j + 1, h => by
    simp only [D.los, Bool.and_eq_true] at h
    show (D.lo f x && D.los f (xs.set j d)) = true
    rw [h.1, los_set hd xs j h.2]; rfl
theorem loK_put {f : Nat} {d : D} {k : Key} (hd : d.lo f = true) (xs : List (Key × D)) (h : D.loK f xs = true) : D.loK f (dput xs k d) = true := by
  have mp : ∀ xs : List (Key × D), D.loK f xs = true → D.loK f (xs.map fun kv => if kv.1 = k then (kv.1, d) else kv) = true := by
    intro xs
    induction xs with
    | nil => intro _; rfl
    | cons p xs ih =>
      intro h
      simp only [D.loK, Bool.and_eq_true] at h
      simp only [List.map_cons]
      show (D.lo f (if p.1 = k then (p.1, d) else p).2 && D.loK f _) = true
      rw [ih h.2]
      split
      · rw [hd]; rfl
      · rw [h.1]; rfl
  have ap : ∀ xs : List (Key × D), D.loK f xs = true → D.loK f (xs ++ [(k, d)]) = true := by
    intro xs
    induction xs with
    | nil => intro _; show (D.lo f d && true) = true; rw [hd]; rfl
    | cons p xs ih =>
      intro h
      simp only [D.loK, Bool.and_eq_true] at h
      show (D.lo f p.2 && D.loK f (xs ++ [(k, d)])) = true
      rw [h.1, ih h.2]; rfl
  unfold dput
  split
  · exact mp xs h
  · exact ap xs h
theorem loT_put {f : Nat} {d : D} {k : List Key} (hd : d.lo f = true) (xs : List (List Key × D)) (h : D.loT f xs = true) : D.loT f (dput xs k d) = true := by
  have mp : ∀ xs : List (List Key × D), D.loT f xs = true → D.loT f (xs.map fun kv => if kv.1 = k then (kv.1, d) else kv) = true := by
    intro xs
    induction xs with
    | nil => intro _; rfl
    | cons p xs ih =>
      intro h
      simp only [D.loT, Bool.and_eq_true] at h
      simp only [List.map_cons]
      show (D.lo f (if p.1 = k then (p.1, d) else p).2 && D.loT f _) = true
      rw [ih h.2]
      split
      · rw [hd]; rfl
      · rw [h.1]; rfl
  have ap : ∀ xs : List (List Key × D), D.loT f xs = true → D.loT f (xs ++ [(k, d)]) = true := by
    intro xs
    induction xs with
    | nil => intro _; show (D.lo f d && true) = true; rw [hd]; rfl
    | cons p xs ih =>
      intro h
      simp only [D.loT, Bool.and_eq_true] at h
      show (D.lo f p.2 && D.loT f (xs ++ [(k, d)])) = true
      rw [h.1, ih h.2]; rfl
  unfold dput
  split
  · exact mp xs h
  · exact ap xs h
theorem putD_ok {x i v : D} {st st' : Sto} (hu : X.A.units + 1 < cLine) (e : putD fl x i v st = some st') : ∃ t, PSet X t ∧
    ∀ fls m H a b c, RelX X G fls st m H → (∀ f ∈ fls, f ≤ fl) → RepX X G m H x a → RepX X G m H i b → RepX X G m H v c → ∀ Q : Hp → Prop, (∀ H', Ext m H m H' → RelX X G fls st' m H' → Q H') → t a b c H Q := by
  unfold putD at e
  split at e
  case h_2 => cases e
  rename_i n
  split at e
  · rename_i xs ec
    split at e
    · rename_i j
      split at e
      · rename_i kk ek
        split at e
        · rename_i hw
          cases e
          refine ⟨_, set_list, fun fls m H a b c R hf ra rb rc Q q => ?_⟩
          cases ra with
          | ref hn =>
          cases rb
          obtain ⟨o, h1, h2⟩ := R.content hn ec
          cases h2 with
          | lst rs =>
          have hw := R.write (c := .lst (xs.set kk v)) (o := .lst (_)) hn (.lst (rs.set rc kk)) (fun _ _ z => by rw [h1] at z; cases z) fun f hff hnf => by
            have h3 : D.lo f (.lst xs) = true := R.clean f hff n _ hnf ec
            exact los_set (wr_lo hw (hf f hff) hnf) xs kk h3
          exact ⟨_, _, j, kk, rfl, rfl, h1, by rw [← rs.length]; exact ek, q _ hw.2 hw.1⟩
        · cases e
      · cases e
    · cases e
  · rename_i kvs ec
    split at e
    · rename_i kk ek
      split at e
      · rename_i hw
        cases e
        refine ⟨_, set_dict hu, fun fls m H a b c R hf ra rb rc Q q => ?_⟩
        cases ra with
        | ref hn =>
        obtain ⟨o, h1, h2⟩ := R.content hn ec
        cases h2 with
        | dk rs =>
        have := keyD_rep ek rb
        subst this
        have hw' := R.write (c := .dk (dput kvs kk v)) (o := .dK (_)) hn (.dk (rs.put rc kk)) (fun _ _ z => by rw [h1] at z; cases z) fun f hff hnf => by
          have h3 : D.lo f (.dk kvs) = true := R.clean f hff n _ hnf ec
          exact loK_put (wr_lo hw.2 (hf f hff) hnf) kvs h3
        exact ⟨_, _, rfl, DPut.k h1 (by rw [← rs.len, ← SZ_eq]; exact hw.1), q _ hw'.2 hw'.1⟩
      · cases e
    · cases e
  · rename_i kvs ec
    split at e
    · rename_i ds
      split at e
      · rename_i kk ek
        split at e
        · rename_i hw
          cases e
          refine ⟨_, set_dict hu, fun fls m H a b c R hf ra rb rc Q q => ?_⟩
          cases ra with
          | ref hn =>
          obtain ⟨o, h1, h2⟩ := R.content hn ec
          cases h2 with
          | dt rs =>
          cases rb with
          | tup hp1 hp2 rds =>
          have := keysD_rep ek rds
          subst this
          have hw' := R.write (c := .dt (dput kvs kk v)) (o := .dT (_)) hn (.dt (rs.put rc kk)) (fun _ _ z => by rw [h1] at z; cases z) fun f hff hnf => by
            have h3 : D.lo f (.dt kvs) = true := R.clean f hff n _ hnf ec
            exact loT_put (wr_lo hw.2 (hf f hff) hnf) kvs h3
          exact ⟨_, _, rfl, DPut.t h1 hp2 (by rw [← rs.len, ← SZ_eq]; exact hw.1), q _ hw'.2 hw'.1⟩
        · cases e
      · cases e
    · cases e
  · cases e
theorem q_put {o i e : Ex} {eo ei ev : Expr} {p : Pos} (ok : XOk G C k W N sc X) (ho : PE X eo (tE X G C fl W o)) (hi : PE X ei (tE X G C fl W i)) (he : PE X ev (tE X G C fl W e)) (hc : cmpB ev = false) (hp : plB ei = true) :
    PS X (.Assign [.Subscript eo ei p] ev pos) (tS X G C fl W (.put o i e)) := by
  have hg : PG X (.Subscript eo ei p) (gSub (tE X G C fl W o) (tE X G C fl W i) (tSetAny X)) := pg_sub ho hi setAny fun v => by
    cases ei <;> first | rfl | (simp [plB] at hp)
  refine (ps_asg (pos := pos) he hg (by show swapsWith ev (some (.Subscript eo ei p)) pos.line X.env = pure false; exact noswap hc) (by cases ev <;> rfl) (by rfl)).im fun B σ H ⟨ρ, fls, st, m, S, q⟩ => ?_
  unfold evS at q
  refine s1 S q fun v st1 c m1 H1 e1 S1 r1 q1 => ?_
  refine s1 S1 q1 fun x st2 a m2 H2 e2 S2 r2 q2 => ?_
  refine s1 S2 q2 fun y st3 b m3 H3 e3 S3 r3 q3 => ?_
  cases hd : putD fl x y v st3 with
  | none => rw [hd] at q3; exact q3.elim
  | some st4 =>
    rw [hd] at q3
    obtain ⟨t, h1, h2⟩ := putD_ok (X := X) (G := G) (by have := units_of ok; omega) hd
    exact ⟨t, h1, h2 _ _ _ _ _ _ S3.rel S3.flf (r2.ext e3) r3 ((r1.ext e2).ext e3) _ fun H' x4 R4 => q3 σ m3 H' x4 R4 (S3.env.ext x4)⟩

/-! ### a dict is walked -/
theorem unlock_end {st st2 st3 : Sto} {m m2 : Mp} {H H2 : Hp} {n : Nat} {pa : Addr} {o : HO} {od : Obj} (R : Rel X.K X.mg G fls st m H) (hn : m.c[n]? = some pa) (h0 : H pa = some o) (hf : ∀ od u, o ≠ .frz od u)
    (x : Ext m (upd H pa (.frz od o)) m2 H2) (R2 : Rel X.K X.mg G fls st2 m2 H2) (hu : unlockS n st2 = some st3) :
    H2 pa = some (.frz od o) ∧ Rel X.K X.mg G fls st3 m2 (upd H2 pa o) ∧ Ext m H m2 (upd H2 pa o) ∧ Grow m2 H2 m2 (upd H2 pa o) := by
  have hp : pa ∈ m.c := List.mem_of_getElem? hn
  have e1 : H2 pa = some (.frz od o) := x.fz pa od o upd_same
  have hn2 := x.pre n pa hn
  unfold unlockS at hu
  split at hu
  · rename_i c hc
    cases hu
    obtain ⟨o2, f1, f2⟩ := R2.cell n _ pa hc hn2
    rw [e1] at f1
    cases f1
    have hw : ∀ f ∈ fls, n < f → c.lo f = true := fun f hf hnf => R2.clean f hf n (.lk c) hnf hc
    have fin : CellR X.K X.mg G m2 H2 c o := by
      cases f2 with
      | lkK r => exact .dk r
      | lkT r => exact .dt r
    obtain ⟨R3, g3, _⟩ := R2.writeR hn2 fin hw
    refine ⟨e1, R3, ⟨x.pre, fun q u e nl => ?_, x.hid, fun q hq => ?_, fun q od2 u2 e => ?_⟩, g3⟩
    · have hq : q ≠ pa := fun z => nl (.inl (by rw [z]; exact hp))
      rw [upd_ne hq]
      exact x.old q u (by rw [upd_ne hq]; exact e) nl
    · have hq' : q ≠ pa := fun z => (R.hid q hq).1 (by rw [z]; exact hp)
      rw [upd_ne hq', x.hkeep q hq, upd_ne hq']
    · have hq : q ≠ pa := fun z => by
        rw [z, h0] at e
        exact hf _ _ (Option.some.inj e)
      rw [upd_ne hq]
      exact x.fz q od2 u2 (by rw [upd_ne hq]; exact e)
  · cases hu
theorem q_lock {o : Ex} {x : Sm} {s : Stmt} (h : PS X s (tS X G C fl W x)) : PS X s (tS X G C fl W (.lock o x)) := by
  refine ⟨fun pins s0 σ H B I hh => ?_⟩
  obtain ⟨ρ, fls, st, m, S, q⟩ := hh
  unfold evS at q
  split at q
  · exact h.run pins s0 σ H B I ⟨ρ, fls, st, m, S, q⟩
  split at q
  · rename_i p hl
    unfold lockS at hl
    split at hl
    · rename_i n st' he
      split at hl
      · rename_i c hc
        split at hl
        · rename_i hd
          cases hl
          have hlt : n < m.c.length := by rw [S.rel.len]; exact (List.getElem?_eq_some_iff.mp hc).1
          have hn : m.c[n]? = some m.c[n] := List.getElem?_eq_getElem hlt
          generalize m.c[n] = pa at hn
          obtain ⟨u, h0, hu⟩ := S.rel.cell n c pa hc hn
          have hlk : (∀ od, CellR X.K X.mg G m H (.lk c) (.frz od u)) ∧ Mut (some u) ∧ ∀ od v, u ≠ .frz od v := by
            cases hu with
            | dk r => exact ⟨fun od => .lkK r, trivial, fun _ _ z => by cases z⟩
            | dt r => exact ⟨fun od => .lkT r, trivial, fun _ _ z => by cases z⟩
            | lst r => cases hd
            | ins _ _ r => cases hd
            | lkK r => cases hd
            | lkT r => cases hd
          refine (ps_lock h).run pins s0 σ H B I ⟨pa, u, h0, hlk.2.1, fun od => ?_⟩
          obtain ⟨R1, g1, _⟩ := S.rel.writeR hn (hlk.1 od) fun f hf hnf => S.rel.clean f hf n c hnf hc
          refine ⟨ρ, fls, st.set n (.lk c), m, ⟨R1, S.flf, by rw [List.length_set]; exact S.fll, S.env.gr g1⟩, ?_⟩
          cases e : evS G (C fl) fl x ρ (st.set n (.lk c)) with
          | next ρ2 st2 =>
            rw [e] at q
            simp only [OutS.unlk] at q
            intro σ2 m2 H2 x2 R2 E2
            cases hun : unlockS n st2 with
            | none => rw [hun] at q; exact q.elim
            | some st3 =>
              rw [hun] at q
              obtain ⟨a1, a2, a3, a4⟩ := unlock_end S.rel hn h0 hlk.2.2 x2 R2 hun
              exact ⟨a1, q σ2 m2 _ a3 a2 (E2.gr a4)⟩
          | brk ρ2 st2 =>
            rw [e] at q
            simp only [OutS.unlk] at q
            intro σ2 m2 H2 x2 R2 E2
            cases hun : unlockS n st2 with
            | none => rw [hun] at q; exact q.elim
            | some st3 =>
              rw [hun] at q
              obtain ⟨a1, a2, a3, a4⟩ := unlock_end S.rel hn h0 hlk.2.2 x2 R2 hun
              exact ⟨a1, q σ2 m2 _ a3 a2 (E2.gr a4)⟩
          | cont ρ2 st2 =>
            rw [e] at q
            simp only [OutS.unlk] at q
            intro σ2 m2 H2 x2 R2 E2
            cases hun : unlockS n st2 with
            | none => rw [hun] at q; exact q.elim
            | some st3 =>
              rw [hun] at q
              obtain ⟨a1, a2, a3, a4⟩ := unlock_end S.rel hn h0 hlk.2.2 x2 R2 hun
              exact ⟨a1, q σ2 m2 _ a3 a2 (E2.gr a4)⟩
          | ret d st2 =>
            rw [e] at q
            simp only [OutS.unlk] at q
            intro v m2 H2 x2 R2 r2
            cases hun : unlockS n st2 with
            | none => rw [hun] at q; exact q.elim
            | some st3 =>
              rw [hun] at q
              obtain ⟨a1, a2, a3, a4⟩ := unlock_end S.rel hn h0 hlk.2.2 x2 R2 hun
              exact ⟨a1, q v m2 _ a3 a2 (r2.gr a4)⟩
          | exc _ _ _ _ => rw [e] at q; exact q.elim
          | bad => rw [e] at q; exact q.elim
        · cases hl
      · cases hl
    · cases hl
  · exact q.elim
/-! ### loops -/
theorem q_for {tg : Tg} {src : Src} {b : Sms} {et ei : Expr} {sb : List Stmt} (ok : XOk G C k W N sc X) (so : SOk X W) (hg : emTg N (locB sc) tg et = true) (hi : PI X et ei (tI X G C fl W src)) (hb : PSs X sb (tSs X G C fl W b)) (hp : plB ei = true) :
    PS X (.For et ei sb [] pos) (tS X G C fl W (.forS tg src b)) := by
  have hgg : PG X et (gT X.K tg) := pgT hg ok.n ok.nd ok.calm fun x hx => ⟨loc_ok ok hx, .inl (so.fn x)⟩
  refine (ps_for so.pass ok.calm hi hgg hb (fold_pl hp)).im fun B σ H ⟨ρ, fls, st, m, S, q⟩ => ?_
  unfold evS at q
  refine ⟨ρ, fls, st, m, S, ?_⟩
  cases e : evI G (C fl) fl ρ src st with
  | exc c fs s1 => rw [e] at q; exact fun cls dd m' H' e1 R r => q cls dd σ m' H' e1 R (S.env.ext e1) r
  | bad => rw [e] at q; exact q
  | ok xs st1 =>
  rw [e, Out.thenS_ok] at q
  intro J m1 H1 e1 R1 it
  generalize hf : (fun (x : D) (ρ : Env) (st : Sto) => match srcRes src st x with
    | some x => (match asg ρ tg x with
      | some ρ' => evSs G (C fl) fl b ρ' st
      | none => OutS.bad)
    | none => OutS.bad) = f at q
  obtain ⟨ys, hys⟩ : ∃ ys, srcIts src xs = ys := ⟨_, rfl⟩
  have itg := it.go
  have itst := it.stop
  rw [hys] at q itg itst
  have S1 := S.ext e1 R1
  refine ⟨fun i n σi Hi => n = ys.length - i ∧ i ≤ ys.length ∧ ∃ ρi sti mi, Ext m1 H1 mi Hi ∧ Stt X.K X.mg G fl fls sti mi Hi ρi σi ∧ SPost X.K X.mg G fls m1 H1 W ((forGo f (ys.drop i) ρi sti).chk (srcEnd src xs)) B,
    ⟨ys.length, by simp, Nat.zero_le _, ρ, st1, m1, Ext.refl, S1, by rw [List.drop_zero]; exact SPost.ext e1 q⟩, ?_⟩
  rintro i n σi Hi ⟨rfl, hi, ρi, sti, mi, x1, Si, qi⟩
  by_cases hlt : i < ys.length
  · right
    rw [List.drop_eq_getElem_cons hlt] at qi
    simp only [forGo] at qi
    have fe : f ys[i] ρi sti = match srcRes src sti ys[i] with
      | some x => (match asg ρi tg x with
        | some ρ' => evSs G (C fl) fl b ρ' sti
        | none => OutS.bad)
      | none => OutS.bad := by rw [← hf]
    rw [fe] at qi
    cases hres : srcRes src sti ys[i] with
    | none => rw [hres] at qi; exact qi.elim
    | some x0 =>
    rw [hres] at qi
    dsimp only at qi
    obtain ⟨hgo, hyl⟩ := itg fls sti _ _ x1.grow x1.fz Si.rel i ys[i] x0 (List.getElem?_eq_getElem hlt) hres
    refine ⟨hgo, _, fun σ' H' h' => ⟨ys.length - (i + 1), by omega, h'⟩, fun v H' y => ?_⟩
    obtain ⟨rfl, rv⟩ := hyl v H' y
    cases ha : asg ρi tg x0 with
    | none => rw [ha] at qi; exact qi.elim
    | some ρ' =>
      rw [ha] at qi
      dsimp only at qi
      refine asg_read ha rv Si.env fun σ2 E2 _ => ⟨ρ', fls, sti, mi, ⟨Si.rel, Si.flf, Si.fll, E2⟩, ?_⟩
      have nxt : ∀ {ρ3 : Env} {st3 : Sto}, SPost X.K X.mg G fls m1 H1 W ((forGo f (ys.drop (i + 1)) ρ3 st3).chk (srcEnd src xs)) B → ∀ σ3 m3 H3, Ext mi H' m3 H3 → Rel X.K X.mg G fls st3 m3 H3 → EnvR X.K X.mg G m3 H3 ρ3 σ3 →
          (ys.length - (i + 1) = ys.length - (i + 1) ∧ i + 1 ≤ ys.length ∧ ∃ ρi sti mi, Ext m1 H1 mi H3 ∧ Stt X.K X.mg G fl fls sti mi H3 ρi σ3 ∧ SPost X.K X.mg G fls m1 H1 W ((forGo f (ys.drop (i + 1)) ρi sti).chk (srcEnd src xs)) B) :=
        fun {ρ3 st3} q3 σ3 m3 H3 x3 R3 E3 => ⟨rfl, hlt, ρ3, st3, m3, x1.trans x3, ⟨R3, Si.flf, (Si.ext x3 R3).fll, E3⟩, q3⟩
      cases eb : evSs G (C fl) fl b ρ' sti with
      | next ρ3 st3 => rw [eb] at qi; exact nxt qi
      | cont ρ3 st3 => rw [eb] at qi; exact nxt qi
      | brk ρ3 st3 =>
        rw [eb] at qi
        have qi : SPost X.K X.mg G fls m1 H1 W ((OutS.next ρ3 st3).chk (srcEnd src xs)) B := qi
        unfold OutS.chk at qi
        dsimp only at qi
        split at qi
        · exact fun σ3 m3 H3 x3 R3 E3 => qi σ3 m3 H3 (x1.trans x3) R3 E3
        · exact qi.elim
      | ret d st3 => rw [eb] at qi; exact fun v m3 H3 x3 R3 r3 => qi v m3 H3 (x1.trans x3) R3 r3
      | exc c fs ρ3 st3 => rw [eb] at qi; exact fun cls dd σ3 m3 H3 x3 R3 E3 r3 => qi cls dd σ3 m3 H3 (x1.trans x3) R3 E3 r3
      | bad => rw [eb] at qi; exact qi.elim
  · left
    have hi2 : i = ys.length := by omega
    subst hi2
    rw [List.drop_length] at qi
    simp only [forGo, OutS.chk] at qi
    by_cases hend : srcEnd src xs sti = true
    · rw [if_pos hend] at qi
      exact ⟨itst fls sti _ _ x1.grow x1.fz Si.rel hend _ (Nat.le_refl _), qi σi mi Hi x1 Si.rel Si.env⟩
    · rw [if_neg hend] at qi
      exact qi.elim
theorem q_whl {c : Ex} {b : Sms} {ec : Expr} {sb : List Stmt} (so : SOk X W) (hc : PT X ec (tT X G C fl W c)) (hb : PSs X sb (tSs X G C fl W b)) : PS X (.While ec sb [] pos) (tS X G C fl W (.whl c b)) := by
  refine (ps_while so.pass hc hb).im fun B σ H ⟨ρ, fls, st, m, S, q⟩ => ?_
  unfold evS at q
  generalize hcf : (fun ρ st => evE G (C fl) fl ρ c st) = cf at q
  generalize hbf : (fun ρ st => evSs G (C fl) fl b ρ st) = bf at q
  by_cases hbad : whlE cf bf ρ st = .bad
  · rw [hbad] at q; exact q.elim
  obtain ⟨n0, hn0⟩ := whlE_bad hbad
  generalize hr : whlE cf bf ρ st = r at q hn0
  refine ⟨fun n σi Hi => ∃ ρi sti mi, Ext m H mi Hi ∧ Stt X.K X.mg G fl fls sti mi Hi ρi σi ∧ whlN cf bf n ρi sti = some r, ⟨n0, ρ, st, m, Ext.refl, S, hn0⟩, ?_⟩
  rintro n σi Hi ⟨ρi, sti, mi, x1, Si, hn⟩
  cases n with
  | zero => cases hn
  | succ n =>
  unfold whlN at hn
  have ce : cf ρi sti = evE G (C fl) fl ρi c sti := by rw [← hcf]
  rw [ce] at hn
  refine ⟨ρi, fls, sti, mi, Si, ?_⟩
  cases e : evE G (C fl) fl ρi c sti with
  | exc x fs s1 =>
    rw [e] at hn
    cases hn
    exact fun cls dd m' H' e1 R rr => q cls dd σi m' H' (x1.trans e1) R (Si.env.ext e1) rr
  | bad => rw [e] at hn; cases hn; exact q.elim
  | ok x st1 =>
    rw [e] at hn
    cases x <;> first | (cases hn; exact q.elim) | skip
    rename_i bb
    refine ⟨bb, rfl, fun m2 H2 x2 R2 => ?_⟩
    have S2 := Si.ext x2 R2
    dsimp only
    cases bb with
    | false =>
      rw [if_neg Bool.false_ne_true]
      cases hn
      exact q σi m2 H2 (x1.trans x2) R2 S2.env
    | true =>
      rw [if_pos rfl]
      dsimp only at hn
      refine ⟨_, fun σ' H' h' => ⟨n, Nat.lt_succ_self n, h'⟩, ρi, fls, st1, m2, S2, ?_⟩
      have be : bf ρi st1 = evSs G (C fl) fl b ρi st1 := by rw [← hbf]
      rw [be] at hn
      cases eb : evSs G (C fl) fl b ρi st1 with
      | next ρ3 st3 => rw [eb] at hn; exact fun σ3 m3 H3 x3 R3 E3 => ⟨ρ3, st3, m3, (x1.trans x2).trans x3, ⟨R3, Si.flf, (S2.ext x3 R3).fll, E3⟩, hn⟩
      | cont ρ3 st3 => rw [eb] at hn; exact fun σ3 m3 H3 x3 R3 E3 => ⟨ρ3, st3, m3, (x1.trans x2).trans x3, ⟨R3, Si.flf, (S2.ext x3 R3).fll, E3⟩, hn⟩
      | brk ρ3 st3 => rw [eb] at hn; cases hn; exact fun σ3 m3 H3 x3 R3 E3 => q σ3 m3 H3 ((x1.trans x2).trans x3) R3 E3
      | ret d st3 => rw [eb] at hn; cases hn; exact fun v m3 H3 x3 R3 r3 => q v m3 H3 ((x1.trans x2).trans x3) R3 r3
      | exc c fs ρ3 st3 => rw [eb] at hn; cases hn; exact fun cls dd σ3 m3 H3 x3 R3 E3 r3 => q cls dd σ3 m3 H3 ((x1.trans x2).trans x3) R3 E3 r3
      | bad => rw [eb] at hn; cases hn; exact q.elim
end
end Ev

set_option Elab.async false
set_option linter.all false
set_option maxRecDepth 100000
set_option maxHeartbeats 8000000
/-! Ev, part C2: statements about fields; several except clauses. -/
namespace Ev
open PySem L2 PySem.Spec
open PyProof.Rows hiding St

section
variable {X : Cx} {G : Prog} {C : Nat → Nat → List D → Sto → Out D} {fl k : Nat} {W : WX} {N : List Str} {sc : Scope} {pos : Pos}
theorem q_badS {s : Stmt} : PS X s (tS X G C fl W .badS) := ⟨fun pins s0 σ H B I h => by
  obtain ⟨ρ, fls, st, m, S, q⟩ := h
  unfold evS at q
  exact q.elim⟩
/-- a field is stored -/
theorem fldD_ok {fls : List Nat} {st st' : Sto} {m : Mp} {H : Hp} {ρ : Env} {σ : St} (ok : XOk G C k W N sc X) (S : Stt X.K X.mg G fl fls st m H ρ σ) {x d : D} {v u : V} {f : Str} (rx : Rep X.K X.mg G m H x v) (rd : Rep X.K X.mg G m H d u) (e : fldD G fl x f d st = some st') :
    ∃ a A dx vs, v = .ref a ∧ H a = some (.ins A dx vs) ∧ Cls X.K A ∧ NoAttr X.K A f ∧ vs.length < 1000 ∧ Rel X.K X.mg G fls st' m (upd H a (.ins A dx (putF f u vs))) ∧ Ext m H m (upd H a (.ins A dx (putF f u vs))) ∧ st'.length = st.length := by
  unfold fldD at e
  split at e
  · rename_i n
    split at e
    · rename_i c fs hc
      split at e
      · rename_i hf
        cases e
        have hv : view st (.ref n) = .ins c fs := by unfold view; simp only [hc]; rfl
        obtain ⟨n', p, P, A, dx, vs, h0, rfl, hn, _, hP, hA, hH, rf⟩ := S.rel.ins rx hv
        cases h0
        obtain ⟨A', h1, h2, _, _, h5, _⟩ := ok.clss c P hP
        rw [hA] at h1
        cases h1
        have hfl : P.2.2.contains f = true := by
          have := hf.1
          unfold fldB at this
          rw [hP] at this
          exact this
        obtain ⟨R2, x2⟩ := S.rel.write (c := .ins c (putS f d fs)) (o := .ins A dx (putF f u vs)) hn (.ins hP hA (rf.put rd f)) (fun _ _ z => by rw [hH] at z; cases z) (fun g hg hng => by
          have hl := S.rel.clean g hg n _ hng hc
          exact loS_put (wr_lo hf.2.2 (S.flf g hg) hng) fs hl)
        exact ⟨p, A, dx, vs, rfl, hH, h2, h5 f hfl, by rw [← rf.len]; exact hf.2.1, R2, x2, by rw [List.length_set]⟩
      · cases e
    · cases e
  · cases e
theorem q_fld {o e : Ex} {f : Str} {eo ev : Expr} {p : Pos} (ok : XOk G C k W N sc X) (ho : PE X eo (tE X G C fl W o)) (he : PE X ev (tE X G C fl W e)) (hc : cmpB ev = false) :
    PS X (.Assign [.Attribute eo f p] ev pos) (tS X G C fl W (.fld o f e)) := by
  refine (ps_fld ho he (noswap hc)).im fun B σ H ⟨ρ, fls, st, m, S, q⟩ => ?_
  unfold evS at q
  refine s1 S q fun x st1 v m1 H1 e1 S1 r1 q1 => ?_
  refine s1 S1 q1 fun y st2 u m2 H2 e2 S2 r2 q2 => ?_
  split at q2
  · rename_i st' ef
    obtain ⟨a, A, dx, vs, rfl, hH, hCls, hNo, hl, R3, x3, _⟩ := fldD_ok ok S2 r2 (r1.ext e2) ef
    exact ⟨a, A, dx, vs, rfl, hH, hCls, hNo, hl, q2 σ m2 _ x3 R3 (S2.env.ext x3)⟩
  · exact q2.elim

/-- o.f as a target -/
def gFld (K : PySem.W.Frag) (to : TE) (f : Str) : TG := fun v σ H Q => to σ H fun x H1 => ∃ a A dx fs, x = .ref a ∧ H1 a = some (.ins A dx fs) ∧ Cls K A ∧ NoAttr K A f ∧ fs.length < 1000 ∧ Q σ (upd H1 a (.ins A dx (putF f v fs)))
theorem pg_fld {o : Expr} {to : TE} {f : Str} (ho : PE X o to) : PG X (.Attribute o f pos) (gFld X.K to f) := by
  refine ⟨fun pins s σ H v u Q I r h => ?_⟩
  rw [assign_Attribute]
  refine wpAny_bind (wpAny_holding (thn (ho.run pins s σ H _ I h) fun ov s1 ⟨x, H1, I1, r1, a, A, dx, fs, ex, ea, c, n, l, q1⟩ => ?_))
  subst ex
  obtain rfl : ov = Value.ref a := r1
  refine wpAny_bind (wpAny_standAt (wpAny_bind (wpAny_holding (setattr_ok I1 ea c n l r fun s3 I3 => ?_))))
  exact wpAny_release ⟨σ, _, I3, q1⟩
/-- the targets of setA -/
def gTA (K : PySem.W.Frag) (to : Nat → TE) : List TA1 → TGs
  | [] => gNil
  | .v i :: ts => gCons (gName i) (gTA K to ts)
  | .f o f :: ts => gCons (gFld K (to o) f) (gTA K to ts)
theorem assignEach_attr {eo : Expr} {f : Str} {p : Pos} {es : List Expr} {env : PySem.Env} : assignEach (.Attribute eo f p :: es) env = (false, assign (.Attribute eo f p) env) :: assignEach es env := rfl
theorem pgTA (ok : XOk G C k W N sc X) (so : SOk X W) : ∀ {ts : List TA1} {es : List Expr}, emTAs N sc ts es = true → PGs X es (gTA X.K (fun o => tE X G C fl W (.var o)) ts) ∧ (assignEach es X.env).length = ts.length ∧ (assignEach es X.env).findIdx? (·.1) = none
  | [], es, h => by
    unfold emTAs at h
    split at h
    · exact ⟨pgs_nil, rfl, rfl⟩
    · cases h
  | t :: ts, es, h => by
    unfold emTAs at h
    split at h
    · rename_i e es
      simp only [Bool.and_eq_true] at h
      obtain ⟨h1, h2⟩ := h
      obtain ⟨g1, g2, g3⟩ := pgTA ok so h2
      split at h1
      · rename_i i x p
        simp only [Bool.and_eq_true, decide_eq_true_eq] at h1
        refine ⟨pgs_cons (pg_name ok.nd (by rw [ok.n]; exact h1.1) (loc_ok ok h1.2) (.inl (so.fn x))) g1, ?_, ?_⟩
        · rw [assignEach_name, List.length_cons, g2]; rfl
        · rw [assignEach_name, List.findIdx?_cons, g3]; rfl
      · rename_i o f x p name p2
        simp only [Bool.and_eq_true, decide_eq_true_eq] at h1
        obtain ⟨⟨⟨h3, h4⟩, h5⟩, rfl⟩ := h1
        refine ⟨pgs_cons (pg_fld (c_var ok h3 h4 h5)) g1, ?_, ?_⟩
        · rw [assignEach_attr, List.length_cons, g2]; rfl
        · rw [assignEach_attr, List.findIdx?_cons, g3]; rfl
      · cases h1
    · cases h
theorem setTA_read (ok : XOk G C k W N sc X) {fls : List Nat} : ∀ {ts : List TA1} {ds : List D} {vs : List V} {ρ : Env} {σ : St} {st : Sto} {m : Mp} {H : Hp} {q : Env × Sto} {Q : St → Hp → Prop}, Stt X.K X.mg G fl fls st m H ρ σ → setTA G fl ts ds ρ st = some q → Reps X.K X.mg G m H ds vs →
    (∀ σ' m' H', Ext m H m' H' → Stt X.K X.mg G fl fls q.2 m' H' q.1 σ' → Q σ' H') → gTA X.K (fun o => tE X G C fl W (.var o)) ts vs σ H Q
  | [], [], _, ρ, σ, st, m, H, q, Q, S, e, .nil, kk => by
    simp [setTA] at e
    subst e
    exact ⟨rfl, kk σ m H Ext.refl S⟩
  | .v i :: ts, d :: ds, _, ρ, σ, st, m, H, q, Q, S, e, .cons (v := v) a t, kk => by
    simp only [setTA] at e
    exact ⟨v, _, rfl, setTA_read ok ⟨S.rel, S.flf, S.fll, S.env.set a i⟩ e t kk⟩
  | .f o f :: ts, d :: ds, _, ρ, σ, st, m, H, q, Q, S, e, .cons (v := v) (vs := vs) a t, kk => by
    simp only [setTA] at e
    split at e
    · rename_i x hx
      split at e
      · rename_i st' ef
        refine ⟨v, vs, rfl, ρ, fls, st, m, S, ?_⟩
        unfold evE
        rw [hx]
        intro y m1 H1 e1 R1 r1
        have S1 := S.ext e1 R1
        obtain ⟨p, A, dx, gs, rfl, hH, hCls, hNo, hl, R3, x3, hlen⟩ := fldD_ok ok S1 r1 (a.ext e1) ef
        refine ⟨p, A, dx, gs, rfl, hH, hCls, hNo, hl, ?_⟩
        exact setTA_read ok ⟨R3, S.flf, by rw [hlen]; exact S.fll, S1.env.ext x3⟩ e ((t.ext e1).ext x3) fun σ' m' H' x4 S4 => kk σ' m' H' ((e1.trans x3).trans x4) S4
      · cases e
    · cases e
  | [], _ :: _, _, _, _, _, _, _, _, _, _, e, _, _ => by simp [setTA] at e
  | .v _ :: _, [], _, _, _, _, _, _, _, _, _, e, _, _ => by simp [setTA] at e
  | .f _ _ :: _, [], _, _, _, _, _, _, _, _, _, e, _, _ => by simp [setTA] at e
theorem setTA_len : ∀ {ts : List TA1} {ds : List D} {ρ : Env} {st : Sto} {q : Env × Sto}, setTA G fl ts ds ρ st = some q → ds.length = ts.length
  | [], [], _, _, _, _ => rfl
  | .v i :: ts, d :: ds, ρ, st, q, e => by simp only [setTA] at e; rw [List.length_cons, List.length_cons, setTA_len e]
  | .f o f :: ts, d :: ds, ρ, st, q, e => by
    simp only [setTA] at e
    split at e
    · split at e
      · rw [List.length_cons, List.length_cons, setTA_len e]
      · cases e
    · cases e
  | [], _ :: _, _, _, _, e => by simp [setTA] at e
  | .v _ :: _, [], _, _, _, e => by simp [setTA] at e
  | .f _ _ :: _, [], _, _, _, e => by simp [setTA] at e
theorem q_setA {ts : List TA1} {e : Ex} {ev : Expr} {es : List Expr} {j : Nat} {p : Pos} (ok : XOk G C k W N sc X) (so : SOk X W) (h1 : emTAs N sc ts es = true) (he : PE X ev (tE X G C fl W e)) (hc : cmpB ev = false) (ht : tupB ev = false) :
    PS X (.Assign [.Tuple es j p] ev pos) (tS X G C fl W (.setA ts e)) := by
  obtain ⟨g1, g2, g3⟩ := pgTA (fl := fl) (C := C) (G := G) ok so h1
  have hg : PG X (.Tuple es j p) (gTup X.K ts.length (gTA X.K (fun o => tE X G C fl W (.var o)) ts)) := pg_tup ok.calm g1 g2 g3
  have hw : swappedStores [.Tuple es j p] ev X.env = pure none := by
    cases ev <;> first | rfl | (simp [tupB] at ht)
  refine (ps_asg (pos := pos) he hg (by show swapsWith ev (some (.Tuple es j p)) pos.line X.env = pure false; exact noswap hc) hw rfl).im fun B σ H ⟨ρ, fls, st, m, S, q⟩ => ?_
  unfold evS at q
  refine s1 S q fun x st1 v m1 H1 e1 S1 r1 q1 => ?_
  split at q1
  · rename_i ds
    split at q1
    · rename_i w ew
      cases r1 with
      | tup n h rs =>
      refine ⟨_, _, rfl, .inl (.inl h), by rw [← rs.length, setTA_len ew], ?_⟩
      exact setTA_read ok S1 ew rs fun σ' m' H' x4 S4 => q1 σ' m' H' x4 S4.rel S4.env
    · exact q1.elim
  · exact q1.elim

/-- a try whose body raises nothing -/
theorem q_tryB {b : Sms} {sb : List Stmt} {h0 : ExceptHandler} {hds : List ExceptHandler} (ok : XOk G C k W N sc X) (so : SOk X W)
    (hb : ∀ (X' : Cx) (W' : WX), XOk G C k W' N sc X' → SOk X' W' → PSs X' sb (tSs X' G C fl W' b)) :
    PS X (.Try sb (h0 :: hds) [] [] pos) (tS X G C fl W (.tryB b)) := by
  have okn : XOk G C k W0 N sc X.nox := ⟨ok.n, ok.nd, ok.sc, ok.calm, ok.room, takesG_none, ok.inF, ok.blt, ok.rng, ok.rev, ok.tys, ok.exc, ok.ixs, ok.fns, ok.clss, ok.cons, ok.dics⟩
  have son : SOk X.nox W0 := ⟨so.fn, so.stk, so.frm, PassesOwn.never, takes_none5⟩
  refine (ps_try_thru0 (hb X.nox W0 okn son)).im fun B σ H ⟨ρ, fls, st, m, S, q⟩ => ?_
  unfold evS at q
  refine ⟨ρ, fls, st, m, S, ?_⟩
  cases e : evSs G (C fl) fl b ρ st with
  | next ρ' st' => rw [e] at q; exact q
  | brk ρ' st' => rw [e] at q; exact q
  | cont ρ' st' => rw [e] at q; exact q
  | ret d st' => rw [e] at q; exact q
  | bad => rw [e] at q; exact q
  | exc c1 fs ρ' st' => rw [e] at q; exact q.elim
/-! ### several except clauses -/
def lHds (X : Cx) (G : Prog) : Hds → List (Value × (Addr → Value → Option Addr → TS))
  | .nil => []
  | .cons c _ s r => match G.excs[c]? with
    | some p => match X.mg p.1 with
      | some v => (v, tsH X G none s) :: lHds X G r
      | none => []
    | none => []
theorem hds_ok (ok : XOk G C k W N sc X) (so : SOk X W) : ∀ (hs : Hds) (hds : List ExceptHandler), emHds G N sc hs hds = true → HdsOk X hds (lHds X G hs)
  | .nil, hds, h => by
    unfold emHds at h
    split at h
    · exact .nil
    · cases h
  | .cons c n s r, hds, h => by
    unfold emHds at h
    split at h
    · rename_i x np s0 ss pos' hds
      simp only [Bool.and_eq_true, decide_eq_true_eq] at h
      obtain ⟨⟨⟨h1, h2⟩, h3⟩, h4⟩ := h
      obtain ⟨p, A, e1, rfl, e2, hn⟩ := names_of ok h1
      have e : lHds X G (.cons c n s r) = (.ref A, tsH X G none s) :: lHds X G r := by
        show (match G.excs[c]? with | some p => _ | none => _) = _
        rw [e1]
        dsimp only
        rw [e2]
      rw [e]
      exact .cons hn (suite_ok (i := none) (nm := none) ok so rfl h3) (hds_ok ok so r hds h4)
    · cases h
theorem hds_read (ok : XOk G C k W N sc X) {fls : List Nat} {m m' : Mp} {H H' : Hp} {B : Ends} {c1 : Nat} {fs : List (Nat × D)} {ρ' : Env} {st' : Sto} {cls : Value} {dd : Option Addr} {σ' : St} (x1 : Ext m H m' H') (R1 : Rel X.K X.mg G fls st' m' H') (E1 : EnvR X.K X.mg G m' H' ρ' σ') (er : ErrR G X.mg m' H' c1 fs cls dd) :
    ∀ (hs : Hds) (hds : List ExceptHandler), emHds G N sc hs hds = true → SPost X.K X.mg G fls m H W (evH G hs c1 fs ρ' st') B → wMany X.K W B (lHds X G hs) cls dd σ' H'
  | .nil, hds, hh, q => by
    unfold evH at q
    exact q cls dd σ' m' H' x1 R1 E1 er
  | .cons c n s r, hds, hh, q => by
    unfold emHds at hh
    split at hh
    · rename_i x np s0 ss pos' hds
      simp only [Bool.and_eq_true, decide_eq_true_eq] at hh
      obtain ⟨⟨⟨h1, h2⟩, h3⟩, h4⟩ := hh
      subst h2
      obtain ⟨p, A, e1, rfl, e2, hn⟩ := names_of ok h1
      have el : lHds X G (.cons c none s r) = (.ref A, tsH X G none s) :: lHds X G r := by
        show (match G.excs[c]? with | some p => _ | none => _) = _
        rw [e1]
        dsimp only
        rw [e2]
      rw [el]
      obtain ⟨p1, A1, g1, g2, rfl, _, hxd⟩ := er.xd
      have two := (ok.exc.two c1 p1 c p A1 A g1 e1 g2 e2).1
      unfold evH at q
      refine ⟨subB G c1 c, two, fun hb1 a ha => ?_, fun hb0 => ?_⟩
      · rw [if_pos hb1] at q
        exact ⟨c1, fs, m', er, ρ', fls, st', m', ⟨R1, E1, (fun j hj => by cases hj), hxd⟩, upost x1 q⟩
      · rw [if_neg (by rw [hb0]; exact Bool.false_ne_true)] at q
        exact hds_read ok x1 R1 E1 er r hds h4 q
    · cases hh
theorem q_tryM {b : Sms} {hs : Hds} {sb : List Stmt} {h0 : ExceptHandler} {hds : List ExceptHandler} (ok : XOk G C k W N sc X) (so : SOk X W) (hh : emHds G N sc hs (h0 :: hds) = true)
    (hb : ∀ (X' : Cx) (W' : WX), XOk G C k W' N sc X' → SOk X' W' → PSs X' sb (tSs X' G C fl W' b)) :
    PS X (.Try sb (h0 :: hds) [] [] pos) (tS X G C fl W (.tryS b hs)) := by
  refine (L2.ps_try_many (tb := fun W' => tSs X G C fl W' b) so.stk so.frm so.tk (fun W' pn xe tk ps => hb (X.tr pn xe) W' (ok.tr so.frm tk) ⟨so.fn, so.stk, so.frm, ps, tk⟩) (hds_ok ok so hs _ hh)).im fun B σ H ⟨ρ, fls, st, m, S, q⟩ => ?_
  unfold evS at q
  refine ⟨ρ, fls, st, m, S, ?_⟩
  cases e : evSs G (C fl) fl b ρ st with
  | next ρ' st' => rw [e] at q; exact q
  | brk ρ' st' => rw [e] at q; exact q
  | cont ρ' st' => rw [e] at q; exact q
  | ret d st' => rw [e] at q; exact q
  | bad => rw [e] at q; exact q
  | exc c1 fs ρ' st' =>
    rw [e] at q
    intro cls dd σ' m' H' x1 R1 E1 er
    exact hds_read ok x1 R1 E1 er hs _ hh q
end
end Ev

set_option Elab.async false
set_option linter.all false
set_option maxRecDepth 100000
set_option maxHeartbeats 8000000
/-! Ev, part 16: the induction over statements; defs. -/
namespace Ev
open PySem L2 PySem.Spec
open PyProof.Rows hiding St
section
variable {G : Prog} {C : Nat → Nat → List D → Sto → Out D} {fl k : Nat} {N : List Str} {sc : Scope}
theorem lc_only {e : Ex} (hne : e ≠ .badE) {eelt etg eit : Expr} {eifs : List Expr} {scope : Scope} {p : Pos} (h : emE G N e sc (.ListComp eelt [⟨etg, eit, eifs, 0⟩] scope p) = true) :
    ∃ elt tg src test own, (e = .lc elt tg src test own ∨ e = .box (.lc elt tg src test own)) ∧ emE G N (.lc elt tg src test own) sc (.ListComp eelt [⟨etg, eit, eifs, 0⟩] scope p) = true := by
  cases e with
  | lc elt tg src test own => exact ⟨elt, tg, src, test, own, .inl rfl, h⟩
  | box a =>
    have h' : isF a = true ∧ emE G N a sc (.ListComp eelt [⟨etg, eit, eifs, 0⟩] scope p) = true := by
      unfold emE at h
      simpa using h
    cases a with
    | lc elt tg src test own => exact ⟨elt, tg, src, test, own, .inr rfl, h'.2⟩
    | box b => simp [isF] at h'
    | badE => simp [isF] at h'
    | _ => exfalso; have h2 := h'.2; unfold emE at h2; cases h2
  | badE => exact absurd rfl hne
  | _ => exfalso; unfold emE at h; cases h
theorem dc_only {e : Ex} (hne : e ≠ .badE) {sc : Scope} {ek ev : Expr} {gs : List Comprehension} {scope : Scope} {p : Pos} (h : emE G N e sc (.DictComp ek ev gs scope p) = true) :
    ∃ kx vx tg src test own, (e = .dc kx vx tg src test own ∨ e = .box (.dc kx vx tg src test own)) ∧ emE G N (.dc kx vx tg src test own) sc (.DictComp ek ev gs scope p) = true := by
  cases e with
  | dc kx vx tg src test own => exact ⟨kx, vx, tg, src, test, own, .inl rfl, h⟩
  | box a =>
    unfold emE at h
    have h' : isF a = true ∧ emE G N a sc (.DictComp ek ev gs scope p) = true := by simpa using h
    cases a with
    | dc kx vx tg src test own => exact ⟨kx, vx, tg, src, test, own, .inr rfl, h'.2⟩
    | box b => simp [isF] at h'
    | badE => simp [isF] at h'
    | _ => exfalso; have h2 := h'.2; unfold emE at h2; cases h2
  | badE => exact absurd rfl hne
  | _ => exfalso; unfold emE at h; cases h
theorem q_setbad {i : Nat} {s : Stmt} {X : Cx} {C : Nat → Nat → List D → Sto → Out D} {fl : Nat} {W : WX} : PS X s (tS X G C fl W (.set i .badE)) := ⟨fun pins s0 σ H B I h => by
  obtain ⟨ρ, fls, st, m, S, q⟩ := h
  unfold evS evE at q
  exact q.elim⟩
mutual
theorem stS : ∀ (x : Sm) (s : Stmt), emS G N sc x s = true → ∀ (X : Cx) (W : WX), XOk G C k W N sc X → SOk X W → PS X s (tS X G C fl W x)
  | .set i e, s, h, X, W, ok, so => by
    unfold emS at h
    split at h
    · rename_i x px ev p
      simp only [Bool.and_eq_true, decide_eq_true_eq] at h
      obtain ⟨⟨⟨h1, h2⟩, h3⟩, h4⟩ := h
      by_cases hne : e = .badE
      · subst hne
        exact q_setbad
      by_cases hc : cmpB ev = true
      · rw [hc] at h4
        by_cases hn : nswB sc x ev = true
        · exact q_set2 ok so h1 h2 (exE e sc _ h3 X W ok).pe hn
        have h5 : swpB sc x px ev = true := by simpa [hn] using h4
        have h6 := h5
        unfold swpB at h6
        split at h6
        · obtain ⟨elt, tg, src, test, own, he, hl⟩ := lc_only hne h3
          rcases he with rfl | rfl
          · exact q_lcset (box := false) ok so h1 h5 hl rfl
          · exact q_lcset (box := true) ok so h1 h5 hl rfl
        · obtain ⟨kx, vx, tg, src, test, own, he, hl⟩ := dc_only hne h3
          rcases he with rfl | rfl
          · exact q_dcset (box := false) ok so h1 h5 hl rfl
          · exact q_dcset (box := true) ok so h1 h5 hl rfl
        · cases h6
      · exact q_set ok so h1 h2 (exE e sc _ h3 X W ok).pe (by simpa using hc)
    · cases h
  | .sets is e, s, h, X, W, ok, so => by
    unfold emS at h
    split at h
    · simp only [Bool.and_eq_true, Bool.not_eq_true'] at h
      exact q_sets ok so h.1.1.1 (exE e sc _ h.1.1.2 X W ok).pe h.1.2 h.2
    · cases h
  | .put o i e, s, h, X, W, ok, so => by
    unfold emS at h
    split at h
    · simp only [Bool.and_eq_true, Bool.not_eq_true'] at h
      exact q_put ok (exE o sc _ h.1.1.1.1 X W ok).pe (exE i sc _ h.1.1.1.2 X W ok).pe (exE e sc _ h.1.1.2 X W ok).pe h.1.2 h.2
    · cases h
  | .fld o f e, s, h, X, W, ok, so => by
    unfold emS at h
    split at h
    · simp only [Bool.and_eq_true, Bool.not_eq_true', decide_eq_true_eq] at h
      obtain ⟨⟨⟨⟨rfl, h1⟩, h2⟩, h3⟩, h4⟩ := h
      exact q_fld ok (exE o sc _ h1 X W ok).pe (exE e sc _ h3 X W ok).pe h4
    · cases h
  | .setA ts e, s, h, X, W, ok, so => by
    unfold emS at h
    split at h
    · simp only [Bool.and_eq_true, Bool.not_eq_true'] at h
      obtain ⟨⟨⟨h1, h2⟩, h3⟩, h4⟩ := h
      exact q_setA ok so h1 (exE e sc _ h2 X W ok).pe h3 h4
    · cases h
  | .badS, s, h, X, W, ok, so => q_badS
  | .lock o x, s, h, X, W, ok, so => by
    unfold emS at h
    exact q_lock (stS x s h X W ok so)
  | .tryB b, s, h, X, W, ok, so => by
    unfold emS at h
    split at h
    · exact q_tryB ok so fun X' W' ok' so' => stSs b _ h X' W' ok' so'
    · cases h
  | .expr e, s, h, X, W, ok, so => by
    unfold emS at h
    split at h
    · simp only [Bool.and_eq_true, Bool.not_eq_true'] at h
      exact q_expr (exE e sc _ h.1 X W ok).pe h.2
    · cases h
  | .doc, s, h, X, W, ok, so => by
    unfold emS at h
    split at h
    · exact q_doc
    · cases h
  | .ret e, s, h, X, W, ok, so => by
    unfold emS at h
    split at h
    · exact q_ret (exE e sc _ h X W ok).pe
    · cases h
  | .retN, s, h, X, W, ok, so => by
    unfold emS at h
    split at h
    · exact q_retN
    · cases h
  | .ifS c a b, s, h, X, W, ok, so => by
    unfold emS at h
    split at h
    · simp only [Bool.and_eq_true] at h
      exact q_if ((exE c sc _ h.1.1.1 X W ok).pt h.1.1.2) (stSs a _ h.1.2 X W ok so) (stSs b _ h.2 X W ok so)
    · cases h
  | .forS tg src b, s, h, X, W, ok, so => by
    unfold emS at h
    split at h
    · simp only [Bool.and_eq_true] at h
      exact q_for ok so h.1.1.1 (exI src sc _ h.1.1.2 _ X W ok) (stSs b _ h.1.2 X W ok so) h.2
    · cases h
  | .whl c b, s, h, X, W, ok, so => by
    unfold emS at h
    split at h
    · simp only [Bool.and_eq_true] at h
      exact q_whl so ((exE c sc _ h.1.1 X W ok).pt h.1.2) (stSs b _ h.2 X W ok so)
    · cases h
  | .brk, s, h, X, W, ok, so => by
    unfold emS at h
    split at h
    · exact q_brk
    · cases h
  | .cont, s, h, X, W, ok, so => by
    unfold emS at h
    split at h
    · exact q_cont
    · cases h
  | .raise c mm, s, h, X, W, ok, so => by
    unfold emS at h
    split at h
    · simp only [Bool.and_eq_true, decide_eq_true_eq] at h
      exact q_raise ok so h.1 h.2
    · cases h
  | .raiseI c e, s, h, X, W, ok, so => by
    unfold emS at h
    split at h
    · simp only [Bool.and_eq_true, decide_eq_true_eq] at h
      exact q_raiseI ok so h.1.1.1 h.1.1.2 (exE e sc _ h.1.2 X W ok).pe h.2
    · cases h
  | .tryS b hs, s, h, X, W, ok, so => by
    unfold emS at h
    split at h
    · rename_i sb hds p
      simp only [Bool.and_eq_true] at h
      obtain ⟨h1, h2⟩ := h
      have ih := fun (X' : Cx) (W' : WX) (ok' : XOk G C k W' N sc X') (so' : SOk X' W') => stSs b sb h1 X' W' ok' so'
      unfold emHd at h2
      split at h2
      · split at h2
        · simp only [Bool.and_eq_true] at h2
          obtain ⟨h3, h4⟩ := h2
          split at h4
          · exact q_try0 ok so h3 h4 ih
          · simp only [Bool.and_eq_true, decide_eq_true_eq] at h4
            exact q_try1 ok so h3 h4.1.1 h4.1.2 h4.2 ih
          · cases h4
        · cases h2
      · cases hds with
        | nil => unfold emHds at h2; cases h2
        | cons h0 hds => exact q_tryM ok so h2 ih
      · cases h2
    · cases h
theorem stSs : ∀ (x : Sms) (ss : List Stmt), emSs G N sc x ss = true → ∀ (X : Cx) (W : WX), XOk G C k W N sc X → SOk X W → PSs X ss (tSs X G C fl W x)
  | .nil, ss, h, X, W, ok, so => by
    unfold emSs at h
    split at h
    · exact q_nil
    · cases h
  | .cons a r, ss, h, X, W, ok, so => by
    unfold emSs at h
    split at h
    · simp only [Bool.and_eq_true] at h
      exact q_cons (stS a _ h.1 X W ok so) (stSs r _ h.2 X W ok so)
    · cases h
end
end

/-! ### what is left when a frame is left -/
section
variable {K : PySem.W.Frag} {mg : Str → Option Value} {G : Prog} {m : Mp} {H : Hp}
mutual
theorem Rep.lo : ∀ {d : D} {v : V}, Rep K mg G m H d v → d.lo m.c.length = true
  | _, _, .non => rfl
  | _, _, .bl b => rfl
  | _, _, .int i => rfl
  | _, _, .str h => rfl
  | _, _, .tup n e r => Reps.lo r
  | _, _, .tk e r => Reps.lo r
  | _, _, .lst n e r => Reps.lo r
  | _, _, .fz n e r => Reps.lo r
  | _, _, .fzK e r => Reps.lo r
  | _, _, .dk n e r => RepK.lo r
  | _, _, .dt n e r => RepT.lo r
  | _, _, .ref e => decide_eq_true (List.getElem?_eq_some_iff.mp e).1
  | _, _, .fn e q => rfl
  | _, _, .ty n => rfl
theorem Reps.lo : ∀ {d : List D} {v : List V}, Reps K mg G m H d v → D.los m.c.length d = true
  | _, _, .nil => rfl
  | _, _, .cons r t => by
    show (_ && _) = true
    rw [Rep.lo r, Reps.lo t]; rfl
theorem RepK.lo : ∀ {d : List (Key × D)} {v : List (Key × V)}, RepK K mg G m H d v → D.loK m.c.length d = true
  | _, _, .nil => rfl
  | _, _, .cons r t => by
    show (_ && _) = true
    rw [Rep.lo r, RepK.lo t]; rfl
theorem RepT.lo : ∀ {d : List (List Key × D)} {v : List (List Key × V)}, RepT K mg G m H d v → D.loT m.c.length d = true
  | _, _, .nil => rfl
  | _, _, .cons r t => by
    show (_ && _) = true
    rw [Rep.lo r, RepT.lo t]; rfl
end
def Mp.pop (m : Mp) (f : Nat) : Mp := ⟨m.c.take f, m.h⟩
theorem Mp.pop_live {m : Mp} {f : Nat} {p : Addr} (h : ¬ m.live p) : ¬ (m.pop f).live p := fun z => by
  rcases z with z | z
  · exact h (.inl (List.mem_of_mem_take z))
  · exact h (.inr z)
mutual
theorem Rep.pop (f : Nat) : ∀ {d : D} {v : V}, Rep K mg G m H d v → d.lo f = true → Rep K mg G (m.pop f) H d v
  | _, _, .non, _ => .non
  | _, _, .bl b, _ => .bl b
  | _, _, .int i, _ => .int i
  | _, _, .str h, _ => .str h
  | _, _, .tup n e r, l => .tup (Mp.pop_live n) e (Reps.pop f r l)
  | _, _, .tk e r, l => .tk e (Reps.pop f r l)
  | _, _, .lst n e r, l => .lst (Mp.pop_live n) e (Reps.pop f r l)
  | _, _, .fz n e r, l => .fz (Mp.pop_live n) e (Reps.pop f r l)
  | _, _, .fzK e r, l => .fzK e (Reps.pop f r l)
  | _, _, .dk n e r, l => .dk (Mp.pop_live n) e (RepK.pop f r l)
  | _, _, .dt n e r, l => .dt (Mp.pop_live n) e (RepT.pop f r l)
  | _, _, .ref e, l => .ref (by
      have l' := of_decide_eq_true l
      show (m.c.take f)[_]? = _
      rw [List.getElem?_take_of_lt l']; exact e)
  | _, _, .fn e q, _ => .fn e q
  | _, _, .ty n, _ => .ty n
theorem Reps.pop (f : Nat) : ∀ {d : List D} {v : List V}, Reps K mg G m H d v → D.los f d = true → Reps K mg G (m.pop f) H d v
  | _, _, .nil, _ => .nil
  | _, _, .cons r t, l => by
    simp only [D.los, Bool.and_eq_true] at l
    exact .cons (Rep.pop f r l.1) (Reps.pop f t l.2)
theorem RepK.pop (f : Nat) : ∀ {d : List (Key × D)} {v : List (Key × V)}, RepK K mg G m H d v → D.loK f d = true → RepK K mg G (m.pop f) H d v
  | _, _, .nil, _ => .nil
  | _, _, .cons r t, l => by
    simp only [D.loK, Bool.and_eq_true] at l
    exact .cons (Rep.pop f r l.1) (RepK.pop f t l.2)
theorem RepT.pop (f : Nat) : ∀ {d : List (List Key × D)} {v : List (List Key × V)}, RepT K mg G m H d v → D.loT f d = true → RepT K mg G (m.pop f) H d v
  | _, _, .nil, _ => .nil
  | _, _, .cons r t, l => by
    simp only [D.loT, Bool.and_eq_true] at l
    exact .cons (Rep.pop f r l.1) (RepT.pop f t l.2)
end
theorem RepF.pop (f : Nat) : ∀ {d : List (Str × D)} {v : List (Str × V)}, RepF K mg G m H d v → D.loS f d = true → RepF K mg G (m.pop f) H d v
  | _, _, .nil, _ => .nil
  | _, _, .cons r t, l => by
    simp only [D.loS, Bool.and_eq_true] at l
    exact .cons (Rep.pop f r l.1) (RepF.pop f t l.2)
theorem RepF.lo : ∀ {d : List (Str × D)} {v : List (Str × V)}, RepF K mg G m H d v → D.loS m.c.length d = true
  | _, _, .nil => rfl
  | _, _, .cons r t => by
    show (_ && _) = true
    rw [Rep.lo r, RepF.lo t]; rfl
theorem CellR.pop (f : Nat) {d : D} {o : HO} (r : CellR K mg G m H d o) (l : d.lo f = true) : CellR K mg G (m.pop f) H d o := by
  cases r with
  | lst r => exact .lst (r.pop f l)
  | dk r => exact .dk (r.pop f l)
  | dt r => exact .dt (r.pop f l)
  | ins a b r => exact .ins a b (r.pop f l)
  | lkK r => exact .lkK (r.pop f l)
  | lkT r => exact .lkT (r.pop f l)
theorem Rel.pop {fls : List Nat} {st : Sto} {f : Nat} (R : Rel K mg G (f :: fls) st m H) (hf : ∀ g ∈ fls, g ≤ f) : Rel K mg G fls (st.take f) (m.pop f) H := by
  have hfl := R.fle f List.mem_cons_self
  refine ⟨by show (m.c.take f).length = _; rw [List.length_take, List.length_take, R.len], R.nd.sublist (List.take_sublist _ _), fun n c p e1 e2 => ?_, fun p hp => ?_, fun g hg n c hn e1 => ?_, fun g hg => ?_, R.hnt⟩
  · have e2 : (m.c.take f)[n]? = some p := e2
    have hn : n < f := by
      by_cases hn : n < f
      · exact hn
      · rw [List.getElem?_eq_none (by rw [List.length_take]; omega)] at e1; cases e1
    rw [List.getElem?_take_of_lt hn] at e1 e2
    obtain ⟨o, h1, h2⟩ := R.cell n c p e1 e2
    exact ⟨o, h1, h2.pop f (R.clean f List.mem_cons_self n c hn e1)⟩
  · obtain ⟨h1, h2⟩ := R.hid p hp
    exact ⟨fun z => h1 (List.mem_of_mem_take z), h2⟩
  · have hn' : n < f := Nat.lt_of_lt_of_le hn (hf g hg)
    rw [List.getElem?_take_of_lt hn'] at e1
    exact R.clean g (List.mem_cons_of_mem _ hg) n c hn e1
  · rw [List.length_take]
    have := hf g hg
    omega
theorem Ext.pop {m0 : Mp} {H0 : Hp} {f : Nat} (x : Ext m0 H0 m H) (hf : m0.c.length = f) : Ext m0 H0 (m.pop f) H :=
  ⟨fun n p e => by
    show (m.c.take f)[n]? = some p
    rw [List.getElem?_take_of_lt (by rw [← hf]; exact (List.getElem?_eq_some_iff.mp e).1)]
    exact x.pre n p e, fun p o e n => ⟨(x.old p o e n).1, Mp.pop_live (x.old p o e n).2⟩, x.hid, x.hkeep, x.fz⟩
theorem unbox1_rep {fls : List Nat} {st : Sto} {f : Nat} {d d' : D} {v : V} (R : Rel K mg G fls st m H) (e : unbox1 f st d = some d') (r : Rep K mg G m H d v) : Rep K mg G (m.pop f) H d' v := by
  have gen : ∀ {d d' : D}, Rep K mg G m H d v → (if d.lo 0 = true then some d else none) = some d' → Rep K mg G (m.pop f) H d' v := fun {d d'} r e => by
    split at e
    · cases e
      exact r.pop f (lo_mono (Nat.zero_le f) _ (by assumption))
    · cases e
  unfold unbox1 at e
  split at e
  · rename_i n
    cases r with
    | ref hn =>
    split at e
    · rename_i hlt
      cases e
      exact Rep.pop f (.ref hn) (decide_eq_true hlt)
    · rename_i hge
      split at e
      · rename_i c ec
        split at e
        · rename_i hc
          cases e
          obtain ⟨o, h1, h2⟩ := R.content hn ec
          have hl := lo_mono (Nat.zero_le f) _ hc.2
          have hv : ∀ {p}, m.c[n]? = some p → ¬ (m.pop f).live p := fun {p} hn z => by
            rcases z with z | z
            · obtain ⟨j, hj, ej⟩ := List.getElem_of_mem z
              have z0 : (m.pop f).c[j]? = some p := by rw [List.getElem?_eq_getElem hj, ej]
              have z' : (m.c.take f)[j]? = some p := z0
              have hj2 : j < f := by
                have : j < (m.c.take f).length := hj
                rw [List.length_take] at this; omega
              rw [List.getElem?_take_of_lt hj2] at z'
              obtain ⟨a1, a2⟩ := List.getElem?_eq_some_iff.mp z'
              obtain ⟨b1, b2⟩ := List.getElem?_eq_some_iff.mp hn
              have := (List.getElem_inj R.nd).mp (a2.trans b2.symm)
              omega
            · exact (R.hid p z).1 (List.mem_of_getElem? hn)
          cases h2 with
          | lst r => exact .lst (hv hn) h1 (r.pop f hl)
          | dk r => exact .dk (hv hn) h1 (r.pop f hl)
          | dt r => exact .dt (hv hn) h1 (r.pop f hl)
          | ins _ _ _ => exact absurd hc.1 (by simp [isC])
          | lkK _ => exact absurd hc.1 (by simp [isC])
          | lkT _ => exact absurd hc.1 (by simp [isC])
        · cases e
      · cases e
  · exact gen r e
theorem unboxs_rep {fls : List Nat} {st : Sto} {f : Nat} (R : Rel K mg G fls st m H) : ∀ {ds ds' : List D} {vs : List V}, unboxs f st ds = some ds' → Reps K mg G m H ds vs → Reps K mg G (m.pop f) H ds' vs
  | [], ds', _, e, .nil => by
    cases e
    exact .nil
  | d :: ds, ds', _, e, .cons r rs => by
    unfold unboxs at e
    split at e
    · rename_i a as e1 e2
      cases e
      exact .cons (unbox1_rep R e1 r) (unboxs_rep R e2 rs)
    · cases e
theorem unbox_rep {fls : List Nat} {st : Sto} {f : Nat} {d d' : D} {v : V} (R : Rel K mg G fls st m H) (e : unbox f st d = some d') (r : Rep K mg G m H d v) : Rep K mg G (m.pop f) H d' v := by
  unfold unbox at e
  split at e
  · exact unbox1_rep (d := .ref _) R e r
  · rename_i d _
    split at e
    · cases e
      exact r.pop f (lo_mono (Nat.zero_le f) _ (by assumption))
    · split at e
      · rename_i ds _ _
        cases r with
        | tup n e1 rs =>
        rw [Option.map_eq_some_iff] at e
        obtain ⟨ds', e2, rfl⟩ := e
        exact .tup (Mp.pop_live n) e1 (unboxs_rep R e2 rs)
      · cases e
end

theorem ErrR.pop {G : Prog} {mg : Str → Option Value} {m : Mp} {H : Hp} {c : Nat} {fs : List (Nat × D)} {cls : Value} {dd : Option Addr} {f : Nat} (h : ErrR G mg m H c fs cls dd) : ErrR G mg (m.pop f) H c fs cls dd := by
  obtain ⟨p, A, h1, h2, h3, h4 | ⟨h4, i, d, h5, h6, h7, h8⟩⟩ := h
  · exact ⟨p, A, h1, h2, h3, .inl h4⟩
  · exact ⟨p, A, h1, h2, h3, .inr ⟨h4, i, d, h5, h6, h7, Mp.pop_live h8⟩⟩
/-- what is known of a def of the table: where it stands, its names, its text -/
structure FnFact (K : PySem.W.Frag) (mg : Str → Option Value) (G : Prog) (F : Fn) (a : Addr) (fd : FuncData) (ps : List Str) (st : Stmt) (qual : Str) : Prop where
  mgf : F.glob = true → mg F.name = some (.ref a)
  fn : Fun K F.name qual st a fd
  sc : FnScope F.N ps (defScope st)
  np : ps.length = F.np
  bi : Binds K fd ps []
  em : emSs G F.N (defScope st) F.body (defBody st) = true
/-- the module's facts -/
structure GFact (P : Program) (w : World) (K : PySem.W.Frag) (mg : Str → Option Value) (G : Prog) : Prop where
  blt : ∀ n, mg (biName n) = none
  rng : mg "range" = none
  rev : mg "reversed" = none
  tys : ∀ t ∈ tyNames, mg t.2 = none
  exc : ExcF K mg G
  ixs : IxsF P K mg G
  cons : ∀ (c : Nat) (p : Str × D), G.cons[c]? = some p → ∃ u v, mg p.1 = some u ∧ RelV v u ∧ ∀ m H, Rep K mg G m H p.2 v
  dics : ∀ (c : Nat) (p : Str × List (Str × D)), G.dics[c]? = some p → ∃ a, mg p.1 = some (.ref a) ∧ (∀ z d, p.2.lookup z = some d → ∃ v, KDct K w a z v ∧ ∀ m H, Rep K mg G m H d v) ∧ ((a == sysModules) = false ∧ ∀ z, p.2.lookup z = none → KNo K w a z)
  fns : ∀ (f : Nat) (F : Fn), G.fns[f]? = some F → ∃ a fd ps st qual, FnFact K mg G F a fd ps st qual
  clss : ∀ (c : Nat) p, G.clss[c]? = some p → ∃ A, mg p.1 = some (.ref A) ∧ Cls K A ∧ PySem.W.makesIn K A = true ∧ PySem.W.keepIn K (.ref A) = true ∧ (∀ f, p.2.2.contains f = true → NoAttr K A f) ∧
    ∀ m f, p.2.1.lookup m = some f → ∃ F a fd ps st qual, G.fns[f]? = some F ∧ Meth K A m a ∧ FnFact K mg G F a fd ps st qual

theorem dic_of {α : Type} {T : Str → α → Prop} : ∀ {ps : List (Str × α)}, (∀ p ∈ ps, T p.1 p.2) → ∀ z d, ps.lookup z = some d → T z d
  | [], _, z, d, h => by cases h
  | (k, y) :: r, hp, z, d, h => by
    rw [List.lookup_cons] at h
    by_cases e : z = k
    · subst e
      simp at h
      subst h
      exact hp (z, y) (by simp)
    · have : (z == k) = false := by simpa using e
      rw [this] at h
      exact dic_of (fun p hp' => hp p (by simp [hp'])) z d h
section
variable {P : Program} {w : World} {K : PySem.W.Frag} {mg : Str → Option Value} {base : Heap} {G : Prog}
theorem envR_start {m : Mp} {H : Hp} {ds : List D} {vs : List V} {N : List Str} {np : Nat} (r : Reps K mg G m H ds vs) (hl : ds.length = np) : EnvR K mg G m H (ds.map some ++ List.replicate (N.length - np) none) (L2.start N vs) := by
  have hv : vs.length = np := by rw [← r.length, hl]
  refine ⟨by unfold L2.start; simp [hl, hv], fun i d e => ?_⟩
  by_cases hi : i < ds.length
  · rw [List.getElem?_append_left (by simpa using hi), List.getElem?_map] at e
    have e2 : ds[i]? = some d := by
      cases h : ds[i]? with
      | none => rw [h] at e; cases e
      | some x => rw [h] at e; cases e; rfl
    obtain ⟨v, h1, h2⟩ := r.get e2
    refine ⟨v, ?_, h2⟩
    unfold L2.start
    have hvi : i < vs.length := by rw [← r.length]; exact hi
    rw [List.getElem?_append_left (by simpa using hvi), List.getElem?_map, h1]; rfl
  · rw [List.getElem?_append_right (by simpa using hi), List.getElem?_replicate] at e
    split at e <;> cases e
theorem run_ok (g : GFact P w K mg G) : ∀ (k f : Nat) (F : Fn), G.fns[f]? = some F → ∀ a fd ps st qual, FnFact K mg G F a fd ps st qual → FnOk P w K mg base (CX P w) (3 * k) a fd ps (spEv K mg G (run G k) f F.np)
  | 0, f, F, hF, a, fd, ps, st, qual, ft =>
    ⟨fun vs H Q E ⟨_, _, _, _, _, _, _, _, _, _, q⟩ => q.elim, fun A outer s H args us vs Q E _ _ _ _ ⟨_, _, _, _, _, _, _, _, _, _, q⟩ => q.elim⟩
  | k + 1, f, F, hF, a, fd, ps, st, qual, ft => by
    refine ft.fn.okX ft.sc (fun vs H Q E h => ?_) (fun cdv A outer s H vs Q E hr h => ?_)
    · obtain ⟨ds, fls, st0, m, fl, R, hf, hl, rs, hn, q⟩ := h
      rw [← rs.length, hn, ft.np]
    · obtain ⟨ds, fls, st0, m, fl, R, hf, hl, rs, hn, q⟩ := h
      have ok : XOk G (run G k) k (fun cls d _ H => E cls d H) F.N (defScope st) (cxOf (CX P w) P w K mg base F.N qual (defScope st) a cdv A outer s H E) := by
        refine ⟨rfl, ft.sc.nd, rfl, rfl, hr, takesG_of (takes_of rfl rfl rfl rfl) rfl, ⟨_, _, _, rfl, rfl, rfl⟩, g.blt, g.rng, g.rev, g.tys, g.exc, g.ixs, fun f' F' hF' hgl => ?_, fun c p hp => ?_, g.cons, g.dics⟩
        · obtain ⟨a', fd', ps', st', qual', ft'⟩ := g.fns f' F' hF'
          exact ⟨a', fd', ps', ft'.mgf hgl, ft'.fn.kp, ft'.np, ft'.bi, run_ok g k f' F' hF' a' fd' ps' st' qual' ft'⟩
        · obtain ⟨A, h1, h2, h3, h4, h5, h6⟩ := g.clss c p hp
          refine ⟨A, h1, h2, h3, h4, h5, fun mm f' hm => ?_⟩
          obtain ⟨F', a', fd', ps', st', qual', hF', hM, ft'⟩ := h6 mm f' hm
          exact ⟨F', a', fd', ps', hF', hM, ft'.np, ft'.bi, run_ok g k f' F' hF' a' fd' ps' st' qual' ft'⟩
      have so : SOk (cxOf (CX P w) P w K mg base F.N qual (defScope st) a cdv A outer s H E) (fun cls d _ H => E cls d H) := ⟨fun _ => rfl, rfl, rfl, passes_of rfl, takes_of rfl rfl rfl rfl⟩
      have hlen := R.len
      cases hpop : F.pop with
      | false =>
        unfold run at q
        rw [hF] at q
        dsimp only at q
        rw [if_pos hn, hpop] at q
        simp only [Bool.false_eq_true, if_false, fin] at q
        refine ⟨_, stSs (fl := fl) F.body _ ft.em _ _ ok so, _, fls, st0, m, ⟨R, hf, hl, envR_start rs hn⟩, ?_⟩
        cases e : evSs G (run G k fl) fl F.body (ds.map some ++ List.replicate (F.N.length - F.np) none) st0 with
        | ret d st' => rw [e] at q; exact fun v m' H' x R' r => q v m' H' x R' r
        | next ρ' st' => rw [e] at q; exact fun σ m' H' x R' E' => q .non m' H' x R' .non
        | brk ρ' st' => rw [e] at q; exact q.elim
        | cont ρ' st' => rw [e] at q; exact q.elim
        | exc c fs ρ' st' => rw [e] at q; exact fun cls dd σ m' H' x R' E' er => q cls dd m' H' x R' er
        | bad => rw [e] at q; exact q.elim
      | true =>
        unfold run at q
        rw [hF] at q
        dsimp only at q
        rw [if_pos hn, hpop] at q
        simp only [if_true, fin] at q
        have R2 : Rel K mg G (st0.length :: fls) st0 m H := ⟨R.len, R.nd, R.cell, R.hid, fun f' hf' n c hnn ec => by
          rcases List.mem_cons.mp hf' with rfl | hf'
          · have hn2 : n < m.c.length := by rw [R.len]; exact hnn
            obtain ⟨o, h1, h2⟩ := R.cell n c _ ec (List.getElem?_eq_getElem hn2)
            rw [← R.len]
            cases h2 with
            | lst r => exact r.lo
            | dk r => exact r.lo
            | dt r => exact r.lo
            | ins _ _ r => exact r.lo
            | lkK r => exact r.lo
            | lkT r => exact r.lo
          · exact R.clean f' hf' n c hnn ec, fun f' hf' => by
          rcases List.mem_cons.mp hf' with rfl | hf'
          · exact Nat.le_refl _
          · exact R.fle f' hf', R.hnt⟩
        refine ⟨_, stSs (fl := st0.length) F.body _ ft.em _ _ ok so, _, st0.length :: fls, st0, m, ⟨R2, fun f' hf' => R2.fle f' hf', Nat.le_refl _, envR_start rs hn⟩, ?_⟩
        have fin : ∀ {d : D} {st' : Sto}, Post K mg G fls m H E (match unbox st0.length st' d with | some d' => Out.ok d' (st'.take st0.length) | none => .bad) (fun d st' => QV K mg G fls st' m H d Q) →
            ∀ v m' H', Ext m H m' H' → Rel K mg G (st0.length :: fls) st' m' H' → Rep K mg G m' H' d v → Q v H' := fun {d st'} q v m' H' x R' r => by
          cases eu : unbox st0.length st' d with
          | none => rw [eu] at q; exact q.elim
          | some d' =>
            rw [eu] at q
            exact q v _ H' (x.pop R.len) (R'.pop fun f' hf' => R.fle f' hf') (unbox_rep R' eu r)
        cases e : evSs G (run G k st0.length) st0.length F.body (ds.map some ++ List.replicate (F.N.length - F.np) none) st0 with
        | ret d st' => rw [e] at q; exact fun v m' H' x R' r => fin q v m' H' x R' r
        | next ρ' st' => rw [e] at q; exact fun σ m' H' x R' E' => fin q .non m' H' x R' .non
        | brk ρ' st' => rw [e] at q; exact q.elim
        | cont ρ' st' => rw [e] at q; exact q.elim
        | exc c fs ρ' st' => rw [e] at q; exact fun cls dd σ m' H' x R' E' er => q cls dd _ H' (x.pop R.len) (R'.pop fun f' hf' => R.fle f' hf') er.pop
        | bad => rw [e] at q; exact q.elim
/-- the law's promise: True of every script -/
def spLaw (K : PySem.W.Frag) : Sp := fun vs H Q _ => ∃ (a : Addr) (ns : List Int), vs = [.ref a] ∧ Only H ∧ SqL K H a (ns.map V.int) ∧ ns.length ≤ 63 ∧ ∀ H', Q (.bl true) H'
theorem spLaw_ev {k f : Nat} (h : ∀ ns : List Int, ns.length ≤ 63 → ∃ st', run G k 0 f [.fz (ns.map D.int)] [] = .ok (.bl true) st') : ∀ vs H Q E, spLaw K vs H Q E → spEv K mg G (run G k) f 1 vs H Q E := by
  intro vs H Q E ⟨a, ns, e, hO, hS, hn, q⟩
  obtain ⟨st', hr⟩ := h ns hn
  have rz : Rep K mg G ⟨[], []⟩ H (.fz (ns.map D.int)) (.ref a) := by
    rcases hS with (hS | ⟨o, hS⟩) | hS
    · rcases hO a with z | ⟨o, xs, z⟩
      · rw [hS] at z; cases z
      · rw [hS] at z; cases z
    · exact .fz (fun z => by rcases z with z | z <;> cases z) hS (Reps.ints ns)
    · exact .fzK hS (Reps.ints ns)
  have R : Rel K mg G [] [] ⟨[], []⟩ H := by
    refine ⟨rfl, .nil, fun n c p e1 _ => ?_, fun p hp => ?_, fun f hf => ?_, fun f hf => ?_, fun p hp => ?_⟩
    · simp at e1
    · cases hp
    · cases hf
    · cases hf
    · cases hp
  subst e
  refine ⟨[.fz (ns.map D.int)], [], [], ⟨[], []⟩, 0, R, (fun g hg => by cases hg), Nat.le_refl _, Reps.cons rz Reps.nil, rfl, ?_⟩
  rw [hr]
  intro v m' H' x R r
  cases r
  exact q H'
end
end Ev

set_option Elab.async false
set_option linter.all false
set_option maxRecDepth 100000
set_option maxHeartbeats 4000000
/-! Ev, part 17: how the evaluator is worked with. -/
namespace Ev
open PySem L2

/-- a loop's turn -/
noncomputable def fb (G : Prog) (C : Nat → List D → Sto → Out D) (fl : Nat) (tg : Tg) (b : Sms) : D → Env → Sto → OutS := fun x ρ st => match asg ρ tg x with
    | some ρ' => evSs G C fl b ρ' st
    | none => .bad
/-- a comprehension's turn -/
noncomputable def lb (G : Prog) (C : Nat → List D → Sto → Out D) (fl : Nat) (ρ : Env) (own : List Nat) (tg : Tg) (test : Exs) (elt : Ex) : D → Sto → Out (Option D) := fun x st => match asg (wipeD ρ own) tg x with
          | some ρ' => (evT G C fl ρ' test st).bind fun b st => if b = true then (evE G C fl ρ' elt st).bind fun d st => .ok (some d) st else .ok none st
          | none => .bad
section
variable {G : Prog} {C : Nat → List D → Sto → Out D} {fl : Nat} {ρ : Env} {st : Sto}
@[simp] theorem fb_one {i b x} : fb G C fl (.one i) b x ρ st = evSs G C fl b (ρ.set i (some x)) st := rfl
@[simp] theorem fb_many {is b xs} : fb G C fl (.many is) b (.tup xs) ρ st = match setSlots ρ is xs with
    | some ρ' => evSs G C fl b ρ' st
    | none => .bad := rfl
@[simp] theorem fb_manyK {is b xs} : fb G C fl (.many is) b (.tk xs) ρ st = match setSlots ρ is xs with
    | some ρ' => evSs G C fl b ρ' st
    | none => .bad := rfl
@[simp] theorem lb_one {own i test elt x} : lb G C fl ρ own (.one i) test elt x st = (evT G C fl ((wipeD ρ own).set i (some x)) test st).bind fun b st => if b = true then (evE G C fl ((wipeD ρ own).set i (some x)) elt st).bind fun d st => .ok (some d) st else .ok none st := rfl
@[simp] theorem lb_many {own is test elt xs} : lb G C fl ρ own (.many is) test elt (.tup xs) st = match setSlots (wipeD ρ own) is xs with
          | some ρ' => (evT G C fl ρ' test st).bind fun b st => if b = true then (evE G C fl ρ' elt st).bind fun d st => .ok (some d) st else .ok none st
          | none => .bad := rfl
@[simp] theorem e_non : evE G C fl ρ .non st = .ok .non st := by first | (rw [evE]; done) | (rw [evE]; rfl)
@[simp] theorem e_bool {b} : evE G C fl ρ (.bool b) st = .ok (.bl b) st := by first | (rw [evE]; done) | (rw [evE]; rfl)
@[simp] theorem e_int {i} : evE G C fl ρ (.int i) st = .ok (.int i) st := by first | (rw [evE]; done) | (rw [evE]; rfl)
@[simp] theorem e_str {i} : evE G C fl ρ (.str i) st = .ok (.str i) st := by first | (rw [evE]; done) | (rw [evE]; rfl)
@[simp] theorem e_var {i} : evE G C fl ρ (.var i) st = match ρ[i]? with
    | some (some d) => .ok d st
    | _ => .bad := by first | (rw [evE]; done) | (rw [evE]; rfl)
@[simp] theorem e_gf {i} : evE G C fl ρ (.gf i) st = .ok (.fn i) st := by first | (rw [evE]; done) | (rw [evE]; rfl)
@[simp] theorem e_gc {i} : evE G C fl ρ (.gc i) st = match G.cons[i]? with
    | some p => .ok p.2 st
    | none => .bad := by first | (rw [evE]; done) | (rw [evE]; rfl)
@[simp] theorem e_tyE {n} : evE G C fl ρ (.tyE n) st = .ok (.ty n) st := by rw [evE]
@[simp] theorem e_bin {op a b} : evE G C fl ρ (.bin op a b) st = (evE G C fl ρ a st).bind fun x st => (evE G C fl ρ b st).bind fun y st => lift (binD st op x y) st := by first | (rw [evE]; done) | (rw [evE]; rfl)
@[simp] theorem e_neg {a} : evE G C fl ρ (.neg a) st = (evE G C fl ρ a st).bind fun x st => match x with
    | .int i => .ok (.int (-i)) st
    | _ => .bad := by first | (rw [evE]; done) | (rw [evE]; rfl)
@[simp] theorem e_nt {a} : evE G C fl ρ (.nt a) st = (evE G C fl ρ a st).bind fun x st => match x with
    | .bl b => .ok (.bl (!b)) st
    | _ => .bad := by first | (rw [evE]; done) | (rw [evE]; rfl)
@[simp] theorem e_and {a} : evE G C fl ρ (.andE a) st = evAnd G C fl ρ a st := by first | (rw [evE]; done) | (rw [evE]; rfl)
@[simp] theorem e_or {a} : evE G C fl ρ (.orE a) st = evOr G C fl ρ a st := by first | (rw [evE]; done) | (rw [evE]; rfl)
@[simp] theorem e_cmp {op a b} : evE G C fl ρ (.cmp op a b) st = (evE G C fl ρ a st).bind fun x st => (evE G C fl ρ b st).bind fun y st => lift ((cmpD st op x y).map D.bl) st := by first | (rw [evE]; done) | (rw [evE]; rfl)
@[simp] theorem e_chain {op op2 a b c} : evE G C fl ρ (.chain op op2 a b c) st = (evE G C fl ρ a st).bind fun x st => (evE G C fl ρ b st).bind fun y st =>
      match cmpD st op x y with
      | some true => (evE G C fl ρ c st).bind fun z st => lift ((cmpD st op2 y z).map D.bl) st
      | some false => .ok (.bl false) st
      | none => .bad := by first | (rw [evE]; done) | (rw [evE]; rfl)
@[simp] theorem e_isN {a} : evE G C fl ρ (.isN a) st = (evE G C fl ρ a st).bind fun x st => .ok (.bl (isNon x)) st := by first | (rw [evE]; done) | (rw [evE]; rfl)
@[simp] theorem e_notN {a} : evE G C fl ρ (.notN a) st = (evE G C fl ρ a st).bind fun x st => .ok (.bl (!isNon x)) st := by first | (rw [evE]; done) | (rw [evE]; rfl)
@[simp] theorem e_isB {a b} : evE G C fl ρ (.isB a b) st = (evE G C fl ρ a st).bind fun x st => match x with
    | .bl c => .ok (.bl (decide (c = b))) st
    | _ => .bad := by first | (rw [evE]; done) | (rw [evE]; rfl)
@[simp] theorem e_notB {a b} : evE G C fl ρ (.notB a b) st = (evE G C fl ρ a st).bind fun x st => match x with
    | .bl c => .ok (.bl (!decide (c = b))) st
    | _ => .bad := by first | (rw [evE]; done) | (rw [evE]; rfl)
@[simp] theorem e_call {f as} : evE G C fl ρ (.call f as) st = (evEs G C fl ρ as st).bind fun ds st => C f ds st := by first | (rw [evE]; done) | (rw [evE]; rfl)
@[simp] theorem e_callv {i as} : evE G C fl ρ (.callv i as) st = match ρ[i]? with
    | some (some (.fn f)) => (evEs G C fl ρ as st).bind fun ds st => if (G.fns[f]?).map (·.np) = some ds.length then C f ds st else .bad
    | _ => .bad := by first | (rw [evE]; done) | (rw [evE]; rfl)
@[simp] theorem e_bi {n as} : evE G C fl ρ (.bi n as) st = (evEs G C fl ρ as st).bind fun ds st => lift (biD st n ds) st := by first | (rw [evE]; done) | (rw [evE]; rfl)
@[simp] theorem e_listR1 {a} : evE G C fl ρ (.listR (.rng1 a)) st = (evI G C fl ρ (.rng1 a) st).bind fun xs st => if xs.length ≤ SZ then .ok (.lst xs) st else .bad := by rw [evE] <;> first | rfl | (intros; rename_i h; cases h)
@[simp] theorem e_listR2 {a b} : evE G C fl ρ (.listR (.rng2 a b)) st = (evI G C fl ρ (.rng2 a b) st).bind fun xs st => if xs.length ≤ SZ then .ok (.lst xs) st else .bad := by rw [evE] <;> first | rfl | (intros; rename_i h; cases h)
@[simp] theorem e_bm {m o as} : evE G C fl ρ (.bm m o as) st = (evE G C fl ρ o st).bind fun x st => match recvT m (view st x) with
    | none => .bad
    | some T => (evEs G C fl ρ as st).bind fun ds st => if recvT m (view st x) = some T then bmD fl m x ds st else .bad := by first | (rw [evE]; done) | (rw [evE]; rfl)
@[simp] theorem e_idx {o i} : evE G C fl ρ (.idx o i) st = (evE G C fl ρ o st).bind fun x st => (evE G C fl ρ i st).bind fun y st => lift (idxD st x y) st := by first | (rw [evE]; done) | (rw [evE]; rfl)
@[simp] theorem e_slc {o lo hi} : evE G C fl ρ (.slc o lo hi) st = (evE G C fl ρ o st).bind fun x st => (evEs G C fl ρ lo st).bind fun l st => match optI l with
    | none => .bad
    | some l => (evEs G C fl ρ hi st).bind fun h st => match optI h with
      | none => .bad
      | some h => lift (slcD st x l h) st := by first | (rw [evE]; done) | (rw [evE]; rfl)
@[simp] theorem e_tupE {as} : evE G C fl ρ (.tupE as) st = (evEs G C fl ρ as st).bind fun ds st => .ok (.tup ds) st := by first | (rw [evE]; done) | (rw [evE]; rfl)
@[simp] theorem e_lstE {as} : evE G C fl ρ (.lstE as) st = (evEs G C fl ρ as st).bind fun ds st => .ok (.lst ds) st := by first | (rw [evE]; done) | (rw [evE]; rfl)
@[simp] theorem e_dicE {ps} : evE G C fl ρ (.dicE ps) st = (evPs G C fl ρ ps st).noX.bind fun kvs st => .ok (.dk (kvs.foldl (fun a p => dput a p.1 p.2) [])) st := by first | (rw [evE]; done) | (rw [evE]; rfl)
@[simp] theorem e_dic0 {t} : evE G C fl ρ (.dic0 t) st = .ok (if t then .dt [] else .dk []) st := by first | (rw [evE]; done) | (rw [evE]; rfl)
theorem e_lcA {elt tg src test own} (h : ∀ st x, srcRes src st x = some x) (h2 : ∀ xs, srcIts src xs = xs) (h3 : ∀ xs st, srcEnd src xs st = true) : evE G C fl ρ (.lc elt tg src test own) st = (evI G C fl ρ src st).bind fun xs st =>
      if xs.length ≤ SZ then (lcGo (lb G C fl ρ own tg test elt) xs st).bind fun ds st => .ok (.lst ds) st else .bad := by
  rw [evE]
  simp only [h, h2, h3, if_true]
  rfl
@[simp] theorem e_lc1 {elt tg a test own} : evE G C fl ρ (.lc elt tg (.rng1 a) test own) st = (evI G C fl ρ (.rng1 a) st).bind fun xs st =>
      if xs.length ≤ SZ then (lcGo (lb G C fl ρ own tg test elt) xs st).bind fun ds st => .ok (.lst ds) st else .bad := e_lcA (fun _ _ => rfl) (fun _ => rfl) (fun _ _ => rfl)
@[simp] theorem e_lc2 {elt tg a c test own} : evE G C fl ρ (.lc elt tg (.rng2 a c) test own) st = (evI G C fl ρ (.rng2 a c) st).bind fun xs st =>
      if xs.length ≤ SZ then (lcGo (lb G C fl ρ own tg test elt) xs st).bind fun ds st => .ok (.lst ds) st else .bad := e_lcA (fun _ _ => rfl) (fun _ => rfl) (fun _ _ => rfl)
@[simp] theorem e_lc3 {elt tg a test own} : evE G C fl ρ (.lc elt tg (.seq a) test own) st = (evI G C fl ρ (.seq a) st).bind fun xs st =>
      if xs.length ≤ SZ then (lcGo (lb G C fl ρ own tg test elt) xs st).bind fun ds st => .ok (.lst ds) st else .bad := e_lcA (fun _ _ => rfl) (fun _ => rfl) (fun _ _ => rfl)
@[simp] theorem e_lc5 {elt tg a c d test own} : evE G C fl ρ (.lc elt tg (.rng3 a c d) test own) st = (evI G C fl ρ (.rng3 a c d) st).bind fun xs st =>
      if xs.length ≤ SZ then (lcGo (lb G C fl ρ own tg test elt) xs st).bind fun ds st => .ok (.lst ds) st else .bad := e_lcA (fun _ _ => rfl) (fun _ => rfl) (fun _ _ => rfl)
@[simp] theorem e_lc4 {elt tg a test own} : evE G C fl ρ (.lc elt tg (.rev a) test own) st = (evI G C fl ρ (.rev a) st).bind fun xs st =>
      if xs.length ≤ SZ then (lcGo (lb G C fl ρ own tg test elt) xs st).bind fun ds st => .ok (.lst ds) st else .bad := e_lcA (fun _ _ => rfl) (fun _ => rfl) (fun _ _ => rfl)
/-- a comprehension's turn over a cell -/
noncomputable def lbC (G : Prog) (C : Nat → List D → Sto → Out D) (fl : Nat) (ρ : Env) (own : List Nat) (tg : Tg) (test : Exs) (elt : Ex) : D → Sto → Out (Option D) := fun x st => match itmD st x with
  | some x => lb G C fl ρ own tg test elt x st
  | none => .bad
theorem e_lcC {elt tg a test own} : evE G C fl ρ (.lc elt tg (.cel a) test own) st = (evI G C fl ρ (.cel a) st).bind fun xs st =>
      if xs.length ≤ SZ then (lcGo (lbC G C fl ρ own tg test elt) xs.tail st).bind fun ds st' => if srcEnd (.cel a) xs st' = true then .ok (.lst ds) st' else .bad else .bad := by rw [evE]; rfl
theorem ei_cel {a} : evI G C fl ρ (.cel a) st = (evE G C fl ρ a st).bind fun x st => match x with
    | .ref n => (match st[n]? with
      | some (.lst ys) => .ok (.tup [.ref n, .int (ys.length : Nat)] :: celIt n ys.length) st
      | _ => .bad)
    | _ => .bad := by first | (rw [evI]; done) | (rw [evI]; rfl)
@[simp] theorem e_box {a} : evE G C fl ρ (.box a) st = (evE G C fl ρ a st).bind fun d st => if isC d = true then .ok (.ref st.length) (st ++ [d]) else .bad := by first | (rw [evE]; done) | (rw [evE]; rfl)
@[simp] theorem es_nil : evEs G C fl ρ .nil st = .ok [] st := by first | (rw [evEs]; done) | (rw [evEs]; rfl)
@[simp] theorem es_cons {a r} : evEs G C fl ρ (.cons a r) st = (evE G C fl ρ a st).bind fun x st => (evEs G C fl ρ r st).bind fun xs st => .ok (x :: xs) st := by first | (rw [evEs]; done) | (rw [evEs]; rfl)
@[simp] theorem eps_nil : evPs G C fl ρ .nil st = .ok [] st := by first | (rw [evPs]; done) | (rw [evPs]; rfl)
@[simp] theorem eps_cons {k v r} : evPs G C fl ρ (.cons k v r) st = (evE G C fl ρ k st).bind fun x st => (evE G C fl ρ v st).bind fun d st => match keyD x with
    | some key => (evPs G C fl ρ r st).bind fun ps st => .ok ((key, d) :: ps) st
    | none => .bad := by first | (rw [evPs]; done) | (rw [evPs]; rfl)
@[simp] theorem et_nil : evT G C fl ρ .nil st = .ok true st := by first | (rw [evT]; done) | (rw [evT]; rfl)
@[simp] theorem et_cons {a r} : evT G C fl ρ (.cons a r) st = (evE G C fl ρ a st).bind fun x st => match x with
    | .bl b => .ok b st
    | _ => .bad := by first | (rw [evT]; done) | (rw [evT]; rfl)
@[simp] theorem ea_one {a} : evAnd G C fl ρ (.cons a .nil) st = evE G C fl ρ a st := by first | (rw [evAnd]; done) | (rw [evAnd]; rfl)
@[simp] theorem ea_cons {a b r} : evAnd G C fl ρ (.cons a (.cons b r)) st = (evE G C fl ρ a st).bind fun x st => match x with
    | .bl true => evAnd G C fl ρ (.cons b r) st
    | .bl false => .ok (.bl false) st
    | _ => .bad := by rw [evAnd] <;> first | rfl | (intro h; cases h)
@[simp] theorem eo_one {a} : evOr G C fl ρ (.cons a .nil) st = evE G C fl ρ a st := by first | (rw [evOr]; done) | (rw [evOr]; rfl)
@[simp] theorem eo_cons {a b r} : evOr G C fl ρ (.cons a (.cons b r)) st = (evE G C fl ρ a st).bind fun x st => match x with
    | .bl true => .ok (.bl true) st
    | .bl false => evOr G C fl ρ (.cons b r) st
    | _ => .bad := by rw [evOr] <;> first | rfl | (intro h; cases h)
@[simp] theorem ei_rng1 {a} : evI G C fl ρ (.rng1 a) st = (evE G C fl ρ a st).bind fun x st => match x with
    | .int n => if small62 n = true then .ok (rng 0 n) st else .bad
    | _ => .bad := by first | (rw [evI]; done) | (rw [evI]; rfl)
@[simp] theorem ei_rng2 {a b} : evI G C fl ρ (.rng2 a b) st = (evE G C fl ρ a st).bind fun x st => (evE G C fl ρ b st).bind fun y st => match x, y with
    | .int i, .int j => if small62 i = true ∧ small62 j = true then .ok (rng i j) st else .bad
    | _, _ => .bad := by first | (rw [evI]; done) | (rw [evI]; rfl)
@[simp] theorem ei_seq {a} : evI G C fl ρ (.seq a) st = (evE G C fl ρ a st).bind fun x st => match x with
    | .lst xs => .ok xs st
    | .tup xs => .ok xs st
    | .fz xs => .ok xs st
    | .tk xs => .ok xs st
    | .str x => .ok (chars x) st
    | _ => .bad := by first | (rw [evI]; done) | (rw [evI]; rfl)
@[simp] theorem ei_rng3 {a b c} : evI G C fl ρ (.rng3 a b c) st = (evE G C fl ρ a st).bind fun x st => (evE G C fl ρ b st).bind fun y st => (evE G C fl ρ c st).bind fun z st => match x, y, z with
    | .int i, .int j, .int k => if 0 < k ∧ k < 1073741824 ∧ Builtin.Range.small i j k = true then .ok (rngS i k (Builtin.Range.rangeSize i j k).toNat) st else .bad
    | _, _, _ => .bad := by first | (rw [evI]; done) | (rw [evI]; rfl)
@[simp] theorem e_bits {a} : evE G C fl ρ (.bits a) st = (evE G C fl ρ a st).bind fun x st => match x with
    | .int i => .ok (.int (Builtin.Int.intBits i : Nat)) st
    | _ => .bad := by first | (rw [evE]; done) | (rw [evE]; rfl)
@[simp] theorem e_dix {c i} : evE G C fl ρ (.dix c i) st = (evE G C fl ρ i st).bind fun x st => match x with
    | .str z => match G.dics[c]? with
      | some p => match p.2.lookup z with
        | some d => .ok d st
        | none => .bad
      | none => .bad
    | _ => .bad := by first | (rw [evE]; done) | (rw [evE]; rfl)
@[simp] theorem e_orV {a b} : evE G C fl ρ (.orV a b) st = (evE G C fl ρ a st).bind fun x st => match trD x with
    | some true => .ok x st
    | some false => evE G C fl ρ b st
    | none => .bad := by first | (rw [evE]; done) | (rw [evE]; rfl)
@[simp] theorem tr_non : trD .non = some false := rfl
@[simp] theorem tr_bl {b : Bool} : trD (.bl b) = some b := rfl
@[simp] theorem tr_nil : trD (.tup []) = some false := rfl
@[simp] theorem tr_cons {x : D} {r : List D} : trD (.tup (x :: r)) = some true := rfl
@[simp] theorem recv_join {x : Str} : recvT .join (.str x) = some "str" := rfl
theorem bm_join {a : Str} {v : D} {ys : List Str} (h : textsOf st v = some ys) (hl : (ys.map (·.length)).sum + ys.length * a.length ≤ SZ) : bmD fl .join (.str a) [v] st = .ok (.str (Str.join a ys)) st := by
  unfold bmD
  dsimp only
  rw [h]
  dsimp only
  rw [if_pos hl]
/-- a dict comprehension's turn -/
noncomputable def db (G : Prog) (C : Nat → List D → Sto → Out D) (fl : Nat) (ρ : Env) (own : List Nat) (tg : Tg) (test : Exs) (k v : Ex) : D → Sto → Out (Option (Key × D)) := fun x st => match asg (wipeD ρ own) tg x with
            | some ρ' => (evT G C fl ρ' test st).bind fun b st => if b = true then (evE G C fl ρ' k st).bind fun kd st => (evE G C fl ρ' v st).bind fun d st => (match keyD kd with
              | some key => .ok (some (key, d)) st
              | none => .bad) else .ok none st
            | none => .bad
theorem e_dcA {k v tg src test own} (h : ∀ st x, srcRes src st x = some x) (h2 : ∀ xs, srcIts src xs = xs) (h3 : ∀ xs st, srcEnd src xs st = true) : evE G C fl ρ (.dc k v tg src test own) st = (evI G C fl ρ src st).bind fun xs st =>
      if xs.length ≤ SZ then (dcGo (db G C fl ρ own tg test k v) xs [] st).noX.bind fun ds st => .ok (.dk ds) st else .bad := by
  rw [evE]
  simp only [h, h2, h3, if_true]
  rfl
@[simp] theorem e_dc1 {k v tg a test own} : evE G C fl ρ (.dc k v tg (.rng1 a) test own) st = (evI G C fl ρ (.rng1 a) st).bind fun xs st =>
      if xs.length ≤ SZ then (dcGo (db G C fl ρ own tg test k v) xs [] st).noX.bind fun ds st => .ok (.dk ds) st else .bad := e_dcA (fun _ _ => rfl) (fun _ => rfl) (fun _ _ => rfl)
@[simp] theorem e_dc3 {k v tg a test own} : evE G C fl ρ (.dc k v tg (.seq a) test own) st = (evI G C fl ρ (.seq a) st).bind fun xs st =>
      if xs.length ≤ SZ then (dcGo (db G C fl ρ own tg test k v) xs [] st).noX.bind fun ds st => .ok (.dk ds) st else .bad := e_dcA (fun _ _ => rfl) (fun _ => rfl) (fun _ _ => rfl)
@[simp] theorem e_sset {a} : evE G C fl ρ (.sset a) st = (evE G C fl ρ a st).bind fun x st => match textsOf st x with
    | some ss => if (usort ss).length < 4095 then .ok (.lst ((usort ss).map .str)) st else .bad
    | none => (match intsOfL st x with
      | some ns => if (uisort ns).length < 4095 then .ok (.lst ((uisort ns).map .int)) st else .bad
      | none => .bad) := by first | (rw [evE]; done) | (rw [evE]; rfl)
@[simp] theorem ei_rev {a} : evI G C fl ρ (.rev a) st = (evE G C fl ρ a st).bind fun x st => match x with
    | .lst xs => .ok xs.reverse st
    | .tup xs => .ok xs.reverse st
    | .fz xs => .ok xs.reverse st
    | .tk xs => .ok xs.reverse st
    | _ => .bad := by first | (rw [evI]; done) | (rw [evI]; rfl)
variable {a : Sm} {b c : Sms} {e : Ex}
@[simp] theorem s_set {i} : evS G C fl (.set i e) ρ st = (evE G C fl ρ e st).thenS ρ fun d st => .next (ρ.set i (some d)) st := by first | (rw [evS]; done) | (rw [evS]; rfl)
@[simp] theorem s_sets {is} : evS G C fl (.sets is e) ρ st = (evE G C fl ρ e st).thenS ρ fun d st => match asg ρ (.many is) d with
    | some ρ' => .next ρ' st
    | none => .bad := by first | (rw [evS]; done) | (rw [evS]; rfl)
@[simp] theorem s_put {o i} : evS G C fl (.put o i e) ρ st = (evE G C fl ρ e st).thenS ρ fun v st => (evE G C fl ρ o st).thenS ρ fun x st => (evE G C fl ρ i st).thenS ρ fun y st => match putD fl x y v st with
    | some st' => .next ρ st'
    | none => .bad := by first | (rw [evS]; done) | (rw [evS]; rfl)
@[simp] theorem s_expr : evS G C fl (.expr e) ρ st = (evE G C fl ρ e st).thenS ρ fun _ st => .next ρ st := by first | (rw [evS]; done) | (rw [evS]; rfl)
@[simp] theorem s_doc : evS G C fl .doc ρ st = .next ρ st := by first | (rw [evS]; done) | (rw [evS]; rfl)
@[simp] theorem s_ret : evS G C fl (.ret e) ρ st = (evE G C fl ρ e st).thenS ρ fun d st => .ret d st := by first | (rw [evS]; done) | (rw [evS]; rfl)
@[simp] theorem s_retN : evS G C fl .retN ρ st = .ret .non st := by first | (rw [evS]; done) | (rw [evS]; rfl)
@[simp] theorem s_if : evS G C fl (.ifS e b c) ρ st = (evE G C fl ρ e st).thenS ρ fun x st => match x with
    | .bl true => evSs G C fl b ρ st
    | .bl false => evSs G C fl c ρ st
    | _ => .bad := by first | (rw [evS]; done) | (rw [evS]; rfl)
theorem chk_true {r : OutS} : r.chk (fun _ => true) = r := by cases r <;> rfl
theorem s_forA {tg src} (h : ∀ st x, srcRes src st x = some x) (h2 : ∀ xs, srcIts src xs = xs) (h3 : ∀ xs st, srcEnd src xs st = true) : evS G C fl (.forS tg src b) ρ st = (evI G C fl ρ src st).thenS ρ fun xs st => forGo (fb G C fl tg b) xs ρ st := by
  rw [evS]
  have e3 : ∀ xs, srcEnd src xs = fun _ => true := fun xs => funext fun st => h3 xs st
  simp only [h, h2, e3, chk_true]
  rfl
@[simp] theorem s_for1 {tg a} : evS G C fl (.forS tg (.rng1 a) b) ρ st = (evI G C fl ρ (.rng1 a) st).thenS ρ fun xs st => forGo (fb G C fl tg b) xs ρ st := s_forA (fun _ _ => rfl) (fun _ => rfl) (fun _ _ => rfl)
@[simp] theorem s_for2 {tg a c} : evS G C fl (.forS tg (.rng2 a c) b) ρ st = (evI G C fl ρ (.rng2 a c) st).thenS ρ fun xs st => forGo (fb G C fl tg b) xs ρ st := s_forA (fun _ _ => rfl) (fun _ => rfl) (fun _ _ => rfl)
@[simp] theorem s_for3 {tg a} : evS G C fl (.forS tg (.seq a) b) ρ st = (evI G C fl ρ (.seq a) st).thenS ρ fun xs st => forGo (fb G C fl tg b) xs ρ st := s_forA (fun _ _ => rfl) (fun _ => rfl) (fun _ _ => rfl)
@[simp] theorem s_for5 {tg a c d} : evS G C fl (.forS tg (.rng3 a c d) b) ρ st = (evI G C fl ρ (.rng3 a c d) st).thenS ρ fun xs st => forGo (fb G C fl tg b) xs ρ st := s_forA (fun _ _ => rfl) (fun _ => rfl) (fun _ _ => rfl)
@[simp] theorem s_for4 {tg a} : evS G C fl (.forS tg (.rev a) b) ρ st = (evI G C fl ρ (.rev a) st).thenS ρ fun xs st => forGo (fb G C fl tg b) xs ρ st := s_forA (fun _ _ => rfl) (fun _ => rfl) (fun _ _ => rfl)
/-- a turn over a cell -/
noncomputable def fbC (G : Prog) (C : Nat → List D → Sto → Out D) (fl : Nat) (tg : Tg) (b : Sms) : D → Env → Sto → OutS := fun x ρ st => match itmD st x with
  | some x => fb G C fl tg b x ρ st
  | none => .bad
theorem s_forC {tg a} : evS G C fl (.forS tg (.cel a) b) ρ st = (evI G C fl ρ (.cel a) st).thenS ρ fun xs st => (forGo (fbC G C fl tg b) xs.tail ρ st).chk (srcEnd (.cel a) xs) := by rw [evS]; rfl
@[simp] theorem s_whl : evS G C fl (.whl e b) ρ st = whlE (fun ρ st => evE G C fl ρ e st) (fun ρ st => evSs G C fl b ρ st) ρ st := by first | (rw [evS]; done) | (rw [evS]; rfl)
@[simp] theorem s_brk : evS G C fl .brk ρ st = .brk ρ st := by first | (rw [evS]; done) | (rw [evS]; rfl)
@[simp] theorem s_cont : evS G C fl .cont ρ st = .cont ρ st := by first | (rw [evS]; done) | (rw [evS]; rfl)
@[simp] theorem s_raise {c m} : evS G C fl (.raise c m) ρ st = .exc c [] ρ st := by rw [evS]
/-- what is raised with an index -/
noncomputable def raI (c : Nat) (ρ : Env) (d : D) (st : Sto) : OutS := match d with
  | .int i => if small62 i = true then .exc c [(0, .int i)] ρ st else .bad
  | _ => .bad
theorem s_raiseI {c e} : evS G C fl (.raiseI c e) ρ st = (evE G C fl ρ e st).thenS ρ fun d st => raI c ρ d st := by rw [evS]; rfl
theorem raI_int {c i} : raI c ρ (.int i) st = if small62 i = true then .exc c [(0, .int i)] ρ st else .bad := rfl
@[simp] theorem s_try {hs} : evS G C fl (.tryS b hs) ρ st = match evSs G C fl b ρ st with
    | .exc c fs ρ' st' => evH G hs c fs ρ' st'
    | r => r := by first | (rw [evS]; done) | (rw [evS]; rfl)
@[simp] theorem ss_nil : evSs G C fl .nil ρ st = .next ρ st := by first | (rw [evSs]; done) | (rw [evSs]; rfl)
@[simp] theorem ss_cons : evSs G C fl (.cons a b) ρ st = (evS G C fl a ρ st).seq fun ρ st => evSs G C fl b ρ st := by first | (rw [evSs]; done) | (rw [evSs]; rfl)
end

/-! ### a call by the def's body -/
theorem run_pop {G : Prog} {k fl f : Nat} {ds : List D} {st : Sto} {F : Fn} {d d' : D} {st' : Sto} (hF : G.fns[f]? = some F) (hp : F.pop = true) (hn : ds.length = F.np)
    (h : evSs G (run G k st.length) st.length F.body (ds.map some ++ List.replicate (F.N.length - F.np) none) st = .ret d (st ++ st')) (hu : unbox st.length (st ++ st') d = some d') : run G (k + 1) fl f ds st = .ok d' st := by
  unfold run
  rw [hF]
  dsimp only
  rw [if_pos hn]
  simp only [hp, if_true]
  rw [h]
  dsimp only [fin]
  rw [if_pos rfl, hu]
  simp
theorem run_keep {G : Prog} {k fl f : Nat} {ds : List D} {st : Sto} {F : Fn} {d : D} {st' : Sto} (hF : G.fns[f]? = some F) (hp : F.pop = false) (hn : ds.length = F.np)
    (h : evSs G (run G k fl) fl F.body (ds.map some ++ List.replicate (F.N.length - F.np) none) st = .ret d st') : run G (k + 1) fl f ds st = .ok d st' := by
  unfold run
  rw [hF]
  dsimp only
  rw [if_pos hn]
  simp only [hp, Bool.false_eq_true, if_false]
  rw [h]
  rfl
/-- a call whose frame leaves the store longer, or changed in a cell -/
theorem run_popS {G : Prog} {k fl f : Nat} {ds : List D} {st : Sto} {F : Fn} {d d' : D} {st' : Sto} (hF : G.fns[f]? = some F) (hp : F.pop = true) (hn : ds.length = F.np)
    (h : evSs G (run G k st.length) st.length F.body (ds.map some ++ List.replicate (F.N.length - F.np) none) st = .ret d st') (hu : unbox st.length st' d = some d') : run G (k + 1) fl f ds st = .ok d' (st'.take st.length) := by
  unfold run
  rw [hF]
  dsimp only
  rw [if_pos hn]
  simp only [hp, if_true]
  rw [h]
  dsimp only [fin]
  rw [if_pos rfl, hu]

/-- a call that raises -/
theorem run_exc {G : Prog} {k fl f : Nat} {ds : List D} {st : Sto} {F : Fn} {c : Nat} {fs : List (Nat × D)} {ρ' : Env} {st' : Sto} (hF : G.fns[f]? = some F) (hp : F.pop = true) (hn : ds.length = F.np)
    (h : evSs G (run G k st.length) st.length F.body (ds.map some ++ List.replicate (F.N.length - F.np) none) st = .exc c fs ρ' st') : run G (k + 1) fl f ds st = .exc c fs (st'.take st.length) := by
  unfold run
  rw [hF]
  dsimp only
  rw [if_pos hn]
  simp only [hp, if_true]
  rw [h]

/-! ### loops -/
theorem forGo_inv {b : D → Env → Sto → OutS} {xs : List D} (I : Nat → Env → Sto → Prop) {ρ : Env} {st : Sto} (h0 : I 0 ρ st)
    (h : ∀ i x, xs[i]? = some x → ∀ ρ st, I i ρ st → ∃ ρ' st', (b x ρ st = .next ρ' st' ∨ b x ρ st = .cont ρ' st') ∧ I (i + 1) ρ' st') : ∃ ρ' st', forGo b xs ρ st = .next ρ' st' ∧ I xs.length ρ' st' := by
  have gen : ∀ (ys : List D) (i : Nat) (ρ : Env) (st : Sto), xs.drop i = ys → i ≤ xs.length → I i ρ st → ∃ ρ' st', forGo b ys ρ st = .next ρ' st' ∧ I xs.length ρ' st' := by
    intro ys
    induction ys with
    | nil =>
      intro i ρ st e hi hI
      have := List.drop_eq_nil_iff.mp e
      have e2 : i = xs.length := by omega
      subst e2
      exact ⟨ρ, st, rfl, hI⟩
    | cons y ys ih =>
      intro i ρ st e hi hI
      have hx : xs[i]? = some y := by
        have : (xs.drop i)[0]? = some y := by rw [e]; rfl
        rwa [List.getElem?_drop, Nat.add_zero] at this
      have hlt : i < xs.length := (List.getElem?_eq_some_iff.mp hx).1
      obtain ⟨ρ', st', e1, hI'⟩ := h i y hx ρ st hI
      have e3 : xs.drop (i + 1) = ys := by
        have := congrArg List.tail e
        rwa [List.tail_drop] at this
      obtain ⟨ρ2, st2, e2, hI2⟩ := ih (i + 1) ρ' st' e3 hlt hI'
      refine ⟨ρ2, st2, ?_, hI2⟩
      rw [forGo]
      rcases e1 with e1 | e1
      · rw [e1, OutS.turn_next, e2]
      · rw [e1, OutS.turn_cont, e2]
  exact gen xs 0 ρ st (by simp) (Nat.zero_le _) h0
theorem lcGo_inv {f : D → Sto → Out (Option D)} {xs : List D} (I : Nat → List D → Sto → Prop) {st : Sto} (h0 : I 0 [] st)
    (h : ∀ i x, xs[i]? = some x → ∀ ds st, I i ds st → ∃ o st', f x st = .ok o st' ∧ I (i + 1) (ds ++ o.toList) st') : ∃ ds st', lcGo f xs st = .ok ds st' ∧ I xs.length ds st' := by
  have gen : ∀ (ys : List D) (i : Nat) (ds : List D) (st : Sto), xs.drop i = ys → i ≤ xs.length → I i ds st → ∃ es st', lcGo f ys st = .ok es st' ∧ I xs.length (ds ++ es) st' := by
    intro ys
    induction ys with
    | nil =>
      intro i ds st e hi hI
      have := List.drop_eq_nil_iff.mp e
      have e2 : i = xs.length := by omega
      subst e2
      exact ⟨[], st, rfl, by rw [List.append_nil]; exact hI⟩
    | cons y ys ih =>
      intro i ds st e hi hI
      have hx : xs[i]? = some y := by
        have : (xs.drop i)[0]? = some y := by rw [e]; rfl
        rwa [List.getElem?_drop, Nat.add_zero] at this
      have hlt : i < xs.length := (List.getElem?_eq_some_iff.mp hx).1
      obtain ⟨o, st', e1, hI'⟩ := h i y hx ds st hI
      have e3 : xs.drop (i + 1) = ys := by
        have := congrArg List.tail e
        rwa [List.tail_drop] at this
      obtain ⟨es, st2, e2, hI2⟩ := ih (i + 1) _ st' e3 hlt hI'
      refine ⟨o.toList ++ es, st2, ?_, by rw [← List.append_assoc]; exact hI2⟩
      rw [lcGo, e1, Out.bind_ok, e2, Out.bind_ok]
      cases o <;> rfl
  obtain ⟨ds, st', e, hI⟩ := gen xs 0 [] st (by simp) (Nat.zero_le _) h0
  exact ⟨ds, st', e, by simpa using hI⟩
/-- a comprehension that leaves the store -/
theorem lcGo_pure {f : D → Sto → Out (Option D)} {g : D → Option D} {xs : List D} {st : Sto} (h : ∀ x ∈ xs, f x st = .ok (g x) st) : lcGo f xs st = .ok (xs.filterMap g) st := by
  induction xs with
  | nil => rfl
  | cons x xs ih =>
    rw [lcGo, h x List.mem_cons_self, Out.bind_ok, ih fun y hy => h y (List.mem_cons_of_mem _ hy), Out.bind_ok, List.filterMap_cons]
    cases g x <;> rfl

theorem mem_rng {a b : Int} {x : D} (h : x ∈ rng a b) : ∃ i : Int, x = .int i ∧ a ≤ i ∧ i < b := by
  obtain ⟨i, hi⟩ := List.getElem?_of_mem h
  obtain ⟨h2, e⟩ := rng_get hi
  exact ⟨_, e, by omega, by omega⟩
theorem small62_of {i : Int} (h : -1000000000 ≤ i) (h2 : i ≤ 1000000000) : small62 i = true := by
  unfold small62
  rw [decide_eq_true_eq]
  omega
theorem mulOk_of {i j : Int} (h : -(2 ^ 64) < i ∧ i < 2 ^ 64 ∨ -(2 ^ 64) < j ∧ j < 2 ^ 64) : mulOk i j = true := by
  unfold mulOk
  rw [Bool.or_eq_true, Bool.or_eq_true]
  rcases h with h | h
  · exact .inl (.inl (decide_eq_true (by omega)))
  · exact .inl (.inr (decide_eq_true (by omega)))
@[simp] theorem rng_len {a b : Int} : (rng a b).length = (b - a).toNat := rng_length a b
@[simp] theorem view_ref {st : Sto} {n : Nat} : view st (.ref n) = (st[n]?).getD .non := rfl
@[simp] theorem view_int {st : Sto} {i : Int} : view st (.int i) = .int i := rfl
@[simp] theorem view_bl {st : Sto} {i : Bool} : view st (.bl i) = .bl i := rfl
@[simp] theorem view_lst {st : Sto} {xs} : view st (.lst xs) = .lst xs := rfl
@[simp] theorem view_tup {st : Sto} {xs} : view st (.tup xs) = .tup xs := rfl
@[simp] theorem view_fz {st : Sto} {xs} : view st (.fz xs) = .fz xs := rfl
@[simp] theorem view_tk {st : Sto} {xs} : view st (.tk xs) = .tk xs := rfl
@[simp] theorem view_str {st : Sto} {x} : view st (.str x) = .str x := rfl
@[simp] theorem view_dk {st : Sto} {x} : view st (.dk x) = .dk x := rfl
@[simp] theorem view_non {st : Sto} : view st .non = .non := rfl
section
variable {st : Sto} {i j : Int} {xs ys : List D} {d x y : D}
@[simp] theorem bin_add : binD st .add (.int i) (.int j) = some (.int (i + j)) := rfl
@[simp] theorem bin_sub : binD st .sub (.int i) (.int j) = some (.int (i - j)) := rfl
@[simp] theorem bin_mul : binD st .mul (.int i) (.int j) = if mulOk i j then some (.int (i * j)) else none := rfl
@[simp] theorem bin_mod : binD st .mod (.int i) (.int j) = if 0 < j then some (.int (i % j)) else none := rfl
@[simp] theorem bin_fdiv : binD st .fdiv (.int i) (.int j) = if divOk j then some (.int (i / j)) else none := rfl
@[simp] theorem bin_pow : binD st .pow (.int i) (.int j) = if 0 ≤ j ∧ j ≤ 1000000 ∧ i.natAbs < 2 ^ 64 then some (.int (i ^ j.toNat)) else none := rfl
@[simp] theorem bin_addL : binD st .add (.lst xs) (.lst ys) = if xs.length + ys.length ≤ SZ then some (.lst (xs ++ ys)) else none := rfl
@[simp] theorem bin_addT : binD st .add (.tup xs) (.tup ys) = if xs.length + ys.length ≤ SZ then some (.tup (xs ++ ys)) else none := rfl
@[simp] theorem bin_mulL : binD st .mul (.lst xs) (.int i) = if xs.length * i.toNat ≤ SZ ∧ i.natAbs ≤ SZ then some (.lst (List.replicate i.toNat xs).flatten) else none := rfl
@[simp] theorem bin_mulT : binD st .mul (.tup xs) (.int i) = if xs.length ≤ 1000 ∧ 1 ≤ i ∧ i ≤ 1000 ∧ xs ≠ [] then some (.tup (List.replicate i.toNat xs).flatten) else none := rfl
@[simp] theorem cmp_eq : cmpD st .eq x y = eqD st x y := rfl
@[simp] theorem cmp_ne : cmpD st .ne x y = (eqD st x y).map (!·) := rfl
@[simp] theorem cmp_mem : cmpD st .mem x y = memD st x y := rfl
@[simp] theorem cmp_nmem : cmpD st .nmem x y = (memD st x y).map (!·) := rfl
@[simp] theorem cmp_lt : cmpD st .lt (.int i) (.int j) = some (decide (i < j)) := rfl
@[simp] theorem cmp_le : cmpD st .le (.int i) (.int j) = some (decide (i ≤ j)) := rfl
@[simp] theorem cmp_gt : cmpD st .gt (.int i) (.int j) = some (decide (j < i)) := rfl
@[simp] theorem cmp_ge : cmpD st .ge (.int i) (.int j) = some (decide (j ≤ i)) := rfl
@[simp] theorem bi_len : biD st .len [d] = match view st d with
    | .lst xs => some (.int xs.length)
    | .tup xs => some (.int xs.length)
    | .fz xs => some (.int xs.length)
    | .tk xs => some (.int xs.length)
    | .str x => if x.length ≤ SZ then some (.int x.length) else none
    | .dk kvs => some (.int kvs.length)
    | .dt kvs => some (.int kvs.length)
    | _ => none := rfl
@[simp] theorem bi_abs : biD st .abs [.int i] = some (.int (if i < 0 then -i else i)) := rfl
@[simp] theorem bi_int : biD st .int [.int i] = some (.int i) := rfl
@[simp] theorem bi_intb {b : Bool} : biD st .int [.bl b] = some (.int (if b = true then 1 else 0)) := rfl
@[simp] theorem bi_tuple : biD st .tuple [d] = match view st d with
    | .lst xs => some (.tup xs)
    | .tup xs => some (.tup xs)
    | _ => none := rfl
@[simp] theorem bi_list : biD st .list [d] = match view st d with
    | .lst xs => some (.lst xs)
    | .tup xs => some (.lst xs)
    | _ => none := rfl
@[simp] theorem bi_all : biD st .all [d] = match view st d with
    | .lst xs => (toBools xs).map fun bs => .bl (bs.all id)
    | _ => none := rfl
@[simp] theorem bi_any : biD st .any [d] = match view st d with
    | .lst xs => (toBools xs).map fun bs => .bl (bs.any id)
    | _ => none := rfl
@[simp] theorem bi_min2 : biD st .min2 [.int i, .int j] = some (.int (if j < i then j else i)) := rfl
@[simp] theorem bi_max2 : biD st .max2 [.int i, .int j] = some (.int (if j > i then j else i)) := rfl
@[simp] theorem bi_min1 : biD st .min1 [d] = match view st d with
    | .lst xs => match toInts xs with
      | some (x :: r) => some (.int (imin x r))
      | some [] => none
      | none => match toStrs xs with
        | some (x :: r) => some (.str (EvSet.smin x r))
        | _ => none
    | _ => none := rfl
@[simp] theorem bi_max1 : biD st .max1 [d] = match view st d with
    | .lst xs => match toInts xs with
      | some (x :: r) => some (.int (imax x r))
      | some [] => none
      | none => match toStrs xs with
        | some (x :: r) => some (.str (EvSet.smax x r))
        | _ => none
    | _ => none := rfl
@[simp] theorem bi_sum : biD st .sum [d] = match view st d with
    | .lst xs => (toInts xs).map fun ns => .int ns.sum
    | .tup xs => (toInts xs).map fun ns => .int ns.sum
    | _ => none := rfl
@[simp] theorem bi_sorted : biD st .sorted [d] = match view st d with
    | .lst xs => match toInts xs with
      | some ns => some (.lst ((isort ns).map .int))
      | none => match toStrs xs with
        | some ss => some (.lst ((tsort ss).map .str))
        | none => (toPrs xs).map fun ps => .lst ((prsort ps).map pairD)
    | _ => none := rfl
@[simp] theorem bi_isinst {t : String} : biD st .isinst [d, .ty t] = (tyD (view st d)).bind fun n => (kitB n t).map .bl := rfl
@[simp] theorem kb1 : kitB "bool" "bool" = some true := by decide +kernel
@[simp] theorem kb2 : kitB "bool" "int" = some true := by decide +kernel
@[simp] theorem kb3 : kitB "int" "bool" = some false := by decide +kernel
@[simp] theorem kb4 : kitB "int" "int" = some true := by decide +kernel
@[simp] theorem kb5 {t : String} (h : t = "bool" ∨ t = "int" ∨ t = "str" ∨ t = "list" ∨ t = "tuple" ∨ t = "dict") : kitB "NoneType" t = some false := by rcases h with rfl | rfl | rfl | rfl | rfl | rfl <;> decide +kernel
theorem kitB_no {a b : String} (ha : a = "NoneType" ∨ a = "bool" ∨ a = "int" ∨ a = "str" ∨ a = "list" ∨ a = "tuple" ∨ a = "dict") (hb : b = "bool" ∨ b = "int" ∨ b = "str" ∨ b = "list" ∨ b = "tuple" ∨ b = "dict") : kitB a b = some (decide (a = b) || (decide (a = "bool") && decide (b = "int"))) := by
  rcases ha with rfl | rfl | rfl | rfl | rfl | rfl | rfl <;> rcases hb with rfl | rfl | rfl | rfl | rfl | rfl <;> decide +kernel
@[simp] theorem recv_append : recvT .append (.lst xs) = some "list" := rfl
@[simp] theorem recv_index : recvT .index (.lst xs) = some "list" := rfl
@[simp] theorem idx_str {x : Str} : idxD st (.str x) (.int i) = if x.length ≤ SZ then (atI x.cps.toList i).map fun c => .str ⟨#[c]⟩ else none := rfl
@[simp] theorem bi_ord {x : Str} : biD st .ord [.str x] = if x.length = 1 then some (.int (x.cps.getD 0 0 : Nat)) else none := rfl
@[simp] theorem bi_str : biD st .str [.int i] = if i.natAbs.log2 < 1920 then some (.str (toString i)) else none := rfl
@[simp] theorem bin_mulS {x : Str} : binD st .mul (.str x) (.int i) = if 2 ≤ i ∧ i ≤ 1000 ∧ 1 ≤ x.length ∧ x.length ≤ 1000 then some (.str (repS x i.toNat)) else none := rfl
@[simp] theorem bin_addS {x y : Str} : binD st .add (.str x) (.str y) = if x.length + y.length ≤ SZ then some (.str (x ++ y)) else none := rfl
@[simp] theorem cmp_ltS {x y : Str} : cmpD st .lt (.str x) (.str y) = some (ltS x y) := rfl
@[simp] theorem cmp_leS {x y : Str} : cmpD st .le (.str x) (.str y) = some (!ltS y x) := rfl
@[simp] theorem cmp_gtS {x y : Str} : cmpD st .gt (.str x) (.str y) = some (ltS y x) := rfl
@[simp] theorem cmp_geS {x y : Str} : cmpD st .ge (.str x) (.str y) = some (!ltS x y) := rfl
@[simp] theorem eqD_str {x y : Str} : eqD st (.str x) (.str y) = some (decide (x = y)) := by
  unfold eqD
  rw [if_pos (by simp [okN, view])]
  simp [view, eqv]
@[simp] theorem recv_extend : recvT .extend (.lst xs) = some "list" := rfl
@[simp] theorem idx_lst : idxD st (.lst xs) (.int i) = atI xs i := rfl
@[simp] theorem idx_tup : idxD st (.tup xs) (.int i) = atI xs i := rfl
@[simp] theorem idx_fz : idxD st (.fz xs) (.int i) = atI xs i := rfl
@[simp] theorem idx_tk : idxD st (.tk xs) (.int i) = atI xs i := rfl
@[simp] theorem idx_ref {n : Nat} : idxD st (.ref n) d = match (st[n]?).getD .non, d with
  | .lst xs, .int i => atI xs i
  | .tup xs, .int i => atI xs i
  | .fz xs, .int i => atI xs i
  | .tk xs, .int i => atI xs i
  | .str z, .int i => if z.length ≤ SZ then (atI z.cps.toList i).map fun c => .str ⟨#[c]⟩ else none
  | .dk kvs, i => (keyD i).bind fun k => dget kvs k
  | .dt kvs, .tup ds => (keysD ds).bind fun k => dget kvs k
  | .lk (.dk kvs), i => (keyD i).bind fun k => dget kvs k
  | .lk (.dt kvs), .tup ds => (keysD ds).bind fun k => dget kvs k
  | _, _ => none := by unfold idxD; rfl
@[simp] theorem keyD_int : keyD (.int i) = some (.inl i) := rfl
@[simp] theorem keyD_str {x : Str} : keyD (.str x) = some (.inr x) := rfl
@[simp] theorem isNon_non : isNon .non = true := rfl
@[simp] theorem eqD_bl {a b : Bool} : eqD st (.bl a) (.bl b) = some (a == b) := rfl
@[simp] theorem eqD_int : eqD st (.int i) (.int j) = some (decide (i = j)) := rfl
@[simp] theorem optI_nil : optI [] = some none := rfl
@[simp] theorem optI_one : optI [.int i] = some (some i) := rfl
@[simp] theorem div997 : divOk 997 = true := by decide +kernel
end
theorem bm_append {st : Sto} {fl n : Nat} {xs : List D} {v : D} (e : st[n]? = some (.lst xs)) (h : xs.length < SZ) (hw : wrOk fl n v = true) : bmD fl .append (.ref n) [v] st = .ok .non (st.set n (.lst (xs ++ [v]))) := by
  unfold bmD
  dsimp only
  rw [e]
  dsimp only
  rw [if_pos ⟨h, hw⟩]
theorem atI_of {α : Type} {xs : List α} {i : Int} (h0 : 0 ≤ i) : atI xs i = xs[i.toNat]? := by
  unfold atI ixN
  rw [if_pos h0]
  by_cases h : i < (xs.length : Int)
  · rw [if_pos h]; rfl
  · rw [if_neg h]
    rw [List.getElem?_eq_none (by omega)]
    rfl
end Ev

set_option Elab.async false
set_option linter.all false
set_option maxRecDepth 100000
set_option maxHeartbeats 400000
/-! Ev, part 18: the draws of a law. -/
namespace Ev
open PySem L2

def bInner : Sms :=
  (.cons (.ifS (.cmp .gt (.var 6) (.int 0))
    (.cons (.expr (.bm .append (.var 2) (.cons (.bin .mod (.bi .int (.cons (.var 6) .nil)) (.int 997)) .nil)))
    (.cons (.set 6 (.bin .fdiv (.var 6) (.int 997)))
    .nil))
    .nil)
  .nil)
def bOuter : Sms :=
  (.cons (.set 5 (.bi .abs (.cons (.bi .int (.cons (.idx (.var 0) (.var 4)) .nil)) .nil)))
  (.cons (.set 3 (.bin .mod (.bi .int (.cons (.bin .add (.bin .add (.bin .mul (.var 3) (.int 48271)) (.bin .mod (.var 5) (.int 1000003))) (.var 4)) .nil)) (.int 65537)))
  (.cons (.set 6 (.int 0))
  (.cons (.ifS (.cmp .ge (.var 5) (.bin .pow (.int 10) (.int 18)))
    (.cons (.set 6 (.var 5))
    .nil)
    (.cons (.expr (.bm .append (.var 2) (.cons (.bin .mod (.var 5) (.int 997)) .nil)))
    (.cons (.expr (.bm .append (.var 2) (.cons (.bin .mod (.bin .mod (.bi .int (.cons (.bin .add (.bin .mul (.var 3) (.int 69621)) (.int 5)) .nil)) (.int 65521)) (.int 997)) .nil)))
    .nil)))
  (.cons (.forS (.one 7) (.rng1 (.int 60)) bInner)
  .nil)))))
def bLast : Sms :=
  (.cons (.set 3 (.bin .mod (.bi .int (.cons (.bin .add (.bin .add (.bin .mul (.var 3) (.int 16807)) (.var 4)) (.int 1)) .nil)) (.int 65537)))
  (.cons (.expr (.bm .append (.var 2) (.cons (.bin .mod (.bi .int (.cons (.var 3) .nil)) (.int 997)) .nil)))
  .nil))
def bDraws : Sms :=
  (.cons (.set 2 (.box (.lstE .nil)))
  (.cons (.set 3 (.int 7))
  (.cons (.forS (.one 4) (.rng1 (.bi .len (.cons (.var 0) .nil))) bOuter)
  (.cons (.forS (.one 4) (.rng1 (.var 1)) bLast)
  (.cons (.ret (.slc (.var 2) .nil (.cons (.var 1) .nil)))
  .nil)))))

/-- a list of draws -/
def nats (l : List Nat) : List D := l.map fun n : Nat => D.int (n : Int)
@[simp] theorem nats_len {l : List Nat} : (nats l).length = l.length := by simp [nats]
theorem nats_app {a b : List Nat} : nats (a ++ b) = nats a ++ nats b := by simp [nats]
theorem nats_lo {f : Nat} : ∀ l : List Nat, D.los f (nats l) = true
  | [] => rfl
  | _ :: r => by
    show (_ && D.los f (nats r)) = true
    rw [nats_lo r]; rfl

section
variable {G : Prog} {C : Nat → List D → Sto → Out D}
theorem ints_get {ns : List Int} {i : Nat} (h : i < ns.length) : (ns.map D.int)[i]? = some (.int ns[i]) := by
  rw [List.getElem?_map, List.getElem?_eq_getElem h]; rfl
theorem app_c {pre : Sto} {l : List Nat} {n : Int} (h : 0 ≤ n) (hl : l.length < SZ) : bmD pre.length .append (.ref pre.length) [.int n] (pre ++ [.lst (nats l)]) = .ok .non (pre ++ [.lst (nats (l ++ [n.toNat]))]) := by
  have e : (pre ++ [D.lst (nats l)])[pre.length]? = some (.lst (nats l)) := by simp
  unfold bmD
  dsimp only
  rw [e]
  dsimp only
  have hw : wrOk pre.length pre.length (.int n) = true := by unfold wrOk; simp
  rw [if_pos ⟨by simpa using hl, hw⟩]
  simp [nats, List.set_append_right, Int.toNat_of_nonneg h]
theorem inner_step {ns : List Int} {pre : Sto} {l : List Nat} {a b c d e f : Option D} {r : Int} (h : 0 ≤ r) (hl : l.length < SZ) :
    evSs G C pre.length bInner [a, b, some (.ref pre.length), c, d, e, some (.int r), f] (pre ++ [.lst (nats l)]) =
      if 0 < r then .next [a, b, some (.ref pre.length), c, d, e, some (.int (r / 997)), f] (pre ++ [.lst (nats (l ++ [(r % 997).toNat]))])
      else .next [a, b, some (.ref pre.length), c, d, e, some (.int r), f] (pre ++ [.lst (nats l)]) := by
  have hd : divOk 997 = true := by decide +kernel
  have hm : 0 ≤ r % 997 := Int.emod_nonneg _ (by decide)
  have hv : (pre ++ [D.lst (nats l)])[pre.length]? = some (.lst (nats l)) := by simp
  unfold bInner
  by_cases h0 : 0 < r
  · simp [h0, app_c hm hl]
  · simp [h0]
theorem app_lt {l : List Nat} {x : Nat} (h : ∀ v ∈ l, v < 997) (hx : x < 997) : ∀ v ∈ l ++ [x], v < 997 := fun v hv => by
  rcases List.mem_append.mp hv with h1 | h1
  · exact h v h1
  · rw [List.mem_singleton.mp h1]; exact hx
theorem inner_all {ns : List Int} {pre : Sto} {l : List Nat} {a b c d e f : Option D} {r : Int} (h : 0 ≤ r) (hl : l.length < 100000) (hvv : ∀ v ∈ l, v < 997) :
    ∃ ρ st, forGo (fb G C pre.length (.one 7) bInner) (rng 0 60) [a, b, some (.ref pre.length), c, d, e, some (.int r), f] (pre ++ [.lst (nats l)]) = .next ρ st ∧
      ∃ (r2 : Int) (l2 : List Nat) (f : Option D), l2.length ≤ l.length + (if r = 0 then 0 else 60) ∧ ρ = [a, b, some (.ref pre.length), c, d, e, some (.int r2), f] ∧ st = pre ++ [.lst (nats l2)] ∧ ∀ v ∈ l2, v < 997 := by
  have hz : SZ = 16777216 := rfl
  have key := forGo_inv (b := fb G C pre.length (.one 7) bInner) (xs := rng 0 60)
    (fun i ρ st => ∃ (r2 : Int) (l2 : List Nat) (f : Option D), 0 ≤ r2 ∧ (r = 0 → r2 = 0) ∧ l2.length ≤ l.length + (if r = 0 then 0 else i) ∧ ρ = [a, b, some (.ref pre.length), c, d, e, some (.int r2), f] ∧ st = pre ++ [.lst (nats l2)] ∧ ∀ v ∈ l2, v < 997)
    (ρ := [a, b, some (.ref pre.length), c, d, e, some (.int r), f]) (st := pre ++ [.lst (nats l)]) ⟨r, l, f, h, id, by simp, rfl, rfl, hvv⟩ ?_
  · obtain ⟨ρ, st, e1, r2, l2, f2, h0, h1, h2, h3, h4, h5⟩ := key
    exact ⟨ρ, st, e1, r2, l2, f2, by simpa using h2, h3, h4, h5⟩
  · intro i x hx ρ st ⟨r2, l2, f2, h0, h1, h2, h3, h4, h5⟩
    obtain ⟨hi, rfl⟩ := rng_get hx
    subst h3 h4
    have hl2 : l2.length < SZ := by split at h2 <;> omega
    rw [fb_one]
    simp only [List.set_cons_succ, List.set_cons_zero]
    rw [inner_step (ns := ns) h0 hl2]
    by_cases hp : 0 < r2
    · rw [if_pos hp]
      refine ⟨_, _, .inl rfl, r2 / 997, _, _, Int.ediv_nonneg h0 (by decide), fun z => by have := h1 z; omega, ?_, rfl, rfl, app_lt h5 (by omega)⟩
      have hr : r ≠ 0 := fun z => by have := h1 z; omega
      rw [if_neg hr] at h2 ⊢
      simp; omega
    · rw [if_neg hp]
      refine ⟨_, _, .inl rfl, r2, _, _, h0, h1, ?_, rfl, rfl, h5⟩
      split at h2 <;> split <;> omega
theorem outer_step {ns : List Int} {pre : Sto} {l : List Nat} {b d e f g : Option D} {m : Int} {i : Nat} (hi : i < ns.length) (hi2 : i < 100000) (hm : 0 ≤ m) (hl : l.length < 50000) (hvv : ∀ v ∈ l, v < 997) :
    ∃ ρ st, evSs G C pre.length bOuter [some (.fz (ns.map D.int)), b, some (.ref pre.length), some (.int m), some (.int (i : Int)), e, f, g] (pre ++ [.lst (nats l)]) = .next ρ st ∧
      ∃ (m2 : Int) (l2 : List Nat) (e f g : Option D), 0 ≤ m2 ∧ l2.length ≤ l.length + 62 ∧ ρ = [some (.fz (ns.map D.int)), b, some (.ref pre.length), some (.int m2), some (.int (i : Int)), e, f, g] ∧ st = pre ++ [.lst (nats l2)] ∧ ∀ v ∈ l2, v < 997 := by
  have hz : SZ = 16777216 := rfl
  have g1 : atI (ns.map D.int) (i : Int) = some (.int ns[i]) := by rw [atI_of (by omega), Int.toNat_natCast, ints_get hi]
  obtain ⟨cell, hcell⟩ : ∃ cell : Int, (if ns[i] < 0 then -ns[i] else ns[i]) = cell := ⟨_, rfl⟩
  have hc : 0 ≤ cell := by rw [← hcell]; split <;> omega
  obtain ⟨m2, hm2⟩ : ∃ m2 : Int, (m * 48271 + cell % 1000003 + (i : Int)) % 65537 = m2 := ⟨_, rfl⟩
  have hm20 : 0 ≤ m2 := by rw [← hm2]; exact Int.emod_nonneg _ (by decide)
  have k1 : mulOk m 48271 = true := mulOk_of (.inr (by decide))
  have k2 : mulOk m2 69621 = true := mulOk_of (.inr (by decide))
  have q1 : 0 ≤ cell % 997 := Int.emod_nonneg _ (by decide)
  have q2 : 0 ≤ (m2 * 69621 + 5) % 65521 % 997 := Int.emod_nonneg _ (by decide)
  have s62 : small62 60 = true := by decide +kernel
  unfold bOuter
  by_cases hb : (10 : Int) ^ 18 ≤ cell
  · have hb' : (1000000000000000000 : Int) ≤ cell := by simpa using hb
    obtain ⟨ρ, st, e1, r2, l2, f2, h1, h2, h3⟩ := inner_all (G := G) (C := C) (ns := ns) (pre := pre) (l := l) (a := some (.fz (ns.map D.int))) (b := b) (c := some (.int m2)) (d := some (.int (i : Int))) (e := some (.int cell)) (f := g) (r := cell) hc (by omega) hvv
    refine ⟨ρ, st, ?_, m2, l2, some (.int cell), some (.int r2), f2, hm20, ?_, h2, h3⟩
    · simp [g1, hcell, k1, hm2, hb', s62, e1]
    · split at h1 <;> omega
  · have hb' : ¬ (1000000000000000000 : Int) ≤ cell := by simpa using hb
    obtain ⟨ρ, st, e1, r2, l2, f2, h1, h2, h3⟩ := inner_all (G := G) (C := C) (ns := ns) (pre := pre) (l := l ++ [(cell % 997).toNat] ++ [((m2 * 69621 + 5) % 65521 % 997).toNat]) (a := some (.fz (ns.map D.int))) (b := b) (c := some (.int m2)) (d := some (.int (i : Int))) (e := some (.int cell)) (f := g) (r := 0) (Int.le_refl 0) (by simp; omega) (app_lt (app_lt hvv (by omega)) (by omega))
    have A := @app_c pre
    have hs1 : l.length < SZ := by omega
    have hs2 : l.length + 1 < SZ := by omega
    refine ⟨ρ, st, ?_, m2, l2, some (.int cell), some (.int r2), f2, hm20, ?_, h2, h3⟩
    · simp at e1
      have p2 := A (l := l ++ [(cell % 997).toNat]) q2 (by simp; omega)
      simp [g1, hcell, k1, k2, hm2, hb', A q1 hs1, s62]
      rw [p2]
      simp [s62, e1]
    · simp at h1; omega
theorem last_step {pre : Sto} {l : List Nat} {a b e f g h : Option D} {m : Int} {i : Nat} (hl : l.length < SZ) :
    evSs G C pre.length bLast [a, b, some (.ref pre.length), some (.int m), some (.int (i : Int)), e, f, g] (pre ++ [.lst (nats l)]) =
      .next [a, b, some (.ref pre.length), some (.int ((m * 16807 + i + 1) % 65537)), some (.int (i : Int)), e, f, g] (pre ++ [.lst (nats (l ++ [((m * 16807 + i + 1) % 65537 % 997).toNat]))]) := by
  obtain ⟨m2, hm2⟩ : ∃ m2 : Int, (m * 16807 + i + 1) % 65537 = m2 := ⟨_, rfl⟩
  have k1 : mulOk m 16807 = true := mulOk_of (.inr (by decide))
  have q1 : 0 ≤ m2 % 997 := Int.emod_nonneg _ (by decide)
  have A := app_c (pre := pre) q1 hl
  unfold bLast
  simp [k1, hm2, A]
theorem cut_many {l : List Nat} {many : Nat} : cutD (nats l) none (some (many : Int)) = nats (l.take many) := by
  unfold cutD
  have h1 : HT.sIx (nats l).length 0 none = 0 := HT.sIx_none _ _
  rw [h1, HT.sIx_nat]
  simp [nats, List.map_take]
theorem outer_all {ns : List Int} {b : Option D} {pre : Sto} (h1 : ns.length ≤ 63) :
    ∃ ρ st, forGo (fb G C pre.length (.one 4) bOuter) (rng 0 ns.length) [some (.fz (ns.map D.int)), b, some (.ref pre.length), some (.int 7), none, none, none, none] (pre ++ [.lst []]) = .next ρ st ∧
      ∃ (l : List Nat) (m : Int) (x4 x5 x6 x7 : Option D), l.length ≤ 10000 ∧ ρ = [some (.fz (ns.map D.int)), b, some (.ref pre.length), some (.int m), x4, x5, x6, x7] ∧ st = pre ++ [.lst (nats l)] ∧ ∀ v ∈ l, v < 997 := by
  have hz : SZ = 16777216 := rfl
  have L1 := forGo_inv (b := fb G C pre.length (.one 4) bOuter) (xs := rng 0 ns.length)
    (fun i ρ st => ∃ (l : List Nat) (m : Int) (x4 x5 x6 x7 : Option D), 0 ≤ m ∧ l.length ≤ 62 * i ∧ ρ = [some (.fz (ns.map D.int)), b, some (.ref pre.length), some (.int m), x4, x5, x6, x7] ∧ st = pre ++ [.lst (nats l)] ∧ ∀ v ∈ l, v < 997)
    (ρ := [some (.fz (ns.map D.int)), b, some (.ref pre.length), some (.int 7), none, none, none, none]) (st := pre ++ [.lst []]) ⟨[], 7, none, none, none, none, by decide, by simp, rfl, rfl, fun v hv => nomatch hv⟩ ?_
  · obtain ⟨ρ1, st1, e1, l, m, x4, x5, x6, x7, hm, hl, e2, e3, e4⟩ := L1
    rw [rng_length] at hl
    exact ⟨ρ1, st1, e1, l, m, x4, x5, x6, x7, by omega, e2, e3, e4⟩
  · intro i x hx ρ st ⟨l, m, x4, x5, x6, x7, hm, hl, e3, e4, e5⟩
    obtain ⟨hi, rfl⟩ := rng_get hx
    subst e3 e4
    rw [fb_one]
    simp only [List.set_cons_succ, List.set_cons_zero, Int.zero_add]
    obtain ⟨ρ', st', e, m2, l2, y5, y6, y7, h0, h3, h4, h5, h6⟩ := outer_step (G := G) (C := C) (ns := ns) (pre := pre) (l := l) (b := b) (d := none) (e := x5) (f := x6) (g := x7) (m := m) (i := i) (by omega) (by omega) hm (by omega) e5
    exact ⟨ρ', st', .inl e, l2, m2, _, y5, y6, y7, h0, by omega, h4, h5, h6⟩
theorem last_all {a b : Option D} {many : Nat} {pre : Sto} {l : List Nat} {m : Int} {x4 x5 x6 x7 : Option D} (h2 : many ≤ 40000) (hl : l.length ≤ 10000) (hvv : ∀ v ∈ l, v < 997) :
    ∃ ρ st, forGo (fb G C pre.length (.one 4) bLast) (rng 0 many) [a, b, some (.ref pre.length), some (.int m), x4, x5, x6, x7] (pre ++ [.lst (nats l)]) = .next ρ st ∧
      ∃ (l2 : List Nat) (m : Int) (x4 x5 x6 x7 : Option D), many ≤ l2.length ∧ ρ = [a, b, some (.ref pre.length), some (.int m), x4, x5, x6, x7] ∧ st = pre ++ [.lst (nats l2)] ∧ ∀ v ∈ l2, v < 997 := by
  have hz : SZ = 16777216 := rfl
  have L2 := forGo_inv (b := fb G C pre.length (.one 4) bLast) (xs := rng 0 many)
    (fun i ρ st => ∃ (l2 : List Nat) (m : Int) (x4 x5 x6 x7 : Option D), l2.length = l.length + i ∧ ρ = [a, b, some (.ref pre.length), some (.int m), x4, x5, x6, x7] ∧ st = pre ++ [.lst (nats l2)] ∧ ∀ v ∈ l2, v < 997)
    (ρ := [a, b, some (.ref pre.length), some (.int m), x4, x5, x6, x7]) (st := pre ++ [.lst (nats l)]) ⟨l, m, x4, x5, x6, x7, rfl, rfl, rfl, hvv⟩ ?_
  · obtain ⟨ρ1, st1, e1, l, m, x4, x5, x6, x7, hl, e2, e3, e4⟩ := L2
    rw [rng_length] at hl
    exact ⟨ρ1, st1, e1, l, m, x4, x5, x6, x7, by omega, e2, e3, e4⟩
  · intro i x hx ρ st ⟨l2, m, x4, x5, x6, x7, hl2, e3, e4, e5⟩
    obtain ⟨hi, rfl⟩ := rng_get hx
    subst e3 e4
    have hl3 : l2.length < SZ := by omega
    rw [fb_one]
    simp only [List.set_cons_succ, List.set_cons_zero, Int.zero_add]
    rw [last_step (h := none) hl3]
    refine ⟨_, _, .inl rfl, _, _, _, _, _, _, ?_, rfl, rfl, app_lt e5 (by omega)⟩
    rw [List.length_append, List.length_singleton]
    omega
theorem draws_ev {ns : List Int} {many : Nat} {pre : Sto} (h1 : ns.length ≤ 63) (h2 : many ≤ 40000) :
    ∃ row : List Nat, row.length = many ∧ (∀ v ∈ row, v < 997) ∧ ∃ l, evSs G C pre.length bDraws [some (.fz (ns.map D.int)), some (.int many), none, none, none, none, none, none] pre = .ret (.lst (nats row)) (pre ++ l) := by
  obtain ⟨ρ1, st1, e1, l, m, x4, x5, x6, x7, hl, rfl, rfl, hvv⟩ := outer_all (G := G) (C := C) (b := some (.int many)) (pre := pre) h1
  obtain ⟨ρ2, st2, e2, l2, m2, y4, y5, y6, y7, hl2, rfl, rfl, hv2⟩ := last_all (G := G) (C := C) (a := some (.fz (ns.map D.int))) (b := some (.int many)) (pre := pre) (l := l) (m := m) (x4 := x4) (x5 := x5) (x6 := x6) (x7 := x7) h2 hl hvv
  have s1 : small62 (ns.length : Int) = true := small62_of (by omega) (by omega)
  have s2 : small62 (many : Int) = true := small62_of (by omega) (by omega)
  have hcut := cut_many (l := l2) (many := many)
  refine ⟨l2.take many, by rw [List.length_take]; omega, fun v hv => hv2 v (List.mem_of_mem_take hv), [.lst (nats l2)], ?_⟩
  unfold bDraws
  simp [isC, s1, s2, e1, e2, slcD, hcut]
end

/-! ### the cell that is drawn from -/
abbrev kRow : Key := .inr (S [114, 111, 119])
abbrev kAt : Key := .inr (S [97, 116])
def dcell (row : List Nat) (at' : Nat) : D := .dk [(kRow, .lst (nats row)), (kAt, .int (at' : Int))]
/-- the draw -/
def tk (row : List Nat) (a : Nat) : Nat := row.getD (a % row.length) 0 + a / row.length
def bTake : Sms :=
  (.cons (.set 1 (.idx (.var 0) (.str (S [97, 116]))))
  (.cons (.put (.var 0) (.str (S [97, 116])) (.bin .add (.var 1) (.int 1)))
  (.cons (.ret (.bin .add (.idx (.idx (.var 0) (.str (S [114, 111, 119]))) (.bin .mod (.var 1) (.bi .len (.cons (.idx (.var 0) (.str (S [114, 111, 119]))) .nil)))) (.bin .fdiv (.var 1) (.bi .len (.cons (.idx (.var 0) (.str (S [114, 111, 119]))) .nil)))))
  .nil)))
section
variable {G : Prog} {C : Nat → List D → Sto → Out D}
theorem take_ev {fl n : Nat} {row : List Nat} {a : Nat} {st : Sto} (h0 : row ≠ []) (h1 : row.length < 100000) (e : st[n]? = some (dcell row a)) :
    evSs G C fl bTake [some (.ref n), none] st = .ret (.int (tk row a)) (st.set n (dcell row (a + 1))) := by
  have hn : n < st.length := (List.getElem?_eq_some_iff.mp e).1
  have hl : 0 < row.length := List.length_pos_iff.mpr h0
  have hk : (kRow = kAt) = False := by simp [kRow, kAt]
  have hk2 : (kAt = kRow) = False := by simp [kRow, kAt]
  have hz : SZ = 16777216 := rfl
  have e2 : (st.set n (dcell row (a + 1)))[n]? = some (dcell row (a + 1)) := by
    rw [List.getElem?_set_self hn]
  have hg1 : ∀ a, dget [(kRow, D.lst (nats row)), (kAt, .int (a : Int))] kRow = some (.lst (nats row)) := fun a => by simp [dget]
  have hg2 : ∀ a, dget [(kRow, D.lst (nats row)), (kAt, .int (a : Int))] kAt = some (.int a) := fun a => by simp [dget, hk]
  have hp : putD fl (.ref n) (.str (S [97, 116])) (.int ((a : Int) + 1)) st = some (st.set n (dcell row (a + 1))) := by
    unfold putD
    dsimp only
    rw [e]
    dsimp only [dcell, keyD]
    rw [if_pos ⟨by simp [SZ], by unfold wrOk; simp [D.lo]⟩]
    simp [dput, hk]
  have hat : atI (nats row) ((a : Int) % row.length) = some (.int (row.getD (a % row.length) 0 : Nat)) := by
    have hlt : a % row.length < row.length := Nat.mod_lt _ hl
    rw [atI_of (Int.emod_nonneg _ (by omega)), show ((a : Int) % row.length).toNat = a % row.length by omega]
    simp [nats, hlt, List.getD_eq_getElem?_getD]
  have hd : divOk (row.length : Int) = true := by
    unfold divOk
    have : Nat.log2 row.length < 9000 := by
      have := Nat.log2_lt (n := row.length) (k := 17) (by omega)
      have := this.mpr (by omega)
      omega
    simp [hl, this]
  unfold bTake
  have e' : st[n]? = some (.dk [(kRow, D.lst (nats row)), (kAt, .int (a : Int))]) := e
  have e2' : (st.set n (dcell row (a + 1)))[n]? = some (.dk [(kRow, D.lst (nats row)), (kAt, .int ((a + 1 : Nat) : Int))]) := e2
  simp only [ss_cons, ss_nil, s_set, s_put, s_ret, e_idx, e_var, e_str, e_bin, e_int, e_bi, es_cons, es_nil, List.getElem?_cons_zero, List.getElem?_cons_succ, Out.bind_ok, idx_ref, e', Option.getD_some, keyD_str, Option.bind_some, hg2, lift_some, Out.thenS_ok, List.set_cons_succ, List.set_cons_zero, OutS.seq_next, bin_add, hp, e2', hg1]
  simp only [ss_cons, ss_nil, s_set, s_put, s_ret, e_idx, e_var, e_str, e_bin, e_int, e_bi, es_cons, es_nil, List.getElem?_cons_zero, List.getElem?_cons_succ, Out.bind_ok, idx_ref, e2', Option.getD_some, keyD_str, Option.bind_some, hg1, lift_some, Out.thenS_ok, OutS.seq_next, bi_len, view_lst, bin_mod, nats_len, Int.natCast_pos.mpr hl, if_true, bin_fdiv, hd, idx_lst, hat, bin_add, OutS.seq_ret]
  rfl

/-- a draw, as a call -/
theorem run_take {G : Prog} {k fl f n : Nat} {F : Fn} {row : List Nat} {a : Nat} {st : Sto} (hF : G.fns[f]? = some F) (hb : F.body = bTake) (hp : F.pop = true) (hnp : F.np = 1) (hN : F.N.length = 2) (h0 : row ≠ []) (h1 : row.length < 100000) (e : st[n]? = some (dcell row a)) :
    run G (k + 1) fl f [.ref n] st = .ok (.int (tk row a)) (st.set n (dcell row (a + 1))) := by
  have h := take_ev (G := G) (C := run G k st.length) (fl := st.length) h0 h1 e
  have := run_popS (fl := fl) (ds := [.ref n]) (d' := .int (tk row a)) hF hp (by rw [hnp]; rfl) (by
    rw [hb, hN, hnp]
    exact h) rfl
  rw [this]
  congr 1
  rw [List.take_of_length_le]
  simp
theorem run_drawsB {G : Prog} {k fl f : Nat} {F : Fn} {ns : List Int} {many : Nat} {st : Sto} (hF : G.fns[f]? = some F) (hb : F.body = bDraws) (hp : F.pop = true) (hnp : F.np = 2) (hN : F.N.length = 8) (h1 : ns.length ≤ 63) (h2 : many ≤ 40000) :
    ∃ row : List Nat, row.length = many ∧ (∀ v ∈ row, v < 997) ∧ run G (k + 1) fl f [.fz (ns.map D.int), .int many] st = .ok (.lst (nats row)) st := by
  obtain ⟨row, hr, hb7, l, h⟩ := draws_ev (G := G) (C := run G k st.length) (pre := st) h1 h2
  exact ⟨row, hr, hb7, run_pop hF hp (by rw [hnp]; rfl) (by rw [hb, hN, hnp]; exact h) (by
    unfold unbox
    dsimp only
    rw [if_pos]
    exact nats_lo row)⟩
def bStart (f : Nat) (many : Int) : Sms := (.cons (.ret (.box (.dicE (.cons (.str (S [114, 111, 119])) (.call f (.cons (.var 0) (.cons (.int many) .nil))) (.cons (.str (S [97, 116])) (.int 0) .nil))))) .nil)
theorem run_startB {G : Prog} {k fl f fd : Nat} {F Fd : Fn} {ns : List Int} {many : Nat} {st : Sto} (hF : G.fns[f]? = some F) (hb : F.body = bStart fd many) (hp : F.pop = false) (hnp : F.np = 1) (hN : F.N.length = 1)
    (hFd : G.fns[fd]? = some Fd) (hbd : Fd.body = bDraws) (hpd : Fd.pop = true) (hnpd : Fd.np = 2) (hNd : Fd.N.length = 8) (h1 : ns.length ≤ 63) (h2 : many ≤ 40000) :
    ∃ row : List Nat, row.length = many ∧ (∀ v ∈ row, v < 997) ∧ run G (k + 2) fl f [.fz (ns.map D.int)] st = .ok (.ref st.length) (st ++ [dcell row 0]) := by
  obtain ⟨row, hr, hb7, h⟩ := run_drawsB (G := G) (k := k) (fl := fl) (st := st) hFd hbd hpd hnpd hNd h1 h2
  refine ⟨row, hr, hb7, run_keep hF hp (by rw [hnp]; rfl) ?_⟩
  rw [hb, hN, hnp]
  unfold bStart
  have hk : (kRow = kAt) = False := by simp [kRow, kAt]
  simp [h, isC, dput, hk, dcell]
theorem run_start {G : Prog} {k fl f fd : Nat} {F Fd : Fn} {ns : List Int} {many : Nat} {st : Sto} (hF : G.fns[f]? = some F) (hb : F.body = bStart fd many) (hp : F.pop = false) (hnp : F.np = 1) (hN : F.N.length = 1)
    (hFd : G.fns[fd]? = some Fd) (hbd : Fd.body = bDraws) (hpd : Fd.pop = true) (hnpd : Fd.np = 2) (hNd : Fd.N.length = 8) (h1 : ns.length ≤ 63) (h2 : many ≤ 40000) :
    ∃ row : List Nat, row.length = many ∧ run G (k + 2) fl f [.fz (ns.map D.int)] st = .ok (.ref st.length) (st ++ [dcell row 0]) := by
  obtain ⟨row, hr, _, h⟩ := run_startB (k := k) (fl := fl) (st := st) hF hb hp hnp hN hFd hbd hpd hnpd hNd h1 h2
  exact ⟨row, hr, h⟩
end
end Ev

set_option Elab.async false
set_option linter.all false
set_option maxRecDepth 100000
set_option maxHeartbeats 400000
/-! Ev, part 19: lists of numbers. -/
namespace Ev
open PySem L2

theorem atI_nats {l : List Nat} {i : Nat} (h : i < l.length) : atI (nats l) (i : Int) = some (.int (l.getD i 0 : Nat)) := by
  rw [atI_of (by omega), Int.toNat_natCast]
  simp [nats, List.getElem?_eq_getElem h, List.getD_eq_getElem?_getD]
theorem rng_nats (n : Nat) : rng 0 n = nats (List.range n) := by
  unfold rng nats
  simp
theorem rng_up (a : Nat) (b : Nat) : rng a b = nats ((List.range (b - a)).map (a + ·)) := by
  unfold rng nats
  rw [List.map_map]
  have : ((b : Int) - a).toNat = b - a := by omega
  rw [this]
  apply List.map_congr_left
  intro x _
  simp
theorem lc_rng {f : D → Sto → Out (Option D)} {n : Nat} {h : Nat → D} {st : Sto} (H : ∀ i, i < n → f (.int (i : Int)) st = .ok (some (h i)) st) : lcGo f (rng 0 n) st = .ok ((List.range n).map h) st := by
  rw [lcGo_pure (g := fun d => match d with | .int i => some (h i.toNat) | _ => none)]
  · rw [rng_nats]
    congr 1
    unfold nats
    rw [List.filterMap_map]
    rw [← List.filterMap_eq_map]
    rfl
  · intro x hx
    obtain ⟨i, rfl, h0, h1⟩ := mem_rng hx
    have := H i.toNat (by omega)
    rw [show ((i.toNat : Nat) : Int) = i by omega] at this
    exact this
theorem lc_rngF {f : D → Sto → Out (Option D)} {n : Nat} {p : Nat → Bool} {h : Nat → D} {st : Sto} (H : ∀ i, i < n → f (.int (i : Int)) st = .ok (if p i then some (h i) else none) st) : lcGo f (rng 0 n) st = .ok (((List.range n).filter p).map h) st := by
  rw [lcGo_pure (g := fun d => match d with | .int i => if p i.toNat then some (h i.toNat) else none | _ => none)]
  · rw [rng_nats]
    congr 1
    unfold nats
    rw [List.filterMap_map]
    induction List.range n with
    | nil => rfl
    | cons x xs ih =>
      rw [List.filterMap_cons, ih]
      dsimp only [Function.comp]
      rw [Int.toNat_natCast]
      cases hp : p x <;> simp [hp, List.filter_cons]
  · intro x hx
    obtain ⟨i, rfl, h0, h1⟩ := mem_rng hx
    have := H i.toNat (by omega)
    rw [show ((i.toNat : Nat) : Int) = i by omega] at this
    exact this
theorem toBools_map {α : Type} {l : List α} {p : α → Bool} : toBools (l.map fun i => D.bl (p i)) = some (l.map p) := by
  induction l with
  | nil => rfl
  | cons x xs ih => simp [toBools, ih]
theorem toInts_nats {l : List Nat} : toInts (nats l) = some (l.map fun n : Nat => (n : Int)) := by
  unfold nats
  induction l with
  | nil => rfl
  | cons x xs ih => simp [toInts, ih]
theorem okNs_nats {n : Nat} : ∀ l : List Nat, okNs n (nats l) = true
  | [] => by simp [nats, okNs]
  | x :: r => by
    have := okNs_nats (n := n) r
    unfold nats at this ⊢
    rw [List.map_cons, okNs, this]
    rfl
theorem eqvs_nats : ∀ {a b : List Nat}, eqvs (nats a) (nats b) = decide (a = b)
  | [], [] => by simp [nats, eqvs]
  | [], _ :: _ => by simp [nats, eqvs]
  | _ :: _, [] => by simp [nats, eqvs]
  | x :: a, y :: b => by
    have := eqvs_nats (a := a) (b := b)
    unfold nats at this ⊢
    rw [List.map_cons, List.map_cons, eqvs, this]
    have e : ((x : Int) = (y : Int)) = (x = y) := propext ⟨fun h => by omega, fun h => by rw [h]⟩
    simp only [eqv, e, List.cons.injEq, Bool.decide_and]
theorem eqD_tup {st : Sto} {a b : List Nat} : eqD st (.tup (nats a)) (.tup (nats b)) = some (decide (a = b)) := by
  unfold eqD
  rw [view_tup, view_tup, if_pos]
  · rw [eqv, eqvs_nats]
  · rw [okN, okN, okNs_nats, okNs_nats]; rfl
theorem eqD_lst {st : Sto} {a b : List Nat} : eqD st (.lst (nats a)) (.lst (nats b)) = some (decide (a = b)) := by
  unfold eqD
  rw [view_lst, view_lst, if_pos]
  · rw [eqv, eqvs_nats]
  · rw [okN, okN, okNs_nats, okNs_nats]; rfl
theorem any_nats {l : List Nat} {z : Nat} : (nats l).any (fun x => eqv x (.int z)) = decide (z ∈ l) := by
  unfold nats
  induction l with
  | nil => rfl
  | cons x xs ih =>
    rw [List.map_cons, List.any_cons, ih]
    have e : ((x : Int) = (z : Int)) = (z = x) := propext ⟨fun h => by omega, fun h => by rw [h]⟩
    simp only [eqv, e, List.mem_cons, Bool.decide_or]
theorem memD_nats {st : Sto} {l : List Nat} {z : Nat} : memD st (.int z) (.lst (nats l)) = some (decide (z ∈ l)) := by
  unfold memD
  rw [view_lst]
  dsimp only
  rw [okNs_nats, any_nats]
  rfl
theorem nats_map {α : Type} {l : List α} {f : α → Nat} : l.map (fun x => D.int (f x : Int)) = nats (l.map f) := by
  simp [nats]
theorem unbox_tup {fl : Nat} {st : Sto} {l : List Nat} : unbox fl st (.tup (nats l)) = some (.tup (nats l)) := by
  unfold unbox
  dsimp only
  exact if_pos (nats_lo l)
theorem unbox_lst {fl : Nat} {st : Sto} {l : List Nat} : unbox fl st (.lst (nats l)) = some (.lst (nats l)) := by
  unfold unbox
  dsimp only
  exact if_pos (nats_lo l)
/-- a call that leaves the store -/
theorem run_v {G : Prog} {k fl f : Nat} {ds : List D} {st : Sto} {F : Fn} {d : D} (hF : G.fns[f]? = some F) (hp : F.pop = true) (hn : ds.length = F.np) (hu : unbox st.length st d = some d)
    (h : evSs G (run G k st.length) st.length F.body (ds.map some ++ List.replicate (F.N.length - F.np) none) st = .ret d st) : run G (k + 1) fl f ds st = .ok d st := by
  have := run_popS (fl := fl) hF hp hn h hu
  rw [this, List.take_length]
/-- a comprehension that draws -/
theorem lc_draw {f : D → Sto → Out (Option D)} {n : Nat} {row : List Nat} {rest : Sto} (P : Nat → Prop) (H : ∀ i, i < n → ∀ a, ∃ v a' : Nat, f (.int (i : Int)) (dcell row a :: rest) = .ok (some (.int (v : Int))) (dcell row a' :: rest) ∧ P v) (a : Nat) :
    ∃ (l : List Nat) (a' : Nat), lcGo f (rng 0 n) (dcell row a :: rest) = .ok (nats l) (dcell row a' :: rest) ∧ l.length = n ∧ ∀ v ∈ l, P v := by
  obtain ⟨ds, st', e, l, a', rfl, rfl, hl, hp⟩ := lcGo_inv (f := f) (xs := rng 0 n) (fun i ds st => ∃ (l : List Nat) (a : Nat), ds = nats l ∧ st = dcell row a :: rest ∧ l.length = i ∧ ∀ v ∈ l, P v) (st := dcell row a :: rest) ⟨[], a, rfl, rfl, rfl, fun v hv => nomatch hv⟩ (by
    intro i x hx ds st ⟨l, a, e1, e2, hl, hp⟩
    obtain ⟨hi, rfl⟩ := rng_get hx
    subst e1 e2
    obtain ⟨v, a', e, pv⟩ := H i (by omega) a
    rw [Int.zero_add, e]
    refine ⟨_, _, rfl, l ++ [v], a', by simp [nats], rfl, by simp [hl], fun w hw => ?_⟩
    rcases List.mem_append.mp hw with h | h
    · exact hp w h
    · rw [List.mem_singleton.mp h]; exact pv)
  refine ⟨l, a', e, ?_, hp⟩
  rw [hl, rng_length]
  omega
end Ev

set_option Elab.async false
set_option linter.all false
set_option maxRecDepth 100000
set_option maxHeartbeats 400000
/-! Ev, part 20: more working lemmas. -/
namespace Ev
open PySem L2
/-- a while loop, one turn -/
theorem whlE_eq {c : Env → Sto → Out D} {b : Env → Sto → OutS} {ρ : Env} {st : Sto} : whlE c b ρ st = (c ρ st).thenS ρ fun x st1 => match x with
    | .bl true => (b ρ st1).turn (whlE c b)
    | .bl false => .next ρ st1
    | _ => .bad := by
  have none_bad : ∀ {ρ : Env} {st : Sto}, (¬ ∃ n r, whlN c b n ρ st = some r) → whlE c b ρ st = .bad := fun h => by unfold whlE; rw [dif_neg h]
  have one : ∀ {r : OutS}, whlN c b 1 ρ st = some r → whlE c b ρ st = r := fun h => whlE_of h
  have go : ∀ {st1 : Sto} {ρ' : Env} {st' : Sto}, (∀ n, whlN c b (n + 1) ρ st = whlN c b n ρ' st') → whlE c b ρ st = whlE c b ρ' st' := fun {st1 ρ' st'} h => by
    by_cases hx : ∃ n r, whlN c b n ρ' st' = some r
    · obtain ⟨n, r, e⟩ := hx
      rw [whlE_of e]
      exact whlE_of ((h n).trans e)
    · rw [none_bad hx]
      apply none_bad
      rintro ⟨n, r, e⟩
      cases n with
      | zero => simp [whlN] at e
      | succ n => exact hx ⟨n, r, (h n).symm.trans e⟩
  cases ec : c ρ st with
  | bad => exact one (by unfold whlN; rw [ec]; rfl)
  | exc x fs s => exact one (by unfold whlN; rw [ec]; rfl)
  | ok x s =>
    rw [Out.thenS_ok]
    cases x with
    | bl v =>
      cases v with
      | false => exact one (by unfold whlN; rw [ec])
      | true =>
        dsimp only
        cases eb : b ρ s with
        | next ρ' s' => exact go (st1 := s) fun n => by rw [whlN, ec]; dsimp only; rw [eb]
        | cont ρ' s' => exact go (st1 := s) fun n => by rw [whlN, ec]; dsimp only; rw [eb]
        | brk ρ' s' => exact one (by rw [whlN, ec]; dsimp only; rw [eb]; rfl)
        | ret d s' => exact one (by rw [whlN, ec]; dsimp only; rw [eb]; rfl)
        | exc x fs ρ' s' => exact one (by rw [whlN, ec]; dsimp only; rw [eb]; rfl)
        | bad => exact one (by rw [whlN, ec]; dsimp only; rw [eb]; rfl)
    | _ => exact one (by unfold whlN; rw [ec])
@[simp] theorem setSlots_nil {ρ : Env} : setSlots ρ [] [] = some ρ := rfl
@[simp] theorem setSlots_cons {ρ : Env} {i : Nat} {is : List Nat} {d : D} {ds : List D} : setSlots ρ (i :: is) (d :: ds) = setSlots (ρ.set i (some d)) is ds := rfl
@[simp] theorem asg_many {ρ : Env} {is : List Nat} {ds : List D} : asg ρ (.many is) (.tup ds) = setSlots ρ is ds := rfl
@[simp] theorem asg_manyK {ρ : Env} {is : List Nat} {ds : List D} : asg ρ (.many is) (.tk ds) = setSlots ρ is ds := rfl
@[simp] theorem slc_lst {st : Sto} {xs : List D} {lo hi : Option Int} : slcD st (.lst xs) lo hi = some (.lst (cutD xs lo hi)) := rfl
@[simp] theorem slc_tup {st : Sto} {xs : List D} {lo hi : Option Int} : slcD st (.tup xs) lo hi = some (.tup (cutD xs lo hi)) := rfl
/-- a place drawn in a display -/
theorem pick {xs : List D} {t n : Nat} (hn : xs.length = n) (h0 : 0 < n) : ∃ v, atI xs ((t : Int) % (n : Int)) = some v ∧ v ∈ xs := by
  have h1 : t % n < xs.length := by rw [hn]; exact Nat.mod_lt _ h0
  refine ⟨xs[t % n], ?_, List.getElem_mem _⟩
  rw [atI_of (Int.emod_nonneg _ (by omega)), show ((t : Int) % (n : Int)).toNat = t % n by omega]
  exact List.getElem?_eq_getElem h1
theorem cut_lo {l : List Nat} {a : Nat} : cutD (nats l) (some (a : Int)) none = nats (l.drop a) := by
  unfold cutD
  rw [HT.sIx_nat, nats_len]
  unfold HT.sIx
  dsimp only
  by_cases h : a ≤ l.length
  · rw [Nat.min_eq_left h]
    simp [nats, List.map_drop]
    rw [List.take_of_length_le (by simp)]
  · rw [Nat.min_eq_right (by omega), Nat.sub_self, List.take_zero, List.drop_of_length_le (by omega)]
    rfl
theorem cut_hi {l : List Nat} {a : Nat} : cutD (nats l) none (some (a : Int)) = nats (l.take a) := cut_many
theorem divOk_of {j : Int} (h : 0 < j) (h2 : j ≤ 1000000000000000000000) : divOk j = true := by
  unfold divOk
  have h3 : j.natAbs < 2 ^ 100 := by
    have : (2 : Nat) ^ 100 = 1267650600228229401496703205376 := by decide
    omega
  have h4 : Nat.log2 j.natAbs < 100 := (Nat.log2_lt (by omega)).mpr h3
  have h5 : Nat.log2 j.natAbs < 9000 := by omega
  simp [h, h5]
theorem small62_n {n : Nat} (h : n ≤ 1000000000) : small62 (n : Int) = true := small62_of (by omega) (by omega)
section
variable {st : Sto} {n : Nat} {xs ys : List D} {d : D}
@[simp] theorem bin_addR : binD st .add (.ref n) (.lst ys) = match (st[n]?).getD .non with
    | .lst xs => if xs.length + ys.length ≤ SZ then some (.lst (xs ++ ys)) else none
    | _ => none := by
  show binD st .add (.ref n) (.lst ys) = _
  unfold binD
  rw [view_ref, view_lst]
  cases (st[n]?).getD .non <;> rfl
@[simp] theorem get_last {pre : Sto} {d : D} : (pre ++ [d])[pre.length]? = some d := by simp
theorem app_n {pre : Sto} {l : List Nat} {n : Nat} (hl : l.length < SZ) : bmD pre.length .append (.ref pre.length) [.int (n : Int)] (pre ++ [.lst (nats l)]) = .ok .non (pre ++ [.lst (nats (l ++ [n]))]) := by
  rw [app_c (by omega) hl, Int.toNat_natCast]
end
theorem kit_ref {K : PySem.W.Frag} {C C' : Addr} {b : Bool} (h0 : PySem.W.subIn K (.ref C) (.ref C) = some true) (hdct : PySem.W.hasDictIn K C' = true) (ht : PySem.W.typeIn K (.ref C') = some (.type "type")) (h4 : PySem.W.subIn K (.ref C) (.ref C') = some b) : PySem.W.kitOne K (.ref C) (.ref C') = some b := by
  unfold PySem.W.kitOne
  split
  · rename_i e
    have e := eq_of_beq e
    cases e
    rw [h0] at h4
    exact h4
  · unfold PySem.W.kitCls
    dsimp only
    have hc : (PySem.W.clsIn K C').isSome = true := by
      unfold PySem.W.hasDictIn at hdct
      cases hz : PySem.W.clsIn K C' with
      | none => rw [hz] at hdct; cases hdct
      | some _ => rfl
    rw [hc, ht]
    rw [if_pos (by rfl)]
    exact h4
theorem slc_view {st : Sto} {x : D} {xs : List D} {lo hi : Option Int} (h : view st x = .lst xs) : slcD st x lo hi = some (.lst (cutD xs lo hi)) := by
  unfold slcD
  rw [h]
theorem idx_view {st : Sto} {x : D} {xs : List D} {i : Int} (h : view st x = .lst xs) : idxD st x (.int i) = atI xs i := by
  unfold idxD
  rw [h]
theorem idxT_view {st : Sto} {x : D} {xs : List D} {i : Int} (h : view st x = .tup xs) : idxD st x (.int i) = atI xs i := by
  unfold idxD
  rw [h]
theorem len_view {st : Sto} {x : D} {xs : List D} (h : view st x = .lst xs) : biD st .len [x] = some (.int xs.length) := by
  rw [bi_len, h]
theorem lenT_view {st : Sto} {x : D} {xs : List D} (h : view st x = .tup xs) : biD st .len [x] = some (.int xs.length) := by
  rw [bi_len, h]
theorem list_view {st : Sto} {x : D} {xs : List D} (h : view st x = .lst xs) : biD st .list [x] = some (.lst xs) := by
  rw [bi_list, h]
theorem eq_view {st : Sto} {x y : D} {a b : List Nat} (h : view st x = .lst (nats a)) (h' : view st y = .lst (nats b)) : eqD st x y = some (decide (a = b)) := by
  have := eqD_lst (st := st) (a := a) (b := b)
  unfold eqD at this ⊢
  rw [h, h']
  exact this
@[simp] theorem slc_ref {st : Sto} {n : Nat} {lo hi : Option Int} : slcD st (.ref n) lo hi = match (st[n]?).getD .non with
    | .lst xs => some (.lst (cutD xs lo hi))
    | .tup xs => some (.tup (cutD xs lo hi))
    | _ => none := rfl
mutual
theorem eqv_refl : ∀ (d : D) (n : Nat), okN n d = true → eqv d d = true
  | .non, _, _ => by simp [eqv]
  | .bl _, _, _ => by simp [eqv]
  | .int _, _, _ => by simp [eqv]
  | .str _, _, _ => by simp [eqv]
  | .tup xs, 0, h => by simp [okN] at h
  | .tup xs, n + 1, h => by rw [eqv]; exact eqvs_refl xs n (by simpa [okN] using h)
  | .lst xs, 0, h => by simp [okN] at h
  | .lst xs, n + 1, h => by rw [eqv]; exact eqvs_refl xs n (by simpa [okN] using h)
  | .fz _, n, h => by cases n <;> simp [okN] at h
  | .tk _, n, h => by cases n <;> simp [okN] at h
  | .dk _, n, h => by cases n <;> simp [okN] at h
  | .dt _, n, h => by cases n <;> simp [okN] at h
  | .ins _ _, n, h => by cases n <;> simp [okN] at h
  | .ref _, n, h => by cases n <;> simp [okN] at h
  | .fn _, n, h => by cases n <;> simp [okN] at h
  | .cl _, n, h => by cases n <;> simp [okN] at h
  | .ty _, n, h => by cases n <;> simp [okN] at h
  | .err _ _, n, h => by cases n <;> simp [okN] at h
theorem eqvs_refl : ∀ (xs : List D) (n : Nat), okNs n xs = true → eqvs xs xs = true
  | [], _, _ => by simp [eqvs]
  | x :: xs, n, h => by
    have h' : okN n x = true ∧ okNs n xs = true := by simpa [okNs] using h
    rw [eqvs, eqv_refl x n h'.1, eqvs_refl xs n h'.2]; rfl
end
theorem eqD_same {st : Sto} {x y d : D} (hx : view st x = d) (hy : view st y = d) (hd : okN 60 d = true) : eqD st x y = some true := by
  unfold eqD
  rw [hx, hy, hd]
  simp [eqv_refl d 60 hd]
theorem kt_NoneType_int : kitB "NoneType" "int" = some false := by decide +kernel
theorem kt_NoneType_str : kitB "NoneType" "str" = some false := by decide +kernel
theorem kt_NoneType_list : kitB "NoneType" "list" = some false := by decide +kernel
theorem kt_NoneType_tuple : kitB "NoneType" "tuple" = some false := by decide +kernel
theorem kt_NoneType_dict : kitB "NoneType" "dict" = some false := by decide +kernel
theorem kt_NoneType_bool : kitB "NoneType" "bool" = some false := by decide +kernel
theorem kt_bool_int : kitB "bool" "int" = some true := by decide +kernel
theorem kt_bool_str : kitB "bool" "str" = some false := by decide +kernel
theorem kt_bool_list : kitB "bool" "list" = some false := by decide +kernel
theorem kt_bool_tuple : kitB "bool" "tuple" = some false := by decide +kernel
theorem kt_bool_dict : kitB "bool" "dict" = some false := by decide +kernel
theorem kt_bool_bool : kitB "bool" "bool" = some true := by decide +kernel
theorem kt_int_int : kitB "int" "int" = some true := by decide +kernel
theorem kt_int_str : kitB "int" "str" = some false := by decide +kernel
theorem kt_int_list : kitB "int" "list" = some false := by decide +kernel
theorem kt_int_tuple : kitB "int" "tuple" = some false := by decide +kernel
theorem kt_int_dict : kitB "int" "dict" = some false := by decide +kernel
theorem kt_int_bool : kitB "int" "bool" = some false := by decide +kernel
theorem kt_str_int : kitB "str" "int" = some false := by decide +kernel
theorem kt_str_str : kitB "str" "str" = some true := by decide +kernel
theorem kt_str_list : kitB "str" "list" = some false := by decide +kernel
theorem kt_str_tuple : kitB "str" "tuple" = some false := by decide +kernel
theorem kt_str_dict : kitB "str" "dict" = some false := by decide +kernel
theorem kt_str_bool : kitB "str" "bool" = some false := by decide +kernel
theorem kt_list_int : kitB "list" "int" = some false := by decide +kernel
theorem kt_list_str : kitB "list" "str" = some false := by decide +kernel
theorem kt_list_list : kitB "list" "list" = some true := by decide +kernel
theorem kt_list_tuple : kitB "list" "tuple" = some false := by decide +kernel
theorem kt_list_dict : kitB "list" "dict" = some false := by decide +kernel
theorem kt_list_bool : kitB "list" "bool" = some false := by decide +kernel
theorem kt_tuple_int : kitB "tuple" "int" = some false := by decide +kernel
theorem kt_tuple_str : kitB "tuple" "str" = some false := by decide +kernel
theorem kt_tuple_list : kitB "tuple" "list" = some false := by decide +kernel
theorem kt_tuple_tuple : kitB "tuple" "tuple" = some true := by decide +kernel
theorem kt_tuple_dict : kitB "tuple" "dict" = some false := by decide +kernel
theorem kt_tuple_bool : kitB "tuple" "bool" = some false := by decide +kernel
theorem kt_dict_int : kitB "dict" "int" = some false := by decide +kernel
theorem kt_dict_str : kitB "dict" "str" = some false := by decide +kernel
theorem kt_dict_list : kitB "dict" "list" = some false := by decide +kernel
theorem kt_dict_tuple : kitB "dict" "tuple" = some false := by decide +kernel
theorem kt_dict_dict : kitB "dict" "dict" = some true := by decide +kernel
theorem kt_dict_bool : kitB "dict" "bool" = some false := by decide +kernel
theorem ty_non  : tyD .non = some "NoneType" := rfl
theorem ty_bl {b : Bool} : tyD (.bl b) = some "bool" := rfl
theorem ty_int {i : Int} : tyD (.int i) = some "int" := rfl
theorem ty_str {x : Str} : tyD (.str x) = some "str" := rfl
theorem ty_tup {xs : List D} : tyD (.tup xs) = some "tuple" := rfl
theorem ty_tk {xs : List D} : tyD (.tk xs) = some "tuple" := rfl
theorem ty_lst {xs : List D} : tyD (.lst xs) = some "list" := rfl
theorem ty_fz {xs : List D} : tyD (.fz xs) = some "list" := rfl
theorem isNon_bl {b : Bool} : isNon (.bl b) = false := rfl
theorem isNon_int {i : Int} : isNon (.int i) = false := rfl
theorem isNon_str {x : Str} : isNon (.str x) = false := rfl
theorem isNon_tupl {xs : List D} : isNon (.tup xs) = false := rfl
theorem isNon_lstl {xs : List D} : isNon (.lst xs) = false := rfl
theorem at0 {x : D} {r : List D} : atI (x :: r) 0 = some x := by rw [atI_of (by decide)]; rfl
theorem at1 {x y : D} {r : List D} : atI (x :: y :: r) 1 = some y := by rw [atI_of (by decide)]; rfl
theorem at2 {x y z : D} {r : List D} : atI (x :: y :: z :: r) 2 = some z := by rw [atI_of (by decide)]; rfl
theorem at3 {x y z w : D} {r : List D} : atI (x :: y :: z :: w :: r) 3 = some w := by rw [atI_of (by decide)]; rfl
theorem ltS_sign {a b : Nat} : ltS ⟨#[a]⟩ ⟨#[b]⟩ = decide (a < b) := by
  unfold ltS
  apply decide_eq_decide.mpr
  show ([a] : List Nat) < [b] ↔ a < b
  constructor
  · intro h
    cases h with
    | rel h => exact h
    | cons h => cases h
  · intro h
    exact .rel h
mutual
theorem okN_mono : ∀ (d : D) (n k : Nat), n ≤ k → okN n d = true → okN k d = true
  | .non, _, _, _, _ => by simp [okN]
  | .bl _, _, _, _, _ => by simp [okN]
  | .int _, _, _, _, _ => by simp [okN]
  | .str _, _, _, _, _ => by simp [okN]
  | .tup xs, 0, _, _, h => by simp [okN] at h
  | .lst xs, 0, _, _, h => by simp [okN] at h
  | .tup xs, n + 1, 0, hk, h => by omega
  | .lst xs, n + 1, 0, hk, h => by omega
  | .tup xs, n + 1, k + 1, hk, h => by rw [okN] at h ⊢; exact okNs_mono xs n k (by omega) h
  | .lst xs, n + 1, k + 1, hk, h => by rw [okN] at h ⊢; exact okNs_mono xs n k (by omega) h
  | .fz _, n, _, _, h => by cases n <;> simp [okN] at h
  | .tk _, n, _, _, h => by cases n <;> simp [okN] at h
  | .dk _, n, _, _, h => by cases n <;> simp [okN] at h
  | .dt _, n, _, _, h => by cases n <;> simp [okN] at h
  | .ins _ _, n, _, _, h => by cases n <;> simp [okN] at h
  | .ref _, n, _, _, h => by cases n <;> simp [okN] at h
  | .fn _, n, _, _, h => by cases n <;> simp [okN] at h
  | .cl _, n, _, _, h => by cases n <;> simp [okN] at h
  | .ty _, n, _, _, h => by cases n <;> simp [okN] at h
  | .err _ _, n, _, _, h => by cases n <;> simp [okN] at h
theorem okNs_mono : ∀ (xs : List D) (n k : Nat), n ≤ k → okNs n xs = true → okNs k xs = true
  | [], _, _, _, _ => by simp [okNs]
  | x :: xs, n, k, hk, h => by
    rw [okNs, Bool.and_eq_true] at h
    rw [okNs, okN_mono x n k hk h.1, okNs_mono xs n k hk h.2]; rfl
end
/-- the same text -/
def strEq (x : Str) : D → Bool
  | .str y => decide (x = y)
  | _ => false
theorem eqD_strT {st : Sto} {x : Str} {d : D} (h : okN 60 d = true) : eqD st (.str x) d = some (strEq x d) := by
  have hv : view st d = d := by cases d <;> first | rfl | simp [okN] at h
  unfold eqD
  rw [hv, view_str, if_pos (by simp [okN, h])]
  cases d <;> simp [eqv, strEq]
theorem eqD_nilT {st : Sto} {xs : List D} (h : okNs 59 xs = true) : eqD st (.tup xs) (.tup []) = some xs.isEmpty := by
  unfold eqD
  rw [view_tup, view_tup, if_pos (by simp [okN, okNs, h])]
  cases xs <;> simp [eqv, eqvs]
theorem eqD_nilL {st : Sto} {xs : List D} (h : okNs 59 xs = true) : eqD st (.lst xs) (.lst []) = some xs.isEmpty := by
  unfold eqD
  rw [view_lst, view_lst, if_pos (by simp [okN, okNs, h])]
  cases xs <;> simp [eqv, eqvs]
/-- a call that hands nothing back -/
theorem run_nx {G : Prog} {k fl f : Nat} {ds : List D} {st : Sto} {F : Fn} {ρ : Env} (hF : G.fns[f]? = some F) (hp : F.pop = true) (hn : ds.length = F.np)
    (h : evSs G (run G k st.length) st.length F.body (ds.map some ++ List.replicate (F.N.length - F.np) none) st = .next ρ st) : run G (k + 1) fl f ds st = .ok .non st := by
  unfold run
  rw [hF]
  dsimp only
  rw [if_pos hn]
  simp only [hp, if_true]
  rw [h]
  dsimp only [fin]
  rw [if_pos rfl]
  show (Out.ok D.non (st.take st.length) : Out D) = _
  rw [List.take_length]
end Ev

set_option Elab.async false
set_option linter.all false
set_option maxRecDepth 100000
set_option maxHeartbeats 4000000
/-! Ev, part S: rules of the evaluator for fields, methods, instances, gets. -/
namespace Ev
open PySem L2
section
variable {G : Prog} {C : Nat → List D → Sto → Out D} {fl : Nat} {ρ : Env} {st : Sto}
@[simp] theorem e_attr {o : Ex} {f : Str} : evE G C fl ρ (.attr o f) st = (evE G C fl ρ o st).bind fun x st => match view st x with
    | .ins c fs => if fldB G c f = true then lift (fs.lookup f) st else .bad
    | _ => .bad := by first | (rw [evE]; done) | (rw [evE]; rfl)
@[simp] theorem e_meth {c : Nat} {m : Str} {o : Ex} {as : Exs} : evE G C fl ρ (.meth c m o as) st = (evE G C fl ρ o st).bind fun x st => match view st x with
    | .ins c' fs => if c' = c ∧ fs.lookup m = none then (evEs G C fl ρ as st).bind fun ds st => (match mthOf G c m with
      | some f => if (G.fns[f]?).map (·.np) = some (ds.length + 1) then C f (x :: ds) st else .bad
      | none => .bad) else .bad
    | _ => .bad := by first | (rw [evE]; done) | (rw [evE]; rfl)
@[simp] theorem e_mk {c : Nat} {as : Exs} : evE G C fl ρ (.mk c as) st = (evEs G C fl ρ as st).bind fun ds st => match mthOf G c "__init__" with
    | some f => if (G.fns[f]?).map (·.np) = some (ds.length + 1) then (C f (.ref st.length :: ds) (st ++ [.ins c []])).noX.bind fun d st' => (match d with
      | .non => .ok (.ref st.length) st'
      | _ => .bad) else .bad
    | none => .bad := by first | (rw [evE]; done) | (rw [evE]; rfl)
@[simp] theorem e_chain3 {op op2 op3 : COp} {a b c d : Ex} : evE G C fl ρ (.chain3 op op2 op3 a b c d) st = (evE G C fl ρ a st).bind fun x st => (evE G C fl ρ b st).bind fun y st =>
      match cmpD st op x y with
      | some true => (evE G C fl ρ c st).bind fun z st => (match cmpD st op2 y z with
        | some true => (evE G C fl ρ d st).bind fun w st => lift ((cmpD st op3 z w).map D.bl) st
        | some false => .ok (.bl false) st
        | none => .bad)
      | some false => .ok (.bl false) st
      | none => .bad := by first | (rw [evE]; done) | (rw [evE]; rfl)
@[simp] theorem e_dixg {c : Nat} {i d : Ex} : evE G C fl ρ (.dixg c i d) st = (evE G C fl ρ i st).bind fun x st => (evE G C fl ρ d st).bind fun y st => match x with
    | .str z => (match G.dics[c]? with
      | some p => .ok ((p.2.lookup z).getD y) st
      | none => .bad)
    | _ => .bad := by first | (rw [evE]; done) | (rw [evE]; rfl)
@[simp] theorem e_dget1 {o k : Ex} : evE G C fl ρ (.dget1 o k) st = (evE G C fl ρ o st).bind fun x st => if isDc st x = true then (evE G C fl ρ k st).bind fun y st => (match getO st x y with
    | some r => .ok (r.getD .non) st
    | none => .bad) else .bad := by first | (rw [evE]; done) | (rw [evE]; rfl)
@[simp] theorem e_dget2 {o k d : Ex} : evE G C fl ρ (.dget2 o k d) st = (evE G C fl ρ o st).bind fun x st => if isDc st x = true then (evE G C fl ρ k st).bind fun y st => (evE G C fl ρ d st).bind fun z st => (match getO st x y with
    | some r => .ok (r.getD z) st
    | none => .bad) else .bad := by first | (rw [evE]; done) | (rw [evE]; rfl)
@[simp] theorem e_tix {o v : Ex} : evE G C fl ρ (.tix o v) st = (evE G C fl ρ o st).bind fun x st => match x with
    | .tk xs => (evE G C fl ρ v st).bind fun y st => (match y, toStrs xs with
      | .str z, some ss => (match ss.findIdx? fun w => decide (w = z) with
        | some j => .ok (.int (j : Nat)) st
        | none => .bad)
      | _, _ => .bad)
    | _ => .bad := by first | (rw [evE]; done) | (rw [evE]; rfl)
@[simp] theorem s_fld {o e : Ex} {f : Str} : evS G C fl (.fld o f e) ρ st = (evE G C fl ρ e st).thenS ρ fun v st => (evE G C fl ρ o st).thenS ρ fun x st => match fldD G fl x f v st with
    | some st' => .next ρ st'
    | none => .bad := by first | (rw [evS]; done) | (rw [evS]; rfl)
@[simp] theorem s_setA {ts : List TA1} {e : Ex} : evS G C fl (.setA ts e) ρ st = (evE G C fl ρ e st).thenS ρ fun d st => match d with
    | .tup ds => (match setTA G fl ts ds ρ st with
      | some q => .next q.1 q.2
      | none => .bad)
    | _ => .bad := by first | (rw [evS]; done) | (rw [evS]; rfl)
@[simp] theorem e_sortK {f : Nat} {a : Ex} : evE G C fl ρ (.sortK f a) st = (evE G C fl ρ a st).bind fun x st => match view st x with
    | .lst xs => (keysGo (fun x st => C f [x] st) xs st).bind fun ks st => .ok (.lst ((EvSK.psort (ks.zip xs)).map (·.2))) st
    | _ => .bad := by first | (rw [evE]; done) | (rw [evE]; rfl)
theorem ei_kys {a : Ex} : evI G C fl ρ (.kys a) st = (evE G C fl ρ a st).bind fun x st => match keysL st x with
    | some ks => .ok ks st
    | none => .bad := by first | (rw [evI]; done) | (rw [evI]; rfl)
theorem s_forK {tg : Tg} {a : Ex} {b : Sms} : evS G C fl (.forS tg (.kys a) b) ρ st = (evI G C fl ρ (.kys a) st).thenS ρ fun xs st => forGo (fb G C fl tg b) xs ρ st := s_forA (fun _ _ => rfl) (fun _ => rfl) (fun _ _ => rfl)
theorem s_lock {o : Ex} {s : Sm} : evS G C fl (.lock o s) ρ st = if alreadyLk (evE G C fl ρ o st) st = true then evS G C fl s ρ st else match lockS (evE G C fl ρ o st) st with
    | some p => (evS G C fl s ρ p.2).unlk p.1
    | none => .bad := by first | (rw [evS]; done) | (rw [evS]; rfl)
/-- a walk over a dict's cell -/
theorem lock_at {o : Ex} {s : Sm} {n : Nat} {c c' : D} {ρ' : Env} {st1 st' : Sto} (ho : evE G C fl ρ o st = .ok (.ref n) st1) (hc : st[n]? = some c) (hd : isDcC c = true) (hs : evS G C fl s ρ (st.set n (.lk c)) = .next ρ' st') (h' : st'[n]? = some (.lk c')) : evS G C fl (.lock o s) ρ st = .next ρ' (st'.set n c') := by
  have hal : alreadyLk (evE G C fl ρ o st) st = false := by
    rw [ho]
    unfold alreadyLk
    dsimp only
    unfold lkB
    dsimp only
    rw [hc]
    cases c <;> first | rfl | (cases hd)
  have hl : lockS (evE G C fl ρ o st) st = some (n, st.set n (.lk c)) := by
    rw [ho]
    unfold lockS
    dsimp only
    rw [hc]
    dsimp only
    rw [if_pos hd]
  rw [s_lock, hal, if_neg (by simp), hl]
  dsimp only
  rw [hs]
  unfold OutS.unlk unlockS
  dsimp only
  rw [h']
theorem keysGo_map {α : Type} {f : D → Sto → Out D} {g : α → D} {kf : α → Int × Int} {st : Sto} : ∀ {l : List α}, (∀ x ∈ l, f (g x) st = .ok (.tup [.int (kf x).1, .int (kf x).2]) st) → keysGo f (l.map g) st = .ok (l.map kf) st
  | [], _ => rfl
  | x :: l, h => by
    rw [List.map_cons, List.map_cons, keysGo, h x (by simp)]
    show (match keyP (.tup [.int (kf x).1, .int (kf x).2]) with
      | some p => (keysGo f (l.map g) st).bind fun ps st2 => .ok (p :: ps) st2
      | none => .bad) = _
    rw [keysGo_map fun y hy => h y (by simp [hy])]
    rfl
theorem insP_map {α β : Type} {g : α → β} (x : (Int × Int) × α) : ∀ l : List ((Int × Int) × α), EvSK.insP (x.1, g x.2) (l.map fun p => (p.1, g p.2)) = (EvSK.insP x l).map fun p => (p.1, g p.2)
  | [] => rfl
  | y :: r => by
    rw [List.map_cons]
    unfold EvSK.insP
    split
    · rw [List.map_cons, insP_map x r]
    · rfl
theorem psort_map {α β : Type} {g : α → β} : ∀ l : List ((Int × Int) × α), EvSK.psort (l.map fun p => (p.1, g p.2)) = (EvSK.psort l).map fun p => (p.1, g p.2)
  | [] => rfl
  | x :: r => by
    rw [List.map_cons, EvSK.psort, psort_map r, insP_map x]
    rfl
/-- sorted by a pair of numbers -/
def sortBy {α : Type} (kf : α → Int × Int) (l : List α) : List α := (EvSK.psort (l.map fun x => (kf x, x))).map (·.2)
theorem sortBy_map {α : Type} {g : α → D} {kf : α → Int × Int} {l : List α} : (EvSK.psort ((l.map kf).zip (l.map g))).map (·.2) = (sortBy kf l).map g := by
  have e : (l.map kf).zip (l.map g) = (l.map fun x => (kf x, x)).map fun p => (p.1, g p.2) := by
    rw [List.map_map, List.zip_map']
    rfl
  rw [e, psort_map, List.map_map]
  unfold sortBy
  rw [List.map_map]
  rfl
theorem sortBy_perm {α : Type} {kf : α → Int × Int} {l : List α} : (sortBy kf l).Perm l := by
  unfold sortBy
  have := ((EvSK.psort_ok (l.map fun x => (kf x, x))).2.perm).map (·.2)
  rw [List.map_map] at this
  have e : ((fun x : (Int × Int) × α => x.2) ∘ fun x => (kf x, x)) = id := rfl
  rw [e, List.map_id] at this
  exact this
theorem mem_psort_key {α : Type} {kf : α → Int × Int} {l : List α} {p : (Int × Int) × α} (h : p ∈ EvSK.psort (l.map fun x => (kf x, x))) : p.1 = kf p.2 := by
  have := (EvSK.psort_ok (l.map fun x => (kf x, x))).2.perm.mem_iff.mp h
  obtain ⟨x, _, rfl⟩ := List.mem_map.mp this
  rfl
theorem sortBy_srt {α : Type} {kf : α → Int × Int} {l : List α} : (sortBy kf l).Pairwise fun a b => SrtO.lexB (kf b) (kf a) = false := by
  unfold sortBy
  rw [List.pairwise_map]
  have h := (EvSK.psort_ok (l.map fun x => (kf x, x))).1
  refine List.Pairwise.imp_of_mem (R := fun x y => EvSK.ltF y x = false) ?_ h
  intro a b ha hb hab
  unfold EvSK.ltF at hab
  rw [mem_psort_key ha, mem_psort_key hb] at hab
  exact hab
@[simp] theorem s_tryB {b : Sms} : evS G C fl (.tryB b) ρ st = match evSs G C fl b ρ st with
    | .exc _ _ _ _ => .bad
    | r => r := by first | (rw [evS]; done) | (rw [evS]; rfl)
end
end Ev
namespace Ev
open PySem L2
/-- the keys of a dict of the module -/
def KeysAre : List DictEntry → List Str → Prop
  | [], [] => True
  | e :: es, k :: ks => (∃ t, e.key = .str k t) ∧ KeysAre es ks
  | _, _ => False
theorem KeysAre.all : ∀ {es : List DictEntry} {ks : List Str}, KeysAre es ks → ∀ e ∈ es, ∃ k ∈ ks, ∃ t, e.key = .str k t
  | [], [], _, e, he => by cases he
  | x :: es, k :: ks, h, e, he => by
    rcases List.mem_cons.mp he with rfl | he
    · obtain ⟨t, ht⟩ := h.1
      exact ⟨k, by simp, t, ht⟩
    · obtain ⟨k', hk, t, ht⟩ := h.2.all e he
      exact ⟨k', by simp [hk], t, ht⟩
  | [], _ :: _, h, _, _ => h.elim
  | _ :: _, [], h, _, _ => h.elim
theorem lookup_notin {ps : List (Str × D)} {z : Str} (h : ps.lookup z = none) : z ∉ ps.map (·.1) := by
  induction ps with
  | nil => simp
  | cons p r ih =>
    rw [List.lookup_cons] at h
    by_cases e : (z == p.1) = true
    · rw [e] at h; cases h
    · have e' : (z == p.1) = false := by simpa using e
      rw [e'] at h
      rw [List.map_cons, List.mem_cons]
      rintro (q | q)
      · rw [q] at e'; simp at e'
      · exact ih h q
theorem kno_of {K : PySem.W.Frag} {w : World} {Q : Addr} {es : Array DictEntry} {n : Nat} {ks : List Str} (hl : K.lookup Q = some ⟨.type "dict", none, .dict es n, #[]⟩) (hk : PySem.W.KeysLit w.params es.toList) (ha : KeysAre es.toList ks) {z : Str} (hz : z ∉ ks) : KNo K w Q z := by
  refine ⟨es, n, hl, hk, ?_⟩
  unfold PySem.W.nsIn
  rw [hl]
  dsimp only
  have h1 : es.toList.find? (·.key.isStr z) = none := by
    rw [List.find?_eq_none]
    intro e he hq
    obtain ⟨k, hk, t, ht⟩ := ha.all e he
    rw [ht] at hq
    have : k = z := by simpa [Value.isStr] using hq
    exact hz (this ▸ hk)
  rw [h1]
  dsimp only
  have h2 : es.toList.any (·.refKey) = false := by
    rw [List.any_eq_false]
    intro e he hq
    obtain ⟨k, hk, t, ht⟩ := ha.all e he
    unfold DictEntry.refKey at hq
    rw [ht] at hq
    simp at hq
  rw [h2]
  rfl
end Ev

set_option Elab.async false
set_option linter.all false
set_option maxRecDepth 100000
set_option maxHeartbeats 4000000
/-! Ev, part HI: what the head reads of errors that keep an index. -/
namespace Ev
open PySem L2 PySem.Spec
open PyProof.Rows hiding St
open He
theorem ba2 {a b : Bool} (h : (a && b) = true) : a = true ∧ b = true := by simpa using h
section
variable {K : PySem.W.Frag} {P : Program} {C D f : Addr}
def oexB (K : PySem.W.Frag) (C : Addr) : Bool := match K.lookup C with
  | some ⟨.type "type", _, .cls cd, sl⟩ => (match cd.mro, sl.toList with
    | .ref C' :: bm, [_, _, _, _, some (.builtin n), _] => C' == C && (n == "ValueError.__new__" && (!cd.hasDel && (cd.hasDict && PySem.HandSPX.refsVE bm)))
    | _, _ => false)
  | _ => false
theorem oexB_ok (q : oexB K C = true) : ∃ nm q N bs bm sn sub ab col dd k0 k1 k2 k3 k5, K.lookup C = some (excClassObj nm q C N bs bm true sn sub ab col dd k0 k1 k2 k3 k5 "ValueError.__new__") ∧ PySem.HandSPX.refsVE bm = true := by
  unfold oexB at q
  split at q
  · rename_i dd cd sl ho
    split at q
    · rename_i C' bm k0 k1 k2 k3 n k5 hm hs
      simp only [Bool.and_eq_true, beq_iff_eq, Bool.not_eq_true'] at q
      obtain ⟨rfl, rfl, hdel, hhd, hr⟩ := q
      obtain ⟨nm, bs, mro, ns, qn, hd, sn, sub, ab, col, del⟩ := cd
      dsimp only at hm hdel hhd
      subst hm hdel hhd
      have hsl : sl = #[k0, k1, k2, k3, some (.builtin "ValueError.__new__"), k5] := by
        obtain ⟨l⟩ := sl
        simp only at hs
        rw [hs]
      subst hsl
      exact ⟨nm, qn, ns, bs, bm, sn, sub, ab, col, dd, k0, k1, k2, k3, k5, ho, hr⟩
    · cases q
  · cases q
def ixcB (K : PySem.W.Frag) (C D f : Addr) : Bool := oexB K C && (eqO (PySem.W.findIn K (.ref C) "__setattr__") (some (some (.builtin "object.__setattr__"))) && (decide (PySem.W.subIn K (.ref C) (.type "BaseException") = some true) && (decide (PySem.W.typeIn K (.ref C) = some (.type "type")) && (PySem.W.keepIn K (.ref C) &&
  (((PySem.W.clsIn K C).any fun cd => eqO (PySem.W.alongIn K "__init__" ((cd.mro.dropWhile (· != .ref D)).drop 1)) (some (some (.builtin "ValueError.__init__")))) && (decide (PySem.W.mroIn K C (.ref D) = some true) && (decide (PySem.W.subIn K (.ref C) (.type "ValueError") = some true) &&
  (eqO (PySem.W.nsIn K cStatics "thirdparty.any") (some none) && (eqO (PySem.W.findIn K (.ref C) "index") (some none) && (eqO (PySem.W.findIn K (.ref C) "__init__") (some (some (.ref f))) && decide (PySem.W.typeIn K (.ref f) = some (.type "function"))))))))))))
theorem ixcB_ok (q : ixcB K C D f = true) : EvI.IxC K C D f := by
  obtain ⟨q1, q⟩ := ba2 q
  obtain ⟨q2, q⟩ := ba2 q
  obtain ⟨q3, q⟩ := ba2 q
  obtain ⟨q4, q⟩ := ba2 q
  obtain ⟨q5, q⟩ := ba2 q
  obtain ⟨q6, q⟩ := ba2 q
  obtain ⟨q7, q⟩ := ba2 q
  obtain ⟨q8, q⟩ := ba2 q
  obtain ⟨q9, q⟩ := ba2 q
  obtain ⟨qa, q⟩ := ba2 q
  obtain ⟨qb, qc⟩ := ba2 q
  obtain ⟨cd, h1, h2⟩ := PySem.W.any_some q6
  exact ⟨⟨oexB_ok q1, eqO_ok q2, of_decide_eq_true q3, of_decide_eq_true q4, q5⟩, ⟨cd, h1, eqO_ok h2⟩, of_decide_eq_true q7, of_decide_eq_true q8, eqO_ok q9, eqO_ok qa, eqO_ok qb, of_decide_eq_true qc⟩
def fileB (K : PySem.W.Frag) (file : Str) (v : Value) : Bool := match v with
  | .ref c => (match K.lookup c with
    | some ⟨_, _, .fields vs, _⟩ => (match (vs[2]? : Option Value) with
      | some (.str x _) => file == x
      | _ => false)
    | _ => false)
  | _ => false
def cellB (K : PySem.W.Frag) (D : Addr) (cl : List (Str × Addr)) : Bool := match cl with
  | [(_, c)] => (match K.lookup c with
    | some ⟨_, _, .cell (some (.ref d)), _⟩ => decide (d = D)
    | _ => false)
  | _ => false
def ixfB (K : PySem.W.Frag) (file : Str) (p : Str × Option Str) (q : Str) (D : Addr) : Bool := match K.lookup (fAd K p) with
  | some ⟨_, _, .func fd, _⟩ => PySem.W.codeIn K fd.code q && (fileB K file fd.code && cellB K D fd.closure)
  | _ => false
def ixObs (K : PySem.W.Frag) (p : Str × Option Str) : FnV := match K.lookup (fAd K p) with
  | some ⟨_, _, .func fd, _⟩ => some (fd.name, fd.qualname, fd.params, fd.body, fd.scope, fd.globals, fd.closure.map fun z => (z.1, (0 : Addr)), fd.defaults, fd.builtins)
  | _ => none
def valX (d : FnD) : FnV := some (d.name, d.qual, d.params, .stmts d.body, d.scope, mainGlobals, [("__class__", 0)], .none, builtinsNs)
/-- what the text says -/
structure IxS (P : Program) (d : FnD × Str) : Prop where
  t : EvI.IxT d.1.body
  a : ∃ ar, (d.1.params.posonlyargs ++ d.1.params.args).head? = some ar ∧ ar.arg = "self"
  f : P.main.file = d.2
  s1 : d.1.scope.names.lookup ("super" : Str) = some .globalImplicit
  s2 : d.1.scope.names.lookup ("__class__" : Str) = some .free
  s3 : d.1.scope.names.lookup ("self" : Str) = some .local
  s4 : d.1.scope.names.lookup ("index" : Str) = some .local
  s5 : d.1.scope.kind = .function
  s6 : d.1.scope.isCoroutine = false
  s7 : d.1.scope.isGenerator = false
  s8 : ∀ x ∈ d.1.scope.names, x.2 ≠ .cell
  b : ∀ (kV doc pm cdv ct : Value) (an : Option Addr) (cc : Addr) (us : List Value), us.length = 2 → bindArgs (PySem.W.ksFn d.1.name d.1.qual d.1.params d.1.body d.1.scope .none kV doc pm an cdv ct cc) ⟨us, []⟩ = pure ((["self", "index"] : List Str).zip us)
  top : (P.main.scope.names.lookup ("super" : Str)).isSome = false
theorem ixf_ok {d : FnD × Str} (S : IxS P d) (e : ixObs K d.1.at_ = valX d.1) (c : ixfB K d.2 d.1.at_ d.1.qual D = true) (hD : (PySem.W.clsIn K D).isSome = true) : ∃ fd, EvI.IxF P K (fAd K d.1.at_) D fd ∧ Binds K fd ["self", "index"] [] := by
  unfold ixObs at e
  unfold ixfB at c
  cases q : K.lookup (fAd K d.1.at_) with
  | none =>
    rw [q] at c
    cases c
  | some o =>
    obtain ⟨oc, od, dt, osl⟩ := o
    rw [q] at c e
    cases dt with
    | func fd =>
      obtain ⟨n1, n2, n3, n4, n5, n6, n7, n8, n9, n10, n11, n12, n13, n14, n15⟩ := fd
      have e2 : (some (n1, n2, n3, n4, n5, n6, n7.map (fun z => (z.1, (0 : Addr))), n8, n15) : FnV) = (some (d.1.name, d.1.qual, d.1.params, FuncBody.stmts d.1.body, d.1.scope, mainGlobals, [(("__class__" : Str), (0 : Addr))], Value.none, builtinsNs) : FnV) := e
      simp only [Option.some.injEq, Prod.mk.injEq] at e2
      obtain ⟨h1, h2, h3, h4, h5, h6, h7, h8, h9⟩ := e2
      subst h1 h2 h3 h4 h5 h6 h8 h9
      have c0 : (PySem.W.codeIn K n13 d.1.qual && (fileB K d.2 n13 && cellB K D n7)) = true := c
      obtain ⟨c1, c⟩ := ba2 c0
      obtain ⟨c2, c3⟩ := ba2 c
      unfold cellB at c3
      split at c3
      · rename_i nm cc _
        split at c3
        · rename_i cl cld dd csl hc
          have c4 := of_decide_eq_true c3
          subst c4
          have hn : nm = "__class__" := by
            simp only [List.map_cons, List.map_nil, List.cons.injEq, Prod.mk.injEq] at h7
            exact h7.1.1
          subst hn
          unfold fileB at c2
          split at c2
          · next cda hx1 =>
            split at c2
            · next hx2 ccl cdd vs ccs hcd =>
              split at c2
              · next hx3 x tf hv =>
                obtain ⟨cdD, hcD⟩ := Option.isSome_iff_exists.mp hD
                obtain ⟨ar, a1, a2⟩ := S.a
                exact ⟨_, ⟨⟨oc, od, n12, osl, d.1.name, d.1.qual, d.1.params, d.1.body, d.1.scope, .none, n9, n10, n11, n14, cda, cc, ar, ccl, cdd, vs, ccs, x, tf, cl, cld, csl, cdD, rfl, q, c1, S.t, a1, a2, hcd, hv, (by rw [S.f]; exact c2), hc, hcD, S.s1, S.s2, S.s3, S.s4, S.s5, S.s6, S.s7, S.s8⟩, S.top⟩, .all (S.b n9 n10 n11 (.ref cda) n14 n12 cc)⟩
              · cases c2
            · cases c2
          · cases c2
        · cases c3
      · cases c3
    | _ => cases c
end
end Ev

set_option Elab.async false
set_option linter.all false
set_option maxRecDepth 100000
set_option maxHeartbeats 4000000
/-! Ev, part H: the head: what the module's facts are read off from. -/
namespace Ev
open PySem L2 PySem.Spec
open PyProof.Rows hiding St
section
variable {K : PySem.W.Frag} {mg : Str → Option Value} {G : Prog}
mutual
/-- a value of the module stands for a datum -/
def repB (K : PySem.W.Frag) : D → Value → Bool
  | .bl b, .bool c => b == c
  | .int i, .int j _ => decide (i = j)
  | .str x, .str y _ => decide (x = y) && x.cps.all fun c => decide (c < 0x110000)
  | .tk ds, .ref P => (match K.lookup P with
    | some ⟨.type c, none, .seq its _, _⟩ => decide (c = "tuple") && (decide (its.size ≤ sizeLine) && repsB K ds its.toList)
    | _ => false)
  | _, _ => false
def repsB (K : PySem.W.Frag) : List D → List Value → Bool
  | [], [] => true
  | d :: ds, u :: us => repB K d u && repsB K ds us
  | _, _ => false
end
mutual
theorem repB_ok : ∀ {d : D} {u : Value}, repB K d u = true → ∃ v, RelV v u ∧ ∀ m H, Rep K mg G m H d v
  | .bl b, .bool c, h => by
    have e : b = c := by simpa [repB] using h
    exact ⟨.bl b, by rw [e]; rfl, fun m H => .bl b⟩
  | .int i, .int j t, h => by
    have e : i = j := by simpa [repB] using h
    exact ⟨.int i, ⟨t, by rw [e]⟩, fun m H => .int i⟩
  | .str x, .str y t, h => by
    unfold repB at h
    obtain ⟨h1, h2⟩ := ba2 h
    have e : x = y := by simpa using h1
    exact ⟨.str x, ⟨t, by rw [e]⟩, fun m H => .str h2⟩
  | .tk ds, .ref P, h => by
    unfold repB at h
    split at h
    · rename_i c its n sl q
      obtain ⟨h1, h2⟩ := ba2 h
      obtain ⟨h2, h3⟩ := ba2 h2
      have e : c = "tuple" := by simpa using h1
      subst e
      have hz : its.size ≤ sizeLine := by simpa using h2
      obtain ⟨vs, r, hr⟩ := repsB_ok h3
      exact ⟨.ref P, rfl, fun m H => .tk ⟨⟨_, its, n, q, rfl, rfl, hz, r⟩, ⟨_, q, rfl, rfl⟩⟩ (hr m H)⟩
    · cases h
theorem repsB_ok : ∀ {ds : List D} {us : List Value}, repsB K ds us = true → ∃ vs, Vals vs us ∧ ∀ m H, Reps K mg G m H ds vs
  | [], [], _ => ⟨[], .nil, fun m H => .nil⟩
  | d :: ds, u :: us, h => by
    unfold repsB at h
    obtain ⟨h1, h2⟩ := ba2 h
    obtain ⟨v, r, hr⟩ := repB_ok h1
    obtain ⟨vs, rs, hrs⟩ := repsB_ok h2
    exact ⟨v :: vs, .cons r rs, fun m H => .cons (hr m H) (hrs m H)⟩
end
end

/-! ### what was computed, written out -/
section
variable {α : Type}
def frL : List Nat → (List Nat → α) → α
  | [], k => k []
  | a :: r, k => HandSHeadRun.frNat a fun a => frL r fun r => k (a :: r)
theorem frL_eq : ∀ (l : List Nat) (k : List Nat → α), frL l k = k l
  | [], _ => rfl
  | a :: r, k => by unfold frL; rw [HandSHeadRun.frNat_eq, frL_eq r]
def frV (v : Value) (k : Value → α) : α := match v with
  | .ref a => HandSHeadRun.frNat a fun a => k (.ref a)
  | .str ⟨⟨l⟩⟩ t => frL l fun l => k (.str ⟨⟨l⟩⟩ t)
  | .int i t => k (.int i t)
  | .none => k .none
  | .type n => k (.type n)
  | .builtin n => k (.builtin n)
  | v => k v
theorem frV_eq (v : Value) (k : Value → α) : frV v k = k v := by
  unfold frV
  split <;> first | rfl | rw [HandSHeadRun.frNat_eq] | rw [frL_eq]
def frVs : List Value → (List Value → α) → α
  | [], k => k []
  | v :: r, k => frV v fun v => frVs r fun r => k (v :: r)
theorem frVs_eq : ∀ (l : List Value) (k : List Value → α), frVs l k = k l
  | [], _ => rfl
  | a :: r, k => by unfold frVs; rw [frV_eq, frVs_eq r]
def frEs : List DictEntry → (List DictEntry → α) → α
  | [], k => k []
  | ⟨h, x, v⟩ :: r, k => frV x fun x => frV v fun v => frEs r fun r => k (⟨h, x, v⟩ :: r)
theorem frEs_eq : ∀ (l : List DictEntry) (k : List DictEntry → α), frEs l k = k l
  | [], _ => rfl
  | ⟨h, x, v⟩ :: r, k => by unfold frEs; rw [frV_eq, frV_eq, frEs_eq r]
def frD (d : Data) (k : Data → α) : α := match d with
  | .dict ⟨es⟩ n => frEs es fun es => k (.dict ⟨es⟩ n)
  | .seq ⟨vs⟩ n => frVs vs fun vs => k (.seq ⟨vs⟩ n)
  | .func ⟨n1, n2, n3, n4, n5, n6, n7, n8, n9, n10, n11, n12, n13, n14, n15⟩ => HandSHeadRun.frNat n6 fun n6 => frV n8 fun n8 => frV n13 fun n13 => HandSHeadRun.frNat n15 fun n15 => k (.func ⟨n1, n2, n3, n4, n5, n6, n7, n8, n9, n10, n11, n12, n13, n14, n15⟩)
  | d => k d
theorem frD_eq (d : Data) (k : Data → α) : frD d k = k d := by
  unfold frD
  split
  · rw [frEs_eq]
  · rw [frVs_eq]
  · rw [HandSHeadRun.frNat_eq, frV_eq, frV_eq, HandSHeadRun.frNat_eq]
  · rfl
def frK : PySem.W.Frag → (PySem.W.Frag → α) → α
  | [], k => k []
  | (a, ⟨c, d, dt, sl⟩) :: r, k => HandSHeadRun.frNat a fun a => frV c fun c => frD dt fun dt => frK r fun r => k ((a, ⟨c, d, dt, sl⟩) :: r)
theorem frK_eq : ∀ (l : PySem.W.Frag) (k : PySem.W.Frag → α), frK l k = k l
  | [], _ => rfl
  | (a, ⟨c, d, dt, sl⟩) :: r, k => by unfold frK; rw [HandSHeadRun.frNat_eq, frV_eq, frD_eq, frK_eq r]
/-- the objects that an object leads to: a def's code, a class's names, the members -/
def refsT (o : Obj) : List Addr := match o.data with
  | .seq its _ => its.toList.flatMap He.refV
  | .dict es _ => es.toList.flatMap fun e => He.refV e.val
  | .func fd => He.refV fd.code ++ fd.closure.map (·.2)
  | .cls cd => [cd.ns]
  | _ => []
/-- what the names reach, each step written out -/
def asF (g : Addr → Option Obj) : Nat → List Addr → (List Addr → α) → α
  | 0, as, k => k as
  | n + 1, as, k => frL (as.flatMap fun a => match g a with
    | some o => refsT o
    | none => []) fun bs => asF g n bs fun r => k (as ++ r)
def asT (g : Addr → Option Obj) : Nat → List Addr → List Addr
  | 0, as => as
  | n + 1, as => as ++ asT g n (as.flatMap fun a => match g a with
    | some o => refsT o
    | none => [])
theorem asF_eq (g : Addr → Option Obj) : ∀ (n : Nat) (as : List Addr) (k : List Addr → α), asF g n as k = k (asT g n as)
  | 0, _, _ => rfl
  | n + 1, as, k => by unfold asF; rw [frL_eq, asF_eq g n]; rfl
end
/-! ### the module's facts, as one test -/
open He
def allBi : List Bi := [.len, .abs, .int, .tuple, .list, .all, .any, .min1, .max1, .min2, .max2, .sum, .sorted, .str, .ord, .dict, .isinst, .set]
theorem allBi_all (n : Bi) : n ∈ allBi := by cases n <;> simp [allBi]
/-- the named values -/
def conD (K : PySem.W.Frag) (a : Addr) (x : Str) (d : D) : Bool := match PySem.W.nsIn K a x with
  | some (some u) => repB K d u
  | _ => false
def excOk (K : PySem.W.Frag) (D : Addr) : Bool :=
  eqO (PySem.W.findIn K (.ref D) "__getattribute__") (some (some (.builtin "BaseException.__getattribute__"))) && (eqO (PySem.W.findIn K (.ref D) "__getattr__") (some none) && (PySem.W.hasDictIn K D &&
    (eqO (PySem.W.findIn K (.ref D) "__class__") (some (some (.builtin "object.__class__"))) && (eqO (PySem.W.specialIn K (.builtin "object.__class__") "__get__") (some (some (.builtin "getset_descriptor.__get__"))) &&
      (decide (PySem.W.takesIn K (.builtin "object.__class__") = some true) && decide (PySem.W.mroIn K D (.type "object") = some true))))))
/-- an error class: with an index or without -/
def excH (ix : List (FnD × Str)) (K : PySem.W.Frag) (p : Str × Bool × List Nat) : Bool := match p.2.1 with
  | false => (Fa.exc p.1).ok K
  | true => (match ix with
    | [d] => ixcB K (ga K p.1) (ga K d.1.at_.1) (fAd K d.1.at_) && (ixfB K d.2 d.1.at_ d.1.qual (ga K d.1.at_.1) && ((PySem.W.clsIn K (ga K d.1.at_.1)).isSome && (Fa.free "super").ok K))
    | _ => false)
theorem excH_ok {ix : List (FnD × Str)} {K : PySem.W.Frag} {p : Str × Bool × List Nat} (h : excH ix K p = true) : (p.2.1 = false → PySem.W.excIn K (ga K p.1) veBase "ValueError.__new__" = true) ∧ PySem.W.keepIn K (.ref (ga K p.1)) = true ∧ PySem.W.subIn K (.ref (ga K p.1)) (.type "BaseException") = some true ∧
    PySem.W.typeIn K (.ref (ga K p.1)) = some (.type "type") := by
  unfold excH at h
  split at h
  · obtain ⟨x1, x2⟩ := exc_ok h
    exact ⟨fun _ => x1, x2⟩
  · rename_i hp
    split at h
    · have T := ixcB_ok (ba2 h).1
      exact ⟨(fun z => by rw [hp] at z; cases z), T.o.kC, T.o.exC, T.o.tyC⟩
    · cases h
def chkExc (G : Prog) (ix : List (FnD × Str)) (K : PySem.W.Frag) (c : Nat) (p : Str × Bool × List Nat) : Bool :=
  (Fa.glo p.1).ok K && (excH ix K p && (excOk K (ga K p.1) && G.excs.zipIdx.all fun q => decide (PySem.W.subIn K (.ref (ga K p.1)) (.ref (ga K q.1.1)) = some (subB G c q.2)) && decide (PySem.W.subIn K (.ref (ga K q.1.1)) (.ref (ga K q.1.1)) = some true)))
def chkCls (fn : List FnD) (K : PySem.W.Frag) (p : Str × List (Str × Nat) × List Str) : Bool :=
  (Fa.glo p.1).ok K && ((Fa.cls p.1).ok K && (PySem.W.makesIn K (ga K p.1) && (PySem.W.keepIn K (.ref (ga K p.1)) && ((p.2.2.all fun f => (Fa.noat p.1 f).ok K) && p.2.1.all fun q => (Fa.meth p.1 q.1).ok K && match fn[q.2]? with
    | some d => decide (d.at_ = (p.1, some q.1))
    | none => false))))
def chkG (G : Prog) (fn : List FnD) (ix : List (FnD × Str)) (K : PySem.W.Frag) : Bool :=
  (allBi.all fun n => (Fa.free (biName n)).ok K) && ((Fa.free "range").ok K && ((Fa.free "reversed").ok K && ((tyNames.all fun t => (Fa.free t.2).ok K) &&
    ((G.excs.zipIdx.all fun q => chkExc G ix K q.2 q.1) && ((G.cons.all fun p => conD K mainGlobals p.1 p.2) && ((G.dics.all fun p => (Fa.glo p.1).ok K && (!(ga K p.1 == sysModules) && p.2.all fun q => conD K (ga K p.1) q.1 q.2)) &&
      ((G.clss.all fun p => chkCls fn K p) && fn.all fun d => (Fa.code d.at_ d.qual).ok K && (PySem.W.keepIn K (.ref (fAd K d.at_)) && match d.at_.2 with
        | none => (Fa.glo d.at_.1).ok K
        | some _ => true))))))))
abbrev AlH : Type := Bool × List FnV × List (Option (List (Option (Str × Int))))
def obs1 (G : Prog) (fn : List FnD) (ix : List (FnD × Str)) (K : PySem.W.Frag) : Bool := chkG G fn ix K
def obs2 (fn : List FnD) (ix : List (FnD × Str)) (K : PySem.W.Frag) : List FnV := (fn.map fun d => fnObs K d.at_) ++ ix.map fun d => ixObs K d.1.at_
def val2 (fn : List FnD) (ix : List (FnD × Str)) : List FnV := fn.map FnD.val ++ ix.map fun d => valX d.1
def obs3 (G : Prog) (K : PySem.W.Frag) : List (Option (List (Option (Str × Int)))) := G.dics.map fun p => dicW K (ga K p.1)
def obsH (G : Prog) (fn : List FnD) (ix : List (FnD × Str)) (K : PySem.W.Frag) : AlH := (obs1 G fn ix K, obs2 fn ix K, obs3 G K)
def valH (G : Prog) (fn : List FnD) (ix : List (FnD × Str)) (w : World) : AlH := (true, val2 fn ix, G.dics.map fun p => some (keysIn w.params (p.2.map (·.1))))
def SaysH (G : Prog) (fn : List FnD) (ix : List (FnD × Str)) (w : World) (K : PySem.W.Frag) : Prop := obsH G fn ix K = valH G fn ix w
/-- the part of the heap that is looked at -/
def withK {α : Type} (n : Nat) (g : Addr → Option Obj) (k : PySem.W.Frag → α) : α := asF g n [mainGlobals] fun as => frK (frG g (cStatics :: as)) k
theorem withK_is {α : Type} {n : Nat} {g : Addr → Option Obj} {k : PySem.W.Frag → α} : withK n g k = k (frG g (cStatics :: asT g n [mainGlobals])) := by
  unfold withK; rw [asF_eq, frK_eq]
def obsHG (n : Nat) (G : Prog) (fn : List FnD) (ix : List (FnD × Str)) (g : Addr → Option Obj) : AlH := (withK n g (obs1 G fn ix), withK n g (obs2 fn ix), withK n g (obs3 G))
theorem obsHG_is {n : Nat} {G : Prog} {fn : List FnD} {ix : List (FnD × Str)} {g : Addr → Option Obj} : obsHG n G fn ix g = obsH G fn ix (frG g (cStatics :: asT g n [mainGlobals])) := by
  unfold obsHG obsH; rw [withK_is, withK_is, withK_is]
def hookH (n : Nat) (G : Prog) (fn : List FnD) (ix : List (FnD × Str)) : PySem.W.Hook where
  α := AlH
  obs := fun s => obsHG n G fn ix s.heap.get?
  val := fun w => valH G fn ix w
  says := fun w h => ∃ K : PySem.W.Frag, K.In h ∧ SaysH G fn ix w K
  of := fun _ _ e => ⟨_, frG_in, obsHG_is.symm.trans e⟩
  keeps := fun _ _ _ ⟨K, hK, c⟩ k => ⟨K, PySem.W.Frag.In.keeps hK k, c⟩
theorem obsHG_eq {n : Nat} {G : Prog} {fn : List FnD} {ix : List (FnD × Str)} {g : Addr → Option Obj} {s : Shared} (h : ∀ a, g a = s.heap.get? a) : obsHG n G fn ix g = (hookH n G fn ix).obs s := by
  have e : g = s.heap.get? := funext h
  rw [e] <;> rfl
section
variable {P : Program} {G : Prog} {fn : List FnD} {ix : List (FnD × Str)} {w : World} {K : PySem.W.Frag} {h : Heap} {mg : Str → Option Value}
theorem SaysH.chk (c : SaysH G fn ix w K) : chkG G fn ix K = true := congrArg (fun z : AlH => z.1) c
theorem SaysH.fnv (c : SaysH G fn ix w K) {j : Nat} {d : FnD} (e : fn[j]? = some d) : fnObs K d.at_ = d.val := by
  have e0 : obs2 fn ix K = val2 fn ix := congrArg (fun z : AlH => z.2.1) c
  have e1 : fn.map (fun d => fnObs K d.at_) = fn.map FnD.val := (List.append_inj e0 (by simp)).1
  have e2 : (fn.map fun d => fnObs K d.at_)[j]? = (fn.map FnD.val)[j]? := by rw [e1]
  rw [List.getElem?_map, List.getElem?_map, e] at e2
  exact Option.some.inj e2
theorem SaysH.ixv (c : SaysH G fn ix w K) {d : FnD × Str} (e : ix = [d]) : ixObs K d.1.at_ = valX d.1 := by
  have e0 : obs2 fn ix K = val2 fn ix := congrArg (fun z : AlH => z.2.1) c
  have e1 : ix.map (fun d => ixObs K d.1.at_) = ix.map fun d => valX d.1 := (List.append_inj e0 (by simp)).2
  rw [e] at e1
  exact (List.cons.inj e1).1
theorem SaysH.dic (c : SaysH G fn ix w K) {j : Nat} {p : Str × List (Str × D)} (e : G.dics[j]? = some p) : dicW K (ga K p.1) = some (keysIn w.params (p.2.map (·.1))) := by
  have e1 : G.dics.map (fun p => dicW K (ga K p.1)) = G.dics.map fun p => some (keysIn w.params (p.2.map (·.1))) := congrArg (fun z : AlH => z.2.2) c
  have e2 : (G.dics.map fun p => dicW K (ga K p.1))[j]? = (G.dics.map fun p => some (keysIn w.params (p.2.map (·.1))))[j]? := by rw [e1]
  rw [List.getElem?_map, List.getElem?_map, e] at e2
  exact Option.some.inj e2
theorem conD_ok (X : K.In h) (GN : h.Ns mainGlobals mg) {x : Str} {d : D} (c : conD K mainGlobals x d = true) : ∃ u v, mg x = some u ∧ RelV v u ∧ ∀ m H, Rep K mg G m H d v := by
  unfold conD at c
  split at c
  · rename_i u e
    obtain ⟨v, r, hr⟩ := repB_ok (mg := mg) (G := G) c
    exact ⟨u, v, PySem.W.mg_of X GN e, r, hr⟩
  · cases c
/-- the keys of a written dict -/
theorem keysAre_of {P : Params} : ∀ {l : List DictEntry} {ks : List Str}, l.map He.keyOf = keysIn P ks → KeysAre l ks
  | [], [], _ => trivial
  | [], _ :: _, h => by cases h
  | e :: r, [], h => by cases h
  | e :: r, k :: ks, h => by
    have h1 : He.keyOf e :: r.map He.keyOf = some (k, PyData.keyHash P k) :: keysIn P ks := h
    injection h1 with h2 h3
    refine ⟨?_, keysAre_of h3⟩
    unfold He.keyOf at h2
    split at h2
    · rename_i x t q
      have h4 := Option.some.inj h2
      obtain ⟨h5, h6⟩ := Prod.mk.inj h4
      exact ⟨t, by rw [q, h5]⟩
    · cases h2
theorem dicW_keys {a : Addr} {ks : List Str} (h : dicW K a = some (keysIn w.params ks)) : ∃ es n, K.lookup a = some ⟨.type "dict", none, .dict es n, #[]⟩ ∧ PySem.W.KeysLit w.params es.toList ∧ KeysAre es.toList ks := by
  unfold dicW at h
  split at h
  · rename_i c es n sl q
    split at h
    · rename_i z
      obtain ⟨z1, z2⟩ := ba2 z
      obtain ⟨z3, z4⟩ := ba2 z2
      have e1 : c = "dict" := of_decide_eq_true z1
      have e2 : sl = #[] := Array.isEmpty_iff.mp z3
      subst e1 e2
      exact ⟨es, n, q, keysLit_of (Option.some.inj h), keysAre_of (Option.some.inj h)⟩
    · cases h
  · cases h
/-- what a def of the table says -/
theorem SaysH.fun_ (c : SaysH G fn ix w K) {j : Nat} {d : FnD} (e : fn[j]? = some d) {st : Stmt} (h1 : d.params = defArgs st) (h2 : d.body = defBody st) (h3 : d.scope = defScope st) : ∃ fd, L2.Fun K d.name d.qual st (fAd K d.at_) fd := by
  have hk := ba2 (List.all_eq_true.mp (ba2 (ba2 (ba2 (ba2 (ba2 (ba2 (ba2 (ba2 c.chk).2).2).2).2).2).2).2).2 d (List.mem_of_getElem? e))
  obtain ⟨oc, od, osl, kV, doc, pm, an, cdv, ct, l, cc⟩ := fn_ok (c.fnv e) hk.1
  rw [h1, h2, h3] at l
  exact ⟨_, fun_mk l cc (ba2 hk.2).1⟩
theorem SaysH.mgf (c : SaysH G fn ix w K) (X : K.In h) (GN : h.Ns mainGlobals mg) {j : Nat} {d : FnD} (e : fn[j]? = some d) {x : Str} (hx : d.at_ = (x, none)) : mg x = some (.ref (fAd K d.at_)) := by
  have hk := ba2 (List.all_eq_true.mp (ba2 (ba2 (ba2 (ba2 (ba2 (ba2 (ba2 (ba2 c.chk).2).2).2).2).2).2).2).2 d (List.mem_of_getElem? e))
  have h2 := (ba2 hk.2).2
  rw [hx] at h2 ⊢
  exact glo_ok X GN h2
/-- all that the table says -/
theorem SaysH.gfact (c : SaysH G fn ix w K) (X : K.In h) (GN : h.Ns mainGlobals mg)
    (F : ∀ (j : Nat) (f : Fn) (d : FnD), G.fns[j]? = some f → fn[j]? = some d → ∃ fd ps st qual, FnFact K mg G f (fAd K d.at_) fd ps st qual) (hl : fn.length = G.fns.length) (IX : ∀ d ∈ ix, IxS P d) : GFact P w K mg G := by
  have h0 := c.chk
  obtain ⟨h1, h0⟩ := ba2 h0
  obtain ⟨h2, h0⟩ := ba2 h0
  obtain ⟨h3, h0⟩ := ba2 h0
  obtain ⟨h4, h0⟩ := ba2 h0
  obtain ⟨h5, h0⟩ := ba2 h0
  obtain ⟨h6, h0⟩ := ba2 h0
  obtain ⟨h7, h0⟩ := ba2 h0
  obtain ⟨h8, h9⟩ := ba2 h0
  have hexc : ∀ (c : Nat) p, G.excs[c]? = some p → chkExc G ix K c p = true := fun c p e => List.all_eq_true.mp h5 (p, c) (List.mem_zipIdx_iff_getElem?.mpr e)
  refine ⟨fun n => free_ok X GN (List.all_eq_true.mp h1 n (allBi_all n)), free_ok X GN h2, free_ok X GN h3, fun t ht => free_ok X GN (List.all_eq_true.mp h4 t ht), ⟨fun c p e => ?_, fun c p c1 p1 A A1 e e1 g g1 => ?_⟩, fun c1 p e hp => ?_, fun c p e => conD_ok X GN (List.all_eq_true.mp h6 p (List.mem_of_getElem? e)), fun j p e => ?_, fun j f e => ?_, fun j p e => ?_⟩
  · obtain ⟨q1, q⟩ := ba2 (hexc c p e)
    obtain ⟨q2, q⟩ := ba2 q
    obtain ⟨q3, q4⟩ := ba2 q
    obtain ⟨x1, x2, x3, x4⟩ := excH_ok q2
    obtain ⟨y1, y⟩ := ba2 q3
    obtain ⟨y2, y⟩ := ba2 y
    obtain ⟨y3, y⟩ := ba2 y
    obtain ⟨y4, y⟩ := ba2 y
    obtain ⟨y5, y⟩ := ba2 y
    obtain ⟨y6, y7⟩ := ba2 y
    exact ⟨_, glo_ok X GN q1, x2, x1, x3, x4, ⟨eqO_ok y1, eqO_ok y2, x3, y3, eqO_ok y4, eqO_ok y5, of_decide_eq_true y6, of_decide_eq_true y7⟩⟩
  · obtain ⟨q1, q⟩ := ba2 (hexc c p e)
    obtain ⟨q2, q⟩ := ba2 q
    obtain ⟨q3, q4⟩ := ba2 q
    obtain ⟨r1, r⟩ := ba2 (hexc c1 p1 e1)
    obtain ⟨r2, r⟩ := ba2 r
    obtain ⟨r3, r4⟩ := ba2 r
    obtain rfl : A = ga K p.1 := by
      have := Option.some.inj (g.symm.trans (glo_ok X GN q1))
      exact Value.ref.inj this
    obtain rfl : A1 = ga K p1.1 := by
      have := Option.some.inj (g1.symm.trans (glo_ok X GN r1))
      exact Value.ref.inj this
    have z := ba2 (List.all_eq_true.mp q4 (p1, c1) (List.mem_zipIdx_iff_getElem?.mpr e1))
    have z1 := (ba2 (List.all_eq_true.mp q4 (p, c) (List.mem_zipIdx_iff_getElem?.mpr e))).2
    obtain ⟨x1, x2, x3, x4⟩ := excH_ok r2
    obtain ⟨y1, y⟩ := ba2 r3
    obtain ⟨y2, y⟩ := ba2 y
    obtain ⟨y3, y⟩ := ba2 y
    exact ⟨PySem.W.exm_ref x3 y3 x4 (of_decide_eq_true z.1), kit_ref (of_decide_eq_true z1) y3 x4 (of_decide_eq_true z.1)⟩
  · obtain ⟨q1, q⟩ := ba2 (hexc c1 p e)
    have q2 := (ba2 q).1
    unfold excH at q2
    rw [hp] at q2
    dsimp only at q2
    split at q2
    · next d =>
      obtain ⟨r1, r⟩ := ba2 q2
      obtain ⟨r2, r⟩ := ba2 r
      obtain ⟨r3, r4⟩ := ba2 r
      obtain ⟨fd, f1, f2⟩ := ixf_ok (IX _ List.mem_cons_self) (c.ixv rfl) r2 r3
      exact ⟨_, _, _, fd, glo_ok X GN q1, f1, ixcB_ok r1, f2, free_ok X GN r4⟩
    · cases q2
  · obtain ⟨q1, q⟩ := ba2 (List.all_eq_true.mp h7 p (List.mem_of_getElem? e))
    obtain ⟨q2, q3⟩ := ba2 q
    obtain ⟨es, n, l, kl, ka⟩ := dicW_keys (c.dic e)
    refine ⟨_, glo_ok X GN q1, dic_of fun r hr => ?_, by simpa using q2, fun z hz => kno_of l kl ka (lookup_notin hz)⟩
    have q4 := List.all_eq_true.mp q3 r hr
    unfold conD at q4
    split at q4
    · rename_i u eu
      obtain ⟨v, rv, hr⟩ := repB_ok (mg := mg) (G := G) q4
      exact ⟨v, ⟨es, n, u, l, kl, eu, rv⟩, hr⟩
    · cases q4
  · have : j < fn.length := by rw [hl]; exact (List.getElem?_eq_some_iff.mp e).1
    obtain ⟨fd, ps, st, qual, T⟩ := F j f fn[j] e (List.getElem?_eq_getElem this)
    exact ⟨_, fd, ps, st, qual, T⟩
  · obtain ⟨q1, q⟩ := ba2 (List.all_eq_true.mp h8 p (List.mem_of_getElem? e))
    obtain ⟨q2, q⟩ := ba2 q
    obtain ⟨q3, q⟩ := ba2 q
    obtain ⟨q4, q⟩ := ba2 q
    obtain ⟨q5, q6⟩ := ba2 q
    refine ⟨_, glo_ok X GN q1, cls_ok q2, q3, q4, fun f hf => noat_ok (List.all_eq_true.mp q5 f (List.contains_iff_mem.mp hf)), dic_of fun r hr => ?_⟩
    obtain ⟨m1, m2⟩ := ba2 (List.all_eq_true.mp q6 r hr)
    split at m2
    · rename_i d ed
      have ea : d.at_ = (p.1, some r.1) := of_decide_eq_true m2
      have : r.2 < G.fns.length := by rw [← hl]; exact (List.getElem?_eq_some_iff.mp ed).1
      obtain ⟨fd, ps, st, qual, T⟩ := F r.2 G.fns[r.2] d (List.getElem?_eq_getElem this) ed
      refine ⟨_, _, fd, ps, st, qual, List.getElem?_eq_getElem this, meth_ok m1, ?_⟩
      rw [ea] at T
      exact T
    · cases m2
end

/-- a law's end: the context hangs on the world -/
theorem walk_of2 {l : PySem.W.OpenLaw} {n k : Nat} {q : Program} {loose : List Str} {XP : (Str → Option Value) → Heap → Prop} {YP : World → Heap → Prop} {d : DefRec} {CX : World → CXT} {x : Str}
    (hn : l.most = some n) (hn2 : n ≤ sizeLine) (hdf : d.params.defaults = []) (hr : Room k callerA)
    (F : ∀ (w : World) (mg : Str → Option Value) (fa : Addr) (h : Heap), YP w h → h.Ns mainGlobals mg → mg d.name = some (.ref fa) →
      ∃ (K : PySem.W.Frag) (fd : FuncData) (sp : Sp), K.In h ∧ (∀ (s : Shared) (u : Value), BindsTo s fd ⟨[u], []⟩ [(x, u)]) ∧
        (∀ (H : Hp) (a : Addr) (ns : List Int), ns.length ≤ n → Only H → SqL K H a (ns.map V.int) → sp [.ref a] H (fun v _ => v = .bl true) fun _ _ _ => False) ∧
        ∀ base : Heap, K.In base → base.Ns mainGlobals mg → FnOk l.prog w K mg base (CX w) k fa fd [x] sp)
    (hCX : ∀ (w : World) (H : Hp) (s : Shared) (e : Value) (s' : Shared), CX w [] H s (fun _ _ _ => False) e s' → False) :
    PySem.W.WalkO q loose XP YP l.row.toRowW d [] (fun f vs => PySem.call f vs) := by
  refine Att.attach_call hn hdf fun w s₀ s₁ mg mb fa o pm cd doc a vs ns G Y ho hd hcd hmg hobj hints hlen hg => ?_
  obtain ⟨K, fd, sp, KX, hb, hsp, hF⟩ := F w mg fa _ Y G.T.g hmg
  exact law_call KX G.T.g G.T.b G.T.builtins G.T.nolimit hg hobj hints (Nat.le_trans hlen hn2) hr hF hb (fun H hO hS => hsp H a ns hlen hO hS) fun H e s' => hCX w H s₁ e s'

/-! ### the run, looked at part by part -/
section
open HandSHeadRun PySem.W PySem.Calls
def RunP (r : PySem.W.OpenRow) (M : Nat) (w : World) {α : Type} (f : PySem.W.SharedT → α) (a : α) : Prop :=
  ∀ os : OsState, (endF (stepQ (denQ tabQ) r.prog w) M r.prog w os).map f = some a
theorem map_two {σ α β : Type} {o : Option σ} {f : σ → α} {g : σ → β} {a : α} {b : β} (h1 : o.map f = some a) (h2 : o.map g = some b) : o.map (fun s => (f s, g s)) = some (a, b) := by
  cases o with
  | none => cases h1
  | some s =>
    have e1 : f s = a := Option.some.inj h1
    have e2 : g s = b := Option.some.inj h2
    rw [← e1, ← e2]
    rfl
theorem map_five {σ α β γ δ ε : Type} {o : Option σ} {f1 : σ → α} {f2 : σ → β} {f3 : σ → γ} {f4 : σ → δ} {f5 : σ → ε} {a : α} {b : β} {c : γ} {d : δ} {e : ε} (h1 : o.map (fun s => (f1 s, f2 s, f5 s)) = some (a, b, e)) (h3 : o.map f3 = some c) (h4 : o.map f4 = some d) :
    o.map (fun s => (f1 s, f2 s, f3 s, f4 s, f5 s)) = some (a, b, c, d, e) := by
  cases o with
  | none => cases h3
  | some s =>
    have e1 : (f1 s, f2 s, f5 s) = (a, b, e) := Option.some.inj h1
    have e3 : f3 s = c := Option.some.inj h3
    have e4 : f4 s = d := Option.some.inj h4
    simp only [Prod.mk.injEq] at e1
    show some (f1 s, f2 s, f3 s, f4 s, f5 s) = _
    rw [e1.1, e1.2.1, e1.2.2, e3, e4]
noncomputable def lookP (r : PySem.W.OpenRow) (w : World) (s : PySem.W.SharedT) : Bool := HandSHeadRun.looksF r.prog (PySem.W.boot_heap w.params) s.abs
noncomputable def seenP (r : PySem.W.OpenRow) (q : Program) (loose : List PySem.Str) (s : PySem.W.SharedT) := HandSHeadRun.seenQ q loose (importedModules r.prog.main.body) (fun s => PySem.W.xlAt q [] s && PySem.W.recOk r.toRowW.records s) s.abs
theorem run_parts {r : PySem.W.OpenRow} {q : Program} {M n : Nat} {loose : List PySem.Str} {G : Prog} {fn : List FnD} {ix : List (FnD × Str)} {w : World}
    (h1 : RunP r M w (fun s => (lookP r w s, seenP r q loose s, withK n (getT s) (obs3 G))) (true, PySem.W.openGood q loose, G.dics.map fun p => some (keysIn w.params (p.2.map (·.1))))) (h3 : RunP r M w (fun s => withK n (getT s) (obs1 G fn ix)) true)
    (h4 : RunP r M w (fun s => withK n (getT s) (obs2 fn ix)) (val2 fn ix)) :
    RunEq r q (hookH n G fn ix) (fun s => obsHG n G fn ix (getT s)) M loose w := fun os =>
  map_five (h1 os) (h3 os) (h4 os)
end
end Ev

set_option Elab.async false
set_option linter.all false
set_option maxRecDepth 100000
set_option maxHeartbeats 8000000
namespace Law
open Ev PySem L2 PySem.Spec
open PyProof.Rows hiding St

def topS (i : Nat) : Stmt := PySem.Challenge.pw_closedcuts_k01_changes_and_others.main.body.getD i (.Pass ⟨0, 0, 0, 0⟩)
abbrev i_is_count : Nat := 0
abbrev i_is_number : Nat := 1
abbrev i_is_word : Nat := 2
abbrev i_index_of : Nat := 3
abbrev i_table_of : Nat := 4
abbrev i_column_of : Nat := 5
abbrev i_is_key : Nat := 6
abbrev i_is_value : Nat := 7
abbrev i_is_change : Nat := 8
abbrev i_check_changes : Nat := 9
abbrev i__law_draws : Nat := 10
abbrev i__law_take : Nat := 11
abbrev i__law_start : Nat := 12
abbrev i__law_schema : Nat := 13
abbrev i__law_key : Nat := 14
abbrev i__law_word : Nat := 15
abbrev i__law_change : Nat := 16
abbrev i__law_spoilt : Nat := 17
abbrev i__law_is_int : Nat := 18
abbrev i__law_is_word : Nat := 19
abbrev i__law_is_key : Nat := 20
abbrev i__law_table : Nat := 21
abbrev i__law_rule : Nat := 22
abbrev i__law_is_change : Nat := 23
abbrev i__law_told : Nat := 24
abbrev i__law_due : Nat := 25
abbrev i_law : Nat := 26
abbrev x_CutError : Nat := 0
abbrev x_IndexedError : Nat := 1
abbrev x_BadChange : Nat := 2
abbrev x_Failed : Nat := 3
abbrev c_GREATEST : Nat := 0
abbrev c_LONGEST : Nat := 1
abbrev c_WORDS : Nat := 2
/-! is_count(thing, most): 0=thing 1=most -/
abbrev s0 : Stmt := topS 8
def n_is_count : List Str := ["thing", "most"]
def b_is_count : Sms :=
  (.cons (.ret (.andE (.cons (.bi .isinst (.cons (.var 0) (.cons (.tyE "int") .nil))) (.cons (.nt (.bi .isinst (.cons (.var 0) (.cons (.tyE "bool") .nil)))) (.cons (.chain .le .le (.int 0) (.var 0) (.var 1)) .nil)))))
  .nil)
def f_is_count : Fn := { name := "is_count", np := 2, N := n_is_count, body := b_is_count }
/-! is_number(thing): 0=thing -/
abbrev s1 : Stmt := topS 9
def n_is_number : List Str := ["thing"]
def b_is_number : Sms :=
  (.cons (.ret (.andE (.cons (.bi .isinst (.cons (.var 0) (.cons (.tyE "int") .nil))) (.cons (.nt (.bi .isinst (.cons (.var 0) (.cons (.tyE "bool") .nil)))) (.cons (.chain .le .le (.neg (.gc c_GREATEST)) (.var 0) (.gc c_GREATEST)) .nil)))))
  .nil)
def f_is_number : Fn := { name := "is_number", np := 1, N := n_is_number, body := b_is_number }
/-! is_word(thing): 0=thing 1=char -/
abbrev s2 : Stmt := topS 10
def n_is_word : List Str := ["thing", "char"]
def b_is_word_l1 : Sms :=
  (.cons (.ifS (.orE (.cons (.cmp .lt (.var 1) (.str (S [32]))) (.cons (.cmp .gt (.var 1) (.str (S [126]))) (.cons (.cmp .eq (.bi .ord (.cons (.var 1) .nil)) (.int 37)) .nil))))
    (.cons (.ret (.bool false))
    .nil)
    .nil)
  .nil)
def b_is_word : Sms :=
  (.cons (.ifS (.orE (.cons (.nt (.bi .isinst (.cons (.var 0) (.cons (.tyE "str") .nil)))) (.cons (.cmp .gt (.bi .len (.cons (.var 0) .nil)) (.gc c_LONGEST)) .nil)))
    (.cons (.ret (.bool false))
    .nil)
    .nil)
  (.cons (.forS (.one 1) (.seq (.var 0)) b_is_word_l1)
  (.cons (.ret (.bool true))
  .nil)))
def f_is_word : Fn := { name := "is_word", np := 1, N := n_is_word, body := b_is_word }
/-! index_of(rows, name): 0=rows 1=name 2=index -/
abbrev s3 : Stmt := topS 11
def n_index_of : List Str := ["rows", "name", "index"]
def b_index_of_l1 : Sms :=
  (.cons (.ifS (.cmp .eq (.idx (.idx (.var 0) (.var 2)) (.int 0)) (.var 1))
    (.cons (.ret (.var 2))
    .nil)
    .nil)
  .nil)
def b_index_of : Sms :=
  (.cons (.forS (.one 2) (.rng1 (.bi .len (.cons (.var 0) .nil))) b_index_of_l1)
  (.cons (.ret (.neg (.int 1)))
  .nil))
def f_index_of : Fn := { name := "index_of", np := 2, N := n_index_of, body := b_index_of }
/-! table_of(schema, name): 0=schema 1=name -/
abbrev s4 : Stmt := topS 12
def n_table_of : List Str := ["schema", "name"]
def b_table_of : Sms :=
  (.cons (.ret (.call i_index_of (.cons (.var 0) (.cons (.var 1) .nil))))
  .nil)
def f_table_of : Fn := { name := "table_of", np := 2, N := n_table_of, body := b_table_of }
/-! column_of(table, name): 0=table 1=name -/
abbrev s5 : Stmt := topS 13
def n_column_of : List Str := ["table", "name"]
def b_column_of : Sms :=
  (.cons (.ret (.call i_index_of (.cons (.idx (.var 0) (.int 2)) (.cons (.var 1) .nil))))
  .nil)
def f_column_of : Fn := { name := "column_of", np := 2, N := n_column_of, body := b_column_of }
/-! is_key(table, thing): 0=table 1=thing -/
abbrev s6 : Stmt := topS 14
def n_is_key : List Str := ["table", "thing"]
def b_is_key : Sms :=
  (.cons (.ifS (.cmp .eq (.idx (.var 0) (.int 1)) (.str (S [119, 111, 114, 100])))
    (.cons (.ret (.call i_is_word (.cons (.var 1) .nil)))
    .nil)
    .nil)
  (.cons (.ret (.call i_is_number (.cons (.var 1) .nil)))
  .nil))
def f_is_key : Fn := { name := "is_key", np := 2, N := n_is_key, body := b_is_key }
/-! is_value(rule, word, value): 0=rule 1=word 2=value -/
abbrev s7 : Stmt := topS 19
def n_is_value : List Str := ["rule", "word", "value"]
def b_is_value : Sms :=
  (.cons (.ifS (.orE (.cons (.cmp .eq (.var 0) (.str (S [119, 111, 114, 100]))) (.cons (.cmp .eq (.var 0) (.str (S [108, 111, 116]))) .nil)))
    (.cons (.ret (.call i_is_word (.cons (.var 2) .nil)))
    .nil)
    .nil)
  (.cons (.ifS (.cmp .mem (.var 1) (.tupE (.cons (.str (S [112, 117, 116])) (.cons (.str (S [97, 100, 100])) .nil))))
    (.cons (.ret (.call i_is_number (.cons (.var 2) .nil)))
    .nil)
    .nil)
  (.cons (.ret (.call i_is_count (.cons (.var 2) (.cons (.gc c_GREATEST) .nil))))
  .nil)))
def f_is_value : Fn := { name := "is_value", np := 3, N := n_is_value, body := b_is_value }
/-! is_change(schema, stations, thing): 0=schema 1=stations 2=thing 3=at 4=column 5=rule -/
abbrev s8 : Stmt := topS 20
def n_is_change : List Str := ["schema", "stations", "thing", "at", "column", "rule"]
def b_is_change : Sms :=
  (.cons (.ifS (.orE (.cons (.nt (.bi .isinst (.cons (.var 2) (.cons (.tyE "tuple") .nil)))) (.cons (.cmp .eq (.var 2) (.tupE .nil)) (.cons (.nt (.bi .isinst (.cons (.idx (.var 2) (.int 0)) (.cons (.tyE "str") .nil)))) (.cons (.cmp .nmem (.idx (.var 2) (.int 0)) (.gc c_WORDS)) .nil)))))
    (.cons (.ret (.bool false))
    .nil)
    .nil)
  (.cons (.ifS (.orE (.cons (.cmp .ne (.bi .len (.cons (.var 2) .nil)) (.dixg 1 (.idx (.var 2) (.int 0)) (.int 5))) (.cons (.nt (.bi .isinst (.cons (.idx (.var 2) (.int 1)) (.cons (.tyE "str") .nil)))) .nil)))
    (.cons (.ret (.bool false))
    .nil)
    .nil)
  (.cons (.set 3 (.call i_table_of (.cons (.var 0) (.cons (.idx (.var 2) (.int 1)) .nil))))
  (.cons (.ifS (.orE (.cons (.cmp .lt (.var 3) (.int 0)) (.cons (.nt (.call i_is_key (.cons (.idx (.var 0) (.var 3)) (.cons (.idx (.var 2) (.int 2)) .nil)))) .nil)))
    (.cons (.ret (.bool false))
    .nil)
    .nil)
  (.cons (.ifS (.cmp .eq (.idx (.var 2) (.int 0)) (.str (S [100, 114, 111, 112])))
    (.cons (.ret (.bool true))
    .nil)
    .nil)
  (.cons (.set 4 (.neg (.int 1)))
  (.cons (.ifS (.bi .isinst (.cons (.idx (.var 2) (.int 3)) (.cons (.tyE "str") .nil)))
    (.cons (.set 4 (.call i_column_of (.cons (.idx (.var 0) (.var 3)) (.cons (.idx (.var 2) (.int 3)) .nil))))
    .nil)
    .nil)
  (.cons (.ifS (.cmp .lt (.var 4) (.int 0))
    (.cons (.ret (.bool false))
    .nil)
    .nil)
  (.cons (.set 5 (.idx (.idx (.idx (.idx (.var 0) (.var 3)) (.int 2)) (.var 4)) (.int 1)))
  (.cons (.ifS (.orE (.cons (.cmp .nmem (.var 5) (.dix 0 (.idx (.var 2) (.int 0)))) (.cons (.nt (.call i_is_value (.cons (.var 5) (.cons (.idx (.var 2) (.int 0)) (.cons (.idx (.var 2) (.int 4)) .nil))))) .nil)))
    (.cons (.ret (.bool false))
    .nil)
    .nil)
  (.cons (.ret (.orE (.cons (.cmp .ne (.idx (.var 2) (.int 0)) (.str (S [103, 105, 118, 101]))) (.cons (.call i_is_count (.cons (.idx (.var 2) (.int 5)) (.cons (.bin .sub (.var 1) (.int 1)) .nil))) .nil))))
  .nil)))))))))))
def f_is_change : Fn := { name := "is_change", np := 3, N := n_is_change, body := b_is_change }
/-! check_changes(schema, stations, changes): 0=schema 1=stations 2=changes 3=index -/
abbrev s9 : Stmt := topS 21
def n_check_changes : List Str := ["schema", "stations", "changes", "index"]
def b_check_changes_l1 : Sms :=
  (.cons (.ifS (.nt (.call i_is_change (.cons (.var 0) (.cons (.var 1) (.cons (.idx (.var 2) (.var 3)) .nil)))))
    (.cons (.raiseI x_BadChange (.var 3))
    .nil)
    .nil)
  .nil)
def b_check_changes : Sms :=
  (.cons (.ifS (.nt (.bi .isinst (.cons (.var 2) (.cons (.tyE "tuple") .nil))))
    (.cons (.raiseI x_BadChange (.neg (.int 1)))
    .nil)
    .nil)
  (.cons (.forS (.one 3) (.rng1 (.bi .len (.cons (.var 2) .nil))) b_check_changes_l1)
  .nil))
def f_check_changes : Fn := { name := "check_changes", np := 3, N := n_check_changes, body := b_check_changes }
/-! _law_draws(script, many): 0=script 1=many 2=draws 3=mixed 4=k 5=cell 6=rest 7=turn -/
abbrev s10 : Stmt := topS 23
def n__law_draws : List Str := ["script", "many", "draws", "mixed", "k", "cell", "rest", "turn"]
def b__law_draws_l1 : Sms :=
  (.cons (.ifS (.cmp .gt (.var 6) (.int 0))
    (.cons (.expr (.bm .append (.var 2) (.cons (.bin .mod (.bi .int (.cons (.var 6) .nil)) (.int 997)) .nil)))
    (.cons (.set 6 (.bin .fdiv (.var 6) (.int 997)))
    .nil))
    .nil)
  .nil)
def b__law_draws_l2 : Sms :=
  (.cons (.set 5 (.bi .abs (.cons (.bi .int (.cons (.idx (.var 0) (.var 4)) .nil)) .nil)))
  (.cons (.set 3 (.bin .mod (.bi .int (.cons (.bin .add (.bin .add (.bin .mul (.var 3) (.int 48271)) (.bin .mod (.var 5) (.int 1000003))) (.var 4)) .nil)) (.int 65537)))
  (.cons (.set 6 (.int 0))
  (.cons (.ifS (.cmp .ge (.var 5) (.bin .pow (.int 10) (.int 18)))
    (.cons (.set 6 (.var 5))
    .nil)
    (.cons (.expr (.bm .append (.var 2) (.cons (.bin .mod (.var 5) (.int 997)) .nil)))
    (.cons (.expr (.bm .append (.var 2) (.cons (.bin .mod (.bin .mod (.bi .int (.cons (.bin .add (.bin .mul (.var 3) (.int 69621)) (.int 5)) .nil)) (.int 65521)) (.int 997)) .nil)))
    .nil)))
  (.cons (.forS (.one 7) (.rng1 (.int 60)) b__law_draws_l1)
  .nil)))))
def b__law_draws_l3 : Sms :=
  (.cons (.set 3 (.bin .mod (.bi .int (.cons (.bin .add (.bin .add (.bin .mul (.var 3) (.int 16807)) (.var 4)) (.int 1)) .nil)) (.int 65537)))
  (.cons (.expr (.bm .append (.var 2) (.cons (.bin .mod (.bi .int (.cons (.var 3) .nil)) (.int 997)) .nil)))
  .nil))
def b__law_draws : Sms :=
  (.cons (.set 2 (.box (.lstE .nil)))
  (.cons (.set 3 (.int 7))
  (.cons (.forS (.one 4) (.rng1 (.bi .len (.cons (.var 0) .nil))) b__law_draws_l2)
  (.cons (.forS (.one 4) (.rng1 (.var 1)) b__law_draws_l3)
  (.cons (.ret (.slc (.var 2) .nil (.cons (.var 1) .nil)))
  .nil)))))
def f__law_draws : Fn := { name := "_law_draws", np := 2, N := n__law_draws, body := b__law_draws }
/-! _law_take(d): 0=d 1=at -/
abbrev s11 : Stmt := topS 24
def n__law_take : List Str := ["d", "at"]
def b__law_take : Sms :=
  (.cons (.set 1 (.idx (.var 0) (.str (S [97, 116]))))
  (.cons (.put (.var 0) (.str (S [97, 116])) (.bin .add (.var 1) (.int 1)))
  (.cons (.ret (.bin .add (.idx (.idx (.var 0) (.str (S [114, 111, 119]))) (.bin .mod (.var 1) (.bi .len (.cons (.idx (.var 0) (.str (S [114, 111, 119]))) .nil)))) (.bin .fdiv (.var 1) (.bi .len (.cons (.idx (.var 0) (.str (S [114, 111, 119]))) .nil)))))
  .nil)))
def f__law_take : Fn := { name := "_law_take", np := 1, N := n__law_take, body := b__law_take }
/-! _law_start(script): 0=script -/
abbrev s12 : Stmt := topS 25
def n__law_start : List Str := ["script"]
def b__law_start : Sms :=
  (.cons (.ret (.box (.dicE (.cons (.str (S [114, 111, 119])) (.call i__law_draws (.cons (.var 0) (.cons (.int 400) .nil))) (.cons (.str (S [97, 116])) (.int 0) .nil)))))
  .nil)
def f__law_start : Fn := { name := "_law_start", np := 1, N := n__law_start, body := b__law_start, pop := false }
/-! _law_schema(d): 0=d 1=tables 2=name 3=rows 4=turn 5=columns -/
abbrev s13 : Stmt := topS 26
def n__law_schema : List Str := ["d", "tables", "name", "rows", "turn", "columns"]
def b__law_schema_l1 : Sms :=
  (.cons (.set 3 (.lstE (.cons (.tupE (.cons (.str (S [119])) (.cons (.str (S [119, 111, 114, 100])) .nil))) (.cons (.tupE (.cons (.str (S [110])) (.cons (.str (S [110, 117, 109, 98, 101, 114])) .nil))) (.cons (.tupE (.cons (.str (S [115])) (.cons (.str (S [115, 117, 109])) .nil))) (.cons (.tupE (.cons (.str (S [109])) (.cons (.str (S [109, 111, 115, 116])) .nil))) (.cons (.tupE (.cons (.str (S [108])) (.cons (.str (S [108, 111, 116])) .nil))) (.cons (.tupE (.cons (.str (S [104])) (.cons (.str (S [115, 104, 97, 114, 101])) .nil))) .nil))))))))
  (.cons (.set 4 (.bin .mod (.call i__law_take (.cons (.var 0) .nil)) (.int 6)))
  (.cons (.set 5 (.slc (.bin .add (.slc (.var 3) (.cons (.var 4) .nil) .nil) (.slc (.var 3) .nil (.cons (.var 4) .nil))) .nil (.cons (.bin .add (.int 1) (.bin .mod (.call i__law_take (.cons (.var 0) .nil)) (.int 4))) .nil)))
  (.cons (.expr (.bm .append (.var 1) (.cons (.tupE (.cons (.var 2) (.cons (.idx (.lstE (.cons (.str (S [110, 117, 109, 98, 101, 114])) (.cons (.str (S [119, 111, 114, 100])) .nil))) (.bin .mod (.call i__law_take (.cons (.var 0) .nil)) (.int 2))) (.cons (.bi .tuple (.cons (.var 5) .nil)) .nil)))) .nil)))
  .nil))))
def b__law_schema : Sms :=
  (.cons (.set 1 (.box (.lstE .nil)))
  (.cons (.forS (.one 2) (.seq (.slc (.lstE (.cons (.str (S [97])) (.cons (.str (S [116, 97, 98])) (.cons (.str (S [122])) .nil)))) .nil (.cons (.bin .add (.int 1) (.bin .mod (.call i__law_take (.cons (.var 0) .nil)) (.int 3))) .nil))) b__law_schema_l1)
  (.cons (.ret (.bi .tuple (.cons (.var 1) .nil)))
  .nil)))
def f__law_schema : Fn := { name := "_law_schema", np := 1, N := n__law_schema, body := b__law_schema }
/-! _law_key(d, kind): 0=d 1=kind -/
abbrev s14 : Stmt := topS 27
def n__law_key : List Str := ["d", "kind"]
def b__law_key : Sms :=
  (.cons (.ifS (.cmp .eq (.var 1) (.str (S [119, 111, 114, 100])))
    (.cons (.ret (.idx (.lstE (.cons (.str (S [])) (.cons (.str (S [97])) (.cons (.str (S [98])) (.cons (.str (S [107, 101, 121])) (.cons (.str (S [126, 32, 122])) .nil)))))) (.bin .mod (.call i__law_take (.cons (.var 0) .nil)) (.int 5))))
    .nil)
    .nil)
  (.cons (.ret (.idx (.lstE (.cons (.int 0) (.cons (.int 1) (.cons (.int 2) (.cons (.int 3) (.cons (.neg (.int 7)) .nil)))))) (.bin .mod (.call i__law_take (.cons (.var 0) .nil)) (.int 5))))
  .nil))
def f__law_key : Fn := { name := "_law_key", np := 2, N := n__law_key, body := b__law_key }
/-! _law_word(d): 0=d -/
abbrev s15 : Stmt := topS 28
def n__law_word : List Str := ["d"]
def b__law_word : Sms :=
  (.cons (.ret (.idx (.lstE (.cons (.str (S [])) (.cons (.str (S [120])) (.cons (.str (S [121, 121])) (.cons (.str (S [97, 32, 119, 111, 114, 100])) (.cons (.str (S [122, 57])) .nil)))))) (.bin .mod (.call i__law_take (.cons (.var 0) .nil)) (.int 5))))
  .nil)
def f__law_word : Fn := { name := "_law_word", np := 1, N := n__law_word, body := b__law_word }
/-! _law_change(d, schema, stations): 0=d 1=schema 2=stations 3=name 4=kind 5=columns 6=key 7=column 8=rule 9=n 10=word -/
abbrev s16 : Stmt := topS 29
def n__law_change : List Str := ["d", "schema", "stations", "name", "kind", "columns", "key", "column", "rule", "n", "word"]
def b__law_change : Sms :=
  (.cons (.sets [3, 4, 5] (.idx (.var 1) (.bin .mod (.call i__law_take (.cons (.var 0) .nil)) (.bi .len (.cons (.var 1) .nil)))))
  (.cons (.set 6 (.call i__law_key (.cons (.var 0) (.cons (.var 4) .nil))))
  (.cons (.ifS (.cmp .eq (.bin .mod (.call i__law_take (.cons (.var 0) .nil)) (.int 9)) (.int 0))
    (.cons (.ret (.tupE (.cons (.str (S [100, 114, 111, 112])) (.cons (.var 3) (.cons (.var 6) .nil)))))
    .nil)
    .nil)
  (.cons (.sets [7, 8] (.idx (.var 5) (.bin .mod (.call i__law_take (.cons (.var 0) .nil)) (.bi .len (.cons (.var 5) .nil)))))
  (.cons (.set 9 (.idx (.lstE (.cons (.int 0) (.cons (.int 1) (.cons (.int 2) (.cons (.int 5) (.cons (.int 9) (.cons (.int 40) .nil))))))) (.bin .mod (.call i__law_take (.cons (.var 0) .nil)) (.int 6))))
  (.cons (.ifS (.cmp .eq (.var 8) (.str (S [119, 111, 114, 100])))
    (.cons (.ret (.tupE (.cons (.str (S [112, 117, 116])) (.cons (.var 3) (.cons (.var 6) (.cons (.var 7) (.cons (.call i__law_word (.cons (.var 0) .nil)) .nil)))))))
    .nil)
    .nil)
  (.cons (.ifS (.cmp .eq (.var 8) (.str (S [110, 117, 109, 98, 101, 114])))
    (.cons (.ret (.tupE (.cons (.str (S [112, 117, 116])) (.cons (.var 3) (.cons (.var 6) (.cons (.var 7) (.cons (.bin .sub (.var 9) (.int 5)) .nil)))))))
    .nil)
    .nil)
  (.cons (.ifS (.cmp .eq (.var 8) (.str (S [115, 117, 109])))
    (.cons (.ret (.tupE (.cons (.str (S [97, 100, 100])) (.cons (.var 3) (.cons (.var 6) (.cons (.var 7) (.cons (.bin .sub (.var 9) (.int 3)) .nil)))))))
    .nil)
    .nil)
  (.cons (.ifS (.cmp .eq (.var 8) (.str (S [109, 111, 115, 116])))
    (.cons (.ret (.tupE (.cons (.str (S [114, 97, 105, 115, 101])) (.cons (.var 3) (.cons (.var 6) (.cons (.var 7) (.cons (.var 9) .nil)))))))
    .nil)
    .nil)
  (.cons (.ifS (.cmp .eq (.var 8) (.str (S [108, 111, 116])))
    (.cons (.ret (.tupE (.cons (.idx (.lstE (.cons (.str (S [106, 111, 105, 110])) (.cons (.str (S [112, 97, 114, 116])) (.cons (.str (S [106, 111, 105, 110])) .nil)))) (.bin .mod (.call i__law_take (.cons (.var 0) .nil)) (.int 3))) (.cons (.var 3) (.cons (.var 6) (.cons (.var 7) (.cons (.call i__law_word (.cons (.var 0) .nil)) .nil)))))))
    .nil)
    .nil)
  (.cons (.set 10 (.idx (.lstE (.cons (.str (S [102, 105, 108, 108])) (.cons (.str (S [116, 97, 107, 101])) (.cons (.str (S [103, 105, 118, 101])) (.cons (.str (S [102, 105, 108, 108])) .nil))))) (.bin .mod (.call i__law_take (.cons (.var 0) .nil)) (.int 4))))
  (.cons (.ifS (.cmp .eq (.var 10) (.str (S [103, 105, 118, 101])))
    (.cons (.ret (.tupE (.cons (.var 10) (.cons (.var 3) (.cons (.var 6) (.cons (.var 7) (.cons (.bin .mod (.var 9) (.int 3)) (.cons (.bin .mod (.call i__law_take (.cons (.var 0) .nil)) (.var 2)) .nil))))))))
    .nil)
    .nil)
  (.cons (.ret (.tupE (.cons (.var 10) (.cons (.var 3) (.cons (.var 6) (.cons (.var 7) (.cons (.var 9) .nil)))))))
  .nil)))))))))))))
def f__law_change : Fn := { name := "_law_change", np := 3, N := n__law_change, body := b__law_change }
/-! _law_spoilt(d, thing, steps): 0=d 1=thing 2=steps 3=things 4=at -/
abbrev s17 : Stmt := topS 31
def n__law_spoilt : List Str := ["d", "thing", "steps", "things", "at"]
def b__law_spoilt : Sms :=
  (.cons (.ifS (.orE (.cons (.nt (.bi .isinst (.cons (.var 1) (.cons (.tyE "tuple") .nil)))) (.cons (.cmp .eq (.var 1) (.tupE .nil)) (.cons (.cmp .le (.var 2) (.int 0)) .nil))))
    (.cons (.set 3 (.lstE (.cons .non (.cons (.bool true) (.cons (.neg (.int 1)) (.cons (.int 0) (.cons (.int 1) (.cons (.int 2) (.cons (.int 3) (.cons (.bin .pow (.int 10) (.int 15)) (.cons (.bin .add (.bin .pow (.int 10) (.int 15)) (.int 1)) (.cons (.bin .sub (.neg (.bin .pow (.int 10) (.int 15))) (.int 1)) (.cons (.bin .add (.bin .pow (.int 10) (.int 12)) (.int 1)) (.cons (.str (S [97])) (.cons (.str (S [116, 97, 98])) (.cons (.str (S [119])) (.cons (.str (S [119, 111, 114, 100])) (.cons (.str (S [110, 117, 109, 98, 101, 114])) .nil))))))))))))))))))
    (.cons (.set 3 (.bin .add (.var 3) (.lstE (.cons (.str (S [112, 117, 116])) (.cons (.str (S [100, 114, 111, 112])) (.cons (.str (S [])) (.cons (.bin .mul (.str (S [120])) (.int 40)) (.cons (.bin .mul (.str (S [120])) (.int 41)) (.cons (.str (S [65])) (.cons (.str (S [97, 32, 98])) (.cons (.str (S [10])) (.cons (.bool false) (.cons (.tupE .nil) (.cons (.tupE (.cons (.str (S [97])) .nil)) (.cons (.tupE (.cons (.str (S [119])) (.cons (.str (S [119, 111, 114, 100])) .nil))) (.cons (.tupE (.cons (.str (S [100, 114, 111, 112])) (.cons (.str (S [97])) (.cons (.int 1) .nil)))) (.cons (.str (S [108, 111, 116])) .nil)))))))))))))))))
    (.cons (.ret (.idx (.var 3) (.bin .mod (.call i__law_take (.cons (.var 0) .nil)) (.bi .len (.cons (.var 3) .nil)))))
    .nil)))
    .nil)
  (.cons (.set 4 (.bin .mod (.call i__law_take (.cons (.var 0) .nil)) (.bin .add (.bi .len (.cons (.var 1) .nil)) (.int 1))))
  (.cons (.ifS (.cmp .eq (.var 4) (.bi .len (.cons (.var 1) .nil)))
    (.cons (.ret (.idx (.lstE (.cons (.slc (.var 1) .nil (.cons (.neg (.int 1)) .nil)) (.cons (.bin .add (.var 1) (.slc (.var 1) (.cons (.neg (.int 1)) .nil) .nil)) .nil))) (.bin .mod (.call i__law_take (.cons (.var 0) .nil)) (.int 2))))
    .nil)
    .nil)
  (.cons (.ret (.bin .add (.bin .add (.slc (.var 1) .nil (.cons (.var 4) .nil)) (.tupE (.cons (.call i__law_spoilt (.cons (.var 0) (.cons (.idx (.var 1) (.var 4)) (.cons (.bin .sub (.var 2) (.int 1)) .nil)))) .nil))) (.slc (.var 1) (.cons (.bin .add (.var 4) (.int 1)) .nil) .nil)))
  .nil))))
def f__law_spoilt : Fn := { name := "_law_spoilt", np := 3, N := n__law_spoilt, body := b__law_spoilt }
/-! _law_is_int(thing, low, high): 0=thing 1=low 2=high -/
abbrev s18 : Stmt := topS 32
def n__law_is_int : List Str := ["thing", "low", "high"]
def b__law_is_int : Sms :=
  (.cons (.ret (.andE (.cons (.bi .isinst (.cons (.var 0) (.cons (.tyE "int") .nil))) (.cons (.nt (.bi .isinst (.cons (.var 0) (.cons (.tyE "bool") .nil)))) (.cons (.cmp .le (.var 1) (.var 0)) (.cons (.cmp .le (.var 0) (.var 2)) .nil))))))
  .nil)
def f__law_is_int : Fn := { name := "_law_is_int", np := 3, N := n__law_is_int, body := b__law_is_int }
/-! _law_is_word(thing): 0=thing 1=char -/
abbrev s19 : Stmt := topS 33
def n__law_is_word : List Str := ["thing", "char"]
def b__law_is_word_c1 : Ex :=
  (.var 1)
def b__law_is_word_t1 : Exs :=
  (.cons (.orE (.cons (.cmp .lt (.var 1) (.str (S [32]))) (.cons (.cmp .gt (.var 1) (.str (S [126]))) (.cons (.cmp .eq (.bi .ord (.cons (.var 1) .nil)) (.int 37)) .nil)))) .nil)
def b__law_is_word : Sms :=
  (.cons (.ifS (.orE (.cons (.nt (.bi .isinst (.cons (.var 0) (.cons (.tyE "str") .nil)))) (.cons (.cmp .gt (.bi .len (.cons (.var 0) .nil)) (.int 40)) .nil)))
    (.cons (.ret (.bool false))
    .nil)
    .nil)
  (.cons (.ret (.cmp .eq (.lc b__law_is_word_c1 (.one 1) (.seq (.var 0)) b__law_is_word_t1 [1]) (.lstE .nil)))
  .nil))
def f__law_is_word : Fn := { name := "_law_is_word", np := 1, N := n__law_is_word, body := b__law_is_word }
/-! _law_is_key(kind, thing): 0=kind 1=thing -/
abbrev s20 : Stmt := topS 37
def n__law_is_key : List Str := ["kind", "thing"]
def b__law_is_key : Sms :=
  (.cons (.ifS (.cmp .eq (.var 0) (.str (S [119, 111, 114, 100])))
    (.cons (.ret (.call i__law_is_word (.cons (.var 1) .nil)))
    .nil)
    .nil)
  (.cons (.ret (.call i__law_is_int (.cons (.var 1) (.cons (.neg (.bin .pow (.int 10) (.int 15))) (.cons (.bin .pow (.int 10) (.int 15)) .nil)))))
  .nil))
def f__law_is_key : Fn := { name := "_law_is_key", np := 2, N := n__law_is_key, body := b__law_is_key }
/-! _law_table(schema, name): 0=schema 1=name 2=found 3=row -/
abbrev s21 : Stmt := topS 38
def n__law_table : List Str := ["schema", "name", "found", "row"]
def b__law_table_c1 : Ex :=
  (.var 3)
def b__law_table_t1 : Exs :=
  (.cons (.cmp .eq (.idx (.var 3) (.int 0)) (.var 1)) .nil)
def b__law_table : Sms :=
  (.cons (.set 2 (.lc b__law_table_c1 (.one 3) (.seq (.var 0)) b__law_table_t1 [3]))
  (.cons (.ifS (.orE (.cons (.cmp .eq (.var 2) (.lstE .nil)) (.cons (.nt (.bi .isinst (.cons (.var 1) (.cons (.tyE "str") .nil)))) .nil)))
    (.cons (.ret .non)
    .nil)
    .nil)
  (.cons (.ret (.idx (.var 2) (.int 0)))
  .nil)))
def f__law_table : Fn := { name := "_law_table", np := 2, N := n__law_table, body := b__law_table }
/-! _law_rule(table, name): 0=table 1=name 2=found 3=row -/
abbrev s22 : Stmt := topS 39
def n__law_rule : List Str := ["table", "name", "found", "row"]
def b__law_rule_c1 : Ex :=
  (.idx (.var 3) (.int 1))
def b__law_rule_t1 : Exs :=
  (.cons (.cmp .eq (.idx (.var 3) (.int 0)) (.var 1)) .nil)
def b__law_rule : Sms :=
  (.cons (.set 2 (.lc b__law_rule_c1 (.one 3) (.seq (.idx (.var 0) (.int 2))) b__law_rule_t1 [3]))
  (.cons (.ifS (.orE (.cons (.cmp .eq (.var 2) (.lstE .nil)) (.cons (.nt (.bi .isinst (.cons (.var 1) (.cons (.tyE "str") .nil)))) .nil)))
    (.cons (.ret .non)
    .nil)
    .nil)
  (.cons (.ret (.idx (.var 2) (.int 0)))
  .nil)))
def f__law_rule : Fn := { name := "_law_rule", np := 2, N := n__law_rule, body := b__law_rule }
/-! _law_is_change(schema, stations, thing): 0=schema 1=stations 2=thing 3=table 4=rule 5=value -/
abbrev s23 : Stmt := topS 40
def n__law_is_change : List Str := ["schema", "stations", "thing", "table", "rule", "value"]
def b__law_is_change : Sms :=
  (.cons (.ifS (.orE (.cons (.nt (.bi .isinst (.cons (.var 2) (.cons (.tyE "tuple") .nil)))) (.cons (.cmp .lt (.bi .len (.cons (.var 2) .nil)) (.int 3)) (.cons (.nt (.bi .isinst (.cons (.idx (.var 2) (.int 0)) (.cons (.tyE "str") .nil)))) .nil))))
    (.cons (.ret (.bool false))
    .nil)
    .nil)
  (.cons (.set 3 (.call i__law_table (.cons (.var 0) (.cons (.idx (.var 2) (.int 1)) .nil))))
  (.cons (.ifS (.orE (.cons (.isN (.var 3)) (.cons (.nt (.call i__law_is_key (.cons (.idx (.var 3) (.int 1)) (.cons (.idx (.var 2) (.int 2)) .nil)))) .nil)))
    (.cons (.ret (.bool false))
    .nil)
    .nil)
  (.cons (.ifS (.cmp .eq (.idx (.var 2) (.int 0)) (.str (S [100, 114, 111, 112])))
    (.cons (.ret (.cmp .eq (.bi .len (.cons (.var 2) .nil)) (.int 3)))
    .nil)
    .nil)
  (.cons (.ifS (.cmp .ne (.bi .len (.cons (.var 2) .nil)) (.bin .add (.int 5) (.bi .int (.cons (.cmp .eq (.idx (.var 2) (.int 0)) (.str (S [103, 105, 118, 101]))) .nil))))
    (.cons (.ret (.bool false))
    .nil)
    .nil)
  (.cons (.set 4 (.call i__law_rule (.cons (.var 3) (.cons (.idx (.var 2) (.int 3)) .nil))))
  (.cons (.set 5 (.idx (.var 2) (.int 4)))
  (.cons (.ifS (.cmp .eq (.idx (.var 2) (.int 0)) (.str (S [112, 117, 116])))
    (.cons (.ret (.orE (.cons (.andE (.cons (.cmp .eq (.var 4) (.str (S [119, 111, 114, 100]))) (.cons (.call i__law_is_word (.cons (.var 5) .nil)) .nil))) (.cons (.andE (.cons (.cmp .eq (.var 4) (.str (S [110, 117, 109, 98, 101, 114]))) (.cons (.call i__law_is_int (.cons (.var 5) (.cons (.neg (.bin .pow (.int 10) (.int 15))) (.cons (.bin .pow (.int 10) (.int 15)) .nil)))) .nil))) .nil))))
    .nil)
    .nil)
  (.cons (.ifS (.cmp .eq (.idx (.var 2) (.int 0)) (.str (S [97, 100, 100])))
    (.cons (.ret (.andE (.cons (.cmp .eq (.var 4) (.str (S [115, 117, 109]))) (.cons (.call i__law_is_int (.cons (.var 5) (.cons (.neg (.bin .pow (.int 10) (.int 15))) (.cons (.bin .pow (.int 10) (.int 15)) .nil)))) .nil))))
    .nil)
    .nil)
  (.cons (.ifS (.cmp .eq (.idx (.var 2) (.int 0)) (.str (S [114, 97, 105, 115, 101])))
    (.cons (.ret (.andE (.cons (.cmp .eq (.var 4) (.str (S [109, 111, 115, 116]))) (.cons (.call i__law_is_int (.cons (.var 5) (.cons (.int 0) (.cons (.bin .pow (.int 10) (.int 15)) .nil)))) .nil))))
    .nil)
    .nil)
  (.cons (.ifS (.cmp .mem (.idx (.var 2) (.int 0)) (.tupE (.cons (.str (S [106, 111, 105, 110])) (.cons (.str (S [112, 97, 114, 116])) .nil))))
    (.cons (.ret (.andE (.cons (.cmp .eq (.var 4) (.str (S [108, 111, 116]))) (.cons (.call i__law_is_word (.cons (.var 5) .nil)) .nil))))
    .nil)
    .nil)
  (.cons (.ifS (.orE (.cons (.cmp .nmem (.idx (.var 2) (.int 0)) (.tupE (.cons (.str (S [102, 105, 108, 108])) (.cons (.str (S [116, 97, 107, 101])) (.cons (.str (S [103, 105, 118, 101])) .nil))))) (.cons (.cmp .ne (.var 4) (.str (S [115, 104, 97, 114, 101]))) (.cons (.nt (.call i__law_is_int (.cons (.var 5) (.cons (.int 0) (.cons (.bin .pow (.int 10) (.int 15)) .nil))))) .nil))))
    (.cons (.ret (.bool false))
    .nil)
    .nil)
  (.cons (.ret (.orE (.cons (.cmp .ne (.idx (.var 2) (.int 0)) (.str (S [103, 105, 118, 101]))) (.cons (.call i__law_is_int (.cons (.idx (.var 2) (.int 5)) (.cons (.int 0) (.cons (.bin .sub (.var 1) (.int 1)) .nil)))) .nil))))
  .nil)))))))))))))
def f__law_is_change : Fn := { name := "_law_is_change", np := 3, N := n__law_is_change, body := b__law_is_change }
/-! _law_told(schema, stations, thing): 0=schema 1=stations 2=thing 3=e -/
abbrev s24 : Stmt := topS 41
def n__law_told : List Str := ["schema", "stations", "thing", "e"]
def b__law_told_l1 : Sms :=
  (.cons (.ret (.call i_check_changes (.cons (.var 0) (.cons (.var 1) (.cons (.var 2) .nil)))))
  .nil)
def b__law_told : Sms :=
  (.cons (.tryS b__law_told_l1 (.cons x_BadChange (some 3) (.ifR (.orS (.nt (.isE x_CutError)) (.isE x_Failed)) (.str (S [111, 116, 104, 101, 114])) (.ret .ix)) .nil))
  .nil)
def f__law_told : Fn := { name := "_law_told", np := 3, N := n__law_told, body := b__law_told }
/-! _law_due(schema, stations, thing): 0=schema 1=stations 2=thing 3=k -/
abbrev s25 : Stmt := topS 42
def n__law_due : List Str := ["schema", "stations", "thing", "k"]
def b__law_due_l1 : Sms :=
  (.cons (.ifS (.nt (.call i__law_is_change (.cons (.var 0) (.cons (.var 1) (.cons (.idx (.var 2) (.var 3)) .nil)))))
    (.cons (.ret (.var 3))
    .nil)
    .nil)
  .nil)
def b__law_due : Sms :=
  (.cons (.ifS (.nt (.bi .isinst (.cons (.var 2) (.cons (.tyE "tuple") .nil))))
    (.cons (.ret (.neg (.int 1)))
    .nil)
    .nil)
  (.cons (.forS (.one 3) (.rng1 (.bi .len (.cons (.var 2) .nil))) b__law_due_l1)
  (.cons (.ret .non)
  .nil)))
def f__law_due : Fn := { name := "_law_due", np := 3, N := n__law_due, body := b__law_due }
/-! law(script): 0=script 1=d 2=turn 3=schema 4=stations 5=changes 6=k 7=thing 8=one -/
abbrev s26 : Stmt := topS 43
def n_law : List Str := ["script", "d", "turn", "schema", "stations", "changes", "k", "thing", "one"]
def b_law_c1 : Ex :=
  (.call i__law_change (.cons (.var 1) (.cons (.var 3) (.cons (.var 4) .nil))))
def b_law_l1 : Sms :=
  (.cons (.set 7 (.call i__law_spoilt (.cons (.var 1) (.cons (.var 7) (.cons (.bin .mod (.call i__law_take (.cons (.var 1) .nil)) (.int 4)) .nil)))))
  .nil)
def b_law_l2 : Sms :=
  (.cons (.set 7 (.var 5))
  (.cons (.forS (.one 8) (.rng1 (.bin .add (.int 1) (.bin .mod (.call i__law_take (.cons (.var 1) .nil)) (.int 2)))) b_law_l1)
  (.cons (.ifS (.cmp .ne (.call i__law_told (.cons (.var 3) (.cons (.var 4) (.cons (.var 7) .nil)))) (.call i__law_due (.cons (.var 3) (.cons (.var 4) (.cons (.var 7) .nil)))))
    (.cons (.ret (.bool false))
    .nil)
    .nil)
  .nil)))
def b_law_l3 : Sms :=
  (.cons (.set 3 (.call i__law_schema (.cons (.var 1) .nil)))
  (.cons (.set 4 (.bin .add (.int 1) (.bin .mod (.call i__law_take (.cons (.var 1) .nil)) (.int 4))))
  (.cons (.set 5 (.bi .tuple (.cons (.lc b_law_c1 (.one 6) (.rng1 (.bin .mod (.call i__law_take (.cons (.var 1) .nil)) (.int 6))) .nil [6]) .nil)))
  (.cons (.ifS (.notN (.call i__law_told (.cons (.var 3) (.cons (.var 4) (.cons (.var 5) .nil)))))
    (.cons (.ret (.bool false))
    .nil)
    .nil)
  (.cons (.forS (.one 6) (.rng1 (.int 8)) b_law_l2)
  .nil)))))
def b_law : Sms :=
  (.cons (.set 1 (.call i__law_start (.cons (.var 0) .nil)))
  (.cons (.forS (.one 2) (.rng1 (.int 3)) b_law_l3)
  (.cons (.ret (.bool true))
  .nil)))
def f_law : Fn := { name := "law", np := 1, N := n_law, body := b_law }
def G : Prog := ⟨[f_is_count, f_is_number, f_is_word, f_index_of, f_table_of, f_column_of, f_is_key, f_is_value, f_is_change, f_check_changes, f__law_draws, f__law_take, f__law_start, f__law_schema, f__law_key, f__law_word, f__law_change, f__law_spoilt, f__law_is_int, f__law_is_word, f__law_is_key, f__law_table, f__law_rule, f__law_is_change, f__law_told, f__law_due, f_law], [("GREATEST", D.int 1000000000000000), ("LONGEST", D.int 40), ("WORDS", D.tk [D.str (S [112, 117, 116]), D.str (S [97, 100, 100]), D.str (S [114, 97, 105, 115, 101]), D.str (S [106, 111, 105, 110]), D.str (S [112, 97, 114, 116]), D.str (S [102, 105, 108, 108]), D.str (S [116, 97, 107, 101]), D.str (S [103, 105, 118, 101]), D.str (S [100, 114, 111, 112])])], [("CutError", false, [0]), ("IndexedError", true, [1, 0]), ("BadChange", true, [2, 1, 0]), ("Failed", true, [3, 1, 0])], [("RULES_OF", [((S [112, 117, 116]), D.tk [D.str (S [119, 111, 114, 100]), D.str (S [110, 117, 109, 98, 101, 114])]), ((S [97, 100, 100]), D.tk [D.str (S [115, 117, 109])]), ((S [114, 97, 105, 115, 101]), D.tk [D.str (S [109, 111, 115, 116])]), ((S [106, 111, 105, 110]), D.tk [D.str (S [108, 111, 116])]), ((S [112, 97, 114, 116]), D.tk [D.str (S [108, 111, 116])]), ((S [102, 105, 108, 108]), D.tk [D.str (S [115, 104, 97, 114, 101])]), ((S [116, 97, 107, 101]), D.tk [D.str (S [115, 104, 97, 114, 101])]), ((S [103, 105, 118, 101]), D.tk [D.str (S [115, 104, 97, 114, 101])])]), ("SIZES", [((S [100, 114, 111, 112]), D.int 3), ((S [103, 105, 118, 101]), D.int 6)])], []⟩
theorem sc0 : FnScope n_is_count ["thing", "most"] (defScope s0) := ⟨rfl, rfl, rfl, by decide +kernel, rfl, by decide +kernel, by decide +kernel⟩
theorem em0 : emSs G n_is_count (defScope s0) b_is_count (defBody s0) = true := by decide +kernel
theorem sc1 : FnScope n_is_number ["thing"] (defScope s1) := ⟨rfl, rfl, rfl, by decide +kernel, rfl, by decide +kernel, by decide +kernel⟩
theorem em1 : emSs G n_is_number (defScope s1) b_is_number (defBody s1) = true := by decide +kernel
theorem sc2 : FnScope n_is_word ["thing"] (defScope s2) := ⟨rfl, rfl, rfl, by decide +kernel, rfl, by decide +kernel, by decide +kernel⟩
theorem em2 : emSs G n_is_word (defScope s2) b_is_word (defBody s2) = true := by decide +kernel
theorem sc3 : FnScope n_index_of ["rows", "name"] (defScope s3) := ⟨rfl, rfl, rfl, by decide +kernel, rfl, by decide +kernel, by decide +kernel⟩
theorem em3 : emSs G n_index_of (defScope s3) b_index_of (defBody s3) = true := by decide +kernel
theorem sc4 : FnScope n_table_of ["schema", "name"] (defScope s4) := ⟨rfl, rfl, rfl, by decide +kernel, rfl, by decide +kernel, by decide +kernel⟩
theorem em4 : emSs G n_table_of (defScope s4) b_table_of (defBody s4) = true := by decide +kernel
theorem sc5 : FnScope n_column_of ["table", "name"] (defScope s5) := ⟨rfl, rfl, rfl, by decide +kernel, rfl, by decide +kernel, by decide +kernel⟩
theorem em5 : emSs G n_column_of (defScope s5) b_column_of (defBody s5) = true := by decide +kernel
theorem sc6 : FnScope n_is_key ["table", "thing"] (defScope s6) := ⟨rfl, rfl, rfl, by decide +kernel, rfl, by decide +kernel, by decide +kernel⟩
theorem em6 : emSs G n_is_key (defScope s6) b_is_key (defBody s6) = true := by decide +kernel
theorem sc7 : FnScope n_is_value ["rule", "word", "value"] (defScope s7) := ⟨rfl, rfl, rfl, by decide +kernel, rfl, by decide +kernel, by decide +kernel⟩
theorem em7 : emSs G n_is_value (defScope s7) b_is_value (defBody s7) = true := by decide +kernel
theorem sc8 : FnScope n_is_change ["schema", "stations", "thing"] (defScope s8) := ⟨rfl, rfl, rfl, by decide +kernel, rfl, by decide +kernel, by decide +kernel⟩
theorem em8 : emSs G n_is_change (defScope s8) b_is_change (defBody s8) = true := by decide +kernel
theorem sc9 : FnScope n_check_changes ["schema", "stations", "changes"] (defScope s9) := ⟨rfl, rfl, rfl, by decide +kernel, rfl, by decide +kernel, by decide +kernel⟩
theorem em9 : emSs G n_check_changes (defScope s9) b_check_changes (defBody s9) = true := by decide +kernel
theorem sc10 : FnScope n__law_draws ["script", "many"] (defScope s10) := ⟨rfl, rfl, rfl, by decide +kernel, rfl, by decide +kernel, by decide +kernel⟩
theorem em10 : emSs G n__law_draws (defScope s10) b__law_draws (defBody s10) = true := by decide +kernel
theorem sc11 : FnScope n__law_take ["d"] (defScope s11) := ⟨rfl, rfl, rfl, by decide +kernel, rfl, by decide +kernel, by decide +kernel⟩
theorem em11 : emSs G n__law_take (defScope s11) b__law_take (defBody s11) = true := by decide +kernel
theorem sc12 : FnScope n__law_start ["script"] (defScope s12) := ⟨rfl, rfl, rfl, by decide +kernel, rfl, by decide +kernel, by decide +kernel⟩
theorem em12 : emSs G n__law_start (defScope s12) b__law_start (defBody s12) = true := by decide +kernel
theorem sc13 : FnScope n__law_schema ["d"] (defScope s13) := ⟨rfl, rfl, rfl, by decide +kernel, rfl, by decide +kernel, by decide +kernel⟩
theorem em13 : emSs G n__law_schema (defScope s13) b__law_schema (defBody s13) = true := by decide +kernel
theorem sc14 : FnScope n__law_key ["d", "kind"] (defScope s14) := ⟨rfl, rfl, rfl, by decide +kernel, rfl, by decide +kernel, by decide +kernel⟩
theorem em14 : emSs G n__law_key (defScope s14) b__law_key (defBody s14) = true := by decide +kernel
theorem sc15 : FnScope n__law_word ["d"] (defScope s15) := ⟨rfl, rfl, rfl, by decide +kernel, rfl, by decide +kernel, by decide +kernel⟩
theorem em15 : emSs G n__law_word (defScope s15) b__law_word (defBody s15) = true := by decide +kernel
theorem sc16 : FnScope n__law_change ["d", "schema", "stations"] (defScope s16) := ⟨rfl, rfl, rfl, by decide +kernel, rfl, by decide +kernel, by decide +kernel⟩
theorem em16 : emSs G n__law_change (defScope s16) b__law_change (defBody s16) = true := by decide +kernel
theorem sc17 : FnScope n__law_spoilt ["d", "thing", "steps"] (defScope s17) := ⟨rfl, rfl, rfl, by decide +kernel, rfl, by decide +kernel, by decide +kernel⟩
theorem em17 : emSs G n__law_spoilt (defScope s17) b__law_spoilt (defBody s17) = true := by decide +kernel
theorem sc18 : FnScope n__law_is_int ["thing", "low", "high"] (defScope s18) := ⟨rfl, rfl, rfl, by decide +kernel, rfl, by decide +kernel, by decide +kernel⟩
theorem em18 : emSs G n__law_is_int (defScope s18) b__law_is_int (defBody s18) = true := by decide +kernel
theorem sc19 : FnScope n__law_is_word ["thing"] (defScope s19) := ⟨rfl, rfl, rfl, by decide +kernel, rfl, by decide +kernel, by decide +kernel⟩
theorem em19 : emSs G n__law_is_word (defScope s19) b__law_is_word (defBody s19) = true := by decide +kernel
theorem sc20 : FnScope n__law_is_key ["kind", "thing"] (defScope s20) := ⟨rfl, rfl, rfl, by decide +kernel, rfl, by decide +kernel, by decide +kernel⟩
theorem em20 : emSs G n__law_is_key (defScope s20) b__law_is_key (defBody s20) = true := by decide +kernel
theorem sc21 : FnScope n__law_table ["schema", "name"] (defScope s21) := ⟨rfl, rfl, rfl, by decide +kernel, rfl, by decide +kernel, by decide +kernel⟩
theorem em21 : emSs G n__law_table (defScope s21) b__law_table (defBody s21) = true := by decide +kernel
theorem sc22 : FnScope n__law_rule ["table", "name"] (defScope s22) := ⟨rfl, rfl, rfl, by decide +kernel, rfl, by decide +kernel, by decide +kernel⟩
theorem em22 : emSs G n__law_rule (defScope s22) b__law_rule (defBody s22) = true := by decide +kernel
theorem sc23 : FnScope n__law_is_change ["schema", "stations", "thing"] (defScope s23) := ⟨rfl, rfl, rfl, by decide +kernel, rfl, by decide +kernel, by decide +kernel⟩
theorem em23 : emSs G n__law_is_change (defScope s23) b__law_is_change (defBody s23) = true := by decide +kernel
theorem sc24 : FnScope n__law_told ["schema", "stations", "thing"] (defScope s24) := ⟨rfl, rfl, rfl, by decide +kernel, rfl, by decide +kernel, by decide +kernel⟩
theorem em24 : emSs G n__law_told (defScope s24) b__law_told (defBody s24) = true := by decide +kernel
theorem sc25 : FnScope n__law_due ["schema", "stations", "thing"] (defScope s25) := ⟨rfl, rfl, rfl, by decide +kernel, rfl, by decide +kernel, by decide +kernel⟩
theorem em25 : emSs G n__law_due (defScope s25) b__law_due (defBody s25) = true := by decide +kernel
theorem sc26 : FnScope n_law ["script"] (defScope s26) := ⟨rfl, rfl, rfl, by decide +kernel, rfl, by decide +kernel, by decide +kernel⟩
theorem em26 : emSs G n_law (defScope s26) b_law (defBody s26) = true := by decide +kernel
end Law

set_option Elab.async false
set_option linter.all false
set_option maxRecDepth 100000
set_option maxHeartbeats 8000000
namespace Law
open Ev PySem L2 PySem.Spec
open PyProof.Rows hiding St
def hdD0 : He.FnD := ⟨("is_count", none), "is_count", "is_count", defArgs s0, defBody s0, defScope s0⟩
def hdD1 : He.FnD := ⟨("is_number", none), "is_number", "is_number", defArgs s1, defBody s1, defScope s1⟩
def hdD2 : He.FnD := ⟨("is_word", none), "is_word", "is_word", defArgs s2, defBody s2, defScope s2⟩
def hdD3 : He.FnD := ⟨("index_of", none), "index_of", "index_of", defArgs s3, defBody s3, defScope s3⟩
def hdD4 : He.FnD := ⟨("table_of", none), "table_of", "table_of", defArgs s4, defBody s4, defScope s4⟩
def hdD5 : He.FnD := ⟨("column_of", none), "column_of", "column_of", defArgs s5, defBody s5, defScope s5⟩
def hdD6 : He.FnD := ⟨("is_key", none), "is_key", "is_key", defArgs s6, defBody s6, defScope s6⟩
def hdD7 : He.FnD := ⟨("is_value", none), "is_value", "is_value", defArgs s7, defBody s7, defScope s7⟩
def hdD8 : He.FnD := ⟨("is_change", none), "is_change", "is_change", defArgs s8, defBody s8, defScope s8⟩
def hdD9 : He.FnD := ⟨("check_changes", none), "check_changes", "check_changes", defArgs s9, defBody s9, defScope s9⟩
def hdD10 : He.FnD := ⟨("_law_draws", none), "_law_draws", "_law_draws", defArgs s10, defBody s10, defScope s10⟩
def hdD11 : He.FnD := ⟨("_law_take", none), "_law_take", "_law_take", defArgs s11, defBody s11, defScope s11⟩
def hdD12 : He.FnD := ⟨("_law_start", none), "_law_start", "_law_start", defArgs s12, defBody s12, defScope s12⟩
def hdD13 : He.FnD := ⟨("_law_schema", none), "_law_schema", "_law_schema", defArgs s13, defBody s13, defScope s13⟩
def hdD14 : He.FnD := ⟨("_law_key", none), "_law_key", "_law_key", defArgs s14, defBody s14, defScope s14⟩
def hdD15 : He.FnD := ⟨("_law_word", none), "_law_word", "_law_word", defArgs s15, defBody s15, defScope s15⟩
def hdD16 : He.FnD := ⟨("_law_change", none), "_law_change", "_law_change", defArgs s16, defBody s16, defScope s16⟩
def hdD17 : He.FnD := ⟨("_law_spoilt", none), "_law_spoilt", "_law_spoilt", defArgs s17, defBody s17, defScope s17⟩
def hdD18 : He.FnD := ⟨("_law_is_int", none), "_law_is_int", "_law_is_int", defArgs s18, defBody s18, defScope s18⟩
def hdD19 : He.FnD := ⟨("_law_is_word", none), "_law_is_word", "_law_is_word", defArgs s19, defBody s19, defScope s19⟩
def hdD20 : He.FnD := ⟨("_law_is_key", none), "_law_is_key", "_law_is_key", defArgs s20, defBody s20, defScope s20⟩
def hdD21 : He.FnD := ⟨("_law_table", none), "_law_table", "_law_table", defArgs s21, defBody s21, defScope s21⟩
def hdD22 : He.FnD := ⟨("_law_rule", none), "_law_rule", "_law_rule", defArgs s22, defBody s22, defScope s22⟩
def hdD23 : He.FnD := ⟨("_law_is_change", none), "_law_is_change", "_law_is_change", defArgs s23, defBody s23, defScope s23⟩
def hdD24 : He.FnD := ⟨("_law_told", none), "_law_told", "_law_told", defArgs s24, defBody s24, defScope s24⟩
def hdD25 : He.FnD := ⟨("_law_due", none), "_law_due", "_law_due", defArgs s25, defBody s25, defScope s25⟩
def hdD26 : He.FnD := ⟨("law", none), "law", "law", defArgs s26, defBody s26, defScope s26⟩
abbrev hdXs : Stmt := inClass (topS 2) 0
def hdX : List (He.FnD × Str) := [(⟨("IndexedError", some "__init__"), "__init__", "IndexedError.__init__", defArgs hdXs, defBody hdXs, defScope hdXs⟩, PySem.Challenge.pw_closedcuts_k01_changes_and_others.main.file)]
def hdF : List He.FnD := [hdD0, hdD1, hdD2, hdD3, hdD4, hdD5, hdD6, hdD7, hdD8, hdD9, hdD10, hdD11, hdD12, hdD13, hdD14, hdD15, hdD16, hdD17, hdD18, hdD19, hdD20, hdD21, hdD22, hdD23, hdD24, hdD25, hdD26]
abbrev hdR : PySem.W.OpenRow := PySem.W.OpenLaw.row PySem.Challenge.rw_closedcuts_k01_changes_and_others
abbrev hdV : Program := PySem.W.view hdR.prog [43]
def hdN0 : List PySem.Str := ["__name__", "CutError", "IndexedError", "BadChange", "Failed", "GREATEST", "LONGEST", "is_count", "is_number", "is_word", "index_of", "table_of", "column_of", "is_key", "WORDS", "RULES_OF", "SIZES", "is_value", "is_change", "check_changes"]
def hdN1 : List PySem.Str := ["_law_draws", "_law_take", "_law_start", "_law_schema", "_law_key", "_law_word", "_law_change", "_law_read", "_law_spoilt", "_law_is_int", "_law_is_word", "_law_is_name", "_law_are_rows", "_law_is_schema", "_law_is_key", "_law_table", "_law_rule", "_law_is_change", "_law_told", "_law_due"]
def hdN : List PySem.Str := hdN0 ++ (hdN1)
abbrev hdH : PySem.W.Hook := Ev.hookH 4 G hdF hdX
def hdO (s : PySem.W.SharedT) : Ev.AlH := Ev.obsHG 4 G hdF hdX (HandSHeadRun.getT s)
theorem hdO_eq (s : PySem.W.SharedT) : hdO s = hdH.obs s.abs := Ev.obsHG_eq (HandSHeadRun.getT_eq s)
theorem hd_run_false0 (w : World) : Ev.RunP hdR 20000 (w.withFollow "special-get-raises" false) (fun s => (Ev.lookP hdR (w.withFollow "special-get-raises" false) s, Ev.seenP hdR hdV hdN s, Ev.withK 4 (HandSHeadRun.getT s) (Ev.obs3 G))) (true, PySem.W.openGood hdV hdN, (G.dics.map fun p => some (He.keysIn (w.withFollow "special-get-raises" false).params (p.2.map (·.1))))) := by
  intro os
  kernel_rfl
theorem hd_run_false1 (w : World) : Ev.RunP hdR 20000 (w.withFollow "special-get-raises" false) (fun s => Ev.withK 4 (HandSHeadRun.getT s) (Ev.obs1 G hdF hdX)) true := by
  intro os
  kernel_rfl
theorem hd_run_false2 (w : World) : Ev.RunP hdR 20000 (w.withFollow "special-get-raises" false) (fun s => Ev.withK 4 (HandSHeadRun.getT s) (Ev.obs2 hdF hdX)) (Ev.val2 hdF hdX) := by
  intro os
  kernel_rfl
theorem hd_run_false (w : World) : HandSHeadRun.RunEq hdR hdV hdH hdO 20000 hdN (w.withFollow "special-get-raises" false) := Ev.run_parts (hd_run_false0 w) (hd_run_false1 w) (hd_run_false2 w)
theorem hd_run_true0 (w : World) : Ev.RunP hdR 20000 (w.withFollow "special-get-raises" true) (fun s => (Ev.lookP hdR (w.withFollow "special-get-raises" true) s, Ev.seenP hdR hdV hdN s, Ev.withK 4 (HandSHeadRun.getT s) (Ev.obs3 G))) (true, PySem.W.openGood hdV hdN, (G.dics.map fun p => some (He.keysIn (w.withFollow "special-get-raises" true).params (p.2.map (·.1))))) := by
  intro os
  kernel_rfl
theorem hd_run_true1 (w : World) : Ev.RunP hdR 20000 (w.withFollow "special-get-raises" true) (fun s => Ev.withK 4 (HandSHeadRun.getT s) (Ev.obs1 G hdF hdX)) true := by
  intro os
  kernel_rfl
theorem hd_run_true2 (w : World) : Ev.RunP hdR 20000 (w.withFollow "special-get-raises" true) (fun s => Ev.withK 4 (HandSHeadRun.getT s) (Ev.obs2 hdF hdX)) (Ev.val2 hdF hdX) := by
  intro os
  kernel_rfl
theorem hd_run_true (w : World) : HandSHeadRun.RunEq hdR hdV hdH hdO 20000 hdN (w.withFollow "special-get-raises" true) := Ev.run_parts (hd_run_true0 w) (hd_run_true1 w) (hd_run_true2 w)
theorem hd_run_any (w : World) : HandSHeadRun.RunEq hdR hdV hdH hdO 20000 hdN w := PySem.W.byRow2 (P := fun w => HandSHeadRun.RunEq hdR hdV hdH hdO 20000 hdN w) "special-get-raises" hd_run_false hd_run_true w
end Law

set_option Elab.async false
set_option linter.all false
set_option maxRecDepth 100000
set_option maxHeartbeats 800000
namespace Law
open Ev PySem L2
local macro_rules
  | `(tactic| simp! only [$xs,*] $[$loc:location]?) => `(tactic| simp only [ss_cons, e_attr, e_meth, e_mk, e_chain3, e_dixg, e_dget1, e_dget2, e_tix, s_fld, s_setA, s_tryB, ss_nil, s_set, s_sets, s_put, s_expr, s_ret, s_retN, s_if, s_for1, s_for2, s_for3, s_for4, s_for5, s_brk, s_cont, s_raise, s_raiseI, raI_int, fb_one, fb_many, fb_manyK, lb_one, lb_many, e_non, e_bool, e_int, e_str, e_var, e_gf, e_tyE, e_bin, e_neg, e_nt, e_and, e_or, e_cmp, e_chain, e_isN, e_notN, e_isB, e_notB, e_call, e_bi, e_listR1, e_listR2, e_idx, e_slc, e_tupE, e_lstE, e_box, e_bm, es_nil, es_cons, et_nil, et_cons, ea_one, ea_cons, eo_one, eo_cons, ei_rng1, ei_rng2, ei_seq, ei_rev, e_lc1, e_lc2, e_lc3, e_lc4, e_lc5, e_bits, e_sset, ei_rng3, recv_index, idx_str, bi_ord, bi_str, bin_mulS, bin_addS, cmp_ltS, cmp_leS, cmp_gtS, cmp_geS, eqD_str, setSlots_nil, setSlots_cons, asg_many, asg_manyK, slc_lst, slc_tup, wipeD, Out.bind_ok, Out.bind_exc, Out.noX_ok, Out.thenS_ok, Out.thenS_exc, OutS.seq_next, OutS.seq_ret, OutS.seq_exc, OutS.seq_brk, OutS.seq_cont, lift_some, List.set_cons_succ, List.set_cons_zero, List.getElem?_cons_succ, List.getElem?_cons_zero, bin_add, bin_sub, bin_mul, bin_mod, bin_fdiv, bin_pow, bin_addL, bin_addT, bin_mulL, bin_mulT, cmp_eq, cmp_ne, cmp_mem, cmp_nmem, cmp_lt, cmp_le, cmp_gt, cmp_ge, view_int, view_bl, view_lst, view_tup, view_fz, view_tk, view_str, view_dk, view_non, idx_lst, idx_tup, idx_fz, idx_tk, Ev.bi_len, bi_abs, bi_int, bi_intb, bi_tuple, bi_list, bi_all, bi_any, bi_min2, bi_max2, bi_min1, bi_max1, bi_sum, bi_sorted, bi_isinst, recv_append, recv_extend, optI_nil, optI_one, Option.map_some, Option.bind_some, Bool.not_true, Bool.not_false, isNon_non, eqD_int, eqD_bl, decide_true, decide_false, if_true, if_false, Bool.false_eq_true, reduceIte, true_or, or_true, or_self, false_or, or_false, true_and, and_true, false_and, and_false, and_self, nats_len, rng_len, isC, OutS.turn_next, OutS.turn_ret, OutS.turn_cont, OutS.turn_brk, OutS.turn_exc, kt_NoneType_int, kt_NoneType_str, kt_NoneType_list, kt_NoneType_tuple, kt_NoneType_dict, kt_NoneType_bool, kt_bool_int, kt_bool_str, kt_bool_list, kt_bool_tuple, kt_bool_dict, kt_bool_bool, kt_int_int, kt_int_str, kt_int_list, kt_int_tuple, kt_int_dict, kt_int_bool, kt_str_int, kt_str_str, kt_str_list, kt_str_tuple, kt_str_dict, kt_str_bool, kt_list_int, kt_list_str, kt_list_list, kt_list_tuple, kt_list_dict, kt_list_bool, kt_tuple_int, kt_tuple_str, kt_tuple_list, kt_tuple_tuple, kt_tuple_dict, kt_tuple_bool, kt_dict_int, kt_dict_str, kt_dict_list, kt_dict_tuple, kt_dict_dict, kt_dict_bool, ty_non, ty_bl, ty_int, ty_str, ty_tup, ty_tk, ty_lst, ty_fz, isNon_bl, isNon_int, isNon_str, isNon_tupl, isNon_lstl, at0, at1, at2, at3, Int.reduceEq, Int.reduceLT, Int.reduceLE, Int.reduceSub, Int.reduceAdd, Int.reduceMul, List.length_cons, List.length_nil, List.length_append, Nat.zero_add, $xs,*] $[$loc]?)
def okC (c : Nat) : Prop := (32 ≤ c ∧ c ≤ 36) ∨ (38 ≤ c ∧ c ≤ 126)
def okW (w : Str) : Prop := w.length ≤ 40 ∧ ∀ c ∈ w.cps.toList, okC c
def okNm (w : Str) : Prop := 1 ≤ w.length ∧ w.length ≤ 20 ∧ ∀ c ∈ w.cps.toList, 97 ≤ c ∧ c ≤ 122
structure Wd where
  wide : Bool
  names : List Str
  words : List Str
  kw : List Str
  kn : List Int
  sizes : List Int
structure WdOk (W : Wd) : Prop where
  nl : W.names.length = 9
  nd : W.names.Nodup
  nm : ∀ x ∈ W.names, okNm x
  wl : W.words.length = 5
  wo : ∀ x ∈ W.words, okW x
  w37 : ∀ x ∈ W.words, x.length ≤ 37
  kl : W.kw.length = 5
  ko : ∀ x ∈ W.kw, okW x
  zl : W.kn.length = 5
  zo : ∀ x ∈ W.kn, -1000000000000000 ≤ x ∧ x ≤ 1000000000000000
  sl : W.sizes.length = 6
  so : ∀ x ∈ W.sizes, 0 ≤ x ∧ x ≤ 100000000000000
/-! ### things -/
mutual
def thg (L : Nat) : Nat → D → Bool
  | _, .non => true
  | _, .bl _ => true
  | _, .int _ => true
  | _, .str x => decide (x.length ≤ 1000)
  | n + 1, .tup xs => decide (xs.length ≤ L) && thgs L n xs
  | _, _ => false
def thgs (L : Nat) : Nat → List D → Bool
  | _, [] => true
  | n, x :: xs => thg L n x && thgs L n xs
end
theorem thg_tup {L n : Nat} {xs : List D} : thg L n (.tup xs) = true ↔ ∃ m, n = m + 1 ∧ xs.length ≤ L ∧ thgs L m xs = true := by
  cases n with
  | zero => simp [thg]
  | succ n => simp [thg]
theorem thgs_cons {L n : Nat} {x : D} {xs : List D} : thgs L n (x :: xs) = true ↔ thg L n x = true ∧ thgs L n xs = true := by
  rw [thgs, Bool.and_eq_true]
theorem thgs_nil {L n : Nat} : thgs L n [] = true := by rw [thgs]
theorem thgs_app {L n : Nat} : ∀ {xs ys : List D}, thgs L n (xs ++ ys) = true ↔ thgs L n xs = true ∧ thgs L n ys = true
  | [], ys => by simp [thgs]
  | x :: xs, ys => by rw [List.cons_append, thgs_cons, thgs_cons, thgs_app (xs := xs), and_assoc]
theorem thgs_mem {L n : Nat} : ∀ {xs : List D}, thgs L n xs = true ↔ ∀ x ∈ xs, thg L n x = true
  | [] => by simp [thgs]
  | x :: xs => by rw [thgs_cons, thgs_mem (xs := xs)]; simp
mutual
theorem thg_ok {L : Nat} : ∀ (d : D) (n : Nat), thg L n d = true → okN n d = true
  | .non, _, _ => by simp [okN]
  | .bl _, _, _ => by simp [okN]
  | .int _, _, _ => by simp [okN]
  | .str _, _, _ => by simp [okN]
  | .tup xs, 0, h => by simp [thg] at h
  | .tup xs, n + 1, h => by
    rw [thg, Bool.and_eq_true] at h
    rw [okN]; exact thgs_ok xs n h.2
  | .lst _, n, h => by cases n <;> simp [thg] at h
  | .fz _, n, h => by cases n <;> simp [thg] at h
  | .tk _, n, h => by cases n <;> simp [thg] at h
  | .dk _, n, h => by cases n <;> simp [thg] at h
  | .dt _, n, h => by cases n <;> simp [thg] at h
  | .ins _ _, n, h => by cases n <;> simp [thg] at h
  | .ref _, n, h => by cases n <;> simp [thg] at h
  | .fn _, n, h => by cases n <;> simp [thg] at h
  | .cl _, n, h => by cases n <;> simp [thg] at h
  | .ty _, n, h => by cases n <;> simp [thg] at h
  | .err _ _, n, h => by cases n <;> simp [thg] at h
theorem thgs_ok {L : Nat} : ∀ (xs : List D) (n : Nat), thgs L n xs = true → okNs n xs = true
  | [], _, _ => by simp [okNs]
  | x :: xs, n, h => by
    rw [thgs, Bool.and_eq_true] at h
    rw [okNs, thg_ok x n h.1, thgs_ok xs n h.2]; rfl
end
mutual
theorem thg_mono {L M : Nat} (hL : L ≤ M) : ∀ (d : D) (n k : Nat), n ≤ k → thg L n d = true → thg M k d = true
  | .non, _, _, _, _ => by simp [thg]
  | .bl _, _, _, _, _ => by simp [thg]
  | .int _, _, _, _, _ => by simp [thg]
  | .str _, n, k, _, h => by cases n <;> cases k <;> simpa [thg] using h
  | .tup xs, 0, k, _, h => by simp [thg] at h
  | .tup xs, n + 1, 0, hk, h => by omega
  | .tup xs, n + 1, k + 1, hk, h => by
    rw [thg, Bool.and_eq_true, decide_eq_true_eq] at h
    rw [thg, thgs_mono hL xs n k (by omega) h.2, decide_eq_true (by omega)]; rfl
  | .lst _, n, _, _, h => by cases n <;> simp [thg] at h
  | .fz _, n, _, _, h => by cases n <;> simp [thg] at h
  | .tk _, n, _, _, h => by cases n <;> simp [thg] at h
  | .dk _, n, _, _, h => by cases n <;> simp [thg] at h
  | .dt _, n, _, _, h => by cases n <;> simp [thg] at h
  | .ins _ _, n, _, _, h => by cases n <;> simp [thg] at h
  | .ref _, n, _, _, h => by cases n <;> simp [thg] at h
  | .fn _, n, _, _, h => by cases n <;> simp [thg] at h
  | .cl _, n, _, _, h => by cases n <;> simp [thg] at h
  | .ty _, n, _, _, h => by cases n <;> simp [thg] at h
  | .err _ _, n, _, _, h => by cases n <;> simp [thg] at h
theorem thgs_mono {L M : Nat} (hL : L ≤ M) : ∀ (xs : List D) (n k : Nat), n ≤ k → thgs L n xs = true → thgs M k xs = true
  | [], _, _, _, _ => by simp [thgs]
  | x :: xs, n, k, hk, h => by
    rw [thgs, Bool.and_eq_true] at h
    rw [thgs, thg_mono hL x n k hk h.1, thgs_mono hL xs n k hk h.2]; rfl
end
theorem thg_ok60 {L n : Nat} {d : D} (h : thg L n d = true) (hn : n ≤ 58) : okN 60 d = true := okN_mono d n 60 (by omega) (thg_ok d n h)
theorem thgs_ok59 {L n : Nat} {xs : List D} (h : thgs L n xs = true) (hn : n ≤ 58) : okNs 59 xs = true := okNs_mono xs n 59 (by omega) (thgs_ok xs n h)
mutual
theorem thg_lo {L f : Nat} : ∀ (d : D) (n : Nat), thg L n d = true → d.lo f = true
  | .non, _, _ => rfl
  | .bl _, _, _ => rfl
  | .int _, _, _ => rfl
  | .str _, _, _ => rfl
  | .tup xs, 0, h => by simp [thg] at h
  | .tup xs, n + 1, h => by
    rw [thg, Bool.and_eq_true] at h
    exact thgs_lo xs n h.2
  | .lst _, n, h => by cases n <;> simp [thg] at h
  | .fz _, n, h => by cases n <;> simp [thg] at h
  | .tk _, n, h => by cases n <;> simp [thg] at h
  | .dk _, n, h => by cases n <;> simp [thg] at h
  | .dt _, n, h => by cases n <;> simp [thg] at h
  | .ins _ _, n, h => by cases n <;> simp [thg] at h
  | .ref _, n, h => by cases n <;> simp [thg] at h
  | .fn _, n, h => by cases n <;> simp [thg] at h
  | .cl _, n, h => by cases n <;> simp [thg] at h
  | .ty _, n, h => by cases n <;> simp [thg] at h
  | .err _ _, n, h => by cases n <;> simp [thg] at h
theorem thgs_lo {L f : Nat} : ∀ (xs : List D) (n : Nat), thgs L n xs = true → D.los f xs = true
  | [], _, _ => rfl
  | x :: xs, n, h => by
    rw [thgs, Bool.and_eq_true] at h
    show (D.lo f x && D.los f xs) = true
    rw [thg_lo x n h.1, thgs_lo xs n h.2]; rfl
end
theorem unbox_thg {L n fl : Nat} {st : Sto} {d : D} (h : thg L n d = true) : unbox fl st d = some d := by
  have h0 := thg_lo (f := 0) d n h
  cases d <;> first
    | (unfold unbox; dsimp only; exact if_pos h0)
    | (cases n <;> simp [thg] at h)
/-! ### numbers and words -/
def signB (c : Nat) : Bool := decide (32 ≤ c) && decide (c ≤ 126) && !decide (c = 37)
def wordS (x : Str) : Bool := decide (x.length ≤ 40) && x.cps.toList.all signB
def isWord : D → Bool
  | .str x => wordS x
  | _ => false
def isNum : D → Bool
  | .int i => decide (-1000000000000000 ≤ i) && decide (i ≤ 1000000000000000)
  | _ => false
theorem eqD_nn {st : Sto} : eqD st (.lst []) (.lst []) = some true := rfl
theorem unbox_i {fl : Nat} {st : Sto} {i : Int} : unbox fl st (.int i) = some (.int i) := rfl
theorem cGREATEST {C : Nat → List D → Sto → Out D} {fl : Nat} {ρ : Ev.Env} {st : Sto} : evE G C fl ρ (.gc c_GREATEST) st = .ok (.int 1000000000000000) st := by rw [e_gc]; rfl
theorem cLONGEST {C : Nat → List D → Sto → Out D} {fl : Nat} {ρ : Ev.Env} {st : Sto} : evE G C fl ρ (.gc c_LONGEST) st = .ok (.int 40) st := by rw [e_gc]; rfl
theorem bi_lenS {st : Sto} {x : Str} (h : x.length ≤ 1000) : biD st .len [.str x] = some (.int x.length) := by
  have hz : SZ = 16777216 := rfl
  show (if x.length ≤ SZ then some (D.int x.length) else none) = _
  rw [if_pos (by omega)]
theorem chars_eq (x : Str) : chars x = x.cps.toList.map fun c => D.str ⟨#[c]⟩ := rfl
theorem chars_len (x : Str) : (chars x).length = x.length := by
  unfold chars
  rw [List.length_map, Array.length_toList]
  rfl
theorem sign_len {c : Nat} : (⟨#[c]⟩ : Str).length = 1 := rfl
theorem sign_cp {c : Nat} : (#[c] : Array Nat).getD 0 0 = c := rfl
theorem ltS_32 {c : Nat} : ltS ⟨#[c]⟩ (S [32]) = decide (c < 32) := ltS_sign
theorem ltS_126 {c : Nat} : ltS (S [126]) ⟨#[c]⟩ = decide (126 < c) := ltS_sign
theorem word_loop {C : Nat → List D → Sto → Out D} {fl : Nat} {st : Sto} {x : D} : ∀ (cs : List Nat) (y : Option D), ∃ z, forGo (fb G C fl (.one 1) b_is_word_l1) (cs.map fun c => D.str ⟨#[c]⟩) [some x, y] st = if cs.all signB = true then .next [some x, z] st else .ret (.bl false) st
  | [], y => ⟨y, by simp [forGo]⟩
  | c :: cs, y => by
    obtain ⟨z, ih⟩ := word_loop (C := C) (fl := fl) (st := st) (x := x) cs (some (.str ⟨#[c]⟩))
    refine ⟨z, ?_⟩
    rw [List.map_cons, forGo, fb_one]
    simp only [List.set_cons_succ, List.set_cons_zero]
    have e37 : ((c : Int) = 37) = (c = 37) := propext ⟨fun h => by omega, fun h => by omega⟩
    have step : evSs G C fl b_is_word_l1 [some x, some (.str ⟨#[c]⟩)] st = if signB c = true then .next [some x, some (.str ⟨#[c]⟩)] st else .ret (.bl false) st := by
      unfold b_is_word_l1 signB
      by_cases h1 : c < 32
      · simp! only [ltS_32, eq_true h1, show decide (32 ≤ c) = false from decide_eq_false (by omega), Bool.false_and]
      · by_cases h2 : 126 < c
        · simp! only [ltS_32, ltS_126, eq_false h1, eq_true h2, show decide (32 ≤ c) = true from decide_eq_true (by omega), show decide (c ≤ 126) = false from decide_eq_false (by omega), Bool.false_and, Bool.and_false]
        · by_cases h3 : c = 37
          · simp! only [ltS_32, ltS_126, eq_false h1, eq_false h2, e37, eq_true h3, sign_len, sign_cp, show decide (32 ≤ c) = true from decide_eq_true (by omega), show decide (c ≤ 126) = true from decide_eq_true (by omega), Bool.and_false]
          · simp! only [ltS_32, ltS_126, eq_false h1, eq_false h2, e37, eq_false h3, sign_len, sign_cp, show decide (32 ≤ c) = true from decide_eq_true (by omega), show decide (c ≤ 126) = true from decide_eq_true (by omega), Bool.and_true, Bool.and_self]
    rw [step, List.all_cons]
    by_cases h : signB c = true
    · rw [if_pos h, OutS.turn_next, ih, h, Bool.true_and]
    · have h' : signB c = false := by simpa using h
      rw [if_neg h, OutS.turn_ret, h', Bool.false_and, if_neg Bool.false_ne_true]
theorem r_is_word {k fl L n : Nat} {d : D} {st : Sto} (h : thg L n d = true) : run G (k + 1) fl i_is_word [d] st = .ok (.bl (isWord d)) st := by
  refine run_v (F := f_is_word) rfl rfl rfl rfl ?_
  show evSs G _ _ b_is_word [some d, none] st = _
  unfold b_is_word
  cases d with
  | str x =>
    have hx : x.length ≤ 1000 := by cases n <;> simpa [thg] using h
    obtain ⟨z, hl⟩ := word_loop (C := run G k st.length) (fl := st.length) (st := st) (x := .str x) x.cps.toList none
    unfold isWord wordS
    by_cases h40 : x.length ≤ 40
    · have e : ((40 : Int) < (x.length : Int)) = False := by rw [eq_iff_iff]; exact ⟨fun h => by omega, fun h => h.elim⟩
      dsimp only
      rw [decide_eq_true h40, Bool.true_and]
      by_cases hs : x.cps.toList.all signB = true
      · rw [if_pos hs] at hl
        simp! only [-Ev.bi_len, bi_lenS hx, cLONGEST, e, chars_eq, hl, hs]
      · rw [if_neg hs] at hl
        rw [Bool.not_eq_true] at hs
        simp! only [-Ev.bi_len, bi_lenS hx, cLONGEST, e, chars_eq, hl, hs]
    · have e : ((40 : Int) < (x.length : Int)) = True := by rw [eq_iff_iff]; exact ⟨fun h => trivial, fun h => by omega⟩
      simp! only [-Ev.bi_len, bi_lenS hx, cLONGEST, e, show decide (x.length ≤ 40) = false from decide_eq_false h40, Bool.false_and]
  | non => simp! only [isWord]
  | bl b => simp! only [isWord]
  | int i => simp! only [isWord]
  | tup xs => simp! only [isWord]
  | _ => cases n <;> simp [thg] at h
theorem r_is_number {k fl L n : Nat} {d : D} {st : Sto} (h : thg L n d = true) : run G (k + 1) fl i_is_number [d] st = .ok (.bl (isNum d)) st := by
  refine run_v (F := f_is_number) rfl rfl rfl rfl ?_
  show evSs G _ _ b_is_number [some d] st = _
  unfold b_is_number
  cases d with
  | int i =>
    unfold isNum
    by_cases h1 : (-1000000000000000 : Int) ≤ i
    · simp! only [cGREATEST, eq_true h1, Bool.true_and]
    · simp! only [cGREATEST, eq_false h1, Bool.false_and]
  | non => simp! only [isNum]
  | bl b => simp! only [isNum]
  | str i => simp! only [isNum]
  | tup xs => simp! only [isNum]
  | _ => cases n <;> simp [thg] at h
def isIntB (lo hi : Int) : D → Bool
  | .int i => decide (lo ≤ i) && decide (i ≤ hi)
  | _ => false
theorem r_law_is_int {k fl L n : Nat} {d : D} {st : Sto} {lo hi : Int} (h : thg L n d = true) : run G (k + 1) fl i__law_is_int [d, .int lo, .int hi] st = .ok (.bl (isIntB lo hi d)) st := by
  refine run_v (F := f__law_is_int) rfl rfl rfl rfl ?_
  show evSs G _ _ b__law_is_int [some d, some (.int lo), some (.int hi)] st = _
  unfold b__law_is_int
  cases d with
  | int i =>
    unfold isIntB
    by_cases h1 : lo ≤ i
    · simp! only [eq_true h1, Bool.true_and]
    · simp! only [eq_false h1, Bool.false_and]
  | non => simp! only [isIntB]
  | bl b => simp! only [isIntB]
  | str i => simp! only [isIntB]
  | tup xs => simp! only [isIntB]
  | _ => cases n <;> simp [thg] at h
theorem r_law_is_word {k fl L n : Nat} {d : D} {st : Sto} (h : thg L n d = true) : run G (k + 1) fl i__law_is_word [d] st = .ok (.bl (isWord d)) st := by
  refine run_v (F := f__law_is_word) rfl rfl rfl rfl ?_
  show evSs G _ _ b__law_is_word [some d, none] st = _
  have hz : SZ = 16777216 := rfl
  cases d with
  | str x =>
    have hx : x.length ≤ 1000 := by cases n <;> simpa [thg] using h
    unfold isWord wordS
    by_cases h40 : x.length ≤ 40
    · have e : ((40 : Int) < (x.length : Int)) = False := by rw [eq_iff_iff]; exact ⟨fun h => by omega, fun h => h.elim⟩
      have hcl : (chars x).length ≤ SZ := by rw [chars_len]; omega
      have key : lcGo (lb G (run G k st.length) st.length [some (.str x), none] [1] (.one 1) b__law_is_word_t1 b__law_is_word_c1) (chars x) st = .ok ((x.cps.toList.filter fun c => !signB c).map fun c => D.str ⟨#[c]⟩) st := by
        rw [lcGo_pure (g := fun d => match d with | .str y => if signB (y.cps.getD 0 0) = true then none else some d | _ => none)]
        · unfold chars
          rw [List.filterMap_map]
          congr 1
          induction x.cps.toList with
          | nil => rfl
          | cons c cs ih =>
            rw [List.filterMap_cons, List.filter_cons]
            simp only [Function.comp, sign_cp]
            by_cases hs : signB c = true
            · simp only [hs, if_true, Bool.not_true, Bool.false_eq_true, if_false]; exact ih
            · rw [Bool.not_eq_true] at hs
              simp only [hs, Bool.not_false, if_true, Bool.false_eq_true, if_false, List.map_cons]; exact congrArg _ ih
        · intro d hd
          obtain ⟨c, _, rfl⟩ := List.mem_map.mp hd
          have e37 : ((c : Int) = 37) = (c = 37) := propext ⟨fun h => by omega, fun h => by omega⟩
          dsimp only
          unfold b__law_is_word_t1 b__law_is_word_c1
          by_cases h1 : c < 32
          · have hs : signB c = false := by simp [signB]; omega
            simp! only [ltS_32, eq_true h1, sign_cp, hs]
          · by_cases h2 : 126 < c
            · have hs : signB c = false := by simp [signB]; omega
              simp! only [ltS_32, ltS_126, sign_cp, eq_false h1, eq_true h2, hs]
            · by_cases h3 : c = 37
              · have hs : signB c = false := by simp [signB]; omega
                simp! only [ltS_32, ltS_126, eq_false h1, eq_false h2, e37, eq_true h3, sign_len, sign_cp, hs]
              · have hs : signB c = true := by simp [signB]; omega
                simp! only [ltS_32, ltS_126, eq_false h1, eq_false h2, e37, eq_false h3, sign_len, sign_cp, hs]
      have hok : okNs 59 ((x.cps.toList.filter fun c => !signB c).map fun c => D.str ⟨#[c]⟩) = true := by
        induction (x.cps.toList.filter fun c => !signB c) with
        | nil => simp [okNs]
        | cons c cs ih => rw [List.map_cons, okNs, ih]; simp [okN]
      have he : ((x.cps.toList.filter fun c => !signB c).map fun c => D.str ⟨#[c]⟩).isEmpty = x.cps.toList.all signB := by
        induction x.cps.toList with
        | nil => rfl
        | cons c cs ih =>
          rw [List.filter_cons, List.all_cons]
          by_cases hs : signB c = true
          · simp only [hs, Bool.not_true, Bool.false_eq_true, if_false, Bool.true_and]; exact ih
          · rw [Bool.not_eq_true] at hs
            simp only [hs, Bool.not_false, if_true, List.map_cons, List.isEmpty_cons, Bool.false_and]
      unfold b__law_is_word
      simp! only [-Ev.bi_len, bi_lenS hx, e, hcl, key, eqD_nilL hok, he, show decide (x.length ≤ 40) = true from decide_eq_true h40, Bool.true_and]
    · have e : ((40 : Int) < (x.length : Int)) = True := by rw [eq_iff_iff]; exact ⟨fun h => trivial, fun h => by omega⟩
      unfold b__law_is_word
      simp! only [-Ev.bi_len, bi_lenS hx, e, show decide (x.length ≤ 40) = false from decide_eq_false h40, Bool.false_and]
  | non => unfold b__law_is_word; simp! only [isWord]
  | bl b => unfold b__law_is_word; simp! only [isWord]
  | int i => unfold b__law_is_word; simp! only [isWord]
  | tup xs => unfold b__law_is_word; simp! only [isWord]
  | _ => cases n <;> simp [thg] at h
/-! ### tables -/
structure Tb where
  name : Str
  kind : Str
  cols : List (Str × Str)
def colD (c : Str × Str) : D := .tup [.str c.1, .str c.2]
def colsD (cs : List (Str × Str)) : D := .tup (cs.map colD)
def tbD (t : Tb) : D := .tup [.str t.name, .str t.kind, colsD t.cols]
def schD (T : List Tb) : D := .tup (T.map tbD)
/-- the first place where p holds -/
theorem idx_loop {C : Nat → List D → Sto → Out D} {fl : Nat} {st : Sto} {xs : List D} {d : D} {nm : D → Str} (hxs : ∀ x ∈ xs, ∃ r, x = .tup (.str (nm x) :: r)) (hd : okN 60 d = true) : ∀ (m i : Nat) (y : Option D), m + i = xs.length →
    ∃ z, forGo (fb G C fl (.one 2) b_index_of_l1) ((List.range' i m).map fun j : Nat => D.int (j : Int)) [some (.tup xs), some d, y] st =
      match (xs.drop i).findIdx? (fun x => strEq (nm x) d) with
      | some j => .ret (.int ((i + j : Nat) : Int)) st
      | none => .next [some (.tup xs), some d, z] st
  | 0, i, y, h => ⟨y, by rw [List.drop_of_length_le (by omega)]; simp [forGo]⟩
  | m + 1, i, y, h => by
    obtain ⟨z, ih⟩ := idx_loop (C := C) (fl := fl) (st := st) hxs hd m (i + 1) (some (.int (i : Int))) (by omega)
    refine ⟨z, ?_⟩
    have hi : i < xs.length := by omega
    have hat : atI xs (i : Int) = some xs[i] := by rw [atI_of (by omega), Int.toNat_natCast]; exact List.getElem?_eq_getElem hi
    obtain ⟨r, hr⟩ := hxs xs[i] (List.getElem_mem hi)
    generalize hn : nm xs[i] = n at hr
    rw [List.range'_succ, List.map_cons, forGo, fb_one, List.drop_eq_getElem_cons hi, List.findIdx?_cons]
    simp only [List.set_cons_succ, List.set_cons_zero]
    have step : evSs G C fl b_index_of_l1 [some (.tup xs), some d, some (.int (i : Int))] st = if strEq n d = true then .ret (.int (i : Int)) st else .next [some (.tup xs), some d, some (.int (i : Int))] st := by
      unfold b_index_of_l1
      rw [hr] at hat
      by_cases h1 : strEq n d = true
      · simp! only [hat, eqD_strT hd, h1]
      · rw [Bool.not_eq_true] at h1
        simp! only [hat, eqD_strT hd, h1]
    rw [step, hn]
    by_cases h1 : strEq n d = true
    · rw [if_pos h1, OutS.turn_ret, if_pos h1]
      simp
    · rw [if_neg h1, OutS.turn_next, ih, if_neg h1]
      cases (List.drop (i + 1) xs).findIdx? (fun x => strEq (nm x) d) with
      | none => rfl
      | some j => simp; omega
def optZ : Option Nat → Int
  | some i => (i : Int)
  | none => -1
theorem rng_range' (n : Nat) : rng 0 (n : Int) = (List.range' 0 n).map fun j : Nat => D.int (j : Int) := by
  rw [rng_nats, List.range_eq_range']
  rfl
theorem r_index_of {k fl : Nat} {st : Sto} {xs : List D} {d : D} (nm : D → Str) (hxs : ∀ x ∈ xs, ∃ r, x = .tup (.str (nm x) :: r)) (hd : okN 60 d = true) (hl : xs.length ≤ 1000) :
    run G (k + 1) fl i_index_of [.tup xs, d] st = .ok (.int (optZ (xs.findIdx? fun x => strEq (nm x) d))) st := by
  refine run_v (F := f_index_of) rfl rfl rfl (unbox_i (fl := st.length)) ?_
  show evSs G _ _ b_index_of [some (.tup xs), some d, none] st = _
  obtain ⟨z, h⟩ := idx_loop (C := run G k st.length) (fl := st.length) (st := st) hxs hd xs.length 0 none (by omega)
  rw [List.drop_zero] at h
  have s1 : small62 (xs.length : Int) = true := small62_n (by omega)
  unfold b_index_of
  cases hf : xs.findIdx? (fun x => strEq (nm x) d) with
  | none =>
    rw [hf] at h
    simp! only [s1, rng_range', h, optZ]
  | some j =>
    rw [hf] at h
    dsimp only at h
    rw [Nat.zero_add] at h
    simp! only [s1, rng_range', h, optZ]
theorem thg_colD {c : Str × Str} (h1 : c.1.length ≤ 1000) (h2 : c.2.length ≤ 1000) : thg 100 1 (colD c) = true := by
  simp [colD, thg, thgs, h1, h2]
/-- what is asked of tables -/
structure TbOk (t : Tb) : Prop where
  name : t.name.length ≤ 1000
  kind : t.kind.length ≤ 1000
  cols : ∀ c ∈ t.cols, c.1.length ≤ 1000 ∧ c.2.length ≤ 1000
  few : t.cols.length ≤ 100
  rules : ∀ c ∈ t.cols, c.2 ∈ [(S [119, 111, 114, 100]), (S [110, 117, 109, 98, 101, 114]), (S [115, 117, 109]), (S [109, 111, 115, 116]), (S [108, 111, 116]), (S [115, 104, 97, 114, 101])]
theorem TbOk.thgC {t : Tb} (h : TbOk t) : thgs 100 1 (t.cols.map colD) = true := thgs_mem.mpr fun x hx => by
  obtain ⟨c, hc, rfl⟩ := List.mem_map.mp hx
  exact thg_colD (h.cols c hc).1 (h.cols c hc).2
theorem TbOk.thg {t : Tb} (h : TbOk t) : thg 100 3 (tbD t) = true := by
  have h1 := h.thgC
  have h2 : Law.thg 100 2 (colsD t.cols) = true := by
    unfold colsD
    rw [Law.thg, h1, List.length_map, decide_eq_true h.few]; rfl
  unfold tbD
  rw [Law.thg, thgs, thgs, thgs, thgs, h2]
  simp [Law.thg, h.name, h.kind]
theorem find_mapIdx {α : Type} {xs : List α} {f : α → D} {p : D → Bool} {q : α → Bool} (h : ∀ x ∈ xs, p (f x) = q x) : (xs.map f).findIdx? p = xs.findIdx? q := by
  induction xs with
  | nil => rfl
  | cons x xs ih =>
    rw [List.map_cons, List.findIdx?_cons, List.findIdx?_cons, h x List.mem_cons_self, ih fun y hy => h y (List.mem_cons_of_mem _ hy)]
def tnm : D → Str
  | .tup (.str x :: _) => x
  | _ => S []
theorem r_table_of {k fl : Nat} {st : Sto} {T : List Tb} {d : D} (hd : okN 60 d = true) (hl : T.length ≤ 1000) : run G (k + 2) fl i_table_of [schD T, d] st = .ok (.int (optZ (T.findIdx? fun t => strEq t.name d))) st := by
  refine run_v (F := f_table_of) rfl rfl rfl (unbox_i (fl := st.length)) ?_
  show evSs G _ _ b_table_of [some (schD T), some d] st = _
  have h := r_index_of (k := k) (fl := st.length) (st := st) (xs := T.map tbD) (d := d) tnm (fun x hx => by
    obtain ⟨t, _, rfl⟩ := List.mem_map.mp hx
    exact ⟨_, rfl⟩) hd (by rw [List.length_map]; exact hl)
  rw [find_mapIdx (q := fun t => strEq t.name d) fun t _ => rfl] at h
  unfold b_table_of schD
  simp! only [h]
theorem r_column_of {k fl : Nat} {st : Sto} {t : Tb} {d : D} (ht : TbOk t) (hd : okN 60 d = true) : run G (k + 2) fl i_column_of [tbD t, d] st = .ok (.int (optZ (t.cols.findIdx? fun c => strEq c.1 d))) st := by
  refine run_v (F := f_column_of) rfl rfl rfl (unbox_i (fl := st.length)) ?_
  show evSs G _ _ b_column_of [some (tbD t), some d] st = _
  have h := r_index_of (k := k) (fl := st.length) (st := st) (xs := t.cols.map colD) (d := d) tnm (fun x hx => by
    obtain ⟨t, _, rfl⟩ := List.mem_map.mp hx
    exact ⟨_, rfl⟩) hd (by rw [List.length_map]; have := ht.few; omega)
  rw [find_mapIdx (q := fun c => strEq c.1 d) fun t _ => rfl] at h
  unfold b_column_of tbD colsD
  simp! only [h]
/-- the rule of a column -/
def ruleF (t : Tb) (d : D) : Option Str := (t.cols.find? fun c => strEq c.1 d).map (·.2)
theorem find_idx {α : Type} {xs : List α} {p : α → Bool} : (∃ i, xs.findIdx? p = some i ∧ i < xs.length ∧ xs.find? p = xs[i]?) ∨ (xs.findIdx? p = none ∧ xs.find? p = none) := by
  induction xs with
  | nil => exact .inr ⟨rfl, rfl⟩
  | cons x xs ih =>
    rw [List.findIdx?_cons, List.find?_cons]
    cases hp : p x with
    | true => exact .inl ⟨0, rfl, by simp, rfl⟩
    | false =>
      rcases ih with ⟨i, h1, h2, h3⟩ | ⟨h1, h2⟩
      · exact .inl ⟨i + 1, by simp [h1], by simp; omega, by simpa using h3⟩
      · exact .inr ⟨by simp [h1], by simpa using h2⟩
theorem strEq_no {x : Str} {d : D} (h : ∀ y, d ≠ .str y) : strEq x d = false := by
  cases d <;> first | rfl | exact absurd rfl (h _)
theorem find_filter {α : Type} {xs : List α} {p : α → Bool} : (xs.filter p).head? = xs.find? p := by
  induction xs with
  | nil => rfl
  | cons x xs ih =>
    rw [List.filter_cons, List.find?_cons]
    cases hp : p x <;> simp [ih]
theorem r_law_table {k fl L n : Nat} {st : Sto} {T : List Tb} {d : D} (hT : ∀ t ∈ T, TbOk t) (hl : T.length ≤ 1000) (hd : thg L n d = true) (hn : n ≤ 50) : run G (k + 1) fl i__law_table [schD T, d] st = .ok (match T.find? (fun t => strEq t.name d) with | some t => tbD t | none => .non) st := by
  have hz : SZ = 16777216 := rfl
  have hd60 := thg_ok60 hd (by omega)
  have key : lcGo (lb G (run G k st.length) st.length [some (.tup (T.map tbD)), some d, none, none] [3] (.one 3) b__law_table_t1 b__law_table_c1) (T.map tbD) st = .ok ((T.filter fun t => strEq t.name d).map tbD) st := by
    rw [lcGo_pure (g := fun x => if strEq (tnm x) d = true then some x else none)]
    · congr 1
      induction T with
      | nil => rfl
      | cons t T ih =>
        have ih := ih (fun t ht => hT t (List.mem_cons_of_mem _ ht)) (by rw [List.length_cons] at hl; omega)
        rw [List.map_cons, List.filterMap_cons, List.filter_cons]
        have e : tnm (tbD t) = t.name := rfl
        rw [e]
        by_cases h : strEq t.name d = true
        · simp only [h, if_true, List.map_cons, ih]
        · rw [Bool.not_eq_true] at h
          simp only [h, Bool.false_eq_true, if_false, ih]
    · intro x hx
      obtain ⟨t, _, rfl⟩ := List.mem_map.mp hx
      have e : tnm (tbD t) = t.name := rfl
      rw [e]
      unfold b__law_table_t1 b__law_table_c1 tbD
      by_cases h : strEq t.name d = true
      · simp! only [eqD_strT hd60, h]
      · rw [Bool.not_eq_true] at h
        simp! only [eqD_strT hd60, h]
  have hok : okNs 59 ((T.filter fun t => strEq t.name d).map tbD) = true := by
    refine thgs_ok59 (L := 100) (n := 3) (thgs_mem.mpr fun x hx => ?_) (by omega)
    obtain ⟨t, ht, rfl⟩ := List.mem_map.mp hx
    exact (hT t (List.mem_filter.mp ht).1).thg
  have hh := find_filter (xs := T) (p := fun t => strEq t.name d)
  have hlen : T.length ≤ SZ := by omega
  have no : (∀ y, d ≠ .str y) → T.find? (fun t => strEq t.name d) = none := fun h => List.find?_eq_none.mpr fun c _ => by rw [strEq_no h]; exact Bool.false_ne_true
  refine run_v (F := f__law_table) rfl rfl rfl ?_ ?_
  · cases hf : T.find? (fun t => strEq t.name d) with
    | none => rfl
    | some t => exact unbox_thg (hT t (List.mem_of_find?_eq_some hf)).thg
  show evSs G _ _ b__law_table [some (.tup (T.map tbD)), some d, none, none] st = _
  unfold b__law_table
  cases hf : T.filter (fun t => strEq t.name d) with
  | nil =>
    rw [hf] at key hh hok
    rw [← hh]
    simp! only [List.length_map, hlen, key, List.map_nil, eqD_nn, List.head?_nil]
  | cons t ts =>
    rw [hf] at key hh hok
    rw [← hh]
    have hstr : ∃ y, d = .str y := by
      have : strEq t.name d = true := (List.mem_filter.mp (by rw [hf]; exact List.mem_cons_self : t ∈ T.filter fun t => strEq t.name d)).2
      cases d <;> first | exact ⟨_, rfl⟩ | cases this
    obtain ⟨y, rfl⟩ := hstr
    simp! only [List.length_map, hlen, key, List.map_cons, eqD_nilL (List.map_cons ▸ hok), List.isEmpty_cons, List.head?_cons]
theorem r_law_rule {k fl L n : Nat} {st : Sto} {t : Tb} {d : D} (ht : TbOk t) (hd : thg L n d = true) (hn : n ≤ 50) : run G (k + 1) fl i__law_rule [tbD t, d] st = .ok (match ruleF t d with | some r => .str r | none => .non) st := by
  have hz : SZ = 16777216 := rfl
  have hd60 := thg_ok60 hd (by omega)
  have key : lcGo (lb G (run G k st.length) st.length [some (tbD t), some d, none, none] [3] (.one 3) b__law_rule_t1 b__law_rule_c1) (t.cols.map colD) st = .ok ((t.cols.filter fun c => strEq c.1 d).map fun c => D.str c.2) st := by
    rw [lcGo_pure (g := fun x => match x with | .tup [.str a, .str b] => if strEq a d = true then some (.str b) else none | _ => none)]
    · congr 1
      induction t.cols with
      | nil => rfl
      | cons c cs ih =>
        rw [List.map_cons, List.filterMap_cons, List.filter_cons]
        dsimp only [colD]
        by_cases h : strEq c.1 d = true
        · simp only [h, if_true, List.map_cons, ih]
        · rw [Bool.not_eq_true] at h
          simp only [h, Bool.false_eq_true, if_false, ih]
    · intro x hx
      obtain ⟨c, _, rfl⟩ := List.mem_map.mp hx
      unfold b__law_rule_t1 b__law_rule_c1 colD
      by_cases h : strEq c.1 d = true
      · simp! only [eqD_strT hd60, h]
      · rw [Bool.not_eq_true] at h
        simp! only [eqD_strT hd60, h]
  have hok : okNs 59 ((t.cols.filter fun c => strEq c.1 d).map fun c => D.str c.2) = true := by
    induction (t.cols.filter fun c => strEq c.1 d) with
    | nil => simp [okNs]
    | cons c cs ih => rw [List.map_cons, okNs, ih]; simp [okN]
  have hh := find_filter (xs := t.cols) (p := fun c => strEq c.1 d)
  have hlen : t.cols.length ≤ SZ := by have := ht.few; omega
  refine run_v (F := f__law_rule) rfl rfl rfl ?_ ?_
  · cases ruleF t d with
    | none => rfl
    | some t => rfl
  show evSs G _ _ b__law_rule [some (tbD t), some d, none, none] st = _
  unfold ruleF b__law_rule
  have key' : lcGo (lb G (run G k st.length) st.length [some (.tup [.str t.name, .str t.kind, .tup (t.cols.map colD)]), some d, none, none] [3] (.one 3) b__law_rule_t1 b__law_rule_c1) (t.cols.map colD) st = .ok ((t.cols.filter fun c => strEq c.1 d).map fun c => D.str c.2) st := key
  unfold tbD colsD
  cases hf : t.cols.filter (fun c => strEq c.1 d) with
  | nil =>
    rw [hf] at key' hh hok
    rw [← hh]
    simp! only [List.length_map, hlen, key', List.map_nil, eqD_nn, List.head?_nil, Option.map_none]
  | cons c cs =>
    rw [hf] at key' hh hok
    rw [← hh]
    have hstr : ∃ y, d = .str y := by
      have : strEq c.1 d = true := (List.mem_filter.mp (by rw [hf]; exact List.mem_cons_self : c ∈ t.cols.filter fun c => strEq c.1 d)).2
      cases d <;> first | exact ⟨_, rfl⟩ | cases this
    obtain ⟨y, rfl⟩ := hstr
    simp! only [List.length_map, hlen, key', List.map_cons, eqD_nilL (List.map_cons ▸ hok), List.isEmpty_cons, List.head?_cons]
/-- keys -/
def isKeyF (kind : Str) (d : D) : Bool := if kind = (S [119, 111, 114, 100]) then isWord d else isNum d
theorem r_is_key {k fl L n : Nat} {st : Sto} {t : Tb} {d : D} (h : thg L n d = true) : run G (k + 2) fl i_is_key [tbD t, d] st = .ok (.bl (isKeyF t.kind d)) st := by
  refine run_v (F := f_is_key) rfl rfl rfl rfl ?_
  show evSs G _ _ b_is_key [some (tbD t), some d] st = _
  have h1 := r_is_word (k := k) (fl := st.length) (st := st) h
  have h2 := r_is_number (k := k) (fl := st.length) (st := st) h
  unfold b_is_key isKeyF tbD
  by_cases hk : t.kind = (S [119, 111, 114, 100])
  · simp! only [eq_true hk, h1]
  · simp! only [eq_false hk, h2]
theorem r_law_is_key {k fl L n : Nat} {st : Sto} {kind : Str} {d : D} (h : thg L n d = true) : run G (k + 2) fl i__law_is_key [.str kind, d] st = .ok (.bl (isKeyF kind d)) st := by
  refine run_v (F := f__law_is_key) rfl rfl rfl rfl ?_
  show evSs G _ _ b__law_is_key [some (.str kind), some d] st = _
  have h1 := r_law_is_word (k := k) (fl := st.length) (st := st) h
  have h2 := r_law_is_int (k := k) (fl := st.length) (st := st) (lo := -1000000000000000) (hi := 1000000000000000) h
  have p15 : (0 : Int) ≤ 15 ∧ (15 : Int) ≤ 1000000 ∧ (10 : Int).natAbs < 2 ^ 64 := by decide
  have v15 : (10 : Int) ^ (15 : Int).toNat = 1000000000000000 := by decide
  unfold b__law_is_key isKeyF
  by_cases hk : kind = (S [119, 111, 114, 100])
  · simp! only [eq_true hk, h1]
  · simp! only [eq_false hk, p15, v15, h2]
    rfl

/-! ### drawn schemas -/
def rows6 : List (Str × Str) := [((S [119]), (S [119, 111, 114, 100])), ((S [110]), (S [110, 117, 109, 98, 101, 114])), ((S [115]), (S [115, 117, 109])), ((S [109]), (S [109, 111, 115, 116])), ((S [108]), (S [108, 111, 116])), ((S [104]), (S [115, 104, 97, 114, 101]))]
/-- a drawn table -/
structure TbD (t : Tb) : Prop where
  kind : t.kind = (S [110, 117, 109, 98, 101, 114]) ∨ t.kind = (S [119, 111, 114, 100])
  cols : ∃ i m : Nat, i < 6 ∧ 1 ≤ m ∧ m ≤ 4 ∧ t.cols = (rows6.drop i ++ rows6.take i).take m
  name : t.name = (S [97]) ∨ t.name = (S [116, 97, 98]) ∨ t.name = (S [122])
theorem rot_mem {i m : Nat} {c : Str × Str} (h : c ∈ (rows6.drop i ++ rows6.take i).take m) : c ∈ rows6 := by
  rcases List.mem_append.mp (List.mem_of_mem_take h) with h | h
  · exact List.mem_of_mem_drop h
  · exact List.mem_of_mem_take h
theorem TbD.ok {t : Tb} (h : TbD t) : TbOk t := by
  obtain ⟨hk, ⟨i, m, hi, h1, h4, hc⟩, hn⟩ := h
  have hmem : ∀ c ∈ t.cols, c ∈ rows6 := fun c h => rot_mem (hc ▸ h)
  refine ⟨?_, ?_, fun c h => ?_, ?_, fun c h => ?_⟩
  · rcases hn with e | e | e <;> rw [e] <;> decide
  · rcases hk with e | e <;> rw [e] <;> decide
  · have : ∀ c ∈ rows6, c.1.length ≤ 1000 ∧ c.2.length ≤ 1000 := by decide
    exact this c (hmem c h)
  · rw [hc, List.length_take]; omega
  · have : ∀ c ∈ rows6, c.2 ∈ [(S [119, 111, 114, 100]), (S [110, 117, 109, 98, 101, 114]), (S [115, 117, 109]), (S [109, 111, 115, 116]), (S [108, 111, 116]), (S [115, 104, 97, 114, 101])] := by decide
    exact this c (hmem c h)
theorem r_take1 {k fl : Nat} {rw : List Nat} {a : Nat} {e : Sto} (hr : rw.length = 400) : run G (k + 1) fl i__law_take [.ref 0] (dcell rw a :: e) = .ok (.int (tk rw a)) (dcell rw (a + 1) :: e) := by
  rw [run_take (F := f__law_take) (n := 0) rfl rfl rfl rfl rfl (by intro z; rw [z] at hr; cases hr) (by omega) rfl]
  rfl
theorem cut_hiD {xs : List D} {n : Nat} : cutD xs none (some (n : Int)) = xs.take n := by
  unfold cutD
  rw [HT.sIx_none, HT.sIx_nat]
  simp
theorem cut_loD {xs : List D} {n : Nat} : cutD xs (some (n : Int)) none = xs.drop n := by
  unfold cutD
  rw [HT.sIx_nat]
  unfold HT.sIx
  dsimp only
  by_cases h : n ≤ xs.length
  · rw [Nat.min_eq_left h, List.take_of_length_le (by simp)]
  · rw [Nat.min_eq_right (by omega), Nat.sub_self, List.take_zero, List.drop_of_length_le (by omega)]
theorem tbs_lo {T : List Tb} (h : ∀ t ∈ T, TbOk t) {f : Nat} : D.los f (T.map tbD) = true := by
  refine thgs_lo (L := 100) _ 3 (thgs_mem.mpr fun x hx => ?_)
  obtain ⟨t, ht, rfl⟩ := List.mem_map.mp hx
  exact (h t ht).thg
theorem r_schema {k fl : Nat} {rw : List Nat} {a : Nat} (hr : rw.length = 400) : ∃ (T : List Tb) (a' : Nat), run G (k + 2) fl i__law_schema [.ref 0] [dcell rw a] = .ok (schD T) [dcell rw a'] ∧ T ≠ [] ∧ T.length ≤ 3 ∧ (∀ t ∈ T, TbD t) ∧ (T.map (·.name)).Nodup ∧ a' ≤ a + 10 := by
  have hz : SZ = 16777216 := rfl
  obtain ⟨m, hm⟩ : ∃ m : Nat, 1 + tk rw a % 3 = m := ⟨_, rfl⟩
  have hm' : (1 : Int) + (tk rw a : Int) % 3 = (m : Int) := by omega
  have hm3 : 1 ≤ m ∧ m ≤ 3 := by omega
  obtain ⟨nms, hnms⟩ : ∃ nms, [(S [97]), (S [116, 97, 98]), (S [122])].take m = nms := ⟨_, rfl⟩
  have hnl : nms.length = m := by rw [← hnms, List.length_take]; simp; omega
  have step : ∀ (x : Str) (T : List Tb) (a : Nat) (y2 y3 y4 y5 : Option D), T.length ≤ 10 → (x = (S [97]) ∨ x = (S [116, 97, 98]) ∨ x = (S [122])) → ∃ t z3 z4 z5, TbD t ∧ t.name = x ∧
      evSs G (run G (k + 1) 1) 1 b__law_schema_l1 [some (.ref 0), some (.ref 1), some (.str x), y3, y4, y5] [dcell rw a, .lst (T.map tbD)] = .next [some (.ref 0), some (.ref 1), some (.str x), z3, z4, z5] [dcell rw (a + 3), .lst ((T ++ [t]).map tbD)] := fun x T a y2 y3 y4 y5 hT hx => by
    obtain ⟨i, hi⟩ : ∃ i : Nat, tk rw a % 6 = i := ⟨_, rfl⟩
    have hi' : (tk rw a : Int) % 6 = (i : Int) := by omega
    obtain ⟨n, hn⟩ : ∃ n : Nat, 1 + tk rw (a + 1) % 4 = n := ⟨_, rfl⟩
    have hn' : (1 : Int) + (tk rw (a + 1) : Int) % 4 = (n : Int) := by omega
    obtain ⟨kd, hkd, hkm⟩ := pick (xs := [D.str (S [110, 117, 109, 98, 101, 114]), .str (S [119, 111, 114, 100])]) (t := tk rw (a + 2)) (n := 2) rfl (by decide)
    rw [show ((2 : Nat) : Int) = 2 from rfl] at hkd
    have hk : ∃ s : Str, kd = .str s ∧ (s = (S [110, 117, 109, 98, 101, 114]) ∨ s = (S [119, 111, 114, 100])) := by
      simp only [List.mem_cons, List.not_mem_nil, or_false] at hkm
      rcases hkm with rfl | rfl
      · exact ⟨_, rfl, .inl rfl⟩
      · exact ⟨_, rfl, .inr rfl⟩
    obtain ⟨s, rfl, hs⟩ := hk
    have hrows : [D.tup [.str (S [119]), .str (S [119, 111, 114, 100])], .tup [.str (S [110]), .str (S [110, 117, 109, 98, 101, 114])], .tup [.str (S [115]), .str (S [115, 117, 109])], .tup [.str (S [109]), .str (S [109, 111, 115, 116])], .tup [.str (S [108]), .str (S [108, 111, 116])], .tup [.str (S [104]), .str (S [115, 104, 97, 114, 101])]] = rows6.map colD := rfl
    have h6 : (rows6.drop i).length + (rows6.take i).length ≤ SZ := by simp [rows6]; omega
    have hap : ∀ t : Tb, TbD t → bmD 1 .append (.ref 1) [tbD t] [dcell rw (a + 3), .lst (T.map tbD)] = .ok .non [dcell rw (a + 3), .lst ((T ++ [t]).map tbD)] := fun t ht => by
      rw [bm_append (xs := T.map tbD) rfl (by rw [List.length_map]; omega) (by unfold wrOk; simp), List.map_append]
      rfl
    have ht : TbD ⟨x, s, (rows6.drop i ++ rows6.take i).take n⟩ := ⟨hs, ⟨i, n, by omega, by omega, by omega, rfl⟩, hx⟩
    have hap2 : bmD 1 .append (.ref 1) [.tup [.str x, .str s, .tup (((rows6.drop i ++ rows6.take i).take n).map colD)]] [dcell rw (a + 3), .lst (T.map tbD)] = .ok .non [dcell rw (a + 3), .lst ((T ++ [(⟨x, s, (rows6.drop i ++ rows6.take i).take n⟩ : Tb)]).map tbD)] := hap _ ht
    refine ⟨⟨x, s, (rows6.drop i ++ rows6.take i).take n⟩, some (.lst (rows6.map colD)), some (.int (i : Int)), some (.lst (((rows6.drop i ++ rows6.take i).take n).map colD)), ht, rfl, ?_⟩
    unfold b__law_schema_l1
    simp! only [r_take1 hr, show (0 : Int) < 6 by decide, show (0 : Int) < 4 by decide, show (0 : Int) < 2 by decide, hi', hn', hrows, cut_loD, cut_hiD, ← List.map_drop, ← List.map_take, List.length_map, h6, ← List.map_append, hkd, view_ref, Option.getD_some, hap2]
  have loop : ∀ (ns : List Str) (T : List Tb) (a : Nat) (y2 y3 y4 y5 : Option D), (∀ x ∈ ns, x = (S [97]) ∨ x = (S [116, 97, 98]) ∨ x = (S [122])) → T.length + ns.length ≤ 10 → ∃ T' z2 z3 z4 z5, T'.map (·.name) = ns ∧ (∀ t ∈ T', TbD t) ∧
      forGo (fb G (run G (k + 1) 1) 1 (.one 2) b__law_schema_l1) (ns.map D.str) [some (.ref 0), some (.ref 1), y2, y3, y4, y5] [dcell rw a, .lst (T.map tbD)] = .next [some (.ref 0), some (.ref 1), z2, z3, z4, z5] [dcell rw (a + 3 * ns.length), .lst ((T ++ T').map tbD)] := by
    intro ns
    induction ns with
    | nil => intro T a y2 y3 y4 y5 _ _; exact ⟨[], y2, y3, y4, y5, rfl, (by intro t h; cases h), by rw [List.append_nil]; rfl⟩
    | cons x ns ih =>
      intro T a y2 y3 y4 y5 hx hl
      rw [List.length_cons] at hl
      obtain ⟨t, z3, z4, z5, ht, hn, e⟩ := step x T a (some (.str x)) y3 y4 y5 (by omega) (hx x List.mem_cons_self)
      obtain ⟨T', w2, w3, w4, w5, h1, h2, e2⟩ := ih (T ++ [t]) (a + 3) (some (.str x)) z3 z4 z5 (fun y hy => hx y (List.mem_cons_of_mem _ hy)) (by simp; omega)
      refine ⟨t :: T', w2, w3, w4, w5, by rw [List.map_cons, h1, hn], fun u hu => ?_, ?_⟩
      · rcases List.mem_cons.mp hu with rfl | hu
        · exact ht
        · exact h2 u hu
      · rw [List.map_cons, forGo, fb_one]
        simp only [List.set_cons_succ, List.set_cons_zero]
        rw [e, OutS.turn_next, e2, List.append_assoc, List.length_cons, Nat.mul_add, Nat.mul_one, Nat.add_assoc, Nat.add_comm 3]
        rfl
  obtain ⟨T, z2, z3, z4, z5, h1, h2, e⟩ := loop nms [] (a + 1) none none none none (fun x hx => by
    rw [← hnms] at hx
    have := List.mem_of_mem_take hx
    simpa using this) (by simp; omega)
  have hTl : T.length = m := by rw [← List.length_map (f := (·.name)), h1, hnl]
  refine ⟨T, a + 1 + 3 * nms.length, ?_, fun z => by rw [z] at hTl; simp at hTl; omega, by omega, h2, ?_, by omega⟩
  · have hlit : [D.str (S [97]), .str (S [116, 97, 98]), .str (S [122])] = [(S [97]), (S [116, 97, 98]), (S [122])].map D.str := rfl
    rw [List.nil_append] at e
    refine run_popS (F := f__law_schema) (ds := [.ref 0]) (st' := [dcell rw (a + 1 + 3 * nms.length), .lst (T.map tbD)]) (d := schD T) rfl rfl rfl ?_ ?_
    · show evSs G (run G (k + 1) 1) 1 b__law_schema [some (.ref 0), none, none, none, none, none] [dcell rw a] = _
      unfold b__law_schema
      rw [List.map_nil] at e
      simp! only [r_take1 hr, show (0 : Int) < 3 by decide, hm', hlit, cut_hiD, ← List.map_take, hnms, List.nil_append, List.cons_append, e, view_ref, Option.getD_some, List.getElem?_cons_succ]
      rfl
    · unfold unbox schD
      dsimp only
      exact if_pos (tbs_lo fun t ht => (h2 t ht).ok)
  · rw [h1, ← hnms]
    exact (List.take_sublist _ _).nodup (by decide)
/-! ### numbers and words alike; judgements -/
inductive OV where
  | i (n : Int)
  | s (x : Str)
deriving DecidableEq
def OV.d : OV → D
  | .i n => .int n
  | .s x => .str x
def OV.k : OV → Bool
  | .i _ => true
  | .s _ => false
def ltO : OV → OV → Bool
  | .i a, .i b => decide (a < b)
  | .s a, .s b => ltS a b
  | _, _ => false
theorem ltO_irr (a : OV) : ltO a a = false := by
  cases a with
  | i n => simp [ltO]
  | s x => exact ltS_irr x
theorem leO_trans {a b c : OV} (h1 : a.k = b.k) (h2 : b.k = c.k) (x : ltO b a = false) (y : ltO c b = false) : ltO c a = false := by
  cases a <;> cases b <;> simp [OV.k] at h1 <;> cases c <;> simp [OV.k] at h2
  · simp [ltO] at *; omega
  · exact ltS_trans' x y
theorem ltO_le {a b : OV} (h : a.k = b.k) (x : ltO a b = true) : ltO b a = false := by
  cases a <;> cases b <;> simp [OV.k] at h
  · simp [ltO] at *; omega
  · exact ltS_asymm x
theorem leO_anti {a b : OV} (h : a.k = b.k) (x : ltO b a = false) (y : ltO a b = false) : a = b := by
  cases a <;> cases b <;> simp [OV.k] at h
  · simp [ltO] at *; omega
  · rw [ltS_anti x y]
section
variable {st : Sto} {a b : OV}
theorem eq_O : eqD st a.d b.d = some (decide (a = b)) := by
  cases a <;> cases b
  · simp [OV.d]
  · unfold eqD; simp [OV.d, okN, eqv]
  · unfold eqD; simp [OV.d, okN, eqv]
  · simp [OV.d]
theorem lt_O (h : a.k = b.k) : cmpD st .lt a.d b.d = some (ltO a b) := by
  cases a <;> cases b <;> simp [OV.k] at h
  · rfl
  · rfl
theorem gt_O (h : a.k = b.k) : cmpD st .gt a.d b.d = some (ltO b a) := by
  cases a <;> cases b <;> simp [OV.k] at h
  · simp only [OV.d, cmp_gt, ltO]
  · rfl
theorem le_O (h : a.k = b.k) : cmpD st .le a.d b.d = some (!ltO b a) := by
  cases a <;> cases b <;> simp [OV.k] at h
  · rename_i m n
    simp only [OV.d, cmp_le, ltO]
    by_cases h : n < m
    · simp [h]
    · simp [h]; omega
  · rfl
theorem ge_O (h : a.k = b.k) : cmpD st .ge a.d b.d = some (!ltO a b) := by
  cases a <;> cases b <;> simp [OV.k] at h
  · rename_i m n
    simp only [OV.d, cmp_ge, ltO]
    by_cases h : m < n
    · simp [h]
    · simp [h]; omega
  · rfl
end
theorem dO {a : OV} : okN 60 a.d = true := by cases a <;> simp [OV.d, okN]
def words5 : List Str := [(S []), (S [120]), (S [121, 121]), (S [97, 32, 119, 111, 114, 100]), (S [122, 57])]
def keys5 : List Str := [(S []), (S [97]), (S [98]), (S [107, 101, 121]), (S [126, 32, 122])]
def W5 : Wd := ⟨false, [(S [97]), (S [116, 97, 98]), (S [122]), (S [119]), (S [110]), (S [115]), (S [109]), (S [108]), (S [104])], words5, keys5, [0, 1, 2, 3, -7], [0, 1, 2, 5, 9, 40]⟩
theorem okW_of {l : List Str} (h : (l.all fun s => decide (s.length ≤ 37) && s.cps.toList.all fun c => (decide (32 ≤ c) && decide (c ≤ 36)) || (decide (38 ≤ c) && decide (c ≤ 126))) = true) : ∀ s ∈ l, okW s ∧ s.length ≤ 37 := by
  intro s hs
  rw [List.all_eq_true] at h
  have := h s hs
  rw [Bool.and_eq_true, decide_eq_true_eq, List.all_eq_true] at this
  refine ⟨⟨by omega, fun c hc => ?_⟩, this.1⟩
  have := this.2 c hc
  rw [Bool.or_eq_true, Bool.and_eq_true, Bool.and_eq_true, decide_eq_true_eq, decide_eq_true_eq, decide_eq_true_eq, decide_eq_true_eq] at this
  unfold okC
  omega
theorem W5ok : WdOk W5 := by
  have h1 := okW_of (l := words5) (by decide +kernel)
  have h2 := okW_of (l := keys5) (by decide +kernel)
  refine ⟨rfl, by decide +kernel, fun x hx => ?_, rfl, fun x hx => (h1 x hx).1, fun x hx => (h1 x hx).2, rfl, fun x hx => (h2 x hx).1, rfl, by decide, rfl, by decide⟩
  have : ∀ x ∈ W5.names, (decide (1 ≤ x.length) && decide (x.length ≤ 20) && x.cps.toList.all fun c => decide (97 ≤ c) && decide (c ≤ 122)) = true := by decide +kernel
  have := this x hx
  rw [Bool.and_eq_true, Bool.and_eq_true, decide_eq_true_eq, decide_eq_true_eq, List.all_eq_true] at this
  refine ⟨this.1.1, this.1.2, fun c hc => ?_⟩
  have := this.2 c hc
  rw [Bool.and_eq_true, decide_eq_true_eq, decide_eq_true_eq] at this
  exact this
theorem pickS {ss : List Str} {t n : Nat} (hn : ss.length = n) (h0 : 0 < n) : ∃ s, atI (ss.map D.str) ((t : Int) % (n : Int)) = some (.str s) ∧ s ∈ ss := by
  obtain ⟨v, h1, h2⟩ := pick (xs := ss.map D.str) (t := t) (n := n) (by rw [List.length_map]; exact hn) h0
  obtain ⟨s, hs, rfl⟩ := List.mem_map.mp h2
  exact ⟨s, h1, hs⟩
theorem words5D : [D.str (S []), .str (S [120]), .str (S [121, 121]), .str (S [97, 32, 119, 111, 114, 100]), .str (S [122, 57])] = words5.map D.str := rfl
theorem r_law_wordE {k fl : Nat} {rw : List Nat} {a : Nat} {e : Sto} (hr : rw.length = 400) : ∃ s, run G (k + 2) fl i__law_word [.ref 0] (dcell rw a :: e) = .ok (.str s) (dcell rw (a + 1) :: e) ∧ s ∈ words5 := by
  obtain ⟨s, h1, h2⟩ := pickS (ss := words5) (t := tk rw a) (n := 5) rfl (by decide)
  rw [show ((5 : Nat) : Int) = 5 from rfl] at h1
  refine ⟨s, ?_, h2⟩
  have q := run_popS (G := G) (k := k + 1) (fl := fl) (F := f__law_word) (f := i__law_word) (ds := [.ref 0]) (st := dcell rw a :: e) (st' := dcell rw (a + 1) :: e) (d := .str s) (d' := .str s) rfl rfl rfl (by
    show evSs G (run G (k + 1) (dcell rw a :: e).length) (dcell rw a :: e).length b__law_word [some (.ref 0)] (dcell rw a :: e) = _
    unfold b__law_word
    simp! only [-List.length_cons, r_take1 (k := k) hr, show (0 : Int) < 5 by decide, words5D, h1]) rfl
  rw [q]
  simp
structure TbG (t : Tb) : Prop where
  ok : TbOk t
  ne : 0 < t.cols.length
  nodup : (t.cols.map (·.1)).Nodup
  kind : t.kind = (S [110, 117, 109, 98, 101, 114]) ∨ t.kind = (S [119, 111, 114, 100])
  nm : okNm t.name
  cn : ∀ c ∈ t.cols, okNm c.1
  rn : (t.cols.map (·.2)).Nodup
theorem TbD.g {t : Tb} (h : TbD t) : TbG t := by
  have hok := h.ok
  obtain ⟨hk, ⟨i, m, hi, h1, h4, hc⟩, hn⟩ := h
  have hmem : ∀ c ∈ t.cols, c ∈ rows6 := fun c h => rot_mem (hc ▸ h)
  have nm : ∀ x ∈ W5.names, okNm x := W5ok.nm
  refine ⟨hok, ?_, ?_, hk, ?_, fun c h => ?_, ?_⟩
  · rw [hc, List.length_take, List.length_append, List.length_drop, List.length_take]
    have : rows6.length = 6 := rfl
    omega
  · rw [hc, List.map_take]
    have : ∀ i, i < 6 → ((rows6.drop i ++ rows6.take i).map (·.1)).Nodup := by decide
    exact (List.take_sublist _ _).nodup (this i hi)
  · rcases hn with e | e | e <;> rw [e] <;> exact nm _ (by decide +kernel)
  · have : ∀ c ∈ rows6, c.1 ∈ W5.names := by decide +kernel
    exact nm _ (this c (hmem c h))
  · rw [hc, List.map_take]
    have : ∀ i, i < 6 → ((rows6.drop i ++ rows6.take i).map (·.2)).Nodup := by decide
    exact (List.take_sublist _ _).nodup (this i hi)
def okV (kind : Str) : OV → Prop
  | .s w => kind = (S [119, 111, 114, 100]) ∧ okW w
  | .i x => ¬ kind = (S [119, 111, 114, 100]) ∧ -1000000000000000 ≤ x ∧ x ≤ 1000000000000000
def tbAt (T : List Tb) (i : Nat) : Tb := T.getD i ⟨S [], S [], []⟩
def coAt (t : Tb) (j : Nat) : Str × Str := t.cols.getD j (S [], S [])
def kindR (r : Str) : Str := if r = (S [119, 111, 114, 100]) ∨ r = (S [108, 111, 116]) then (S [119, 111, 114, 100]) else (S [110, 117, 109, 98, 101, 114])
def wds : List Str := [(S [112, 117, 116]), (S [97, 100, 100]), (S [114, 97, 105, 115, 101]), (S [106, 111, 105, 110]), (S [112, 97, 114, 116]), (S [102, 105, 108, 108]), (S [116, 97, 107, 101]), (S [103, 105, 118, 101]), (S [100, 114, 111, 112])]
inductive Ch where
  | drop (i : Nat) (o : OV)
  | set (w i : Nat) (o : OV) (j : Nat) (v : OV)
  | give (i : Nat) (o : OV) (j : Nat) (v : OV) (s : Nat)
def Ch.d (T : List Tb) : Ch → D
  | .drop i o => .tup [.str (S [100, 114, 111, 112]), .str (tbAt T i).name, o.d]
  | .set w i o j v => .tup [.str (wds.getD w (S [])), .str (tbAt T i).name, o.d, .str (coAt (tbAt T i) j).1, v.d]
  | .give i o j v s => .tup [.str (S [103, 105, 118, 101]), .str (tbAt T i).name, o.d, .str (coAt (tbAt T i) j).1, v.d, .int (s : Int)]
def okSet (r : Str) (w : Nat) (v : OV) : Prop :=
  okV (kindR r) v ∧ ((r = (S [119, 111, 114, 100]) ∧ w = 0) ∨ (r = (S [110, 117, 109, 98, 101, 114]) ∧ w = 0) ∨ (r = (S [115, 117, 109]) ∧ w = 1) ∨ (r = (S [109, 111, 115, 116]) ∧ w = 2 ∧ ∃ x, v = .i x ∧ 0 ≤ x) ∨ (r = (S [108, 111, 116]) ∧ (w = 3 ∨ w = 4)) ∨ (r = (S [115, 104, 97, 114, 101]) ∧ (w = 5 ∨ w = 6) ∧ ∃ x, v = .i x ∧ 0 ≤ x))
def ChOk (T : List Tb) (n : Nat) : Ch → Prop
  | .drop i o => i < T.length ∧ okV (tbAt T i).kind o
  | .set w i o j v => i < T.length ∧ okV (tbAt T i).kind o ∧ j < (tbAt T i).cols.length ∧ okSet (coAt (tbAt T i) j).2 w v
  | .give i o j v s => i < T.length ∧ okV (tbAt T i).kind o ∧ j < (tbAt T i).cols.length ∧ (coAt (tbAt T i) j).2 = (S [115, 104, 97, 114, 101]) ∧ okV (S [110, 117, 109, 98, 101, 114]) v ∧ (∃ x, v = .i x ∧ 0 ≤ x) ∧ s < n
structure SchOk (T : List Tb) : Prop where
  len : T.length ≤ 100
  nd : (T.map (·.name)).Nodup
  ok : ∀ t ∈ T, TbOk t
  cn : ∀ t ∈ T, (t.cols.map (·.1)).Nodup
theorem tbAt_mem {T : List Tb} {i : Nat} (h : i < T.length) : tbAt T i ∈ T := by
  unfold tbAt
  rw [List.getD_eq_getElem?_getD, List.getElem?_eq_getElem h]
  exact List.getElem_mem h
theorem tbAt_get {T : List Tb} {i : Nat} (h : i < T.length) : T[i]? = some (tbAt T i) := by
  unfold tbAt
  rw [List.getD_eq_getElem?_getD, List.getElem?_eq_getElem h]; rfl
theorem coAt_get {t : Tb} {j : Nat} (h : j < t.cols.length) : t.cols[j]? = some (coAt t j) := by
  unfold coAt
  rw [List.getD_eq_getElem?_getD, List.getElem?_eq_getElem h]; rfl
theorem wds_no : ∀ w, w < 7 → ¬ wds.getD w (S []) = (S [100, 114, 111, 112]) ∧ ¬ wds.getD w (S []) = (S [103, 105, 118, 101]) := by decide +kernel
theorem okSet_lt {r : Str} {w : Nat} {v : OV} (h : okSet r w v) : w < 7 := by
  obtain ⟨_, h⟩ := h
  rcases h with h | h | h | h | h | h <;> omega
section
variable {k fl : Nat} {T : List Tb} {st : Sto}
theorem sch_at {i : Nat} (hi : i < T.length) : idxD st (schD T) (.int (i : Int)) = some (tbD (tbAt T i)) := by
  unfold schD
  rw [idx_tup, atI_of (by omega), Int.toNat_natCast, List.getElem?_map, tbAt_get hi]; rfl
theorem col_at {t : Tb} {j : Nat} (hj : j < t.cols.length) : idxD st (colsD t.cols) (.int (j : Int)) = some (colD (coAt t j)) := by
  unfold colsD
  rw [idx_tup, atI_of (by omega), Int.toNat_natCast, List.getElem?_map, coAt_get hj]; rfl
theorem len_sch {S0 : Sto} : biD S0 .len [schD T] = some (.int (T.length : Int)) := by
  unfold schD
  rw [Ev.bi_len, view_tup]
  simp
theorem len_cols {S0 : Sto} {t : Tb} : biD S0 .len [colsD t.cols] = some (.int (t.cols.length : Int)) := by
  unfold colsD
  rw [Ev.bi_len, view_tup]
  simp
theorem ov_lo {f : Nat} (o : OV) : D.lo f o.d = true := by cases o <;> rfl
theorem Ch.lo {f : Nat} (c : Ch) : D.lo f (c.d T) = true := by
  cases c with
  | drop i o => show D.los f [.str (tbAt T i).name, o.d] = true
                simp only [D.los, ov_lo]; rfl
  | set w i o j v => show D.los f [.str (tbAt T i).name, o.d, .str (coAt (tbAt T i) j).1, v.d] = true
                     simp only [D.los, ov_lo]; rfl
  | give i o j v s => show D.los f [.str (tbAt T i).name, o.d, .str (coAt (tbAt T i) j).1, v.d, .int (s : Int)] = true
                      simp only [D.los, ov_lo]; rfl
theorem tupN_at {xs : List D} {i : Nat} {x : D} (h : xs[i]? = some x) : idxD st (.tup xs) (.int (i : Int)) = some x := by
  rw [idx_tup, atI_of (by omega), Int.toNat_natCast, h]
theorem lenT {α : Type} {f : α → D} {l : List α} : biD st .len [.tup (l.map f)] = some (.int (l.length : Int)) := by
  rw [Ev.bi_len, view_tup]
  simp
theorem lenNt {l : List Nat} : biD st .len [.tup (nats l)] = some (.int (l.length : Int)) := lenT
end
/-! ### drawn keys, reads and changes -/
theorem pickM {α : Type} {f : α → D} {xs : List α} {t n : Nat} (hn : xs.length = n) (h0 : 0 < n) : ∃ x, atI (xs.map f) ((t : Int) % (n : Int)) = some (f x) ∧ x ∈ xs := by
  obtain ⟨v, h1, h2⟩ := pick (xs := xs.map f) (t := t) (n := n) (by rw [List.length_map]; exact hn) h0
  obtain ⟨s, hs, rfl⟩ := List.mem_map.mp h2
  exact ⟨s, h1, hs⟩
def nums5 : List Int := [0, 1, 2, 3, -7]
structure SchG (T : List Tb) : Prop where
  ok : SchOk T
  ne : 0 < T.length
  d : ∀ t ∈ T, TbG t
section
variable {k fl : Nat} {rw : List Nat} {e : Sto}
theorem mod_nat {a b : Nat} : (a : Int) % (b : Int) = ((a % b : Nat) : Int) := by simp
theorem r_law_key {a : Nat} {kind : Str} (hr : rw.length = 400) : ∃ o, run G (k + 2) fl i__law_key [.ref 0, .str kind] (dcell rw a :: e) = .ok o.d (dcell rw (a + 1) :: e) ∧ okV kind o := by
  have fin : ∀ (o : OV), evSs G (run G (k + 1) (e.length + 1)) (e.length + 1) b__law_key [some (.ref 0), some (.str kind)] (dcell rw a :: e) = .ret o.d (dcell rw (a + 1) :: e) → okV kind o →
      ∃ o, run G (k + 2) fl i__law_key [.ref 0, .str kind] (dcell rw a :: e) = .ok o.d (dcell rw (a + 1) :: e) ∧ okV kind o := fun o h1 h2 => ⟨o, by
    have q := run_popS (G := G) (k := k + 1) (fl := fl) (F := f__law_key) (f := i__law_key) (ds := [.ref 0, .str kind]) (st := dcell rw a :: e) (st' := dcell rw (a + 1) :: e) (d := o.d) (d' := o.d) rfl rfl rfl h1 (by cases o <;> rfl)
    rw [q]
    simp, h2⟩
  by_cases hk : kind = (S [119, 111, 114, 100])
  · obtain ⟨s, h1, h2⟩ := pickS (ss := keys5) (t := tk rw a) (n := 5) rfl (by decide)
    rw [show ((5 : Nat) : Int) = 5 from rfl, show keys5.map D.str = [D.str (S []), .str (S [97]), .str (S [98]), .str (S [107, 101, 121]), .str (S [126, 32, 122])] from rfl] at h1
    refine fin (.s s) ?_ ⟨hk, W5ok.ko s h2⟩
    unfold b__law_key
    simp! only [eq_true hk, r_take1 (k := k) hr, show (0 : Int) < 5 by decide, h1, OV.d]
  · obtain ⟨x, h1, h2⟩ := pickM (f := D.int) (xs := nums5) (t := tk rw a) (n := 5) rfl (by decide)
    rw [show ((5 : Nat) : Int) = 5 from rfl, show nums5.map D.int = [D.int 0, .int 1, .int 2, .int 3, .int (-7)] from rfl] at h1
    refine fin (.i x) ?_ ⟨hk, ?_⟩
    · unfold b__law_key
      simp! only [eq_false hk, r_take1 (k := k) hr, show (0 : Int) < 5 by decide, h1, OV.d]
    · simp only [nums5, List.mem_cons, List.not_mem_nil, or_false] at h2
      omega
theorem sch_atU {T : List Tb} {st : Sto} {i : Nat} (hi : i < T.length) : idxD st (schD T) (.int (i : Int)) = some (.tup [.str (tbAt T i).name, .str (tbAt T i).kind, colsD (tbAt T i).cols]) := sch_at hi
theorem col_atU {t : Tb} {st : Sto} {j : Nat} (hj : j < t.cols.length) : idxD st (colsD t.cols) (.int (j : Int)) = some (.tup [.str (coAt t j).1, .str (coAt t j).2]) := col_at hj
def nums6 : List Int := [0, 1, 2, 5, 9, 40]
theorem r_law_change {T : List Tb} {a n : Nat} (hT : SchG T) (hn : 0 < n) (hn2 : n ≤ 100) (hr : rw.length = 400) : ∃ c a', run G (k + 3) fl i__law_change [.ref 0, schD T, .int (n : Int)] (dcell rw a :: e) = .ok (c.d T) (dcell rw a' :: e) ∧ ChOk T n c ∧ a' ≤ a + 10 := by
  have fin : ∀ (c : Ch) (a' : Nat), (∃ d, d = c.d T ∧ evSs G (run G (k + 2) (e.length + 1)) (e.length + 1) b__law_change [some (.ref 0), some (schD T), some (.int (n : Int)), none, none, none, none, none, none, none, none] (dcell rw a :: e) = .ret d (dcell rw a' :: e)) → ChOk T n c → a' ≤ a + 10 →
      ∃ c a', run G (k + 3) fl i__law_change [.ref 0, schD T, .int (n : Int)] (dcell rw a :: e) = .ok (c.d T) (dcell rw a' :: e) ∧ ChOk T n c ∧ a' ≤ a + 10 := fun c a' ⟨d, hd, h1⟩ h2 h3 => ⟨c, a', by
    subst hd
    have q := run_popS (G := G) (k := k + 2) (fl := fl) (F := f__law_change) (f := i__law_change) (ds := [.ref 0, schD T, .int (n : Int)]) (st := dcell rw a :: e) (st' := dcell rw a' :: e) (d := c.d T) (d' := c.d T) rfl rfl rfl h1 (by
      have := Ch.lo (T := T) (f := 0) c
      cases c <;> exact if_pos this)
    rw [q]
    simp, h2, h3⟩
  obtain ⟨i, hi⟩ : ∃ i : Nat, tk rw a % T.length = i := ⟨_, rfl⟩
  have hil : i < T.length := by rw [← hi]; exact Nat.mod_lt _ hT.ne
  have h0 : (0 : Int) < (T.length : Int) := by have := hT.ne; omega
  have ht := hT.d _ (tbAt_mem hil)
  obtain ⟨o, q1, ho⟩ := r_law_key (k := k) (fl := e.length + 1) (e := e) (a := a + 1) (kind := (tbAt T i).kind) hr
  obtain ⟨u, hu⟩ : ∃ u : Nat, tk rw (a + 1 + 1) % 9 = u := ⟨_, rfl⟩
  have hu' : (tk rw (a + 1 + 1) : Int) % 9 = (u : Int) := by omega
  have h9 : (0 : Int) < 9 := by decide
  by_cases u0 : u = 0
  · have u0' : (u : Int) = 0 := by omega
    refine fin (.drop i o) (a + 1 + 1 + 1) ⟨_, rfl, ?_⟩ ⟨hil, ho⟩ (by omega)
    unfold b__law_change
    simp! only [-Ev.bi_len, r_take1 (k := k + 1) hr, len_sch, h0, mod_nat, hi, sch_atU hil, q1, h9, hu', u0', Ch.d]
  have u0' : ¬ (u : Int) = 0 := by omega
  obtain ⟨j, hj⟩ : ∃ j : Nat, tk rw (a + 1 + 1 + 1) % (tbAt T i).cols.length = j := ⟨_, rfl⟩
  have hjl : j < (tbAt T i).cols.length := by rw [← hj]; exact Nat.mod_lt _ ht.ne
  have j0 : (0 : Int) < ((tbAt T i).cols.length : Int) := by have := ht.ne; omega
  obtain ⟨x, g1, m1⟩ := pickM (f := D.int) (xs := nums6) (t := tk rw (a + 1 + 1 + 1 + 1)) (n := 6) rfl (by decide)
  rw [show ((6 : Nat) : Int) = 6 from rfl, show nums6.map D.int = [D.int 0, .int 1, .int 2, .int 5, .int 9, .int 40] from rfl] at g1
  have hx : 0 ≤ x ∧ x ≤ 40 := by
    simp only [nums6, List.mem_cons, List.not_mem_nil, or_false] at m1
    omega
  have h6 : (0 : Int) < 6 := by decide
  obtain ⟨R, hR⟩ : ∃ R, (coAt (tbAt T i) j).2 = R := ⟨_, rfl⟩
  have hrule : R ∈ [(S [119, 111, 114, 100]), (S [110, 117, 109, 98, 101, 114]), (S [115, 117, 109]), (S [109, 111, 115, 116]), (S [108, 111, 116]), (S [115, 104, 97, 114, 101])] := by rw [← hR]; exact ht.ok.rules _ (List.mem_of_getElem? (coAt_get hjl))
  have colU : ∀ st, idxD st (colsD (tbAt T i).cols) (.int (j : Int)) = some (.tup [.str (coAt (tbAt T i) j).1, .str R]) := fun st => by rw [← hR]; exact col_at hjl
  obtain ⟨s, q2, hs⟩ := r_law_wordE (k := k) (fl := e.length + 1) (a := a + 1 + 1 + 1 + 1 + 1) (e := e) hr
  have hsw := W5ok.wo s hs
  by_cases r1 : R = (S [119, 111, 114, 100])
  · refine fin (.set 0 i o j (.s s)) (a + 1 + 1 + 1 + 1 + 1 + 1) ⟨_, rfl, ?_⟩ ⟨hil, ho, hjl, ?_⟩ (by omega)
    · unfold b__law_change
      simp! only [-Ev.bi_len, r_take1 (k := k + 1) hr, len_sch, h0, mod_nat, hi, sch_atU hil, q1, h9, hu', eq_false u0', len_cols, j0, hj, colU, h6, g1, eq_true r1, q2, Ch.d]
      rfl
    · rw [hR, r1]; exact ⟨⟨rfl, hsw⟩, .inl ⟨rfl, rfl⟩⟩
  by_cases r2 : R = (S [110, 117, 109, 98, 101, 114])
  · refine fin (.set 0 i o j (.i (x - 5))) (a + 1 + 1 + 1 + 1 + 1) ⟨_, rfl, ?_⟩ ⟨hil, ho, hjl, ?_⟩ (by omega)
    · unfold b__law_change
      simp! only [-Ev.bi_len, r_take1 (k := k + 1) hr, len_sch, h0, mod_nat, hi, sch_atU hil, q1, h9, hu', eq_false u0', len_cols, j0, hj, colU, h6, g1, eq_false r1, eq_true r2, Ch.d]
      rfl
    · rw [hR, r2]; exact ⟨⟨by decide, by omega, by omega⟩, .inr (.inl ⟨rfl, rfl⟩)⟩
  by_cases r3 : R = (S [115, 117, 109])
  · refine fin (.set 1 i o j (.i (x - 3))) (a + 1 + 1 + 1 + 1 + 1) ⟨_, rfl, ?_⟩ ⟨hil, ho, hjl, ?_⟩ (by omega)
    · unfold b__law_change
      simp! only [-Ev.bi_len, r_take1 (k := k + 1) hr, len_sch, h0, mod_nat, hi, sch_atU hil, q1, h9, hu', eq_false u0', len_cols, j0, hj, colU, h6, g1, eq_false r1, eq_false r2, eq_true r3, Ch.d]
      rfl
    · rw [hR, r3]; exact ⟨⟨by decide, by omega, by omega⟩, .inr (.inr (.inl ⟨rfl, rfl⟩))⟩
  by_cases r4 : R = (S [109, 111, 115, 116])
  · refine fin (.set 2 i o j (.i x)) (a + 1 + 1 + 1 + 1 + 1) ⟨_, rfl, ?_⟩ ⟨hil, ho, hjl, ?_⟩ (by omega)
    · unfold b__law_change
      simp! only [-Ev.bi_len, r_take1 (k := k + 1) hr, len_sch, h0, mod_nat, hi, sch_atU hil, q1, h9, hu', eq_false u0', len_cols, j0, hj, colU, h6, g1, eq_false r1, eq_false r2, eq_false r3, eq_true r4, Ch.d]
      rfl
    · rw [hR, r4]; exact ⟨⟨by decide, by omega, by omega⟩, .inr (.inr (.inr (.inl ⟨rfl, rfl, x, rfl, hx.1⟩)))⟩
  by_cases r5 : R = (S [108, 111, 116])
  · obtain ⟨w, g2, m2⟩ := pickM (f := fun w => D.str (wds.getD w (S []))) (xs := [3, 4, 3]) (t := tk rw (a + 1 + 1 + 1 + 1 + 1)) (n := 3) rfl (by decide)
    rw [show ((3 : Nat) : Int) = 3 from rfl, show [3, 4, 3].map (fun w => D.str (wds.getD w (S []))) = [D.str (S [106, 111, 105, 110]), .str (S [112, 97, 114, 116]), .str (S [106, 111, 105, 110])] from rfl] at g2
    obtain ⟨s, q2, hs⟩ := r_law_wordE (k := k) (fl := e.length + 1) (a := a + 1 + 1 + 1 + 1 + 1 + 1) (e := e) hr
    have hsw := W5ok.wo s hs
    refine fin (.set w i o j (.s s)) (a + 1 + 1 + 1 + 1 + 1 + 1 + 1) ⟨_, rfl, ?_⟩ ⟨hil, ho, hjl, ?_⟩ (by omega)
    · unfold b__law_change
      simp! only [-Ev.bi_len, r_take1 (k := k + 1) hr, len_sch, h0, mod_nat, hi, sch_atU hil, q1, h9, hu', eq_false u0', len_cols, j0, hj, colU, h6, g1, eq_false r1, eq_false r2, eq_false r3, eq_false r4, eq_true r5, show (0 : Int) < 3 by decide, g2, q2, Ch.d]
      rfl
    · rw [hR, r5]
      refine ⟨⟨rfl, hsw⟩, .inr (.inr (.inr (.inr (.inl ⟨rfl, ?_⟩))))⟩
      simp only [List.mem_cons, List.not_mem_nil, or_false] at m2
      omega
  have r6 : R = (S [115, 104, 97, 114, 101]) := by
    simp only [List.mem_cons, List.not_mem_nil, or_false] at hrule
    rcases hrule with h | h | h | h | h | h
    · exact absurd h r1
    · exact absurd h r2
    · exact absurd h r3
    · exact absurd h r4
    · exact absurd h r5
    · exact h
  obtain ⟨w, g2, m2⟩ := pickM (f := fun w => D.str (wds.getD w (S []))) (xs := [5, 6, 7, 5]) (t := tk rw (a + 1 + 1 + 1 + 1 + 1)) (n := 4) rfl (by decide)
  rw [show ((4 : Nat) : Int) = 4 from rfl, show [5, 6, 7, 5].map (fun w => D.str (wds.getD w (S []))) = [D.str (S [102, 105, 108, 108]), .str (S [116, 97, 107, 101]), .str (S [103, 105, 118, 101]), .str (S [102, 105, 108, 108])] from rfl] at g2
  by_cases w7 : w = 7
  · subst w7
    rw [show wds.getD 7 (S []) = (S [103, 105, 118, 101]) from rfl] at g2
    obtain ⟨v, hv⟩ : ∃ v : Nat, tk rw (a + 1 + 1 + 1 + 1 + 1 + 1) % n = v := ⟨_, rfl⟩
    have hvl : v < n := by rw [← hv]; exact Nat.mod_lt _ hn
    have n0 : (0 : Int) < (n : Int) := by omega
    refine fin (.give i o j (.i (x % 3)) v) (a + 1 + 1 + 1 + 1 + 1 + 1 + 1) ⟨_, rfl, ?_⟩ ⟨hil, ho, hjl, ?_, ⟨by decide, by omega, by omega⟩, ⟨_, rfl, by omega⟩, hvl⟩ (by omega)
    · unfold b__law_change
      simp! only [-Ev.bi_len, r_take1 (k := k + 1) hr, len_sch, h0, mod_nat, hi, sch_atU hil, q1, h9, hu', eq_false u0', len_cols, j0, hj, colU, h6, g1, eq_false r1, eq_false r2, eq_false r3, eq_false r4, eq_false r5, show (0 : Int) < 4 by decide, show (0 : Int) < 3 by decide, g2, n0, hv, Ch.d]
      rfl
    · rw [hR, r6]
  · have hw56 : w = 5 ∨ w = 6 := by
      simp only [List.mem_cons, List.not_mem_nil, or_false] at m2
      omega
    have hng := (wds_no w (by omega)).2
    refine fin (.set w i o j (.i x)) (a + 1 + 1 + 1 + 1 + 1 + 1) ⟨_, rfl, ?_⟩ ⟨hil, ho, hjl, ?_⟩ (by omega)
    · unfold b__law_change
      simp! only [-Ev.bi_len, r_take1 (k := k + 1) hr, len_sch, h0, mod_nat, hi, sch_atU hil, q1, h9, hu', eq_false u0', len_cols, j0, hj, colU, h6, g1, eq_false r1, eq_false r2, eq_false r3, eq_false r4, eq_false r5, show (0 : Int) < 4 by decide, g2, eq_false hng, Ch.d]
      rfl
    · rw [hR, r6]; exact ⟨⟨by decide, by omega, by omega⟩, .inr (.inr (.inr (.inr (.inr ⟨rfl, hw56, x, rfl, hx.1⟩))))⟩
end

theorem lenN {st : Sto} {xs : List D} {N : Int} (h : (xs.length : Int) = N) : biD st .len [.tup xs] = some (.int N) := by rw [← h]; rfl
theorem pickD {xs : List D} {t n : Nat} (hn : xs.length = n) (h0 : 0 < n) {p : D → Prop} (hp : ∀ x ∈ xs, p x) : ∃ v, atI xs ((t : Int) % (n : Int)) = some v ∧ p v := by
  obtain ⟨v, h1, h2⟩ := pick (t := t) hn h0
  exact ⟨v, h1, hp v h2⟩
theorem find_at {α : Type} {f : α → Str} : ∀ {xs : List α} {i : Nat} {c : α}, (xs.map f).Nodup → xs[i]? = some c → xs.findIdx? (fun x => strEq (f x) (.str (f c))) = some i
  | [], i, c, _, h => by simp at h
  | x :: xs, 0, c, hn, h => by
    simp at h
    subst h
    rw [List.findIdx?_cons]
    simp [strEq]
  | x :: xs, i + 1, c, hn, h => by
    rw [List.map_cons, List.nodup_cons] at hn
    have h : xs[i]? = some c := by simpa using h
    have hne : f x ≠ f c := fun z => hn.1 (by rw [z]; exact List.mem_map_of_mem (List.mem_of_getElem? h))
    have e : strEq (f x) (.str (f c)) = false := decide_eq_false hne
    rw [List.findIdx?_cons, e, find_at hn.2 h]
    simp
section
variable {k fl : Nat} {T : List Tb} {st : Sto}
theorem ok60s {x : Str} : okN 60 (.str x) = true := rfl
theorem r_tab {i : Nat} (hT : SchOk T) (hi : i < T.length) : run G (k + 2) fl i_table_of [schD T, .str (tbAt T i).name] st = .ok (.int (i : Int)) st := by
  have := r_table_of (k := k) (fl := fl) (st := st) (T := T) (d := .str (tbAt T i).name) ok60s (by have := hT.len; omega)
  rw [find_at (f := Tb.name) hT.nd (tbAt_get hi)] at this
  exact this
theorem r_col {i j : Nat} (hT : SchOk T) (hi : i < T.length) (hj : j < (tbAt T i).cols.length) : run G (k + 2) fl i_column_of [tbD (tbAt T i), .str (coAt (tbAt T i) j).1] st = .ok (.int (j : Int)) st := by
  have hm := tbAt_mem hi
  have := r_column_of (k := k) (fl := fl) (st := st) (t := tbAt T i) (d := .str (coAt (tbAt T i) j).1) (hT.ok _ hm) ok60s
  rw [find_at (f := Prod.fst) (hT.cn _ hm) (coAt_get hj)] at this
  exact this
theorem tb_2 {t : Tb} : idxD st (tbD t) (.int 2) = some (colsD t.cols) := rfl
theorem co_1 {c : Str × Str} : idxD st (colD c) (.int 1) = some (.str c.2) := rfl
theorem at4w {a b c d e : D} {r : List D} : atI (a :: b :: c :: d :: e :: r) 4 = some e := by rw [atI_of (by decide)]; rfl
theorem at5w {a b c d e f : D} {r : List D} : atI (a :: b :: c :: d :: e :: f :: r) 5 = some f := by rw [atI_of (by decide)]; rfl
end
theorem c_words {C : Nat → List D → Sto → Out D} {ρ : Ev.Env} {S0 : Sto} : evE G C fl ρ (.gc c_WORDS) S0 = .ok (.tk (wds.map D.str)) S0 := by rw [e_gc]; rfl
theorem any_str {ss : List Str} {s : Str} : ((ss.map D.str).any fun x => eqv x (.str s)) = decide (s ∈ ss) := by
  induction ss with
  | nil => rfl
  | cons x xs ih =>
    rw [List.map_cons, List.any_cons, ih]
    simp only [eqv, List.mem_cons, Bool.decide_or, eq_comm]
theorem all_flat {ss : List Str} : (ss.map D.str).all flat = true := by
  induction ss with
  | nil => rfl
  | cons x xs ih => rw [List.map_cons, List.all_cons, ih]; rfl
theorem memD_tkS {st : Sto} {ss : List Str} {s : Str} : memD st (.str s) (.tk (ss.map D.str)) = some (decide (s ∈ ss)) := by
  show (if (flat (.str s) && (ss.map D.str).all flat) = true then some ((ss.map D.str).any fun x => eqv x (.str s)) else none) = _
  rw [all_flat, any_str]; rfl
theorem memD_tupS {st : Sto} {ss : List Str} {s : Str} : memD st (.str s) (.tup (ss.map D.str)) = some (decide (s ∈ ss)) := by
  show (if (flat (.str s) && (ss.map D.str).all flat) = true then some ((ss.map D.str).any fun x => eqv x (.str s)) else none) = _
  rw [all_flat, any_str]; rfl
theorem ln3 {st : Sto} {a b c : D} : biD st .len [.tup [a, b, c]] = some (.int 3) := rfl
theorem ln4 {st : Sto} {a b c d : D} : biD st .len [.tup [a, b, c, d]] = some (.int 4) := rfl
theorem ln5 {st : Sto} {a b c d e : D} : biD st .len [.tup [a, b, c, d, e]] = some (.int 5) := rfl
theorem ln6 {st : Sto} {a b c d e f : D} : biD st .len [.tup [a, b, c, d, e, f]] = some (.int 6) := rfl
theorem wordS_of {w : Str} (h : okW w) : wordS w = true := by
  unfold wordS
  rw [decide_eq_true h.1, Bool.true_and, List.all_eq_true]
  intro c hc
  have := h.2 c hc
  unfold okC at this
  unfold signB
  rw [decide_eq_true (by omega : 32 ≤ c), decide_eq_true (by omega : c ≤ 126), decide_eq_false (by omega : ¬ c = 37)]
  rfl
theorem okV_thg {kind : Str} {o : OV} (h : okV kind o) : thg 100 1 o.d = true := by
  cases o with
  | s w => show decide (w.length ≤ 1000) = true
           exact decide_eq_true (by have := h.2.1; omega)
  | i x => rfl
theorem okV_key {kind : Str} {o : OV} (h : okV kind o) : isKeyF kind o.d = true := by
  unfold isKeyF
  cases o with
  | s w => rw [if_pos h.1]; exact wordS_of h.2
  | i x => rw [if_neg h.1]; simp [isNum, OV.d]; exact h.2
section
variable {k fl : Nat} {T : List Tb} {st : Sto}
theorem r_key {i : Nat} {o : OV} (h : okV (tbAt T i).kind o) : run G (k + 2) fl i_is_key [tbD (tbAt T i), o.d] st = .ok (.bl true) st := by
  rw [r_is_key (okV_thg h), okV_key h]
theorem eq_nil2 {x : D} {xs : List D} (h : okN 60 (.tup (x :: xs)) = true) : eqD st (.tup (x :: xs)) (.tup []) = some false := by
  unfold eqD
  rw [view_tup, view_tup, h]
  rfl
theorem Ch.okn (c : Ch) : okN 60 (c.d T) = true := by
  have h : ∀ (n : Nat) (o : OV), okN n o.d = true := fun n o => by cases o <;> simp [okN, OV.d]
  cases c <;> simp [Ch.d, okN, okNs, h]
theorem dix_set {C : Nat → List D → Sto → Out D} {ρ : Ev.Env} {v : Ex} {S0 : Sto} {r : Str} {w : Nat} {x : OV} (h : okSet r w x) (hv : evE G C fl ρ v S0 = .ok (.str (wds.getD w (S []))) S0) : ∃ xs : List Str, evE G C fl ρ (.dix 0 v) S0 = .ok (.tk (xs.map D.str)) S0 ∧ r ∈ xs := by
  have h := h.2
  rcases h with ⟨h, e⟩ | ⟨h, e⟩ | ⟨h, e⟩ | ⟨h, e, _⟩ | ⟨h, e | e⟩ | ⟨h, e | e, _⟩ <;> subst h e
  · exact ⟨[(S [119, 111, 114, 100]), (S [110, 117, 109, 98, 101, 114])], by rw [e_dix, hv, Out.bind_ok]; rfl, by simp⟩
  · exact ⟨[(S [119, 111, 114, 100]), (S [110, 117, 109, 98, 101, 114])], by rw [e_dix, hv, Out.bind_ok]; rfl, by simp⟩
  · exact ⟨[(S [115, 117, 109])], by rw [e_dix, hv, Out.bind_ok]; rfl, by simp⟩
  · exact ⟨[(S [109, 111, 115, 116])], by rw [e_dix, hv, Out.bind_ok]; rfl, by simp⟩
  · exact ⟨[(S [108, 111, 116])], by rw [e_dix, hv, Out.bind_ok]; rfl, by simp⟩
  · exact ⟨[(S [108, 111, 116])], by rw [e_dix, hv, Out.bind_ok]; rfl, by simp⟩
  · exact ⟨[(S [115, 104, 97, 114, 101])], by rw [e_dix, hv, Out.bind_ok]; rfl, by simp⟩
  · exact ⟨[(S [115, 104, 97, 114, 101])], by rw [e_dix, hv, Out.bind_ok]; rfl, by simp⟩
theorem dix_give {C : Nat → List D → Sto → Out D} {ρ : Ev.Env} {v : Ex} {S0 : Sto} (hv : evE G C fl ρ v S0 = .ok (.str (S [103, 105, 118, 101])) S0) : evE G C fl ρ (.dix 0 v) S0 = .ok (.tk ([(S [115, 104, 97, 114, 101])].map D.str)) S0 := by
  rw [e_dix, hv, Out.bind_ok]; rfl
theorem size_drop {C : Nat → List D → Sto → Out D} {ρ : Ev.Env} {v : Ex} {S0 : Sto} (hv : evE G C fl ρ v S0 = .ok (.str (S [100, 114, 111, 112])) S0) : evE G C fl ρ (.dixg 1 v (.int 5)) S0 = .ok (.int 3) S0 := by
  rw [e_dixg, hv, Out.bind_ok, e_int, Out.bind_ok]; rfl
theorem size_give {C : Nat → List D → Sto → Out D} {ρ : Ev.Env} {v : Ex} {S0 : Sto} (hv : evE G C fl ρ v S0 = .ok (.str (S [103, 105, 118, 101])) S0) : evE G C fl ρ (.dixg 1 v (.int 5)) S0 = .ok (.int 6) S0 := by
  rw [e_dixg, hv, Out.bind_ok, e_int, Out.bind_ok]; rfl
theorem size_set {C : Nat → List D → Sto → Out D} {ρ : Ev.Env} {v : Ex} {S0 : Sto} : ∀ {w : Nat}, w < 7 → evE G C fl ρ v S0 = .ok (.str (wds.getD w (S []))) S0 → evE G C fl ρ (.dixg 1 v (.int 5)) S0 = .ok (.int 5) S0
  | 0, _, hv | 1, _, hv | 2, _, hv | 3, _, hv | 4, _, hv | 5, _, hv | 6, _, hv => by rw [e_dixg, hv, Out.bind_ok, e_int, Out.bind_ok]; rfl
theorem r_countI {x m : Int} (h0 : 0 ≤ x) (h : x ≤ m) : run G (k + 1) fl i_is_count [.int x, .int m] st = .ok (.bl true) st := by
  refine run_v (F := f_is_count) rfl rfl rfl rfl ?_
  show evSs G _ _ b_is_count [some (.int x), some (.int m)] st = _
  unfold b_is_count
  simp! only [h0, h]
theorem memPA {s : Str} : memD st (.str s) (.tup [.str (S [112, 117, 116]), .str (S [97, 100, 100])]) = some (decide (s ∈ [(S [112, 117, 116]), (S [97, 100, 100])])) := by
  show (if (flat (.str s) && ([(S [112, 117, 116]), (S [97, 100, 100])].map D.str).all flat) = true then some (([(S [112, 117, 116]), (S [97, 100, 100])].map D.str).any fun x => eqv x (.str s)) else none) = _
  rw [all_flat, any_str]; rfl
theorem r_isval {r wd : Str} {v : OV} (hk : okV (kindR r) v) (h : ((r = (S [119, 111, 114, 100]) ∨ r = (S [108, 111, 116]))) ∨ ((¬ r = (S [119, 111, 114, 100]) ∧ ¬ r = (S [108, 111, 116])) ∧ (wd = (S [112, 117, 116]) ∨ wd = (S [97, 100, 100]))) ∨ ((¬ r = (S [119, 111, 114, 100]) ∧ ¬ r = (S [108, 111, 116])) ∧ ¬ wd ∈ [(S [112, 117, 116]), (S [97, 100, 100])] ∧ ∃ x, v = .i x ∧ 0 ≤ x)) : run G (k + 2) fl i_is_value [.str r, .str wd, v.d] st = .ok (.bl true) st := by
  refine run_v (F := f_is_value) rfl rfl rfl rfl ?_
  show evSs G _ _ b_is_value [some (.str r), some (.str wd), some v.d] st = _
  have q1 := r_is_word (k := k) (fl := st.length) (st := st) (okV_thg hk)
  have q2 := r_is_number (k := k) (fl := st.length) (st := st) (okV_thg hk)
  have kk := okV_key hk
  unfold b_is_value
  rcases h with h | ⟨⟨h1, h2⟩, h⟩ | ⟨⟨h1, h2⟩, h, x, rfl, hx⟩
  · have e : isWord v.d = true := by
      unfold isKeyF kindR at kk
      rw [if_pos h, if_pos rfl] at kk
      exact kk
    rw [e] at q1
    rcases h with h | h
    · simp! only [eq_true h, q1]
    · have h1 : ¬ r = (S [119, 111, 114, 100]) := by rw [h]; decide
      simp! only [eq_false h1, eq_true h, q1]
  · have e : isNum v.d = true := by
      unfold isKeyF kindR at kk
      have h3 : ¬ (r = (S [119, 111, 114, 100]) ∨ r = (S [108, 111, 116])) := fun z => z.elim h1 h2
      rw [if_neg h3, if_neg (by decide)] at kk
      exact kk
    rw [e] at q2
    have hm : wd ∈ [(S [112, 117, 116]), (S [97, 100, 100])] := by rcases h with h | h <;> simp [h]
    simp! only [eq_false h1, eq_false h2, memPA, decide_eq_true hm, q2]
  · have hb : x ≤ 1000000000000000 := hk.2.2
    have q3 := r_countI (k := k) (fl := st.length) (st := st) hx hb
    simp! only [eq_false h1, eq_false h2, memPA, decide_eq_false h, cGREATEST, OV.d, q3]
theorem r_isvalS {r : Str} {w : Nat} {v : OV} (h : okSet r w v) : run G (k + 2) fl i_is_value [.str r, .str (wds.getD w (S [])), v.d] st = .ok (.bl true) st := by
  refine r_isval h.1 ?_
  have h := h.2
  rcases h with ⟨h, e⟩ | ⟨h, e⟩ | ⟨h, e⟩ | ⟨h, e, hx⟩ | ⟨h, e | e⟩ | ⟨h, e | e, hx⟩ <;> subst h e
  · exact .inl (.inl rfl)
  · exact .inr (.inl ⟨⟨by decide, by decide⟩, .inl rfl⟩)
  · exact .inr (.inl ⟨⟨by decide, by decide⟩, .inr rfl⟩)
  · exact .inr (.inr ⟨⟨by decide, by decide⟩, by decide, hx⟩)
  · exact .inl (.inr rfl)
  · exact .inl (.inr rfl)
  · exact .inr (.inr ⟨⟨by decide, by decide⟩, by decide, hx⟩)
  · exact .inr (.inr ⟨⟨by decide, by decide⟩, by decide, hx⟩)
theorem r_is_change {c : Ch} {n : Nat} (hT : SchOk T) (hn : n ≤ 100) (h : ChOk T n c) : run G (k + 4) fl i_is_change [schD T, .int (n : Int), c.d T] st = .ok (.bl true) st := by
  refine run_v (F := f_is_change) rfl rfl rfl rfl ?_
  show evSs G _ _ b_is_change [some (schD T), some (.int (n : Int)), some (c.d T), none, none, none] st = _
  have hok := c.okn (T := T)
  unfold b_is_change
  cases c with
  | drop i o =>
    obtain ⟨hi, ho⟩ := h
    have q0 := r_tab (k := k + 1) (fl := st.length) (T := T) (st := st) hT hi
    have q1 := r_key (k := k + 1) (fl := st.length) (st := st) ho
    have h0 : ¬ ((i : Int) < 0) := by omega
    have z : ∀ ρ : Ev.Env, ρ[2]? = some (some (.tup [.str (S [100, 114, 111, 112]), .str (tbAt T i).name, o.d])) → evE G (run G (k + 3) st.length) st.length ρ (.dixg 1 (.idx (.var 2) (.int 0)) (.int 5)) st = .ok (.int 3) st := fun ρ hρ => size_drop (by simp! only [hρ])
    simp! only [-Ev.bi_len, -e_dixg, ln3, Ch.d, eq_nil2 hok, c_words, memD_tkS, show ((S [100, 114, 111, 112]) ∈ wds) = True from eq_true (by decide), z, q0, eq_false h0, sch_at hi, q1]
  | set w i o j v =>
    obtain ⟨hi, ho, hj, hv⟩ := h
    have hw := okSet_lt hv
    obtain ⟨n1, n2⟩ := wds_no w hw
    have q0 := r_tab (k := k + 1) (fl := st.length) (T := T) (st := st) hT hi
    have q1 := r_key (k := k + 1) (fl := st.length) (st := st) ho
    have q2 := r_col (k := k + 1) (fl := st.length) (T := T) (st := st) hT hi hj
    have q3 := r_isvalS (k := k + 1) (fl := st.length) (st := st) hv
    have h0 : ¬ ((i : Int) < 0) := by omega
    have h1 : ¬ ((j : Int) < 0) := by omega
    have hm : (wds.getD w (S []) ∈ wds) = True := eq_true (by
      rw [List.getD_eq_getElem?_getD, List.getElem?_eq_getElem (show w < wds.length by show w < 9; omega)]
      exact List.getElem_mem _)
    have z : ∀ ρ : Ev.Env, ρ[2]? = some (some (.tup [.str (wds.getD w (S [])), .str (tbAt T i).name, o.d, .str (coAt (tbAt T i) j).1, v.d])) → evE G (run G (k + 3) st.length) st.length ρ (.dixg 1 (.idx (.var 2) (.int 0)) (.int 5)) st = .ok (.int 5) st := fun ρ hρ => size_set hw (by simp! only [hρ])
    obtain ⟨xs, hx, hr⟩ := dix_set (C := run G (k + 3) st.length) (fl := st.length) (S0 := st) (ρ := [some (schD T), some (.int (n : Int)), some (.tup [.str (wds.getD w (S [])), .str (tbAt T i).name, o.d, .str (coAt (tbAt T i) j).1, v.d]), some (.int (i : Int)), some (.int (j : Int)), some (.str (coAt (tbAt T i) j).2)]) (v := .idx (.var 2) (.int 0)) hv (by simp! only [])
    simp! only [-Ev.bi_len, -e_dixg, ln5, Ch.d, eq_nil2 hok, c_words, memD_tkS, hm, z, q0, eq_false h0, sch_at hi, q1, eq_false n1, eq_false n2, q2, eq_false h1, tb_2, col_at hj, co_1, hx, eq_true hr, at4w, q3, not_false_eq_true]
  | give i o j v s =>
    obtain ⟨hi, ho, hj, hrr, hv, hv0, hs⟩ := h
    have q0 := r_tab (k := k + 1) (fl := st.length) (T := T) (st := st) hT hi
    have q1 := r_key (k := k + 1) (fl := st.length) (st := st) ho
    have q2 := r_col (k := k + 1) (fl := st.length) (T := T) (st := st) hT hi hj
    have q3 := r_isval (k := k + 1) (fl := st.length) (st := st) (r := (S [115, 104, 97, 114, 101])) (wd := (S [103, 105, 118, 101])) (v := v) hv (.inr (.inr ⟨⟨by decide, by decide⟩, by decide, hv0⟩))
    have q4 := r_countI (k := k + 2) (fl := st.length) (st := st) (x := (s : Int)) (m := (n : Int) - 1) (by omega) (by omega)
    have h0 : ¬ ((i : Int) < 0) := by omega
    have h1 : ¬ ((j : Int) < 0) := by omega
    have n1 : ((S [103, 105, 118, 101]) = (S [100, 114, 111, 112])) = False := eq_false (by decide)
    have z : ∀ ρ : Ev.Env, ρ[2]? = some (some (.tup [.str (S [103, 105, 118, 101]), .str (tbAt T i).name, o.d, .str (coAt (tbAt T i) j).1, v.d, .int (s : Int)])) → evE G (run G (k + 3) st.length) st.length ρ (.dixg 1 (.idx (.var 2) (.int 0)) (.int 5)) st = .ok (.int 6) st := fun ρ hρ => size_give (by simp! only [hρ])
    have hx : ∀ ρ : Ev.Env, ρ[2]? = some (some (.tup [.str (S [103, 105, 118, 101]), .str (tbAt T i).name, o.d, .str (coAt (tbAt T i) j).1, v.d, .int (s : Int)])) → evE G (run G (k + 3) st.length) st.length ρ (.dix 0 (.idx (.var 2) (.int 0))) st = .ok (.tk ([(S [115, 104, 97, 114, 101])].map D.str)) st := fun ρ hρ => dix_give (by simp! only [hρ])
    have hr : ((S [115, 104, 97, 114, 101]) ∈ [(S [115, 104, 97, 114, 101])]) = True := eq_true (by simp)
    simp! only [-Ev.bi_len, -e_dixg, ln6, Ch.d, eq_nil2 hok, c_words, memD_tkS, show ((S [103, 105, 118, 101]) ∈ wds) = True from eq_true (by decide), z, q0, eq_false h0, sch_at hi, q1, n1, q2, eq_false h1, tb_2, col_at hj, co_1, hrr, hx, hr, at4w, at5w, q3, q4, not_true_eq_false]
end
/-! ### spoilt things -/
theorem cut_neg1 {xs : List D} : cutD xs none (some (-1)) = xs.take (xs.length - 1) := by
  unfold cutD HT.sIx
  dsimp only
  rw [if_pos (by omega)]
  simp
  congr 1
  omega
theorem cut_neg1d {xs : List D} (h : xs ≠ []) : cutD xs (some (-1)) none = xs.drop (xs.length - 1) := by
  have h0 : 0 < xs.length := List.length_pos_iff.mpr h
  unfold cutD HT.sIx
  dsimp only
  rw [if_pos (by omega)]
  have e : (-(1 : Int) + (xs.length : Int)).toNat = xs.length - 1 := by omega
  simp only [e]
  rw [List.take_of_length_le (by simp)]
theorem x40 : (2 : Int) ≤ 40 ∧ (40 : Int) ≤ 1000 ∧ 1 ≤ (S [120]).length ∧ (S [120]).length ≤ 1000 := by decide
theorem x41 : (2 : Int) ≤ 41 ∧ (41 : Int) ≤ 1000 ∧ 1 ≤ (S [120]).length ∧ (S [120]).length ≤ 1000 := by decide
def things30 : List D := [.non, .bl true, .int (-1), .int 0, .int 1, .int 2, .int 3, .int 1000000000000000, .int 1000000000000001, .int (-1000000000000001), .int 1000000000001, .str (S [97]), .str (S [116, 97, 98]), .str (S [119]), .str (S [119, 111, 114, 100]), .str (S [110, 117, 109, 98, 101, 114]), .str (S [112, 117, 116]), .str (S [100, 114, 111, 112]), .str (S []), .str (repS (S [120]) 40), .str (repS (S [120]) 41), .str (S [65]), .str (S [97, 32, 98]), .str (S [10]), .bl false, .tup [], .tup [.str (S [97])], .tup [.str (S [119]), .str (S [119, 111, 114, 100])], .tup [.str (S [100, 114, 111, 112]), .str (S [97]), .int 1], .str (S [108, 111, 116])]
theorem things30ok : ∀ x ∈ things30, thg 3 1 x = true := by
  have : things30.all (thg 3 1) = true := by decide +kernel
  exact fun x hx => List.all_eq_true.mp this x hx
theorem things30len : (things30.length : Int) = 30 := rfl
theorem bin30 {st : Sto} : binD st .add (.lst [.non, .bl true, .int (-1), .int 0, .int 1, .int 2, .int 3, .int 1000000000000000, .int 1000000000000001, .int (-1000000000000001), .int 1000000000001, .str (S [97]), .str (S [116, 97, 98]), .str (S [119]), .str (S [119, 111, 114, 100]), .str (S [110, 117, 109, 98, 101, 114])]) (.lst [.str (S [112, 117, 116]), .str (S [100, 114, 111, 112]), .str (S []), .str (repS (S [120]) 40), .str (repS (S [120]) 41), .str (S [65]), .str (S [97, 32, 98]), .str (S [10]), .bl false, .tup [], .tup [.str (S [97])], .tup [.str (S [119]), .str (S [119, 111, 114, 100])], .tup [.str (S [100, 114, 111, 112]), .str (S [97]), .int 1], .str (S [108, 111, 116])]) = some (.lst things30) := by
  have hz : SZ = 16777216 := rfl
  rw [bin_addL, if_pos (by simp [hz])]; rfl
theorem p15 : (0 : Int) ≤ 15 ∧ (15 : Int) ≤ 1000000 ∧ (10 : Int).natAbs < 2 ^ 64 := by decide
theorem v15 : (10 : Int) ^ (15 : Int).toNat = 1000000000000000 := by decide
theorem p12 : (0 : Int) ≤ 12 ∧ (12 : Int) ≤ 1000000 ∧ (10 : Int).natAbs < 2 ^ 64 := by decide
theorem v12 : (10 : Int) ^ (12 : Int).toNat = 1000000000000 := by decide
theorem tn40 : (40 : Int).toNat = 40 := rfl
theorem tn41 : (41 : Int).toNat = 41 := rfl
theorem spoilt_base {C : Nat → List D → Sto → Out D} {fl a n L : Nat} {s : Int} {rw : List Nat} {d v : D} (hC : C i__law_take [.ref 0] [dcell rw a] = .ok (.int (tk rw a)) [dcell rw (a + 1)]) (hv : atI things30 ((tk rw a : Int) % 30) = some v) (hd : thg L n d = true) (hn : n ≤ 58) (hs : s ≤ 0 ∨ ∀ x r, d ≠ .tup (x :: r)) :
    evSs G C fl b__law_spoilt [some (.ref 0), some d, some (.int s), none, none] [dcell rw a] = .ret v [dcell rw (a + 1)] := by
  unfold b__law_spoilt
  cases d with
  | non => simp! only [-bin_addL, -List.length_cons, -List.length_nil, p15, v15, p12, v12, Int.reduceNeg, x40, x41, tn40, tn41, bin30, things30len, hC, show (0 : Int) < 30 by decide, hv]
  | bl b => simp! only [-bin_addL, -List.length_cons, -List.length_nil, p15, v15, p12, v12, Int.reduceNeg, x40, x41, tn40, tn41, bin30, things30len, hC, show (0 : Int) < 30 by decide, hv]
  | int i => simp! only [-bin_addL, -List.length_cons, -List.length_nil, p15, v15, p12, v12, Int.reduceNeg, x40, x41, tn40, tn41, bin30, things30len, hC, show (0 : Int) < 30 by decide, hv]
  | str x => simp! only [-bin_addL, -List.length_cons, -List.length_nil, p15, v15, p12, v12, Int.reduceNeg, x40, x41, tn40, tn41, bin30, things30len, hC, show (0 : Int) < 30 by decide, hv]
  | tup xs =>
    cases xs with
    | nil => simp! only [-bin_addL, -List.length_cons, -List.length_nil, p15, v15, p12, v12, Int.reduceNeg, x40, x41, tn40, tn41, bin30, things30len, hC, show (0 : Int) < 30 by decide, hv, eqD_nilT (show okNs 59 [] = true by simp [okNs]), List.isEmpty_nil]
    | cons x r =>
      obtain ⟨m, rfl, hl, hxs⟩ := thg_tup.mp hd
      have hok := thgs_ok59 hxs (by omega)
      have h0 : s ≤ 0 := hs.resolve_right fun h => h x r rfl
      simp! only [-bin_addL, -List.length_cons, -List.length_nil, p15, v15, p12, v12, Int.reduceNeg, x40, x41, tn40, tn41, bin30, things30len, hC, show (0 : Int) < 30 by decide, hv, eqD_nilT hok, List.isEmpty_cons, eq_true h0]
  | _ => cases n <;> simp [thg] at hd
theorem r_spoilt {rw : List Nat} (hr : rw.length = 400) : ∀ (s k fl : Nat) (n L a : Nat) (d : D), thg L n d = true → n ≤ 40 → L ≤ 900 → ∃ d' a', run G (k + s + 2) fl i__law_spoilt [.ref 0, d, .int (s : Int)] [dcell rw a] = .ok d' [dcell rw a'] ∧ thg (max (L + 1) 4) (max n (s + 1)) d' = true ∧ a' ≤ a + 3 * (s + 1) := by
  have hz : SZ = 16777216 := rfl
  have base : ∀ (s k fl : Nat) (n L a : Nat) (d : D), thg L n d = true → n ≤ 40 → ((s : Int) ≤ 0 ∨ ∀ x r, d ≠ .tup (x :: r)) → ∃ d' a', run G (k + 2) fl i__law_spoilt [.ref 0, d, .int (s : Int)] [dcell rw a] = .ok d' [dcell rw a'] ∧ thg (max (L + 1) 4) (max n (s + 1)) d' = true ∧ a' ≤ a + 3 * (s + 1) := by
    intro s k fl n L a d hd hn hs
    obtain ⟨v, hv, hvt⟩ := pickD (xs := things30) (t := tk rw a) (n := 30) rfl (by decide) things30ok
    rw [show ((30 : Nat) : Int) = 30 from rfl] at hv
    exact ⟨v, a + 1, run_popS (F := f__law_spoilt) (ds := [.ref 0, d, .int (s : Int)]) (st' := [dcell rw (a + 1)]) rfl rfl rfl (spoilt_base (r_take1 hr) hv hd (by omega) hs) (unbox_thg hvt), thg_mono (by omega) v 1 _ (by omega) hvt, by omega⟩
  intro s
  induction s with
  | zero =>
    intro k fl n L a d hd hn hL
    exact base 0 k fl n L a d hd hn (.inl (Int.le_refl 0))
  | succ s ih =>
    intro k fl n L a d hd hn hL
    by_cases hc : ∃ x r, d = .tup (x :: r)
    case neg => exact base (s + 1) (k + (s + 1)) fl n L a d hd hn (.inr fun x r e => hc ⟨x, r, e⟩)
    obtain ⟨x, r, rfl⟩ := hc
    obtain ⟨m, rfl, hl, hxs⟩ := thg_tup.mp hd
    have hok := thgs_ok59 hxs (by omega)
    obtain ⟨xs, hx⟩ : ∃ xs, x :: r = xs := ⟨_, rfl⟩
    have hne : xs ≠ [] := by rw [← hx]; simp
    have hpos : 0 < xs.length := List.length_pos_iff.mpr hne
    rw [hx] at hl hxs hok ⊢
    have hemp : xs.isEmpty = false := by rw [← hx]; rfl
    obtain ⟨p, hp⟩ : ∃ p : Nat, tk rw a % (xs.length + 1) = p := ⟨_, rfl⟩
    have hpl : p ≤ xs.length := by rw [← hp]; have := Nat.mod_lt (tk rw a) (show 0 < xs.length + 1 by omega); omega
    have hpe : (tk rw a : Int) % ((xs.length : Int) + 1) = (p : Int) := by rw [← hp]; simp
    have h0 : (0 : Int) < (xs.length : Int) + 1 := by omega
    have s0 : (((s + 1 : Nat) : Int) ≤ 0) = False := eq_false (by omega)
    have s1 : ((s + 1 : Nat) : Int) - 1 = (s : Int) := by omega
    have hlen := lenN (st := [dcell rw a]) (xs := xs) rfl
    have take_ok : ∀ q, thgs L m (xs.take q) = true := fun q => thgs_mem.mpr fun y hy => thgs_mem.mp hxs y (List.mem_of_mem_take hy)
    have drop_ok : ∀ q, thgs L m (xs.drop q) = true := fun q => thgs_mem.mpr fun y hy => thgs_mem.mp hxs y (List.mem_of_mem_drop hy)
    have fin : ∀ (ys : List D) (a' q : Nat), evSs G (run G (k + (s + 1) + 1) 1) 1 b__law_spoilt [some (.ref 0), some (.tup xs), some (.int ((s + 1 : Nat) : Int)), none, none] [dcell rw a] = .ret (.tup ys) [dcell rw a'] → thgs (max (L + 1) 4) q ys = true → q + 1 ≤ max (m + 1) (s + 2) → ys.length ≤ L + 1 → a' ≤ a + 3 * (s + 1 + 1) →
        ∃ d' a', run G (k + (s + 1) + 2) fl i__law_spoilt [.ref 0, .tup xs, .int ((s + 1 : Nat) : Int)] [dcell rw a] = .ok d' [dcell rw a'] ∧ thg (max (L + 1) 4) (max (m + 1) (s + 1 + 1)) d' = true ∧ a' ≤ a + 3 * (s + 1 + 1) := fun ys a' q h1 h2 h3 h4 h5 => by
      have ht : thg (max (L + 1) 4) (q + 1) (.tup ys) = true := by rw [thg, h2, decide_eq_true (by omega)]; rfl
      exact ⟨.tup ys, a', run_popS (F := f__law_spoilt) (ds := [.ref 0, .tup xs, .int ((s + 1 : Nat) : Int)]) (st' := [dcell rw a']) rfl rfl rfl h1 (unbox_thg ht), thg_mono (Nat.le_refl _) _ (q + 1) _ h3 ht, h5⟩
    have big : L ≤ max (L + 1) 4 := by omega
    by_cases hpe2 : p = xs.length
    · have e1 : ((p : Int) = (xs.length : Int)) = True := eq_true (by omega)
      have hq : tk rw (a + 1) % 2 = 0 ∨ tk rw (a + 1) % 2 = 1 := by omega
      have l1 : xs.length + (xs.drop (xs.length - 1)).length ≤ SZ := by rw [List.length_drop]; omega
      rcases hq with hq | hq
      · have hq' : (tk rw (a + 1) : Int) % 2 = 0 := by omega
        refine fin (xs.take (xs.length - 1)) (a + 2) m ?_ (thgs_mono big _ m m (Nat.le_refl _) (take_ok _)) (by omega) (by rw [List.length_take]; omega) (by omega)
        unfold b__law_spoilt
        simp! only [-Ev.bi_len, lenN (xs := xs) rfl, eqD_nilT hok, hemp, s0, r_take1 hr, h0, hpe, e1, cut_neg1, cut_neg1d hne, l1, show (0 : Int) < 2 by decide, hq']
      · have hq' : (tk rw (a + 1) : Int) % 2 = 1 := by omega
        refine fin (xs ++ xs.drop (xs.length - 1)) (a + 2) m ?_ (thgs_mono big _ m m (Nat.le_refl _) (thgs_app.mpr ⟨hxs, drop_ok _⟩)) (by omega) (by rw [List.length_append, List.length_drop]; omega) (by omega)
        unfold b__law_spoilt
        simp! only [-Ev.bi_len, lenN (xs := xs) rfl, eqD_nilT hok, hemp, s0, r_take1 hr, h0, hpe, e1, cut_neg1, cut_neg1d hne, l1, show (0 : Int) < 2 by decide, hq']
    · have e1 : ((p : Int) = (xs.length : Int)) = False := eq_false (by omega)
      have hplt : p < xs.length := by omega
      have hat : atI xs (p : Int) = some xs[p] := by rw [atI_of (by omega), Int.toNat_natCast]; exact List.getElem?_eq_getElem hplt
      obtain ⟨d', a', h1, h2, h3⟩ := ih k 1 m L (a + 1) xs[p] (thgs_mem.mp hxs _ (List.getElem_mem hplt)) (by omega) hL
      have ep : (p : Int) + 1 = ((p + 1 : Nat) : Int) := by simp
      have l1 : (xs.take p).length + 1 ≤ SZ := by rw [List.length_take]; omega
      have l2 : (xs.take p).length + 1 + (xs.drop (p + 1)).length ≤ SZ := by rw [List.length_take, List.length_drop]; omega
      have ek : k + (s + 1) + 1 = k + s + 2 := by omega
      refine fin (xs.take p ++ [d'] ++ xs.drop (p + 1)) a' (max m (s + 1)) ?_ ?_ (by omega) (by simp; omega) (by omega)
      · unfold b__law_spoilt
        rw [ek]
        simp! only [-Ev.bi_len, lenN (xs := xs) rfl, eqD_nilT hok, hemp, s0, s1, r_take1 hr, h0, hpe, e1, cut_hiD, cut_loD, hat, h1, ep, l1, l2]
      · refine thgs_app.mpr ⟨thgs_app.mpr ⟨thgs_mono big _ m _ (by omega) (take_ok _), thgs_cons.mpr ⟨h2, thgs_nil⟩⟩, thgs_mono big _ m _ (by omega) (drop_ok _)⟩
/-! ### is_change of anything -/
def sizeF (w : Str) : Int := if w = (S [100, 114, 111, 112]) then 3 else if w = (S [103, 105, 118, 101]) then 6 else 5
def rulesF (w : Str) : List Str := if w = (S [112, 117, 116]) then [(S [119, 111, 114, 100]), (S [110, 117, 109, 98, 101, 114])] else if w = (S [97, 100, 100]) then [(S [115, 117, 109])] else if w = (S [114, 97, 105, 115, 101]) then [(S [109, 111, 115, 116])] else if w = (S [106, 111, 105, 110]) ∨ w = (S [112, 97, 114, 116]) then [(S [108, 111, 116])] else [(S [115, 104, 97, 114, 101])]
def valF (r w : Str) (v : D) : Bool := if r = (S [119, 111, 114, 100]) ∨ r = (S [108, 111, 116]) then isWord v else if w ∈ [(S [112, 117, 116]), (S [97, 100, 100])] then isNum v else isIntB 0 1000000000000000 v
def setF (t : Tb) (w : Str) (c v : D) : Bool := match ruleF t c with
  | some r => decide (r ∈ rulesF w) && valF r w v
  | none => false
def lastF (w : Str) (m : Int) (r : List D) : Bool := !decide (w = (S [103, 105, 118, 101])) || match r with
  | s :: _ => isIntB 0 m s
  | _ => false
def restF (t : Tb) (w : Str) (m : Int) (r : List D) : Bool := decide (w = (S [100, 114, 111, 112])) || match r with
  | c :: v :: r => setF t w c v && lastF w m r
  | _ => false
def bodyF (T : List Tb) (w : Str) (m : Int) (r : List D) : Bool := match r with
  | nm :: key :: r => (match T.find? (fun t => strEq t.name nm) with
    | some t => isKeyF t.kind key && restF t w m r
    | none => false)
  | _ => false
def chF (T : List Tb) (m : Int) (d : D) : Bool := match d with
  | .tup (.str w :: r) => decide (w ∈ wds) && (decide ((r.length : Int) + 1 = sizeF w) && bodyF T w m r)
  | _ => false
theorem size_of {C : Nat → List D → Sto → Out D} {fl : Nat} {ρ : Ev.Env} {v : Ex} {S0 : Sto} {w : Str} (hv : evE G C fl ρ v S0 = .ok (.str w) S0) : evE G C fl ρ (.dixg 1 v (.int 5)) S0 = .ok (.int (sizeF w)) S0 := by
  rw [e_dixg, hv, Out.bind_ok, e_int, Out.bind_ok]
  unfold sizeF
  by_cases h1 : w = (S [100, 114, 111, 112])
  · subst h1; rfl
  · by_cases h2 : w = (S [103, 105, 118, 101])
    · subst h2; rfl
    · rw [if_neg h1, if_neg h2]
      have e1 : (w == (S [100, 114, 111, 112])) = false := beq_eq_false_iff_ne.mpr h1
      have e2 : (w == (S [103, 105, 118, 101])) = false := beq_eq_false_iff_ne.mpr h2
      show Out.ok ((([((S [100, 114, 111, 112]), D.int 3), ((S [103, 105, 118, 101]), D.int 6)] : List (Str × D)).lookup w).getD (.int 5)) S0 = _
      simp only [List.lookup_cons, e1, e2, List.lookup_nil, Option.getD_none]
theorem rules_of {C : Nat → List D → Sto → Out D} {fl : Nat} {ρ : Ev.Env} {v : Ex} {S0 : Sto} {w : Str} (hw : w ∈ wds) (hd : ¬ w = (S [100, 114, 111, 112])) (hv : evE G C fl ρ v S0 = .ok (.str w) S0) : evE G C fl ρ (.dix 0 v) S0 = .ok (.tk ((rulesF w).map D.str)) S0 := by
  rw [e_dix, hv, Out.bind_ok]
  simp only [wds, List.mem_cons, List.not_mem_nil, or_false] at hw
  rcases hw with rfl | rfl | rfl | rfl | rfl | rfl | rfl | rfl | rfl <;> first | rfl | exact absurd rfl hd
section
variable {k fl L n : Nat} {T : List Tb} {st : Sto}
theorem r_is_countD {d : D} {hi : Int} (h : thg L n d = true) : run G (k + 1) fl i_is_count [d, .int hi] st = .ok (.bl (isIntB 0 hi d)) st := by
  refine run_v (F := f_is_count) rfl rfl rfl rfl ?_
  show evSs G _ _ b_is_count [some d, some (.int hi)] st = _
  unfold b_is_count
  cases d with
  | int i =>
    unfold isIntB
    by_cases h1 : (0 : Int) ≤ i
    · simp! only [eq_true h1, Bool.true_and]
    · simp! only [eq_false h1, Bool.false_and]
  | non => simp! only [isIntB]
  | bl b => simp! only [isIntB]
  | str i => simp! only [isIntB]
  | tup xs => simp! only [isIntB]
  | _ => cases n <;> simp [thg] at h
theorem r_is_valueD {r w : Str} {v : D} (h : thg L n v = true) : run G (k + 2) fl i_is_value [.str r, .str w, v] st = .ok (.bl (valF r w v)) st := by
  refine run_v (F := f_is_value) rfl rfl rfl rfl ?_
  show evSs G _ _ b_is_value [some (.str r), some (.str w), some v] st = _
  have q1 := r_is_word (k := k) (fl := st.length) (st := st) h
  have q2 := r_is_number (k := k) (fl := st.length) (st := st) h
  have q3 := r_is_countD (k := k) (fl := st.length) (st := st) (hi := 1000000000000000) h
  unfold b_is_value valF
  by_cases h1 : r = (S [119, 111, 114, 100])
  · simp! only [eq_true h1, q1]
  · by_cases h2 : r = (S [108, 111, 116])
    · simp! only [eq_false h1, eq_true h2, q1]
    · by_cases h3 : w ∈ [(S [112, 117, 116]), (S [97, 100, 100])]
      · simp! only [eq_false h1, eq_false h2, memPA, decide_eq_true h3, eq_true h3, q2]
      · simp! only [eq_false h1, eq_false h2, memPA, decide_eq_false h3, eq_false h3, cGREATEST, q3]
theorem sch_ix {i : Nat} (hi : i < T.length) : idxD st (schD T) (.int (i : Int)) = some (tbD T[i]) := by
  unfold schD
  rw [idx_tup, atI_of (by omega), Int.toNat_natCast, List.getElem?_map, List.getElem?_eq_getElem hi]; rfl
theorem col_ix {t : Tb} {j : Nat} (hj : j < t.cols.length) : idxD st (colsD t.cols) (.int (j : Int)) = some (colD t.cols[j]) := by
  unfold colsD
  rw [idx_tup, atI_of (by omega), Int.toNat_natCast, List.getElem?_map, List.getElem?_eq_getElem hj]; rfl
theorem find_noT {d : D} (h : ∀ y, d ≠ .str y) : T.find? (fun t => strEq t.name d) = none := List.find?_eq_none.mpr fun c _ => by rw [strEq_no h]; exact Bool.false_ne_true
theorem rule_no {t : Tb} {d : D} (h : ∀ y, d ≠ .str y) : ruleF t d = none := by
  unfold ruleF
  rw [List.find?_eq_none.mpr fun c _ => by rw [strEq_no h]; exact Bool.false_ne_true]
  rfl
theorem r_is_changeD {d : D} {s : Int} (hT : ∀ t ∈ T, TbOk t) (hTl : T.length ≤ 1000) (hd : thg L n d = true) (hn : n ≤ 40) : run G (k + 4) fl i_is_change [schD T, .int s, d] st = .ok (.bl (chF T (s - 1) d)) st := by
  refine run_v (F := f_is_change) rfl rfl rfl rfl ?_
  show evSs G _ _ b_is_change [some (schD T), some (.int s), some d, none, none, none] st = _
  unfold b_is_change
  cases d with
  | tup xs =>
    obtain ⟨m, rfl, hl, hxs⟩ := thg_tup.mp hd
    cases xs with
    | nil => simp! only [eqD_nilT (show okNs 59 [] = true by simp [okNs]), List.isEmpty_nil, chF]
    | cons h r =>
      have hok := thgs_ok59 hxs (by omega)
      obtain ⟨hh, hr⟩ := thgs_cons.mp hxs
      cases h with
      | str w =>
        have hN : ((D.str w :: r).length : Int) = (r.length : Int) + 1 := by simp
        unfold chF
        dsimp only
        by_cases hw : w ∈ wds
        · have z : ∀ ρ : Ev.Env, ρ[2]? = some (some (.tup (.str w :: r))) → evE G (run G (k + 3) st.length) st.length ρ (.dixg 1 (.idx (.var 2) (.int 0)) (.int 5)) st = .ok (.int (sizeF w)) st := fun ρ hρ => size_of (by simp! only [hρ])
          rw [decide_eq_true hw, Bool.true_and]
          by_cases hs : (r.length : Int) + 1 = sizeF w
          · rw [decide_eq_true hs, Bool.true_and]
            have h3 : (3 : Int) ≤ sizeF w := by unfold sizeF; split <;> (try split) <;> omega
            rcases r with _ | ⟨nm, _ | ⟨key, r⟩⟩
            · simp at hs; omega
            · simp at hs; omega
            obtain ⟨hnm, hr1⟩ := thgs_cons.mp hr
            obtain ⟨hkey, hr2⟩ := thgs_cons.mp hr1
            clear hr hr1
            unfold bodyF
            dsimp only
            cases nm with
            | str y =>
              have ht := r_table_of (k := k + 1) (fl := st.length) (st := st) (T := T) (d := .str y) rfl hTl
              rcases find_idx (xs := T) (p := fun t => strEq t.name (.str y)) with ⟨i, h1, h2, h3⟩ | ⟨h1, h2⟩
              · rw [h1] at ht
                rw [List.getElem?_eq_getElem h2] at h3
                have htk := hT T[i] (List.getElem_mem h2)
                have q1 := r_is_key (k := k + 1) (fl := st.length) (st := st) (t := T[i]) hkey
                have e : ((i : Int) < 0) = False := eq_false (by omega)
                have ez : optZ (some i) = (i : Int) := rfl
                rw [h3]
                dsimp only
                unfold restF
                by_cases hk : isKeyF T[i].kind key = true
                · rw [hk] at q1 ⊢
                  rw [Bool.true_and]
                  by_cases hdr : w = (S [100, 114, 111, 112])
                  · simp! only [-Ev.bi_len, -e_dixg, -List.length_cons, Bool.false_or, Bool.true_or, Bool.false_and, lenN hN, eqD_nilT hok, List.isEmpty_cons, c_words, memD_tkS, eq_true hw, z, eq_true hs, ht, ez, e, sch_ix h2, q1, eq_true hdr, decide_true, Bool.true_or]
                  · have h5 : (5 : Int) ≤ sizeF w := by unfold sizeF; rw [if_neg hdr]; split <;> omega
                    rw [decide_eq_false hdr, Bool.false_or]
                    rcases r with _ | ⟨c, _ | ⟨v, r⟩⟩
                    · simp at hs; omega
                    · simp at hs; omega
                    obtain ⟨hc, hr3⟩ := thgs_cons.mp hr2
                    obtain ⟨hv, hr4⟩ := thgs_cons.mp hr3
                    clear hr2 hr3
                    dsimp only
                    unfold setF
                    cases c with
                    | str cn =>
                      have hcl := r_column_of (k := k + 1) (fl := st.length) (st := st) (t := T[i]) (d := .str cn) htk rfl
                      unfold ruleF
                      rcases find_idx (xs := T[i].cols) (p := fun c => strEq c.1 (.str cn)) with ⟨j, g1, g2, g3⟩ | ⟨g1, g2⟩
                      · rw [g1] at hcl
                        rw [List.getElem?_eq_getElem g2] at g3
                        rw [g3, Option.map_some]
                        dsimp only
                        have e2 : ((j : Int) < 0) = False := eq_false (by omega)
                        have ez2 : optZ (some j) = (j : Int) := rfl
                        have q2 := r_is_valueD (k := k + 1) (fl := st.length) (st := st) (r := T[i].cols[j].2) (w := w) hv
                        have z2 : ∀ ρ : Ev.Env, ρ[2]? = some (some (.tup (.str w :: .str y :: key :: .str cn :: v :: r))) → evE G (run G (k + 3) st.length) st.length ρ (.dix 0 (.idx (.var 2) (.int 0))) st = .ok (.tk ((rulesF w).map D.str)) st := fun ρ hρ => rules_of hw hdr (by simp! only [hρ])
                        by_cases hr1 : T[i].cols[j].2 ∈ rulesF w
                        · rw [decide_eq_true hr1, Bool.true_and]
                          by_cases hv1 : valF T[i].cols[j].2 w v = true
                          · rw [hv1] at q2 ⊢
                            rw [Bool.true_and]
                            unfold lastF
                            by_cases hg : w = (S [103, 105, 118, 101])
                            · have h6 : sizeF w = 6 := by rw [hg]; rfl
                              rcases r with _ | ⟨sx, r⟩
                              · rw [h6] at hs; simp at hs
                              obtain ⟨hsx, hr5⟩ := thgs_cons.mp hr4
                              have q3 := r_is_countD (k := k + 2) (fl := st.length) (st := st) (hi := s - 1) hsx
                              simp! only [-Ev.bi_len, -e_dixg, -List.length_cons, Bool.false_or, Bool.true_or, Bool.false_and, lenN hN, eqD_nilT hok, List.isEmpty_cons, c_words, memD_tkS, eq_true hw, z, eq_true hs, ht, ez, e, sch_ix h2, q1, eq_false hdr, hcl, ez2, e2, tb_2, col_ix g2, co_1, z2, eq_true hr1, at4w, at5w, q2, eq_true hg, q3]
                            · simp! only [-Ev.bi_len, -e_dixg, -List.length_cons, Bool.false_or, Bool.true_or, Bool.false_and, lenN hN, eqD_nilT hok, List.isEmpty_cons, c_words, memD_tkS, eq_true hw, z, eq_true hs, ht, ez, e, sch_ix h2, q1, eq_false hdr, hcl, ez2, e2, tb_2, col_ix g2, co_1, z2, eq_true hr1, at4w, q2, eq_false hg]
                          · rw [Bool.not_eq_true] at hv1
                            rw [hv1] at q2 ⊢
                            rw [Bool.false_and]
                            simp! only [-Ev.bi_len, -e_dixg, -List.length_cons, Bool.false_or, Bool.true_or, Bool.false_and, lenN hN, eqD_nilT hok, List.isEmpty_cons, c_words, memD_tkS, eq_true hw, z, eq_true hs, ht, ez, e, sch_ix h2, q1, eq_false hdr, hcl, ez2, e2, tb_2, col_ix g2, co_1, z2, eq_true hr1, at4w, q2]
                        · rw [decide_eq_false hr1, Bool.false_and, Bool.false_and]
                          simp! only [-Ev.bi_len, -e_dixg, -List.length_cons, Bool.false_or, Bool.true_or, Bool.false_and, lenN hN, eqD_nilT hok, List.isEmpty_cons, c_words, memD_tkS, eq_true hw, z, eq_true hs, ht, ez, e, sch_ix h2, q1, eq_false hdr, hcl, ez2, e2, tb_2, col_ix g2, co_1, z2, eq_false hr1]
                      · rw [g1] at hcl
                        rw [g2, Option.map_none]
                        dsimp only
                        have ez2 : optZ none = -1 := rfl
                        have en : ((-1 : Int) < 0) = True := eq_true (by decide)
                        simp! only [-Ev.bi_len, -e_dixg, -List.length_cons, Bool.false_or, Bool.true_or, Bool.false_and, lenN hN, eqD_nilT hok, List.isEmpty_cons, c_words, memD_tkS, eq_true hw, z, eq_true hs, ht, ez, e, sch_ix h2, q1, eq_false hdr, hcl, ez2, en]
                    | _ =>
                      rw [rule_no (by intro y h; cases h)]
                      dsimp only
                      have en : ((-1 : Int) < 0) = True := eq_true (by decide)
                      first
                        | (simp! only [-Ev.bi_len, -e_dixg, -List.length_cons, Bool.false_or, Bool.true_or, Bool.false_and, lenN hN, eqD_nilT hok, List.isEmpty_cons, c_words, memD_tkS, eq_true hw, z, eq_true hs, ht, ez, e, sch_ix h2, q1, eq_false hdr, en]; done)
                        | (cases m <;> simp [thg] at hc)
                · rw [Bool.not_eq_true] at hk
                  rw [hk] at q1 ⊢
                  simp! only [-Ev.bi_len, -e_dixg, -List.length_cons, Bool.false_or, Bool.true_or, Bool.false_and, lenN hN, eqD_nilT hok, List.isEmpty_cons, c_words, memD_tkS, eq_true hw, z, eq_true hs, ht, ez, e, sch_ix h2, q1, Bool.false_and]
              · rw [h1] at ht
                rw [h2]
                have ez : optZ none = -1 := rfl
                have en : ((-1 : Int) < 0) = True := eq_true (by decide)
                simp! only [-Ev.bi_len, -e_dixg, -List.length_cons, Bool.false_or, Bool.true_or, Bool.false_and, lenN hN, eqD_nilT hok, List.isEmpty_cons, c_words, memD_tkS, eq_true hw, z, eq_true hs, ht, ez, en]
            | _ =>
              rw [find_noT (by intro y h; cases h)]
              dsimp only
              first
                | (simp! only [-Ev.bi_len, -e_dixg, -List.length_cons, Bool.false_or, Bool.true_or, Bool.false_and, lenN hN, eqD_nilT hok, List.isEmpty_cons, c_words, memD_tkS, eq_true hw, z, eq_true hs]; done)
                | (cases m <;> simp [thg] at hnm)
          · rw [decide_eq_false hs, Bool.false_and]
            simp! only [-Ev.bi_len, -e_dixg, -List.length_cons, Bool.false_or, Bool.true_or, Bool.false_and, lenN hN, eqD_nilT hok, List.isEmpty_cons, c_words, memD_tkS, eq_true hw, z, eq_false hs]
        · rw [decide_eq_false hw, Bool.false_and]
          simp! only [eqD_nilT hok, List.isEmpty_cons, c_words, memD_tkS, eq_false hw]
      | _ =>
        first
          | (simp! only [eqD_nilT hok, List.isEmpty_cons, chF]; done)
          | (cases m <;> simp [thg] at hh)
  | _ =>
    first
      | (simp! only [chF]; done)
      | (cases n <;> simp [thg] at hd)
end
/-! ### the law's own test of changes -/
theorem isNum_eq {v : D} : isNum v = isIntB (-1000000000000000) 1000000000000000 v := by cases v <;> rfl
theorem size3 {w : Str} : (3 : Int) ≤ sizeF w := by unfold sizeF; split <;> (try split) <;> omega
theorem chF_short {T : List Tb} {m : Int} {h : D} {r : List D} (hl : r.length < 2) : chF T m (.tup (h :: r)) = false := by
  cases h with
  | str w =>
    unfold chF
    dsimp only
    have := size3 (w := w)
    rw [decide_eq_false (by omega : ¬ (r.length : Int) + 1 = sizeF w), Bool.false_and, Bool.and_false]
  | _ => rfl
theorem eqD_nonS {st : Sto} {s : Str} : eqD st .non (.str s) = some false := rfl
section
variable {k fl L n : Nat} {T : List Tb} {st : Sto}
theorem l0 : biD st .len [.tup []] = some (.int 0) := rfl
theorem l1 {a : D} : biD st .len [.tup [a]] = some (.int 1) := rfl
theorem l2 {a b : D} : biD st .len [.tup [a, b]] = some (.int 2) := rfl
theorem memT2 {a b x : Str} : memD st (.str x) (.tup [.str a, .str b]) = some (decide (x ∈ [a, b])) := memD_tupS (ss := [a, b])
theorem memT3 {a b c x : Str} : memD st (.str x) (.tup [.str a, .str b, .str c]) = some (decide (x ∈ [a, b, c])) := memD_tupS (ss := [a, b, c])
theorem r_law_is_changeD {d : D} {s : Int} (hT : ∀ t ∈ T, TbOk t) (hTl : T.length ≤ 1000) (hd : thg L n d = true) (hn : n ≤ 40) : run G (k + 4) fl i__law_is_change [schD T, .int s, d] st = .ok (.bl (chF T (s - 1) d)) st := by
  refine run_v (F := f__law_is_change) rfl rfl rfl rfl ?_
  show evSs G _ _ b__law_is_change [some (schD T), some (.int s), some d, none, none, none] st = _
  unfold b__law_is_change
  cases d with
  | tup xs =>
    obtain ⟨m, rfl, hl, hxs⟩ := thg_tup.mp hd
    rcases xs with _ | ⟨h, _ | ⟨nm, _ | ⟨key, r⟩⟩⟩
    · simp! only [-Ev.bi_len, l0, chF]
    · rw [chF_short (by simp)]
      simp! only [-Ev.bi_len, l1]
    · rw [chF_short (by simp)]
      simp! only [-Ev.bi_len, l2]
    have hN : ((h :: nm :: key :: r).length : Int) = (r.length : Int) + 3 := by simp; omega
    have h3 : ((r.length : Int) + 3 < 3) = False := eq_false (by omega)
    obtain ⟨hh, hr1⟩ := thgs_cons.mp hxs
    obtain ⟨hnm, hr2⟩ := thgs_cons.mp hr1
    obtain ⟨hkey, hr⟩ := thgs_cons.mp hr2
    clear hr1 hr2
    cases h with
    | str w =>
      unfold chF bodyF
      dsimp only
      have ht := r_law_table (k := k + 2) (fl := st.length) (st := st) hT hTl hnm (by omega)
      cases hf : T.find? (fun t => strEq t.name nm) with
      | none =>
        rw [hf] at ht
        dsimp only at ht ⊢
        rw [Bool.and_false, Bool.and_false]
        simp! only [-Ev.bi_len, -List.length_cons, lenN hN, h3, ht]
      | some t =>
        have htk := hT t (List.mem_of_find?_eq_some hf)
        rw [hf] at ht
        dsimp only at ht ⊢
        have q1 := r_law_is_key (k := k + 1) (fl := st.length) (st := st) (kind := t.kind) hkey
        have hkd : idxD st (tbD t) (.int 1) = some (.str t.kind) := rfl
        have nn : isNon (tbD t) = false := rfl
        cases hk : isKeyF t.kind key with
        | false =>
          rw [hk] at q1
          rw [Bool.false_and, Bool.and_false, Bool.and_false]
          simp! only [-Ev.bi_len, -List.length_cons, lenN hN, h3, ht, nn, hkd, q1]
        | true =>
          rw [hk] at q1
          rw [Bool.true_and]
          have eN : (((nm :: key :: r).length : Int) + 1) = (r.length : Int) + 3 := by simp; omega
          rw [eN]
          by_cases hdr : w = (S [100, 114, 111, 112])
          · subst hdr
            have e0 : decide ((S [100, 114, 111, 112]) ∈ wds) = true := by decide
            have e1 : sizeF (S [100, 114, 111, 112]) = 3 := rfl
            have e2 : restF t (S [100, 114, 111, 112]) (s - 1) r = true := rfl
            rw [e0, e1, e2, Bool.and_true, Bool.true_and]
            simp! only [-Ev.bi_len, -List.length_cons, lenN hN, h3, ht, nn, hkd, q1]
          · have hsz : w ∈ wds → sizeF w = 5 + (if w = (S [103, 105, 118, 101]) then 1 else 0) := fun _ => by unfold sizeF; rw [if_neg hdr]; split <;> rfl
            by_cases hlen : (r.length : Int) + 3 = 5 + (if w = (S [103, 105, 118, 101]) then 1 else 0)
            · rcases r with _ | ⟨c, _ | ⟨v, r⟩⟩
              · simp at hlen; split at hlen <;> omega
              · simp at hlen; split at hlen <;> omega
              obtain ⟨hc, hr3⟩ := thgs_cons.mp hr
              obtain ⟨hv, hr4⟩ := thgs_cons.mp hr3
              clear hr hr3
              have q2 := r_law_rule (k := k + 2) (fl := st.length) (st := st) htk hc (by omega)
              have q3 := r_law_is_word (k := k + 2) (fl := st.length) (st := st) hv
              have q4 := r_law_is_int (k := k + 2) (fl := st.length) (st := st) (lo := -1000000000000000) (hi := 1000000000000000) hv
              have q5 := r_law_is_int (k := k + 2) (fl := st.length) (st := st) (lo := 0) (hi := 1000000000000000) hv
              have hdw : decide (w ∈ wds) = true → decide (((c :: v :: r).length : Int) + 3 = sizeF w) = true := fun z => decide_eq_true (by rw [hsz (of_decide_eq_true z)]; exact hlen)
              have e2 : restF t w (s - 1) (c :: v :: r) = (setF t w c v && lastF w (s - 1) r) := by
                unfold restF
                rw [decide_eq_false hdr, Bool.false_or]
              rw [e2]
              obtain ⟨R, hR⟩ : ∃ R : Bool, setF t w c v = R := ⟨_, rfl⟩
              rw [hR]
              have p15 : (0 : Int) ≤ 15 ∧ (15 : Int) ≤ 1000000 ∧ (10 : Int).natAbs < 2 ^ 64 := by decide
              have v15 : (10 : Int) ^ (15 : Int).toNat = 1000000000000000 := by decide
              obtain ⟨rv, q2, hrule⟩ : ∃ rv, run G (k + 3) st.length i__law_rule [tbD t, c] st = .ok rv st ∧ ∀ x : Str, eqD st rv (.str x) = some (decide (ruleF t c = some x)) := by
                cases hru : ruleF t c with
                | none =>
                  rw [hru] at q2
                  exact ⟨_, q2, fun x => by simp [eqD_nonS]⟩
                | some r =>
                  rw [hru] at q2
                  exact ⟨_, q2, fun x => by rw [eqD_str]; simp⟩
              have hno : ∀ x, ¬ ruleF t c = some x → rulesF w = [x] → R = false := fun x h1 h2 => by
                rw [← hR]
                unfold setF
                cases hru : ruleF t c with
                | none => rfl
                | some r => 
                  dsimp only
                  rw [h2, decide_eq_false (fun z => h1 (by rw [hru, List.mem_singleton.mp z])), Bool.false_and]
              have hyes : ∀ x, ruleF t c = some x → x ∈ rulesF w → R = valF x w v := fun x h1 h2 => by
                rw [← hR]
                unfold setF
                rw [h1]
                dsimp only
                rw [decide_eq_true h2, Bool.true_and]
              by_cases hg : w = (S [103, 105, 118, 101])
              · have hl6 : (((c :: v :: r).length : Int) + 3) = 6 := by rw [if_pos hg] at hlen; exact hlen
                have hw : w ∈ wds := by rw [hg]; decide
                have hru : rulesF w = [(S [115, 104, 97, 114, 101])] := by rw [hg]; rfl
                rw [decide_eq_true hw, hdw (decide_eq_true hw), Bool.true_and, Bool.true_and]
                have w1 : ¬ w = (S [112, 117, 116]) := fun z => by rw [z] at hg; revert hg; decide
                have w2 : ¬ w = (S [97, 100, 100]) := fun z => by rw [z] at hg; revert hg; decide
                have w3 : ¬ w = (S [114, 97, 105, 115, 101]) := fun z => by rw [z] at hg; revert hg; decide
                have w4 : ¬ w ∈ [(S [106, 111, 105, 110]), (S [112, 97, 114, 116])] := fun z => by rw [hg] at z; revert z; decide
                have w5 : w ∈ [(S [102, 105, 108, 108]), (S [116, 97, 107, 101]), (S [103, 105, 118, 101])] := by rw [hg]; decide
                by_cases r1 : ruleF t c = some (S [115, 104, 97, 114, 101])
                · have e : R = isIntB 0 1000000000000000 v := by rw [hyes _ r1 (by rw [hru]; simp), hg]; rfl
                  rw [e]
                  rcases r with _ | ⟨sx, r⟩
                  · simp at hl6
                  obtain ⟨hsx, _⟩ := thgs_cons.mp hr4
                  have q6 := r_law_is_int (k := k + 2) (fl := st.length) (st := st) (lo := 0) (hi := s - 1) hsx
                  have el : lastF w (s - 1) (sx :: r) = isIntB 0 (s - 1) sx := by unfold lastF; rw [decide_eq_true hg]; rfl
                  rw [el]
                  cases hb : isIntB 0 1000000000000000 v with
                  | true =>
                    rw [hb] at q5
                    simp! only [-Ev.bi_len, -List.length_cons, lenN hN, h3, ht, nn, hkd, q1, eq_false hdr, eq_true hg, eq_true hl6, q2, at4w, at5w, eq_false w1, eq_false w2, eq_false w3, memT2, memT3, decide_eq_false w4, decide_eq_true w5, hrule, p15, v15, decide_eq_true r1, q5, q6, Bool.true_and]
                  | false =>
                    rw [hb] at q5
                    simp! only [-Ev.bi_len, -List.length_cons, lenN hN, h3, ht, nn, hkd, q1, eq_false hdr, eq_true hg, eq_true hl6, q2, at4w, at5w, eq_false w1, eq_false w2, eq_false w3, memT2, memT3, decide_eq_false w4, decide_eq_true w5, hrule, p15, v15, decide_eq_true r1, q5, Bool.false_and]
                · rw [hno _ r1 hru]
                  simp! only [-Ev.bi_len, -List.length_cons, lenN hN, h3, ht, nn, hkd, q1, eq_false hdr, eq_true hg, eq_true hl6, q2, at4w, at5w, eq_false w1, eq_false w2, eq_false w3, memT2, memT3, decide_eq_false w4, decide_eq_true w5, hrule, p15, v15, decide_eq_false r1, Bool.false_and]
              have hl5 : (((c :: v :: r).length : Int) + 3) = 5 := by rw [if_neg hg] at hlen; exact hlen
              have el : lastF w (s - 1) r = true := by unfold lastF; rw [decide_eq_false hg]; rfl
              rw [el, Bool.and_true]
              by_cases w1 : w = (S [112, 117, 116])
              · have hw : w ∈ wds := by rw [w1]; decide
                rw [decide_eq_true hw, hdw (decide_eq_true hw), Bool.true_and, Bool.true_and]
                have hru : rulesF w = [(S [119, 111, 114, 100]), (S [110, 117, 109, 98, 101, 114])] := by rw [w1]; rfl
                by_cases r1 : ruleF t c = some (S [119, 111, 114, 100])
                · have r2 : ¬ ruleF t c = some (S [110, 117, 109, 98, 101, 114]) := fun z => by rw [r1] at z; revert z; decide
                  have e : R = isWord v := by rw [hyes _ r1 (by rw [hru]; simp), w1]; rfl
                  rw [e]
                  cases hb : isWord v with
                  | true =>
                    rw [hb] at q3
                    simp! only [-Ev.bi_len, -List.length_cons, lenN hN, h3, ht, nn, hkd, q1, eq_false hdr, eq_false hg, eq_true hl5, q2, at4w, hrule, p15, v15, eq_true w1, decide_eq_true r1, q3]
                  | false =>
                    rw [hb] at q3
                    simp! only [-Ev.bi_len, -List.length_cons, lenN hN, h3, ht, nn, hkd, q1, eq_false hdr, eq_false hg, eq_true hl5, q2, at4w, hrule, p15, v15, eq_true w1, decide_eq_true r1, decide_eq_false r2, q3]
                · by_cases r2 : ruleF t c = some (S [110, 117, 109, 98, 101, 114])
                  · have e : R = isIntB (-1000000000000000) 1000000000000000 v := by rw [hyes _ r2 (by rw [hru]; simp), w1, ← isNum_eq]; rfl
                    rw [e]
                    simp! only [-Ev.bi_len, -List.length_cons, lenN hN, h3, ht, nn, hkd, q1, eq_false hdr, eq_false hg, eq_true hl5, q2, at4w, hrule, p15, v15, eq_true w1, decide_eq_false r1, decide_eq_true r2, q4, Int.reduceNeg]
                  · have e : R = false := by
                      rw [← hR]
                      unfold setF
                      cases hru2 : ruleF t c with
                      | none => rfl
                      | some u =>
                        dsimp only
                        rw [hru, decide_eq_false (fun z => by
                          simp only [List.mem_cons, List.not_mem_nil, or_false] at z
                          rcases z with z | z
                          · exact r1 (by rw [hru2, z])
                          · exact r2 (by rw [hru2, z])), Bool.false_and]
                    rw [e]
                    simp! only [-Ev.bi_len, -List.length_cons, lenN hN, h3, ht, nn, hkd, q1, eq_false hdr, eq_false hg, eq_true hl5, q2, at4w, hrule, p15, v15, eq_true w1, decide_eq_false r1, decide_eq_false r2]
              by_cases w2 : w = (S [97, 100, 100])
              · have hw : w ∈ wds := by rw [w2]; decide
                rw [decide_eq_true hw, hdw (decide_eq_true hw), Bool.true_and, Bool.true_and]
                have hru : rulesF w = [(S [115, 117, 109])] := by rw [w2]; rfl
                by_cases r1 : ruleF t c = some (S [115, 117, 109])
                · have e : R = isIntB (-1000000000000000) 1000000000000000 v := by rw [hyes _ r1 (by rw [hru]; simp)]; rw [w2, ← isNum_eq]; rfl
                  rw [e]
                  simp! only [-Ev.bi_len, -List.length_cons, lenN hN, h3, ht, nn, hkd, q1, eq_false hdr, eq_false hg, eq_true hl5, q2, at4w, hrule, p15, v15, eq_false w1, eq_true w2, decide_eq_true r1, q4, Int.reduceNeg]
                · rw [hno _ r1 hru]
                  simp! only [-Ev.bi_len, -List.length_cons, lenN hN, h3, ht, nn, hkd, q1, eq_false hdr, eq_false hg, eq_true hl5, q2, at4w, hrule, p15, v15, eq_false w1, eq_true w2, decide_eq_false r1]
              by_cases w3 : w = (S [114, 97, 105, 115, 101])
              · have hw : w ∈ wds := by rw [w3]; decide
                rw [decide_eq_true hw, hdw (decide_eq_true hw), Bool.true_and, Bool.true_and]
                have hru : rulesF w = [(S [109, 111, 115, 116])] := by rw [w3]; rfl
                by_cases r1 : ruleF t c = some (S [109, 111, 115, 116])
                · have e : R = isIntB 0 1000000000000000 v := by rw [hyes _ r1 (by rw [hru]; simp)]; rw [w3]; rfl
                  rw [e]
                  simp! only [-Ev.bi_len, -List.length_cons, lenN hN, h3, ht, nn, hkd, q1, eq_false hdr, eq_false hg, eq_true hl5, q2, at4w, hrule, p15, v15, eq_false w1, eq_false w2, eq_true w3, decide_eq_true r1, q5]
                · rw [hno _ r1 hru]
                  simp! only [-Ev.bi_len, -List.length_cons, lenN hN, h3, ht, nn, hkd, q1, eq_false hdr, eq_false hg, eq_true hl5, q2, at4w, hrule, p15, v15, eq_false w1, eq_false w2, eq_true w3, decide_eq_false r1]
              by_cases w4 : w ∈ [(S [106, 111, 105, 110]), (S [112, 97, 114, 116])]
              · have hw : w ∈ wds := by simp only [List.mem_cons, List.not_mem_nil, or_false] at w4; rcases w4 with z | z <;> rw [z] <;> decide
                rw [decide_eq_true hw, hdw (decide_eq_true hw), Bool.true_and, Bool.true_and]
                have hru : rulesF w = [(S [108, 111, 116])] := by simp only [List.mem_cons, List.not_mem_nil, or_false] at w4; rcases w4 with z | z <;> rw [z] <;> rfl
                by_cases r1 : ruleF t c = some (S [108, 111, 116])
                · have e : R = isWord v := by rw [hyes _ r1 (by rw [hru]; simp)]; rfl
                  rw [e]
                  simp! only [-Ev.bi_len, -List.length_cons, lenN hN, h3, ht, nn, hkd, q1, eq_false hdr, eq_false hg, eq_true hl5, q2, at4w, hrule, p15, v15, eq_false w1, eq_false w2, eq_false w3, memT2, decide_eq_true w4, decide_eq_true r1, q3]
                · rw [hno _ r1 hru]
                  simp! only [-Ev.bi_len, -List.length_cons, lenN hN, h3, ht, nn, hkd, q1, eq_false hdr, eq_false hg, eq_true hl5, q2, at4w, hrule, p15, v15, eq_false w1, eq_false w2, eq_false w3, memT2, decide_eq_true w4, decide_eq_false r1]
              by_cases w5 : w ∈ [(S [102, 105, 108, 108]), (S [116, 97, 107, 101]), (S [103, 105, 118, 101])]
              · have hw : w ∈ wds := by simp only [List.mem_cons, List.not_mem_nil, or_false] at w5; rcases w5 with z | z | z <;> rw [z] <;> decide
                rw [decide_eq_true hw, hdw (decide_eq_true hw), Bool.true_and, Bool.true_and]
                have hru : rulesF w = [(S [115, 104, 97, 114, 101])] := by simp only [List.mem_cons, List.not_mem_nil, or_false] at w5; rcases w5 with z | z | z <;> rw [z] <;> rfl
                by_cases r1 : ruleF t c = some (S [115, 104, 97, 114, 101])
                · have e : R = isIntB 0 1000000000000000 v := by rw [hyes _ r1 (by rw [hru]; simp)]; simp only [List.mem_cons, List.not_mem_nil, or_false] at w5; rcases w5 with z | z | z <;> rw [z] <;> rfl
                  rw [e]
                  cases hb : isIntB 0 1000000000000000 v with
                  | true =>
                    rw [hb] at q5
                    simp! only [-Ev.bi_len, -List.length_cons, lenN hN, h3, ht, nn, hkd, q1, eq_false hdr, eq_false hg, eq_true hl5, q2, at4w, hrule, p15, v15, eq_false w1, eq_false w2, eq_false w3, memT2, memT3, decide_eq_false w4, decide_eq_true w5, decide_eq_true r1, q5]
                  | false =>
                    rw [hb] at q5
                    simp! only [-Ev.bi_len, -List.length_cons, lenN hN, h3, ht, nn, hkd, q1, eq_false hdr, eq_false hg, eq_true hl5, q2, at4w, hrule, p15, v15, eq_false w1, eq_false w2, eq_false w3, memT2, memT3, decide_eq_false w4, decide_eq_true w5, decide_eq_true r1, q5]
                · rw [hno _ r1 hru]
                  simp! only [-Ev.bi_len, -List.length_cons, lenN hN, h3, ht, nn, hkd, q1, eq_false hdr, eq_false hg, eq_true hl5, q2, at4w, hrule, p15, v15, eq_false w1, eq_false w2, eq_false w3, memT2, memT3, decide_eq_false w4, decide_eq_true w5, decide_eq_false r1]
              have hw : ¬ w ∈ wds := fun z => by
                simp only [wds, List.mem_cons, List.not_mem_nil, or_false] at z
                simp only [List.mem_cons, List.not_mem_nil, or_false] at w4 w5
                rcases z with z | z | z | z | z | z | z | z | z
                · exact w1 z
                · exact w2 z
                · exact w3 z
                · exact w4 (.inl z)
                · exact w4 (.inr z)
                · exact w5 (.inl z)
                · exact w5 (.inr (.inl z))
                · exact hg z
                · exact hdr z
              rw [decide_eq_false hw, Bool.false_and]
              simp! only [-Ev.bi_len, -List.length_cons, lenN hN, h3, ht, nn, hkd, q1, eq_false hdr, eq_false hg, eq_true hl5, q2, at4w, hrule, p15, v15, eq_false w1, eq_false w2, eq_false w3, memT2, memT3, decide_eq_false w4, decide_eq_false w5]
            · have hnw : (decide (w ∈ wds) && (decide ((r.length : Int) + 3 = sizeF w) && restF t w (s - 1) r)) = false := by
                by_cases hw : w ∈ wds
                · rw [decide_eq_false (by rw [hsz hw]; exact hlen : ¬ (r.length : Int) + 3 = sizeF w), Bool.false_and, Bool.and_false]
                · rw [decide_eq_false hw, Bool.false_and]
              rw [hnw]
              by_cases hg : w = (S [103, 105, 118, 101])
              · rw [if_pos hg] at hlen
                have hl6 : ¬ (r.length : Int) + 3 = 6 := hlen
                simp! only [-Ev.bi_len, -List.length_cons, lenN hN, h3, ht, nn, hkd, q1, eq_false hdr, eq_true hg, eq_false hl6]
              · rw [if_neg hg] at hlen
                have hl5 : ¬ (r.length : Int) + 3 = 5 := hlen
                simp! only [-Ev.bi_len, -List.length_cons, lenN hN, h3, ht, nn, hkd, q1, eq_false hdr, eq_false hg, eq_false hl5]
    | _ =>
      first
        | (simp! only [-Ev.bi_len, -List.length_cons, lenN hN, h3, chF]; done)
        | (cases m <;> simp [thg] at hh)
  | _ =>
    first
      | (simp! only [chF]; done)
      | (cases n <;> simp [thg] at hd)
end
/-! ### the first that is no change -/
section
variable {k fl L n : Nat} {T : List Tb} {st : Sto}
def badF (T : List Tb) (m : Int) (xs : List D) : Option Nat := xs.findIdx? fun x => !chF T m x
theorem chk_loop {s : Int} {xs : List D} (hT : ∀ t ∈ T, TbOk t) (hTl : T.length ≤ 1000) (hxs : thgs L n xs = true) (hn : n ≤ 40) : ∀ (m i : Nat) (y : Option D), i + m = xs.length →
    (∃ z, forGo (fb G (run G (k + 4) fl) fl (.one 3) b_check_changes_l1) ((List.range' i m).map fun j : Nat => D.int (j : Int)) [some (schD T), some (.int s), some (.tup xs), y] st = match badF T (s - 1) (xs.drop i) with
      | some j => if small62 ((i + j : Nat) : Int) = true then .exc x_BadChange [(0, .int ((i + j : Nat) : Int))] [some (schD T), some (.int s), some (.tup xs), some (.int ((i + j : Nat) : Int))] st else .bad
      | none => .next [some (schD T), some (.int s), some (.tup xs), z] st) ∧
    (∃ z, forGo (fb G (run G (k + 4) fl) fl (.one 3) b__law_due_l1) ((List.range' i m).map fun j : Nat => D.int (j : Int)) [some (schD T), some (.int s), some (.tup xs), y] st = match badF T (s - 1) (xs.drop i) with
      | some j => .ret (.int ((i + j : Nat) : Int)) st
      | none => .next [some (schD T), some (.int s), some (.tup xs), z] st)
  | 0, i, y, h => by
    rw [List.drop_of_length_le (by omega)]
    exact ⟨⟨y, rfl⟩, ⟨y, rfl⟩⟩
  | m + 1, i, y, h => by
    obtain ⟨⟨z1, ih1⟩, ⟨z2, ih2⟩⟩ := chk_loop (s := s) hT hTl hxs hn m (i + 1) (some (.int (i : Int))) (by omega)
    have hi : i < xs.length := by omega
    have hat : atI xs (i : Int) = some xs[i] := by rw [atI_of (by omega), Int.toNat_natCast]; exact List.getElem?_eq_getElem hi
    have hx := thgs_mem.mp hxs xs[i] (List.getElem_mem hi)
    have q1 := r_is_changeD (k := k) (fl := fl) (st := st) (s := s) hT hTl hx hn
    have q2 := r_law_is_changeD (k := k) (fl := fl) (st := st) (s := s) hT hTl hx hn
    have e : badF T (s - 1) (xs.drop i) = if chF T (s - 1) xs[i] = true then (badF T (s - 1) (xs.drop (i + 1))).map (· + 1) else some 0 := by
      rw [List.drop_eq_getElem_cons hi]
      unfold badF
      rw [List.findIdx?_cons]
      cases chF T (s - 1) xs[i] <;> simp
    rw [e, List.range'_succ, List.map_cons, forGo, forGo, fb_one, fb_one]
    simp only [List.set_cons_succ, List.set_cons_zero]
    have step1 : evSs G (run G (k + 4) fl) fl b_check_changes_l1 [some (schD T), some (.int s), some (.tup xs), some (.int (i : Int))] st = if chF T (s - 1) xs[i] = true then .next [some (schD T), some (.int s), some (.tup xs), some (.int (i : Int))] st else (if small62 (i : Int) = true then .exc x_BadChange [(0, .int (i : Int))] [some (schD T), some (.int s), some (.tup xs), some (.int (i : Int))] st else .bad) := by
      unfold b_check_changes_l1
      cases hc : chF T (s - 1) xs[i] with
      | true =>
        rw [hc] at q1
        simp! only [hat, q1]
      | false =>
        rw [hc] at q1
        simp! only [hat, q1]
        split <;> rfl
    have step2 : evSs G (run G (k + 4) fl) fl b__law_due_l1 [some (schD T), some (.int s), some (.tup xs), some (.int (i : Int))] st = if chF T (s - 1) xs[i] = true then .next [some (schD T), some (.int s), some (.tup xs), some (.int (i : Int))] st else .ret (.int (i : Int)) st := by
      unfold b__law_due_l1
      cases hc : chF T (s - 1) xs[i] with
      | true =>
        rw [hc] at q2
        simp! only [hat, q2]
      | false =>
        rw [hc] at q2
        simp! only [hat, q2]
    rw [step1, step2]
    by_cases h1 : chF T (s - 1) xs[i] = true
    · rw [if_pos h1, if_pos h1, if_pos h1, OutS.turn_next, OutS.turn_next, ih1, ih2]
      cases badF T (s - 1) (xs.drop (i + 1)) with
      | none => exact ⟨⟨z1, rfl⟩, ⟨z2, rfl⟩⟩
      | some j =>
        rw [Option.map_some]
        dsimp only
        rw [show i + (j + 1) = i + 1 + j by omega]
        exact ⟨⟨z1, rfl⟩, ⟨z2, rfl⟩⟩
    · rw [if_neg h1, if_neg h1, if_neg h1]
      simp only [Nat.add_zero]
      refine ⟨⟨y, ?_⟩, ⟨y, rfl⟩⟩
      split <;> rfl
def toldD (T : List Tb) (m : Int) (d : D) : D := match d with
  | .tup xs => (match badF T m xs with
    | some j => .int (j : Int)
    | none => .non)
  | _ => .int (-1)
theorem toldD_none {m : Int} {xs : List D} (h : badF T m xs = none) : toldD T m (.tup xs) = .non := by
  unfold toldD
  dsimp only
  rw [h]
theorem toldD_some {m : Int} {xs : List D} {j : Nat} (h : badF T m xs = some j) : toldD T m (.tup xs) = .int (j : Int) := by
  unfold toldD
  dsimp only
  rw [h]
theorem badF_lt {m : Int} {xs : List D} {j : Nat} (h : badF T m xs = some j) : j < xs.length := by
  unfold badF at h
  exact (List.findIdx?_eq_some_iff_findIdx_eq.mp h).1
theorem told_h {i : Int} {a b c d : Option D} : evH G (.cons x_BadChange (some 3) (.ifR (.orS (.nt (.isE x_CutError)) (.isE x_Failed)) (.str (S [111, 116, 104, 101, 114])) (.ret .ix)) .nil) x_BadChange [(0, .int i)] [a, b, c, d] st = .ret (.int i) st := rfl
theorem r_check {d : D} {s : Int} (hT : ∀ t ∈ T, TbOk t) (hTl : T.length ≤ 1000) (hL : L ≤ 1000) (hd : thg L n d = true) (hn : n ≤ 40) :
    run G (k + 5) fl i_check_changes [schD T, .int s, d] st = match toldD T (s - 1) d with | .int i => .exc x_BadChange [(0, .int i)] st | _ => .ok .non st := by
  have hexc : ∀ {ρ i}, evSs G (run G (k + 4) st.length) st.length b_check_changes [some (schD T), some (.int s), some d, none] st = .exc x_BadChange [(0, .int i)] ρ st → run G (k + 5) fl i_check_changes [schD T, .int s, d] st = .exc x_BadChange [(0, .int i)] st := fun {ρ i} h => by
    have := run_exc (k := k + 4) (f := i_check_changes) (fl := fl) (F := f_check_changes) (ds := [schD T, .int s, d]) rfl rfl rfl h
    rw [this, List.take_length]
  have sm : small62 (-1) = true := by decide
  cases d with
  | tup xs =>
    obtain ⟨m, rfl, hl, hxs⟩ := thg_tup.mp hd
    obtain ⟨⟨z, h⟩, _⟩ := chk_loop (k := k) (fl := st.length) (st := st) (s := s) hT hTl hxs (by omega) xs.length 0 none (by omega)
    rw [List.drop_zero] at h
    have s1 : small62 (xs.length : Int) = true := small62_n (by omega)
    cases hb : badF T (s - 1) xs with
    | none =>
      rw [hb] at h
      rw [toldD_none hb]
      dsimp only
      refine run_nx (F := f_check_changes) rfl rfl rfl (?_ : evSs G (run G (k + 4) st.length) st.length b_check_changes [some (schD T), some (.int s), some (.tup xs), none] st = .next [some (schD T), some (.int s), some (.tup xs), z] st)
      unfold b_check_changes
      simp! only [s1, rng_range', h]
    | some j =>
      have hj := badF_lt hb
      have s2 : small62 ((0 + j : Nat) : Int) = true := small62_n (by omega)
      rw [hb] at h
      rw [toldD_some hb]
      dsimp only at h ⊢
      rw [if_pos s2, Nat.zero_add] at h
      refine hexc (ρ := [some (schD T), some (.int s), some (.tup xs), some (.int (j : Int))]) ?_
      unfold b_check_changes
      simp! only [s1, rng_range', h]
  | non =>
    exact hexc (ρ := [some (schD T), some (.int s), some (.non), none]) (by
      unfold b_check_changes
      simp! only [Int.reduceNeg, sm])
  | bl b =>
    exact hexc (ρ := [some (schD T), some (.int s), some (.bl b), none]) (by
      unfold b_check_changes
      simp! only [Int.reduceNeg, sm])
  | int x =>
    exact hexc (ρ := [some (schD T), some (.int s), some (.int x), none]) (by
      unfold b_check_changes
      simp! only [Int.reduceNeg, sm])
  | str x =>
    exact hexc (ρ := [some (schD T), some (.int s), some (.str x), none]) (by
      unfold b_check_changes
      simp! only [Int.reduceNeg, sm])
  | _ => cases n <;> simp [thg] at hd
theorem toldD_cases {m : Int} {d : D} : (∃ i, toldD T m d = .int i) ∨ toldD T m d = .non := by
  unfold toldD
  split
  · split
    · exact .inl ⟨_, rfl⟩
    · exact .inr rfl
  · exact .inl ⟨_, rfl⟩
theorem r_told {d : D} {s : Int} (hT : ∀ t ∈ T, TbOk t) (hTl : T.length ≤ 1000) (hL : L ≤ 1000) (hd : thg L n d = true) (hn : n ≤ 40) :
    run G (k + 6) fl i__law_told [schD T, .int s, d] st = .ok (toldD T (s - 1) d) st := by
  have h := r_check (k := k) (fl := st.length) (st := st) (s := s) hT hTl hL hd hn
  refine run_v (F := f__law_told) rfl rfl rfl (by rcases toldD_cases (T := T) (m := s - 1) (d := d) with ⟨i, e⟩ | e <;> rw [e] <;> rfl) ?_
  show evSs G (run G (k + 5) st.length) _ b__law_told [some (schD T), some (.int s), some d, none] st = _
  unfold b__law_told b__law_told_l1
  rcases toldD_cases (T := T) (m := s - 1) (d := d) with ⟨i, e⟩ | e
  · rw [e] at h ⊢
    dsimp only at h
    simp! only [s_try, h, told_h]
  · rw [e] at h ⊢
    dsimp only at h
    simp! only [s_try, h]
theorem r_due {d : D} {s : Int} (hT : ∀ t ∈ T, TbOk t) (hTl : T.length ≤ 1000) (hL : L ≤ 1000) (hd : thg L n d = true) (hn : n ≤ 40) :
    run G (k + 5) fl i__law_due [schD T, .int s, d] st = .ok (toldD T (s - 1) d) st := by
  refine run_v (F := f__law_due) rfl rfl rfl (by rcases toldD_cases (T := T) (m := s - 1) (d := d) with ⟨i, e⟩ | e <;> rw [e] <;> rfl) ?_
  show evSs G (run G (k + 4) st.length) _ b__law_due [some (schD T), some (.int s), some d, none] st = _
  unfold b__law_due
  cases d with
  | tup xs =>
    obtain ⟨m, rfl, hl, hxs⟩ := thg_tup.mp hd
    obtain ⟨_, ⟨z, h⟩⟩ := chk_loop (k := k) (fl := st.length) (st := st) (s := s) hT hTl hxs (by omega) xs.length 0 none (by omega)
    rw [List.drop_zero] at h
    have s1 : small62 (xs.length : Int) = true := small62_n (by omega)
    cases hb : badF T (s - 1) xs with
    | none =>
      rw [hb] at h
      rw [toldD_none hb]
      simp! only [s1, rng_range', h]
    | some j =>
      rw [hb] at h
      rw [toldD_some hb]
      dsimp only at h
      rw [Nat.zero_add] at h
      simp! only [s1, rng_range', h]
  | _ =>
    first
      | (simp! only [Int.reduceNeg, toldD]; done)
      | (cases n <;> simp [thg] at hd)
theorem toldD_eq {m : Int} {d : D} : eqD st (toldD T m d) (toldD T m d) = some true := by
  rcases toldD_cases (T := T) (m := m) (d := d) with ⟨i, e⟩ | e <;> rw [e]
  · rw [eqD_int]; simp
  · rfl
end
/-! ### the law -/
theorem wds_len : ∀ w, (wds.getD w (S [])).length ≤ 1000 := fun w => by
  by_cases h : w < 9
  · have : ∀ w, w < 9 → (wds.getD w (S [])).length ≤ 1000 := by decide +kernel
    exact this w h
  · rw [List.getD_eq_getElem?_getD, List.getElem?_eq_none (by show 9 ≤ w; omega)]
    decide
theorem Ch.thg {T : List Tb} {n : Nat} {c : Ch} (hT : SchOk T) (h : ChOk T n c) : Law.thg 100 2 (c.d T) = true := by
  have nm : ∀ {i}, i < T.length → (tbAt T i).name.length ≤ 1000 := fun hi => (hT.ok _ (tbAt_mem hi)).name
  have cn : ∀ {i j}, i < T.length → j < (tbAt T i).cols.length → (coAt (tbAt T i) j).1.length ≤ 1000 := fun hi hj => ((hT.ok _ (tbAt_mem hi)).cols _ (List.mem_of_getElem? (coAt_get hj))).1
  cases c with
  | drop i o =>
    obtain ⟨hi, ho⟩ := h
    have h1 := okV_thg ho
    have h2 := nm hi
    simp [Ch.d, Law.thg, thgs, h1, h2]
    decide
  | set w i o j v =>
    obtain ⟨hi, ho, hj, hv⟩ := h
    have h1 := okV_thg ho
    have h2 := nm hi
    have h3 := cn hi hj
    have h4 := okV_thg hv.1
    have h5 := wds_len w
    simp only [Ch.d, Law.thg, thgs, h1, h4, decide_eq_true h2, decide_eq_true h3, decide_eq_true h5]
    rfl
  | give i o j v s =>
    obtain ⟨hi, ho, hj, hrr, hv, hv0, hs⟩ := h
    have h1 := okV_thg ho
    have h2 := nm hi
    have h3 := cn hi hj
    have h4 := okV_thg hv
    simp only [Ch.d, Law.thg, thgs, h1, h4, decide_eq_true h2, decide_eq_true h3]
    rfl
theorem ch_true {T : List Tb} {n : Nat} {c : Ch} (hT : SchOk T) (hTl : T.length ≤ 1000) (hn : n ≤ 100) (h : ChOk T n c) : chF T ((n : Int) - 1) (c.d T) = true := by
  have h1 := r_is_change (k := 0) (fl := 0) (st := []) hT hn h
  rw [r_is_changeD hT.ok hTl (Ch.thg hT h) (by omega)] at h1
  injection h1 with h2
  injection h2
section
variable {T : List Tb} {rw : List Nat} {n : Nat}
theorem lc_chs1 {a m : Nat} {x0 x2 x5 x6 x7 x8 : Option D} (hT : SchG T) (hn : 0 < n) (hn2 : n ≤ 100) (hr : rw.length = 400) : ∃ (rs : List Ch) (a' : Nat), lcGo (lb G (run G 39 0) 0 [x0, some (.ref 0), x2, some (schD T), some (.int (n : Int)), x5, x6, x7, x8] [6] (.one 6) .nil b_law_c1) (rng 0 (m : Int)) [dcell rw a] = .ok (rs.map (Ch.d T)) [dcell rw a'] ∧ rs.length = m ∧ (∀ r ∈ rs, ChOk T n r) := by
  obtain ⟨ds, st', e1, rs, a', q1, q2, q3, q5⟩ := lcGo_inv (f := lb G (run G 39 0) 0 [x0, some (.ref 0), x2, some (schD T), some (.int (n : Int)), x5, x6, x7, x8] [6] (.one 6) .nil b_law_c1) (xs := rng 0 (m : Int)) (fun i ds st => ∃ (rs : List Ch) (a' : Nat), ds = rs.map (Ch.d T) ∧ st = [dcell rw a'] ∧ rs.length = i ∧ ∀ r ∈ rs, ChOk T n r) (st := [dcell rw a]) ⟨[], a, rfl, rfl, rfl, by simp⟩ (by
    intro i x hx ds st ⟨rs, a', q1, q2, q3, q5⟩
    subst q1 q2
    obtain ⟨r, a'', e1, hok, hle⟩ := r_law_change (k := 36) (fl := 0) (a := a') (n := n) (e := []) hT hn hn2 hr
    refine ⟨some (r.d T), [dcell rw a''], ?_, rs ++ [r], a'', by simp, rfl, by simp [q3], fun z hz => by
      rcases List.mem_append.mp hz with h | h
      · exact q5 z h
      · rw [List.mem_singleton.mp h]; exact hok⟩
    unfold b_law_c1
    simp! only [e1])
  subst q1 q2
  rw [rng_len, show ((m : Int) - 0).toNat = m by omega] at q3
  exact ⟨rs, a', e1, q3, q5⟩
theorem law_l2 (hT : ∀ t ∈ T, TbOk t) (hTl : T.length ≤ 3) (hr : rw.length = 400) {q : D} (hq : thg 100 3 q = true) {a : Nat} {s : Int} {y0 y2 y6 y7 y8 : Option D} :
    ∃ a' z7 z8, evSs G (run G 39 0) 0 b_law_l2 [y0, some (.ref 0), y2, some (schD T), some (.int s), some q, y6, y7, y8] [dcell rw a] = .next [y0, some (.ref 0), y2, some (schD T), some (.int s), some q, y6, z7, z8] [dcell rw a'] := by
  obtain ⟨m, hm⟩ : ∃ m : Nat, 1 + tk rw a % 2 = m := ⟨_, rfl⟩
  have hm' : (1 : Int) + (tk rw a : Int) % 2 = (m : Int) := by omega
  have sm : small62 (m : Int) = true := small62_n (by omega)
  have hz : SZ = 16777216 := rfl
  have lm : ((m : Int) - 0).toNat ≤ SZ := by omega
  have key := forGo_inv (b := fb G (run G 39 0) 0 (.one 8) b_law_l1) (xs := rng 0 (m : Int)) (fun i ρ st => ∃ x y8 a', ρ = [y0, some (.ref 0), y2, some (schD T), some (.int s), some q, y6, some x, y8] ∧ st = [dcell rw a'] ∧ thg (100 + i) 6 x = true)
    (ρ := [y0, some (.ref 0), y2, some (schD T), some (.int s), some q, y6, some q, y8]) (st := [dcell rw (a + 1)]) ⟨q, y8, a + 1, rfl, rfl, thg_mono (by omega) q 3 6 (by omega) hq⟩ (by
      intro i v hv ρ st ⟨x, y8, a', h1, h2, h4⟩
      obtain ⟨hi, rfl⟩ := rng_get hv
      subst h1 h2
      obtain ⟨u, hu⟩ : ∃ u : Nat, tk rw a' % 4 = u := ⟨_, rfl⟩
      have hu' : (tk rw a' : Int) % 4 = (u : Int) := by omega
      obtain ⟨d', a'', e1, e2, e3⟩ := r_spoilt hr u (37 - u) 0 6 (100 + i) (a' + 1) x h4 (by omega) (by omega)
      rw [show 37 - u + u + 2 = 39 by omega] at e1
      refine ⟨_, _, .inl ?_, d', some (.int (0 + (i : Int))), a'', rfl, rfl, thg_mono (by omega) d' _ 6 (by omega) e2⟩
      rw [fb_one]
      unfold b_law_l1
      simp! only [r_take1 (k := 38) hr, show (0 : Int) < 4 by decide, hu', e1])
  obtain ⟨ρ, st, ef, x, y8', a', h1, h2, h4⟩ := key
  subst h1 h2
  rw [rng_len] at h4
  have hx := thg_mono (M := 200) (by omega) x _ 6 (Nat.le_refl _) h4
  have h5 := r_told (k := 33) (fl := 0) (st := [dcell rw a']) (T := T) (d := x) (s := s) hT (by omega) (by omega : 200 ≤ 1000) hx (by omega)
  have h6 := r_due (k := 34) (fl := 0) (st := [dcell rw a']) (T := T) (d := x) (s := s) hT (by omega) (by omega : 200 ≤ 1000) hx (by omega)
  refine ⟨a', some x, y8', ?_⟩
  unfold b_law_l2
  simp! only [r_take1 (k := 38) hr, show (0 : Int) < 2 by decide, hm', sm, lm, ef, h5, h6, toldD_eq]
theorem law_l3 (hr : rw.length = 400) {a : Nat} {y0 y2 y3 y4 y5 y6 y7 y8 : Option D} (hy6 : True) :
    ∃ a' z3 z4 z5 z6 z7 z8, evSs G (run G 39 0) 0 b_law_l3 [y0, some (.ref 0), y2, y3, y4, y5, y6, y7, y8] [dcell rw a] = .next [y0, some (.ref 0), y2, z3, z4, z5, z6, z7, z8] [dcell rw a'] := by
  have hz : SZ = 16777216 := rfl
  obtain ⟨T, a0, hs, hTn, hTl, hTd, hN, ha0⟩ := r_schema (k := 37) (fl := 0) (rw := rw) (a := a) hr
  have hT0 : 0 < T.length := List.length_pos_iff.mpr hTn
  have hTG : SchG T := ⟨⟨by omega, hN, fun t ht => (hTd t ht).ok, fun t ht => (hTd t ht).g.nodup⟩, hT0, fun t ht => (hTd t ht).g⟩
  have hT := hTG.ok
  obtain ⟨n, hn⟩ : ∃ n : Nat, 1 + tk rw a0 % 4 = n := ⟨_, rfl⟩
  have hn' : (1 : Int) + (tk rw a0 : Int) % 4 = (n : Int) := by omega
  obtain ⟨m, hm⟩ : ∃ m : Nat, tk rw (a0 + 1) % 6 = m := ⟨_, rfl⟩
  have hm' : (tk rw (a0 + 1) : Int) % 6 = (m : Int) := by omega
  have sm : small62 (m : Int) = true := small62_n (by omega)
  have lm : ((m : Int) - 0).toNat ≤ SZ := by omega
  obtain ⟨rs, a1, e1, hrl, hrs⟩ := lc_chs1 (n := n) (a := a0 + 1 + 1) (m := m) (x0 := y0) (x2 := y2) (x5 := y5) (x6 := y6) (x7 := y7) (x8 := y8) hTG (by omega) (by omega) hr
  have hq : thg 100 3 (.tup (rs.map (Ch.d T))) = true := by
    rw [thg, List.length_map, decide_eq_true (by omega), Bool.true_and]
    exact thgs_mem.mpr fun x hx => by
      obtain ⟨c, hc, rfl⟩ := List.mem_map.mp hx
      exact Ch.thg hT (hrs c hc)
  have h5 := r_told (k := 33) (fl := 0) (st := [dcell rw a1]) (T := T) (d := .tup (rs.map (Ch.d T))) (s := (n : Int)) hT.ok (by omega) (by omega : 100 ≤ 1000) hq (by omega)
  rw [toldD_none (by
    unfold badF
    rw [List.findIdx?_eq_none_iff]
    intro x hx
    obtain ⟨c, hc, rfl⟩ := List.mem_map.mp hx
    rw [ch_true hT (by omega) (by omega) (hrs c hc)]
    rfl)] at h5
  have key := forGo_inv (b := fb G (run G 39 0) 0 (.one 6) b_law_l2) (xs := rng 0 8) (fun i ρ st => ∃ y6 y7 y8 a', ρ = [y0, some (.ref 0), y2, some (schD T), some (.int (n : Int)), some (.tup (rs.map (Ch.d T))), y6, y7, y8] ∧ st = [dcell rw a'])
    (ρ := [y0, some (.ref 0), y2, some (schD T), some (.int (n : Int)), some (.tup (rs.map (Ch.d T))), y6, y7, y8]) (st := [dcell rw a1]) ⟨y6, y7, y8, a1, rfl, rfl⟩ (by
      intro i v hv ρ st ⟨y6, y7, y8, a', h1, h2⟩
      subst h1 h2
      obtain ⟨a'', z7, z8, f1⟩ := law_l2 (y0 := y0) (y2 := y2) (y6 := some v) (y7 := y7) (y8 := y8) (a := a') (s := (n : Int)) hT.ok hTl hr hq
      rw [fb_one]
      simp only [List.set_cons_succ, List.set_cons_zero]
      exact ⟨_, _, .inl f1, some v, z7, z8, a'', rfl, rfl⟩)
  obtain ⟨ρ, st, ef, y6', y7', y8', a', h1, h2⟩ := key
  subst h1 h2
  refine ⟨a', some (schD T), some (.int (n : Int)), some (.tup (rs.map (Ch.d T))), y6', y7', y8', ?_⟩
  unfold b_law_l3
  have s8 : small62 8 = true := by decide +kernel
  have hrz : (rs.map (Ch.d T)).length ≤ SZ := by rw [List.length_map]; omega
  rw [hz] at lm
  simp! only [hs, r_take1 (k := 38) hr, show (0 : Int) < 4 by decide, show (0 : Int) < 6 by decide, hn', hm', sm, hz, lm, e1, show (rs.map (Ch.d T)).length ≤ 16777216 from hrz, h5, s8, ef]
end
theorem good : ∀ ns : List Int, ns.length ≤ 63 → ∃ st', run G 40 0 i_law [.fz (ns.map D.int)] [] = .ok (.bl true) st' := by
  intro ns hns
  have hz : SZ = 16777216 := rfl
  obtain ⟨row, hr, hb, hst⟩ := run_startB (G := G) (k := 37) (fl := 0) (f := i__law_start) (fd := i__law_draws) (F := f__law_start) (Fd := f__law_draws) (ns := ns) (many := 400) (st := []) rfl rfl rfl rfl rfl rfl rfl rfl rfl rfl hns (by decide)
  have key := forGo_inv (b := fb G (run G 39 0) 0 (.one 2) b_law_l3) (xs := rng 0 3) (fun i ρ st => ∃ a y2 y3 y4 y5 y6 y7 y8, ρ = [some (.fz (ns.map D.int)), some (.ref 0), y2, y3, y4, y5, y6, y7, y8] ∧ st = [dcell row a])
    (ρ := [some (.fz (ns.map D.int)), some (.ref 0), none, none, none, none, none, none, none]) (st := [dcell row 0]) ⟨0, _, _, _, _, _, _, _, rfl, rfl⟩ (by
      intro i x hx ρ st ⟨a, y2, y3, y4, y5, y6, y7, y8, h1, h2⟩
      subst h1 h2
      obtain ⟨a', z3, z4, z5, z6, z7, z8, f1⟩ := law_l3 (y0 := some (.fz (ns.map D.int))) (y2 := some x) (y3 := y3) (y4 := y4) (y5 := y5) (y6 := y6) (y7 := y7) (y8 := y8) (a := a) hr trivial
      rw [fb_one]
      simp only [List.set_cons_succ, List.set_cons_zero]
      exact ⟨_, _, .inl f1, a', some x, z3, z4, z5, z6, z7, z8, rfl, rfl⟩)
  obtain ⟨ρ, st, ef, a, y2, y3, y4, y5, y6, y7, y8, h1, h2⟩ := key
  subst h1 h2
  have s3 : small62 3 = true := by decide +kernel
  refine ⟨[], ?_⟩
  refine run_popS (F := f_law) (d := .bl true) (st' := [dcell row a]) rfl rfl rfl ?_ rfl
  show evSs G (run G 39 0) 0 b_law [some (.fz (ns.map D.int)), none, none, none, none, none, none, none, none] [] = _
  unfold b_law
  simp! only [hst, List.nil_append, List.length_nil, s3, hz, ef]
end Law

set_option Elab.async false
set_option linter.all false
set_option maxRecDepth 100000
set_option maxHeartbeats 8000000
namespace Law
open Ev PySem L2 PySem.Spec
open PyProof.Rows hiding St
section
variable {w : World} {K : PySem.W.Frag} {h : Heap} {mg : Str → Option Value}
theorem ff0 (c : SaysH G hdF hdX w K) (X : K.In h) (GN : h.Ns mainGlobals mg) : ∃ fd, FnFact K mg G f_is_count (He.fAd K hdD0.at_) fd ["thing", "most"] s0 "is_count" := by
  obtain ⟨fd, F⟩ := c.fun_ (j := 0) (d := hdD0) rfl (st := s0) rfl rfl rfl
  exact ⟨fd, fun _ => c.mgf X GN (j := 0) (d := hdD0) rfl rfl, F, sc0, rfl, F.binds fun _ _ _ _ _ _ us hl => match us, hl with | [_, _], _ => rfl, em0⟩
theorem ff1 (c : SaysH G hdF hdX w K) (X : K.In h) (GN : h.Ns mainGlobals mg) : ∃ fd, FnFact K mg G f_is_number (He.fAd K hdD1.at_) fd ["thing"] s1 "is_number" := by
  obtain ⟨fd, F⟩ := c.fun_ (j := 1) (d := hdD1) rfl (st := s1) rfl rfl rfl
  exact ⟨fd, fun _ => c.mgf X GN (j := 1) (d := hdD1) rfl rfl, F, sc1, rfl, F.binds fun _ _ _ _ _ _ us hl => match us, hl with | [_], _ => rfl, em1⟩
theorem ff2 (c : SaysH G hdF hdX w K) (X : K.In h) (GN : h.Ns mainGlobals mg) : ∃ fd, FnFact K mg G f_is_word (He.fAd K hdD2.at_) fd ["thing"] s2 "is_word" := by
  obtain ⟨fd, F⟩ := c.fun_ (j := 2) (d := hdD2) rfl (st := s2) rfl rfl rfl
  exact ⟨fd, fun _ => c.mgf X GN (j := 2) (d := hdD2) rfl rfl, F, sc2, rfl, F.binds fun _ _ _ _ _ _ us hl => match us, hl with | [_], _ => rfl, em2⟩
theorem ff3 (c : SaysH G hdF hdX w K) (X : K.In h) (GN : h.Ns mainGlobals mg) : ∃ fd, FnFact K mg G f_index_of (He.fAd K hdD3.at_) fd ["rows", "name"] s3 "index_of" := by
  obtain ⟨fd, F⟩ := c.fun_ (j := 3) (d := hdD3) rfl (st := s3) rfl rfl rfl
  exact ⟨fd, fun _ => c.mgf X GN (j := 3) (d := hdD3) rfl rfl, F, sc3, rfl, F.binds fun _ _ _ _ _ _ us hl => match us, hl with | [_, _], _ => rfl, em3⟩
theorem ff4 (c : SaysH G hdF hdX w K) (X : K.In h) (GN : h.Ns mainGlobals mg) : ∃ fd, FnFact K mg G f_table_of (He.fAd K hdD4.at_) fd ["schema", "name"] s4 "table_of" := by
  obtain ⟨fd, F⟩ := c.fun_ (j := 4) (d := hdD4) rfl (st := s4) rfl rfl rfl
  exact ⟨fd, fun _ => c.mgf X GN (j := 4) (d := hdD4) rfl rfl, F, sc4, rfl, F.binds fun _ _ _ _ _ _ us hl => match us, hl with | [_, _], _ => rfl, em4⟩
theorem ff5 (c : SaysH G hdF hdX w K) (X : K.In h) (GN : h.Ns mainGlobals mg) : ∃ fd, FnFact K mg G f_column_of (He.fAd K hdD5.at_) fd ["table", "name"] s5 "column_of" := by
  obtain ⟨fd, F⟩ := c.fun_ (j := 5) (d := hdD5) rfl (st := s5) rfl rfl rfl
  exact ⟨fd, fun _ => c.mgf X GN (j := 5) (d := hdD5) rfl rfl, F, sc5, rfl, F.binds fun _ _ _ _ _ _ us hl => match us, hl with | [_, _], _ => rfl, em5⟩
theorem ff6 (c : SaysH G hdF hdX w K) (X : K.In h) (GN : h.Ns mainGlobals mg) : ∃ fd, FnFact K mg G f_is_key (He.fAd K hdD6.at_) fd ["table", "thing"] s6 "is_key" := by
  obtain ⟨fd, F⟩ := c.fun_ (j := 6) (d := hdD6) rfl (st := s6) rfl rfl rfl
  exact ⟨fd, fun _ => c.mgf X GN (j := 6) (d := hdD6) rfl rfl, F, sc6, rfl, F.binds fun _ _ _ _ _ _ us hl => match us, hl with | [_, _], _ => rfl, em6⟩
theorem ff7 (c : SaysH G hdF hdX w K) (X : K.In h) (GN : h.Ns mainGlobals mg) : ∃ fd, FnFact K mg G f_is_value (He.fAd K hdD7.at_) fd ["rule", "word", "value"] s7 "is_value" := by
  obtain ⟨fd, F⟩ := c.fun_ (j := 7) (d := hdD7) rfl (st := s7) rfl rfl rfl
  exact ⟨fd, fun _ => c.mgf X GN (j := 7) (d := hdD7) rfl rfl, F, sc7, rfl, F.binds fun _ _ _ _ _ _ us hl => match us, hl with | [_, _, _], _ => rfl, em7⟩
theorem ff8 (c : SaysH G hdF hdX w K) (X : K.In h) (GN : h.Ns mainGlobals mg) : ∃ fd, FnFact K mg G f_is_change (He.fAd K hdD8.at_) fd ["schema", "stations", "thing"] s8 "is_change" := by
  obtain ⟨fd, F⟩ := c.fun_ (j := 8) (d := hdD8) rfl (st := s8) rfl rfl rfl
  exact ⟨fd, fun _ => c.mgf X GN (j := 8) (d := hdD8) rfl rfl, F, sc8, rfl, F.binds fun _ _ _ _ _ _ us hl => match us, hl with | [_, _, _], _ => rfl, em8⟩
theorem ff9 (c : SaysH G hdF hdX w K) (X : K.In h) (GN : h.Ns mainGlobals mg) : ∃ fd, FnFact K mg G f_check_changes (He.fAd K hdD9.at_) fd ["schema", "stations", "changes"] s9 "check_changes" := by
  obtain ⟨fd, F⟩ := c.fun_ (j := 9) (d := hdD9) rfl (st := s9) rfl rfl rfl
  exact ⟨fd, fun _ => c.mgf X GN (j := 9) (d := hdD9) rfl rfl, F, sc9, rfl, F.binds fun _ _ _ _ _ _ us hl => match us, hl with | [_, _, _], _ => rfl, em9⟩
theorem ff10 (c : SaysH G hdF hdX w K) (X : K.In h) (GN : h.Ns mainGlobals mg) : ∃ fd, FnFact K mg G f__law_draws (He.fAd K hdD10.at_) fd ["script", "many"] s10 "_law_draws" := by
  obtain ⟨fd, F⟩ := c.fun_ (j := 10) (d := hdD10) rfl (st := s10) rfl rfl rfl
  exact ⟨fd, fun _ => c.mgf X GN (j := 10) (d := hdD10) rfl rfl, F, sc10, rfl, F.binds fun _ _ _ _ _ _ us hl => match us, hl with | [_, _], _ => rfl, em10⟩
theorem ff11 (c : SaysH G hdF hdX w K) (X : K.In h) (GN : h.Ns mainGlobals mg) : ∃ fd, FnFact K mg G f__law_take (He.fAd K hdD11.at_) fd ["d"] s11 "_law_take" := by
  obtain ⟨fd, F⟩ := c.fun_ (j := 11) (d := hdD11) rfl (st := s11) rfl rfl rfl
  exact ⟨fd, fun _ => c.mgf X GN (j := 11) (d := hdD11) rfl rfl, F, sc11, rfl, F.binds fun _ _ _ _ _ _ us hl => match us, hl with | [_], _ => rfl, em11⟩
theorem ff12 (c : SaysH G hdF hdX w K) (X : K.In h) (GN : h.Ns mainGlobals mg) : ∃ fd, FnFact K mg G f__law_start (He.fAd K hdD12.at_) fd ["script"] s12 "_law_start" := by
  obtain ⟨fd, F⟩ := c.fun_ (j := 12) (d := hdD12) rfl (st := s12) rfl rfl rfl
  exact ⟨fd, fun _ => c.mgf X GN (j := 12) (d := hdD12) rfl rfl, F, sc12, rfl, F.binds fun _ _ _ _ _ _ us hl => match us, hl with | [_], _ => rfl, em12⟩
theorem ff13 (c : SaysH G hdF hdX w K) (X : K.In h) (GN : h.Ns mainGlobals mg) : ∃ fd, FnFact K mg G f__law_schema (He.fAd K hdD13.at_) fd ["d"] s13 "_law_schema" := by
  obtain ⟨fd, F⟩ := c.fun_ (j := 13) (d := hdD13) rfl (st := s13) rfl rfl rfl
  exact ⟨fd, fun _ => c.mgf X GN (j := 13) (d := hdD13) rfl rfl, F, sc13, rfl, F.binds fun _ _ _ _ _ _ us hl => match us, hl with | [_], _ => rfl, em13⟩
theorem ff14 (c : SaysH G hdF hdX w K) (X : K.In h) (GN : h.Ns mainGlobals mg) : ∃ fd, FnFact K mg G f__law_key (He.fAd K hdD14.at_) fd ["d", "kind"] s14 "_law_key" := by
  obtain ⟨fd, F⟩ := c.fun_ (j := 14) (d := hdD14) rfl (st := s14) rfl rfl rfl
  exact ⟨fd, fun _ => c.mgf X GN (j := 14) (d := hdD14) rfl rfl, F, sc14, rfl, F.binds fun _ _ _ _ _ _ us hl => match us, hl with | [_, _], _ => rfl, em14⟩
theorem ff15 (c : SaysH G hdF hdX w K) (X : K.In h) (GN : h.Ns mainGlobals mg) : ∃ fd, FnFact K mg G f__law_word (He.fAd K hdD15.at_) fd ["d"] s15 "_law_word" := by
  obtain ⟨fd, F⟩ := c.fun_ (j := 15) (d := hdD15) rfl (st := s15) rfl rfl rfl
  exact ⟨fd, fun _ => c.mgf X GN (j := 15) (d := hdD15) rfl rfl, F, sc15, rfl, F.binds fun _ _ _ _ _ _ us hl => match us, hl with | [_], _ => rfl, em15⟩
theorem ff16 (c : SaysH G hdF hdX w K) (X : K.In h) (GN : h.Ns mainGlobals mg) : ∃ fd, FnFact K mg G f__law_change (He.fAd K hdD16.at_) fd ["d", "schema", "stations"] s16 "_law_change" := by
  obtain ⟨fd, F⟩ := c.fun_ (j := 16) (d := hdD16) rfl (st := s16) rfl rfl rfl
  exact ⟨fd, fun _ => c.mgf X GN (j := 16) (d := hdD16) rfl rfl, F, sc16, rfl, F.binds fun _ _ _ _ _ _ us hl => match us, hl with | [_, _, _], _ => rfl, em16⟩
theorem ff17 (c : SaysH G hdF hdX w K) (X : K.In h) (GN : h.Ns mainGlobals mg) : ∃ fd, FnFact K mg G f__law_spoilt (He.fAd K hdD17.at_) fd ["d", "thing", "steps"] s17 "_law_spoilt" := by
  obtain ⟨fd, F⟩ := c.fun_ (j := 17) (d := hdD17) rfl (st := s17) rfl rfl rfl
  exact ⟨fd, fun _ => c.mgf X GN (j := 17) (d := hdD17) rfl rfl, F, sc17, rfl, F.binds fun _ _ _ _ _ _ us hl => match us, hl with | [_, _, _], _ => rfl, em17⟩
theorem ff18 (c : SaysH G hdF hdX w K) (X : K.In h) (GN : h.Ns mainGlobals mg) : ∃ fd, FnFact K mg G f__law_is_int (He.fAd K hdD18.at_) fd ["thing", "low", "high"] s18 "_law_is_int" := by
  obtain ⟨fd, F⟩ := c.fun_ (j := 18) (d := hdD18) rfl (st := s18) rfl rfl rfl
  exact ⟨fd, fun _ => c.mgf X GN (j := 18) (d := hdD18) rfl rfl, F, sc18, rfl, F.binds fun _ _ _ _ _ _ us hl => match us, hl with | [_, _, _], _ => rfl, em18⟩
theorem ff19 (c : SaysH G hdF hdX w K) (X : K.In h) (GN : h.Ns mainGlobals mg) : ∃ fd, FnFact K mg G f__law_is_word (He.fAd K hdD19.at_) fd ["thing"] s19 "_law_is_word" := by
  obtain ⟨fd, F⟩ := c.fun_ (j := 19) (d := hdD19) rfl (st := s19) rfl rfl rfl
  exact ⟨fd, fun _ => c.mgf X GN (j := 19) (d := hdD19) rfl rfl, F, sc19, rfl, F.binds fun _ _ _ _ _ _ us hl => match us, hl with | [_], _ => rfl, em19⟩
theorem ff20 (c : SaysH G hdF hdX w K) (X : K.In h) (GN : h.Ns mainGlobals mg) : ∃ fd, FnFact K mg G f__law_is_key (He.fAd K hdD20.at_) fd ["kind", "thing"] s20 "_law_is_key" := by
  obtain ⟨fd, F⟩ := c.fun_ (j := 20) (d := hdD20) rfl (st := s20) rfl rfl rfl
  exact ⟨fd, fun _ => c.mgf X GN (j := 20) (d := hdD20) rfl rfl, F, sc20, rfl, F.binds fun _ _ _ _ _ _ us hl => match us, hl with | [_, _], _ => rfl, em20⟩
theorem ff21 (c : SaysH G hdF hdX w K) (X : K.In h) (GN : h.Ns mainGlobals mg) : ∃ fd, FnFact K mg G f__law_table (He.fAd K hdD21.at_) fd ["schema", "name"] s21 "_law_table" := by
  obtain ⟨fd, F⟩ := c.fun_ (j := 21) (d := hdD21) rfl (st := s21) rfl rfl rfl
  exact ⟨fd, fun _ => c.mgf X GN (j := 21) (d := hdD21) rfl rfl, F, sc21, rfl, F.binds fun _ _ _ _ _ _ us hl => match us, hl with | [_, _], _ => rfl, em21⟩
theorem ff22 (c : SaysH G hdF hdX w K) (X : K.In h) (GN : h.Ns mainGlobals mg) : ∃ fd, FnFact K mg G f__law_rule (He.fAd K hdD22.at_) fd ["table", "name"] s22 "_law_rule" := by
  obtain ⟨fd, F⟩ := c.fun_ (j := 22) (d := hdD22) rfl (st := s22) rfl rfl rfl
  exact ⟨fd, fun _ => c.mgf X GN (j := 22) (d := hdD22) rfl rfl, F, sc22, rfl, F.binds fun _ _ _ _ _ _ us hl => match us, hl with | [_, _], _ => rfl, em22⟩
theorem ff23 (c : SaysH G hdF hdX w K) (X : K.In h) (GN : h.Ns mainGlobals mg) : ∃ fd, FnFact K mg G f__law_is_change (He.fAd K hdD23.at_) fd ["schema", "stations", "thing"] s23 "_law_is_change" := by
  obtain ⟨fd, F⟩ := c.fun_ (j := 23) (d := hdD23) rfl (st := s23) rfl rfl rfl
  exact ⟨fd, fun _ => c.mgf X GN (j := 23) (d := hdD23) rfl rfl, F, sc23, rfl, F.binds fun _ _ _ _ _ _ us hl => match us, hl with | [_, _, _], _ => rfl, em23⟩
theorem ff24 (c : SaysH G hdF hdX w K) (X : K.In h) (GN : h.Ns mainGlobals mg) : ∃ fd, FnFact K mg G f__law_told (He.fAd K hdD24.at_) fd ["schema", "stations", "thing"] s24 "_law_told" := by
  obtain ⟨fd, F⟩ := c.fun_ (j := 24) (d := hdD24) rfl (st := s24) rfl rfl rfl
  exact ⟨fd, fun _ => c.mgf X GN (j := 24) (d := hdD24) rfl rfl, F, sc24, rfl, F.binds fun _ _ _ _ _ _ us hl => match us, hl with | [_, _, _], _ => rfl, em24⟩
theorem ff25 (c : SaysH G hdF hdX w K) (X : K.In h) (GN : h.Ns mainGlobals mg) : ∃ fd, FnFact K mg G f__law_due (He.fAd K hdD25.at_) fd ["schema", "stations", "thing"] s25 "_law_due" := by
  obtain ⟨fd, F⟩ := c.fun_ (j := 25) (d := hdD25) rfl (st := s25) rfl rfl rfl
  exact ⟨fd, fun _ => c.mgf X GN (j := 25) (d := hdD25) rfl rfl, F, sc25, rfl, F.binds fun _ _ _ _ _ _ us hl => match us, hl with | [_, _, _], _ => rfl, em25⟩
theorem ff26 (c : SaysH G hdF hdX w K) (X : K.In h) (GN : h.Ns mainGlobals mg) : ∃ fd, FnFact K mg G f_law (He.fAd K hdD26.at_) fd ["script"] s26 "law" := by
  obtain ⟨fd, F⟩ := c.fun_ (j := 26) (d := hdD26) rfl (st := s26) rfl rfl rfl
  exact ⟨fd, fun _ => c.mgf X GN (j := 26) (d := hdD26) rfl rfl, F, sc26, rfl, F.binds fun _ _ _ _ _ _ us hl => match us, hl with | [_], _ => rfl, em26⟩
theorem ffs (c : SaysH G hdF hdX w K) (X : K.In h) (GN : h.Ns mainGlobals mg) (j : Nat) (f : Fn) (d : He.FnD) (e1 : G.fns[j]? = some f) (e2 : hdF[j]? = some d) : ∃ fd ps st qual, FnFact K mg G f (He.fAd K d.at_) fd ps st qual := by
  match j, e1, e2 with
  | 0, e1, e2 => cases e1; cases e2; obtain ⟨fd, z⟩ := ff0 c X GN; exact ⟨fd, _, _, _, z⟩
  | 1, e1, e2 => cases e1; cases e2; obtain ⟨fd, z⟩ := ff1 c X GN; exact ⟨fd, _, _, _, z⟩
  | 2, e1, e2 => cases e1; cases e2; obtain ⟨fd, z⟩ := ff2 c X GN; exact ⟨fd, _, _, _, z⟩
  | 3, e1, e2 => cases e1; cases e2; obtain ⟨fd, z⟩ := ff3 c X GN; exact ⟨fd, _, _, _, z⟩
  | 4, e1, e2 => cases e1; cases e2; obtain ⟨fd, z⟩ := ff4 c X GN; exact ⟨fd, _, _, _, z⟩
  | 5, e1, e2 => cases e1; cases e2; obtain ⟨fd, z⟩ := ff5 c X GN; exact ⟨fd, _, _, _, z⟩
  | 6, e1, e2 => cases e1; cases e2; obtain ⟨fd, z⟩ := ff6 c X GN; exact ⟨fd, _, _, _, z⟩
  | 7, e1, e2 => cases e1; cases e2; obtain ⟨fd, z⟩ := ff7 c X GN; exact ⟨fd, _, _, _, z⟩
  | 8, e1, e2 => cases e1; cases e2; obtain ⟨fd, z⟩ := ff8 c X GN; exact ⟨fd, _, _, _, z⟩
  | 9, e1, e2 => cases e1; cases e2; obtain ⟨fd, z⟩ := ff9 c X GN; exact ⟨fd, _, _, _, z⟩
  | 10, e1, e2 => cases e1; cases e2; obtain ⟨fd, z⟩ := ff10 c X GN; exact ⟨fd, _, _, _, z⟩
  | 11, e1, e2 => cases e1; cases e2; obtain ⟨fd, z⟩ := ff11 c X GN; exact ⟨fd, _, _, _, z⟩
  | 12, e1, e2 => cases e1; cases e2; obtain ⟨fd, z⟩ := ff12 c X GN; exact ⟨fd, _, _, _, z⟩
  | 13, e1, e2 => cases e1; cases e2; obtain ⟨fd, z⟩ := ff13 c X GN; exact ⟨fd, _, _, _, z⟩
  | 14, e1, e2 => cases e1; cases e2; obtain ⟨fd, z⟩ := ff14 c X GN; exact ⟨fd, _, _, _, z⟩
  | 15, e1, e2 => cases e1; cases e2; obtain ⟨fd, z⟩ := ff15 c X GN; exact ⟨fd, _, _, _, z⟩
  | 16, e1, e2 => cases e1; cases e2; obtain ⟨fd, z⟩ := ff16 c X GN; exact ⟨fd, _, _, _, z⟩
  | 17, e1, e2 => cases e1; cases e2; obtain ⟨fd, z⟩ := ff17 c X GN; exact ⟨fd, _, _, _, z⟩
  | 18, e1, e2 => cases e1; cases e2; obtain ⟨fd, z⟩ := ff18 c X GN; exact ⟨fd, _, _, _, z⟩
  | 19, e1, e2 => cases e1; cases e2; obtain ⟨fd, z⟩ := ff19 c X GN; exact ⟨fd, _, _, _, z⟩
  | 20, e1, e2 => cases e1; cases e2; obtain ⟨fd, z⟩ := ff20 c X GN; exact ⟨fd, _, _, _, z⟩
  | 21, e1, e2 => cases e1; cases e2; obtain ⟨fd, z⟩ := ff21 c X GN; exact ⟨fd, _, _, _, z⟩
  | 22, e1, e2 => cases e1; cases e2; obtain ⟨fd, z⟩ := ff22 c X GN; exact ⟨fd, _, _, _, z⟩
  | 23, e1, e2 => cases e1; cases e2; obtain ⟨fd, z⟩ := ff23 c X GN; exact ⟨fd, _, _, _, z⟩
  | 24, e1, e2 => cases e1; cases e2; obtain ⟨fd, z⟩ := ff24 c X GN; exact ⟨fd, _, _, _, z⟩
  | 25, e1, e2 => cases e1; cases e2; obtain ⟨fd, z⟩ := ff25 c X GN; exact ⟨fd, _, _, _, z⟩
  | 26, e1, e2 => cases e1; cases e2; obtain ⟨fd, z⟩ := ff26 c X GN; exact ⟨fd, _, _, _, z⟩
  | n + 27, e1, e2 => exact nomatch e1
theorem hd_ix : ∀ d ∈ hdX, IxS PySem.Challenge.pw_closedcuts_k01_changes_and_others d := by
  intro d hd
  cases hd with
  | tail _ h => cases h
  | head => exact ⟨⟨_, _, _, _, _, _, _, _, _, _, _, _, _, _, _, by decide +kernel, by decide +kernel, rfl⟩, ⟨_, rfl, by decide +kernel⟩, rfl, by decide +kernel, by decide +kernel, by decide +kernel, by decide +kernel, rfl, rfl, rfl, by decide +kernel, fun _ _ _ _ _ _ _ us hl => match us, hl with | [_, _], _ => rfl, by decide +kernel⟩
end
end Law
open PySem PySem.W PySem.Calls PyProof.Rows
set_option maxHeartbeats 0 in
theorem PySem.Challenge.cw_closedcuts_k01_changes_and_others_holds : PySem.Challenge.rw_closedcuts_k01_changes_and_others.Holds := by
  w_on; o_law
  refine HandSHeadRun.head_any (r := OpenLaw.row PySem.Challenge.rw_closedcuts_k01_changes_and_others) (q := Law.hdV) (H := Law.hdH) (ob := Law.hdO) (M := 20000) (loose := Law.hdN) (d := HandSHeadRun.topDef (OpenLaw.row PySem.Challenge.rw_closedcuts_k01_changes_and_others).prog 43) (kwd := []) Law.hdO_eq
    (by kernel_rfl) (fun s => by kernel_rfl) Law.hd_run_any (by kernel_rfl) (by kernel_rfl) (by kernel_rfl) (by rfl) (by first | assumption | decide +kernel) (by decide +kernel) ⟨rfl, rfl, rfl, rfl, rfl, by decide +kernel⟩ ?hw ?hc
  case hw => w_witness2
  case hc =>
    refine Ev.walk_of2 (l := PySem.Challenge.rw_closedcuts_k01_changes_and_others) (n := 63) (k := 120) (x := "script") (CX := fun w => L2.CX PySem.Challenge.rw_closedcuts_k01_changes_and_others.prog w) rfl (by decide) (by kernel_rfl) ⟨rfl, by decide, by decide⟩ ?F (fun _ _ _ _ _ ⟨_, _, _, _, _, _, _, _, _, _, _, _, h⟩ => h)
    intro w mg fa h Y GN hmg0
    obtain ⟨K, KX, c⟩ := Y
    have hmg : mg ("law" : PySem.Str) = some (.ref fa) := by
      have e : (HandSHeadRun.topDef (OpenLaw.row PySem.Challenge.rw_closedcuts_k01_changes_and_others).prog 43).name = ("law" : PySem.Str) := by kernel_rfl
      rw [← e]
      exact hmg0
    have g := c.gfact KX GN (Law.ffs c KX GN) rfl Law.hd_ix
    obtain ⟨fd, T⟩ := Law.ff26 c KX GN
    have e := hmg.symm.trans (T.mgf rfl)
    cases e
    have b : ∀ (s : Shared) (v : Value), BindsTo s fd ⟨[v], []⟩ [("script", v)] := by
      obtain ⟨⟨oc, od, kV, doc, pm, an, cdv, ct, osl, e, _, _⟩, _⟩ := T.fn
      subst e
      exact fun s v => .of_eq rfl
    exact ⟨K, fd, Ev.spLaw K, KX, b, fun H a ns hl hO hS => ⟨a, ns, rfl, hO, hS, hl, fun _ => rfl⟩, fun base _ _ => (Ev.run_ok g 40 26 Law.f_law rfl _ _ _ _ _ T).imp (Ev.spLaw_ev Law.good)⟩
