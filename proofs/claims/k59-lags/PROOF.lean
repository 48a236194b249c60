import PyProof.Rows.All
import HandS.ForMost
import HandS.SetFor
import HandS.SetTxt0
import HandS.Strs
import PyProof.Rows.SortShellAny
import PyProof.StrBlock2
import PyProof.Rows.StrMul
import PyProof.SeqRoads2
import KE.KDictZip
import PyProof.ListNew
import KE.KTurns
import HandS.Lambda
import KE.SortKeyHeap
import KE.KSortKey
import KE.KDictSum
import HandS.SortKw
import HandS.Conv
import HandS.WideBits
import HandS.SortInts
import HandS.IsInst
import HandS.TupLen
import HandS.Small
import HandS.TupAny
import HandS.HeadHook4
import HandS.HeadWalk
import HandS.NestedK
import HandS.Head0
import HandS.Head1
import HandS.Head2
import KE.KStateDown
import PySem.Challenge.RW_oddlong_k59_lags
set_option Elab.async false
set_option linter.all false
set_option maxRecDepth 100000
set_option maxHeartbeats 4000000
/-! HX1: sets of texts: set(xs), its length, sorted of it. -/
namespace OL
open PySem PySem.Spec PyProof.Rows L2

/-! ### what a set of texts is -/
def txOf (e : Int × Value) : Str := match e.2 with | .str k _ => k | _ => Str.empty
def TxE (w : World) (e : Int × Value) : Prop := ∃ k tk, e.2 = Value.str k tk ∧ e.1 = hashStr w k
abbrev freshS (w : World) : Obj := { cls := .type "set", dict := none, data := .set #[] 0 (.fresh 0 0 (!w.params.followText "set-order")) }
/-- the set of the texts l (some of them twice in l) at a -/
structure STx (w : World) (h : Heap) (a : Addr) (l : List Str) (o : Obj) (es : Array (Int × Value)) (ep : Nat) (t : SetTable) : Prop where
  ho : h.get? a = some o
  hx : o.ExactSet
  hd : o.data = .set es ep t
  gd : ∀ e ∈ es.toList, TxE w e
  nd : (es.toList.map txOf).Nodup
  mem : ∀ k, k ∈ l ↔ k ∈ es.toList.map txOf
  bd : es.size < scanBound
  ft : t.fits es.size = true
  sz : es.size ≤ l.length
  rs : Ris t.place.toList
  ld : w.params.followText "set-order" = true ∨ t.led = true
def SetX (w : World) (h : Heap) (a : Addr) (l : List Str) : Prop := ∃ o es ep t, STx w h a l o es ep t

section
variable {P : Program} {w : World} {h h' : Heap} {a : Addr} {l : List Str}
theorem SetX.at (R : SetX w h a l) (k : ∀ o, h.get? a = some o → h'.get? a = some o) : SetX w h' a l := by
  obtain ⟨o, es, ep, t, r⟩ := R
  exact ⟨o, es, ep, t, { r with ho := k o r.ho }⟩
theorem SetX.congr {l' : List Str} (R : SetX w h a l) (e : l' = l) : SetX w h a l' := by rw [e]; exact R
theorem tx_elems {es : List (Int × Value)} (g : ∀ e ∈ es, TxE w e) : ElemsOf (PySem.strKind P w) es := fun e he => by
  obtain ⟨k, tk, h1, h2⟩ := g e he
  exact ⟨⟨k, by rw [h1]; exact strKind_is P w k tk, h2⟩, by rw [h1] <;> rfl⟩
theorem tx_is {e : Int × Value} (g : TxE w e) (k : Str) : (PySem.strKind P w).is k e.2 = true ↔ txOf e = k := by
  obtain ⟨k0, tk, h1, _⟩ := g
  have e1 : txOf e = k0 := by unfold txOf; rw [h1]
  rw [e1, h1]
  constructor
  · intro q
    obtain ⟨t, e⟩ := Value.isStrOf_shape (x := k) (v := .str k0 tk) q
    cases e
    rfl
  · intro q
    rw [q]
    exact strKind_is P w k tk
theorem tx_mem {es : List (Int × Value)} (g : ∀ e ∈ es, TxE w e) (k : Str) : k ∈ es.map txOf ↔ ∃ e ∈ es, (PySem.strKind P w).is k e.2 = true := by
  rw [List.mem_map]
  exact ⟨fun ⟨e, he, q⟩ => ⟨e, he, (tx_is (g e he) k).2 q⟩, fun ⟨e, he, q⟩ => ⟨e, he, (tx_is (g e he) k).1 q⟩⟩
end

section
variable {P : Program} {w : World} {A : Around} {E : Value → Shared → Prop} {s : Shared} {a : Addr} {l : List Str}
theorem tx_add_tail {g : Bool → Sem Unit} (hg : ∀ (b : Bool) (s₁ : Shared) (Q' : Unit → Shared → Prop), Q' () s₁ → wpAny (model P w) A (g b) Q' E s₁)
    {o : Obj} {es es1 : Array (Int × Value)} {ep : Nat} {t t2 : SetTable} {l' : List Str} (ho : s.heap.get? a = some o) (hex : o.ExactSet) (hd : o.data = .set es ep t)
    (g1 : ∀ e ∈ es1.toList, TxE w e) (nd1 : (es1.toList.map txOf).Nodup) (m1 : ∀ k, k ∈ l' ↔ k ∈ es1.toList.map txOf)
    (hb1 : es1.size < scanBound) (hz : es1.size ≤ l'.length) (hf2 : t2.fits es1.size = true) (hr : Ris t2.place.toList) (hl : w.params.followText "set-order" = true ∨ t2.led = true) {wd : Bool} {R : Option Bool → Shared → Prop}
    (hR : ∀ h', Heap.SameBut a s.heap h' → SetX w h' a l' → R (some true) { s with heap := h' }) :
    wpAny (model P w) A (do
        storeSet a es1 t2
        if (!wd && t2.tooFull) = true then do
            g (relayAll t2 es1 (SetTable.grown es1.size)).2.2
            storeSet a (relayAll t2 es1 (SetTable.grown es1.size)).1 (relayAll t2 es1 (SetTable.grown es1.size)).2.1
            pure (some true)
          else pure (some true)) R E s := by
  have q1 := store_at (es' := es1) (t' := t2) ho hd
  have sb1 := Heap.SameBut.update s.heap a (Obj.putSet es1 t2)
  refine wpAny_bind (wpAny_storeSet_of ho hd ?_ (fits_of_scanBound hb1))
  split
  · have pm := relayAll_perm t2 es1 (SetTable.grown es1.size)
    have f3 := relayAll_fits t2 es1 (SetTable.grown es1.size)
    have r3 := relayAll_ris t2 es1 (SetTable.grown es1.size)
    have l3 := relayAll_led t2 es1 (SetTable.grown es1.size)
    generalize relayAll t2 es1 (SetTable.grown es1.size) = Z at pm f3 r3 l3 ⊢
    obtain ⟨es2, t3, gave⟩ := Z
    dsimp only at pm f3 r3 l3 ⊢
    have hsz : es2.size = es1.size := by simpa using pm.length_eq
    have hb2 : es2.size < scanBound := by rw [hsz]; exact hb1
    refine wpAny_bind (hg _ _ _ (wpAny_bind (wpAny_storeSet_of q1 rfl ?_ (fits_of_scanBound hb2))))
    have q2 := store_at (es' := es2) (t' := t3) q1 rfl
    have pk := pm.map txOf
    exact wpAny_pure (hR _ (sb1.trans (Heap.SameBut.update _ a _)) ⟨_, es2, _, t3, q2, hex, rfl, fun e he => g1 e (pm.mem_iff.mp he), pk.nodup_iff.mpr nd1, fun k => (m1 k).trans pk.mem_iff.symm, hb2, f3, by rw [hsz]; exact hz, r3, hl.imp id fun z => by rw [l3]; exact z⟩)
  · exact wpAny_pure (hR _ sb1 ⟨_, es1, _, t2, q1, hex, rfl, g1, nd1, m1, hb1, hf2, hz, hr, hl⟩)

theorem tx_add {k : Str} {tk : Tok} {Q : Bool → Shared → Prop} (R : SetX w s.heap a l) (room : l.length + 1 < scanBound)
    (hQ : ∀ h' b, Heap.SameBut a s.heap h' → SetX w h' a (l ++ [k]) → Q b { s with heap := h' }) :
    wpAny (model P w) A (setAddHashed a (.str k tk) ((PySem.strKind P w).hash k)) Q E s := by
  obtain ⟨o, es, ep, t, r⟩ := R
  have hkey : (PySem.strKind P w).is k (.str k tk) = true := strKind_is P w k tk
  have hsc : (Value.str k tk).scannable = true := rfl
  have hel : ElemsOf (PySem.strKind P w) es.toList := tx_elems r.gd
  unfold setAddHashed setAddHashedIn
  refine wpAny_holding (wpAny_bind (wpAny_setState_of r.ho r.hd r.ft ?_))
  dsimp only
  rw [byScan_of hsc r.bd hel]
  simp only [↓reduceIte]
  unfold setAddByScan
  refine wpAny_bind (wpAny_bind (wpAny_rule (wpAny_bind (wpAny_setScan_of hkey r.ho r.hd r.ft hel ?_))))
  cases hfi : List.findIdx? (fun e => (PySem.strKind P w).is k e.2) es.toList with
  | some j =>
    dsimp only
    obtain ⟨hj, pj, _⟩ := List.findIdx?_eq_some_iff_getElem.mp hfi
    have hk : k ∈ es.toList.map txOf := (tx_mem (P := P) r.gd k).2 ⟨_, List.getElem_mem hj, pj⟩
    refine wpAny_pure (wpAny_pure (hQ s.heap false (Heap.SameBut.refl a s.heap) ⟨o, es, ep, t, { r with mem := fun i => ?_, sz := ?_ }⟩))
    · rw [List.mem_append, List.mem_singleton, r.mem i]
      exact ⟨fun z => z.elim id fun e => e ▸ hk, .inl⟩
    · have := r.sz
      rw [List.length_append]
      omega
  | none =>
    dsimp only
    have hnk : k ∉ es.toList.map txOf := fun z => by
      obtain ⟨e, he, q⟩ := (tx_mem (P := P) r.gd k).1 z
      have c := List.findIdx?_eq_none_iff.mp hfi e he
      rw [q] at c
      cases c
    have hgw : ∀ (b : Bool) {s₁ : Shared} {Q' : Unit → Shared → Prop}, Q' () s₁ → wpAny (model P w) A (match b with | true => rule "set.scan.the-table-gave-way" | false => pure ()) Q' E s₁ := fun b s₁ Q' q => by
      cases b
      · exact wpAny_pure q
      · exact wpAny_rule q
    have pm := layNew_perm t es ((PySem.strKind P w).hash k) (.str k tk)
    have f1 := layNew_fits t es ((PySem.strKind P w).hash k) (.str k tk)
    have r1 := layNew_ris t es ((PySem.strKind P w).hash k) (.str k tk) r.rs
    have l1 := layNew_led t es ((PySem.strKind P w).hash k) (.str k tk)
    generalize layNew t es ((PySem.strKind P w).hash k) (.str k tk) = Z at pm f1 r1 l1 ⊢
    obtain ⟨es1, t1, wd, gave⟩ := Z
    dsimp only at pm f1 r1 l1 ⊢
    rw [Array.toList_push] at pm
    have pc : es1.toList.Perm (((PySem.strKind P w).hash k, Value.str k tk) :: es.toList) := pm.trans (List.perm_append_singleton _ _)
    have pk : (es1.toList.map txOf).Perm (k :: es.toList.map txOf) := pc.map txOf
    have g1 : ∀ e ∈ es1.toList, TxE w e := fun e he => (List.mem_cons.mp (pc.mem_iff.mp he)).elim (fun z => z ▸ ⟨k, tk, rfl, rfl⟩) (r.gd e)
    have nd1 : (es1.toList.map txOf).Nodup := pk.nodup_iff.mpr (List.nodup_cons.mpr ⟨hnk, r.nd⟩)
    have m1 : ∀ i, i ∈ l ++ [k] ↔ i ∈ es1.toList.map txOf := fun i => by
      rw [pk.mem_iff, List.mem_cons, List.mem_append, List.mem_singleton, r.mem i]
      exact Or.comm
    have s1 : es1.size = es.size + 1 := by simpa using pc.length_eq
    have z0 := r.sz
    have hz : es1.size ≤ (l ++ [k]).length := by rw [List.length_append, s1]; exact Nat.add_le_add_right z0 1
    have hb1 : es1.size < scanBound := by rw [s1]; omega
    have hled : w.params.followText "set-order" = true ∨ t1.led = true := r.ld.imp id fun z => by rw [l1]; exact z
    refine wpAny_bind (hgw _ ?_)
    have rl : ∀ (b : Bool) (s₁ : Shared) (Q' : Unit → Shared → Prop), Q' () s₁ → wpAny (model P w) A (match b with | true => rule "set.relay.the-table-gave-way" | false => pure ()) Q' E s₁ := fun b s₁ Q' q => by
      cases b
      · exact wpAny_pure q
      · exact wpAny_rule q
    split
    · refine wpAny_bind ?_
      rw [hashByValue_scannable 8 hsc]
      refine wpAny_pure (tx_add_tail ?_ r.ho r.hx r.hd g1 nd1 m1 hb1 hz ?_ ?_ ?_ fun h' sb q => ?_)
      · intro b s₁ Q' q; cases b <;> first | exact wpAny_pure q | exact wpAny_rule q
      · first | (split <;> first | exact f1 | exact SetTable.fits_plain_off f1) | exact f1
      · first | (split <;> exact r1) | exact r1
      · first | (split <;> exact hled) | exact hled
      · dsimp only
        exact wpAny_pure (hQ h' _ sb q)
    · refine wpAny_bind (wpAny_pure ?_)
      simp only [↓reduceIte]
      refine tx_add_tail ?_ r.ho r.hx r.hd g1 nd1 m1 hb1 hz f1 r1 hled fun h' sb q => wpAny_pure (hQ h' _ sb q)
      intro b s₁ Q' q; cases b <;> first | exact wpAny_pure q | exact wpAny_rule q

/-! ### set(xs) -/
theorem setX_fresh {h : Heap} {a : Addr} (ho : h.get? a = some (freshS w)) : SetX w h a [] :=
  ⟨_, #[], 0, _, ho, ⟨rfl, rfl, rfl⟩, rfl, (fun e he => by simp at he), by simp, (fun k => by simp), by decide, by rfl, Nat.le_refl _, List.Pairwise.nil, by
    show _ ∨ (!w.params.followText "set-order") = true
    cases w.params.followText "set-order"
    · exact .inr rfl
    · exact .inl rfl⟩
theorem tx_loop {I : Addr} {fp wr : List Addr} {G : Array GenState → Array GenState → Prop} {n : Nat} {Pv : Nat → Value → Prop} {St : Nat → Shared → Prop} {R : Result → Shared → Prop}
    (W : WalksS P w A.in1 I fp wr G n Pv St) (S : Addr) (hSf : S ∉ fp) (xs : List Str) (hn : n = xs.length) (hb : xs.length + 1 < scanBound) (hval : ∀ i v, Pv i v → ∃ k t, xs[i]? = some k ∧ v = .str k t) :
    ∀ (k i : Nat) (s : Shared), n - i = k → i ≤ n → St i s → SetX w s.heap S (xs.take i) →
      (∀ s', Moved (S :: wr) G s s' → SetX w s'.heap S xs → R (.ok (.ret .none)) s') →
      codeAny (model P w) A (.builtin "set.update.loop" ⟨[.ref S, .ref I], []⟩) R s := by
  have hSw : S ∉ wr := fun h => hSf (W.sub _ h)
  have up : ∀ b ∈ wr, b ∈ S :: wr := fun b hb => List.mem_cons_of_mem _ hb
  intro k
  induction k with
  | zero =>
    intro i s hk' hi hst hS hR
    obtain rfl : i = n := by omega
    refine codeAny_builtin F.entry_set_update_loop ?_
    rw [Around.under_plainId F.plain_set_update_loop _]
    show wpAny _ A.in1 (pyNext (.ref I) >>= _) _ _ s
    refine wpAny_bind (W.done s _ _ hst fun s' hm => ?_)
    show wpAny _ A.in1 (ret Value.none) _ _ s'
    rw [List.take_of_length_le (by omega)] at hS
    exact wpAny_pure (hR s' (hm.mono up) (hS.at fun o e => hm.heap S o hSw e))
  | succ k ih =>
    intro i s hk' hi hst hS hR
    have hlt : i < n := by omega
    refine codeAny_builtin F.entry_set_update_loop ?_
    rw [Around.under_plainId F.plain_set_update_loop _]
    show wpAny _ A.in1 (pyNext (.ref I) >>= _) _ _ s
    refine wpAny_bind (W.item i s _ _ hlt hst fun v s' hP hst' hm => ?_)
    obtain ⟨z, t, hz, rfl⟩ := hval i v hP
    have hS' : SetX w s'.heap S (xs.take i) := hS.at fun o e => hm.heap S o hSw e
    show wpAny _ A.in1 (holding [Value.str z t] (setAdd S (.str z t)) >>= _) _ _ s'
    refine wpAny_bind (wpAny_holding ?_)
    unfold setAdd
    refine wpAny_holding (wpAny_bind ((PySem.strKind P w).pyHash (k := z) (strKind_is _ _ _ _) ?_))
    refine tx_add (s := { s' with toks := s'.toks + 1 }) hS' (by rw [List.length_take]; omega) fun h' _ hsb hS2 => ?_
    have e3 : xs.take (i + 1) = xs.take i ++ [z] := by rw [List.take_add_one, hz]; rfl
    rw [← e3] at hS2
    refine wpAny_pure ⟨plainId_quiet F.plain_set_update_loop _, ih (i + 1) _ (by omega) hlt (W.frame _ s' _ _ hst' (Nat.le_succ _) fun b hb o e => ?_) hS2 fun s'' hm'' hS'' => ?_⟩
    · rw [hsb.2 b (fun h : b = S => hSf (by rw [← h]; exact hb))]; exact e
    · refine hR s'' (Moved.trans W.gtrans ((hm.mono up).then_heap (Nat.le_succ _) fun b o hb e => ?_) hm'') hS''
      rw [hsb.2 b (fun h : b = S => hb (by rw [h]; exact List.mem_cons_self))]; exact e
end
end OL

/-! HX2: set(xs) of a list of texts, called; sorted(set(xs)), len(set(xs)). -/
namespace OL
open PySem PySem.Spec PyProof.Rows L2
section
variable {P : Program} {w : World} {A : Around} {E : Value → Shared → Prop} {s : Shared}
set_option maxHeartbeats 3200000 in
theorem call_set_tx {l : Addr} {items : Array Value} (xs : List Str) {Q : Value → Shared → Prop} (hh : A.handled = none) (hl : s.heap.IsList l items) (hit : StrsAre items.toList xs) (hb : xs.length + 1 < scanBound)
    (h : ∀ (h' : Heap) (tk : Nat), SetX w h' s.heap.objs.size xs → (∀ b o, s.heap.get? b = some o → h'.get? b = some o) → Q (.ref s.heap.objs.size) { s with heap := h', toks := tk }) :
    wpAny (model P w) A (call (.type "set") [.ref l]) Q E s := by
  have hisz : items.size = xs.length := by rw [← StrsAre.len_eq hit, Array.length_toList]
  obtain ⟨c, tl, hmro⟩ := F.called_set.mro
  have hmade := F.called_set.made
  have hsub := F.called_set.sub
  refine wpAny_call (codeAny_of_tree ?_)
  show wpAny _ _ (callAny (.type "set") _) _ _ _
  refine wpAny_pure ⟨Code.quiet_builtin _ (by decide +kernel), codeAny_builtin F.entry_type_call ?_⟩
  rw [Around.under_plain (weight_type_call_type "set" [.ref l] []) rfl]
  have h1 := F.called_set.notType
  have h2 := F.called_set.canCreate
  have hct := F.typeCall_set_1 (.ref l)
  repeat (any_goals (first | assumption | wp_step))

  refine codeAny_mono (code_set_led1 (.ref l) (E := E) (Q₁ := fun obj s₁ => obj = .ref s.heap.objs.size ∧ s₁ = { s with heap := s.heap.push (freshS w) }) ⟨rfl, rfl⟩) fun r s₁ hr => ?_
  cases r with
  | error e => exact hr
  | ok fl =>
    cases fl with
    | ret obj =>
      obtain ⟨rfl, rfl⟩ := hr
      have hS : (s.heap.push (freshS w)).get? s.heap.objs.size = some (freshS w) := Heap.get?_push_size _ rfl
      have hT : Shared.TypeIs { s with heap := s.heap.push (freshS w) } (.ref s.heap.objs.size) "set" := ⟨_, hS, rfl⟩
      have hli := F.called_set.init.lookup
      have hbi := F.called_set.init.bind (.ref s.heap.objs.size)
      repeat (any_goals (first | assumption | wp_step))

      refine codeAny_mono (codeAny_call_builtin (R := wants (fun r s₂ => r = .none ∧ ∃ h' tk, s₂ = { s with heap := h', toks := tk } ∧ SetX w h' s.heap.objs.size xs ∧
          (∀ b o, s.heap.get? b = some o → h'.get? b = some o)) E) F.called_set.init.plain F.entry_set_init (check_set_init_1 hT ?_)) fun r₂ s₂ hr₂ => ?_
      · obtain ⟨ol, hol, hcl, nl, hdl⟩ := hl
        obtain ⟨ocls, odict, odata, oslots⟩ := ol
        simp only at hcl hdl
        subst hcl; subst hdl
        have hol' : (s.heap.push (freshS w)).get? l = some { cls := .type "list", dict := odict, data := .seq items nl, slots := oslots } := Heap.get?_push_of_some _ hol
        have hsls := F.sub_list_set
        have hslf := F.sub_list_frozenset
        have hne : (Value.type "list" == Value.type "dict") = false := by decide
        have hl1 : (s.heap.push (freshS w)).IsList l items := ⟨_, hol', rfl, nl, rfl⟩
        unfold Builtin.«set.__init__» noKeywords Builtin.Frozenset.updateFrom
        generalize hPI : pyIter = PI
        wp_walk
        subst hPI

        refine wpAny_pyIter_list hl1 ?_
        refine wpAny_bind (wpAny_runValue ?_)
        have hlS : l < s.heap.objs.size := Heap.lt_size hol
        have hh3 : A.in1.in1.in1.handled = none := by simp [hh]
        have hneI : l ≠ (s.heap.push (freshS w)).objs.size := by rw [Heap.size_push]; exact Nat.ne_of_lt (Nat.lt_succ_of_lt hlS)
        have hSf : s.heap.objs.size ∉ [(s.heap.push (freshS w)).objs.size, l] := by
          rw [Heap.size_push]
          simp only [List.mem_cons, List.mem_singleton, List.not_mem_nil, or_false, not_or]
          exact ⟨Nat.ne_of_lt (Nat.lt_succ_self _), Nat.ne_of_gt hlS⟩
        have hval : ∀ (i : Nat) (v : Value), items[i]? = some v → ∃ k t, xs[i]? = some k ∧ v = .str k t := fun i v hv => by
          have hi : i < xs.length := by rw [← hisz]; exact (Array.getElem?_eq_some_iff.mp hv).1
          obtain ⟨t, e⟩ := SS.strs_at hit i v (by rw [Array.getElem?_toList]; exact hv)
          exact ⟨xs[i], t, List.getElem?_eq_getElem hi, by rw [e, List.getD_eq_getElem?_getD, List.getElem?_eq_getElem hi] <;> rfl⟩
        refine tx_loop ((Walks.list hh3 _ l hneI items).toS) s.heap.objs.size hSf xs hisz hb hval (items.size - 0) 0 _ (by omega) (Nat.zero_le _) ⟨⟨_, Heap.get?_push_size _ rfl, rfl, rfl⟩, (hl1.push _)⟩ ?hS0 ?hR
        case hS0 => exact setX_fresh (Heap.get?_push_of_some _ hS)
        case hR =>
          intro s' hm hS'
          obtain ⟨h', g2, d', tk', os'⟩ := s'
          have eg : g2 = s.gens := hm.gens
          have ed : d' = s.drawn := hm.drawn
          have eo : os' = s.os := hm.os
          subst eg; subst ed; subst eo
          show wpAny _ _ _ _ _ _
          refine wpAny_pure ?_
          show wpAny _ _ (ret Value.none) _ _ _
          refine wpAny_pure ⟨rfl, h', tk', rfl, hS', fun b o e => ?_⟩
          have hb0 : b < s.heap.objs.size := Heap.lt_size e
          refine hm.heap b o ?_ (Heap.get?_push_of_some _ (Heap.get?_push_of_some _ e))
          rw [Heap.size_push]
          simp only [List.mem_cons, List.mem_singleton, List.not_mem_nil, or_false, not_or]
          exact ⟨Nat.ne_of_lt hb0, Nat.ne_of_lt (Nat.lt_succ_of_lt hb0)⟩

      · cases r₂ with
        | error e => exact hr₂
        | ok fl₂ =>
          cases fl₂ with
          | ret r =>
            obtain ⟨rfl, h', tk, rfl, hS', hk'⟩ := hr₂
            repeat (any_goals (first | assumption | wp_step))
            exact h _ _ hS' hk'
          | _ => exact hr₂.elim
    | _ => exact hr.elim

theorem strs_of : ∀ (l : List Value) (es : List (Int × Value)), (∀ e ∈ es, TxE w e) → (∀ v ∈ l, ∃ e ∈ es, e.2 = v) → StrsAre l (l.map fun v => txOf (0, v))
  | [], _, _, _ => .nil
  | v :: l, es, g, h => by
    obtain ⟨e, he, q⟩ := h v List.mem_cons_self
    obtain ⟨k, tk, e1, _⟩ := g e he
    have ev : v = .str k tk := by rw [← q, e1]
    subst ev
    exact .cons k tk (strs_of l es g fun u hu => h u (List.mem_cons_of_mem _ hu))
theorem sortedS_nil : sortedS [] = true := by rfl
/-- sorted of a set of texts -/
theorem sorted_setX {a : Addr} {l : List Str} {Q : Value → Shared → Prop} (R : SetX w s.heap a l) (hh : A.handled = none)
    (hQ : ∀ s' p (out : Array Value) (c : Nat) (ys : List Str), (∀ b o, s.heap.get? b = some o → s'.heap.get? b = some o) → s'.gens = s.gens → s'.os = s.os → s.heap.objs.size ≤ p →
      s'.heap.get? p = some (seqObj "list" out c) → StrsAre out.toList ys → sortedS ys = true → ys.Nodup → (∀ k, k ∈ ys ↔ k ∈ l) → ys.length ≤ l.length → Q (.ref p) s') :
    wpAny (model P w) A (call (.builtin "sorted") [.ref a]) Q E s := by
  obtain ⟨o, es, ep, t, r⟩ := R
  refine Calls.call_function_entry kind_sorted plain_sorted entry_sorted (args_sorted1 _) ?_
  unfold Builtin.«sorted»
  refine wpAny_bind (m := checkCount "sorted" 1 1 _) (wpAny_pure ?_)
  refine wpAny_bind (collect_set (A := A.in1) hh ⟨o, r.ho, r.hx.1, r.hd⟩ r.ft r.bd r.rs r.ld fun s1 vs k1 hz g1 o1 pm => ?_)
  have hvl : vs.length ≤ l.length := by
    have z := r.sz
    rw [pm.length_eq, List.length_map, Array.length_toList]
    exact z
  have hvs : vs.length ≤ sizeLine := by
    rw [pm.length_eq, List.length_map, Array.length_toList]
    exact fits_of_scanBound r.bd
  have hI : StrsAre vs (vs.map fun v => txOf (0, v)) := strs_of vs es.toList r.gd fun v hv => List.mem_map.mp (pm.mem_iff.mp hv)
  have pk : (vs.map fun v => txOf (0, v)).Perm (es.toList.map txOf) := by
    have q := pm.map fun v => txOf (0, v)
    rw [List.map_map] at q
    exact q
  refine wpAny_bind (wpAny_newList ?_ hvs)
  have hoL : (s1.heap.push (seqObj "list" vs.toArray 0)).get? s1.heap.objs.size = some (seqObj "list" vs.toArray 0) := Heap.get?_push_size _ rfl
  refine wpAny_bind (wpAny_holding (wpAny_call_entry slot_list_sort ⟨_, hoL, rfl⟩ entry_list_sort (list_sort_treeKAny strKind_oneLt hoL hI.keysOf (fun v₁ v₂ rest e => keyKind_strs (by rw [← e]; exact hI)) hvs fun st' hp hs => ⟨_, rfl, ?_⟩) (args_list_sort _)))
  obtain ⟨ys, a1, a2, a3⟩ := sorted_out_str hI hp hs
  obtain ⟨c, hc⟩ := sortedHeap_at (vs := vs) (out := (arrOf st').map (·.2)) hoL
  have pn : ys.Perm (es.toList.map txOf) := a2.trans pk
  refine wpAny_pure ⟨_, rfl, hQ _ s1.heap.objs.size _ c ys (fun b u e => ?_) g1 o1 hz hc a1 a3 (pn.nodup_iff.mpr r.nd) (fun k => by rw [pn.mem_iff, ← r.mem k]) ?_⟩
  · have q := k1 b u e
    have hlt := Heap.lt_size q
    show (sortedHeap (s1.heap.push (seqObj "list" vs.toArray 0)) s1.heap.objs.size vs _).get? b = some u
    rw [sortedHeap_old (Nat.ne_of_lt hlt) (by rw [size_push']; exact Nat.lt_succ_of_lt hlt)]
    exact Heap.get?_push_of_some _ q
  · have z := r.sz
    rw [pn.length_eq, List.length_map, Array.length_toList]
    exact z
end

section
variable {X : Cx}
/-- sorted(set(xs)), xs a list of texts -/
def tSortedSetS (K : PySem.W.Frag) (ta : TE) : TE := fun σ H Q => ta σ H fun x H1 => ∃ l, ∃ xs : List Str, x = .ref l ∧ SqL K H1 l (xs.map V.str) ∧ xs.length + 1 < scanBound ∧
  ∀ (ys : List Str) (p : Addr), sortedS ys = true → ys.Nodup → (∀ k, k ∈ ys ↔ k ∈ xs) → H1 p = none → Q (.ref p) (upd H1 p (.lst (ys.map V.str)))
/-- len(set(xs)) -/
def tLenSetS (K : PySem.W.Frag) (ta : TE) : TE := fun σ H Q => ta σ H fun x H1 => ∃ l, ∃ xs : List Str, x = .ref l ∧ SqL K H1 l (xs.map V.str) ∧ xs.length + 1 < scanBound ∧
  ∀ (ys : List Str), ys.Nodup → (∀ k, k ∈ ys ↔ k ∈ xs) → Q (.int ys.length) H1
theorem pe_sortedSetS {a : Expr} {ta : TE} {p p2 q pos : Pos} (hc : X.calm = true) (hg : Gl X "sorted") (hm : X.mg "sorted" = none) (hg2 : Gl X "set") (hm2 : X.mg "set" = none) (ha : PE X a ta)
    (na : starEach [a] X.env = (false, eval a X.env) :: starEach [] X.env := by rfl) : PE X (.Call (.Name "sorted" p) [.Call (.Name "set" p2) [a] [] q] [] pos) (tSortedSetS X.K ta) := by
  refine ⟨fun pins s σ H Q I h => ?_⟩
  refine Call_ (ld_blt I hg hm boot_sorted ?_)
  refine PyProof.Rows.callWith_builtin1 (PyProof.Rows.args_cons ?_ rfl) rfl rfl
  refine Call_ (ld_blt I hg2 hm2 boot_set ?_)
  refine PyProof.Rows.callWith_type1 (PyProof.Rows.args_cons (thn (ha.run pins s σ H _ I h) fun v s1 ⟨x, H1, I1, r1, q1⟩ => PyProof.Rows.args_nil ?_) na) na rfl
  obtain ⟨l, xs, rfl, hq, hb, q1⟩ := q1
  cases r1
  obtain ⟨its, r, pl, hz⟩ := I1.list hq
  refine call_set_tx xs (I1.ok.hd hc) pl.isList (by simpa using strsAre_of r) hb fun h' tk hS hk => ?_
  refine PyProof.Rows.args_nil ?_
  have I2 : Inv X pins σ H1 { s1 with heap := h', toks := tk } := I1.kept hk
  refine sorted_setX hS (I2.ok.hd hc) fun s' p out c ys k g o hp hg hi h1 h2 h3 h4 => ?_
  have hlen : (ys.map V.str).length ≤ sizeLine := by
    have := fits_of_scanBound (Nat.lt_of_succ_lt hb)
    rw [List.length_map]
    omega
  have hn : H1 p = none := I2.hok.fresh hp
  have J : Inv X pins σ (upd H1 p (.lst (ys.map V.str))) { s1 with heap := s'.heap, gens := s'.gens, drawn := s'.drawn, toks := s'.toks } :=
    I2.call (s := { s1 with heap := h', toks := tk }) (ch := []) (Un.laid k hp hn) (I2.hok.laid k hp ⟨hlen, out.toList, c, vals_of_strs hi, hg⟩) (by rw [g]; exact I2.bare) (fun _ z => nomatch z)
  have e : s' = { s1 with heap := s'.heap, gens := s'.gens, drawn := s'.drawn, toks := s'.toks } := by
    cases s'
    cases s1
    cases o
    rfl
  rw [e]
  exact ⟨.ref p, _, J, rfl, q1 ys p h1 h2 h3 hn⟩
theorem pe_lenSetS {a : Expr} {ta : TE} {p p2 q pos : Pos} (hc : X.calm = true) (hg : Gl X "len") (hm : X.mg "len" = none) (hg2 : Gl X "set") (hm2 : X.mg "set" = none) (ha : PE X a ta)
    (na : starEach [a] X.env = (false, eval a X.env) :: starEach [] X.env := by rfl) : PE X (.Call (.Name "len" p) [.Call (.Name "set" p2) [a] [] q] [] pos) (tLenSetS X.K ta) := by
  refine ⟨fun pins s σ H Q I h => ?_⟩
  refine Call_ (ld_blt I hg hm boot_len ?_)
  refine PyProof.Rows.callWith_builtin1 (PyProof.Rows.args_cons ?_ rfl) rfl rfl
  refine Call_ (ld_blt I hg2 hm2 boot_set ?_)
  refine PyProof.Rows.callWith_type1 (PyProof.Rows.args_cons (thn (ha.run pins s σ H _ I h) fun v s1 ⟨x, H1, I1, r1, q1⟩ => PyProof.Rows.args_nil ?_) na) na rfl
  obtain ⟨l, xs, rfl, hq, hb, q1⟩ := q1
  cases r1
  obtain ⟨its, r, pl, hz⟩ := I1.list hq
  refine call_set_tx xs (I1.ok.hd hc) pl.isList (by simpa using strsAre_of r) hb fun h' tk hS hk => ?_
  refine PyProof.Rows.args_nil ?_
  have I2 : Inv X pins σ H1 { s1 with heap := h', toks := tk } := I1.kept hk
  obtain ⟨o, es, ep, t, r⟩ := hS
  have el : (es.toList.map txOf).length = es.size := by rw [List.length_map, Array.length_toList]
  have hfit := fits_of_scanBound r.bd
  rw [sizeLine_eq] at hfit
  refine call_len_set r.ho r.hx r.hd r.ft (by omega) ⟨.int es.size, H1, I2.tok _, ⟨_, rfl⟩, ?_⟩
  rw [← el]
  exact q1 _ r.nd fun k => (r.mem k).symm
end
end OL

/-! HX3: text times number, remove of a text, list(zip(xs, ys)). -/
namespace OL
open PySem PySem.Spec PyProof.Rows L2
section
variable {X : Cx}
abbrev rMuS : R2 := fun x y H Q => ∃ a i, x = .str a ∧ y = .int i ∧ 0 ≤ i ∧ i ≤ 16777216 ∧ a.length * i.toNat ≤ 16777216 ∧ Q (.str (Txt.mul a i)) H
theorem op_mulS : OpR X (binaryOp .Mult) rMuS := by
  intro pins s σ H x y v u Q I rx ry h
  obtain ⟨a, i, rfl, rfl, h0, h1, h2, q⟩ := h
  obtain ⟨t, rfl⟩ := rx
  obtain ⟨t', rfl⟩ := ry
  exact SB.mul (mulOk_of a.length i.toNat (Nat.le_refl _) (by omega) (by omega) (by omega) h2) fun t' k => ⟨.str (Txt.mul a i), H, I.tok _, ⟨_, rfl⟩, q⟩

/-! ### xs.remove(x), texts -/
def eqS (k : Str) (v : Value) : Bool := match v with
  | .str n _ => n.cps.toList == k.cps.toList
  | _ => false
theorem eqS_gives {k : Str} {t : Tok} : ∀ {us : List Value} {ns : List Str}, StrsAre us ns → ∀ y ∈ us, MeetsSeq.EqGives y (.str k t) (eqS k y)
  | _, _, .nil => fun y hy => by cases hy
  | _, _, .cons n t' h => fun y hy => by
    rcases List.mem_cons.mp hy with e | e
    · rw [e]
      exact SeqRoads2.EqGives.str n k t' t
    · exact eqS_gives h y e
theorem eqS_true (k : Str) (t : Tok) : eqS k (.str k t) = true := beq_self_eq_true k.cps.toList
theorem eqS_false {k x : Str} (t : Tok) (h : x ≠ k) : eqS k (.str x t) = false := beq_eq_false_iff_ne.mpr fun e => h (by
  obtain ⟨a⟩ := x
  obtain ⟨b⟩ := k
  have e : a.toList = b.toList := e
  rw [Array.toList_inj.mp e])
theorem erase_mapS : ∀ (l : List Str) (j : Nat), (l.map V.str).eraseIdx j = (l.eraseIdx j).map V.str
  | [], j => rfl
  | a :: r, 0 => rfl
  | a :: r, j + 1 => congrArg (List.cons _) (erase_mapS r j)
def rRemS : V → List V → Hp → VK → Prop := fun x xs H Q => ∃ (l : Addr) (ns : List Str) (k : Str) (j : Nat), x = .ref l ∧ xs = [.str k] ∧ H l = some (.lst (ns.map V.str)) ∧ ns[j]? = some k ∧ (∀ m : Nat, m < j → ns[m]? ≠ some k) ∧ Q .non (upd H l (.lst ((ns.eraseIdx j).map V.str)))
theorem mt_removeS : MtM X "list.remove" rRemS := by
  intro pins s σ H x xs v us Q I rx rxs h
  obtain ⟨l, ns, k, j, rfl, rfl, hH, hj, hno, q⟩ := h
  cases rx
  obtain ⟨u, rfl, ru⟩ := rxs.one
  obtain ⟨t, rfl⟩ := ru
  obtain ⟨z, its, n, r, hl, e⟩ := I.lstM hH
  have hi : StrsAre its ns := strsAre_of r
  rw [List.length_map] at hl z
  have hjn : j < ns.length := (List.getElem?_eq_some_iff.mp hj).1
  have hz : its.length = ns.length := StrsAre.len_eq hi
  have hjl : j < its.toArray.size := by rw [List.size_toArray]; omega
  have at_ : ∀ m (hm : m < its.length), ∃ tm, its[m] = .str (ns.getD m Str.empty) tm := fun m hm => by
    obtain ⟨tm, e1⟩ := SS.strs_at hi m its[m] (List.getElem?_eq_getElem hm)
    exact ⟨tm, e1⟩
  refine call_meets PySem.F.slot_list_remove ⟨_, e, rfl⟩ PySem.F.entry_list_remove (PySem.F.args_list_remove_2 _ _)
    (MeetsSeq.list_remove l its.toArray n (.str k t) (eqS k) (fun y hy => eqS_gives hi y (by simpa using hy)) j hjl ?_ ?_ (by rw [List.size_toArray, hz]; exact z)) ⟨e, ?_⟩
  · obtain ⟨tm, e1⟩ := at_ j (by rw [hz]; exact hjn)
    have e2 : ns.getD j Str.empty = k := by rw [List.getD_eq_getElem?_getD, hj]; rfl
    rw [e2] at e1
    have e3 : its.toArray[j] = .str k tm := by simpa using e1
    rw [e3]
    exact eqS_true k tm
  · intro m hm hmj
    have hmn : m < ns.length := by omega
    obtain ⟨tm, e1⟩ := at_ m (by rw [hz]; exact hmn)
    have e2 : ns.getD m Str.empty = ns[m] := by rw [List.getD_eq_getElem?_getD, List.getElem?_eq_getElem hmn]; rfl
    rw [e2] at e1
    have e3 : its.toArray[m] = .str ns[m] tm := by simpa using e1
    rw [e3]
    exact eqS_false tm fun e4 => hno m hmj (by rw [List.getElem?_eq_getElem hmn, e4])
  · have rr : Vals ((ns.eraseIdx j).map V.str) (its.eraseIdx j) := by
      rw [← erase_mapS]
      exact r.eraseIdx j
    refine ⟨.non, _, I.lset (its' := its.eraseIdx j) (t' := s.toks) hH e ?_ rr ?_, rfl, q⟩
    · show its.toArray.eraseIdxIfInBounds j = (its.eraseIdx j).toArray
      rw [List.eraseIdxIfInBounds_toArray]
    · have z2 := len_erase ns j
      rw [List.length_map]
      omega
end

/-! ### many new objects -/
theorem inv_more {X : Cx} {pins : List (Addr × Obj)} {σ : L2.St} {H H' : Hp} {s : Shared} {h' : Heap} {tk : Nat} (I : Inv X pins σ H s) (k : ∀ b u, s.heap.get? b = some u → h'.get? b = some u)
    (ext : ∀ b o, H b = some o → H' b = some o) (old : ∀ b, b < s.heap.objs.size → H' b = H b) (new : ∀ a o, s.heap.objs.size ≤ a → H' a = some o → ObjOk X.prog X.w H' h' a o) : Inv X pins σ H' { s with heap := h', toks := tk } := by
  refine I.un ⟨fun b u q _ _ _ => k b u q, fun b u q _ _ _ => ⟨u.slots, k b u q⟩, fun b u q n _ => by rw [old b (Heap.lt_size q)]; exact n, fun b u q _ => ⟨u, k b u q⟩, fun b xs q => ext _ _ q, fun b u xs q => ext _ _ q, fun b ps q => ⟨#[], by rw [ext _ _ q]; simp⟩⟩ fun a o e => ?_
  by_cases ha : a < s.heap.objs.size
  · rw [old a ha] at e
    exact (I.hok a o e).stay (fun b u _ q => k b u q) (fun b q => ext _ _ q) fun b xs q => ext _ _ q
  · exact new a o (Nat.le_of_not_lt ha) e

/-! ### list(zip(xs, ys)) -/
theorem zip_no_len : typeLookup (.type "zip") "__len__" = pure none := by rw [typeLookup_type, builtinLookup_eq_fast]; kernel_rfl
theorem zip_no_hint : typeLookup (.type "zip") "__length_hint__" = pure none := by rw [typeLookup_type, builtinLookup_eq_fast]; kernel_rfl
abbrev lstObj (acc : Array Value) (c : Nat) : Obj := { cls := .type "list", dict := none, data := .seq acc c, slots := #[] }
/-- the zip at its i-th turn; S: the list that is made -/
def ZSt (z TI TO i1 i2 l1 l2 S : Addr) (xs ys : Array Value) (i : Nat) (h : Heap) : Prop :=
  IsPair h TI (.ref i1) (.ref i2) ∧ h.IsListIter i1 l1 i ∧ h.IsListIter i2 l2 i ∧ h.IsList l1 xs ∧ h.IsList l2 ys ∧
    ((IsZip h z TI TO .none ∧ ∃ a b, IsPair h TO a b) ∨ ∃ T f oT, IsZipHeld h z TI TO T f ∧ h.get? T = some oT ∧ T ≠ z ∧ T ≠ i1 ∧ T ≠ i2 ∧ T ≠ S)
/-- the pairs that were made: tuples behind n0 -/
def Prs (n0 : Nat) (xs ys : Array Value) (h : Heap) (ts : List Addr) : Prop :=
  (∀ (j : Nat) (t : Addr), ts[j]? = some t → n0 ≤ t ∧ ∃ x y, xs[j]? = some x ∧ ys[j]? = some y ∧ IsPair h t x y) ∧ ts.Nodup
section
variable {prog : Program} {w : World} {A : Around} {R : Result → Shared → Prop} {z TI TO i1 i2 l1 l2 S : Addr} {xs ys : Array Value} {n0 : Nat}
theorem zip_loop (hh : A.handled = none) (D : ZipApart z TI TO i1 i2 l1 l2) (hS : ∀ b ∈ [z, TI, TO, i1, i2, l1, l2], b ≠ S) (hb : ∀ b ∈ [z, TI, TO, i1, i2, S], b < n0) (hn : min xs.size ys.size ≤ sizeLine) (res : Value) :
    ∀ (k i : Nat) (s : Shared) (ts : List Addr) (c : Nat), min xs.size ys.size - i = k → i ≤ min xs.size ys.size → n0 ≤ s.heap.objs.size → ZSt z TI TO i1 i2 l1 l2 S xs ys i s.heap → s.heap.get? S = some (lstObj (ts.map Value.ref).toArray c) → Prs n0 xs ys s.heap ts → ts.length = i →
    (∀ h' ts' c', (∀ b o, b ∉ [z, TO, i1, i2, S] → s.heap.get? b = some o → h'.get? b = some o) → h'.get? S = some (lstObj (ts'.map Value.ref).toArray c') → Prs n0 xs ys h' ts' → ts'.length = min xs.size ys.size → R (.ok (.ret res)) { s with heap := h' }) →
    codeAny (model prog w) A (.builtin "list.extend.loop" ⟨[.ref S, .ref z, res], []⟩) R s := by
  intro k
  have zS : z ≠ S := hS z (by simp)
  have TIS : TI ≠ S := hS TI (by simp)
  have TOS : TO ≠ S := hS TO (by simp)
  have i1S : i1 ≠ S := hS i1 (by simp)
  have i2S : i2 ≠ S := hS i2 (by simp)
  have l1S : l1 ≠ S := hS l1 (by simp)
  have l2S : l2 ≠ S := hS l2 (by simp)
  have big : ∀ b t, b ∈ [z, TI, TO, i1, i2, S] → n0 ≤ t → t ≠ b := fun b t h1 h2 e => by
    have := hb b h1
    rw [← e] at this
    exact absurd h2 (Nat.not_le_of_lt this)
  induction k with
  | zero =>
    intro i s ts c hk hi hsz hst hSS hp hl hR
    obtain ⟨hTI, h1, h2, hl1, hl2, hz⟩ := hst
    have ei : i = min xs.size ys.size := by omega
    have hend : xs[i]? = none ∨ ys[i]? = none := by
      rcases Nat.le_total xs.size ys.size with h | h
      · exact .inl (Array.getElem?_eq_none (by rw [ei, Nat.min_eq_left h]; exact Nat.le_refl _))
      · exact .inr (Array.getElem?_eq_none (by rw [ei, Nat.min_eq_right h]; exact Nat.le_refl _))
    refine codeAny_builtin F.entry_extend_loop ?_
    rw [Around.under_plainId F.plain_extend_loop _]
    show wpAny _ A.in1 (pyNext (.ref z) >>= _) _ _ s
    refine wpAny_bind ?_
    have fin : ∀ h', (∀ b o, b ∉ [z, TO, i1, i2] → s.heap.get? b = some o → h'.get? b = some o) → R (.ok (.ret res)) { s with heap := h' } := fun h' hk => by
      refine hR h' ts c (fun b o hb e => hk b o (fun z => hb (by simp at z ⊢; rcases z with z | z | z | z <;> simp [z])) e) (hk _ _ (by simp [zS.symm, TOS.symm, i1S.symm, i2S.symm]) hSS) ⟨fun j t ht => ?_, hp.2⟩ (by rw [hl, ei])
      obtain ⟨h3, x, y, h4, h5, h6⟩ := hp.1 j t ht
      exact ⟨h3, x, y, h4, h5, hk _ _ (by simp [big z t (by simp) h3, big TO t (by simp) h3, big i1 t (by simp) h3, big i2 t (by simp) h3]) h6⟩
    rcases hz with ⟨hz, a, b, hTO⟩ | ⟨T, f, oT, hz, hT, r1, r2, r3, r4⟩
    · exact wpAny_pyNext_zip_end (by exact hh) D hz hTI hTO h1 h2 hl1 hl2 hend fun h' hk => wpAny_pure (fin h' fun b o hb e => hk b o (fun x => hb (by simp [x])) (fun x => hb (by simp [x])) (fun x => hb (by simp [x])) (fun x => hb (by simp [x])) e)
    · exact wpAny_pyNext_zip_end_held (by exact hh) D hz hT hTI h1 h2 hl1 hl2 hend fun h' hk => wpAny_pure (fin h' fun b o hb e => hk b o (fun x => hb (by simp [x])) (fun x => hb (by simp [x])) (fun x => hb (by simp [x])) e)
  | succ k ih =>
    intro i s ts c hk hi hsz hst hSS hp hl hR
    obtain ⟨hTI, h1, h2, hl1, hl2, hz⟩ := hst
    have hlt : i < min xs.size ys.size := by omega
    have ex : xs[i]? = some _ := Array.getElem?_eq_getElem (Nat.lt_of_lt_of_le hlt (Nat.min_le_left ..))
    have ey : ys[i]? = some _ := Array.getElem?_eq_getElem (Nat.lt_of_lt_of_le hlt (Nat.min_le_right ..))
    have lt : ∀ {c o}, s.heap.get? c = some o → s.heap.objs.size ≠ c := fun e => Nat.ne_of_gt (Heap.lt_size e)
    have n1 : s.heap.objs.size ≠ i1 := let ⟨_, e, _⟩ := h1; lt e
    have n2 : s.heap.objs.size ≠ i2 := let ⟨_, e, _⟩ := h2; lt e
    refine codeAny_builtin F.entry_extend_loop ?_
    rw [Around.under_plainId F.plain_extend_loop _]
    show wpAny _ A.in1 (pyNext (.ref z) >>= _) _ _ s
    refine wpAny_bind ?_
    -- behind the step: h' with the new tuple
    have go : ∀ h', (∀ b o, b ∉ [z, TO, i1, i2] → s.heap.get? b = some o → h'.get? b = some o) → h'.objs.size = s.heap.objs.size + 1 → IsPair h' s.heap.objs.size xs[i] ys[i] → h'.IsListIter i1 l1 (i + 1) → h'.IsListIter i2 l2 (i + 1) →
        (∃ T f oT, IsZipHeld h' z TI TO T f ∧ h'.get? T = some oT ∧ T ≠ z ∧ T ≠ i1 ∧ T ≠ i2 ∧ T ≠ S) →
        wpAny (model prog w) A.in1 (updateSeq S (·.push (.ref s.heap.objs.size)) >>= fun _ => again (.builtin "list.extend.loop" ⟨[.ref S, .ref z, res], []⟩)) (fun fin s' => match fin with | .done f => R (.ok f) s' | .again c' => c'.quiet = true ∧ codeAny (model prog w) A c' R s') (fun e s' => R (.error e) s') { s with heap := h' } := by
      intro h' hk hs' hpr g1 g2 ⟨T, f, oT, hz', hT', r1, r2, r3, r4⟩
      have hS' := hk _ _ (by simp [zS.symm, TOS.symm, i1S.symm, i2S.symm]) hSS
      have lS : (ts.map Value.ref).toArray.size = i := by simp [hl]
      have oth : ∀ b o, b ≠ S → h'.get? b = some o → (h'.update S (Obj.mapSeq (·.push (.ref s.heap.objs.size)))).get? b = some o := fun b o hb e => (Heap.get?_update_other _ _ (Ne.symm hb)).trans e
      have nSn : s.heap.objs.size ≠ S := lt hSS
      have e2 : ((ts ++ [s.heap.objs.size]).map Value.ref).toArray = (ts.map Value.ref).toArray.push (.ref s.heap.objs.size) := by simp
      obtain ⟨c2, hc2⟩ : ∃ c2, (h'.update S (Obj.mapSeq (·.push (.ref s.heap.objs.size)))).get? S = some (lstObj ((ts ++ [s.heap.objs.size]).map Value.ref).toArray c2) := ⟨_, by rw [e2]; exact Heap.get?_update_self _ hS' rfl⟩
      refine wpAny_bind (wpAny_updateSeq hS' rfl (wpAny_pure ⟨plainId_quiet F.plain_extend_loop _, ih (i + 1) _ (ts ++ [s.heap.objs.size]) c2 (by omega) hlt ?_ ?_ hc2 ?_ ?_ ?_⟩) (by rw [lS]; omega) (by show ((ts.map Value.ref).toArray.push _).size ≤ sizeLine + 1; rw [Array.size_push, lS]; omega))
      · show n0 ≤ (h'.update S _).objs.size
        rw [Heap.size_update, hs']
        exact Nat.le_succ_of_le hsz
      · refine ⟨oth _ _ TIS (hk _ _ (by simp [D.TIz, D.TITO, D.TIi1, D.TIi2]) hTI), g1.at fun o e => oth _ o i1S e, g2.at fun o e => oth _ o i2S e, hl1.at fun o e => oth _ o l1S (hk _ _ (by simp [D.l1z, D.l1TO, D.l1i1, D.l1i2]) e), hl2.at fun o e => oth _ o l2S (hk _ _ (by simp [D.l2z, D.l2TO, D.l2i1, D.l2i2]) e), .inr ⟨T, f, oT, oth _ _ zS hz', oth _ _ r4 hT', r1, r2, r3, r4⟩⟩
      · refine ⟨fun j t ht => ?_, ?_⟩
        · by_cases hj : j < ts.length
          · rw [List.getElem?_append_left hj] at ht
            obtain ⟨h3, x, y, h4, h5, h6⟩ := hp.1 j t ht
            exact ⟨h3, x, y, h4, h5, oth _ _ (big S t (by simp) h3) (hk _ _ (by simp [big z t (by simp) h3, big TO t (by simp) h3, big i1 t (by simp) h3, big i2 t (by simp) h3]) h6)⟩
          · have ej : j = i := by
              have := (List.getElem?_eq_some_iff.mp ht).1
              rw [List.length_append, List.length_singleton] at this
              omega
            subst ej
            rw [List.getElem?_append_right (by omega), hl, Nat.sub_self] at ht
            obtain rfl : s.heap.objs.size = t := by simpa using ht
            exact ⟨hsz, _, _, ex, ey, oth _ _ nSn hpr⟩
        · refine List.nodup_append.mpr ⟨hp.2, by simp, fun a ha b hb e => ?_⟩
          obtain rfl : b = s.heap.objs.size := by simpa using hb
          obtain ⟨j, hj⟩ := List.getElem?_of_mem ha
          obtain ⟨_, x, y, _, _, h6⟩ := hp.1 j a hj
          exact lt h6 e.symm
      · rw [List.length_append, hl]; rfl
      · intro h2 ts' c' hk2 hS2 hp2 hl2
        exact hR h2 ts' c' (fun b o hb e => hk2 b o hb (oth b o (fun x => hb (by simp [x])) (hk b o (fun x => hb (by simp at x ⊢; rcases x with x | x | x | x <;> simp [x])) e))) hS2 hp2 hl2
    rcases hz with ⟨hz, a, b, hTO⟩ | ⟨T, f, oT, hz, hT, r1, r2, r3, r4⟩
    · exact wpAny_pyNext_zip_item D hz hTI hTO h1 h2 hl1 hl2 ex ey fun h' a1 a2 a3 a4 a5 a6 hk => go h' (fun b o hb e => hk b o (fun x => hb (by simp [x])) (fun x => hb (by simp [x])) (fun x => hb (by simp [x])) (fun x => hb (by simp [x])) e) a6 a5 a3 a4 ⟨s.heap.objs.size, false, _, a1, a5, lt hz, n1, n2, lt hSS⟩
    · exact wpAny_pyNext_zip_item_held D hz hT hTI h1 h2 hl1 hl2 ex ey fun h' a1 a3 a4 a5 a6 hk => go h' (fun b o hb e => hk b o (fun x => hb (by simp [x])) (fun x => hb (by simp [x])) (fun x => hb (by simp [x])) e) a6 a5 a3 a4 ⟨T, true, oT, a1, hk _ _ r1 r2 r3 hT, r1, r2, r3, r4⟩
end
end OL

/-! HX4: list(zip(xs, ys)), called. -/
namespace OL
open PySem PySem.Spec PyProof.Rows L2
section
variable {prog : Program} {w : World} {A : Around} {E : Value → Shared → Prop} {s : Shared} {z TI TO i1 i2 l1 l2 : Addr} {xs ys : Array Value} {n0 : Nat}
theorem call_list_zip {Q : Value → Shared → Prop} (hh : A.handled = none) (D : ZipApart z TI TO i1 i2 l1 l2) (hb : ∀ b ∈ [z, TI, TO, i1, i2, l1, l2], b < s.heap.objs.size) (hn : min xs.size ys.size ≤ sizeLine)
    (hz : IsZip s.heap z TI TO .none) (hTO : IsPair s.heap TO .none .none) (hTI : IsPair s.heap TI (.ref i1) (.ref i2)) (h1 : s.heap.IsListIter i1 l1 0) (h2 : s.heap.IsListIter i2 l2 0) (hl1 : s.heap.IsList l1 xs) (hl2 : s.heap.IsList l2 ys)
    (hQ : ∀ (h' : Heap) (ts : List Addr) (c : Nat), (∀ b o, b ∉ [z, TO, i1, i2] → s.heap.get? b = some o → h'.get? b = some o) → h'.get? s.heap.objs.size = some (lstObj (ts.map Value.ref).toArray c) →
      Prs (s.heap.objs.size + 1) xs ys h' ts → ts.length = min xs.size ys.size → Q (.ref s.heap.objs.size) { s with heap := h' }) :
    wpAny (model prog w) A (call (.type "list") [.ref z]) Q E s := by
  refine callType_codes (Q₁ := fun obj s₁ => obj = .ref s.heap.objs.size ∧ s₁ = { s with heap := s.heap.push { cls := .type "list", data := .seq #[] } }) F.called_list (F.typeCall_list_1 _) F.entry_list_init
    (code_list_new _ ⟨rfl, rfl⟩) fun obj s₁ h₁ => ?_
  obtain ⟨rfl, rfl⟩ := h₁
  have hS : (s.heap.push { cls := .type "list", data := .seq #[] }).get? s.heap.objs.size = some { cls := .type "list", data := .seq #[] } := Heap.get?_push_size _ rfl
  refine ⟨⟨_, hS, rfl⟩, F.args_list_init_2 _ _, ?_⟩
  have nb : ∀ b, b ∈ [z, TI, TO, i1, i2, l1, l2] → b ≠ s.heap.objs.size := fun b h e => Nat.lt_irrefl _ (e ▸ hb b h)
  have old : ∀ b o, s.heap.get? b = some o → b ≠ s.heap.objs.size := fun b o e => Nat.ne_of_lt (Heap.lt_size e)
  have zS : z ≠ s.heap.objs.size := nb z (by simp)
  show wpAny _ _ (do let old ← Builtin.List.listItems (.ref s.heap.objs.size); Builtin.List.listUpdate (.ref s.heap.objs.size) (fun _ => #[]); letGo old.toList.reverse; Builtin.List.listExtendWith (.ref s.heap.objs.size) (.ref z) .none) _ _ _
  refine wpAny_bind ?_
  unfold Builtin.List.listItems
  refine wpAny_bind (wpAny_seqItems hS rfl (wpAny_pure ?_))
  show wpAny _ _ (updateSeq s.heap.objs.size (fun _ => #[]) >>= fun _ => letGo (#[] : Array Value).toList.reverse >>= fun _ => Builtin.List.listExtendWith (.ref s.heap.objs.size) (.ref z) .none) _ _ _
  refine wpAny_bind (wpAny_updateSeq hS rfl ?_)
  have hS2 := Heap.get?_update_self (Obj.mapSeq (fun _ => (#[] : Array Value))) hS rfl
  refine wpAny_bind (wpAny_letGo ?_)
  have up : ∀ b o, b ≠ s.heap.objs.size → s.heap.get? b = some o → ((s.heap.push { cls := .type "list", data := .seq #[] }).update s.heap.objs.size (Obj.mapSeq (fun _ => (#[] : Array Value)))).get? b = some o :=
    fun b o hb e => (Heap.get?_update_other _ _ (Ne.symm hb)).trans (Heap.get?_push_of_some _ e)
  have hz2 := up _ _ zS hz
  unfold Builtin.List.listExtendWith
  refine wpAny_bind (wpAny_typeOf (T := "zip") ⟨_, hz2, rfl⟩ ?_)
  have e1 : Builtin.List.listSameRef (.ref s.heap.objs.size) (.ref z) = false := by simp [Builtin.List.listSameRef, Ne.symm zS]
  have e2 : (Value.type "zip" == Value.type "list") = false := by decide
  have e3 : (Value.type "zip" == Value.type "tuple") = false := by decide
  simp only [e1, e2, e3, Bool.or_false, Bool.false_eq_true, if_false]
  refine wpAny_bind (wpAny_pyIter_zip hz2 ?_)
  refine wpAny_bind (wpAny_holding ?_)
  unfold Builtin.List.listLengthHint
  refine wpAny_bind (wpAny_specialOf ⟨_, hz2, rfl⟩ zip_no_len ?_)
  show wpAny _ _ (specialOf (Value.ref z) (Str.ofString "__length_hint__") >>= _) _ _ _
  refine wpAny_bind (wpAny_specialOf ⟨_, hz2, rfl⟩ zip_no_hint ?_)
  refine wpAny_pure ?_
  show wpAny _ _ (rule "list.extend.makes-room" >>= fun _ => Builtin.List.listTouch (.ref s.heap.objs.size) >>= fun _ =>
    again (.builtin "list.extend.loop" ⟨[.ref s.heap.objs.size, .ref z, .none], []⟩)) _ _ _
  refine wpAny_bind (wpAny_rule ?_)
  refine wpAny_bind ?_
  show wpAny _ _ (updateSeq s.heap.objs.size (·.push .none) >>= fun _ => updateSeq s.heap.objs.size (·.pop)) _ _ _
  refine wpAny_bind (wpAny_updateSeq hS2 rfl ?_)
  have hS3 := Heap.get?_update_self (Obj.mapSeq (·.push Value.none)) hS2 rfl
  refine wpAny_updateSeq (hz := by seq_fits) hS3 rfl ?_
  obtain ⟨c0, hS4⟩ : ∃ c0, ((((s.heap.push { cls := .type "list", data := .seq #[] }).update s.heap.objs.size (Obj.mapSeq (fun _ => (#[] : Array Value)))).update s.heap.objs.size (Obj.mapSeq (·.push Value.none))).update s.heap.objs.size (Obj.mapSeq (·.pop))).get? s.heap.objs.size = some (lstObj (([] : List Addr).map Value.ref).toArray c0) :=
    ⟨_, Heap.get?_update_self (Obj.mapSeq (·.pop)) hS3 rfl⟩
  have oth : ∀ b o, s.heap.get? b = some o → ((((s.heap.push { cls := .type "list", data := .seq #[] }).update s.heap.objs.size (Obj.mapSeq (fun _ => (#[] : Array Value)))).update s.heap.objs.size (Obj.mapSeq (·.push Value.none))).update s.heap.objs.size (Obj.mapSeq (·.pop))).get? b = some o :=
    fun b o e => (Heap.get?_update_other _ _ (Ne.symm (old b o e))).trans ((Heap.get?_update_other _ _ (Ne.symm (old b o e))).trans (up b o (old b o e) e))
  have hsz : ((((s.heap.push { cls := .type "list", data := .seq #[] }).update s.heap.objs.size (Obj.mapSeq (fun _ => (#[] : Array Value)))).update s.heap.objs.size (Obj.mapSeq (·.push Value.none))).update s.heap.objs.size (Obj.mapSeq (·.pop))).objs.size = s.heap.objs.size + 1 := by
    rw [Heap.size_update, Heap.size_update, Heap.size_update, Heap.size_push]
  refine wpAny_pure ⟨plainId_quiet F.plain_extend_loop _, zip_loop (n0 := s.heap.objs.size + 1) (by exact hh) D nb (fun b hm => ?_) hn .none _ 0 _ [] c0 rfl (Nat.zero_le _) (Nat.le_of_eq hsz.symm)
    ⟨oth _ _ hTI, h1.at fun o e => oth _ o e, h2.at fun o e => oth _ o e, hl1.at fun o e => oth _ o e, hl2.at fun o e => oth _ o e, .inl ⟨oth _ _ hz, _, _, oth _ _ hTO⟩⟩ hS4 ⟨fun j t ht => by simp at ht, by simp⟩ rfl fun h' ts c hk hS' hp hl => ?_⟩
  · rcases List.mem_cons.mp hm with e | hm
    · rw [e]; exact Nat.lt_succ_of_lt (hb z (by simp))
    · have : b ∈ [z, TI, TO, i1, i2, l1, l2] ∨ b = s.heap.objs.size := by simp at hm ⊢; rcases hm with e | e | e | e | e <;> simp [e]
      rcases this with h | h
      · exact Nat.lt_succ_of_lt (hb b h)
      · rw [h]; exact Nat.lt_succ_self _
  · exact ⟨rfl, hQ h' ts c (fun b o hb e => hk b o (fun x => by
      have : b ∈ [z, TO, i1, i2] ∨ b = s.heap.objs.size := by simp at x ⊢; rcases x with e | e | e | e | e <;> simp [e]
      exact this.elim hb (old b o e)) (oth b o e)) hS' hp hl⟩
end
section
variable {X : Cx}
theorem refs_vals : ∀ ts : List Addr, Vals (ts.map V.ref) (ts.map Value.ref)
  | [] => .nil
  | t :: ts => .cons rfl (refs_vals ts)
def tListZip (K : PySem.W.Frag) (ta : TA) : TE := fun σ H Q => ta σ H fun vs H1 => ∃ a b xs ys, vs = [.ref a, .ref b] ∧ SqL K H1 a xs ∧ SqL K H1 b ys ∧
  ∀ (H' : Hp) (p : Addr) (ts : List Addr), (∀ c o, H1 c = some o → H' c = some o) → H1 p = none → H' p = some (.lst (ts.map V.ref)) → ts.length = min xs.length ys.length →
    (∀ (j : Nat) (t : Addr), ts[j]? = some t → ∃ x y, xs[j]? = some x ∧ ys[j]? = some y ∧ H' t = some (.tup [x, y]) ∧ H1 t = none) → Q (.ref p) H'
theorem pe_listZip {e1 e2 : Expr} {ta : TA} {p p2 q pos : Pos} (hg : Gl X "list") (hm : X.mg "list" = none) (hg2 : Gl X "zip") (hm2 : X.mg "zip" = none) (ha : PA X [e1, e2] ta)
    (hc : X.calm = true := by rfl) (hs : starEach [e1, e2] X.env = (false, eval e1 X.env) :: starEach [e2] X.env := by rfl) (hpl : (backTo q (starEach [e2] X.env)).any (·.1) = false := by rfl) :
    PE X (.Call (.Name "list" p) [.Call (.Name "zip" p2) [e1, e2] [] q] [] pos) (tListZip X.K ta) := by
  refine ⟨fun pins s σ H Q I h => ?_⟩
  refine Call_ (ld_blt I hg hm PyProof.Rows.boot_list ?_)
  refine PyProof.Rows.callWith_type1 (PyProof.Rows.args_cons ?_ rfl) rfl rfl
  refine Call_ (ld_blt I hg2 hm2 PyProof.Rows.boot_zip (PyProof.Rows.callWith_type1 (thn (ha.run q pins s σ H _ I h) fun us s1 ⟨vs, H1, I1, r1, q1⟩ => ?_) hs hpl))
  obtain ⟨a, b, xs, ys, ex, hqx, hqy, q⟩ := q1
  subst ex
  obtain ⟨u1, u2, rfl, ru1, ru2⟩ := vals2 r1
  cases ru1
  cases ru2
  obtain ⟨its, rv, pa, za⟩ := I1.list hqx
  obtain ⟨its2, rv2, pb, zb⟩ := I1.list hqy
  have la : a < s1.heap.objs.size := pa.lt
  have lb : b < s1.heap.objs.size := pb.lt
  refine call_zip_2 pa.isList pb.isList fun h1 hz hTI hTO g1 g2 hsz hk1 => PyProof.Rows.args_nil ?_
  have sx : its.toArray.size = xs.length := by rw [List.size_toArray, ← rv.length]
  have sy : its2.toArray.size = ys.length := by rw [List.size_toArray, ← rv2.length]
  refine call_list_zip (s := { s1 with heap := h1 }) (xs := its.toArray) (ys := its2.toArray) (I1.ok.hd hc) (PySem.W.ktu_apart s1.heap.objs.size a b la lb) (fun c hm => ?_) ?_ hz hTO hTI g1 g2 (pa.isList.at fun o e => hk1 _ o e) (pb.isList.at fun o e => hk1 _ o e) fun h2 ts c hk hS hp hl => ?_
  · show c < h1.objs.size
    rw [hsz]
    simp only [List.mem_cons, List.not_mem_nil, or_false] at hm
    rcases hm with e | e | e | e | e | e | e <;> rw [e]
    · exact Nat.lt_succ_self _
    · exact Nat.add_lt_add_left (by decide) _
    · exact Nat.add_lt_add_left (by decide) _
    · exact Nat.lt_add_of_pos_right (by decide)
    · exact Nat.add_lt_add_left (by decide) _
    · exact Nat.lt_add_right 5 la
    · exact Nat.lt_add_right 5 lb
  · rw [sx, sy]
    exact Nat.le_trans (Nat.min_le_left ..) za
  have keep : ∀ b o, s1.heap.get? b = some o → h2.get? b = some o := fun b o e => hk b o (fun x => by
    have lt := Heap.lt_size e
    have ge : s1.heap.objs.size ≤ b := by
      simp only [List.mem_cons, List.not_mem_nil, or_false] at x
      rcases x with e | e | e | e <;> rw [e]
      · exact Nat.le_add_right _ _
      · exact Nat.le_add_right _ _
      · exact Nat.le_refl _
      · exact Nat.le_add_right _ _
    exact Nat.lt_irrefl _ (Nat.lt_of_lt_of_le lt ge)) (hk1 b o e)
  have hS : h2.get? h1.objs.size = some (lstObj (ts.map Value.ref).toArray c) := hS
  have hp : Prs (h1.objs.size + 1) its.toArray its2.toArray h2 ts := hp
  have pge : s1.heap.objs.size ≤ h1.objs.size := by rw [hsz]; exact Nat.le_add_right _ _
  have tge : ∀ t ∈ ts, h1.objs.size < t := fun t ht => by
    obtain ⟨j, hj⟩ := List.getElem?_of_mem ht
    exact (hp.1 j t hj).1
  have item : ∀ (j : Nat) (t : Addr), ts[j]? = some t → ∃ x y vx vy, xs[j]? = some x ∧ ys[j]? = some y ∧ RelV x vx ∧ RelV y vy ∧ IsPair h2 t vx vy := fun j t ht => by
    obtain ⟨_, vx, vy, e1, e2, e3⟩ := hp.1 j t ht
    have e1 : its[j]? = some vx := by simpa using e1
    have e2 : its2[j]? = some vy := by simpa using e2
    have hj1 : j < xs.length := by rw [rv.length]; exact (List.getElem?_eq_some_iff.mp e1).1
    have hj2 : j < ys.length := by rw [rv2.length]; exact (List.getElem?_eq_some_iff.mp e2).1
    obtain ⟨w1, f1, f2⟩ := rv.get (List.getElem?_eq_getElem hj1)
    obtain ⟨w2, f3, f4⟩ := rv2.get (List.getElem?_eq_getElem hj2)
    rw [e1] at f1
    rw [e2] at f3
    cases f1
    cases f3
    exact ⟨_, _, _, _, List.getElem?_eq_getElem hj1, List.getElem?_eq_getElem hj2, f2, f4, e3⟩
  -- the abstract heap behind
  let TP : Addr → HO → Prop := fun t o => ∃ (j : Nat) (x y : V), ts[j]? = some t ∧ xs[j]? = some x ∧ ys[j]? = some y ∧ o = .tup [x, y]
  have uq : ∀ t o u, TP t o → TP t u → o = u := fun t o u ⟨j, x, y, a1, a2, a3, a4⟩ ⟨k, x', y', b1, b2, b3, b4⟩ => by
    have e : j = k := (List.getElem?_inj (List.getElem?_eq_some_iff.mp a1).1 hp.2).mp (a1.trans b1.symm)
    subst e
    rw [a2] at b2
    rw [a3] at b3
    cases b2
    cases b3
    rw [a4, b4]
  have Tn : ∀ t o, TP t o → t ∈ ts := fun t o ⟨j, _, _, h, _⟩ => List.mem_of_getElem? h
  let H' : Hp := fun b => open Classical in if b = h1.objs.size then some (.lst (ts.map V.ref)) else if h : ∃ o, TP b o then some (Classical.choose h) else H1 b
  have Hp_ : H' h1.objs.size = some (.lst (ts.map V.ref)) := if_pos rfl
  have Ht : ∀ t o, TP t o → H' t = some o := fun t o e => by
    have ne : t ≠ h1.objs.size := Nat.ne_of_gt (tge t (Tn t o e))
    have ex : ∃ o, TP t o := ⟨o, e⟩
    show (if t = _ then _ else _) = _
    rw [if_neg ne, dif_pos ex]
    exact congrArg some (uq t _ _ (Classical.choose_spec ex) e)
  have Hn : ∀ b, b ≠ h1.objs.size → (¬ ∃ o, TP b o) → H' b = H1 b := fun b ne nt => by
    show (if b = _ then _ else _) = _
    rw [if_neg ne, dif_neg nt]
  have Ho : ∀ b, b < s1.heap.objs.size → H' b = H1 b := fun b hb => Hn b (Nat.ne_of_lt (Nat.lt_of_lt_of_le hb pge)) fun ⟨o, e⟩ =>
    absurd (Nat.lt_trans hb (Nat.lt_of_le_of_lt pge (tge b (Tn b o e)))) (Nat.lt_irrefl _)
  have hlen : (ts.map V.ref).length ≤ sizeLine := by
    rw [List.length_map, hl, sx, sy]
    exact Nat.le_trans (Nat.min_le_left ..) za
  have J : Inv X pins σ H' { s1 with heap := h2, toks := s1.toks } := by
    refine inv_more I1 keep (fun b o e => by rw [Ho b (I1.hok.lt e)]; exact e) Ho fun a o ha e => ?_
    by_cases hb : a = h1.objs.size
    · subst hb
      rw [Hp_] at e
      cases e
      refine ⟨hlen, ts.map Value.ref, c, ?_, hS⟩
      exact refs_vals ts
    · by_cases et : ∃ o, TP a o
      · obtain ⟨u, j, x, y, a1, a2, a3, rfl⟩ := et
        rw [Ht a _ ⟨j, x, y, a1, a2, a3, rfl⟩] at e
        cases e
        obtain ⟨x', y', vx, vy, f1, f2, f3, f4, f5⟩ := item j a a1
        rw [a2] at f1
        rw [a3] at f2
        cases f1
        cases f2
        exact ⟨by show 2 ≤ sizeLine; decide, [vx, vy], .cons f3 (.cons f4 .nil), _, f5, rfl, _, rfl⟩
      · rw [Hn a hb et] at e
        exact absurd (I1.hok.lt e) (Nat.not_lt_of_le ha)
  refine ⟨.ref h1.objs.size, H', J, rfl, q H' h1.objs.size ts (fun c o e => by rw [Ho c (I1.hok.lt e)]; exact e) (I1.hok.fresh pge) Hp_ (by rw [hl, sx, sy]) fun j t ht => ?_⟩
  obtain ⟨x, y, _, _, f1, f2, _, _, _⟩ := item j t ht
  exact ⟨x, y, f1, f2, Ht _ _ ⟨j, x, y, ht, f1, f2, rfl⟩, I1.hok.fresh (Nat.le_of_lt (Nat.lt_of_le_of_lt pge (tge t (List.mem_of_getElem? ht))))⟩
end
end OL

/-! HX5: sorted(d, key=lambda x: (len(x), x)) of a dict with text keys. -/
namespace OL
open PySem PySem.Spec PyProof.Rows L2 LamX
section
variable {X : Cx} {pins : List (Addr × Obj)} {σ : L2.St} {H : Hp} {s : Shared}
/-- each code object that the table tells: an old one, or the new one at c' -/
def TabG (H : Hp) (ps ps' : Array Value) (c' : Addr) : Prop := TriplesOk ps'.toList ∧ ∀ (pos : Pos) (cv : Value), codeAmong pos ps'.toList = some cv → (∃ pos', codeAmong pos' ps.toList = some cv) ∨ (cv = .ref c' ∧ H c' = none)
/-- the lambda is made: what is known behind -/
theorem lam_make3 {c P : Addr} {q : Str} {ps : Array Value} {params : Arguments} {body : Expr} {scope : Scope} {pos : Pos} {E : Value → Shared → Prop} {Q : Value → Shared → Prop} (I : Inv X pins σ H s) (TB : TabB X.base X.mg c P) (hcode : X.env.code = .ref c)
    (hq : X.env.qual ++ "<lambda>" = q) (hP : H P = some (.tbl ps)) (ht : TriplesOk ps.toList) (ha : ∀ (pos : Pos) (cv : Value), codeAmong pos ps.toList = some cv → ∃ c, cv = .ref c ∧ H c = some (CodeO c q)) (hdef : defaultsOf params X.env = ([], [])) (hcl : closureFor scope X.env = pure [])
    (h : ∀ (f c' : Addr) (pm ctv : Value) (ps' : Array Value) (H1 : Hp) (s' : Shared), Inv X pins σ H1 s' → (∀ b o, b ≠ P → H b = some o → H1 b = some o) → H1 P = some (.tbl ps') → TabG H ps ps' c' → H1 c' = some (CodeO c' q) →
      s'.heap.get? f = some (PySem.W.kla_obj "<lambda>" q params body scope [] pm c' ctv) → Q (.ref f) s') :
    wpAny (model X.prog X.w) X.A (eval (.Lambda params body scope pos) X.env) Q E s := by
  refine PySem.W.kla_eval hdef ?_
  have bP : s.heap.BuiltinsAt X.mg P := TB.bm.keeps I.bk
  have hP' : s.heap.get? P = some { cls := .none, data := .fields ps } := I.hok P _ hP
  rw [hq]
  cases hc : codeAmong pos ps.toList with
  | none =>
    refine PySem.W.kla_makeFunction (mg := X.mg) (c := c) (P := P) (ps := ps) hcl I.ok.glob (I.mod.glob.keeps I.bk) hcode (TB.code.keeps I.bk) hP' ht hc TB.gP bP fun c' ctv h' tk hx hge hlt hrec htb => ?_
    obtain ⟨c2, oc, vs, t, e2, hoc, hd, hv⟩ := hrec
    cases e2
    have nC : H c' = none := I.hok.fresh hge
    have I1 := inv_table (t' := tk) (q := q) (more := #[rawInt pos.line, rawInt pos.col, .ref c']) (h' := h'.push (PySem.W.kla_obj "<lambda>" q params body scope [] ((X.mg "__name__").getD .none) c' ctv)) I hP
      (fun b o hb e => Heap.get?_push_of_some _ (hx b o hb e)) (Heap.get?_push_of_some _ htb) hge ⟨oc, vs, t, Heap.get?_push_of_some _ hoc, hd, hv⟩
    have eL : (ps ++ #[rawInt pos.line, rawInt pos.col, .ref c']).toList = ps.toList ++ [rawInt pos.line, rawInt pos.col, .ref c'] := by simp
    refine h h'.objs.size c' ((X.mg "__name__").getD .none) ctv (ps ++ #[rawInt pos.line, rawInt pos.col, .ref c']) _ _ I1 (fun b o hb e => ?_) ?_ ⟨?_, fun p' cv hcv => ?_⟩ upd_same (Heap.get?_push_size _ rfl)
    · rw [upd_ne (ne_of_none e nC), upd_ne hb]
      exact e
    · rw [upd_ne (ne_of_none hP nC), upd_same]
    · rw [eL]
      exact PySem.TriplesOk_snoc _ _ _ _ ht
    · rw [eL] at hcv
      rcases among_app _ ht hcv with z | z
      · exact .inl ⟨p', z⟩
      · exact .inr ⟨z, nC⟩
  | some cv =>
    obtain ⟨c', e, hco⟩ := ha pos cv hc
    subst e
    refine PySem.W.kla_makeFunctionHit (mg := X.mg) (c := c) (P := P) (ps := ps) hcl I.ok.glob (I.mod.glob.keeps I.bk) hcode (TB.code.keeps I.bk) hP' ht hc bP fun ctv h' tk hx hsz => ?_
    exact h h'.objs.size c' ((X.mg "__name__").getD .none) ctv ps H _ (I.kept fun b o e => Heap.get?_push_of_some _ (hx b o e)) (fun _ _ _ e => e) hP ⟨ht, fun p' cv hcv => .inl ⟨p', hcv⟩⟩ hco (Heap.get?_push_size _ rfl)
end

/-! ### the lambda called -/
abbrev lenKey (x : Str) : PyData := .tuple [.int x.length, .str x]
theorem lam_len {prog : Program} {w : World} {A : Around} {mg mb : Str → Option Value} {s : Shared} {f c' : Addr} {q z : Str} {params : Arguments} {scope : Scope} {pm ctv : Value} {p1 p2 p3 p4 tp : Pos} {x1} {x : Str} {t : Tok}
    (hroom : A.depth + 1 < recursionLimit) (hf : s.heap.get? f = some (PySem.W.kla_obj "<lambda>" q params (.Tuple [.Call (.Name "len" p1) [.Name z p2] [] p3, .Name z p4] x1 tp) scope [] pm c' ctv))
    (hcr : s.heap.CodeRec (.ref c') q) (hlim : s.heap.NoLimit) (G : s.heap.Ns mainGlobals mg) (B : s.heap.Ns builtinsNs mb) (hlen : mg "len" = none) (hb : mb "len" = some (.builtin "len"))
    (hk : scope.kind = .function) (hco : scope.isCoroutine = false) (hgen : scope.isGenerator = false) (hcell : ∀ y ∈ scope.names, y.2 ≠ .cell) (hz : scope.names.lookup z = some .local) (hg : scope.names.lookup ("len" : Str) = some .globalImplicit)
    (hbind : bindArgs (PySem.W.kla_fn "<lambda>" q params (.Tuple [.Call (.Name "len" p1) [.Name z p2] [] p3, .Name z p4] x1 tp) scope [] pm (.ref c') ctv) ⟨[.str x t], []⟩ = pure [(z, .str x t)])
    (hx : x.length ≤ sizeLine) (hd : (z == ("__debug__" : Str)) = false) :
    wpAny (model prog w) A (call (.ref f) [.str x t]) (PySem.W.KeyPure (lenKey x) s) (fun _ _ => False) s := by
  refine wpAny_call (PySem.W.kla_callFunE (by omega) hf rfl hco hgen rfl hcr ?_)
  rw [hbind]
  refine wpAny_pure (wpAny_newFunctionEnv hcell (fun y hy => by rw [List.mem_singleton.mp hy]; exact hz) (fun h1 hns hsb => ⟨hlim.fresh _ hsb, ?_⟩) hk)
  show codeAny _ _ (.expr _ (PySem.W.envX q scope s.heap.objs.size f (.ref c') [])) _ _
  have kp : ∀ b o, s.heap.get? b = some o → h1.get? b = some o := fun b o e => hsb.extBut b o (Nat.ne_of_lt (Heap.lt_size e)) (Heap.get?_push_of_some _ e)
  have G1 : h1.Ns mainGlobals mg := G.keeps kp
  have B1 : h1.Ns builtinsNs mb := B.keeps kp
  have vz : ∀ {A' : Around} {E' : Value → Shared → Prop} {Q' : Value → Shared → Prop} {p : Pos} {s' : Shared}, s'.heap = h1 → Q' (.str x t) s' → wpAny (model prog w) A' (eval (.Name z p) (PySem.W.envX q scope s.heap.objs.size f (.ref c') [])) Q' E' s' := fun e hQ =>
    wpAny_Name (wpAny_loadName_local hk hz (by rw [e]; exact hns) (by simp) hQ) hd
  refine PySem.W.kla_codeExpr ?_
  refine wpAny_Tuple_spliced ?_
  refine PyProof.Rows.args_cons ?_ rfl
  refine Call_ (Calls.Name_function_global hk hg (Calls.loadGlobal_builtin G1 hlen B1 hb ?_) (by decide))
  refine PyProof.Rows.callWith_builtin1 (PyProof.Rows.args_cons (vz rfl (PyProof.Rows.args_nil ?_)) rfl) rfl rfl
  have h63 := line63
  refine len_str (by omega) (PyProof.Rows.args_cons (vz rfl (PyProof.Rows.args_nil ?_)) rfl)
  refine ⟨by show 2 ≤ sizeLine; decide, _, _, rfl, fun b o e => Heap.get?_push_of_some _ (kp b o e), ?_⟩
  exact .tuple (Heap.get?_push_size _ rfl) rfl rfl (.cons (as := []) (bs := []) (.int _ _) (.cons (as := []) (bs := []) (.str _ _) .nil))
end OL

/-! HX6: sorted(d, key=lambda x: (len(x), x)), the rule. -/
namespace OL
open PySem PySem.Spec PyProof.Rows L2 LamX
theorem lk_alike (ks : List Str) : PySem.W.AllAlike (ks.map lenKey) := fun d hd d' hd' => by
  obtain ⟨x, _, rfl⟩ := List.mem_map.mp hd
  obtain ⟨y, _, rfl⟩ := List.mem_map.mp hd'
  rfl
theorem lk_sortable (ks : List Str) : PySem.W.Sortable (ks.map lenKey) := .inl fun d hd => by
  obtain ⟨x, _, rfl⟩ := List.mem_map.mp hd
  exact ⟨_, _, rfl⟩
theorem lk_depth (x : Str) : (lenKey x).depth ≤ 8 := by
  simp [lenKey, PyData.depth, PyData.depthAll] <;> omega
theorem each_strs : ∀ {us : List Value} {xs : List Str}, StrsAre us xs → PySem.W.EachIs (fun v x => ∃ t, v = Value.str x t) us xs
  | _, _, .nil => .nil
  | _, _, .cons n t h => .cons ⟨t, rfl⟩ (each_strs h)
theorem strs_each : ∀ {us : List Value} {xs : List Str}, PySem.W.EachIs (fun v x => ∃ t, v = Value.str x t) us xs → StrsAre us xs
  | _, _, .nil => .nil
  | _, _, .cons ⟨t, rfl⟩ h => .cons _ t (strs_each h)
section
variable {X : Cx}
/-- what the lambda's own text is -/
structure LamL (scope : Scope) (params : Arguments) (z : Str) : Prop where
  kind : scope.kind = .function
  co : scope.isCoroutine = false
  gen : scope.isGenerator = false
  cell : ∀ y ∈ scope.names, y.2 ≠ .cell
  loc : scope.names.lookup z = some .local
  len : scope.names.lookup ("len" : Str) = some .globalImplicit
  deb : (z == ("__debug__" : Str)) = false
  bind : ∀ (q : Str) (body : Expr) (pm ctv cv v : Value), bindArgs (PySem.W.kla_fn "<lambda>" q params body scope [] pm cv ctv) ⟨[v], []⟩ = pure [(z, v)]
  clo : ∀ env : Env, closureFor scope env = pure []
  dfl : ∀ env : Env, defaultsOf params env = ([], [])
def tSortedLen (P : Addr) (q : Str) (td : TE) : TE := fun σ H Q => td σ H fun x H0 => ∃ (a : Addr) (kvs : List (Key × V)) (ks : List Str) (ps : Array Value), x = .ref a ∧ H0 a = some (.dK kvs) ∧ kvs.map (·.1) = ks.map Sum.inr ∧ ks.length ≤ sizeLine ∧ (∀ k ∈ ks, k.length ≤ sizeLine) ∧
  H0 P = some (.tbl ps) ∧ TriplesOk ps.toList ∧ (∀ (pos : Pos) (cv : Value), codeAmong pos ps.toList = some cv → ∃ c, cv = .ref c ∧ H0 c = some (CodeO c q)) ∧
  ∀ (H1 : Hp) (p c' : Addr) (ps' : Array Value), (∀ b o, b ≠ P → H0 b = some o → H1 b = some o) → H1 P = some (.tbl ps') → TabG H0 ps ps' c' → H1 c' = some (CodeO c' q) → H1 p = none → Q (.ref p) (upd H1 p (.lst ((ks.mergeSort (PySem.W.dataLe false lenKey)).map V.str)))
theorem pe_sortedLen {k : Nat} {c P : Addr} {q z : Str} {a : Expr} {ta : TE} {params : Arguments} {scope : Scope} {p pos kpos lpos p1 p2 p3 p4 tp : Pos} {x1} (hr : Room k X.A) (hc : X.calm = true) (L : LamL scope params z) (TB : TabB X.base X.mg c P) (hcode : X.env.code = .ref c) (hq : X.env.qual ++ "<lambda>" = q)
    (hg : Gl X "sorted") (hm : X.mg "sorted" = none) (hml : X.mg "len" = none) (ha : PE X a ta)
    (he : backTo pos (starEach [a] X.env) = (false, eval a X.env) :: backTo pos (starEach [] X.env) := by rfl) (hpl : (backTo pos (starEach [a] X.env)).any (·.1) = false := by rfl) (na : starEach [a] X.env = (false, eval a X.env) :: starEach [] X.env := by rfl) :
    PE X (.Call (.Name "sorted" p) [a] [⟨some "key", .Lambda params (.Tuple [.Call (.Name "len" p1) [.Name z p2] [] p3, .Name z p4] x1 tp) scope lpos, kpos⟩] pos) (tSortedLen P q ta) := by
  refine ⟨fun pins s σ H Q I h => ?_⟩
  refine wpAny_Call_Name_kw (ld_blt I hg hm boot_sorted ?_)
  refine PyProof.Rows.callWith_kw ?_ he hpl rfl rfl
  refine PyProof.Rows.args_cons (thn (ha.run pins s σ H _ I h) fun v s1 ⟨x, H0, I1, r1, q1⟩ => PyProof.Rows.args_nil ?_) na
  obtain ⟨a, kvs, ks, ps, rfl, hd, hks, hkl, hkz, hP, ht, hcs, q1⟩ := q1
  cases r1
  refine wpAny_evalAll_cons (wpAny_bind (lam_make3 (pos := lpos) I1 TB hcode hq hP ht hcs (L.dfl _) (L.clo _) fun f c' pm ctv ps' H1 s2 I2 ext hP' tg hc' hf => wpAny_bind (wpAny_standAt (wpAny_pure (wpAny_evalAll_nil ?_)))))
  show wpAny _ X.A (call (.builtin "sorted") [.ref a] [(Str.ofString "key", .ref f)]) _ _ s2
  have hne : a ≠ P := fun e => by
    rw [e, hP] at hd
    cases hd
  have hd2 : H1 a = some (.dK kvs) := ext _ _ hne hd
  obtain ⟨zz, lo, vs, rel, dd⟩ := dk_rd I2.hok (.inl hd2)
  obtain ⟨ep, hat⟩ := dd.dictAt
  have hkeys : vs.map (·.1) = ks.map Sum.inr := rel.keys.symm.trans hks
  have hl : vs.length = ks.length := by
    have e := congrArg List.length hkeys
    rw [List.length_map, List.length_map] at e
    exact e
  have h16 : vs.length ≤ sizeLine := by rw [hl]; exact hkl
  refine call_function_entry_kw kind_sorted plain_sorted entry_sorted (ksk_s1 _ _) ?_
  unfold Builtin.«sorted»
  refine wpAny_bind (m := checkCount "sorted" 1 1 _) (wpAny_pure ?_)
  refine wpAny_bind (PySem.W.kdu_collect (A := X.A.in1) (PySem.W.kdl_dict (knd := mixKind X.prog X.w) (kvs := vs) (ep := ep) lo) (I2.ok.hd hc) hat h16 fun h' tk acc hk hacc => ?_)
  have hal : acc.toList.length = ks.length := by rw [Array.length_toList, hacc.1, hl]
  have hS : StrsAre acc.toList ks := L2.strs_at hal fun j v e => by
    obtain ⟨k, x, e1, e2⟩ := hacc.2 j v (by rw [← Array.getElem?_toList]; exact e)
    have e3 : (vs.map (·.1))[j]? = some k := by rw [List.getElem?_map, e1]; all_goals rfl
    rw [hkeys, List.getElem?_map] at e3
    cases e4 : ks[j]? with
    | none => rw [e4] at e3; cases e3
    | some y =>
      rw [e4] at e3
      have e5 : Sum.inr y = k := Option.some.inj e3
      subst e5
      obtain ⟨t, ev⟩ := Value.isStrOf_shape (x := y) (v := v) e2
      exact ⟨y, t, rfl, ev⟩
  refine wpAny_bind (wpAny_newList ?_ (by rw [hal]; exact hkl))
  have hoL : (h'.push (seqObj "list" acc.toList.toArray 0)).get? h'.objs.size = some (seqObj "list" acc.toList.toArray 0) := Heap.get?_push_size _ rfl
  show wpAny _ _ _ _ _ { s2 with heap := h'.push (seqObj "list" acc.toList.toArray 0), toks := tk }
  have kp1 : ∀ b o, s2.heap.get? b = some o → (h'.push (seqObj "list" acc.toList.toArray 0)).get? b = some o := fun b o e => Heap.get?_push_of_some _ (hk b o e)
  have I3 : Inv X pins σ H1 { s2 with heap := h', toks := tk } := I2.kept hk
  have nP : ∀ b o, s2.heap.get? b = some o → b ≠ h'.objs.size := fun b o e => Nat.ne_of_lt (Heap.lt_size (hk b o e))
  have hdp := hr.dp
  have hun := hr.un
  obtain ⟨⟨oc, vc, tc, hoc, hdc, hvc⟩, _, _⟩ := I2.hok c' _ hc'
  obtain ⟨mb, hb1, hb2⟩ := I2.mod.blt
  refine wpAny_bind (wpAny_holding (wpAny_call_entry_kw slot_list_sort ⟨_, hoL, rfl⟩ entry_list_sort ?_ (ksk_l1 _ _)))
  show wpAny _ _ (Builtin.«list.sort» ⟨[.ref h'.objs.size], [(Str.ofString "key", .ref f)]⟩) _ _ _
  rw [ksk_t1]
  refine PySem.W.keyH_tree (kz := ks.map lenKey) (s := { s2 with heap := h'.push (seqObj "list" acc.toList.toArray 0), toks := tk }) hoL (by rw [List.length_map, hal]) (by rw [hal]; exact hkl) (lk_alike ks) (lk_sortable ks)
    (fun d hd => by
      obtain ⟨x, _, rfl⟩ := List.mem_map.mp hd
      have := lk_depth x
      show X.A.units + 1 + 1 + _ < _
      omega)
    (PySem.W.keyH_turns (s := { s2 with heap := h'.push (seqObj "list" acc.toList.toArray 0), toks := tk }) (k := lenKey) (each_strs hS) fun v x hR hx h3 tk3 kp => ?_) fun h3 tk3 out c3 kp hD ko => ?_
  · obtain ⟨t, rfl⟩ := hR
    have old : ∀ b o, s2.heap.get? b = some o → h3.get? b = some o := fun b o e => kp b o (nP b o e) (kp1 b o e)
    have up : ∀ b o, X.base.get? b = some o → h3.get? b = some o := fun b o e => old b o (I2.bk b o e)
    exact lam_len (A := X.A.in1.in1) (mg := X.mg) (mb := mb) (by show X.A.depth + 1 < _; omega) (old _ _ hf) ⟨c', oc, vc, tc, rfl, old _ _ hoc, hdc, hvc⟩ (I2.ok.mod.nolimit.keeps up) (I2.mod.glob.keeps up) (hb1.keeps up) hml ((hb2 "len" (by decide)).trans (by rfl)) L.kind L.co L.gen L.cell L.loc L.len (L.bind _ _ _ _ _ _) (hkz x hx) L.deb
  · have hE := PySem.W.keyedOut_each lenKey ko (each_strs hS)
    have hSo := strs_each hE
    have old : ∀ b o, h'.get? b = some o → h3.get? b = some o := fun b o e => kp b o (Nat.ne_of_lt (Heap.lt_size e)) (Heap.get?_push_of_some _ e)
    refine ⟨_, rfl, wpAny_pure ⟨_, rfl, .ref h'.objs.size, _, I3.laid (a := h'.objs.size) (o := .lst ((ks.mergeSort (PySem.W.dataLe false lenKey)).map V.str)) (t' := tk3) old (Nat.le_refl _) ⟨?_, out, c3, vals_of_strs hSo, hD⟩, rfl, ?_⟩⟩
    · rw [List.length_map, List.length_mergeSort]
      exact hkl
    · exact q1 H1 h'.objs.size c' ps' ext hP' tg hc' (I3.hok.fresh (Nat.le_refl _))
end
end OL

/-! OL1: a layer over the reading of a def: plain data (PyData) and owned objects; the heap is hidden. -/
namespace OL
open PySem PySem.Spec PyProof.Rows L2

/-! ### data that stands in a heap; tuples are tracked ones -/
mutual
inductive Dt (K : PySem.W.Frag) (F : Hp) : V → PyData → Prop
  | non : Dt K F .non .none
  | bl (b : Bool) : Dt K F (.bl b) (.bool b)
  | int (i : Int) : Dt K F (.int i) (.int i)
  | str (x : Str) : Dt K F (.str x) (.str x)
  | lst {a : Addr} {xs : List V} {ds : List PyData} : F a = some (.lst xs) → DtAll K F xs ds → Dt K F (.ref a) (.list ds)
  | tup {a : Addr} {xs : List V} {ds : List PyData} : F a = some (.tup xs) → DtAll K F xs ds → Dt K F (.ref a) (.tuple ds)
inductive DtAll (K : PySem.W.Frag) (F : Hp) : List V → List PyData → Prop
  | nil : DtAll K F [] []
  | cons {v : V} {vs : List V} {d : PyData} {ds : List PyData} : Dt K F v d → DtAll K F vs ds → DtAll K F (v :: vs) (d :: ds)
end
section
variable {K : PySem.W.Frag} {F F' : Hp}
mutual
theorem Dt.mono (e : Same F F') : ∀ {d : PyData} {v : V}, Dt K F v d → Dt K F' v d
  | .none, _, h => by cases h; exact .non
  | .bool b, _, h => by cases h; exact .bl b
  | .int i, _, h => by cases h; exact .int i
  | .str x, _, h => by cases h; exact .str x
  | .list ds, _, h => by
    cases h with
    | lst hs ha => exact .lst (e _ _ hs) (DtAll.mono e ha)
  | .tuple ds, _, h => by
    cases h with
    | tup hs ha => exact .tup (e _ _ hs) (DtAll.mono e ha)
  | .dict _, _, h => by cases h
theorem DtAll.mono (e : Same F F') : ∀ {ds : List PyData} {vs : List V}, DtAll K F vs ds → DtAll K F' vs ds
  | [], _, h => by cases h; exact .nil
  | d :: ds, _, h => by
    cases h with
    | cons h1 h2 => exact .cons (Dt.mono e h1) (DtAll.mono e h2)
end
mutual
theorem Dt.dp : ∀ {d : PyData} {v : V}, Dt K F v d → Dp K F v d
  | .none, _, h => by cases h; exact .non
  | .bool b, _, h => by cases h; exact .bl b
  | .int i, _, h => by cases h; exact .int i
  | .str x, _, h => by cases h; exact .str x
  | .list ds, _, h => by
    cases h with
    | lst hs ha => exact .lst (SqL.of hs) (DtAll.dp ha)
  | .tuple ds, _, h => by
    cases h with
    | tup hs ha => exact .tup (.inl (.inl hs)) (DtAll.dp ha)
  | .dict _, _, h => by cases h
theorem DtAll.dp : ∀ {ds : List PyData} {vs : List V}, DtAll K F vs ds → DpAll K F vs ds
  | [], _, h => by cases h; exact .nil
  | d :: ds, _, h => by
    cases h with
    | cons h1 h2 => exact .cons (Dt.dp h1) (DtAll.dp h2)
end
theorem seqT_mono (e : Same F F') {a : Addr} {xs : List V} (h : SqT K F a xs) : SqT K F' a xs := by
  rcases h with (h | ⟨o, h⟩) | h
  · exact .inl (.inl (e _ _ h))
  · exact .inl (.inr ⟨o, e _ _ h⟩)
  · exact .inr h
mutual
theorem dp_mono (e : Same F F') : ∀ {d : PyData} {v : V}, Dp K F v d → Dp K F' v d
  | .none, _, h => by cases h; exact .non
  | .bool b, _, h => by cases h; exact .bl b
  | .int i, _, h => by cases h; exact .int i
  | .str x, _, h => by cases h; exact .str x
  | .list ds, _, h => by
    cases h with
    | lst hs ha => exact .lst (e.seq hs) (dpAll_mono e ha)
  | .tuple ds, _, h => by
    cases h with
    | tup hs ha => exact .tup (seqT_mono e hs) (dpAll_mono e ha)
  | .dict _, _, h => by cases h
theorem dpAll_mono (e : Same F F') : ∀ {ds : List PyData} {vs : List V}, DpAll K F vs ds → DpAll K F' vs ds
  | [], _, h => by cases h; exact .nil
  | d :: ds, _, h => by
    cases h with
    | cons h1 h2 => exact .cons (dp_mono e h1) (dpAll_mono e h2)
end
end

/-! ### values of the layer: data; an owned object; written data of the module -/
inductive SV where
  | dat (d : PyData)
  | own (p : Addr)
  | wr (d : PyData)
  /-- a value as it is (a class); a tuple of such -/
  | raw (w : V)
  | rtup (ws : List V)
/-- what an owned object holds -/
inductive OD where
  | lst (xs : List SV)
  | dK (kvs : List (Key × SV))
  | dT (kvs : List (List Key × SV))
  | ins (C : Addr) (fs : List (Str × SV))
  /-- a def's table of the code objects that it made, all of one name -/
  | tb (q : Str)
abbrev Sto := List (Addr × OD)
abbrev Gm := List (Option SV)
def dm (Ls : Sto) : List Addr := Ls.map (·.1)

def RV (K : PySem.W.Frag) (F : Hp) (v : V) : SV → Prop
  | .dat d => Dt K F v d
  | .own p => v = .ref p
  | .wr d => Dp K F v d
  | .raw w => v = w
  | .rtup ws => ∃ a, v = .ref a ∧ F a = some (.tup ws)
def RK {κ : Type} (K : PySem.W.Frag) (F : Hp) (p : κ × V) (q : κ × SV) : Prop := p.1 = q.1 ∧ RV K F p.2 q.2
def RO (K : PySem.W.Frag) (F : Hp) : HO → OD → Prop
  | .lst vs, .lst xs => Paired (RV K F) vs xs
  | .dK kvs, .dK ks => Paired (RK K F) kvs ks
  | .dT kvs, .dT ks => Paired (RK K F) kvs ks
  | .ins C _ fs, .ins C' gs => C = C' ∧ Paired (RK K F) fs gs
  | .tbl ps, .tb q => TriplesOk ps.toList ∧ ∀ (pos : Pos) (cv : Value), codeAmong pos ps.toList = some cv → ∃ c, cv = .ref c ∧ F c = some (LamX.CodeO c q)
  | _, _ => False
/-- the frozen part F of the heap H, and what is owned in it -/
structure Hold (K : PySem.W.Frag) (F H : Hp) (Ls : Sto) : Prop where
  sub : Same F H
  own : ∀ p o, (p, o) ∈ Ls → F p = none ∧ ∃ ho, H p = some ho ∧ RO K F ho o
  nd : (dm Ls).Nodup
/-- what becomes of it: D may be changed -/
structure Go (D : List Addr) (F H : Hp) (D' : List Addr) (F' H' : Hp) : Prop where
  keep : ∀ a o, a ∉ D → H a = some o → H' a = some o
  dom : ∀ a, H a ≠ none → H' a ≠ none
  sF : Same F F'
  sep : ∀ a, a ∉ D → F a = none → H a ≠ none → F' a = none
  sub : ∀ a, a ∈ D' → a ∈ D ∨ H a = none
def RG (K : PySem.W.Frag) (F : Hp) (σ : L2.St) (Γ : Gm) : Prop := σ.length = Γ.length ∧ ∀ (i : Nat) (sv : SV), Γ[i]? = some (some sv) → ∃ v, σ[i]? = some (some v) ∧ RV K F v sv

section
variable {K : PySem.W.Frag} {F F' F1 F2 H H' H1 H2 : Hp} {D D1 D2 : List Addr} {Ls : Sto}
theorem RV.mono (e : Same F F') {v : V} {sv : SV} (h : RV K F v sv) : RV K F' v sv := by
  cases sv with
  | dat d => exact Dt.mono e h
  | own p => exact h
  | wr d => exact dp_mono e h
  | raw w => exact h
  | rtup ws => obtain ⟨a, h1, h2⟩ := h; exact ⟨a, h1, e _ _ h2⟩
theorem RVs.mono (e : Same F F') {vs : List V} {xs : List SV} (h : Paired (RV K F) vs xs) : Paired (RV K F') vs xs := Paired.mapP h fun _ _ => RV.mono e
theorem RK.mono {κ : Type} (e : Same F F') {p : κ × V} {q : κ × SV} (h : RK K F p q) : RK K F' p q := ⟨h.1, h.2.mono e⟩
theorem RO.mono (e : Same F F') {ho : HO} {o : OD} (h : RO K F ho o) : RO K F' ho o := by
  cases o with
  | lst xs => cases ho <;> first | exact Paired.mapP h fun _ _ => RV.mono e | exact h
  | dK xs => cases ho <;> first | exact Paired.mapP h fun _ _ => RK.mono e | exact h
  | dT xs => cases ho <;> first | exact Paired.mapP h fun _ _ => RK.mono e | exact h
  | ins C xs => cases ho <;> first | exact ⟨h.1, Paired.mapP h.2 fun _ _ => RK.mono e⟩ | exact h
  | tb q => cases ho <;> first | exact ⟨h.1, fun p cv hc => let ⟨c, e1, e2⟩ := h.2 p cv hc; ⟨c, e1, e _ _ e2⟩⟩ | exact h
theorem RG.mono {σ : L2.St} {Γ : Gm} (e : Same F F') (h : RG K F σ Γ) : RG K F' σ Γ := ⟨h.1, fun i sv q => let ⟨v, a, b⟩ := h.2 i sv q; ⟨v, a, b.mono e⟩⟩
theorem Go.refl : Go D F H D F H := ⟨fun _ _ _ h => h, fun _ h => h, Same.refl F, fun _ _ h _ => h, fun _ h => .inl h⟩
theorem Go.trans (a : Go D F H D1 F1 H1) (b : Go D1 F1 H1 D2 F2 H2) : Go D F H D2 F2 H2 := by
  have nD1 : ∀ x, x ∉ D → H x ≠ none → x ∉ D1 := fun x h1 h2 h3 => (a.sub x h3).elim h1 h2
  refine ⟨fun x o h1 h2 => b.keep x o (nD1 x h1 (by rw [h2]; exact nofun)) (a.keep x o h1 h2), fun x h => b.dom x (a.dom x h), a.sF.trans b.sF, fun x h1 h2 h3 => b.sep x (nD1 x h1 h3) (a.sep x h1 h2 h3) (a.dom x h3), fun x h => ?_⟩
  rcases b.sub x h with h | h
  · exact a.sub x h
  · cases e : H x with
    | none => exact .inr rfl
    | some o => exact absurd h (a.dom x (by rw [e]; exact nofun))
theorem mem_dm {p : Addr} {o : OD} (h : (p, o) ∈ Ls) : p ∈ dm Ls := List.mem_map.mpr ⟨(p, o), h, rfl⟩
theorem Hold.fresh (h : Hold K F H Ls) {p : Addr} (e : H p = none) : F p = none ∧ p ∉ dm Ls := by
  constructor
  · cases q : F p with
    | none => rfl
    | some o => rw [h.sub p o q] at e; cases e
  · intro hm
    obtain ⟨⟨q, o⟩, hq, rfl⟩ := List.mem_map.mp hm
    obtain ⟨_, ho, r, _⟩ := h.own q o hq
    have e : H q = none := e
    rw [e] at r; cases r
/-- a new object, frozen at once -/
theorem go_frozen (h : Hold K F H Ls) {p : Addr} {o : HO} (e : H p = none) : Go (dm Ls) F H (dm Ls) (upd F p o) (upd H p o) ∧ Hold K (upd F p o) (upd H p o) Ls := by
  obtain ⟨f1, f2⟩ := h.fresh e
  have ne : ∀ a, H a ≠ none → a ≠ p := fun a h1 z => h1 (z ▸ e)
  have sF : Same F (upd F p o) := fun a u h1 => by rw [upd_ne (ne_of_none h1 f1)]; exact h1
  refine ⟨⟨fun a u _ h1 => ?_, fun a h1 => ?_, sF, fun a _ h1 h2 => ?_, fun a h1 => .inl h1⟩, ⟨fun a u h1 => ?_, fun q u hq => ?_, h.nd⟩⟩
  · rw [upd_ne (ne_of_none h1 e)]; exact h1
  · rw [upd_ne (ne a h1)]; exact h1
  · rw [upd_ne (ne a h2)]; exact h1
  · by_cases z : a = p
    · subst z; rw [upd_same] at h1 ⊢; exact h1
    · rw [upd_ne z] at h1 ⊢; exact h.sub a u h1
  · obtain ⟨a1, ho, a2, a3⟩ := h.own q u hq
    have z : q ≠ p := ne_of_none a2 e
    exact ⟨by rw [upd_ne z]; exact a1, ho, by rw [upd_ne z]; exact a2, a3.mono sF⟩
/-- a new object, owned -/
theorem go_owned (h : Hold K F H Ls) {p : Addr} {o : HO} {d : OD} (e : H p = none) (r : RO K F o d) : Go (dm Ls) F H (dm (Ls ++ [(p, d)])) F (upd H p o) ∧ Hold K F (upd H p o) (Ls ++ [(p, d)]) := by
  obtain ⟨f1, f2⟩ := h.fresh e
  refine ⟨⟨fun a u _ h1 => ?_, fun a h1 => ?_, Same.refl F, fun a _ h1 h2 => h1, fun a h1 => ?_⟩, ⟨fun a u h1 => ?_, fun q u hq => ?_, ?_⟩⟩
  · rw [upd_ne (ne_of_none h1 e)]; exact h1
  · rw [upd_ne (fun z => h1 (by rw [z]; exact e))]; exact h1
  · rw [dm, List.map_append] at h1
    rcases List.mem_append.mp h1 with h1 | h1
    · exact .inl h1
    · have z : a = p := by simpa using h1
      exact .inr (z ▸ e)
  · rw [upd_ne (ne_of_none h1 f1)]; exact h.sub a u h1
  · rcases List.mem_append.mp hq with hq | hq
    · obtain ⟨a1, ho, a2, a3⟩ := h.own q u hq
      exact ⟨a1, ho, by rw [upd_ne (ne_of_none a2 e)]; exact a2, a3⟩
    · have z : (q, u) = (p, d) := by simpa using hq
      cases z
      exact ⟨f1, o, upd_same, r⟩
  · rw [dm, List.map_append]
    exact List.nodup_append.mpr ⟨h.nd, by simp, fun a h1 b h2 z => by
      have z2 : b = p := by simpa using h2
      exact f2 (z2 ▸ z ▸ h1)⟩
end
/-- an owned object is changed -/
inductive Chg : Sto → Addr → OD → OD → Sto → Prop
  | head {L : Sto} {p : Addr} {o o' : OD} : Chg ((p, o) :: L) p o o' ((p, o') :: L)
  | tail {L L' : Sto} {p : Addr} {o o' : OD} {x : Addr × OD} : Chg L p o o' L' → Chg (x :: L) p o o' (x :: L')
section
variable {K : PySem.W.Frag} {F F' F1 F2 H H' H1 H2 : Hp} {D D1 D2 : List Addr} {Ls L' : Sto} {p : Addr} {o o' : OD}
theorem Chg.mem (c : Chg Ls p o o' L') : (p, o) ∈ Ls := by
  induction c with
  | head => exact List.mem_cons_self
  | tail _ ih => exact List.mem_cons_of_mem _ ih
theorem Chg.dm (c : Chg Ls p o o' L') : dm L' = dm Ls := by
  induction c with
  | head => rfl
  | tail _ ih =>
    show _ :: OL.dm _ = _ :: OL.dm _
    rw [ih]
theorem Chg.of (c : Chg Ls p o o' L') : (OL.dm Ls).Nodup → ∀ q u, (q, u) ∈ L' → (q = p ∧ u = o') ∨ (q ≠ p ∧ (q, u) ∈ Ls) := by
  induction c with
  | @head L p o o' =>
    intro nd q u h
    have nd2 : p ∉ OL.dm L := (List.nodup_cons.mp nd).1
    rcases List.mem_cons.mp h with h | h
    · cases h; exact .inl ⟨rfl, rfl⟩
    · exact .inr ⟨fun z => nd2 (z ▸ mem_dm h), List.mem_cons_of_mem _ h⟩
  | @tail L L' p o o' x c ih =>
    intro nd q u h
    have nd2 := List.nodup_cons.mp nd
    rcases List.mem_cons.mp h with h | h
    · subst h
      refine .inr ⟨fun z => nd2.1 ?_, List.mem_cons_self⟩
      have : q = p := z
      show q ∈ _
      rw [this]
      exact mem_dm c.mem
    · rcases ih nd2.2 q u h with h | ⟨h1, h2⟩
      · exact .inl h
      · exact .inr ⟨h1, List.mem_cons_of_mem _ h2⟩
theorem go_chg (h : Hold K F H Ls) (c : Chg Ls p o o' L') {ho : HO} (r : RO K F ho o') : Go (dm Ls) F H (dm L') F (upd H p ho) ∧ Hold K F (upd H p ho) L' := by
  obtain ⟨f1, h0, hp, _⟩ := h.own p o c.mem
  refine ⟨⟨fun a u h1 h2 => ?_, fun a h1 => ?_, Same.refl F, fun a _ h1 h2 => h1, fun a h1 => .inl (c.dm ▸ h1)⟩, ⟨fun a u h1 => ?_, fun q u hq => ?_, by rw [c.dm]; exact h.nd⟩⟩
  · rw [upd_ne (fun z => h1 (by rw [z]; exact mem_dm c.mem))]; exact h2
  · by_cases z : a = p
    · subst z; rw [upd_same]; exact nofun
    · rw [upd_ne z]; exact h1
  · rw [upd_ne (ne_of_none h1 f1)]; exact h.sub a u h1
  · rcases c.of h.nd q u hq with ⟨rfl, rfl⟩ | ⟨h1, h2⟩
    · exact ⟨f1, ho, upd_same, r⟩
    · obtain ⟨a1, hq, a2, a3⟩ := h.own q u h2
      exact ⟨a1, hq, by rw [upd_ne h1]; exact a2, a3⟩
end

/-! ### judgements -/
/-- what follows an expression -/
def Cont (K : PySem.W.Frag) (Q : VK) (Ls : Sto) (F H : Hp) (P : SV → Sto → Prop) : Prop :=
  ∀ F' H' v sv L', P sv L' → Go (dm Ls) F H (dm L') F' H' → Hold K F' H' L' → RV K F' v sv → Q v H'
def WE (K : PySem.W.Frag) (te : TE) (Γ : Gm) (Ls : Sto) (P : SV → Sto → Prop) : Prop :=
  ∀ F H σ, Hold K F H Ls → RG K F σ Γ → ∀ Q : VK, Cont K Q Ls F H P → te σ H Q
def WA (K : PySem.W.Frag) (ta : TA) (Γ : Gm) (Ls : Sto) (P : List SV → Sto → Prop) : Prop :=
  ∀ F H σ, Hold K F H Ls → RG K F σ Γ → ∀ Q : List V → Hp → Prop, (∀ F' H' vs xs L', P xs L' → Go (dm Ls) F H (dm L') F' H' → Hold K F' H' L' → Paired (RV K F') vs xs → Q vs H') → ta σ H Q
def WT (K : PySem.W.Frag) (tt : TT) (Γ : Gm) (Ls : Sto) (P : Bool → Sto → Prop) : Prop :=
  ∀ F H σ, Hold K F H Ls → RG K F σ Γ → ∀ Q : Bool → Hp → Prop, (∀ F' H' b L', P b L' → Go (dm Ls) F H (dm L') F' H' → Hold K F' H' L' → Q b H') → tt σ H Q
/-- an operation on values -/
def W2 (K : PySem.W.Frag) (r : R2) (x y : SV) (Ls : Sto) (P : SV → Sto → Prop) : Prop :=
  ∀ F H v u, Hold K F H Ls → RV K F v x → RV K F u y → ∀ Q : VK, Cont K Q Ls F H P → r v u H Q
def W1 (K : PySem.W.Frag) (r : V → Hp → VK → Prop) (x : SV) (Ls : Sto) (P : SV → Sto → Prop) : Prop :=
  ∀ F H v, Hold K F H Ls → RV K F v x → ∀ Q : VK, Cont K Q Ls F H P → r v H Q
def Wn (K : PySem.W.Frag) (r : List V → Hp → VK → Prop) (xs : List SV) (Ls : Sto) (P : SV → Sto → Prop) : Prop :=
  ∀ F H vs, Hold K F H Ls → Paired (RV K F) vs xs → ∀ Q : VK, Cont K Q Ls F H P → r vs H Q
def Wm (K : PySem.W.Frag) (r : V → List V → Hp → VK → Prop) (x : SV) (xs : List SV) (Ls : Sto) (P : SV → Sto → Prop) : Prop :=
  ∀ F H v vs, Hold K F H Ls → RV K F v x → Paired (RV K F) vs xs → ∀ Q : VK, Cont K Q Ls F H P → r v vs H Q
structure PEnds where
  nx : Gm → Sto → Prop
  rt : SV → Sto → Prop
  bk : Gm → Sto → Prop := fun _ _ => False
  ct : Gm → Sto → Prop := fun _ _ => False
/-- what follows a statement -/
structure EndsOk (K : PySem.W.Frag) (E : PEnds) (D : Ends) (Ls : Sto) (F H : Hp) : Prop where
  nx : ∀ F' H' σ' Γ' L', E.nx Γ' L' → Go (dm Ls) F H (dm L') F' H' → Hold K F' H' L' → RG K F' σ' Γ' → D.nx σ' H'
  rt : Cont K D.rt Ls F H E.rt
  bk : ∀ F' H' σ' Γ' L', E.bk Γ' L' → Go (dm Ls) F H (dm L') F' H' → Hold K F' H' L' → RG K F' σ' Γ' → D.bk σ' H'
  ct : ∀ F' H' σ' Γ' L', E.ct Γ' L' → Go (dm Ls) F H (dm L') F' H' → Hold K F' H' L' → RG K F' σ' Γ' → D.ct σ' H'
def WS (K : PySem.W.Frag) (ts : TS) (Γ : Gm) (Ls : Sto) (E : PEnds) : Prop :=
  ∀ F H σ, Hold K F H Ls → RG K F σ Γ → ∀ D : Ends, EndsOk K E D Ls F H → ts D σ H
def WG (K : PySem.W.Frag) (g : TG) (x : SV) (Γ : Gm) (Ls : Sto) (P : Gm → Sto → Prop) : Prop :=
  ∀ F H σ v, Hold K F H Ls → RG K F σ Γ → RV K F v x → ∀ Q : L2.St → Hp → Prop, (∀ F' H' σ' Γ' L', P Γ' L' → Go (dm Ls) F H (dm L') F' H' → Hold K F' H' L' → RG K F' σ' Γ' → Q σ' H') → g v σ H Q
def WGs (K : PySem.W.Frag) (g : TGs) (xs : List SV) (Γ : Gm) (Ls : Sto) (P : Gm → Sto → Prop) : Prop :=
  ∀ F H σ vs, Hold K F H Ls → RG K F σ Γ → Paired (RV K F) vs xs → ∀ Q : L2.St → Hp → Prop, (∀ F' H' σ' Γ' L', P Γ' L' → Go (dm Ls) F H (dm L') F' H' → Hold K F' H' L' → RG K F' σ' Γ' → Q σ' H') → g vs σ H Q
section
variable {K : PySem.W.Frag} {F F' H H' : Hp} {Ls L' : Sto} {Γ : Gm} {P : SV → Sto → Prop} {Q : VK} {E : PEnds} {D : Ends}
theorem Cont.after (c : Cont K Q Ls F H P) (g : Go (dm Ls) F H (dm L') F' H') : Cont K Q L' F' H' P := fun F2 H2 v sv L2 p g2 h r => c F2 H2 v sv L2 p (g.trans g2) h r
theorem EndsOk.after (e : EndsOk K E D Ls F H) (g : Go (dm Ls) F H (dm L') F' H') : EndsOk K E D L' F' H' :=
  ⟨fun F2 H2 σ Γ L2 p g2 => e.nx F2 H2 σ Γ L2 p (g.trans g2), e.rt.after g, fun F2 H2 σ Γ L2 p g2 => e.bk F2 H2 σ Γ L2 p (g.trans g2), fun F2 H2 σ Γ L2 p g2 => e.ct F2 H2 σ Γ L2 p (g.trans g2)⟩
/-- the value as it is, nothing changed -/
theorem Cont.now (c : Cont K Q Ls F H P) (h : Hold K F H Ls) {v : V} {sv : SV} (r : RV K F v sv) (p : P sv Ls) : Q v H := c F H v sv Ls p Go.refl h r

/-! ### expressions -/
variable {ta tb tc te : TE} {r : R2} {tt tu : TT}
theorem we_var {i : Nat} {sv : SV} (h : Γ[i]? = some (some sv)) (p : P sv Ls) : WE K (tVar i) Γ Ls P := fun F H σ hh hg Q c => by
  obtain ⟨v, a, b⟩ := hg.2 i sv h
  exact ⟨v, a, c.now hh b p⟩
theorem we_int {i : Int} (p : P (.dat (.int i)) Ls) : WE K (tC (.int i)) Γ Ls P := fun F H σ hh hg Q c => c.now (sv := .dat (.int i)) hh (Dt.int i) p
theorem we_str {x : Str} (p : P (.dat (.str x)) Ls) : WE K (tC (.str x)) Γ Ls P := fun F H σ hh hg Q c => c.now (sv := .dat (.str x)) hh (Dt.str x) p
theorem we_bl {b : Bool} (p : P (.dat (.bool b)) Ls) : WE K (tC (.bl b)) Γ Ls P := fun F H σ hh hg Q c => c.now (sv := .dat (.bool b)) hh (Dt.bl b) p
theorem we_non (p : P (.dat .none) Ls) : WE K (tC .non) Γ Ls P := fun F H σ hh hg Q c => c.now (sv := .dat .none) hh Dt.non p
theorem we_op (h : WE K ta Γ Ls fun x L1 => WE K tb Γ L1 fun y L2 => W2 K r x y L2 P) : WE K (tOp r ta tb) Γ Ls P := fun F H σ hh hg Q c =>
  h F H σ hh hg _ fun F1 H1 v x L1 h1 g1 hh1 r1 => h1 F1 H1 σ hh1 (hg.mono g1.sF) _ fun F2 H2 u y L2 h2 g2 hh2 r2 => h2 F2 H2 v u hh2 (r1.mono g2.sF) r2 Q ((c.after g1).after g2)
theorem we_un {r : V → Hp → VK → Prop} (h : WE K ta Γ Ls fun x L1 => W1 K r x L1 P) : WE K (tUn r ta) Γ Ls P := fun F H σ hh hg Q c =>
  h F H σ hh hg _ fun F1 H1 v x L1 h1 g1 hh1 r1 => h1 F1 H1 v hh1 r1 Q (c.after g1)
theorem we_if (h : WT K tt Γ Ls fun b L1 => (b = true → WE K ta Γ L1 P) ∧ (b = false → WE K tb Γ L1 P)) : WE K (tIf tt ta tb) Γ Ls P := fun F H σ hh hg Q c =>
  h F H σ hh hg _ fun F1 H1 b L1 h1 g1 hh1 => by
    cases b with
    | true => exact h1.1 rfl F1 H1 σ hh1 (hg.mono g1.sF) Q (c.after g1)
    | false => exact h1.2 rfl F1 H1 σ hh1 (hg.mono g1.sF) Q (c.after g1)
theorem wa_nil {P : List SV → Sto → Prop} (p : P [] Ls) : WA K tNil Γ Ls P := fun F H σ hh hg Q c => c F H [] [] Ls p Go.refl hh .nil
theorem wa_cons {P : List SV → Sto → Prop} {tr : TA} (h : WE K ta Γ Ls fun x L1 => WA K tr Γ L1 fun xs L2 => P (x :: xs) L2) : WA K (tCons ta tr) Γ Ls P := fun F H σ hh hg Q c =>
  h F H σ hh hg _ fun F1 H1 v x L1 h1 g1 hh1 r1 => h1 F1 H1 σ hh1 (hg.mono g1.sF) _ fun F2 H2 vs xs L2 h2 g2 hh2 r2 => c F2 H2 _ _ L2 h2 (g1.trans g2) hh2 (.cons (r1.mono g2.sF) r2)
theorem we_cb {r : List V → Hp → VK → Prop} {t : TA} (h : WA K t Γ Ls fun xs L1 => Wn K r xs L1 P) : WE K (tCB r t) Γ Ls P := fun F H σ hh hg Q c =>
  h F H σ hh hg _ fun F1 H1 vs xs L1 h1 g1 hh1 r1 => h1 F1 H1 vs hh1 r1 Q (c.after g1)
theorem we_m0 {r : V → List V → Hp → VK → Prop} {s : Str} (h : WE K ta Γ Ls fun x L1 => (∃ s : Str, x = .dat (.str s)) ∧ Wm K r x [] L1 P) : WE K (tM0 r ta) Γ Ls P := fun F H σ hh hg Q c =>
  h F H σ hh hg _ fun F1 H1 v x L1 ⟨⟨s, e⟩, h1⟩ g1 hh1 r1 => by
    subst e
    refine ⟨?_, h1 F1 H1 v [] hh1 r1 .nil Q (c.after g1)⟩
    cases (show Dt K F1 v (.str s) from r1); exact ⟨s, rfl⟩
theorem we_m1 {r : V → List V → Hp → VK → Prop} (h : WE K ta Γ Ls fun x L1 => (∃ s : Str, x = .dat (.str s)) ∧ WE K tb Γ L1 fun y L2 => Wm K r x [y] L2 P) : WE K (tM1 r ta tb) Γ Ls P := fun F H σ hh hg Q c =>
  h F H σ hh hg _ fun F1 H1 v x L1 ⟨⟨s, e⟩, h1⟩ g1 hh1 r1 => by
    subst e
    refine ⟨?_, h1 F1 H1 σ hh1 (hg.mono g1.sF) _ fun F2 H2 u y L2 h2 g2 hh2 r2 => h2 F2 H2 v [u] hh2 (RV.mono g2.sF r1) (.cons r2 .nil) Q ((c.after g1).after g2)⟩
    cases (show Dt K F1 v (.str s) from r1); exact ⟨s, rfl⟩
/-- tests -/
theorem wt_test {te : TE} {P : Bool → Sto → Prop} (h : WE K te Γ Ls fun x L1 => ∃ b, x = .dat (.bool b) ∧ P b L1) : WT K (tTest te) Γ Ls P := fun F H σ hh hg Q c =>
  h F H σ hh hg _ fun F1 H1 v x L1 ⟨b, e, h1⟩ g1 hh1 r1 => by
    subst e
    cases (show Dt K F1 v (.bool b) from r1); exact ⟨b, rfl, c F1 H1 b L1 h1 g1 hh1⟩
theorem wt_B {te : TE} {P : Bool → Sto → Prop} (h : WE K te Γ Ls fun x L1 => ∃ b, x = .dat (.bool b) ∧ P b L1) : WT K (tB te) Γ Ls P := fun F H σ hh hg Q c =>
  h F H σ hh hg _ fun F1 H1 v x L1 ⟨b, e, h1⟩ g1 hh1 r1 => by
    subst e
    cases (show Dt K F1 v (.bool b) from r1); exact ⟨b, rfl, c F1 H1 b L1 h1 g1 hh1⟩
theorem wt_and {P : Bool → Sto → Prop} (h : WT K tt Γ Ls fun b L1 => (b = true → WT K tu Γ L1 P) ∧ (b = false → P false L1)) : WT K (tAnd tt tu) Γ Ls P := fun F H σ hh hg Q c =>
  h F H σ hh hg _ fun F1 H1 b L1 h1 g1 hh1 => by
    cases b with
    | true => exact h1.1 rfl F1 H1 σ hh1 (hg.mono g1.sF) Q fun F2 H2 b2 L2 p g2 => c F2 H2 b2 L2 p (g1.trans g2)
    | false => exact c F1 H1 false L1 (h1.2 rfl) g1 hh1
theorem wt_or {P : Bool → Sto → Prop} (h : WT K tt Γ Ls fun b L1 => (b = true → P true L1) ∧ (b = false → WT K tu Γ L1 P)) : WT K (tOr tt tu) Γ Ls P := fun F H σ hh hg Q c =>
  h F H σ hh hg _ fun F1 H1 b L1 h1 g1 hh1 => by
    cases b with
    | false => exact h1.2 rfl F1 H1 σ hh1 (hg.mono g1.sF) Q fun F2 H2 b2 L2 p g2 => c F2 H2 b2 L2 p (g1.trans g2)
    | true => exact c F1 H1 true L1 (h1.1 rfl) g1 hh1
theorem wt_not {P : Bool → Sto → Prop} (h : WT K tt Γ Ls fun b L1 => P (!b) L1) : WT K (tNot tt) Γ Ls P := fun F H σ hh hg Q c =>
  h F H σ hh hg _ fun F1 H1 b L1 h1 g1 hh1 => c F1 H1 (!b) L1 h1 g1 hh1
/-- and, or, not as values of truths -/
theorem we_andV (h : WE K ta Γ Ls fun x L1 => ∃ b, x = .dat (.bool b) ∧ (b = true → WE K tb Γ L1 P) ∧ (b = false → P (.dat (.bool false)) L1)) : WE K (tAndV ta tb) Γ Ls P := fun F H σ hh hg Q c =>
  h F H σ hh hg _ fun F1 H1 v x L1 ⟨b, e, h1⟩ g1 hh1 r1 => by
    subst e
    cases (show Dt K F1 v (.bool b) from r1)
    refine ⟨b, rfl, ?_⟩
    cases b with
    | true => exact h1.1 rfl F1 H1 σ hh1 (hg.mono g1.sF) Q (c.after g1)
    | false => exact (c.after g1).now (sv := .dat (.bool false)) hh1 (Dt.bl false) (h1.2 rfl)
theorem we_orV (h : WE K ta Γ Ls fun x L1 => ∃ b, x = .dat (.bool b) ∧ (b = true → P (.dat (.bool true)) L1) ∧ (b = false → WE K tb Γ L1 P)) : WE K (tOrV ta tb) Γ Ls P := fun F H σ hh hg Q c =>
  h F H σ hh hg _ fun F1 H1 v x L1 ⟨b, e, h1⟩ g1 hh1 r1 => by
    subst e
    cases (show Dt K F1 v (.bool b) from r1)
    refine ⟨b, rfl, ?_⟩
    cases b with
    | false => exact h1.2 rfl F1 H1 σ hh1 (hg.mono g1.sF) Q (c.after g1)
    | true => exact (c.after g1).now (sv := .dat (.bool true)) hh1 (Dt.bl true) (h1.1 rfl)
theorem we_notV (h : WE K ta Γ Ls fun x L1 => ∃ b, x = .dat (.bool b) ∧ P (.dat (.bool (!b))) L1) : WE K (tNotV ta) Γ Ls P := fun F H σ hh hg Q c =>
  h F H σ hh hg _ fun F1 H1 v x L1 ⟨b, e, h1⟩ g1 hh1 r1 => by
    subst e
    cases (show Dt K F1 v (.bool b) from r1)
    exact ⟨b, rfl, (c.after g1).now (sv := .dat (.bool (!b))) hh1 (Dt.bl (!b)) h1⟩

/-! ### statements -/
variable {t u : TS} {g : TG}
theorem ws_next (p : E.nx Γ Ls) : WS K tNext Γ Ls E := fun F H σ hh hg D e => e.nx F H σ Γ Ls p Go.refl hh hg
theorem ws_seq (h : WS K t Γ Ls { E with nx := fun Γ' L' => WS K u Γ' L' E }) : WS K (tSeq t u) Γ Ls E := fun F H σ hh hg D e =>
  h F H σ hh hg { D with nx := u D } ⟨fun F' H' σ' Γ' L' p g hh' hg' => p F' H' σ' hh' hg' D (e.after g), e.rt, e.bk, e.ct⟩
theorem ws_ret (h : WE K te Γ Ls E.rt) : WS K (tRet te) Γ Ls E := fun F H σ hh hg D e => h F H σ hh hg D.rt e.rt
theorem ws_retN (p : E.rt (.dat .none) Ls) : WS K tRetN Γ Ls E := fun F H σ hh hg D e => e.rt.now (sv := .dat .none) hh Dt.non p
theorem ws_drop (h : WE K te Γ Ls fun _ L1 => E.nx Γ L1) : WS K (tDrop te) Γ Ls E := fun F H σ hh hg D e =>
  h F H σ hh hg _ fun F1 H1 v x L1 p g hh1 r => e.nx F1 H1 σ Γ L1 p g hh1 (hg.mono g.sF)
theorem ws_if (h : WT K tt Γ Ls fun b L1 => (b = true → WS K t Γ L1 E) ∧ (b = false → WS K u Γ L1 E)) : WS K (tIfS tt t u) Γ Ls E := fun F H σ hh hg D e =>
  h F H σ hh hg _ fun F1 H1 b L1 h1 g1 hh1 => by
    cases b with
    | true => exact h1.1 rfl F1 H1 σ hh1 (hg.mono g1.sF) D (e.after g1)
    | false => exact h1.2 rfl F1 H1 σ hh1 (hg.mono g1.sF) D (e.after g1)
theorem ws_asg (h : WE K te Γ Ls fun x L1 => WG K g x Γ L1 E.nx) : WS K (tAsg te g) Γ Ls E := fun F H σ hh hg D e =>
  h F H σ hh hg _ fun F1 H1 v x L1 p g1 hh1 r => p F1 H1 σ v hh1 (hg.mono g1.sF) r D.nx fun F2 H2 σ2 Γ2 L2 q g2 => e.nx F2 H2 σ2 Γ2 L2 q (g1.trans g2)
theorem RG.set {σ : L2.St} (hg : RG K F σ Γ) (i : Nat) {v : V} {x : SV} (r : RV K F v x) : RG K F (σ.set i (some v)) (Γ.set i (some x)) := by
  refine ⟨by rw [List.length_set, List.length_set]; exact hg.1, fun j sv h => ?_⟩
  by_cases e : j = i
  · subst e
    have hl : j < Γ.length := by
      have := (List.getElem?_eq_some_iff.mp h).1
      rwa [List.length_set] at this
    rw [List.getElem?_set_self hl] at h
    cases h
    exact ⟨v, List.getElem?_set_self (by rw [hg.1]; exact hl), r⟩
  · rw [List.getElem?_set_ne (Ne.symm e)] at h ⊢
    exact hg.2 j sv h
theorem RG.wipe1 {σ : L2.St} (hg : RG K F σ Γ) (i : Nat) : RG K F (σ.set i none) (Γ.set i none) := by
  refine ⟨by rw [List.length_set, List.length_set]; exact hg.1, fun j sv h => ?_⟩
  by_cases e : j = i
  · subst e
    have hl : j < Γ.length := by
      have := (List.getElem?_eq_some_iff.mp h).1
      rwa [List.length_set] at this
    rw [List.getElem?_set_self hl] at h
    cases h
  · rw [List.getElem?_set_ne (Ne.symm e)] at h ⊢
    exact hg.2 j sv h
theorem wg_name {i : Nat} {x : SV} {P : Gm → Sto → Prop} (p : P (Γ.set i (some x)) Ls) : WG K (gName i) x Γ Ls P := fun F H σ v hh hg r Q c => c F H _ _ Ls p Go.refl hh (hg.set i r)
theorem wgs_nil {P : Gm → Sto → Prop} (p : P Γ Ls) : WGs K gNil [] Γ Ls P := fun F H σ vs hh hg r Q c => by
  cases r
  exact ⟨rfl, c F H σ Γ Ls p Go.refl hh hg⟩
theorem wgs_cons {P : Gm → Sto → Prop} {gs : TGs} {x : SV} {xs : List SV} (h : WG K g x Γ Ls fun Γ1 L1 => WGs K gs xs Γ1 L1 P) : WGs K (gCons g gs) (x :: xs) Γ Ls P := fun F H σ vs hh hg r Q c => by
  cases r with
  | cons r1 r2 =>
    refine ⟨_, _, rfl, h F H σ _ hh hg r1 _ fun F1 H1 σ1 Γ1 L1 p g1 hh1 hg1 => ?_⟩
    exact p F1 H1 σ1 _ hh1 hg1 (RVs.mono g1.sF r2) Q fun F2 H2 σ2 Γ2 L2 q g2 => c F2 H2 σ2 Γ2 L2 q (g1.trans g2)
theorem DtAll.rvs : ∀ {ds : List PyData} {vs : List V}, DtAll K F vs ds → Paired (RV K F) vs (ds.map .dat)
  | [], _, h => by cases h; exact .nil
  | d :: ds, _, h => by
    cases h with
    | cons h1 h2 => exact .cons h1 (DtAll.rvs h2)
theorem DpAll.rvs : ∀ {ds : List PyData} {vs : List V}, DpAll K F vs ds → Paired (RV K F) vs (ds.map .wr)
  | [], _, h => by cases h; exact .nil
  | d :: ds, _, h => by
    cases h with
    | cons h1 h2 => exact .cons h1 (DpAll.rvs h2)
theorem rvs_all : ∀ {ds : List PyData} {vs : List V}, Paired (RV K F) vs (ds.map .dat) → DtAll K F vs ds
  | [], _, h => by cases h; exact .nil
  | d :: ds, _, h => by
    cases h with
    | cons h1 h2 => exact .cons h1 (rvs_all h2)
/-- a list that is read: data, written, owned -/
def IsL (Ls : Sto) : SV → List SV → Prop
  | .dat (.list ds), xs => xs = ds.map .dat
  | .wr (.list ds), xs => xs = ds.map .wr
  | .own p, xs => (p, .lst xs) ∈ Ls
  | _, _ => False
def IsT : SV → List SV → Prop
  | .dat (.tuple ds), xs => xs = ds.map .dat
  | .wr (.tuple ds), xs => xs = ds.map .wr
  | _, _ => False
theorem IsL.get {sv : SV} {xs : List SV} {v : V} (h : IsL Ls sv xs) (hh : Hold K F H Ls) (r : RV K F v sv) : ∃ a vs, v = .ref a ∧ SqL K H a vs ∧ Paired (RV K F) vs xs := by
  match sv, h with
  | .dat (.list ds), h =>
    subst h
    cases (show Dt K F v (.list ds) from r) with
    | lst hs ha => exact ⟨_, _, rfl, SqL.of (hh.sub _ _ hs), ha.rvs⟩
  | .wr (.list ds), h =>
    subst h
    cases (show Dp K F v (.list ds) from r) with
    | lst hs ha => exact ⟨_, _, rfl, hh.sub.seq hs, DpAll.rvs ha⟩
  | .own p, h =>
    obtain ⟨_, ho, e, ro⟩ := hh.own p _ h
    cases (show v = .ref p from r)
    cases ho <;> first | exact ⟨p, _, rfl, SqL.of e, ro⟩ | exact ro.elim
theorem IsT.get {sv : SV} {xs : List SV} {v : V} (h : IsT sv xs) (hh : Hold K F H Ls) (r : RV K F v sv) : ∃ a vs, v = .ref a ∧ SqT K H a vs ∧ Paired (RV K F) vs xs := by
  match sv, h with
  | .dat (.tuple ds), h =>
    subst h
    cases (show Dt K F v (.tuple ds) from r) with
    | tup hs ha => exact ⟨_, _, rfl, .inl (.inl (hh.sub _ _ hs)), ha.rvs⟩
  | .wr (.tuple ds), h =>
    subst h
    cases (show Dp K F v (.tuple ds) from r) with
    | tup hs ha => exact ⟨_, _, rfl, seqT_mono hh.sub hs, DpAll.rvs ha⟩
/-- a list that stands by itself -/
def IsO (Ls : Sto) : SV → List SV → Prop
  | .dat (.list ds), xs => xs = ds.map .dat
  | .own p, xs => (p, .lst xs) ∈ Ls
  | _, _ => False
theorem IsO.get {sv : SV} {xs : List SV} {v : V} (h : IsO Ls sv xs) (hh : Hold K F H Ls) (r : RV K F v sv) : ∃ a vs, v = .ref a ∧ H a = some (.lst vs) ∧ Paired (RV K F) vs xs := by
  match sv, h with
  | .dat (.list ds), h =>
    subst h
    cases (show Dt K F v (.list ds) from r) with
    | lst hs ha => exact ⟨_, _, rfl, hh.sub _ _ hs, ha.rvs⟩
  | .own p, h =>
    obtain ⟨_, ho, e, ro⟩ := hh.own p _ h
    cases (show v = .ref p from r)
    cases ho <;> first | exact ⟨p, _, rfl, e, ro⟩ | exact ro.elim
theorem IsO.isL {sv : SV} {xs : List SV} (h : IsO Ls sv xs) : IsL Ls sv xs := by
  match sv, h with
  | .dat (.list ds), h => exact h
  | .own p, h => exact h
theorem wg_tup {P : Gm → Sto → Prop} {gs : TGs} {x : SV} {xs : List SV} {n : Nat} (hx : IsT x xs) (hn : xs.length = n) (h : WGs K gs xs Γ Ls P) : WG K (gTup K n gs) x Γ Ls P := fun F H σ v hh hg r Q c => by
  obtain ⟨a, vs, e, hs, rs⟩ := hx.get hh r
  exact ⟨a, vs, e, hs, by rw [rs.length]; exact hn, h F H σ vs hh hg rs Q c⟩
end
end OL

/-! OL2: operations, displays, dicts, loops, comprehensions, defs. -/
namespace OL
open PySem PySem.Spec PyProof.Rows L2

/-- a text by its signs -/
def S (t : List Nat) : Str := ⟨t.toArray⟩
theorem S_inj {a b : List Nat} (h : S a = S b) : a = b := by
  have := congrArg (fun z : Str => z.cps.toList) h
  simpa [S] using this
theorem S_eq {a b : List Nat} : (S a = S b) ↔ a = b := ⟨S_inj, fun h => by rw [h]⟩
theorem S_len (a : List Nat) : (S a).length = a.length := by show a.toArray.size = _; simp
theorem S_of (x : Str) : S x.cps.toList = x := by cases x; simp [S]
theorem S_cps (a : List Nat) : (S a).cps.toList = a := by simp [S]
theorem S_app (a b : List Nat) : S a ++ S b = S (a ++ b) := by
  show (⟨a.toArray ++ b.toArray⟩ : Str) = ⟨(a ++ b).toArray⟩
  simp
abbrev dS (t : List Nat) : SV := .dat (.str (S t))
abbrev dI (i : Int) : SV := .dat (.int i)
abbrev dB (b : Bool) : SV := .dat (.bool b)
abbrev dN : SV := .dat .none

section
variable {K : PySem.W.Frag} {F F' H H' : Hp} {Ls L' : Sto} {Γ : Gm} {P : SV → Sto → Prop} {Q : VK} {E : PEnds} {D : Ends} {x y : SV}
theorem we_lit {t : List Nat} {s : Str} (h : s = S t) (p : P (dS t) Ls) : WE K (tC (.str s)) Γ Ls P := by subst h; exact we_str p
theorem Dt.inv_int {v : V} {i : Int} (h : Dt K F v (.int i)) : v = .int i := by cases h; rfl
theorem Dt.inv_str {v : V} {i : Str} (h : Dt K F v (.str i)) : v = .str i := by cases h; rfl
theorem Dt.inv_bl {v : V} {i : Bool} (h : Dt K F v (.bool i)) : v = .bl i := by cases h; rfl
theorem Dt.inv_non {v : V} (h : Dt K F v .none) : v = .non := by cases h; rfl
/-! ### operators -/
theorem w_i0 {f : Int → Int → Int} {i j : Int} (p : P (dI (f i j)) Ls) : W2 K (rI0 fun i j => .int (f i j)) (dI i) (dI j) Ls P := fun F H v u hh r1 r2 Q c =>
  ⟨i, j, Dt.inv_int r1, Dt.inv_int r2, c.now (sv := dI _) hh (Dt.int _) p⟩
theorem w_b0 {f : Int → Int → Bool} {i j : Int} (p : P (dB (f i j)) Ls) : W2 K (rI0 fun i j => .bl (f i j)) (dI i) (dI j) Ls P := fun F H v u hh r1 r2 Q c =>
  ⟨i, j, Dt.inv_int r1, Dt.inv_int r2, c.now (sv := dB _) hh (Dt.bl _) p⟩
theorem w_i {C : Int → Int → Prop} {f : Int → Int → Int} {i j : Int} (hc : C i j) (p : P (dI (f i j)) Ls) : W2 K (rI C fun i j => .int (f i j)) (dI i) (dI j) Ls P := fun F H v u hh r1 r2 Q c =>
  ⟨i, j, Dt.inv_int r1, Dt.inv_int r2, hc, c.now (sv := dI _) hh (Dt.int _) p⟩
theorem w_neg {f : Int → Int} {i : Int} (p : P (dI (f i)) Ls) : W1 K (rU fun i => .int (f i)) (dI i) Ls P := fun F H v hh r1 Q c =>
  ⟨i, Dt.inv_int r1, c.now (sv := dI _) hh (Dt.int _) p⟩
theorem w_eqI {i j : Int} (p : P (dB (decide (i = j))) Ls) : W2 K rEq (dI i) (dI j) Ls P := fun F H v u hh r1 r2 Q c => by
  rw [Dt.inv_int r1, Dt.inv_int r2]
  refine ⟨rfl, c.now (sv := dB _) hh ?_ p⟩
  have e : decide (V.int i = V.int j) = decide (i = j) := by simp
  rw [e]; exact Dt.bl _
theorem w_neI {i j : Int} (p : P (dB (!decide (i = j))) Ls) : W2 K rNe (dI i) (dI j) Ls P := fun F H v u hh r1 r2 Q c => by
  rw [Dt.inv_int r1, Dt.inv_int r2]
  refine ⟨rfl, c.now (sv := dB _) hh ?_ p⟩
  have e : decide (V.int i = V.int j) = decide (i = j) := by simp
  rw [e]; exact Dt.bl _
theorem w_eqB {i j : Bool} (p : P (dB (decide (i = j))) Ls) : W2 K rEq (dB i) (dB j) Ls P := fun F H v u hh r1 r2 Q c => by
  rw [Dt.inv_bl r1, Dt.inv_bl r2]
  refine ⟨rfl, c.now (sv := dB _) hh ?_ p⟩
  have e : decide (V.bl i = V.bl j) = decide (i = j) := by simp
  rw [e]; exact Dt.bl _
theorem w_neB {i j : Bool} (p : P (dB (!decide (i = j))) Ls) : W2 K rNe (dB i) (dB j) Ls P := fun F H v u hh r1 r2 Q c => by
  rw [Dt.inv_bl r1, Dt.inv_bl r2]
  refine ⟨rfl, c.now (sv := dB _) hh ?_ p⟩
  have e : decide (V.bl i = V.bl j) = decide (i = j) := by simp
  rw [e]; exact Dt.bl _
theorem w_eqS {a b : List Nat} (p : P (dB (decide (a = b))) Ls) : W2 K rEq (dS a) (dS b) Ls P := fun F H v u hh r1 r2 Q c => by
  rw [Dt.inv_str r1, Dt.inv_str r2]
  refine ⟨rfl, c.now (sv := dB _) hh ?_ p⟩
  have e : decide (V.str (S a) = V.str (S b)) = decide (a = b) := by
    simp only [V.str.injEq, S_eq]
  rw [e]; exact Dt.bl _
theorem w_neS {a b : List Nat} (p : P (dB (!decide (a = b))) Ls) : W2 K rNe (dS a) (dS b) Ls P := fun F H v u hh r1 r2 Q c => by
  rw [Dt.inv_str r1, Dt.inv_str r2]
  refine ⟨rfl, c.now (sv := dB _) hh ?_ p⟩
  have e : decide (V.str (S a) = V.str (S b)) = decide (a = b) := by
    simp only [V.str.injEq, S_eq]
  rw [e]; exact Dt.bl _
/-- is None -/
def isNone : SV → Bool
  | .dat .none => true
  | .wr .none => true
  | .raw w => decide (w = .non)
  | _ => false
theorem rv_none {v : V} {sv : SV} (r : RV K F v sv) : decide (v = .non) = isNone sv := by
  cases sv with
  | own p => cases (show v = .ref p from r); rfl
  | dat d => cases d <;> (cases (show Dt K F v _ from r)) <;> rfl
  | wr d => cases d <;> (cases (show Dp K F v _ from r)) <;> rfl
  | raw w => cases (show v = w from r); rfl
  | rtup ws => obtain ⟨a, rfl, _⟩ := (show ∃ a, v = .ref a ∧ F a = some (.tup ws) from r); rfl
theorem w_isN (p : P (dB (isNone x)) Ls) : W2 K (fun x y H Q => y = .non ∧ Q (.bl (decide (x = .non))) H) x dN Ls P := fun F H v u hh r1 r2 Q c =>
  ⟨Dt.inv_non r2, by rw [rv_none r1]; exact c.now (sv := dB _) hh (Dt.bl _) p⟩
theorem w_notN (p : P (dB (!isNone x)) Ls) : W2 K (fun x y H Q => y = .non ∧ Q (.bl (!decide (x = .non))) H) x dN Ls P := fun F H v u hh r1 r2 Q c =>
  ⟨Dt.inv_non r2, by rw [rv_none r1]; exact c.now (sv := dB _) hh (Dt.bl _) p⟩
theorem w_addS {a b : List Nat} (hl : a.length + b.length ≤ sizeLine) (p : P (dS (a ++ b)) Ls) :
    W2 K (fun x y H Q => ∃ i j, x = .str i ∧ y = .str j ∧ i.length + j.length ≤ sizeLine ∧ Q (.str (i ++ j)) H) (dS a) (dS b) Ls P := fun F H v u hh r1 r2 Q c => by
  refine ⟨S a, S b, Dt.inv_str r1, Dt.inv_str r2, by rw [S_len, S_len]; exact hl, ?_⟩
  rw [S_app]
  exact c.now (sv := dS _) hh (Dt.str _) p
/-- data compared -/
theorem w_eqD {d e : PyData} (h1 : SeqAt.shaped d = true) (h2 : SeqAt.shaped e = true) (p : P (dB (PyData.eqv d e)) Ls) : W2 K (rEqD K) (.dat d) (.dat e) Ls P := fun F H v u hh r1 r2 Q c =>
  ⟨d, e, dp_mono hh.sub (Dt.dp r1), dp_mono hh.sub (Dt.dp r2), h1, h2, c.now (sv := dB _) hh (Dt.bl _) p⟩
theorem w_neD {d e : PyData} (h1 : SeqAt.shaped d = true) (h2 : SeqAt.shaped e = true) (p : P (dB (!PyData.eqv d e)) Ls) : W2 K (rNeD K) (.dat d) (.dat e) Ls P := fun F H v u hh r1 r2 Q c =>
  ⟨d, e, dp_mono hh.sub (Dt.dp r1), dp_mono hh.sub (Dt.dp r2), h1, h2, c.now (sv := dB _) hh (Dt.bl _) p⟩
/-- what an owned list holds, as data -/
def datsOf : List SV → Option (List PyData)
  | [] => some []
  | .dat d :: r => (datsOf r).map (d :: ·)
  | _ => none
theorem datsOf_map (ds : List PyData) : datsOf (ds.map .dat) = some ds := by
  induction ds with
  | nil => rfl
  | cons d r ih => show (datsOf (r.map .dat)).map (d :: ·) = _; rw [ih]; rfl
theorem datsOf_eq : ∀ {xs : List SV} {ds : List PyData}, datsOf xs = some ds → xs = ds.map .dat
  | [], ds, h => by cases h; rfl
  | .dat d :: r, ds, h => by
    cases e : datsOf r with
    | none => rw [datsOf, e] at h; cases h
    | some q =>
      rw [datsOf, e] at h
      cases h
      rw [datsOf_eq e]; rfl
/-- a value seen as data (a list of one's own, too) -/
def IsD' (Ls : Sto) (x : SV) (d : PyData) : Prop := x = .dat d ∨ x = .wr d ∨ ∃ p ds, x = .own p ∧ (p, .lst (ds.map .dat)) ∈ Ls ∧ d = .list ds
theorem IsD'.dp {v : V} {d : PyData} (h : IsD' Ls x d) (hh : Hold K F H Ls) (r : RV K F v x) : Dp K H v d := by
  rcases h with rfl | rfl | ⟨p, ds, rfl, hm, rfl⟩
  · exact dp_mono hh.sub (Dt.dp r)
  · exact dp_mono hh.sub r
  · obtain ⟨_, ho, e, ro⟩ := hh.own p _ hm
    cases (show v = .ref p from r)
    cases ho <;> first | exact .lst (SqL.of e) (dpAll_mono hh.sub (DtAll.dp (rvs_all ro))) | exact ro.elim
theorem w_eqDo {d e : PyData} (hx : IsD' Ls x d) (hy : IsD' Ls y e) (h1 : SeqAt.shaped d = true) (h2 : SeqAt.shaped e = true) (p : P (dB (PyData.eqv d e)) Ls) : W2 K (rEqD K) x y Ls P := fun F H v u hh r1 r2 Q c =>
  ⟨d, e, hx.dp hh r1, hy.dp hh r2, h1, h2, c.now (sv := dB _) hh (Dt.bl _) p⟩
theorem w_neDo {d e : PyData} (hx : IsD' Ls x d) (hy : IsD' Ls y e) (h1 : SeqAt.shaped d = true) (h2 : SeqAt.shaped e = true) (p : P (dB (!PyData.eqv d e)) Ls) : W2 K (rNeD K) x y Ls P := fun F H v u hh r1 r2 Q c =>
  ⟨d, e, hx.dp hh r1, hy.dp hh r2, h1, h2, c.now (sv := dB _) hh (Dt.bl _) p⟩
/-! items, slices -/
theorem paired_get {α β : Type} {R : α → β → Prop} : ∀ {l : List α} {m : List β} {i : Nat} {b : β}, Paired R l m → m[i]? = some b → ∃ a, l[i]? = some a ∧ R a b
  | _, _, i, b, .nil, h => by simp at h
  | _, _, 0, b, .cons r t, h => by
    have e := Option.some.inj h
    subst e
    exact ⟨_, rfl, r⟩
  | _, _, i + 1, b, .cons r t, h => paired_get (i := i) t h
theorem paired_at {α β : Type} {R : α → β → Prop} {l : List α} {m : List β} {i : Int} {b : β} (h : Paired R l m) (e : atI m i = some b) : ∃ a, atI l i = some a ∧ R a b := by
  unfold atI at e ⊢
  rw [h.length]
  cases q : ixN m.length i with
  | none => rw [q] at e; cases e
  | some j =>
    rw [q] at e
    exact paired_get h e
theorem paired_take {α β : Type} {R : α → β → Prop} : ∀ {l : List α} {m : List β} (n : Nat), Paired R l m → Paired R (l.take n) (m.take n)
  | _, _, 0, _ => by simp; exact .nil
  | _, _, n + 1, .nil => by simp; exact .nil
  | _, _, n + 1, .cons r t => .cons r (paired_take n t)
theorem paired_drop {α β : Type} {R : α → β → Prop} : ∀ {l : List α} {m : List β} (n : Nat), Paired R l m → Paired R (l.drop n) (m.drop n)
  | _, _, 0, h => h
  | _, _, n + 1, .nil => by simp; exact .nil
  | _, _, n + 1, .cons r t => paired_drop n t
theorem paired_app {α β : Type} {R : α → β → Prop} : ∀ {l l' : List α} {m m' : List β}, Paired R l m → Paired R l' m' → Paired R (l ++ l') (m ++ m')
  | _, _, _, _, .nil, h => h
  | _, _, _, _, .cons r t, h => .cons r (paired_app t h)
theorem paired_rev {α β : Type} {R : α → β → Prop} : ∀ {l : List α} {m : List β}, Paired R l m → Paired R l.reverse m.reverse
  | _, _, .nil => .nil
  | _, _, .cons r t => by
    rw [List.reverse_cons, List.reverse_cons]
    exact paired_app (paired_rev t) (.cons r .nil)
theorem paired_erase {α β : Type} {R : α → β → Prop} : ∀ {l : List α} {m : List β} (n : Nat), Paired R l m → Paired R (l.eraseIdx n) (m.eraseIdx n)
  | _, _, _, .nil => .nil
  | _, _, 0, .cons r t => t
  | _, _, n + 1, .cons r t => .cons r (paired_erase n t)
theorem paired_set {α β : Type} {R : α → β → Prop} {a : α} {b : β} (q : R a b) : ∀ {l : List α} {m : List β} (n : Nat), Paired R l m → Paired R (l.set n a) (m.set n b)
  | _, _, _, .nil => .nil
  | _, _, 0, .cons r t => .cons q t
  | _, _, n + 1, .cons r t => .cons r (paired_set q n t)
theorem paired_dropLast {α β : Type} {R : α → β → Prop} {l : List α} {m : List β} (h : Paired R l m) : Paired R l.dropLast m.dropLast := by
  rw [List.dropLast_eq_take, List.dropLast_eq_take, h.length]; exact paired_take _ h
theorem w_ixL {xs : List SV} {i : Int} {sv : SV} (hx : IsL Ls x xs) (hi : atI xs i = some sv) (p : P sv Ls) : W2 K (rIxL K) x (dI i) Ls P := fun F H v u hh r1 r2 Q c => by
  obtain ⟨a, vs, e, hs, rs⟩ := hx.get hh r1
  obtain ⟨w, hw, rw'⟩ := paired_at rs hi
  exact ⟨a, vs, i, w, e, Dt.inv_int r2, hs, hw, c.now hh rw' p⟩
theorem w_ixT {xs : List SV} {i : Int} {sv : SV} (hx : IsT x xs) (hi : atI xs i = some sv) (p : P sv Ls) : W2 K (rIxT K) x (dI i) Ls P := fun F H v u hh r1 r2 Q c => by
  obtain ⟨a, vs, e, hs, rs⟩ := hx.get hh r1
  obtain ⟨w, hw, rw'⟩ := paired_at rs hi
  exact ⟨a, vs, i, w, e, Dt.inv_int r2, hs, hw, c.now hh rw' p⟩
theorem w_ixS {t : List Nat} {i : Int} {k : Nat} (hl : t.length ≤ sizeLine) (hi : atI t i = some k) (p : P (dS [k]) Ls) : W2 K rIxS (dS t) (dI i) Ls P := fun F H v u hh r1 r2 Q c =>
  ⟨S t, i, k, Dt.inv_str r1, Dt.inv_int r2, by rw [S_len]; exact hl, by rw [S_cps]; exact hi, c.now (sv := dS [k]) hh (Dt.str _) p⟩
theorem wo_none {te : TE} {r : V → Option Int → Option Int → Hp → VK → Prop} : True := trivial
/-- slices -/
def WO (K : PySem.W.Frag) (to : TO) (Γ : Gm) (Ls : Sto) (P : Option Int → Sto → Prop) : Prop :=
  ∀ F H σ, Hold K F H Ls → RG K F σ Γ → ∀ Q : Option Int → Hp → Prop, (∀ F' H' o L', P o L' → Go (dm Ls) F H (dm L') F' H' → Hold K F' H' L' → Q o H') → to σ H Q
theorem wo_no {P : Option Int → Sto → Prop} (p : P none Ls) : WO K tNoPart Γ Ls P := fun F H σ hh hg Q c => c F H none Ls p Go.refl hh
theorem wo_some {te : TE} {P : Option Int → Sto → Prop} (h : WE K te Γ Ls fun x L1 => ∃ i, x = dI i ∧ P (some i) L1) : WO K (tPart te) Γ Ls P := fun F H σ hh hg Q c =>
  h F H σ hh hg _ fun F1 H1 v x L1 ⟨i, e, p⟩ g1 hh1 r1 => by
    subst e
    exact ⟨i, Dt.inv_int r1, c F1 H1 (some i) L1 p g1 hh1⟩
def WSl (K : PySem.W.Frag) (r : V → Option Int → Option Int → Hp → VK → Prop) (x : SV) (lo hi : Option Int) (Ls : Sto) (P : SV → Sto → Prop) : Prop :=
  ∀ F H v, Hold K F H Ls → RV K F v x → ∀ Q : VK, Cont K Q Ls F H P → r v lo hi H Q
theorem we_sl {te : TE} {tl th : TO} {r : V → Option Int → Option Int → Hp → VK → Prop} (h : WE K te Γ Ls fun x L1 => WO K tl Γ L1 fun lo L2 => WO K th Γ L2 fun hi L3 => WSl K r x lo hi L3 P) : WE K (tSl r te tl th) Γ Ls P := fun F H σ hh hg Q c =>
  h F H σ hh hg _ fun F1 H1 v x L1 h1 g1 hh1 r1 => h1 F1 H1 σ hh1 (hg.mono g1.sF) _ fun F2 H2 lo L2 h2 g2 hh2 => h2 F2 H2 σ hh2 ((hg.mono g1.sF).mono g2.sF) _ fun F3 H3 hi L3 h3 g3 hh3 =>
    h3 F3 H3 v hh3 ((r1.mono g2.sF).mono g3.sF) Q (((c.after g1).after g2).after g3)
def cutL {α : Type} (xs : List α) (lo hi : Option Int) : List α := (xs.drop (HT.sIx xs.length 0 lo)).take (HT.sIx xs.length xs.length hi - HT.sIx xs.length 0 lo)
theorem paired_cut {R : V → SV → Prop} {l : List V} {m : List SV} (h : Paired R l m) (lo hi : Option Int) : Paired R (cutV l lo hi) (cutL m lo hi) := by
  unfold cutV cutL
  rw [h.length]
  exact paired_take _ (paired_drop _ h)
theorem w_slS {t : List Nat} {lo hi : Option Int} (hl : t.length ≤ sizeLine) (p : P (dS (cutL t lo hi)) Ls) : WSl K rSlS (dS t) lo hi Ls P := fun F H v hh r1 Q c => by
  refine ⟨S t, Dt.inv_str r1, by rw [S_len]; exact hl, ?_⟩
  have e : cutS (S t) lo hi = S (cutL t lo hi) := by
    unfold cutS cutL
    rw [S_cps, S_len]; rfl
  rw [e]
  exact c.now (sv := dS _) hh (Dt.str _) p
theorem cont_frozen {o : HO} {sv : SV} (hh : Hold K F H Ls) (c : Cont K Q Ls F H P) (r : ∀ p, H p = none → RV K (upd F p o) (.ref p) sv) (p : P sv Ls) : ∀ q, H q = none → Q (.ref q) (upd H q o) := fun q hq =>
  let ⟨g, h⟩ := go_frozen (o := o) hh hq
  c _ _ _ sv Ls p g h (r q hq)
theorem cont_owned {o : HO} {d : OD} (hh : Hold K F H Ls) (c : Cont K Q Ls F H P) (r : RO K F o d) (p : ∀ q, q ∉ dm Ls → P (.own q) (Ls ++ [(q, d)])) : ∀ q, H q = none → Q (.ref q) (upd H q o) := fun q hq =>
  let ⟨g, h⟩ := go_owned (d := d) hh hq r
  c _ _ _ (.own q) _ (p q (hh.fresh hq).2) g h rfl
theorem same_new {p : Addr} {o : HO} (e : F p = none) : Same F (upd F p o) := fun a u h1 => by rw [upd_ne (ne_of_none h1 e)]; exact h1
theorem rv_newL {xs : List SV} {ds : List PyData} {vs : List V} (hh : Hold K F H Ls) (rs : Paired (RV K F) vs xs) (e : datsOf xs = some ds) (p : Addr) (hp : H p = none) : RV K (upd F p (.lst vs)) (.ref p) (.dat (.list ds)) := by
  rw [datsOf_eq e] at rs
  exact Dt.lst upd_same (rvs_all (RVs.mono (same_new (hh.fresh hp).1) rs))
theorem rv_newT {xs : List SV} {ds : List PyData} {vs : List V} (hh : Hold K F H Ls) (rs : Paired (RV K F) vs xs) (e : datsOf xs = some ds) (p : Addr) (hp : H p = none) : RV K (upd F p (.tup vs)) (.ref p) (.dat (.tuple ds)) := by
  rw [datsOf_eq e] at rs
  exact Dt.tup upd_same (rvs_all (RVs.mono (same_new (hh.fresh hp).1) rs))
theorem w_slL {xs : List SV} {lo hi : Option Int} {ds : List PyData} (hx : IsL Ls x xs) (e : datsOf (cutL xs lo hi) = some ds) (p : P (.dat (.list ds)) Ls) : WSl K (rSlL K) x lo hi Ls P := fun F H v hh r1 Q c => by
  obtain ⟨a, vs, rfl, hs, rs⟩ := hx.get hh r1
  exact ⟨a, vs, rfl, hs, cont_frozen hh c (rv_newL hh (paired_cut rs lo hi) e) p⟩
/-! displays -/
theorem we_tup {t : TA} (h : WA K t Γ Ls fun xs L1 => xs.length ≤ sizeLine ∧ ∃ ds, datsOf xs = some ds ∧ P (.dat (.tuple ds)) L1) : WE K (tTup t) Γ Ls P := fun F H σ hh hg Q c =>
  h F H σ hh hg _ fun F1 H1 vs xs L1 ⟨hl, ds, e, p⟩ g1 hh1 r1 => ⟨by rw [r1.length]; exact hl, cont_frozen hh1 (c.after g1) (rv_newT hh1 r1 e) p⟩
theorem we_lst {t : TA} (h : WA K t Γ Ls fun xs L1 => xs.length ≤ sizeLine ∧ ∃ ds, datsOf xs = some ds ∧ P (.dat (.list ds)) L1) : WE K (tLst t) Γ Ls P := fun F H σ hh hg Q c =>
  h F H σ hh hg _ fun F1 H1 vs xs L1 ⟨hl, ds, e, p⟩ g1 hh1 r1 => ⟨by rw [r1.length]; exact hl, cont_frozen hh1 (c.after g1) (rv_newL hh1 r1 e) p⟩
theorem we_lstO {t : TA} (h : WA K t Γ Ls fun xs L1 => xs.length ≤ sizeLine ∧ ∀ q, q ∉ dm L1 → P (.own q) (L1 ++ [(q, .lst xs)])) : WE K (tLst t) Γ Ls P := fun F H σ hh hg Q c =>
  h F H σ hh hg _ fun F1 H1 vs xs L1 ⟨hl, p⟩ g1 hh1 r1 => ⟨by rw [r1.length]; exact hl, cont_owned hh1 (c.after g1) (d := .lst xs) r1 p⟩
theorem we_dnewK (p : ∀ q, q ∉ dm Ls → P (.own q) (Ls ++ [(q, .dK [])])) : WE K tDNewK Γ Ls P := fun F H σ hh hg Q c => cont_owned hh c (o := .dK []) (d := .dK []) .nil p
theorem we_dnewT (p : ∀ q, q ∉ dm Ls → P (.own q) (Ls ++ [(q, .dT [])])) : WE K tDNewT Γ Ls P := fun F H σ hh hg Q c => cont_owned hh c (o := .dT []) (d := .dT []) .nil p
/-- an owned list becomes data -/
def frz (P : SV → Sto → Prop) : SV → Sto → Prop := fun x L => ∃ p ds A B, x = .own p ∧ L = A ++ (p, .lst ds) :: B ∧ ∃ es, datsOf ds = some es ∧ P (.dat (.list es)) (A ++ B)
theorem we_frz {te : TE} (h : WE K te Γ Ls (frz P)) : WE K te Γ Ls P := fun F H σ hh hg Q c =>
  h F H σ hh hg _ fun F1 H1 v x L1 ⟨p, ds, A, B, e1, e2, es, e3, p1⟩ g1 hh1 r1 => by
    subst e1; subst e2
    cases (show v = .ref p from r1)
    have hm : (p, OD.lst ds) ∈ A ++ (p, OD.lst ds) :: B := List.mem_append_right _ List.mem_cons_self
    obtain ⟨f1, ho, e, ro⟩ := hh1.own p _ hm
    cases ho <;> first | exact ro.elim | skip
    rename_i vs
    have ro : Paired (RV K F1) vs ds := ro
    have sF : Same F1 (upd F1 p (.lst vs)) := same_new f1
    have rv : RV K (upd F1 p (.lst vs)) (.ref p) (.dat (.list es)) := by
      rw [datsOf_eq e3] at ro
      exact Dt.lst upd_same (rvs_all (RVs.mono sF ro))
    have nd := hh1.nd
    have hp : p ∉ dm (A ++ B) := by
      have z : dm (A ++ (p, OD.lst ds) :: B) = dm A ++ p :: dm B := by simp [dm]
      rw [z] at nd
      have z2 : dm (A ++ B) = dm A ++ dm B := by simp [dm]
      rw [z2]
      intro q
      rcases List.mem_append.mp q with q | q
      · exact (List.nodup_append.mp nd).2.2 p q p List.mem_cons_self rfl
      · exact (List.nodup_cons.mp (List.nodup_append.mp nd).2.1).1 q
    have sub : ∀ q u, (q, u) ∈ A ++ B → (q, u) ∈ A ++ (p, OD.lst ds) :: B := fun q u hq => by
      rcases List.mem_append.mp hq with hq | hq
      · exact List.mem_append_left _ hq
      · exact List.mem_append_right _ (List.mem_cons_of_mem _ hq)
    refine c (upd F1 p (.lst vs)) H1 (.ref p) _ (A ++ B) p1 (g1.trans ⟨fun _ _ _ h => h, fun _ h => h, sF, fun a h1 h2 h3 => ?_, fun a h1 => ?_⟩) ⟨fun a u h1 => ?_, fun q u hq => ?_, ?_⟩ rv
    · rw [upd_ne (fun z => h1 (by rw [z]; exact mem_dm hm))]; exact h2
    · obtain ⟨⟨q, u⟩, hq, rfl⟩ := List.mem_map.mp h1
      exact .inl (mem_dm (sub q u hq))
    · by_cases z : a = p
      · subst z; rw [upd_same] at h1; cases h1; exact e
      · rw [upd_ne z] at h1; exact hh1.sub a u h1
    · obtain ⟨a1, ho, a2, a3⟩ := hh1.own q u (sub q u hq)
      have z : q ≠ p := fun z => hp (z ▸ mem_dm hq)
      exact ⟨by rw [upd_ne z]; exact a1, ho, a2, a3.mono sF⟩
    · have z : dm (A ++ (p, OD.lst ds) :: B) = dm A ++ p :: dm B := by simp [dm]
      have z2 : dm (A ++ B) = dm A ++ dm B := by simp [dm]
      rw [z] at nd
      rw [z2]
      exact nd.sublist (List.Sublist.append_left (List.sublist_cons_self _ _) _)
/-! calls -/
abbrev PSp := List SV → Sto → (SV → Sto → Prop) → Prop
def toSp (K : PySem.W.Frag) (R : PSp) : L2.Sp := fun vs H Q _ => ∃ F xs Ls P, Hold K F H Ls ∧ Paired (RV K F) vs xs ∧ R xs Ls P ∧ Cont K Q Ls F H P
theorem dm_app (A B : Sto) : dm (A ++ B) = dm A ++ dm B := List.map_append
theorem call_frame {F1 H1 F2 H2 : Hp} {L0 Lf L0' : Sto} (hh1 : Hold K F1 H1 (L0 ++ Lf)) (g2 : Go (dm L0) F1 H1 (dm L0') F2 H2) (hh2 : Hold K F2 H2 L0') :
    Go (dm (L0 ++ Lf)) F1 H1 (dm (L0' ++ Lf)) F2 H2 ∧ Hold K F2 H2 (L0' ++ Lf) := by
  have nd := hh1.nd
  rw [dm_app] at nd
  have nd3 := (List.nodup_append.mp nd).2.2
  have fr : ∀ p o, (p, o) ∈ Lf → p ∉ dm L0 ∧ F2 p = none ∧ ∃ ho, H1 p = some ho ∧ H2 p = some ho ∧ RO K F2 ho o := fun p o hp => by
    obtain ⟨a1, ho, a2, a3⟩ := hh1.own p o (List.mem_append_right _ hp)
    have n0 : p ∉ dm L0 := fun q => nd3 p q p (mem_dm hp) rfl
    exact ⟨n0, g2.sep p n0 a1 (by rw [a2]; exact nofun), ho, a2, g2.keep p ho n0 a2, a3.mono g2.sF⟩
  refine ⟨⟨fun a o h1 h2 => g2.keep a o (fun z => h1 (by rw [dm_app]; exact List.mem_append_left _ z)) h2, g2.dom, g2.sF, fun a h1 h2 h3 => g2.sep a (fun z => h1 (by rw [dm_app]; exact List.mem_append_left _ z)) h2 h3, fun a h1 => ?_⟩, ⟨hh2.sub, fun p o hp => ?_, ?_⟩⟩
  · rw [dm_app] at h1 ⊢
    rcases List.mem_append.mp h1 with h1 | h1
    · rcases g2.sub a h1 with q | q
      · exact .inl (List.mem_append_left _ q)
      · exact .inr q
    · exact .inl (List.mem_append_right _ h1)
  · rcases List.mem_append.mp hp with hp | hp
    · exact hh2.own p o hp
    · obtain ⟨_, b1, ho, _, b2, b3⟩ := fr p o hp
      exact ⟨b1, ho, b2, b3⟩
  · rw [dm_app]
    refine List.nodup_append.mpr ⟨hh2.nd, (List.nodup_append.mp nd).2.1, fun a h1 b h2 z => ?_⟩
    subst z
    obtain ⟨⟨p, o⟩, hp, e⟩ := List.mem_map.mp h2
    have e : p = a := e
    subst e
    obtain ⟨n0, _, ho, a2, _⟩ := fr p o hp
    rcases g2.sub p h1 with q | q
    · exact n0 q
    · rw [a2] at q; cases q
theorem Hold.sub0 {L0 Lf : Sto} (hh : Hold K F H (L0 ++ Lf)) : Hold K F H L0 := ⟨hh.sub, fun p o hp => hh.own p o (List.mem_append_left _ hp), by
  have nd := hh.nd
  rw [dm_app] at nd
  exact (List.nodup_append.mp nd).1⟩
theorem Hold.comm {A B : Sto} (h : Hold K F H (A ++ B)) : Hold K F H (B ++ A) :=
  ⟨h.sub, fun p o hp => h.own p o (List.mem_append.mpr ((List.mem_append.mp hp).symm)), by
    have := h.nd
    rw [dm_app] at this ⊢
    exact (List.perm_append_comm.nodup_iff).mp this⟩
theorem Go.comm {D : List Addr} {A B : Sto} (g : Go D F H (dm (A ++ B)) F' H') : Go D F H (dm (B ++ A)) F' H' :=
  ⟨g.keep, g.dom, g.sF, g.sep, fun a h => g.sub a (by
    rw [dm_app] at h ⊢
    exact List.mem_append.mpr ((List.mem_append.mp h).symm))⟩
theorem we_call {R : PSp} {t : TA} (h : WA K t Γ Ls fun xs L1 => ∃ L0 Lf, L1 = L0 ++ Lf ∧ R xs L0 fun sv L0' => P sv (L0' ++ Lf)) : WE K (tCall (toSp K R) [] E0 t) Γ Ls P := fun F H σ hh hg Q c =>
  h F H σ hh hg _ fun F1 H1 vs xs L1 ⟨L0, Lf, e, hR⟩ g1 hh1 r1 => by
    subst e
    rw [List.append_nil]
    refine ⟨F1, xs, L0, _, hh1.sub0, r1, hR, fun F2 H2 v sv L0' p g2 hh2 r2 => ?_⟩
    obtain ⟨g3, hh3⟩ := call_frame hh1 g2 hh2
    exact c F2 H2 v sv (L0' ++ Lf) p (g1.trans g3) hh3 r2
/-- a call that wants nothing of what is owned: what it makes comes last -/
theorem we_callp {R : PSp} {t : TA} (h : WA K t Γ Ls fun xs L1 => R xs [] fun sv L0' => P sv (L1 ++ L0')) : WE K (tCall (toSp K R) [] E0 t) Γ Ls P := fun F H σ hh hg Q c =>
  h F H σ hh hg _ fun F1 H1 vs xs L1 hR g1 hh1 r1 => by
    rw [List.append_nil]
    refine ⟨F1, xs, [], _, Hold.sub0 (Lf := L1) hh1, r1, hR, fun F2 H2 v sv L0' p g2 hh2 r2 => ?_⟩
    obtain ⟨g3, hh3⟩ := call_frame (L0 := []) hh1 g2 hh2
    exact c F2 H2 v sv (L1 ++ L0') p (g1.trans g3.comm) hh3.comm r2
/-- .. and makes nothing that is owned -/
theorem we_call0 {R : PSp} {t : TA} (h : WA K t Γ Ls fun xs L1 => R xs [] fun sv L0' => L0' = [] ∧ P sv L1) : WE K (tCall (toSp K R) [] E0 t) Γ Ls P := fun F H σ hh hg Q c =>
  h F H σ hh hg _ fun F1 H1 vs xs L1 hR g1 hh1 r1 => by
    rw [List.append_nil]
    refine ⟨F1, xs, [], _, Hold.sub0 (Lf := L1) hh1, r1, hR, fun F2 H2 v sv L0' p g2 hh2 r2 => ?_⟩
    obtain ⟨rfl, p⟩ := p
    obtain ⟨g3, hh3⟩ := call_frame (L0 := []) (L0' := []) hh1 g2 hh2
    exact c F2 H2 v sv L1 p (g1.trans g3) hh3 r2
/-- a def by its body -/
def startG (n : Nat) (xs : List SV) : Gm := xs.map some ++ List.replicate (n - xs.length) none
theorem rg_start {N : List Str} {vs : List V} {xs : List SV} (r : Paired (RV K F) vs xs) : RG K F (start N vs) (startG N.length xs) := by
  have hl := r.length
  refine ⟨by simp [L2.start, startG, hl], fun i sv h => ?_⟩
  unfold startG at h
  by_cases hi : i < xs.length
  · rw [List.getElem?_append_left (by simpa using hi), List.getElem?_map] at h
    cases e : xs[i]? with
    | none => rw [e] at h; cases h
    | some x =>
      rw [e] at h
      cases h
      obtain ⟨v, hv, rv⟩ := paired_get r e
      refine ⟨v, ?_, rv⟩
      unfold L2.start
      rw [List.getElem?_append_left (by simpa [hl] using hi), List.getElem?_map, hv]; rfl
  · rw [List.getElem?_append_right (by simpa using hi), List.getElem?_replicate] at h
    split at h <;> cases h
theorem okW {P : Program} {w : World} {mg : Str → Option Value} {base : Heap} {x qual : Str} {st : Stmt} {f : Addr} {fd : FuncData} {N ps : List Str} {k : Nat} {R : PSp} (Fn : Fun K x qual st f fd) (Sc : FnScope N ps (defScope st)) (len : ∀ xs Ls Q, R xs Ls Q → xs.length = ps.length)
    (hbody : ∀ (cdv : Value) (A : Around) (outer : List Env) (s : Shared) (H : Hp) (E : XK), Room k (A.deeper (envOfC qual (defScope st) s.heap.objs.size f cdv)) →
      ∃ t, PSs (cxOf CX0 P w K mg base N qual (defScope st) f cdv A outer s H E).nox (defBody st) t ∧ ∀ xs Ls Q, R xs Ls Q → WS K t (startG N.length xs) Ls { nx := fun _ L => Q (.dat .none) L, rt := Q }) : FnOk P w K mg base CX0 (k + 1) f fd ps (toSp K R) := by
  refine Fn.ok Sc (fun vs H Q E h => ?_) (fun cdv A outer s H vs Q E hr h => ?_)
  · obtain ⟨F, xs, Ls, P, hh, r, hR, c⟩ := h
    rw [r.length]; exact len xs Ls P hR
  · obtain ⟨F, xs, Ls, P, hh, r, hR, c⟩ := h
    obtain ⟨t, h1, h2⟩ := hbody cdv A outer s H E hr
    exact ⟨t, h1, h2 xs Ls P hR F H _ hh (rg_start r) _ ⟨fun F' H' σ' Γ' L' p g hh' hg' => c F' H' .non (.dat .none) L' p g hh' Dt.non, c, fun _ _ _ _ _ p => p.elim, fun _ _ _ _ _ p => p.elim⟩⟩
end
end OL

/-! OL3: dicts, methods, built-ins, loops, comprehensions. -/
namespace OL
open PySem PySem.Spec PyProof.Rows L2

/-! ### dicts -/
section
variable {κ : Type} [DecidableEq κ]
def lookS (kvs : List (κ × SV)) (k : κ) : Option SV := (kvs.find? fun kv => decide (kv.1 = k)).map (·.2)
def putS (kvs : List (κ × SV)) (k : κ) (v : SV) : List (κ × SV) := if (kvs.any fun kv => decide (kv.1 = k)) = true then kvs.map (fun kv => if kv.1 = k then (kv.1, v) else kv) else kvs ++ [(k, v)]
def dropS (kvs : List (κ × SV)) (k : κ) : List (κ × SV) := kvs.filter fun kv => decide (kv.1 ≠ k)
variable {K : PySem.W.Frag} {F : Hp}
theorem rk_look {k : κ} : ∀ {l : List (κ × V)} {m : List (κ × SV)}, Paired (RK K F) l m → (∀ sv, lookS m k = some sv → ∃ v, valV l k = some v ∧ RV K F v sv) ∧ (lookS m k = none → valV l k = none)
  | _, _, .nil => ⟨fun sv h => (nomatch (show (none : Option SV) = some sv from h)), fun _ => rfl⟩
  | p :: l, q :: m, .cons r t => by
    have ih := rk_look (k := k) t
    by_cases e : p.1 = k
    · have e2 : q.1 = k := r.1 ▸ e
      rw [valV_pos e]
      have z : lookS (q :: m) k = some q.2 := by simp [lookS, List.find?_cons, e2]
      rw [z]
      exact ⟨fun sv h => by cases h; exact ⟨_, rfl, r.2⟩, fun h => by cases h⟩
    · have e2 : ¬ q.1 = k := r.1 ▸ e
      rw [valV_neg e]
      have z : lookS (q :: m) k = lookS m k := by simp [lookS, List.find?_cons, e2]
      rw [z]
      exact ih
theorem rk_isSome {k : κ} {l : List (κ × V)} {m : List (κ × SV)} (h : Paired (RK K F) l m) : (valV l k).isSome = (lookS m k).isSome := by
  obtain ⟨h1, h2⟩ := rk_look (k := k) h
  cases e : lookS m k with
  | none => rw [h2 e]; rfl
  | some sv => obtain ⟨v, e2, _⟩ := h1 sv e; rw [e2]; rfl
theorem rk_map {k : κ} {v : V} {sv : SV} (r : RV K F v sv) : ∀ {l : List (κ × V)} {m : List (κ × SV)}, Paired (RK K F) l m → Paired (RK K F) (l.map fun kv => if kv.1 = k then (kv.1, v) else kv) (m.map fun kv => if kv.1 = k then (kv.1, sv) else kv)
  | _, _, .nil => .nil
  | p :: l, q :: m, .cons q1 t => by
    refine .cons ?_ (rk_map r t)
    dsimp only
    by_cases e : p.1 = k
    · rw [if_pos e, if_pos (q1.1 ▸ e)]; exact ⟨q1.1, r⟩
    · rw [if_neg e, if_neg (q1.1 ▸ e)]; exact q1
theorem rk_any {k : κ} : ∀ {l : List (κ × V)} {m : List (κ × SV)}, Paired (RK K F) l m → (l.any fun kv => decide (kv.1 = k)) = (m.any fun kv => decide (kv.1 = k))
  | _, _, .nil => rfl
  | p :: l, q :: m, .cons q1 t => by
    rw [List.any_cons, List.any_cons, rk_any t, q1.1]
theorem rk_put {k : κ} {v : V} {sv : SV} (r : RV K F v sv) {l : List (κ × V)} {m : List (κ × SV)} (h : Paired (RK K F) l m) : Paired (RK K F) (putK l k v) (putS m k sv) := by
  unfold putK putS
  rw [rk_any h]
  split
  · exact rk_map r h
  · exact paired_app h (.cons ⟨rfl, r⟩ .nil)
theorem rk_drop {k : κ} : ∀ {l : List (κ × V)} {m : List (κ × SV)}, Paired (RK K F) l m → Paired (RK K F) (dropK l k) (dropS m k)
  | _, _, .nil => .nil
  | p :: l, q :: m, .cons q1 t => by
    have ih := rk_drop (k := k) t
    unfold dropK dropS at ih ⊢
    by_cases e : p.1 = k
    · rw [List.filter_cons_of_neg (by simp [e]), List.filter_cons_of_neg (by simp [← q1.1, e])]; exact ih
    · rw [List.filter_cons_of_pos (by simp [e]), List.filter_cons_of_pos (by simp [← q1.1, e])]; exact .cons q1 ih
end
section
variable {κ : Type} {K : PySem.W.Frag} {F : Hp}
theorem rk_keys : ∀ {l : List (κ × V)} {m : List (κ × SV)}, Paired (RK K F) l m → l.map (·.1) = m.map (·.1)
  | _, _, .nil => rfl
  | _, _, .cons r t => by rw [List.map_cons, List.map_cons, r.1, rk_keys t]
end
/-- a key as data -/
def kD : Key → PyData
  | .inl i => .int i
  | .inr s => .str s
/-- x in the owned dict at p by the key that y is: what stands there -/
def DLook (Ls : Sto) (x y : SV) (o : Option SV) : Prop :=
  ∃ p, x = .own p ∧ ((∃ kvs k, (p, .dK kvs) ∈ Ls ∧ y = .dat (kD k) ∧ o = lookS kvs k) ∨ (∃ kvs ks, (p, .dT kvs) ∈ Ls ∧ y = .dat (.tuple (ks.map kD)) ∧ o = lookS kvs ks))
section
variable {K : PySem.W.Frag} {F F' H H' : Hp} {Ls L' : Sto} {Γ : Gm} {P : SV → Sto → Prop} {Q : VK} {E : PEnds} {D : Ends} {x y : SV}
theorem rv_key {v : V} : ∀ {k : Key}, Dt K F v (kD k) → v = kV k
  | .inl i, h => Dt.inv_int h
  | .inr s, h => Dt.inv_str h
theorem rv_keys : ∀ {ks : List Key} {vs : List V}, DtAll K F vs (ks.map kD) → vs = ks.map kV
  | [], _, h => by cases h; rfl
  | k :: ks, _, h => by
    cases h with
    | cons h1 h2 => rw [rv_key h1, rv_keys h2]; rfl
theorem kd_one : ∀ k : Key, Dt K F (kV k) (kD k)
  | .inl i => .int i
  | .inr s => .str s
theorem kd_all : ∀ ks : List Key, DtAll K F (ks.map kV) (ks.map kD)
  | [] => .nil
  | k :: ks => .cons (kd_one k) (kd_all ks)
theorem rv_tkey {v : V} {ks : List Key} (h : Dt K F v (.tuple (ks.map kD))) : ∃ b, v = .ref b ∧ F b = some (.tup (ks.map kV)) := by
  cases h with
  | tup h1 h2 => exact ⟨_, rfl, by rw [← rv_keys h2]; exact h1⟩
theorem DLook.get {o : Option SV} (h : DLook Ls x y o) (hh : Hold K F H Ls) {v u : V} (r1 : RV K F v x) (r2 : RV K F u y) : ∃ a o', v = .ref a ∧ DGet H a u o' ∧ (o' = none ↔ o = none) ∧ ∀ sv, o = some sv → ∃ w, o' = some w ∧ RV K F w sv := by
  obtain ⟨p, rfl, h⟩ := h
  cases (show v = .ref p from r1)
  rcases h with ⟨kvs, k, hm, rfl, rfl⟩ | ⟨kvs, ks, hm, rfl, rfl⟩
  · obtain ⟨_, ho, e, ro⟩ := hh.own p _ hm
    cases ho <;> first | exact ro.elim | skip
    rename_i l
    have ro : Paired (RK K F) l kvs := ro
    obtain ⟨h1, h2⟩ := rk_look (k := k) ro
    rw [rv_key r2]
    refine ⟨p, _, rfl, DGet.k e, ⟨fun h => ?_, h2⟩, fun sv h => h1 sv h⟩
    cases q : lookS kvs k with
    | none => rfl
    | some sv => obtain ⟨w, q2, _⟩ := h1 sv q; rw [q2] at h; cases h
  · obtain ⟨_, ho, e, ro⟩ := hh.own p _ hm
    cases ho <;> first | exact ro.elim | skip
    rename_i l
    have ro : Paired (RK K F) l kvs := ro
    obtain ⟨h1, h2⟩ := rk_look (k := ks) ro
    obtain ⟨b, rfl, hb⟩ := rv_tkey r2
    refine ⟨p, _, rfl, DGet.t e (hh.sub _ _ hb), ⟨fun h => ?_, h2⟩, fun sv h => h1 sv h⟩
    cases q : lookS kvs ks with
    | none => rfl
    | some sv => obtain ⟨w, q2, _⟩ := h1 sv q; rw [q2] at h; cases h
variable {ta tb tc te : TE}
theorem we_dget (h : WE K ta Γ Ls fun x L1 => WE K tb Γ L1 fun y L2 => ∃ sv, DLook L2 x y (some sv) ∧ P sv L2) : WE K (tDGet ta tb) Γ Ls P := fun F H σ hh hg Q c =>
  h F H σ hh hg _ fun F1 H1 v x L1 h1 g1 hh1 r1 => h1 F1 H1 σ hh1 (hg.mono g1.sF) _ fun F2 H2 u y L2 ⟨sv, hd, p⟩ g2 hh2 r2 => by
    obtain ⟨a, o', e, hD, _, h3⟩ := hd.get hh2 (r1.mono g2.sF) r2
    obtain ⟨w, rfl, rw'⟩ := h3 sv rfl
    exact ⟨a, w, e, hD, ((c.after g1).after g2).now hh2 rw' p⟩
theorem we_din (h : WE K ta Γ Ls fun y L1 => WE K tb Γ L1 fun x L2 => ∃ o, DLook L2 x y o ∧ P (dB o.isSome) L2) : WE K (tDIn ta tb) Γ Ls P := fun F H σ hh hg Q c =>
  h F H σ hh hg _ fun F1 H1 u y L1 h1 g1 hh1 r1 => h1 F1 H1 σ hh1 (hg.mono g1.sF) _ fun F2 H2 v x L2 ⟨o, hd, p⟩ g2 hh2 r2 => by
    obtain ⟨a, o', e, hD, h2, h3⟩ := hd.get hh2 r2 (r1.mono g2.sF)
    refine ⟨a, o', e, hD, ?_⟩
    have z : o'.isSome = o.isSome := by
      cases o with
      | none => rw [h2.mpr rfl]; rfl
      | some sv => obtain ⟨w, q, _⟩ := h3 sv rfl; rw [q]; rfl
    rw [z]
    exact ((c.after g1).after g2).now (sv := dB _) hh2 (Dt.bl _) p
theorem we_dnotin (h : WE K ta Γ Ls fun y L1 => WE K tb Γ L1 fun x L2 => ∃ o, DLook L2 x y o ∧ P (dB (!o.isSome)) L2) : WE K (tDNotIn ta tb) Γ Ls P := fun F H σ hh hg Q c =>
  h F H σ hh hg _ fun F1 H1 u y L1 h1 g1 hh1 r1 => h1 F1 H1 σ hh1 (hg.mono g1.sF) _ fun F2 H2 v x L2 ⟨o, hd, p⟩ g2 hh2 r2 => by
    obtain ⟨a, o', e, hD, h2, h3⟩ := hd.get hh2 r2 (r1.mono g2.sF)
    refine ⟨a, o', e, hD, ?_⟩
    have z : o'.isSome = o.isSome := by
      cases o with
      | none => rw [h2.mpr rfl]; rfl
      | some sv => obtain ⟨w, q, _⟩ := h3 sv rfl; rw [q]; rfl
    rw [z]
    exact ((c.after g1).after g2).now (sv := dB _) hh2 (Dt.bl _) p
/-- a store into an owned dict -/
def DStore (Ls : Sto) (x y z : SV) (L' : Sto) : Prop :=
  ∃ p, x = .own p ∧ ((∃ kvs k, Chg Ls p (.dK kvs) (.dK (putS kvs k z)) L' ∧ y = .dat (kD k) ∧ kvs.length < sizeLine) ∨ (∃ kvs ks, Chg Ls p (.dT kvs) (.dT (putS kvs ks z)) L' ∧ y = .dat (.tuple (ks.map kD)) ∧ kvs.length < sizeLine))
theorem DStore.go {z : SV} (h : DStore Ls x y z L') (hh : Hold K F H Ls) {v u w : V} (r1 : RV K F v x) (r2 : RV K F u y) (r3 : RV K F w z) : ∃ a H', v = .ref a ∧ DPut H a u w H' ∧ Go (dm Ls) F H (dm L') F H' ∧ Hold K F H' L' := by
  obtain ⟨p, rfl, h⟩ := h
  cases (show v = .ref p from r1)
  rcases h with ⟨kvs, k, hc, rfl, hl⟩ | ⟨kvs, ks, hc, rfl, hl⟩
  · obtain ⟨_, ho, e, ro⟩ := hh.own p _ hc.mem
    cases ho <;> first | exact ro.elim | skip
    rename_i l
    have ro : Paired (RK K F) l kvs := ro
    obtain ⟨g, h2⟩ := go_chg (ho := .dK (putK l k w)) hh hc (rk_put r3 ro)
    rw [rv_key r2]
    exact ⟨p, _, rfl, DPut.k e (by rw [ro.length]; exact hl), g, h2⟩
  · obtain ⟨_, ho, e, ro⟩ := hh.own p _ hc.mem
    cases ho <;> first | exact ro.elim | skip
    rename_i l
    have ro : Paired (RK K F) l kvs := ro
    obtain ⟨g, h2⟩ := go_chg (ho := .dT (putK l ks w)) hh hc (rk_put r3 ro)
    obtain ⟨b, rfl, hb⟩ := rv_tkey r2
    exact ⟨p, _, rfl, DPut.t e (hh.sub _ _ hb) (by rw [ro.length]; exact hl), g, h2⟩
theorem ws_dput (h : WE K tc Γ Ls fun z L1 => WE K ta Γ L1 fun x L2 => WE K tb Γ L2 fun y L3 => ∃ L4, DStore L3 x y z L4 ∧ E.nx Γ L4) : WS K (sDPut ta tb tc) Γ Ls E := fun F H σ hh hg D e =>
  h F H σ hh hg _ fun F1 H1 w z L1 h1 g1 hh1 r1 => h1 F1 H1 σ hh1 (hg.mono g1.sF) _ fun F2 H2 v x L2 h2 g2 hh2 r2 => h2 F2 H2 σ hh2 ((hg.mono g1.sF).mono g2.sF) _ fun F3 H3 u y L3 ⟨L4, hs, p⟩ g3 hh3 r3 => by
    obtain ⟨a, H4, e1, hD, g4, hh4⟩ := hs.go hh3 (r2.mono g3.sF) r3 ((r1.mono g2.sF).mono g3.sF)
    exact ⟨a, H4, e1, hD, e.nx F3 H4 σ Γ L4 p (((g1.trans g2).trans g3).trans g4) hh4 (((hg.mono g1.sF).mono g2.sF).mono g3.sF)⟩
/-- a store to a place, as a target -/
def WSet (K : PySem.W.Frag) (t : TSet) (o i x : SV) (Ls : Sto) (P : Sto → Prop) : Prop :=
  ∀ F H vo vi v, Hold K F H Ls → RV K F vo o → RV K F vi i → RV K F v x → ∀ Q : Hp → Prop, (∀ F' H' L', P L' → Go (dm Ls) F H (dm L') F' H' → Hold K F' H' L' → Q H') → t vo vi v H Q
theorem wg_sub {t : TSet} {P : Gm → Sto → Prop} (h : WE K ta Γ Ls fun o L1 => WE K tb Γ L1 fun i L2 => WSet K t o i x L2 fun L3 => P Γ L3) : WG K (gSub ta tb t) x Γ Ls P := fun F H σ v hh hg r Q c =>
  h F H σ hh hg _ fun F1 H1 vo o L1 h1 g1 hh1 r1 => h1 F1 H1 σ hh1 (hg.mono g1.sF) _ fun F2 H2 vi i L2 h2 g2 hh2 r2 =>
    h2 F2 H2 vo vi v hh2 (r1.mono g2.sF) r2 ((r.mono g1.sF).mono g2.sF) _ fun F3 H3 L3 p g3 hh3 => c F3 H3 σ Γ L3 p ((g1.trans g2).trans g3) hh3 (((hg.mono g1.sF).mono g2.sF).mono g3.sF)
theorem wset_l {p : Addr} {xs : List SV} {k : Int} {j : Nat} {P : Sto → Prop} (hj : ixN xs.length k = some j) (hc : Chg Ls p (.lst xs) (.lst (xs.set j x)) L') (q : P L') : WSet K rSetL (.own p) (dI k) x Ls P := fun F H vo vi v hh r1 r2 r3 Q c => by
  obtain ⟨_, ho, e, ro⟩ := hh.own p _ hc.mem
  cases ho <;> first | exact ro.elim | skip
  rename_i l
  have ro : Paired (RV K F) l xs := ro
  obtain ⟨g, h2⟩ := go_chg (ho := .lst (l.set j v)) hh hc (paired_set r3 j ro)
  exact ⟨p, l, k, j, r1, Dt.inv_int r2, e, by rw [ro.length]; exact hj, c F _ L' q g h2⟩
theorem wset_d {P : Sto → Prop} {o i : SV} (hs : DStore Ls o i x L') (q : P L') : WSet K rSetD o i x Ls P := fun F H vo vi v hh r1 r2 r3 Q c => by
  obtain ⟨a, H4, e1, hD, g4, hh4⟩ := hs.go hh r1 r2 r3
  exact ⟨a, H4, e1, hD, c F H4 L' q g4 hh4⟩
/-- a displayed dict -/
def WPairs (K : PySem.W.Frag) (trs : List (TE × TE)) (Γ : Gm) (Ls : Sto) (P : List (SV × SV) → Sto → Prop) : Prop :=
  ∀ F H σ, Hold K F H Ls → RG K F σ Γ → ∀ Q : List (V × V) → Hp → Prop, (∀ F' H' ps qs L', P qs L' → Go (dm Ls) F H (dm L') F' H' → Hold K F' H' L' → Paired (fun p q => RV K F' p.1 q.1 ∧ RV K F' p.2 q.2) ps qs → Q ps H') → tPairs trs σ H Q
theorem wp_nil {P : List (SV × SV) → Sto → Prop} (p : P [] Ls) : WPairs K [] Γ Ls P := fun F H σ hh hg Q c => c F H [] [] Ls p Go.refl hh .nil
theorem wp_cons {P : List (SV × SV) → Sto → Prop} {r : List (TE × TE)} (h : WE K ta Γ Ls fun x L1 => WE K tb Γ L1 fun y L2 => WPairs K r Γ L2 fun ps L3 => P ((x, y) :: ps) L3) : WPairs K ((ta, tb) :: r) Γ Ls P := fun F H σ hh hg Q c =>
  h F H σ hh hg _ fun F1 H1 v x L1 h1 g1 hh1 r1 => h1 F1 H1 σ hh1 (hg.mono g1.sF) _ fun F2 H2 u y L2 h2 g2 hh2 r2 => h2 F2 H2 σ hh2 ((hg.mono g1.sF).mono g2.sF) _ fun F3 H3 ps qs L3 p g3 hh3 r3 =>
    c F3 H3 _ _ L3 p ((g1.trans g2).trans g3) hh3 (.cons ⟨(r1.mono g2.sF).mono g3.sF, r2.mono g3.sF⟩ r3)
def mergeS (kvs more : List (Key × SV)) : List (Key × SV) := more.foldl (fun acc kv => putS acc kv.1 kv.2) kvs
theorem rk_merge : ∀ {m : List (Key × V)} {n : List (Key × SV)} {l : List (Key × V)} {k : List (Key × SV)}, Paired (RK K F) m n → Paired (RK K F) l k → Paired (RK K F) (mergeK l m) (mergeS k n)
  | _, _, _, _, .nil, h => h
  | p :: m, q :: n, l, k, .cons r t, h => by
    have z := rk_put (k := p.1) r.2 h
    have e : q.1 = p.1 := r.1.symm
    show Paired _ (mergeK (putK l p.1 p.2) m) (mergeS (putS k q.1 q.2) n)
    rw [e]
    exact rk_merge t z
theorem we_disp {trs : List (TE × TE)} (h : ∀ p, p ∉ dm Ls → WPairs K trs Γ (Ls ++ [(p, .dK [])]) fun qs L2 => ∃ (kvs : List (Key × SV)) (L3 : Sto), qs = kvs.map (fun kv => (.dat (kD kv.1), kv.2)) ∧ kvs.length ≤ 15 ∧ Chg L2 p (.dK []) (.dK (mergeS [] kvs)) L3 ∧ P (.own p) L3) : WE K (tDisp trs) Γ Ls P := fun F H σ hh hg Q c p hp => by
  obtain ⟨g0, hh0⟩ := go_owned (o := .dK []) (d := .dK []) hh hp .nil
  refine h p (hh.fresh hp).2 F _ σ hh0 hg _ fun F2 H2 ps qs L2 ⟨kvs, L3, e, hl, hc, p1⟩ g2 hh2 r2 => ?_
  subst e
  obtain ⟨_, ho, e, ro⟩ := hh2.own p _ hc.mem
  have e0 : H2 p = some (.dK []) := by
    cases ho <;> first | exact ro.elim | skip
    rename_i l
    cases (show Paired (RK K F2) l [] from ro)
    exact e
  have conv : ∀ {kvs : List (Key × SV)} {ps : List (V × V)}, Paired (fun p q => RV K F2 p.1 q.1 ∧ RV K F2 p.2 q.2) ps (kvs.map fun kv => (SV.dat (kD kv.1), kv.2)) → ∃ l : List (Key × V), ps = l.map (fun kv => (kV kv.1, kv.2)) ∧ Paired (RK K F2) l kvs := by
    intro kvs
    induction kvs with
    | nil => intro ps h; cases h; exact ⟨[], rfl, .nil⟩
    | cons kv r ih =>
      intro ps h
      cases h with
      | @cons a b l1 l2 h1 h2 =>
        obtain ⟨l, e, q⟩ := ih h2
        refine ⟨(kv.1, a.2) :: l, ?_, .cons ⟨rfl, h1.2⟩ q⟩
        have z : a.1 = kV kv.1 := rv_key h1.1
        rw [List.map_cons, ← e, ← z]
  obtain ⟨l, rfl, rl⟩ := conv r2
  refine ⟨e0, l, rfl, by rw [rl.length]; exact hl, ?_⟩
  obtain ⟨g3, hh3⟩ := go_chg (ho := .dK (mergeK [] l)) hh2 hc (rk_merge rl .nil)
  exact c F2 _ (.ref p) (.own p) L3 p1 ((g0.trans g2).trans g3) hh3 rfl

/-! ### methods -/
variable {t : TA}
theorem we_bmL {r : V → List V → Hp → VK → Prop} (h : WE K te Γ Ls fun x L1 => (∃ xs, IsL L1 x xs) ∧ WA K t Γ L1 fun ys L2 => Wm K r x ys L2 P) : WE K (tBM K "list" r te t) Γ Ls P := fun F H σ hh hg Q c =>
  h F H σ hh hg _ fun F1 H1 v x L1 ⟨⟨xs, hx⟩, h1⟩ g1 hh1 r1 => by
    obtain ⟨a, vs, rfl, hs, _⟩ := hx.get hh1 r1
    exact ⟨.inl ⟨rfl, vs, hs⟩, h1 F1 H1 σ hh1 (hg.mono g1.sF) _ fun F2 H2 us ys L2 h2 g2 hh2 r2 => h2 F2 H2 _ us hh2 (r1.mono g2.sF) r2 Q ((c.after g1).after g2)⟩
theorem we_bmL0 {r : V → List V → Hp → VK → Prop} (h : WE K te Γ Ls fun x L1 => (∃ xs, IsL L1 x xs) ∧ Wm K r x [] L1 P) : WE K (tBM0 K "list" r te) Γ Ls P := fun F H σ hh hg Q c =>
  h F H σ hh hg _ fun F1 H1 v x L1 ⟨⟨xs, hx⟩, h1⟩ g1 hh1 r1 => by
    obtain ⟨a, vs, rfl, hs, _⟩ := hx.get hh1 r1
    exact ⟨.inl ⟨rfl, vs, hs⟩, h1 F1 H1 _ [] hh1 r1 .nil Q (c.after g1)⟩
/-- a change of an owned list -/
theorem own_lst {p : Addr} {xs ys : List SV} (hh : Hold K F H Ls) (hc : Chg Ls p (.lst xs) (.lst ys) L') : ∃ l, H p = some (.lst l) ∧ Paired (RV K F) l xs ∧ ∀ l', Paired (RV K F) l' ys → Go (dm Ls) F H (dm L') F (upd H p (.lst l')) ∧ Hold K F (upd H p (.lst l')) L' := by
  obtain ⟨_, ho, e, ro⟩ := hh.own p _ hc.mem
  cases ho <;> first | exact ro.elim | skip
  rename_i l
  exact ⟨l, e, ro, fun l' r => go_chg (ho := .lst l') hh hc r⟩
theorem wm_append {p : Addr} {xs : List SV} (hl : xs.length < sizeLine) (hc : Chg Ls p (.lst xs) (.lst (xs ++ [y])) L') (q : P dN L') : Wm K rAppend (.own p) [y] Ls P := fun F H v vs hh r1 r2 Q c => by
  obtain ⟨l, e, ro, go⟩ := own_lst hh hc
  cases r2 with
  | cons r3 r4 =>
    cases r4
    obtain ⟨g, h2⟩ := go _ (paired_app ro (.cons r3 .nil))
    exact ⟨p, l, _, r1, rfl, e, by rw [ro.length]; exact hl, c F _ _ dN L' q g h2 Dt.non⟩
theorem wm_extend {p : Addr} {xs ys : List SV} (hy : IsO Ls y ys) (hl : xs.length + ys.length ≤ sizeLine) (hc : Chg Ls p (.lst xs) (.lst (xs ++ ys)) L') (q : P dN L') : Wm K rExtend (.own p) [y] Ls P := fun F H v vs hh r1 r2 Q c => by
  obtain ⟨l, e, ro, go⟩ := own_lst hh hc
  cases r2 with
  | cons r3 r4 =>
    cases r4
    obtain ⟨b, zs, rfl, hb, rz⟩ := hy.get hh r3
    obtain ⟨g, h2⟩ := go _ (paired_app ro rz)
    exact ⟨p, b, l, zs, r1, rfl, e, hb, by rw [ro.length, rz.length]; exact hl, c F _ _ dN L' q g h2 Dt.non⟩
theorem wm_pop {p : Addr} {xs : List SV} {sv : SV} (hi : xs[xs.length - 1]? = some sv) (hc : Chg Ls p (.lst xs) (.lst xs.dropLast) L') (q : P sv L') : Wm K rPop (.own p) [] Ls P := fun F H v vs hh r1 r2 Q c => by
  obtain ⟨l, e, ro, go⟩ := own_lst hh hc
  cases r2
  obtain ⟨w, hw, rw'⟩ := paired_get ro hi
  obtain ⟨g, h2⟩ := go _ (paired_dropLast ro)
  exact ⟨p, l, w, r1, rfl, e, by rw [ro.length]; exact hw, c F _ _ sv L' q g h2 rw'⟩
theorem wm_popAt {p : Addr} {xs : List SV} {sv : SV} {i : Int} {k : Nat} (h1 : -(2 ^ 63) ≤ i) (h2 : i < 2 ^ 63) (h3 : seqIndex? i xs.length = some k) (hi : xs[k]? = some sv) (hc : Chg Ls p (.lst xs) (.lst (xs.eraseIdx k)) L') (q : P sv L') : Wm K rPopAt (.own p) [dI i] Ls P := fun F H v vs hh r1 r2 Q c => by
  obtain ⟨l, e, ro, go⟩ := own_lst hh hc
  cases r2 with
  | cons r3 r4 =>
    cases r4
    obtain ⟨w, hw, rw'⟩ := paired_get ro hi
    obtain ⟨g, h5⟩ := go _ (paired_erase k ro)
    exact ⟨p, l, i, k, w, r1, by rw [Dt.inv_int r3], e, h1, h2, by rw [ro.length]; exact h3, hw, c F _ _ sv L' q g h5 rw'⟩
theorem wm_reverse {p : Addr} {xs : List SV} (hc : Chg Ls p (.lst xs) (.lst xs.reverse) L') (q : P dN L') : Wm K rReverse (.own p) [] Ls P := fun F H v vs hh r1 r2 Q c => by
  obtain ⟨l, e, ro, go⟩ := own_lst hh hc
  cases r2
  obtain ⟨g, h2⟩ := go _ (paired_rev ro)
  exact ⟨p, l, r1, rfl, e, c F _ _ dN L' q g h2 Dt.non⟩
theorem wm_clear {p : Addr} {xs : List SV} (hc : Chg Ls p (.lst xs) (.lst []) L') (q : P dN L') : Wm K rClear (.own p) [] Ls P := fun F H v vs hh r1 r2 Q c => by
  obtain ⟨l, e, ro, go⟩ := own_lst hh hc
  cases r2
  obtain ⟨g, h2⟩ := go [] .nil
  exact ⟨p, l, r1, rfl, e, c F _ _ dN L' q g h2 Dt.non⟩
/-- texts -/
theorem starts_eq (a b : List Nat) : Txt.startswith (S a) (S b) = b.isPrefixOf a := by
  unfold Txt.startswith
  rw [PySem.StrLaws.subAt_eq, S_cps, S_cps, S_len, S_len, List.drop_zero, Nat.zero_add]
  apply Bool.eq_iff_iff.mpr
  rw [Bool.and_eq_true, decide_eq_true_eq, beq_iff_eq, List.isPrefixOf_iff_prefix]
  constructor
  · rintro ⟨h1, h2⟩
    exact List.prefix_iff_eq_take.mpr h2.symm
  · intro h
    exact ⟨h.length_le, (List.prefix_iff_eq_take.mp h).symm⟩
theorem wm_starts {a b : List Nat} (p : P (dB (b.isPrefixOf a)) Ls) : Wm K (fun x xs H Q => ∃ a b, x = .str a ∧ xs = [.str b] ∧ Q (.bl (Txt.startswith a b)) H) (dS a) [dS b] Ls P := fun F H v vs hh r1 r2 Q c => by
  cases r2 with
  | cons r3 r4 =>
    cases r4
    refine ⟨S a, S b, Dt.inv_str r1, by rw [Dt.inv_str r3], ?_⟩
    rw [starts_eq]
    exact c.now (sv := dB _) hh (Dt.bl _) p
theorem rvs_strs : ∀ {ts : List (List Nat)} {vs : List V}, Paired (RV K F) vs (ts.map dS) → vs = (ts.map S).map V.str
  | [], _, h => by cases h; rfl
  | t :: ts, _, h => by
    cases h with
    | cons h1 h2 => rw [Dt.inv_str h1, rvs_strs h2]; rfl
theorem rvs_ints : ∀ {ts : List Int} {vs : List V}, Paired (RV K F) vs (ts.map dI) → vs = ts.map V.int
  | [], _, h => by cases h; rfl
  | t :: ts, _, h => by
    cases h with
    | cons h1 h2 => rw [Dt.inv_int h1, rvs_ints h2]; rfl
theorem rvs_bls : ∀ {ts : List Bool} {vs : List V}, Paired (RV K F) vs (ts.map dB) → vs = ts.map V.bl
  | [], _, h => by cases h; rfl
  | t :: ts, _, h => by
    cases h with
    | cons h1 h2 => rw [Dt.inv_bl h1, rvs_bls h2]; rfl
theorem foldl_cat (acc : Array Nat) : ∀ ts : List (List Nat), (ts.map S).foldl (fun acc p => acc ++ (Str.empty).cps ++ p.cps) acc = acc ++ (ts.flatten).toArray
  | [] => by simp
  | t :: ts => by
    rw [List.map_cons, List.foldl_cons, foldl_cat _ ts]
    simp [S, Str.empty]
theorem join_nil (ts : List (List Nat)) : Txt.join (S []) (ts.map S) = S ts.flatten := by
  unfold Txt.join Builtin.Str.glued
  cases ts with
  | nil => rfl
  | cons t r =>
    have z : (List.drop 1 (List.map S (t :: r))) = r.map S := rfl
    have z2 : (List.map S (t :: r)).headD Str.empty = S t := rfl
    rw [z, z2]
    have := foldl_cat (S t).cps r
    have e : (S []).cps = Str.empty.cps := rfl
    rw [e, this]
    simp [S]
theorem wm_join {y : SV} {ts : List (List Nat)} (hy : IsL Ls y (ts.map dS)) (hl : (ts.map (·.length)).sum ≤ 16777216) (p : P (dS ts.flatten) Ls) :
    Wm K (fun x xs H Q => ∃ a p, ∃ ys : List Str, x = .str a ∧ xs = [.ref p] ∧ (SqL K H p (ys.map V.str) ∨ SqT K H p (ys.map V.str)) ∧ (ys.map (·.length)).sum + ys.length * a.length ≤ 16777216 ∧ Q (.str (Txt.join a ys)) H) (dS []) [y] Ls P := fun F H v vs hh r1 r2 Q c => by
  cases r2 with
  | cons r3 r4 =>
    cases r4
    obtain ⟨a, us, rfl, hs, rs⟩ := hy.get hh r3
    rw [rvs_strs rs] at hs
    refine ⟨S [], a, ts.map S, Dt.inv_str r1, rfl, .inl hs, ?_, ?_⟩
    · rw [List.map_map, S_len, show ((fun x : Str => x.length) ∘ S) = List.length from funext S_len]
      simpa using hl
    · rw [join_nil]
      exact c.now (sv := dS _) hh (Dt.str _) p

/-! ### built-ins -/
theorem wn_len {xs : List SV} (hx : IsL Ls x xs) (p : P (dI xs.length) Ls) : Wn K (fun xs H Q => ∃ p ys, xs = [.ref p] ∧ (SqL K H p ys ∨ SqT K H p ys) ∧ Q (.int ys.length) H) [x] Ls P := fun F H vs hh r Q c => by
  cases r with
  | cons r3 r4 =>
    cases r4
    obtain ⟨a, us, rfl, hs, rs⟩ := hx.get hh r3
    refine ⟨a, us, rfl, .inl hs, ?_⟩
    rw [rs.length]
    exact c.now (sv := dI _) hh (Dt.int _) p
theorem wn_lenT {xs : List SV} (hx : IsT x xs) (p : P (dI xs.length) Ls) : Wn K (fun xs H Q => ∃ p ys, xs = [.ref p] ∧ (SqL K H p ys ∨ SqT K H p ys) ∧ Q (.int ys.length) H) [x] Ls P := fun F H vs hh r Q c => by
  cases r with
  | cons r3 r4 =>
    cases r4
    obtain ⟨a, us, rfl, hs, rs⟩ := hx.get hh r3
    refine ⟨a, us, rfl, .inr hs, ?_⟩
    rw [rs.length]
    exact c.now (sv := dI _) hh (Dt.int _) p
theorem wn_lenS {t : List Nat} (hl : t.length ≤ sizeLine) (p : P (dI t.length) Ls) : Wn K (fun xs H Q => ∃ z, xs = [.str z] ∧ z.length ≤ sizeLine ∧ Q (.int z.length) H) [dS t] Ls P := fun F H vs hh r Q c => by
  cases r with
  | cons r3 r4 =>
    cases r4
    refine ⟨S t, by rw [Dt.inv_str r3], by rw [S_len]; exact hl, ?_⟩
    rw [S_len]
    exact c.now (sv := dI _) hh (Dt.int _) p
theorem wn_list {xs : List SV} (hx : IsL Ls x xs ∨ IsT x xs) (p : ∀ q, q ∉ dm Ls → P (.own q) (Ls ++ [(q, .lst xs)])) : Wn K (fun xs H Q => ∃ p ys, xs = [.ref p] ∧ (SqL K H p ys ∨ SqT K H p ys) ∧ ∀ l, H l = none → Q (.ref l) (upd H l (.lst ys))) [x] Ls P := fun F H vs hh r Q c => by
  cases r with
  | cons r3 r4 =>
    cases r4
    rcases hx with hx | hx
    · obtain ⟨a, us, rfl, hs, rs⟩ := hx.get hh r3
      exact ⟨a, us, rfl, .inl hs, cont_owned hh c (d := .lst xs) rs p⟩
    · obtain ⟨a, us, rfl, hs, rs⟩ := hx.get hh r3
      exact ⟨a, us, rfl, .inr hs, cont_owned hh c (d := .lst xs) rs p⟩
theorem wn_listD {p : Addr} {kvs : List (Key × SV)} (hm : (p, .dK kvs) ∈ Ls) (q : P (.dat (.list (kvs.map fun kv => kD kv.1))) Ls) : Wn K rListD [.own p] Ls P := fun F H vs hh r Q c => by
  cases r with
  | cons r3 r4 =>
    cases r4
    obtain ⟨_, ho, e, ro⟩ := hh.own p _ hm
    cases (show _ = V.ref p from r3)
    cases ho <;> first | exact ro.elim | skip
    rename_i l
    have ro : Paired (RK K F) l kvs := ro
    have e1 : l.map (fun kv => kV kv.1) = (kvs.map (·.1)).map kV := by
      rw [← rk_keys ro, List.map_map]; rfl
    refine ⟨p, l, rfl, e, cont_frozen (sv := .dat (.list (kvs.map fun kv => kD kv.1))) hh c (fun q hq => Dt.lst upd_same ?_) q⟩
    rw [e1, show kvs.map (fun kv => kD kv.1) = (kvs.map (·.1)).map kD by rw [List.map_map]; rfl]
    exact kd_all _
end
end OL

/-! OL4: loops, comprehensions. -/
namespace OL
open PySem PySem.Spec PyProof.Rows L2
section
variable {K : PySem.W.Frag} {F F' H H' : Hp} {Ls L' : Sto} {Γ : Gm} {P : SV → Sto → Prop} {Q : VK} {E : PEnds} {D : Ends} {x y : SV} {ta tb tc te tl : TE} {g : TG} {t : TS}
/-- what is walked: its items, while St holds -/
structure JOk (K : PySem.W.Frag) (J : It) (items : List SV) (St : Sto → Prop) (F0 : Hp) : Prop where
  go : ∀ F H Ls i, Same F0 F → Hold K F H Ls → St Ls → i < items.length → J.go i H
  stop : ∀ F H Ls i, Same F0 F → Hold K F H Ls → St Ls → items.length ≤ i → J.stop i H
  yld : ∀ F H Ls i sv, Same F0 F → Hold K F H Ls → St Ls → items[i]? = some sv → ∀ x H', J.yld i H x H' → ∃ F', Go (dm Ls) F H (dm Ls) F' H' ∧ Hold K F' H' Ls ∧ RV K F' x sv
def WI (K : PySem.W.Frag) (wi : TI) (Γ : Gm) (Ls : Sto) (R : List SV → (Sto → Prop) → Sto → Prop) : Prop :=
  ∀ F H σ, Hold K F H Ls → RG K F σ Γ → ∀ RR : It → Hp → Prop, (∀ F' H' J items St L', R items St L' → Go (dm Ls) F H (dm L') F' H' → Hold K F' H' L' → JOk K J items St F' → RR J H') → wi σ H RR
theorem WE.mono {P' : SV → Sto → Prop} (h : WE K te Γ Ls P) (m : ∀ sv L, P sv L → P' sv L) : WE K te Γ Ls P' := fun F H σ hh hg Q c => h F H σ hh hg Q fun F' H' v sv L p => c F' H' v sv L (m sv L p)
theorem WA.mono {ta : TA} {P P' : List SV → Sto → Prop} (h : WA K ta Γ Ls P) (m : ∀ sv L, P sv L → P' sv L) : WA K ta Γ Ls P' := fun F H σ hh hg Q c => h F H σ hh hg Q fun F' H' v sv L p => c F' H' v sv L (m sv L p)
theorem WT.mono {tt : TT} {P P' : Bool → Sto → Prop} (h : WT K tt Γ Ls P) (m : ∀ b L, P b L → P' b L) : WT K tt Γ Ls P' := fun F H σ hh hg Q c => h F H σ hh hg Q fun F' H' b L p => c F' H' b L (m b L p)
theorem WG.mono {P P' : Gm → Sto → Prop} (h : WG K g x Γ Ls P) (m : ∀ Γ L, P Γ L → P' Γ L) : WG K g x Γ Ls P' := fun F H σ v hh hg r Q c => h F H σ v hh hg r Q fun F' H' σ' Γ' L p => c F' H' σ' Γ' L (m Γ' L p)
theorem WI.mono {wi : TI} {R R' : List SV → (Sto → Prop) → Sto → Prop} (h : WI K wi Γ Ls R) (m : ∀ i S L, R i S L → R' i S L) : WI K wi Γ Ls R' := fun F H σ hh hg RR c => h F H σ hh hg RR fun F' H' J i S L p => c F' H' J i S L (m i S L p)
theorem WS.mono {E' : PEnds} (h : WS K t Γ Ls E) (m1 : ∀ Γ L, E.nx Γ L → E'.nx Γ L) (m2 : ∀ sv L, E.rt sv L → E'.rt sv L) (m3 : ∀ Γ L, E.bk Γ L → E'.bk Γ L) (m4 : ∀ Γ L, E.ct Γ L → E'.ct Γ L) : WS K t Γ Ls E' := fun F H σ hh hg D e =>
  h F H σ hh hg D ⟨fun F' H' σ' Γ' L p => e.nx F' H' σ' Γ' L (m1 _ _ p), fun F' H' v sv L p => e.rt F' H' v sv L (m2 _ _ p), fun F' H' σ' Γ' L p => e.bk F' H' σ' Γ' L (m3 _ _ p), fun F' H' σ' Γ' L p => e.ct F' H' σ' Γ' L (m4 _ _ p)⟩
theorem wi_list {R : List SV → (Sto → Prop) → Sto → Prop} (h : WE K tl Γ Ls fun x L1 => ∃ xs, IsL L1 x xs ∧ R xs (fun L => IsL L x xs) L1) : WI K (iList K tl) Γ Ls R := fun F H σ hh hg RR c =>
  h F H σ hh hg _ fun F1 H1 v x L1 ⟨xs, hx, hR⟩ g1 hh1 r1 => by
    obtain ⟨a, vs, rfl, hs, rs⟩ := hx.get hh1 r1
    refine ⟨a, rfl, ⟨vs, hs⟩, c F1 H1 _ xs _ L1 hR g1 hh1 ⟨fun F H L i sF hh st hi => ?_, fun F H L i sF hh st hi => ?_, fun F H L i sv sF hh st hi z H' hy => ?_⟩⟩
    · obtain ⟨a', vs, e, hs, rs⟩ := IsL.get st hh (r1.mono sF)
      cases e
      obtain ⟨w, hw, _⟩ := paired_get rs (List.getElem?_eq_getElem hi)
      exact ⟨vs, w, hs, hw⟩
    · obtain ⟨a', vs, e, hs, rs⟩ := IsL.get st hh (r1.mono sF)
      cases e
      exact ⟨vs, hs, by rw [rs.length]; exact hi⟩
    · obtain ⟨a', vs, e, hs, rs⟩ := IsL.get st hh (r1.mono sF)
      cases e
      obtain ⟨w, hw, rw'⟩ := paired_get rs hi
      obtain ⟨rfl, hz⟩ := hy
      have := (hz vs hs).symm.trans hw
      cases this
      exact ⟨F, Go.refl, hh, rw'⟩
theorem wi_tup {R : List SV → (Sto → Prop) → Sto → Prop} (h : WE K tl Γ Ls fun x L1 => ∃ xs, IsT x xs ∧ R xs (fun _ => True) L1) : WI K (iTup K tl) Γ Ls R := fun F H σ hh hg RR c =>
  h F H σ hh hg _ fun F1 H1 v x L1 ⟨xs, hx, hR⟩ g1 hh1 r1 => by
    obtain ⟨a, vs, rfl, hs, rs⟩ := hx.get hh1 r1
    refine ⟨a, rfl, ⟨vs, hs⟩, c F1 H1 _ xs _ L1 hR g1 hh1 ⟨fun F H L i sF hh st hi => ?_, fun F H L i sF hh st hi => ?_, fun F H L i sv sF hh st hi z H' hy => ?_⟩⟩
    · obtain ⟨a', vs, e, hs, rs⟩ := IsT.get hx hh (r1.mono sF)
      cases e
      obtain ⟨w, hw, _⟩ := paired_get rs (List.getElem?_eq_getElem hi)
      exact ⟨vs, w, hs, hw⟩
    · obtain ⟨a', vs, e, hs, rs⟩ := IsT.get hx hh (r1.mono sF)
      cases e
      exact ⟨vs, hs, by rw [rs.length]; exact hi⟩
    · obtain ⟨a', vs, e, hs, rs⟩ := IsT.get hx hh (r1.mono sF)
      cases e
      obtain ⟨w, hw, rw'⟩ := paired_get rs hi
      obtain ⟨rfl, hz⟩ := hy
      have := (hz vs hs).symm.trans hw
      cases this
      exact ⟨F, Go.refl, hh, rw'⟩
theorem jok_rng (lo : Int) (n : Nat) : JOk K (Itr lo n) ((List.range n).map fun k : Nat => dI (lo + (k : Int))) (fun _ => True) F := by
  refine ⟨fun F H L i sF hh st hi => ?_, fun F H L i sF hh st hi => ?_, fun F H L i sv sF hh st hi z H' hy => ?_⟩
  · show i < n
    simpa using hi
  · show n ≤ i
    simpa using hi
  · obtain ⟨rfl, rfl⟩ := hy
    rw [List.getElem?_map] at hi
    cases e : (List.range n)[i]? with
    | none => rw [e] at hi; cases hi
    | some k =>
      rw [e] at hi
      cases hi
      have : k = i := by
        have := List.getElem?_eq_some_iff.mp e
        simpa using this.2.symm
      subst this
      exact ⟨F, Go.refl, hh, Dt.int _⟩
theorem wi_rng1 {ta : TA} {R : List SV → (Sto → Prop) → Sto → Prop} (h : WA K ta Γ Ls fun xs L1 => ∃ j : Int, xs = [dI j] ∧ (-(2 ^ 62) ≤ j ∧ j < 2 ^ 62) ∧ R ((List.range j.toNat).map fun k : Nat => dI ((0 : Int) + (k : Int))) (fun _ => True) L1) : WI K (iRng1 ta) Γ Ls R := fun F H σ hh hg RR c =>
  h F H σ hh hg _ fun F1 H1 vs xs L1 ⟨j, e, ⟨b1, b2⟩, hR⟩ g1 hh1 r1 => by
    subst e
    cases r1 with
    | cons r3 r4 =>
      cases r4
      exact ⟨j, by rw [Dt.inv_int r3], b1, b2, c F1 H1 _ _ _ L1 hR g1 hh1 (jok_rng 0 _)⟩
theorem wi_rng2 {ta : TA} {R : List SV → (Sto → Prop) → Sto → Prop} (h : WA K ta Γ Ls fun xs L1 => ∃ i j : Int, xs = [dI i, dI j] ∧ (-(2 ^ 62) ≤ i ∧ i < 2 ^ 62 ∧ -(2 ^ 62) ≤ j ∧ j < 2 ^ 62) ∧ R ((List.range (j - i).toNat).map fun k : Nat => dI (i + (k : Int))) (fun _ => True) L1) : WI K (iRng2 ta) Γ Ls R := fun F H σ hh hg RR c =>
  h F H σ hh hg _ fun F1 H1 vs xs L1 ⟨i, j, e, b, hR⟩ g1 hh1 r1 => by
    subst e
    cases r1 with
    | cons r3 r4 =>
      cases r4 with
      | cons r5 r6 =>
        cases r6
        exact ⟨i, j, by rw [Dt.inv_int r3, Dt.inv_int r5], b, c F1 H1 _ _ _ L1 hR g1 hh1 (jok_rng i _)⟩
theorem seqL_inj {F H : Hp} {a : Addr} {vs ws : List V} (h1 : H a = some (.lst vs)) (h2 : H a = some (.lst ws)) : vs = ws := by
  rw [h1] at h2; cases h2; rfl
/-- enumerate(a list of data), zip of two such -/
theorem wi_enum {ta : TA} {R : List SV → (Sto → Prop) → Sto → Prop} (h : WA K ta Γ Ls fun xs L1 => ∃ (x : SV) (ds : List PyData), xs = [x] ∧ IsL L1 x (ds.map .dat) ∧ R (ds.zipIdx.map fun p => .dat (.tuple [.int (p.2 : Int), p.1])) (fun L => IsL L x (ds.map .dat)) L1) : WI K (iEnum K ta) Γ Ls R := fun F H σ hh hg RR c =>
  h F H σ hh hg _ fun F1 H1 vs xs L1 ⟨x, ds, e, hx, hR⟩ g1 hh1 r1 => by
    subst e
    cases r1 with
    | cons r3 r4 =>
      cases r4
      obtain ⟨a, us, rfl, hs, rs⟩ := hx.get hh1 r3
      refine ⟨a, us, rfl, hs, c F1 H1 _ _ _ L1 hR g1 hh1 ⟨fun F H L i sF hh st hi => ?_, fun F H L i sF hh st hi => ?_, fun F H L i sv sF hh st hi z H' hy => ?_⟩⟩
      · obtain ⟨a', vs, e, hs, rs⟩ := IsL.get st hh (RV.mono sF r3)
        cases e
        have hi : i < vs.length := by rw [rs.length]; simpa using hi
        exact ⟨vs, vs[i], hs, List.getElem?_eq_getElem hi⟩
      · obtain ⟨a', vs, e, hs, rs⟩ := IsL.get st hh (RV.mono sF r3)
        cases e
        exact ⟨vs, hs, by rw [rs.length]; simpa using hi⟩
      · obtain ⟨a', vs, e, hs, rs⟩ := IsL.get st hh (RV.mono sF r3)
        cases e
        obtain ⟨T, w, rfl, hT, rfl, hz⟩ := hy
        rw [List.getElem?_map, List.getElem?_zipIdx] at hi
        cases e : ds[i]? with
        | none => rw [e] at hi; cases hi
        | some d =>
          rw [e] at hi
          cases hi
          obtain ⟨w', hw, rw'⟩ := paired_get rs (show (ds.map SV.dat)[i]? = some (.dat d) by rw [List.getElem?_map, e]; rfl)
          have := (hz vs hs).symm.trans hw
          cases this
          obtain ⟨g, h2⟩ := go_frozen (o := .tup [.int (i : Nat), w]) hh hT
          refine ⟨_, g, h2, Dt.tup upd_same (.cons ?_ (.cons (Dt.mono (same_new (hh.fresh hT).1) rw') .nil))⟩
          simp
          exact Dt.int _
theorem wi_zip {ta : TA} {R : List SV → (Sto → Prop) → Sto → Prop} (h : WA K ta Γ Ls fun xs L1 => ∃ (x y : SV) (ds es : List PyData), xs = [x, y] ∧ IsL L1 x (ds.map .dat) ∧ IsL L1 y (es.map .dat) ∧ R ((ds.zip es).map fun p => .dat (.tuple [p.1, p.2])) (fun L => IsL L x (ds.map .dat) ∧ IsL L y (es.map .dat)) L1) : WI K (iZip K ta) Γ Ls R := fun F H σ hh hg RR c =>
  h F H σ hh hg _ fun F1 H1 vs xs L1 ⟨x, y, ds, es, e, hx, hy, hR⟩ g1 hh1 r1 => by
    subst e
    cases r1 with
    | cons r3 r4 =>
      cases r4 with
      | cons r5 r6 =>
        cases r6
        obtain ⟨a, us, rfl, hs, rs⟩ := hx.get hh1 r3
        obtain ⟨b, ws, rfl, ht, rt⟩ := hy.get hh1 r5
        refine ⟨a, b, us, ws, rfl, hs, ht, c F1 H1 _ _ _ L1 hR g1 hh1 ⟨fun F H L i sF hh st hi => ?_, fun F H L i sF hh st hi => ?_, fun F H L i sv sF hh st hi z H' hy => ?_⟩⟩
        · obtain ⟨a', vs, e, hs, rs⟩ := IsL.get st.1 hh (RV.mono sF r3)
          cases e
          obtain ⟨b', ws, e, ht, rt⟩ := IsL.get st.2 hh (RV.mono sF r5)
          cases e
          rw [List.length_map, List.length_zip] at hi
          have h1 : i < vs.length := by rw [rs.length, List.length_map]; omega
          have h2 : i < ws.length := by rw [rt.length, List.length_map]; omega
          exact ⟨vs, ws, vs[i], ws[i], hs, ht, List.getElem?_eq_getElem h1, List.getElem?_eq_getElem h2⟩
        · obtain ⟨a', vs, e, hs, rs⟩ := IsL.get st.1 hh (RV.mono sF r3)
          cases e
          obtain ⟨b', ws, e, ht, rt⟩ := IsL.get st.2 hh (RV.mono sF r5)
          cases e
          rw [List.length_map, List.length_zip] at hi
          refine ⟨vs, ws, hs, ht, ?_⟩
          rw [rs.length, rt.length, List.length_map, List.length_map]
          omega
        · obtain ⟨a', vs, e, hs, rs⟩ := IsL.get st.1 hh (RV.mono sF r3)
          cases e
          obtain ⟨b', ws, e, ht, rt⟩ := IsL.get st.2 hh (RV.mono sF r5)
          cases e
          obtain ⟨T, w, u, rfl, hT, rfl, hz, hz2⟩ := hy
          rw [List.getElem?_map] at hi
          cases e : (ds.zip es)[i]? with
          | none => rw [e] at hi; cases hi
          | some p =>
            rw [e] at hi
            cases hi
            have q := List.getElem?_zip_eq_some.mp e
            obtain ⟨w', hw, rw'⟩ := paired_get rs (show (ds.map SV.dat)[i]? = some (.dat p.1) by rw [List.getElem?_map, q.1]; rfl)
            obtain ⟨u', hu, ru'⟩ := paired_get rt (show (es.map SV.dat)[i]? = some (.dat p.2) by rw [List.getElem?_map, q.2]; rfl)
            have := (hz vs hs).symm.trans hw
            cases this
            have := (hz2 ws ht).symm.trans hu
            cases this
            obtain ⟨g, h2⟩ := go_frozen (o := .tup [w, u]) hh hT
            exact ⟨_, g, h2, Dt.tup upd_same (.cons (Dt.mono (same_new (hh.fresh hT).1) rw') (.cons (Dt.mono (same_new (hh.fresh hT).1) ru') .nil))⟩
theorem wi_str {R : List SV → (Sto → Prop) → Sto → Prop} (h : WE K tl Γ Ls fun x L1 => ∃ t, x = dS t ∧ R (t.map fun c => dS [c]) (fun _ => True) L1) : WI K (iStr tl) Γ Ls R := fun F H σ hh hg RR c =>
  h F H σ hh hg _ fun F1 H1 v x L1 ⟨t, e, hR⟩ g1 hh1 r1 => by
    subst e
    refine ⟨S t, Dt.inv_str r1, c F1 H1 _ _ _ L1 hR g1 hh1 ⟨fun F H L i sF hh st hi => ?_, fun F H L i sF hh st hi => ?_, fun F H L i sv sF hh st hi z H' hy => ?_⟩⟩
    · show i < (S t).cps.size
      simpa [S] using hi
    · show (S t).cps.size ≤ i
      simpa [S] using hi
    · obtain ⟨rfl, k, hk, rfl⟩ := hy
      rw [List.getElem?_map] at hi
      have hk : t[i]? = some k := by simpa [S] using hk
      rw [hk] at hi
      cases hi
      exact ⟨F, Go.refl, hh, Dt.str _⟩
/-- for: I by what was walked -/
theorem ws_for {β : Type} {wi : TI} {tb : TS} (f : β → SV)
    (h : WI K wi Γ Ls fun items St L1 => ∃ (bs : List β) (I : List β → Gm → Sto → Prop), items = bs.map f ∧ I [] Γ L1 ∧
      (∀ pre b post Γ' L', bs = pre ++ b :: post → I pre Γ' L' → St L' ∧ WG K g (f b) Γ' L' fun Γ2 L2 => WS K tb Γ2 L2 { nx := I (pre ++ [b]), rt := E.rt, bk := E.nx, ct := I (pre ++ [b]) }) ∧
      (∀ Γ' L', I bs Γ' L' → St L' ∧ E.nx Γ' L')) : WS K (tFor wi g tb) Γ Ls E := fun F H σ hh hg D e =>
  h F H σ hh hg _ fun F1 H1 J items St L1 ⟨bs, I, ei, h0, hs, hd⟩ g1 hh1 jok => by
    subst ei
    refine ⟨fun i m σ H2 => ∃ F2 Γ2 L2, I (bs.take i) Γ2 L2 ∧ Go (dm Ls) F H (dm L2) F2 H2 ∧ Hold K F2 H2 L2 ∧ RG K F2 σ Γ2 ∧ Same F1 F2 ∧ m = bs.length - i ∧ i ≤ bs.length,
      ⟨bs.length, F1, Γ, L1, by simpa using h0, g1, hh1, hg.mono g1.sF, Same.refl _, by simp, Nat.zero_le _⟩, ?_⟩
    rintro i m σ2 H2 ⟨F2, Γ2, L2, hI, g2, hh2, hg2, s2, rfl, hi⟩
    by_cases hlt : i < bs.length
    · have e0 : bs = bs.take i ++ bs[i] :: bs.drop (i + 1) := by
        rw [List.getElem_cons_drop, List.take_append_drop]
      have e1 : bs.take (i + 1) = bs.take i ++ [bs[i]] := by rw [List.take_add_one, List.getElem?_eq_getElem hlt]; rfl
      obtain ⟨st, hw⟩ := hs _ _ _ Γ2 L2 e0 hI
      refine .inr ⟨jok.go F2 H2 L2 i s2 hh2 st (by simpa using hlt), fun σ3 H3 => ∃ F3 Γ3 L3, I (bs.take i ++ [bs[i]]) Γ3 L3 ∧ Go (dm Ls) F H (dm L3) F3 H3 ∧ Hold K F3 H3 L3 ∧ RG K F3 σ3 Γ3 ∧ Same F1 F3, fun σ3 H3 ⟨F3, Γ3, L3, a1, a2, a3, a4, a5⟩ => ⟨bs.length - (i + 1), by omega, F3, Γ3, L3, by rw [e1]; exact a1, a2, a3, a4, a5, rfl, hlt⟩, fun z H3 hy => ?_⟩
      obtain ⟨F3, g3, hh3, r3⟩ := jok.yld F2 H2 L2 i (f bs[i]) s2 hh2 st (by rw [List.getElem?_map, List.getElem?_eq_getElem hlt]; rfl) z H3 hy
      refine hw F3 H3 σ2 z hh3 (hg2.mono g3.sF) r3 _ fun F4 H4 σ4 Γ4 L4 p g4 hh4 hg4 => ?_
      have gg := (g2.trans g3).trans g4
      have ss : Same F1 F4 := (s2.trans g3.sF).trans g4.sF
      refine p F4 H4 σ4 hh4 hg4 _ ⟨fun F5 H5 σ5 Γ5 L5 q g5 hh5 hg5 => ⟨F5, Γ5, L5, q, gg.trans g5, hh5, hg5, ss.trans g5.sF⟩, fun F5 H5 v sv L5 q g5 => e.rt F5 H5 v sv L5 q (gg.trans g5), fun F5 H5 σ5 Γ5 L5 q g5 => e.nx F5 H5 σ5 Γ5 L5 q (gg.trans g5), fun F5 H5 σ5 Γ5 L5 q g5 hh5 hg5 => ⟨F5, Γ5, L5, q, gg.trans g5, hh5, hg5, ss.trans g5.sF⟩⟩
    · have hi2 : i = bs.length := by omega
      have ei : bs.take i = bs := List.take_of_length_le (by omega)
      rw [ei] at hI
      obtain ⟨st, p⟩ := hd Γ2 L2 hI
      exact .inl ⟨jok.stop F2 H2 L2 i s2 hh2 st (by simp; omega), e.nx F2 H2 σ2 Γ2 L2 p g2 hh2 hg2⟩
/-- while: I by a number that falls -/
theorem ws_while {c : TT} {tb : TS} (I : Nat → Gm → Sto → Prop) (h0 : ∃ m, I m Γ Ls)
    (hs : ∀ m Γ' L', I m Γ' L' → WT K c Γ' L' fun b L1 => (b = true → WS K tb Γ' L1 { nx := fun Γ2 L2 => ∃ m', m' < m ∧ I m' Γ2 L2, rt := E.rt, bk := E.nx, ct := fun Γ2 L2 => ∃ m', m' < m ∧ I m' Γ2 L2 }) ∧ (b = false → E.nx Γ' L1)) : WS K (tWhile c tb) Γ Ls E := fun F H σ hh hg D e => by
  obtain ⟨m0, i0⟩ := h0
  refine ⟨fun m σ H2 => ∃ F2 Γ2 L2, I m Γ2 L2 ∧ Go (dm Ls) F H (dm L2) F2 H2 ∧ Hold K F2 H2 L2 ∧ RG K F2 σ Γ2, ⟨m0, F, Γ, Ls, i0, Go.refl, hh, hg⟩, ?_⟩
  rintro m σ2 H2 ⟨F2, Γ2, L2, hI, g2, hh2, hg2⟩
  refine hs m Γ2 L2 hI F2 H2 σ2 hh2 hg2 _ fun F3 H3 b L3 p g3 hh3 => ?_
  have gg := g2.trans g3
  cases b with
  | true =>
    refine ⟨fun σ' H' => ∃ m', m' < m ∧ ∃ F4 Γ4 L4, I m' Γ4 L4 ∧ Go (dm Ls) F H (dm L4) F4 H' ∧ Hold K F4 H' L4 ∧ RG K F4 σ' Γ4, fun σ' H' ⟨m', hm, q⟩ => ⟨m', hm, q⟩, ?_⟩
    exact p.1 rfl F3 H3 σ2 hh3 (hg2.mono g3.sF) _ ⟨fun F5 H5 σ5 Γ5 L5 ⟨m', hm, q⟩ g5 hh5 hg5 => ⟨m', hm, F5, Γ5, L5, q, gg.trans g5, hh5, hg5⟩, fun F5 H5 v sv L5 q g5 => e.rt F5 H5 v sv L5 q (gg.trans g5), fun F5 H5 σ5 Γ5 L5 q g5 => e.nx F5 H5 σ5 Γ5 L5 q (gg.trans g5), fun F5 H5 σ5 Γ5 L5 ⟨m', hm, q⟩ g5 hh5 hg5 => ⟨m', hm, F5, Γ5, L5, q, gg.trans g5, hh5, hg5⟩⟩
  | false => exact e.nx F3 H3 σ2 Γ2 L3 (p.2 rfl) gg hh3 (hg2.mono g3.sF)
/-! ### comprehensions -/
def wipeG (Γ : Gm) : List Nat → Gm
  | [] => Γ
  | v :: vs => (wipeG Γ vs).set v none
theorem RG.wipe {σ : L2.St} (h : RG K F σ Γ) : ∀ vs, RG K F (wipe σ vs) (wipeG Γ vs)
  | [] => h
  | v :: vs => (RG.wipe h vs).wipe1 v
/-- a target that stores at the places vs alone -/
def GOn (g : TG) (vs : List Nat) : Prop := ∀ v σ H Q, g v σ H Q → g v σ H fun σ2 H2 => Q σ2 H2 ∧ wipe σ2 vs = wipe σ vs
def GsOn (g : TGs) (vs : List Nat) : Prop := ∀ v σ H Q, g v σ H Q → g v σ H fun σ2 H2 => Q σ2 H2 ∧ wipe σ2 vs = wipe σ vs
theorem wipe_set {i : Nat} {v : Option V} : ∀ {vs : List Nat} {σ : L2.St}, i ∈ vs → wipe (σ.set i v) vs = wipe σ vs
  | w :: vs, σ, h => by
    unfold wipe
    by_cases e : i ∈ vs
    · rw [wipe_set e]
    · have e2 : i = w := by simpa [e] using h
      subst e2
      have z : ∀ {vs : List Nat} {σ : L2.St}, i ∉ vs → wipe (σ.set i v) vs = (wipe σ vs).set i v := by
        intro vs
        induction vs with
        | nil => intro σ _; rfl
        | cons u us ih =>
          intro σ h
          unfold wipe
          rw [ih (fun z => h (List.mem_cons_of_mem _ z)), List.set_comm]
          exact fun z => h (by rw [z]; exact List.mem_cons_self)
      rw [z e, List.set_set]
theorem wipe_wipe (σ : L2.St) : ∀ vs : List Nat, wipe (wipe σ vs) vs = wipe σ vs := by
  intro vs
  have z : ∀ (us : List Nat) (σ : L2.St), (∀ u ∈ us, u ∈ vs) → wipe (wipe σ us) vs = wipe σ vs := by
    intro us
    induction us with
    | nil => intro σ _; rfl
    | cons u us ih =>
      intro σ h
      show wipe ((wipe σ us).set u none) vs = _
      rw [wipe_set (h u List.mem_cons_self)]
      exact ih σ fun w hw => h w (List.mem_cons_of_mem _ hw)
  exact z vs σ fun _ h => h
theorem gon_name {i : Nat} {vs : List Nat} (h : i ∈ vs) : GOn (gName i) vs := fun v σ H Q q => ⟨q, wipe_set h⟩
theorem gson_nil {vs : List Nat} : GsOn gNil vs := fun v σ H Q q => ⟨q.1, q.2, rfl⟩
theorem gson_cons {g : TG} {gs : TGs} {vs : List Nat} (h1 : GOn g vs) (h2 : GsOn gs vs) (mg : ∀ v σ H Q Q', (∀ σ2 H2, Q σ2 H2 → Q' σ2 H2) → g v σ H Q → g v σ H Q') (mgs : ∀ v σ H Q Q', (∀ σ2 H2, Q σ2 H2 → Q' σ2 H2) → gs v σ H Q → gs v σ H Q') : GsOn (gCons g gs) vs := fun v σ H Q q => by
  obtain ⟨a, r, e, q⟩ := q
  refine ⟨a, r, e, mg _ _ _ _ _ (fun σ2 H2 ⟨q1, q2⟩ => ?_) (h1 _ _ _ _ q)⟩
  exact mgs _ _ _ _ _ (fun σ3 H3 ⟨q3, q4⟩ => ⟨q3, q4.trans q2⟩) (h2 _ _ _ _ q1)
theorem gon_tup {gs : TGs} {n : Nat} {vs : List Nat} (h : GsOn gs vs) : GOn (gTup K n gs) vs := fun v σ H Q q => by
  obtain ⟨a, xs, e, hs, hl, q⟩ := q
  exact ⟨a, xs, e, hs, hl, h _ _ _ _ q⟩
/-- monotone targets -/
def GMo (g : TG) : Prop := ∀ v σ H Q Q', (∀ σ2 H2, Q σ2 H2 → Q' σ2 H2) → g v σ H Q → g v σ H Q'
def GsMo (g : TGs) : Prop := ∀ v σ H Q Q', (∀ σ2 H2, Q σ2 H2 → Q' σ2 H2) → g v σ H Q → g v σ H Q'
theorem gmo_name {i : Nat} : GMo (gName i) := fun v σ H Q Q' m q => m _ _ q
theorem gsmo_nil : GsMo gNil := fun v σ H Q Q' m q => ⟨q.1, m _ _ q.2⟩
theorem gsmo_cons {g : TG} {gs : TGs} (h1 : GMo g) (h2 : GsMo gs) : GsMo (gCons g gs) := fun v σ H Q Q' m q => by
  obtain ⟨a, r, e, q⟩ := q
  exact ⟨a, r, e, h1 _ _ _ _ _ (fun σ2 H2 q1 => h2 _ _ _ _ _ m q1) q⟩
theorem gmo_tup {gs : TGs} {n : Nat} (h : GsMo gs) : GMo (gTup K n gs) := fun v σ H Q Q' m q => by
  obtain ⟨a, xs, e, hs, hl, q⟩ := q
  exact ⟨a, xs, e, hs, hl, h _ _ _ _ _ m q⟩
theorem gon2 {g : TG} {gs : TGs} {vs : List Nat} (h1 : GOn g vs) (m1 : GMo g) (h2 : GsOn gs vs) (m2 : GsMo gs) : GsOn (gCons g gs) vs := gson_cons h1 h2 m1 m2
theorem Chg.last {p : Addr} {o o' : OD} : ∀ {L : Sto}, Chg (L ++ [(p, o)]) p o o' (L ++ [(p, o')])
  | [] => .head
  | x :: L => .tail (Chg.last (L := L))
theorem wt_yes {P : Bool → Sto → Prop} (p : P true Ls) : WT K tYes Γ Ls P := fun F H σ hh hg Q c => c F H true Ls p Go.refl hh
theorem we_lc {β : Type} {wi : TI} {tt : TT} {vs : List Nat} (f : β → SV) (gm : GMo g) (gon : GOn g vs)
    (h : WI K wi Γ Ls fun items St L1 => ∃ (bs : List β) (I : List β → List SV → Sto → Prop), items = bs.map f ∧ bs.length ≤ sizeLine ∧ I [] [] L1 ∧
      (∀ pre b post acc L', bs = pre ++ b :: post → acc.length ≤ pre.length → I pre acc L' → St L' ∧ WG K g (f b) (wipeG Γ vs) L' fun Γ2 L2 => WT K tt Γ2 L2 fun c L3 =>
        (c = true → WE K te Γ2 L3 fun y L4 => I (pre ++ [b]) (acc ++ [y]) L4) ∧ (c = false → I (pre ++ [b]) acc L3)) ∧
      (∀ acc L', acc.length ≤ bs.length → I bs acc L' → St L' ∧ ∀ p, p ∉ dm L' → P (.own p) (L' ++ [(p, .lst acc)]))) : WE K (tLc wi g tt te vs) Γ Ls P := fun F H σ hh hg Q c =>
  h F H σ hh hg _ fun F1 H1 J items St L1 ⟨bs, I, ei, hz, h0, hs, hd⟩ g1 hh1 jok D hD => by
    subst ei
    obtain ⟨gD, hhD⟩ := go_owned (o := .lst []) (d := .lst []) hh1 hD .nil
    refine ⟨fun i m H2 => ∃ F2 acc L2, I (bs.take i) acc L2 ∧ acc.length ≤ i ∧ Go (dm Ls) F H (dm (L2 ++ [(D, .lst acc)])) F2 H2 ∧ Hold K F2 H2 (L2 ++ [(D, .lst acc)]) ∧ Same F1 F2 ∧ m = bs.length - i ∧ i ≤ bs.length,
      ⟨bs.length, F1, [], L1, by simpa using h0, Nat.zero_le _, g1.trans gD, hhD, Same.refl _, by simp, Nat.zero_le _⟩, ?_⟩
    rintro i m H2 ⟨F2, acc, L2, hI, hal, g2, hh2, s2, rfl, hi⟩
    by_cases hlt : i < bs.length
    · have e0 : bs = bs.take i ++ bs[i] :: bs.drop (i + 1) := by
        rw [List.getElem_cons_drop, List.take_append_drop]
      have e1 : bs.take (i + 1) = bs.take i ++ [bs[i]] := by rw [List.take_add_one, List.getElem?_eq_getElem hlt]; rfl
      obtain ⟨st, hw⟩ := hs _ _ _ acc L2 e0 (by rw [List.length_take]; omega) hI
      refine .inr ⟨jok.go F2 H2 L2 i s2 hh2.sub0 st (by simpa using hlt), fun H3 => ∃ F3 acc3 L3, I (bs.take i ++ [bs[i]]) acc3 L3 ∧ acc3.length ≤ i + 1 ∧ Go (dm Ls) F H (dm (L3 ++ [(D, .lst acc3)])) F3 H3 ∧ Hold K F3 H3 (L3 ++ [(D, .lst acc3)]) ∧ Same F1 F3, fun H3 ⟨F3, acc3, L3, a1, a2, a3, a4, a5⟩ => ⟨bs.length - (i + 1), by omega, F3, acc3, L3, by rw [e1]; exact a1, a2, a3, a4, a5, rfl, hlt⟩, fun z H3 hy => ?_⟩
      obtain ⟨F3, g3, hh3, r3⟩ := jok.yld F2 H2 L2 i (f bs[i]) s2 hh2.sub0 st (by rw [List.getElem?_map, List.getElem?_eq_getElem hlt]; rfl) z H3 hy
      obtain ⟨g3', hh3'⟩ := call_frame hh2 g3 hh3
      have hgw : RG K F2 (wipe σ vs) (wipeG Γ vs) := (hg.mono (g1.sF.trans s2)).wipe vs
      refine gm _ _ _ _ _ (fun σ4 H4 q => ?_) (gon _ _ _ _ (hw F3 H3 (wipe σ vs) z hh3 (hgw.mono g3.sF) r3 _ fun F4 H4 σ4 Γ4 L4 p g4 hh4 hg4 => (⟨F4, Γ4, L4, p, g4, hh4, hg4⟩ : ∃ F4 Γ4 L4, (WT K tt Γ4 L4 fun c L3 => (c = true → WE K te Γ4 L3 fun y L4 => I (bs.take i ++ [bs[i]]) (acc ++ [y]) L4) ∧ (c = false → I (bs.take i ++ [bs[i]]) acc L3)) ∧ Go (dm L2) F3 H3 (dm L4) F4 H4 ∧ Hold K F4 H4 L4 ∧ RG K F4 σ4 Γ4)))
      obtain ⟨⟨F4, Γ4, L4, p, g4, hh4, hg4⟩, hwp⟩ := q
      obtain ⟨g4', hh4'⟩ := call_frame hh3' g4 hh4
      refine ⟨hwp.trans (wipe_wipe σ vs), p F4 H4 σ4 hh4 hg4 _ fun F5 H5 b L5 q5 g5 hh5 => ?_⟩
      obtain ⟨g5', hh5'⟩ := call_frame hh4' g5 hh5
      have gg := ((g2.trans g3').trans g4').trans g5'
      have ss : Same F1 F5 := ((s2.trans g3.sF).trans g4.sF).trans g5.sF
      cases b with
      | false =>
        rw [if_neg Bool.false_ne_true]
        exact ⟨F5, acc, L5, q5.2 rfl, by omega, gg, hh5', ss⟩
      | true =>
        rw [if_pos rfl]
        refine q5.1 rfl F5 H5 σ4 hh5 (hg4.mono g5.sF) _ fun F6 H6 v sv L6 q6 g6 hh6 r6 => ?_
        obtain ⟨g6', hh6'⟩ := call_frame hh5' g6 hh6
        obtain ⟨l, hl, ro, go⟩ := own_lst hh6' (Chg.last (o' := .lst (acc ++ [sv])))
        obtain ⟨g7, hh7⟩ := go _ (paired_app ro (.cons r6 .nil))
        refine ⟨l, hl, ?_, F6, acc ++ [sv], L6, q6, by simp; omega, (gg.trans g6').trans g7, hh7, ss.trans g6.sF⟩
        rw [ro.length]
        omega
    · have hi2 : i = bs.length := by omega
      have ei : bs.take i = bs := List.take_of_length_le (by omega)
      rw [ei] at hI
      obtain ⟨st, p⟩ := hd acc L2 (by omega) hI
      have nd := hh2.nd
      rw [dm_app] at nd
      have hp : D ∉ dm L2 := fun z => (List.nodup_append.mp nd).2.2 D z D (List.mem_singleton.mpr rfl) rfl
      exact .inl ⟨jok.stop F2 H2 L2 i s2 hh2.sub0 st (by simp; omega), c F2 H2 (.ref D) (.own D) _ (p D hp) g2 hh2 rfl⟩
/-- .. its list told as data -/
theorem we_lcF {β : Type} {wi : TI} {tt : TT} {vs : List Nat} (f : β → SV) (gm : GMo g) (gon : GOn g vs)
    (h : WI K wi Γ Ls fun items St L1 => ∃ (bs : List β) (I : List β → List SV → Sto → Prop), items = bs.map f ∧ bs.length ≤ sizeLine ∧ I [] [] L1 ∧
      (∀ pre b post acc L', bs = pre ++ b :: post → acc.length ≤ pre.length → I pre acc L' → St L' ∧ WG K g (f b) (wipeG Γ vs) L' fun Γ2 L2 => WT K tt Γ2 L2 fun c L3 =>
        (c = true → WE K te Γ2 L3 fun y L4 => I (pre ++ [b]) (acc ++ [y]) L4) ∧ (c = false → I (pre ++ [b]) acc L3)) ∧
      (∀ acc L', acc.length ≤ bs.length → I bs acc L' → St L' ∧ ∃ es, datsOf acc = some es ∧ P (.dat (.list es)) L')) : WE K (tLc wi g tt te vs) Γ Ls P :=
  we_frz (we_lc f gm gon fun F H σ hh hg RR c => h F H σ hh hg RR fun F' H' J items St L' ⟨bs, I, e1, e2, e3, e4, e5⟩ => c F' H' J items St L' ⟨bs, I, e1, e2, e3, e4, fun acc L2 hl hI => by
    obtain ⟨st, es, e6, p⟩ := e5 acc L2 hl hI
    exact ⟨st, fun q hq => ⟨q, acc, L2, [], rfl, rfl, es, e6, by rw [List.append_nil]; exact p⟩⟩⟩)
/-- .. of an element that changes nothing: some are left out -/
theorem we_lcM {β : Type} {wi : TI} {tt : TT} {vs : List Nat} (f : β → SV) (fn : β → Option PyData) (gm : GMo g) (gon : GOn g vs)
    (h : WI K wi Γ Ls fun items St L1 => ∃ bs : List β, items = bs.map f ∧ bs.length ≤ sizeLine ∧ St L1 ∧
      (∀ b ∈ bs, WG K g (f b) (wipeG Γ vs) L1 fun Γ2 L2 => WT K tt Γ2 L2 fun c L3 =>
        (c = true → WE K te Γ2 L3 fun y L4 => L4 = L1 ∧ ∃ d, y = .dat d ∧ fn b = some d) ∧ (c = false → L3 = L1 ∧ fn b = none)) ∧
      P (.dat (.list (bs.filterMap fn))) L1) : WE K (tLc wi g tt te vs) Γ Ls P :=
  we_lcF f gm gon (h.mono fun items St L1 ⟨bs, e1, e2, e3, e4, e5⟩ => ⟨bs, fun pre acc L' => L' = L1 ∧ acc = (pre.filterMap fn).map .dat, e1, e2, ⟨rfl, rfl⟩, fun pre b post acc L' eb _ hI => by
    obtain ⟨rfl, rfl⟩ := hI
    exact ⟨e3, (e4 b (by rw [eb]; simp)).mono fun Γ2 L2 p => WT.mono p fun c L3 q => ⟨fun e => (q.1 e).mono fun y L4 ⟨q1, d, q2, q3⟩ => ⟨q1, by rw [q2, List.filterMap_append]; simp [q3]⟩, fun e => ⟨(q.2 e).1, by rw [List.filterMap_append]; simp [(q.2 e).2]⟩⟩⟩, fun acc L' _ hI => by
    obtain ⟨rfl, rfl⟩ := hI
    exact ⟨e3, _, datsOf_map _, e5⟩⟩)
/-- .. none is left out -/
theorem we_lcA {β : Type} {wi : TI} {vs : List Nat} (f : β → SV) (fn : β → PyData) (gm : GMo g) (gon : GOn g vs)
    (h : WI K wi Γ Ls fun items St L1 => ∃ bs : List β, items = bs.map f ∧ bs.length ≤ sizeLine ∧ St L1 ∧
      (∀ b ∈ bs, WG K g (f b) (wipeG Γ vs) L1 fun Γ2 L2 => WE K te Γ2 L2 fun y L4 => L4 = L1 ∧ y = .dat (fn b)) ∧
      P (.dat (.list (bs.map fn))) L1) : WE K (tLc wi g tYes te vs) Γ Ls P :=
  we_lcM f (fun b => some (fn b)) gm gon (h.mono fun items St L1 ⟨bs, e1, e2, e3, e4, e5⟩ => ⟨bs, e1, e2, e3, fun b hb => (e4 b hb).mono fun Γ2 L2 p => wt_yes ⟨fun _ => p.mono fun y L4 ⟨q1, q2⟩ => ⟨q1, _, q2, rfl⟩, fun e => nomatch e⟩, by
    rw [show bs.filterMap (fun b => some (fn b)) = bs.map fn by simp]
    exact e5⟩)
end
end OL

/-! OL5: more built-ins; dropping what is owned; the state of draws. -/
namespace OL
open PySem PySem.Spec PyProof.Rows L2
section
variable {K : PySem.W.Frag} {F F' H H' : Hp} {Ls L' : Sto} {Γ : Gm} {P : SV → Sto → Prop} {Q : VK} {E : PEnds} {D : Ends} {x y : SV} {ta tb tc te tl : TE} {g : TG} {t : TS}
theorem we_raw {v : V} (p : P (.raw v) Ls) : WE K (tC v) Γ Ls P := fun F H σ hh hg Q c => c.now (sv := .raw v) hh rfl p
theorem raws : ∀ {ws vs : List V}, Paired (RV K F) vs (ws.map .raw) → vs = ws
  | [], _, h => by cases h; rfl
  | w :: ws, _, h => by
    cases h with
    | cons h1 h2 => rw [show _ = w from h1, raws h2]
theorem we_tupR {t : TA} (h : WA K t Γ Ls fun xs L1 => xs.length ≤ sizeLine ∧ ∃ ws, xs = ws.map .raw ∧ P (.rtup ws) L1) : WE K (tTup t) Γ Ls P := fun F H σ hh hg Q c =>
  h F H σ hh hg _ fun F1 H1 vs xs L1 ⟨hl, ws, e, p⟩ g1 hh1 r1 => by
    subst e
    have := raws r1
    subst this
    exact ⟨by simpa using hl, cont_frozen (sv := .rtup vs) hh1 (c.after g1) (fun q hq => ⟨q, rfl, upd_same⟩) p⟩
/-! dropping -/
def drp (P : SV → Sto → Prop) : SV → Sto → Prop := fun x L => ∃ L2 : Sto, List.Sublist L2 L ∧ P x L2
theorem dm_sub {A B : Sto} (h : List.Sublist A B) : List.Sublist (dm A) (dm B) := h.map _
theorem Hold.drop {A : Sto} (hh : Hold K F H Ls) (h : List.Sublist A Ls) : Hold K F H A := ⟨hh.sub, fun p o hp => hh.own p o (h.subset hp), hh.nd.sublist (dm_sub h)⟩
theorem we_drp (h : WE K te Γ Ls (drp P)) : WE K te Γ Ls P := fun F H σ hh hg Q c =>
  h F H σ hh hg Q fun F1 H1 v x L1 ⟨L2, hs, p⟩ g1 hh1 r1 => c F1 H1 v x L2 p ⟨g1.keep, g1.dom, g1.sF, g1.sep, fun a ha => g1.sub a ((dm_sub hs).subset ha)⟩ (hh1.drop hs) r1
theorem Go.widen {A B : List Addr} {D : List Addr} (g : Go A F H D F' H') (h : ∀ a ∈ A, a ∈ B) : Go B F H D F' H' :=
  ⟨fun a o h1 => g.keep a o fun z => h1 (h a z), g.dom, g.sF, fun a h1 => g.sep a fun z => h1 (h a z), fun a h1 => (g.sub a h1).imp (h a) id⟩
theorem ws_drp {A : Sto} (hs : List.Sublist A Ls) (h : WS K t Γ A E) : WS K t Γ Ls E := fun F H σ hh hg D e => by
  have w : ∀ a ∈ dm A, a ∈ dm Ls := fun a ha => (dm_sub hs).subset ha
  exact h F H σ (hh.drop hs) hg D ⟨fun F' H' σ' Γ' L p g => e.nx F' H' σ' Γ' L p (g.widen w), fun F' H' v sv L p g => e.rt F' H' v sv L p (g.widen w), fun F' H' σ' Γ' L p g => e.bk F' H' σ' Γ' L p (g.widen w), fun F' H' σ' Γ' L p g => e.ct F' H' σ' Γ' L p (g.widen w)⟩
/-- in another order -/
theorem ws_perm {A : Sto} (hs : List.Perm A Ls) (h : WS K t Γ A E) : WS K t Γ Ls E := fun F H σ hh hg D e => by
  have hp : List.Perm (dm A) (dm Ls) := hs.map _
  have w : ∀ a ∈ dm A, a ∈ dm Ls := fun a ha => hp.subset ha
  exact h F H σ ⟨hh.sub, fun p o q => hh.own p o (hs.subset q), hp.nodup_iff.mpr hh.nd⟩ hg D ⟨fun F' H' σ' Γ' L p g => e.nx F' H' σ' Γ' L p (g.widen w), fun F' H' v sv L p g => e.rt F' H' v sv L p (g.widen w), fun F' H' σ' Γ' L p g => e.bk F' H' σ' Γ' L p (g.widen w), fun F' H' σ' Γ' L p g => e.ct F' H' σ' Γ' L p (g.widen w)⟩
/-- less known of a name -/
def GLe (Γ' Γ : Gm) : Prop := Γ'.length = Γ.length ∧ ∀ (i : Nat) (sv : SV), Γ'[i]? = some (some sv) → Γ[i]? = some (some sv)
theorem RG.le {Γ' : Gm} {σ : L2.St} (h : RG K F σ Γ) (l : GLe Γ' Γ) : RG K F σ Γ' := ⟨h.1.trans l.1.symm, fun i sv e => h.2 i sv (l.2 i sv e)⟩
theorem ws_le {Γ' : Gm} (l : GLe Γ' Γ) (h : WS K t Γ' Ls E) : WS K t Γ Ls E := fun F H σ hh hg D e => h F H σ hh (hg.le l) D e
theorem GLe.nil : GLe [] [] := ⟨rfl, fun _ _ h => by cases h⟩
theorem GLe.same {a : Option SV} {Γ' Γ : Gm} (h : GLe Γ' Γ) : GLe (a :: Γ') (a :: Γ) := ⟨by simp [h.1], fun i sv e => by
  cases i with
  | zero => exact e
  | succ i => exact h.2 i sv e⟩
theorem GLe.forget {a : Option SV} {Γ' Γ : Gm} (h : GLe Γ' Γ) : GLe (none :: Γ') (a :: Γ) := ⟨by simp [h.1], fun i sv e => by
  cases i with
  | zero => cases e
  | succ i => exact h.2 i sv e⟩

/-! built-ins -/
theorem wn_int1 {i : Int} (p : P (dI i) Ls) : Wn K (fun xs H Q => (∃ i, xs = [.int i] ∧ Q (.int i) H) ∨ ∃ k, xs = [.bl k] ∧ Q (.int (if k then 1 else 0)) H) [dI i] Ls P := fun F H vs hh r Q c => by
  cases r with
  | cons r3 r4 => cases r4; exact .inl ⟨i, by rw [Dt.inv_int r3], c.now (sv := dI _) hh (Dt.int _) p⟩
theorem wn_intB {b : Bool} (p : P (dI (if b then 1 else 0)) Ls) : Wn K (fun xs H Q => (∃ i, xs = [.int i] ∧ Q (.int i) H) ∨ ∃ k, xs = [.bl k] ∧ Q (.int (if k then 1 else 0)) H) [dB b] Ls P := fun F H vs hh r Q c => by
  cases r with
  | cons r3 r4 => cases r4; exact .inr ⟨b, by rw [Dt.inv_bl r3], c.now (sv := dI _) hh (Dt.int _) p⟩
theorem wn_min2 {i j : Int} (p : P (dI (if j < i then j else i)) Ls) : Wn K (fun xs H Q => ∃ i j, xs = [.int i, .int j] ∧ Q (.int (if j < i then j else i)) H) [dI i, dI j] Ls P := fun F H vs hh r Q c => by
  cases r with
  | cons r3 r4 =>
    cases r4 with
    | cons r5 r6 => cases r6; exact ⟨i, j, by rw [Dt.inv_int r3, Dt.inv_int r5], c.now (sv := dI _) hh (Dt.int _) p⟩
theorem wn_max2 {i j : Int} (p : P (dI (if j > i then j else i)) Ls) : Wn K (fun xs H Q => ∃ i j, xs = [.int i, .int j] ∧ Q (.int (if j > i then j else i)) H) [dI i, dI j] Ls P := fun F H vs hh r Q c => by
  cases r with
  | cons r3 r4 =>
    cases r4 with
    | cons r5 r6 => cases r6; exact ⟨i, j, by rw [Dt.inv_int r3, Dt.inv_int r5], c.now (sv := dI _) hh (Dt.int _) p⟩
theorem wn_divmodW {i j : Int} (hc : CDivP i j) (p : P (.dat (.tuple [.int (i / j), .int (i % j)])) Ls) : Wn K (fun xs H Q => ∃ i j, xs = [.int i, .int j] ∧ CDivP i j ∧ ∀ p, H p = none → Q (.ref p) (upd H p (.tup [.int (i / j), .int (i % j)]))) [dI i, dI j] Ls P := fun F H vs hh r Q c => by
  cases r with
  | cons r3 r4 =>
    cases r4 with
    | cons r5 r6 => cases r6; exact ⟨i, j, by rw [Dt.inv_int r3, Dt.inv_int r5], hc, cont_frozen (sv := .dat (.tuple [.int (i / j), .int (i % j)])) hh c (fun q hq => Dt.tup upd_same (.cons (.int _) (.cons (.int _) .nil))) p⟩
theorem cdivp {i j : Int} (h1 : 0 < j) (h2 : j < 1073741824) : CDivP i j := by
  refine ⟨h1, ?_⟩
  unfold Builtin.divisionGoesByPylong
  have e : (j == 0) = false := by
    rw [beq_eq_false_iff_ne]; omega
  have hl : j.natAbs.log2 < 30 := by
    have hj : j.natAbs ≠ 0 := by omega
    exact (Nat.log2_lt hj).mpr (by omega)
  have z : j.natAbs.log2 / 30 = 0 := Nat.div_eq_of_lt hl
  simp [e, z]
theorem wn_sum {ns : List Int} (hx : IsL Ls x (ns.map dI)) (p : P (dI ns.sum) Ls) : Wn K (rSum K) [x] Ls P := fun F H vs hh r Q c => by
  cases r with
  | cons r3 r4 =>
    cases r4
    obtain ⟨a, us, rfl, hs, rs⟩ := hx.get hh r3
    rw [rvs_ints rs] at hs
    exact ⟨a, ns, rfl, hs, c.now (sv := dI _) hh (Dt.int _) p⟩
theorem wn_max {ns : List Int} (hx : IsL Ls x (ns.map dI)) (h0 : 0 < ns.length) (p : ∀ m, m ∈ ns → (∀ y ∈ ns, y ≤ m) → P (dI m) Ls) : Wn K (rMax K) [x] Ls P := fun F H vs hh r Q c => by
  cases r with
  | cons r3 r4 =>
    cases r4
    obtain ⟨a, us, rfl, hs, rs⟩ := hx.get hh r3
    rw [rvs_ints rs] at hs
    exact ⟨a, ns, rfl, hs, h0, fun m h1 h2 => c.now (sv := dI _) hh (Dt.int _) (p m h1 h2)⟩
theorem wn_all {bs : List Bool} (hx : IsL Ls x (bs.map dB)) (p : P (dB (bs.all id)) Ls) : Wn K (rAll K) [x] Ls P := fun F H vs hh r Q c => by
  cases r with
  | cons r3 r4 =>
    cases r4
    obtain ⟨a, us, rfl, hs, rs⟩ := hx.get hh r3
    rw [rvs_bls rs] at hs
    exact ⟨a, bs, rfl, hs, c.now (sv := dB _) hh (Dt.bl _) p⟩
theorem wn_any {bs : List Bool} (hx : IsL Ls x (bs.map dB)) (p : P (dB (bs.any id)) Ls) : Wn K (rAny K) [x] Ls P := fun F H vs hh r Q c => by
  cases r with
  | cons r3 r4 =>
    cases r4
    obtain ⟨a, us, rfl, hs, rs⟩ := hx.get hh r3
    rw [rvs_bls rs] at hs
    exact ⟨a, bs, rfl, hs, c.now (sv := dB _) hh (Dt.bl _) p⟩
/-- lists put together, repeated -/
theorem w_cat {xs ys : List SV} (hx : IsO Ls x xs) (hy : IsO Ls y ys) (hl : xs.length + ys.length ≤ sizeLine) (p : ∀ q, q ∉ dm Ls → P (.own q) (Ls ++ [(q, .lst (xs ++ ys))])) : W2 K rCat x y Ls P := fun F H v u hh r1 r2 Q c => by
  obtain ⟨a, vs, rfl, h1, ra⟩ := hx.get hh r1
  obtain ⟨b, us, rfl, h2, rb⟩ := hy.get hh r2
  exact ⟨a, b, vs, us, rfl, rfl, h1, h2, by rw [ra.length, rb.length]; exact hl, cont_owned hh c (d := .lst (xs ++ ys)) (paired_app ra rb) p⟩
theorem paired_rep {α β : Type} {R : α → β → Prop} {l : List α} {m : List β} (h : Paired R l m) : ∀ n : Nat, Paired R (List.replicate n l).flatten (List.replicate n m).flatten
  | 0 => .nil
  | n + 1 => by
    rw [List.replicate_succ, List.replicate_succ, List.flatten_cons, List.flatten_cons]
    exact paired_app h (paired_rep h n)
theorem w_rep {xs : List SV} {k : Int} (hx : IsO Ls x xs) (h1 : -(2 ^ 63) ≤ k) (h2 : k < 2 ^ 63) (hl : xs.length * k.toNat ≤ sizeLine) (p : ∀ q, q ∉ dm Ls → P (.own q) (Ls ++ [(q, .lst (List.replicate k.toNat xs).flatten)])) : W2 K rRep x (dI k) Ls P := fun F H v u hh r1 r2 Q c => by
  obtain ⟨a, vs, rfl, h3, ra⟩ := hx.get hh r1
  exact ⟨a, k, vs, rfl, Dt.inv_int r2, h3, h1, h2, by rw [ra.length]; exact hl, cont_owned hh c (d := .lst (List.replicate k.toNat xs).flatten) (paired_rep ra _) p⟩
/-- .. told as data -/
def frz1 (P : SV → Sto → Prop) (xs : List SV) (L : Sto) : Prop := ∃ es, datsOf xs = some es ∧ P (.dat (.list es)) L
theorem w_catF {xs ys : List SV} {es : List PyData} (hx : IsO Ls x xs) (hy : IsO Ls y ys) (hl : xs.length + ys.length ≤ sizeLine) (e : datsOf (xs ++ ys) = some es) (p : P (.dat (.list es)) Ls) : W2 K rCat x y Ls P := fun F H v u hh r1 r2 Q c => by
  obtain ⟨a, vs, rfl, h1, ra⟩ := hx.get hh r1
  obtain ⟨b, us, rfl, h2, rb⟩ := hy.get hh r2
  refine ⟨a, b, vs, us, rfl, rfl, h1, h2, by rw [ra.length, rb.length]; exact hl, ?_⟩
  have rs : Paired (RV K F) (vs ++ us) (xs ++ ys) := paired_app ra rb
  exact cont_frozen hh c (rv_newL hh rs e) p
theorem w_repF {xs : List SV} {k : Int} {es : List PyData} (hx : IsO Ls x xs) (h1 : -(2 ^ 63) ≤ k) (h2 : k < 2 ^ 63) (hl : xs.length * k.toNat ≤ sizeLine) (e : datsOf (List.replicate k.toNat xs).flatten = some es) (p : P (.dat (.list es)) Ls) : W2 K rRep x (dI k) Ls P := fun F H v u hh r1 r2 Q c => by
  obtain ⟨a, vs, rfl, h3, ra⟩ := hx.get hh r1
  exact ⟨a, k, vs, rfl, Dt.inv_int r2, h3, h1, h2, by rw [ra.length]; exact hl, cont_frozen hh c (rv_newL hh (paired_rep ra _) e) p⟩
/-- the script's slice -/
theorem w_slW {ns : List Int} {lo hi : Option Int} (p : P (.dat (.list ((cutL ns lo hi).map .int))) Ls) : WSl K (rSlL K) (.wr (.list (ns.map .int))) lo hi Ls P := fun F H v hh r1 Q c => by
  have hx : IsL Ls (.wr (.list (ns.map .int))) ((ns.map PyData.int).map .wr) := rfl
  obtain ⟨a, vs, rfl, hs, rs⟩ := hx.get hh r1
  have e : vs = ns.map V.int := by
    clear hs hx r1 p
    rw [List.map_map] at rs
    generalize ns = l at rs
    induction l generalizing vs with
    | nil => cases rs; rfl
    | cons n l ih =>
      cases rs with
      | cons h1 h2 =>
        cases (show Dp K F _ (.int n) from h1)
        rw [ih _ h2]; rfl
  subst e
  refine ⟨a, _, rfl, hs, cont_frozen (sv := .dat (.list ((cutL ns lo hi).map .int))) hh c (fun q hq => Dt.lst upd_same ?_) p⟩
  have e2 : cutV (ns.map V.int) lo hi = (cutL ns lo hi).map V.int := by
    unfold cutV cutL
    rw [List.length_map, List.map_take, List.map_drop]
  rw [e2]
  generalize upd F q _ = G
  generalize cutL ns lo hi = l
  induction l with
  | nil => exact .nil
  | cons n l ih => exact .cons (.int n) ih
/-- x in a written or made list or tuple of flat data -/
def eqF : PyData → PyData → Bool
  | .none, .none => true
  | .bool a, .bool b => a == b
  | .bool a, .int b => (if a then 1 else 0) == b
  | .int a, .bool b => a == (if b then 1 else 0)
  | .int a, .int b => a == b
  | .str a, .str b => a == b
  | _, _ => false
def flatD : PyData → Bool
  | .none => true
  | .bool _ => true
  | .int _ => true
  | .str _ => true
  | _ => false
theorem flat_V {v : V} {d : PyData} (r : Dp K F v d) (h : flatD d = true) : flatV v = true := by
  cases d <;> (cases r) <;> first | rfl | cases h
theorem eqV_F {v u : V} {d e : PyData} (r1 : Dp K F v d) (r2 : Dp K F u e) (h1 : flatD d = true) (h2 : flatD e = true) : eqV v u = eqF d e := by
  cases d <;> (cases r1) <;> (cases e) <;> (cases r2) <;> first | rfl | cases h1 | cases h2
def datOf? : SV → Option PyData
  | .dat d => some d
  | .wr d => some d
  | _ => none
theorem dp_of {v : V} {sv : SV} {d : PyData} (r : RV K F v sv) (h : datOf? sv = some d) : Dp K F v d := by
  cases sv with
  | dat e => cases h; exact Dt.dp r
  | wr e => cases h; exact r
  | own p => cases h
  | raw w => cases h
  | rtup w => cases h
theorem in_all {v : V} {d : PyData} (r : Dp K F v d) (hd : flatD d = true) : ∀ {xs : List SV} {vs : List V} {es : List PyData}, Paired (RV K F) vs xs → xs.mapM datOf? = some es → es.all flatD = true → vs.all flatV = true ∧ inV v vs = es.any (eqF · d)
  | [], _, es, h, e, _ => by
    cases h
    cases e
    exact ⟨rfl, rfl⟩
  | x :: xs, _, es, h, e, hf => by
    cases h with
    | cons h1 h2 =>
      rw [List.mapM_cons] at e
      cases e1 : datOf? x with
      | none => rw [e1] at e; cases e
      | some d1 =>
        cases e2 : xs.mapM datOf? with
        | none => rw [e1, e2] at e; cases e
        | some ds =>
          rw [e1, e2] at e
          cases e
          rw [List.all_cons, Bool.and_eq_true] at hf
          obtain ⟨i1, i2⟩ := in_all r hd h2 e2 hf.2
          have dp := dp_of h1 e1
          refine ⟨by rw [List.all_cons, flat_V dp hf.1, i1]; rfl, ?_⟩
          unfold inV at i2 ⊢
          rw [List.any_cons, List.any_cons, i2, eqV_F dp r hf.1 hd]
theorem w_in {neg : Bool} {xs : List SV} {d : PyData} {es : List PyData} (hy : IsL Ls y xs ∨ IsT y xs) (hx : datOf? x = some d) (hd : flatD d = true) (he : xs.mapM datOf? = some es) (hf : es.all flatD = true) (p : P (dB (if neg then !es.any (eqF · d) else es.any (eqF · d))) Ls) : W2 K (rIn K neg) x y Ls P := fun F H v u hh r1 r2 Q c => by
  have dx := dp_of r1 hx
  rcases hy with hy | hy
  · obtain ⟨a, vs, rfl, hs, rs⟩ := hy.get hh r2
    obtain ⟨i1, i2⟩ := in_all dx hd rs he hf
    exact ⟨a, vs, rfl, .inl hs, flat_V dx hd, i1, by rw [i2]; exact c.now (sv := dB _) hh (Dt.bl _) p⟩
  · obtain ⟨a, vs, rfl, hs, rs⟩ := hy.get hh r2
    obtain ⟨i1, i2⟩ := in_all dx hd rs he hf
    exact ⟨a, vs, rfl, .inr hs, flat_V dx hd, i1, by rw [i2]; exact c.now (sv := dB _) hh (Dt.bl _) p⟩
/-- isinstance by built-in types -/
def tyN : PyData → String
  | .none => "NoneType"
  | .bool _ => "bool"
  | .int _ => "int"
  | .str _ => "str"
  | .list _ => "list"
  | .tuple _ => "tuple"
  | .dict _ => "dict"
def TyD (Ls : Sto) : SV → String → Prop
  | .dat d, n => n = tyN d
  | .own p, n => (n = "list" ∧ ∃ xs, (p, .lst xs) ∈ Ls) ∨ (n = "dict" ∧ ((∃ kvs, (p, .dK kvs) ∈ Ls) ∨ ∃ kvs, (p, .dT kvs) ∈ Ls))
  | _, _ => False
theorem TyD.get {v : V} {n : String} (h : TyD Ls x n) (hh : Hold K F H Ls) (r : RV K F v x) : TyX K H v (.type n) := by
  cases x with
  | dat d =>
    cases h
    have r : Dt K F v d := r
    cases r with
    | non => exact .base .non
    | bl b => exact .base (.bl b)
    | int i => exact .base (.int i)
    | str x => exact .base (.str x)
    | lst h1 h2 => exact .base (.lst (hh.sub _ _ h1))
    | tup h1 h2 => exact .base (.tup (hh.sub _ _ h1))
  | own p =>
    cases (show v = .ref p from r)
    rcases h with ⟨rfl, xs, hm⟩ | ⟨rfl, ⟨kvs, hm⟩ | ⟨kvs, hm⟩⟩
    · obtain ⟨_, ho, e, ro⟩ := hh.own p _ hm
      cases ho <;> first | exact ro.elim | exact .base (.lst e)
    · obtain ⟨_, ho, e, ro⟩ := hh.own p _ hm
      cases ho <;> first | exact ro.elim | exact .base (.dK e)
    · obtain ⟨_, ho, e, ro⟩ := hh.own p _ hm
      cases ho <;> first | exact ro.elim | exact .base (.dT e)
  | wr d => exact h.elim
  | raw w => exact h.elim
  | rtup w => exact h.elim
theorem wn_isi {n c : String} {r : Bool} (hx : TyD Ls x n) (hk : kitB n c = some r) (p : P (dB r) Ls) : Wn K (rIsi K) [x, .raw (.ty c)] Ls P := fun F H vs hh rs Q c' => by
  cases rs with
  | cons r3 r4 =>
    cases r4 with
    | cons r5 r6 =>
      cases r6
      cases (show _ = V.ty c from r5)
      exact ⟨_, .ty c, .type n, .type c, r, rfl, .ty c, hx.get hh r3, kit_ty hk, c'.now (sv := dB _) hh (Dt.bl _) p⟩
theorem wn_isi2 {n c1 c2 : String} {r1 r2 : Bool} (hx : TyD Ls x n) (hk1 : kitB n c1 = some r1) (hk2 : kitB n c2 = some r2) (p : P (dB (r1 || r2)) Ls) : Wn K (rIsiT K) [x, .rtup [.ty c1, .ty c2]] Ls P := fun F H vs hh rs Q c' => by
  cases rs with
  | cons r3 r4 =>
    cases r4 with
    | cons r5 r6 =>
      cases r6
      obtain ⟨a, rfl, ha⟩ := (show ∃ a, _ = V.ref a ∧ F a = some (.tup [.ty c1, .ty c2]) from r5)
      refine ⟨_, a, _, .type n, _, r1 || r2, rfl, hh.sub _ _ ha, .cons (.ty c1) (.cons (.ty c2) .nil), hx.get hh r3, ?_, c'.now (sv := dB _) hh (Dt.bl _) p⟩
      refine kitAny_cons (kit_ty hk1) (fun e => ?_) (fun e => by rw [e]; rfl)
      refine kitAny_cons (kit_ty hk2) (fun e2 => ?_) (fun e2 => by rw [e2, Bool.or_true])
      rw [e, e2]; exact kitAny_nil
end
/-! ### the state of draws -/
def kS (s : Str) : Key := .inr s
/-- c: the cells, s: the state -/
abbrev Sts (c s : Addr) (cells : List Int) (turn : Int) (ex : List (Key × SV)) : Sto :=
  [(c, .lst (cells.map dI)), (s, .dK ((.inr (Str.ofString "cells"), .own c) :: (.inr (Str.ofString "turn"), dI turn) :: ex))]
structure SOk (cells : List Int) (t : Int) (B : Int) : Prop where
  ne : cells ≠ []
  lo : 0 ≤ t
  hi : t ≤ B
end OL

/-! OL6: the names of readings; defs that may be called; names by slots. -/
namespace OL
open PySem PySem.Spec PyProof.Rows L2
abbrev rAdI : R2 := rI0 fun i j => .int (i + j)
abbrev rSbI : R2 := rI0 fun i j => .int (i - j)
abbrev rMuI : R2 := rI CMul fun i j => .int (i * j)
abbrev rDvI : R2 := rI CDiv fun i j => .int (i / j)
abbrev rMdI : R2 := rI (fun _ j => 0 < j) fun i j => .int (i % j)
abbrev rPwI : R2 := rI CPow fun i j => .int (i ^ j.toNat)
abbrev rLsI : R2 := rI CPow fun i j => .int (i * 2 ^ j.toNat)
abbrev rRsI : R2 := rI (fun _ j => 0 ≤ j) fun i j => .int (i / 2 ^ j.toNat)
abbrev rAnI : R2 := rI0 fun i j => .int (Builtin.bitAnd i j)
abbrev rLtI : R2 := rI0 fun i j => .bl (decide (i < j))
abbrev rLeI : R2 := rI0 fun i j => .bl (decide (i ≤ j))
abbrev rGtI : R2 := rI0 fun i j => .bl (decide (j < i))
abbrev rGeI : R2 := rI0 fun i j => .bl (decide (j ≤ i))
abbrev rIsN : R2 := fun x y H Q => y = .non ∧ Q (.bl (decide (x = .non))) H
abbrev rNoN : R2 := fun x y H Q => y = .non ∧ Q (.bl (!decide (x = .non))) H
abbrev rAdS : R2 := fun x y H Q => ∃ i j, x = .str i ∧ y = .str j ∧ i.length + j.length ≤ sizeLine ∧ Q (.str (i ++ j)) H
abbrev rStarts : V → List V → Hp → VK → Prop := fun x xs H Q => ∃ a b, x = .str a ∧ xs = [.str b] ∧ Q (.bl (Txt.startswith a b)) H
abbrev rJoin (K : PySem.W.Frag) : V → List V → Hp → VK → Prop := fun x xs H Q => ∃ a p, ∃ ys : List Str, x = .str a ∧ xs = [.ref p] ∧ (SqL K H p (ys.map V.str) ∨ SqT K H p (ys.map V.str)) ∧ (ys.map (·.length)).sum + ys.length * a.length ≤ 16777216 ∧ Q (.str (Txt.join a ys)) H
abbrev rLnL (K : PySem.W.Frag) : List V → Hp → VK → Prop := fun xs H Q => ∃ p ys, xs = [.ref p] ∧ (SqL K H p ys ∨ SqT K H p ys) ∧ Q (.int ys.length) H
abbrev rLnS : List V → Hp → VK → Prop := fun xs H Q => ∃ z, xs = [.str z] ∧ z.length ≤ sizeLine ∧ Q (.int z.length) H
abbrev rLnD : List V → Hp → VK → Prop := fun xs H Q => ∃ a kvs, xs = [V.ref a] ∧ H a = some (.dK kvs) ∧ Q (.int kvs.length) H
abbrev rInt1 : List V → Hp → VK → Prop := fun xs H Q => (∃ i, xs = [.int i] ∧ Q (.int i) H) ∨ ∃ k, xs = [.bl k] ∧ Q (.int (if k then 1 else 0)) H
abbrev rListO (K : PySem.W.Frag) : List V → Hp → VK → Prop := fun xs H Q => ∃ p ys, xs = [.ref p] ∧ (SqL K H p ys ∨ SqT K H p ys) ∧ ∀ l, H l = none → Q (.ref l) (upd H l (.lst ys))
abbrev rMin2 : List V → Hp → VK → Prop := fun xs H Q => ∃ i j, xs = [.int i, .int j] ∧ Q (.int (if j < i then j else i)) H
abbrev rMax2 : List V → Hp → VK → Prop := fun xs H Q => ∃ i j, xs = [.int i, .int j] ∧ Q (.int (if j > i then j else i)) H
abbrev rDm : List V → Hp → VK → Prop := fun xs H Q => ∃ i j, xs = [.int i, .int j] ∧ CDivP i j ∧ ∀ p, H p = none → Q (.ref p) (upd H p (.tup [.int (i / j), .int (i % j)]))

/-- a def of the module, as it stands -/
structure Df (K : PySem.W.Frag) (mg : Str → Option Value) (x : Str) (st : Stmt) (ps : List Str) : Prop where
  ex : ∃ (f : Addr) (fd : FuncData), Fun K x x st f fd ∧ mg x = some (.ref f) ∧ Binds K fd ps []
/-- a def that may be called -/
structure Can (P : Program) (w : World) (K : PySem.W.Frag) (mg : Str → Option Value) (base : Heap) (k : Nat) (x : Str) (R : PSp) : Prop where
  ex : ∃ (f : Addr) (fd : FuncData) (ps : List Str), FnOk P w K mg base CX0 k f fd ps (toSp K R) ∧ mg x = some (.ref f) ∧ PySem.W.keepIn K (.ref f) = true ∧ Binds K fd ps []
theorem pe_can {X : Cx} {k j : Nat} {x : Str} {R : PSp} {p pos : Pos} {e : Expr} {es : List Expr} {t : TA} (c : Can X.prog X.w X.K X.mg X.base k x R) (hr : Room j X.A) (hk : k ≤ j) (hg : Gl X x) (ha : PA X (e :: es) t)
    (hdb : (x == ("__debug__" : Str)) = false := by decide) (he : starEach (e :: es) X.env = (false, eval e X.env) :: starEach es X.env := by rfl) (hpl : (backTo pos (starEach es X.env)).any (·.1) = false := by rfl) :
    PE X (.Call (.Name x p) (e :: es) [] pos) (tCall (toSp X.K R) [] E0 t) := by
  obtain ⟨f, fd, ps, F, hm, kp, b⟩ := c.ex
  exact pe_call F (hr.mono hk) hg hm kp b .nil pass0 ha hdb he hpl
/-- what a def is worth: its arguments by a, what is wanted -/
def mkSp {α : Type} (args : α → List SV) (pre : α → Sto → (SV → Sto → Prop) → Prop) : PSp := fun xs Ls P => ∃ a, xs = args a ∧ pre a Ls P
theorem can_of {P : Program} {w : World} {K : PySem.W.Frag} {mg : Str → Option Value} {base : Heap} {x : Str} {st : Stmt} {N ps : List Str} {k : Nat} {α : Type} {args : α → List SV} {pre : α → Sto → (SV → Sto → Prop) → Prop} {t : TS}
    (d : Df K mg x st ps) (Sc : FnScope N ps (defScope st)) (hl : ∀ a, (args a).length = ps.length)
    (tm : ∀ {f : Addr} {cdv : Value} {A : Around} {outer : List Env} {s : Shared} {H : Hp} {E : XK}, Room k (A.deeper (envOfC x (defScope st) s.heap.objs.size f cdv)) → PSs (cxOf CX0 P w K mg base N x (defScope st) f cdv A outer s H E).nox (defBody st) t)
    (rd : ∀ a Ls Q, pre a Ls Q → WS K t (startG N.length (args a)) Ls { nx := fun _ L => Q (.dat .none) L, rt := Q }) : Can P w K mg base (k + 1) x (mkSp args pre) := by
  obtain ⟨f, fd, F, hm, b⟩ := d.ex
  refine ⟨f, fd, ps, okW F Sc (fun xs Ls Q ⟨a, e, _⟩ => by rw [e]; exact hl a) (fun cdv A outer s H E hr => ⟨t, tm hr, fun xs Ls Q ⟨a, e, p⟩ => ?_⟩), hm, F.kp, b⟩
  subst e
  exact rd a Ls Q p
/-! names by their slots -/
inductive GetG : Gm → Nat → SV → Prop
  | z {x : SV} {Γ : Gm} : GetG (some x :: Γ) 0 x
  | s {a : Option SV} {x : SV} {Γ : Gm} {i : Nat} : GetG Γ i x → GetG (a :: Γ) (i + 1) x
inductive SetG : Gm → Nat → SV → Gm → Prop
  | z {a : Option SV} {x : SV} {Γ : Gm} : SetG (a :: Γ) 0 x (some x :: Γ)
  | s {a : Option SV} {x : SV} {Γ Γ' : Gm} {i : Nat} : SetG Γ i x Γ' → SetG (a :: Γ) (i + 1) x (a :: Γ')
theorem GetG.get {Γ : Gm} {i : Nat} {x : SV} (h : GetG Γ i x) : Γ[i]? = some (some x) := by
  induction h with
  | z => rfl
  | s _ ih => exact ih
theorem SetG.set {Γ Γ' : Gm} {i : Nat} {x : SV} (h : SetG Γ i x Γ') : Γ.set i (some x) = Γ' := by
  induction h with
  | z => rfl
  | s _ ih => rw [List.set_cons_succ, ih]
section
variable {K : PySem.W.Frag} {Ls : Sto} {Γ Γ' : Gm} {x : SV}
theorem wv {P : SV → Sto → Prop} {i : Nat} {sv : SV} (h : GetG Γ i sv) (p : P sv Ls) : WE K (tVar i) Γ Ls P := we_var h.get p
theorem wn {P : Gm → Sto → Prop} {i : Nat} (h : SetG Γ i x Γ') (p : P Γ' Ls) : WG K (gName i) x Γ Ls P := wg_name (by rw [h.set]; exact p)
theorem ws_par {i j : Nat} {ta : TA} {E : PEnds} (h : WA K ta Γ Ls fun xs L1 => ∃ x y Γ1 Γ2, xs = [x, y] ∧ SetG Γ i x Γ1 ∧ SetG Γ1 j y Γ2 ∧ E.nx Γ2 L1) : WS K (tPar i j ta) Γ Ls E := fun F H σ hh hg D e =>
  h F H σ hh hg _ fun F1 H1 vs xs L1 ⟨x, y, Γ1, Γ2, e1, s1, s2, p⟩ g1 hh1 r1 => by
    subst e1
    cases r1 with
    | cons r3 r4 =>
      cases r4 with
      | cons r5 r6 =>
        cases r6
        refine ⟨_, _, rfl, e.nx F1 H1 _ Γ2 L1 p g1 hh1 ?_⟩
        rw [← s2.set, ← s1.set]
        exact ((hg.mono g1.sF).set i r3).set j r5
theorem ws_aug {i : Nat} {te : TE} {f : Int → Int → Int} {E : PEnds} {a : Int} (h0 : GetG Γ i (dI a)) (h : WE K te Γ Ls fun y L1 => ∃ b Γ1, y = dI b ∧ SetG Γ i (dI (f a b)) Γ1 ∧ E.nx Γ1 L1) : WS K (tAug i te (ipI f)) Γ Ls E := fun F H σ hh hg D e => by
  obtain ⟨v, hv, rv⟩ := hg.2 i _ h0.get
  refine ⟨v, hv, h F H σ hh hg _ fun F1 H1 u y L1 ⟨b, Γ1, e1, s1, p⟩ g1 hh1 r1 => ?_⟩
  subst e1
  refine ⟨a, b, Dt.inv_int rv, Dt.inv_int r1, e.nx F1 H1 _ Γ1 L1 p g1 hh1 ?_⟩
  rw [← s1.set]
  exact (hg.mono g1.sF).set i (Dt.int _)
theorem ws_gm {t : TS} {E : PEnds} (e : Γ = Γ') (h : WS K t Γ' Ls E) : WS K t Γ Ls E := by subst e; exact h
theorem dec2 {c A B : Prop} [Decidable c] (h1 : c → A) (h2 : ¬ c → B) : (decide c = true → A) ∧ (decide c = false → B) := ⟨fun e => h1 (of_decide_eq_true e), fun e => h2 (of_decide_eq_false e)⟩
theorem ndec2 {c A B : Prop} [Decidable c] (h1 : ¬ c → A) (h2 : c → B) : ((!decide c) = true → A) ∧ ((!decide c) = false → B) := ⟨fun e => h1 (by simpa using e), fun e => h2 (by simpa using e)⟩
end
end OL

/-! OL7: text times number, remove, list(zip), sorted(set), sorted by length, over the layer; defs with a table of code objects. -/
namespace OL
open PySem PySem.Spec PyProof.Rows L2 LamX
section
variable {K : PySem.W.Frag} {F F' H H' : Hp} {Ls L' : Sto} {Γ : Gm} {P : SV → Sto → Prop} {Q : VK} {E : PEnds} {D : Ends} {x y : SV}
def rep (t : List Nat) (n : Nat) : List Nat := (List.replicate n t).flatten
theorem fold_cat (l : List (Array Nat)) : ∀ a : Array Nat, (l.foldl (· ++ ·) a).toList = a.toList ++ (l.map (·.toList)).flatten := by
  induction l with
  | nil => intro a; simp
  | cons b l ih => intro a; rw [List.foldl_cons, ih]; simp
theorem mulS_eq (t : List Nat) (i : Int) (h : 0 ≤ i) : Txt.mul (S t) i = S (rep t i.toNat) := by
  have e : ∀ x : Str, x.cps.toList = rep t i.toNat → x = S (rep t i.toNat) := fun x hx => by rw [← hx, S_of]
  unfold Txt.mul
  by_cases h1 : i < 1
  · rw [if_pos h1]
    have : i.toNat = 0 := by omega
    rw [this]
    rfl
  · rw [if_neg h1]
    by_cases h2 : (i == 1 || (S t).length == 0) = true
    · rw [if_pos h2]
      refine e _ ?_
      rw [S_cps]
      rcases Bool.or_eq_true_iff.mp h2 with q | q
      · have : i = 1 := by simpa using q
        rw [this]
        simp [rep]
      · have q : t = [] := by
          rw [S_len] at q
          simpa using q
        rw [q]
        simp [rep]
    · rw [if_neg h2]
      refine e _ ?_
      rw [fold_cat]
      simp [rep, S]
theorem rep_len (t : List Nat) (n : Nat) : (rep t n).length = n * t.length := by
  unfold rep
  rw [List.length_flatten]
  simp
theorem w_mulS {t : List Nat} {i : Int} (h0 : 0 ≤ i) (h1 : i ≤ 16777216) (h2 : t.length * i.toNat ≤ 16777216) (p : P (dS (rep t i.toNat)) Ls) : W2 K rMuS (dS t) (dI i) Ls P := fun F H v u hh r1 r2 Q c =>
  ⟨S t, i, Dt.inv_str r1, Dt.inv_int r2, h0, h1, by rw [S_len]; exact h2, by rw [mulS_eq t i h0]; exact c.now (sv := dS _) hh (Dt.str _) p⟩
theorem strs_back : ∀ {vs : List V} {ts : List (List Nat)}, Paired (RV K F) vs (ts.map dS) → vs = (ts.map S).map V.str
  | _, [], .nil => rfl
  | _, t :: ts, .cons h r => by rw [Dt.inv_str h, strs_back r]; rfl
theorem strs_fwd : ∀ {ts : List (List Nat)}, Paired (RV K F) ((ts.map S).map V.str) (ts.map dS)
  | [] => .nil
  | t :: ts => .cons (Dt.str _) strs_fwd
theorem wm_removeS {p : Addr} {ts : List (List Nat)} {t : List Nat} {j : Nat} (hj : ts[j]? = some t) (hn : ∀ m, m < j → ts[m]? ≠ some t) (hc : Chg Ls p (.lst (ts.map dS)) (.lst ((ts.eraseIdx j).map dS)) L') (q : P dN L') : Wm K rRemS (.own p) [dS t] Ls P := fun F H v vs hh r1 r2 Q c => by
  obtain ⟨l, e, ro, go⟩ := own_lst hh hc
  cases r2 with
  | cons r3 r4 =>
    cases r4
    have el : l = (ts.map S).map V.str := strs_back ro
    subst el
    have em : ((ts.map S).eraseIdx j) = (ts.eraseIdx j).map S := erase_map ts j
    obtain ⟨g, h2⟩ := go (((ts.eraseIdx j).map S).map V.str) strs_fwd
    refine ⟨p, ts.map S, S t, j, r1, by rw [Dt.inv_str r3], e, by rw [List.getElem?_map, hj]; rfl, fun m hm z => ?_, ?_⟩
    · rw [List.getElem?_map] at z
      cases w : ts[m]? with
      | none => rw [w] at z; cases z
      | some u =>
        rw [w] at z
        exact hn m hm (by rw [w, S_inj (Option.some.inj z)])
    · rw [em]
      exact c F _ _ dN L' q g h2 Dt.non
where erase_map : ∀ (l : List (List Nat)) (j : Nat), (l.map S).eraseIdx j = (l.eraseIdx j).map S
  | [], _ => rfl
  | _ :: _, 0 => rfl
  | a :: r, j + 1 => congrArg (List.cons _) (erase_map r j)

/-! ### new objects, frozen; one of them owned or none -/
theorem go_more {N : Hp} (h : Hold K F H Ls) (ext : ∀ b o, H b = some o → H' b = some o) (sub : ∀ b o, H b = none → N b = some o → H' b = some o) :
    Go (dm Ls) F H (dm Ls) (fun b => if H b = none then N b else F b) H' ∧ Hold K (fun b => if H b = none then N b else F b) H' Ls := by
  have at1 : ∀ b, H b ≠ none → (fun b => if H b = none then N b else F b) b = F b := fun b hb => if_neg hb
  have nn : ∀ b o, F b = some o → H b ≠ none := fun b o e => by rw [h.sub b o e]; exact nofun
  have sF : Same F (fun b => if H b = none then N b else F b) := fun b o e => (at1 b (nn b o e)).trans e
  refine ⟨⟨fun a o _ e => ext a o e, fun a ha => ?_, sF, fun a _ h1 h2 => (at1 a h2).trans h1, fun a ha => .inl ha⟩, ⟨fun b o e => ?_, fun p o hp => ?_, h.nd⟩⟩
  · cases e : H a with
    | none => exact absurd e ha
    | some o => rw [ext a o e]; exact nofun
  · by_cases hb : H b = none
    · exact sub b o hb ((if_pos hb).symm.trans e)
    · exact ext b o (h.sub b o ((at1 b hb).symm.trans e))
  · obtain ⟨a1, ho, a2, a3⟩ := h.own p o hp
    exact ⟨(at1 p (by rw [a2]; exact nofun)).trans a1, ho, ext p ho a2, a3.mono sF⟩

/-! ### list(zip(xs, ys)) -/
def pairD (x y : PyData) : PyData := .tuple [x, y]
theorem we_listZip {ta : TA} (h : WA K ta Γ Ls fun xs L1 => ∃ x y ds es, xs = [x, y] ∧ IsL L1 x (ds.map .dat) ∧ IsL L1 y (es.map .dat) ∧ P (.dat (.list (List.zipWith pairD ds es))) L1) : WE K (tListZip K ta) Γ Ls P := fun F H σ hh hg Q c =>
  h F H σ hh hg _ fun F1 H1 vs xs L1 ⟨x, y, ds, es, e, hx, hy, p⟩ g1 hh1 r1 => by
    subst e
    cases r1 with
    | cons r2 r3 =>
      cases r3 with
      | cons r4 r5 =>
        cases r5
        obtain ⟨a, us, rfl, hs, rs⟩ := hx.get hh1 r2
        obtain ⟨b, ws, rfl, ht, rt⟩ := hy.get hh1 r4
        refine ⟨a, b, us, ws, rfl, hs, ht, fun H2 q ts ext hq hq2 hl ht => ?_⟩
        obtain ⟨g2, hh2⟩ := go_more (N := H2) hh1 ext fun b o _ e => e
        refine (c.after g1) _ H2 (.ref q) (.dat (.list (List.zipWith pairD ds es))) L1 p g2 hh2 (Dt.lst ((if_pos hq).trans hq2) ?_)
        have lu := rs.length
        have lw := rt.length
        rw [List.length_map] at lu lw
        have key : ∀ (ts : List Addr) (ds es : List PyData), ts.length = min ds.length es.length → (∀ (j : Nat) (t : Addr), ts[j]? = some t → ∃ d e, ds[j]? = some d ∧ es[j]? = some e ∧ Dt K (fun b => if H1 b = none then H2 b else F1 b) (.ref t) (pairD d e)) →
            DtAll K (fun b => if H1 b = none then H2 b else F1 b) (ts.map V.ref) (List.zipWith pairD ds es) := by
          intro ts
          induction ts with
          | nil =>
            intro ds es hl _
            cases ds with
            | nil => exact .nil
            | cons d ds =>
              cases es with
              | nil => exact .nil
              | cons e es => simp only [List.length_nil, List.length_cons] at hl; omega
          | cons t ts ih =>
            intro ds es hl ht
            obtain ⟨d, e, h1, h2, h3⟩ := ht 0 t rfl
            cases ds with
            | nil => cases h1
            | cons d' ds =>
              cases es with
              | nil => cases h2
              | cons e' es =>
                cases h1
                cases h2
                refine .cons h3 (ih ds es (by simp only [List.length_cons] at hl; omega) fun j t hj => ht (j + 1) t hj)
        refine key ts ds es (by rw [hl, lu, lw]) fun j t hj => ?_
        obtain ⟨x, y, h1, h2, h3, h4⟩ := ht j t hj
        have hj1 : j < ds.length := by rw [← lu]; exact (List.getElem?_eq_some_iff.mp h1).1
        have hj2 : j < es.length := by rw [← lw]; exact (List.getElem?_eq_some_iff.mp h2).1
        have e1 := List.getElem?_eq_getElem hj1
        have e2 := List.getElem?_eq_getElem hj2
        obtain ⟨w1, k1, k2⟩ := paired_get rs (i := j) (by rw [List.getElem?_map, e1]; rfl)
        obtain ⟨w2, k3, k4⟩ := paired_get rt (i := j) (by rw [List.getElem?_map, e2]; rfl)
        rw [h1] at k1
        rw [h2] at k3
        cases k1
        cases k3
        exact ⟨_, _, e1, e2, Dt.tup ((if_pos h4).trans h3) (.cons (Dt.mono g2.sF k2) (.cons (Dt.mono g2.sF k4) .nil))⟩

/-! ### sorted(set(xs)), len(set(xs)) -/
/-- the signs rise -/
def sortedT (ts : List (List Nat)) : Prop := sortedS (ts.map S) = true
theorem lift_S (ys : List Str) : ∃ ts : List (List Nat), ys = ts.map S := ⟨ys.map fun y => y.cps.toList, by rw [List.map_map]; exact (List.map_id'' (fun y => S_of y) ys).symm⟩
theorem we_sortedSetS {ta : TE} (h : WE K ta Γ Ls fun x L1 => ∃ ts : List (List Nat), IsL L1 x (ts.map dS) ∧ ts.length + 1 < scanBound ∧
    ∀ (us : List (List Nat)) (p : Addr), sortedT us → us.Nodup → (∀ t, t ∈ us ↔ t ∈ ts) → p ∉ dm L1 → P (.own p) (L1 ++ [(p, .lst (us.map dS))])) : WE K (tSortedSetS K ta) Γ Ls P := fun F H σ hh hg Q c =>
  h F H σ hh hg _ fun F1 H1 v x L1 ⟨ts, hx, hl, p⟩ g1 hh1 r1 => by
    obtain ⟨a, us, rfl, hs, rs⟩ := hx.get hh1 r1
    have e := strs_back rs
    subst e
    refine ⟨a, ts.map S, rfl, hs, by rw [List.length_map]; exact hl, fun ys q h1 h2 h3 hq => ?_⟩
    obtain ⟨ws, rfl⟩ := lift_S ys
    have c1 := c.after g1
    obtain ⟨g2, hh2⟩ := go_owned (o := .lst ((ws.map S).map V.str)) (d := .lst (ws.map dS)) hh1 hq strs_fwd
    refine c1 F1 _ (.ref q) (.own q) _ (p ws q h1 ?_ (fun t => ?_) (hh1.fresh hq).2) g2 hh2 rfl
    · exact nodup_of_map h2
    · have := h3 (S t)
      simp only [List.mem_map] at this
      exact ⟨fun z => by obtain ⟨u, hu, e⟩ := this.mp ⟨t, z, rfl⟩; rw [← S_inj e]; exact hu, fun z => by obtain ⟨u, hu, e⟩ := this.mpr ⟨t, z, rfl⟩; rw [← S_inj e]; exact hu⟩
where nodup_of_map : ∀ {ws : List (List Nat)}, (ws.map S).Nodup → ws.Nodup
  | [], _ => List.nodup_nil
  | w :: ws, h => by
    obtain ⟨h1, h2⟩ := List.nodup_cons.mp h
    exact List.nodup_cons.mpr ⟨fun z => h1 (List.mem_map.mpr ⟨w, z, rfl⟩), nodup_of_map h2⟩

/-! ### sorted(d, key=lambda x: (len(x), x)) -/
def srtL (ks : List Str) : List Str := ks.mergeSort (PySem.W.dataLe false lenKey)
theorem we_sortedLen {P0 : Addr} {q : Str} {ta : TE} (h : WE K ta Γ Ls fun x L1 => ∃ (d : Addr) (kvs : List (Key × SV)) (ks : List Str), x = .own d ∧ (d, .dK kvs) ∈ L1 ∧ kvs.map (·.1) = ks.map Sum.inr ∧ ks.length ≤ sizeLine ∧ (∀ k ∈ ks, k.length ≤ sizeLine) ∧ (P0, .tb q) ∈ L1 ∧
    ∀ p, p ∉ dm L1 → P (.own p) (L1 ++ [(p, .lst ((srtL ks).map fun k => .dat (.str k)))])) : WE K (tSortedLen P0 q ta) Γ Ls P := fun F H σ hh hg Q c =>
  h F H σ hh hg _ fun F1 H1 v x L1 ⟨d, kvs, ks, e, hd, hks, hl, hz, hP, p⟩ g1 hh1 r1 => by
    subst e
    cases (show v = V.ref d from r1)
    obtain ⟨_, ho, e1, ro⟩ := hh1.own d _ hd
    cases ho <;> first | exact ro.elim | skip
    rename_i l
    have ro : Paired (RK K F1) l kvs := ro
    obtain ⟨fP, hoP, e2, rP⟩ := hh1.own P0 _ hP
    cases hoP <;> first | exact rP.elim | skip
    rename_i ps
    have rP : TriplesOk ps.toList ∧ ∀ (pos : Pos) (cv : Value), codeAmong pos ps.toList = some cv → ∃ c, cv = .ref c ∧ F1 c = some (CodeO c q) := rP
    refine ⟨d, l, ks, ps, rfl, e1, by rw [rk_keys ro]; exact hks, hl, hz, e2, rP.1, fun pos cv hcv => ?_, fun H2 q2 c' ps' ext hP' tg hc' hq => ?_⟩
    · obtain ⟨c, e, f⟩ := rP.2 pos cv hcv
      exact ⟨c, e, hh1.sub _ _ f⟩
    have c1 := c.after g1
    have n2 : ∀ b, H2 b = none → H1 b = none := fun b e => by
      by_cases hb : b = P0
      · rw [hb, hP'] at e; cases e
      · cases e3 : H1 b with
        | none => rfl
        | some o => rw [ext b o hb e3] at e; cases e
    have hq1 := n2 q2 hq
    have q0 : q2 ≠ P0 := fun z => by rw [z, hP'] at hq; cases hq
    -- the frozen part behind
    have at1 : ∀ b, H1 b ≠ none → (fun b => if H1 b = none then H2 b else F1 b) b = F1 b := fun b hb => if_neg hb
    have nn : ∀ b o, F1 b = some o → H1 b ≠ none := fun b o e => by rw [hh1.sub b o e]; exact nofun
    have sF : Same F1 (fun b => if H1 b = none then H2 b else F1 b) := fun b o e => (at1 b (nn b o e)).trans e
    have hlt : Paired (RV K (fun b => if H1 b = none then H2 b else F1 b)) ((srtL ks).map V.str) ((srtL ks).map fun k => SV.dat (.str k)) := by
      clear p hz hl hks
      induction srtL ks with
      | nil => exact .nil
      | cons k ks ih => exact .cons (Dt.str _) ih
    have go : Go (dm L1) F1 H1 (dm L1) (fun b => if H1 b = none then H2 b else F1 b) H2 ∧ Hold K (fun b => if H1 b = none then H2 b else F1 b) H2 L1 := by
      refine ⟨⟨fun a o ha e => ext a o (fun z => ha (z ▸ mem_dm hP)) e, fun a ha => ?_, sF, fun a _ h1 h2 => (at1 a h2).trans h1, fun a ha => .inl ha⟩, ⟨fun b o e => ?_, fun a o ha => ?_, hh1.nd⟩⟩
      · by_cases hb : a = P0
        · rw [hb, hP']; exact nofun
        · cases e : H1 a with
          | none => exact absurd e ha
          | some o => rw [ext a o hb e]; exact nofun
      · by_cases hb : H1 b = none
        · exact (if_pos hb).symm.trans e
        · have e3 := (at1 b hb).symm.trans e
          exact ext b o (fun z => by rw [z, fP] at e3; cases e3) (hh1.sub b o e3)
      · obtain ⟨a1, ho, a2, a3⟩ := hh1.own a o ha
        have aF := (at1 a (by rw [a2]; exact nofun)).trans a1
        by_cases hb : a = P0
        · subst hb
          have eo : o = .tb q := mem_uniq hh1.nd ha hP
          subst eo
          refine ⟨aF, _, hP', tg.1, fun pos cv hcv => ?_⟩
          rcases tg.2 pos cv hcv with ⟨pos', z⟩ | ⟨z, hn⟩
          · obtain ⟨c, e, f⟩ := rP.2 pos' cv z
            exact ⟨c, e, sF _ _ f⟩
          · exact ⟨c', z, (if_pos hn).trans hc'⟩
        · exact ⟨aF, ho, ext a ho hb a2, a3.mono sF⟩
    obtain ⟨g2, hh2⟩ := go
    obtain ⟨g3, hh3⟩ := go_owned (o := .lst ((srtL ks).map V.str)) (d := .lst ((srtL ks).map fun k => SV.dat (.str k))) hh2 hq hlt
    exact c1 _ _ (.ref q2) (.own q2) _ (p q2 (hh1.fresh hq1).2) (g2.trans g3) hh3 rfl
where mem_uniq : ∀ {L : Sto} {a : Addr} {o u : OD}, (dm L).Nodup → (a, o) ∈ L → (a, u) ∈ L → o = u
  | [], _, _, _, _, h, _ => by cases h
  | (b, w) :: L, a, o, u, nd, h1, h2 => by
    have nd2 := List.nodup_cons.mp nd
    rcases List.mem_cons.mp h1 with e1 | e1
    · rcases List.mem_cons.mp h2 with e2 | e2
      · cases e1; cases e2; rfl
      · cases e1
        exact absurd (mem_dm e2) nd2.1
    · rcases List.mem_cons.mp h2 with e2 | e2
      · cases e2
        exact absurd (mem_dm e1) nd2.1
      · exact mem_uniq nd2.2 e1 e2
end
end OL

/-! OL8: defs whose code object is known; calls by a part of the store. -/
namespace OL
open PySem PySem.Spec PyProof.Rows L2 LamX
/-- a def of the module whose code object stands at c -/
structure DfC (K : PySem.W.Frag) (mg : Str → Option Value) (x : Str) (st : Stmt) (ps : List Str) (c : Addr) : Prop where
  ex : ∃ (f : Addr) (fd : FuncData), Fun K x x st f fd ∧ mg x = some (.ref f) ∧ Binds K fd ps [] ∧ fd.code = .ref c
theorem okC {P : Program} {w : World} {K : PySem.W.Frag} {mg : Str → Option Value} {base : Heap} {x : Str} {st : Stmt} {f c : Addr} {fd : FuncData} {N ps : List Str} {k : Nat} {R : PSp} (Fn : Fun K x x st f fd) (hcd : fd.code = .ref c) (Sc : FnScope N ps (defScope st)) (len : ∀ xs Ls Q, R xs Ls Q → xs.length = ps.length)
    (hbody : ∀ (A : Around) (outer : List Env) (s : Shared) (H : Hp) (E : XK), Room k (A.deeper (envOfC x (defScope st) s.heap.objs.size f (.ref c))) →
      ∃ t, PSs (cxOf CX0 P w K mg base N x (defScope st) f (.ref c) A outer s H E).nox (defBody st) t ∧ ∀ xs Ls Q, R xs Ls Q → WS K t (startG N.length xs) Ls { nx := fun _ L => Q (.dat .none) L, rt := Q }) : FnOk P w K mg base CX0 (k + 1) f fd ps (toSp K R) := by
  obtain ⟨oc, od, kV, doc, pm, an, cdv, ct, osl, rfl, lk, hci⟩ := Fn.ex
  obtain rfl : cdv = .ref c := hcd
  refine fn_of lk hci Sc (fun vs H Q E h => ?_) fun A outer s H vs Q E hr h => ?_
  · obtain ⟨F, xs, Ls, P, hh, r, hR, c⟩ := h
    rw [r.length]; exact len xs Ls P hR
  · obtain ⟨F, xs, Ls, P, hh, r, hR, c⟩ := h
    obtain ⟨t, h1, h2⟩ := hbody A outer s H E hr
    exact ⟨t, h1.nox, h2 xs Ls P hR F H _ hh (rg_start r) _ ⟨fun F' H' σ' Γ' L' p g hh' hg' => c F' H' .non (.dat .none) L' p g hh' Dt.non, c, fun _ _ _ _ _ p => p.elim, fun _ _ _ _ _ p => p.elim⟩⟩
theorem canC_of {P : Program} {w : World} {K : PySem.W.Frag} {mg : Str → Option Value} {base : Heap} {x : Str} {st : Stmt} {N ps : List Str} {k : Nat} {c : Addr} {α : Type} {args : α → List SV} {pre : α → Sto → (SV → Sto → Prop) → Prop} {t : TS}
    (d : DfC K mg x st ps c) (Sc : FnScope N ps (defScope st)) (hl : ∀ a, (args a).length = ps.length)
    (tm : ∀ {f : Addr} {A : Around} {outer : List Env} {s : Shared} {H : Hp} {E : XK}, Room k (A.deeper (envOfC x (defScope st) s.heap.objs.size f (.ref c))) → PSs (cxOf CX0 P w K mg base N x (defScope st) f (.ref c) A outer s H E).nox (defBody st) t)
    (rd : ∀ a Ls Q, pre a Ls Q → WS K t (startG N.length (args a)) Ls { nx := fun _ L => Q (.dat .none) L, rt := Q }) : Can P w K mg base (k + 1) x (mkSp args pre) := by
  obtain ⟨f, fd, F, hm, b, hc⟩ := d.ex
  refine ⟨f, fd, ps, okC F hc Sc (fun xs Ls Q ⟨a, e, _⟩ => by rw [e]; exact hl a) (fun A outer s H E hr => ⟨t, tm hr, fun xs Ls Q ⟨a, e, p⟩ => ?_⟩), hm, F.kp, b⟩
  subst e
  exact rd a Ls Q p
section
variable {K : PySem.W.Frag} {F F' H H' : Hp} {Ls L' : Sto} {Γ : Gm} {P : SV → Sto → Prop}
theorem Hold.perm {A : Sto} (hs : List.Perm A Ls) (h : Hold K F H Ls) : Hold K F H A :=
  ⟨h.sub, fun p o q => h.own p o (hs.subset q), (hs.map Prod.fst).nodup_iff.mpr h.nd⟩
theorem wg_gm {g : TG} {x : SV} {P : Gm → Sto → Prop} (Γ'' : Gm) (e : Γ = Γ'') (h : WG K g x Γ'' Ls P) : WG K g x Γ Ls P := by subst e; exact h
/-- the rest of what is owned let go ahead of an expression -/
theorem we_drp0 {te : TE} {A : Sto} (hs : List.Sublist A Ls) (h : WE K te Γ A P) : WE K te Γ Ls P := fun F H σ hh hg Q c =>
  h F H σ (hh.drop hs) hg Q fun F' H' v sv L p g => c F' H' v sv L p (g.widen fun a ha => (dm_sub hs).subset ha)
theorem we_perm {te : TE} {A : Sto} (hs : List.Perm A Ls) (h : WE K te Γ A P) : WE K te Γ Ls P := fun F H σ hh hg Q c =>
  h F H σ (hh.perm hs) hg Q fun F' H' v sv L p g => c F' H' v sv L p (g.widen fun a ha => (hs.map Prod.fst).subset ha)
/-- a call that wants L0 of what is owned -/
theorem we_callq {R : PSp} {t : TA} (h : WA K t Γ Ls fun xs L1 => ∃ L0 Lf, List.Perm (L0 ++ Lf) L1 ∧ R xs L0 fun sv L0' => P sv (L0' ++ Lf)) : WE K (tCall (toSp K R) [] E0 t) Γ Ls P := fun F H σ hh hg Q c =>
  h F H σ hh hg _ fun F1 H1 vs xs L1 ⟨L0, Lf, e, hR⟩ g1 hh1 r1 => by
    rw [List.append_nil]
    have hq := hh1.perm e
    refine ⟨F1, xs, L0, _, hq.sub0, r1, hR, fun F2 H2 v sv L0' p g2 hh2 r2 => ?_⟩
    obtain ⟨g3, hh3⟩ := call_frame hq g2 hh2
    have g4 : Go (dm L1) F1 H1 (dm (L0' ++ Lf)) F2 H2 := g3.widen fun a ha => (e.map Prod.fst).subset ha
    exact c F2 H2 v sv (L0' ++ Lf) p (g1.trans g4) hh3 r2
end
end OL

/-! OL9: data that may be compared; equality of texts and of lists of them. -/
namespace OL
open PySem PySem.Spec PyProof.Rows L2
/-- data without dicts, of depth n at most -/
structure Sh (n : Nat) (d : PyData) : Prop where
  lay : d.canLay0 = true
  dep : d.depth ≤ n
theorem Sh.mono {m n : Nat} {d : PyData} (h : Sh m d) (e : m ≤ n) : Sh n d := ⟨h.lay, Nat.le_trans h.dep e⟩
theorem Sh.shaped {n : Nat} {d : PyData} (h : Sh n d) (e : n ≤ 64) : SeqAt.shaped d = true := by
  unfold SeqAt.shaped
  rw [h.lay, decide_eq_true (Nat.le_trans h.dep e)]; rfl
theorem sh_non {n : Nat} : Sh n .none := ⟨rfl, Nat.zero_le _⟩
theorem sh_bl {n : Nat} (b : Bool) : Sh n (.bool b) := ⟨rfl, Nat.zero_le _⟩
theorem sh_int {n : Nat} (i : Int) : Sh n (.int i) := ⟨rfl, Nat.zero_le _⟩
def Asc (t : List Nat) : Prop := ∀ c ∈ t, c < 128
theorem sh_str {n : Nat} {t : List Nat} (h : Asc t) : Sh n (.str (S t)) := ⟨by
  show (S t).cps.all (· < 0x110000) = true
  rw [← Array.all_toList, S_cps, List.all_eq_true]
  exact fun c hc => decide_eq_true (Nat.lt_trans (h c hc) (by decide)), Nat.zero_le _⟩
theorem sh_all {n : Nat} : ∀ {ds : List PyData}, (∀ d ∈ ds, Sh n d) → PyData.canLayAll0 ds = true ∧ PyData.depthAll ds ≤ n
  | [], _ => ⟨rfl, Nat.zero_le _⟩
  | d :: ds, h => by
    obtain ⟨h1, h2⟩ := sh_all fun d hd => h d (List.mem_cons_of_mem _ hd)
    have h3 := h d List.mem_cons_self
    refine ⟨?_, ?_⟩
    · rw [PyData.canLayAll0, h3.lay, h1]; rfl
    · rw [PyData.depthAll]; exact Nat.max_le.mpr ⟨h3.dep, h2⟩
theorem sh_list {n : Nat} {ds : List PyData} (h : ∀ d ∈ ds, Sh n d) : Sh (n + 1) (.list ds) := ⟨by rw [PyData.canLay0]; exact (sh_all h).1, by rw [PyData.depth]; exact Nat.add_le_add_right (sh_all h).2 1⟩
theorem sh_tup {n : Nat} {ds : List PyData} (h : ∀ d ∈ ds, Sh n d) : Sh (n + 1) (.tuple ds) := ⟨by rw [PyData.canLay0]; exact (sh_all h).1, by rw [PyData.depth]; exact Nat.add_le_add_right (sh_all h).2 1⟩
abbrev strD (t : List Nat) : PyData := .str (S t)
theorem sh_strs {n : Nat} {ts : List (List Nat)} (h : ∀ t ∈ ts, Asc t) : Sh (n + 1) (.list (ts.map strD)) := sh_list fun d hd => by
  obtain ⟨t, ht, rfl⟩ := List.mem_map.mp hd
  exact sh_str (h t ht)
theorem eqv_self {n : Nat} {d : PyData} (h : Sh n d) : PyData.eqv d d = true := by
  exact PySem.SeqAt.eqv_refl d h.lay
theorem eqv_str (a b : List Nat) : PyData.eqv (strD a) (strD b) = decide (a = b) := by
  rw [PyData.eqv]
  by_cases h : a = b
  · subst h; simp
  · rw [decide_eq_false h]
    exact beq_eq_false_iff_ne.mpr fun z => h (S_inj z)
theorem eqv_nil {ds : List PyData} : PyData.eqv (.list ds) (.list []) = ds.isEmpty := by
  cases ds <;> simp [PyData.eqv, PyData.eqvAll]
theorem Asc.drop {t : List Nat} (h : Asc t) (k : Nat) : Asc (t.drop k) := fun c hc => h c (List.mem_of_mem_drop hc)
theorem Asc.take {t : List Nat} (h : Asc t) (k : Nat) : Asc (t.take k) := fun c hc => h c (List.mem_of_mem_take hc)
theorem Asc.app {t u : List Nat} (h : Asc t) (g : Asc u) : Asc (t ++ u) := fun c hc => (List.mem_append.mp hc).elim (h c) (g c)
theorem asc_nil : Asc [] := fun c hc => by cases hc
theorem Asc.dec {t : List Nat} (h : t.all (fun c => decide (c < 128)) = true) : Asc t := fun c hc => of_decide_eq_true (List.all_eq_true.mp h c hc)
end OL

/-! OLA: from the head's facts to the law's promise. -/
namespace OL
open PySem PySem.Spec PyProof.Rows L2 He
abbrev defD (x : Str) (st : Stmt) : DefD := ⟨(x, none), x, x, defArgs st, defBody st, defScope st, [], []⟩
section
variable {K : PySem.W.Frag} {h : Heap} {mg : Str → Option Value} {fa : List Fa} {fn : List DefD}
theorem fun_ofD {x : Str} {st : Stmt} {f : Addr} {fd : FuncData} (F : FunD K x x (defArgs st) (defBody st) (defScope st) [] [] f fd) : Fun K x x st f fd := by
  obtain ⟨oc, od, dV, kV, doc, pm, an, cdv, ct, osl, e, lk, hcd, hD, hK⟩ := F.ex
  rcases hD with ⟨_, rfl⟩ | ⟨z, _⟩
  · exact ⟨⟨oc, od, kV, doc, pm, an, cdv, ct, osl, e, lk, hcd⟩, F.kp⟩
  · exact absurd rfl z
/-- a def of the text is there -/
theorem df_ofD (X : K.In h) (G : h.Ns mainGlobals mg) (c : SaysD fa fn K) {x : Str} {st : Stmt} {ps : List Str} (i j : Nat) (hd : fn[i]? = some (defD x st)) (hg : fa[j]? = some (Fa.glo x))
    (hb : ∀ (kV doc pm : Value) (an : Option Addr) (cdv ct : Value) (us : List Value), us.length = ps.length → bindArgs (PySem.W.fnOf x x (defArgs st) (defBody st) (defScope st) .none kV doc pm an cdv ct) ⟨us, []⟩ = pure (ps.zip us)) : Df K mg x st ps := by
  obtain ⟨fd, F⟩ := c.def_ i hd
  exact ⟨fAd K (x, none), fd, fun_ofD F, glo_ok X G (c.fact j hg), F.bindsN hb⟩
theorem dfc_ofD (X : K.In h) (G : h.Ns mainGlobals mg) (c : SaysD fa fn K) {x : Str} {st : Stmt} {ps : List Str} (i j : Nat) (hd : fn[i]? = some (defD x st)) (hg : fa[j]? = some (Fa.glo x))
    (hb : ∀ (kV doc pm : Value) (an : Option Addr) (cdv ct : Value) (us : List Value), us.length = ps.length → bindArgs (PySem.W.fnOf x x (defArgs st) (defBody st) (defScope st) .none kV doc pm an cdv ct) ⟨us, []⟩ = pure (ps.zip us)) : DfC K mg x st ps (cT K (x, none)).1 := by
  obtain ⟨fd, F⟩ := c.def_ i hd
  refine ⟨fAd K (x, none), fd, fun_ofD F, glo_ok X G (c.fact j hg), F.bindsN hb, ?_⟩
  obtain ⟨oc, od, dV, kV, doc, pm, an, cdv, ct, osl, rfl, lk, hcd, _⟩ := F.ex
  obtain ⟨cc, rfl⟩ := codeIn_ref hcd
  show Value.ref cc = Value.ref (codeOf K (x, none))
  rw [codeOf_eq lk rfl]
end
/-- a promise of nothing -/
theorem can_no {P : Program} {w : World} {K : PySem.W.Frag} {mg : Str → Option Value} {base : Heap} {x : Str} {st : Stmt} {ps : List Str} (d : Df K mg x st ps) : Can P w K mg base 0 x (fun _ _ _ => False) := by
  obtain ⟨f, fd, F, hm, b⟩ := d.ex
  exact ⟨f, fd, ps, ⟨fun vs H Q E h => (by obtain ⟨_, _, _, _, _, _, h, _⟩ := h; exact h.elim), fun A outer s H args us vs Q E hr e0 hb r h => (by obtain ⟨_, _, _, _, _, _, h, _⟩ := h; exact h.elim)⟩, hm, F.kp, b⟩
/-- what a law owes: True, whatever the script; Ls0: the tables of code objects -/
def spLaw (Ls0 : Sto) : PSp := mkSp (fun ns : List Int => [.wr (.list (ns.map .int))]) fun _ Ls P => Ls = Ls0 ∧ ∀ L, P (dB true) L
theorem dp_ints {K : PySem.W.Frag} {F : Hp} : ∀ ns : List Int, DpAll K F (ns.map V.int) (ns.map .int)
  | [] => .nil
  | n :: ns => .cons (.int n) (dp_ints ns)
theorem toSp_law {K : PySem.W.Frag} {H : Hp} {a : Addr} {ns : List Int} (Ls0 : Sto) (own : ∀ p o, (p, o) ∈ Ls0 → (∃ q, o = .tb q) ∧ H p = some (.tbl #[])) (nd : (dm Ls0).Nodup) (hS : SqL K H a (ns.map V.int)) :
    toSp K (spLaw Ls0) [.ref a] H (fun v _ => v = .bl true) (fun _ _ _ => False) := by
  refine ⟨fun b => if b ∈ dm Ls0 then none else H b, [.wr (.list (ns.map .int))], Ls0, fun x _ => x = dB true, ⟨fun b o e => ?_, fun p o hp => ?_, nd⟩, .cons ?_ .nil, ⟨ns, rfl, rfl, fun _ => rfl⟩, fun F' H' v sv L' e _ _ r => ?_⟩
  · by_cases hb : b ∈ dm Ls0
    · rw [if_pos hb] at e; cases e
    · rw [if_neg hb] at e; exact e
  · obtain ⟨⟨q, rfl⟩, h2⟩ := own p o hp
    exact ⟨if_pos (mem_dm hp), _, h2, trivial, fun pos cv hc => by simp [codeAmong] at hc⟩
  · refine Dp.lst ?_ (dp_ints ns)
    rcases hS with hS | hS
    · left
      have na : a ∉ dm Ls0 := fun z => by
        obtain ⟨⟨p, o⟩, hp, rfl⟩ := List.mem_map.mp z
        obtain ⟨_, h2⟩ := own p o hp
        rcases hS with e | ⟨o, e⟩
        · rw [show H p = _ from h2] at e; cases e
        · rw [show H p = _ from h2] at e; cases e
      rcases hS with e | ⟨o, e⟩
      · exact .inl ((if_neg na).trans e)
      · exact .inr ⟨o, (if_neg na).trans e⟩
    · exact .inr hS
  · subst e
    exact Dt.inv_bl r
theorem fnok_of {P : Program} {w : World} {K : PySem.W.Frag} {mg : Str → Option Value} {base : Heap} {x : Str} {st : Stmt} {N ps : List Str} {k : Nat} {f : Addr} {fd : FuncData} {α : Type} {args : α → List SV} {pre : α → Sto → (SV → Sto → Prop) → Prop} {t : TS}
    (Fn : Fun K x x st f fd) (Sc : FnScope N ps (defScope st)) (hl : ∀ a, (args a).length = ps.length)
    (tm : ∀ {cdv : Value} {A : Around} {outer : List Env} {s : Shared} {H : Hp} {E : XK}, Room k (A.deeper (envOfC x (defScope st) s.heap.objs.size f cdv)) → PSs (cxOf CX0 P w K mg base N x (defScope st) f cdv A outer s H E).nox (defBody st) t)
    (rd : ∀ a Ls Q, pre a Ls Q → WS K t (startG N.length (args a)) Ls { nx := fun _ L => Q (.dat .none) L, rt := Q }) : FnOk P w K mg base CX0 (k + 1) f fd ps (toSp K (mkSp args pre)) :=
  okW Fn Sc (fun xs Ls Q ⟨a, e, _⟩ => by rw [e]; exact hl a) fun cdv A outer s H E hr => ⟨t, tm hr, fun xs Ls Q ⟨a, e, p⟩ => by subst e; exact rd a Ls Q p⟩
/-- the law's promise at the head's heap -/
theorem law_at {l : PySem.W.OpenLaw} {w : World} {K : PySem.W.Frag} {k n : Nat} {x lx : Str} {st : Stmt} {mg : Str → Option Value} {f : Addr} {h : Heap} {fa : List Fa} {fn : List DefD} {tf : List Defn} {ex : PySem.W.Frag → Bool} (q : Defn → Str)
    (X : K.In h) (c : SaysX fa fn [] tf ex w h K) (hmg : mg lx = some (.ref f)) (hl : Df K mg lx st [x]) (nd : (tf.map fun p => (cT K p).2).Nodup)
    (hbind : ∀ (kV doc pm : Value) (an : Option Addr) (cdv ct v : Value), bindArgs (PySem.W.fnOf lx lx (defArgs st) (defBody st) (defScope st) .none kV doc pm an cdv ct) ⟨[v], []⟩ = pure [(x, v)])
    (F : ∀ fd, Fun K lx lx st f fd → ∀ base : Heap, K.In base → base.Ns mainGlobals mg → (∀ p ∈ tf, LamX.TabB base mg (cT K p).1 (cT K p).2) → FnOk l.prog w K mg base CX0 k f fd [x] (toSp K (spLaw (tf.map fun p => ((cT K p).2, .tb (q p)))))) :
    LamX.LawAtS l w K CX0 k n x mg f h := by
  obtain ⟨f', fd, Fn, hm, hb⟩ := hl.ex
  rw [hmg] at hm
  cases hm
  have mem : ∀ p ∈ tf.map (cT K), ∃ d ∈ tf, p = cT K d := fun p hp => by
    obtain ⟨d, hd, e⟩ := List.mem_map.mp hp
    exact ⟨d, hd, e.symm⟩
  refine ⟨fd, tf.map (cT K), toSp K (spLaw (tf.map fun p => ((cT K p).2, .tb (q p)))), fun p hp => ?_, fun p hp => ?_, fun p hp => ?_, fun s u => ?_, fun H a ns _ _ hT hS => ?_, fun base h1 h2 h3 => F fd Fn base h1 h2 fun p hp => h3 _ (List.mem_map.mpr ⟨p, hp, rfl⟩)⟩
  · obtain ⟨d, hd, rfl⟩ := mem p hp
    exact c.empty d hd
  · obtain ⟨d, hd, rfl⟩ := mem p hp
    exact c.out d hd
  · obtain ⟨d, hd, rfl⟩ := mem p hp
    exact PySem.W.codeHd_of_K X (c.hd d hd)
  · obtain ⟨oc, od, kV, doc, pm, an, cdv, ct, osl, rfl, lk, hcd⟩ := Fn.ex
    exact .of_eq (hbind kV doc pm an cdv ct u)
  · refine toSp_law _ (fun p o hp => ?_) ?_ hS
    · obtain ⟨d, hd, e⟩ := List.mem_map.mp hp
      cases e
      exact ⟨⟨_, rfl⟩, hT _ (List.mem_map.mpr ⟨d, hd, rfl⟩)⟩
    · have e : dm (tf.map fun p => ((cT K p).2, OD.tb (q p))) = tf.map fun p => (cT K p).2 := by
        show (tf.map _).map _ = _
        rw [List.map_map]; rfl
      rw [e]
      exact nd
end OL

/-! FB1: what is left of a code; the ends of codes; the lags behind a lag. -/
namespace OL
open PySem PySem.Spec PyProof.Rows L2
local macro_rules | `(tactic| walk_at "gs") => `(tactic| first | exact GetG.z | exact SetG.z | (apply GetG.s; walk_at "gs") | (apply SetG.s; walk_at "gs"))
local macro_rules | `(tactic| walk_at "chg") => `(tactic| first | exact Chg.head | (apply Chg.tail; walk_at "chg"))
local macro_rules | `(tactic| walk_at "mem") => `(tactic| first | exact List.Mem.head _ | (apply List.Mem.tail; walk_at "mem"))
local macro_rules | `(tactic| walk_at "isl") => `(tactic| first | exact (rfl : IsL _ (.dat (.list _)) _) | walk_at "mem")
local macro_rules | `(tactic| walk_at "sz") => `(tactic| first | decide | assumption | omega | (simp; done) | (simp; omega))
local macro_rules | `(tactic| walk_at "w1") => `(tactic| first
  | (with_reducible refine ws_seq ?_) | (with_reducible refine ws_asg ?_) | (with_reducible refine ws_ret ?_) | (with_reducible refine ws_drop ?_) | (with_reducible refine ws_if ?_) | (with_reducible refine ws_next ?_) | (with_reducible refine ws_retN ?_) | (with_reducible refine ws_dput ?_) | (with_reducible refine ws_par ?_)
  | ((with_reducible refine' wv ?_ ?_); rotate_left; walk_at "gs") | ((with_reducible refine' wn ?_ ?_); rotate_left; walk_at "gs")
  | (with_reducible refine we_int ?_) | (with_reducible refine we_bl ?_) | (with_reducible refine we_non ?_)
  | (with_reducible refine we_op ?_) | (with_reducible refine we_un ?_) | (with_reducible refine we_cb ?_) | (with_reducible refine we_if ?_)
  | (with_reducible refine wa_nil ?_) | (with_reducible refine wa_cons ?_)
  | (with_reducible refine wt_and ?_) | (with_reducible refine wt_or ?_) | (with_reducible refine wt_not ?_) | (with_reducible refine wt_yes ?_)
  | (with_reducible refine we_sl ?_) | (with_reducible refine wo_no ?_) | (with_reducible refine wo_some ?_)
  | (with_reducible refine wt_test ?_) | (with_reducible refine wt_B ?_)
  | (with_reducible refine we_andV ?_) | (with_reducible refine we_orV ?_) | (with_reducible refine we_notV ?_)
  | (with_reducible refine we_dget ?_) | (with_reducible refine we_din ?_) | (with_reducible refine we_dnotin ?_)
  | (with_reducible refine we_bmL ?_) | (with_reducible refine we_bmL0 ?_) | (with_reducible refine wg_sub ?_) | (with_reducible refine wgs_cons ?_) | (with_reducible refine wgs_nil ?_)
  | (with_reducible refine w_i0 ?_) | (with_reducible refine w_b0 ?_) | (with_reducible refine w_neg ?_) | (with_reducible refine w_isN ?_) | (with_reducible refine w_notN ?_)
  | (with_reducible refine w_eqI ?_) | (with_reducible refine w_neI ?_) | (with_reducible refine w_eqS ?_) | (with_reducible refine w_neS ?_) | (with_reducible refine w_eqB ?_) | (with_reducible refine w_neB ?_)
  | (with_reducible refine we_tup ?_) | (with_reducible refine we_m1 ?_) | (with_reducible refine wm_starts ?_)
  | (with_reducible refine wn_min2 ?_) | (with_reducible refine wn_max2 ?_) | (with_reducible refine wn_int1 ?_) | (with_reducible refine wn_intB ?_))
local macro_rules | `(tactic| walk_at "w") => `(tactic| repeat (first | walk_at "w1" | (refine ⟨⟨_, rfl⟩, ?_⟩) | ((refine' ⟨⟨_, ?_⟩, ?_⟩); rotate_left; walk_at "isl") | (refine ⟨_, rfl, ?_⟩) | (refine ⟨of_decide_eq_true (Eq.refl true), _, rfl, ?_⟩)))
local macro_rules | `(tactic| walk_at "gmo") => `(tactic| first | exact gmo_name | exact gsmo_nil | (refine gsmo_cons ?_ ?_ <;> walk_at "gmo") | (refine gmo_tup ?_; walk_at "gmo"))
local macro_rules | `(tactic| walk_at "gon") => `(tactic| first | exact gon_name (by decide) | exact gson_nil | (refine gon_tup ?_; walk_at "gon") | (refine gon2 ?_ ?_ ?_ ?_ <;> first | walk_at "gmo" | walk_at "gon"))
abbrev Tx := List Nat
theorem cutL_from {α : Type} (t : List α) (k : Nat) : cutL t (some (k : Int)) none = t.drop k := by
  unfold cutL
  rw [HT.sIx_none, HT.sIx_nat]
  have h : (t.drop (min k t.length)).length = t.length - min k t.length := List.length_drop
  rw [List.take_of_length_le (by omega)]
  by_cases e : k ≤ t.length
  · rw [Nat.min_eq_left e]
  · rw [Nat.min_eq_right (by omega), List.drop_length, List.drop_of_length_le (by omega)]
theorem cutL_to {α : Type} (t : List α) (k : Nat) : cutL t none (some (k : Int)) = t.take k := by
  unfold cutL
  rw [HT.sIx_none, HT.sIx_nat, List.drop_zero, Nat.sub_zero]
  by_cases e : k ≤ t.length
  · rw [Nat.min_eq_left e]
  · rw [Nat.min_eq_right (by omega), List.take_length, List.take_of_length_le (by omega)]
theorem small_sz {n : Nat} (h : n ≤ 100000) : n ≤ sizeLine := Nat.le_trans h (by decide)
def dO : Option Tx → SV
  | some t => dS t
  | none => dN
def leftOf (a b : Tx) : Option Tx := if b.isPrefixOf a = true then some (a.drop b.length) else if a.isPrefixOf b = true then some (b.drop a.length) else none
def sp_left_of : PSp := mkSp (fun p : Tx × Tx => [dS p.1, dS p.2]) fun p Ls P => Ls = [] ∧ p.1.length ≤ 100000 ∧ p.2.length ≤ 100000 ∧ P (dO (leftOf p.1 p.2)) []
/-! left_of: one 0, other 1 -/
def T_left_of (K : PySem.W.Frag) : TS := (tSeq (tIfS (tB (tM1 rStarts (tVar 0) (tVar 1))) (tRet (tSl rSlS (tVar 0) (tPart (tCB rLnS (tCons (tVar 1) tNil))) tNoPart)) tNext)
  (tSeq (tIfS (tB (tM1 rStarts (tVar 1) (tVar 0))) (tRet (tSl rSlS (tVar 1) (tPart (tCB rLnS (tCons (tVar 0) tNil))) tNoPart)) tNext)
  (tRet (tC .non))))
variable {K : PySem.W.Frag}
theorem rd_left_of (p : Tx × Tx) (Ls : Sto) (Q : SV → Sto → Prop) (h : Ls = [] ∧ p.1.length ≤ 100000 ∧ p.2.length ≤ 100000 ∧ Q (dO (leftOf p.1 p.2)) []) : WS K (T_left_of K) (startG 2 [dS p.1, dS p.2]) Ls { nx := fun _ L => Q (.dat .none) L, rt := Q } := by
  obtain ⟨a, b⟩ := p
  obtain ⟨rfl, h1, h2, q⟩ := h
  unfold T_left_of
  refine ws_gm (Γ' := [some (dS a), some (dS b)]) rfl ?_
  walk_at "w"
  refine ⟨fun e => ?_, fun e => ?_⟩
  · walk_at "w"
    refine wn_lenS (small_sz h2) ?_
    walk_at "w"
    refine w_slS (small_sz h1) ?_
    rw [cutL_from]
    simpa [leftOf, e, dO] using q
  · walk_at "w"
    refine ⟨fun e2 => ?_, fun e2 => ?_⟩
    · walk_at "w"
      refine wn_lenS (small_sz h1) ?_
      walk_at "w"
      refine w_slS (small_sz h2) ?_
      rw [cutL_from]
      simpa [leftOf, e, e2, dO] using q
    · walk_at "w"
      simpa [leftOf, e, e2, dO] using q
/-! ### texts once each; the ends of codes -/
def insT (es : List Tx) (t : Tx) : List Tx := if t ∈ es then es else es ++ [t]
def dedup (l : List Tx) : List Tx := l.foldl insT []
theorem mem_insT {es : List Tx} {t u : Tx} : u ∈ insT es t ↔ u ∈ es ∨ u = t := by
  unfold insT
  by_cases h : t ∈ es
  · rw [if_pos h]
    exact ⟨.inl, fun z => z.elim id fun e => e ▸ h⟩
  · rw [if_neg h]; simp
theorem nd_insT {es : List Tx} {t : Tx} (h : es.Nodup) : (insT es t).Nodup := by
  unfold insT
  by_cases e : t ∈ es
  · rw [if_pos e]; exact h
  · rw [if_neg e]
    exact List.nodup_append.mpr ⟨h, by simp, fun a ha b hb z => e (by
      have : b = t := by simpa using hb
      rw [← this, ← z]; exact ha)⟩
theorem len_insT {es : List Tx} {t : Tx} : (insT es t).length ≤ es.length + 1 := by
  unfold insT
  split
  · omega
  · simp
theorem fold_insT (l : List Tx) : ∀ es : List Tx, es.Nodup → (l.foldl insT es).Nodup ∧ (l.foldl insT es).length ≤ es.length + l.length ∧ ∀ u, u ∈ l.foldl insT es ↔ u ∈ es ∨ u ∈ l := by
  induction l with
  | nil => intro es h; exact ⟨h, by simp, fun u => by simp⟩
  | cons t l ih =>
    intro es h
    obtain ⟨h1, h2, h3⟩ := ih (insT es t) (nd_insT h)
    refine ⟨h1, ?_, fun u => ?_⟩
    · have := len_insT (es := es) (t := t)
      simp only [List.foldl_cons, List.length_cons]
      omega
    · rw [List.foldl_cons, h3, mem_insT, List.mem_cons, or_assoc]
theorem mem_dedup {l : List Tx} {u : Tx} : u ∈ dedup l ↔ u ∈ l := by
  have := (fold_insT l [] List.nodup_nil).2.2 u
  simpa [dedup] using this
theorem nd_dedup (l : List Tx) : (dedup l).Nodup := (fold_insT l [] List.nodup_nil).1
theorem len_dedup (l : List Tx) : (dedup l).length ≤ l.length := by
  have := (fold_insT l [] List.nodup_nil).2.1
  simpa [dedup] using this
/-- a dict of such texts -/
def dset (es : List Tx) : List (Key × SV) := es.map fun t => (.inr (S t), dB true)
theorem key_S {t u : Tx} : ((Sum.inr (S t) : Key) = Sum.inr (S u)) ↔ t = u := ⟨fun h => S_inj (Sum.inr.inj h), fun h => by rw [h]⟩
theorem look_dset (es : List Tx) (t : Tx) : lookS (dset es) (.inr (S t)) = if t ∈ es then some (dB true) else none := by
  induction es with
  | nil => rfl
  | cons u es ih =>
    unfold lookS dset at ih ⊢
    rw [List.map_cons, List.find?_cons]
    by_cases e : u = t
    · subst e; simp
    · have : decide ((Sum.inr (S u) : Key) = Sum.inr (S t)) = false := decide_eq_false fun h => e (key_S.mp h)
      rw [this]
      dsimp only
      rw [ih]
      have e2 : ¬ t = u := fun h => e h.symm
      simp [e2]
theorem put_dset (es : List Tx) (t : Tx) : putS (dset es) (.inr (S t)) (dB true) = dset (insT es t) := by
  have any : ((dset es).any fun kv => decide (kv.1 = Sum.inr (S t))) = decide (t ∈ es) := by
    unfold dset
    induction es with
    | nil => rfl
    | cons u es ih =>
      rw [List.map_cons, List.any_cons, ih]
      by_cases e : u = t
      · subst e; simp
      · have e2 : ¬ t = u := fun h => e h.symm
        simp [S_eq, e, e2]
  unfold putS insT
  rw [any]
  by_cases h : t ∈ es
  · rw [if_pos (by simpa using h), if_pos h]
    have : ∀ l : List Tx, (dset l).map (fun kv => if kv.1 = (Sum.inr (S t) : Key) then (kv.1, dB true) else kv) = dset l := by
      intro l
      induction l with
      | nil => rfl
      | cons u l ih =>
        unfold dset at ih ⊢
        rw [List.map_cons, List.map_cons, ih]
        by_cases e : u = t
        · subst e; simp
        · simp [S_eq, e]
    exact this es
  · rw [if_neg (by simpa using h), if_neg h]
    simp [dset]
/-- books and codes -/
abbrev Bk := List (Tx × Tx)
def encP (p : Tx × Tx) : PyData := .tuple [.str (S p.1), .str (S p.2)]
def encB (b : Bk) : PyData := .list (b.map encP)

structure BkOk (b : Bk) : Prop where
  len : b.length ≤ 100
  code : ∀ p ∈ b, p.2.length ≤ 100
  ascN : ∀ p ∈ b, Asc p.1
  ascC : ∀ p ∈ b, Asc p.2
def endsC (c : Tx) : List Tx := (List.range (c.length - 1)).map fun k => c.drop (k + 1)
def allEnds (cs : List Tx) : List Tx := cs.flatMap endsC
def cods (b : Bk) : List Tx := b.map (·.2)
theorem len_endsC (c : Tx) : (endsC c).length = c.length - 1 := by simp [endsC]
theorem len_allEnds (cs : List Tx) (h : ∀ c ∈ cs, c.length ≤ 100) : (allEnds cs).length ≤ 100 * cs.length := by
  induction cs with
  | nil => simp [allEnds]
  | cons c cs ih =>
    have h1 := ih fun c hc => h c (List.mem_cons_of_mem _ hc)
    have h2 := h c List.mem_cons_self
    have h3 := len_endsC c
    simp only [allEnds, List.flatMap_cons, List.length_append, List.length_cons] at h1 ⊢
    omega
theorem mem_endsC {c t : Tx} : t ∈ endsC c ↔ ∃ k, 0 < k ∧ k < c.length ∧ t = c.drop k := by
  unfold endsC
  rw [List.mem_map]
  constructor
  · rintro ⟨k, hk, rfl⟩
    rw [List.mem_range] at hk
    exact ⟨k + 1, by omega, by omega, rfl⟩
  · rintro ⟨k, h1, h2, rfl⟩
    exact ⟨k - 1, List.mem_range.mpr (by omega), by rw [Nat.sub_add_cancel h1]⟩
theorem mem_allEnds {cs : List Tx} {t : Tx} : t ∈ allEnds cs ↔ ∃ c ∈ cs, ∃ k, 0 < k ∧ k < c.length ∧ t = c.drop k := by
  unfold allEnds
  rw [List.mem_flatMap]
  exact ⟨fun ⟨c, h1, h2⟩ => ⟨c, h1, mem_endsC.mp h2⟩, fun ⟨c, h1, h2⟩ => ⟨c, h1, mem_endsC.mpr h2⟩⟩
theorem mapmap {α β γ : Type} {f : α → β} {g : β → γ} {l : List α} : (l.map f).map g = l.map fun a => g (f a) := by rw [List.map_map]; rfl
theorem isl_dat {Ls : Sto} {β : Type} {f : β → PyData} {bs : List β} : IsL Ls (.dat (.list (bs.map f))) (bs.map fun b => .dat (f b)) := by
  show _ = _
  rw [List.map_map]; rfl
theorem wn_listDO {Ls : Sto} {P : SV → Sto → Prop} {p : Addr} {kvs : List (Key × SV)} (hm : (p, .dK kvs) ∈ Ls) (q : ∀ q, q ∉ dm Ls → P (.own q) (Ls ++ [(q, .lst (kvs.map fun kv => .dat (kD kv.1)))])) : Wn K rListD [.own p] Ls P := fun F H vs hh r Q c => by
  cases r with
  | cons r3 r4 =>
    cases r4
    obtain ⟨_, ho, e, ro⟩ := hh.own p _ hm
    cases (show _ = V.ref p from r3)
    cases ho <;> first | exact ro.elim | skip
    rename_i l
    have ro : Paired (RK K F) l kvs := ro
    have e1 : l.map (fun kv => kV kv.1) = (kvs.map (·.1)).map kV := by
      rw [← rk_keys ro, List.map_map]; rfl
    refine ⟨p, l, rfl, e, cont_owned hh c (d := .lst (kvs.map fun kv => .dat (kD kv.1))) ?_ q⟩
    rw [e1, show kvs.map (fun kv => SV.dat (kD kv.1)) = ((kvs.map (·.1)).map kD).map .dat by rw [List.map_map, List.map_map]; rfl]
    exact (kd_all _).rvs
def sp_ends_of : PSp := mkSp (fun b : Bk => [.dat (encB b)]) fun b Ls P => Ls = [] ∧ BkOk b ∧ ∀ p, P (.own p) [(p, .lst ((dedup (allEnds (cods b))).map dS))]
/-! ends_of: book 0, found 1, name 2, code 3, place 4 -/
def T_ends_of (K : PySem.W.Frag) : TS := (tSeq (tAsg tDNewK (gName 1))
  (tSeq (tFor (iList K (tVar 0)) (gTup K 2 (gCons (gName 2) (gCons (gName 3) gNil))) (tFor (iRng2 (tCons (tC (.int 1)) (tCons (tCB rLnS (tCons (tVar 3) tNil)) tNil))) (gName 4) (sDPut (tVar 1) (tSl rSlS (tVar 3) (tPart (tVar 4)) tNoPart) (tC (.bl true)))))
  (tRet (tCB rListD (tCons (tVar 1) tNil)))))
theorem rd_ends_of (b : Bk) (Ls : Sto) (Q : SV → Sto → Prop) (h : Ls = [] ∧ BkOk b ∧ ∀ p, Q (.own p) [(p, .lst ((dedup (allEnds (cods b))).map dS))]) : WS K (T_ends_of K) (startG 5 [.dat (encB b)]) Ls { nx := fun _ L => Q (.dat .none) L, rt := Q } := by
  obtain ⟨rfl, hb, q⟩ := h
  unfold T_ends_of
  refine ws_gm (Γ' := [some (.dat (encB b)), none, none, none, none]) rfl ?_
  walk_at "w"
  refine we_dnewK fun p _ => ?_
  walk_at "w"
  refine ws_for (fun c : Tx × Tx => .dat (encP c)) (wi_list ?_)
  walk_at "w"
  refine ⟨b, fun pre Γ L => ∃ y2 y3 y4, Γ = [some (.dat (encB b)), some (.own p), y2, y3, y4] ∧ L = [(p, .dK (dset (dedup (allEnds (cods pre)))))], mapmap, ⟨_, _, _, rfl, rfl⟩, ?_, ?_⟩
  · rintro pre c post Γ L eb ⟨y2, y3, y4, rfl, rfl⟩
    refine ⟨rfl, ?_⟩
    refine wg_tup (xs := [dS c.1, dS c.2]) rfl rfl ?_
    walk_at "w"
    refine ws_for (fun k : Nat => dI ((1 : Int) + (k : Int))) (wi_rng2 ?_)
    walk_at "w"
    have hc : c.2.length ≤ 100 := hb.code c (by rw [eb]; simp)
    refine wn_lenS (small_sz (by omega)) ?_
    walk_at "w"
    refine ⟨_, _, rfl, ⟨by decide, by decide, by omega, by omega⟩, List.range (c.2.length - 1), fun pk Γ L => ∃ y4, Γ = [some (.dat (encB b)), some (.own p), some (dS c.1), some (dS c.2), y4] ∧ L = [(p, .dK (dset ((pk.map fun k => c.2.drop (k + 1)).foldl insT (dedup (allEnds (cods pre))))))], ?_, ⟨_, rfl, rfl⟩, ?_, ?_⟩
    · rw [show ((c.2.length : Int) - 1).toNat = c.2.length - 1 by omega]
    · rintro pk k post2 Γ L ek ⟨y4, rfl, rfl⟩
      refine ⟨trivial, ?_⟩
      walk_at "w"
      refine w_slS (small_sz (by omega)) ?_
      rw [show (1 : Int) + (k : Int) = ((k + 1 : Nat) : Int) by omega, cutL_from]
      refine ⟨_, ⟨p, rfl, .inl ⟨_, .inr (S (c.2.drop (k + 1))), .head, rfl, ?_⟩⟩, _, rfl, ?_⟩
      · have h1 := (fold_insT (pk.map fun k => c.2.drop (k + 1)) _ (nd_dedup (allEnds (cods pre)))).2.1
        have h2 := len_dedup (allEnds (cods pre))
        have h3 := len_allEnds (cods pre) (fun t ht => by
          obtain ⟨q, hq, rfl⟩ := List.mem_map.mp ht
          exact hb.code q (by rw [eb]; simp [hq]))
        have h4 : pk.length ≤ c.2.length - 1 := by
          have := congrArg List.length ek
          simp at this; omega
        have h5 : pre.length ≤ 100 := by
          have h6 := hb.len
          have := congrArg List.length eb
          simp at this; omega
        have h7 : (cods pre).length = pre.length := by simp [cods]
        unfold dset
        rw [List.length_map] at h1 ⊢
        exact Nat.lt_of_le_of_lt (show _ ≤ 100000 by omega) (by decide)
      · rw [put_dset, List.map_append, List.foldl_append]; rfl
    · rintro Γ L ⟨y4, rfl, rfl⟩
      refine ⟨trivial, _, _, _, rfl, ?_⟩
      have e : dedup (allEnds (cods (pre ++ [c]))) = ((List.range (c.2.length - 1)).map fun k => c.2.drop (k + 1)).foldl insT (dedup (allEnds (cods pre))) := by
        have : allEnds (cods (pre ++ [c])) = allEnds (cods pre) ++ endsC c.2 := by simp [allEnds, cods]
        rw [this]
        unfold dedup
        rw [List.foldl_append]; rfl
      rw [e]
  · rintro Γ L ⟨y2, y3, y4, rfl, rfl⟩
    refine ⟨rfl, ?_⟩
    refine ws_ret (we_drp ?_)
    walk_at "w"
    refine wn_listDO (.head _) fun r _ => ⟨_, List.sublist_cons_self _ _, ?_⟩
    have e : (dset (dedup (allEnds (cods b)))).map (fun kv => SV.dat (kD kv.1)) = (dedup (allEnds (cods b))).map dS := by
      unfold dset
      rw [mapmap]; rfl
    rw [e]
    exact q r
/-! what comes behind a lag -/
def enc3 (p : Tx × Tx × Tx) : PyData := .tuple [.str (S p.1), .str (S p.2.1), .str (S p.2.2)]
def nextL (b : Bk) (l : Tx) : List (Tx × Tx × Tx) := b.filterMap fun p => (leftOf l p.2).map fun t => (p.1, p.2, t)
def sp_next_lags : PSp := mkSp (fun q : Bk × Tx => [.dat (encB q.1), dS q.2]) fun q Ls P => Ls = [] ∧ BkOk q.1 ∧ q.2.length ≤ 100 ∧ ∀ p, P (.own p) [(p, .lst ((nextL q.1 q.2).map fun t => .dat (enc3 t)))]
/-! next_lags: book 0, lag 1, found 2, name 3, code 4, left 5 -/
def T_next_lags (K : PySem.W.Frag) : TS := (tSeq (tAsg (tLst tNil) (gName 2))
  (tSeq (tFor (iList K (tVar 0)) (gTup K 2 (gCons (gName 3) (gCons (gName 4) gNil))) (tSeq (tAsg (tCall (toSp K sp_left_of) [] E0 (tCons (tVar 1) (tCons (tVar 4) tNil))) (gName 5))
  (tIfS (tTest (tOp rNoN (tVar 5) (tC .non))) (tDrop (tBM K "list" rAppend (tVar 2) (tCons (tTup (tCons (tVar 3) (tCons (tVar 4) (tCons (tVar 5) tNil)))) tNil))) tNext)))
  (tRet (tVar 2))))
theorem len_nextL (b : Bk) (l : Tx) : (nextL b l).length ≤ b.length := List.length_filterMap_le _ _
theorem rd_next_lags (q : Bk × Tx) (Ls : Sto) (Q : SV → Sto → Prop) (h : Ls = [] ∧ BkOk q.1 ∧ q.2.length ≤ 100 ∧ ∀ p, Q (.own p) [(p, .lst ((nextL q.1 q.2).map fun t => .dat (enc3 t)))]) : WS K (T_next_lags K) (startG 6 [.dat (encB q.1), dS q.2]) Ls { nx := fun _ L => Q (.dat .none) L, rt := Q } := by
  obtain ⟨b, l⟩ := q
  obtain ⟨rfl, hb, hl, q⟩ := h
  dsimp only at hb hl q
  unfold T_next_lags
  refine ws_gm (Γ' := [some (.dat (encB b)), some (dS l), none, none, none, none]) rfl ?_
  walk_at "w"
  refine we_lstO ?_
  walk_at "w"
  refine ⟨by decide, fun p _ => ?_⟩
  walk_at "w"
  refine ws_for (fun c : Tx × Tx => .dat (encP c)) (wi_list ?_)
  walk_at "w"
  refine ⟨b, fun pre Γ L => ∃ y3 y4 y5, Γ = [some (.dat (encB b)), some (dS l), some (.own p), y3, y4, y5] ∧ L = [(p, .lst ((nextL pre l).map fun t => .dat (enc3 t)))], mapmap, ⟨_, _, _, rfl, rfl⟩, ?_, ?_⟩
  · rintro pre c post Γ L eb ⟨y3, y4, y5, rfl, rfl⟩
    refine ⟨rfl, ?_⟩
    refine wg_tup (xs := [dS c.1, dS c.2]) rfl rfl ?_
    walk_at "w"
    refine we_call0 ?_
    walk_at "w"
    have hc : c.2.length ≤ 100 := hb.code c (by rw [eb]; simp)
    refine ⟨(l, c.2), rfl, rfl, by dsimp only; omega, by dsimp only; omega, rfl, ?_⟩
    walk_at "w"
    have en : nextL (pre ++ [c]) l = nextL pre l ++ ((leftOf l c.2).map fun t => (c.1, c.2, t)).toList := by
      unfold nextL
      rw [List.filterMap_append]
      cases h : leftOf l c.2 <;> simp [h]
    cases e : leftOf l c.2 with
    | none =>
      refine ⟨fun z => (by cases z), fun _ => ?_⟩
      walk_at "w"
      refine ⟨_, _, _, rfl, ?_⟩
      rw [en, e]; simp
    | some t =>
      refine ⟨fun _ => ?_, fun z => (by cases z)⟩
      walk_at "w"
      have hlen : pre.length ≤ 100 := by
        have h6 := hb.len
        have := congrArg List.length eb
        simp at this; omega
      have := len_nextL pre l
      refine wm_append (xs := (nextL pre l).map fun t => .dat (enc3 t)) (by rw [List.length_map]; exact Nat.lt_of_le_of_lt (show _ ≤ 100 by omega) (by decide)) .head ?_
      refine ⟨_, _, _, rfl, ?_⟩
      rw [en, e, List.map_append]; rfl
  · rintro Γ L ⟨y3, y4, y5, rfl, rfl⟩
    refine ⟨rfl, ?_⟩
    walk_at "w"
    exact q p
end OL

/-! FB2: lags: the plain law; lags_of. -/
namespace OL
open PySem PySem.Spec PyProof.Rows L2
local macro_rules | `(tactic| walk_at "gs") => `(tactic| first | exact GetG.z | exact SetG.z | (apply GetG.s; walk_at "gs") | (apply SetG.s; walk_at "gs"))
local macro_rules | `(tactic| walk_at "chg") => `(tactic| first | exact Chg.head | (apply Chg.tail; walk_at "chg"))
local macro_rules | `(tactic| walk_at "mem") => `(tactic| first | exact List.Mem.head _ | (apply List.Mem.tail; walk_at "mem"))
local macro_rules | `(tactic| walk_at "isl") => `(tactic| first | exact (rfl : IsL _ (.dat (.list _)) _) | walk_at "mem")
local macro_rules | `(tactic| walk_at "sz") => `(tactic| first | decide | assumption | omega | (simp; done) | (simp; omega))
local macro_rules | `(tactic| walk_at "w1") => `(tactic| first
  | (with_reducible refine ws_seq ?_) | (with_reducible refine ws_asg ?_) | (with_reducible refine ws_ret ?_) | (with_reducible refine ws_drop ?_) | (with_reducible refine ws_if ?_) | (with_reducible refine ws_next ?_) | (with_reducible refine ws_retN ?_) | (with_reducible refine ws_dput ?_) | (with_reducible refine ws_par ?_)
  | ((with_reducible refine' wv ?_ ?_); rotate_left; walk_at "gs") | ((with_reducible refine' wn ?_ ?_); rotate_left; walk_at "gs")
  | (with_reducible refine we_int ?_) | (with_reducible refine we_bl ?_) | (with_reducible refine we_non ?_)
  | (with_reducible refine we_op ?_) | (with_reducible refine we_un ?_) | (with_reducible refine we_cb ?_) | (with_reducible refine we_if ?_)
  | (with_reducible refine wa_nil ?_) | (with_reducible refine wa_cons ?_)
  | (with_reducible refine wt_and ?_) | (with_reducible refine wt_or ?_) | (with_reducible refine wt_not ?_) | (with_reducible refine wt_yes ?_)
  | (with_reducible refine we_sl ?_) | (with_reducible refine wo_no ?_) | (with_reducible refine wo_some ?_)
  | (with_reducible refine wt_test ?_) | (with_reducible refine wt_B ?_)
  | (with_reducible refine we_andV ?_) | (with_reducible refine we_orV ?_) | (with_reducible refine we_notV ?_)
  | (with_reducible refine we_dget ?_) | (with_reducible refine we_din ?_) | (with_reducible refine we_dnotin ?_)
  | (with_reducible refine we_bmL ?_) | (with_reducible refine we_bmL0 ?_) | (with_reducible refine wg_sub ?_) | (with_reducible refine wgs_cons ?_) | (with_reducible refine wgs_nil ?_)
  | (with_reducible refine w_i0 ?_) | (with_reducible refine w_b0 ?_) | (with_reducible refine w_neg ?_) | (with_reducible refine w_isN ?_) | (with_reducible refine w_notN ?_)
  | (with_reducible refine w_eqI ?_) | (with_reducible refine w_neI ?_) | (with_reducible refine w_eqS ?_) | (with_reducible refine w_neS ?_) | (with_reducible refine w_eqB ?_) | (with_reducible refine w_neB ?_)
  | (with_reducible refine we_tup ?_) | (with_reducible refine we_m1 ?_) | (with_reducible refine wm_starts ?_)
  | (with_reducible refine wn_min2 ?_) | (with_reducible refine wn_max2 ?_) | (with_reducible refine wn_int1 ?_) | (with_reducible refine wn_intB ?_))
local macro_rules | `(tactic| walk_at "w") => `(tactic| repeat (first | walk_at "w1" | (refine ⟨⟨_, rfl⟩, ?_⟩) | ((refine' ⟨⟨_, ?_⟩, ?_⟩); rotate_left; walk_at "isl") | (refine ⟨_, rfl, ?_⟩) | (refine ⟨of_decide_eq_true (Eq.refl true), _, rfl, ?_⟩)))
local macro_rules | `(tactic| walk_at "gmo") => `(tactic| first | exact gmo_name | exact gsmo_nil | (refine gsmo_cons ?_ ?_ <;> walk_at "gmo") | (refine gmo_tup ?_; walk_at "gmo"))
local macro_rules | `(tactic| walk_at "gon") => `(tactic| first | exact gon_name (by decide) | exact gson_nil | (refine gon_tup ?_; walk_at "gon") | (refine gon2 ?_ ?_ ?_ ?_ <;> first | walk_at "gmo" | walk_at "gon"))
/-! ### by length, then as texts stand -/
def llt (a b : Tx) : Prop := a.length < b.length ∨ (a.length = b.length ∧ a < b)
instance (a b : Tx) : Decidable (llt a b) := inferInstanceAs (Decidable (_ ∨ _))
theorem llt_irrefl (a : Tx) : ¬ llt a a := fun h => h.elim (fun h => Nat.lt_irrefl _ h) fun h => List.lt_irrefl _ h.2
theorem llt_trans {a b c : Tx} (h1 : llt a b) (h2 : llt b c) : llt a c := by
  rcases h1 with h1 | ⟨h1, h3⟩
  · rcases h2 with h2 | ⟨h2, h4⟩
    · exact .inl (Nat.lt_trans h1 h2)
    · exact .inl (h2 ▸ h1)
  · rcases h2 with h2 | ⟨h2, h4⟩
    · exact .inl (h1 ▸ h2)
    · exact .inr ⟨h1.trans h2, List.lt_trans h3 h4⟩
theorem llt_tri (a b : Tx) : llt a b ∨ a = b ∨ llt b a := by
  rcases Nat.lt_trichotomy a.length b.length with h | h | h
  · exact .inl (.inl h)
  · by_cases h1 : a < b
    · exact .inl (.inr ⟨h, h1⟩)
    · by_cases h2 : b < a
      · exact .inr (.inr (.inr ⟨h.symm, h2⟩))
      · exact .inr (.inl (List.le_antisymm (List.not_lt.mp h2) (List.not_lt.mp h1)))
  · exact .inr (.inr (.inl h))
def lle (a b : Tx) : Bool := !decide (llt b a)
theorem uniq {α : Type} {r : α → α → Prop} (ir : ∀ a, ¬ r a a) (tr : ∀ a b c, r a b → r b c → r a c) : ∀ {xs ys : List α}, xs.Pairwise r → ys.Pairwise r → (∀ t, t ∈ xs ↔ t ∈ ys) → xs = ys
  | [], [], _, _, _ => rfl
  | [], y :: ys, _, _, h => absurd ((h y).mpr List.mem_cons_self) (by simp)
  | x :: xs, [], _, _, h => absurd ((h x).mp List.mem_cons_self) (by simp)
  | x :: xs, y :: ys, h1, h2, h => by
    obtain ⟨a1, a2⟩ := List.pairwise_cons.mp h1
    obtain ⟨b1, b2⟩ := List.pairwise_cons.mp h2
    have e : x = y := by
      rcases List.mem_cons.mp ((h x).mp List.mem_cons_self) with e | e
      · exact e
      · rcases List.mem_cons.mp ((h y).mpr List.mem_cons_self) with e2 | e2
        · exact e2.symm
        · exact absurd (tr _ _ _ (b1 x e) (a1 y e2)) (ir _)
    subst e
    rw [uniq ir tr a2 b2 fun t => ⟨fun ht => ?_, fun ht => ?_⟩]
    · rcases List.mem_cons.mp ((h t).mp (List.mem_cons_of_mem _ ht)) with e | e
      · subst e; exact absurd (a1 _ ht) (ir _)
      · exact e
    · rcases List.mem_cons.mp ((h t).mpr (List.mem_cons_of_mem _ ht)) with e | e
      · subst e; exact absurd (b1 _ ht) (ir _)
      · exact e
def srtX (ts : List Tx) : List Tx := ts.mergeSort lle
theorem key_le (a b : Tx) : PySem.W.dataLe false lenKey (S a) (S b) = lle a b := by
  show (!PySem.W.dataLt (lenKey (S b)) (lenKey (S a))) = !decide (llt b a)
  rw [PySem.W.dataLt_pair (by simp [PySem.W.alike]) (by simp [PySem.W.alike]), PySem.W.dataLt_int, PySem.W.dataLt_str]
  simp only [S_len, S_cps, PyData.eqv, beq_iff_eq]
  congr 1
  by_cases h : b.length = a.length
  · rw [if_pos (by exact congrArg Nat.cast h)]
    by_cases h2 : S b = S a
    · have := S_inj h2
      subst this
      rw [if_pos (by simp)]
      exact (decide_eq_false (llt_irrefl b)).symm
    · rw [if_neg (by simpa using h2)]
      refine decide_eq_decide.mpr ⟨fun z => .inr ⟨h, z⟩, fun z => z.elim (fun z => absurd z (by omega)) fun z => z.2⟩
  · rw [if_neg (by intro z; exact h (by exact_mod_cast z))]
    refine decide_eq_decide.mpr ⟨fun z => .inl (by exact_mod_cast z), fun z => z.elim (fun z => by exact_mod_cast z) fun z => absurd z.1 h⟩
theorem srtL_S (ts : List Tx) : srtL (ts.map S) = (srtX ts).map S := (List.map_mergeSort (r := lle) (s := PySem.W.dataLe false lenKey) fun a _ b _ => (key_le a b).symm).symm
theorem srtX_sorted {ts : List Tx} (h : ts.Nodup) : (srtX ts).Pairwise llt := by
  have p := List.pairwise_mergeSort (le := lle) (fun a b c h1 h2 => ?_) (fun a b => ?_) ts
  · have nd : (srtX ts).Nodup := (List.mergeSort_perm ts lle).nodup_iff.mpr h
    refine (p.and nd).imp fun {a b} ⟨h1, h2⟩ => ?_
    have h1 : ¬ llt b a := by simpa [lle] using h1
    rcases llt_tri a b with z | z | z
    · exact z
    · exact absurd z h2
    · exact absurd z h1
  · have h1 : ¬ llt b a := by simpa [lle] using h1
    have h2 : ¬ llt c b := by simpa [lle] using h2
    have : ¬ llt c a := fun z => by
      rcases llt_tri a b with q | q | q
      · exact h2 (llt_trans z q)
      · subst q; exact h2 z
      · exact h1 q
    simpa [lle] using this
  · have : ¬ llt b a ∨ ¬ llt a b := by
      by_cases z : llt b a
      · exact .inr fun q => llt_irrefl _ (llt_trans z q)
      · exact .inl z
    simpa [lle] using this
theorem mem_srtX {ts : List Tx} {t : Tx} : t ∈ srtX ts ↔ t ∈ ts := List.mem_mergeSort

/-! ### lags -/
inductive Lag (cs : List Tx) : Tx → Prop
  | start {t : Tx} : t ∈ allEnds cs → Lag cs t
  | step {l c t : Tx} : Lag cs l → c ∈ cs → leftOf l c = some t → t ≠ [] → Lag cs t
theorem prefix_drop {a b : Tx} (h : b.isPrefixOf a = true) : a = b ++ a.drop b.length := (List.prefix_iff_eq_append.mp (List.isPrefixOf_iff_prefix.mp h)).symm
theorem end_drop {cs : List Tx} {l : Tx} {k : Nat} (h : l ∈ allEnds cs) (hk : k < l.length) : l.drop k ∈ allEnds cs := by
  obtain ⟨c, hc, j, h1, h2, rfl⟩ := mem_allEnds.mp h
  rw [List.length_drop] at hk
  exact mem_allEnds.mpr ⟨c, hc, j + k, by omega, by omega, by rw [List.drop_drop]⟩
theorem end_ne {cs : List Tx} {l : Tx} (h : l ∈ allEnds cs) : 0 < l.length := by
  obtain ⟨c, hc, j, h1, h2, rfl⟩ := mem_allEnds.mp h
  rw [List.length_drop]; omega
theorem left_end {cs : List Tx} {l c t : Tx} (h : l ∈ allEnds cs) (hc : c ∈ cs) (e : leftOf l c = some t) (ht : t ≠ []) : t ∈ allEnds cs := by
  unfold leftOf at e
  split at e
  · cases e
    by_cases hk : c.length < l.length
    · exact end_drop h hk
    · exact absurd (List.drop_of_length_le (by omega)) ht
  · split at e
    · cases e
      have h0 := end_ne h
      by_cases hk : l.length < c.length
      · exact mem_allEnds.mpr ⟨c, hc, l.length, h0, hk, rfl⟩
      · exact absurd (List.drop_of_length_le (by omega)) ht
    · cases e
theorem Lag.ends {cs : List Tx} {t : Tx} (h : Lag cs t) : t ∈ allEnds cs := by
  induction h with
  | start h => exact h
  | step _ hc e ht ih => exact left_end ih hc e ht
def lefts (cs : List Tx) (l : Tx) : List Tx := cs.filterMap fun c => (leftOf l c).bind fun t => if t = [] then none else some t
theorem mem_lefts {cs : List Tx} {l t : Tx} : t ∈ lefts cs l ↔ ∃ c ∈ cs, leftOf l c = some t ∧ t ≠ [] := by
  unfold lefts
  rw [List.mem_filterMap]
  refine ⟨fun ⟨c, hc, e⟩ => ?_, fun ⟨c, hc, e, ht⟩ => ⟨c, hc, by rw [e]; simp [ht]⟩⟩
  cases h : leftOf l c with
  | none => rw [h] at e; cases e
  | some u =>
    rw [h] at e
    by_cases hu : u = []
    · simp [hu] at e
    · simp [hu] at e
      subst e
      exact ⟨c, hc, h, hu⟩
/-- found: es; waiting: ws -/
structure LInv (cs es ws : List Tx) : Prop where
  nd : es.Nodup
  so : ∀ t, t ∈ es ∨ t ∈ ws → Lag cs t
  st : ∀ t ∈ allEnds cs, t ∈ es ∨ t ∈ ws
  cl : ∀ l ∈ es, ∀ t ∈ lefts cs l, t ∈ es ∨ t ∈ ws
  sz : ws.length ≤ (allEnds cs).length + es.length * cs.length
def LMu (cs es ws : List Tx) : Nat := ((allEnds cs).length - es.length) * (cs.length + 1) + ws.length
theorem LInv.len {cs es ws : List Tx} (h : LInv cs es ws) : es.length ≤ (allEnds cs).length := h.nd.length_le_of_subset fun t ht => (h.so t (.inl ht)).ends
theorem LInv.old {cs es ws : List Tx} {l : Tx} (h : LInv cs es (ws ++ [l])) (hl : l ∈ es) : LInv cs es ws ∧ LMu cs es ws < LMu cs es (ws ++ [l]) := by
  have key : ∀ t, t ∈ es ∨ t ∈ ws ++ [l] → t ∈ es ∨ t ∈ ws := fun t z => by
    rcases z with z | z
    · exact .inl z
    · rcases List.mem_append.mp z with z | z
      · exact .inr z
      · exact .inl (by rw [List.mem_singleton.mp z]; exact hl)
  have := h.sz
  refine ⟨⟨h.nd, fun t z => h.so t (z.imp id fun z => List.mem_append_left _ z), fun t ht => key t (h.st t ht), fun l hl t ht => key t (h.cl l hl t ht), by rw [List.length_append] at this; omega⟩, ?_⟩
  unfold LMu
  rw [List.length_append, List.length_singleton]; omega
theorem LInv.new {cs es ws : List Tx} {l : Tx} (h : LInv cs es (ws ++ [l])) (hl : l ∉ es) : LInv cs (es ++ [l]) (ws ++ lefts cs l) ∧ LMu cs (es ++ [l]) (ws ++ lefts cs l) < LMu cs es (ws ++ [l]) := by
  have hlag : Lag cs l := h.so l (.inr (by simp))
  have key : ∀ t, t ∈ es ∨ t ∈ ws ++ [l] → t ∈ es ++ [l] ∨ t ∈ ws ++ lefts cs l := fun t z => by
    rcases z with z | z
    · exact .inl (List.mem_append_left _ z)
    · rcases List.mem_append.mp z with z | z
      · exact .inr (List.mem_append_left _ z)
      · exact .inl (List.mem_append_right _ z)
  have nl : (lefts cs l).length ≤ cs.length := List.length_filterMap_le _ _
  have sz := h.sz
  rw [List.length_append, List.length_singleton] at sz
  have I : LInv cs (es ++ [l]) (ws ++ lefts cs l) := by
    refine ⟨List.nodup_append.mpr ⟨h.nd, by simp, fun a ha b hb e => hl (by rw [← List.mem_singleton.mp hb, ← e]; exact ha)⟩, fun t z => ?_, fun t ht => key t (h.st t ht), fun m hm t ht => ?_, ?_⟩
    · rcases z with z | z
      · rcases List.mem_append.mp z with z | z
        · exact h.so t (.inl z)
        · rw [List.mem_singleton.mp z]; exact hlag
      · rcases List.mem_append.mp z with z | z
        · exact h.so t (.inr (List.mem_append_left _ z))
        · obtain ⟨c, hc, e, ht⟩ := mem_lefts.mp z
          exact .step hlag hc e ht
    · rcases List.mem_append.mp hm with hm | hm
      · exact key t (h.cl m hm t ht)
      · rw [List.mem_singleton.mp hm] at ht
        exact .inr (List.mem_append_right _ ht)
    · rw [List.length_append, List.length_append, List.length_singleton, Nat.add_mul, Nat.one_mul]; omega
  refine ⟨I, ?_⟩
  have h1 := I.len
  rw [List.length_append, List.length_singleton] at h1
  unfold LMu
  simp only [List.length_append, List.length_singleton]
  obtain ⟨d, hd⟩ : ∃ d, (allEnds cs).length - es.length = d + 1 := ⟨(allEnds cs).length - es.length - 1, by omega⟩
  have hd2 : (allEnds cs).length - (es.length + 1) = d := by omega
  rw [hd, hd2, Nat.add_mul, Nat.one_mul]
  omega
/-- the list of all lags -/
structure Lags (cs us : List Tx) : Prop where
  so : us.Pairwise llt
  mem : ∀ t, t ∈ us ↔ Lag cs t
theorem Lags.uniq {cs us vs : List Tx} (h1 : Lags cs us) (h2 : Lags cs vs) : us = vs := OL.uniq llt_irrefl (fun _ _ _ => llt_trans) h1.so h2.so fun t => (h1.mem t).trans (h2.mem t).symm
theorem LInv.fin {cs es : List Tx} (h : LInv cs es []) : Lags cs (srtX es) := by
  refine ⟨srtX_sorted h.nd, fun t => mem_srtX.trans ⟨fun z => h.so t (.inl z), fun z => ?_⟩⟩
  induction z with
  | start z => exact (h.st _ z).resolve_right (by simp)
  | step _ hc e ht ih => exact (h.cl _ ih _ (mem_lefts.mpr ⟨_, hc, e, ht⟩)).resolve_right (by simp)
theorem LInv.init {cs ws : List Tx} (h : ∀ t, t ∈ ws ↔ t ∈ allEnds cs) (hz : ws.length ≤ (allEnds cs).length) : LInv cs [] ws :=
  ⟨List.nodup_nil, fun t z => .start ((h t).mp (z.resolve_left (by simp))), fun t z => .inr ((h t).mpr z), fun l z => absurd z (by simp), by simpa using hz⟩
theorem last_split {α : Type} {ws : List α} (h : ws ≠ []) : ∃ vs l, ws = vs ++ [l] := ⟨ws.dropLast, ws.getLast h, (List.dropLast_concat_getLast h).symm⟩
end OL

/-! FB3: lags_of. -/
namespace OL
open PySem PySem.Spec PyProof.Rows L2
local macro_rules | `(tactic| walk_at "gs") => `(tactic| first | exact GetG.z | exact SetG.z | (apply GetG.s; walk_at "gs") | (apply SetG.s; walk_at "gs"))
local macro_rules | `(tactic| walk_at "chg") => `(tactic| first | exact Chg.head | (apply Chg.tail; walk_at "chg"))
local macro_rules | `(tactic| walk_at "mem") => `(tactic| first | exact List.Mem.head _ | (apply List.Mem.tail; walk_at "mem"))
local macro_rules | `(tactic| walk_at "isl") => `(tactic| first | exact (rfl : IsL _ (.dat (.list _)) _) | walk_at "mem")
local macro_rules | `(tactic| walk_at "sz") => `(tactic| first | decide | assumption | omega | (simp; done) | (simp; omega))
local macro_rules | `(tactic| walk_at "w1") => `(tactic| first
  | (with_reducible refine ws_seq ?_) | (with_reducible refine ws_asg ?_) | (with_reducible refine ws_ret ?_) | (with_reducible refine ws_drop ?_) | (with_reducible refine ws_if ?_) | (with_reducible refine ws_next ?_) | (with_reducible refine ws_retN ?_) | (with_reducible refine ws_dput ?_) | (with_reducible refine ws_par ?_)
  | ((with_reducible refine' wv ?_ ?_); rotate_left; walk_at "gs") | ((with_reducible refine' wn ?_ ?_); rotate_left; walk_at "gs")
  | (with_reducible refine we_int ?_) | (with_reducible refine we_bl ?_) | (with_reducible refine we_non ?_)
  | (with_reducible refine we_op ?_) | (with_reducible refine we_un ?_) | (with_reducible refine we_cb ?_) | (with_reducible refine we_if ?_)
  | (with_reducible refine wa_nil ?_) | (with_reducible refine wa_cons ?_)
  | (with_reducible refine wt_and ?_) | (with_reducible refine wt_or ?_) | (with_reducible refine wt_not ?_) | (with_reducible refine wt_yes ?_)
  | (with_reducible refine we_sl ?_) | (with_reducible refine wo_no ?_) | (with_reducible refine wo_some ?_)
  | (with_reducible refine wt_test ?_) | (with_reducible refine wt_B ?_)
  | (with_reducible refine we_andV ?_) | (with_reducible refine we_orV ?_) | (with_reducible refine we_notV ?_)
  | (with_reducible refine we_dget ?_) | (with_reducible refine we_din ?_) | (with_reducible refine we_dnotin ?_)
  | (with_reducible refine we_bmL ?_) | (with_reducible refine we_bmL0 ?_) | (with_reducible refine wg_sub ?_) | (with_reducible refine wgs_cons ?_) | (with_reducible refine wgs_nil ?_)
  | (with_reducible refine w_i0 ?_) | (with_reducible refine w_b0 ?_) | (with_reducible refine w_neg ?_) | (with_reducible refine w_isN ?_) | (with_reducible refine w_notN ?_)
  | (with_reducible refine w_eqI ?_) | (with_reducible refine w_neI ?_) | (with_reducible refine w_eqS ?_) | (with_reducible refine w_neS ?_) | (with_reducible refine w_eqB ?_) | (with_reducible refine w_neB ?_)
  | (with_reducible refine we_tup ?_) | (with_reducible refine we_m1 ?_) | (with_reducible refine wm_starts ?_)
  | (with_reducible refine wn_min2 ?_) | (with_reducible refine wn_max2 ?_) | (with_reducible refine wn_int1 ?_) | (with_reducible refine wn_intB ?_))
local macro_rules | `(tactic| walk_at "w") => `(tactic| repeat (first | walk_at "w1" | (refine ⟨⟨_, rfl⟩, ?_⟩) | ((refine' ⟨⟨_, ?_⟩, ?_⟩); rotate_left; walk_at "isl") | (refine ⟨_, rfl, ?_⟩) | (refine ⟨of_decide_eq_true (Eq.refl true), _, rfl, ?_⟩)))
local macro_rules | `(tactic| walk_at "gmo") => `(tactic| first | exact gmo_name | exact gsmo_nil | (refine gsmo_cons ?_ ?_ <;> walk_at "gmo") | (refine gmo_tup ?_; walk_at "gmo"))
local macro_rules | `(tactic| walk_at "gon") => `(tactic| first | exact gon_name (by decide) | exact gson_nil | (refine gon_tup ?_; walk_at "gon") | (refine gon2 ?_ ?_ ?_ ?_ <;> first | walk_at "gmo" | walk_at "gon"))
/-! lags_of: book 0, found 1, waiting 2, lag 3, name 4, code 5, left 6 -/
abbrev q_lags_of : Str := ("lags_of" : Str) ++ ".<locals>." ++ "<lambda>"
def T_lags_of (K : PySem.W.Frag) (PT_lags_of : Addr) : TS := (tSeq (tAsg tDNewK (gName 1))
  (tSeq (tAsg (tCall (toSp K sp_ends_of) [] E0 (tCons (tVar 0) tNil)) (gName 2))
  (tSeq (tWhile (tTest (tOp rGtI (tCB (rLnL K) (tCons (tVar 2) tNil)) (tC (.int 0)))) (tSeq (tAsg (tBM0 K "list" rPop (tVar 2)) (gName 3))
  (tIfS (tB (tDNotIn (tVar 3) (tVar 1))) (tSeq (sDPut (tVar 1) (tVar 3) (tC (.bl true)))
  (tDrop (tBM K "list" rExtend (tVar 2) (tCons (tLc (iList K (tCall (toSp K sp_next_lags) [] E0 (tCons (tVar 0) (tCons (tVar 3) tNil)))) (gTup K 3 (gCons (gName 4) (gCons (gName 5) (gCons (gName 6) gNil)))) (tTest (tOp rNe (tVar 6) (tC (.str (Str.ofString ""))))) (tVar 6) [4, 5, 6]) tNil)))) tNext)))
  (tRet (tSortedLen PT_lags_of q_lags_of (tVar 1))))))
def sp_lags_of (PT : Addr) : PSp := mkSp (fun b : Bk => [.dat (encB b)]) fun b Ls P => Ls = [(PT, .tb q_lags_of)] ∧ BkOk b ∧ ∀ us p, Lags (cods b) us → P (.own p) [(PT, .tb q_lags_of), (p, .lst (us.map dS))]
variable {K : PySem.W.Frag}
theorem dset_keys (es : List Tx) : (dset es).map (·.1) = (es.map S).map Sum.inr := by unfold dset; rw [mapmap, mapmap]
theorem lefts_eq (b : Bk) (l : Tx) : (nextL b l).filterMap (fun t => if t.2.2 = [] then none else some (PyData.str (S t.2.2))) = (lefts (cods b) l).map fun t => PyData.str (S t) := by
  unfold nextL lefts cods
  rw [List.filterMap_filterMap, List.filterMap_map, List.map_filterMap]
  congr 1
  funext p
  cases h : leftOf l p.2 with
  | none => simp [Function.comp, h]
  | some t => by_cases e : t = [] <;> simp [Function.comp, h, e]
theorem cods_ok {b : Bk} (hb : BkOk b) : ∀ c ∈ cods b, c.length ≤ 100 := fun c hc => by
  obtain ⟨p, hp, rfl⟩ := List.mem_map.mp hc
  exact hb.code p hp
theorem LInv.small {cs es ws : List Tx} (h : LInv cs es ws) (h1 : cs.length ≤ 100) (h2 : ∀ c ∈ cs, c.length ≤ 100) : es.length ≤ 10000 ∧ ws.length ≤ 1010000 ∧ ∀ t, t ∈ es ∨ t ∈ ws → t.length ≤ 100 := by
  have a1 := len_allEnds cs h2
  have a2 := h.len
  have a3 := h.sz
  have a4 : es.length * cs.length ≤ 10000 * 100 := Nat.mul_le_mul (by omega) h1
  refine ⟨by omega, by omega, fun t ht => ?_⟩
  obtain ⟨c, hc, k, _, _, rfl⟩ := mem_allEnds.mp (h.so t ht).ends
  have := h2 c hc
  rw [List.length_drop]; omega
theorem rd_lags_of (PT : Addr) (b : Bk) (Ls : Sto) (Q : SV → Sto → Prop) (h : Ls = [(PT, .tb q_lags_of)] ∧ BkOk b ∧ ∀ us p, Lags (cods b) us → Q (.own p) [(PT, .tb q_lags_of), (p, .lst (us.map dS))]) : WS K (T_lags_of K PT) (startG 7 [.dat (encB b)]) Ls { nx := fun _ L => Q (.dat .none) L, rt := Q } := by
  obtain ⟨rfl, hb, q⟩ := h
  have hcl : (cods b).length ≤ 100 := by simpa [cods] using hb.len
  have hcc := cods_ok hb
  unfold T_lags_of
  refine ws_gm (Γ' := [some (.dat (encB b)), none, none, none, none, none, none]) rfl ?_
  walk_at "w"
  refine we_dnewK fun d _ => ?_
  walk_at "w"
  refine we_callp ?_
  walk_at "w"
  refine ⟨rfl, hb, fun w => ?_⟩
  walk_at "w"
  refine ws_while (fun m Γ L => ∃ es ws y3 y4 y5 y6, LInv (cods b) es ws ∧ m = LMu (cods b) es ws ∧ Γ = [some (.dat (encB b)), some (.own d), some (.own w), y3, y4, y5, y6] ∧ L = [(PT, .tb q_lags_of), (d, .dK (dset es)), (w, .lst (ws.map dS))]) ⟨_, [], dedup (allEnds (cods b)), _, _, _, _, LInv.init (fun t => mem_dedup) (len_dedup _), rfl, rfl, rfl⟩ ?_
  rintro m Γ L ⟨es, ws, y3, y4, y5, y6, hI, rfl, rfl, rfl⟩
  obtain ⟨z1, z2, z3⟩ := hI.small hcl hcc
  walk_at "w"
  refine wn_len (.tail _ (.tail _ (.head _))) ?_
  walk_at "w"
  rw [List.length_map]
  refine dec2 (fun hn => ?_) fun hn => ?_
  · obtain ⟨vs, l, rfl⟩ := last_split (ws := ws) (fun e => by rw [e] at hn; simp at hn)
    walk_at "w"
    refine wm_pop (xs := (vs ++ [l]).map dS) (sv := dS l) (by simp) (.tail (.tail .head)) ?_
    have ed : ((vs ++ [l]).map dS).dropLast = vs.map dS := by rw [List.map_append, List.map_singleton, List.dropLast_concat]
    rw [ed]
    walk_at "w"
    refine ⟨lookS (dset es) (.inr (S l)), ⟨d, rfl, .inl ⟨_, .inr (S l), .tail _ (.head _), rfl, rfl⟩⟩, ?_⟩
    rw [look_dset]
    refine ⟨_, rfl, ?_⟩
    by_cases hl : l ∈ es
    · rw [if_pos hl]
      refine ⟨fun e => (by cases e), fun _ => ?_⟩
      walk_at "w"
      obtain ⟨h1, h2⟩ := hI.old hl
      exact ⟨_, h2, es, vs, _, _, _, _, h1, rfl, rfl, rfl⟩
    · rw [if_neg hl]
      refine ⟨fun _ => ?_, fun e => (by cases e)⟩
      obtain ⟨h1, h2⟩ := hI.new hl
      obtain ⟨z4, z5, z6⟩ := h1.small hcl hcc
      walk_at "w"
      refine ⟨_, ⟨d, rfl, .inl ⟨_, .inr (S l), .tail .head, rfl, ?_⟩⟩, ?_⟩
      · unfold dset
        rw [List.length_map]
        exact Nat.lt_of_le_of_lt z1 (by decide)
      have ep : putS (dset es) (.inr (S l)) (dB true) = dset (es ++ [l]) := by rw [put_dset, insT, if_neg hl]
      rw [ep]
      refine ws_drop (we_drp ?_)
      walk_at "w"
      refine we_lcM (fun t => .dat (enc3 t)) (fun t => if t.2.2 = [] then none else some (PyData.str (S t.2.2))) (by walk_at "gmo") (by walk_at "gon") (wi_list (we_callp ?_))
      walk_at "w"
      refine ⟨(b, l), rfl, rfl, hb, z6 l (.inl (by simp)), fun r => ?_⟩
      have hn := len_nextL b l
      have hbl := hb.len
      refine ⟨_, .tail _ (.tail _ (.tail _ (.head _))), nextL b l, rfl, small_sz (by omega), .tail _ (.tail _ (.tail _ (.head _))), fun t _ => ?_, ?_⟩
      · refine wg_gm [some (.dat (encB b)), some (.own d), some (.own w), some (dS l), none, none, none] rfl ?_
        refine wg_tup (xs := [dS t.1, dS t.2.1, dS t.2.2]) rfl rfl ?_
        walk_at "w"
        refine we_lit (t := []) rfl ?_
        walk_at "w"
        refine ndec2 (fun e => ?_) fun e => ?_
        · walk_at "w"
          exact ⟨rfl, _, rfl, by rw [if_neg e]⟩
        · exact ⟨rfl, by rw [if_pos e]⟩
      · walk_at "w"
        rw [lefts_eq]
        refine wm_extend (xs := vs.map dS) (ys := (lefts (cods b) l).map dS) ?_ ?_ (.tail (.tail .head)) ?_
        · show _ = _
          rw [mapmap]
        · rw [List.length_append] at z5
          rw [List.length_map, List.length_map]
          exact Nat.le_trans z5 (by decide)
        · refine ⟨_, ?_, ⟨_, h2, es ++ [l], vs ++ lefts (cods b) l, _, _, _, _, h1, rfl, rfl, rfl⟩⟩
          rw [List.map_append]
          exact .cons₂ _ (.cons₂ _ (.cons₂ _ (.cons _ .slnil)))
  · have e : ws = [] := by
      cases ws with
      | nil => rfl
      | cons a ws => simp at hn
    subst e
    refine ws_ret (we_drp (we_sortedLen ?_))
    walk_at "w"
    refine ⟨d, dset es, es.map S, rfl, .tail _ (.head _), dset_keys es, by rw [List.length_map]; exact small_sz (by omega), fun k hk => ?_, .head _, fun p _ => ?_⟩
    · obtain ⟨t, ht, rfl⟩ := List.mem_map.mp hk
      rw [S_len]
      exact small_sz (by have := z3 t (.inl ht); omega)
    · rw [srtL_S, mapmap]
      refine ⟨_, ?_, q (srtX es) p hI.fin⟩
      exact .cons₂ _ (.cons _ (.cons _ (.cons₂ _ .slnil)))
end OL

/-! FB4: the law's own lags. -/
namespace OL
open PySem PySem.Spec PyProof.Rows L2
local macro_rules | `(tactic| walk_at "gs") => `(tactic| first | exact GetG.z | exact SetG.z | (apply GetG.s; walk_at "gs") | (apply SetG.s; walk_at "gs"))
local macro_rules | `(tactic| walk_at "chg") => `(tactic| first | exact Chg.head | (apply Chg.tail; walk_at "chg"))
local macro_rules | `(tactic| walk_at "mem") => `(tactic| first | exact List.Mem.head _ | (apply List.Mem.tail; walk_at "mem"))
local macro_rules | `(tactic| walk_at "isl") => `(tactic| first | exact (rfl : IsL _ (.dat (.list _)) _) | walk_at "mem")
local macro_rules | `(tactic| walk_at "sz") => `(tactic| first | decide | assumption | omega | (simp; done) | (simp; omega))
local macro_rules | `(tactic| walk_at "w1") => `(tactic| first
  | (with_reducible refine ws_seq ?_) | (with_reducible refine ws_asg ?_) | (with_reducible refine ws_ret ?_) | (with_reducible refine ws_drop ?_) | (with_reducible refine ws_if ?_) | (with_reducible refine ws_next ?_) | (with_reducible refine ws_retN ?_) | (with_reducible refine ws_dput ?_) | (with_reducible refine ws_par ?_)
  | ((with_reducible refine' wv ?_ ?_); rotate_left; walk_at "gs") | ((with_reducible refine' wn ?_ ?_); rotate_left; walk_at "gs")
  | (with_reducible refine we_int ?_) | (with_reducible refine we_bl ?_) | (with_reducible refine we_non ?_)
  | (with_reducible refine we_op ?_) | (with_reducible refine we_un ?_) | (with_reducible refine we_cb ?_) | (with_reducible refine we_if ?_)
  | (with_reducible refine wa_nil ?_) | (with_reducible refine wa_cons ?_)
  | (with_reducible refine wt_and ?_) | (with_reducible refine wt_or ?_) | (with_reducible refine wt_not ?_) | (with_reducible refine wt_yes ?_)
  | (with_reducible refine we_sl ?_) | (with_reducible refine wo_no ?_) | (with_reducible refine wo_some ?_)
  | (with_reducible refine wt_test ?_) | (with_reducible refine wt_B ?_)
  | (with_reducible refine we_andV ?_) | (with_reducible refine we_orV ?_) | (with_reducible refine we_notV ?_)
  | (with_reducible refine we_dget ?_) | (with_reducible refine we_din ?_) | (with_reducible refine we_dnotin ?_)
  | (with_reducible refine we_bmL ?_) | (with_reducible refine we_bmL0 ?_) | (with_reducible refine wg_sub ?_) | (with_reducible refine wgs_cons ?_) | (with_reducible refine wgs_nil ?_)
  | (with_reducible refine w_i0 ?_) | (with_reducible refine w_b0 ?_) | (with_reducible refine w_neg ?_) | (with_reducible refine w_isN ?_) | (with_reducible refine w_notN ?_)
  | (with_reducible refine w_eqI ?_) | (with_reducible refine w_neI ?_) | (with_reducible refine w_eqS ?_) | (with_reducible refine w_neS ?_) | (with_reducible refine w_eqB ?_) | (with_reducible refine w_neB ?_)
  | (with_reducible refine we_tup ?_) | (with_reducible refine we_m1 ?_) | (with_reducible refine wm_starts ?_)
  | (with_reducible refine wn_min2 ?_) | (with_reducible refine wn_max2 ?_) | (with_reducible refine wn_int1 ?_) | (with_reducible refine wn_intB ?_))
local macro_rules | `(tactic| walk_at "w") => `(tactic| repeat (first | walk_at "w1" | (refine ⟨⟨_, rfl⟩, ?_⟩) | ((refine' ⟨⟨_, ?_⟩, ?_⟩); rotate_left; walk_at "isl") | (refine ⟨_, rfl, ?_⟩) | (refine ⟨of_decide_eq_true (Eq.refl true), _, rfl, ?_⟩)))
local macro_rules | `(tactic| walk_at "gmo") => `(tactic| first | exact gmo_name | exact gsmo_nil | (refine gsmo_cons ?_ ?_ <;> walk_at "gmo") | (refine gmo_tup ?_; walk_at "gmo"))
local macro_rules | `(tactic| walk_at "gon") => `(tactic| first | exact gon_name (by decide) | exact gson_nil | (refine gon_tup ?_; walk_at "gon") | (refine gon2 ?_ ?_ ?_ ?_ <;> first | walk_at "gmo" | walk_at "gon"))
/-! l_left: _law_one 0, _law_other 1, _law_longer 2, _law_shorter 3 -/
def T_l_left (K : PySem.W.Frag) : TS := (tSeq (tAsg (tIf (tTest (tOp rGtI (tCB rLnS (tCons (tVar 0) tNil)) (tCB rLnS (tCons (tVar 1) tNil)))) (tTup (tCons (tVar 0) (tCons (tVar 1) tNil))) (tTup (tCons (tVar 1) (tCons (tVar 0) tNil)))) (gTup K 2 (gCons (gName 2) (gCons (gName 3) gNil))))
  (tRet (tIf (tTest (tOp rEq (tSl rSlS (tVar 2) tNoPart (tPart (tCB rLnS (tCons (tVar 3) tNil)))) (tVar 3))) (tSl rSlS (tVar 2) (tPart (tCB rLnS (tCons (tVar 3) tNil))) tNoPart) (tC .non))))
def sp_l_left : PSp := mkSp (fun p : Tx × Tx => [dS p.1, dS p.2]) fun p Ls P => Ls = [] ∧ p.1.length ≤ 100000 ∧ p.2.length ≤ 100000 ∧ P (dO (leftOf p.1 p.2)) []
/-! l_lags: _law_codes 0, _law_found 1, _law_waiting 2, _law_code 3, _law_place 4, _law_lag 5, _law_lefts 6, _law_left_here 7 -/
abbrev q_l_lags : Str := ("_law_lags" : Str) ++ ".<locals>." ++ "<lambda>"
def T_l_lags (K : PySem.W.Frag) (PT_l_lags : Addr) : TS := (tSeq (tPar 1 2 (tCons tDNewK (tCons (tLst tNil) tNil)))
  (tSeq (tFor (iList K (tVar 0)) (gName 3) (tDrop (tBM K "list" rExtend (tVar 2) (tCons (tLc (iRng2 (tCons (tC (.int 1)) (tCons (tCB rLnS (tCons (tVar 3) tNil)) tNil))) (gName 4) tYes (tSl rSlS (tVar 3) (tPart (tVar 4)) tNoPart) [4]) tNil))))
  (tSeq (tWhile (tTest (tOp (rNeD K) (tVar 2) (tLst tNil))) (tSeq (tAsg (tBM0 K "list" rPop (tVar 2)) (gName 5))
  (tIfS (tB (tDNotIn (tVar 5) (tVar 1))) (tSeq (sDPut (tVar 1) (tVar 5) (tC (.bl true)))
  (tSeq (tAsg (tLc (iList K (tVar 0)) (gName 3) tYes (tCall (toSp K sp_l_left) [] E0 (tCons (tVar 5) (tCons (tVar 3) tNil))) [3]) (gName 6))
  (tDrop (tBM K "list" rExtend (tVar 2) (tCons (tLc (iList K (tVar 6)) (gName 7) (tAnd (tTest (tOp rNoN (tVar 7) (tC .non))) (tTest (tOp (rNeD K) (tVar 7) (tC (.str (Str.ofString "")))))) (tVar 7) [7]) tNil))))) tNext)))
  (tRet (tSortedLen PT_l_lags q_l_lags (tVar 1))))))
def encC (cs : List Tx) : PyData := .list (cs.map strD)
structure CsOk (cs : List Tx) : Prop where
  len : cs.length ≤ 100
  code : ∀ c ∈ cs, c.length ≤ 100
  asc : ∀ c ∈ cs, Asc c
def sp_l_lags (PT : Addr) : PSp := mkSp (fun cs : List Tx => [.dat (encC cs)]) fun cs Ls P => Ls = [(PT, .tb q_l_lags)] ∧ CsOk cs ∧ ∀ us p, Lags cs us → P (.own p) [(PT, .tb q_l_lags), (p, .lst (us.map dS))]
variable {K : PySem.W.Frag}
theorem take_pre {a b : Tx} : a.take b.length = b ↔ b.isPrefixOf a = true := by
  rw [List.isPrefixOf_iff_prefix]
  exact ⟨fun h => List.prefix_iff_eq_take.mpr h.symm, fun h => (List.prefix_iff_eq_take.mp h).symm⟩
theorem pre_len {a b : Tx} (h : b.isPrefixOf a = true) : b.length ≤ a.length := (List.isPrefixOf_iff_prefix.mp h).length_le
theorem left_law1 {a b : Tx} (h : b.length < a.length) : leftOf a b = if a.take b.length = b then some (a.drop b.length) else none := by
  unfold leftOf
  by_cases e : b.isPrefixOf a = true
  · rw [if_pos e, if_pos (take_pre.mpr e)]
  · rw [if_neg e, if_neg (fun z => e (take_pre.mp z)), if_neg fun z => absurd (pre_len z) (by omega)]
theorem left_law2 {a b : Tx} (h : ¬ b.length < a.length) : leftOf a b = if b.take a.length = a then some (b.drop a.length) else none := by
  unfold leftOf
  by_cases e : b.isPrefixOf a = true
  · have hl := pre_len e
    have el : b.length = a.length := by omega
    have eq : b = a := by
      have := take_pre.mpr e
      rwa [el, List.take_length, eq_comm] at this
    subst eq
    rw [if_pos e, if_pos (by simp)]
  · rw [if_neg e]
    by_cases e2 : a.isPrefixOf b = true
    · rw [if_pos e2, if_pos (take_pre.mpr e2)]
    · rw [if_neg e2, if_neg fun z => e2 (take_pre.mp z)]
theorem rd_l_left (p : Tx × Tx) (Ls : Sto) (Q : SV → Sto → Prop) (h : Ls = [] ∧ p.1.length ≤ 100000 ∧ p.2.length ≤ 100000 ∧ Q (dO (leftOf p.1 p.2)) []) : WS K (T_l_left K) (startG 4 [dS p.1, dS p.2]) Ls { nx := fun _ L => Q (.dat .none) L, rt := Q } := by
  obtain ⟨a, b⟩ := p
  obtain ⟨rfl, h1, h2, q⟩ := h
  dsimp only at h1 h2 q
  unfold T_l_left
  refine ws_gm (Γ' := [some (dS a), some (dS b), none, none]) rfl ?_
  walk_at "w"
  refine wn_lenS (small_sz h1) ?_
  walk_at "w"
  refine wn_lenS (small_sz h2) ?_
  walk_at "w"
  have fin : ∀ x y : Tx, x.length ≤ 100000 → y.length ≤ 100000 → Q (dO (if x.take y.length = y then some (x.drop y.length) else none)) [] → WG K (gTup K 2 (gCons (gName 2) (gCons (gName 3) gNil))) (.dat (.tuple [.str (S x), .str (S y)])) [some (dS a), some (dS b), none, none] [] fun Γ2 L2 => WS K (tRet (tIf (tTest (tOp rEq (tSl rSlS (tVar 2) tNoPart (tPart (tCB rLnS (tCons (tVar 3) tNil)))) (tVar 3))) (tSl rSlS (tVar 2) (tPart (tCB rLnS (tCons (tVar 3) tNil))) tNoPart) (tC .non))) Γ2 L2 { nx := fun _ L => Q (.dat .none) L, rt := Q } := by
    intro x y hx hy q
    refine wg_tup (xs := [dS x, dS y]) rfl rfl ?_
    walk_at "w"
    refine wn_lenS (small_sz hy) ?_
    walk_at "w"
    refine w_slS (small_sz hx) ?_
    rw [cutL_to]
    walk_at "w"
    refine dec2 (fun e => ?_) fun e => ?_
    · walk_at "w"
      refine wn_lenS (small_sz hy) ?_
      walk_at "w"
      refine w_slS (small_sz hx) ?_
      rw [cutL_from]
      rw [if_pos e] at q
      exact q
    · walk_at "w"
      rw [if_neg e] at q
      exact q
  refine dec2 (fun e => ?_) fun e => ?_
  · walk_at "w"
    refine fin a b h1 h2 ?_
    rw [← left_law1 (by omega)]
    exact q
  · walk_at "w"
    refine fin b a h2 h1 ?_
    rw [← left_law2 (by omega)]
    exact q
theorem allEnds_app (cs : List Tx) (c : Tx) : allEnds (cs ++ [c]) = allEnds cs ++ endsC c := by simp [allEnds]
theorem asc_ends {cs : List Tx} (h : ∀ c ∈ cs, Asc c) {t : Tx} (ht : t ∈ allEnds cs) : Asc t := by
  obtain ⟨c, hc, k, _, _, rfl⟩ := mem_allEnds.mp ht
  exact (h c hc).drop k
def optD : Option Tx → PyData
  | some t => strD t
  | none => .none
theorem dO_opt (o : Option Tx) : dO o = .dat (optD o) := by cases o <;> rfl
theorem lefts_map (cs : List Tx) (l : Tx) : (cs.map (leftOf l)).filterMap (fun o => o.bind fun t => if t = [] then none else some (strD t)) = (lefts cs l).map strD := by
  unfold lefts
  rw [List.filterMap_map, List.map_filterMap]
  congr 1
  funext c
  cases h : leftOf l c with
  | none => simp [Function.comp, h]
  | some t => by_cases e : t = [] <;> simp [Function.comp, h, e]
theorem rd_l_lags (PT : Addr) (cs : List Tx) (Ls : Sto) (Q : SV → Sto → Prop) (h : Ls = [(PT, .tb q_l_lags)] ∧ CsOk cs ∧ ∀ us p, Lags cs us → Q (.own p) [(PT, .tb q_l_lags), (p, .lst (us.map dS))]) : WS K (T_l_lags K PT) (startG 8 [.dat (encC cs)]) Ls { nx := fun _ L => Q (.dat .none) L, rt := Q } := by
  obtain ⟨rfl, ⟨hcl, hcc, hca⟩, q⟩ := h
  unfold T_l_lags
  refine ws_gm (Γ' := [some (.dat (encC cs)), none, none, none, none, none, none, none]) rfl ?_
  walk_at "w"
  refine we_dnewK fun d _ => ?_
  walk_at "w"
  refine we_lstO ?_
  walk_at "w"
  refine ⟨by decide, fun w _ => ?_⟩
  walk_at "w"
  refine ⟨_, _, _, _, rfl, (by walk_at "gs"), (by walk_at "gs"), ?_⟩
  walk_at "w"
  refine ws_for (fun c : Tx => .dat (strD c)) (wi_list ?_)
  walk_at "w"
  refine ⟨cs, fun pre Γ L => ∃ y3 y4, Γ = [some (.dat (encC cs)), some (.own d), some (.own w), y3, y4, none, none, none] ∧ L = [(PT, .tb q_l_lags), (d, .dK []), (w, .lst ((allEnds pre).map dS))], mapmap, ⟨_, _, rfl, rfl⟩, ?_, ?_⟩
  · rintro pre c post Γ L eb ⟨y3, y4, rfl, rfl⟩
    refine ⟨rfl, ?_⟩
    have hm : c ∈ cs := by rw [eb]; simp
    have hc := hcc c hm
    walk_at "w"
    refine we_lcA (fun k : Nat => dI ((1 : Int) + (k : Int))) (fun k => strD (c.drop (k + 1))) (by walk_at "gmo") (by walk_at "gon") (wi_rng2 ?_)
    walk_at "w"
    refine wn_lenS (small_sz (by omega)) ?_
    walk_at "w"
    refine ⟨_, _, rfl, ⟨by decide, by decide, by omega, by omega⟩, List.range (c.length - 1), ?_, ?_, trivial, fun k _ => ?_, ?_⟩
    · rw [show ((c.length : Int) - 1).toNat = c.length - 1 by omega]
    · rw [List.length_range]
      exact small_sz (by omega)
    · refine wg_gm [some (.dat (encC cs)), some (.own d), some (.own w), some (dS c), none, none, none, none] rfl ?_
      walk_at "w"
      refine w_slS (small_sz (by omega)) ?_
      rw [show (1 : Int) + (k : Int) = ((k + 1 : Nat) : Int) by omega, cutL_from]
      exact ⟨rfl, rfl⟩
    · walk_at "w"
      have h1 := len_allEnds pre fun t ht => hcc t (by rw [eb]; simp [ht])
      have h2 : pre.length ≤ 100 := by
        have := congrArg List.length eb
        simp at this; omega
      refine wm_extend (xs := (allEnds pre).map dS) (ys := (endsC c).map dS) ?_ ?_ (.tail (.tail .head)) ?_
      · show _ = _
        rw [mapmap, endsC, mapmap]
      · rw [List.length_map, List.length_map, len_endsC]
        exact small_sz (by omega)
      · refine ⟨_, _, rfl, ?_⟩
        rw [allEnds_app, List.map_append]
  · rintro Γ L ⟨y3, y4, rfl, rfl⟩
    refine ⟨rfl, ?_⟩
    refine ws_seq ?_
    refine ws_while (fun m Γ L => ∃ es ws y3 y4 y5 y6 y7, LInv cs es ws ∧ m = LMu cs es ws ∧ Γ = [some (.dat (encC cs)), some (.own d), some (.own w), y3, y4, y5, y6, y7] ∧ L = [(PT, .tb q_l_lags), (d, .dK (dset es)), (w, .lst (ws.map dS))]) ⟨_, [], allEnds cs, _, _, _, _, _, LInv.init (fun t => Iff.rfl) (Nat.le_refl _), rfl, rfl, rfl⟩ ?_
    rintro m Γ L ⟨es, ws, y3, y4, y5, y6, y7, hI, rfl, rfl, rfl⟩
    obtain ⟨z1, z2, z3⟩ := hI.small hcl hcc
    walk_at "w"
    refine we_lst ?_
    walk_at "w"
    refine w_neDo (d := .list (ws.map strD)) (.inr (.inr ⟨w, ws.map strD, rfl, ?_, rfl⟩)) (.inl rfl) (Sh.shaped (n := 1) (sh_strs fun t ht => asc_ends hca (hI.so t (.inr ht)).ends) (by decide)) (by decide) ?_
    · rw [mapmap]
      exact .tail _ (.tail _ (.head _))
    rw [eqv_nil]
    refine ⟨_, rfl, ?_⟩
    refine ⟨fun hn => ?_, fun hn => ?_⟩
    · obtain ⟨vs, l, rfl⟩ := last_split (ws := ws) (fun e => by rw [e] at hn; simp at hn)
      walk_at "w"
      refine wm_pop (xs := (vs ++ [l]).map dS) (sv := dS l) (by simp) (.tail (.tail .head)) ?_
      have ed : ((vs ++ [l]).map dS).dropLast = vs.map dS := by rw [List.map_append, List.map_singleton, List.dropLast_concat]
      rw [ed]
      walk_at "w"
      refine ⟨lookS (dset es) (.inr (S l)), ⟨d, rfl, .inl ⟨_, .inr (S l), .tail _ (.head _), rfl, rfl⟩⟩, ?_⟩
      rw [look_dset]
      refine ⟨_, rfl, ?_⟩
      by_cases hl : l ∈ es
      · rw [if_pos hl]
        refine ⟨fun e => (by cases e), fun _ => ?_⟩
        walk_at "w"
        obtain ⟨h1, h2⟩ := hI.old hl
        exact ⟨_, h2, es, vs, _, _, _, _, _, h1, rfl, rfl, rfl⟩
      · rw [if_neg hl]
        refine ⟨fun _ => ?_, fun e => (by cases e)⟩
        obtain ⟨h1, h2⟩ := hI.new hl
        obtain ⟨z4, z5, z6⟩ := h1.small hcl hcc
        walk_at "w"
        refine ⟨_, ⟨d, rfl, .inl ⟨_, .inr (S l), .tail .head, rfl, ?_⟩⟩, ?_⟩
        · unfold dset
          rw [List.length_map]
          exact Nat.lt_of_le_of_lt z1 (by decide)
        have ep : putS (dset es) (.inr (S l)) (dB true) = dset (es ++ [l]) := by rw [put_dset, insT, if_neg hl]
        rw [ep]
        walk_at "w"
        refine we_lcA (fun c : Tx => .dat (strD c)) (fun c => optD (leftOf l c)) (by walk_at "gmo") (by walk_at "gon") (wi_list ?_)
        walk_at "w"
        refine ⟨cs, mapmap, small_sz (by omega), rfl, fun c hc => ?_, ?_⟩
        · refine wg_gm [some (.dat (encC cs)), some (.own d), some (.own w), none, y4, some (dS l), y6, y7] rfl ?_
          walk_at "w"
          refine we_call0 ?_
          walk_at "w"
          have hcl2 := hcc c hc
          have hll := z6 l (.inl (by simp))
          refine ⟨(l, c), rfl, rfl, by dsimp only; omega, by dsimp only; omega, rfl, rfl, ?_⟩
          exact dO_opt _
        walk_at "w"
        refine we_lcM (fun o : Option Tx => .dat (optD o)) (fun o => o.bind fun t => if t = [] then none else some (strD t)) (by walk_at "gmo") (by walk_at "gon") (wi_list ?_)
        walk_at "w"
        refine ⟨cs.map (leftOf l), by rw [mapmap, mapmap], by rw [List.length_map]; exact small_sz (by omega), rfl, fun o ho => ?_, ?_⟩
        · refine wg_gm [some (.dat (encC cs)), some (.own d), some (.own w), y3, y4, some (dS l), some (.dat (.list (cs.map fun c => optD (leftOf l c)))), none] rfl ?_
          walk_at "w"
          cases o with
          | none =>
            refine ⟨fun e => (by cases e), fun _ => ?_⟩
            exact ⟨fun e => (by cases e), fun _ => ⟨rfl, rfl⟩⟩
          | some t =>
            refine ⟨fun _ => ?_, fun e => (by cases e)⟩
            walk_at "w"
            refine we_lit (t := []) rfl ?_
            have ha : Asc t := by
              obtain ⟨c, hc, e⟩ := List.mem_map.mp ho
              by_cases ht : t = []
              · rw [ht]; exact asc_nil
              · exact asc_ends hca (left_end (hI.so l (.inr (by simp))).ends hc e ht)
            refine w_neD (Sh.shaped (n := 0) (sh_str ha) (by decide)) (Sh.shaped (n := 0) (sh_str asc_nil) (by decide)) ?_
            rw [show PyData.eqv (optD (some t)) (.str (S [])) = decide (t = []) from eqv_str t []]
            refine ⟨_, rfl, ?_⟩
            refine ndec2 (fun e => ?_) fun e => ?_
            · walk_at "w"
              refine ⟨rfl, _, rfl, ?_⟩
              show (if t = [] then none else some (strD t)) = _
              rw [if_neg e]; rfl
            · refine ⟨rfl, ?_⟩
              show (if t = [] then none else some (strD t)) = _
              rw [if_pos e]
        · walk_at "w"
          rw [lefts_map]
          refine wm_extend (xs := vs.map dS) (ys := (lefts cs l).map dS) ?_ ?_ (.tail (.tail .head)) ?_
          · show _ = _
            rw [mapmap]
          · rw [List.length_append] at z5
            rw [List.length_map, List.length_map]
            exact Nat.le_trans z5 (by decide)
          · refine ⟨_, h2, es ++ [l], vs ++ lefts cs l, _, _, _, _, _, h1, rfl, rfl, ?_⟩
            rw [List.map_append]
    · have e : ws = [] := by
        cases ws with
        | nil => rfl
        | cons a ws => simp at hn
      subst e
      refine ws_ret (we_drp (we_sortedLen ?_))
      walk_at "w"
      refine ⟨d, dset es, es.map S, rfl, .tail _ (.head _), dset_keys es, by rw [List.length_map]; exact small_sz (by omega), fun k hk => ?_, .head _, fun p _ => ?_⟩
      · obtain ⟨t, ht, rfl⟩ := List.mem_map.mp hk
        rw [S_len]
        exact small_sz (by have := z3 t (.inl ht); omega)
      · rw [srtL_S, mapmap]
        refine ⟨_, ?_, q (srtX es) p hI.fin⟩
        exact .cons₂ _ (.cons _ (.cons _ (.cons₂ _ .slnil)))
end OL

/-! FB5: the draws. -/
namespace OL
open PySem PySem.Spec PyProof.Rows L2
local macro_rules | `(tactic| walk_at "gs") => `(tactic| first | exact GetG.z | exact SetG.z | (apply GetG.s; walk_at "gs") | (apply SetG.s; walk_at "gs"))
local macro_rules | `(tactic| walk_at "chg") => `(tactic| first | exact Chg.head | (apply Chg.tail; walk_at "chg"))
local macro_rules | `(tactic| walk_at "mem") => `(tactic| first | exact List.Mem.head _ | (apply List.Mem.tail; walk_at "mem"))
local macro_rules | `(tactic| walk_at "isl") => `(tactic| first | exact (rfl : IsL _ (.dat (.list _)) _) | walk_at "mem")
local macro_rules | `(tactic| walk_at "sz") => `(tactic| first | decide | assumption | omega | (simp; done) | (simp; omega))
local macro_rules | `(tactic| walk_at "w1") => `(tactic| first
  | (with_reducible refine ws_seq ?_) | (with_reducible refine ws_asg ?_) | (with_reducible refine ws_ret ?_) | (with_reducible refine ws_drop ?_) | (with_reducible refine ws_if ?_) | (with_reducible refine ws_next ?_) | (with_reducible refine ws_retN ?_) | (with_reducible refine ws_dput ?_) | (with_reducible refine ws_par ?_)
  | ((with_reducible refine' wv ?_ ?_); rotate_left; walk_at "gs") | ((with_reducible refine' wn ?_ ?_); rotate_left; walk_at "gs")
  | (with_reducible refine we_int ?_) | (with_reducible refine we_bl ?_) | (with_reducible refine we_non ?_)
  | (with_reducible refine we_op ?_) | (with_reducible refine we_un ?_) | (with_reducible refine we_cb ?_) | (with_reducible refine we_if ?_)
  | (with_reducible refine wa_nil ?_) | (with_reducible refine wa_cons ?_)
  | (with_reducible refine wt_and ?_) | (with_reducible refine wt_or ?_) | (with_reducible refine wt_not ?_) | (with_reducible refine wt_yes ?_)
  | (with_reducible refine we_sl ?_) | (with_reducible refine wo_no ?_) | (with_reducible refine wo_some ?_)
  | (with_reducible refine wt_test ?_) | (with_reducible refine wt_B ?_)
  | (with_reducible refine we_andV ?_) | (with_reducible refine we_orV ?_) | (with_reducible refine we_notV ?_)
  | (with_reducible refine we_dget ?_) | (with_reducible refine we_din ?_) | (with_reducible refine we_dnotin ?_)
  | (with_reducible refine we_bmL ?_) | (with_reducible refine we_bmL0 ?_) | (with_reducible refine wg_sub ?_) | (with_reducible refine wgs_cons ?_) | (with_reducible refine wgs_nil ?_)
  | (with_reducible refine w_i0 ?_) | (with_reducible refine w_b0 ?_) | (with_reducible refine w_neg ?_) | (with_reducible refine w_isN ?_) | (with_reducible refine w_notN ?_)
  | (with_reducible refine w_eqI ?_) | (with_reducible refine w_neI ?_) | (with_reducible refine w_eqS ?_) | (with_reducible refine w_neS ?_) | (with_reducible refine w_eqB ?_) | (with_reducible refine w_neB ?_)
  | (with_reducible refine we_tup ?_) | (with_reducible refine we_m1 ?_) | (with_reducible refine wm_starts ?_)
  | (with_reducible refine wn_min2 ?_) | (with_reducible refine wn_max2 ?_) | (with_reducible refine wn_int1 ?_) | (with_reducible refine wn_intB ?_))
local macro_rules | `(tactic| walk_at "w") => `(tactic| repeat (first | walk_at "w1" | (refine ⟨⟨_, rfl⟩, ?_⟩) | ((refine' ⟨⟨_, ?_⟩, ?_⟩); rotate_left; walk_at "isl") | (refine ⟨_, rfl, ?_⟩) | (refine ⟨of_decide_eq_true (Eq.refl true), _, rfl, ?_⟩)))
local macro_rules | `(tactic| walk_at "gmo") => `(tactic| first | exact gmo_name | exact gsmo_nil | (refine gsmo_cons ?_ ?_ <;> walk_at "gmo") | (refine gmo_tup ?_; walk_at "gmo"))
local macro_rules | `(tactic| walk_at "gon") => `(tactic| first | exact gon_name (by decide) | exact gson_nil | (refine gon_tup ?_; walk_at "gon") | (refine gon2 ?_ ?_ ?_ ?_ <;> first | walk_at "gmo" | walk_at "gon"))
abbrev kTurn : Str := Str.ofString "turn"
abbrev kCells : Str := Str.ofString "cells"
/-- some draws on -/
structure Nx (k t : Int) (cells' : List Int) (t' : Int) : Prop where
  ne : cells' ≠ []
  lo : t ≤ t'
  hi : t' ≤ t + k
theorem Nx.trans {j k t t1 t2 : Int} {c1 c2 : List Int} (a : Nx j t c1 t1) (b : Nx k t1 c2 t2) : Nx (j + k) t c2 t2 := ⟨b.ne, Int.le_trans a.lo b.lo, by have := a.hi; have := b.hi; omega⟩
theorem Nx.mono {j k t t1 : Int} {c1 : List Int} (a : Nx j t c1 t1) (h : j ≤ k) : Nx k t c1 t1 := ⟨a.ne, a.lo, by have := a.hi; omega⟩
theorem Nx.refl {t : Int} {c : List Int} (h : c ≠ []) : Nx 0 t c t := ⟨h, Int.le_refl _, by omega⟩
/-- many more draws than there are -/
abbrev turnB : Int := 1000000000000
abbrev stK (c : Addr) (t : Int) (ex : List (Key × SV)) : List (Key × SV) := (.inr kCells, .own c) :: (.inr kTurn, dI t) :: ex
theorem key_ne : (Sum.inr kCells : Key) ≠ Sum.inr kTurn := fun h => by
  have : kCells = kTurn := Sum.inr.inj h
  exact absurd this (by decide)
theorem look_turn (c : Addr) (t : Int) (ex : List (Key × SV)) : lookS (stK c t ex) (.inr kTurn) = some (dI t) := by
  unfold lookS
  rw [List.find?_cons, decide_eq_false key_ne]
  simp
theorem look_cells (c : Addr) (t : Int) (ex : List (Key × SV)) : lookS (stK c t ex) (.inr kCells) = some (.own c) := by
  unfold lookS
  simp
theorem put_turn (c : Addr) (t t' : Int) (ex : List (Key × SV)) (hx : ∀ kv ∈ ex, kv.1 ≠ .inr kTurn) : putS (stK c t ex) (.inr kTurn) (dI t') = stK c t' ex := by
  unfold putS
  rw [if_pos (by simp)]
  rw [List.map_cons, List.map_cons, if_neg key_ne, if_pos rfl]
  congr 2
  have key : ∀ l : List (Key × SV), (∀ kv ∈ l, kv.1 ≠ .inr kTurn) → l.map (fun kv => if kv.1 = (.inr kTurn : Key) then (kv.1, dI t') else kv) = l := fun l hl => by
    induction l with
    | nil => rfl
    | cons a l ih => rw [List.map_cons, if_neg (hl a List.mem_cons_self), ih fun kv hk => hl kv (List.mem_cons_of_mem _ hk)]
  exact key ex hx
structure TkOk (cells : List Int) (t : Int) (ex : List (Key × SV)) : Prop where
  ne : cells ≠ []
  lo : 0 ≤ t
  hi : t ≤ turnB
  xk : ∀ kv ∈ ex, kv.1 ≠ .inr kTurn
  sm : ex.length ≤ 10
structure TkA where
  c : Addr
  s : Addr
  cells : List Int
  t : Int
  ex : List (Key × SV)
abbrev TkA.sto (a : TkA) : Sto := Sts a.c a.s a.cells a.t a.ex
def TkA.ok (a : TkA) : Prop := TkOk a.cells a.t a.ex
theorem map_set (l : List Int) : ∀ (k : Nat) (x : Int), (l.set k x).map dI = (l.map dI).set k (dI x) := by
  induction l with
  | nil => intro k x; rfl
  | cons a l ih =>
    intro k x
    cases k with
    | zero => rfl
    | succ k => exact congrArg (List.cons _) (ih k x)
theorem atI_map {cells : List Int} {i : Int} (h0 : 0 ≤ i) (h1 : i < cells.length) : ∃ x, atI (cells.map dI) i = some (dI x) ∧ ixN cells.length i = some i.toNat := by
  have hj : i.toNat < cells.length := by omega
  refine ⟨cells[i.toNat], ?_, ?_⟩
  · unfold atI ixN
    rw [List.length_map, if_pos h0, if_pos h1]
    show (cells.map dI)[i.toNat]? = _
    rw [List.getElem?_map, List.getElem?_eq_getElem hj]; rfl
  · unfold ixN
    rw [if_pos h0, if_pos h1]
/-! l_take: _law_state 0, _law_many 1, _law_turn 2, _law_place 3, _law_cell 4, _law_digit 5, _law_mixed 6 -/
def T_l_take (K : PySem.W.Frag) : TS := (tSeq (tAsg (tOp rAdI (tDGet (tVar 0) (tC (.str (Str.ofString "turn")))) (tC (.int 1))) (gName 2))
  (tSeq (sDPut (tVar 0) (tC (.str (Str.ofString "turn"))) (tVar 2))
  (tSeq (tAsg (tOp rMdI (tVar 2) (tCB (rLnL K) (tCons (tDGet (tVar 0) (tC (.str (Str.ofString "cells")))) tNil))) (gName 3))
  (tSeq (tAsg (tOp (rIxL K) (tDGet (tVar 0) (tC (.str (Str.ofString "cells")))) (tVar 3)) (gName 4))
  (tSeq (tIfS (tTest (tOp rGeI (tVar 4) (tOp rPwI (tC (.int 10)) (tC (.int 18))))) (tSeq (tAsg (tCB rDm (tCons (tVar 4) (tCons (tVar 1) tNil))) (gTup K 2 (gCons (gSub (tDGet (tVar 0) (tC (.str (Str.ofString "cells")))) (tVar 3) rSetL) (gCons (gName 5) gNil))))
  (tRet (tVar 5))) tNext)
  (tSeq (tAsg (tOp rMdI (tOp rMuI (tOp rAdI (tOp rAdI (tOp rMdI (tVar 4) (tC (.int 2147483563))) (tOp rMuI (tOp rMuI (tVar 2) (tVar 2)) (tC (.int 6553)))) (tC (.int 29))) (tC (.int 69621))) (tC (.int 2147483647))) (gName 6))
  (tSeq (tAsg (tOp rMdI (tOp rMuI (tVar 6) (tVar 6)) (tC (.int 2147483399))) (gName 6))
  (tRet (tOp rMdI (tOp rDvI (tOp rMdI (tOp rMuI (tOp rAdI (tVar 6) (tOp rMuI (tVar 2) (tC (.int 104723)))) (tC (.int 40692))) (tC (.int 2147483477))) (tC (.int 64))) (tVar 1))))))))))
def sp_l_take : PSp := mkSp (fun a : TkA × Int => [.own a.1.s, dI a.2]) fun a Ls P => Ls = a.1.sto ∧ a.1.ok ∧ 0 < a.2 ∧ a.2 < 1073741824 ∧
  ∀ x cells', 0 ≤ x → x < a.2 → cells' ≠ [] → P (dI x) (Sts a.1.c a.1.s cells' (a.1.t + 1) a.1.ex)
variable {K : PySem.W.Frag}
theorem rd_l_take (a : TkA × Int) (Ls : Sto) (Q : SV → Sto → Prop) (h : Ls = a.1.sto ∧ a.1.ok ∧ 0 < a.2 ∧ a.2 < 1073741824 ∧
    ∀ x cells', 0 ≤ x → x < a.2 → cells' ≠ [] → Q (dI x) (Sts a.1.c a.1.s cells' (a.1.t + 1) a.1.ex)) : WS K (T_l_take K) (startG 7 [.own a.1.s, dI a.2]) Ls { nx := fun _ L => Q (.dat .none) L, rt := Q } := by
  obtain ⟨⟨c, s, cells, t, ex⟩, n⟩ := a
  obtain ⟨rfl, ⟨hne, hlo, hhi, hex, hsm⟩, h1, h2, q⟩ := h
  dsimp only at hne hlo hhi hex hsm h1 h2 q
  unfold T_l_take
  refine ws_gm (Γ' := [some (.own s), some (dI n), none, none, none, none, none]) rfl ?_
  have hst : (s, OD.dK (stK c (t + 1) ex)) ∈ Sts c s cells (t + 1) ex := .tail _ (.head _)
  have lt : DLook (Sts c s cells t ex) (.own s) (.dat (.str kTurn)) (some (dI t)) := ⟨s, rfl, .inl ⟨_, .inr kTurn, .tail _ (.head _), rfl, (look_turn c t ex).symm⟩⟩
  have lc : DLook (Sts c s cells (t + 1) ex) (.own s) (.dat (.str kCells)) (some (.own c)) := ⟨s, rfl, .inl ⟨_, .inr kCells, hst, rfl, (look_cells c _ ex).symm⟩⟩
  walk_at "w"
  refine we_str ⟨_, lt, ?_⟩
  walk_at "w"
  refine we_str ⟨_, ⟨s, rfl, .inl ⟨_, .inr kTurn, .tail .head, rfl, ?_⟩⟩, ?_⟩
  · exact Nat.lt_of_le_of_lt (show ex.length + 1 + 1 ≤ 100 by omega) (by decide)
  rw [put_turn c t (t + 1) ex hex]
  walk_at "w"
  refine we_str ⟨_, lc, ?_⟩
  walk_at "w"
  refine wn_len (.head _) ?_
  rw [List.length_map]
  have hp : 0 < cells.length := by
    cases cells with
    | nil => exact absurd rfl hne
    | cons a l => simp
  refine w_i (show (0 : Int) < cells.length by omega) ?_
  have i0 : 0 ≤ (t + 1) % (cells.length : Int) := Int.emod_nonneg _ (by omega)
  have i1 : (t + 1) % (cells.length : Int) < cells.length := Int.emod_lt_of_pos _ (by omega)
  generalize (t + 1) % (cells.length : Int) = i at i0 i1
  obtain ⟨x, e1, e2⟩ := atI_map (cells := cells) i0 i1
  walk_at "w"
  refine we_str ⟨_, lc, ?_⟩
  walk_at "w"
  refine w_ixL (.head _) e1 ?_
  walk_at "w"
  refine w_i (by exact ⟨by decide, by decide, by decide⟩) ?_
  walk_at "w"
  refine dec2 (fun _ => ?_) fun _ => ?_
  · walk_at "w"
    refine wn_divmodW (cdivp h1 h2) ?_
    walk_at "w"
    refine wg_tup (xs := [dI (x / n), dI (x % n)]) rfl rfl ?_
    walk_at "w"
    refine we_str ⟨_, lc, ?_⟩
    walk_at "w"
    refine wset_l (by rw [List.length_map]; exact e2) .head ?_
    walk_at "w"
    rw [← map_set]
    exact q _ _ (Int.emod_nonneg _ (by omega)) (Int.emod_lt_of_pos _ h1) (by
      intro z
      have := congrArg List.length z
      rw [List.length_set] at this
      simp at this
      exact hne this)
  · walk_at "w"
    refine w_i (show (0 : Int) < 2147483563 by decide) ?_
    walk_at "w"
    have tb : (t + 1) < 2 ^ 64 := by have : turnB = 1000000000000 := rfl; omega
    have tl : -(2 ^ 64) < t + 1 := by omega
    refine w_i (.inl ⟨tl, tb⟩) ?_
    walk_at "w"
    refine w_i (.inr ⟨by decide, by decide⟩) ?_
    walk_at "w"
    refine w_i (.inr ⟨by decide, by decide⟩) ?_
    walk_at "w"
    refine w_i (show (0 : Int) < 2147483647 by decide) ?_
    generalize ha : ((x % 2147483563 + (t + 1) * (t + 1) * 6553 + 29) * 69621) % 2147483647 = a
    have a0 : 0 ≤ a := by rw [← ha]; exact Int.emod_nonneg _ (by decide)
    have a1 : a < 2147483647 := by rw [← ha]; exact Int.emod_lt_of_pos _ (by decide)
    walk_at "w"
    refine w_i (.inl ⟨by omega, by omega⟩) ?_
    walk_at "w"
    refine w_i (show (0 : Int) < 2147483399 by decide) ?_
    walk_at "w"
    refine w_i (.inr ⟨by decide, by decide⟩) ?_
    walk_at "w"
    refine w_i (.inr ⟨by decide, by decide⟩) ?_
    walk_at "w"
    refine w_i (show (0 : Int) < 2147483477 by decide) ?_
    walk_at "w"
    refine w_i (show CDiv _ 64 from ⟨by decide, by decide⟩) ?_
    walk_at "w"
    refine w_i h1 ?_
    exact q _ _ (Int.emod_nonneg _ (by omega)) (Int.emod_lt_of_pos _ h1) hne
end OL

/-! FB6: the beginning, names. -/
namespace OL
open PySem PySem.Spec PyProof.Rows L2
local macro_rules | `(tactic| walk_at "gs") => `(tactic| first | exact GetG.z | exact SetG.z | (apply GetG.s; walk_at "gs") | (apply SetG.s; walk_at "gs"))
local macro_rules | `(tactic| walk_at "chg") => `(tactic| first | exact Chg.head | (apply Chg.tail; walk_at "chg"))
local macro_rules | `(tactic| walk_at "mem") => `(tactic| first | exact List.Mem.head _ | (apply List.Mem.tail; walk_at "mem"))
local macro_rules | `(tactic| walk_at "isl") => `(tactic| first | exact (rfl : IsL _ (.dat (.list _)) _) | walk_at "mem")
local macro_rules | `(tactic| walk_at "sz") => `(tactic| first | decide | assumption | omega | (simp; done) | (simp; omega))
local macro_rules | `(tactic| walk_at "w1") => `(tactic| first
  | (with_reducible refine ws_seq ?_) | (with_reducible refine ws_asg ?_) | (with_reducible refine ws_ret ?_) | (with_reducible refine ws_drop ?_) | (with_reducible refine ws_if ?_) | (with_reducible refine ws_next ?_) | (with_reducible refine ws_retN ?_) | (with_reducible refine ws_dput ?_) | (with_reducible refine ws_par ?_)
  | ((with_reducible refine' wv ?_ ?_); rotate_left; walk_at "gs") | ((with_reducible refine' wn ?_ ?_); rotate_left; walk_at "gs")
  | (with_reducible refine we_int ?_) | (with_reducible refine we_bl ?_) | (with_reducible refine we_non ?_)
  | (with_reducible refine we_op ?_) | (with_reducible refine we_un ?_) | (with_reducible refine we_cb ?_) | (with_reducible refine we_if ?_)
  | (with_reducible refine wa_nil ?_) | (with_reducible refine wa_cons ?_)
  | (with_reducible refine wt_and ?_) | (with_reducible refine wt_or ?_) | (with_reducible refine wt_not ?_) | (with_reducible refine wt_yes ?_)
  | (with_reducible refine we_sl ?_) | (with_reducible refine wo_no ?_) | (with_reducible refine wo_some ?_)
  | (with_reducible refine wt_test ?_) | (with_reducible refine wt_B ?_)
  | (with_reducible refine we_andV ?_) | (with_reducible refine we_orV ?_) | (with_reducible refine we_notV ?_)
  | (with_reducible refine we_dget ?_) | (with_reducible refine we_din ?_) | (with_reducible refine we_dnotin ?_)
  | (with_reducible refine we_bmL ?_) | (with_reducible refine we_bmL0 ?_) | (with_reducible refine wg_sub ?_) | (with_reducible refine wgs_cons ?_) | (with_reducible refine wgs_nil ?_)
  | (with_reducible refine w_i0 ?_) | (with_reducible refine w_b0 ?_) | (with_reducible refine w_neg ?_) | (with_reducible refine w_isN ?_) | (with_reducible refine w_notN ?_)
  | (with_reducible refine w_eqI ?_) | (with_reducible refine w_neI ?_) | (with_reducible refine w_eqS ?_) | (with_reducible refine w_neS ?_) | (with_reducible refine w_eqB ?_) | (with_reducible refine w_neB ?_)
  | (with_reducible refine we_tup ?_) | (with_reducible refine we_m1 ?_) | (with_reducible refine wm_starts ?_)
  | (with_reducible refine wn_min2 ?_) | (with_reducible refine wn_max2 ?_) | (with_reducible refine wn_int1 ?_) | (with_reducible refine wn_intB ?_))
local macro_rules | `(tactic| walk_at "w") => `(tactic| repeat (first | walk_at "w1" | (refine ⟨⟨_, rfl⟩, ?_⟩) | ((refine' ⟨⟨_, ?_⟩, ?_⟩); rotate_left; walk_at "isl") | (refine ⟨_, rfl, ?_⟩) | (refine ⟨of_decide_eq_true (Eq.refl true), _, rfl, ?_⟩)))
local macro_rules | `(tactic| walk_at "gmo") => `(tactic| first | exact gmo_name | exact gsmo_nil | (refine gsmo_cons ?_ ?_ <;> walk_at "gmo") | (refine gmo_tup ?_; walk_at "gmo"))
local macro_rules | `(tactic| walk_at "gon") => `(tactic| first | exact gon_name (by decide) | exact gson_nil | (refine gon_tup ?_; walk_at "gon") | (refine gon2 ?_ ?_ ?_ ?_ <;> first | walk_at "gmo" | walk_at "gon"))
variable {K : PySem.W.Frag}
/-- k draws more may be made -/
structure DrOk (k : Int) (cells : List Int) (t : Int) (ex : List (Key × SV)) : Prop where
  ne : cells ≠ []
  lo : 0 ≤ t
  hi : t + k ≤ turnB
  xk : ∀ kv ∈ ex, kv.1 ≠ .inr kTurn
  sm : ex.length ≤ 10
theorem DrOk.tk {k t : Int} {cells : List Int} {ex : List (Key × SV)} (h : DrOk k cells t ex) (h0 : 0 ≤ k) : TkOk cells t ex := ⟨h.ne, h.lo, by have := h.hi; omega, h.xk, h.sm⟩
theorem DrOk.nx {k j t t' : Int} {cells cells' : List Int} {ex : List (Key × SV)} (h : DrOk (j + k) cells t ex) (n : Nx j t cells' t') : DrOk k cells' t' ex := ⟨n.ne, Int.le_trans h.lo n.lo, by have := h.hi; have := n.hi; omega, h.xk, h.sm⟩
theorem DrOk.less {k j t : Int} {cells : List Int} {ex : List (Key × SV)} (h : DrOk k cells t ex) (e : j ≤ k) : DrOk j cells t ex := ⟨h.ne, h.lo, by have := h.hi; omega, h.xk, h.sm⟩
theorem we_take {Γ : Gm} {c s : Addr} {cells : List Int} {t n : Int} {ex : List (Key × SV)} {Ls Lf : Sto} {te : TE} {i : Nat} {P : SV → Sto → Prop} (e : Ls = Sts c s cells t ex ++ Lf) (hg : GetG Γ i (.own s)) (hn : WE K te Γ Ls fun x L => x = dI n ∧ L = Sts c s cells t ex ++ Lf) (ok : DrOk 1 cells t ex) (h1 : 0 < n) (h2 : n < 1073741824)
    (p : ∀ x cells', 0 ≤ x → x < n → cells' ≠ [] → P (dI x) (Sts c s cells' (t + 1) ex ++ Lf)) : WE K (tCall (toSp K sp_l_take) [] E0 (tCons (tVar i) (tCons te tNil))) Γ Ls P := by
  refine we_call (wa_cons (wv hg (wa_cons (hn.mono fun x L ⟨e1, e2⟩ => wa_nil ?_))))
  subst e1; subst e2
  exact ⟨Sts c s cells t ex, Lf, rfl, ⟨(⟨c, s, cells, t, ex⟩, n), rfl, rfl, ok.tk (by decide), h1, h2, fun x cells' a b d => p x cells' a b d⟩⟩
theorem nx1 {t : Int} {c : List Int} (h : c ≠ []) : Nx 1 t c (t + 1) := ⟨h, by omega, Int.le_refl _⟩
/-! names -/
def lets : Tx := (List.range 26).map (· + 97)
/-- the k-th name ends with the k-th letter -/
structure NmOk (ns : List Tx) : Prop where
  len : ∀ n ∈ ns, n.length ≤ 8
  asc : ∀ n ∈ ns, Asc n
  last : ∀ (k : Nat) (n : Tx), ns[k]? = some n → n.getLast? = some (97 + k)
theorem NmOk.nodup {ns : List Tx} (h : NmOk ns) : ns.Nodup := by
  refine List.pairwise_iff_getElem.mpr fun i j hi hj hij e => ?_
  have h1 := h.last i _ (List.getElem?_eq_getElem hi)
  have h2 := h.last j _ (List.getElem?_eq_getElem hj)
  rw [e, h2] at h1
  have := Option.some.inj h1
  omega
theorem nm_nil : NmOk [] := ⟨fun n h => (by cases h), fun n h => (by cases h), fun k n h => (by simp at h)⟩
theorem NmOk.snoc {ns : List Tx} {cs : Tx} {k : Nat} (h : NmOk ns) (e : k = ns.length) (hk : k < 26) (hl : cs.length ≤ 7) (hc : ∀ c ∈ cs, c < 128) : NmOk (ns ++ [cs ++ [97 + k]]) := by
  refine ⟨fun n hn => ?_, fun n hn => ?_, fun j n hj => ?_⟩
  · rcases List.mem_append.mp hn with hn | hn
    · exact h.len n hn
    · rw [List.mem_singleton.mp hn, List.length_append, List.length_singleton]; omega
  · rcases List.mem_append.mp hn with hn | hn
    · exact h.asc n hn
    · rw [List.mem_singleton.mp hn]
      exact Asc.app hc fun c hc => by rw [List.mem_singleton.mp hc]; omega
  · by_cases hj2 : j < ns.length
    · rw [List.getElem?_append_left hj2] at hj
      exact h.last j n hj
    · have hj3 : j = ns.length := by
        have := (List.getElem?_eq_some_iff.mp hj).1
        rw [List.length_append, List.length_singleton] at this
        omega
      subst hj3
      rw [List.getElem?_append_right (Nat.le_refl _), Nat.sub_self] at hj
      have hj : some (cs ++ [97 + k]) = some n := hj
      rw [← Option.some.inj hj, e]
      simp
theorem sum1 : ∀ cs : Tx, (cs.map fun a : Nat => [a].length).sum = cs.length
  | [] => rfl
  | a :: cs => by rw [List.map_cons, List.sum_cons, sum1 cs]; exact Nat.add_comm 1 _
theorem flat1 : ∀ cs : Tx, (cs.map fun ch : Nat => [ch]).flatten = cs
  | [] => rfl
  | a :: cs => by rw [List.map_cons, List.flatten_cons, flat1 cs]; rfl
/-! l_names: _law_state 0, _law_many 1, _law_letters 2, _law_found 3, _law_k 4, _law_j 5 -/
def T_l_names (K : PySem.W.Frag) : TS := (tSeq (tAsg (tC (.str (Str.ofString "abcdefghijklmnopqrstuvwxyz"))) (gName 2))
  (tSeq (tAsg (tLst tNil) (gName 3))
  (tSeq (tFor (iRng1 (tCons (tVar 1) tNil)) (gName 4) (tDrop (tBM K "list" rAppend (tVar 3) (tCons (tOp rAdS (tM1 (rJoin K) (tC (.str (Str.ofString ""))) (tLc (iRng1 (tCons (tCall (toSp K sp_l_take) [] E0 (tCons (tVar 0) (tCons (tC (.int 8)) tNil))) tNil)) (gName 5) tYes (tOp rIxS (tVar 2) (tCall (toSp K sp_l_take) [] E0 (tCons (tVar 0) (tCons (tC (.int 26)) tNil)))) [5])) (tOp rIxS (tVar 2) (tVar 4))) tNil))))
  (tRet (tVar 3)))))
def sp_l_names : PSp := mkSp (fun a : TkA × Nat => [.own a.1.s, dI (a.2 : Int)]) fun a Ls P => Ls = a.1.sto ∧ DrOk (8 * a.2) a.1.cells a.1.t a.1.ex ∧ a.2 ≤ 26 ∧
  ∀ p ns cells' t', ns.length = a.2 → NmOk ns → Nx (8 * a.2) a.1.t cells' t' → P (.own p) (Sts a.1.c a.1.s cells' t' a.1.ex ++ [(p, .lst (ns.map dS))])
theorem lets_lit : Str.ofString "abcdefghijklmnopqrstuvwxyz" = S lets := by decide
theorem lets_at {i : Int} (h0 : 0 ≤ i) (h1 : i < 26) : atI lets i = some (97 + i.toNat) := by
  have h : i.toNat < 26 := by omega
  unfold atI ixN
  rw [if_pos h0, if_pos (show i < (lets.length : Int) by exact h1)]
  show lets[i.toNat]? = _
  unfold lets
  rw [List.getElem?_map, List.getElem?_range h, Option.map_some, Nat.add_comm]
theorem rd_l_names (a : TkA × Nat) (Ls : Sto) (Q : SV → Sto → Prop) (h : Ls = a.1.sto ∧ DrOk (8 * a.2) a.1.cells a.1.t a.1.ex ∧ a.2 ≤ 26 ∧
    ∀ p ns cells' t', ns.length = a.2 → NmOk ns → Nx (8 * a.2) a.1.t cells' t' → Q (.own p) (Sts a.1.c a.1.s cells' t' a.1.ex ++ [(p, .lst (ns.map dS))])) : WS K (T_l_names K) (startG 6 [.own a.1.s, dI (a.2 : Int)]) Ls { nx := fun _ L => Q (.dat .none) L, rt := Q } := by
  obtain ⟨⟨c, s, cells, t, ex⟩, n⟩ := a
  obtain ⟨rfl, hd, hn, q⟩ := h
  dsimp only at hd hn q
  unfold T_l_names
  refine ws_gm (Γ' := [some (.own s), some (dI n), none, none, none, none]) rfl ?_
  walk_at "w"
  refine we_lit lets_lit ?_
  walk_at "w"
  refine we_lstO ?_
  walk_at "w"
  refine ⟨by decide, fun p _ => ?_⟩
  walk_at "w"
  refine ws_for (fun k : Nat => dI ((0 : Int) + (k : Int))) (wi_rng1 (wa_cons (wv (by walk_at "gs") (wa_nil ?_))))
  refine ⟨_, rfl, ⟨by omega, by omega⟩, List.range n, fun pre Γ L => ∃ y4 y5 cells' t' ns, Γ = [some (.own s), some (dI n), some (dS lets), some (.own p), y4, y5] ∧ L = Sts c s cells' t' ex ++ [(p, .lst (ns.map dS))] ∧ Nx (8 * pre.length) t cells' t' ∧ ns.length = pre.length ∧ NmOk ns, ?_, ?_, ?_, ?_⟩
  · rw [Int.toNat_natCast]
  · exact ⟨_, _, cells, t, [], rfl, rfl, Nx.refl hd.ne, rfl, nm_nil⟩
  · rintro pre k post Γ L ek ⟨y4, y5, cells1, t1, ns, rfl, rfl, hx, hl, hk⟩
    refine ⟨trivial, ?_⟩
    have hlen : pre.length + 1 ≤ n := by
      have := congrArg List.length ek
      simp at this; omega
    have hkk : k = pre.length := by
      have := congrArg (·[pre.length]?) ek
      simp [List.getElem?_append_right, List.getElem?_range (show pre.length < n by omega)] at this
      exact this.symm
    have d1 : DrOk 8 cells1 t1 ex := (hd.less (by omega : 8 * (pre.length : Int) + 8 ≤ _)).nx hx
    walk_at "w"
    refine we_lit (t := []) rfl ⟨⟨_, rfl⟩, ?_⟩
    refine we_lcF (fun k : Nat => dI ((0 : Int) + (k : Int))) (by walk_at "gmo") (by walk_at "gon") (wi_rng1 (wa_cons (we_take (c := c) (s := s) (cells := cells1) (t := t1) (n := 8) (ex := ex) (Lf := [(p, .lst (ns.map dS))]) rfl (by walk_at "gs") (we_int ⟨rfl, rfl⟩) (d1.less (by decide)) (by decide) (by decide) fun m cells2 m0 m1 hne => wa_nil ?_)))
    refine ⟨m, rfl, ⟨by omega, by omega⟩, List.range m.toNat, fun pk acc L => ∃ cs cells' t', acc = cs.map (fun ch : Nat => dS [ch]) ∧ cs.length = pk.length ∧ (∀ ch ∈ cs, ch < 128) ∧ Nx (1 + pk.length) t1 cells' t' ∧ L = Sts c s cells' t' ex ++ [(p, .lst (ns.map dS))], rfl, by rw [List.length_range]; exact small_sz (by omega), ⟨[], cells2, t1 + 1, rfl, rfl, fun ch h => (by cases h), (nx1 hne).mono (by omega), rfl⟩, ?_, ?_⟩
    · rintro pk j post2 acc L ej _ ⟨cs, cells3, t3, rfl, hcs, hca, hx3, rfl⟩
      refine ⟨trivial, ?_⟩
      have hpk : pk.length + 1 ≤ 7 := by
        have := congrArg List.length ej
        simp at this; omega
      refine wg_gm [some (.own s), some (dI n), some (dS lets), some (.own p), some (dI ((0 : Int) + (k : Int))), none] rfl ?_
      walk_at "w"
      refine ⟨fun _ => ?_, fun e => (by cases e)⟩
      refine we_op (wv (by walk_at "gs") (we_take (c := c) (s := s) (cells := cells3) (t := t3) (n := 26) (ex := ex) (Lf := [(p, .lst (ns.map dS))]) rfl (by walk_at "gs") (we_int ⟨rfl, rfl⟩) ((d1.less (by omega : (1 + (pk.length : Int)) + 1 ≤ 8)).nx hx3) (by decide) (by decide) fun m cells4 m0 m1 hne => ?_))
      refine w_ixS (small_sz (by decide)) (lets_at m0 m1) ?_
      refine ⟨cs ++ [97 + m.toNat], cells4, t3 + 1, by rw [List.map_append]; rfl, by rw [List.length_append, List.length_append, hcs]; rfl, fun ch hch => ?_, (hx3.trans (nx1 hne)).mono (by rw [List.length_append, List.length_singleton]; omega), rfl⟩
      rcases List.mem_append.mp hch with h | h
      · exact hca ch h
      · rw [List.mem_singleton.mp h]; omega
    · rintro acc L _ ⟨cs, cells3, t3, rfl, hcs, hca, hx3, rfl⟩
      refine ⟨trivial, cs.map (fun ch => strD [ch]), ?_, ?_⟩
      · rw [← datsOf_map, mapmap]
      rw [List.length_range] at hcs hx3
      refine wm_join (ts := cs.map fun ch => [ch]) (by rw [mapmap]; exact isl_dat) ?_ ?_
      · rw [mapmap]
        rw [sum1]; omega
      rw [flat1]
      walk_at "w"
      refine w_ixS (small_sz (by decide)) (lets_at (by omega) (by omega)) ?_
      rw [show ((0 : Int) + (k : Int)).toNat = k by omega]
      refine w_addS (small_sz (by rw [List.length_singleton]; omega)) ?_
      walk_at "w"
      refine wm_append (xs := ns.map dS) (by rw [List.length_map]; exact Nat.lt_of_le_of_lt (show ns.length ≤ 100 by omega) (by decide)) (.tail (.tail .head)) ?_
      refine ⟨_, _, cells3, t3, ns ++ [cs ++ [97 + k]], rfl, by rw [List.map_append]; rfl, (hx.trans hx3).mono ?_, by rw [List.length_append, List.length_append, hl]; rfl, hk.snoc (by omega) (by omega) (by omega) hca⟩
      rw [List.length_append, List.length_singleton]
      omega
  · rintro Γ L ⟨y4, y5, cells', t', ns, rfl, rfl, hx, hl, hk⟩
    refine ⟨trivial, ?_⟩
    walk_at "w"
    rw [List.length_range] at hx hl
    exact q p ns cells' t' hl hk hx
/-! the beginning -/
/-! l_begin: _law_script 0, _law_cells 1 -/
def T_l_begin (K : PySem.W.Frag) : TS := (tSeq (tAsg (tCB (rListO K) (tCons (tSl (rSlL K) (tVar 0) tNoPart (tPart (tC (.int 63)))) tNil)) (gName 1))
  (tSeq (tIfS (tTest (tOp (rEqD K) (tVar 1) (tLst tNil))) (tAsg (tLst (tCons (tC (.int 11)) tNil)) (gName 1)) tNext)
  (tRet (tDisp (((tC (.str (Str.ofString "cells"))), (tVar 1)) :: (((tC (.str (Str.ofString "turn"))), (tC (.int 0))) :: []))))))
def sp_l_begin : PSp := mkSp (fun ns : List Int => [.wr (.list (ns.map .int))]) fun _ Ls P => Ls = [] ∧ ∀ c s cells, cells ≠ [] → P (.own s) (Sts c s cells 0 [])
theorem sh_ints {n : Nat} (is : List Int) : Sh (n + 1) (.list (is.map .int)) := sh_list fun d hd => by
  obtain ⟨i, _, rfl⟩ := List.mem_map.mp hd
  exact sh_int i
theorem we_begin {Γ : Gm} {c : Addr} {cells : List Int} {P : SV → Sto → Prop} {i : Nat} (hg : GetG Γ i (.own c)) (hne : cells ≠ []) (q : ∀ s, P (.own s) (Sts c s cells 0 [])) : WE K (tDisp ((tC (.str (Str.ofString "cells")), tVar i) :: (tC (.str (Str.ofString "turn")), tC (.int 0)) :: [])) Γ [(c, .lst (cells.map dI))] P := by
  refine we_disp fun s _ => wp_cons (we_str (wv hg (wp_cons (we_str (we_int (wp_nil ?_))))))
  exact ⟨[(.inr kCells, .own c), (.inr kTurn, dI 0)], _, rfl, (by show 2 ≤ 15; decide), .tail .head, q s⟩
theorem rd_l_begin (ns : List Int) (Ls : Sto) (Q : SV → Sto → Prop) (h : Ls = [] ∧ ∀ c s cells, cells ≠ [] → Q (.own s) (Sts c s cells 0 [])) : WS K (T_l_begin K) (startG 2 [.wr (.list (ns.map .int))]) Ls { nx := fun _ L => Q (.dat .none) L, rt := Q } := by
  obtain ⟨rfl, q⟩ := h
  unfold T_l_begin
  refine ws_gm (Γ' := [some (.wr (.list (ns.map .int))), none]) rfl ?_
  walk_at "w"
  refine w_slW ?_
  generalize cutL ns none (some 63) = is
  walk_at "w"
  refine wn_list (xs := is.map dI) (.inl isl_dat) fun c _ => ?_
  walk_at "w"
  refine we_lst ?_
  walk_at "w"
  refine w_eqDo (d := .list (is.map .int)) (.inr (.inr ⟨c, is.map .int, rfl, ?_, rfl⟩)) (.inl rfl) (Sh.shaped (n := 1) (sh_ints is) (by decide)) (by decide) ?_
  · rw [mapmap]
    exact .head _
  rw [eqv_nil]
  refine ⟨_, rfl, fun e => ?_, fun e => ?_⟩
  · walk_at "w"
    refine we_lstO ?_
    walk_at "w"
    refine ⟨by decide, fun c2 _ => ?_⟩
    walk_at "w"
    refine we_drp0 (A := [(c2, .lst ([11].map dI))]) (.cons _ (.cons₂ _ .slnil)) ?_
    exact we_begin (by walk_at "gs") (by decide) fun s => q c2 s _ (by decide)
  · walk_at "w"
    have hne : is ≠ [] := fun z => by rw [z] at e; cases e
    exact we_begin (by walk_at "gs") hne fun s => q c s _ hne
/-! sizes -/
abbrev kGreat : Str := Str.ofString "great"
/-- what else the state holds: nothing, or that a great book was drawn -/
def ExOk (ex : List (Key × SV)) : Prop := ex = [] ∨ ex = [(.inr kGreat, dI 1)]
/-! l_sizes: _law_state 0, _law_way 1 -/
def T_l_sizes (K : PySem.W.Frag) : TS := (tSeq (tAsg (tCall (toSp K sp_l_take) [] E0 (tCons (tVar 0) (tCons (tC (.int 16)) tNil))) (gName 1))
  (tSeq (tIfS (tAnd (tTest (tOp rEq (tVar 1) (tC (.int 15)))) (tB (tDNotIn (tC (.str (Str.ofString "great"))) (tVar 0)))) (tSeq (sDPut (tVar 0) (tC (.str (Str.ofString "great"))) (tC (.int 1)))
  (tRet (tTup (tCons (tOp rAdI (tC (.int 9)) (tCall (toSp K sp_l_take) [] E0 (tCons (tVar 0) (tCons (tC (.int 4)) tNil)))) (tCons (tOp rAdI (tC (.int 9)) (tCall (toSp K sp_l_take) [] E0 (tCons (tVar 0) (tCons (tC (.int 4)) tNil)))) tNil))))) tNext)
  (tSeq (tIfS (tTest (tOp (rIn K false) (tVar 1) (tTup (tCons (tC (.int 5)) (tCons (tC (.int 13)) tNil))))) (tRet (tTup (tCons (tOp rAdI (tC (.int 2)) (tCall (toSp K sp_l_take) [] E0 (tCons (tVar 0) (tCons (tC (.int 7)) tNil)))) (tCons (tOp rAdI (tC (.int 2)) (tCall (toSp K sp_l_take) [] E0 (tCons (tVar 0) (tCons (tC (.int 7)) tNil)))) tNil)))) tNext)
  (tRet (tTup (tCons (tOp rAdI (tC (.int 1)) (tCall (toSp K sp_l_take) [] E0 (tCons (tVar 0) (tCons (tC (.int 6)) tNil)))) (tCons (tOp rAdI (tC (.int 1)) (tCall (toSp K sp_l_take) [] E0 (tCons (tVar 0) (tCons (tC (.int 5)) tNil)))) tNil)))))))
def sp_l_sizes : PSp := mkSp (fun a : TkA => [.own a.s]) fun a Ls P => Ls = a.sto ∧ DrOk 3 a.cells a.t a.ex ∧ ExOk a.ex ∧
  ∀ (m k : Nat) cells' t' ex', 1 ≤ m → m ≤ 12 → 1 ≤ k → k ≤ 12 → Nx 3 a.t cells' t' → ExOk ex' → P (.dat (.tuple [.int m, .int k])) (Sts a.c a.s cells' t' ex')
theorem look_great {c : Addr} {t : Int} {ex : List (Key × SV)} (h : ExOk ex) : lookS (stK c t ex) (.inr kGreat) = lookS ex (.inr kGreat) := by
  have h1 : (Sum.inr kCells : Key) ≠ .inr kGreat := fun z => absurd (show kCells = kGreat from Sum.inr.inj z) (by decide)
  have h2 : (Sum.inr kTurn : Key) ≠ .inr kGreat := fun z => absurd (show kTurn = kGreat from Sum.inr.inj z) (by decide)
  unfold lookS
  rw [List.find?_cons, decide_eq_false h1, List.find?_cons, decide_eq_false h2]
theorem put_great {c : Addr} {t : Int} : putS (stK c t []) (.inr kGreat) (dI 1) = stK c t [(.inr kGreat, dI 1)] := by
  have h1 : (Sum.inr kCells : Key) ≠ .inr kGreat := fun z => absurd (show kCells = kGreat from Sum.inr.inj z) (by decide)
  have h2 : (Sum.inr kTurn : Key) ≠ .inr kGreat := fun z => absurd (show kTurn = kGreat from Sum.inr.inj z) (by decide)
  unfold putS
  rw [if_neg (by simp [h1, h2])]
  rfl
theorem ExOk.xk {ex : List (Key × SV)} (h : ExOk ex) : (∀ kv ∈ ex, kv.1 ≠ .inr kTurn) ∧ ex.length ≤ 10 := by
  rcases h with rfl | rfl
  · exact ⟨fun kv h => (by cases h), by decide⟩
  · refine ⟨fun kv h => ?_, by decide⟩
    rw [List.mem_singleton.mp h]
    exact fun z => absurd (show kGreat = kTurn from Sum.inr.inj z) (by decide)
/-- two draws, one by one, as a tuple -/
theorem we_two {Γ : Gm} {c s : Addr} {cells : List Int} {t : Int} {ex : List (Key × SV)} {P : SV → Sto → Prop} {x y m n : Int} (hg : GetG Γ 0 (.own s)) (hd : DrOk 2 cells t ex) (h1 : 0 < m ∧ m < 1000) (h2 : 0 < n ∧ n < 1000)
    (q : ∀ i j cells', 0 ≤ i → i < m → 0 ≤ j → j < n → cells' ≠ [] → P (.dat (.tuple [.int (x + i), .int (y + j)])) (Sts c s cells' (t + 1 + 1) ex)) :
    WE K (tTup (tCons (tOp rAdI (tC (.int x)) (tCall (toSp K sp_l_take) [] E0 (tCons (tVar 0) (tCons (tC (.int m)) tNil)))) (tCons (tOp rAdI (tC (.int y)) (tCall (toSp K sp_l_take) [] E0 (tCons (tVar 0) (tCons (tC (.int n)) tNil)))) tNil))) Γ (Sts c s cells t ex) P := by
  refine we_tup (wa_cons (we_op (we_int (we_take (c := c) (s := s) (cells := cells) (t := t) (n := m) (ex := ex) (Lf := []) rfl hg (we_int ⟨rfl, rfl⟩) (hd.less (by decide)) h1.1 (by omega) fun i cells1 i0 i1 hne => w_i0 ?_))))
  refine wa_cons (we_op (we_int (we_take (c := c) (s := s) (cells := cells1) (t := t + 1) (n := n) (ex := ex) (Lf := []) rfl hg (we_int ⟨rfl, rfl⟩) (hd.nx (j := 1) (k := 1) (nx1 hne)) h2.1 (by omega) fun j cells2 j0 j1 hne2 => w_i0 (wa_nil ?_))))
  exact ⟨by show 2 ≤ sizeLine; decide, _, rfl, q i j cells2 i0 i1 j0 j1 hne2⟩
theorem nx3 {t : Int} {c : List Int} (h : c ≠ []) : Nx 3 t c (t + 1 + 1 + 1) := ⟨h, by omega, by omega⟩
theorem rd_l_sizes (a : TkA) (Ls : Sto) (Q : SV → Sto → Prop) (h : Ls = a.sto ∧ DrOk 3 a.cells a.t a.ex ∧ ExOk a.ex ∧
    ∀ (m k : Nat) cells' t' ex', 1 ≤ m → m ≤ 12 → 1 ≤ k → k ≤ 12 → Nx 3 a.t cells' t' → ExOk ex' → Q (.dat (.tuple [.int m, .int k])) (Sts a.c a.s cells' t' ex')) : WS K (T_l_sizes K) (startG 2 [.own a.s]) Ls { nx := fun _ L => Q (.dat .none) L, rt := Q } := by
  obtain ⟨c, s, cells, t, ex⟩ := a
  obtain ⟨rfl, hd, hex, q⟩ := h
  dsimp only at hd hex q
  have fin : ∀ {i j m n x y : Int} {cells' : List Int} {ex' : List (Key × SV)}, ExOk ex' → 0 ≤ i → i < m → 0 ≤ j → j < n → cells' ≠ [] → 1 ≤ x → x + m ≤ 13 → 1 ≤ y → y + n ≤ 13 → Q (.dat (.tuple [.int (x + i), .int (y + j)])) (Sts c s cells' (t + 1 + 1 + 1) ex') := fun {i j m n x y cells' ex'} he a1 a2 a3 a4 hne a5 a6 a7 a8 => by
    have := q (x + i).toNat (y + j).toNat cells' (t + 1 + 1 + 1) ex' (by omega) (by omega) (by omega) (by omega) (nx3 hne) he
    rw [Int.toNat_of_nonneg (by omega), Int.toNat_of_nonneg (by omega)] at this
    exact this
  unfold T_l_sizes
  refine ws_gm (Γ' := [some (.own s), none]) rfl ?_
  refine ws_seq (ws_asg (we_take (c := c) (s := s) (cells := cells) (t := t) (n := 16) (ex := ex) (Lf := []) rfl (by walk_at "gs") (we_int ⟨rfl, rfl⟩) (hd.less (by decide)) (by decide) (by decide) fun w cells1 w0 w1 hne => ?_))
  have d1 : DrOk 2 cells1 (t + 1) ex := hd.nx (j := 1) (k := 2) (nx1 hne)
  walk_at "w"
  have rest : WS K (tSeq (tIfS (tTest (tOp (rIn K false) (tVar 1) (tTup (tCons (tC (.int 5)) (tCons (tC (.int 13)) tNil))))) (tRet (tTup (tCons (tOp rAdI (tC (.int 2)) (tCall (toSp K sp_l_take) [] E0 (tCons (tVar 0) (tCons (tC (.int 7)) tNil)))) (tCons (tOp rAdI (tC (.int 2)) (tCall (toSp K sp_l_take) [] E0 (tCons (tVar 0) (tCons (tC (.int 7)) tNil)))) tNil)))) tNext)
  (tRet (tTup (tCons (tOp rAdI (tC (.int 1)) (tCall (toSp K sp_l_take) [] E0 (tCons (tVar 0) (tCons (tC (.int 6)) tNil)))) (tCons (tOp rAdI (tC (.int 1)) (tCall (toSp K sp_l_take) [] E0 (tCons (tVar 0) (tCons (tC (.int 5)) tNil)))) tNil))))) [some (.own s), some (dI w)] (Sts c s cells1 (t + 1) ex) { nx := fun _ L => Q (.dat .none) L, rt := Q } := by
    refine ws_seq (ws_if (wt_test (we_op (wv (by walk_at "gs") (we_tup (wa_cons (we_int (wa_cons (we_int (wa_nil ⟨by show 2 ≤ sizeLine; decide, _, rfl, ?_⟩))))))))))
    refine w_in (xs := [dI 5, dI 13]) (d := .int w) (es := [.int 5, .int 13]) (.inr rfl) rfl rfl rfl rfl ⟨_, rfl, fun _ => ?_, fun _ => ?_⟩
    · exact ws_ret (we_two (by walk_at "gs") d1 (by decide) (by decide) fun i j cells' a1 a2 a3 a4 hne => fin hex a1 a2 a3 a4 hne (by decide) (by decide) (by decide) (by decide))
    · exact ws_next (ws_ret (we_two (by walk_at "gs") d1 (by decide) (by decide) fun i j cells' a1 a2 a3 a4 hne => fin hex a1 a2 a3 a4 hne (by decide) (by decide) (by decide) (by decide)))
  refine dec2 (fun _ => ?_) fun _ => ?_
  · walk_at "w"
    refine we_str (wv (by walk_at "gs") ⟨_, ⟨s, rfl, .inl ⟨_, .inr kGreat, .tail _ (.head _), rfl, rfl⟩⟩, ?_⟩)
    rw [look_great hex]
    refine ⟨_, rfl, ?_⟩
    rcases hex with rfl | rfl
    · refine ⟨fun _ => ?_, fun e => (by cases e)⟩
      walk_at "w"
      refine we_str ⟨_, ⟨s, rfl, .inl ⟨_, .inr kGreat, .tail .head, rfl, by show 2 < sizeLine; decide⟩⟩, ?_⟩
      rw [put_great]
      have e2 : ExOk [(.inr kGreat, dI 1)] := .inr rfl
      exact ws_ret (we_two (c := c) (s := s) (cells := cells1) (t := t + 1) (by walk_at "gs") ⟨hne, by have := hd.lo; omega, by have := hd.hi; omega, e2.xk.1, e2.xk.2⟩ (by decide) (by decide) fun i j cells' a1 a2 a3 a4 hne => fin e2 a1 a2 a3 a4 hne (by decide) (by decide) (by decide) (by decide))
    · exact ⟨fun e => (by cases e), fun _ => ws_next rest⟩
  · exact ⟨fun e => (by cases e), fun _ => ws_next rest⟩
end OL

/-! FB7: a free book's codes. -/
namespace OL
open PySem PySem.Spec PyProof.Rows L2
local macro_rules | `(tactic| walk_at "gs") => `(tactic| first | exact GetG.z | exact SetG.z | (apply GetG.s; walk_at "gs") | (apply SetG.s; walk_at "gs"))
local macro_rules | `(tactic| walk_at "chg") => `(tactic| first | exact Chg.head | (apply Chg.tail; walk_at "chg"))
local macro_rules | `(tactic| walk_at "mem") => `(tactic| first | exact List.Mem.head _ | (apply List.Mem.tail; walk_at "mem"))
local macro_rules | `(tactic| walk_at "isl") => `(tactic| first | exact (rfl : IsL _ (.dat (.list _)) _) | walk_at "mem")
local macro_rules | `(tactic| walk_at "sz") => `(tactic| first | decide | assumption | omega | (simp; done) | (simp; omega))
local macro_rules | `(tactic| walk_at "w1") => `(tactic| first
  | (with_reducible refine ws_seq ?_) | (with_reducible refine ws_asg ?_) | (with_reducible refine ws_ret ?_) | (with_reducible refine ws_drop ?_) | (with_reducible refine ws_if ?_) | (with_reducible refine ws_next ?_) | (with_reducible refine ws_retN ?_) | (with_reducible refine ws_dput ?_) | (with_reducible refine ws_par ?_)
  | ((with_reducible refine' wv ?_ ?_); rotate_left; walk_at "gs") | ((with_reducible refine' wn ?_ ?_); rotate_left; walk_at "gs")
  | (with_reducible refine we_int ?_) | (with_reducible refine we_bl ?_) | (with_reducible refine we_non ?_)
  | (with_reducible refine we_op ?_) | (with_reducible refine we_un ?_) | (with_reducible refine we_cb ?_) | (with_reducible refine we_if ?_)
  | (with_reducible refine wa_nil ?_) | (with_reducible refine wa_cons ?_)
  | (with_reducible refine wt_and ?_) | (with_reducible refine wt_or ?_) | (with_reducible refine wt_not ?_) | (with_reducible refine wt_yes ?_)
  | (with_reducible refine we_sl ?_) | (with_reducible refine wo_no ?_) | (with_reducible refine wo_some ?_)
  | (with_reducible refine wt_test ?_) | (with_reducible refine wt_B ?_)
  | (with_reducible refine we_andV ?_) | (with_reducible refine we_orV ?_) | (with_reducible refine we_notV ?_)
  | (with_reducible refine we_dget ?_) | (with_reducible refine we_din ?_) | (with_reducible refine we_dnotin ?_)
  | (with_reducible refine we_bmL ?_) | (with_reducible refine we_bmL0 ?_) | (with_reducible refine wg_sub ?_) | (with_reducible refine wgs_cons ?_) | (with_reducible refine wgs_nil ?_)
  | (with_reducible refine w_i0 ?_) | (with_reducible refine w_b0 ?_) | (with_reducible refine w_neg ?_) | (with_reducible refine w_isN ?_) | (with_reducible refine w_notN ?_)
  | (with_reducible refine w_eqI ?_) | (with_reducible refine w_neI ?_) | (with_reducible refine w_eqS ?_) | (with_reducible refine w_neS ?_) | (with_reducible refine w_eqB ?_) | (with_reducible refine w_neB ?_)
  | (with_reducible refine we_tup ?_) | (with_reducible refine we_m1 ?_) | (with_reducible refine wm_starts ?_)
  | (with_reducible refine wn_min2 ?_) | (with_reducible refine wn_max2 ?_) | (with_reducible refine wn_int1 ?_) | (with_reducible refine wn_intB ?_))
local macro_rules | `(tactic| walk_at "w") => `(tactic| repeat (first | walk_at "w1" | (refine ⟨⟨_, rfl⟩, ?_⟩) | ((refine' ⟨⟨_, ?_⟩, ?_⟩); rotate_left; walk_at "isl") | (refine ⟨_, rfl, ?_⟩) | (refine ⟨of_decide_eq_true (Eq.refl true), _, rfl, ?_⟩)))
local macro_rules | `(tactic| walk_at "gmo") => `(tactic| first | exact gmo_name | exact gsmo_nil | (refine gsmo_cons ?_ ?_ <;> walk_at "gmo") | (refine gmo_tup ?_; walk_at "gmo"))
local macro_rules | `(tactic| walk_at "gon") => `(tactic| first | exact gon_name (by decide) | exact gson_nil | (refine gon_tup ?_; walk_at "gon") | (refine gon2 ?_ ?_ ?_ ?_ <;> first | walk_at "gmo" | walk_at "gon"))
variable {K : PySem.W.Frag}
/-- unlike, and no one is another one's beginning -/
def Unl (a b : Tx) : Prop := ¬ a <+: b ∧ ¬ b <+: a
def PF (l : List Tx) : Prop := l.Pairwise Unl
theorem Unl.symm {a b : Tx} (h : Unl a b) : Unl b a := ⟨h.2, h.1⟩
theorem PF.perm {l m : List Tx} (p : l.Perm m) (h : PF l) : PF m := (p.pairwise_iff fun h => h.symm).mp h
theorem PF.nodup {l : List Tx} (h : PF l) : l.Nodup := h.imp fun {a b} z e => z.1 (by rw [e]; exact List.prefix_refl _)
structure CdOk (m : Nat) (c : Tx) : Prop where
  ne : c ≠ []
  len : c.length ≤ m
  bin : ∀ x ∈ c, x = 48 ∨ x = 49
theorem CdOk.asc {m : Nat} {c : Tx} (h : CdOk m c) : Asc c := fun x hx => by
  rcases h.bin x hx with e | e <;> rw [e] <;> decide
/-- a leaf gets two children -/
theorem pref_snoc {a l : Tx} {x : Nat} (h : a <+: l ++ [x]) : a <+: l ∨ a = l ++ [x] := by
  rcases List.prefix_concat_iff.mp h with e | e
  · exact .inr e
  · exact .inl e
theorem PF.grow {l : Tx} {ls : List Tx} (h : PF (l :: ls)) : PF (ls ++ [l ++ [48], l ++ [49]]) := by
  obtain ⟨h1, h2⟩ := List.pairwise_cons.mp h
  have key : ∀ a ∈ ls, ∀ x : Nat, Unl a (l ++ [x]) := fun a ha x => by
    have u := h1 a ha
    refine ⟨fun z => ?_, fun z => u.1 ((List.prefix_append l [x]).trans z)⟩
    rcases pref_snoc z with e | e
    · exact u.2 e
    · exact u.1 (by rw [e]; exact List.prefix_append l [x])
  refine List.pairwise_append.mpr ⟨h2, ?_, fun a ha b hb => ?_⟩
  · refine List.pairwise_cons.mpr ⟨fun b hb => ?_, by simp⟩
    rw [List.mem_singleton.mp hb]
    have no : ∀ x y : Nat, x ≠ y → ¬ l ++ [x] <+: l ++ [y] := fun x y hxy z => by
      rcases pref_snoc z with e | e
      · have := e.length_le
        rw [List.length_append, List.length_singleton] at this
        omega
      · exact hxy (by simpa using e)
    exact ⟨no _ _ (by decide), no _ _ (by decide)⟩
  · rcases List.mem_cons.mp hb with e | e
    · rw [e]; exact key a ha 48
    · rw [List.mem_singleton.mp e]; exact key a ha 49
theorem CdOk.grow {m : Nat} {l : Tx} {k : Nat} (h : CdOk m l) (hl : l.length < m) (hk : k = 48 ∨ k = 49) : CdOk m (l ++ [k]) := ⟨by simp, by rw [List.length_append, List.length_singleton]; omega, fun x hx => (List.mem_append.mp hx).elim (h.bin x) fun e => by rw [List.mem_singleton.mp e]; exact hk⟩
theorem first_of : ∀ {ts : List Tx} {t : Tx}, t ∈ ts → ∃ j, ts[j]? = some t ∧ (∀ m, m < j → ts[m]? ≠ some t) ∧ (t :: ts.eraseIdx j).Perm ts
  | u :: ts, t, h => by
    by_cases e : u = t
    · subst e
      exact ⟨0, rfl, fun m hm => absurd hm (Nat.not_lt_zero _), List.Perm.refl _⟩
    · obtain ⟨j, h1, h2, h3⟩ := first_of ((List.mem_cons.mp h).resolve_left fun z => e z.symm)
      refine ⟨j + 1, h1, fun m hm => ?_, (List.Perm.swap _ _ _).trans (h3.cons u)⟩
      cases m with
      | zero => exact fun z => e (Option.some.inj z)
      | succ m => exact h2 m (by omega)
theorem erase_perm2 : ∀ {ts : List Tx} {j : Nat} {t : Tx}, ts[j]? = some t → (t :: ts.eraseIdx j).Perm ts
  | u :: ts, 0, t, h => by cases h; exact List.Perm.refl _
  | u :: ts, j + 1, t, h => (List.Perm.swap _ _ _).trans ((erase_perm2 (ts := ts) (j := j) h).cons u)
theorem er_map : ∀ (ls : List Tx) (j : Nat), (ls.map dS).eraseIdx j = (ls.eraseIdx j).map dS
  | [], _ => rfl
  | _ :: _, 0 => rfl
  | a :: r, j + 1 => congrArg (List.cons _) (er_map r j)
theorem isl_dS {Ls : Sto} {fs : List Tx} : IsL Ls (.dat (.list (fs.map strD))) (fs.map dS) := by
  show _ = _
  rw [mapmap]
theorem isl_own {Ls : Sto} {p : Addr} {xs : List SV} (h : (p, .lst xs) ∈ Ls) : IsL Ls (.own p) xs := h
theorem iso_own {Ls : Sto} {p : Addr} {xs : List SV} (h : (p, .lst xs) ∈ Ls) : IsO Ls (.own p) xs := h
theorem fm_filter (m : Nat) : ∀ ls : List Tx, ls.filterMap (fun l => if l.length < m then some (strD l) else none) = (ls.filter fun l => decide (l.length < m)).map strD
  | [] => rfl
  | l :: ls => by
    rw [List.filterMap_cons, List.filter_cons, fm_filter m ls]
    by_cases h : l.length < m <;> simp [h]
/-! l_free: _law_state 0, _law_many 1, _law_most 2, _law_leaves 3, _law_more 4, _law_turn 5, _law_some 6, _law_leaf 7, _law_found 8 -/
def T_l_free (K : PySem.W.Frag) : TS := (tSeq (tAsg (tLst (tCons (tC (.str (Str.ofString "0"))) (tCons (tC (.str (Str.ofString "1"))) tNil))) (gName 3))
  (tSeq (tAsg (tCall (toSp K sp_l_take) [] E0 (tCons (tVar 0) (tCons (tC (.int 3)) tNil))) (gName 4))
  (tSeq (tFor (iRng1 (tCons (tVar 1) tNil)) (gName 5) (tSeq (tAsg (tLc (iList K (tVar 3)) (gName 7) (tTest (tOp rLtI (tCB rLnS (tCons (tVar 7) tNil)) (tVar 2))) (tVar 7) [7]) (gName 6))
  (tIfS (tAnd (tTest (tOp (rNeD K) (tVar 6) (tLst tNil))) (tTest (tOp rLtI (tCB (rLnL K) (tCons (tVar 3) tNil)) (tOp rAdI (tVar 1) (tVar 4))))) (tSeq (tAsg (tOp (rIxL K) (tVar 6) (tCall (toSp K sp_l_take) [] E0 (tCons (tVar 0) (tCons (tCB (rLnL K) (tCons (tVar 6) tNil)) tNil)))) (gName 7))
  (tSeq (tDrop (tBM K "list" rRemS (tVar 3) (tCons (tVar 7) tNil)))
  (tAsg (tOp rCat (tVar 3) (tLst (tCons (tOp rAdS (tVar 7) (tC (.str (Str.ofString "0")))) (tCons (tOp rAdS (tVar 7) (tC (.str (Str.ofString "1")))) tNil)))) (gName 3)))) tNext)))
  (tSeq (tAsg (tLst tNil) (gName 8))
  (tSeq (tWhile (tAnd (tTest (tOp (rNeD K) (tVar 3) (tLst tNil))) (tTest (tOp rLtI (tCB (rLnL K) (tCons (tVar 8) tNil)) (tVar 1)))) (tDrop (tBM K "list" rAppend (tVar 8) (tCons (tBM K "list" rPopAt (tVar 3) (tCons (tCall (toSp K sp_l_take) [] E0 (tCons (tVar 0) (tCons (tCB (rLnL K) (tCons (tVar 3) tNil)) tNil))) tNil)) tNil))))
  (tRet (tVar 8)))))))
def sp_l_free : PSp := mkSp (fun a : TkA × Nat × Nat => [.own a.1.s, dI (a.2.1 : Int), dI (a.2.2 : Int)]) fun a Ls P => Ls = a.1.sto ∧ DrOk 30 a.1.cells a.1.t a.1.ex ∧ 1 ≤ a.2.1 ∧ a.2.1 ≤ 12 ∧ 1 ≤ a.2.2 ∧ a.2.2 ≤ 12 ∧
  ∀ p cs cells' t', cs ≠ [] → cs.length ≤ a.2.1 → PF cs → (∀ c ∈ cs, CdOk a.2.2 c) → Nx 30 a.1.t cells' t' → P (.own p) (Sts a.1.c a.1.s cells' t' a.1.ex ++ [(p, .lst (cs.map dS))])
theorem rd_l_free (a : TkA × Nat × Nat) (Ls : Sto) (Q : SV → Sto → Prop) (h : Ls = a.1.sto ∧ DrOk 30 a.1.cells a.1.t a.1.ex ∧ 1 ≤ a.2.1 ∧ a.2.1 ≤ 12 ∧ 1 ≤ a.2.2 ∧ a.2.2 ≤ 12 ∧
    ∀ p cs cells' t', cs ≠ [] → cs.length ≤ a.2.1 → PF cs → (∀ c ∈ cs, CdOk a.2.2 c) → Nx 30 a.1.t cells' t' → Q (.own p) (Sts a.1.c a.1.s cells' t' a.1.ex ++ [(p, .lst (cs.map dS))])) : WS K (T_l_free K) (startG 9 [.own a.1.s, dI (a.2.1 : Int), dI (a.2.2 : Int)]) Ls { nx := fun _ L => Q (.dat .none) L, rt := Q } := by
  obtain ⟨⟨c, s, cells, t, ex⟩, n, m⟩ := a
  obtain ⟨rfl, hd, hn1, hn, hm0, hm, q⟩ := h
  dsimp only at hd hn1 hn hm0 hm q
  unfold T_l_free
  refine ws_gm (Γ' := [some (.own s), some (dI n), some (dI m), none, none, none, none, none, none]) rfl ?_
  walk_at "w"
  refine we_lstO (wa_cons (we_lit (t := [48]) rfl (wa_cons (we_lit (t := [49]) rfl (wa_nil ⟨by show 2 ≤ sizeLine; decide, fun p0 _ => ?_⟩)))))
  walk_at "w"
  refine we_take (c := c) (s := s) (cells := cells) (t := t) (n := 3) (ex := ex) (Lf := [(p0, .lst ([[48], [49]].map dS))]) rfl (by walk_at "gs") (we_int ⟨rfl, rfl⟩) (hd.less (by decide)) (by decide) (by decide) fun mo cells1 mo0 mo1 hne => ?_
  walk_at "w"
  refine ws_for (fun k : Nat => dI ((0 : Int) + (k : Int))) (wi_rng1 (wa_cons (wv (by walk_at "gs") (wa_nil ?_))))
  refine ⟨_, rfl, ⟨by omega, by omega⟩, List.range n, fun pre Γ L => ∃ p y5 y6 y7 cells' t' ls, Γ = [some (.own s), some (dI n), some (dI m), some (.own p), some (dI mo), y5, y6, y7, none] ∧ L = Sts c s cells' t' ex ++ [(p, .lst (ls.map dS))] ∧ Nx (1 + pre.length) t cells' t' ∧ PF ls ∧ (∀ l ∈ ls, CdOk m l) ∧ 2 ≤ ls.length ∧ ls.length ≤ 2 + pre.length, ?_, ?_, ?_, ?_⟩
  · rw [Int.toNat_natCast]
  · refine ⟨p0, _, _, _, cells1, t + 1, [[48], [49]], rfl, rfl, nx1 hne, ?_, fun l hl => ?_, by decide, by decide⟩
    · exact List.pairwise_cons.mpr ⟨fun b hb => by rw [List.mem_singleton.mp hb]; exact ⟨by decide, by decide⟩, by simp⟩
    · rcases List.mem_cons.mp hl with e | e
      · rw [e]; exact ⟨by decide, hm0, by decide⟩
      · rw [List.mem_singleton.mp e]; exact ⟨by decide, hm0, by decide⟩
  · rintro pre k post Γ L ek ⟨p, y5, y6, y7, cells2, t2, ls, rfl, rfl, hx, hpf, hcd, hl1, hl2⟩
    have hlen : pre.length + 1 ≤ n := by
      have := congrArg List.length ek
      simp at this; omega
    refine ⟨trivial, ?_⟩
    walk_at "w"
    refine we_lcM (fun l : Tx => dS l) (fun l => if l.length < m then some (strD l) else none) (by walk_at "gmo") (by walk_at "gon") (wi_list (wv (by walk_at "gs") ?_))
    refine ⟨ls.map dS, .tail _ (.tail _ (.head _)), ls, rfl, by have := hl2; exact small_sz (by omega), .tail _ (.tail _ (.head _)), fun l hl => ?_, ?_⟩
    · refine wg_gm [some (.own s), some (dI n), some (dI m), some (.own p), some (dI mo), some (dI ((0 : Int) + (k : Int))), y6, none, none] rfl ?_
      walk_at "w"
      refine wn_lenS (small_sz (by have := (hcd l hl).len; omega)) ?_
      walk_at "w"
      refine dec2 (fun e => ?_) fun e => ?_
      · walk_at "w"
        exact ⟨rfl, _, rfl, by rw [if_pos (by omega)]⟩
      · exact ⟨rfl, by rw [if_neg (by omega)]⟩
    rw [fm_filter]
    generalize hfs : ls.filter (fun l => decide (l.length < m)) = fs
    have hfm : ∀ l ∈ fs, l ∈ ls ∧ l.length < m := fun l hl => by
      rw [← hfs] at hl
      exact ⟨(List.mem_filter.mp hl).1, of_decide_eq_true (List.mem_filter.mp hl).2⟩
    have hfl : fs.length ≤ ls.length := by rw [← hfs]; exact List.length_filter_le _ _
    have skip : ∀ y7, ({ nx := fun Γ L => ∃ p y5 y6 y7 cells' t' ls, Γ = [some (.own s), some (dI n), some (dI m), some (.own p), some (dI mo), y5, y6, y7, none] ∧ L = Sts c s cells' t' ex ++ [(p, .lst (ls.map dS))] ∧ Nx (1 + ((pre ++ [k]).length : Nat)) t cells' t' ∧ PF ls ∧ (∀ l ∈ ls, CdOk m l) ∧ 2 ≤ ls.length ∧ ls.length ≤ 2 + (pre ++ [k]).length, rt := Q } : PEnds).nx [some (.own s), some (dI n), some (dI m), some (.own p), some (dI mo), some (dI ((0 : Int) + (k : Int))), some (.dat (.list (fs.map strD))), y7, none] (Sts c s cells2 t2 ex ++ [(p, .lst (ls.map dS))]) := fun y7 =>
      ⟨p, _, _, y7, cells2, t2, ls, rfl, rfl, hx.mono (by rw [List.length_append, List.length_singleton]; omega), hpf, hcd, hl1, by rw [List.length_append, List.length_singleton]; omega⟩
    walk_at "w"
    refine we_lst (wa_nil ⟨by decide, _, rfl, ?_⟩)
    refine w_neD (Sh.shaped (n := 1) (sh_strs fun l hl => (hcd l (hfm l hl).1).asc) (by decide)) (by decide) ?_
    rw [eqv_nil]
    refine ⟨_, rfl, fun e1 => ?_, fun _ => ⟨fun e => (by cases e), fun _ => ws_next (skip _)⟩⟩
    have hfne : 0 < fs.length := by
      cases fs with
      | nil => simp at e1
      | cons a l => simp
    walk_at "w"
    refine wn_len (.tail _ (.tail _ (.head _))) ?_
    rw [List.length_map]
    walk_at "w"
    refine dec2 (fun _ => ?_) fun _ => ws_next (skip _)
    have d2 : DrOk 1 cells2 t2 ex := (hd.less (by omega : (1 + (pre.length : Int)) + 1 ≤ 30)).nx hx
    refine ws_seq (ws_asg (we_op (wv (by walk_at "gs") (we_take (c := c) (s := s) (cells := cells2) (t := t2) (n := (fs.length : Int)) (ex := ex) (Lf := [(p, .lst (ls.map dS))]) rfl (by walk_at "gs") (we_cb (wa_cons (wv (by walk_at "gs") (wa_nil (wn_len (xs := fs.map dS) isl_dS ⟨by rw [List.length_map], rfl⟩))))) d2 (by omega) (by omega) fun i cells3 i0 i1 hne3 => ?_))))
    have hi : i.toNat < fs.length := by omega
    obtain ⟨hm1, hm2⟩ := hfm _ (List.getElem_mem hi)
    refine w_ixL (xs := fs.map dS) (sv := dS fs[i.toNat]) isl_dS ?_ ?_
    · unfold atI ixN
      rw [List.length_map, if_pos i0, if_pos i1]
      show (fs.map dS)[i.toNat]? = _
      rw [List.getElem?_map, List.getElem?_eq_getElem hi]; rfl
    generalize fs[i.toNat] = l at hm1 hm2
    obtain ⟨j, hj1, hj2, hj3⟩ := first_of hm1
    have hle := hj3.length_eq
    rw [List.length_cons] at hle
    refine wn (by walk_at "gs") (ws_seq (ws_drop (we_bmL (wv (by walk_at "gs") ⟨⟨_, isl_own (.tail _ (.tail _ (.head _)))⟩, wa_cons (wv (by walk_at "gs") (wa_nil (wm_removeS hj1 hj2 (.tail (.tail .head)) ?_)))⟩))))
    refine ws_asg (we_drp (we_op (wv (by walk_at "gs") (we_lst ?_))))
    refine wa_cons (we_op (wv (by walk_at "gs") (we_lit (t := [48]) rfl (w_addS (small_sz (by rw [List.length_singleton]; omega)) ?_))))
    refine wa_cons (we_op (wv (by walk_at "gs") (we_lit (t := [49]) rfl (w_addS (small_sz (by rw [List.length_singleton]; omega)) ?_))))
    refine wa_nil ⟨by show 2 ≤ sizeLine; decide, _, rfl, ?_⟩
    refine w_cat (xs := (ls.eraseIdx j).map dS) (ys := [dS (l ++ [48]), dS (l ++ [49])]) (.tail _ (.tail _ (.head _))) rfl ?_ fun q2 _ => ?_
    · rw [List.length_map]
      exact small_sz (by simp only [List.length_cons, List.length_nil]; omega)
    · refine ⟨Sts c s cells3 (t2 + 1) ex ++ [(q2, .lst ((ls.eraseIdx j ++ [l ++ [48], l ++ [49]]).map dS))], ?_, ?_⟩
      · rw [List.map_append]
        exact .cons₂ _ (.cons₂ _ (.cons _ (.cons₂ _ .slnil)))
      refine wn (by walk_at "gs") ⟨q2, _, _, _, cells3, t2 + 1, ls.eraseIdx j ++ [l ++ [48], l ++ [49]], rfl, rfl, (hx.trans (nx1 hne3)).mono ?_, (hpf.perm hj3.symm).grow, fun u hu => ?_, ?_, ?_⟩
      · rw [List.length_append, List.length_singleton]; omega
      · have hcl := hcd l hm1
        rcases List.mem_append.mp hu with hu | hu
        · exact hcd u (hj3.subset (List.mem_cons_of_mem _ hu))
        · rcases List.mem_cons.mp hu with e | e
          · rw [e]; exact hcl.grow (by omega) (.inl rfl)
          · rw [List.mem_singleton.mp e]; exact hcl.grow (by omega) (.inr rfl)
      · simp only [List.length_append, List.length_cons, List.length_nil]; omega
      · simp only [List.length_append, List.length_cons, List.length_nil]; omega
  · rintro Γ L ⟨p, y5, y6, y7, cells2, t2, ls, rfl, rfl, hx, hpf, hcd, hl1, hl2⟩
    rw [List.length_range] at hx hl2
    refine ⟨trivial, ?_⟩
    walk_at "w"
    refine we_lstO (wa_nil ⟨by decide, fun f _ => ?_⟩)
    walk_at "w"
    refine ws_while (fun mu Γ L => ∃ cells' t' ls fs, Γ = [some (.own s), some (dI n), some (dI m), some (.own p), some (dI mo), y5, y6, y7, some (.own f)] ∧ L = Sts c s cells' t' ex ++ [(p, .lst (ls.map dS)), (f, .lst (fs.map dS))] ∧ Nx (1 + n + fs.length) t cells' t' ∧ PF (fs ++ ls) ∧ (∀ l ∈ fs ++ ls, CdOk m l) ∧ 2 ≤ fs.length + ls.length ∧ fs.length + ls.length ≤ 2 + n ∧ fs.length ≤ n ∧ mu = ls.length) ⟨_, cells2, t2, ls, [], rfl, rfl, hx.mono (by simp), hpf, hcd, by simpa using hl1, by simpa using hl2, Nat.zero_le _, rfl⟩ ?_
    rintro mu Γ L ⟨cells3, t3, ls, fs, rfl, rfl, hx, hpf, hcd, hl1, hl2, hfn, rfl⟩
    have fin : fs ≠ [] → WS K (tRet (tVar 8)) [some (.own s), some (dI n), some (dI m), some (.own p), some (dI mo), y5, y6, y7, some (.own f)] (Sts c s cells3 t3 ex ++ [(p, .lst (ls.map dS)), (f, .lst (fs.map dS))]) { nx := fun _ L => Q (.dat .none) L, rt := Q } := fun hne => by
      refine ws_ret (we_drp (wv (by walk_at "gs") ⟨Sts c s cells3 t3 ex ++ [(f, .lst (fs.map dS))], .cons₂ _ (.cons₂ _ (.cons _ (.cons₂ _ .slnil))), ?_⟩))
      exact q f fs cells3 t3 hne hfn (List.pairwise_append.mp hpf).1 (fun u hu => hcd u (List.mem_append_left _ hu)) (hx.mono (by omega))
    walk_at "w"
    refine we_lst (wa_nil ⟨by decide, _, rfl, ?_⟩)
    refine w_neDo (d := .list (ls.map strD)) (.inr (.inr ⟨p, ls.map strD, rfl, ?_, rfl⟩)) (.inl rfl) (Sh.shaped (n := 1) (sh_strs fun l hl => (hcd l (List.mem_append_right _ hl)).asc) (by decide)) (by decide) ?_
    · rw [mapmap]
      exact .tail _ (.tail _ (.head _))
    rw [eqv_nil]
    refine ⟨_, rfl, fun e1 => ?_, fun e1 => ⟨fun e => (by cases e), fun _ => fin ?_⟩⟩
    · have hlne : 0 < ls.length := by
        cases ls with
        | nil => simp at e1
        | cons a l => simp
      walk_at "w"
      refine wn_len (.tail _ (.tail _ (.tail _ (.head _)))) ?_
      rw [List.length_map]
      walk_at "w"
      refine dec2 (fun hlt => ?_) fun hlt => fin ?_
      · have d2 : DrOk 1 cells3 t3 ex := (hd.less (by omega : (1 + (n : Int) + fs.length) + 1 ≤ 30)).nx hx
        refine ws_drop (we_bmL (wv (by walk_at "gs") ⟨⟨_, isl_own (.tail _ (.tail _ (.tail _ (.head _))))⟩, wa_cons (we_bmL (wv (by walk_at "gs") ⟨⟨_, isl_own (.tail _ (.tail _ (.head _)))⟩, wa_cons (we_take (c := c) (s := s) (cells := cells3) (t := t3) (n := (ls.length : Int)) (ex := ex) (Lf := [(p, .lst (ls.map dS)), (f, .lst (fs.map dS))]) rfl (by walk_at "gs") (we_cb (wa_cons (wv (by walk_at "gs") (wa_nil (wn_len (isl_own (.tail _ (.tail _ (.head _)))) ⟨by rw [List.length_map], rfl⟩))))) d2 (by omega) (by omega) fun i cells4 i0 i1 hne4 => wa_nil ?_)⟩))⟩))
        have hi : i.toNat < ls.length := by omega
        have ei := List.getElem?_eq_getElem hi
        have hj3 := erase_perm2 ei
        have hle := hj3.length_eq
        rw [List.length_cons] at hle
        refine wm_popAt (xs := ls.map dS) (sv := dS ls[i.toNat]) (k := i.toNat) (by omega) (by omega) ?_ (by rw [List.getElem?_map, ei]; rfl) (.tail (.tail .head)) (wa_nil ?_)
        · rw [List.length_map]
          exact (ixN_seq (by unfold ixN; rw [if_pos i0, if_pos i1])).1
        generalize ls[i.toNat] = l at hj3 hle
        have em : (ls.map dS).eraseIdx i.toNat = (ls.eraseIdx i.toNat).map dS := er_map ls i.toNat
        rw [em]
        refine wm_append (xs := fs.map dS) (by rw [List.length_map]; exact Nat.lt_of_le_of_lt (show fs.length ≤ 100 by omega) (by decide)) (.tail (.tail (.tail .head))) ?_
        have hpm : ((fs ++ [l]) ++ ls.eraseIdx i.toNat).Perm (fs ++ ls) := by
          rw [List.append_assoc]
          exact List.Perm.append_left fs hj3
        refine ⟨_, ?_, cells4, t3 + 1, ls.eraseIdx i.toNat, fs ++ [l], rfl, by rw [List.map_append]; rfl, (hx.trans (nx1 hne4)).mono ?_, hpf.perm hpm.symm, fun u hu => hcd u (hpm.subset hu), ?_, ?_, ?_, rfl⟩
        · omega
        · rw [List.length_append, List.length_singleton]; omega
        · rw [List.length_append, List.length_singleton]; omega
        · rw [List.length_append, List.length_singleton]; omega
        · rw [List.length_append, List.length_singleton]; omega
      · intro z
        rw [z] at hlt
        simp at hlt; omega
    · intro z
      subst z
      have : ls = [] := by
        cases ls with
        | nil => rfl
        | cons a l => simp at e1
      rw [this] at hl1
      simp at hl1
end OL

/-! FB8: a free book. -/
namespace OL
open PySem PySem.Spec PyProof.Rows L2
local macro_rules | `(tactic| walk_at "gs") => `(tactic| first | exact GetG.z | exact SetG.z | (apply GetG.s; walk_at "gs") | (apply SetG.s; walk_at "gs"))
local macro_rules | `(tactic| walk_at "chg") => `(tactic| first | exact Chg.head | (apply Chg.tail; walk_at "chg"))
local macro_rules | `(tactic| walk_at "mem") => `(tactic| first | exact List.Mem.head _ | (apply List.Mem.tail; walk_at "mem"))
local macro_rules | `(tactic| walk_at "isl") => `(tactic| first | exact (rfl : IsL _ (.dat (.list _)) _) | walk_at "mem")
local macro_rules | `(tactic| walk_at "sz") => `(tactic| first | decide | assumption | omega | (simp; done) | (simp; omega))
local macro_rules | `(tactic| walk_at "w1") => `(tactic| first
  | (with_reducible refine ws_seq ?_) | (with_reducible refine ws_asg ?_) | (with_reducible refine ws_ret ?_) | (with_reducible refine ws_drop ?_) | (with_reducible refine ws_if ?_) | (with_reducible refine ws_next ?_) | (with_reducible refine ws_retN ?_) | (with_reducible refine ws_dput ?_) | (with_reducible refine ws_par ?_)
  | ((with_reducible refine' wv ?_ ?_); rotate_left; walk_at "gs") | ((with_reducible refine' wn ?_ ?_); rotate_left; walk_at "gs")
  | (with_reducible refine we_int ?_) | (with_reducible refine we_bl ?_) | (with_reducible refine we_non ?_)
  | (with_reducible refine we_op ?_) | (with_reducible refine we_un ?_) | (with_reducible refine we_cb ?_) | (with_reducible refine we_if ?_)
  | (with_reducible refine wa_nil ?_) | (with_reducible refine wa_cons ?_)
  | (with_reducible refine wt_and ?_) | (with_reducible refine wt_or ?_) | (with_reducible refine wt_not ?_) | (with_reducible refine wt_yes ?_)
  | (with_reducible refine we_sl ?_) | (with_reducible refine wo_no ?_) | (with_reducible refine wo_some ?_)
  | (with_reducible refine wt_test ?_) | (with_reducible refine wt_B ?_)
  | (with_reducible refine we_andV ?_) | (with_reducible refine we_orV ?_) | (with_reducible refine we_notV ?_)
  | (with_reducible refine we_dget ?_) | (with_reducible refine we_din ?_) | (with_reducible refine we_dnotin ?_)
  | (with_reducible refine we_bmL ?_) | (with_reducible refine we_bmL0 ?_) | (with_reducible refine wg_sub ?_) | (with_reducible refine wgs_cons ?_) | (with_reducible refine wgs_nil ?_)
  | (with_reducible refine w_i0 ?_) | (with_reducible refine w_b0 ?_) | (with_reducible refine w_neg ?_) | (with_reducible refine w_isN ?_) | (with_reducible refine w_notN ?_)
  | (with_reducible refine w_eqI ?_) | (with_reducible refine w_neI ?_) | (with_reducible refine w_eqS ?_) | (with_reducible refine w_neS ?_) | (with_reducible refine w_eqB ?_) | (with_reducible refine w_neB ?_)
  | (with_reducible refine we_tup ?_) | (with_reducible refine we_m1 ?_) | (with_reducible refine wm_starts ?_)
  | (with_reducible refine wn_min2 ?_) | (with_reducible refine wn_max2 ?_) | (with_reducible refine wn_int1 ?_) | (with_reducible refine wn_intB ?_))
local macro_rules | `(tactic| walk_at "w") => `(tactic| repeat (first | walk_at "w1" | (refine ⟨⟨_, rfl⟩, ?_⟩) | ((refine' ⟨⟨_, ?_⟩, ?_⟩); rotate_left; walk_at "isl") | (refine ⟨_, rfl, ?_⟩) | (refine ⟨of_decide_eq_true (Eq.refl true), _, rfl, ?_⟩)))
local macro_rules | `(tactic| walk_at "gmo") => `(tactic| first | exact gmo_name | exact gsmo_nil | (refine gsmo_cons ?_ ?_ <;> walk_at "gmo") | (refine gmo_tup ?_; walk_at "gmo"))
local macro_rules | `(tactic| walk_at "gon") => `(tactic| first | exact gon_name (by decide) | exact gson_nil | (refine gon_tup ?_; walk_at "gon") | (refine gon2 ?_ ?_ ?_ ?_ <;> first | walk_at "gmo" | walk_at "gon"))
variable {K : PySem.W.Frag}
/-- the codes of a free book -/
structure BC (cs : List Tx) : Prop where
  ne : cs ≠ []
  len : cs.length ≤ 12
  pf : PF cs
  cd : ∀ c ∈ cs, CdOk 12 c
structure FBk (b : Bk) : Prop where
  nm : NmOk (b.map (·.1))
  cd : BC (b.map (·.2))
theorem FBk.ok {b : Bk} (h : FBk b) : BkOk b where
  len := by have := h.cd.len; rw [List.length_map] at this; omega
  code := fun p hp => by have := (h.cd.cd p.2 (List.mem_map.mpr ⟨p, hp, rfl⟩)).len; omega
  ascN := fun p hp => h.nm.asc p.1 (List.mem_map.mpr ⟨p, hp, rfl⟩)
  ascC := fun p hp => (h.cd.cd p.2 (List.mem_map.mpr ⟨p, hp, rfl⟩)).asc
theorem CdOk.mono {m n : Nat} {c : Tx} (h : CdOk m c) (e : m ≤ n) : CdOk n c := ⟨h.ne, Nat.le_trans h.len e, h.bin⟩
/-! codes of one length -/
theorem unl_of {a b a' b' : Tx} (h : Unl a b) (h1 : a <+: a') (h2 : b <+: b') : Unl a' b' := by
  have key : ∀ {a b a' b' : Tx}, Unl a b → a <+: a' → b <+: b' → ¬ a' <+: b' := fun h h1 h2 z => by
    rcases List.prefix_or_prefix_of_prefix (h1.trans z) h2 with e | e
    · exact h.1 e
    · exact h.2 e
  exact ⟨key h h1 h2, key h.symm h2 h1⟩
def oneL (m : Nat) (c : Tx) : Tx := (rep c 8).take m
theorem oneL_pre {m : Nat} {c : Tx} (h : c.length ≤ m) : c <+: oneL m c := by
  have e : rep c 8 = c ++ rep c 7 := rfl
  unfold oneL
  rw [e]
  exact List.prefix_take_iff.mpr ⟨List.prefix_append _ _, h⟩
theorem oneL_ok {m : Nat} {c : Tx} (h : CdOk m c) : CdOk m (oneL m c) := by
  refine ⟨fun z => ?_, by unfold oneL; exact List.length_take_le _ _, fun x hx => ?_⟩
  · have := (oneL_pre h.len).length_le
    rw [z] at this
    exact h.ne (List.length_eq_zero_iff.mp (Nat.le_zero.mp this))
  · have hx := List.mem_of_mem_take hx
    unfold rep at hx
    obtain ⟨l, hl, hx⟩ := List.mem_flatten.mp hx
    rw [(List.mem_replicate.mp hl).2] at hx
    exact h.bin x hx
theorem pf_map {m : Nat} {cs : List Tx} (h : PF cs) (hc : ∀ c ∈ cs, CdOk m c) : PF (cs.map (oneL m)) := by
  unfold PF
  rw [List.pairwise_map]
  exact h.imp_of_mem fun {a b} ha hb u => unl_of u (oneL_pre (hc a ha).len) (oneL_pre (hc b hb).len)
theorem bc_one {m : Nat} {cs us : List Tx} (hm : m ≤ 12) (hne : cs ≠ []) (hl : cs.length ≤ 12) (h : PF cs) (hc : ∀ c ∈ cs, CdOk m c) (nd : us.Nodup) (e : ∀ t, t ∈ us ↔ t ∈ cs.map (oneL m)) : BC us := by
  have hp := pf_map h hc
  have pm : us.Perm (cs.map (oneL m)) := (List.perm_ext_iff_of_nodup nd hp.nodup).mpr e
  have hlen := pm.length_eq
  rw [List.length_map] at hlen
  refine ⟨fun z => ?_, by omega, hp.perm pm.symm, fun c hcu => ?_⟩
  · rw [z] at hlen
    exact hne (List.length_eq_zero_iff.mp hlen.symm)
  · obtain ⟨d, hd, rfl⟩ := List.mem_map.mp ((e c).mp hcu)
    exact (oneL_ok (hc d hd)).mono hm
/-! ones and a nought -/
def ones (k : Nat) : Tx := rep [49] k
theorem ones_eq (k : Nat) : ones k = List.replicate k 49 := by
  unfold ones rep
  induction k with
  | zero => rfl
  | succ k ih => rw [List.replicate_succ, List.flatten_cons, ih, List.replicate_succ]; rfl
theorem ones_bin {k x : Nat} (h : x ∈ ones k) : x = 49 := by
  rw [ones_eq] at h
  exact (List.mem_replicate.mp h).2
def onesB (m : Nat) (b : Bool) : List Tx := ((List.range m).map fun k => ones k ++ [48]) ++ if b then [ones m] else []
theorem ones_len (k : Nat) : (ones k).length = k := by rw [ones_eq, List.length_replicate]
theorem ones_unl {i j : Nat} (h : i < j) (t u : Tx) : Unl (ones i ++ 48 :: t) (ones j ++ u) := by
  obtain ⟨d, rfl⟩ : ∃ d, j = i + 1 + d := ⟨j - i - 1, by omega⟩
  have e : ones (i + 1 + d) = ones i ++ 49 :: ones d := by
    rw [ones_eq, ones_eq, ones_eq, Nat.add_assoc, ← List.replicate_append_replicate, Nat.add_comm 1 d, List.replicate_succ]
  rw [e, List.append_assoc]
  have no : ∀ (p : Tx) (a b : Nat) (v w : Tx), a ≠ b → ¬ p ++ a :: v <+: p ++ b :: w := fun p a b v w hab z => by
    rw [List.prefix_append_right_inj] at z
    exact hab (List.cons_prefix_cons.mp z).1
  exact ⟨no _ _ _ _ _ (by decide), no _ _ _ _ _ (by decide)⟩
theorem onesB_ok {m : Nat} {b : Bool} (h1 : 1 ≤ m) (h2 : m ≤ 12) (hb : b = true → m < 12) : BC (onesB m b) := by
  unfold onesB
  refine ⟨?_, ?_, ?_, fun c hc => ?_⟩
  · intro z
    have := congrArg List.length z
    simp at this
    omega
  · rw [List.length_append, List.length_map, List.length_range]
    cases b with
    | true => have := hb rfl; show m + 1 ≤ 12; omega
    | false => exact h2
  · refine List.pairwise_append.mpr ⟨?_, ?_, fun a ha c hc => ?_⟩
    · rw [List.pairwise_map]
      exact List.pairwise_lt_range.imp fun {i j} h => ones_unl h [] [48]
    · cases b <;> simp
    · cases b with
      | false => cases hc
      | true =>
        obtain ⟨k, hk, rfl⟩ := List.mem_map.mp ha
        rw [List.mem_singleton.mp hc]
        have := ones_unl (List.mem_range.mp hk) [] []
        rwa [List.append_nil] at this
  · rcases List.mem_append.mp hc with hc | hc
    · obtain ⟨k, hk, rfl⟩ := List.mem_map.mp hc
      have := List.mem_range.mp hk
      refine ⟨by simp, by rw [List.length_append, ones_len]; show k + 1 ≤ 12; omega, fun x hx => ?_⟩
      rcases List.mem_append.mp hx with hx | hx
      · exact .inr (ones_bin hx)
      · exact .inl (List.mem_singleton.mp hx)
    · cases b with
      | false => cases hc
      | true =>
        rw [List.mem_singleton.mp hc]
        refine ⟨fun z => ?_, by rw [ones_len]; omega, fun x hx => .inr (ones_bin hx)⟩
        have := congrArg List.length z
        rw [ones_len] at this
        simp at this; omega
/-! the book -/
/-! l_book: _law_state 0, _law_way 1, _law_many 2, _law_most 3, _law_codes 4, _law_code 5, _law_k 6 -/
def T_l_book (K : PySem.W.Frag) : TS := (tSeq (tAsg (tCall (toSp K sp_l_take) [] E0 (tCons (tVar 0) (tCons (tC (.int 8)) tNil))) (gName 1))
  (tSeq (tAsg (tCall (toSp K sp_l_sizes) [] E0 (tCons (tVar 0) tNil)) (gTup K 2 (gCons (gName 2) (gCons (gName 3) gNil))))
  (tSeq (tAsg (tCall (toSp K sp_l_free) [] E0 (tCons (tVar 0) (tCons (tVar 2) (tCons (tVar 3) tNil)))) (gName 4))
  (tSeq (tIfS (tTest (tOp rEq (tVar 1) (tC (.int 0)))) (tAsg (tSortedSetS K (tLc (iList K (tVar 4)) (gName 5) tYes (tSl rSlS (tOp rMuS (tVar 5) (tC (.int 8))) tNoPart (tPart (tVar 3))) [5])) (gName 4)) tNext)
  (tSeq (tIfS (tTest (tOp rEq (tVar 1) (tC (.int 1)))) (tAsg (tOp rCat (tLc (iRng1 (tCons (tVar 2) tNil)) (gName 6) tYes (tOp rAdS (tOp rMuS (tC (.str (Str.ofString "1"))) (tVar 6)) (tC (.str (Str.ofString "0")))) [6]) (tOp rRep (tLst (tCons (tOp rMuS (tC (.str (Str.ofString "1"))) (tVar 2)) tNil)) (tOp rMuI (tCall (toSp K sp_l_take) [] E0 (tCons (tVar 0) (tCons (tC (.int 2)) tNil))) (tCB rInt1 (tCons (tOp rLtI (tVar 2) (tC (.int 12))) tNil))))) (gName 4)) tNext)
  (tRet (tListZip K (tCons (tCall (toSp K sp_l_names) [] E0 (tCons (tVar 0) (tCons (tCB (rLnL K) (tCons (tVar 4) tNil)) tNil))) (tCons (tVar 4) tNil)))))))))
def sp_l_book : PSp := mkSp (fun a : TkA => [.own a.s]) fun a Ls P => Ls = a.sto ∧ DrOk 200 a.cells a.t a.ex ∧ ExOk a.ex ∧
  ∀ b cells' t' ex', FBk b → Nx 200 a.t cells' t' → ExOk ex' → P (.dat (encB b)) (Sts a.c a.s cells' t' ex')
theorem zip_enc : ∀ (ns cs : List Tx), PyData.list (List.zipWith pairD (ns.map strD) (cs.map strD)) = encB (ns.zip cs) := fun ns cs => by
  unfold encB
  congr 1
  induction ns generalizing cs with
  | nil => rfl
  | cons n ns ih =>
    cases cs with
    | nil => rfl
    | cons c cs => exact congrArg (List.cons _) (ih cs)
theorem zip_fst {ns cs : List Tx} (h : ns.length = cs.length) : (ns.zip cs).map (·.1) = ns ∧ (ns.zip cs).map (·.2) = cs := ⟨List.map_fst_zip (Nat.le_of_eq h), List.map_snd_zip (Nat.le_of_eq h.symm)⟩
theorem rd_l_book (a : TkA) (Ls : Sto) (Q : SV → Sto → Prop) (h : Ls = a.sto ∧ DrOk 200 a.cells a.t a.ex ∧ ExOk a.ex ∧
    ∀ b cells' t' ex', FBk b → Nx 200 a.t cells' t' → ExOk ex' → Q (.dat (encB b)) (Sts a.c a.s cells' t' ex')) : WS K (T_l_book K) (startG 7 [.own a.s]) Ls { nx := fun _ L => Q (.dat .none) L, rt := Q } := by
  obtain ⟨c, s, cells, t, ex⟩ := a
  obtain ⟨rfl, hd, hex, q⟩ := h
  dsimp only at hd hex q
  unfold T_l_book
  refine ws_gm (Γ' := [some (.own s), none, none, none, none, none, none]) rfl ?_
  refine ws_seq (ws_asg (we_take (c := c) (s := s) (cells := cells) (t := t) (n := 8) (ex := ex) (Lf := []) rfl (by walk_at "gs") (we_int ⟨rfl, rfl⟩) (hd.less (by decide)) (by decide) (by decide) fun way cells1 w0 w1 hne => ?_))
  have d1 : DrOk 199 cells1 (t + 1) ex := hd.nx (j := 1) (k := 199) (nx1 hne)
  refine wn (by walk_at "gs") (ws_seq (ws_asg (we_call (wa_cons (wv (by walk_at "gs") (wa_nil ?_))))))
  refine ⟨Sts c s cells1 (t + 1) ex, [], rfl, ⟨c, s, cells1, t + 1, ex⟩, rfl, rfl, d1.less (by decide), hex, fun m k cells2 t2 ex2 m1 m2 k1 k2 hx2 hex2 => ?_⟩
  have hx2 : Nx 3 (t + 1) cells2 t2 := hx2
  have x2 : Nx 4 t cells2 t2 := ((nx1 hne).trans hx2)
  have d2 : DrOk 196 cells2 t2 ex2 := ⟨hx2.ne, by have := hx2.lo; have := hd.lo; omega, by have := x2.hi; have := hd.hi; omega, hex2.xk.1, hex2.xk.2⟩
  refine wg_tup (xs := [dI m, dI k]) rfl rfl (wgs_cons (wn (by walk_at "gs") (wgs_cons (wn (by walk_at "gs") (wgs_nil ?_)))))
  refine ws_seq (ws_asg (we_call (wa_cons (wv (by walk_at "gs") (wa_cons (wv (by walk_at "gs") (wa_cons (wv (by walk_at "gs") (wa_nil ?_)))))))))
  refine ⟨Sts c s cells2 t2 ex2, [], rfl, (⟨c, s, cells2, t2, ex2⟩, m, k), rfl, rfl, d2.less (by decide), m1, m2, k1, k2, fun p0 cs0 cells3 t3 hcne hcl hpf hcd hx3 => ?_⟩
  have hcl : cs0.length ≤ m := hcl
  have hcd : ∀ u ∈ cs0, CdOk k u := hcd
  have hx3 : Nx 30 t2 cells3 t3 := hx3
  have x3 : Nx 34 t cells3 t3 := x2.trans hx3
  have d3 : DrOk 166 cells3 t3 ex2 := d2.nx (j := 30) (k := 166) hx3
  have bc0 : BC cs0 := ⟨hcne, by omega, hpf, fun u hu => (hcd u hu).mono k2⟩
  -- the end
  have fin : ∀ (y5 y6 : Option SV) (cells4 : List Int) (t4 : Int) (p : Addr) (cs : List Tx) (A : Sto), BC cs → Nx 35 t cells4 t4 → (p, .lst (cs.map dS)) ∈ A →
      WS K (tRet (tListZip K (tCons (tCall (toSp K sp_l_names) [] E0 (tCons (tVar 0) (tCons (tCB (rLnL K) (tCons (tVar 4) tNil)) tNil))) (tCons (tVar 4) tNil)))) [some (.own s), some (dI way), some (dI m), some (dI k), some (.own p), y5, y6] (Sts c s cells4 t4 ex2 ++ A) { nx := fun _ L => Q (.dat .none) L, rt := Q } := by
    intro y5 y6 cells4 t4 p cs A hb hx hm
    have d4 : DrOk 165 cells4 t4 ex2 := ⟨hx.ne, by have := hx.lo; have := hd.lo; omega, by have := hx.hi; have := hd.hi; omega, hex2.xk.1, hex2.xk.2⟩
    have hlen := hb.len
    refine ws_ret (we_drp (we_listZip (wa_cons (we_call (wa_cons (wv (by walk_at "gs") (wa_cons (we_cb (wa_cons (wv (by walk_at "gs") (wa_nil (wn_len (isl_own (List.mem_append_right _ hm)) (wa_nil ?_)))))))))))))
    rw [List.length_map]
    refine ⟨Sts c s cells4 t4 ex2, A, rfl, (⟨c, s, cells4, t4, ex2⟩, cs.length), rfl, rfl, d4.less (by dsimp only; omega), by dsimp only; omega, fun pn ns cells5 t5 hnl hnm hx5 => ?_⟩
    dsimp only at hnl hx5
    refine wa_cons (wv (by walk_at "gs") (wa_nil ?_))
    refine ⟨_, _, ns.map strD, cs.map strD, rfl, ?_, ?_, ?_⟩
    · rw [mapmap]
      exact isl_own (List.mem_append_left _ (List.mem_append_right _ (.head _)))
    · rw [mapmap]
      exact isl_own (List.mem_append_right _ hm)
    · rw [zip_enc]
      refine ⟨Sts c s cells5 t5 ex2, ?_, ?_⟩
      · rw [List.append_assoc]
        exact List.sublist_append_left _ _
      · obtain ⟨e1, e2⟩ := zip_fst hnl
        exact q (ns.zip cs) cells5 t5 ex2 ⟨by rw [e1]; exact hnm, by rw [e2]; exact hb⟩ ((hx.trans hx5).mono (by omega)) hex2
  -- behind the first if
  have mid : ∀ (y5 y6 : Option SV) (p : Addr) (cs : List Tx) (A : Sto), BC cs → (p, .lst (cs.map dS)) ∈ A →
      WS K (tSeq (tIfS (tTest (tOp rEq (tVar 1) (tC (.int 1)))) (tAsg (tOp rCat (tLc (iRng1 (tCons (tVar 2) tNil)) (gName 6) tYes (tOp rAdS (tOp rMuS (tC (.str (Str.ofString "1"))) (tVar 6)) (tC (.str (Str.ofString "0")))) [6]) (tOp rRep (tLst (tCons (tOp rMuS (tC (.str (Str.ofString "1"))) (tVar 2)) tNil)) (tOp rMuI (tCall (toSp K sp_l_take) [] E0 (tCons (tVar 0) (tCons (tC (.int 2)) tNil))) (tCB rInt1 (tCons (tOp rLtI (tVar 2) (tC (.int 12))) tNil))))) (gName 4)) tNext)
        (tRet (tListZip K (tCons (tCall (toSp K sp_l_names) [] E0 (tCons (tVar 0) (tCons (tCB (rLnL K) (tCons (tVar 4) tNil)) tNil))) (tCons (tVar 4) tNil))))) [some (.own s), some (dI way), some (dI m), some (dI k), some (.own p), y5, y6] (Sts c s cells3 t3 ex2 ++ A) { nx := fun _ L => Q (.dat .none) L, rt := Q } := by
    intro y5 y6 p cs A hb hm
    refine ws_seq (ws_if (wt_test (we_op (wv (by walk_at "gs") (we_int (w_eqI ⟨_, rfl, ?_⟩))))))
    refine dec2 (fun _ => ?_) fun _ => ws_next (fin _ _ cells3 t3 p cs A hb (x3.mono (by decide)) hm)
    refine ws_asg (we_op (we_lcA (fun j : Nat => dI ((0 : Int) + (j : Int))) (fun j => strD (ones j ++ [48])) (by walk_at "gmo") (by walk_at "gon") (wi_rng1 (wa_cons (wv (by walk_at "gs") (wa_nil ⟨(m : Int), rfl, ⟨by omega, by omega⟩, List.range m, rfl, by rw [List.length_range]; exact small_sz (by omega), trivial, fun j hj => ?_, ?_⟩))))))
    · have hj := List.mem_range.mp hj
      refine wg_gm [some (.own s), some (dI way), some (dI m), some (dI k), some (.own p), y5, none] rfl (wn (by walk_at "gs") ?_)
      refine we_op (we_op (we_lit (t := [49]) rfl (wv (by walk_at "gs") (w_mulS (by omega) (by omega) (by rw [List.length_singleton]; omega) ?_))))
      rw [show ((0 : Int) + (j : Int)).toNat = j by omega]
      refine we_lit (t := [48]) rfl (w_addS (small_sz ?_) ⟨rfl, rfl⟩)
      rw [rep_len, List.length_singleton, List.length_singleton]; omega
    · refine we_op (we_lst (wa_cons (we_op (we_lit (t := [49]) rfl (wv (by walk_at "gs") (w_mulS (by omega) (by omega) (by rw [List.length_singleton]; omega) (wa_nil ⟨by show 1 ≤ sizeLine; decide, _, rfl, ?_⟩)))))))
      rw [show (m : Int).toNat = m from Int.toNat_natCast m]
      refine we_op (we_take (c := c) (s := s) (cells := cells3) (t := t3) (n := 2) (ex := ex2) (Lf := A) rfl (by walk_at "gs") (we_int ⟨rfl, rfl⟩) (d3.less (by decide)) (by decide) (by decide) fun x cells4 x0 x1 hne4 => ?_)
      refine we_cb (wa_cons (we_op (wv (by walk_at "gs") (we_int (w_b0 (wa_nil (wn_intB ?_)))))))
      refine w_i (.inl ⟨by omega, by omega⟩) ?_
      obtain ⟨b, hb1, hb2⟩ : ∃ b : Bool, (x * if decide ((m : Int) < 12) = true then (1 : Int) else 0) = (if b then 1 else 0) ∧ (b = true → m < 12) := by
        by_cases hlt : (m : Int) < 12
        · rcases (by omega : x = 0 ∨ x = 1) with e | e
          · exact ⟨false, by rw [e]; simp, fun z => nomatch z⟩
          · exact ⟨true, by rw [e]; simp [hlt], fun _ => by omega⟩
        · exact ⟨false, by simp [hlt], fun z => nomatch z⟩
      rw [hb1]
      refine w_repF (xs := [dS (ones m)]) (es := if b then [strD (ones m)] else []) rfl (by cases b <;> decide) (by cases b <;> decide) (show 1 * _ ≤ sizeLine by cases b <;> decide) (by cases b <;> rfl) ?_
      refine w_cat (xs := (List.range m).map fun j => dS (ones j ++ [48])) (ys := if b then [dS (ones m)] else []) ?_ ?_ ?_ fun q2 _ => ?_
      · show _ = _
        rw [mapmap]
      · show _ = _
        cases b <;> rfl
      · rw [List.length_map, List.length_range]
        cases b
        · exact small_sz (by simp only [Bool.false_eq_true, if_false, List.length_nil]; omega)
        · exact small_sz (by simp only [if_true, List.length_singleton]; omega)
      have el : ((List.range m).map fun j => dS (ones j ++ [48])) ++ (if b then [dS (ones m)] else []) = (onesB m b).map dS := by
        unfold onesB
        rw [List.map_append, mapmap]
        cases b <;> rfl
      rw [el]
      refine wn (by walk_at "gs") ?_
      have := fin y5 y6 cells4 (t3 + 1) q2 (onesB m b) (A ++ [(q2, .lst ((onesB m b).map dS))]) (onesB_ok m1 m2 hb2) ((x3.trans (nx1 hne4)).mono (by decide)) (List.mem_append_right _ (.head _))
      rw [← List.append_assoc] at this
      exact this
  refine wn (by walk_at "gs") ?_
  refine ws_seq (ws_if (wt_test (we_op (wv (by walk_at "gs") (we_int (w_eqI ⟨_, rfl, ?_⟩))))))
  refine dec2 (fun _ => ?_) fun _ => ws_next (mid _ _ p0 cs0 _ bc0 (.head _))
  refine ws_asg (we_sortedSetS (we_lcA (fun u : Tx => dS u) (fun u => strD (oneL k u)) (by walk_at "gmo") (by walk_at "gon") (wi_list (wv (by walk_at "gs") ?_))))
  refine ⟨cs0.map dS, isl_own (.tail _ (.tail _ (.head _))), cs0, rfl, small_sz (by omega), isl_own (.tail _ (.tail _ (.head _))), fun u hu => ?_, cs0.map (oneL k), ?_, ?_, fun us p nd1 nd2 hmem hp => ?_⟩
  · have hul := (hcd u hu).len
    refine wg_gm [some (.own s), some (dI way), some (dI m), some (dI k), some (.own p0), none, none] rfl (wn (by walk_at "gs") ?_)
    refine we_sl (we_op (wv (by walk_at "gs") (we_int (w_mulS (by decide) (by decide) (by show u.length * 8 ≤ _; omega) (wo_no (wo_some (wv (by walk_at "gs") ⟨_, rfl, ?_⟩)))))))
    have h8 : (8 : Int).toNat = 8 := rfl
    rw [h8]
    refine w_slS (small_sz (by rw [rep_len]; omega)) ?_
    rw [cutL_to]
    exact ⟨rfl, rfl⟩
  · rw [← mapmap (f := oneL k) (g := strD)]
    exact isl_dS
  · rw [List.length_map]
    exact Nat.lt_of_le_of_lt (show _ ≤ 100 by omega) (by decide)
  · refine wn (by walk_at "gs") ?_
    have hbu := bc_one (by omega : k ≤ 12) hcne (by omega) hpf hcd nd2 hmem
    have := mid none none p us ([(p0, .lst (cs0.map dS))] ++ [(p, .lst (us.map dS))]) hbu (List.mem_append_right _ (.head _))
    exact this
end OL

/-! FB9: the same text, the same list of texts. -/
namespace OL
open PySem PySem.Spec PyProof.Rows L2
local macro_rules | `(tactic| walk_at "gs") => `(tactic| first | exact GetG.z | exact SetG.z | (apply GetG.s; walk_at "gs") | (apply SetG.s; walk_at "gs"))
local macro_rules | `(tactic| walk_at "chg") => `(tactic| first | exact Chg.head | (apply Chg.tail; walk_at "chg"))
local macro_rules | `(tactic| walk_at "mem") => `(tactic| first | exact List.Mem.head _ | (apply List.Mem.tail; walk_at "mem"))
local macro_rules | `(tactic| walk_at "isl") => `(tactic| first | exact (rfl : IsL _ (.dat (.list _)) _) | walk_at "mem")
local macro_rules | `(tactic| walk_at "sz") => `(tactic| first | decide | assumption | omega | (simp; done) | (simp; omega))
local macro_rules | `(tactic| walk_at "w1") => `(tactic| first
  | (with_reducible refine ws_seq ?_) | (with_reducible refine ws_asg ?_) | (with_reducible refine ws_ret ?_) | (with_reducible refine ws_drop ?_) | (with_reducible refine ws_if ?_) | (with_reducible refine ws_next ?_) | (with_reducible refine ws_retN ?_) | (with_reducible refine ws_dput ?_) | (with_reducible refine ws_par ?_)
  | ((with_reducible refine' wv ?_ ?_); rotate_left; walk_at "gs") | ((with_reducible refine' wn ?_ ?_); rotate_left; walk_at "gs")
  | (with_reducible refine we_int ?_) | (with_reducible refine we_bl ?_) | (with_reducible refine we_non ?_)
  | (with_reducible refine we_op ?_) | (with_reducible refine we_un ?_) | (with_reducible refine we_cb ?_) | (with_reducible refine we_if ?_)
  | (with_reducible refine wa_nil ?_) | (with_reducible refine wa_cons ?_)
  | (with_reducible refine wt_and ?_) | (with_reducible refine wt_or ?_) | (with_reducible refine wt_not ?_) | (with_reducible refine wt_yes ?_)
  | (with_reducible refine we_sl ?_) | (with_reducible refine wo_no ?_) | (with_reducible refine wo_some ?_)
  | (with_reducible refine wt_test ?_) | (with_reducible refine wt_B ?_)
  | (with_reducible refine we_andV ?_) | (with_reducible refine we_orV ?_) | (with_reducible refine we_notV ?_)
  | (with_reducible refine we_dget ?_) | (with_reducible refine we_din ?_) | (with_reducible refine we_dnotin ?_)
  | (with_reducible refine we_bmL ?_) | (with_reducible refine we_bmL0 ?_) | (with_reducible refine wg_sub ?_) | (with_reducible refine wgs_cons ?_) | (with_reducible refine wgs_nil ?_)
  | (with_reducible refine w_i0 ?_) | (with_reducible refine w_b0 ?_) | (with_reducible refine w_neg ?_) | (with_reducible refine w_isN ?_) | (with_reducible refine w_notN ?_)
  | (with_reducible refine w_eqI ?_) | (with_reducible refine w_neI ?_) | (with_reducible refine w_eqS ?_) | (with_reducible refine w_neS ?_) | (with_reducible refine w_eqB ?_) | (with_reducible refine w_neB ?_)
  | (with_reducible refine we_tup ?_) | (with_reducible refine we_m1 ?_) | (with_reducible refine wm_starts ?_)
  | (with_reducible refine wn_min2 ?_) | (with_reducible refine wn_max2 ?_) | (with_reducible refine wn_int1 ?_) | (with_reducible refine wn_intB ?_))
local macro_rules | `(tactic| walk_at "w") => `(tactic| repeat (first | walk_at "w1" | (refine ⟨⟨_, rfl⟩, ?_⟩) | ((refine' ⟨⟨_, ?_⟩, ?_⟩); rotate_left; walk_at "isl") | (refine ⟨_, rfl, ?_⟩) | (refine ⟨of_decide_eq_true (Eq.refl true), _, rfl, ?_⟩)))
local macro_rules | `(tactic| walk_at "gmo") => `(tactic| first | exact gmo_name | exact gsmo_nil | (refine gsmo_cons ?_ ?_ <;> walk_at "gmo") | (refine gmo_tup ?_; walk_at "gmo"))
local macro_rules | `(tactic| walk_at "gon") => `(tactic| first | exact gon_name (by decide) | exact gson_nil | (refine gon_tup ?_; walk_at "gon") | (refine gon2 ?_ ?_ ?_ ?_ <;> first | walk_at "gmo" | walk_at "gon"))
section
variable {K : PySem.W.Frag} {Γ : Gm} {Ls : Sto} {P : SV → Sto → Prop} {x : SV}
theorem we_isi {i : Nat} {n c : String} {r : Bool} (hg : GetG Γ i x) (ht : TyD Ls x n) (hk : kitB n c = some r) (p : P (dB r) Ls) : WE K (tCB (rIsi K) (tCons (tVar i) (tCons (tC (.ty c)) tNil))) Γ Ls P := we_cb (wa_cons (wv hg (wa_cons (we_raw (wa_nil (wn_isi ht hk p))))))
theorem we_isi2 {i : Nat} {n c d : String} {r1 r2 : Bool} (hg : GetG Γ i x) (ht : TyD Ls x n) (h1 : kitB n c = some r1) (h2 : kitB n d = some r2) (p : P (dB (r1 || r2)) Ls) : WE K (tCB (rIsiT K) (tCons (tVar i) (tCons (tTup (tCons (tC (.ty c)) (tCons (tC (.ty d)) tNil))) tNil))) Γ Ls P :=
  we_cb (wa_cons (wv hg (wa_cons (we_tupR (wa_cons (we_raw (wa_cons (we_raw (wa_nil ⟨by show 2 ≤ sizeLine; decide, [.ty c, .ty d], rfl, wa_nil (wn_isi2 ht h1 h2 p)⟩)))))))))
end
theorem ws_ifF {K : PySem.W.Frag} {tt : TT} {ta tb : TS} {Γ : Gm} {Ls : Sto} {E : PEnds} (h : WT K tt Γ Ls fun b L1 => b = false ∧ WS K tb Γ L1 E) : WS K (tIfS tt ta tb) Γ Ls E := ws_if (h.mono fun b L1 ⟨e, p⟩ => ⟨fun z => (by rw [e] at z; cases z), fun _ => p⟩)
theorem ws_ifT {K : PySem.W.Frag} {tt : TT} {ta tb : TS} {Γ : Gm} {Ls : Sto} {E : PEnds} (h : WT K tt Γ Ls fun b L1 => b = true ∧ WS K ta Γ L1 E) : WS K (tIfS tt ta tb) Γ Ls E := ws_if (h.mono fun b L1 ⟨e, p⟩ => ⟨fun _ => p, fun z => (by rw [e] at z; cases z)⟩)
/-! l_same: _law_found 0, _law_due 1, _law_one 2, _law_other 3 -/
def T_l_same (K : PySem.W.Frag) (R : PSp) : TS := (tSeq (tIfS (tTest (tOp rIsN (tVar 1) (tC .non))) (tRet (tOp rIsN (tVar 0) (tC .non))) tNext)
  (tSeq (tIfS (tB (tCB (rIsi K) (tCons (tVar 1) (tCons (tC (.ty "bool")) tNil)))) (tRet (tAndV (tCB (rIsi K) (tCons (tVar 0) (tCons (tC (.ty "bool")) tNil))) (tOp (rEqD K) (tVar 0) (tVar 1)))) tNext)
  (tSeq (tIfS (tB (tCB (rIsiT K) (tCons (tVar 1) (tCons (tTup (tCons (tC (.ty "list")) (tCons (tC (.ty "tuple")) tNil))) tNil)))) (tSeq (tIfS (tOr (tTest (tOp rNe (tCB (rIsi K) (tCons (tVar 0) (tCons (tC (.ty "list")) tNil))) (tCB (rIsi K) (tCons (tVar 1) (tCons (tC (.ty "list")) tNil))))) (tTest (tOp rNe (tCB (rIsi K) (tCons (tVar 0) (tCons (tC (.ty "tuple")) tNil))) (tCB (rIsi K) (tCons (tVar 1) (tCons (tC (.ty "tuple")) tNil)))))) (tRet (tC (.bl false))) tNext)
  (tRet (tAndV (tOp rEq (tCB (rLnL K) (tCons (tVar 0) tNil)) (tCB (rLnL K) (tCons (tVar 1) tNil))) (tCB (rAll K) (tCons (tLc (iZip K (tCons (tVar 0) (tCons (tVar 1) tNil))) (gTup K 2 (gCons (gName 2) (gCons (gName 3) gNil))) tYes (tCall (toSp K R) [] E0 (tCons (tVar 2) (tCons (tVar 3) tNil))) [2, 3]) tNil))))) tNext)
  (tSeq (tIfS (tB (tCB (rIsi K) (tCons (tVar 1) (tCons (tC (.ty "str")) tNil)))) (tRet (tAndV (tCB (rIsi K) (tCons (tVar 0) (tCons (tC (.ty "str")) tNil))) (tOp (rEqD K) (tVar 0) (tVar 1)))) tNext)
  (tRet (tAndV (tCB (rIsi K) (tCons (tVar 0) (tCons (tC (.ty "int")) tNil))) (tAndV (tNotV (tCB (rIsi K) (tCons (tVar 0) (tCons (tC (.ty "bool")) tNil)))) (tOp (rEqD K) (tVar 0) (tVar 1)))))))))
def sp_same0 : PSp := mkSp (fun t : Tx => [dS t, dS t]) fun t Ls P => Ls = [] ∧ Asc t ∧ P (dB true) []
def sp_l_same : PSp := mkSp (fun a : List Tx × Addr × Addr => [.own a.2.1, .own a.2.2]) fun a Ls P => Ls = [(a.2.1, .lst (a.1.map dS)), (a.2.2, .lst (a.1.map dS))] ∧ (∀ t ∈ a.1, Asc t) ∧ a.1.length ≤ 1000000 ∧ P (dB true) Ls
variable {K : PySem.W.Frag}
theorem kb (n c : String) : True := trivial
theorem rd_same0 (R : PSp) (t : Tx) (Ls : Sto) (Q : SV → Sto → Prop) (h : Ls = [] ∧ Asc t ∧ Q (dB true) []) : WS K (T_l_same K R) (startG 4 [dS t, dS t]) Ls { nx := fun _ L => Q (.dat .none) L, rt := Q } := by
  obtain ⟨rfl, ha, q⟩ := h
  unfold T_l_same
  refine ws_gm (Γ' := [some (dS t), some (dS t), none, none]) rfl ?_
  refine ws_seq (ws_ifF (wt_test (we_op (wv (by walk_at "gs") (we_non (w_isN ⟨false, rfl, rfl, ?_⟩))))))
  refine ws_next (ws_seq (ws_ifF (wt_B (we_isi (x := dS t) (n := "str") (r := false) (by walk_at "gs") rfl (by decide +kernel) ⟨false, rfl, rfl, ?_⟩))))
  refine ws_next (ws_seq (ws_ifF (wt_B (we_isi2 (x := dS t) (n := "str") (r1 := false) (r2 := false) (by walk_at "gs") rfl (by decide +kernel) (by decide +kernel) ⟨false, rfl, rfl, ?_⟩))))
  refine ws_next (ws_seq (ws_ifT (wt_B (we_isi (x := dS t) (n := "str") (r := true) (by walk_at "gs") rfl (by decide +kernel) ⟨true, rfl, rfl, ?_⟩))))
  refine ws_ret (we_andV (we_isi (x := dS t) (n := "str") (r := true) (by walk_at "gs") rfl (by decide +kernel) ⟨true, rfl, fun _ => ?_, fun e => nomatch e⟩))
  refine we_op (wv (by walk_at "gs") (wv (by walk_at "gs") (w_eqD (Sh.shaped (n := 0) (sh_str ha) (by decide)) (Sh.shaped (n := 0) (sh_str ha) (by decide)) ?_)))
  rw [eqv_str, decide_eq_true rfl]
  exact q
theorem rd_l_same (a : List Tx × Addr × Addr) (Ls : Sto) (Q : SV → Sto → Prop) (h : Ls = [(a.2.1, .lst (a.1.map dS)), (a.2.2, .lst (a.1.map dS))] ∧ (∀ t ∈ a.1, Asc t) ∧ a.1.length ≤ 1000000 ∧ Q (dB true) Ls) : WS K (T_l_same K sp_same0) (startG 4 [.own a.2.1, .own a.2.2]) Ls { nx := fun _ L => Q (.dat .none) L, rt := Q } := by
  obtain ⟨us, p, p2⟩ := a
  obtain ⟨rfl, ha, hz, q⟩ := h
  dsimp only at ha hz q
  unfold T_l_same
  refine ws_gm (Γ' := [some (.own p), some (.own p2), none, none]) rfl ?_
  have t1 : TyD [(p, .lst (us.map dS)), (p2, .lst (us.map dS))] (.own p) "list" := .inl ⟨rfl, _, .head _⟩
  have t2 : TyD [(p, .lst (us.map dS)), (p2, .lst (us.map dS))] (.own p2) "list" := .inl ⟨rfl, _, .tail _ (.head _)⟩
  refine ws_seq (ws_ifF (wt_test (we_op (wv (by walk_at "gs") (we_non (w_isN ⟨false, rfl, rfl, ?_⟩))))))
  refine ws_next (ws_seq (ws_ifF (wt_B (we_isi (n := "list") (r := false) (by walk_at "gs") t2 (by decide +kernel) ⟨false, rfl, rfl, ?_⟩))))
  refine ws_next (ws_seq (ws_ifT (wt_B (we_isi2 (n := "list") (r1 := true) (r2 := false) (by walk_at "gs") t2 (by decide +kernel) (by decide +kernel) ⟨true, rfl, rfl, ?_⟩))))
  refine ws_seq (ws_ifF (wt_or (wt_test (we_op (we_isi (n := "list") (r := true) (by walk_at "gs") t1 (by decide +kernel) (we_isi (n := "list") (r := true) (by walk_at "gs") t2 (by decide +kernel) (w_neB ⟨false, rfl, ⟨fun e => (by cases e), fun _ => ?_⟩⟩)))))))
  refine wt_test (we_op (we_isi (n := "list") (r := false) (by walk_at "gs") t1 (by decide +kernel) (we_isi (n := "list") (r := false) (by walk_at "gs") t2 (by decide +kernel) (w_neB ⟨false, rfl, rfl, ?_⟩))))
  refine ws_next (ws_ret (we_andV (we_op (we_cb (wa_cons (wv (by walk_at "gs") (wa_nil (wn_len (isl_own (.head _)) (we_cb (wa_cons (wv (by walk_at "gs") (wa_nil (wn_len (isl_own (.tail _ (.head _))) (w_eqI ⟨true, by rw [decide_eq_true rfl], fun _ => ?_, fun e => nomatch e⟩))))))))))))))
  refine we_cb (wa_cons (we_lcA (fun t : Tx => .dat (.tuple [strD t, strD t])) (fun _ => .bool true) (by walk_at "gmo") (by walk_at "gon") (wi_zip (wa_cons (wv (by walk_at "gs") (wa_cons (wv (by walk_at "gs") (wa_nil ?_))))))))
  have hm : (us.map strD).map SV.dat = us.map dS := mapmap
  refine ⟨_, _, us.map strD, us.map strD, rfl, by rw [hm]; exact isl_own (.head _), by rw [hm]; exact isl_own (.tail _ (.head _)), us, ?_, Nat.le_trans hz (by decide), ⟨by rw [hm]; exact isl_own (.head _), by rw [hm]; exact isl_own (.tail _ (.head _))⟩, fun t ht => ?_, ?_⟩
  · clear q hz t1 t2 ha hm
    induction us with
    | nil => rfl
    | cons t us ih => exact congrArg (List.cons _) ih
  · refine wg_gm [some (.own p), some (.own p2), none, none] rfl ?_
    refine wg_tup (xs := [dS t, dS t]) rfl rfl (wgs_cons (wn (by walk_at "gs") (wgs_cons (wn (by walk_at "gs") (wgs_nil ?_)))))
    exact we_call0 (wa_cons (wv (by walk_at "gs") (wa_cons (wv (by walk_at "gs") (wa_nil ⟨t, rfl, rfl, ha t ht, rfl, rfl, rfl⟩)))))
  · refine wa_nil (wn_all (bs := us.map fun _ => true) ?_ ?_)
    · show _ = _
      rw [mapmap, mapmap]
    · have : (us.map fun _ => true).all id = true := by
        clear q hz t1 t2 ha hm
        induction us with
        | nil => rfl
        | cons t us ih => exact ih
      rw [this]
      exact q
end OL

/-! FB10: the law of lags. -/
namespace OL
open PySem PySem.Spec PyProof.Rows L2
local macro_rules | `(tactic| walk_at "gs") => `(tactic| first | exact GetG.z | exact SetG.z | (apply GetG.s; walk_at "gs") | (apply SetG.s; walk_at "gs"))
local macro_rules | `(tactic| walk_at "chg") => `(tactic| first | exact Chg.head | (apply Chg.tail; walk_at "chg"))
local macro_rules | `(tactic| walk_at "mem") => `(tactic| first | exact List.Mem.head _ | (apply List.Mem.tail; walk_at "mem"))
local macro_rules | `(tactic| walk_at "isl") => `(tactic| first | exact (rfl : IsL _ (.dat (.list _)) _) | walk_at "mem")
local macro_rules | `(tactic| walk_at "sz") => `(tactic| first | decide | assumption | omega | (simp; done) | (simp; omega))
local macro_rules | `(tactic| walk_at "w1") => `(tactic| first
  | (with_reducible refine ws_seq ?_) | (with_reducible refine ws_asg ?_) | (with_reducible refine ws_ret ?_) | (with_reducible refine ws_drop ?_) | (with_reducible refine ws_if ?_) | (with_reducible refine ws_next ?_) | (with_reducible refine ws_retN ?_) | (with_reducible refine ws_dput ?_) | (with_reducible refine ws_par ?_)
  | ((with_reducible refine' wv ?_ ?_); rotate_left; walk_at "gs") | ((with_reducible refine' wn ?_ ?_); rotate_left; walk_at "gs")
  | (with_reducible refine we_int ?_) | (with_reducible refine we_bl ?_) | (with_reducible refine we_non ?_)
  | (with_reducible refine we_op ?_) | (with_reducible refine we_un ?_) | (with_reducible refine we_cb ?_) | (with_reducible refine we_if ?_)
  | (with_reducible refine wa_nil ?_) | (with_reducible refine wa_cons ?_)
  | (with_reducible refine wt_and ?_) | (with_reducible refine wt_or ?_) | (with_reducible refine wt_not ?_) | (with_reducible refine wt_yes ?_)
  | (with_reducible refine we_sl ?_) | (with_reducible refine wo_no ?_) | (with_reducible refine wo_some ?_)
  | (with_reducible refine wt_test ?_) | (with_reducible refine wt_B ?_)
  | (with_reducible refine we_andV ?_) | (with_reducible refine we_orV ?_) | (with_reducible refine we_notV ?_)
  | (with_reducible refine we_dget ?_) | (with_reducible refine we_din ?_) | (with_reducible refine we_dnotin ?_)
  | (with_reducible refine we_bmL ?_) | (with_reducible refine we_bmL0 ?_) | (with_reducible refine wg_sub ?_) | (with_reducible refine wgs_cons ?_) | (with_reducible refine wgs_nil ?_)
  | (with_reducible refine w_i0 ?_) | (with_reducible refine w_b0 ?_) | (with_reducible refine w_neg ?_) | (with_reducible refine w_isN ?_) | (with_reducible refine w_notN ?_)
  | (with_reducible refine w_eqI ?_) | (with_reducible refine w_neI ?_) | (with_reducible refine w_eqS ?_) | (with_reducible refine w_neS ?_) | (with_reducible refine w_eqB ?_) | (with_reducible refine w_neB ?_)
  | (with_reducible refine we_tup ?_) | (with_reducible refine we_m1 ?_) | (with_reducible refine wm_starts ?_)
  | (with_reducible refine wn_min2 ?_) | (with_reducible refine wn_max2 ?_) | (with_reducible refine wn_int1 ?_) | (with_reducible refine wn_intB ?_))
local macro_rules | `(tactic| walk_at "w") => `(tactic| repeat (first | walk_at "w1" | (refine ⟨⟨_, rfl⟩, ?_⟩) | ((refine' ⟨⟨_, ?_⟩, ?_⟩); rotate_left; walk_at "isl") | (refine ⟨_, rfl, ?_⟩) | (refine ⟨of_decide_eq_true (Eq.refl true), _, rfl, ?_⟩)))
local macro_rules | `(tactic| walk_at "gmo") => `(tactic| first | exact gmo_name | exact gsmo_nil | (refine gsmo_cons ?_ ?_ <;> walk_at "gmo") | (refine gmo_tup ?_; walk_at "gmo"))
local macro_rules | `(tactic| walk_at "gon") => `(tactic| first | exact gon_name (by decide) | exact gson_nil | (refine gon_tup ?_; walk_at "gon") | (refine gon2 ?_ ?_ ?_ ?_ <;> first | walk_at "gmo" | walk_at "gon"))
theorem perm_ix {L A : Sto} (ix : List Nat) (n : Nat) (h : ix.Perm (List.range n)) (e1 : ix.map (fun i => L.getD i (0, .lst [])) = A) (e2 : (List.range n).map (fun i => L.getD i (0, .lst [])) = L) : List.Perm A L := by
  have := h.map fun i => L.getD i ((0 : Addr), OD.lst [])
  rwa [e1, e2] at this
/-! law: _law_script 0, _law_state 1, _law_turn 2, _law_book_here 3, _law_kept 4, _law_due 5, _law_name 6, _law_code 7, _law_again 8, _law_found 9 -/
def T_law (K : PySem.W.Frag) (PT_l_lags PT_lags_of : Addr) : TS := (tSeq (tAsg (tCall (toSp K sp_l_begin) [] E0 (tCons (tVar 0) tNil)) (gName 1))
  (tSeq (tFor (iRng1 (tCons (tC (.int 6)) tNil)) (gName 2) (tSeq (tAsg (tCall (toSp K sp_l_book) [] E0 (tCons (tVar 1) tNil)) (gName 3))
  (tSeq (tAsg (tCB (rListO K) (tCons (tVar 3) tNil)) (gName 4))
  (tSeq (tAsg (tCall (toSp K (sp_l_lags PT_l_lags)) [] E0 (tCons (tLc (iList K (tVar 3)) (gTup K 2 (gCons (gName 6) (gCons (gName 7) gNil))) tYes (tVar 7) [6, 7]) tNil)) (gName 5))
  (tFor (iRng1 (tCons (tC (.int 2)) tNil)) (gName 8) (tSeq (tAsg (tCall (toSp K (sp_lags_of PT_lags_of)) [] E0 (tCons (tVar 3) tNil)) (gName 9))
  (tSeq (tIfS (tOr (tNot (tB (tCall (toSp K sp_l_same) [] E0 (tCons (tVar 9) (tCons (tVar 5) tNil))))) (tTest (tOp (rNeD K) (tVar 3) (tVar 4)))) (tRet (tC (.bl false))) tNext)
  (tSeq (tDrop (tBM0 K "list" rReverse (tVar 9)))
  (tDrop (tBM K "list" rAppend (tVar 9) (tCons (tC (.str (Str.ofString ""))) tNil)))))))))))
  (tRet (tC (.bl true)))))
def sp_law (P1 P2 : Addr) : PSp := mkSp (fun ns : List Int => [.wr (.list (ns.map .int))]) fun _ Ls P => Ls = [(P1, .tb q_l_lags), (P2, .tb q_lags_of)] ∧ ∀ L, P (dB true) L
variable {K : PySem.W.Frag}
theorem sh_book {b : Bk} (h : FBk b) : Sh 2 (encB b) := sh_list fun d hd => by
  obtain ⟨p, hp, rfl⟩ := List.mem_map.mp hd
  refine sh_tup fun e he => ?_
  rcases List.mem_cons.mp he with e1 | e1
  · rw [e1]; exact sh_str (h.ok.ascN p hp)
  · rw [List.mem_singleton.mp e1]; exact sh_str (h.ok.ascC p hp)
theorem cs_ok {b : Bk} (h : FBk b) : CsOk (cods b) where
  len := by have := h.cd.len; exact Nat.le_trans this (by decide)
  code := fun c hc => by have := (h.cd.cd c hc).len; omega
  asc := fun c hc => (h.cd.cd c hc).asc
theorem lags_small {cs us : List Tx} (h : Lags cs us) (hc : CsOk cs) : us.length ≤ 10000 ∧ ∀ t ∈ us, Asc t := by
  have nd : us.Nodup := List.Pairwise.imp (S := fun a b => a ≠ b) (fun {a b} (z : llt a b) (e : a = b) => llt_irrefl a (by rw [← e] at z; exact z)) h.so
  have h1 := nd.length_le_of_subset fun t ht => ((h.mem t).mp ht).ends
  have h2 := len_allEnds cs hc.code
  have h3 := hc.len
  exact ⟨by omega, fun t ht => asc_ends hc.asc ((h.mem t).mp ht).ends⟩
theorem rd_law (P1 P2 : Addr) (ns : List Int) (Ls : Sto) (Q : SV → Sto → Prop) (h : Ls = [(P1, .tb q_l_lags), (P2, .tb q_lags_of)] ∧ ∀ L, Q (dB true) L) : WS K (T_law K P1 P2) (startG 10 [.wr (.list (ns.map .int))]) Ls { nx := fun _ L => Q (.dat .none) L, rt := Q } := by
  obtain ⟨rfl, q⟩ := h
  unfold T_law
  refine ws_gm (Γ' := [some (.wr (.list (ns.map .int))), none, none, none, none, none, none, none, none, none]) rfl ?_
  refine ws_seq (ws_asg (we_callp (wa_cons (wv (by walk_at "gs") (wa_nil ⟨ns, rfl, rfl, fun c s cells0 hne0 => wn (by walk_at "gs") ?_⟩)))))
  refine ws_seq (ws_for (fun k : Nat => dI ((0 : Int) + (k : Int))) (wi_rng1 (wa_cons (we_int (wa_nil ⟨6, rfl, by decide, List.range 6, fun pre Γ L => ∃ y2 y3 y4 y5 y8 y9 cells t ex A, Γ = [some (.wr (.list (ns.map .int))), some (.own s), y2, y3, y4, y5, none, none, y8, y9] ∧ List.Perm (Sts c s cells t ex ++ [(P1, .tb q_l_lags), (P2, .tb q_lags_of)] ++ A) L ∧ cells ≠ [] ∧ 0 ≤ t ∧ t ≤ 200 * pre.length ∧ ExOk ex, rfl, ?_, ?_, ?_⟩)))))
  · exact ⟨_, _, _, _, _, _, cells0, 0, [], [], rfl, perm_ix [2, 3, 0, 1] 4 (by decide) rfl rfl, hne0, by decide, by decide, .inl rfl⟩
  · rintro pre k post Γ L ek ⟨y2, y3, y4, y5, y8, y9, cells, t, ex, A, rfl, hp, hne, ht0, ht1, hex⟩
    have hpre : pre.length < 6 := by
      have := congrArg List.length ek
      simp at this; omega
    have hd : DrOk 200 cells t ex := ⟨hne, ht0, by have : turnB = 1000000000000 := rfl; omega, hex.xk.1, hex.xk.2⟩
    refine ⟨trivial, wn (by walk_at "gs") (ws_perm hp (ws_drp (List.sublist_append_left _ _) ?_))⟩
    refine ws_seq (ws_asg (we_call (wa_cons (wv (by walk_at "gs") (wa_nil ⟨Sts c s cells t ex, [(P1, .tb q_l_lags), (P2, .tb q_lags_of)], rfl, ⟨c, s, cells, t, ex⟩, rfl, rfl, hd, hex, fun b cells1 t1 ex1 hb hx1 hex1 => wn (by walk_at "gs") ?_⟩)))))
    have hx1 : Nx 200 t cells1 t1 := hx1
    refine ws_seq (ws_asg (we_cb (wa_cons (wv (by walk_at "gs") (wa_nil (wn_list (xs := b.map fun p => .dat (encP p)) (.inl isl_dat) fun kp _ => wn (by walk_at "gs") ?_))))))
    -- the law's own lags
    refine ws_seq (ws_asg (we_callq (wa_cons (we_lcA (fun p : Tx × Tx => .dat (encP p)) (fun p => strD p.2) (by walk_at "gmo") (by walk_at "gon") (wi_list (wv (by walk_at "gs") ⟨_, isl_dat, b, rfl, small_sz (by have := hb.ok.len; omega), isl_dat, fun p hp => ?_, wa_nil ?_⟩))))))
    · refine wg_gm [some (.wr (.list (ns.map .int))), some (.own s), some (dI ((0 : Int) + (k : Int))), some (.dat (encB b)), some (.own kp), y5, none, none, y8, y9] rfl ?_
      exact wg_tup (xs := [dS p.1, dS p.2]) rfl rfl (wgs_cons (wn (by walk_at "gs") (wgs_cons (wn (by walk_at "gs") (wgs_nil (wv (by walk_at "gs") ⟨rfl, rfl⟩))))))
    have ec : PyData.list (b.map fun p => strD p.2) = encC (cods b) := by
      unfold encC cods
      rw [mapmap]
    rw [ec]
    refine ⟨[(P1, .tb q_l_lags)], Sts c s cells1 t1 ex1 ++ [(P2, .tb q_lags_of), (kp, .lst (b.map fun p => .dat (encP p)))], perm_ix [2, 0, 1, 3, 4] 5 (by decide) rfl rfl, cods b, rfl, rfl, cs_ok hb, fun us d hus => wn (by walk_at "gs") ?_⟩
    obtain ⟨hul, hua⟩ := lags_small hus (cs_ok hb)
    have hO : List.Perm ((d, .lst (us.map dS)) :: (P2, .tb q_lags_of) :: (Sts c s cells1 t1 ex1 ++ [(P1, .tb q_l_lags), (kp, .lst (b.map fun p => .dat (encP p)))])) ([(P1, .tb q_l_lags), (d, .lst (us.map dS))] ++ (Sts c s cells1 t1 ex1 ++ [(P2, .tb q_lags_of), (kp, .lst (b.map fun p => .dat (encP p)))])) := perm_ix [1, 4, 2, 3, 0, 5] 6 (by decide) rfl rfl
    refine ws_perm hO ?_
    refine ws_for (fun k : Nat => dI ((0 : Int) + (k : Int))) (wi_rng1 (wa_cons (we_int (wa_nil ⟨2, rfl, by decide, List.range 2, fun _ Γ L => ∃ y8 y9, Γ = [some (.wr (.list (ns.map .int))), some (.own s), some (dI ((0 : Int) + (k : Int))), some (.dat (encB b)), some (.own kp), some (.own d), none, none, y8, y9] ∧ L = (d, .lst (us.map dS)) :: (P2, .tb q_lags_of) :: (Sts c s cells1 t1 ex1 ++ [(P1, .tb q_l_lags), (kp, .lst (b.map fun p => .dat (encP p)))]), rfl, ⟨_, _, rfl, rfl⟩, ?_, ?_⟩))))
    · rintro pre2 k2 post2 Γ L _ ⟨y8, y9, rfl, rfl⟩
      refine ⟨trivial, wn (by walk_at "gs") ?_⟩
      refine ws_seq (ws_asg (we_callq (wa_cons (wv (by walk_at "gs") (wa_nil ⟨[(P2, .tb q_lags_of)], (d, .lst (us.map dS)) :: (Sts c s cells1 t1 ex1 ++ [(P1, .tb q_l_lags), (kp, .lst (b.map fun p => .dat (encP p)))]), perm_ix [1, 0, 2, 3, 4, 5] 6 (by decide) rfl rfl, b, rfl, rfl, hb.ok, fun us2 f hus2 => wn (by walk_at "gs") ?_⟩)))))
      obtain rfl : us2 = us := hus2.uniq hus
      refine ws_seq (ws_ifF (wt_or (wt_not (wt_B (we_callq ?_)))))
      refine wa_cons (wv (by walk_at "gs") (wa_cons (wv (by walk_at "gs") (wa_nil ?_))))
      refine ⟨[(f, .lst (us2.map dS)), (d, .lst (us2.map dS))], (P2, .tb q_lags_of) :: (Sts c s cells1 t1 ex1 ++ [(P1, .tb q_l_lags), (kp, .lst (b.map fun p => .dat (encP p)))]), perm_ix [1, 2, 0, 3, 4, 5, 6] 7 (by decide) rfl rfl, (us2, f, d), rfl, rfl, hua, Nat.le_trans hul (by decide), true, rfl, ?_⟩
      refine ⟨fun e => (by cases e), fun _ => ?_⟩
      refine wt_test (we_op (wv (by walk_at "gs") (wv (by walk_at "gs") (w_neDo (d := encB b) (e := encB b) (.inl rfl) (.inr (.inr ⟨kp, b.map encP, rfl, ?_, rfl⟩)) ((sh_book hb).shaped (by decide)) ((sh_book hb).shaped (by decide)) ⟨false, by rw [eqv_self (sh_book hb)]; rfl, rfl, ?_⟩))))
      · rw [mapmap]
        exact List.mem_append_right _ (.tail _ (List.mem_append_right _ (.tail _ (.head _))))
      refine ws_next (ws_seq (ws_drop (we_bmL0 (wv (by walk_at "gs") ⟨⟨_, isl_own (.head _)⟩, wm_reverse .head ?_⟩))))
      refine ws_drop (we_drp (we_bmL (wv (by walk_at "gs") ⟨⟨_, isl_own (.head _)⟩, wa_cons (we_lit (t := []) rfl (wa_nil (wm_append ?_ .head ?_)))⟩)))
      · rw [List.length_reverse, List.length_map]
        exact Nat.lt_of_le_of_lt hul (by decide)
      · exact ⟨_, .cons _ (List.Sublist.refl _), _, _, rfl, rfl⟩
    · rintro Γ L ⟨y8, y9, rfl, rfl⟩
      refine ⟨trivial, _, _, _, _, _, _, cells1, t1, ex1, [(d, .lst (us.map dS)), (kp, .lst (b.map fun p => .dat (encP p)))], rfl, perm_ix [2, 3, 4, 1, 0, 5] 6 (by decide) rfl rfl, hx1.ne, Int.le_trans ht0 hx1.lo, ?_, hex1⟩
      have := hx1.hi
      rw [List.length_append, List.length_singleton]
      omega
  · rintro Γ L ⟨y2, y3, y4, y5, y8, y9, cells, t, ex, A, rfl, hp, hne, ht0, ht1, hex⟩
    exact ⟨trivial, ws_ret (we_bl (q L))⟩
end OL

/-! TM59: the bodies of law k59 have their readings. -/
namespace OL
open PySem PySem.Spec PyProof.Rows L2
def topS (i : Nat) : Stmt := PySem.Challenge.pw_oddlong_k59_lags.main.body.getD i (.Pass ⟨0, 0, 0, 0⟩)
structure Txt (K : PySem.W.Frag) (mg : Str → Option Value) : Prop where
  m_len : mg "len" = none
  m_range : mg "range" = none
  m_list : mg "list" = none
  m_divmod : mg "divmod" = none
  m_sorted : mg "sorted" = none
  m_set : mg "set" = none
  m_zip : mg "zip" = none
  m_isinstance : mg "isinstance" = none
  m_bool : mg "bool" = none
  m_str : mg "str" = none
  m_int : mg "int" = none
  m_tuple : mg "tuple" = none
  m_all : mg "all" = none
variable {P : Program} {w : World} {K : PySem.W.Frag} {mg : Str → Option Value} {base : Heap}
abbrev LV_left_of : Nat := 1
abbrev LV_ends_of : Nat := 1
abbrev LV_next_lags : Nat := 2
abbrev LV_lags_of : Nat := 3
abbrev LV_l_begin : Nat := 1
abbrev LV_l_take : Nat := 1
abbrev LV_l_same : Nat := 2
abbrev LV_l_names : Nat := 2
abbrev LV_l_free : Nat := 2
abbrev LV_l_sizes : Nat := 2
abbrev LV_l_book : Nat := 3
abbrev LV_l_left : Nat := 1
abbrev LV_l_lags : Nat := 2
abbrev LV_law : Nat := 4
abbrev s_left_of : Stmt := topS 1
theorem sc_left_of : FnScope ["one", "other"] ["one", "other"] (defScope s_left_of) := ⟨rfl, rfl, rfl, by decide +kernel, rfl, by decide +kernel, by decide +kernel⟩
theorem tm_left_of (T : Txt K mg)  {f : Addr} {cdv : Value} {A : Around} {outer : List Env} {s : Shared} {H : Hp} {E : XK} (hr : Room (LV_left_of - 1) (A.deeper (envOfC "left_of" (defScope s_left_of) s.heap.objs.size f cdv))) :
    PSs (cxOf CX0 P w K mg base ["one", "other"] "left_of" (defScope s_left_of) f cdv A outer s H E).nox (defBody s_left_of) (T_left_of K) := by
  have sc := sc_left_of
  exact (pss_cons (ps_if (pt_val (pe_m1 PySem.F.slot_str_startswith PySem.F.type_str_startswith mt_startswith (pv 0) (pv 1))) (pss_one (ps_ret (pe_slice sl_str (pv 0) (po_some (pe_callB call_len_str (by rfl) T.m_len (by decide +kernel) (pa_cons (pv 1) pa_nil))) po_none))) pss_nil) (pss_cons (ps_if (pt_val (pe_m1 PySem.F.slot_str_startswith PySem.F.type_str_startswith mt_startswith (pv 1) (pv 0))) (pss_one (ps_ret (pe_slice sl_str (pv 1) (po_some (pe_callB call_len_str (by rfl) T.m_len (by decide +kernel) (pa_cons (pv 0) pa_nil))) po_none))) pss_nil) (pss_one (ps_ret pe_non))))
abbrev s_ends_of : Stmt := topS 3
theorem sc_ends_of : FnScope ["book", "found", "name", "code", "place"] ["book"] (defScope s_ends_of) := ⟨rfl, rfl, rfl, by decide +kernel, rfl, by decide +kernel, by decide +kernel⟩
theorem tm_ends_of (T : Txt K mg)  {f : Addr} {cdv : Value} {A : Around} {outer : List Env} {s : Shared} {H : Hp} {E : XK} (hr : Room (LV_ends_of - 1) (A.deeper (envOfC "ends_of" (defScope s_ends_of) s.heap.objs.size f cdv))) :
    PSs (cxOf CX0 P w K mg base ["book", "found", "name", "code", "place"] "ends_of" (defScope s_ends_of) f cdv A outer s H E).nox (defBody s_ends_of) (T_ends_of K) := by
  have sc := sc_ends_of
  exact (pss_cons (ps_set (i := 1) sc.nd rfl (Or.inl rfl) pe_dnewK) (pss_cons (ps_for PassesOwn.never rfl (pi_list (pv 0)) (pg_tup rfl (pgs_cons (pg_name (i := 2) sc.nd rfl (Or.inl rfl)) (pgs_cons (pg_name (i := 3) sc.nd rfl (Or.inl rfl)) pgs_nil))) (pss_one (ps_for PassesOwn.never rfl (pi_range2 (by rfl) T.m_range (pa_cons pe_int (pa_cons (pe_callB call_len_str (by rfl) T.m_len (by decide +kernel) (pa_cons (pv 3) pa_nil)) pa_nil))) (pg_name (i := 4) sc.nd rfl (Or.inl rfl)) (pss_one (ps_dput (hu_of hr) (pv 1) (pe_slice sl_str (pv 3) (po_some (pv 4)) po_none) pe_bl rfl))))) (pss_one (ps_ret (pe_callTy (call_list_dK rfl) (by rfl) T.m_list (by decide +kernel) (pa_cons (pv 1) pa_nil))))))
abbrev s_next_lags : Stmt := topS 4
theorem sc_next_lags : FnScope ["book", "lag", "found", "name", "code", "left"] ["book", "lag"] (defScope s_next_lags) := ⟨rfl, rfl, rfl, by decide +kernel, rfl, by decide +kernel, by decide +kernel⟩
theorem tm_next_lags (T : Txt K mg) (C_left_of : Can P w K mg base LV_left_of "left_of" sp_left_of) {f : Addr} {cdv : Value} {A : Around} {outer : List Env} {s : Shared} {H : Hp} {E : XK} (hr : Room (LV_next_lags - 1) (A.deeper (envOfC "next_lags" (defScope s_next_lags) s.heap.objs.size f cdv))) :
    PSs (cxOf CX0 P w K mg base ["book", "lag", "found", "name", "code", "left"] "next_lags" (defScope s_next_lags) f cdv A outer s H E).nox (defBody s_next_lags) (T_next_lags K) := by
  have sc := sc_next_lags
  exact (pss_cons (ps_set (i := 2) sc.nd rfl (Or.inl rfl) (pe_lst pa_nil)) (pss_cons (ps_for PassesOwn.never rfl (pi_list (pv 0)) (pg_tup rfl (pgs_cons (pg_name (i := 3) sc.nd rfl (Or.inl rfl)) (pgs_cons (pg_name (i := 4) sc.nd rfl (Or.inl rfl)) pgs_nil))) (pss_cons (ps_set (i := 5) sc.nd rfl (Or.inl rfl) (pe_can C_left_of hr (by decide) (by rfl) (pa_cons (pv 1) (pa_cons (pv 4) pa_nil)))) (pss_one (ps_if (pt_cmpR op_notN (pv 5) pe_non (nomark _)) (pss_one (ps_expr (pe_bm PySem.F.plainAttrs_list PySem.F.slot_list_append PySem.F.type_list_append mt_append (pv 2) (pa_cons (pe_tup (pa_cons (pv 3) (pa_cons (pv 4) (pa_cons (pv 5) pa_nil)))) pa_nil)))) pss_nil)))) (pss_one (ps_ret (pv 2)))))
abbrev s_lags_of : Stmt := topS 5
theorem sc_lags_of : FnScope ["book", "found", "waiting", "lag", "name", "code", "left"] ["book"] (defScope s_lags_of) := ⟨rfl, rfl, rfl, by decide +kernel, rfl, by decide +kernel, by decide +kernel⟩
theorem tm_lags_of (T : Txt K mg) {PT_lags_of : Addr} (C_ends_of : Can P w K mg base LV_ends_of "ends_of" sp_ends_of) (C_next_lags : Can P w K mg base LV_next_lags "next_lags" sp_next_lags) {f : Addr} {cd : Addr} (TB : LamX.TabB base mg cd PT_lags_of) {A : Around} {outer : List Env} {s : Shared} {H : Hp} {E : XK} (hr : Room (LV_lags_of - 1) (A.deeper (envOfC "lags_of" (defScope s_lags_of) s.heap.objs.size f (.ref cd)))) :
    PSs (cxOf CX0 P w K mg base ["book", "found", "waiting", "lag", "name", "code", "left"] "lags_of" (defScope s_lags_of) f (.ref cd) A outer s H E).nox (defBody s_lags_of) (T_lags_of K PT_lags_of) := by
  have sc := sc_lags_of
  exact (pss_cons (ps_set (i := 1) sc.nd rfl (Or.inl rfl) pe_dnewK) (pss_cons (ps_set (i := 2) sc.nd rfl (Or.inl rfl) (pe_can C_ends_of hr (by decide) (by rfl) (pa_cons (pv 0) pa_nil))) (pss_cons (ps_while PassesOwn.never (pt_cmpR op_gt (pe_callB call_len_seq (by rfl) T.m_len (by decide +kernel) (pa_cons (pv 2) pa_nil)) pe_int (nomark _)) (pss_cons (ps_set (i := 3) sc.nd rfl (Or.inl rfl) (pe_bm0 PySem.F.plainAttrs_list PySem.F.slot_list_pop PySem.F.type_list_pop mt_pop (pv 2))) (pss_one (ps_if (pt_cmp (pc_dnotin (hu_of hr) (pv 3) (pv 1))) (pss_cons (ps_dput (hu_of hr) (pv 1) (pv 3) pe_bl rfl) (pss_one (ps_expr (pe_bm PySem.F.plainAttrs_list PySem.F.slot_list_extend PySem.F.type_list_extend mt_extend (pv 2) (pa_cons (pe_lc (own := [("name", 4), ("code", 5), ("left", 6)]) rfl sc.nd (pi_list (pe_can C_next_lags hr (by decide) (by rfl) (pa_cons (pv 0) (pa_cons (pv 3) pa_nil)))) (blkOk_by (own := [("name", 4), ("code", 5), ("left", 6)]) (by kernel_rfl)) (fun _ _ _ _ _ => (pg_tup rfl (pgs_cons (pg_name (i := 4) sc.nd rfl (Or.inl rfl)) (pgs_cons (pg_name (i := 5) sc.nd rfl (Or.inl rfl)) (pgs_cons (pg_name (i := 6) sc.nd rfl (Or.inl rfl)) pgs_nil))))) (fun _ _ _ _ _ => (pts_one (pt_cmpR op_ne (pv 6) pe_str (nomark _)))) (fun _ _ _ _ _ => (pv 6))) pa_nil))))) pss_nil)))) (pss_one (ps_ret (pe_sortedLen hr (by rfl) (by exact ⟨rfl, rfl, rfl, by decide +kernel, rfl, rfl, by decide, fun _ _ _ _ _ _ => rfl, fun _ => rfl, fun _ => rfl⟩) TB (by rfl) (by rfl) (by rfl) T.m_sorted T.m_len (pv 1)))))))
abbrev s_l_begin : Stmt := topS 7
theorem sc_l_begin : FnScope ["_law_script", "_law_cells"] ["_law_script"] (defScope s_l_begin) := ⟨rfl, rfl, rfl, by decide +kernel, rfl, by decide +kernel, by decide +kernel⟩
theorem tm_l_begin (T : Txt K mg)  {f : Addr} {cdv : Value} {A : Around} {outer : List Env} {s : Shared} {H : Hp} {E : XK} (hr : Room (LV_l_begin - 1) (A.deeper (envOfC "_law_begin" (defScope s_l_begin) s.heap.objs.size f cdv))) :
    PSs (cxOf CX0 P w K mg base ["_law_script", "_law_cells"] "_law_begin" (defScope s_l_begin) f cdv A outer s H E).nox (defBody s_l_begin) (T_l_begin K) := by
  have sc := sc_l_begin
  exact (pss_cons (ps_set (i := 1) sc.nd rfl (Or.inl rfl) (pe_callTy call_list_of (by rfl) T.m_list (by decide +kernel) (pa_cons (pe_slice sl_list (pv 0) po_none (po_some pe_int)) pa_nil))) (pss_cons (ps_if (pt_cmpR (op_eqD hr.units) (pv 1) (pe_lst pa_nil) (nomark _)) (pss_one (ps_set (i := 1) sc.nd rfl (Or.inl rfl) (pe_lst (pa_cons pe_int pa_nil)))) pss_nil) (pss_one (ps_ret (pe_disp (pps_cons pe_str (pv 1) (pps_cons pe_str pe_int pps_nil)) (by rfl) (by rfl) (fun z => by cases z) (by decide))))))
abbrev s_l_take : Stmt := topS 8
theorem sc_l_take : FnScope ["_law_state", "_law_many", "_law_turn", "_law_place", "_law_cell", "_law_digit", "_law_mixed"] ["_law_state", "_law_many"] (defScope s_l_take) := ⟨rfl, rfl, rfl, by decide +kernel, rfl, by decide +kernel, by decide +kernel⟩
theorem tm_l_take (T : Txt K mg)  {f : Addr} {cdv : Value} {A : Around} {outer : List Env} {s : Shared} {H : Hp} {E : XK} (hr : Room (LV_l_take - 1) (A.deeper (envOfC "_law_take" (defScope s_l_take) s.heap.objs.size f cdv))) :
    PSs (cxOf CX0 P w K mg base ["_law_state", "_law_many", "_law_turn", "_law_place", "_law_cell", "_law_digit", "_law_mixed"] "_law_take" (defScope s_l_take) f cdv A outer s H E).nox (defBody s_l_take) (T_l_take K) := by
  have sc := sc_l_take
  exact (pss_cons (ps_set (i := 2) sc.nd rfl (Or.inl rfl) (pe_op op_add (pe_dget (hu_of hr) (pv 0) pe_str (fun _ _ => rfl)) pe_int)) (pss_cons (ps_dput (hu_of hr) (pv 0) pe_str (pv 2) rfl) (pss_cons (ps_set (i := 3) sc.nd rfl (Or.inl rfl) (pe_op op_mod (pv 2) (pe_callB call_len_seq (by rfl) T.m_len (by decide +kernel) (pa_cons (pe_dget (hu_of hr) (pv 0) pe_str (fun _ _ => rfl)) pa_nil)))) (pss_cons (ps_set (i := 4) sc.nd rfl (Or.inl rfl) (pe_ix ix_list (pe_dget (hu_of hr) (pv 0) pe_str (fun _ _ => rfl)) (pv 3) (fun _ _ => rfl))) (pss_cons (ps_if (pt_cmpR op_ge (pv 4) (pe_op op_pow pe_int pe_int) (nomark _)) (pss_cons (ps_asg (pe_callB call_divmodW (by rfl) T.m_divmod (by decide +kernel) (pa_cons (pv 4) (pa_cons (pv 1) pa_nil))) (pg_tup rfl (pgs_cons (pg_sub (pe_dget (hu_of hr) (pv 0) pe_str (fun _ _ => rfl)) (pv 3) set_list) (pgs_cons (pg_name (i := 5) sc.nd rfl (Or.inl rfl)) pgs_nil)))) (pss_one (ps_ret (pv 5)))) pss_nil) (pss_cons (ps_set (i := 6) sc.nd rfl (Or.inl rfl) (pe_op op_mod (pe_op op_mul (pe_op op_add (pe_op op_add (pe_op op_mod (pv 4) pe_int) (pe_op op_mul (pe_op op_mul (pv 2) (pv 2)) pe_int)) pe_int) pe_int) pe_int)) (pss_cons (ps_set (i := 6) sc.nd rfl (Or.inl rfl) (pe_op op_mod (pe_op op_mul (pv 6) (pv 6)) pe_int)) (pss_one (ps_ret (pe_op op_mod (pe_op op_fdiv (pe_op op_mod (pe_op op_mul (pe_op op_add (pv 6) (pe_op op_mul (pv 2) pe_int)) pe_int) pe_int) pe_int) (pv 1)))))))))))
abbrev s_l_same : Stmt := topS 9
theorem sc_l_same : FnScope ["_law_found", "_law_due", "_law_one", "_law_other"] ["_law_found", "_law_due"] (defScope s_l_same) := ⟨rfl, rfl, rfl, by decide +kernel, rfl, by decide +kernel, by decide +kernel⟩
theorem tm_l_same (T : Txt K mg) {k : Nat} {R : PSp} (C_l_same : Can P w K mg base k "_law_same" R) {f : Addr} {cdv : Value} {A : Around} {outer : List Env} {s : Shared} {H : Hp} {E : XK} (hr : Room k (A.deeper (envOfC "_law_same" (defScope s_l_same) s.heap.objs.size f cdv))) :
    PSs (cxOf CX0 P w K mg base ["_law_found", "_law_due", "_law_one", "_law_other"] "_law_same" (defScope s_l_same) f cdv A outer s H E).nox (defBody s_l_same) (T_l_same K R) := by
  have sc := sc_l_same
  exact (pss_cons (ps_if (pt_cmpR op_isN (pv 1) pe_non (nomark _)) (pss_one (ps_ret (pe_cmpR op_isN (pv 0) pe_non (nomark _)))) pss_nil) (pss_cons (ps_if (pt_val (pe_callB call_isi (by rfl) T.m_isinstance (by decide +kernel) (pa_cons (pv 1) (pa_cons (pe_bltn (v := .ty "bool") (by rfl) T.m_bool (by decide +kernel) rfl) pa_nil)))) (pss_one (ps_ret (pe_and (pe_callB call_isi (by rfl) T.m_isinstance (by decide +kernel) (pa_cons (pv 0) (pa_cons (pe_bltn (v := .ty "bool") (by rfl) T.m_bool (by decide +kernel) rfl) pa_nil))) (pe_one (pe_cmpR (op_eqD hr.units) (pv 0) (pv 1) (nomark _)))))) pss_nil) (pss_cons (ps_if (pt_val (pe_callB call_isiT (by rfl) T.m_isinstance (by decide +kernel) (pa_cons (pv 1) (pa_cons (pe_tup (pa_cons (pe_bltn (v := .ty "list") (by rfl) T.m_list (by decide +kernel) rfl) (pa_cons (pe_bltn (v := .ty "tuple") (by rfl) T.m_tuple (by decide +kernel) rfl) pa_nil))) pa_nil)))) (pss_cons (ps_if (PW.pt (pw_or (pt_cmpR op_ne (pe_callB call_isi (by rfl) T.m_isinstance (by decide +kernel) (pa_cons (pv 0) (pa_cons (pe_bltn (v := .ty "list") (by rfl) T.m_list (by decide +kernel) rfl) pa_nil))) (pe_callB call_isi (by rfl) T.m_isinstance (by decide +kernel) (pa_cons (pv 1) (pa_cons (pe_bltn (v := .ty "list") (by rfl) T.m_list (by decide +kernel) rfl) pa_nil))) (nomark _)) (pw_or1 (pt_cmpR op_ne (pe_callB call_isi (by rfl) T.m_isinstance (by decide +kernel) (pa_cons (pv 0) (pa_cons (pe_bltn (v := .ty "tuple") (by rfl) T.m_tuple (by decide +kernel) rfl) pa_nil))) (pe_callB call_isi (by rfl) T.m_isinstance (by decide +kernel) (pa_cons (pv 1) (pa_cons (pe_bltn (v := .ty "tuple") (by rfl) T.m_tuple (by decide +kernel) rfl) pa_nil))) (nomark _))))) (pss_one (ps_ret pe_bl)) pss_nil) (pss_one (ps_ret (pe_and (pe_cmpR op_eq (pe_callB call_len_seq (by rfl) T.m_len (by decide +kernel) (pa_cons (pv 0) pa_nil)) (pe_callB call_len_seq (by rfl) T.m_len (by decide +kernel) (pa_cons (pv 1) pa_nil)) (nomark _)) (pe_one (pe_callB (cr_all rfl) (by rfl) T.m_all (by decide +kernel) (pa_cons (pe_lc (own := [("_law_one", 2), ("_law_other", 3)]) rfl sc.nd (pi_zip (by rfl) T.m_zip (pa_cons (pv 0) (pa_cons (pv 1) pa_nil))) (blkOk_by (own := [("_law_one", 2), ("_law_other", 3)]) (by kernel_rfl)) (fun _ _ _ _ _ => (pg_tup rfl (pgs_cons (pg_name (i := 2) sc.nd rfl (Or.inl rfl)) (pgs_cons (pg_name (i := 3) sc.nd rfl (Or.inl rfl)) pgs_nil)))) (fun _ _ _ _ _ => pts_nil) (fun _ _ _ _ _ => (pe_can C_l_same hr (by omega) (by rfl) (pa_cons (pv 2) (pa_cons (pv 3) pa_nil))))) pa_nil))))))) pss_nil) (pss_cons (ps_if (pt_val (pe_callB call_isi (by rfl) T.m_isinstance (by decide +kernel) (pa_cons (pv 1) (pa_cons (pe_bltn (v := .ty "str") (by rfl) T.m_str (by decide +kernel) rfl) pa_nil)))) (pss_one (ps_ret (pe_and (pe_callB call_isi (by rfl) T.m_isinstance (by decide +kernel) (pa_cons (pv 0) (pa_cons (pe_bltn (v := .ty "str") (by rfl) T.m_str (by decide +kernel) rfl) pa_nil))) (pe_one (pe_cmpR (op_eqD hr.units) (pv 0) (pv 1) (nomark _)))))) pss_nil) (pss_one (ps_ret (pe_and (pe_callB call_isi (by rfl) T.m_isinstance (by decide +kernel) (pa_cons (pv 0) (pa_cons (pe_bltn (v := .ty "int") (by rfl) T.m_int (by decide +kernel) rfl) pa_nil))) (pe_and (pe_not (pe_callB call_isi (by rfl) T.m_isinstance (by decide +kernel) (pa_cons (pv 0) (pa_cons (pe_bltn (v := .ty "bool") (by rfl) T.m_bool (by decide +kernel) rfl) pa_nil)))) (pe_one (pe_cmpR (op_eqD hr.units) (pv 0) (pv 1) (nomark _)))))))))))
abbrev s_l_names : Stmt := topS 10
theorem sc_l_names : FnScope ["_law_state", "_law_many", "_law_letters", "_law_found", "_law_k", "_law_j"] ["_law_state", "_law_many"] (defScope s_l_names) := ⟨rfl, rfl, rfl, by decide +kernel, rfl, by decide +kernel, by decide +kernel⟩
theorem tm_l_names (T : Txt K mg) (C_l_take : Can P w K mg base LV_l_take "_law_take" sp_l_take) {f : Addr} {cdv : Value} {A : Around} {outer : List Env} {s : Shared} {H : Hp} {E : XK} (hr : Room (LV_l_names - 1) (A.deeper (envOfC "_law_names" (defScope s_l_names) s.heap.objs.size f cdv))) :
    PSs (cxOf CX0 P w K mg base ["_law_state", "_law_many", "_law_letters", "_law_found", "_law_k", "_law_j"] "_law_names" (defScope s_l_names) f cdv A outer s H E).nox (defBody s_l_names) (T_l_names K) := by
  have sc := sc_l_names
  exact (pss_cons (ps_set (i := 2) sc.nd rfl (Or.inr rfl) pe_str) (pss_cons (ps_set (i := 3) sc.nd rfl (Or.inl rfl) (pe_lst pa_nil)) (pss_cons (ps_for PassesOwn.never rfl (pi_range1 (by rfl) T.m_range (pa_cons (pv 1) pa_nil)) (pg_name (i := 4) sc.nd rfl (Or.inl rfl)) (pss_one (ps_expr (pe_bm PySem.F.plainAttrs_list PySem.F.slot_list_append PySem.F.type_list_append mt_append (pv 3) (pa_cons (pe_op op_add_str (pe_join pe_str (pe_lc (own := [("_law_j", 5)]) rfl sc.nd (pi_range1 (by rfl) T.m_range (pa_cons (pe_can C_l_take hr (by decide) (by rfl) (pa_cons (pv 0) (pa_cons pe_int pa_nil))) pa_nil)) (blkOk_by (own := [("_law_j", 5)]) (by kernel_rfl)) (fun _ _ _ _ _ => (pg_name (i := 5) sc.nd rfl (Or.inl rfl))) (fun _ _ _ _ _ => pts_nil) (fun _ _ _ _ _ => (pe_ix ix_str (pv 2) (pe_can C_l_take hr (by decide) (by rfl) (pa_cons (pv 0) (pa_cons pe_int pa_nil))) (fun _ _ => rfl))))) (pe_ix ix_str (pv 2) (pv 4) (fun _ _ => rfl))) pa_nil))))) (pss_one (ps_ret (pv 3))))))
abbrev s_l_free : Stmt := topS 11
theorem sc_l_free : FnScope ["_law_state", "_law_many", "_law_most", "_law_leaves", "_law_more", "_law_turn", "_law_some", "_law_leaf", "_law_found"] ["_law_state", "_law_many", "_law_most"] (defScope s_l_free) := ⟨rfl, rfl, rfl, by decide +kernel, rfl, by decide +kernel, by decide +kernel⟩
theorem tm_l_free (T : Txt K mg) (C_l_take : Can P w K mg base LV_l_take "_law_take" sp_l_take) {f : Addr} {cdv : Value} {A : Around} {outer : List Env} {s : Shared} {H : Hp} {E : XK} (hr : Room (LV_l_free - 1) (A.deeper (envOfC "_law_free" (defScope s_l_free) s.heap.objs.size f cdv))) :
    PSs (cxOf CX0 P w K mg base ["_law_state", "_law_many", "_law_most", "_law_leaves", "_law_more", "_law_turn", "_law_some", "_law_leaf", "_law_found"] "_law_free" (defScope s_l_free) f cdv A outer s H E).nox (defBody s_l_free) (T_l_free K) := by
  have sc := sc_l_free
  exact (pss_cons (ps_set (i := 3) sc.nd rfl (Or.inl rfl) (pe_lst (pa_cons pe_str (pa_cons pe_str pa_nil)))) (pss_cons (ps_set (i := 4) sc.nd rfl (Or.inl rfl) (pe_can C_l_take hr (by decide) (by rfl) (pa_cons (pv 0) (pa_cons pe_int pa_nil)))) (pss_cons (ps_for PassesOwn.never rfl (pi_range1 (by rfl) T.m_range (pa_cons (pv 1) pa_nil)) (pg_name (i := 5) sc.nd rfl (Or.inl rfl)) (pss_cons (ps_setLc (i := 6) (own := [("_law_leaf", 7)]) rfl sc.nd rfl rfl (sw_true rfl rfl rfl (by decide +kernel)) (pi_list (pv 3)) (blkOk_by (own := [("_law_leaf", 7)]) (by kernel_rfl)) (fun _ _ _ _ _ => (pg_name (i := 7) sc.nd rfl (Or.inl rfl))) (fun _ _ _ _ _ => (pts_one (pt_cmpR op_lt (pe_callB call_len_str (by rfl) T.m_len (by decide +kernel) (pa_cons (pv 7) pa_nil)) (pv 2) (nomark _)))) (fun _ _ _ _ _ => (pv 7))) (pss_one (ps_if (PW.pt (pw_and (pt_cmpR (op_neD hr.units) (pv 6) (pe_lst pa_nil) (nomark _)) (pw_and1 (pt_cmpR op_lt (pe_callB call_len_seq (by rfl) T.m_len (by decide +kernel) (pa_cons (pv 3) pa_nil)) (pe_op op_add (pv 1) (pv 4)) (nomark _))))) (pss_cons (ps_set (i := 7) sc.nd rfl (Or.inl rfl) (pe_ix ix_list (pv 6) (pe_can C_l_take hr (by decide) (by rfl) (pa_cons (pv 0) (pa_cons (pe_callB call_len_seq (by rfl) T.m_len (by decide +kernel) (pa_cons (pv 6) pa_nil)) pa_nil))) (fun _ _ => rfl))) (pss_cons (ps_expr (pe_bm PySem.F.plainAttrs_list PySem.F.slot_list_remove PySem.F.type_list_remove mt_removeS (pv 3) (pa_cons (pv 7) pa_nil))) (pss_one (ps_set (i := 3) sc.nd rfl (Or.inl rfl) (pe_op op_cat (pv 3) (pe_lst (pa_cons (pe_op op_add_str (pv 7) pe_str) (pa_cons (pe_op op_add_str (pv 7) pe_str) pa_nil)))))))) pss_nil)))) (pss_cons (ps_set (i := 8) sc.nd rfl (Or.inl rfl) (pe_lst pa_nil)) (pss_cons (ps_while PassesOwn.never (PW.pt (pw_and (pt_cmpR (op_neD hr.units) (pv 3) (pe_lst pa_nil) (nomark _)) (pw_and1 (pt_cmpR op_lt (pe_callB call_len_seq (by rfl) T.m_len (by decide +kernel) (pa_cons (pv 8) pa_nil)) (pv 1) (nomark _))))) (pss_one (ps_expr (pe_bm PySem.F.plainAttrs_list PySem.F.slot_list_append PySem.F.type_list_append mt_append (pv 8) (pa_cons (pe_bm PySem.F.plainAttrs_list PySem.F.slot_list_pop PySem.F.type_list_pop mt_popAt (pv 3) (pa_cons (pe_can C_l_take hr (by decide) (by rfl) (pa_cons (pv 0) (pa_cons (pe_callB call_len_seq (by rfl) T.m_len (by decide +kernel) (pa_cons (pv 3) pa_nil)) pa_nil))) pa_nil)) pa_nil))))) (pss_one (ps_ret (pv 8))))))))
abbrev s_l_sizes : Stmt := topS 12
theorem sc_l_sizes : FnScope ["_law_state", "_law_way"] ["_law_state"] (defScope s_l_sizes) := ⟨rfl, rfl, rfl, by decide +kernel, rfl, by decide +kernel, by decide +kernel⟩
theorem tm_l_sizes (T : Txt K mg) (C_l_take : Can P w K mg base LV_l_take "_law_take" sp_l_take) {f : Addr} {cdv : Value} {A : Around} {outer : List Env} {s : Shared} {H : Hp} {E : XK} (hr : Room (LV_l_sizes - 1) (A.deeper (envOfC "_law_sizes" (defScope s_l_sizes) s.heap.objs.size f cdv))) :
    PSs (cxOf CX0 P w K mg base ["_law_state", "_law_way"] "_law_sizes" (defScope s_l_sizes) f cdv A outer s H E).nox (defBody s_l_sizes) (T_l_sizes K) := by
  have sc := sc_l_sizes
  exact (pss_cons (ps_set (i := 1) sc.nd rfl (Or.inl rfl) (pe_can C_l_take hr (by decide) (by rfl) (pa_cons (pv 0) (pa_cons pe_int pa_nil)))) (pss_cons (ps_if (PW.pt (pw_and (pt_cmpR op_eq (pv 1) pe_int (nomark _)) (pw_and1 (pt_cmp (pc_dnotin (hu_of hr) pe_str (pv 0)))))) (pss_cons (ps_dput (hu_of hr) (pv 0) pe_str pe_int rfl) (pss_one (ps_ret (pe_tup (pa_cons (pe_op op_add pe_int (pe_can C_l_take hr (by decide) (by rfl) (pa_cons (pv 0) (pa_cons pe_int pa_nil)))) (pa_cons (pe_op op_add pe_int (pe_can C_l_take hr (by decide) (by rfl) (pa_cons (pv 0) (pa_cons pe_int pa_nil)))) pa_nil)))))) pss_nil) (pss_cons (ps_if (pt_cmpR op_in_seq (pv 1) (pe_tup (pa_cons pe_int (pa_cons pe_int pa_nil))) (by rfl)) (pss_one (ps_ret (pe_tup (pa_cons (pe_op op_add pe_int (pe_can C_l_take hr (by decide) (by rfl) (pa_cons (pv 0) (pa_cons pe_int pa_nil)))) (pa_cons (pe_op op_add pe_int (pe_can C_l_take hr (by decide) (by rfl) (pa_cons (pv 0) (pa_cons pe_int pa_nil)))) pa_nil))))) pss_nil) (pss_one (ps_ret (pe_tup (pa_cons (pe_op op_add pe_int (pe_can C_l_take hr (by decide) (by rfl) (pa_cons (pv 0) (pa_cons pe_int pa_nil)))) (pa_cons (pe_op op_add pe_int (pe_can C_l_take hr (by decide) (by rfl) (pa_cons (pv 0) (pa_cons pe_int pa_nil)))) pa_nil))))))))
abbrev s_l_book : Stmt := topS 13
theorem sc_l_book : FnScope ["_law_state", "_law_way", "_law_many", "_law_most", "_law_codes", "_law_code", "_law_k"] ["_law_state"] (defScope s_l_book) := ⟨rfl, rfl, rfl, by decide +kernel, rfl, by decide +kernel, by decide +kernel⟩
theorem tm_l_book (T : Txt K mg) (C_l_free : Can P w K mg base LV_l_free "_law_free" sp_l_free) (C_l_names : Can P w K mg base LV_l_names "_law_names" sp_l_names) (C_l_sizes : Can P w K mg base LV_l_sizes "_law_sizes" sp_l_sizes) (C_l_take : Can P w K mg base LV_l_take "_law_take" sp_l_take) {f : Addr} {cdv : Value} {A : Around} {outer : List Env} {s : Shared} {H : Hp} {E : XK} (hr : Room (LV_l_book - 1) (A.deeper (envOfC "_law_book" (defScope s_l_book) s.heap.objs.size f cdv))) :
    PSs (cxOf CX0 P w K mg base ["_law_state", "_law_way", "_law_many", "_law_most", "_law_codes", "_law_code", "_law_k"] "_law_book" (defScope s_l_book) f cdv A outer s H E).nox (defBody s_l_book) (T_l_book K) := by
  have sc := sc_l_book
  exact (pss_cons (ps_set (i := 1) sc.nd rfl (Or.inl rfl) (pe_can C_l_take hr (by decide) (by rfl) (pa_cons (pv 0) (pa_cons pe_int pa_nil)))) (pss_cons (ps_asg (pe_can C_l_sizes hr (by decide) (by rfl) (pa_cons (pv 0) pa_nil)) (pg_tup rfl (pgs_cons (pg_name (i := 2) sc.nd rfl (Or.inl rfl)) (pgs_cons (pg_name (i := 3) sc.nd rfl (Or.inr rfl)) pgs_nil)))) (pss_cons (ps_set (i := 4) sc.nd rfl (Or.inl rfl) (pe_can C_l_free hr (by decide) (by rfl) (pa_cons (pv 0) (pa_cons (pv 2) (pa_cons (pv 3) pa_nil))))) (pss_cons (ps_if (pt_cmpR op_eq (pv 1) pe_int (nomark _)) (pss_one (ps_set (i := 4) sc.nd rfl (Or.inl rfl) (pe_sortedSetS (by rfl) (by rfl) T.m_sorted (by rfl) T.m_set (pe_lc (own := [("_law_code", 5)]) rfl sc.nd (pi_list (pv 4)) (blkOk_by (own := [("_law_code", 5)]) (by kernel_rfl)) (fun _ _ _ _ _ => (pg_name (i := 5) sc.nd rfl (Or.inl rfl))) (fun _ _ _ _ _ => pts_nil) (fun _ _ _ _ _ => (pe_slice sl_str (pe_op op_mulS (pv 5) pe_int) po_none (po_some (pv 3)))))))) pss_nil) (pss_cons (ps_if (pt_cmpR op_eq (pv 1) pe_int (nomark _)) (pss_one (ps_set (i := 4) sc.nd rfl (Or.inl rfl) (pe_op op_cat (pe_lc (own := [("_law_k", 6)]) rfl sc.nd (pi_range1 (by rfl) T.m_range (pa_cons (pv 2) pa_nil)) (blkOk_by (own := [("_law_k", 6)]) (by kernel_rfl)) (fun _ _ _ _ _ => (pg_name (i := 6) sc.nd rfl (Or.inl rfl))) (fun _ _ _ _ _ => pts_nil) (fun _ _ _ _ _ => (pe_op op_add_str (pe_op op_mulS pe_str (pv 6)) pe_str))) (pe_op op_rep (pe_lst (pa_cons (pe_op op_mulS pe_str (pv 2)) pa_nil)) (pe_op op_mul (pe_can C_l_take hr (by decide) (by rfl) (pa_cons (pv 0) (pa_cons pe_int pa_nil))) (pe_callTy call_int1 (by rfl) T.m_int (by decide +kernel) (pa_cons (pe_cmpR op_lt (pv 2) pe_int (nomark _)) pa_nil))))))) pss_nil) (pss_one (ps_ret (pe_listZip (by rfl) T.m_list (by rfl) T.m_zip (pa_cons (pe_can C_l_names hr (by decide) (by rfl) (pa_cons (pv 0) (pa_cons (pe_callB call_len_seq (by rfl) T.m_len (by decide +kernel) (pa_cons (pv 4) pa_nil)) pa_nil))) (pa_cons (pv 4) pa_nil))))))))))
abbrev s_l_left : Stmt := topS 14
theorem sc_l_left : FnScope ["_law_one", "_law_other", "_law_longer", "_law_shorter"] ["_law_one", "_law_other"] (defScope s_l_left) := ⟨rfl, rfl, rfl, by decide +kernel, rfl, by decide +kernel, by decide +kernel⟩
theorem tm_l_left (T : Txt K mg)  {f : Addr} {cdv : Value} {A : Around} {outer : List Env} {s : Shared} {H : Hp} {E : XK} (hr : Room (LV_l_left - 1) (A.deeper (envOfC "_law_left" (defScope s_l_left) s.heap.objs.size f cdv))) :
    PSs (cxOf CX0 P w K mg base ["_law_one", "_law_other", "_law_longer", "_law_shorter"] "_law_left" (defScope s_l_left) f cdv A outer s H E).nox (defBody s_l_left) (T_l_left K) := by
  have sc := sc_l_left
  exact (pss_cons (ps_asg (pe_ifExp (pt_cmpR op_gt (pe_callB call_len_str (by rfl) T.m_len (by decide +kernel) (pa_cons (pv 0) pa_nil)) (pe_callB call_len_str (by rfl) T.m_len (by decide +kernel) (pa_cons (pv 1) pa_nil)) (nomark _)) (pe_tup (pa_cons (pv 0) (pa_cons (pv 1) pa_nil))) (pe_tup (pa_cons (pv 1) (pa_cons (pv 0) pa_nil)))) (pg_tup rfl (pgs_cons (pg_name (i := 2) sc.nd rfl (Or.inl rfl)) (pgs_cons (pg_name (i := 3) sc.nd rfl (Or.inl rfl)) pgs_nil)))) (pss_one (ps_ret (pe_ifExp (pt_cmpR op_eq (pe_slice sl_str (pv 2) po_none (po_some (pe_callB call_len_str (by rfl) T.m_len (by decide +kernel) (pa_cons (pv 3) pa_nil)))) (pv 3) (nomark _)) (pe_slice sl_str (pv 2) (po_some (pe_callB call_len_str (by rfl) T.m_len (by decide +kernel) (pa_cons (pv 3) pa_nil))) po_none) pe_non))))
abbrev s_l_lags : Stmt := topS 15
theorem sc_l_lags : FnScope ["_law_codes", "_law_found", "_law_waiting", "_law_code", "_law_place", "_law_lag", "_law_lefts", "_law_left_here"] ["_law_codes"] (defScope s_l_lags) := ⟨rfl, rfl, rfl, by decide +kernel, rfl, by decide +kernel, by decide +kernel⟩
theorem tm_l_lags (T : Txt K mg) {PT_l_lags : Addr} (C_l_left : Can P w K mg base LV_l_left "_law_left" sp_l_left) {f : Addr} {cd : Addr} (TB : LamX.TabB base mg cd PT_l_lags) {A : Around} {outer : List Env} {s : Shared} {H : Hp} {E : XK} (hr : Room (LV_l_lags - 1) (A.deeper (envOfC "_law_lags" (defScope s_l_lags) s.heap.objs.size f (.ref cd)))) :
    PSs (cxOf CX0 P w K mg base ["_law_codes", "_law_found", "_law_waiting", "_law_code", "_law_place", "_law_lag", "_law_lefts", "_law_left_here"] "_law_lags" (defScope s_l_lags) f (.ref cd) A outer s H E).nox (defBody s_l_lags) (T_l_lags K PT_l_lags) := by
  have sc := sc_l_lags
  exact (pss_cons (ps_par (i := 1) (j := 2) (by rfl) sc.nd rfl rfl (by decide) rfl rfl (pa_cons pe_dnewK (pa_cons (pe_lst pa_nil) pa_nil)) (by rfl)) (pss_cons (ps_for PassesOwn.never rfl (pi_list (pv 0)) (pg_name (i := 3) sc.nd rfl (Or.inr rfl)) (pss_one (ps_expr (pe_bm PySem.F.plainAttrs_list PySem.F.slot_list_extend PySem.F.type_list_extend mt_extend (pv 2) (pa_cons (pe_lc (own := [("_law_place", 4)]) rfl sc.nd (pi_range2 (by rfl) T.m_range (pa_cons pe_int (pa_cons (pe_callB call_len_str (by rfl) T.m_len (by decide +kernel) (pa_cons (pv 3) pa_nil)) pa_nil))) (blkOk_by (own := [("_law_place", 4)]) (by kernel_rfl)) (fun _ _ _ _ _ => (pg_name (i := 4) sc.nd rfl (Or.inl rfl))) (fun _ _ _ _ _ => pts_nil) (fun _ _ _ _ _ => (pe_slice sl_str (pv 3) (po_some (pv 4)) po_none))) pa_nil))))) (pss_cons (ps_while PassesOwn.never (pt_cmpR (op_neD hr.units) (pv 2) (pe_lst pa_nil) (nomark _)) (pss_cons (ps_set (i := 5) sc.nd rfl (Or.inr rfl) (pe_bm0 PySem.F.plainAttrs_list PySem.F.slot_list_pop PySem.F.type_list_pop mt_pop (pv 2))) (pss_one (ps_if (pt_cmp (pc_dnotin (hu_of hr) (pv 5) (pv 1))) (pss_cons (ps_dput (hu_of hr) (pv 1) (pv 5) pe_bl rfl) (pss_cons (ps_setLc (i := 6) (own := [("_law_code", 3)]) rfl sc.nd rfl rfl (sw_true rfl rfl rfl (by decide +kernel)) (pi_list (pv 0)) (blkOk_by (own := [("_law_code", 3)]) (by kernel_rfl)) (fun _ _ _ _ _ => (pg_name (i := 3) sc.nd rfl (Or.inl rfl))) (fun _ _ _ _ _ => pts_nil) (fun _ _ _ _ _ => (pe_can C_l_left hr (by decide) (by rfl) (pa_cons (pv 5) (pa_cons (pv 3) pa_nil))))) (pss_one (ps_expr (pe_bm PySem.F.plainAttrs_list PySem.F.slot_list_extend PySem.F.type_list_extend mt_extend (pv 2) (pa_cons (pe_lc (own := [("_law_left_here", 7)]) rfl sc.nd (pi_list (pv 6)) (blkOk_by (own := [("_law_left_here", 7)]) (by kernel_rfl)) (fun _ _ _ _ _ => (pg_name (i := 7) sc.nd rfl (Or.inl rfl))) (fun _ _ _ _ _ => (pts_one (PW.pt (pw_and (pt_cmpR op_notN (pv 7) pe_non (nomark _)) (pw_and1 (pt_cmpR (op_neD hr.units) (pv 7) pe_str (nomark _))))))) (fun _ _ _ _ _ => (pv 7))) pa_nil)))))) pss_nil)))) (pss_one (ps_ret (pe_sortedLen hr (by rfl) (by exact ⟨rfl, rfl, rfl, by decide +kernel, rfl, rfl, by decide, fun _ _ _ _ _ _ => rfl, fun _ => rfl, fun _ => rfl⟩) TB (by rfl) (by rfl) (by rfl) T.m_sorted T.m_len (pv 1)))))))
abbrev s_law : Stmt := topS 16
theorem sc_law : FnScope ["_law_script", "_law_state", "_law_turn", "_law_book_here", "_law_kept", "_law_due", "_law_name", "_law_code", "_law_again", "_law_found"] ["_law_script"] (defScope s_law) := ⟨rfl, rfl, rfl, by decide +kernel, rfl, by decide +kernel, by decide +kernel⟩
theorem tm_law (T : Txt K mg) {PT_l_lags PT_lags_of : Addr} (C_l_begin : Can P w K mg base LV_l_begin "_law_begin" sp_l_begin) (C_l_book : Can P w K mg base LV_l_book "_law_book" sp_l_book) (C_l_lags : Can P w K mg base LV_l_lags "_law_lags" (sp_l_lags PT_l_lags)) (C_l_same : Can P w K mg base LV_l_same "_law_same" sp_l_same) (C_lags_of : Can P w K mg base LV_lags_of "lags_of" (sp_lags_of PT_lags_of)) {f : Addr} {cdv : Value} {A : Around} {outer : List Env} {s : Shared} {H : Hp} {E : XK} (hr : Room (LV_law - 1) (A.deeper (envOfC "law" (defScope s_law) s.heap.objs.size f cdv))) :
    PSs (cxOf CX0 P w K mg base ["_law_script", "_law_state", "_law_turn", "_law_book_here", "_law_kept", "_law_due", "_law_name", "_law_code", "_law_again", "_law_found"] "law" (defScope s_law) f cdv A outer s H E).nox (defBody s_law) (T_law K PT_l_lags PT_lags_of) := by
  have sc := sc_law
  exact (pss_cons (ps_set (i := 1) sc.nd rfl (Or.inl rfl) (pe_can C_l_begin hr (by decide) (by rfl) (pa_cons (pv 0) pa_nil))) (pss_cons (ps_for PassesOwn.never rfl (pi_range1 (by rfl) T.m_range (pa_cons pe_int pa_nil)) (pg_name (i := 2) sc.nd rfl (Or.inl rfl)) (pss_cons (ps_set (i := 3) sc.nd rfl (Or.inl rfl) (pe_can C_l_book hr (by decide) (by rfl) (pa_cons (pv 1) pa_nil))) (pss_cons (ps_set (i := 4) sc.nd rfl (Or.inl rfl) (pe_callTy call_list_of (by rfl) T.m_list (by decide +kernel) (pa_cons (pv 3) pa_nil))) (pss_cons (ps_set (i := 5) sc.nd rfl (Or.inl rfl) (pe_can C_l_lags hr (by decide) (by rfl) (pa_cons (pe_lc (own := [("_law_name", 6), ("_law_code", 7)]) rfl sc.nd (pi_list (pv 3)) (blkOk_by (own := [("_law_name", 6), ("_law_code", 7)]) (by kernel_rfl)) (fun _ _ _ _ _ => (pg_tup rfl (pgs_cons (pg_name (i := 6) sc.nd rfl (Or.inl rfl)) (pgs_cons (pg_name (i := 7) sc.nd rfl (Or.inl rfl)) pgs_nil)))) (fun _ _ _ _ _ => pts_nil) (fun _ _ _ _ _ => (pv 7))) pa_nil))) (pss_one (ps_for PassesOwn.never rfl (pi_range1 (by rfl) T.m_range (pa_cons pe_int pa_nil)) (pg_name (i := 8) sc.nd rfl (Or.inl rfl)) (pss_cons (ps_set (i := 9) sc.nd rfl (Or.inl rfl) (pe_can C_lags_of hr (by decide) (by rfl) (pa_cons (pv 3) pa_nil))) (pss_cons (ps_if (PW.pt (pw_or (pt_not (pt_val (pe_can C_l_same hr (by decide) (by rfl) (pa_cons (pv 9) (pa_cons (pv 5) pa_nil))))) (pw_or1 (pt_cmpR (op_neD hr.units) (pv 3) (pv 4) (nomark _))))) (pss_one (ps_ret pe_bl)) pss_nil) (pss_cons (ps_expr (pe_bm0 PySem.F.plainAttrs_list PySem.F.slot_list_reverse PySem.F.type_list_reverse mt_reverse (pv 9))) (pss_one (ps_expr (pe_bm PySem.F.plainAttrs_list PySem.F.slot_list_append PySem.F.type_list_append mt_append (pv 9) (pa_cons pe_str pa_nil))))))))))))) (pss_one (ps_ret pe_bl))))
end OL

/-! the end of law_k59_lags -/
namespace OL
open PySem PySem.Spec PyProof.Rows L2 He
def eFn : List DefD := [defD "left_of" s_left_of, defD "ends_of" s_ends_of, defD "next_lags" s_next_lags, defD "lags_of" s_lags_of, defD "_law_begin" s_l_begin, defD "_law_take" s_l_take, defD "_law_same" s_l_same, defD "_law_names" s_l_names, defD "_law_free" s_l_free, defD "_law_sizes" s_l_sizes, defD "_law_book" s_l_book, defD "_law_left" s_l_left, defD "_law_lags" s_l_lags, defD "law" s_law]
def eFa : List Fa := [.glo "left_of", .glo "ends_of", .glo "next_lags", .glo "lags_of", .glo "_law_begin", .glo "_law_take", .glo "_law_same", .glo "_law_names", .glo "_law_free", .glo "_law_sizes", .glo "_law_book", .glo "_law_left", .glo "_law_lags", .glo "law", .free "len", .free "list", .free "range", .free "sorted", .free "divmod", .free "all", .free "bool", .free "int", .free "isinstance", .free "str", .free "tuple", .free "zip", .free "set"]
def eTf : List Defn := [("_law_lags", none), ("lags_of", none)]
def eEx (K : PySem.W.Frag) : Bool := decide (eTf.map fun p => (cT K p).2).Nodup
def eQ (p : Defn) : Str := (p.1 : Str) ++ ".<locals>." ++ "<lambda>"
abbrev eHk : PySem.W.Hook := hookX 4 eFa eFn [] eTf eEx
def eOb (s : PySem.W.SharedT) : AlX := obsX 4 eFa eFn [] eTf eEx (HandSHeadRun.getT s)
theorem eOb_eq (s : PySem.W.SharedT) : eOb s = eHk.obs s.abs := obsX_eq (HandSHeadRun.getT_eq s)
def eLoose : List PySem.Str := ["left_of", "ends_of", "next_lags", "lags_of", "_law_begin", "_law_take", "_law_same", "_law_names", "_law_free", "_law_sizes", "_law_book", "_law_left", "_law_lags"]
abbrev eR : PySem.W.OpenRow := PySem.W.OpenLaw.row PySem.Challenge.rw_oddlong_k59_lags
theorem eRun (w : World) : HandSHeadRun.RunEq eR (PySem.W.view eR.prog [16]) eHk eOb 600 eLoose w := by
  intro os
  kernel_rfl
theorem eAll {w : World} {K : PySem.W.Frag} {h : Heap} {mg : Str → Option Value} {f : Addr} (X : K.In h) (G : h.Ns mainGlobals mg) (hmg : mg ("law" : Str) = some (.ref f)) (c : SaysX eFa eFn [] eTf eEx w h K) : LamX.LawAtS PySem.Challenge.rw_oddlong_k59_lags w K CX0 LV_law 63 "_law_script" mg f h := by
  have cd := c.t.d
  have T : Txt K mg := { m_len := free_ok X G (cd.fact 14 rfl), m_list := free_ok X G (cd.fact 15 rfl), m_range := free_ok X G (cd.fact 16 rfl), m_sorted := free_ok X G (cd.fact 17 rfl), m_divmod := free_ok X G (cd.fact 18 rfl), m_all := free_ok X G (cd.fact 19 rfl), m_bool := free_ok X G (cd.fact 20 rfl), m_int := free_ok X G (cd.fact 21 rfl), m_isinstance := free_ok X G (cd.fact 22 rfl), m_str := free_ok X G (cd.fact 23 rfl), m_tuple := free_ok X G (cd.fact 24 rfl), m_zip := free_ok X G (cd.fact 25 rfl), m_set := free_ok X G (cd.fact 26 rfl) }
  have D_left_of := df_ofD (x := "left_of") (st := s_left_of) (ps := ["one", "other"]) X G cd 0 0 rfl rfl fun _ _ _ _ _ _ us hl => match us, hl with | [_, _], _ => rfl
  have D_ends_of := df_ofD (x := "ends_of") (st := s_ends_of) (ps := ["book"]) X G cd 1 1 rfl rfl fun _ _ _ _ _ _ us hl => match us, hl with | [_], _ => rfl
  have D_next_lags := df_ofD (x := "next_lags") (st := s_next_lags) (ps := ["book", "lag"]) X G cd 2 2 rfl rfl fun _ _ _ _ _ _ us hl => match us, hl with | [_, _], _ => rfl
  have D_lags_of := dfc_ofD (x := "lags_of") (st := s_lags_of) (ps := ["book"]) X G cd 3 3 rfl rfl fun _ _ _ _ _ _ us hl => match us, hl with | [_], _ => rfl
  have D_l_begin := df_ofD (x := "_law_begin") (st := s_l_begin) (ps := ["_law_script"]) X G cd 4 4 rfl rfl fun _ _ _ _ _ _ us hl => match us, hl with | [_], _ => rfl
  have D_l_take := df_ofD (x := "_law_take") (st := s_l_take) (ps := ["_law_state", "_law_many"]) X G cd 5 5 rfl rfl fun _ _ _ _ _ _ us hl => match us, hl with | [_, _], _ => rfl
  have D_l_same := df_ofD (x := "_law_same") (st := s_l_same) (ps := ["_law_found", "_law_due"]) X G cd 6 6 rfl rfl fun _ _ _ _ _ _ us hl => match us, hl with | [_, _], _ => rfl
  have D_l_names := df_ofD (x := "_law_names") (st := s_l_names) (ps := ["_law_state", "_law_many"]) X G cd 7 7 rfl rfl fun _ _ _ _ _ _ us hl => match us, hl with | [_, _], _ => rfl
  have D_l_free := df_ofD (x := "_law_free") (st := s_l_free) (ps := ["_law_state", "_law_many", "_law_most"]) X G cd 8 8 rfl rfl fun _ _ _ _ _ _ us hl => match us, hl with | [_, _, _], _ => rfl
  have D_l_sizes := df_ofD (x := "_law_sizes") (st := s_l_sizes) (ps := ["_law_state"]) X G cd 9 9 rfl rfl fun _ _ _ _ _ _ us hl => match us, hl with | [_], _ => rfl
  have D_l_book := df_ofD (x := "_law_book") (st := s_l_book) (ps := ["_law_state"]) X G cd 10 10 rfl rfl fun _ _ _ _ _ _ us hl => match us, hl with | [_], _ => rfl
  have D_l_left := df_ofD (x := "_law_left") (st := s_l_left) (ps := ["_law_one", "_law_other"]) X G cd 11 11 rfl rfl fun _ _ _ _ _ _ us hl => match us, hl with | [_, _], _ => rfl
  have D_l_lags := dfc_ofD (x := "_law_lags") (st := s_l_lags) (ps := ["_law_codes"]) X G cd 12 12 rfl rfl fun _ _ _ _ _ _ us hl => match us, hl with | [_], _ => rfl
  have D_law := df_ofD (x := "law") (st := s_law) (ps := ["_law_script"]) X G cd 13 13 rfl rfl fun _ _ _ _ _ _ us hl => match us, hl with | [_], _ => rfl
  refine law_at eQ X c hmg D_law (of_decide_eq_true c.more) (fun _ _ _ _ _ _ _ => rfl) fun fd Fn base b1 b2 b3 => ?_
  have B_l_lags := b3 ("_law_lags", none) (List.mem_of_getElem? (i := 0) rfl)
  have B_lags_of := b3 ("lags_of", none) (List.mem_of_getElem? (i := 1) rfl)
  have C_l_begin : Can PySem.Challenge.rw_oddlong_k59_lags.prog w K mg base LV_l_begin "_law_begin" sp_l_begin := can_of D_l_begin sc_l_begin (fun _ => rfl) (fun hr => tm_l_begin T  hr) rd_l_begin
  have C_l_take : Can PySem.Challenge.rw_oddlong_k59_lags.prog w K mg base LV_l_take "_law_take" sp_l_take := can_of D_l_take sc_l_take (fun _ => rfl) (fun hr => tm_l_take T  hr) rd_l_take
  have C_l_free : Can PySem.Challenge.rw_oddlong_k59_lags.prog w K mg base LV_l_free "_law_free" sp_l_free := can_of D_l_free sc_l_free (fun _ => rfl) (fun hr => tm_l_free T C_l_take hr) rd_l_free
  have C_l_names : Can PySem.Challenge.rw_oddlong_k59_lags.prog w K mg base LV_l_names "_law_names" sp_l_names := can_of D_l_names sc_l_names (fun _ => rfl) (fun hr => tm_l_names T C_l_take hr) rd_l_names
  have C_l_sizes : Can PySem.Challenge.rw_oddlong_k59_lags.prog w K mg base LV_l_sizes "_law_sizes" sp_l_sizes := can_of D_l_sizes sc_l_sizes (fun _ => rfl) (fun hr => tm_l_sizes T C_l_take hr) rd_l_sizes
  have C_l_book : Can PySem.Challenge.rw_oddlong_k59_lags.prog w K mg base LV_l_book "_law_book" sp_l_book := can_of D_l_book sc_l_book (fun _ => rfl) (fun hr => tm_l_book T C_l_free C_l_names C_l_sizes C_l_take hr) rd_l_book
  have C_l_left : Can PySem.Challenge.rw_oddlong_k59_lags.prog w K mg base LV_l_left "_law_left" sp_l_left := can_of D_l_left sc_l_left (fun _ => rfl) (fun hr => tm_l_left T  hr) rd_l_left
  have C_l_lags : Can PySem.Challenge.rw_oddlong_k59_lags.prog w K mg base LV_l_lags "_law_lags" (sp_l_lags (cT K ("_law_lags", none)).2) := canC_of D_l_lags sc_l_lags (fun _ => rfl) (fun hr => tm_l_lags T C_l_left B_l_lags hr) (rd_l_lags (cT K ("_law_lags", none)).2)
  have Z_l_same : Can PySem.Challenge.rw_oddlong_k59_lags.prog w K mg base 0 "_law_same" (fun _ _ _ => False) := can_no D_l_same
  have C0_l_same : Can PySem.Challenge.rw_oddlong_k59_lags.prog w K mg base 1 "_law_same" sp_same0 := can_of D_l_same sc_l_same (fun _ => rfl) (fun hr => tm_l_same T Z_l_same hr) (rd_same0 _)
  have C_l_same : Can PySem.Challenge.rw_oddlong_k59_lags.prog w K mg base 2 "_law_same" sp_l_same := can_of D_l_same sc_l_same (fun _ => rfl) (fun hr => tm_l_same T C0_l_same hr) rd_l_same
  have C_ends_of : Can PySem.Challenge.rw_oddlong_k59_lags.prog w K mg base LV_ends_of "ends_of" sp_ends_of := can_of D_ends_of sc_ends_of (fun _ => rfl) (fun hr => tm_ends_of T  hr) rd_ends_of
  have C_left_of : Can PySem.Challenge.rw_oddlong_k59_lags.prog w K mg base LV_left_of "left_of" sp_left_of := can_of D_left_of sc_left_of (fun _ => rfl) (fun hr => tm_left_of T  hr) rd_left_of
  have C_next_lags : Can PySem.Challenge.rw_oddlong_k59_lags.prog w K mg base LV_next_lags "next_lags" sp_next_lags := can_of D_next_lags sc_next_lags (fun _ => rfl) (fun hr => tm_next_lags T C_left_of hr) rd_next_lags
  have C_lags_of : Can PySem.Challenge.rw_oddlong_k59_lags.prog w K mg base LV_lags_of "lags_of" (sp_lags_of (cT K ("lags_of", none)).2) := canC_of D_lags_of sc_lags_of (fun _ => rfl) (fun hr => tm_lags_of T C_ends_of C_next_lags B_lags_of hr) (rd_lags_of (cT K ("lags_of", none)).2)
  exact fnok_of Fn sc_law (fun _ => rfl) (fun hr => tm_law T C_l_begin C_l_book C_l_lags C_l_same C_lags_of hr) fun a Ls Q p => rd_law (cT K ("_law_lags", none)).2 (cT K ("lags_of", none)).2 a Ls Q p
end OL
open PySem PySem.W PySem.Calls PyProof.Rows
set_option maxHeartbeats 0 in
theorem PySem.Challenge.cw_oddlong_k59_lags_holds : PySem.Challenge.rw_oddlong_k59_lags.Holds := by
  w_on; o_law
  refine HandSHeadRun.head_any (r := PySem.W.OpenLaw.row PySem.Challenge.rw_oddlong_k59_lags) (q := view (PySem.W.OpenLaw.row PySem.Challenge.rw_oddlong_k59_lags).prog [16]) (H := OL.eHk) (ob := OL.eOb) (M := 600) (loose := OL.eLoose) (d := HandSHeadRun.topDef (PySem.W.OpenLaw.row PySem.Challenge.rw_oddlong_k59_lags).prog 16) (kwd := []) OL.eOb_eq
    (by kernel_rfl) (fun s => by kernel_rfl) OL.eRun (by kernel_rfl) (by kernel_rfl) (by kernel_rfl) (by rfl) (by first | assumption | decide +kernel) (by decide +kernel) ⟨rfl, rfl, rfl, rfl, rfl, by decide +kernel⟩ ?hw ?hc
  case hw => w_witness2
  case hc =>
    refine LamX.walk_ofTsE (l := PySem.Challenge.rw_oddlong_k59_lags) (n := 63) (k := OL.LV_law) (x := "_law_script") (CX := fun _ => L2.CX0) rfl (by decide) (by kernel_rfl) ⟨rfl, by decide, by decide⟩ ?F (fun _ _ _ _ _ z => z)
    intro w mg fa h Y G hmg0
    obtain ⟨K, KX, c⟩ := Y
    have hmg : mg ("law" : PySem.Str) = some (.ref fa) := by
      have e : (HandSHeadRun.topDef (PySem.W.OpenLaw.row PySem.Challenge.rw_oddlong_k59_lags).prog 16).name = ("law" : PySem.Str) := by kernel_rfl
      rw [← e]
      exact hmg0
    exact ⟨K, KX, OL.eAll KX G hmg c⟩

