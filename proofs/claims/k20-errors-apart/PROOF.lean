import PyProof.Rows.All
import Wide.All
import OpenK.AllK
import Wide.FinOn
import HandS.ForMost
import HandS.Set
import HandS.More
import HandS.IsInst
import HandS.Defaults
import HandS.Deep
import HandS.Walk
import HandS.Strs
import HandS.Exc
import HandS.ExcOwn
import HandS.ExcInit
import HandS.ExcField
import HandS.ExcIs
import HandS.TryOnly
import HandS.TryMany
import HandS.WordsExc
import HandS.HeadHook1
import HandS.HeadHook2
import HandS.HeadHook3
import HandS.HeadHook4
import HandS.ExcCtx
import HandS.HotCalls
import KE.KExcIs
import HandS.ExcInitHot
import KE.KStateDown
import HandS.Ends
import HandS.Words
import HandS.Head0
import HandS.Head1
import HandS.Head2
import HandS.HeadEnd
import PySem.Challenge.RW_handplaced_k20_errors_apart
set_option Elab.async false
set_option linter.all false
set_option maxRecDepth 100000
set_option maxHeartbeats 4000000
/-! sets of ints and texts made of a list or a tuple: len, sorted -/
namespace SM
open PySem PySem.Spec PyProof.Rows L2
def mkey (v : Value) : Key := match v with
  | .int i _ => .inl i
  | .str x _ => .inr x
  | _ => .inl 0
theorem mkey_of {k : Key} {v : Value} (h : keyIs k v = true) : mkey v = k := by
  rcases keyIs_shape h with ⟨i, t, rfl, rfl⟩ | ⟨x, t, rfl, rfl⟩ <;> rfl
def ekey (e : Int × Value) : Key := mkey e.2
def GoodM (w : World) (e : Int × Value) : Prop := keyIs (ekey e) e.2 = true ∧ e.1 = keyH w (ekey e)
theorem is_scan {k : Key} {v : Value} (h : keyIs k v = true) : v.scannable = true := by
  rcases keyIs_shape h with ⟨i, t, rfl, rfl⟩ | ⟨x, t, rfl, rfl⟩ <;> rfl
/-- the set at a: its members ks, each once -/
def SetM (w : World) (h : Heap) (a : Addr) (ks : List Key) : Prop :=
  ∃ o es ep t, h.get? a = some o ∧ o.ExactSet ∧ o.data = .set es ep t ∧ (∀ e ∈ es.toList, GoodM w e) ∧ (es.toList.map ekey).Perm ks ∧ ks.Nodup ∧
    es.size < scanBound ∧ t.fits es.size = true ∧ Ris t.place.toList ∧ (w.params.followText "set-order" = true ∨ t.led = true)
section
variable {P : Program} {w : World} {h h' : Heap} {a : Addr} {ks : List Key}
theorem SetM.at (R : SetM w h a ks) (k : ∀ o, h.get? a = some o → h'.get? a = some o) : SetM w h' a ks := by
  obtain ⟨o, es, ep, t, ho, r⟩ := R
  exact ⟨o, es, ep, t, k o ho, r⟩
theorem good_elemsM {l : List (Int × Value)} (g : ∀ e ∈ l, GoodM w e) : ElemsOf (mixKind P w) l := fun e he => by
  obtain ⟨h1, h2⟩ := g e he
  exact ⟨⟨ekey e, h1, h2⟩, is_scan h1⟩
theorem good_memM {l : List (Int × Value)} (g : ∀ e ∈ l, GoodM w e) (k : Key) : k ∈ l.map ekey ↔ ∃ e ∈ l, (mixKind P w).is k e.2 = true := by
  rw [List.mem_map]
  constructor
  · rintro ⟨e, he, q⟩
    exact ⟨e, he, by rw [← q]; exact (g e he).1⟩
  · rintro ⟨e, he, q⟩
    exact ⟨e, he, mkey_of q⟩
end
section
variable {P : Program} {w : World} {A : Around} {E : Value → Shared → Prop} {s : Shared} {a : Addr} {ks : List Key}
theorem addM_tail {g : Bool → Sem Unit} (hg : ∀ (b : Bool) (s₁ : Shared) (Q' : Unit → Shared → Prop), Q' () s₁ → wpAny (model P w) A (g b) Q' E s₁)
    {o : Obj} {es : Array (Int × Value)} {ep : Nat} {t : SetTable} (ho : s.heap.get? a = some o) (hex : o.ExactSet) (hd : o.data = .set es ep t)
    {es1 : Array (Int × Value)} {t2 : SetTable} {ks' : List Key} (g1 : ∀ e ∈ es1.toList, GoodM w e) (m1 : (es1.toList.map ekey).Perm ks') (nd1 : ks'.Nodup)
    (hb1 : es1.size < scanBound) (hf2 : t2.fits es1.size = true) (hr : Ris t2.place.toList) (hl : w.params.followText "set-order" = true ∨ t2.led = true) {wasDummy : Bool} {R : Option Bool → Shared → Prop}
    (hR : ∀ h', Heap.SameBut a s.heap h' → SetM w h' a ks' → R (some true) { s with heap := h' }) :
    wpAny (model P w) A (do
        storeSet a es1 t2
        if (!wasDummy && t2.tooFull) = true then do
            g (relayAll t2 es1 (SetTable.grown es1.size)).2.2
            storeSet a (relayAll t2 es1 (SetTable.grown es1.size)).1 (relayAll t2 es1 (SetTable.grown es1.size)).2.1
            pure (some true)
          else pure (some true)) R E s := by
  refine wpAny_bind (wpAny_storeSet_of ho hd ?_ (fits_of_scanBound hb1))
  have ho1 := store_at (es' := es1) (t' := t2) ho hd
  have sb1 := Heap.SameBut.update s.heap a (Obj.putSet es1 t2)
  split
  · have pm := relayAll_perm t2 es1 (SetTable.grown es1.size)
    have hf3 := relayAll_fits t2 es1 (SetTable.grown es1.size)
    have hr3 := relayAll_ris t2 es1 (SetTable.grown es1.size)
    have hl3 := relayAll_led t2 es1 (SetTable.grown es1.size)
    generalize relayAll t2 es1 (SetTable.grown es1.size) = Z at pm hf3 hr3 hl3 ⊢
    obtain ⟨es2, t3, gave⟩ := Z
    dsimp only at pm hf3 hr3 hl3 ⊢
    have hsz : es2.size = es1.size := by rw [← Array.length_toList, pm.length_eq, Array.length_toList]
    have hb2 : es2.size < scanBound := by rw [hsz]; exact hb1
    refine wpAny_bind (hg _ _ _ ?_)
    refine wpAny_bind (wpAny_storeSet_of ho1 rfl ?_ (fits_of_scanBound hb2))
    have ho2 := store_at (es' := es2) (t' := t3) ho1 rfl
    refine wpAny_pure (hR _ (sb1.trans (Heap.SameBut.update _ a _)) ?_)
    exact ⟨_, es2, _, t3, ho2, hex, rfl, fun e he => g1 e (pm.mem_iff.mp he), (pm.map ekey).trans m1, nd1, hb2, hf3, hr3, hl.imp id fun z => by rw [hl3]; exact z⟩
  · exact wpAny_pure (hR _ sb1 ⟨_, es1, _, t2, ho1, hex, rfl, g1, m1, nd1, hb1, hf2, hr, hl⟩)
/-- the members behind one more -/
def hasK (ks : List Key) (k : Key) : Bool := ks.any fun j => decide (j = k)
theorem hasK_iff {ks : List Key} {k : Key} : hasK ks k = true ↔ k ∈ ks := by
  unfold hasK
  rw [List.any_eq_true]
  exact ⟨fun ⟨x, h, e⟩ => of_decide_eq_true e ▸ h, fun h => ⟨k, h, decide_eq_true rfl⟩⟩
def plus (ks : List Key) (k : Key) : List Key := if hasK ks k = true then ks else ks ++ [k]
theorem addM_hashed {k : Key} {v : Value} {Q : Bool → Shared → Prop} (hkey : keyIs k v = true) (R : SetM w s.heap a ks) (room : ks.length + 1 < scanBound)
    (hQ : ∀ h' b, Heap.SameBut a s.heap h' → SetM w h' a (plus ks k) → Q b { s with heap := h' }) :
    wpAny (model P w) A (setAddHashed a v ((mixKind P w).hash k)) Q E s := by
  obtain ⟨o, es, ep, t, ho, hex, hd, g, pk, nd, hb, hf, hr, hl⟩ := R
  have hsc : v.scannable = true := is_scan hkey
  have hel : ElemsOf (mixKind P w) es.toList := good_elemsM g
  have hn : es.size = ks.length := by rw [← pk.length_eq, List.length_map, Array.length_toList]
  unfold setAddHashed setAddHashedIn
  refine wpAny_holding (wpAny_bind (wpAny_setState_of ho hd hf ?_))
  dsimp only
  rw [byScan_of hsc hb hel]
  simp only [↓reduceIte]
  unfold setAddByScan
  refine wpAny_bind ?_
  refine wpAny_bind (wpAny_rule ?_)
  refine wpAny_bind (wpAny_setScan_of (knd := mixKind P w) hkey ho hd hf hel ?_)
  cases hfi : List.findIdx? (fun e => (mixKind P w).is k e.2) es.toList with
  | some j =>
    dsimp only
    obtain ⟨hj, pj, _⟩ := List.findIdx?_eq_some_iff_getElem.mp hfi
    have hSk : k ∈ ks := pk.mem_iff.mp ((good_memM (P := P) (w := w) g k).2 ⟨es.toList[j], List.getElem_mem hj, pj⟩)
    refine wpAny_pure (wpAny_pure ?_)
    refine hQ s.heap _ (Heap.SameBut.refl a s.heap) ?_
    unfold plus
    rw [if_pos (hasK_iff.mpr hSk)]
    exact ⟨o, es, ep, t, ho, hex, hd, g, pk, nd, hb, hf, hr, hl⟩
  | none =>
    dsimp only
    have hnk : k ∉ ks := fun z => by
      obtain ⟨e, he, q⟩ := (good_memM (P := P) (w := w) g k).1 (pk.mem_iff.mpr z)
      have c := List.findIdx?_eq_none_iff.mp hfi e he
      rw [q] at c
      cases c
    have hgw : ∀ (b : Bool) {s₁ : Shared} {Q' : Unit → Shared → Prop}, Q' () s₁ → wpAny (model P w) A (match b with | true => rule "set.scan.the-table-gave-way" | false => pure ()) Q' E s₁ :=
      fun b s₁ Q' q => by cases b <;> first | exact wpAny_pure q | exact wpAny_rule q
    have pm := layNew_perm t es ((mixKind P w).hash k) v
    have hf1 := layNew_fits t es ((mixKind P w).hash k) v
    have hr1 := layNew_ris t es ((mixKind P w).hash k) v hr
    have hl1 := layNew_led t es ((mixKind P w).hash k) v
    generalize layNew t es ((mixKind P w).hash k) v = Z at pm hf1 hr1 hl1 ⊢
    obtain ⟨es1, t1, wasDummy, gave⟩ := Z
    dsimp only at pm hf1 hr1 hl1 ⊢
    rw [Array.toList_push] at pm
    have pc : es1.toList.Perm (((mixKind P w).hash k, v) :: es.toList) := pm.trans (List.perm_append_singleton _ _)
    have ek : ekey ((mixKind P w).hash k, v) = k := mkey_of hkey
    have pk1 : (es1.toList.map ekey).Perm (plus ks k) := by
      refine (pc.map ekey).trans ?_
      rw [List.map_cons, ek]
      unfold plus
      rw [if_neg fun z => hnk (hasK_iff.mp z)]
      exact (pk.cons k).trans (List.perm_append_singleton _ _).symm
    have nd1 : (plus ks k).Nodup := by
      unfold plus
      rw [if_neg fun z => hnk (hasK_iff.mp z)]
      exact (List.perm_append_singleton k ks).nodup_iff.mpr (List.nodup_cons.mpr ⟨hnk, nd⟩)
    have g1 : ∀ e ∈ es1.toList, GoodM w e := fun e he => by
      rcases List.mem_cons.mp (pc.mem_iff.mp he) with z | z
      · rw [z]
        unfold GoodM
        rw [ek]
        exact ⟨hkey, rfl⟩
      · exact g e z
    have hsz : es1.size = ks.length + 1 := by rw [← Array.length_toList, pc.length_eq, List.length_cons, Array.length_toList, hn]
    have hb1 : es1.size < scanBound := by rw [hsz]; exact room
    have hled : w.params.followText "set-order" = true ∨ t1.led = true := hl.imp id fun z => by rw [hl1]; exact z
    have fin : ∀ h' b, Heap.SameBut a s.heap h' → SetM w h' a (plus ks k) → Q b { s with heap := h' } := fun h' b sb r => hQ h' b sb r
    refine wpAny_bind (hgw _ ?_)
    split
    · refine wpAny_bind ?_
      rw [hashByValue_scannable 8 hsc]
      refine wpAny_pure ?_
      refine addM_tail ?_ ho hex hd g1 pk1 nd1 hb1 ?_ ?_ ?_ ?_
      · intro b s₁ Q' q; cases b <;> first | exact wpAny_pure q | exact wpAny_rule q
      · first | (split <;> first | exact hf1 | exact SetTable.fits_plain_off hf1) | exact hf1
      · first | (split <;> exact hr1) | exact hr1
      · first | (split <;> exact hled) | exact hled
      · intro h' sb r; dsimp only; exact wpAny_pure (fin h' _ sb r)
    · refine wpAny_bind (wpAny_pure ?_)
      simp only [↓reduceIte]
      refine addM_tail ?_ ho hex hd g1 pk1 nd1 hb1 hf1 hr1 hled ?_
      · intro b s₁ Q' q; cases b <;> first | exact wpAny_pure q | exact wpAny_rule q
      · intro h' sb r; dsimp only; exact wpAny_pure (fin h' _ sb r)
theorem freshM {h : Heap} (w : World) : SetM w (h.push { cls := .type "set", dict := none, data := .set #[] 0 (.fresh 0 0 (!w.params.followText "set-order")) }) h.objs.size [] :=
  ⟨_, #[], 0, _, Heap.get?_push_size _ rfl, ⟨rfl, rfl, rfl⟩, rfl, (fun e he => by simp at he), (by simp), List.nodup_nil, (by decide), (by rfl), List.Pairwise.nil, by
    show _ ∨ (!w.params.followText "set-order") = true
    cases w.params.followText "set-order"
    · exact .inr rfl
    · exact .inl rfl⟩

/-- the members behind all of a row of keys -/
def ofKeys (ks : List Key) : List Key := ks.foldl plus []
theorem plus_len (ks : List Key) (k : Key) : (plus ks k).length ≤ ks.length + 1 := by
  unfold plus
  split
  · omega
  · rw [List.length_append, List.length_singleton]
    exact Nat.le_refl _
theorem ofKeys_len : ∀ (ks acc : List Key), (ks.foldl plus acc).length ≤ acc.length + ks.length
  | [], acc => Nat.le_refl _
  | k :: ks, acc => by
    have h1 := ofKeys_len ks (plus acc k)
    have h2 := plus_len acc k
    rw [List.foldl_cons, List.length_cons]
    omega
theorem take_snoc {α : Type} {l : List α} {i : Nat} {x : α} (h : l[i]? = some x) : l.take (i + 1) = l.take i ++ [x] := by
  rw [List.take_add_one, h]
  rfl
theorem ofKeys_step {ks : List Key} {i : Nat} {k : Key} (h : ks[i]? = some k) : ofKeys (ks.take (i + 1)) = plus (ofKeys (ks.take i)) k := by
  unfold ofKeys
  rw [take_snoc h, List.foldl_append]
  rfl
section
variable {prog : Program} {I : Addr} {fp wr : List Addr} {G : Array GenState → Array GenState → Prop} {n : Nat} {Pv : Nat → Value → Prop} {St : Nat → Shared → Prop} {R : Result → Shared → Prop}
theorem updM_loop (W : WalksS prog w A.in1 I fp wr G n Pv St) (S : Addr) (hSf : S ∉ fp) (ks : List Key) (hn : ks.length = n)
    (hval : ∀ i v, Pv i v → ∃ k, ks[i]? = some k ∧ keyIs k v = true) (hb : n + 1 < scanBound) :
    ∀ (m i : Nat) (s : Shared), n - i = m → i ≤ n → St i s → SetM w s.heap S (ofKeys (ks.take i)) →
      (∀ s', Moved (S :: wr) G s s' → SetM w s'.heap S (ofKeys ks) → R (.ok (.ret .none)) s') →
      codeAny (model prog w) A (.builtin "set.update.loop" ⟨[.ref S, .ref I], []⟩) R s := by
  have hSw : S ∉ wr := fun h => hSf (W.sub _ h)
  have hsub : ∀ b ∈ wr, b ∈ S :: wr := fun b hb => List.mem_cons_of_mem _ hb
  intro m
  induction m with
  | zero =>
    intro i s hk hi hst hS hR
    have hin : i = n := by omega
    subst hin
    rw [← hn, List.take_length] at hS
    refine codeAny_builtin PyProof.Rows.F.entry_set_update_loop ?_
    rw [Around.under_plainId PyProof.Rows.F.plain_set_update_loop _]
    show wpAny _ A.in1 (pyNext (.ref I) >>= _) _ _ s
    refine wpAny_bind (W.done s _ _ hst fun s' hm => ?_)
    show wpAny _ A.in1 (ret Value.none) _ _ s'
    exact wpAny_pure (hR s' (hm.mono hsub) (hS.at fun o ho => hm.heap S _ hSw ho))
  | succ m ih =>
    intro i s hk hi hst hS hR
    have hlt : i < n := by omega
    refine codeAny_builtin PyProof.Rows.F.entry_set_update_loop ?_
    rw [Around.under_plainId PyProof.Rows.F.plain_set_update_loop _]
    show wpAny _ A.in1 (pyNext (.ref I) >>= _) _ _ s
    refine wpAny_bind (W.item i s _ _ hlt hst fun v s' hP hst' hm => ?_)
    obtain ⟨k, hki, hkv⟩ := hval i v hP
    have hS' : SetM w s'.heap S (ofKeys (ks.take i)) := hS.at fun o ho => hm.heap S _ hSw ho
    show wpAny _ A.in1 (holding [v] (setAdd S v) >>= _) _ _ s'
    refine wpAny_bind (wpAny_holding ?_)
    unfold setAdd
    refine wpAny_holding ?_
    refine wpAny_bind ((mixKind prog w).pyHash (k := k) hkv ?_)
    have hroom : (ofKeys (ks.take i)).length + 1 < scanBound := by
      have h1 := ofKeys_len (ks.take i) []
      have h2 := List.length_take_le i ks
      have h3 : ([] : List Key).length = 0 := rfl
      unfold ofKeys
      omega
    refine addM_hashed (P := prog) (s := { s' with toks := s'.toks + 1 }) hkv hS' hroom fun h' bb hsb hS2 => ?_
    have hSi : SetM w h' S (ofKeys (ks.take (i + 1))) := by rw [ofKeys_step hki]; exact hS2
    refine wpAny_pure ⟨plainId_quiet PyProof.Rows.F.plain_set_update_loop _, ih (i + 1) _ (by omega) hlt (W.frame _ s' _ _ hst' (Nat.le_succ _) fun b hb o e => ?_) hSi fun s'' hm'' hS'' => ?_⟩
    · rw [hsb.2 b (fun h : b = S => hSf (by rw [← h]; exact hb))]; exact e
    · refine hR s'' (Moved.trans W.gtrans ((hm.mono hsub).then_heap (Nat.le_succ _) fun b o hb e => ?_) hm'') hS''
      rw [hsb.2 b (fun h : b = S => hb (by rw [h]; exact List.mem_cons_self))]; exact e
end
theorem new_led1 (v : Value) {Q₁ : Value → Shared → Prop}
    (h : Q₁ (.ref s.heap.objs.size) { s with heap := s.heap.push { cls := .type "set", dict := none, data := .set #[] 0 (.fresh 0 0 (!w.params.followText "set-order")) } }) :
    codeAny (model P w) A (.call (.builtin "set.__new__") ⟨[.type "set", v], []⟩) (wants Q₁ E) s := by
  refine codeAny_of_tree ?_
  show wpAny _ A.in1 (do checkBuiltinCall "set.__new__" ⟨[.type "set", v], []⟩; again (.builtin "set.__new__" ⟨[.type "set", v], []⟩)) _ _ s
  refine wpAny_bind (wpAny_of_eq (PySem.F.newCall_set_1 v) (wpAny_pure ⟨plainId_quiet F.plain_set_new _, codeAny_builtin F.entry_set_new ?_⟩))
  rw [Around.under_plainId F.plain_set_new _]
  unfold Builtin.«set.__new__» Builtin.Frozenset.newClass
  have hsub := sub_set_self
  obtain ⟨hp, g, d, tk, os⟩ := s
  dsimp only
  wp_walk
  refine wpAny_askSetting (wpAny_pure ?_)
  dsimp only
  simp only [newObj]
  refine wpAny_bind (wpAny_alloc (wpAny_pure ?_))
  exact wpAny_pure h

theorem sub_list_set : isSubtype (.type "list") (.type "set") = pure false := by rw [isSubtype_type]; kernel_rfl
theorem sub_list_frozenset : isSubtype (.type "list") (.type "frozenset") = pure false := by rw [isSubtype_type]; kernel_rfl
theorem call_setM_list {l : Addr} {items : Array Value} {ks : List Key} {Q : Value → Shared → Prop}
    (hh : A.handled = none) (hl : s.heap.IsList l items) (hks : ks.length = items.size) (hi : ∀ (i : Nat) v, items[i]? = some v → ∃ k, ks[i]? = some k ∧ keyIs k v = true) (hb : items.size + 1 < scanBound)
    (h : ∀ (h' : Heap) (tk : Nat), SetM w h' s.heap.objs.size (ofKeys ks) → (∀ b o, b < s.heap.objs.size → s.heap.get? b = some o → h'.get? b = some o) → Q (.ref s.heap.objs.size) { s with heap := h', toks := tk }) :
    wpAny (model P w) A (call (.type "set") [.ref l]) Q E s := by
  obtain ⟨c, tl, hmro⟩ := F.called_set.mro
  have hmade := F.called_set.made
  have hsub := F.called_set.sub
  refine wpAny_call (codeAny_of_tree ?_)
  show wpAny _ _ (callAny (.type "set") _) _ _ _
  refine wpAny_pure ⟨Code.quiet_builtin _ (by decide +kernel), codeAny_builtin F.entry_type_call ?_⟩
  rw [Around.under_plain (weight_type_call_type "set" [.ref l] []) rfl]
  have h1 := F.called_set.notType
  have h2 := F.called_set.canCreate
  have hct := PySem.F.typeCall_set_1 (.ref l)
  repeat (any_goals (first | assumption | wp_step))
  refine codeAny_mono (new_led1 (.ref l) (E := E) (Q₁ := fun obj s₁ => obj = .ref s.heap.objs.size ∧ s₁ = { s with heap := s.heap.push { cls := .type "set", dict := none, data := .set #[] 0 (.fresh 0 0 (!w.params.followText "set-order")) } }) ⟨rfl, rfl⟩) fun r s₁ hr => ?_
  cases r with
  | error e => exact hr
  | ok fl =>
    cases fl with
    | ret obj =>
      obtain ⟨rfl, rfl⟩ := hr
      have hM := freshM (h := s.heap) w
      have hS : (s.heap.push { cls := .type "set", dict := none, data := .set #[] 0 (.fresh 0 0 (!w.params.followText "set-order")) }).get? s.heap.objs.size = some { cls := .type "set", dict := none, data := .set #[] 0 (.fresh 0 0 (!w.params.followText "set-order")) } := Heap.get?_push_size _ rfl
      have hT : Shared.TypeIs { s with heap := s.heap.push { cls := .type "set", dict := none, data := .set #[] 0 (.fresh 0 0 (!w.params.followText "set-order")) } } (.ref s.heap.objs.size) "set" := ⟨_, hS, rfl⟩
      have hli := F.called_set.init.lookup
      have hbi := F.called_set.init.bind (.ref s.heap.objs.size)
      repeat (any_goals (first | assumption | wp_step))
      refine codeAny_mono (codeAny_call_builtin (R := wants (fun r s₂ => r = .none ∧ ∃ h' tk, s₂ = { s with heap := h', toks := tk } ∧ SetM w h' s.heap.objs.size (ofKeys ks) ∧
          (∀ b o, b < s.heap.objs.size → s.heap.get? b = some o → h'.get? b = some o)) E) F.called_set.init.plain F.entry_set_init (check_set_init_1 hT ?_)) fun r₂ s₂ hr₂ => ?_
      · obtain ⟨ol, hol, hcl, nl, hdl⟩ := hl
        obtain ⟨ocls, odict, odata, oslots⟩ := ol
        simp only at hcl hdl
        subst hcl; subst hdl
        have hol' : (s.heap.push { cls := .type "set", dict := none, data := .set #[] 0 (.fresh 0 0 (!w.params.followText "set-order")) }).get? l = some { cls := .type "list", dict := odict, data := .seq items nl, slots := oslots } := Heap.get?_push_of_some _ hol
        have hsls := sub_list_set
        have hslf := sub_list_frozenset
        have hne : (Value.type "list" == Value.type "dict") = false := by decide
        have hl1 : (s.heap.push { cls := .type "set", dict := none, data := .set #[] 0 (.fresh 0 0 (!w.params.followText "set-order")) }).IsList l items := ⟨_, hol', rfl, nl, rfl⟩
        unfold Builtin.«set.__init__» noKeywords Builtin.Frozenset.updateFrom
        generalize hPI : pyIter = PI
        wp_walk
        subst hPI
        refine wpAny_pyIter_list hl1 ?_
        refine wpAny_bind (wpAny_runValue ?_)
        have hlS : l < s.heap.objs.size := Heap.lt_size hol
        have hh3 : A.in1.in1.in1.handled = none := by simp [hh]
        have hneI : l ≠ (s.heap.push { cls := .type "set", dict := none, data := .set #[] 0 (.fresh 0 0 (!w.params.followText "set-order")) }).objs.size := by
          rw [Heap.size_push]; exact Nat.ne_of_lt (Nat.lt_succ_of_lt hlS)
        have hSf : s.heap.objs.size ∉ [(s.heap.push { cls := .type "set", dict := none, data := .set #[] 0 (.fresh 0 0 (!w.params.followText "set-order")) }).objs.size, l] := by
          rw [Heap.size_push]; simp only [List.mem_cons, List.mem_singleton, List.not_mem_nil, or_false, not_or]
          exact ⟨Nat.ne_of_lt (Nat.lt_succ_self _), Nat.ne_of_gt hlS⟩
        refine updM_loop ((Walks.list hh3 _ l hneI items).toS) s.heap.objs.size hSf ks hks hi hb (items.size - 0) 0 _ (by omega) (Nat.zero_le _)
          ⟨⟨_, Heap.get?_push_size _ rfl, rfl, rfl⟩, (hl1.push _)⟩ ?hS0 ?hR
        case hS0 => exact hM.at fun o e => Heap.get?_push_of_some _ e
        case hR =>
          intro s' hm hS'
          obtain ⟨h', g', d', tk', os'⟩ := s'
          have eg : g' = s.gens := hm.gens
          have ed : d' = s.drawn := hm.drawn
          have eo : os' = s.os := hm.os
          subst eg; subst ed; subst eo
          show wpAny _ _ _ _ _ _
          refine wpAny_pure ?_
          show wpAny _ _ (ret Value.none) _ _ _
          refine wpAny_pure ⟨rfl, h', tk', rfl, hS', fun b o hb e => ?_⟩
          have hb1 : b ≠ s.heap.objs.size := Nat.ne_of_lt hb
          have hb2 : b ≠ (s.heap.push { cls := .type "set", dict := none, data := .set #[] 0 (.fresh 0 0 (!w.params.followText "set-order")) }).objs.size := by
            rw [Heap.size_push]; exact Nat.ne_of_lt (Nat.lt_succ_of_lt hb)
          exact hm.heap b o (by simp only [List.mem_cons, List.mem_singleton, List.not_mem_nil, or_false, not_or]; exact ⟨hb1, hb2⟩) (Heap.get?_push_of_some _ (Heap.get?_push_of_some _ e))
      · cases r₂ with
        | error e => exact hr₂
        | ok fl₂ =>
          cases fl₂ with
          | ret r =>
            obtain ⟨rfl, h', tk, rfl, hS', hk'⟩ := hr₂
            repeat (any_goals (first | assumption | wp_step))
            exact h _ _ hS' hk'
          | _ => exact hr₂.elim
    | _ => exact hr.elim

theorem sub_tuple_set : isSubtype (.type "tuple") (.type "set") = pure false := by rw [isSubtype_type]; kernel_rfl
theorem sub_tuple_frozenset : isSubtype (.type "tuple") (.type "frozenset") = pure false := by rw [isSubtype_type]; kernel_rfl
theorem call_setM_tuple {l : Addr} {items : Array Value} {ks : List Key} {Q : Value → Shared → Prop}
    (hh : A.handled = none) (hl : s.heap.IsTuple l items) (hks : ks.length = items.size) (hi : ∀ (i : Nat) v, items[i]? = some v → ∃ k, ks[i]? = some k ∧ keyIs k v = true) (hb : items.size + 1 < scanBound)
    (h : ∀ (h' : Heap) (tk : Nat), SetM w h' s.heap.objs.size (ofKeys ks) → (∀ b o, b < s.heap.objs.size → s.heap.get? b = some o → h'.get? b = some o) → Q (.ref s.heap.objs.size) { s with heap := h', toks := tk }) :
    wpAny (model P w) A (call (.type "set") [.ref l]) Q E s := by
  obtain ⟨c, tl, hmro⟩ := F.called_set.mro
  have hmade := F.called_set.made
  have hsub := F.called_set.sub
  refine wpAny_call (codeAny_of_tree ?_)
  show wpAny _ _ (callAny (.type "set") _) _ _ _
  refine wpAny_pure ⟨Code.quiet_builtin _ (by decide +kernel), codeAny_builtin F.entry_type_call ?_⟩
  rw [Around.under_plain (weight_type_call_type "set" [.ref l] []) rfl]
  have h1 := F.called_set.notType
  have h2 := F.called_set.canCreate
  have hct := PySem.F.typeCall_set_1 (.ref l)
  repeat (any_goals (first | assumption | wp_step))
  refine codeAny_mono (new_led1 (.ref l) (E := E) (Q₁ := fun obj s₁ => obj = .ref s.heap.objs.size ∧ s₁ = { s with heap := s.heap.push { cls := .type "set", dict := none, data := .set #[] 0 (.fresh 0 0 (!w.params.followText "set-order")) } }) ⟨rfl, rfl⟩) fun r s₁ hr => ?_
  cases r with
  | error e => exact hr
  | ok fl =>
    cases fl with
    | ret obj =>
      obtain ⟨rfl, rfl⟩ := hr
      have hM := freshM (h := s.heap) w
      have hS : (s.heap.push { cls := .type "set", dict := none, data := .set #[] 0 (.fresh 0 0 (!w.params.followText "set-order")) }).get? s.heap.objs.size = some { cls := .type "set", dict := none, data := .set #[] 0 (.fresh 0 0 (!w.params.followText "set-order")) } := Heap.get?_push_size _ rfl
      have hT : Shared.TypeIs { s with heap := s.heap.push { cls := .type "set", dict := none, data := .set #[] 0 (.fresh 0 0 (!w.params.followText "set-order")) } } (.ref s.heap.objs.size) "set" := ⟨_, hS, rfl⟩
      have hli := F.called_set.init.lookup
      have hbi := F.called_set.init.bind (.ref s.heap.objs.size)
      repeat (any_goals (first | assumption | wp_step))
      refine codeAny_mono (codeAny_call_builtin (R := wants (fun r s₂ => r = .none ∧ ∃ h' tk, s₂ = { s with heap := h', toks := tk } ∧ SetM w h' s.heap.objs.size (ofKeys ks) ∧
          (∀ b o, b < s.heap.objs.size → s.heap.get? b = some o → h'.get? b = some o)) E) F.called_set.init.plain F.entry_set_init (check_set_init_1 hT ?_)) fun r₂ s₂ hr₂ => ?_
      · obtain ⟨ol, hol, hcl, nl, hdl⟩ := hl
        obtain ⟨ocls, odict, odata, oslots⟩ := ol
        simp only at hcl hdl
        subst hcl; subst hdl
        have hol' : (s.heap.push { cls := .type "set", dict := none, data := .set #[] 0 (.fresh 0 0 (!w.params.followText "set-order")) }).get? l = some { cls := .type "tuple", dict := odict, data := .seq items nl, slots := oslots } := Heap.get?_push_of_some _ hol
        have hsls := sub_tuple_set
        have hslf := sub_tuple_frozenset
        have hne : (Value.type "tuple" == Value.type "dict") = false := by decide
        have hl1 : (s.heap.push { cls := .type "set", dict := none, data := .set #[] 0 (.fresh 0 0 (!w.params.followText "set-order")) }).IsTuple l items := ⟨_, hol', rfl, nl, rfl⟩
        unfold Builtin.«set.__init__» noKeywords Builtin.Frozenset.updateFrom
        generalize hPI : pyIter = PI
        wp_walk
        subst hPI
        refine wpAny_pyIter_tuple hl1 ?_
        refine wpAny_bind (wpAny_runValue ?_)
        have hlS : l < s.heap.objs.size := Heap.lt_size hol
        have hh3 : A.in1.in1.in1.handled = none := by simp [hh]
        have hneI : l ≠ (s.heap.push { cls := .type "set", dict := none, data := .set #[] 0 (.fresh 0 0 (!w.params.followText "set-order")) }).objs.size := by
          rw [Heap.size_push]; exact Nat.ne_of_lt (Nat.lt_succ_of_lt hlS)
        have hSf : s.heap.objs.size ∉ [(s.heap.push { cls := .type "set", dict := none, data := .set #[] 0 (.fresh 0 0 (!w.params.followText "set-order")) }).objs.size, l] := by
          rw [Heap.size_push]; simp only [List.mem_cons, List.mem_singleton, List.not_mem_nil, or_false, not_or]
          exact ⟨Nat.ne_of_lt (Nat.lt_succ_self _), Nat.ne_of_gt hlS⟩
        refine updM_loop ((Walks.tuple hh3 _ l hneI items).toS) s.heap.objs.size hSf ks hks hi hb (items.size - 0) 0 _ (by omega) (Nat.zero_le _)
          ⟨⟨_, Heap.get?_push_size _ rfl, rfl, rfl⟩, (hl1.push _)⟩ ?hS0 ?hR
        case hS0 => exact hM.at fun o e => Heap.get?_push_of_some _ e
        case hR =>
          intro s' hm hS'
          obtain ⟨h', g', d', tk', os'⟩ := s'
          have eg : g' = s.gens := hm.gens
          have ed : d' = s.drawn := hm.drawn
          have eo : os' = s.os := hm.os
          subst eg; subst ed; subst eo
          show wpAny _ _ _ _ _ _
          refine wpAny_pure ?_
          show wpAny _ _ (ret Value.none) _ _ _
          refine wpAny_pure ⟨rfl, h', tk', rfl, hS', fun b o hb e => ?_⟩
          have hb1 : b ≠ s.heap.objs.size := Nat.ne_of_lt hb
          have hb2 : b ≠ (s.heap.push { cls := .type "set", dict := none, data := .set #[] 0 (.fresh 0 0 (!w.params.followText "set-order")) }).objs.size := by
            rw [Heap.size_push]; exact Nat.ne_of_lt (Nat.lt_succ_of_lt hb)
          exact hm.heap b o (by simp only [List.mem_cons, List.mem_singleton, List.not_mem_nil, or_false, not_or]; exact ⟨hb1, hb2⟩) (Heap.get?_push_of_some _ (Heap.get?_push_of_some _ e))
      · cases r₂ with
        | error e => exact hr₂
        | ok fl₂ =>
          cases fl₂ with
          | ret r =>
            obtain ⟨rfl, h', tk, rfl, hS', hk'⟩ := hr₂
            repeat (any_goals (first | assumption | wp_step))
            exact h _ _ hS' hk'
          | _ => exact hr₂.elim
    | _ => exact hr.elim
end
/-! ### over the layer -/
def SetMO (w : World) (a : Addr) (ks : List Key) : HO := .ext fun h => SetM w h a ks
section
variable {X : Cx}
theorem setMO_new {w : World} {P : Program} {H : Hp} {h : Heap} {a : Addr} {ks : List Key} (R : SetM w h a ks) : ObjOk P w H h a (SetMO w a ks) := by
  have ⟨o, _, _, _, ho, _⟩ := R
  exact ⟨R, ⟨o, ho⟩, fun h1 h2 p k => SetM.at p k⟩
theorem setMO_get {pins : List (Addr × Obj)} {σ : L2.St} {H : Hp} {s : Shared} {a : Addr} {ks : List Key} (I : Inv X pins σ H s) (ha : H a = some (SetMO X.w a ks)) : SetM X.w s.heap a ks := (I.hok a _ ha).1
theorem vals_key {ks : List Key} {us : List Value} (r : Vals (ks.map kV) us) : ∀ (i : Nat) v, us[i]? = some v → ∃ k, ks[i]? = some k ∧ keyIs k v = true := fun i v hv => by
  have hl := r.length
  rw [List.length_map] at hl
  have hi : i < us.length := (List.getElem?_eq_some_iff.mp hv).1
  have hk : ks[i]? = some ks[i] := List.getElem?_eq_getElem (by omega)
  obtain ⟨u, e, q⟩ := r.get (i := i) (x := kV ks[i]) (by rw [List.getElem?_map, hk]; rfl)
  rw [hv] at e
  cases e
  refine ⟨ks[i], hk, ?_⟩
  cases h : ks[i] with
  | inl j =>
    rw [h] at q
    obtain ⟨t, rfl⟩ := q
    exact keyIs_int j t
  | inr x =>
    rw [h] at q
    obtain ⟨t, rfl⟩ := q
    exact keyIs_str x t
/-- set(xs) of a list or tuple of ints and texts -/
def rSetM (K : PySem.W.Frag) (w : World) : List V → Hp → VK → Prop := fun xs H Q => ∃ (l : Addr) (ks : List Key), xs = [.ref l] ∧ (SqL K H l (ks.map kV) ∨ SqT K H l (ks.map kV)) ∧ ks.length ≤ 4000 ∧
  ∀ p, H p = none → Q (.ref p) (upd H p (SetMO w p (ofKeys ks)))
theorem cr_setM (hc : X.calm = true) : CallR X (.type "set") (rSetM X.K X.w) := by
  intro pins s σ H xs us Q I r h
  obtain ⟨l, ks, rfl, hl, hz, q⟩ := h
  cases r with
  | cons r1 r2 =>
    cases r2
    cases r1
    rcases hl with hl | hl
    · obtain ⟨its, rv, pl, hz2⟩ := I.list hl
      have hlen : its.length = ks.length := by
        have := rv.length
        rw [List.length_map] at this
        exact this.symm
      have hsb : scanBound = 4096 := rfl
      refine call_setM_list (P := X.prog) (w := X.w) (ks := ks) (I.ok.hd hc) pl.isList (by rw [List.size_toArray, hlen]) (fun i v hv => vals_key rv i v (by simpa using hv)) (by rw [List.size_toArray, hlen]; omega) fun h' tk hS hk => ?_
      exact ⟨.ref _, _, I.laid (t' := tk) (fun b u e => hk b u (Heap.lt_size e) e) (Nat.le_refl _) (setMO_new hS), rfl, q _ (I.hok.fresh (Nat.le_refl _))⟩
    · obtain ⟨its, rv, pl, hz2⟩ := I.tuple hl
      have hlen : its.length = ks.length := by
        have := rv.length
        rw [List.length_map] at this
        exact this.symm
      have hsb : scanBound = 4096 := rfl
      refine call_setM_tuple (P := X.prog) (w := X.w) (ks := ks) (I.ok.hd hc) pl (by rw [List.size_toArray, hlen]) (fun i v hv => vals_key rv i v (by simpa using hv)) (by rw [List.size_toArray, hlen]; omega) fun h' tk hS hk => ?_
      exact ⟨.ref _, _, I.laid (t' := tk) (fun b u e => hk b u (Heap.lt_size e) e) (Nat.le_refl _) (setMO_new hS), rfl, q _ (I.hok.fresh (Nat.le_refl _))⟩
/-- len(set) -/
def rLenM (w : World) : List V → Hp → VK → Prop := fun xs H Q => ∃ (a : Addr) (ks : List Key), xs = [.ref a] ∧ H a = some (SetMO w a ks) ∧ Q (.int ks.length) H
theorem cr_lenM : CallR X (.builtin "len") (rLenM X.w) := by
  intro pins s σ H xs us Q I r h
  obtain ⟨a, ks, rfl, ha, q⟩ := h
  cases r with
  | cons r1 r2 =>
    cases r2
    cases r1
    obtain ⟨o, es, ep, t, ho, hex, hd, g, pk, nd, hb, hf, hr, hl⟩ := setMO_get I ha
    have hn : es.size = ks.length := by rw [← pk.length_eq, List.length_map, Array.length_toList]
    exact call_len_set ho hex hd hf (by unfold scanBound at hb; omega) ⟨.int ks.length, H, I.tok _, ⟨_, by rw [hn]⟩, q⟩
/-- sorted(set) of texts -/
def rSortedM (w : World) : List V → Hp → VK → Prop := fun vs H Q => ∃ (a : Addr) (xs : List Str), vs = [V.ref a] ∧ H a = some (SetMO w a (xs.map Sum.inr)) ∧ xs.length < 64 ∧
  ∀ (ys : List Str) (p : Addr), ys.Perm xs → sortedS ys = true → H p = none → Q (.ref p) (upd H p (.lst (ys.map V.str)))
theorem cr_sortedM (hc : X.calm = true) : CallR X (.builtin "sorted") (rSortedM X.w) := by
  intro pins s σ H vs us Q I r h
  obtain ⟨a, xs, rfl, ha, h64, q⟩ := h
  obtain ⟨o, es, ep, t, ho, hex, hd, g, pk, nd, hb, hf, hr, hl⟩ := setMO_get I ha
  rw [Vals.ref1 r]
  have hn : es.size = xs.length := by rw [← List.length_map (as := xs) Sum.inr, ← pk.length_eq, List.length_map, Array.length_toList]
  refine Calls.call_function_entry kind_sorted plain_sorted entry_sorted (args_sorted1 _) ?_
  unfold Builtin.«sorted»
  refine wpAny_bind (m := checkCount "sorted" 1 1 _) (wpAny_pure ?_)
  refine wpAny_bind (collect_set (A := X.A.in1) (I.ok.hd hc) ⟨o, ho, hex.1, hd⟩ hf hb hr hl fun s1 vs k1 hz g1 o1 pm => ?_)
  have hvl : vs.length = xs.length := by rw [pm.length_eq, List.length_map, Array.length_toList]; exact hn
  have hkeys : (vs.map mkey).Perm (xs.map Sum.inr) := by
    have z := pm.map mkey
    rw [List.map_map] at z
    exact z.trans pk
  obtain ⟨zs, hS, hzs⟩ : ∃ zs : List Str, StrsAre vs zs ∧ zs.Perm xs := by
    have all : ∀ v ∈ vs, ∃ x t, v = Value.str x t ∧ x ∈ xs := fun v hv => by
      obtain ⟨e, he, rfl⟩ := List.mem_map.mp (pm.mem_iff.mp hv)
      have ge := (g e he).1
      have hm : ekey e ∈ xs.map (Sum.inr : Str → Key) := pk.mem_iff.mp (List.mem_map_of_mem he)
      obtain ⟨x, hx, ex⟩ := List.mem_map.mp hm
      rw [← ex] at ge
      rcases keyIs_shape ge with ⟨i, t, z, _⟩ | ⟨y, t, z, e2⟩
      · cases z
      · cases z
        exact ⟨x, t, e2, hx⟩
    have mk : ∀ (l : List Value), (∀ v ∈ l, ∃ x t, v = Value.str x t ∧ x ∈ xs) → ∃ zs : List Str, StrsAre l zs ∧ l.map mkey = zs.map Sum.inr := by
      intro l
      induction l with
      | nil => intro _; exact ⟨[], .nil, rfl⟩
      | cons v l ih =>
        intro hv
        obtain ⟨x, t, rfl, _⟩ := hv v List.mem_cons_self
        obtain ⟨zs, h1, h2⟩ := ih fun u hu => hv u (List.mem_cons_of_mem _ hu)
        exact ⟨x :: zs, .cons x t h1, by rw [List.map_cons, List.map_cons, h2]; rfl⟩
    obtain ⟨zs, h1, h2⟩ := mk vs all
    refine ⟨zs, h1, ?_⟩
    rw [h2] at hkeys
    have z := hkeys.map (fun k : Key => match k with | .inr x => x | .inl _ => Str.empty)
    rw [List.map_map, List.map_map] at z
    have e1 : ∀ l : List Str, l.map ((fun k : Key => match k with | .inr x => x | .inl _ => Str.empty) ∘ Sum.inr) = l := fun l => by
      induction l with
      | nil => rfl
      | cons x l ih => rw [List.map_cons, ih]; rfl
    rw [e1, e1] at z
    exact z
  refine wpAny_bind (wpAny_newList ?_ (by rw [hvl, sizeLine_eq]; omega))
  have hoL : (s1.heap.push (seqObj "list" vs.toArray 0)).get? s1.heap.objs.size = some (seqObj "list" vs.toArray 0) := Heap.get?_push_size _ rfl
  refine wpAny_bind (wpAny_holding (wpAny_call_entry slot_list_sort ⟨_, hoL, rfl⟩ entry_list_sort (list_sort_treeK strKind_oneLt hoL hS.keysOf (fun v₁ v₂ rest e => keyKind_strs (by rw [← e]; exact hS)) (by rw [hvl]; exact h64) fun st' hp hs => ⟨_, rfl, ?_⟩) (args_list_sort _)))
  obtain ⟨ys, a1, a2, a3⟩ := sorted_out_str hS hp hs
  obtain ⟨c, hcc⟩ := sortedHeap_at (vs := vs) (out := (arrOf st').map (·.2)) hoL
  have kk : ∀ b u, s.heap.get? b = some u → (sortedHeap (s1.heap.push (seqObj "list" vs.toArray 0)) s1.heap.objs.size vs ((arrOf st').map (·.2))).get? b = some u := fun b u e => by
    have q := k1 b u e
    have hlt := Heap.lt_size q
    rw [sortedHeap_old (Nat.ne_of_lt hlt) (by rw [size_push']; exact Nat.lt_succ_of_lt hlt)]
    exact Heap.get?_push_of_some _ q
  have hlen : (ys.map V.str).length ≤ sizeLine := by rw [List.length_map, a2.length_eq, hzs.length_eq, sizeLine_eq]; omega
  have hn0 : H s1.heap.objs.size = none := I.hok.fresh hz
  refine wpAny_pure ⟨_, rfl, ?_⟩
  have J : Inv X pins σ (upd H s1.heap.objs.size (.lst (ys.map V.str))) { s with heap := sortedHeap (s1.heap.push (seqObj "list" vs.toArray 0)) s1.heap.objs.size vs ((arrOf st').map (·.2)), gens := s1.gens, drawn := s1.drawn, toks := s1.toks } :=
    I.call (ch := []) (Un.laid kk hz hn0) (I.hok.laid kk hz ⟨hlen, ((arrOf st').map (·.2)).toList, c, vals_of_strs a1, by rw [Array.toArray_toList]; exact hcc⟩) (by rw [g1]; exact I.bare) (fun _ z => nomatch z)
  have e : ({ s1 with heap := sortedHeap (s1.heap.push (seqObj "list" vs.toArray 0)) s1.heap.objs.size vs ((arrOf st').map (·.2)) } : Shared) = { s with heap := sortedHeap (s1.heap.push (seqObj "list" vs.toArray 0)) s1.heap.objs.size vs ((arrOf st').map (·.2)), gens := s1.gens, drawn := s1.drawn, toks := s1.toks } := by
    cases s1
    cases s
    cases o1
    rfl
  refine ⟨.ref s1.heap.objs.size, _, ?_, rfl, q ys s1.heap.objs.size (a2.trans hzs) a3 hn0⟩
  rw [← e] at J
  exact J
end
end SM

namespace HP
open PySem PySem.Spec PyProof.Rows L2
def top (i : Nat) : Stmt := (PySem.Challenge.pw_handplaced_k20_errors_apart).main.body.getD i (.Pass ⟨0, 0, 0, 0⟩)
/-! ### names that stand for built-ins; defs by their names -/
def frees : List Str := ["int", "list", "len", "max", "min", "isinstance", "sorted", "all", "any", "tuple", "set", "str", "bool", "dict", "range", "zip", "enumerate", "ValueError", "super"]
structure Fr (mg : Str → Option Value) : Prop where
  fr : ∀ x, frees.contains x = true → mg x = none
/-- the def x of the text, as the top has left it -/
def Dat (K : PySem.W.Frag) (mg : Str → Option Value) (x : Str) (st : Stmt) : Prop := ∃ (f : Addr) (fd : FuncData), mg x = some (.ref f) ∧ FunD K x x (defArgs st) (defBody st) (defScope st) [] [] f fd
/-- the def x keeps the promise sp -/
def Fn (P : Program) (w : World) (K : PySem.W.Frag) (mg : Str → Option Value) (base : Heap) (CX : CXT) (k : Nat) (x : Str) (sp : Sp) : Prop :=
  ∃ (f : Addr) (fd : FuncData) (ps : List Str), mg x = some (.ref f) ∧ PySem.W.keepIn K (.ref f) = true ∧ Binds K fd ps [] ∧ FnOk P w K mg base CX k f fd ps sp
section
variable {P : Program} {w : World} {K : PySem.W.Frag} {mg : Str → Option Value} {base : Heap}
theorem Fn.of {CX : CXT} {x : Str} {st : Stmt} {N ps : List Str} {k : Nat} {sp : Sp} (D : Dat K mg x st) (S : FnScope N ps (defScope st))
    (hb : ∀ (kV doc pm : Value) (an : Option Addr) (cdv ct : Value) (us : List Value), us.length = ps.length → bindArgs (PySem.W.fnOf x x (defArgs st) (defBody st) (defScope st) .none kV doc pm an cdv ct) ⟨us, []⟩ = pure (ps.zip us))
    (len : ∀ vs H Q E, sp vs H Q E → vs.length = ps.length)
    (hbody : ∀ (f : Addr) (cdv : Value) (A : Around) (outer : List Env) (s : Shared) (H : Hp) (vs : List V) (Q : VK) (E : XK), Room k (A.deeper (envOfC x (defScope st) s.heap.objs.size f cdv)) → sp vs H Q E →
      ∃ t, PSs (cxOf CX P w K mg base N x (defScope st) f cdv A outer s H E) (defBody st) t ∧ t { nx := fun _ H' => Q .non H', rt := Q } (start N vs) H) : Fn P w K mg base CX (k + 1) x sp := by
  obtain ⟨f, fd, h1, F⟩ := D
  exact ⟨f, fd, ps, h1, F.kp, F.bindsN hb, F.ok S len fun cdv A outer s H vs Q E hr h => hbody f cdv A outer s H vs Q E hr h⟩
theorem Fn.of0 {x : Str} {st : Stmt} {N ps : List Str} {k : Nat} {sp : Sp} (D : Dat K mg x st) (S : FnScope N ps (defScope st))
    (hb : ∀ (kV doc pm : Value) (an : Option Addr) (cdv ct : Value) (us : List Value), us.length = ps.length → bindArgs (PySem.W.fnOf x x (defArgs st) (defBody st) (defScope st) .none kV doc pm an cdv ct) ⟨us, []⟩ = pure (ps.zip us))
    (len : ∀ vs H Q E, sp vs H Q E → vs.length = ps.length)
    (hbody : ∀ (f : Addr) (cdv : Value) (A : Around) (outer : List Env) (s : Shared) (H : Hp) (vs : List V) (Q : VK) (E : XK), Room k (A.deeper (envOfC x (defScope st) s.heap.objs.size f cdv)) → sp vs H Q E →
      ∃ t, PSs (cxOf CX0 P w K mg base N x (defScope st) f cdv A outer s H E).nox (defBody st) t ∧ t { nx := fun _ H' => Q .non H', rt := Q } (start N vs) H) : Fn P w K mg base CX0 (k + 1) x sp :=
  Fn.of D S hb len fun f cdv A outer s H vs Q E hr h => let ⟨t, a, b⟩ := hbody f cdv A outer s H vs Q E hr h; ⟨t, a.nox, b⟩
end
section
variable {X : Cx} {CX : CXT} {k j : Nat} {x : Str} {sp : Sp} {e : Expr} {es : List Expr} {t : TA} {p pos : Pos} {E : XK}
/-- f(e, ..) by f's promise -/
theorem pfX (F : Fn X.prog X.w X.K X.mg X.base CX k x sp) (hr : Room k X.A) (hx : Passes CX X E) (ha : PA X (e :: es) t) (hg : Gl X x := by rfl) (hdb : (x == ("__debug__" : Str)) = false := by decide)
    (he : starEach (e :: es) X.env = (false, eval e X.env) :: starEach es X.env := by rfl) (hpl : (backTo pos (starEach es X.env)).any (·.1) = false := by rfl) : PE X (.Call (.Name x p) (e :: es) [] pos) (tCall sp [] E t) := by
  obtain ⟨f, fd, ps, h1, h2, h3, h4⟩ := F
  exact pe_call h4 hr hg h1 h2 h3 .nil hx ha hdb he hpl
theorem pf (F : Fn X.prog X.w X.K X.mg X.base CX0 k x sp) (hr : Room j X.A) (hkj : k ≤ j) (ha : PA X (e :: es) t) (hg : Gl X x := by rfl) (hdb : (x == ("__debug__" : Str)) = false := by decide)
    (he : starEach (e :: es) X.env = (false, eval e X.env) :: starEach es X.env := by rfl) (hpl : (backTo pos (starEach es X.env)).any (·.1) = false := by rfl) : PE X (.Call (.Name x p) (e :: es) [] pos) (tCall sp [] E0 t) :=
  pfX F (hr.mono hkj) pass0 ha hg hdb he hpl
end
end HP

namespace HP
open PySem PySem.Spec PyProof.Rows L2
/-! ### the layer's rules with K named (for blocks of comprehensions) -/
section
variable {X : Cx} {K : PySem.W.Frag} {w : World} {tg : Expr} {l e : Expr} {tl ta to : TE} {t : TA} {f : Str} {pos : Pos}
def rLenQ (K : PySem.W.Frag) : List V → Hp → VK → Prop := fun xs H Q => ∃ p ys, xs = [.ref p] ∧ (SqL K H p ys ∨ SqT K H p ys) ∧ Q (.int ys.length) H
theorem kLen (hK : X.K = K := by rfl) : CallR X (.builtin "len") (rLenQ K) := by subst hK; exact call_len_seq
def rLenV (K : PySem.W.Frag) : List V → Hp → VK → Prop := fun xs H Q => ∃ x n, xs = [x] ∧ LenV K x H n ∧ Q (.int n) H
theorem kLenV (hK : X.K = K := by rfl) : CallR X (.builtin "len") (rLenV K) := by subst hK; exact call_len
def rListQ (K : PySem.W.Frag) : List V → Hp → VK → Prop := fun xs H Q => ∃ p ys, xs = [.ref p] ∧ (SqL K H p ys ∨ SqT K H p ys) ∧ ∀ l, H l = none → Q (.ref l) (upd H l (.lst ys))
theorem kList (hK : X.K = K := by rfl) : CallR X (.type "list") (rListQ K) := by subst hK; exact call_list_of
def rTupQ (K : PySem.W.Frag) : List V → Hp → VK → Prop := fun xs H Q => ∃ p ys, xs = [.ref p] ∧ ((SqL K H p ys ∧ ∀ l, H l = none → Q (.ref l) (upd H l (.tup ys))) ∨ (SqT K H p ys ∧ Q (.ref p) H))
theorem kTup (hK : X.K = K := by rfl) : CallR X (.type "tuple") (rTupQ K) := by subst hK; exact call_tuple_of
theorem kIsi (hK : X.K = K := by rfl) : CallR X (.builtin "isinstance") (rIsi K) := by subst hK; exact call_isi
theorem kIsiT (hK : X.K = K := by rfl) : CallR X (.builtin "isinstance") (rIsiT K) := by subst hK; exact call_isiT
theorem kAll (hc : X.calm = true) (hK : X.K = K := by rfl) : CallR X (.builtin "all") (rAll K) := by subst hK; exact cr_all hc
theorem kAny (hc : X.calm = true) (hK : X.K = K := by rfl) : CallR X (.builtin "any") (rAny K) := by subst hK; exact cr_any hc
theorem kSortS (hK : X.K = K := by rfl) : CallR X (.builtin "sorted") (rSortedS K) := by subst hK; exact cr_sortedS
theorem kSet (hc : X.calm = true) (hK : X.K = K := by rfl) (hw : X.w = w := by rfl) : CallR X (.type "set") (SM.rSetM K w) := by subst hK; subst hw; exact SM.cr_setM hc
theorem kLenM (hw : X.w = w := by rfl) : CallR X (.builtin "len") (SM.rLenM w) := by subst hw; exact SM.cr_lenM
theorem kSortM (hc : X.calm = true) (hw : X.w = w := by rfl) : CallR X (.builtin "sorted") (SM.rSortedM w) := by subst hw; exact SM.cr_sortedM hc
theorem ixL (hK : X.K = K := by rfl) : IxR X (rIxL K) := by subst hK; exact ix_list
theorem ixT (hK : X.K = K := by rfl) : IxR X (rIxT K) := by subst hK; exact ix_tup
theorem slL (hK : X.K = K := by rfl) : SlR X (rSlL K) := by subst hK; exact sl_list
theorem slT (hK : X.K = K := by rfl) : SlR X (rSlT K) := by subst hK; exact sl_tup
theorem oIn (hK : X.K = K := by rfl) : OpR X (compareOp .In) (rIn K false) := by subst hK; exact op_in_seq
theorem oNotIn (hK : X.K = K := by rfl) : OpR X (compareOp .NotIn) (rIn K true) := by subst hK; exact op_notIn_seq
theorem oEqD (hu : X.A.units + 64 < cLine) (hK : X.K = K := by rfl) : OpR X (compareOp .Eq) (rEqD K) := by subst hK; exact op_eqD hu
theorem oNeD (hu : X.A.units + 64 < cLine) (hK : X.K = K := by rfl) : OpR X (compareOp .NotEq) (rNeD K) := by subst hK; exact op_neD hu
theorem oInD (hu : X.A.units + 65 < cLine) (hK : X.K = K := by rfl) : OpR X (compareOp .In) (rInD K) := by subst hK; exact op_inD hu
theorem oNotInD (hu : X.A.units + 65 < cLine) (hK : X.K = K := by rfl) : OpR X (compareOp .NotIn) (rNotInD K) := by subst hK; exact op_notInD hu
theorem iL (hl : PE X l tl) (hK : X.K = K := by rfl) : PI X tg l (iList K tl) := by subst hK; exact pi_list hl
theorem iT (hl : PE X l tl) (hK : X.K = K := by rfl) : PI X tg l (iTup K tl) := by subst hK; exact pi_tup hl
theorem eFld (he : PE X e ta) (hb : attributeBase e f X.env (eval e X.env) = eval e X.env := by rfl) (hK : X.K = K := by rfl) : PE X (.Attribute e f pos) (tFld K ta f) := by subst hK; exact pe_fld he hb
theorem eBm0 {o : Expr} {name : Str} {apos cpos : Pos} {T id : String} {r : V → List V → Hp → VK → Prop} (pa : PlainAttrs T) (slot : Slot T name id) (hty : typeOf (.builtin id) = pure (.type "method_descriptor")) (hm : MtR X id r) (ho : PE X o to)
    (hbase : attributeBase o name X.env (eval o X.env) = eval o X.env := by rfl) (hline : (apos.endLine == cpos.line) = true := by rfl) (hK : X.K = K := by rfl) : PE X (.Call (.Attribute o name apos) [] [] cpos) (tBM0 K T r to) := by
  subst hK; exact pe_bm0 pa slot hty hm ho hbase hline
theorem eBm {o : Expr} {es : List Expr} {name : Str} {apos cpos : Pos} {T id : String} {r : V → List V → Hp → VK → Prop} (pa : PlainAttrs T) (slot : Slot T name id) (hty : typeOf (.builtin id) = pure (.type "method_descriptor")) (hm : MtR X id r) (ho : PE X o to) (ha : PA X (e :: es) t)
    (hbase : attributeBase o name X.env (eval o X.env) = eval o X.env := by rfl)
    (hfew : ((backTo cpos (starEach (e :: es) X.env)).all (fun x => !x.1) && (backToKw cpos (keywordEach [] X.env)).all (fun x => x.1.isSome)
      && decide ((e :: es).length + ([] : List Keyword).length + (if ([] : List Keyword).isEmpty then 0 else 1) < 30)) = true := by rfl)
    (hline : (apos.endLine == cpos.line) = true := by rfl) (hs : starEach (e :: es) X.env = (false, eval e X.env) :: starEach es X.env := by rfl) (hplain : (backTo cpos (starEach es X.env)).any (·.1) = false := by rfl) (hK : X.K = K := by rfl) :
    PE X (.Call (.Attribute o name apos) (e :: es) [] cpos) (tBM K T r to t) := by
  subst hK; exact pe_bm pa slot hty hm ho ha hbase hfew hline hs hplain
end
end HP

namespace HP
open PySem L2
abbrev sMix : Stmt := top 16
abbrev sNext : Stmt := top 17
/-! ### the source of draws -/
structure Src (H : Hp) (p l : Addr) : Prop where
  ex : ∃ (st i : Int) (ns : List Int), H p = some (.lst [.int st, .ref l, .int i, .int 14]) ∧ H l = some (.lst (ns.map V.int)) ∧ ns.length ≤ 63
/-- all but the source stands as it stood -/
def Keep (p l : Addr) (H H' : Hp) : Prop := ∀ c o, H c = some o → c ≠ p → c ≠ l → H' c = some o
def spMix (K : PySem.W.Frag) : Sp := fun vs H Q _ => ∃ (a : Addr) (ns : List Int) (z : Int), vs = [.ref a, .int z] ∧ SqL K H a (ns.map V.int) ∧ ns.length ≤ 63 ∧
  ∀ H' p l, Same H H' → H p = none → H l = none → Src H' p l → Q (.ref p) H'
def spNext : Sp := fun vs H Q _ => ∃ (p l : Addr) (b : Int), vs = [.ref p, .int b] ∧ Src H p l ∧ 0 < b ∧ b < 1073741824 ∧
  ∀ H' r, 0 ≤ r → r < b → Src H' p l → Keep p l H H' → Q (.int r) H'
section
variable {P : Program} {w : World} {K : PySem.W.Frag} {mg : Str → Option Value} {base : Heap}
theorem Src.ne {H : Hp} {p l : Addr} (S : Src H p l) : p ≠ l := fun e => by
  obtain ⟨st, i, ns, hp, hl, hlen⟩ := S.ex
  rw [← e, hp] at hl
  have e3 := congrArg (fun x => x[1]?) (HO.lst.inj (Option.some.inj hl))
  rw [List.getElem?_map] at e3
  cases q : ns[1]? with
  | none => rw [q] at e3; cases e3
  | some c => rw [q] at e3; cases e3
theorem int_at {ns : List Int} {i : Nat} {y : V} (hi : (ns.map V.int)[i]? = some y) : ∃ c, y = V.int c ∧ ns[i]? = some c := by
  rw [List.getElem?_map] at hi
  cases e : ns[i]? with
  | none => rw [e] at hi; cases hi
  | some c => rw [e] at hi; exact ⟨c, (Option.some.inj hi).symm, rfl⟩
theorem scMix : FnScope ["_law_script", "_law_seed", "_law_state", "_law_cell"] ["_law_script", "_law_seed"] (defScope sMix) := ⟨rfl, rfl, rfl, by decide +kernel, rfl, by decide +kernel, by decide +kernel⟩
theorem ok_mix (D : Dat K mg "_law_mix" sMix) (T : Fr mg) : Fn P w K mg base CX0 1 "_law_mix" (spMix K) := by
  refine Fn.of0 D scMix (fun _ _ _ _ _ _ us hl => match us, hl with | [_, _], _ => rfl) (fun vs H Q E h => ?_) (fun f cdv A outer s H vs Q E hr h => ?_)
  · obtain ⟨a, ns, z, rfl, _⟩ := h
    rfl
  · obtain ⟨a, ns, z, rfl, hS, hlen, k⟩ := h
    refine ⟨_, (pss_cons (ps_set (i := 2) scMix.nd rfl (Or.inl rfl) (pv 1))
      (pss_cons (ps_for PassesOwn.never rfl (iL (K := K) (pv 0)) (pg_name (i := 3) scMix.nd rfl (Or.inl rfl)) (pss_one (ps_set (i := 2) scMix.nd rfl (Or.inl rfl) (pe_op op_modN (pe_callTy call_int1 (by rfl) (T.fr "int" (by decide +kernel)) (by decide +kernel) (pa_cons (pe_op op_add (pe_op op_add (pe_op op_mul (pv 2) pe_int) (pe_op op_modN (pe_callTy call_int1 (by rfl) (T.fr "int" (by decide +kernel)) (by decide +kernel) (pa_cons (pv 3) pa_nil)) pe_int)) pe_int) pa_nil)) pe_int))))
      (pss_one (ps_ret (pe_lst (pa_cons (pv 2) (pa_cons (pe_callTy (kList (K := K)) (by rfl) (T.fr "list" (by decide +kernel)) (by decide +kernel) (pa_cons (pv 0) pa_nil)) (pa_cons pe_int (pa_cons pe_int pa_nil))))))))), ?_⟩
    refine ⟨_, rfl, ?_⟩
    refine ⟨_, rfl, a, rfl, ⟨_, hS⟩, for_list (K := K) (a := a) (xs := ns.map V.int) (fun i σ H2 => ∃ (st : Int) (v : Option V), σ = [some (.ref a), some (.int z), some (.int st), v] ∧ H2 = H)
      ⟨z, none, rfl, rfl⟩ (fun i σ H2 _ ⟨_, _, _, s2⟩ => s2 ▸ hS) ?_ ?_⟩
    · rintro i y σ H2 hi ⟨st, v, rfl, rfl⟩
      obtain ⟨c, rfl, _⟩ := int_at hi
      refine ⟨_, rfl, _, _, rfl, rfl, .inr (by decide), _, rfl, .inl ⟨_, rfl, ?_⟩⟩
      refine ⟨_, _, rfl, rfl, (show (2147483629 : Int) ≠ 0 by decide), _, _, rfl, rfl, _, _, rfl, rfl, .inl ⟨_, rfl, ?_⟩⟩
      refine ⟨_, _, rfl, rfl, (show (2147483647 : Int) ≠ 0 by decide), ?_⟩
      exact ⟨_, _, rfl, rfl⟩
    · rintro σ H2 ⟨st, v, rfl, rfl⟩
      refine ⟨_, rfl, _, rfl, a, _, rfl, .inl hS, fun l hl => ?_⟩
      refine ⟨(by show 4 ≤ sizeLine; decide), fun p hp => ?_⟩
      have npl : l ≠ p := fun e => by rw [← e, upd_same] at hp; cases hp
      have hp2 : H2 p = none := by rw [upd_ne npl.symm] at hp; exact hp
      refine k _ p l (fun b o e => ?_) hp2 hl ⟨st, 0, ns, upd_same, ?_, hlen⟩
      · rw [upd_ne (ne_of_none e hp2), upd_ne (ne_of_none e hl)]; exact e
      · rw [upd_ne npl, upd_same]
theorem scNext : FnScope ["_law_h", "_law_bound", "_law_cell"] ["_law_h", "_law_bound"] (defScope sNext) := ⟨rfl, rfl, rfl, by decide +kernel, rfl, by decide +kernel, by decide +kernel⟩
theorem ok_next (D : Dat K mg "_law_next" sNext) (T : Fr mg) : Fn P w K mg base CX0 1 "_law_next" spNext := by
  refine Fn.of0 D scNext (fun _ _ _ _ _ _ us hl => match us, hl with | [_, _], _ => rfl) (fun vs H Q E h => ?_) (fun f cdv A outer s H vs Q E hr h => ?_)
  · obtain ⟨p, l, b, rfl, _⟩ := h
    rfl
  · obtain ⟨p, l, b, rfl, S, hb, hb2, k⟩ := h
    obtain ⟨st, i, ns, hp, hl, hlen⟩ := S.ex
    have npl := S.ne
    refine ⟨_, (pss_cons (ps_set (i := 2) scNext.nd rfl (Or.inl rfl) (pe_ix (ixL (K := K)) (pe_op op_cat (pe_ix (ixL (K := K)) (pv 0) pe_int (fun _ _ => rfl)) (pe_lst (pa_cons pe_int pa_nil))) (pe_op op_modN (pe_callTy call_int1 (by rfl) (T.fr "int" (by decide +kernel)) (by decide +kernel) (pa_cons (pe_ix (ixL (K := K)) (pv 0) pe_int (fun _ _ => rfl)) pa_nil)) (pe_callB (call_max2 rfl) (by rfl) (T.fr "max" (by decide +kernel)) (by decide +kernel) (pa_cons pe_int (pa_cons (pe_callB (kLen (K := K)) (by rfl) (T.fr "len" (by decide +kernel)) (by decide +kernel) (pa_cons (pe_ix (ixL (K := K)) (pv 0) pe_int (fun _ _ => rfl)) pa_nil)) pa_nil)))) (fun _ _ => rfl)))
      (pss_cons (ps_if (pt_cmpR op_ge (pv 2) (pe_op op_pow pe_int pe_int) (nomark _)) (pss_cons (ps_asg (pe_op op_fdivN (pv 2) (pv 1)) (pg_sub (pe_ix (ixL (K := K)) (pv 0) pe_int (fun _ _ => rfl)) (pe_op op_modN (pe_callTy call_int1 (by rfl) (T.fr "int" (by decide +kernel)) (by decide +kernel) (pa_cons (pe_ix (ixL (K := K)) (pv 0) pe_int (fun _ _ => rfl)) pa_nil)) (pe_callB (kLen (K := K)) (by rfl) (T.fr "len" (by decide +kernel)) (by decide +kernel) (pa_cons (pe_ix (ixL (K := K)) (pv 0) pe_int (fun _ _ => rfl)) pa_nil))) set_list))
      (pss_one (ps_ret (pe_op op_modN (pe_callTy call_int1 (by rfl) (T.fr "int" (by decide +kernel)) (by decide +kernel) (pa_cons (pv 2) pa_nil)) (pv 1))))) pss_nil)
      (pss_cons (ps_asg (pe_op op_modN (pe_callTy call_int1 (by rfl) (T.fr "int" (by decide +kernel)) (by decide +kernel) (pa_cons (pe_op op_add (pe_op op_add (pe_op op_mul (pe_ix (ixL (K := K)) (pv 0) pe_int (fun _ _ => rfl)) pe_int) (pe_op op_mul (pv 2) pe_int)) pe_int) pa_nil)) pe_int) (pg_sub (pv 0) pe_int set_list))
      (pss_cons (ps_asg (pe_op op_add (pe_ix (ixL (K := K)) (pv 0) pe_int (fun _ _ => rfl)) pe_int) (pg_sub (pv 0) pe_int set_list))
      (pss_one (ps_ret (pe_op op_modN (pe_callTy call_int1 (by rfl) (T.fr "int" (by decide +kernel)) (by decide +kernel) (pa_cons (pe_op op_fdivN (pe_ix (ixL (K := K)) (pv 0) pe_int (fun _ _ => rfl)) pe_int) pa_nil)) (pv 1)))))))), ?_⟩
    have atP1 : atI ([.int st, .ref l, .int i, .int 14] : List V) 1 = some (.ref l) := rfl
    have atP2 : atI ([.int st, .ref l, .int i, .int 14] : List V) 2 = some (.int i) := rfl
    have atP0 : atI ([.int st, .ref l, .int i, .int 14] : List V) 0 = some (.int st) := rfl
    -- h[1]; [0]; +
    refine ⟨_, rfl, p, _, _, _, rfl, rfl, SqL.of hp, atP1, (by show 1 ≤ sizeLine; decide), fun z hz => ?_⟩
    have nlz : l ≠ z := ne_of_none hl hz
    have npz : p ≠ z := ne_of_none hp hz
    refine ⟨l, z, _, _, rfl, rfl, (by rw [upd_ne nlz]; exact hl), upd_same, (by simp; exact Nat.le_trans (Nat.succ_le_succ hlen) (by decide)), fun c hc => ?_⟩
    have ncz : c ≠ z := fun e => by rw [e, upd_same] at hc; cases hc
    rw [upd_ne ncz] at hc
    have npc : p ≠ c := ne_of_none hp hc
    have nlc : l ≠ c := ne_of_none hl hc
    generalize eH1 : upd (upd H z (.lst [.int 0])) c (.lst (ns.map V.int ++ [V.int 0])) = H1
    have hp1 : H1 p = some (.lst [.int st, .ref l, .int i, .int 14]) := by rw [← eH1, upd_ne npc, upd_ne npz]; exact hp
    have hl1 : H1 l = some (.lst (ns.map V.int)) := by rw [← eH1, upd_ne nlc, upd_ne nlz]; exact hl
    have hc1 : H1 c = some (.lst (ns.map V.int ++ [V.int 0])) := by rw [← eH1, upd_same]
    have same : Same H H1 := fun b o e => by rw [← eH1, upd_ne (ne_of_none e hc), upd_ne (ne_of_none e hz)]; exact e
    -- int(h[2]) % max(1, len(h[1]))
    have hm : (if (((ns.map V.int).length : Int)) > 1 then ((ns.map V.int).length : Int) else 1) > 0 := by split <;> omega
    have hm2 : (if (((ns.map V.int).length : Int)) > 1 then ((ns.map V.int).length : Int) else 1) ≤ (ns.length : Int) ∨ ns = [] := by
      rw [List.length_map]
      cases ns with
      | nil => right; rfl
      | cons a t => left; simp only [List.length_cons]; split <;> omega
    generalize em : (if (((ns.map V.int).length : Int)) > 1 then ((ns.map V.int).length : Int) else 1) = m at hm hm2
    have hf0 : 0 ≤ i.fmod m := Int.fmod_nonneg_of_pos _ hm
    have hf1 : i.fmod m < m := Int.fmod_lt_of_pos _ hm
    obtain ⟨cell, hcell⟩ : ∃ cell : Int, atI (ns.map V.int ++ [V.int 0]) (i.fmod m) = some (V.int cell) := by
      have hj : (i.fmod m).toNat < (ns ++ [0]).length := by
        rw [List.length_append, List.length_singleton]
        rcases hm2 with h | h
        · omega
        · subst h
          have : m = 1 := by rw [← em]; rfl
          subst this
          simp only [List.length_nil]
          omega
      refine ⟨(ns ++ [0])[(i.fmod m).toNat], ?_⟩
      have e : (ns.map V.int ++ [V.int 0]) = (ns ++ [0]).map V.int := by simp
      rw [e]
      unfold atI ixN
      rw [if_pos hf0, if_pos (by rw [List.length_map]; omega)]
      show ((ns ++ [0]).map V.int)[(i.fmod m).toNat]? = _
      rw [List.getElem?_map, List.getElem?_eq_getElem hj] <;> rfl
    refine ⟨_, rfl, p, _, _, _, rfl, rfl, SqL.of hp1, atP2, .inl ⟨_, rfl, ?_⟩⟩
    refine ⟨_, rfl, p, _, _, _, rfl, rfl, SqL.of hp1, atP1, l, _, rfl, .inl (SqL.of hl1), ?_⟩
    refine ⟨1, _, rfl, _, _, rfl, rfl, ?_⟩
    rw [em]
    refine ⟨(show m ≠ 0 by omega), c, _, _, _, rfl, rfl, SqL.of hc1, hcell, ?_⟩
    -- if cell >= 10 ** 18
    refine ⟨_, rfl, _, _, rfl, rfl, ⟨by decide, by decide, by decide⟩, _, _, rfl, rfl, _, rfl, ?_⟩
    refine ite2 (fun hge => ?_) (fun hge => ?_)
    · have hge' : (10 : Int) ^ 18 ≤ cell := of_decide_eq_true hge
      have hne : ns ≠ [] := fun e => by
        subst e
        have : m = 1 := by rw [← em]; rfl
        subst this
        have hz0 : i.fmod 1 = 0 := by omega
        rw [hz0] at hcell
        have : V.int 0 = V.int cell := Option.some.inj hcell
        have : (0 : Int) = cell := V.int.inj this
        rw [← this] at hge'
        exact absurd hge' (by decide)
      have hlp : 0 < ns.length := List.length_pos_iff.mpr hne
      have hn0 : ((ns.map V.int).length : Int) ≠ 0 := by rw [List.length_map]; omega
      have hnp : 0 < ((ns.map V.int).length : Int) := by rw [List.length_map]; omega
      have g0 : 0 ≤ i.fmod ((ns.map V.int).length : Int) := Int.fmod_nonneg_of_pos _ hnp
      have g1 : i.fmod ((ns.map V.int).length : Int) < ((ns.map V.int).length : Int) := Int.fmod_lt_of_pos _ hnp
      refine ⟨_, rfl, _, rfl, _, _, rfl, rfl, ⟨(show b ≠ 0 by omega), (show b.natAbs < 1073741824 by omega)⟩, ?_⟩
      refine ⟨_, rfl, p, _, _, _, rfl, rfl, SqL.of hp1, atP1, ?_⟩
      refine ⟨_, rfl, p, _, _, _, rfl, rfl, SqL.of hp1, atP2, .inl ⟨_, rfl, ?_⟩⟩
      refine ⟨_, rfl, p, _, _, _, rfl, rfl, SqL.of hp1, atP1, l, _, rfl, .inl (SqL.of hl1), _, _, rfl, rfl, hn0, ?_⟩
      refine ⟨l, _, _, (i.fmod ((ns.map V.int).length : Int)).toNat, rfl, rfl, hl1, (by unfold ixN; rw [if_pos g0, if_pos g1]), ?_⟩
      refine ⟨_, rfl, .inl ⟨_, rfl, _, rfl, _, _, rfl, rfl, (show b ≠ 0 by omega), ?_⟩⟩
      refine k _ _ (Int.fmod_nonneg_of_pos _ hb) (Int.fmod_lt_of_pos _ hb) ⟨st, i, ns.set (i.fmod ((ns.map V.int).length : Int)).toNat (cell.fdiv b), (by rw [upd_ne npl]; exact hp1), (by rw [upd_same, List.map_set]), (by rw [List.length_set]; exact hlen)⟩ (fun x o e h1 h2 => ?_)
      rw [upd_ne h2]
      exact same x o e
    · refine ⟨_, rfl, p, _, _, _, rfl, rfl, SqL.of hp1, atP0, _, _, rfl, rfl, .inr (by decide), _, rfl, _, _, rfl, rfl, .inr (by decide), _, _, rfl, rfl, _, _, rfl, rfl, .inl ⟨_, rfl, _, _, rfl, rfl, (show (2147483647 : Int) ≠ 0 by decide), ?_⟩⟩
      refine ⟨_, rfl, p, _, _, 0, rfl, rfl, hp1, rfl, ?_⟩
      refine ⟨_, rfl, p, _, _, _, rfl, rfl, SqL.of upd_same, rfl, _, _, rfl, rfl, ?_⟩
      refine ⟨_, rfl, p, _, _, 2, rfl, rfl, upd_same, rfl, ?_⟩
      refine ⟨_, rfl, p, _, _, _, rfl, rfl, SqL.of upd_same, rfl, _, _, rfl, rfl, ⟨by decide, by decide⟩, .inl ⟨_, rfl, _, rfl, _, _, rfl, rfl, (show b ≠ 0 by omega), ?_⟩⟩
      refine k _ _ (Int.fmod_nonneg_of_pos _ hb) (Int.fmod_lt_of_pos _ hb) ⟨_, _, ns, upd_same, (by rw [upd_ne npl.symm, upd_ne npl.symm]; exact hl1), hlen⟩ (fun x o e h1 h2 => ?_)
      rw [upd_ne h1, upd_ne h1]
      exact same x o e
end
end HP

namespace HP
open PySem PySem.Spec PyProof.Rows L2
/-! ### data -/
def tyD : PyData → String
  | .none => "NoneType"
  | .bool _ => "bool"
  | .int _ => "int"
  | .str _ => "str"
  | .list _ => "list"
  | .tuple _ => "tuple"
  | .dict _ => "dict"
theorem SqL.same {K : PySem.W.Frag} {H H' : Hp} {a : Addr} {xs : List V} (e : Same H H') (h : SqL K H a xs) : SqL K H' a xs := e.seq h
theorem SqT.same {K : PySem.W.Frag} {H H' : Hp} {a : Addr} {xs : List V} (e : Same H H') (h : SqT K H a xs) : SqT K H' a xs := by
  rcases h with (h | ⟨o, h⟩) | h
  · exact .inl (.inl (e _ _ h))
  · exact .inl (.inr ⟨o, e _ _ h⟩)
  · exact .inr h
mutual
theorem Dp.same {K : PySem.W.Frag} {H H' : Hp} (e : Same H H') : ∀ (d : PyData) {v : V}, Dp K H v d → Dp K H' v d
  | .none, _, .non => .non
  | .bool b, _, .bl _ => .bl b
  | .int i, _, .int _ => .int i
  | .str x, _, .str _ => .str x
  | .list ds, _, .lst h a => .lst (SqL.same e h) (DpAll.same e ds a)
  | .tuple ds, _, .tup h a => .tup (SqT.same e h) (DpAll.same e ds a)
  | .dict kvs, _, h => nomatch h
theorem DpAll.same {K : PySem.W.Frag} {H H' : Hp} (e : Same H H') : ∀ (ds : List PyData) {vs : List V}, DpAll K H vs ds → DpAll K H' vs ds
  | [], _, .nil => .nil
  | d :: ds, _, .cons a b => .cons (Dp.same e d a) (DpAll.same e ds b)
end
theorem DpAll.len {K : PySem.W.Frag} {H : Hp} : ∀ {ds : List PyData} {vs : List V}, DpAll K H vs ds → vs.length = ds.length
  | [], _, .nil => rfl
  | d :: ds, _, .cons a b => congrArg Nat.succ (DpAll.len b)
theorem DpAll.at {K : PySem.W.Frag} {H : Hp} : ∀ {ds : List PyData} {vs : List V} {i : Nat} {v : V}, DpAll K H vs ds → vs[i]? = some v → ∃ d, ds[i]? = some d ∧ Dp K H v d
  | [], _, i, v, .nil, e => by simp at e
  | d :: ds, _, 0, v, .cons a b, e => by simp at e; subst e; exact ⟨d, rfl, a⟩
  | d :: ds, _, i + 1, v, .cons a b, e => by
    obtain ⟨d', h1, h2⟩ := DpAll.at (i := i) (v := v) b (by simpa using e)
    exact ⟨d', by simpa using h1, h2⟩
theorem tyL {K : PySem.W.Frag} {H : Hp} {a : Addr} {xs : List V} (h : SqL K H a xs) : TyX K H (.ref a) (.type "list") := by
  rcases h with (h | ⟨o, h⟩) | ⟨o, its, n, h, c, _⟩
  · exact .base (.lst h)
  · exact .base (.frz h)
  · exact .kList h c
theorem tyT {K : PySem.W.Frag} {H : Hp} {a : Addr} {xs : List V} (h : SqT K H a xs) : TyX K H (.ref a) (.type "tuple") := by
  rcases h with (h | ⟨o, h⟩) | ⟨o, its, n, h, c, _⟩
  · exact .base (.tup h)
  · exact .fTuple h
  · exact .kTuple h c
theorem dp_ty {K : PySem.W.Frag} {H : Hp} {d : PyData} {v : V} (h : Dp K H v d) : TyX K H v (.type (tyD d)) := by
  cases h with
  | non => exact .base .non
  | bl b => exact .base (.bl b)
  | int i => exact .base (.int i)
  | str x => exact .base (.str x)
  | lst h a => exact tyL h
  | tup h a => exact tyT h
def isaB (a b : String) : Bool := a == b || (a == "bool" && b == "int")
theorem kit_all : (["NoneType", "bool", "int", "str", "list", "tuple", "dict"] : List String).all (fun a => (["bool", "int", "str", "list", "tuple", "dict"] : List String).all fun b => decide (kitB a b = some (isaB a b))) = true := by decide +kernel
theorem tyD_mem (d : PyData) : tyD d ∈ (["NoneType", "bool", "int", "str", "list", "tuple", "dict"] : List String) := by cases d <;> simp [tyD]
theorem kitD {K : PySem.W.Frag} (d : PyData) {b : String} (hb : b ∈ (["bool", "int", "str", "list", "tuple", "dict"] : List String)) : PySem.W.kitOne K (.type (tyD d)) (.type b) = some (isaB (tyD d) b) :=
  kit_ty (of_decide_eq_true (List.all_eq_true.mp (List.all_eq_true.mp kit_all _ (tyD_mem d)) _ hb))
def isIntD : PyData → Bool
  | .int _ => true
  | _ => false
def az : Str := "abcdefghijklmnopqrstuvwxyz"
def isLet (c : Nat) : Bool := decide (c ∈ az.cps.toList)
def isNameS (x : Str) : Bool := decide (1 ≤ (x.length : Int)) && (decide ((x.length : Int) ≤ 8) && x.cps.toList.all isLet)
def isNameD : PyData → Bool
  | .str x => isNameS x
  | _ => false
/-! ### comprehensions whose items are told beforehand -/
def Cv (H1 : Hp) (D : Addr) (out : Nat → List V) (i : Nat) (H : Hp) : Prop := Same H1 H ∧ H D = some (.lst (out i))
theorem cv0 {H1 : Hp} {D : Addr} {out : Nat → List V} (hD : H1 D = none) (h0 : out 0 = []) : Cv H1 D out 0 (upd H1 D (.lst [])) :=
  ⟨fun b o e => by rw [upd_ne (ne_of_none e hD)]; exact e, by rw [upd_same, h0]⟩
theorem cv_yes {H1 H4 : Hp} {D : Addr} {out : Nat → List V} {i : Nat} {y : V} (hD : H1 D = none) (s : Same H1 H4) (h : H4 D = some (.lst (out i))) (hl : (out i).length ≤ 100000) (e : out (i + 1) = out i ++ [y]) :
    ∃ acc, H4 D = some (.lst acc) ∧ acc.length < sizeLine ∧ Cv H1 D out (i + 1) (upd H4 D (.lst (acc ++ [y]))) :=
  ⟨out i, h, Nat.lt_of_le_of_lt hl (by decide), fun b o q => by rw [upd_ne (ne_of_none q hD)]; exact s b o q, by rw [upd_same, e]⟩
theorem cv_no {H1 H4 : Hp} {D : Addr} {out : Nat → List V} {i : Nat} (s : Same H1 H4) (h : H4 D = some (.lst (out i))) (e : out (i + 1) = out i) : Cv H1 D out (i + 1) H4 := ⟨s, by rw [e]; exact h⟩
theorem snoc_at {α β : Type} (f : α → β) {l : List α} {i : Nat} {x : α} (h : l[i]? = some x) : (l.take (i + 1)).map f = (l.take i).map f ++ [f x] := by
  rw [List.take_add_one, h, List.map_append]
  rfl
theorem same_new {H H' : Hp} {p : Addr} {o : HO} (s : Same H H') (h : H' p = none) : Same H (upd H' p o) := fun b u e => by
  rw [upd_ne (ne_of_none (s b u e) h)]
  exact s b u e
theorem same_mut {H H' : Hp} {p : Addr} {o : HO} (s : Same H H') (h : H p = none) : Same H (upd H' p o) := fun b u e => by
  rw [upd_ne (ne_of_none e h)]
  exact s b u e
theorem lc_yes {σ : L2.St} {H : Hp} {A B : Hp → Prop} (h : A H) : tYes σ H (fun b H3 => if b = true then A H3 else B H3) := by
  show if true = true then A H else B H
  exact iteT h
end HP

namespace HP
open PySem PySem.Spec PyProof.Rows L2
/-! ### raising the program's own errors -/
def veB : List Value := [.type "ValueError", .type "Exception", .type "BaseException", .type "object"]
/-- an error class without an __init__ of its own -/
structure Exc0 (K : PySem.W.Frag) (mg : Str → Option Value) (x : Str) (C : Addr) : Prop where
  gC : mg x = some (.ref C)
  ex : PySem.W.excIn K C veB "ValueError.__new__" = true
  kC : PySem.W.keepIn K (.ref C) = true
  sub : PySem.W.subIn K (.ref C) (.type "BaseException") = some true
  ty : PySem.W.typeIn K (.ref C) = some (.type "type")
/-- an error class whose __init__ stores one field -/
structure Exc1 (P : Program) (w : World) (K : PySem.W.Frag) (mg : Str → Option Value) (base : Heap) (x : Str) (C : Addr) (f : Str) (sp : Sp) : Prop where
  gC : mg x = some (.ref C)
  oc : OexC K C
  fn : ∃ (fI : Addr) (fd : FuncData) (ps : List Str), PySem.W.findIn K (.ref C) "__init__" = some (some (.ref fI)) ∧ PySem.W.typeIn K (.ref fI) = some (.type "function") ∧ Binds K fd ps [] ∧ FnOk P w K mg base CX0 1 fI fd ps sp
def spInit1 (C : Addr) (f : Str) : Sp := fun vs H Q _ => ∃ (a : Addr) (y : V), vs = [.ref a, y] ∧ H a = some (exo a C none) ∧ ∀ dx, H dx = none → dx ≠ a → Q .non (upd (upd H dx (exd dx [(f, y)])) a (exo a C (some dx)))
section
variable {X : Cx} {C : Addr} {x f : Str} {e : Expr} {te : TE} {W : WX} {p pos pos2 : Pos}
/-- x() -/
theorem pmk0 (T : Exc0 X.K X.mg x C) (hg : Gl X x := by rfl) (hdb : (x == ("__debug__" : Str)) = false := by decide) : PMk X (.Call (.Name x p) [] [] pos) (fun _ H Q => Q (.ref C) none H) := by
  intro pins s σ H Q I h
  refine wpAny_Call_Name_kw (ld_glob I hg T.gC ?_ hdb)
  refine PySem.W.callWith_K0 I.kIn T.kC ?_
  show wpAny _ _ (call (.ref C) []) _ _ _
  obtain ⟨bm, N, nm, qn, bs, hdct, sn, sub, ab, col, dd, k0, k1, k2, k3, k5, mN, hC, hN, hni, T2⟩ := exc_obj I.kIn T.ex
  refine wpAny_call_exc_subT PySem.F.excBase_ValueError T2 hC hN hni (fun h' e hm => ?_) (by show 0 ≤ sizeLine; exact Nat.zero_le _)
  exact mk_of I hm (raises_own T.sub T.ty) h (I.hok.gone hm.new)
/-- raise x() -/
def tRaise0 (C : Addr) (W : WX) : TS := fun _ σ H => W (.ref C) none σ H
theorem ps_raise0 (T : Exc0 X.K X.mg x C) (hc : X.calm = true) (tk : Takes X W) (hg : Gl X x := by rfl) (hdb : (x == ("__debug__" : Str)) = false := by decide) :
    PS X (.Raise (some (.Call (.Name x p) [] [] pos)) none pos2) (tRaise0 C W) := ps_raise hc tk (pmk0 T hg hdb)
/-- raise x(e) -/
def tRaise1 (C : Addr) (f : Str) (W : WX) (te : TE) : TS := fun _ σ H => te σ H fun v H1 => ∀ d, H1 d = none → W (.ref C) (some d) σ (upd H1 d (.xd [(f, v)]))
theorem ps_raise1 {n : Nat} (T : Exc1 X.prog X.w X.K X.mg X.base x C f (spInit1 C f)) (hc : X.calm = true) (hr : Room n X.A) (hn : 2 ≤ n) (tk : Takes X W) (he : PE X e te) (mono : ∀ σ H (A B : VK), (∀ v H, A v H → B v H) → te σ H A → te σ H B) (hg : Gl X x := by rfl) (hdb : (x == ("__debug__" : Str)) = false := by decide)
    (hs : starEach [e] X.env = (false, eval e X.env) :: starEach [] X.env := by rfl) (hpl : (backTo pos (starEach [] X.env)).any (·.1) = false := by rfl) :
    PS X (.Raise (some (.Call (.Name x p) [e] [] pos)) none pos2) (tRaise1 C f W te) := by
  obtain ⟨fI, fd, ps, iC, tI, hb, F1⟩ := T.fn
  have hE := ps_raise (pos := pos2) hc tk (pmk_oex (pos := pos) (p := p) T.oc iC tI F1 (hr.mono hn) hb .nil (fun _ _ _ _ _ _ _ h => h.elim) hg T.gC (pa_cons he pa_nil hs) hdb hs hpl)
  refine ⟨fun pins s σ H D I h => hE.run pins s σ H D I ?_⟩
  refine mono σ H _ _ (fun v H1 q => ?_) h
  refine ⟨by show 1 ≤ 1000; decide, fun a ha => ⟨a, v, rfl, upd_same, fun dx hdx nda => ⟨rfl, dx, [(f, v)], upd_same, ?_, ?_, ?_⟩⟩⟩
  · rw [upd_ne nda, upd_same]
  · rw [upd_ne nda] at hdx
    exact hdx
  · rw [upd_ne nda] at hdx
    have e : upd (del (upd (upd (upd H1 a (exo a C none)) dx (exd dx [(f, v)])) a (exo a C (some dx))) a) dx (.xd [(f, v)]) = upd H1 dx (.xd [(f, v)]) := by
      funext b
      by_cases h1 : b = dx
      · subst h1; rw [upd_same, upd_same]
      · rw [upd_ne h1, upd_ne h1]
        by_cases h2 : b = a
        · subst h2; rw [del_same]; exact ha.symm
        · rw [del_ne h2, upd_ne h2, upd_ne h1, upd_ne h2]
    rw [e]
    exact q dx hdx
end
end HP

namespace HP
open PySem PySem.Spec PyProof.Rows L2
/-! ### facts of the written part, as Bools -/
def ea (a b : Option (Option Value)) : Bool := decide (a = b)
def excB (K : PySem.W.Frag) (x : Str) : Bool := PySem.W.excIn K (He.ga K x) veB "ValueError.__new__" && (PySem.W.keepIn K (.ref (He.ga K x)) && (decide (PySem.W.subIn K (.ref (He.ga K x)) (.type "BaseException") = some true) && (decide (PySem.W.typeIn K (.ref (He.ga K x)) = some (.type "type")) &&
  ea (PySem.W.nsIn K mainGlobals x) (some (some (.ref (He.ga K x)))))))
def clsB (K : PySem.W.Frag) (C : Addr) : Bool := match K.lookup C with
  | some ⟨.type "type", _, .cls cd, sl⟩ => (match cd.mro, sl.toList with
    | .ref C' :: bm, [_, _, _, _, some (.builtin n), _] => C' == C && n == "ValueError.__new__" && !cd.hasDel && cd.hasDict && PySem.HandSPX.refsVE bm
    | _, _ => false)
  | _ => false
def oexB (K : PySem.W.Frag) (C : Addr) : Bool := clsB K C && (ea (PySem.W.findIn K (.ref C) "__setattr__") (some (some (.builtin "object.__setattr__"))) && (decide (PySem.W.subIn K (.ref C) (.type "BaseException") = some true) && (decide (PySem.W.typeIn K (.ref C) = some (.type "type")) && PySem.W.keepIn K (.ref C))))
/-- an error class x with the field f, its __init__ by the text -/
def exc1B (K : PySem.W.Frag) (x f : Str) : Bool := oexB K (He.ga K x) && (ea (PySem.W.nsIn K mainGlobals x) (some (some (.ref (He.ga K x)))) && (ea (PySem.W.findIn K (.ref (He.ga K x)) "__init__") (some (some (.ref (He.ma K (He.ga K x) "__init__")))) &&
  (decide (PySem.W.typeIn K (.ref (He.ma K (He.ga K x) "__init__")) = some (.type "function")) && (ea (PySem.W.findIn K (.ref (He.ga K x)) f) (some none) && xfB K (He.ga K x)))))
end HP

namespace HP
open PySem PySem.Spec PyProof.Rows L2
/-! ### what the Bools of the written part say -/
section
variable {K : PySem.W.Frag} {h : Heap} {mg : Str → Option Value} {P : Program} {w : World} {base : Heap}
theorem ea_ok {a b : Option (Option Value)} (h : ea a b = true) : a = b := of_decide_eq_true h
theorem excB_ok (X : K.In h) (G : h.Ns mainGlobals mg) {x : Str} (c : excB K x = true) : Exc0 K mg x (He.ga K x) := by
  obtain ⟨c1, c⟩ := He.ba c
  obtain ⟨c2, c⟩ := He.ba c
  obtain ⟨c3, c⟩ := He.ba c
  obtain ⟨c4, c5⟩ := He.ba c
  exact ⟨PySem.W.mg_of X G (ea_ok c5), c1, c2, of_decide_eq_true c3, of_decide_eq_true c4⟩
theorem clsB_ok {C : Addr} (c : clsB K C = true) : ∃ nm q N bs bm sn sub ab col dd k0 k1 k2 k3 k5, K.lookup C = some (excClassObj nm q C N bs bm true sn sub ab col dd k0 k1 k2 k3 k5 "ValueError.__new__") ∧ PySem.HandSPX.refsVE bm = true := by
  unfold clsB at c
  split at c
  · rename_i o dd cd sl q
    split at c
    · rename_i C2 bm k0 k1 k2 k3 n k5 e1 e2
      obtain ⟨c, c5⟩ := He.ba c
      obtain ⟨c, c4⟩ := He.ba c
      obtain ⟨c, c3⟩ := He.ba c
      obtain ⟨c1, c2⟩ := He.ba c
      have z1 : C2 = C := beq_iff_eq.mp c1
      have z2 : n = "ValueError.__new__" := beq_iff_eq.mp c2
      subst z1 z2
      obtain ⟨nm, bs, mro, ns, qn, hd, sn, sub, ab, col, hdl⟩ := cd
      dsimp only at e1 c3 c4
      subst e1
      have z3 : hdl = false := by cases hdl <;> first | rfl | cases c3
      subst z3
      have z4 : hd = true := c4
      subst z4
      have z5 : sl = #[k0, k1, k2, k3, some (.builtin "ValueError.__new__"), k5] := by
        rw [← e2]
      subst z5
      exact ⟨nm, qn, ns, bs, bm, sn, sub, ab, col, dd, k0, k1, k2, k3, k5, q, c5⟩
    · cases c
  · cases c
theorem oexB_ok {C : Addr} (c : oexB K C = true) : OexC K C := by
  obtain ⟨c1, c⟩ := He.ba c
  obtain ⟨c2, c⟩ := He.ba c
  obtain ⟨c3, c⟩ := He.ba c
  obtain ⟨c4, c5⟩ := He.ba c
  exact ⟨clsB_ok c1, ea_ok c2, of_decide_eq_true c3, of_decide_eq_true c4, c5⟩
structure Ex1 (K : PySem.W.Frag) (mg : Str → Option Value) (x f : Str) : Prop where
  oc : OexC K (He.ga K x)
  gl : mg x = some (.ref (He.ga K x))
  ini : PySem.W.findIn K (.ref (He.ga K x)) "__init__" = some (some (.ref (He.ma K (He.ga K x) "__init__")))
  ty : PySem.W.typeIn K (.ref (He.ma K (He.ga K x) "__init__")) = some (.type "function")
  no : PySem.W.findIn K (.ref (He.ga K x)) f = some none
  xf : XfC K (He.ga K x)
theorem exc1B_ok (X : K.In h) (G : h.Ns mainGlobals mg) {x f : Str} (c : exc1B K x f = true) : Ex1 K mg x f := by
  obtain ⟨c1, c⟩ := He.ba c
  obtain ⟨c2, c⟩ := He.ba c
  obtain ⟨c3, c⟩ := He.ba c
  obtain ⟨c4, c⟩ := He.ba c
  obtain ⟨c5, c6⟩ := He.ba c
  exact ⟨oexB_ok c1, PySem.W.mg_of X G (ea_ok c2), ea_ok c3, of_decide_eq_true c4, ea_ok c5, xfB_ok c6⟩
end
end HP

namespace HP
open PySem PySem.Spec PyProof.Rows L2
/-! ### d.update(e) -/
def rUpd : V → List V → Hp → VK → Prop := fun x xs H Q => ∃ (a b : Addr) (kvs more : List (Key × V)), x = .ref a ∧ xs = [.ref b] ∧ H a = some (.dK kvs) ∧ H b = some (.dK more) ∧ a ≠ b ∧ kvs.length + more.length ≤ 1000 ∧ Q .non (upd H a (.dK (mergeK kvs more)))
theorem mergeK_len : ∀ (more kvs : List (Key × V)), (mergeK kvs more).length ≤ kvs.length + more.length
  | [], kvs => Nat.le_refl _
  | kv :: more, kvs => by
    have h1 := mergeK_len more (putK kvs kv.1 kv.2)
    have h2 := length_putK kvs kv.1 kv.2
    have e : mergeK kvs (kv :: more) = mergeK (putK kvs kv.1 kv.2) more := rfl
    rw [e, List.length_cons]
    omega
theorem mt_update {X : Cx} : MtR X "dict.update" rUpd := by
  intro pins s σ H x xs v us Q I rx rxs h
  obtain ⟨a, b, kvs, more, rfl, rfl, ha, hb, nab, hz, q⟩ := h
  cases rx
  cases rxs with
  | cons r1 r2 =>
    cases r2
    cases r1
    obtain ⟨z1, hd1, vs1, k1, dd1⟩ := dk_of I.hok ha
    obtain ⟨z2, hd2, vs2, k2, dd2⟩ := dk_of I.hok hb
    have l1 : kvs.length = vs1.length := Paired.length k1
    have l2 : more.length = vs2.length := Paired.length k2
    have hsl := sizeLine_eq
    refine call_meetsIn PySem.F.slot_dict_update dd1.typeIs PySem.F.entry_dict_update (PySem.F.args_dict_update_2 _ _) (meets_dict_update (mixKind X.prog X.w) a b nab hd2) ⟨vs1, vs2, dd1, dd2, by omega, fun h' dd' _ hs => ?_⟩
    have he : ∃ q, h'.get? a = some q := let ⟨q, _, _, hq, _⟩ := dd'; ⟨q, hq⟩
    have hm := mergeK_len more kvs
    exact ⟨.non, _, d_write (t' := s.toks) I (by rw [ha]; exact True.intro) hs he (dk_new (by omega) hd1 (KV.merge k2 k1) dd'), rfl, q⟩
/-! ### draws out of a written list -/
theorem Keep.refl (p l : Addr) (H : Hp) : Keep p l H H := fun _ _ e _ _ => e
theorem Keep.trans {p l : Addr} {H H1 H2 : Hp} (a : Keep p l H H1) (b : Keep p l H1 H2) : Keep p l H H2 := fun c o e h1 h2 => b c o (a c o e h1 h2) h1 h2
theorem Keep.of {p l : Addr} {H H1 : Hp} (a : Same H H1) : Keep p l H H1 := fun c o e _ _ => a c o e
theorem Src.same {H H1 : Hp} {p l : Addr} (S : Src H p l) (a : Same H H1) : Src H1 p l := by
  obtain ⟨st, i, ns, h1, h2, h3⟩ := S.ex
  exact ⟨st, i, ns, a _ _ h1, a _ _ h2, h3⟩
theorem Src.pl {H : Hp} {p l : Addr} (S : Src H p l) : ∃ xs, H p = some (.lst xs) := let ⟨_, _, _, h, _⟩ := S.ex; ⟨_, h⟩
theorem Src.ll {H : Hp} {p l : Addr} (S : Src H p l) : ∃ xs, H l = some (.lst xs) := let ⟨_, _, _, _, h, _⟩ := S.ex; ⟨_, h⟩
theorem Src.nep {H : Hp} {p l a : Addr} (S : Src H p l) (h : H a = none) : a ≠ p := let ⟨_, e⟩ := S.pl; (ne_of_none e h).symm
theorem Src.nel {H : Hp} {p l a : Addr} (S : Src H p l) (h : H a = none) : a ≠ l := let ⟨_, e⟩ := S.ll; (ne_of_none e h).symm
/-- a new thing -/
theorem Src.new {H : Hp} {p l a : Addr} {o : HO} (S : Src H p l) (h : H a = none) : Src (upd H a o) p l := S.same (same_new (Same.refl H) h)
/-- a thing that is not the source changes -/
theorem Src.put {H : Hp} {p l a : Addr} {o : HO} (S : Src H p l) (h1 : a ≠ p) (h2 : a ≠ l) : Src (upd H a o) p l := by
  obtain ⟨st, i, ns, e1, e2, e3⟩ := S.ex
  exact ⟨st, i, ns, by rw [upd_ne h1.symm]; exact e1, by rw [upd_ne h2.symm]; exact e2, e3⟩
theorem Keep.new {H H1 : Hp} {p l a : Addr} {o : HO} (k : Keep p l H H1) (h : H a = none) : Keep p l H (upd H1 a o) := fun c u e h1 h2 => by
  rw [upd_ne (ne_of_none e h)]
  exact k c u e h1 h2
theorem Keep.free {H H1 : Hp} {p l a : Addr} (k : Keep p l H H1) (h : H1 a = none) (h1 : a ≠ p) (h2 : a ≠ l) : H a = none := by
  cases q : H a with
  | none => rfl
  | some o =>
    rw [k a o q h1 h2] at h
    cases h
theorem drawL {K : PySem.W.Frag} {tl : TE} {σ : L2.St} {H : Hp} {Q : VK} {p l : Addr} {i : Nat} {vs : List V} {n : Int} (hl : ∀ Q' : VK, (∀ q, H q = none → Q' (.ref q) (upd H q (.lst vs))) → tl σ H Q') (hσ : σ[i]? = some (some (.ref p))) (S : Src H p l) (hn : n = (vs.length : Int)) (h0 : 0 < vs.length) (hb : vs.length < 1000)
    (k : ∀ H' z, z ∈ vs → Src H' p l → Keep p l H H' → Q z H') : tOp (rIxL K) tl (tCall spNext [] E0 (tCons (tVar i) (tCons (tC (.int n)) tNil))) σ H Q := by
  refine hl _ fun q hq => ?_
  refine ⟨_, hσ, p, l, n, rfl, S.new hq, by omega, by omega, fun H' r h1 h2 S' K' => ?_⟩
  have hq' : H' q = some (.lst vs) := K' q _ upd_same (S.nep hq) (S.nel hq)
  obtain ⟨m, rfl⟩ : ∃ m : Nat, r = (m : Int) := ⟨r.toNat, by omega⟩
  have hr : m < vs.length := by omega
  exact ⟨q, vs, _, vs[m], rfl, rfl, SqL.of hq', atI_nat (List.getElem?_eq_getElem hr), k H' _ (List.getElem_mem hr) S' (Keep.trans (Keep.of (same_new (Same.refl H) hq)) K')⟩
/-- one of two texts -/
theorem draw2 {K : PySem.W.Frag} {σ : L2.St} {H : Hp} {Q : VK} {p l : Addr} {i : Nat} {x y : Str} (hσ : σ[i]? = some (some (.ref p))) (S : Src H p l)
    (k : ∀ H' z, z ∈ [x, y] → Src H' p l → Keep p l H H' → Q (.str z) H') : tOp (rIxL K) (tLst (tCons (tC (.str x)) (tCons (tC (.str y)) tNil))) (tCall spNext [] E0 (tCons (tVar i) (tCons (tC (.int 2)) tNil))) σ H Q := by
  refine drawL (vs := [.str x, .str y]) (fun Q' h => ⟨by show 2 ≤ sizeLine; decide, fun q hq => h q hq⟩) hσ S rfl (by show 0 < 2; decide) (by show 2 < 1000; decide) fun H' z hz S' K' => ?_
  rcases List.mem_cons.mp hz with rfl | hz
  · exact k H' x List.mem_cons_self S' K'
  · rw [List.mem_singleton.mp hz]
    exact k H' y (List.mem_cons_of_mem _ List.mem_cons_self) S' K'
end HP

namespace HP
open PySem PySem.Spec PyProof.Rows L2
/-! ### parts of the heap -/
def cut (p l a : Addr) (H : Hp) : Hp := fun b => if b = p ∨ b = l ∨ b = a then none else H b
theorem cut_at {p l a b : Addr} {H : Hp} {o : HO} (h1 : b ≠ p) (h2 : b ≠ l) (h3 : b ≠ a) (e : H b = some o) : cut p l a H b = some o := by
  unfold cut
  rw [if_neg (by rintro (h | h | h) <;> contradiction)]
  exact e
theorem cut_inv {p l a b : Addr} {H : Hp} {o : HO} (e : cut p l a H b = some o) : b ≠ p ∧ b ≠ l ∧ b ≠ a ∧ H b = some o := by
  unfold cut at e
  by_cases h : b = p ∨ b = l ∨ b = a
  · rw [if_pos h] at e
    cases e
  · rw [if_neg h] at e
    exact ⟨fun z => h (.inl z), fun z => h (.inr (.inl z)), fun z => h (.inr (.inr z)), e⟩
theorem cut_same {p l a : Addr} {H : Hp} : Same (cut p l a H) H := fun _ _ e => (cut_inv e).2.2.2
theorem cut_keep {p l a : Addr} {H H' : Hp} (k : Keep p l H H') : Same (cut p l a H) (cut p l a H') := fun b o e => by
  obtain ⟨h1, h2, h3, h4⟩ := cut_inv e
  exact cut_at h1 h2 h3 (k b o h4 h1 h2)
theorem cut_put {p l a : Addr} {H : Hp} {o : HO} : cut p l a (upd H a o) = cut p l a H := by
  funext b
  unfold cut
  by_cases h : b = p ∨ b = l ∨ b = a
  · rw [if_pos h, if_pos h]
  · rw [if_neg h, if_neg h, upd_ne fun z => h (.inr (.inr z))]
/-- what is new since H -/
def newer (H H' : Hp) : Hp := fun b => match H b with
  | none => H' b
  | some _ => none
theorem newer_at {H H' : Hp} {b : Addr} {o : HO} (h : H b = none) (e : H' b = some o) : newer H H' b = some o := by
  unfold newer
  rw [h]
  exact e
theorem newer_inv {H H' : Hp} {b : Addr} {o : HO} (e : newer H H' b = some o) : H b = none ∧ H' b = some o := by
  unfold newer at e
  cases h : H b with
  | none => rw [h] at e; exact ⟨rfl, e⟩
  | some _ => rw [h] at e; cases e
theorem newer_right {H H1 H2 : Hp} (s : Same H1 H2) : Same (newer H H1) (newer H H2) := fun b o e => newer_at (newer_inv e).1 (s _ _ (newer_inv e).2)
theorem newer_left {H H1 H2 : Hp} (s : Same H H1) : Same (newer H1 H2) (newer H H2) := fun b o e => newer_at (s.free (newer_inv e).1) (newer_inv e).2
abbrev Mono (Pr : Hp → V → Prop) : Prop := ∀ H H' v, Same H H' → Pr H v → Pr H' v
def Lays (Pr : Hp → V → Prop) (t : TE) : Prop := ∀ (σ : L2.St) (H : Hp) (Q : VK), (∀ H' v, Same H H' → Pr (newer H H') v → Q v H') → t σ H Q
def LaysA (Pr : Hp → V → Prop) (t : TA) (n : Nat) : Prop := ∀ (σ : L2.St) (H : Hp) (Q : List V → Hp → Prop), (∀ H' vs, Same H H' → vs.length = n → (∀ v ∈ vs, Pr (newer H H') v) → Q vs H') → t σ H Q
theorem la_nil {Pr : Hp → V → Prop} : LaysA Pr tNil 0 := fun σ H Q k => k H [] (Same.refl H) rfl fun _ h => by cases h
theorem la_cons {Pr : Hp → V → Prop} {t : TE} {u : TA} {n : Nat} (m : Mono Pr) (h : Lays Pr t) (r : LaysA Pr u n) : LaysA Pr (tCons t u) (n + 1) := fun σ H Q k => by
  refine h σ H _ fun H1 v s1 p1 => ?_
  refine r σ H1 _ fun H2 vs s2 l2 p2 => ?_
  refine k H2 (v :: vs) (s1.trans s2) (by rw [List.length_cons, l2]) fun x hx => ?_
  rcases List.mem_cons.mp hx with rfl | hx
  · exact m _ _ _ (newer_right s2) p1
  · exact m _ _ _ (newer_left s1) (p2 x hx)
section
variable {K : PySem.W.Frag}
def LayD (K : PySem.W.Frag) (t : TE) (d : PyData) : Prop := Lays (fun H v => Dp K H v d) t
def LayDs (K : PySem.W.Frag) (t : TA) (ds : List PyData) : Prop := ∀ (σ : L2.St) (H : Hp) (Q : List V → Hp → Prop), (∀ H' vs, Same H H' → DpAll K (newer H H') vs ds → Q vs H') → t σ H Q
theorem ld_non : LayD K (tC .non) .none := fun _ H _ k => k H _ (Same.refl H) .non
theorem ld_bl {b : Bool} : LayD K (tC (.bl b)) (.bool b) := fun _ H _ k => k H _ (Same.refl H) (.bl b)
theorem ld_int {i : Int} : LayD K (tC (.int i)) (.int i) := fun _ H _ k => k H _ (Same.refl H) (.int i)
theorem ld_str {x : Str} : LayD K (tC (.str x)) (.str x) := fun _ H _ k => k H _ (Same.refl H) (.str x)
theorem lds_nil : LayDs K tNil [] := fun _ H _ k => k H _ (Same.refl H) .nil
theorem lds_cons {t : TE} {u : TA} {d : PyData} {ds : List PyData} (h : LayD K t d) (r : LayDs K u ds) : LayDs K (tCons t u) (d :: ds) := fun σ H Q k => by
  refine h σ H _ fun H1 v s1 p1 => ?_
  refine r σ H1 _ fun H2 vs s2 p2 => ?_
  exact k H2 (v :: vs) (s1.trans s2) (.cons (Dp.same (newer_right s2) _ p1) (DpAll.same (newer_left s1) _ p2))
theorem ld_tup {t : TA} {ds : List PyData} (h : LayDs K t ds) (hl : ds.length ≤ sizeLine) : LayD K (tTup t) (.tuple ds) := fun σ H Q k => by
  refine h σ H _ fun H1 vs s1 p1 => ⟨by rw [DpAll.len p1]; exact hl, fun q hq => ?_⟩
  exact k _ _ (same_new s1 hq) (.tup (SqT.of (newer_at (s1.free hq) upd_same)) (DpAll.same (newer_right (same_new (Same.refl H1) hq)) _ p1))
theorem ld_lst {t : TA} {ds : List PyData} (h : LayDs K t ds) (hl : ds.length ≤ sizeLine) : LayD K (tLst t) (.list ds) := fun σ H Q k => by
  refine h σ H _ fun H1 vs s1 p1 => ⟨by rw [DpAll.len p1]; exact hl, fun q hq => ?_⟩
  exact k _ _ (same_new s1 hq) (.lst (SqL.of (newer_at (s1.free hq) upd_same)) (DpAll.same (newer_right (same_new (Same.refl H1) hq)) _ p1))
theorem lay_of {Pr : Hp → V → Prop} {t : TE} {d : PyData} (h : LayD K t d) (f : ∀ H v, Dp K H v d → Pr H v) : Lays Pr t := fun σ H Q k => h σ H Q fun H' v s p => k H' v s (f _ _ p)
end
/-- a new list of what Pr says, one of it drawn -/
theorem drawP {K : PySem.W.Frag} {Pr : Hp → V → Prop} (mono : Mono Pr) {ta : TA} {n : Nat} (L : LaysA Pr ta n) {σ : L2.St} {H : Hp} {Q : VK} {p l a : Addr} {i : Nat} {oa : HO} {m : Int} (hσ : σ[i]? = some (some (.ref p))) (S : Src H p l) (ha : H a = some oa) (hm : m = (n : Int)) (h0 : 0 < n) (hb : n < 1000)
    (k : ∀ H' z, Src H' p l → Keep p l H H' → Pr (cut p l a H') z → Q z H') : tOp (rIxL K) (tLst ta) (tCall spNext [] E0 (tCons (tVar i) (tCons (tC (.int m)) tNil))) σ H Q := by
  refine L σ H _ fun H1 vs s1 l1 p1 => ⟨by rw [l1]; exact Nat.le_trans (Nat.le_of_lt hb) (by decide), fun q hq => ?_⟩
  have S1 := S.same s1
  refine ⟨_, hσ, p, l, m, rfl, S1.new hq, by omega, by omega, fun H' r h1 h2 S' K' => ?_⟩
  have hq' : H' q = some (.lst vs) := K' q _ upd_same (S1.nep hq) (S1.nel hq)
  obtain ⟨j, rfl⟩ : ∃ j : Nat, r = (j : Int) := ⟨r.toNat, by omega⟩
  have hr : j < vs.length := by omega
  refine ⟨q, vs, _, vs[j], rfl, rfl, SqL.of hq', atI_nat (List.getElem?_eq_getElem hr), k H' _ S' (Keep.trans (Keep.of (same_new s1 hq)) K') ?_⟩
  refine mono _ _ _ (fun b o e => ?_) (p1 _ (List.getElem_mem hr))
  obtain ⟨e1, e2⟩ := newer_inv e
  have n1 := S.nep e1
  have n2 := S.nel e1
  have n3 : b ≠ a := (ne_of_none ha e1).symm
  have n4 : b ≠ q := ne_of_none e2 hq
  exact cut_at n1 n2 n3 (K' b o (by rw [upd_ne n4]; exact e2) n1 n2)
theorem seqL {Pr : Hp → V → Prop} {n : Nat} {ta : TA} {g : TG} {b : TS} {D : Ends} {σ : L2.St} {H : Hp} (L : LaysA Pr ta n) (hn : n < 1000) (k : ∀ H' q vs, Same H H' → vs.length = n → (∀ v ∈ vs, Pr (newer H H') v) → H' q = none → g (.ref q) σ (upd H' q (.lst vs)) (b D)) : tSeq (tAsg (tLst ta) g) b D σ H :=
  L σ H _ fun H' vs s l p => ⟨by rw [l]; exact Nat.le_trans (Nat.le_of_lt hn) (by decide), fun q hq => k H' q vs s l p hq⟩
theorem asgP {K : PySem.W.Frag} {Pr : Hp → V → Prop} (mono : Mono Pr) {ta : TA} {n : Nat} {g : TG} {D : Ends} {σ : L2.St} {H : Hp} {p l a : Addr} {i : Nat} {oa : HO} {m : Int} (hσ : σ[i]? = some (some (.ref p))) (S : Src H p l) (ha : H a = some oa) (hm : m = (n : Int)) (h0 : 0 < n) (hb : n < 1000) (L : LaysA Pr ta n)
    (k : ∀ H' z, Src H' p l → Keep p l H H' → Pr (cut p l a H') z → g z σ H' D.nx) : tAsg (tOp (rIxL K) (tLst ta) (tCall spNext [] E0 (tCons (tVar i) (tCons (tC (.int m)) tNil)))) g D σ H := drawP mono L hσ S ha hm h0 hb k
theorem seqP {K : PySem.W.Frag} {Pr : Hp → V → Prop} (mono : Mono Pr) {ta : TA} {n : Nat} {g : TG} {b : TS} {D : Ends} {σ : L2.St} {H : Hp} {p l a : Addr} {i : Nat} {oa : HO} {m : Int} (hσ : σ[i]? = some (some (.ref p))) (S : Src H p l) (ha : H a = some oa) (hm : m = (n : Int)) (h0 : 0 < n) (hb : n < 1000) (L : LaysA Pr ta n)
    (k : ∀ H' z, Src H' p l → Keep p l H H' → Pr (cut p l a H') z → g z σ H' (b D)) : tSeq (tAsg (tOp (rIxL K) (tLst ta) (tCall spNext [] E0 (tCons (tVar i) (tCons (tC (.int m)) tNil)))) g) b D σ H := drawP mono L hσ S ha hm h0 hb k
theorem dputP {K : PySem.W.Frag} {Pr : Hp → V → Prop} (mono : Mono Pr) {ta : TA} {n : Nat} {td ty : TE} {D : Ends} {σ : L2.St} {H : Hp} {p l a : Addr} {i : Nat} {oa : HO} {m : Int} (hσ : σ[i]? = some (some (.ref p))) (S : Src H p l) (ha : H a = some oa) (hm : m = (n : Int)) (h0 : 0 < n) (hb : n < 1000) (L : LaysA Pr ta n)
    (k : ∀ H' z, Src H' p l → Keep p l H H' → Pr (cut p l a H') z → td σ H' fun x H2 => ty σ H2 fun y H3 => ∃ a H4, x = .ref a ∧ DPut H3 a y z H4 ∧ D.nx σ H4) : sDPut td ty (tOp (rIxL K) (tLst ta) (tCall spNext [] E0 (tCons (tVar i) (tCons (tC (.int m)) tNil)))) D σ H := drawP mono L hσ S ha hm h0 hb k
end HP

namespace HP
open PySem PySem.Spec PyProof.Rows L2 L2H
/-! ### defs that are handed the caught exception p -/
structure FnQ (P : Program) (w : World) (K : PySem.W.Frag) (mg : Str → Option Value) (base : Heap) (k : Nat) (f : Addr) (fd : FuncData) (ps : List Str) (sp : Addr × Obj → Sp) : Prop where
  len : ∀ p vs H Q E, sp p vs H Q E → vs.length = ps.length
  run : ∀ (A : Around) (outer : List Env) (s : Shared) (H : Hp) (args : Args) (us : List Value) (vs : List V) (Q : VK) (E : XK) (p : Addr × Obj), RoomH k A → PinOk outer H s p → Env0 P w K mg base A outer s H → BindsTo s fd args (ps.zip us) → Vals vs us → sp p vs H Q E →
    codeAny (model P w) A (.call (.ref f) args) (CR CX0 outer P w H s Q E) s
section
variable {P : Program} {w : World} {K : PySem.W.Frag} {mg : Str → Option Value} {base : Heap}
theorem fnQ_of {k : Nat} {f : Addr} {fd : FuncData} {x : Str} {st : Stmt} {N ps : List Str} {sp : Addr × Obj → Sp} (F : FunD K x x (defArgs st) (defBody st) (defScope st) [] [] f fd) (S : FnScope N ps (defScope st)) (len : ∀ p vs H Q E, sp p vs H Q E → vs.length = ps.length)
    (body : ∀ (cdv : Value) (A : Around) (outer : List Env) (s : Shared) (H : Hp) (vs : List V) (Q : VK) (E : XK) (p : Addr × Obj), RoomH k (A.deeper (envOfC x (defScope st) s.heap.objs.size f cdv)) → sp p vs H Q E →
      ∃ t, PSs (cxH CX0 P w K mg base N x (defScope st) f cdv A outer s H E p).nox (defBody st) t ∧ t { nx := fun _ H' => Q .non H', rt := Q } (L2.start N vs) H) : FnQ P w K mg base (k + 1) f fd ps sp := by
  obtain ⟨oc, od, dV, kV, doc, pm, an, cdv, ct, osl, rfl, lk, hcd, _, _⟩ := F.ex
  refine ⟨len, fun A outer s H args us vs Q E p hr pin e0 hb r hsp => ?_⟩
  have kin : K.In s.heap := e0.mod.kin.keeps fun b o e => (e0.bs b o e).1
  have nolim : s.heap.NoLimit := e0.mod.nolimit.keeps fun b o e => (e0.bs b o e).1
  refine codeAny_call_function hr.depth (kin _ _ lk) rfl S.co S.gen rfl (PySem.W.codeRec_of kin hcd) (hb _ _ _ _ (wpAny_newFunctionEnv_cells S.kind (fun y hy => ?_) fun env he s1 xx => ?_))
  · rcases S.par y.1 (List.of_mem_zip hy).1 with q | q
    · exact .inl q
    · exact .inr ⟨q, PySem.W.cellsFrom_some _ _ _ (.inl q)⟩
  subst he
  refine ⟨nolim.keeps xx.toInCall.keep, codeAny_func ?_⟩
  obtain ⟨t, h1, h2⟩ := body cdv A outer s H vs Q E p (hr.deeper _) hsp
  have J : Inv (cxH CX0 P w K mg base N x (defScope st) f cdv A outer s H E p) [] (L2.start N vs) H s1 := inv_startH S pin e0 (len _ _ _ _ _ hsp) r xx
  refine wpAny_mono (h1.nox.run [] s1 _ H _ J h2) (fun fl s2 q => ?_) fun _ _ q => q
  cases fl
  case ret u => obtain ⟨v, σ2, H2, J2, rv, q2⟩ := q; exact ⟨v, H2, J2.os, J2.bare, J2.base, J2.hok, rv, q2⟩
  case next => obtain ⟨σ2, H2, J2, q2⟩ := q; exact ⟨.non, H2, J2.os, J2.bare, J2.base, J2.hok, rfl, q2⟩
  all_goals (obtain ⟨_, _, _, q2⟩ := q; exact q2.elim)
/-- the def x, handed the exception, keeps sp -/
def FQ (P : Program) (w : World) (K : PySem.W.Frag) (mg : Str → Option Value) (base : Heap) (k : Nat) (x : Str) (sp : Addr × Obj → Sp) : Prop :=
  ∃ (f : Addr) (fd : FuncData) (ps : List Str), mg x = some (.ref f) ∧ PySem.W.keepIn K (.ref f) = true ∧ Binds K fd ps [] ∧ FnQ P w K mg base k f fd ps sp
end
section
variable {X : Cx}
/-- x(e, ..) in a suite -/
theorem pfQ0 {k : Nat} {x : Str} {sp : Addr × Obj → Sp} {p : Addr × Obj} {e : Expr} {es : List Expr} {t : TA} {q pos : Pos} {G : List V → Hp → VK → Prop} (F : FQ X.prog X.w X.K X.mg X.base k x sp) (hr : RoomH k X.A) (hp : p ∈ X.pn) (ha : PA X (e :: es) t) (conv : ∀ vs H1 Q, G vs H1 Q → sp p vs H1 Q fun _ _ _ => False) (hg : Gl X x := by rfl) (hdb : (x == ("__debug__" : Str)) = false := by decide)
    (he : starEach (e :: es) X.env = (false, eval e X.env) :: starEach es X.env := by rfl) (hpl : (backTo pos (starEach es X.env)).any (·.1) = false := by rfl) : PE X (.Call (.Name x q) (e :: es) [] pos) (fun σ H Q => t σ H fun vs H1 => G vs H1 Q) := by
  obtain ⟨f, fd, ps, h1, h2, h3, F⟩ := F
  refine ⟨fun pins s σ H Q I h => wpAny_Call_Name_kw (ld_glob I hg h1 (PySem.W.callWith_K (h₀ := X.base) I.ok.mod.kin h2 (thn (ha.run pos pins s σ H _ I h) fun us s1 ⟨vs, H1, J, r, z⟩ => ⟨J.kIn, ?_⟩) he hpl) hdb)⟩
  have z := conv _ _ _ z
  obtain ⟨y1, y2, y3, y4, y5⟩ := J.pin p (List.mem_append_left _ hp)
  have pin : PinOk X.stack H1 s1 p := ⟨y1, y2, fun m => (List.mem_cons.mp (J.stkSub p.1 m)).elim y3 y4, y5⟩
  have bd := h3 s1 us J.kIn (by rw [List.append_nil, ← r.length]; exact F.len _ _ _ _ _ z)
  rw [List.append_nil] at bd
  refine wpAny_call (codeAny_mono (F.run X.A X.stack s1 H1 ⟨us, []⟩ us vs Q _ p hr pin J.env0 bd r z) fun rr s2 q => ?_)
  cases rr with
  | error e => exact q.elim
  | ok fl =>
    cases fl
    case ret u => exact J.after q
    all_goals exact q.elim
/-- .. whatever the exception's object is, as its class and its dict say -/
def tCallQ (a : Addr) (cls : Value) (d : Option Addr) (sp : Addr × Obj → Sp) (t : TA) : TE := fun σ H Q => t σ H fun vs H1 => ∀ oe, Zc cls d oe → (∃ vs, oe.data = .fields vs) → sp (a, oe) vs H1 Q fun _ _ _ => False
theorem pfQ {k : Nat} {x : Str} {sp : Addr × Obj → Sp} {a : Addr} {oe : Obj} {cls : Value} {d : Option Addr} {e : Expr} {es : List Expr} {t : TA} {q pos : Pos} {pn : List (Addr × Obj)} (F : FQ X.prog X.w X.K X.mg X.base k x sp) (hr : RoomH k (X.A.mark (some (.ref a)))) (hz : Zc cls d oe) (hf : ∃ vs, oe.data = .fields vs) (ha : PA (X.suite a ((a, oe) :: pn)) (e :: es) t)
    (hg : Gl X x := by rfl) (hdb : (x == ("__debug__" : Str)) = false := by decide)
    (he : starEach (e :: es) X.env = (false, eval e X.env) :: starEach es X.env := by rfl) (hpl : (backTo pos (starEach es X.env)).any (·.1) = false := by rfl) : PE (X.suite a ((a, oe) :: pn)) (.Call (.Name x q) (e :: es) [] pos) (tCallQ a cls d sp t) :=
  pfQ0 (X := X.suite a ((a, oe) :: pn)) (p := (a, oe)) (G := fun vs H1 Q => ∀ oe, Zc cls d oe → (∃ vs, oe.data = .fields vs) → sp (a, oe) vs H1 Q fun _ _ _ => False) F hr List.mem_cons_self ha (fun _ _ _ h => h oe hz hf) hg hdb he hpl
/-- isinstance(e, c), e the exception, its dict (if it has one) standing -/
def rIsQ (K : PySem.W.Frag) (p : Addr × Obj) : List V → Hp → VK → Prop := fun xs H Q => ∃ (D : Addr) (d : Option Addr) (c : V) (cv : Value) (b : Bool), xs = [.ref p.1, c] ∧ Zc (.ref D) d p.2 ∧ (∃ vs, p.2.data = .fields vs) ∧ ExcC K D ∧ (∀ u, RelV c u → u = cv) ∧ PySem.W.kitOne K (.ref D) cv = some b ∧
  (∀ dd, d = some dd → ∃ fs, H dd = some (.xd fs)) ∧ Q (.bl b) H
theorem call_isQ {p : Addr × Obj} {K : PySem.W.Frag} (hp : p ∈ X.pn) (hK : X.K = K := by rfl) : CallR X (.builtin "isinstance") (rIsQ K p) := by
  subst hK
  intro pins s σ H xs us Q I r h
  obtain ⟨D, d, c, cv, b, rfl, hz, ⟨vs, hv⟩, C, hcv, e, hd, q⟩ := h
  cases r with
  | cons rx rr =>
    cases rr with
    | @cons _ v2 _ _ rt rr =>
      cases rr
      cases rx
      have ec := hcv _ rt
      subst ec
      obtain ⟨hg, _⟩ := I.pin p (List.mem_append_left _ hp)
      obtain ⟨a, oc, od, dt, sl⟩ := p
      obtain ⟨z1, z2⟩ := hz
      dsimp only at z1 z2 hv hg
      subst z1 z2 hv
      have cl : (PySem.W.clsIn X.K D).isSome = true := by
        obtain ⟨cd, hc, _⟩ := PySem.W.any_some C.hd
        rw [hc]
        rfl
      have go : ∀ oo : Option Obj, PySem.W.InstAt s.heap a ⟨.ref D, od, .fields vs, sl⟩ D oo → wpAny (model X.prog X.w) X.A (call (.builtin "isinstance") [.ref a, v2]) (EP X pins σ Q) X.xe s := fun oo J =>
        PySem.W.kia_one (PySem.W.kitx_exc cl C.hg C.hk C.hs C.ha C.hn C.ht C.hm) I.kIn J e (fun z => nomatch z) fun tk => ⟨.bl b, H, I.kept (t' := tk) fun _ _ z => z, rfl, q⟩
      cases od with
      | none => exact go none ⟨hg, rfl, rfl, trivial⟩
      | some dd =>
        obtain ⟨fs, hx⟩ := hd dd rfl
        have ox : ObjOk X.prog X.w H s.heap dd (.xd fs) := I.hok dd _ hx
        obtain ⟨mA, hns, _⟩ := ox
        obtain ⟨oo, ho, _⟩ := lookIn_ns hns
        exact go (some oo) ⟨hg, rfl, rfl, ho⟩
/-- the same in a suite -/
def rIsS (K : PySem.W.Frag) (a : Addr) (cls : Value) (d : Option Addr) : List V → Hp → VK → Prop := fun xs H Q => ∃ (D : Addr) (c : V) (cv : Value) (b : Bool), xs = [.ref a, c] ∧ cls = .ref D ∧ ExcC K D ∧ (∀ u, RelV c u → u = cv) ∧ PySem.W.kitOne K (.ref D) cv = some b ∧ (∀ dd, d = some dd → ∃ fs, H dd = some (.xd fs)) ∧ Q (.bl b) H
theorem call_isS {a : Addr} {oe : Obj} {cls : Value} {d : Option Addr} {pn : List (Addr × Obj)} {K : PySem.W.Frag} (hz : Zc cls d oe) (hf : ∃ vs, oe.data = .fields vs) (hK : X.K = K := by rfl) : CallR (X.suite a ((a, oe) :: pn)) (.builtin "isinstance") (rIsS K a cls d) := by
  intro pins s σ H xs us Q I r h
  obtain ⟨D, c, cv, b, e1, rfl, h2, h3, h4, h5, q⟩ := h
  exact call_isQ (X := X.suite a ((a, oe) :: pn)) (p := (a, oe)) (K := K) List.mem_cons_self hK pins s σ H xs us Q I r ⟨D, d, c, cv, b, e1, hz, hf, h2, h3, h4, h5, q⟩
/-- e.f, e the exception -/
def tXq (K : PySem.W.Frag) (p : Addr × Obj) (f : Str) (te : TE) : TE := fun σ H Q => te σ H fun x H1 => x = .ref p.1 ∧ ∃ (C dd : Addr) (fs : List (Str × V)) (v : V), Zc (.ref C) (some dd) p.2 ∧ (∃ vs, p.2.data = .fields vs) ∧ XfC K C ∧ PySem.W.findIn K (.ref C) f = some none ∧ H1 dd = some (.xd fs) ∧ fs.lookup f = some v ∧ Q v H1
theorem pe_xq {p : Addr × Obj} {e : Expr} {te : TE} {pos : Pos} {n : Str} {K : PySem.W.Frag} (hp : p ∈ X.pn) (he : PE X e te) (hb : attributeBase e n X.env (eval e X.env) = eval e X.env := by rfl) (hK : X.K = K := by rfl) : PE X (.Attribute e n pos) (tXq K p n te) := by
  subst hK
  refine ⟨fun pins s σ H Q I h => attr_of hb (thn (he.run pins s σ H _ I h) fun u s1 hh => ?_)⟩
  obtain ⟨x, H1, J, rx, ex, C, dd, fs, v, hz, ⟨vs, hv⟩, T, hno, ea, l, q⟩ := hh
  subst ex
  cases rx
  obtain ⟨hg, _⟩ := J.pin p (List.mem_append_left _ hp)
  have ox : ObjOk X.prog X.w H1 s1.heap dd (.xd fs) := J.hok dd _ ea
  obtain ⟨mA, hns, rel⟩ := ox
  obtain ⟨oo, ho, hl⟩ := lookIn_ns hns
  obtain ⟨u, hu, ru⟩ := RelO.some_of (v := v) (o := mA n) (by rw [← l]; exact rel n)
  have at_ : PySem.W.InstAt s1.heap p.1 p.2 C (some oo) := ⟨hg, hz.1, by unfold PySem.W.notCls; rw [hv] <;> rfl, by rw [hz.2]; exact ho⟩
  exact HandSPX.exc_get J.kIn at_ T.ga T.gg T.exC (PySem.W.findObj_own T.hdC hno rfl (by rw [hl, hu])) (handed_of ru) ⟨v, H1, J.tok _, ru, q⟩
end
end HP

namespace HP
open PySem PySem.Spec PyProof.Rows L2
/-! ### raising own errors, the context kept in sight (L2N) -/
section
variable {X : Cx} {C : Addr} {x : Str} {e : Expr} {es : List Expr} {p pos pos2 : Pos} {W : WX}
theorem pmk0N (T : Exc0 X.K X.mg x C) (hg : Gl X x := by rfl) (hdb : (x == ("__debug__" : Str)) = false := by decide) : L2N.PMk X (.Call (.Name x p) [] [] pos) (fun _ H Q => Q (.ref C) none H) := by
  intro pins s σ H Q I h
  refine wpAny_Call_Name_kw (ld_glob I hg T.gC ?_ hdb)
  refine PySem.W.callWith_K0 I.kIn T.kC ?_
  show wpAny _ _ (call (.ref C) []) _ _ _
  obtain ⟨bm, N, nm, qn, bs, hdct, sn, sub, ab, col, dd, k0, k1, k2, k3, k5, mN, hC, hN, hni, T2⟩ := exc_obj I.kIn T.ex
  exact wpAny_call_exc_subT PySem.F.excBase_ValueError T2 hC hN hni (fun h' e hm => L2N.mk_of I hm (raises_own T.sub T.ty) h (I.hok.gone hm.new)) (by show 0 ≤ sizeLine; exact Nat.zero_le _)
theorem ps_raise0N (T : Exc0 X.K X.mg x C) (hc : X.calm = true) (tk : L2N.Takes X W) (hg : Gl X x := by rfl) (hdb : (x == ("__debug__" : Str)) = false := by decide) :
    PS X (.Raise (some (.Call (.Name x p) [] [] pos)) none pos2) (tRaise0 C W) := L2N.ps_raise hc tk (pmk0N T hg hdb)
/-- C(e, ..), C's own __init__ keeping sp -/
theorem pmk_oexN {fI : Addr} {k : Nat} {fd : FuncData} {ps : List Str} {sp : Sp} {ta : TA} (T : OexC X.K C) (iC : PySem.W.findIn X.K (.ref C) "__init__" = some (some (.ref fI))) (tI : PySem.W.typeIn X.K (.ref fI) = some (.type "function"))
    (F : FnOk X.prog X.w X.K X.mg X.base CX0 k fI fd ps sp) (hr : Room (k + 1) X.A) (hb : Binds X.K fd ps []) (hg : Gl X x) (hm : X.mg x = some (.ref C)) (ha : PA X (e :: es) ta) (hdb : (x == ("__debug__" : Str)) = false := by decide)
    (he : starEach (e :: es) X.env = (false, eval e X.env) :: starEach es X.env := by rfl) (hpl : (backTo pos (starEach es X.env)).any (·.1) = false := by rfl) : L2N.PMk X (.Call (.Name x p) (e :: es) [] pos) (tMkO C sp [] ta) := by
  intro pins s σ H Q I h
  obtain ⟨nm, qn, N, bs, bm, sn, sub, ab, col, dd, k0, k1, k2, k3, k5, hC, hbm⟩ := T.cls
  refine wpAny_Call_Name_kw (ld_glob I hg hm (PySem.W.callWith_K (h₀ := X.base) I.ok.mod.kin T.kC (thn (ha.run pos pins s σ H _ I h) fun us s1 ⟨vs, H1, J, rv, hz, q⟩ => ⟨J.kIn, ?_⟩) he hpl) hdb)
  show wpAny _ _ (call (.ref C) us) _ _ _
  obtain ⟨hp, g, dr, tk, os⟩ := s1
  generalize eh : (hp.push (PySem.W.kdv_tup us)).push (PySem.HandSPX.excO C hp.objs.size) = h1
  generalize en : hp.objs.size + 1 = n
  have le : hp.objs.size ≤ n := by omega
  have up : ∀ b o, hp.get? b = some o → h1.get? b = some o := fun b o z => by rw [← eh]; exact Heap.get?_push_of_some _ (Heap.get?_push_of_some _ z)
  have at_ : h1.get? n = some (PySem.HandSPX.excO C hp.objs.size) := by
    rw [← eh, ← en]
    heap_get
  have J2 : Inv X pins σ (upd H1 n (exo n C none)) ⟨h1, g, dr, tk, os⟩ := J.laid (t' := tk) (a := n) (o := exo n C none) (h' := h1) up le (exo_ok at_)
  have q1 := q n (J.hok.fresh le)
  rw [List.append_nil] at q1
  have rr : Vals (V.ref n :: vs) (Value.ref n :: us) := .cons rfl rv
  have bd := hb ⟨h1, g, dr, tk, os⟩ (Value.ref n :: us) J2.kIn (by rw [List.append_nil, ← rr.length]; exact F.len _ _ _ _ q1)
  rw [List.append_nil] at bd
  have few : us.length ≤ sizeLine := by rw [← Paired.length rv]; exact Nat.le_trans hz (by decide)
  have R := F.run _ X.stack ⟨h1, g, dr, tk, os⟩ _ ⟨Value.ref n :: us, []⟩ (Value.ref n :: us) _ _ (fun _ _ _ => False) (hr.make C us []) (J2.env0.make C us []) bd rr q1
  subst eh en
  refine wpAny_call (PySem.HandSPX.call_own PySem.F.excBase_ValueError (fun Y => PySem.HandSPX.refsVE_contains Y bm hbm) (J.kIn _ _ hC) (PySem.W.looks_findIn J.kIn iC) (fun self => PySem.W.bind_fn J.kIn self tI) few (codeAny_mono R fun z s2 z1 => ?_))
  cases z with
  | error er => exact z1.elim
  | ok fl =>
    cases fl
    case ret u =>
      obtain ⟨v, H2, o2, b2, un, hok, rv2, ev, d, fs, ea, ed, hd1, q2⟩ := z1
      subst ev
      obtain ⟨h2, g2, d2, t2, os2⟩ := s2
      obtain ⟨t0, G, J3, kG, ge, hoe, na⟩ := mk_end0 (d2 := d2) (t2 := t2) J le up un hok o2 b2 ea ed hd1
      exact ⟨rv2, _, _, _, ⟨G, g2, d2, t2, os2⟩, _, .ref C, some d, rfl, J3, kG, ge, hoe, ⟨rfl, rfl, fun vs hv => by cases hv; rfl⟩, rfl, rfl, na, rfl, b2, raises_own T.exC T.tyC, q2⟩
    all_goals exact z1.elim
/-- raise x(e) -/
theorem ps_raise1N {f : Str} {te : TE} {n : Nat} (T : Exc1 X.prog X.w X.K X.mg X.base x C f (spInit1 C f)) (hc : X.calm = true) (hr : Room n X.A) (hn : 2 ≤ n) (tk : L2N.Takes X W) (he : PE X e te) (mono : ∀ σ H (A B : VK), (∀ v H, A v H → B v H) → te σ H A → te σ H B) (hg : Gl X x := by rfl) (hdb : (x == ("__debug__" : Str)) = false := by decide)
    (hs : starEach [e] X.env = (false, eval e X.env) :: starEach [] X.env := by rfl) (hpl : (backTo pos (starEach [] X.env)).any (·.1) = false := by rfl) : PS X (.Raise (some (.Call (.Name x p) [e] [] pos)) none pos2) (tRaise1 C f W te) := by
  obtain ⟨fI, fd, ps, iC, tI, hb, F1⟩ := T.fn
  have R := L2N.ps_raise (pos := pos2) hc tk (pmk_oexN (pos := pos) (p := p) T.oc iC tI F1 (hr.mono hn) hb hg T.gC (pa_cons he pa_nil hs) hdb hs hpl)
  refine ⟨fun pins s σ H D I h => R.run pins s σ H D I (mono σ H _ _ (fun v H1 q => ?_) h)⟩
  refine ⟨by show 1 ≤ 1000; decide, fun a ha => ⟨a, v, rfl, upd_same, fun dx hdx nda => ⟨rfl, dx, [(f, v)], upd_same, by rw [upd_ne nda, upd_same], ?_, ?_⟩⟩⟩
  · rw [upd_ne nda] at hdx
    exact hdx
  · rw [upd_ne nda] at hdx
    have ee : upd (del (upd (upd (upd H1 a (exo a C none)) dx (exd dx [(f, v)])) a (exo a C (some dx))) a) dx (.xd [(f, v)]) = upd H1 dx (.xd [(f, v)]) := by
      funext b
      by_cases h1 : b = dx
      · rw [h1, upd_same, upd_same]
      · by_cases h2 : b = a
        · rw [upd_ne h1, upd_ne h1, h2, del_same]; exact ha.symm
        · rw [upd_ne h1, upd_ne h1, del_ne h2, upd_ne h2, upd_ne h1, upd_ne h2]
    rw [ee]
    exact q dx hdx
/-! an error with two fields -/
def spInit2 (C : Addr) (f g : Str) : Sp := fun vs H Q _ => ∃ (a : Addr) (y z : V), vs = [.ref a, y, z] ∧ H a = some (exo a C none) ∧
  ∀ dx, H dx = none → dx ≠ a → Q .non (upd (upd (upd H dx (exd dx [(f, y)])) a (exo a C (some dx))) dx (exd dx [(g, z), (f, y)]))
def tRaise2 (C : Addr) (f g : Str) (W : WX) (te tu : TE) : TS := fun _ σ H => te σ H fun v H1 => tu σ H1 fun z H2 => ∀ d, H2 d = none → W (.ref C) (some d) σ (upd H2 d (.xd [(g, z), (f, v)]))
theorem ps_raise2N {e2 : Expr} {f g : Str} {te tu : TE} {n : Nat} (T : Exc1 X.prog X.w X.K X.mg X.base x C f (spInit2 C f g)) (hc : X.calm = true) (hr : Room n X.A) (hn : 2 ≤ n) (tk : L2N.Takes X W) (he : PE X e te) (hu : PE X e2 tu)
    (m1 : ∀ σ H (A B : VK), (∀ v H, A v H → B v H) → te σ H A → te σ H B) (m2 : ∀ σ H (A B : VK), (∀ v H, A v H → B v H) → tu σ H A → tu σ H B) (hg : Gl X x := by rfl) (hdb : (x == ("__debug__" : Str)) = false := by decide)
    (hs : starEach [e, e2] X.env = (false, eval e X.env) :: starEach [e2] X.env := by rfl) (hs2 : starEach [e2] X.env = (false, eval e2 X.env) :: starEach [] X.env := by rfl) (hpl : (backTo pos (starEach [e2] X.env)).any (·.1) = false := by rfl) :
    PS X (.Raise (some (.Call (.Name x p) [e, e2] [] pos)) none pos2) (tRaise2 C f g W te tu) := by
  obtain ⟨fI, fd, ps, iC, tI, hb, F1⟩ := T.fn
  have R := L2N.ps_raise (pos := pos2) hc tk (pmk_oexN (pos := pos) (p := p) T.oc iC tI F1 (hr.mono hn) hb hg T.gC (pa_cons he (pa_cons hu pa_nil hs2) hs) hdb hs hpl)
  refine ⟨fun pins s σ H D I h => R.run pins s σ H D I (m1 σ H _ _ (fun v H1 h1 => m2 σ H1 _ _ (fun z H2 q => ?_) h1) h)⟩
  refine ⟨by show 2 ≤ 1000; decide, fun a ha => ⟨a, v, z, rfl, upd_same, fun dx hdx nda => ⟨rfl, dx, [(g, z), (f, v)], by rw [upd_ne nda.symm, upd_same], upd_same, ?_, ?_⟩⟩⟩
  · rw [upd_ne nda] at hdx
    exact hdx
  · rw [upd_ne nda] at hdx
    have ee : upd (del (upd (upd (upd (upd H2 a (exo a C none)) dx (exd dx [(f, v)])) a (exo a C (some dx))) dx (exd dx [(g, z), (f, v)])) a) dx (.xd [(g, z), (f, v)]) = upd H2 dx (.xd [(g, z), (f, v)]) := by
      funext b
      by_cases h1 : b = dx
      · rw [h1, upd_same, upd_same]
      · by_cases h2 : b = a
        · rw [upd_ne h1, upd_ne h1, h2, del_same]; exact ha.symm
        · rw [upd_ne h1, upd_ne h1, del_ne h2, upd_ne h1, upd_ne h2, upd_ne h1, upd_ne h2]
    rw [ee]
    exact q dx hdx
end
end HP

namespace HP
open PySem PySem.Spec PyProof.Rows L2 L2H
/-! ### a list comprehension over a range while an exception is handled -/
section
variable {X : Cx}
/-- the block with the exception among its own pins -/
abbrev withPin (X : Cx) (p : Addr × Obj) : Cx := { X with pn := [p] }
theorem to_pin {p : Addr × Obj} {σ : L2.St} {H : Hp} {s : Shared} (h0 : X.pn = []) (I : L2.Inv X [p] σ H s) : L2.Inv (withPin X p) [] σ H s :=
  ⟨⟨I.ok.mod, I.ok.kind, I.ok.glob, I.ok.blt, I.ok.above, I.ok.inj, I.ok.has, I.ok.cab, I.ok.hd, I.ok.frames, I.ok.stk, I.ok.exf, I.ok.bs, I.ok.bsz, I.ok.noex, I.ok.exfs, I.ok.funs, I.ok.frf⟩, I.os, I.bare, I.base, I.loc, I.cell, I.free, I.freeC, fun q hq => I.pin q (by rw [h0]; exact hq), I.hok, I.len⟩
theorem of_pin {p : Addr × Obj} {σ : L2.St} {H : Hp} {s : Shared} (h0 : X.pn = []) (I : L2.Inv (withPin X p) [] σ H s) : L2.Inv X [p] σ H s :=
  ⟨⟨I.ok.mod, I.ok.kind, I.ok.glob, I.ok.blt, I.ok.above, I.ok.inj, I.ok.has, I.ok.cab, I.ok.hd, I.ok.frames, I.ok.stk, I.ok.exf, I.ok.bs, I.ok.bsz, I.ok.noex, I.ok.exfs, I.ok.funs, I.ok.frf⟩, I.os, I.bare, I.base, I.loc, I.cell, I.free, I.freeC, fun q hq => I.pin q (by rw [h0] at hq; exact hq), I.hok, I.len⟩
theorem pe_lcQ {p : Addr × Obj} {elt tg iter : Expr} {ifs : List Expr} {scope : Scope} {own : List (Str × Nat)} {pos : Pos} {wi : TI} {g : TG} {tt : TT} {te : TE} (hot : Hot1 X.A p) (hp : p ∈ X.pn) (hN : X.N.Nodup) (hi : PIH X tg iter wi) (ok : BlkOk X.N X.env.scope scope own)
    (hg : ∀ (s : Shared) (H : Hp) (C : Addr) (cl : List (Str × Addr)) (fp : List Addr), PG (X.blk s H scope (compEnvC scope cl C X.env) fp) tg g) (ht : ∀ (s : Shared) (H : Hp) (C : Addr) (cl : List (Str × Addr)) (fp : List Addr), PTs (X.blk s H scope (compEnvC scope cl C X.env) fp) ifs tt)
    (he : ∀ (s : Shared) (H : Hp) (C : Addr) (cl : List (Str × Addr)) (fp : List Addr), PE (X.blk s H scope (compEnvC scope cl C X.env) fp) elt te) (hs : ∀ x, foldedSetIterable iter X.env x = pure x := by intro _; rfl) :
    PE X (.ListComp elt [⟨tg, iter, ifs, 0⟩] scope pos) (tLc wi g tt te (own.map (·.2))) := by
  refine ⟨fun pins s σ H Q I h => ?_⟩
  rw [eval_ListComp]
  refine wpAny_comprehension_free (use := none) rfl hs (closure_ok fun y hy e => (ok.free y hy e).elim (fun z => I.ok.has _ (.inl z)) fun z => I.ok.has _ (.inr z)) ok.kind (fun y hy e => by rw [ok.uniq y hy, e]) (thn (hi.run pins s σ H _ I h) fun xv s1 hx => thn hx fun itv s2 h2 => ?_)
  obtain ⟨it, fp, tn, J, H2, rfl, I2, T, t2, f2, q⟩ := h2
  refine wpAny_newObj_type (newEnv_comp ?_) (by show 0 ≤ sizeLine; decide)
  obtain ⟨W, ⟨m0, w0⟩, turn⟩ := q s2.heap.objs.size (I2.hok.fresh (Nat.le_refl _))
  generalize eD : s2.heap.objs.size = D at w0 turn ⊢
  generalize es3 : ({ s2 with heap := s2.heap.push { cls := .type "list", data := .seq ([] : List Value).toArray } } : Shared) = s3
  have hh3 : s3.heap = s2.heap.push { cls := .type "list", data := .seq ([] : List Value).toArray } := by rw [← es3]
  have kp3 : ∀ b o, s2.heap.get? b = some o → s3.heap.get? b = some o := fun b o e => by rw [hh3]; exact Heap.get?_push_of_some _ e
  have I3 : L2.Inv X pins σ (upd H2 D (.lst [])) s3 := by
    rw [← es3]
    exact I2.laid (t' := s2.toks) (fun b o e => Heap.get?_push_of_some _ e) (Nat.le_of_eq eD) ⟨Nat.zero_le _, [], 0, .nil, by rw [← eD]; exact Heap.get?_push_size _ rfl⟩
  have lt : ∀ b ∈ fp, b < s2.heap.objs.size := fun b hb => let ⟨_, e, _⟩ := T.obj _ _ t2 b hb; Heap.lt_size e
  have f3 : ∀ b ∈ fp, FpOk X pins (upd H2 D (.lst [])) b ∧ b < s3.heap.objs.size := fun b hb =>
    ⟨⟨by rw [upd_ne (by rw [← eD]; exact Nat.ne_of_lt (lt b hb))]; exact (f2 b hb).1, (f2 b hb).2⟩, by rw [hh3, Heap.size_push]; exact Nat.lt_succ_of_lt (lt b hb)⟩
  have t3 : tn 0 s3.heap := T.keep _ _ _ t2 fun b _ o e => kp3 b o e
  generalize upd H2 D (.lst []) = H3 at I3 f3 w0
  have B4 := block_start I3 ok hN f3
  generalize eC : compEnvC scope (cellsFrom (s3.heap.objs.size + 1) scope.names (cloFrom X.env.cells scope.names [])) s3.heap.objs.size X.env = ce at B4
  have Pg := hg s3 H3 s3.heap.objs.size (cellsFrom (s3.heap.objs.size + 1) scope.names (cloFrom X.env.cells scope.names [])) fp
  have Pt := ht s3 H3 s3.heap.objs.size (cellsFrom (s3.heap.objs.size + 1) scope.names (cloFrom X.env.cells scope.names [])) fp
  have Pe := he s3 H3 s3.heap.objs.size (cellsFrom (s3.heap.objs.size + 1) scope.names (cloFrom X.env.cells scope.names [])) fp
  rw [eC] at Pg Pt Pe
  have cL : ce.locals = s3.heap.objs.size := by subst eC; rfl
  show codeAny _ _ (.compStart (.ListComp elt [⟨tg, iter, ifs, 0⟩] scope pos) 0 (.ref it) (.ref D) (compEnvC scope (cellsFrom (s3.heap.objs.size + 1) scope.names (cloFrom X.env.cells scope.names [])) s3.heap.objs.size X.env)) (compPost (model X.prog X.w) X.A X.xe none (EP X pins σ Q) (.ref D) s3.heap.objs.size) { s3 with heap := pushCells (s3.heap.push { cls := .type "dict", data := .dict #[] }) scope.names }
  rw [eC]
  have kp4 : ∀ b o, s3.heap.get? b = some o → (pushCells (s3.heap.push { cls := .type "dict", data := .dict #[] }) scope.names).get? b = some o := fun b o e => pushCells_keeps _ _ _ _ (Heap.get?_push_of_some _ e)
  generalize es4 : ({ s3 with heap := pushCells (s3.heap.push { cls := .type "dict", data := .dict #[] }) scope.names } : Shared) = s4 at B4 ⊢
  have h4 : s4.heap = pushCells (s3.heap.push { cls := .type "dict", data := .dict #[] }) scope.names := by rw [← es4]
  have t4 : tn 0 s4.heap := T.keep _ _ _ t3 fun b _ o e => by rw [h4]; exact kp4 b o e
  obtain ⟨y1, y2, y3, y4, y5⟩ := I3.pin p (List.mem_append_left _ hp)
  have pL : p.1 ≠ s3.heap.objs.size := Nat.ne_of_lt (Heap.lt_size y1)
  have I4 : L2.Inv (X.blk s3 H3 scope ce fp) [p] (wipe σ (own.map (·.2))) H3 s4 := B4.pins_of fun q hq => by
    rw [List.mem_singleton.mp hq]
    exact ⟨by rw [h4]; exact kp4 _ _ y1, y2, fun z => pL (z.trans cL), fun m => (List.mem_cons.mp (I3.stkSub p.1 m)).elim y3 y4, y5⟩
  have ch : HotC (withPin (X.blk s3 H3 scope ce fp) p) := ⟨p, hot, List.mem_singleton.mpr rfl⟩
  have npf : ∀ b ∈ fp, p.1 ≠ b := fun b hb => (f3 b hb).1.2.2.2.2.2 p (List.mem_append_left _ hp)
  have fpY : ∀ {σ' : L2.St} {H' : Hp} {s' : Shared}, L2.Inv (X.blk s3 H3 scope ce fp) [p] σ' H' s' → (∀ b ∈ fp, H' b = none) → ∀ b ∈ fp, FpOk (withPin (X.blk s3 H3 scope ce fp) p) [] H' b := fun {σ' H' s'} J n b hb =>
    ⟨n b hb, (J.ok.exf b hb).1, J.ok.exfs b hb, .inl hb, fun x c e => (J.ok.exf b hb).2 x c e, fun r hr => by
      have hr : r ∈ [p] ++ [] := hr
      rw [List.append_nil] at hr
      rw [List.mem_singleton.mp hr]
      exact npf b hb⟩
  have fpX : ∀ {σ' : L2.St} {H' : Hp} {s' : Shared}, L2.Inv (X.blk s3 H3 scope ce fp) [p] σ' H' s' → (∀ b ∈ fp, H' b = none) → ∀ b ∈ fp, FpOk (X.blk s3 H3 scope ce fp) [p] H' b := fun {σ' H' s'} J n b hb =>
    ⟨n b hb, (J.ok.exf b hb).1, J.ok.exfs b hb, .inl hb, fun x c e => (J.ok.exf b hb).2 x c e, fun r hr => by
      have hr : r ∈ ([] : List (Addr × Obj)) ++ [p] := hr
      rw [List.nil_append] at hr
      rw [List.mem_singleton.mp hr]
      exact npf b hb⟩
  have loop : codeAny (model X.prog X.w) X.A (.compLoop (.ListComp elt [⟨tg, iter, ifs, 0⟩] scope pos) 0 (.ref it) (.ref D) ce) (compPost (model X.prog X.w) X.A X.xe none (EP X pins σ Q) (.ref D) s3.heap.objs.size) s4 := by
    refine compLoop_any (fun n s' => ∃ i H', L2.Inv (X.blk s3 H3 scope ce fp) [p] (wipe σ (own.map (·.2))) H' s' ∧ tn i s'.heap ∧ (∀ b ∈ fp, H' b = none) ∧ W i n H') ?_ m0 ⟨0, H3, I4, t4, fun b hb => (f3 b hb).1.1, w0⟩
    rintro n s5 ⟨i, H5, I5, t5, n5, w5⟩
    rcases turn i n H5 w5 with ⟨stop, fin⟩ | ⟨go, Nx, hNx, step⟩
    · refine thnF (T.done (withPin (X.blk s3 H3 scope ce fp) p) rfl rfl rfl ch i [] s5 _ H5 (fun _ _ => False) (to_pin rfl I5) (fpY I5 n5) t5 stop) fun r s6 ⟨hr, Y6⟩ => ?_
      subst hr
      have I6 := of_pin (X := X.blk s3 H3 scope ce fp) rfl Y6
      have I7 : L2.Inv X pins σ H5 s6 := I3.call' (ch := fp) I6.os I6.base I6.hok I6.bare fun b hb => ⟨(f3 b hb).1.2.2.2.1, (f3 b hb).1.2.1, (f3 b hb).1.2.2.2.2.1, (f3 b hb).1.2.2.2.2.2⟩
      have nC : H5 s3.heap.objs.size = none := by
        have z : H5 ce.locals = none := I6.free
        rwa [cL] at z
      obtain ⟨m, hn, _⟩ := I6.loc
      have hn : s6.heap.Ns ce.locals m := hn
      rw [cL] at hn
      refine ⟨m, hn, fun h8 sb => ?_⟩
      obtain ⟨a0, a1, a2, a3, a4, a5⟩ := I3.fpOk (H' := H5) (Nat.le_refl _) nC
      exact ⟨.ref D, H5, I7.turned (t' := s6.toks) (fun b o hb e => (sb.2 b hb).trans e) a0 a1 a3 a4 a5, rfl, fin⟩
    · refine thnF (T.item (withPin (X.blk s3 H3 scope ce fp) p) rfl rfl rfl ch i [] s5 _ H5 (fun _ _ => False) (to_pin rfl I5) (fpY I5 n5) t5 go) fun r s6 ⟨u, hr, h6⟩ => ?_
      subst hr
      refine thnF h6 fun _ s7 ⟨x, H7, Y7, r7, y7, t7, n7⟩ => ?_
      have I7 := of_pin (X := X.blk s3 H3 scope ce fp) rfl Y7
      have I8 := I7.pinned (fpX I7 n7) (T.obj _ _ t7)
      refine thnF (Pg.run _ s7 _ H7 x u _ I8 r7 (step x H7 y7)) fun _ s8 ⟨σ8, H8, J8, hw, q8⟩ => thnF (Pt.run _ s8 σ8 H8 _ J8 q8) fun b s9 ⟨H9, J9, q9⟩ => ?_
      have again : ∀ {s' : Shared} {H' : Hp}, L2.Inv (X.blk s3 H3 scope ce fp) ([p] ++ pinsAt fp s7.heap) σ8 H' s' → Nx H' → ∃ m, m < n ∧ ∃ i H', L2.Inv (X.blk s3 H3 scope ce fp) [p] (wipe σ (own.map (·.2))) H' s' ∧ tn i s'.heap ∧ (∀ b ∈ fp, H' b = none) ∧ W i m H' := fun {s' H'} J nx => by
        obtain ⟨m', hm, w'⟩ := hNx H' nx
        have stay : ∀ b ∈ fp, ∀ o, s7.heap.get? b = some o → s'.heap.get? b = some o ∧ H' b = none := fun b hb o e => ⟨(J.pin (b, o) (List.mem_append_right _ (List.mem_append_right _ (mem_pinsAt hb e)))).1, (J.pin (b, o) (List.mem_append_right _ (List.mem_append_right _ (mem_pinsAt hb e)))).2.1⟩
        refine ⟨m', hm, i + 1, H', J.unpinned.weak (by rw [← hw, wipe_length]) (fun j v e => ?_), T.keep _ _ _ t7 fun b hb o e => (stay b hb o e).1, fun b hb => ?_, w'⟩
        · rw [← hw] at e
          exact (wipe_some e).1
        · obtain ⟨o, e, _⟩ := T.obj _ _ t7 b hb
          exact (stay b hb o e).2
      cases b with
      | false =>
        simp only [Bool.false_eq_true, if_false] at q9 ⊢
        exact again J9 q9
      | true =>
        simp only [if_true] at q9 ⊢
        exact thnF (Pe.run _ s9 σ8 H9 _ J9 q9) fun z s10 ⟨yv, H10, J10, r10, acc, hD, hz, nx⟩ => app_ok (X := X.blk s3 H3 scope ce fp) J10 hD hz r10 fun s11 J11 => again J11 nx
  exact codeAny_compStart_list loop (T.self X.A 0 _ _ _ t4 loop)
end
end HP

namespace HP
open PySem PySem.Spec PyProof.Rows L2 L2H
/-! ### the thirteen errors -/
theorem monoC {v : V} : ∀ (σ : L2.St) (H : Hp) (A B : VK), (∀ v H, A v H → B v H) → tC v σ H A → tC v σ H B := fun _ _ _ _ h q => h _ _ q
theorem monoV {i : Nat} : ∀ (σ : L2.St) (H : Hp) (A B : VK), (∀ v H, A v H → B v H) → tVar i σ H A → tVar i σ H B := fun _ _ _ _ h ⟨v, e, q⟩ => ⟨v, e, h _ _ q⟩
theorem takes_noneN {X : Cx} : L2N.Takes X (fun _ _ _ _ => False) := fun _ _ ⟨_, _, _, _, _, _, _, _, _, _, _, _, _, _, _, _, w⟩ => w.elim
def fieldOf (k : Int) : Str := if k = 7 then "part" else if k = 8 then "word" else if k = 9 then "deed" else if k = 10 then "row" else if k = 11 then "note" else "index"
/-- the errors by their numbers -/
structure Ers (P : Program) (w : World) (K : PySem.W.Frag) (mg : Str → Option Value) (base : Heap) (c : Int → Addr) : Prop where
  e0 : Exc0 K mg "InvalidThings" (c 0)
  e1 : Exc0 K mg "InvalidValues" (c 1)
  e2 : Exc0 K mg "InvalidWords" (c 2)
  e3 : Exc0 K mg "NotComparable" (c 3)
  e4 : Exc1 P w K mg base "InvalidDeed" (c 4) "index" (spInit1 (c 4) "index")
  e5 : Exc1 P w K mg base "UnknownKind" (c 5) "index" (spInit1 (c 5) "index")
  e6 : Exc1 P w K mg base "UnknownIndex" (c 6) "index" (spInit1 (c 6) "index")
  e7 : Exc1 P w K mg base "InvalidRule" (c 7) "part" (spInit1 (c 7) "part")
  e8 : Exc1 P w K mg base "UnknownWord" (c 8) "word" (spInit1 (c 8) "word")
  e9 : Exc1 P w K mg base "UnknownDeed" (c 9) "deed" (spInit1 (c 9) "deed")
  e10 : Exc1 P w K mg base "Possible" (c 10) "row" (spInit1 (c 10) "row")
  e11 : Exc1 P w K mg base "UnknownNote" (c 11) "note" (spInit1 (c 11) "note")
  e12 : Exc1 P w K mg base "InvalidText" (c 12) "line" (spInit2 (c 12) "line" "word")
abbrev sBare : Stmt := top 18
abbrev sThrown : Stmt := top 19
abbrev sClasses : Stmt := top 20
abbrev sParts : Stmt := top 21
abbrev sRight : Stmt := top 22
abbrev sLaw : Stmt := top 23
section
variable {P : Program} {w : World} {K : PySem.W.Frag} {mg : Str → Option Value} {base : Heap}
/-- what is raised for k -/
def Thrown (c : Int → Addr) (k : Int) (y z : V) (H : Hp) (E : XK) : Prop :=
  if k < 4 then E (.ref (c k)) none H else if k < 12 then ∀ d, H d = none → E (.ref (c k)) (some d) (upd H d (.xd [(fieldOf k, y)])) else ∀ d, H d = none → E (.ref (c k)) (some d) (upd H d (.xd [("word", z), ("line", y)]))
def spBare (c : Int → Addr) : Sp := fun vs H _ E => ∃ k : Int, vs = [.int k] ∧ 0 ≤ k ∧ k < 4 ∧ E (.ref (c k)) none H
theorem scBare : FnScope ["_law_k"] ["_law_k"] (defScope sBare) := ⟨rfl, rfl, rfl, by decide +kernel, rfl, by decide +kernel, by decide +kernel⟩
theorem ok_bare {c : Int → Addr} (D : Dat K mg "_law_bare" sBare) (Z : Ers P w K mg base c) : Fn P w K mg base (L2N.CX P w) 3 "_law_bare" (spBare c) := by
  refine Fn.of D scBare (fun _ _ _ _ _ _ us hl => match us, hl with | [_], _ => rfl) (fun vs H Q E h => ?_) (fun f cdv A outer s H vs Q E hr h => ?_)
  · obtain ⟨k, rfl, _⟩ := h
    rfl
  · obtain ⟨k, rfl, h0, h4, hE⟩ := h
    refine ⟨_, (pss_cons (ps_if (pt_cmpR op_eq (pv 0) pe_int (nomark _)) (pss_one (ps_raise0N Z.e0 rfl (L2N.takes_of rfl rfl rfl rfl))) pss_nil)
      (pss_cons (ps_if (pt_cmpR op_eq (pv 0) pe_int (nomark _)) (pss_one (ps_raise0N Z.e1 rfl (L2N.takes_of rfl rfl rfl rfl))) pss_nil)
      (pss_cons (ps_if (pt_cmpR op_eq (pv 0) pe_int (nomark _)) (pss_one (ps_raise0N Z.e2 rfl (L2N.takes_of rfl rfl rfl rfl))) pss_nil)
      (pss_one (ps_raise0N Z.e3 rfl (L2N.takes_of rfl rfl rfl rfl)))))), ?_⟩
    have hk : k = 0 ∨ k = 1 ∨ k = 2 ∨ k = 3 := by omega
    rcases hk with rfl | rfl | rfl | rfl
    · refine ⟨_, rfl, rfl, _, rfl, ?_⟩
      exact iteT hE
    · refine ⟨_, rfl, rfl, _, rfl, ?_⟩
      refine iteF ?_
      refine ⟨_, rfl, rfl, _, rfl, ?_⟩
      exact iteT hE
    · refine ⟨_, rfl, rfl, _, rfl, ?_⟩
      refine iteF ?_
      refine ⟨_, rfl, rfl, _, rfl, ?_⟩
      refine iteF ?_
      refine ⟨_, rfl, rfl, _, rfl, ?_⟩
      exact iteT hE
    · refine ⟨_, rfl, rfl, _, rfl, ?_⟩
      refine iteF ?_
      refine ⟨_, rfl, rfl, _, rfl, ?_⟩
      refine iteF ?_
      refine ⟨_, rfl, rfl, _, rfl, ?_⟩
      refine iteF ?_
      exact hE
def spThrown (c : Int → Addr) : Sp := fun vs H _ E => ∃ (k : Int) (y z : V), vs = [.int k, y, z] ∧ 0 ≤ k ∧ k < 13 ∧ Thrown c k y z H E
theorem scThrown : FnScope ["_law_k", "_law_one", "_law_two"] ["_law_k", "_law_one", "_law_two"] (defScope sThrown) := ⟨rfl, rfl, rfl, by decide +kernel, rfl, by decide +kernel, by decide +kernel⟩
theorem ok_thrown {c : Int → Addr} (D : Dat K mg "_law_thrown" sThrown) (Z : Ers P w K mg base c) (FB : Fn P w K mg base (L2N.CX P w) 3 "_law_bare" (spBare c)) : Fn P w K mg base (L2N.CX P w) 4 "_law_thrown" (spThrown c) := by
  refine Fn.of D scThrown (fun _ _ _ _ _ _ us hl => match us, hl with | [_, _, _], _ => rfl) (fun vs H Q E h => ?_) (fun f cdv A outer s H vs Q E hr h => ?_)
  · obtain ⟨k, y, z, rfl, _⟩ := h
    rfl
  · obtain ⟨k, y, z, rfl, h0, h13, hE⟩ := h
    refine ⟨_, (pss_cons (ps_if (pt_cmpR op_lt (pv 0) pe_int (nomark _)) (pss_one (ps_expr (pfX FB (hr.mono (by decide)) (L2N.passes_call (L2N.takes_of rfl rfl rfl rfl) (fun _ _ _ _ h => h)) (pa_cons (pv 0) pa_nil)))) pss_nil)
      (pss_cons (ps_if (pt_cmpR op_eq (pv 0) pe_int (nomark _)) (pss_one (ps_raise1N Z.e4 rfl hr (by decide) (L2N.takes_of rfl rfl rfl rfl) (pv 1) monoV)) pss_nil)
      (pss_cons (ps_if (pt_cmpR op_eq (pv 0) pe_int (nomark _)) (pss_one (ps_raise1N Z.e5 rfl hr (by decide) (L2N.takes_of rfl rfl rfl rfl) (pv 1) monoV)) pss_nil)
      (pss_cons (ps_if (pt_cmpR op_eq (pv 0) pe_int (nomark _)) (pss_one (ps_raise1N Z.e6 rfl hr (by decide) (L2N.takes_of rfl rfl rfl rfl) (pv 1) monoV)) pss_nil)
      (pss_cons (ps_if (pt_cmpR op_eq (pv 0) pe_int (nomark _)) (pss_one (ps_raise1N Z.e7 rfl hr (by decide) (L2N.takes_of rfl rfl rfl rfl) (pv 1) monoV)) pss_nil)
      (pss_cons (ps_if (pt_cmpR op_eq (pv 0) pe_int (nomark _)) (pss_one (ps_raise1N Z.e8 rfl hr (by decide) (L2N.takes_of rfl rfl rfl rfl) (pv 1) monoV)) pss_nil)
      (pss_cons (ps_if (pt_cmpR op_eq (pv 0) pe_int (nomark _)) (pss_one (ps_raise1N Z.e9 rfl hr (by decide) (L2N.takes_of rfl rfl rfl rfl) (pv 1) monoV)) pss_nil)
      (pss_cons (ps_if (pt_cmpR op_eq (pv 0) pe_int (nomark _)) (pss_one (ps_raise1N Z.e10 rfl hr (by decide) (L2N.takes_of rfl rfl rfl rfl) (pv 1) monoV)) pss_nil)
      (pss_cons (ps_if (pt_cmpR op_eq (pv 0) pe_int (nomark _)) (pss_one (ps_raise1N Z.e11 rfl hr (by decide) (L2N.takes_of rfl rfl rfl rfl) (pv 1) monoV)) pss_nil)
      (pss_one (ps_raise2N Z.e12 rfl hr (by decide) (L2N.takes_of rfl rfl rfl rfl) (pv 1) (pv 2) monoV monoV))))))))))), ?_⟩
    by_cases h4 : k < 4
    · have hE4 : E (.ref (c k)) none H := by
        unfold Thrown at hE
        rw [if_pos h4] at hE
        exact hE
      refine ⟨_, rfl, _, _, rfl, rfl, _, rfl, ?_⟩
      rw [decide_eq_true h4]
      refine iteT ?_
      exact ⟨_, rfl, k, rfl, h0, h4, hE4⟩
    · unfold Thrown at hE
      rw [if_neg h4] at hE
      refine ⟨_, rfl, _, _, rfl, rfl, _, rfl, ?_⟩
      rw [decide_eq_false h4]
      refine iteF ?_
      have hk : k = 4 ∨ k = 5 ∨ k = 6 ∨ k = 7 ∨ k = 8 ∨ k = 9 ∨ k = 10 ∨ k = 11 ∨ k = 12 := by omega
      rcases hk with rfl | rfl | rfl | rfl | rfl | rfl | rfl | rfl | rfl
      · refine ⟨_, rfl, rfl, _, rfl, ?_⟩
        refine iteT ?_
        exact ⟨_, rfl, hE⟩
      · refine ⟨_, rfl, rfl, _, rfl, ?_⟩
        refine iteF ?_
        refine ⟨_, rfl, rfl, _, rfl, ?_⟩
        refine iteT ?_
        exact ⟨_, rfl, hE⟩
      · refine ⟨_, rfl, rfl, _, rfl, ?_⟩
        refine iteF ?_
        refine ⟨_, rfl, rfl, _, rfl, ?_⟩
        refine iteF ?_
        refine ⟨_, rfl, rfl, _, rfl, ?_⟩
        refine iteT ?_
        exact ⟨_, rfl, hE⟩
      · refine ⟨_, rfl, rfl, _, rfl, ?_⟩
        refine iteF ?_
        refine ⟨_, rfl, rfl, _, rfl, ?_⟩
        refine iteF ?_
        refine ⟨_, rfl, rfl, _, rfl, ?_⟩
        refine iteF ?_
        refine ⟨_, rfl, rfl, _, rfl, ?_⟩
        refine iteT ?_
        exact ⟨_, rfl, hE⟩
      · refine ⟨_, rfl, rfl, _, rfl, ?_⟩
        refine iteF ?_
        refine ⟨_, rfl, rfl, _, rfl, ?_⟩
        refine iteF ?_
        refine ⟨_, rfl, rfl, _, rfl, ?_⟩
        refine iteF ?_
        refine ⟨_, rfl, rfl, _, rfl, ?_⟩
        refine iteF ?_
        refine ⟨_, rfl, rfl, _, rfl, ?_⟩
        refine iteT ?_
        exact ⟨_, rfl, hE⟩
      · refine ⟨_, rfl, rfl, _, rfl, ?_⟩
        refine iteF ?_
        refine ⟨_, rfl, rfl, _, rfl, ?_⟩
        refine iteF ?_
        refine ⟨_, rfl, rfl, _, rfl, ?_⟩
        refine iteF ?_
        refine ⟨_, rfl, rfl, _, rfl, ?_⟩
        refine iteF ?_
        refine ⟨_, rfl, rfl, _, rfl, ?_⟩
        refine iteF ?_
        refine ⟨_, rfl, rfl, _, rfl, ?_⟩
        refine iteT ?_
        exact ⟨_, rfl, hE⟩
      · refine ⟨_, rfl, rfl, _, rfl, ?_⟩
        refine iteF ?_
        refine ⟨_, rfl, rfl, _, rfl, ?_⟩
        refine iteF ?_
        refine ⟨_, rfl, rfl, _, rfl, ?_⟩
        refine iteF ?_
        refine ⟨_, rfl, rfl, _, rfl, ?_⟩
        refine iteF ?_
        refine ⟨_, rfl, rfl, _, rfl, ?_⟩
        refine iteF ?_
        refine ⟨_, rfl, rfl, _, rfl, ?_⟩
        refine iteF ?_
        refine ⟨_, rfl, rfl, _, rfl, ?_⟩
        refine iteT ?_
        exact ⟨_, rfl, hE⟩
      · refine ⟨_, rfl, rfl, _, rfl, ?_⟩
        refine iteF ?_
        refine ⟨_, rfl, rfl, _, rfl, ?_⟩
        refine iteF ?_
        refine ⟨_, rfl, rfl, _, rfl, ?_⟩
        refine iteF ?_
        refine ⟨_, rfl, rfl, _, rfl, ?_⟩
        refine iteF ?_
        refine ⟨_, rfl, rfl, _, rfl, ?_⟩
        refine iteF ?_
        refine ⟨_, rfl, rfl, _, rfl, ?_⟩
        refine iteF ?_
        refine ⟨_, rfl, rfl, _, rfl, ?_⟩
        refine iteF ?_
        refine ⟨_, rfl, rfl, _, rfl, ?_⟩
        refine iteT ?_
        exact ⟨_, rfl, hE⟩
      · refine ⟨_, rfl, rfl, _, rfl, ?_⟩
        refine iteF ?_
        refine ⟨_, rfl, rfl, _, rfl, ?_⟩
        refine iteF ?_
        refine ⟨_, rfl, rfl, _, rfl, ?_⟩
        refine iteF ?_
        refine ⟨_, rfl, rfl, _, rfl, ?_⟩
        refine iteF ?_
        refine ⟨_, rfl, rfl, _, rfl, ?_⟩
        refine iteF ?_
        refine ⟨_, rfl, rfl, _, rfl, ?_⟩
        refine iteF ?_
        refine ⟨_, rfl, rfl, _, rfl, ?_⟩
        refine iteF ?_
        refine ⟨_, rfl, rfl, _, rfl, ?_⟩
        refine iteF ?_
        exact ⟨_, rfl, _, rfl, hE⟩
end
end HP

namespace HP
open PySem PySem.Spec PyProof.Rows L2 L2H
section
variable {P : Program} {w : World} {K : PySem.W.Frag} {mg : Str → Option Value} {base : Heap}
/-- what the text says of the errors' classes -/
structure Ert (K : PySem.W.Frag) (c : Int → Addr) (hE : Addr) : Prop where
  ec : ∀ k : Int, 0 ≤ k → k < 13 → ExcC K (c k)
  kit : ∀ k j : Int, 0 ≤ k → k < 13 → 0 ≤ j → j < 13 → PySem.W.kitOne K (.ref (c k)) (.ref (c j)) = some (decide (j = k))
  ve : ∀ k : Int, 0 ≤ k → k < 13 → PySem.W.kitOne K (.ref (c k)) (.type "ValueError") = some true
  exm : ∀ k : Int, 0 ≤ k → k < 13 → PySem.W.exmOne K (.ref (c k)) (.ref hE) = some true
  xf : ∀ k : Int, 4 ≤ k → k < 13 → XfC K (c k)
  no : ∀ k : Int, 4 ≤ k → k < 12 → PySem.W.findIn K (.ref (c k)) (fieldOf k) = some none
  no1 : PySem.W.findIn K (.ref (c 12)) "line" = some none
  no2 : PySem.W.findIn K (.ref (c 12)) "word" = some none
/-- the exception p of the class k, its dict d -/
structure Caught (c : Int → Addr) (k : Int) (p : Addr × Obj) (d : Option Addr) (H : Hp) : Prop where
  zc : Zc (.ref (c k)) d p.2
  fl : ∃ vs, p.2.data = .fields vs
  di : ∀ dd, d = some dd → ∃ fs, H dd = some (.xd fs)
theorem Caught.same {c : Int → Addr} {k : Int} {p : Addr × Obj} {d : Option Addr} {H H' : Hp} (h : Caught c k p d H) (s : Same H H') : Caught c k p d H' := ⟨h.zc, h.fl, fun dd e => let ⟨fs, z⟩ := h.di dd e; ⟨fs, s _ _ z⟩⟩
def flags (k : Int) : List V := [.bl (decide ((0 : Int) = k)), .bl (decide ((1 : Int) = k)), .bl (decide ((2 : Int) = k)), .bl (decide ((3 : Int) = k)), .bl (decide ((4 : Int) = k)), .bl (decide ((5 : Int) = k)), .bl (decide ((6 : Int) = k)), .bl (decide ((7 : Int) = k)), .bl (decide ((8 : Int) = k)), .bl (decide ((9 : Int) = k)), .bl (decide ((10 : Int) = k)), .bl (decide ((11 : Int) = k)), .bl (decide ((12 : Int) = k))]
def spClasses (c : Int → Addr) : Addr × Obj → Sp := fun p vs H Q _ => ∃ (k : Int) (d : Option Addr), vs = [.ref p.1] ∧ 0 ≤ k ∧ k < 13 ∧ Caught c k p d H ∧ ∀ H' q, Same H H' → H' q = some (.lst (flags k)) → Q (.ref q) H'
theorem scClasses : FnScope ["_law_e", "_law_found"] ["_law_e"] (defScope sClasses) := ⟨rfl, rfl, rfl, by decide +kernel, rfl, by decide +kernel, by decide +kernel⟩
theorem ok_classes {c : Int → Addr} {hE : Addr} (D : Dat K mg "_law_classes" sClasses) (T : Fr mg) (Z : Ers P w K mg base c) (Y : Ert K c hE) : FQ P w K mg base 1 "_law_classes" (spClasses c) := by
  obtain ⟨f, fd, gl, F⟩ := D
  refine ⟨f, fd, ["_law_e"], gl, F.kp, F.bindsN fun _ _ _ _ _ _ us hl => match us, hl with | [_], _ => rfl, fnQ_of F scClasses (fun p vs H Q E h => ?_) (fun cdv A outer s H vs Q E p hr h => ?_)⟩
  · obtain ⟨k, d, rfl, _⟩ := h
    rfl
  · obtain ⟨k, d, rfl, h0, h13, X0, kk⟩ := h
    refine ⟨_, (pss_cons (ps_set (i := 1) scClasses.nd rfl (Or.inl rfl) (pe_lst (pa_cons (pe_callB (call_isQ (p := p) (K := K) (List.mem_cons_self ..)) (by rfl) (T.fr "isinstance" (by decide +kernel)) (by decide +kernel) (pa_cons (pv 0) (pa_cons (pe_glob (v := .ref (c 0)) (by rfl) Z.e0.gC rfl) pa_nil))) (pa_cons (pe_callB (call_isQ (p := p) (K := K) (List.mem_cons_self ..)) (by rfl) (T.fr "isinstance" (by decide +kernel)) (by decide +kernel) (pa_cons (pv 0) (pa_cons (pe_glob (v := .ref (c 1)) (by rfl) Z.e1.gC rfl) pa_nil))) (pa_cons (pe_callB (call_isQ (p := p) (K := K) (List.mem_cons_self ..)) (by rfl) (T.fr "isinstance" (by decide +kernel)) (by decide +kernel) (pa_cons (pv 0) (pa_cons (pe_glob (v := .ref (c 2)) (by rfl) Z.e2.gC rfl) pa_nil))) pa_nil)))))
      (pss_cons (ps_set (i := 1) scClasses.nd rfl (Or.inl rfl) (pe_op op_cat (pv 1) (pe_lst (pa_cons (pe_callB (call_isQ (p := p) (K := K) (List.mem_cons_self ..)) (by rfl) (T.fr "isinstance" (by decide +kernel)) (by decide +kernel) (pa_cons (pv 0) (pa_cons (pe_glob (v := .ref (c 3)) (by rfl) Z.e3.gC rfl) pa_nil))) (pa_cons (pe_callB (call_isQ (p := p) (K := K) (List.mem_cons_self ..)) (by rfl) (T.fr "isinstance" (by decide +kernel)) (by decide +kernel) (pa_cons (pv 0) (pa_cons (pe_glob (v := .ref (c 4)) (by rfl) Z.e4.gC rfl) pa_nil))) (pa_cons (pe_callB (call_isQ (p := p) (K := K) (List.mem_cons_self ..)) (by rfl) (T.fr "isinstance" (by decide +kernel)) (by decide +kernel) (pa_cons (pv 0) (pa_cons (pe_glob (v := .ref (c 5)) (by rfl) Z.e5.gC rfl) pa_nil))) pa_nil))))))
      (pss_cons (ps_set (i := 1) scClasses.nd rfl (Or.inl rfl) (pe_op op_cat (pv 1) (pe_lst (pa_cons (pe_callB (call_isQ (p := p) (K := K) (List.mem_cons_self ..)) (by rfl) (T.fr "isinstance" (by decide +kernel)) (by decide +kernel) (pa_cons (pv 0) (pa_cons (pe_glob (v := .ref (c 6)) (by rfl) Z.e6.gC rfl) pa_nil))) (pa_cons (pe_callB (call_isQ (p := p) (K := K) (List.mem_cons_self ..)) (by rfl) (T.fr "isinstance" (by decide +kernel)) (by decide +kernel) (pa_cons (pv 0) (pa_cons (pe_glob (v := .ref (c 7)) (by rfl) Z.e7.gC rfl) pa_nil))) (pa_cons (pe_callB (call_isQ (p := p) (K := K) (List.mem_cons_self ..)) (by rfl) (T.fr "isinstance" (by decide +kernel)) (by decide +kernel) (pa_cons (pv 0) (pa_cons (pe_glob (v := .ref (c 8)) (by rfl) Z.e8.gC rfl) pa_nil))) pa_nil))))))
      (pss_cons (ps_set (i := 1) scClasses.nd rfl (Or.inl rfl) (pe_op op_cat (pv 1) (pe_lst (pa_cons (pe_callB (call_isQ (p := p) (K := K) (List.mem_cons_self ..)) (by rfl) (T.fr "isinstance" (by decide +kernel)) (by decide +kernel) (pa_cons (pv 0) (pa_cons (pe_glob (v := .ref (c 9)) (by rfl) Z.e9.gC rfl) pa_nil))) (pa_cons (pe_callB (call_isQ (p := p) (K := K) (List.mem_cons_self ..)) (by rfl) (T.fr "isinstance" (by decide +kernel)) (by decide +kernel) (pa_cons (pv 0) (pa_cons (pe_glob (v := .ref (c 10)) (by rfl) Z.e10.gC rfl) pa_nil))) (pa_cons (pe_callB (call_isQ (p := p) (K := K) (List.mem_cons_self ..)) (by rfl) (T.fr "isinstance" (by decide +kernel)) (by decide +kernel) (pa_cons (pv 0) (pa_cons (pe_glob (v := .ref (c 11)) (by rfl) Z.e11.gC rfl) pa_nil))) pa_nil))))))
      (pss_one (ps_ret (pe_op op_cat (pv 1) (pe_lst (pa_cons (pe_callB (call_isQ (p := p) (K := K) (List.mem_cons_self ..)) (by rfl) (T.fr "isinstance" (by decide +kernel)) (by decide +kernel) (pa_cons (pv 0) (pa_cons (pe_glob (v := .ref (c 12)) (by rfl) Z.e12.gC rfl) pa_nil))) pa_nil))))))))), ?_⟩
    refine ⟨_, rfl, c k, d, .ref (c 0), .ref (c 0), _, rfl, X0.zc, X0.fl, Y.ec k h0 h13, fun u hu => hu, Y.kit k 0 h0 h13 (by decide) (by decide), X0.di, ?_⟩
    refine ⟨_, rfl, c k, d, .ref (c 1), .ref (c 1), _, rfl, X0.zc, X0.fl, Y.ec k h0 h13, fun u hu => hu, Y.kit k 1 h0 h13 (by decide) (by decide), X0.di, ?_⟩
    refine ⟨_, rfl, c k, d, .ref (c 2), .ref (c 2), _, rfl, X0.zc, X0.fl, Y.ec k h0 h13, fun u hu => hu, Y.kit k 2 h0 h13 (by decide) (by decide), X0.di, ?_⟩
    refine ⟨by show 3 ≤ sizeLine; decide, fun q1 hq1 => ?_⟩
    have s1 : Same H (upd H q1 (.lst [.bl (decide ((0 : Int) = k)), .bl (decide ((1 : Int) = k)), .bl (decide ((2 : Int) = k))])) := same_new (Same.refl H) hq1
    have e1 : upd H q1 (.lst [.bl (decide ((0 : Int) = k)), .bl (decide ((1 : Int) = k)), .bl (decide ((2 : Int) = k))]) q1 = some (.lst ((flags k).take 3)) := upd_same
    show tSeq _ _ _ [some (.ref p.1), some (.ref q1)] (upd H q1 (.lst [.bl (decide ((0 : Int) = k)), .bl (decide ((1 : Int) = k)), .bl (decide ((2 : Int) = k))]))
    generalize upd H q1 (.lst [.bl (decide ((0 : Int) = k)), .bl (decide ((1 : Int) = k)), .bl (decide ((2 : Int) = k))]) = H1 at s1 e1
    have X1 := X0.same s1
    refine ⟨_, rfl, _, rfl, c k, d, .ref (c 3), .ref (c 3), _, rfl, X1.zc, X1.fl, Y.ec k h0 h13, fun u hu => hu, Y.kit k 3 h0 h13 (by decide) (by decide), X1.di, ?_⟩
    refine ⟨_, rfl, c k, d, .ref (c 4), .ref (c 4), _, rfl, X1.zc, X1.fl, Y.ec k h0 h13, fun u hu => hu, Y.kit k 4 h0 h13 (by decide) (by decide), X1.di, ?_⟩
    refine ⟨_, rfl, c k, d, .ref (c 5), .ref (c 5), _, rfl, X1.zc, X1.fl, Y.ec k h0 h13, fun u hu => hu, Y.kit k 5 h0 h13 (by decide) (by decide), X1.di, ?_⟩
    refine ⟨by show 3 ≤ sizeLine; decide, fun r1 hr1 => ?_⟩
    have nr1 : q1 ≠ r1 := ne_of_none e1 hr1
    refine ⟨q1, r1, _, _, rfl, rfl, (by rw [upd_ne nr1]; exact e1), upd_same, (by show 3 + 3 ≤ sizeLine; decide), fun q2 hq2 => ?_⟩
    have s2 : Same H (upd (upd H1 r1 (.lst [.bl (decide ((3 : Int) = k)), .bl (decide ((4 : Int) = k)), .bl (decide ((5 : Int) = k))])) q2 (.lst ((flags k).take 3 ++ [.bl (decide ((3 : Int) = k)), .bl (decide ((4 : Int) = k)), .bl (decide ((5 : Int) = k))]))) := s1.trans (same_new (same_new (Same.refl H1) hr1) hq2)
    have e2 : (upd (upd H1 r1 (.lst [.bl (decide ((3 : Int) = k)), .bl (decide ((4 : Int) = k)), .bl (decide ((5 : Int) = k))])) q2 (.lst ((flags k).take 3 ++ [.bl (decide ((3 : Int) = k)), .bl (decide ((4 : Int) = k)), .bl (decide ((5 : Int) = k))]))) q2 = some (.lst ((flags k).take 6)) := upd_same
    show tSeq _ _ _ [some (.ref p.1), some (.ref q2)] (upd (upd H1 r1 (.lst [.bl (decide ((3 : Int) = k)), .bl (decide ((4 : Int) = k)), .bl (decide ((5 : Int) = k))])) q2 (.lst ((flags k).take 3 ++ [.bl (decide ((3 : Int) = k)), .bl (decide ((4 : Int) = k)), .bl (decide ((5 : Int) = k))])))
    generalize upd (upd H1 r1 (.lst [.bl (decide ((3 : Int) = k)), .bl (decide ((4 : Int) = k)), .bl (decide ((5 : Int) = k))])) q2 (.lst ((flags k).take 3 ++ [.bl (decide ((3 : Int) = k)), .bl (decide ((4 : Int) = k)), .bl (decide ((5 : Int) = k))])) = H2 at s2 e2
    have X2 := X0.same s2
    refine ⟨_, rfl, _, rfl, c k, d, .ref (c 6), .ref (c 6), _, rfl, X2.zc, X2.fl, Y.ec k h0 h13, fun u hu => hu, Y.kit k 6 h0 h13 (by decide) (by decide), X2.di, ?_⟩
    refine ⟨_, rfl, c k, d, .ref (c 7), .ref (c 7), _, rfl, X2.zc, X2.fl, Y.ec k h0 h13, fun u hu => hu, Y.kit k 7 h0 h13 (by decide) (by decide), X2.di, ?_⟩
    refine ⟨_, rfl, c k, d, .ref (c 8), .ref (c 8), _, rfl, X2.zc, X2.fl, Y.ec k h0 h13, fun u hu => hu, Y.kit k 8 h0 h13 (by decide) (by decide), X2.di, ?_⟩
    refine ⟨by show 3 ≤ sizeLine; decide, fun r2 hr2 => ?_⟩
    have nr2 : q2 ≠ r2 := ne_of_none e2 hr2
    refine ⟨q2, r2, _, _, rfl, rfl, (by rw [upd_ne nr2]; exact e2), upd_same, (by show 6 + 3 ≤ sizeLine; decide), fun q3 hq3 => ?_⟩
    have s3 : Same H (upd (upd H2 r2 (.lst [.bl (decide ((6 : Int) = k)), .bl (decide ((7 : Int) = k)), .bl (decide ((8 : Int) = k))])) q3 (.lst ((flags k).take 6 ++ [.bl (decide ((6 : Int) = k)), .bl (decide ((7 : Int) = k)), .bl (decide ((8 : Int) = k))]))) := s2.trans (same_new (same_new (Same.refl H2) hr2) hq3)
    have e3 : (upd (upd H2 r2 (.lst [.bl (decide ((6 : Int) = k)), .bl (decide ((7 : Int) = k)), .bl (decide ((8 : Int) = k))])) q3 (.lst ((flags k).take 6 ++ [.bl (decide ((6 : Int) = k)), .bl (decide ((7 : Int) = k)), .bl (decide ((8 : Int) = k))]))) q3 = some (.lst ((flags k).take 9)) := upd_same
    show tSeq _ _ _ [some (.ref p.1), some (.ref q3)] (upd (upd H2 r2 (.lst [.bl (decide ((6 : Int) = k)), .bl (decide ((7 : Int) = k)), .bl (decide ((8 : Int) = k))])) q3 (.lst ((flags k).take 6 ++ [.bl (decide ((6 : Int) = k)), .bl (decide ((7 : Int) = k)), .bl (decide ((8 : Int) = k))])))
    generalize upd (upd H2 r2 (.lst [.bl (decide ((6 : Int) = k)), .bl (decide ((7 : Int) = k)), .bl (decide ((8 : Int) = k))])) q3 (.lst ((flags k).take 6 ++ [.bl (decide ((6 : Int) = k)), .bl (decide ((7 : Int) = k)), .bl (decide ((8 : Int) = k))])) = H3 at s3 e3
    have X3 := X0.same s3
    refine ⟨_, rfl, _, rfl, c k, d, .ref (c 9), .ref (c 9), _, rfl, X3.zc, X3.fl, Y.ec k h0 h13, fun u hu => hu, Y.kit k 9 h0 h13 (by decide) (by decide), X3.di, ?_⟩
    refine ⟨_, rfl, c k, d, .ref (c 10), .ref (c 10), _, rfl, X3.zc, X3.fl, Y.ec k h0 h13, fun u hu => hu, Y.kit k 10 h0 h13 (by decide) (by decide), X3.di, ?_⟩
    refine ⟨_, rfl, c k, d, .ref (c 11), .ref (c 11), _, rfl, X3.zc, X3.fl, Y.ec k h0 h13, fun u hu => hu, Y.kit k 11 h0 h13 (by decide) (by decide), X3.di, ?_⟩
    refine ⟨by show 3 ≤ sizeLine; decide, fun r3 hr3 => ?_⟩
    have nr3 : q3 ≠ r3 := ne_of_none e3 hr3
    refine ⟨q3, r3, _, _, rfl, rfl, (by rw [upd_ne nr3]; exact e3), upd_same, (by show 9 + 3 ≤ sizeLine; decide), fun q4 hq4 => ?_⟩
    have s4 : Same H (upd (upd H3 r3 (.lst [.bl (decide ((9 : Int) = k)), .bl (decide ((10 : Int) = k)), .bl (decide ((11 : Int) = k))])) q4 (.lst ((flags k).take 9 ++ [.bl (decide ((9 : Int) = k)), .bl (decide ((10 : Int) = k)), .bl (decide ((11 : Int) = k))]))) := s3.trans (same_new (same_new (Same.refl H3) hr3) hq4)
    have e4 : (upd (upd H3 r3 (.lst [.bl (decide ((9 : Int) = k)), .bl (decide ((10 : Int) = k)), .bl (decide ((11 : Int) = k))])) q4 (.lst ((flags k).take 9 ++ [.bl (decide ((9 : Int) = k)), .bl (decide ((10 : Int) = k)), .bl (decide ((11 : Int) = k))]))) q4 = some (.lst ((flags k).take 12)) := upd_same
    show tSeq _ _ _ [some (.ref p.1), some (.ref q4)] (upd (upd H3 r3 (.lst [.bl (decide ((9 : Int) = k)), .bl (decide ((10 : Int) = k)), .bl (decide ((11 : Int) = k))])) q4 (.lst ((flags k).take 9 ++ [.bl (decide ((9 : Int) = k)), .bl (decide ((10 : Int) = k)), .bl (decide ((11 : Int) = k))])))
    generalize upd (upd H3 r3 (.lst [.bl (decide ((9 : Int) = k)), .bl (decide ((10 : Int) = k)), .bl (decide ((11 : Int) = k))])) q4 (.lst ((flags k).take 9 ++ [.bl (decide ((9 : Int) = k)), .bl (decide ((10 : Int) = k)), .bl (decide ((11 : Int) = k))])) = H4 at s4 e4
    have X4 := X0.same s4
    refine ⟨_, rfl, _, rfl, c k, d, .ref (c 12), .ref (c 12), _, rfl, X4.zc, X4.fl, Y.ec k h0 h13, fun u hu => hu, Y.kit k 12 h0 h13 (by decide) (by decide), X4.di, ?_⟩
    refine ⟨by show 1 ≤ sizeLine; decide, fun r4 hr4 => ?_⟩
    have nr4 : q4 ≠ r4 := ne_of_none e4 hr4
    refine ⟨q4, r4, _, _, rfl, rfl, (by rw [upd_ne nr4]; exact e4), upd_same, (by show 12 + 1 ≤ sizeLine; decide), fun q5 hq5 => ?_⟩
    have s5 : Same H (upd (upd H4 r4 (.lst [.bl (decide ((12 : Int) = k))])) q5 (.lst ((flags k).take 12 ++ [.bl (decide ((12 : Int) = k))]))) := s4.trans (same_new (same_new (Same.refl H4) hr4) hq5)
    have e5 : (upd (upd H4 r4 (.lst [.bl (decide ((12 : Int) = k))])) q5 (.lst ((flags k).take 12 ++ [.bl (decide ((12 : Int) = k))]))) q5 = some (.lst ((flags k).take 13)) := upd_same
    exact kk _ _ s5 e5
end
end HP

namespace HP
open PySem PySem.Spec PyProof.Rows L2 L2H
section
variable {P : Program} {w : World} {K : PySem.W.Frag} {mg : Str → Option Value} {base : Heap}
def partsV (k : Int) (y z : V) : List V := if k < 4 then [] else if k < 12 then [y] else [y, z]
/-- the fields of the exception -/
def Fielded (k : Int) (d : Option Addr) (y z : V) (H : Hp) : Prop := 4 ≤ k → ∃ dd, d = some dd ∧ (k < 12 → H dd = some (.xd [(fieldOf k, y)])) ∧ (k = 12 → H dd = some (.xd [("word", z), ("line", y)]))
def spParts (c : Int → Addr) : Addr × Obj → Sp := fun p vs H Q _ => ∃ (k : Int) (d : Option Addr) (y z : V), vs = [.int k, .ref p.1] ∧ 0 ≤ k ∧ k < 13 ∧ Caught c k p d H ∧ Fielded k d y z H ∧ ∀ H' q, Same H H' → H' q = some (.lst (partsV k y z)) → Q (.ref q) H'
theorem scParts : FnScope ["_law_k", "_law_e"] ["_law_k", "_law_e"] (defScope sParts) := ⟨rfl, rfl, rfl, by decide +kernel, rfl, by decide +kernel, by decide +kernel⟩
theorem ok_parts {c : Int → Addr} {hE : Addr} (D : Dat K mg "_law_parts" sParts) (T : Fr mg) (Y : Ert K c hE) : FQ P w K mg base 1 "_law_parts" (spParts c) := by
  obtain ⟨f, fd, gl, F⟩ := D
  refine ⟨f, fd, ["_law_k", "_law_e"], gl, F.kp, F.bindsN fun _ _ _ _ _ _ us hl => match us, hl with | [_, _], _ => rfl, fnQ_of F scParts (fun p vs H Q E h => ?_) (fun cdv A outer s H vs Q E p hr h => ?_)⟩
  · obtain ⟨k, d, y, z, rfl, _⟩ := h
    rfl
  · obtain ⟨k, d, y, z, rfl, h0, h13, X0, X1, kk⟩ := h
    refine ⟨_, (pss_cons (ps_if (pt_cmpR op_lt (pv 0) pe_int (nomark _)) (pss_one (ps_ret (pe_lst pa_nil))) pss_nil)
      (pss_cons (ps_if (pt_cmpR op_lt (pv 0) pe_int (nomark _)) (pss_one (ps_ret (pe_lst (pa_cons (pe_xq (p := p) (K := K) (List.mem_cons_self ..) (pv 1)) pa_nil)))) pss_nil)
      (pss_cons (ps_if (pt_cmpR op_eq (pv 0) pe_int (nomark _)) (pss_one (ps_ret (pe_lst (pa_cons (pe_xq (p := p) (K := K) (List.mem_cons_self ..) (pv 1)) pa_nil)))) pss_nil)
      (pss_cons (ps_if (pt_cmpR op_eq (pv 0) pe_int (nomark _)) (pss_one (ps_ret (pe_lst (pa_cons (pe_xq (p := p) (K := K) (List.mem_cons_self ..) (pv 1)) pa_nil)))) pss_nil)
      (pss_cons (ps_if (pt_cmpR op_eq (pv 0) pe_int (nomark _)) (pss_one (ps_ret (pe_lst (pa_cons (pe_xq (p := p) (K := K) (List.mem_cons_self ..) (pv 1)) pa_nil)))) pss_nil)
      (pss_cons (ps_if (pt_cmpR op_eq (pv 0) pe_int (nomark _)) (pss_one (ps_ret (pe_lst (pa_cons (pe_xq (p := p) (K := K) (List.mem_cons_self ..) (pv 1)) pa_nil)))) pss_nil)
      (pss_one (ps_ret (pe_ifExp (pt_cmpR op_eq (pv 0) pe_int (nomark _)) (pe_lst (pa_cons (pe_xq (p := p) (K := K) (List.mem_cons_self ..) (pv 1)) pa_nil)) (pe_lst (pa_cons (pe_xq (p := p) (K := K) (List.mem_cons_self ..) (pv 1)) (pa_cons (pe_xq (p := p) (K := K) (List.mem_cons_self ..) (pv 1)) pa_nil)))))))))))), ?_⟩
    refine ⟨_, rfl, _, _, rfl, rfl, _, rfl, ?_⟩
    by_cases h4 : k < 4
    · rw [decide_eq_true h4]
      refine iteT ?_
      refine ⟨by show 0 ≤ sizeLine; decide, fun q hq => kk _ q (same_new (Same.refl H) hq) ?_⟩
      rw [upd_same]
      unfold partsV
      rw [if_pos h4]
    · rw [decide_eq_false h4]
      refine iteF ?_
      obtain ⟨dd, rfl, x1, x2⟩ := X1 (by omega)
      refine ⟨_, rfl, _, _, rfl, rfl, _, rfl, ?_⟩
      have one : k < 12 → ∀ q, H q = none → Q (.ref q) (upd H q (.lst [y])) := fun h q hq => kk _ q (same_new (Same.refl H) hq) (by rw [upd_same]; unfold partsV; rw [if_neg h4, if_pos h])
      by_cases h7 : k < 7
      · rw [decide_eq_true h7]
        refine iteT ?_
        have x1 := x1 (by omega)
        have ef : fieldOf k = "index" := by
          unfold fieldOf
          rw [if_neg (by omega), if_neg (by omega), if_neg (by omega), if_neg (by omega), if_neg (by omega)]
        have hno := Y.no k (by omega) (by omega)
        rw [ef] at x1 hno
        refine ⟨_, rfl, rfl, c k, dd, _, y, X0.zc, X0.fl, Y.xf k (by omega) h13, hno, x1, rfl, ?_⟩
        exact ⟨by show 1 ≤ sizeLine; decide, fun q hq => one (by omega) q hq⟩
      · rw [decide_eq_false h7]
        refine iteF ?_
        have hk : k = 7 ∨ k = 8 ∨ k = 9 ∨ k = 10 ∨ k = 11 ∨ k = 12 := by omega
        rcases hk with rfl | rfl | rfl | rfl | rfl | rfl
        · refine ⟨_, rfl, rfl, _, rfl, ?_⟩
          refine iteT ?_
          refine ⟨_, rfl, rfl, c 7, dd, _, y, X0.zc, X0.fl, Y.xf 7 (by decide) (by decide), Y.no 7 (by decide) (by decide), x1 (by decide), rfl, ?_⟩
          exact ⟨by show 1 ≤ sizeLine; decide, fun q hq => one (by decide) q hq⟩
        · refine ⟨_, rfl, rfl, _, rfl, ?_⟩
          refine iteF ?_
          refine ⟨_, rfl, rfl, _, rfl, ?_⟩
          refine iteT ?_
          refine ⟨_, rfl, rfl, c 8, dd, _, y, X0.zc, X0.fl, Y.xf 8 (by decide) (by decide), Y.no 8 (by decide) (by decide), x1 (by decide), rfl, ?_⟩
          exact ⟨by show 1 ≤ sizeLine; decide, fun q hq => one (by decide) q hq⟩
        · refine ⟨_, rfl, rfl, _, rfl, ?_⟩
          refine iteF ?_
          refine ⟨_, rfl, rfl, _, rfl, ?_⟩
          refine iteF ?_
          refine ⟨_, rfl, rfl, _, rfl, ?_⟩
          refine iteT ?_
          refine ⟨_, rfl, rfl, c 9, dd, _, y, X0.zc, X0.fl, Y.xf 9 (by decide) (by decide), Y.no 9 (by decide) (by decide), x1 (by decide), rfl, ?_⟩
          exact ⟨by show 1 ≤ sizeLine; decide, fun q hq => one (by decide) q hq⟩
        · refine ⟨_, rfl, rfl, _, rfl, ?_⟩
          refine iteF ?_
          refine ⟨_, rfl, rfl, _, rfl, ?_⟩
          refine iteF ?_
          refine ⟨_, rfl, rfl, _, rfl, ?_⟩
          refine iteF ?_
          refine ⟨_, rfl, rfl, _, rfl, ?_⟩
          refine iteT ?_
          refine ⟨_, rfl, rfl, c 10, dd, _, y, X0.zc, X0.fl, Y.xf 10 (by decide) (by decide), Y.no 10 (by decide) (by decide), x1 (by decide), rfl, ?_⟩
          exact ⟨by show 1 ≤ sizeLine; decide, fun q hq => one (by decide) q hq⟩
        · refine ⟨_, rfl, rfl, _, rfl, ?_⟩
          refine iteF ?_
          refine ⟨_, rfl, rfl, _, rfl, ?_⟩
          refine iteF ?_
          refine ⟨_, rfl, rfl, _, rfl, ?_⟩
          refine iteF ?_
          refine ⟨_, rfl, rfl, _, rfl, ?_⟩
          refine iteF ?_
          refine ⟨_, rfl, rfl, _, rfl, ?_⟩
          refine iteT ?_
          refine ⟨_, rfl, rfl, c 11, dd, _, y, X0.zc, X0.fl, Y.xf 11 (by decide) (by decide), Y.no 11 (by decide) (by decide), x1 (by decide), rfl, ?_⟩
          exact ⟨by show 1 ≤ sizeLine; decide, fun q hq => one (by decide) q hq⟩
        · refine ⟨_, rfl, rfl, _, rfl, ?_⟩
          refine iteF ?_
          refine ⟨_, rfl, rfl, _, rfl, ?_⟩
          refine iteF ?_
          refine ⟨_, rfl, rfl, _, rfl, ?_⟩
          refine iteF ?_
          refine ⟨_, rfl, rfl, _, rfl, ?_⟩
          refine iteF ?_
          refine ⟨_, rfl, rfl, _, rfl, ?_⟩
          refine iteF ?_
          refine ⟨_, rfl, rfl, c 12, dd, _, y, X0.zc, X0.fl, Y.xf 12 (by decide) (by decide), Y.no1, x2 rfl, rfl, ?_⟩
          refine ⟨_, rfl, rfl, c 12, dd, _, z, X0.zc, X0.fl, Y.xf 12 (by decide) (by decide), Y.no2, x2 rfl, rfl, ?_⟩
          exact ⟨by show 2 ≤ sizeLine; decide, fun q hq => kk _ q (same_new (Same.refl H) hq) (by rw [upd_same]; rfl)⟩
end
end HP

namespace HP
open PySem PySem.Spec PyProof.Rows L2 L2H
section
variable {X : Cx}
theorem pfS {k j : Nat} {x : Str} {sp : Sp} {W : WX} {e : Expr} {es : List Expr} {t : TA} {q pos : Pos} (F : Fn X.prog X.w X.K X.mg X.base (L2N.CX X.prog X.w) k x sp) (hr : Room j X.A) (hkj : k ≤ j) (tk : L2N.Takes X W) (ha : PA X (e :: es) t) (hg : Gl X x := by rfl) (hdb : (x == ("__debug__" : Str)) = false := by decide)
    (he : starEach (e :: es) X.env = (false, eval e X.env) :: starEach es X.env := by rfl) (hpl : (backTo pos (starEach es X.env)).any (·.1) = false := by rfl) : PE X (.Call (.Name x q) (e :: es) [] pos) (tCallS sp (WE W) t) := by
  obtain ⟨f, fd, ps, h1, h2, h3, F⟩ := F
  exact pe_callS F (hr.mono hkj) hg h1 h2 h3 (fun σ => L2N.passAt tk σ) ha hdb he hpl
theorem hot_of {a : Addr} {oe : Obj} {cls : Value} {d : Option Addr} {A : Around} (hz : L2N.Zn cls d oe) (hf : ∃ vs, oe.data = .fields vs) : Hot1 (A.mark (some (.ref a))) (a, oe) := by
  obtain ⟨vs, hv⟩ := hf
  exact ⟨rfl, vs, hv, hz.2.2 vs hv⟩
end
def partsD (k : Int) (y z : PyData) : List PyData := if k < 4 then [] else if k < 12 then [y] else [y, z]
theorem parts_cut (k : Int) (y z : V) : cutV [y] none (some (if decide (3 < k) = true then 1 else 0)) ++ cutV [z] none (some (if decide (11 < k) = true then 1 else 0)) = partsV k y z := by
  unfold partsV
  by_cases h1 : k < 4
  · rw [if_pos h1, decide_eq_false (show ¬ 3 < k by omega), decide_eq_false (show ¬ 11 < k by omega)]
    rfl
  · rw [if_neg h1, decide_eq_true (show 3 < k by omega)]
    by_cases h2 : k < 12
    · rw [if_pos h2, decide_eq_false (show ¬ 11 < k by omega)]
      rfl
    · rw [if_neg h2, decide_eq_true (show 11 < k by omega)]
      rfl
theorem parts_dp {K : PySem.W.Frag} {H : Hp} {k : Int} {y z : V} {dy dz : PyData} (hy : Dp K H y dy) (hz : Dp K H z dz) : DpAll K H (partsV k y z) (partsD k dy dz) := by
  unfold partsV partsD
  split
  · exact .nil
  · split
    · exact .cons hy .nil
    · exact .cons hy (.cons hz .nil)
theorem bools_lay : ∀ bs : List Bool, PyData.canLayAll0 (bs.map .bool) = true
  | [] => by simp [PyData.canLayAll0]
  | b :: bs => by simp [PyData.canLayAll0, PyData.canLay0, bools_lay bs]
theorem bools_depth : ∀ bs : List Bool, PyData.depthAll (bs.map .bool) = 0
  | [] => by simp [PyData.depthAll]
  | b :: bs => by simp [PyData.depthAll, PyData.depth, bools_depth bs]
theorem bools_shaped (bs : List Bool) : SeqAt.shaped (.list (bs.map .bool)) = true := by
  unfold SeqAt.shaped
  rw [Bool.and_eq_true]
  exact ⟨by simp only [PyData.canLay0]; exact bools_lay bs, decide_eq_true (by simp only [PyData.depth, bools_depth]; decide)⟩
theorem bools_dp {K : PySem.W.Frag} {H : Hp} : ∀ bs : List Bool, DpAll K H (bs.map V.bl) (bs.map .bool)
  | [] => .nil
  | b :: bs => .cons (.bl b) (bools_dp bs)
theorem eqv_shaped {d : PyData} (h : SeqAt.shaped d = true) : PyData.eqv d d = true := by
  unfold SeqAt.shaped at h
  rw [Bool.and_eq_true] at h
  exact SeqAt.eqv_refl d h.1
def flagB (k : Int) : List Bool := [decide ((0 : Int) = k), decide ((1 : Int) = k), decide ((2 : Int) = k), decide ((3 : Int) = k), decide ((4 : Int) = k), decide ((5 : Int) = k), decide ((6 : Int) = k), decide ((7 : Int) = k), decide ((8 : Int) = k), decide ((9 : Int) = k), decide ((10 : Int) = k), decide ((11 : Int) = k), decide ((12 : Int) = k)]
section
variable {P : Program} {w : World} {K : PySem.W.Frag} {mg : Str → Option Value} {base : Heap}
def spRight (K : PySem.W.Frag) : Sp := fun vs H Q _ => ∃ (k : Int) (y z : V) (dy dz : PyData), vs = [.int k, y, z] ∧ 0 ≤ k ∧ k < 13 ∧ Dp K H y dy ∧ Dp K H z dz ∧ (∀ k, SeqAt.shaped (.list (partsD k dy dz)) = true) ∧ ∀ H', Same H H' → Q (.bl true) H'
theorem scRight : FnScope ["_law_k", "_law_one", "_law_two", "_law_good", "_law_due", "_law_e", "_law_other"] ["_law_k", "_law_one", "_law_two"] (defScope sRight) := ⟨rfl, rfl, rfl, by decide +kernel, rfl, by decide +kernel, by decide +kernel⟩
theorem ok_right {c : Int → Addr} {hE : Addr} (D : Dat K mg "_law_right" sRight) (T : Fr mg) (Y : Ert K c hE) (gE : mg "HandError" = some (.ref hE)) (FT : Fn P w K mg base (L2N.CX P w) 4 "_law_thrown" (spThrown c)) (FC : FQ P w K mg base 1 "_law_classes" (spClasses c)) (FP : FQ P w K mg base 1 "_law_parts" (spParts c)) : Fn P w K mg base CX0 5 "_law_right" (spRight K) := by
  refine Fn.of0 D scRight (fun _ _ _ _ _ _ us hl => match us, hl with | [_, _, _], _ => rfl) (fun vs H Q E h => ?_) (fun f cdv A outer s H vs Q E hr h => ?_)
  · obtain ⟨k, y, z, dy, dz, rfl, _⟩ := h
    rfl
  · obtain ⟨k, y, z, dy, dz, rfl, h0, h13, hy, hz', sh, kk⟩ := h
    refine ⟨_, (pss_cons (ps_set (i := 3) scRight.nd rfl (Or.inl rfl) pe_bl)
      (pss_cons (ps_set (i := 4) scRight.nd rfl (Or.inl rfl) (pe_op op_cat (pe_slice (slL (K := K)) (pe_lst (pa_cons (pv 1) pa_nil)) po_none (po_some (pe_callTy call_int1 (by rfl) (T.fr "int" (by decide +kernel)) (by decide +kernel) (pa_cons (pe_cmpR op_gt (pv 0) pe_int (nomark _)) pa_nil)))) (pe_slice (slL (K := K)) (pe_lst (pa_cons (pv 2) pa_nil)) po_none (po_some (pe_callTy call_int1 (by rfl) (T.fr "int" (by decide +kernel)) (by decide +kernel) (pa_cons (pe_cmpR op_gt (pv 0) pe_int (nomark _)) pa_nil))))))
      (pss_cons (L2N.ps_try_as (i := 5) rfl rfl scRight.nd rfl rfl ⟨rfl, by decide, .inl gE⟩ takes_noneN (fun W pn xe tk own => (pss_one (ps_expr (pfS FT hr (by decide) tk (pa_cons (pv 0) (pa_cons (pv 1) (pa_cons (pv 2) pa_nil))))))) (fun a oe cls d pn hz hf => (pss_cons (ps_set (i := 3) scRight.nd rfl (Or.inl rfl) (pe_and (pe_callB (call_isS (K := K) hz.zc hf) (by rfl) (T.fr "isinstance" (by decide +kernel)) (by decide +kernel) (pa_cons (pv 5) (pa_cons (pe_bltn (v := .ty "ValueError") (u := .type "ValueError") (by rfl) (T.fr "ValueError" (by decide +kernel)) (by decide +kernel) rfl) pa_nil))) (pe_one (pe_cmpR (oEqD (K := K) hr.units) (pfQ FC (roomH_mark (hr.mono (by decide)) _) hz.zc hf (pa_cons (pv 5) pa_nil)) (pe_lcQ (own := [("_law_other", 6)]) (g := gName 6) (p := (a, oe)) (by exact hot_of hz hf) (by exact List.mem_cons_self ..) scRight.nd (pi_range1H (by rfl) (T.fr "range" (by decide +kernel)) (pa_cons pe_int pa_nil)) (blkOk_by (own := [("_law_other", 6)]) (N := ["_law_k", "_law_one", "_law_two", "_law_good", "_law_due", "_law_e", "_law_other"]) (sc := defScope sRight) (by decide +kernel)) (fun _ _ _ _ _ => (pg_name (i := 6) scRight.nd rfl (Or.inl rfl))) (fun _ _ _ _ _ => pts_nil) (fun _ _ _ _ _ => (pe_cmpR op_eq (pv 6) (pv 0) (nomark _)))) (nomark _)))))
      (pss_one (ps_set (i := 3) scRight.nd rfl (Or.inl rfl) (pe_and (pv 3) (pe_one (pe_cmpR (oEqD (K := K) hr.units) (pfQ FP (roomH_mark (hr.mono (by decide)) _) hz.zc hf (pa_cons (pv 0) (pa_cons (pv 5) pa_nil))) (pv 4) (nomark _)))))))))
      (pss_one (ps_ret (pv 3)))))), ?_⟩
    refine ⟨_, rfl, by show 1 ≤ sizeLine; decide, fun q1 hq1 => ?_⟩
    refine ⟨_, rfl, _, _, rfl, rfl, .inr ⟨_, rfl, _, rfl, q1, _, rfl, SqL.of upd_same, fun q2 hq2 => ?_⟩⟩
    have s2 : Same H (upd (upd H q1 (.lst [y])) q2 (.lst (cutV [y] none (some (if decide (3 < k) = true then 1 else 0))))) := same_new (same_new (Same.refl H) hq1) hq2
    have e2 : upd (upd H q1 (.lst [y])) q2 (.lst (cutV [y] none (some (if decide (3 < k) = true then 1 else 0)))) q2 = some (.lst (cutV [y] none (some (if decide (3 < k) = true then 1 else 0)))) := upd_same
    generalize upd (upd H q1 (.lst [y])) q2 (.lst (cutV [y] none (some (if decide (3 < k) = true then 1 else 0)))) = H2 at s2 e2 ⊢
    refine ⟨_, rfl, by show 1 ≤ sizeLine; decide, fun q3 hq3 => ?_⟩
    refine ⟨_, rfl, _, _, rfl, rfl, .inr ⟨_, rfl, _, rfl, q3, _, rfl, SqL.of upd_same, fun q4 hq4 => ?_⟩⟩
    have s4 : Same H2 (upd (upd H2 q3 (.lst [z])) q4 (.lst (cutV [z] none (some (if decide (11 < k) = true then 1 else 0))))) := same_new (same_new (Same.refl H2) hq3) hq4
    have e4 : upd (upd H2 q3 (.lst [z])) q4 (.lst (cutV [z] none (some (if decide (11 < k) = true then 1 else 0)))) q4 = some (.lst (cutV [z] none (some (if decide (11 < k) = true then 1 else 0)))) := upd_same
    generalize upd (upd H2 q3 (.lst [z])) q4 (.lst (cutV [z] none (some (if decide (11 < k) = true then 1 else 0)))) = H4 at s4 e4 ⊢
    have l1 : (cutV [y] none (some (if decide (3 < k) = true then 1 else 0))).length ≤ 1 := cutV_length _ _ _
    have l2 : (cutV [z] none (some (if decide (11 < k) = true then 1 else 0))).length ≤ 1 := cutV_length _ _ _
    refine ⟨q2, q4, _, _, rfl, rfl, s4 _ _ e2, e4, Nat.le_trans (Nat.add_le_add l1 l2) (by decide), fun du hdu => ?_⟩
    rw [parts_cut]
    have s5 : Same H (upd H4 du (.lst (partsV k y z))) := s2.trans (s4.trans (same_new (Same.refl H4) hdu))
    have e5 : upd H4 du (.lst (partsV k y z)) du = some (.lst (partsV k y z)) := upd_same
    show tSeq _ _ _ [some (.int k), some y, some z, some (.bl false), some (.ref du), none, none] (upd H4 du (.lst (partsV k y z)))
    generalize upd H4 du (.lst (partsV k y z)) = H5 at s5 e5
    refine ⟨_, rfl, _, rfl, _, rfl, k, y, z, rfl, h0, h13, ?_⟩
    generalize eW : WE _ _ = W
    have S : ∀ d Hx, Same H5 Hx → (∀ dd, d = some dd → ∃ fs, Hx dd = some (.xd fs)) → Fielded k d y z Hx → W (.ref (c k)) d Hx := fun d Hx sx hd hfi => by
      subst eW
      refine ⟨true, Y.exm k h0 h13, fun _ a ha => ?_, fun z => Bool.noConfusion z⟩
      refine ⟨_, rfl, c k, .ty "ValueError", .type "ValueError", true, rfl, rfl, Y.ec k h0 h13, fun u hu => hu, Y.ve k h0 h13, hd, _, rfl, ?_⟩
      refine iteT ?_
      refine ⟨_, rfl, fun oe hz hf => ⟨k, d, rfl, h0, h13, ⟨hz, hf, hd⟩, fun H6 q6 s6 e6 => ?_⟩⟩
      refine ⟨13, rfl, by decide, by decide, fun D hD => ?_⟩
      refine lc_range (lo := 0) (n := 13) (Cv H6 D fun i => ((List.range i).map fun (j : Nat) => V.bl (decide ((j : Int) = k)))) (cv0 hD rfl) ?_ ?_
      · rintro i H7 hi p
        refine ⟨rfl, ?_⟩
        refine lc_yes ?_
        refine ⟨_, rfl, _, rfl, rfl, ?_⟩
        have ed : decide (V.int (0 + (i : Int)) = V.int k) = decide ((i : Int) = k) := by
          rw [Int.zero_add]
          exact decide_eq_decide.mpr ⟨V.int.inj, fun e => by rw [e]⟩
        show ∃ acc, H7 D = some (.lst acc) ∧ acc.length < sizeLine ∧ Cv H6 D (fun i => ((List.range i).map fun (j : Nat) => V.bl (decide ((j : Int) = k)))) (i + 1) (upd H7 D (.lst (acc ++ [.bl (decide (V.int (0 + (i : Int)) = V.int k))])))
        rw [ed]
        refine cv_yes hD p.1 p.2 ?_ ?_
        · simp only [List.length_map, List.length_range]
          omega
        · show (List.range (i + 1)).map _ = _
          rw [List.range_succ, List.map_append]
          rfl
      · rintro H7 p
        have e7 : H7 D = some (.lst ((flagB k).map V.bl)) := p.2
        have f7 : H7 q6 = some (.lst ((flagB k).map V.bl)) := p.1 _ _ e6
        refine ⟨.list ((flagB k).map .bool), .list ((flagB k).map .bool), .lst (SqL.of f7) (bools_dp _), .lst (SqL.of e7) (bools_dp _), bools_shaped _, bools_shaped _, ?_⟩
        rw [eqv_shaped (bools_shaped _)]
        have sx7 : Same Hx H7 := s6.trans p.1
        refine ⟨_, rfl, _, rfl, ?_⟩
        refine iteT ?_
        refine ⟨_, rfl, _, rfl, fun oe hz hf => ⟨k, d, y, z, rfl, h0, h13, ⟨hz, hf, fun dd e => let ⟨fs, h⟩ := hd dd e; ⟨fs, sx7 _ _ h⟩⟩, fun h4 => ?_, fun H8 q8 s8 e8 => ?_⟩⟩
        · obtain ⟨dd, e1, e2, e3⟩ := hfi h4
          exact ⟨dd, e1, fun h => sx7 _ _ (e2 h), fun h => sx7 _ _ (e3 h)⟩
        · have s08 := s5.trans (sx.trans (sx7.trans s8))
          refine ⟨_, rfl, .list (partsD k dy dz), .list (partsD k dy dz), .lst (SqL.of e8) (parts_dp (Dp.same s08 _ hy) (Dp.same s08 _ hz')), .lst (SqL.of ((sx.trans (sx7.trans s8)) _ _ e5)) (parts_dp (Dp.same s08 _ hy) (Dp.same s08 _ hz')), sh k, sh k, ?_⟩
          rw [eqv_shaped (sh k)]
          exact ⟨_, rfl, kk H8 s08⟩
    unfold Thrown
    by_cases h4 : k < 4
    · rw [if_pos h4]
      exact S none H5 (Same.refl H5) (fun dd e => by cases e) (fun h => by omega)
    · rw [if_neg h4]
      by_cases h12 : k < 12
      · rw [if_pos h12]
        intro d hd
        exact S (some d) _ (same_new (Same.refl H5) hd) (fun dd e => by cases e; exact ⟨_, upd_same⟩) (fun _ => ⟨d, rfl, fun _ => upd_same, fun h => by omega⟩)
      · rw [if_neg h12]
        intro d hd
        exact S (some d) _ (same_new (Same.refl H5) hd) (fun dd e => by cases e; exact ⟨_, upd_same⟩) (fun _ => ⟨d, rfl, fun h => by omega, fun _ => upd_same⟩)
end
end HP

namespace HP
open PySem PySem.Spec PyProof.Rows L2
def ones : List PyData := [.str "a", .str "", .int 7, .tuple [.str "top", .str "a"], .none]
def twos : List PyData := [.tuple [], .str "kind", .int 0, .none]
def pairOk (x y : PyData) : Bool := SeqAt.shaped (.list []) && (SeqAt.shaped (.list [x]) && SeqAt.shaped (.list [x, y]))
theorem pairs_ok : (ones.all fun x => twos.all fun y => pairOk x y) = true := by decide +kernel
theorem shaped_parts {x y : PyData} (hx : x ∈ ones) (hy : y ∈ twos) (k : Int) : SeqAt.shaped (.list (partsD k x y)) = true := by
  have h := List.all_eq_true.mp (List.all_eq_true.mp pairs_ok x hx) y hy
  unfold pairOk at h
  rw [Bool.and_eq_true, Bool.and_eq_true] at h
  unfold partsD
  split
  · exact h.1
  · split
    · exact h.2.1
    · exact h.2.2
section
variable {P : Program} {w : World} {K : PySem.W.Frag} {mg : Str → Option Value} {base : Heap}
def AmongP (K : PySem.W.Frag) (l : List PyData) (H : Hp) (v : V) : Prop := ∃ d, d ∈ l ∧ Dp K H v d
theorem amongM {l : List PyData} : Mono (AmongP K l) := fun _ _ _ s ⟨d, h, q⟩ => ⟨d, h, Dp.same s _ q⟩
def spLaw (K : PySem.W.Frag) : Sp := fun vs H Q _ => ∃ (a : Addr) (ns : List Int), vs = [.ref a] ∧ SqL K H a (ns.map V.int) ∧ ns.length ≤ 63 ∧ ∀ H', Q (.bl true) H'
theorem scLaw : FnScope ["_law_script", "_law_h", "_law_one", "_law_two", "_law_k"] ["_law_script"] (defScope sLaw) := ⟨rfl, rfl, rfl, by decide +kernel, rfl, by decide +kernel, by decide +kernel⟩
theorem ok_law {f : Addr} {fd : FuncData} (F : FunD K "law" "law" (defArgs sLaw) (defBody sLaw) (defScope sLaw) [] [] f fd) (T : Fr mg) (FM : Fn P w K mg base CX0 1 "_law_mix" (spMix K)) (FN : Fn P w K mg base CX0 1 "_law_next" spNext) (FR : Fn P w K mg base CX0 5 "_law_right" (spRight K)) : FnOk P w K mg base CX0 6 f fd ["_law_script"] (spLaw K) := by
  refine F.ok scLaw (fun vs H Q E h => ?_) (fun cdv A outer s0 H vs Q E hr h => ?_)
  · obtain ⟨a, ns, rfl, _⟩ := h
    rfl
  · obtain ⟨a, ns, rfl, hS, hlen, k⟩ := h
    suffices hh : ∃ t, PSs (cxOf CX0 P w K mg base _ "law" (defScope sLaw) f cdv A outer s0 H E).nox (defBody sLaw) t ∧ t { nx := fun _ H' => Q .non H', rt := Q } (L2.start _ [.ref a]) H by
      obtain ⟨t, h1, h2⟩ := hh
      exact ⟨t, h1.nox, h2⟩
    refine ⟨_, (pss_cons (ps_set (i := 1) scLaw.nd rfl (Or.inl rfl) (pf FM hr (by decide) (pa_cons (pv 0) (pa_cons pe_int pa_nil))))
      (pss_cons (ps_set (i := 2) scLaw.nd rfl (Or.inr rfl) (pe_ix (ixL (K := K)) (pe_lst (pa_cons pe_str (pa_cons pe_str (pa_cons pe_int (pa_cons (pe_tup (pa_cons pe_str (pa_cons pe_str pa_nil))) (pa_cons pe_non pa_nil)))))) (pf FN hr (by decide) (pa_cons (pv 1) (pa_cons pe_int pa_nil))) (fun _ _ => rfl)))
      (pss_cons (ps_set (i := 3) scLaw.nd rfl (Or.inr rfl) (pe_ix (ixL (K := K)) (pe_lst (pa_cons (pe_tup pa_nil) (pa_cons pe_str (pa_cons pe_int (pa_cons pe_non pa_nil))))) (pf FN hr (by decide) (pa_cons (pv 1) (pa_cons pe_int pa_nil))) (fun _ _ => rfl)))
      (pss_one (ps_ret (pe_callB (kAll (K := K) rfl) (by rfl) (T.fr "all" (by decide +kernel)) (by decide +kernel) (pa_cons (pe_lc (own := [("_law_k", 4)]) (g := gName 4) (by rfl) scLaw.nd (pi_range1 (by rfl) (T.fr "range" (by decide +kernel)) (pa_cons pe_int pa_nil)) (blkOk_by (own := [("_law_k", 4)]) (N := ["_law_script", "_law_h", "_law_one", "_law_two", "_law_k"]) (sc := defScope sLaw) (by decide +kernel)) (fun _ _ _ _ _ => (pg_name (i := 4) scLaw.nd rfl (Or.inl rfl))) (fun _ _ _ _ _ => pts_nil) (fun _ _ _ _ _ => (pf FR hr (by decide) (pa_cons (pv 4) (pa_cons (pv 2) (pa_cons (pv 3) pa_nil)))))) pa_nil))))))), ?_⟩
    refine ⟨_, rfl, a, ns, 20, rfl, hS, hlen, fun H1 p l s1 hp hl S1 => ?_⟩
    obtain ⟨xp, hxp⟩ := S1.pl
    have mono := amongM (K := K) (l := ones)
    refine seqP (K := K) (a := p) (Pr := AmongP K ones) (n := 5) mono rfl S1 hxp rfl (by decide) (by decide) (la_cons mono (lay_of (ld_str (x := "a")) (fun _ _ h => ⟨_, (by unfold ones; simp), h⟩)) (la_cons mono (lay_of (ld_str (x := "")) (fun _ _ h => ⟨_, (by unfold ones; simp), h⟩)) (la_cons mono (lay_of (ld_int (i := 7)) (fun _ _ h => ⟨_, (by unfold ones; simp), h⟩)) (la_cons mono (lay_of (ld_tup (lds_cons (ld_str (x := "top")) (lds_cons (ld_str (x := "a")) lds_nil)) (by show 2 ≤ sizeLine; decide)) (fun _ _ h => ⟨_, (by unfold ones; simp), h⟩)) (la_cons mono (lay_of ld_non (fun _ _ h => ⟨_, (by unfold ones; simp), h⟩)) la_nil))))) fun H2 v2 S2 K2 h2 => ?_
    obtain ⟨xq, hxq⟩ := S2.pl
    have mono := amongM (K := K) (l := twos)
    refine seqP (K := K) (a := p) (Pr := AmongP K twos) (n := 4) mono rfl S2 hxq rfl (by decide) (by decide) (la_cons mono (lay_of (ld_tup lds_nil (by show 0 ≤ sizeLine; decide)) (fun _ _ h => ⟨_, (by unfold twos; simp), h⟩)) (la_cons mono (lay_of (ld_str (x := "kind")) (fun _ _ h => ⟨_, (by unfold twos; simp), h⟩)) (la_cons mono (lay_of (ld_int (i := 0)) (fun _ _ h => ⟨_, (by unfold twos; simp), h⟩)) (la_cons mono (lay_of ld_non (fun _ _ h => ⟨_, (by unfold twos; simp), h⟩)) la_nil)))) fun H3 v3 S3 K3 h3 => ?_
    obtain ⟨d2, m2, hd2⟩ := h2
    obtain ⟨d3, m3, hd3⟩ := h3
    have hd2 : Dp K H3 v2 d2 := Dp.same ((cut_keep K3).trans cut_same) _ hd2
    have hd3 : Dp K H3 v3 d3 := Dp.same cut_same _ hd3
    refine ⟨13, rfl, by decide, by decide, fun D hD => ?_⟩
    refine lc_range (lo := 0) (n := 13) (Cv H3 D fun i => List.replicate i (V.bl true)) (cv0 hD rfl) ?_ ?_
    · rintro i H4 hi q
      refine ⟨rfl, ?_⟩
      refine lc_yes ?_
      refine ⟨_, rfl, _, rfl, _, rfl, _, v2, v3, d2, d3, rfl, by omega, by omega, Dp.same q.1 _ hd2, Dp.same q.1 _ hd3, shaped_parts m2 m3, fun H5 s5 => ?_⟩
      refine cv_yes hD (q.1.trans s5) (s5 _ _ q.2) ?_ ?_
      · rw [List.length_replicate]
        omega
      · exact List.replicate_succ'
    · rintro H4 q
      have e : H4 D = some (.lst ((List.replicate 13 true).map V.bl)) := by rw [List.map_replicate]; exact q.2
      refine ⟨D, List.replicate 13 true, rfl, SqL.of e, ?_⟩
      exact k H4
end
end HP

set_option maxHeartbeats 0
namespace HP
open PySem PySem.Spec PyProof.Rows L2
def excCB (K : PySem.W.Frag) (D : Addr) : Bool := ea (PySem.W.findIn K (.ref D) "__getattribute__") (some (some (.builtin "BaseException.__getattribute__"))) && (ea (PySem.W.findIn K (.ref D) "__getattr__") (some none) && (decide (PySem.W.subIn K (.ref D) (.type "BaseException") = some true) && (PySem.W.hasDictIn K D &&
  (ea (PySem.W.findIn K (.ref D) "__class__") (some (some (.builtin "object.__class__"))) && (ea (PySem.W.specialIn K (.builtin "object.__class__") "__get__") (some (some (.builtin "getset_descriptor.__get__"))) && (decide (PySem.W.takesIn K (.builtin "object.__class__") = some true) && decide (PySem.W.mroIn K D (.type "object") = some true)))))))
theorem excCB_ok {K : PySem.W.Frag} {D : Addr} (c : excCB K D = true) : ExcC K D := by
  obtain ⟨c1, c⟩ := He.ba c
  obtain ⟨c2, c⟩ := He.ba c
  obtain ⟨c3, c⟩ := He.ba c
  obtain ⟨c4, c⟩ := He.ba c
  obtain ⟨c5, c⟩ := He.ba c
  obtain ⟨c6, c⟩ := He.ba c
  obtain ⟨c7, c8⟩ := He.ba c
  exact ⟨ea_ok c1, ea_ok c2, of_decide_eq_true c3, c4, ea_ok c5, ea_ok c6, of_decide_eq_true c7, of_decide_eq_true c8⟩
def names13 : List Str := ["InvalidThings", "InvalidValues", "InvalidWords", "NotComparable", "InvalidDeed", "UnknownKind", "UnknownIndex", "InvalidRule", "UnknownWord", "UnknownDeed", "Possible", "UnknownNote", "InvalidText"]
def ck (K : PySem.W.Frag) (k : Int) : Addr := He.ga K (names13.getD k.toNat "InvalidText")
def ks : List Nat := [0, 1, 2, 3, 4, 5, 6, 7, 8, 9, 10, 11, 12]
theorem ks_mem {k : Int} (h0 : 0 ≤ k) (h1 : k < 13) : ∃ n ∈ ks, k = (n : Int) := by
  have h : k = 0 ∨ k = 1 ∨ k = 2 ∨ k = 3 ∨ k = 4 ∨ k = 5 ∨ k = 6 ∨ k = 7 ∨ k = 8 ∨ k = 9 ∨ k = 10 ∨ k = 11 ∨ k = 12 := by omega
  refine ⟨k.toNat, ?_, by omega⟩
  rcases h with rfl | rfl | rfl | rfl | rfl | rfl | rfl | rfl | rfl | rfl | rfl | rfl | rfl <;> decide
def ertB (K : PySem.W.Frag) : Bool := (ks.all fun n => excCB K (ck K n)) && ((ks.all fun n => ks.all fun m => decide (PySem.W.kitOne K (.ref (ck K n)) (.ref (ck K m)) = some (decide ((m : Int) = (n : Int))))) && ((ks.all fun n => decide (PySem.W.kitOne K (.ref (ck K n)) (.type "ValueError") = some true)) &&
  ((ks.all fun n => decide (PySem.W.exmOne K (.ref (ck K n)) (.ref (He.ga K "HandError")) = some true)) && ((ks.all fun n => decide (n < 4) || xfB K (ck K n)) && ((ks.all fun n => (decide (n < 4) || decide (n = 12)) || ea (PySem.W.findIn K (.ref (ck K n)) (fieldOf n)) (some none)) &&
  (ea (PySem.W.findIn K (.ref (ck K 12)) "line") (some none) && ea (PySem.W.findIn K (.ref (ck K 12)) "word") (some none)))))))
theorem ert_ok {K : PySem.W.Frag} (c : ertB K = true) : Ert K (ck K) (He.ga K "HandError") := by
  obtain ⟨c1, c⟩ := He.ba c
  obtain ⟨c2, c⟩ := He.ba c
  obtain ⟨c3, c⟩ := He.ba c
  obtain ⟨c4, c⟩ := He.ba c
  obtain ⟨c5, c⟩ := He.ba c
  obtain ⟨c6, c⟩ := He.ba c
  obtain ⟨c7, c8⟩ := He.ba c
  refine ⟨fun k h0 h1 => ?_, fun k j h0 h1 g0 g1 => ?_, fun k h0 h1 => ?_, fun k h0 h1 => ?_, fun k h0 h1 => ?_, fun k h0 h1 => ?_, ea_ok c7, ea_ok c8⟩
  · obtain ⟨n, hn, rfl⟩ := ks_mem h0 h1
    exact excCB_ok (List.all_eq_true.mp c1 n hn)
  · obtain ⟨n, hn, rfl⟩ := ks_mem h0 h1
    obtain ⟨m, hm, rfl⟩ := ks_mem g0 g1
    exact of_decide_eq_true (List.all_eq_true.mp (List.all_eq_true.mp c2 n hn) m hm)
  · obtain ⟨n, hn, rfl⟩ := ks_mem h0 h1
    exact of_decide_eq_true (List.all_eq_true.mp c3 n hn)
  · obtain ⟨n, hn, rfl⟩ := ks_mem h0 h1
    exact of_decide_eq_true (List.all_eq_true.mp c4 n hn)
  · obtain ⟨n, hn, rfl⟩ := ks_mem (show 0 ≤ k by omega) h1
    have z := List.all_eq_true.mp c5 n hn
    rw [Bool.or_eq_true] at z
    exact z.elim (fun z => absurd (of_decide_eq_true z) (by omega)) xfB_ok
  · obtain ⟨n, hn, rfl⟩ := ks_mem (show 0 ≤ k by omega) (show k < 13 by omega)
    have z := List.all_eq_true.mp c6 n hn
    rw [Bool.or_eq_true, Bool.or_eq_true] at z
    rcases z with (z | z) | z
    · exact absurd (of_decide_eq_true z) (by omega)
    · exact absurd (of_decide_eq_true z) (by omega)
    · exact ea_ok z
abbrev sI4 : Stmt := inClass (top 7) 0
abbrev sI5 : Stmt := inClass (top 12) 0
abbrev sI6 : Stmt := inClass (top 13) 0
abbrev sI7 : Stmt := inClass (top 4) 0
abbrev sI8 : Stmt := inClass (top 6) 0
abbrev sI9 : Stmt := inClass (top 8) 0
abbrev sI10 : Stmt := inClass (top 9) 0
abbrev sI11 : Stmt := inClass (top 11) 0
abbrev sI12 : Stmt := inClass (top 14) 0
section
variable {P : Program} {w : World} {K : PySem.W.Frag} {mg : Str → Option Value} {base : Heap}
theorem scI4 : FnScope ["self", "index"] ["self", "index"] (defScope sI4) := ⟨rfl, rfl, rfl, by decide +kernel, rfl, by decide +kernel, by decide +kernel⟩
theorem ok_i4 {C fI : Addr} {fd : FuncData} (F : FunD K "__init__" "InvalidDeed.__init__" (defArgs sI4) (defBody sI4) (defScope sI4) [] [] fI fd) (O : OexC K C) (hno : PySem.W.findIn K (.ref C) "index" = some none) : FnOk P w K mg base CX0 1 fI fd ["self", "index"] (spInit1 C "index") := by
  refine F.ok scI4 (fun vs H Q E h => ?_) (fun cdv A outer s0 H vs Q E hr h => ?_)
  · obtain ⟨a, y, rfl, _⟩ := h
    rfl
  · obtain ⟨a, y, rfl, ha, k⟩ := h
    refine ⟨_, (pss_one (ps_ost (pv 0) (pv 1))), ?_⟩
    exact ⟨_, rfl, _, rfl, a, C, rfl, O, hno, .inl ⟨ha, fun dx h1 h2 => k dx h1 h2⟩⟩
theorem scI5 : FnScope ["self", "index"] ["self", "index"] (defScope sI5) := ⟨rfl, rfl, rfl, by decide +kernel, rfl, by decide +kernel, by decide +kernel⟩
theorem ok_i5 {C fI : Addr} {fd : FuncData} (F : FunD K "__init__" "UnknownKind.__init__" (defArgs sI5) (defBody sI5) (defScope sI5) [] [] fI fd) (O : OexC K C) (hno : PySem.W.findIn K (.ref C) "index" = some none) : FnOk P w K mg base CX0 1 fI fd ["self", "index"] (spInit1 C "index") := by
  refine F.ok scI5 (fun vs H Q E h => ?_) (fun cdv A outer s0 H vs Q E hr h => ?_)
  · obtain ⟨a, y, rfl, _⟩ := h
    rfl
  · obtain ⟨a, y, rfl, ha, k⟩ := h
    refine ⟨_, (pss_one (ps_ost (pv 0) (pv 1))), ?_⟩
    exact ⟨_, rfl, _, rfl, a, C, rfl, O, hno, .inl ⟨ha, fun dx h1 h2 => k dx h1 h2⟩⟩
theorem scI6 : FnScope ["self", "index"] ["self", "index"] (defScope sI6) := ⟨rfl, rfl, rfl, by decide +kernel, rfl, by decide +kernel, by decide +kernel⟩
theorem ok_i6 {C fI : Addr} {fd : FuncData} (F : FunD K "__init__" "UnknownIndex.__init__" (defArgs sI6) (defBody sI6) (defScope sI6) [] [] fI fd) (O : OexC K C) (hno : PySem.W.findIn K (.ref C) "index" = some none) : FnOk P w K mg base CX0 1 fI fd ["self", "index"] (spInit1 C "index") := by
  refine F.ok scI6 (fun vs H Q E h => ?_) (fun cdv A outer s0 H vs Q E hr h => ?_)
  · obtain ⟨a, y, rfl, _⟩ := h
    rfl
  · obtain ⟨a, y, rfl, ha, k⟩ := h
    refine ⟨_, (pss_one (ps_ost (pv 0) (pv 1))), ?_⟩
    exact ⟨_, rfl, _, rfl, a, C, rfl, O, hno, .inl ⟨ha, fun dx h1 h2 => k dx h1 h2⟩⟩
theorem scI7 : FnScope ["self", "part"] ["self", "part"] (defScope sI7) := ⟨rfl, rfl, rfl, by decide +kernel, rfl, by decide +kernel, by decide +kernel⟩
theorem ok_i7 {C fI : Addr} {fd : FuncData} (F : FunD K "__init__" "InvalidRule.__init__" (defArgs sI7) (defBody sI7) (defScope sI7) [] [] fI fd) (O : OexC K C) (hno : PySem.W.findIn K (.ref C) "part" = some none) : FnOk P w K mg base CX0 1 fI fd ["self", "part"] (spInit1 C "part") := by
  refine F.ok scI7 (fun vs H Q E h => ?_) (fun cdv A outer s0 H vs Q E hr h => ?_)
  · obtain ⟨a, y, rfl, _⟩ := h
    rfl
  · obtain ⟨a, y, rfl, ha, k⟩ := h
    refine ⟨_, (pss_one (ps_ost (pv 0) (pv 1))), ?_⟩
    exact ⟨_, rfl, _, rfl, a, C, rfl, O, hno, .inl ⟨ha, fun dx h1 h2 => k dx h1 h2⟩⟩
theorem scI8 : FnScope ["self", "word"] ["self", "word"] (defScope sI8) := ⟨rfl, rfl, rfl, by decide +kernel, rfl, by decide +kernel, by decide +kernel⟩
theorem ok_i8 {C fI : Addr} {fd : FuncData} (F : FunD K "__init__" "UnknownWord.__init__" (defArgs sI8) (defBody sI8) (defScope sI8) [] [] fI fd) (O : OexC K C) (hno : PySem.W.findIn K (.ref C) "word" = some none) : FnOk P w K mg base CX0 1 fI fd ["self", "word"] (spInit1 C "word") := by
  refine F.ok scI8 (fun vs H Q E h => ?_) (fun cdv A outer s0 H vs Q E hr h => ?_)
  · obtain ⟨a, y, rfl, _⟩ := h
    rfl
  · obtain ⟨a, y, rfl, ha, k⟩ := h
    refine ⟨_, (pss_one (ps_ost (pv 0) (pv 1))), ?_⟩
    exact ⟨_, rfl, _, rfl, a, C, rfl, O, hno, .inl ⟨ha, fun dx h1 h2 => k dx h1 h2⟩⟩
theorem scI9 : FnScope ["self", "deed"] ["self", "deed"] (defScope sI9) := ⟨rfl, rfl, rfl, by decide +kernel, rfl, by decide +kernel, by decide +kernel⟩
theorem ok_i9 {C fI : Addr} {fd : FuncData} (F : FunD K "__init__" "UnknownDeed.__init__" (defArgs sI9) (defBody sI9) (defScope sI9) [] [] fI fd) (O : OexC K C) (hno : PySem.W.findIn K (.ref C) "deed" = some none) : FnOk P w K mg base CX0 1 fI fd ["self", "deed"] (spInit1 C "deed") := by
  refine F.ok scI9 (fun vs H Q E h => ?_) (fun cdv A outer s0 H vs Q E hr h => ?_)
  · obtain ⟨a, y, rfl, _⟩ := h
    rfl
  · obtain ⟨a, y, rfl, ha, k⟩ := h
    refine ⟨_, (pss_one (ps_ost (pv 0) (pv 1))), ?_⟩
    exact ⟨_, rfl, _, rfl, a, C, rfl, O, hno, .inl ⟨ha, fun dx h1 h2 => k dx h1 h2⟩⟩
theorem scI10 : FnScope ["self", "row"] ["self", "row"] (defScope sI10) := ⟨rfl, rfl, rfl, by decide +kernel, rfl, by decide +kernel, by decide +kernel⟩
theorem ok_i10 {C fI : Addr} {fd : FuncData} (F : FunD K "__init__" "Possible.__init__" (defArgs sI10) (defBody sI10) (defScope sI10) [] [] fI fd) (O : OexC K C) (hno : PySem.W.findIn K (.ref C) "row" = some none) : FnOk P w K mg base CX0 1 fI fd ["self", "row"] (spInit1 C "row") := by
  refine F.ok scI10 (fun vs H Q E h => ?_) (fun cdv A outer s0 H vs Q E hr h => ?_)
  · obtain ⟨a, y, rfl, _⟩ := h
    rfl
  · obtain ⟨a, y, rfl, ha, k⟩ := h
    refine ⟨_, (pss_one (ps_ost (pv 0) (pv 1))), ?_⟩
    exact ⟨_, rfl, _, rfl, a, C, rfl, O, hno, .inl ⟨ha, fun dx h1 h2 => k dx h1 h2⟩⟩
theorem scI11 : FnScope ["self", "note"] ["self", "note"] (defScope sI11) := ⟨rfl, rfl, rfl, by decide +kernel, rfl, by decide +kernel, by decide +kernel⟩
theorem ok_i11 {C fI : Addr} {fd : FuncData} (F : FunD K "__init__" "UnknownNote.__init__" (defArgs sI11) (defBody sI11) (defScope sI11) [] [] fI fd) (O : OexC K C) (hno : PySem.W.findIn K (.ref C) "note" = some none) : FnOk P w K mg base CX0 1 fI fd ["self", "note"] (spInit1 C "note") := by
  refine F.ok scI11 (fun vs H Q E h => ?_) (fun cdv A outer s0 H vs Q E hr h => ?_)
  · obtain ⟨a, y, rfl, _⟩ := h
    rfl
  · obtain ⟨a, y, rfl, ha, k⟩ := h
    refine ⟨_, (pss_one (ps_ost (pv 0) (pv 1))), ?_⟩
    exact ⟨_, rfl, _, rfl, a, C, rfl, O, hno, .inl ⟨ha, fun dx h1 h2 => k dx h1 h2⟩⟩
theorem scI12 : FnScope ["self", "line", "word"] ["self", "line", "word"] (defScope sI12) := ⟨rfl, rfl, rfl, by decide +kernel, rfl, by decide +kernel, by decide +kernel⟩
theorem ok_i12 {C fI : Addr} {fd : FuncData} (F : FunD K "__init__" "InvalidText.__init__" (defArgs sI12) (defBody sI12) (defScope sI12) [] [] fI fd) (O : OexC K C) (n1 : PySem.W.findIn K (.ref C) "line" = some none) (n2 : PySem.W.findIn K (.ref C) "word" = some none) : FnOk P w K mg base CX0 1 fI fd ["self", "line", "word"] (spInit2 C "line" "word") := by
  refine F.ok scI12 (fun vs H Q E h => ?_) (fun cdv A outer s0 H vs Q E hr h => ?_)
  · obtain ⟨a, y, z, rfl, _⟩ := h
    rfl
  · obtain ⟨a, y, z, rfl, ha, k⟩ := h
    refine ⟨_, (pss_cons (ps_ost (pv 0) (pv 1))
      (pss_one (ps_ost (pv 0) (pv 2)))), ?_⟩
    refine ⟨_, rfl, _, rfl, a, C, rfl, O, n1, .inl ⟨ha, fun dx h1 h2 => ?_⟩⟩
    exact ⟨_, rfl, _, rfl, a, C, rfl, O, n2, .inr ⟨dx, _, upd_same, by rw [upd_ne h2, upd_same], by show 1 ≤ 900; decide, k dx h1 h2⟩⟩
end
end HP

set_option maxHeartbeats 0
namespace HP
open PySem PySem.Spec PyProof.Rows L2
def exB (K : PySem.W.Frag) : Bool := excB K "InvalidThings" && (excB K "InvalidValues" && (excB K "InvalidWords" && (excB K "NotComparable" && (exc1B K "InvalidDeed" "index" && (exc1B K "UnknownKind" "index" && (exc1B K "UnknownIndex" "index" && (exc1B K "InvalidRule" "part" && (exc1B K "UnknownWord" "word" && (exc1B K "UnknownDeed" "deed" && (exc1B K "Possible" "row" && (exc1B K "UnknownNote" "note" && (exc1B K "InvalidText" "line" && (ertB K)))))))))))))
def df0 : He.DefD := ⟨("_law_mix", none), "_law_mix", "_law_mix", defArgs sMix, defBody sMix, defScope sMix, [], []⟩
def df1 : He.DefD := ⟨("_law_next", none), "_law_next", "_law_next", defArgs sNext, defBody sNext, defScope sNext, [], []⟩
def df2 : He.DefD := ⟨("_law_bare", none), "_law_bare", "_law_bare", defArgs sBare, defBody sBare, defScope sBare, [], []⟩
def df3 : He.DefD := ⟨("_law_thrown", none), "_law_thrown", "_law_thrown", defArgs sThrown, defBody sThrown, defScope sThrown, [], []⟩
def df4 : He.DefD := ⟨("_law_classes", none), "_law_classes", "_law_classes", defArgs sClasses, defBody sClasses, defScope sClasses, [], []⟩
def df5 : He.DefD := ⟨("_law_parts", none), "_law_parts", "_law_parts", defArgs sParts, defBody sParts, defScope sParts, [], []⟩
def df6 : He.DefD := ⟨("_law_right", none), "_law_right", "_law_right", defArgs sRight, defBody sRight, defScope sRight, [], []⟩
def df7 : He.DefD := ⟨("law", none), "law", "law", defArgs sLaw, defBody sLaw, defScope sLaw, [], []⟩
def df8 : He.DefD := ⟨("InvalidDeed", some "__init__"), "__init__", "InvalidDeed.__init__", defArgs sI4, defBody sI4, defScope sI4, [], []⟩
def df9 : He.DefD := ⟨("UnknownKind", some "__init__"), "__init__", "UnknownKind.__init__", defArgs sI5, defBody sI5, defScope sI5, [], []⟩
def df10 : He.DefD := ⟨("UnknownIndex", some "__init__"), "__init__", "UnknownIndex.__init__", defArgs sI6, defBody sI6, defScope sI6, [], []⟩
def df11 : He.DefD := ⟨("InvalidRule", some "__init__"), "__init__", "InvalidRule.__init__", defArgs sI7, defBody sI7, defScope sI7, [], []⟩
def df12 : He.DefD := ⟨("UnknownWord", some "__init__"), "__init__", "UnknownWord.__init__", defArgs sI8, defBody sI8, defScope sI8, [], []⟩
def df13 : He.DefD := ⟨("UnknownDeed", some "__init__"), "__init__", "UnknownDeed.__init__", defArgs sI9, defBody sI9, defScope sI9, [], []⟩
def df14 : He.DefD := ⟨("Possible", some "__init__"), "__init__", "Possible.__init__", defArgs sI10, defBody sI10, defScope sI10, [], []⟩
def df15 : He.DefD := ⟨("UnknownNote", some "__init__"), "__init__", "UnknownNote.__init__", defArgs sI11, defBody sI11, defScope sI11, [], []⟩
def df16 : He.DefD := ⟨("InvalidText", some "__init__"), "__init__", "InvalidText.__init__", defArgs sI12, defBody sI12, defScope sI12, [], []⟩
def fnL : List He.DefD := [df0, df1, df2, df3, df4, df5, df6, df7, df8, df9, df10, df11, df12, df13, df14, df15, df16]
def faL : List He.Fa := [.glo "_law_mix", .glo "_law_next", .glo "_law_bare", .glo "_law_thrown", .glo "_law_classes", .glo "_law_parts", .glo "_law_right", .glo "law", .glo "HandError", .free "int", .free "list", .free "len", .free "max", .free "min", .free "isinstance", .free "sorted", .free "all", .free "any", .free "tuple", .free "set", .free "str", .free "bool", .free "dict", .free "range", .free "zip", .free "enumerate", .free "ValueError", .free "super"]
abbrev R : PySem.W.OpenRow := PySem.W.OpenLaw.row PySem.Challenge.rw_handplaced_k20_errors_apart
abbrev hk : PySem.W.Hook := He.hookX 5 faL fnL [] [] exB
def ob (s : PySem.W.SharedT) : He.AlX := He.obsX 5 faL fnL [] [] exB (HandSHeadRun.getT s)
theorem ob_eq (s : PySem.W.SharedT) : ob s = hk.obs s.abs := He.obsX_eq (HandSHeadRun.getT_eq s)
def loose : List PySem.Str := ["__name__", "HandError", "InvalidThings", "InvalidValues", "InvalidWords", "NotComparable", "InvalidDeed", "UnknownKind", "UnknownIndex", "InvalidRule", "UnknownWord", "UnknownDeed", "Possible", "UnknownNote", "InvalidText", "_law_mix", "_law_next", "_law_bare", "_law_thrown", "_law_classes", "_law_parts", "_law_right"]
theorem facts {P : Program} {w : World} {K : PySem.W.Frag} {h h0 : Heap} {mg : Str → Option Value} {f : Addr} (X : K.In h) (G : h.Ns mainGlobals mg) (hfa : mg ("law" : Str) = some (.ref f)) (c : He.SaysX faL fnL [] [] exB w h0 K) :
    ∃ fd : FuncData, (∀ (s : Shared) (v : Value), BindsTo s fd ⟨[v], []⟩ [("_law_script", v)]) ∧ ∀ base : Heap, K.In base → base.Ns mainGlobals mg → FnOk P w K mg base CX0 6 f fd ["_law_script"] (spLaw K) := by
  obtain ⟨fd0, F0⟩ := c.t.d.def_ 0 (d := df0) rfl
  obtain ⟨fd1, F1⟩ := c.t.d.def_ 1 (d := df1) rfl
  obtain ⟨fd2, F2⟩ := c.t.d.def_ 2 (d := df2) rfl
  obtain ⟨fd3, F3⟩ := c.t.d.def_ 3 (d := df3) rfl
  obtain ⟨fd4, F4⟩ := c.t.d.def_ 4 (d := df4) rfl
  obtain ⟨fd5, F5⟩ := c.t.d.def_ 5 (d := df5) rfl
  obtain ⟨fd6, F6⟩ := c.t.d.def_ 6 (d := df6) rfl
  obtain ⟨fd7, F7⟩ := c.t.d.def_ 7 (d := df7) rfl
  obtain ⟨fd8, F8⟩ := c.t.d.def_ 8 (d := df8) rfl
  obtain ⟨fd9, F9⟩ := c.t.d.def_ 9 (d := df9) rfl
  obtain ⟨fd10, F10⟩ := c.t.d.def_ 10 (d := df10) rfl
  obtain ⟨fd11, F11⟩ := c.t.d.def_ 11 (d := df11) rfl
  obtain ⟨fd12, F12⟩ := c.t.d.def_ 12 (d := df12) rfl
  obtain ⟨fd13, F13⟩ := c.t.d.def_ 13 (d := df13) rfl
  obtain ⟨fd14, F14⟩ := c.t.d.def_ 14 (d := df14) rfl
  obtain ⟨fd15, F15⟩ := c.t.d.def_ 15 (d := df15) rfl
  obtain ⟨fd16, F16⟩ := c.t.d.def_ 16 (d := df16) rfl
  have cm : exB K = true := c.more
  obtain ⟨m0, cm⟩ := He.ba cm
  obtain ⟨m1, cm⟩ := He.ba cm
  obtain ⟨m2, cm⟩ := He.ba cm
  obtain ⟨m3, cm⟩ := He.ba cm
  obtain ⟨m4, cm⟩ := He.ba cm
  obtain ⟨m5, cm⟩ := He.ba cm
  obtain ⟨m6, cm⟩ := He.ba cm
  obtain ⟨m7, cm⟩ := He.ba cm
  obtain ⟨m8, cm⟩ := He.ba cm
  obtain ⟨m9, cm⟩ := He.ba cm
  obtain ⟨m10, cm⟩ := He.ba cm
  obtain ⟨m11, cm⟩ := He.ba cm
  obtain ⟨m12, cm⟩ := He.ba cm
  have Y := ert_ok cm
  have X0 := excB_ok X G m0
  have X1 := excB_ok X G m1
  have X2 := excB_ok X G m2
  have X3 := excB_ok X G m3
  have X4 := exc1B_ok X G m4
  have X5 := exc1B_ok X G m5
  have X6 := exc1B_ok X G m6
  have X7 := exc1B_ok X G m7
  have X8 := exc1B_ok X G m8
  have X9 := exc1B_ok X G m9
  have X10 := exc1B_ok X G m10
  have X11 := exc1B_ok X G m11
  have X12 := exc1B_ok X G m12
  have T : Fr mg := ⟨fun x hx => by
    have hx : x ∈ frees := List.contains_iff_mem.mp hx
    simp only [frees, List.mem_cons, List.not_mem_nil, or_false] at hx
    rcases hx with rfl | rfl | rfl | rfl | rfl | rfl | rfl | rfl | rfl | rfl | rfl | rfl | rfl | rfl | rfl | rfl | rfl | rfl | rfl
    · exact He.free_ok X G (c.t.d.fact 9 (f := .free "int") rfl)
    · exact He.free_ok X G (c.t.d.fact 10 (f := .free "list") rfl)
    · exact He.free_ok X G (c.t.d.fact 11 (f := .free "len") rfl)
    · exact He.free_ok X G (c.t.d.fact 12 (f := .free "max") rfl)
    · exact He.free_ok X G (c.t.d.fact 13 (f := .free "min") rfl)
    · exact He.free_ok X G (c.t.d.fact 14 (f := .free "isinstance") rfl)
    · exact He.free_ok X G (c.t.d.fact 15 (f := .free "sorted") rfl)
    · exact He.free_ok X G (c.t.d.fact 16 (f := .free "all") rfl)
    · exact He.free_ok X G (c.t.d.fact 17 (f := .free "any") rfl)
    · exact He.free_ok X G (c.t.d.fact 18 (f := .free "tuple") rfl)
    · exact He.free_ok X G (c.t.d.fact 19 (f := .free "set") rfl)
    · exact He.free_ok X G (c.t.d.fact 20 (f := .free "str") rfl)
    · exact He.free_ok X G (c.t.d.fact 21 (f := .free "bool") rfl)
    · exact He.free_ok X G (c.t.d.fact 22 (f := .free "dict") rfl)
    · exact He.free_ok X G (c.t.d.fact 23 (f := .free "range") rfl)
    · exact He.free_ok X G (c.t.d.fact 24 (f := .free "zip") rfl)
    · exact He.free_ok X G (c.t.d.fact 25 (f := .free "enumerate") rfl)
    · exact He.free_ok X G (c.t.d.fact 26 (f := .free "ValueError") rfl)
    · exact He.free_ok X G (c.t.d.fact 27 (f := .free "super") rfl)⟩
  refine ⟨fd7, ?_, fun base Kb Gb => ?_⟩
  · have b := FunD.bindsA (ps := ["_law_script"]) F7 fun _ _ _ _ _ _ us hl => match us, hl with | [_], _ => rfl
    exact fun s v => b s [v] rfl
  have Z : Ers P w K mg base (ck K) := by
    refine ⟨X0, X1, X2, X3, ?_, ?_, ?_, ?_, ?_, ?_, ?_, ?_, ?_⟩
    · exact ⟨X4.gl, X4.oc, _, _, _, X4.ini, X4.ty, (F8.bindsN fun _ _ _ _ _ _ us hl => match us, hl with | [_, _], _ => rfl), ok_i4 F8 X4.oc X4.no⟩
    · exact ⟨X5.gl, X5.oc, _, _, _, X5.ini, X5.ty, (F9.bindsN fun _ _ _ _ _ _ us hl => match us, hl with | [_, _], _ => rfl), ok_i5 F9 X5.oc X5.no⟩
    · exact ⟨X6.gl, X6.oc, _, _, _, X6.ini, X6.ty, (F10.bindsN fun _ _ _ _ _ _ us hl => match us, hl with | [_, _], _ => rfl), ok_i6 F10 X6.oc X6.no⟩
    · exact ⟨X7.gl, X7.oc, _, _, _, X7.ini, X7.ty, (F11.bindsN fun _ _ _ _ _ _ us hl => match us, hl with | [_, _], _ => rfl), ok_i7 F11 X7.oc X7.no⟩
    · exact ⟨X8.gl, X8.oc, _, _, _, X8.ini, X8.ty, (F12.bindsN fun _ _ _ _ _ _ us hl => match us, hl with | [_, _], _ => rfl), ok_i8 F12 X8.oc X8.no⟩
    · exact ⟨X9.gl, X9.oc, _, _, _, X9.ini, X9.ty, (F13.bindsN fun _ _ _ _ _ _ us hl => match us, hl with | [_, _], _ => rfl), ok_i9 F13 X9.oc X9.no⟩
    · exact ⟨X10.gl, X10.oc, _, _, _, X10.ini, X10.ty, (F14.bindsN fun _ _ _ _ _ _ us hl => match us, hl with | [_, _], _ => rfl), ok_i10 F14 X10.oc X10.no⟩
    · exact ⟨X11.gl, X11.oc, _, _, _, X11.ini, X11.ty, (F15.bindsN fun _ _ _ _ _ _ us hl => match us, hl with | [_, _], _ => rfl), ok_i11 F15 X11.oc X11.no⟩
    · exact ⟨X12.gl, X12.oc, _, _, _, X12.ini, X12.ty, (F16.bindsN fun _ _ _ _ _ _ us hl => match us, hl with | [_, _, _], _ => rfl), ok_i12 F16 X12.oc Y.no1 Y.no2⟩
  have Gmix : Fn P w K mg base CX0 1 "_law_mix" (spMix K) := ok_mix ⟨_, _, (He.glo_ok X G (c.t.d.fact 0 (f := .glo "_law_mix") rfl)), F0⟩ T
  have Gnext : Fn P w K mg base CX0 1 "_law_next" spNext := ok_next ⟨_, _, (He.glo_ok X G (c.t.d.fact 1 (f := .glo "_law_next") rfl)), F1⟩ T
  have Gb : Fn P w K mg base (L2N.CX P w) 3 "_law_bare" (spBare (ck K)) := ok_bare ⟨_, _, (He.glo_ok X G (c.t.d.fact 2 (f := .glo "_law_bare") rfl)), F2⟩ Z
  have Gt : Fn P w K mg base (L2N.CX P w) 4 "_law_thrown" (spThrown (ck K)) := ok_thrown ⟨_, _, (He.glo_ok X G (c.t.d.fact 3 (f := .glo "_law_thrown") rfl)), F3⟩ Z Gb
  have Gc : FQ P w K mg base 1 "_law_classes" (spClasses (ck K)) := ok_classes ⟨_, _, (He.glo_ok X G (c.t.d.fact 4 (f := .glo "_law_classes") rfl)), F4⟩ T Z Y
  have Gp : FQ P w K mg base 1 "_law_parts" (spParts (ck K)) := ok_parts ⟨_, _, (He.glo_ok X G (c.t.d.fact 5 (f := .glo "_law_parts") rfl)), F5⟩ T Y
  have Gr : Fn P w K mg base CX0 5 "_law_right" (spRight K) := ok_right ⟨_, _, (He.glo_ok X G (c.t.d.fact 6 (f := .glo "_law_right") rfl)), F6⟩ T Y (He.glo_ok X G (c.t.d.fact 8 (f := .glo "HandError") rfl)) Gt Gc Gp
  have e := hfa.symm.trans (He.glo_ok X G (c.t.d.fact 7 (f := .glo "law") rfl))
  cases e
  exact ok_law F7 T Gmix Gnext Gr
end HP

namespace HP
open PySem PySem.Spec PyProof.Rows L2
theorem run (w : World) : HandSHeadRun.RunEq R (PySem.W.view R.prog [23]) hk ob 12000 loose w := fun os => by kernel_rfl
end HP
open PySem PySem.W PySem.Calls PyProof.Rows
theorem PySem.Challenge.cw_handplaced_k20_errors_apart_holds : PySem.Challenge.rw_handplaced_k20_errors_apart.Holds := by
  w_on; o_law
  refine HandSHeadRun.head_any (r := OpenLaw.row PySem.Challenge.rw_handplaced_k20_errors_apart) (q := view (OpenLaw.row PySem.Challenge.rw_handplaced_k20_errors_apart).prog [23]) (H := HP.hk) (ob := HP.ob) (M := 12000) (loose := HP.loose) (d := HandSHeadRun.topDef (OpenLaw.row PySem.Challenge.rw_handplaced_k20_errors_apart).prog 23) (kwd := []) HP.ob_eq
    (by kernel_rfl) (fun s => by kernel_rfl) HP.run (by kernel_rfl) (by kernel_rfl) (by kernel_rfl) (by rfl) (by first | assumption | decide +kernel) (by decide +kernel) ⟨rfl, rfl, rfl, rfl, rfl, by decide +kernel⟩ ?hw ?hc
  case hw => w_witness2
  case hc =>
    refine L2.walk_ofE (l := PySem.Challenge.rw_handplaced_k20_errors_apart) (n := 63) (k := 6) (x := "_law_script") (CX := L2.CX0) rfl (by decide) (by kernel_rfl) ⟨rfl, by decide, by decide⟩ ?F (fun _ _ _ _ z => z)
    intro w mg fa h Y G hmg0
    obtain ⟨K, KX, c⟩ := Y
    have hmg : mg ("law" : PySem.Str) = some (.ref fa) := by
      have e : (HandSHeadRun.topDef (OpenLaw.row PySem.Challenge.rw_handplaced_k20_errors_apart).prog 23).name = ("law" : PySem.Str) := by kernel_rfl
      rw [← e]
      exact hmg0
    obtain ⟨fd, hb, hF⟩ := HP.facts (P := (PySem.Challenge.rw_handplaced_k20_errors_apart).prog) (w := w) KX G hmg c
    exact ⟨K, fd, HP.spLaw K, KX, hb, fun H a ns hl _ hS => ⟨a, ns, rfl, hS, hl, fun _ => rfl⟩, hF⟩
