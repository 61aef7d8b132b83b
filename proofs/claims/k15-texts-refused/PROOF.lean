import PyProof.Rows.All
import Wide.All
import OpenK.AllK
import Wide.FinOn
import HandS.ForMost
import HandS.Set
import HandS.More
import HandS.IsInst
import HandS.Defaults
import HandS.Deep
import HandS.Walk
import HandS.Strs
import HandS.Exc
import HandS.ExcOwn
import HandS.ExcInit
import HandS.ExcField
import HandS.ExcIs
import HandS.TryOnly
import HandS.TryMany
import HandS.WordsExc
import HandS.Conv
import HandS.Iter
import HandS.DictComp
import HandS.Slots
import HandS.Star
import HandS.HeadHook1
import HandS.HeadHook2
import HandS.HeadHook3
import HandS.HeadHook4
import HandS.FStr
import HandS.Text
import KE.KDictSum
import HandS.CallSlots
import KE.KTryMore
import KE.KStateDown
import HandS.Ends
import HandS.Words
import HandS.Head0
import HandS.Head1
import HandS.Head2
import HandS.HeadEnd
import PySem.Challenge.RW_handplaced_k15_whole_texts_refused
set_option Elab.async false
set_option linter.all false
set_option maxRecDepth 100000
set_option maxHeartbeats 4000000
/-! sets of ints and texts made of a list or a tuple: len, sorted -/
namespace SM
open PySem PySem.Spec PyProof.Rows L2
def mkey (v : Value) : Key := match v with
  | .int i _ => .inl i
  | .str x _ => .inr x
  | _ => .inl 0
theorem mkey_of {k : Key} {v : Value} (h : keyIs k v = true) : mkey v = k := by
  rcases keyIs_shape h with ⟨i, t, rfl, rfl⟩ | ⟨x, t, rfl, rfl⟩ <;> rfl
def ekey (e : Int × Value) : Key := mkey e.2
def GoodM (w : World) (e : Int × Value) : Prop := keyIs (ekey e) e.2 = true ∧ e.1 = keyH w (ekey e)
theorem is_scan {k : Key} {v : Value} (h : keyIs k v = true) : v.scannable = true := by
  rcases keyIs_shape h with ⟨i, t, rfl, rfl⟩ | ⟨x, t, rfl, rfl⟩ <;> rfl
/-- the set at a: its members ks, each once -/
def SetM (w : World) (h : Heap) (a : Addr) (ks : List Key) : Prop :=
  ∃ o es ep t, h.get? a = some o ∧ o.ExactSet ∧ o.data = .set es ep t ∧ (∀ e ∈ es.toList, GoodM w e) ∧ (es.toList.map ekey).Perm ks ∧ ks.Nodup ∧
    es.size < scanBound ∧ t.fits es.size = true ∧ Ris t.place.toList ∧ (w.params.followText "set-order" = true ∨ t.led = true)
section
variable {P : Program} {w : World} {h h' : Heap} {a : Addr} {ks : List Key}
theorem SetM.at (R : SetM w h a ks) (k : ∀ o, h.get? a = some o → h'.get? a = some o) : SetM w h' a ks := by
  obtain ⟨o, es, ep, t, ho, r⟩ := R
  exact ⟨o, es, ep, t, k o ho, r⟩
theorem good_elemsM {l : List (Int × Value)} (g : ∀ e ∈ l, GoodM w e) : ElemsOf (mixKind P w) l := fun e he => by
  obtain ⟨h1, h2⟩ := g e he
  exact ⟨⟨ekey e, h1, h2⟩, is_scan h1⟩
theorem good_memM {l : List (Int × Value)} (g : ∀ e ∈ l, GoodM w e) (k : Key) : k ∈ l.map ekey ↔ ∃ e ∈ l, (mixKind P w).is k e.2 = true := by
  rw [List.mem_map]
  constructor
  · rintro ⟨e, he, q⟩
    exact ⟨e, he, by rw [← q]; exact (g e he).1⟩
  · rintro ⟨e, he, q⟩
    exact ⟨e, he, mkey_of q⟩
end
section
variable {P : Program} {w : World} {A : Around} {E : Value → Shared → Prop} {s : Shared} {a : Addr} {ks : List Key}
theorem addM_tail {g : Bool → Sem Unit} (hg : ∀ (b : Bool) (s₁ : Shared) (Q' : Unit → Shared → Prop), Q' () s₁ → wpAny (model P w) A (g b) Q' E s₁)
    {o : Obj} {es : Array (Int × Value)} {ep : Nat} {t : SetTable} (ho : s.heap.get? a = some o) (hex : o.ExactSet) (hd : o.data = .set es ep t)
    {es1 : Array (Int × Value)} {t2 : SetTable} {ks' : List Key} (g1 : ∀ e ∈ es1.toList, GoodM w e) (m1 : (es1.toList.map ekey).Perm ks') (nd1 : ks'.Nodup)
    (hb1 : es1.size < scanBound) (hf2 : t2.fits es1.size = true) (hr : Ris t2.place.toList) (hl : w.params.followText "set-order" = true ∨ t2.led = true) {wasDummy : Bool} {R : Option Bool → Shared → Prop}
    (hR : ∀ h', Heap.SameBut a s.heap h' → SetM w h' a ks' → R (some true) { s with heap := h' }) :
    wpAny (model P w) A (do
        storeSet a es1 t2
        if (!wasDummy && t2.tooFull) = true then do
            g (relayAll t2 es1 (SetTable.grown es1.size)).2.2
            storeSet a (relayAll t2 es1 (SetTable.grown es1.size)).1 (relayAll t2 es1 (SetTable.grown es1.size)).2.1
            pure (some true)
          else pure (some true)) R E s := by
  refine wpAny_bind (wpAny_storeSet_of ho hd ?_ (fits_of_scanBound hb1))
  have ho1 := store_at (es' := es1) (t' := t2) ho hd
  have sb1 := Heap.SameBut.update s.heap a (Obj.putSet es1 t2)
  split
  · have pm := relayAll_perm t2 es1 (SetTable.grown es1.size)
    have hf3 := relayAll_fits t2 es1 (SetTable.grown es1.size)
    have hr3 := relayAll_ris t2 es1 (SetTable.grown es1.size)
    have hl3 := relayAll_led t2 es1 (SetTable.grown es1.size)
    generalize relayAll t2 es1 (SetTable.grown es1.size) = Z at pm hf3 hr3 hl3 ⊢
    obtain ⟨es2, t3, gave⟩ := Z
    dsimp only at pm hf3 hr3 hl3 ⊢
    have hsz : es2.size = es1.size := by rw [← Array.length_toList, pm.length_eq, Array.length_toList]
    have hb2 : es2.size < scanBound := by rw [hsz]; exact hb1
    refine wpAny_bind (hg _ _ _ ?_)
    refine wpAny_bind (wpAny_storeSet_of ho1 rfl ?_ (fits_of_scanBound hb2))
    have ho2 := store_at (es' := es2) (t' := t3) ho1 rfl
    refine wpAny_pure (hR _ (sb1.trans (Heap.SameBut.update _ a _)) ?_)
    exact ⟨_, es2, _, t3, ho2, hex, rfl, fun e he => g1 e (pm.mem_iff.mp he), (pm.map ekey).trans m1, nd1, hb2, hf3, hr3, hl.imp id fun z => by rw [hl3]; exact z⟩
  · exact wpAny_pure (hR _ sb1 ⟨_, es1, _, t2, ho1, hex, rfl, g1, m1, nd1, hb1, hf2, hr, hl⟩)
/-- the members behind one more -/
def hasK (ks : List Key) (k : Key) : Bool := ks.any fun j => decide (j = k)
theorem hasK_iff {ks : List Key} {k : Key} : hasK ks k = true ↔ k ∈ ks := by
  unfold hasK
  rw [List.any_eq_true]
  exact ⟨fun ⟨x, h, e⟩ => of_decide_eq_true e ▸ h, fun h => ⟨k, h, decide_eq_true rfl⟩⟩
def plus (ks : List Key) (k : Key) : List Key := if hasK ks k = true then ks else ks ++ [k]
theorem addM_hashed {k : Key} {v : Value} {Q : Bool → Shared → Prop} (hkey : keyIs k v = true) (R : SetM w s.heap a ks) (room : ks.length + 1 < scanBound)
    (hQ : ∀ h' b, Heap.SameBut a s.heap h' → SetM w h' a (plus ks k) → Q b { s with heap := h' }) :
    wpAny (model P w) A (setAddHashed a v ((mixKind P w).hash k)) Q E s := by
  obtain ⟨o, es, ep, t, ho, hex, hd, g, pk, nd, hb, hf, hr, hl⟩ := R
  have hsc : v.scannable = true := is_scan hkey
  have hel : ElemsOf (mixKind P w) es.toList := good_elemsM g
  have hn : es.size = ks.length := by rw [← pk.length_eq, List.length_map, Array.length_toList]
  unfold setAddHashed setAddHashedIn
  refine wpAny_holding (wpAny_bind (wpAny_setState_of ho hd hf ?_))
  dsimp only
  rw [byScan_of hsc hb hel]
  simp only [↓reduceIte]
  unfold setAddByScan
  refine wpAny_bind ?_
  refine wpAny_bind (wpAny_rule ?_)
  refine wpAny_bind (wpAny_setScan_of (knd := mixKind P w) hkey ho hd hf hel ?_)
  cases hfi : List.findIdx? (fun e => (mixKind P w).is k e.2) es.toList with
  | some j =>
    dsimp only
    obtain ⟨hj, pj, _⟩ := List.findIdx?_eq_some_iff_getElem.mp hfi
    have hSk : k ∈ ks := pk.mem_iff.mp ((good_memM (P := P) (w := w) g k).2 ⟨es.toList[j], List.getElem_mem hj, pj⟩)
    refine wpAny_pure (wpAny_pure ?_)
    refine hQ s.heap _ (Heap.SameBut.refl a s.heap) ?_
    unfold plus
    rw [if_pos (hasK_iff.mpr hSk)]
    exact ⟨o, es, ep, t, ho, hex, hd, g, pk, nd, hb, hf, hr, hl⟩
  | none =>
    dsimp only
    have hnk : k ∉ ks := fun z => by
      obtain ⟨e, he, q⟩ := (good_memM (P := P) (w := w) g k).1 (pk.mem_iff.mpr z)
      have c := List.findIdx?_eq_none_iff.mp hfi e he
      rw [q] at c
      cases c
    have hgw : ∀ (b : Bool) {s₁ : Shared} {Q' : Unit → Shared → Prop}, Q' () s₁ → wpAny (model P w) A (match b with | true => rule "set.scan.the-table-gave-way" | false => pure ()) Q' E s₁ :=
      fun b s₁ Q' q => by cases b <;> first | exact wpAny_pure q | exact wpAny_rule q
    have pm := layNew_perm t es ((mixKind P w).hash k) v
    have hf1 := layNew_fits t es ((mixKind P w).hash k) v
    have hr1 := layNew_ris t es ((mixKind P w).hash k) v hr
    have hl1 := layNew_led t es ((mixKind P w).hash k) v
    generalize layNew t es ((mixKind P w).hash k) v = Z at pm hf1 hr1 hl1 ⊢
    obtain ⟨es1, t1, wasDummy, gave⟩ := Z
    dsimp only at pm hf1 hr1 hl1 ⊢
    rw [Array.toList_push] at pm
    have pc : es1.toList.Perm (((mixKind P w).hash k, v) :: es.toList) := pm.trans (List.perm_append_singleton _ _)
    have ek : ekey ((mixKind P w).hash k, v) = k := mkey_of hkey
    have pk1 : (es1.toList.map ekey).Perm (plus ks k) := by
      refine (pc.map ekey).trans ?_
      rw [List.map_cons, ek]
      unfold plus
      rw [if_neg fun z => hnk (hasK_iff.mp z)]
      exact (pk.cons k).trans (List.perm_append_singleton _ _).symm
    have nd1 : (plus ks k).Nodup := by
      unfold plus
      rw [if_neg fun z => hnk (hasK_iff.mp z)]
      exact (List.perm_append_singleton k ks).nodup_iff.mpr (List.nodup_cons.mpr ⟨hnk, nd⟩)
    have g1 : ∀ e ∈ es1.toList, GoodM w e := fun e he => by
      rcases List.mem_cons.mp (pc.mem_iff.mp he) with z | z
      · rw [z]
        unfold GoodM
        rw [ek]
        exact ⟨hkey, rfl⟩
      · exact g e z
    have hsz : es1.size = ks.length + 1 := by rw [← Array.length_toList, pc.length_eq, List.length_cons, Array.length_toList, hn]
    have hb1 : es1.size < scanBound := by rw [hsz]; exact room
    have hled : w.params.followText "set-order" = true ∨ t1.led = true := hl.imp id fun z => by rw [hl1]; exact z
    have fin : ∀ h' b, Heap.SameBut a s.heap h' → SetM w h' a (plus ks k) → Q b { s with heap := h' } := fun h' b sb r => hQ h' b sb r
    refine wpAny_bind (hgw _ ?_)
    split
    · refine wpAny_bind ?_
      rw [hashByValue_scannable 8 hsc]
      refine wpAny_pure ?_
      refine addM_tail ?_ ho hex hd g1 pk1 nd1 hb1 ?_ ?_ ?_ ?_
      · intro b s₁ Q' q; cases b <;> first | exact wpAny_pure q | exact wpAny_rule q
      · first | (split <;> first | exact hf1 | exact SetTable.fits_plain_off hf1) | exact hf1
      · first | (split <;> exact hr1) | exact hr1
      · first | (split <;> exact hled) | exact hled
      · intro h' sb r; dsimp only; exact wpAny_pure (fin h' _ sb r)
    · refine wpAny_bind (wpAny_pure ?_)
      simp only [↓reduceIte]
      refine addM_tail ?_ ho hex hd g1 pk1 nd1 hb1 hf1 hr1 hled ?_
      · intro b s₁ Q' q; cases b <;> first | exact wpAny_pure q | exact wpAny_rule q
      · intro h' sb r; dsimp only; exact wpAny_pure (fin h' _ sb r)
theorem freshM {h : Heap} (w : World) : SetM w (h.push { cls := .type "set", dict := none, data := .set #[] 0 (.fresh 0 0 (!w.params.followText "set-order")) }) h.objs.size [] :=
  ⟨_, #[], 0, _, Heap.get?_push_size _ rfl, ⟨rfl, rfl, rfl⟩, rfl, (fun e he => by simp at he), (by simp), List.nodup_nil, (by decide), (by rfl), List.Pairwise.nil, by
    show _ ∨ (!w.params.followText "set-order") = true
    cases w.params.followText "set-order"
    · exact .inr rfl
    · exact .inl rfl⟩

/-- the members behind all of a row of keys -/
def ofKeys (ks : List Key) : List Key := ks.foldl plus []
theorem plus_len (ks : List Key) (k : Key) : (plus ks k).length ≤ ks.length + 1 := by
  unfold plus
  split
  · omega
  · rw [List.length_append, List.length_singleton]
    exact Nat.le_refl _
theorem ofKeys_len : ∀ (ks acc : List Key), (ks.foldl plus acc).length ≤ acc.length + ks.length
  | [], acc => Nat.le_refl _
  | k :: ks, acc => by
    have h1 := ofKeys_len ks (plus acc k)
    have h2 := plus_len acc k
    rw [List.foldl_cons, List.length_cons]
    omega
theorem take_snoc {α : Type} {l : List α} {i : Nat} {x : α} (h : l[i]? = some x) : l.take (i + 1) = l.take i ++ [x] := by
  rw [List.take_add_one, h]
  rfl
theorem ofKeys_step {ks : List Key} {i : Nat} {k : Key} (h : ks[i]? = some k) : ofKeys (ks.take (i + 1)) = plus (ofKeys (ks.take i)) k := by
  unfold ofKeys
  rw [take_snoc h, List.foldl_append]
  rfl
section
variable {prog : Program} {I : Addr} {fp wr : List Addr} {G : Array GenState → Array GenState → Prop} {n : Nat} {Pv : Nat → Value → Prop} {St : Nat → Shared → Prop} {R : Result → Shared → Prop}
theorem updM_loop (W : WalksS prog w A.in1 I fp wr G n Pv St) (S : Addr) (hSf : S ∉ fp) (ks : List Key) (hn : ks.length = n)
    (hval : ∀ i v, Pv i v → ∃ k, ks[i]? = some k ∧ keyIs k v = true) (hb : n + 1 < scanBound) :
    ∀ (m i : Nat) (s : Shared), n - i = m → i ≤ n → St i s → SetM w s.heap S (ofKeys (ks.take i)) →
      (∀ s', Moved (S :: wr) G s s' → SetM w s'.heap S (ofKeys ks) → R (.ok (.ret .none)) s') →
      codeAny (model prog w) A (.builtin "set.update.loop" ⟨[.ref S, .ref I], []⟩) R s := by
  have hSw : S ∉ wr := fun h => hSf (W.sub _ h)
  have hsub : ∀ b ∈ wr, b ∈ S :: wr := fun b hb => List.mem_cons_of_mem _ hb
  intro m
  induction m with
  | zero =>
    intro i s hk hi hst hS hR
    have hin : i = n := by omega
    subst hin
    rw [← hn, List.take_length] at hS
    refine codeAny_builtin PyProof.Rows.F.entry_set_update_loop ?_
    rw [Around.under_plainId PyProof.Rows.F.plain_set_update_loop _]
    show wpAny _ A.in1 (pyNext (.ref I) >>= _) _ _ s
    refine wpAny_bind (W.done s _ _ hst fun s' hm => ?_)
    show wpAny _ A.in1 (ret Value.none) _ _ s'
    exact wpAny_pure (hR s' (hm.mono hsub) (hS.at fun o ho => hm.heap S _ hSw ho))
  | succ m ih =>
    intro i s hk hi hst hS hR
    have hlt : i < n := by omega
    refine codeAny_builtin PyProof.Rows.F.entry_set_update_loop ?_
    rw [Around.under_plainId PyProof.Rows.F.plain_set_update_loop _]
    show wpAny _ A.in1 (pyNext (.ref I) >>= _) _ _ s
    refine wpAny_bind (W.item i s _ _ hlt hst fun v s' hP hst' hm => ?_)
    obtain ⟨k, hki, hkv⟩ := hval i v hP
    have hS' : SetM w s'.heap S (ofKeys (ks.take i)) := hS.at fun o ho => hm.heap S _ hSw ho
    show wpAny _ A.in1 (holding [v] (setAdd S v) >>= _) _ _ s'
    refine wpAny_bind (wpAny_holding ?_)
    unfold setAdd
    refine wpAny_holding ?_
    refine wpAny_bind ((mixKind prog w).pyHash (k := k) hkv ?_)
    have hroom : (ofKeys (ks.take i)).length + 1 < scanBound := by
      have h1 := ofKeys_len (ks.take i) []
      have h2 := List.length_take_le i ks
      have h3 : ([] : List Key).length = 0 := rfl
      unfold ofKeys
      omega
    refine addM_hashed (P := prog) (s := { s' with toks := s'.toks + 1 }) hkv hS' hroom fun h' bb hsb hS2 => ?_
    have hSi : SetM w h' S (ofKeys (ks.take (i + 1))) := by rw [ofKeys_step hki]; exact hS2
    refine wpAny_pure ⟨plainId_quiet PyProof.Rows.F.plain_set_update_loop _, ih (i + 1) _ (by omega) hlt (W.frame _ s' _ _ hst' (Nat.le_succ _) fun b hb o e => ?_) hSi fun s'' hm'' hS'' => ?_⟩
    · rw [hsb.2 b (fun h : b = S => hSf (by rw [← h]; exact hb))]; exact e
    · refine hR s'' (Moved.trans W.gtrans ((hm.mono hsub).then_heap (Nat.le_succ _) fun b o hb e => ?_) hm'') hS''
      rw [hsb.2 b (fun h : b = S => hb (by rw [h]; exact List.mem_cons_self))]; exact e
end
theorem new_led1 (v : Value) {Q₁ : Value → Shared → Prop}
    (h : Q₁ (.ref s.heap.objs.size) { s with heap := s.heap.push { cls := .type "set", dict := none, data := .set #[] 0 (.fresh 0 0 (!w.params.followText "set-order")) } }) :
    codeAny (model P w) A (.call (.builtin "set.__new__") ⟨[.type "set", v], []⟩) (wants Q₁ E) s := by
  refine codeAny_of_tree ?_
  show wpAny _ A.in1 (do checkBuiltinCall "set.__new__" ⟨[.type "set", v], []⟩; again (.builtin "set.__new__" ⟨[.type "set", v], []⟩)) _ _ s
  refine wpAny_bind (wpAny_of_eq (PySem.F.newCall_set_1 v) (wpAny_pure ⟨plainId_quiet F.plain_set_new _, codeAny_builtin F.entry_set_new ?_⟩))
  rw [Around.under_plainId F.plain_set_new _]
  unfold Builtin.«set.__new__» Builtin.Frozenset.newClass
  have hsub := sub_set_self
  obtain ⟨hp, g, d, tk, os⟩ := s
  dsimp only
  wp_walk
  refine wpAny_askSetting (wpAny_pure ?_)
  dsimp only
  simp only [newObj]
  refine wpAny_bind (wpAny_alloc (wpAny_pure ?_))
  exact wpAny_pure h

theorem sub_list_set : isSubtype (.type "list") (.type "set") = pure false := by rw [isSubtype_type]; kernel_rfl
theorem sub_list_frozenset : isSubtype (.type "list") (.type "frozenset") = pure false := by rw [isSubtype_type]; kernel_rfl
theorem call_setM_list {l : Addr} {items : Array Value} {ks : List Key} {Q : Value → Shared → Prop}
    (hh : A.handled = none) (hl : s.heap.IsList l items) (hks : ks.length = items.size) (hi : ∀ (i : Nat) v, items[i]? = some v → ∃ k, ks[i]? = some k ∧ keyIs k v = true) (hb : items.size + 1 < scanBound)
    (h : ∀ (h' : Heap) (tk : Nat), SetM w h' s.heap.objs.size (ofKeys ks) → (∀ b o, b < s.heap.objs.size → s.heap.get? b = some o → h'.get? b = some o) → Q (.ref s.heap.objs.size) { s with heap := h', toks := tk }) :
    wpAny (model P w) A (call (.type "set") [.ref l]) Q E s := by
  obtain ⟨c, tl, hmro⟩ := F.called_set.mro
  have hmade := F.called_set.made
  have hsub := F.called_set.sub
  refine wpAny_call (codeAny_of_tree ?_)
  show wpAny _ _ (callAny (.type "set") _) _ _ _
  refine wpAny_pure ⟨Code.quiet_builtin _ (by decide +kernel), codeAny_builtin F.entry_type_call ?_⟩
  rw [Around.under_plain (weight_type_call_type "set" [.ref l] []) rfl]
  have h1 := F.called_set.notType
  have h2 := F.called_set.canCreate
  have hct := PySem.F.typeCall_set_1 (.ref l)
  repeat (any_goals (first | assumption | wp_step))
  refine codeAny_mono (new_led1 (.ref l) (E := E) (Q₁ := fun obj s₁ => obj = .ref s.heap.objs.size ∧ s₁ = { s with heap := s.heap.push { cls := .type "set", dict := none, data := .set #[] 0 (.fresh 0 0 (!w.params.followText "set-order")) } }) ⟨rfl, rfl⟩) fun r s₁ hr => ?_
  cases r with
  | error e => exact hr
  | ok fl =>
    cases fl with
    | ret obj =>
      obtain ⟨rfl, rfl⟩ := hr
      have hM := freshM (h := s.heap) w
      have hS : (s.heap.push { cls := .type "set", dict := none, data := .set #[] 0 (.fresh 0 0 (!w.params.followText "set-order")) }).get? s.heap.objs.size = some { cls := .type "set", dict := none, data := .set #[] 0 (.fresh 0 0 (!w.params.followText "set-order")) } := Heap.get?_push_size _ rfl
      have hT : Shared.TypeIs { s with heap := s.heap.push { cls := .type "set", dict := none, data := .set #[] 0 (.fresh 0 0 (!w.params.followText "set-order")) } } (.ref s.heap.objs.size) "set" := ⟨_, hS, rfl⟩
      have hli := F.called_set.init.lookup
      have hbi := F.called_set.init.bind (.ref s.heap.objs.size)
      repeat (any_goals (first | assumption | wp_step))
      refine codeAny_mono (codeAny_call_builtin (R := wants (fun r s₂ => r = .none ∧ ∃ h' tk, s₂ = { s with heap := h', toks := tk } ∧ SetM w h' s.heap.objs.size (ofKeys ks) ∧
          (∀ b o, b < s.heap.objs.size → s.heap.get? b = some o → h'.get? b = some o)) E) F.called_set.init.plain F.entry_set_init (check_set_init_1 hT ?_)) fun r₂ s₂ hr₂ => ?_
      · obtain ⟨ol, hol, hcl, nl, hdl⟩ := hl
        obtain ⟨ocls, odict, odata, oslots⟩ := ol
        simp only at hcl hdl
        subst hcl; subst hdl
        have hol' : (s.heap.push { cls := .type "set", dict := none, data := .set #[] 0 (.fresh 0 0 (!w.params.followText "set-order")) }).get? l = some { cls := .type "list", dict := odict, data := .seq items nl, slots := oslots } := Heap.get?_push_of_some _ hol
        have hsls := sub_list_set
        have hslf := sub_list_frozenset
        have hne : (Value.type "list" == Value.type "dict") = false := by decide
        have hl1 : (s.heap.push { cls := .type "set", dict := none, data := .set #[] 0 (.fresh 0 0 (!w.params.followText "set-order")) }).IsList l items := ⟨_, hol', rfl, nl, rfl⟩
        unfold Builtin.«set.__init__» noKeywords Builtin.Frozenset.updateFrom
        generalize hPI : pyIter = PI
        wp_walk
        subst hPI
        refine wpAny_pyIter_list hl1 ?_
        refine wpAny_bind (wpAny_runValue ?_)
        have hlS : l < s.heap.objs.size := Heap.lt_size hol
        have hh3 : A.in1.in1.in1.handled = none := by simp [hh]
        have hneI : l ≠ (s.heap.push { cls := .type "set", dict := none, data := .set #[] 0 (.fresh 0 0 (!w.params.followText "set-order")) }).objs.size := by
          rw [Heap.size_push]; exact Nat.ne_of_lt (Nat.lt_succ_of_lt hlS)
        have hSf : s.heap.objs.size ∉ [(s.heap.push { cls := .type "set", dict := none, data := .set #[] 0 (.fresh 0 0 (!w.params.followText "set-order")) }).objs.size, l] := by
          rw [Heap.size_push]; simp only [List.mem_cons, List.mem_singleton, List.not_mem_nil, or_false, not_or]
          exact ⟨Nat.ne_of_lt (Nat.lt_succ_self _), Nat.ne_of_gt hlS⟩
        refine updM_loop ((Walks.list hh3 _ l hneI items).toS) s.heap.objs.size hSf ks hks hi hb (items.size - 0) 0 _ (by omega) (Nat.zero_le _)
          ⟨⟨_, Heap.get?_push_size _ rfl, rfl, rfl⟩, (hl1.push _)⟩ ?hS0 ?hR
        case hS0 => exact hM.at fun o e => Heap.get?_push_of_some _ e
        case hR =>
          intro s' hm hS'
          obtain ⟨h', g', d', tk', os'⟩ := s'
          have eg : g' = s.gens := hm.gens
          have ed : d' = s.drawn := hm.drawn
          have eo : os' = s.os := hm.os
          subst eg; subst ed; subst eo
          show wpAny _ _ _ _ _ _
          refine wpAny_pure ?_
          show wpAny _ _ (ret Value.none) _ _ _
          refine wpAny_pure ⟨rfl, h', tk', rfl, hS', fun b o hb e => ?_⟩
          have hb1 : b ≠ s.heap.objs.size := Nat.ne_of_lt hb
          have hb2 : b ≠ (s.heap.push { cls := .type "set", dict := none, data := .set #[] 0 (.fresh 0 0 (!w.params.followText "set-order")) }).objs.size := by
            rw [Heap.size_push]; exact Nat.ne_of_lt (Nat.lt_succ_of_lt hb)
          exact hm.heap b o (by simp only [List.mem_cons, List.mem_singleton, List.not_mem_nil, or_false, not_or]; exact ⟨hb1, hb2⟩) (Heap.get?_push_of_some _ (Heap.get?_push_of_some _ e))
      · cases r₂ with
        | error e => exact hr₂
        | ok fl₂ =>
          cases fl₂ with
          | ret r =>
            obtain ⟨rfl, h', tk, rfl, hS', hk'⟩ := hr₂
            repeat (any_goals (first | assumption | wp_step))
            exact h _ _ hS' hk'
          | _ => exact hr₂.elim
    | _ => exact hr.elim

theorem sub_tuple_set : isSubtype (.type "tuple") (.type "set") = pure false := by rw [isSubtype_type]; kernel_rfl
theorem sub_tuple_frozenset : isSubtype (.type "tuple") (.type "frozenset") = pure false := by rw [isSubtype_type]; kernel_rfl
theorem call_setM_tuple {l : Addr} {items : Array Value} {ks : List Key} {Q : Value → Shared → Prop}
    (hh : A.handled = none) (hl : s.heap.IsTuple l items) (hks : ks.length = items.size) (hi : ∀ (i : Nat) v, items[i]? = some v → ∃ k, ks[i]? = some k ∧ keyIs k v = true) (hb : items.size + 1 < scanBound)
    (h : ∀ (h' : Heap) (tk : Nat), SetM w h' s.heap.objs.size (ofKeys ks) → (∀ b o, b < s.heap.objs.size → s.heap.get? b = some o → h'.get? b = some o) → Q (.ref s.heap.objs.size) { s with heap := h', toks := tk }) :
    wpAny (model P w) A (call (.type "set") [.ref l]) Q E s := by
  obtain ⟨c, tl, hmro⟩ := F.called_set.mro
  have hmade := F.called_set.made
  have hsub := F.called_set.sub
  refine wpAny_call (codeAny_of_tree ?_)
  show wpAny _ _ (callAny (.type "set") _) _ _ _
  refine wpAny_pure ⟨Code.quiet_builtin _ (by decide +kernel), codeAny_builtin F.entry_type_call ?_⟩
  rw [Around.under_plain (weight_type_call_type "set" [.ref l] []) rfl]
  have h1 := F.called_set.notType
  have h2 := F.called_set.canCreate
  have hct := PySem.F.typeCall_set_1 (.ref l)
  repeat (any_goals (first | assumption | wp_step))
  refine codeAny_mono (new_led1 (.ref l) (E := E) (Q₁ := fun obj s₁ => obj = .ref s.heap.objs.size ∧ s₁ = { s with heap := s.heap.push { cls := .type "set", dict := none, data := .set #[] 0 (.fresh 0 0 (!w.params.followText "set-order")) } }) ⟨rfl, rfl⟩) fun r s₁ hr => ?_
  cases r with
  | error e => exact hr
  | ok fl =>
    cases fl with
    | ret obj =>
      obtain ⟨rfl, rfl⟩ := hr
      have hM := freshM (h := s.heap) w
      have hS : (s.heap.push { cls := .type "set", dict := none, data := .set #[] 0 (.fresh 0 0 (!w.params.followText "set-order")) }).get? s.heap.objs.size = some { cls := .type "set", dict := none, data := .set #[] 0 (.fresh 0 0 (!w.params.followText "set-order")) } := Heap.get?_push_size _ rfl
      have hT : Shared.TypeIs { s with heap := s.heap.push { cls := .type "set", dict := none, data := .set #[] 0 (.fresh 0 0 (!w.params.followText "set-order")) } } (.ref s.heap.objs.size) "set" := ⟨_, hS, rfl⟩
      have hli := F.called_set.init.lookup
      have hbi := F.called_set.init.bind (.ref s.heap.objs.size)
      repeat (any_goals (first | assumption | wp_step))
      refine codeAny_mono (codeAny_call_builtin (R := wants (fun r s₂ => r = .none ∧ ∃ h' tk, s₂ = { s with heap := h', toks := tk } ∧ SetM w h' s.heap.objs.size (ofKeys ks) ∧
          (∀ b o, b < s.heap.objs.size → s.heap.get? b = some o → h'.get? b = some o)) E) F.called_set.init.plain F.entry_set_init (check_set_init_1 hT ?_)) fun r₂ s₂ hr₂ => ?_
      · obtain ⟨ol, hol, hcl, nl, hdl⟩ := hl
        obtain ⟨ocls, odict, odata, oslots⟩ := ol
        simp only at hcl hdl
        subst hcl; subst hdl
        have hol' : (s.heap.push { cls := .type "set", dict := none, data := .set #[] 0 (.fresh 0 0 (!w.params.followText "set-order")) }).get? l = some { cls := .type "tuple", dict := odict, data := .seq items nl, slots := oslots } := Heap.get?_push_of_some _ hol
        have hsls := sub_tuple_set
        have hslf := sub_tuple_frozenset
        have hne : (Value.type "tuple" == Value.type "dict") = false := by decide
        have hl1 : (s.heap.push { cls := .type "set", dict := none, data := .set #[] 0 (.fresh 0 0 (!w.params.followText "set-order")) }).IsTuple l items := ⟨_, hol', rfl, nl, rfl⟩
        unfold Builtin.«set.__init__» noKeywords Builtin.Frozenset.updateFrom
        generalize hPI : pyIter = PI
        wp_walk
        subst hPI
        refine wpAny_pyIter_tuple hl1 ?_
        refine wpAny_bind (wpAny_runValue ?_)
        have hlS : l < s.heap.objs.size := Heap.lt_size hol
        have hh3 : A.in1.in1.in1.handled = none := by simp [hh]
        have hneI : l ≠ (s.heap.push { cls := .type "set", dict := none, data := .set #[] 0 (.fresh 0 0 (!w.params.followText "set-order")) }).objs.size := by
          rw [Heap.size_push]; exact Nat.ne_of_lt (Nat.lt_succ_of_lt hlS)
        have hSf : s.heap.objs.size ∉ [(s.heap.push { cls := .type "set", dict := none, data := .set #[] 0 (.fresh 0 0 (!w.params.followText "set-order")) }).objs.size, l] := by
          rw [Heap.size_push]; simp only [List.mem_cons, List.mem_singleton, List.not_mem_nil, or_false, not_or]
          exact ⟨Nat.ne_of_lt (Nat.lt_succ_self _), Nat.ne_of_gt hlS⟩
        refine updM_loop ((Walks.tuple hh3 _ l hneI items).toS) s.heap.objs.size hSf ks hks hi hb (items.size - 0) 0 _ (by omega) (Nat.zero_le _)
          ⟨⟨_, Heap.get?_push_size _ rfl, rfl, rfl⟩, (hl1.push _)⟩ ?hS0 ?hR
        case hS0 => exact hM.at fun o e => Heap.get?_push_of_some _ e
        case hR =>
          intro s' hm hS'
          obtain ⟨h', g', d', tk', os'⟩ := s'
          have eg : g' = s.gens := hm.gens
          have ed : d' = s.drawn := hm.drawn
          have eo : os' = s.os := hm.os
          subst eg; subst ed; subst eo
          show wpAny _ _ _ _ _ _
          refine wpAny_pure ?_
          show wpAny _ _ (ret Value.none) _ _ _
          refine wpAny_pure ⟨rfl, h', tk', rfl, hS', fun b o hb e => ?_⟩
          have hb1 : b ≠ s.heap.objs.size := Nat.ne_of_lt hb
          have hb2 : b ≠ (s.heap.push { cls := .type "set", dict := none, data := .set #[] 0 (.fresh 0 0 (!w.params.followText "set-order")) }).objs.size := by
            rw [Heap.size_push]; exact Nat.ne_of_lt (Nat.lt_succ_of_lt hb)
          exact hm.heap b o (by simp only [List.mem_cons, List.mem_singleton, List.not_mem_nil, or_false, not_or]; exact ⟨hb1, hb2⟩) (Heap.get?_push_of_some _ (Heap.get?_push_of_some _ e))
      · cases r₂ with
        | error e => exact hr₂
        | ok fl₂ =>
          cases fl₂ with
          | ret r =>
            obtain ⟨rfl, h', tk, rfl, hS', hk'⟩ := hr₂
            repeat (any_goals (first | assumption | wp_step))
            exact h _ _ hS' hk'
          | _ => exact hr₂.elim
    | _ => exact hr.elim
end
/-! ### over the layer -/
def SetMO (w : World) (a : Addr) (ks : List Key) : HO := .ext fun h => SetM w h a ks
section
variable {X : Cx}
theorem setMO_new {w : World} {P : Program} {H : Hp} {h : Heap} {a : Addr} {ks : List Key} (R : SetM w h a ks) : ObjOk P w H h a (SetMO w a ks) := by
  have ⟨o, _, _, _, ho, _⟩ := R
  exact ⟨R, ⟨o, ho⟩, fun h1 h2 p k => SetM.at p k⟩
theorem setMO_get {pins : List (Addr × Obj)} {σ : L2.St} {H : Hp} {s : Shared} {a : Addr} {ks : List Key} (I : Inv X pins σ H s) (ha : H a = some (SetMO X.w a ks)) : SetM X.w s.heap a ks := (I.hok a _ ha).1
theorem vals_key {ks : List Key} {us : List Value} (r : Vals (ks.map kV) us) : ∀ (i : Nat) v, us[i]? = some v → ∃ k, ks[i]? = some k ∧ keyIs k v = true := fun i v hv => by
  have hl := r.length
  rw [List.length_map] at hl
  have hi : i < us.length := (List.getElem?_eq_some_iff.mp hv).1
  have hk : ks[i]? = some ks[i] := List.getElem?_eq_getElem (by omega)
  obtain ⟨u, e, q⟩ := r.get (i := i) (x := kV ks[i]) (by rw [List.getElem?_map, hk]; rfl)
  rw [hv] at e
  cases e
  refine ⟨ks[i], hk, ?_⟩
  cases h : ks[i] with
  | inl j =>
    rw [h] at q
    obtain ⟨t, rfl⟩ := q
    exact keyIs_int j t
  | inr x =>
    rw [h] at q
    obtain ⟨t, rfl⟩ := q
    exact keyIs_str x t
/-- set(xs) of a list or tuple of ints and texts -/
def rSetM (K : PySem.W.Frag) (w : World) : List V → Hp → VK → Prop := fun xs H Q => ∃ (l : Addr) (ks : List Key), xs = [.ref l] ∧ (SqL K H l (ks.map kV) ∨ SqT K H l (ks.map kV)) ∧ ks.length ≤ 4000 ∧
  ∀ p, H p = none → Q (.ref p) (upd H p (SetMO w p (ofKeys ks)))
theorem cr_setM (hc : X.calm = true) : CallR X (.type "set") (rSetM X.K X.w) := by
  intro pins s σ H xs us Q I r h
  obtain ⟨l, ks, rfl, hl, hz, q⟩ := h
  cases r with
  | cons r1 r2 =>
    cases r2
    cases r1
    rcases hl with hl | hl
    · obtain ⟨its, rv, pl, hz2⟩ := I.list hl
      have hlen : its.length = ks.length := by
        have := rv.length
        rw [List.length_map] at this
        exact this.symm
      have hsb : scanBound = 4096 := rfl
      refine call_setM_list (P := X.prog) (w := X.w) (ks := ks) (I.ok.hd hc) pl.isList (by rw [List.size_toArray, hlen]) (fun i v hv => vals_key rv i v (by simpa using hv)) (by rw [List.size_toArray, hlen]; omega) fun h' tk hS hk => ?_
      exact ⟨.ref _, _, I.laid (t' := tk) (fun b u e => hk b u (Heap.lt_size e) e) (Nat.le_refl _) (setMO_new hS), rfl, q _ (I.hok.fresh (Nat.le_refl _))⟩
    · obtain ⟨its, rv, pl, hz2⟩ := I.tuple hl
      have hlen : its.length = ks.length := by
        have := rv.length
        rw [List.length_map] at this
        exact this.symm
      have hsb : scanBound = 4096 := rfl
      refine call_setM_tuple (P := X.prog) (w := X.w) (ks := ks) (I.ok.hd hc) pl (by rw [List.size_toArray, hlen]) (fun i v hv => vals_key rv i v (by simpa using hv)) (by rw [List.size_toArray, hlen]; omega) fun h' tk hS hk => ?_
      exact ⟨.ref _, _, I.laid (t' := tk) (fun b u e => hk b u (Heap.lt_size e) e) (Nat.le_refl _) (setMO_new hS), rfl, q _ (I.hok.fresh (Nat.le_refl _))⟩
/-- len(set) -/
def rLenM (w : World) : List V → Hp → VK → Prop := fun xs H Q => ∃ (a : Addr) (ks : List Key), xs = [.ref a] ∧ H a = some (SetMO w a ks) ∧ Q (.int ks.length) H
theorem cr_lenM : CallR X (.builtin "len") (rLenM X.w) := by
  intro pins s σ H xs us Q I r h
  obtain ⟨a, ks, rfl, ha, q⟩ := h
  cases r with
  | cons r1 r2 =>
    cases r2
    cases r1
    obtain ⟨o, es, ep, t, ho, hex, hd, g, pk, nd, hb, hf, hr, hl⟩ := setMO_get I ha
    have hn : es.size = ks.length := by rw [← pk.length_eq, List.length_map, Array.length_toList]
    exact call_len_set ho hex hd hf (by unfold scanBound at hb; omega) ⟨.int ks.length, H, I.tok _, ⟨_, by rw [hn]⟩, q⟩
/-- sorted(set) of texts -/
def rSortedM (w : World) : List V → Hp → VK → Prop := fun vs H Q => ∃ (a : Addr) (xs : List Str), vs = [V.ref a] ∧ H a = some (SetMO w a (xs.map Sum.inr)) ∧ xs.length < 64 ∧
  ∀ (ys : List Str) (p : Addr), ys.Perm xs → sortedS ys = true → H p = none → Q (.ref p) (upd H p (.lst (ys.map V.str)))
theorem cr_sortedM (hc : X.calm = true) : CallR X (.builtin "sorted") (rSortedM X.w) := by
  intro pins s σ H vs us Q I r h
  obtain ⟨a, xs, rfl, ha, h64, q⟩ := h
  obtain ⟨o, es, ep, t, ho, hex, hd, g, pk, nd, hb, hf, hr, hl⟩ := setMO_get I ha
  rw [Vals.ref1 r]
  have hn : es.size = xs.length := by rw [← List.length_map (as := xs) Sum.inr, ← pk.length_eq, List.length_map, Array.length_toList]
  refine Calls.call_function_entry kind_sorted plain_sorted entry_sorted (args_sorted1 _) ?_
  unfold Builtin.«sorted»
  refine wpAny_bind (m := checkCount "sorted" 1 1 _) (wpAny_pure ?_)
  refine wpAny_bind (collect_set (A := X.A.in1) (I.ok.hd hc) ⟨o, ho, hex.1, hd⟩ hf hb hr hl fun s1 vs k1 hz g1 o1 pm => ?_)
  have hvl : vs.length = xs.length := by rw [pm.length_eq, List.length_map, Array.length_toList]; exact hn
  have hkeys : (vs.map mkey).Perm (xs.map Sum.inr) := by
    have z := pm.map mkey
    rw [List.map_map] at z
    exact z.trans pk
  obtain ⟨zs, hS, hzs⟩ : ∃ zs : List Str, StrsAre vs zs ∧ zs.Perm xs := by
    have all : ∀ v ∈ vs, ∃ x t, v = Value.str x t ∧ x ∈ xs := fun v hv => by
      obtain ⟨e, he, rfl⟩ := List.mem_map.mp (pm.mem_iff.mp hv)
      have ge := (g e he).1
      have hm : ekey e ∈ xs.map (Sum.inr : Str → Key) := pk.mem_iff.mp (List.mem_map_of_mem he)
      obtain ⟨x, hx, ex⟩ := List.mem_map.mp hm
      rw [← ex] at ge
      rcases keyIs_shape ge with ⟨i, t, z, _⟩ | ⟨y, t, z, e2⟩
      · cases z
      · cases z
        exact ⟨x, t, e2, hx⟩
    have mk : ∀ (l : List Value), (∀ v ∈ l, ∃ x t, v = Value.str x t ∧ x ∈ xs) → ∃ zs : List Str, StrsAre l zs ∧ l.map mkey = zs.map Sum.inr := by
      intro l
      induction l with
      | nil => intro _; exact ⟨[], .nil, rfl⟩
      | cons v l ih =>
        intro hv
        obtain ⟨x, t, rfl, _⟩ := hv v List.mem_cons_self
        obtain ⟨zs, h1, h2⟩ := ih fun u hu => hv u (List.mem_cons_of_mem _ hu)
        exact ⟨x :: zs, .cons x t h1, by rw [List.map_cons, List.map_cons, h2]; rfl⟩
    obtain ⟨zs, h1, h2⟩ := mk vs all
    refine ⟨zs, h1, ?_⟩
    rw [h2] at hkeys
    have z := hkeys.map (fun k : Key => match k with | .inr x => x | .inl _ => Str.empty)
    rw [List.map_map, List.map_map] at z
    have e1 : ∀ l : List Str, l.map ((fun k : Key => match k with | .inr x => x | .inl _ => Str.empty) ∘ Sum.inr) = l := fun l => by
      induction l with
      | nil => rfl
      | cons x l ih => rw [List.map_cons, ih]; rfl
    rw [e1, e1] at z
    exact z
  refine wpAny_bind (wpAny_newList ?_ (by rw [hvl, sizeLine_eq]; omega))
  have hoL : (s1.heap.push (seqObj "list" vs.toArray 0)).get? s1.heap.objs.size = some (seqObj "list" vs.toArray 0) := Heap.get?_push_size _ rfl
  refine wpAny_bind (wpAny_holding (wpAny_call_entry slot_list_sort ⟨_, hoL, rfl⟩ entry_list_sort (list_sort_treeK strKind_oneLt hoL hS.keysOf (fun v₁ v₂ rest e => keyKind_strs (by rw [← e]; exact hS)) (by rw [hvl]; exact h64) fun st' hp hs => ⟨_, rfl, ?_⟩) (args_list_sort _)))
  obtain ⟨ys, a1, a2, a3⟩ := sorted_out_str hS hp hs
  obtain ⟨c, hcc⟩ := sortedHeap_at (vs := vs) (out := (arrOf st').map (·.2)) hoL
  have kk : ∀ b u, s.heap.get? b = some u → (sortedHeap (s1.heap.push (seqObj "list" vs.toArray 0)) s1.heap.objs.size vs ((arrOf st').map (·.2))).get? b = some u := fun b u e => by
    have q := k1 b u e
    have hlt := Heap.lt_size q
    rw [sortedHeap_old (Nat.ne_of_lt hlt) (by rw [size_push']; exact Nat.lt_succ_of_lt hlt)]
    exact Heap.get?_push_of_some _ q
  have hlen : (ys.map V.str).length ≤ sizeLine := by rw [List.length_map, a2.length_eq, hzs.length_eq, sizeLine_eq]; omega
  have hn0 : H s1.heap.objs.size = none := I.hok.fresh hz
  refine wpAny_pure ⟨_, rfl, ?_⟩
  have J : Inv X pins σ (upd H s1.heap.objs.size (.lst (ys.map V.str))) { s with heap := sortedHeap (s1.heap.push (seqObj "list" vs.toArray 0)) s1.heap.objs.size vs ((arrOf st').map (·.2)), gens := s1.gens, drawn := s1.drawn, toks := s1.toks } :=
    I.call (ch := []) (Un.laid kk hz hn0) (I.hok.laid kk hz ⟨hlen, ((arrOf st').map (·.2)).toList, c, vals_of_strs a1, by rw [Array.toArray_toList]; exact hcc⟩) (by rw [g1]; exact I.bare) (fun _ z => nomatch z)
  have e : ({ s1 with heap := sortedHeap (s1.heap.push (seqObj "list" vs.toArray 0)) s1.heap.objs.size vs ((arrOf st').map (·.2)) } : Shared) = { s with heap := sortedHeap (s1.heap.push (seqObj "list" vs.toArray 0)) s1.heap.objs.size vs ((arrOf st').map (·.2)), gens := s1.gens, drawn := s1.drawn, toks := s1.toks } := by
    cases s1
    cases s
    cases o1
    rfl
  refine ⟨.ref s1.heap.objs.size, _, ?_, rfl, q ys s1.heap.objs.size (a2.trans hzs) a3 hn0⟩
  rw [← e] at J
  exact J
end
end SM

namespace HP
open PySem PySem.Spec PyProof.Rows L2
def top (i : Nat) : Stmt := (PySem.Challenge.pw_handplaced_k15_whole_texts_refused).main.body.getD i (.Pass ⟨0, 0, 0, 0⟩)
/-! ### names that stand for built-ins; defs by their names -/
def frees : List Str := ["int", "list", "len", "max", "min", "isinstance", "sorted", "all", "any", "tuple", "set", "str", "bool", "dict", "range", "zip", "enumerate", "ValueError", "super"]
structure Fr (mg : Str → Option Value) : Prop where
  fr : ∀ x, frees.contains x = true → mg x = none
/-- the def x of the text, as the top has left it -/
def Dat (K : PySem.W.Frag) (mg : Str → Option Value) (x : Str) (st : Stmt) : Prop := ∃ (f : Addr) (fd : FuncData), mg x = some (.ref f) ∧ FunD K x x (defArgs st) (defBody st) (defScope st) [] [] f fd
/-- the def x keeps the promise sp -/
def Fn (P : Program) (w : World) (K : PySem.W.Frag) (mg : Str → Option Value) (base : Heap) (CX : CXT) (k : Nat) (x : Str) (sp : Sp) : Prop :=
  ∃ (f : Addr) (fd : FuncData) (ps : List Str), mg x = some (.ref f) ∧ PySem.W.keepIn K (.ref f) = true ∧ Binds K fd ps [] ∧ FnOk P w K mg base CX k f fd ps sp
section
variable {P : Program} {w : World} {K : PySem.W.Frag} {mg : Str → Option Value} {base : Heap}
theorem Fn.of {CX : CXT} {x : Str} {st : Stmt} {N ps : List Str} {k : Nat} {sp : Sp} (D : Dat K mg x st) (S : FnScope N ps (defScope st))
    (hb : ∀ (kV doc pm : Value) (an : Option Addr) (cdv ct : Value) (us : List Value), us.length = ps.length → bindArgs (PySem.W.fnOf x x (defArgs st) (defBody st) (defScope st) .none kV doc pm an cdv ct) ⟨us, []⟩ = pure (ps.zip us))
    (len : ∀ vs H Q E, sp vs H Q E → vs.length = ps.length)
    (hbody : ∀ (f : Addr) (cdv : Value) (A : Around) (outer : List Env) (s : Shared) (H : Hp) (vs : List V) (Q : VK) (E : XK), Room k (A.deeper (envOfC x (defScope st) s.heap.objs.size f cdv)) → sp vs H Q E →
      ∃ t, PSs (cxOf CX P w K mg base N x (defScope st) f cdv A outer s H E) (defBody st) t ∧ t { nx := fun _ H' => Q .non H', rt := Q } (start N vs) H) : Fn P w K mg base CX (k + 1) x sp := by
  obtain ⟨f, fd, h1, F⟩ := D
  exact ⟨f, fd, ps, h1, F.kp, F.bindsN hb, F.ok S len fun cdv A outer s H vs Q E hr h => hbody f cdv A outer s H vs Q E hr h⟩
theorem Fn.of0 {x : Str} {st : Stmt} {N ps : List Str} {k : Nat} {sp : Sp} (D : Dat K mg x st) (S : FnScope N ps (defScope st))
    (hb : ∀ (kV doc pm : Value) (an : Option Addr) (cdv ct : Value) (us : List Value), us.length = ps.length → bindArgs (PySem.W.fnOf x x (defArgs st) (defBody st) (defScope st) .none kV doc pm an cdv ct) ⟨us, []⟩ = pure (ps.zip us))
    (len : ∀ vs H Q E, sp vs H Q E → vs.length = ps.length)
    (hbody : ∀ (f : Addr) (cdv : Value) (A : Around) (outer : List Env) (s : Shared) (H : Hp) (vs : List V) (Q : VK) (E : XK), Room k (A.deeper (envOfC x (defScope st) s.heap.objs.size f cdv)) → sp vs H Q E →
      ∃ t, PSs (cxOf CX0 P w K mg base N x (defScope st) f cdv A outer s H E).nox (defBody st) t ∧ t { nx := fun _ H' => Q .non H', rt := Q } (start N vs) H) : Fn P w K mg base CX0 (k + 1) x sp :=
  Fn.of D S hb len fun f cdv A outer s H vs Q E hr h => let ⟨t, a, b⟩ := hbody f cdv A outer s H vs Q E hr h; ⟨t, a.nox, b⟩
end
section
variable {X : Cx} {CX : CXT} {k j : Nat} {x : Str} {sp : Sp} {e : Expr} {es : List Expr} {t : TA} {p pos : Pos} {E : XK}
/-- f(e, ..) by f's promise -/
theorem pfX (F : Fn X.prog X.w X.K X.mg X.base CX k x sp) (hr : Room k X.A) (hx : Passes CX X E) (ha : PA X (e :: es) t) (hg : Gl X x := by rfl) (hdb : (x == ("__debug__" : Str)) = false := by decide)
    (he : starEach (e :: es) X.env = (false, eval e X.env) :: starEach es X.env := by rfl) (hpl : (backTo pos (starEach es X.env)).any (·.1) = false := by rfl) : PE X (.Call (.Name x p) (e :: es) [] pos) (tCall sp [] E t) := by
  obtain ⟨f, fd, ps, h1, h2, h3, h4⟩ := F
  exact pe_call h4 hr hg h1 h2 h3 .nil hx ha hdb he hpl
theorem pf (F : Fn X.prog X.w X.K X.mg X.base CX0 k x sp) (hr : Room j X.A) (hkj : k ≤ j) (ha : PA X (e :: es) t) (hg : Gl X x := by rfl) (hdb : (x == ("__debug__" : Str)) = false := by decide)
    (he : starEach (e :: es) X.env = (false, eval e X.env) :: starEach es X.env := by rfl) (hpl : (backTo pos (starEach es X.env)).any (·.1) = false := by rfl) : PE X (.Call (.Name x p) (e :: es) [] pos) (tCall sp [] E0 t) :=
  pfX F (hr.mono hkj) pass0 ha hg hdb he hpl
end
end HP

namespace HP
open PySem PySem.Spec PyProof.Rows L2
/-! ### the layer's rules with K named (for blocks of comprehensions) -/
section
variable {X : Cx} {K : PySem.W.Frag} {w : World} {tg : Expr} {l e : Expr} {tl ta to : TE} {t : TA} {f : Str} {pos : Pos}
def rLenQ (K : PySem.W.Frag) : List V → Hp → VK → Prop := fun xs H Q => ∃ p ys, xs = [.ref p] ∧ (SqL K H p ys ∨ SqT K H p ys) ∧ Q (.int ys.length) H
theorem kLen (hK : X.K = K := by rfl) : CallR X (.builtin "len") (rLenQ K) := by subst hK; exact call_len_seq
def rLenV (K : PySem.W.Frag) : List V → Hp → VK → Prop := fun xs H Q => ∃ x n, xs = [x] ∧ LenV K x H n ∧ Q (.int n) H
theorem kLenV (hK : X.K = K := by rfl) : CallR X (.builtin "len") (rLenV K) := by subst hK; exact call_len
def rListQ (K : PySem.W.Frag) : List V → Hp → VK → Prop := fun xs H Q => ∃ p ys, xs = [.ref p] ∧ (SqL K H p ys ∨ SqT K H p ys) ∧ ∀ l, H l = none → Q (.ref l) (upd H l (.lst ys))
theorem kList (hK : X.K = K := by rfl) : CallR X (.type "list") (rListQ K) := by subst hK; exact call_list_of
def rTupQ (K : PySem.W.Frag) : List V → Hp → VK → Prop := fun xs H Q => ∃ p ys, xs = [.ref p] ∧ ((SqL K H p ys ∧ ∀ l, H l = none → Q (.ref l) (upd H l (.tup ys))) ∨ (SqT K H p ys ∧ Q (.ref p) H))
theorem kTup (hK : X.K = K := by rfl) : CallR X (.type "tuple") (rTupQ K) := by subst hK; exact call_tuple_of
theorem kIsi (hK : X.K = K := by rfl) : CallR X (.builtin "isinstance") (rIsi K) := by subst hK; exact call_isi
theorem kIsiT (hK : X.K = K := by rfl) : CallR X (.builtin "isinstance") (rIsiT K) := by subst hK; exact call_isiT
theorem kAll (hc : X.calm = true) (hK : X.K = K := by rfl) : CallR X (.builtin "all") (rAll K) := by subst hK; exact cr_all hc
theorem kAny (hc : X.calm = true) (hK : X.K = K := by rfl) : CallR X (.builtin "any") (rAny K) := by subst hK; exact cr_any hc
theorem kSortS (hK : X.K = K := by rfl) : CallR X (.builtin "sorted") (rSortedS K) := by subst hK; exact cr_sortedS
theorem kSet (hc : X.calm = true) (hK : X.K = K := by rfl) (hw : X.w = w := by rfl) : CallR X (.type "set") (SM.rSetM K w) := by subst hK; subst hw; exact SM.cr_setM hc
theorem kLenM (hw : X.w = w := by rfl) : CallR X (.builtin "len") (SM.rLenM w) := by subst hw; exact SM.cr_lenM
theorem kSortM (hc : X.calm = true) (hw : X.w = w := by rfl) : CallR X (.builtin "sorted") (SM.rSortedM w) := by subst hw; exact SM.cr_sortedM hc
theorem ixL (hK : X.K = K := by rfl) : IxR X (rIxL K) := by subst hK; exact ix_list
theorem ixT (hK : X.K = K := by rfl) : IxR X (rIxT K) := by subst hK; exact ix_tup
theorem slL (hK : X.K = K := by rfl) : SlR X (rSlL K) := by subst hK; exact sl_list
theorem slT (hK : X.K = K := by rfl) : SlR X (rSlT K) := by subst hK; exact sl_tup
theorem oIn (hK : X.K = K := by rfl) : OpR X (compareOp .In) (rIn K false) := by subst hK; exact op_in_seq
theorem oNotIn (hK : X.K = K := by rfl) : OpR X (compareOp .NotIn) (rIn K true) := by subst hK; exact op_notIn_seq
theorem oEqD (hu : X.A.units + 64 < cLine) (hK : X.K = K := by rfl) : OpR X (compareOp .Eq) (rEqD K) := by subst hK; exact op_eqD hu
theorem oNeD (hu : X.A.units + 64 < cLine) (hK : X.K = K := by rfl) : OpR X (compareOp .NotEq) (rNeD K) := by subst hK; exact op_neD hu
theorem oInD (hu : X.A.units + 65 < cLine) (hK : X.K = K := by rfl) : OpR X (compareOp .In) (rInD K) := by subst hK; exact op_inD hu
theorem oNotInD (hu : X.A.units + 65 < cLine) (hK : X.K = K := by rfl) : OpR X (compareOp .NotIn) (rNotInD K) := by subst hK; exact op_notInD hu
theorem iL (hl : PE X l tl) (hK : X.K = K := by rfl) : PI X tg l (iList K tl) := by subst hK; exact pi_list hl
theorem iT (hl : PE X l tl) (hK : X.K = K := by rfl) : PI X tg l (iTup K tl) := by subst hK; exact pi_tup hl
theorem eFld (he : PE X e ta) (hb : attributeBase e f X.env (eval e X.env) = eval e X.env := by rfl) (hK : X.K = K := by rfl) : PE X (.Attribute e f pos) (tFld K ta f) := by subst hK; exact pe_fld he hb
theorem eBm0 {o : Expr} {name : Str} {apos cpos : Pos} {T id : String} {r : V → List V → Hp → VK → Prop} (pa : PlainAttrs T) (slot : Slot T name id) (hty : typeOf (.builtin id) = pure (.type "method_descriptor")) (hm : MtR X id r) (ho : PE X o to)
    (hbase : attributeBase o name X.env (eval o X.env) = eval o X.env := by rfl) (hline : (apos.endLine == cpos.line) = true := by rfl) (hK : X.K = K := by rfl) : PE X (.Call (.Attribute o name apos) [] [] cpos) (tBM0 K T r to) := by
  subst hK; exact pe_bm0 pa slot hty hm ho hbase hline
theorem eBm {o : Expr} {es : List Expr} {name : Str} {apos cpos : Pos} {T id : String} {r : V → List V → Hp → VK → Prop} (pa : PlainAttrs T) (slot : Slot T name id) (hty : typeOf (.builtin id) = pure (.type "method_descriptor")) (hm : MtR X id r) (ho : PE X o to) (ha : PA X (e :: es) t)
    (hbase : attributeBase o name X.env (eval o X.env) = eval o X.env := by rfl)
    (hfew : ((backTo cpos (starEach (e :: es) X.env)).all (fun x => !x.1) && (backToKw cpos (keywordEach [] X.env)).all (fun x => x.1.isSome)
      && decide ((e :: es).length + ([] : List Keyword).length + (if ([] : List Keyword).isEmpty then 0 else 1) < 30)) = true := by rfl)
    (hline : (apos.endLine == cpos.line) = true := by rfl) (hs : starEach (e :: es) X.env = (false, eval e X.env) :: starEach es X.env := by rfl) (hplain : (backTo cpos (starEach es X.env)).any (·.1) = false := by rfl) (hK : X.K = K := by rfl) :
    PE X (.Call (.Attribute o name apos) (e :: es) [] cpos) (tBM K T r to t) := by
  subst hK; exact pe_bm pa slot hty hm ho ha hbase hfew hline hs hplain
end
end HP

namespace HP
open PySem L2
abbrev sMix : Stmt := top 27
abbrev sNext : Stmt := top 28
/-! ### the source of draws -/
structure Src (H : Hp) (p l : Addr) : Prop where
  ex : ∃ (st i : Int) (ns : List Int), H p = some (.lst [.int st, .ref l, .int i, .int 14]) ∧ H l = some (.lst (ns.map V.int)) ∧ ns.length ≤ 63
/-- all but the source stands as it stood -/
def Keep (p l : Addr) (H H' : Hp) : Prop := ∀ c o, H c = some o → c ≠ p → c ≠ l → H' c = some o
def spMix (K : PySem.W.Frag) : Sp := fun vs H Q _ => ∃ (a : Addr) (ns : List Int) (z : Int), vs = [.ref a, .int z] ∧ SqL K H a (ns.map V.int) ∧ ns.length ≤ 63 ∧
  ∀ H' p l, Same H H' → H p = none → H l = none → Src H' p l → Q (.ref p) H'
def spNext : Sp := fun vs H Q _ => ∃ (p l : Addr) (b : Int), vs = [.ref p, .int b] ∧ Src H p l ∧ 0 < b ∧ b < 1073741824 ∧
  ∀ H' r, 0 ≤ r → r < b → Src H' p l → Keep p l H H' → Q (.int r) H'
section
variable {P : Program} {w : World} {K : PySem.W.Frag} {mg : Str → Option Value} {base : Heap}
theorem Src.ne {H : Hp} {p l : Addr} (S : Src H p l) : p ≠ l := fun e => by
  obtain ⟨st, i, ns, hp, hl, hlen⟩ := S.ex
  rw [← e, hp] at hl
  have e3 := congrArg (fun x => x[1]?) (HO.lst.inj (Option.some.inj hl))
  rw [List.getElem?_map] at e3
  cases q : ns[1]? with
  | none => rw [q] at e3; cases e3
  | some c => rw [q] at e3; cases e3
theorem int_at {ns : List Int} {i : Nat} {y : V} (hi : (ns.map V.int)[i]? = some y) : ∃ c, y = V.int c ∧ ns[i]? = some c := by
  rw [List.getElem?_map] at hi
  cases e : ns[i]? with
  | none => rw [e] at hi; cases hi
  | some c => rw [e] at hi; exact ⟨c, (Option.some.inj hi).symm, rfl⟩
theorem scMix : FnScope ["_law_script", "_law_seed", "_law_state", "_law_cell"] ["_law_script", "_law_seed"] (defScope sMix) := ⟨rfl, rfl, rfl, by decide +kernel, rfl, by decide +kernel, by decide +kernel⟩
theorem ok_mix (D : Dat K mg "_law_mix" sMix) (T : Fr mg) : Fn P w K mg base CX0 1 "_law_mix" (spMix K) := by
  refine Fn.of0 D scMix (fun _ _ _ _ _ _ us hl => match us, hl with | [_, _], _ => rfl) (fun vs H Q E h => ?_) (fun f cdv A outer s H vs Q E hr h => ?_)
  · obtain ⟨a, ns, z, rfl, _⟩ := h
    rfl
  · obtain ⟨a, ns, z, rfl, hS, hlen, k⟩ := h
    refine ⟨_, (pss_cons (ps_set (i := 2) scMix.nd rfl (Or.inl rfl) (pv 1))
      (pss_cons (ps_for PassesOwn.never rfl (iL (K := K) (pv 0)) (pg_name (i := 3) scMix.nd rfl (Or.inl rfl)) (pss_one (ps_set (i := 2) scMix.nd rfl (Or.inl rfl) (pe_op op_modN (pe_callTy call_int1 (by rfl) (T.fr "int" (by decide +kernel)) (by decide +kernel) (pa_cons (pe_op op_add (pe_op op_add (pe_op op_mul (pv 2) pe_int) (pe_op op_modN (pe_callTy call_int1 (by rfl) (T.fr "int" (by decide +kernel)) (by decide +kernel) (pa_cons (pv 3) pa_nil)) pe_int)) pe_int) pa_nil)) pe_int))))
      (pss_one (ps_ret (pe_lst (pa_cons (pv 2) (pa_cons (pe_callTy (kList (K := K)) (by rfl) (T.fr "list" (by decide +kernel)) (by decide +kernel) (pa_cons (pv 0) pa_nil)) (pa_cons pe_int (pa_cons pe_int pa_nil))))))))), ?_⟩
    refine ⟨_, rfl, ?_⟩
    refine ⟨_, rfl, a, rfl, ⟨_, hS⟩, for_list (K := K) (a := a) (xs := ns.map V.int) (fun i σ H2 => ∃ (st : Int) (v : Option V), σ = [some (.ref a), some (.int z), some (.int st), v] ∧ H2 = H)
      ⟨z, none, rfl, rfl⟩ (fun i σ H2 _ ⟨_, _, _, s2⟩ => s2 ▸ hS) ?_ ?_⟩
    · rintro i y σ H2 hi ⟨st, v, rfl, rfl⟩
      obtain ⟨c, rfl, _⟩ := int_at hi
      refine ⟨_, rfl, _, _, rfl, rfl, .inr (by decide), _, rfl, .inl ⟨_, rfl, ?_⟩⟩
      refine ⟨_, _, rfl, rfl, (show (2147483629 : Int) ≠ 0 by decide), _, _, rfl, rfl, _, _, rfl, rfl, .inl ⟨_, rfl, ?_⟩⟩
      refine ⟨_, _, rfl, rfl, (show (2147483647 : Int) ≠ 0 by decide), ?_⟩
      exact ⟨_, _, rfl, rfl⟩
    · rintro σ H2 ⟨st, v, rfl, rfl⟩
      refine ⟨_, rfl, _, rfl, a, _, rfl, .inl hS, fun l hl => ?_⟩
      refine ⟨(by show 4 ≤ sizeLine; decide), fun p hp => ?_⟩
      have npl : l ≠ p := fun e => by rw [← e, upd_same] at hp; cases hp
      have hp2 : H2 p = none := by rw [upd_ne npl.symm] at hp; exact hp
      refine k _ p l (fun b o e => ?_) hp2 hl ⟨st, 0, ns, upd_same, ?_, hlen⟩
      · rw [upd_ne (ne_of_none e hp2), upd_ne (ne_of_none e hl)]; exact e
      · rw [upd_ne npl, upd_same]
theorem scNext : FnScope ["_law_h", "_law_bound", "_law_cell"] ["_law_h", "_law_bound"] (defScope sNext) := ⟨rfl, rfl, rfl, by decide +kernel, rfl, by decide +kernel, by decide +kernel⟩
theorem ok_next (D : Dat K mg "_law_next" sNext) (T : Fr mg) : Fn P w K mg base CX0 1 "_law_next" spNext := by
  refine Fn.of0 D scNext (fun _ _ _ _ _ _ us hl => match us, hl with | [_, _], _ => rfl) (fun vs H Q E h => ?_) (fun f cdv A outer s H vs Q E hr h => ?_)
  · obtain ⟨p, l, b, rfl, _⟩ := h
    rfl
  · obtain ⟨p, l, b, rfl, S, hb, hb2, k⟩ := h
    obtain ⟨st, i, ns, hp, hl, hlen⟩ := S.ex
    have npl := S.ne
    refine ⟨_, (pss_cons (ps_set (i := 2) scNext.nd rfl (Or.inl rfl) (pe_ix (ixL (K := K)) (pe_op op_cat (pe_ix (ixL (K := K)) (pv 0) pe_int (fun _ _ => rfl)) (pe_lst (pa_cons pe_int pa_nil))) (pe_op op_modN (pe_callTy call_int1 (by rfl) (T.fr "int" (by decide +kernel)) (by decide +kernel) (pa_cons (pe_ix (ixL (K := K)) (pv 0) pe_int (fun _ _ => rfl)) pa_nil)) (pe_callB (call_max2 rfl) (by rfl) (T.fr "max" (by decide +kernel)) (by decide +kernel) (pa_cons pe_int (pa_cons (pe_callB (kLen (K := K)) (by rfl) (T.fr "len" (by decide +kernel)) (by decide +kernel) (pa_cons (pe_ix (ixL (K := K)) (pv 0) pe_int (fun _ _ => rfl)) pa_nil)) pa_nil)))) (fun _ _ => rfl)))
      (pss_cons (ps_if (pt_cmpR op_ge (pv 2) (pe_op op_pow pe_int pe_int) (nomark _)) (pss_cons (ps_asg (pe_op op_fdivN (pv 2) (pv 1)) (pg_sub (pe_ix (ixL (K := K)) (pv 0) pe_int (fun _ _ => rfl)) (pe_op op_modN (pe_callTy call_int1 (by rfl) (T.fr "int" (by decide +kernel)) (by decide +kernel) (pa_cons (pe_ix (ixL (K := K)) (pv 0) pe_int (fun _ _ => rfl)) pa_nil)) (pe_callB (kLen (K := K)) (by rfl) (T.fr "len" (by decide +kernel)) (by decide +kernel) (pa_cons (pe_ix (ixL (K := K)) (pv 0) pe_int (fun _ _ => rfl)) pa_nil))) set_list))
      (pss_one (ps_ret (pe_op op_modN (pe_callTy call_int1 (by rfl) (T.fr "int" (by decide +kernel)) (by decide +kernel) (pa_cons (pv 2) pa_nil)) (pv 1))))) pss_nil)
      (pss_cons (ps_asg (pe_op op_modN (pe_callTy call_int1 (by rfl) (T.fr "int" (by decide +kernel)) (by decide +kernel) (pa_cons (pe_op op_add (pe_op op_add (pe_op op_mul (pe_ix (ixL (K := K)) (pv 0) pe_int (fun _ _ => rfl)) pe_int) (pe_op op_mul (pv 2) pe_int)) pe_int) pa_nil)) pe_int) (pg_sub (pv 0) pe_int set_list))
      (pss_cons (ps_asg (pe_op op_add (pe_ix (ixL (K := K)) (pv 0) pe_int (fun _ _ => rfl)) pe_int) (pg_sub (pv 0) pe_int set_list))
      (pss_one (ps_ret (pe_op op_modN (pe_callTy call_int1 (by rfl) (T.fr "int" (by decide +kernel)) (by decide +kernel) (pa_cons (pe_op op_fdivN (pe_ix (ixL (K := K)) (pv 0) pe_int (fun _ _ => rfl)) pe_int) pa_nil)) (pv 1)))))))), ?_⟩
    have atP1 : atI ([.int st, .ref l, .int i, .int 14] : List V) 1 = some (.ref l) := rfl
    have atP2 : atI ([.int st, .ref l, .int i, .int 14] : List V) 2 = some (.int i) := rfl
    have atP0 : atI ([.int st, .ref l, .int i, .int 14] : List V) 0 = some (.int st) := rfl
    -- h[1]; [0]; +
    refine ⟨_, rfl, p, _, _, _, rfl, rfl, SqL.of hp, atP1, (by show 1 ≤ sizeLine; decide), fun z hz => ?_⟩
    have nlz : l ≠ z := ne_of_none hl hz
    have npz : p ≠ z := ne_of_none hp hz
    refine ⟨l, z, _, _, rfl, rfl, (by rw [upd_ne nlz]; exact hl), upd_same, (by simp; exact Nat.le_trans (Nat.succ_le_succ hlen) (by decide)), fun c hc => ?_⟩
    have ncz : c ≠ z := fun e => by rw [e, upd_same] at hc; cases hc
    rw [upd_ne ncz] at hc
    have npc : p ≠ c := ne_of_none hp hc
    have nlc : l ≠ c := ne_of_none hl hc
    generalize eH1 : upd (upd H z (.lst [.int 0])) c (.lst (ns.map V.int ++ [V.int 0])) = H1
    have hp1 : H1 p = some (.lst [.int st, .ref l, .int i, .int 14]) := by rw [← eH1, upd_ne npc, upd_ne npz]; exact hp
    have hl1 : H1 l = some (.lst (ns.map V.int)) := by rw [← eH1, upd_ne nlc, upd_ne nlz]; exact hl
    have hc1 : H1 c = some (.lst (ns.map V.int ++ [V.int 0])) := by rw [← eH1, upd_same]
    have same : Same H H1 := fun b o e => by rw [← eH1, upd_ne (ne_of_none e hc), upd_ne (ne_of_none e hz)]; exact e
    -- int(h[2]) % max(1, len(h[1]))
    have hm : (if (((ns.map V.int).length : Int)) > 1 then ((ns.map V.int).length : Int) else 1) > 0 := by split <;> omega
    have hm2 : (if (((ns.map V.int).length : Int)) > 1 then ((ns.map V.int).length : Int) else 1) ≤ (ns.length : Int) ∨ ns = [] := by
      rw [List.length_map]
      cases ns with
      | nil => right; rfl
      | cons a t => left; simp only [List.length_cons]; split <;> omega
    generalize em : (if (((ns.map V.int).length : Int)) > 1 then ((ns.map V.int).length : Int) else 1) = m at hm hm2
    have hf0 : 0 ≤ i.fmod m := Int.fmod_nonneg_of_pos _ hm
    have hf1 : i.fmod m < m := Int.fmod_lt_of_pos _ hm
    obtain ⟨cell, hcell⟩ : ∃ cell : Int, atI (ns.map V.int ++ [V.int 0]) (i.fmod m) = some (V.int cell) := by
      have hj : (i.fmod m).toNat < (ns ++ [0]).length := by
        rw [List.length_append, List.length_singleton]
        rcases hm2 with h | h
        · omega
        · subst h
          have : m = 1 := by rw [← em]; rfl
          subst this
          simp only [List.length_nil]
          omega
      refine ⟨(ns ++ [0])[(i.fmod m).toNat], ?_⟩
      have e : (ns.map V.int ++ [V.int 0]) = (ns ++ [0]).map V.int := by simp
      rw [e]
      unfold atI ixN
      rw [if_pos hf0, if_pos (by rw [List.length_map]; omega)]
      show ((ns ++ [0]).map V.int)[(i.fmod m).toNat]? = _
      rw [List.getElem?_map, List.getElem?_eq_getElem hj] <;> rfl
    refine ⟨_, rfl, p, _, _, _, rfl, rfl, SqL.of hp1, atP2, .inl ⟨_, rfl, ?_⟩⟩
    refine ⟨_, rfl, p, _, _, _, rfl, rfl, SqL.of hp1, atP1, l, _, rfl, .inl (SqL.of hl1), ?_⟩
    refine ⟨1, _, rfl, _, _, rfl, rfl, ?_⟩
    rw [em]
    refine ⟨(show m ≠ 0 by omega), c, _, _, _, rfl, rfl, SqL.of hc1, hcell, ?_⟩
    -- if cell >= 10 ** 18
    refine ⟨_, rfl, _, _, rfl, rfl, ⟨by decide, by decide, by decide⟩, _, _, rfl, rfl, _, rfl, ?_⟩
    refine ite2 (fun hge => ?_) (fun hge => ?_)
    · have hge' : (10 : Int) ^ 18 ≤ cell := of_decide_eq_true hge
      have hne : ns ≠ [] := fun e => by
        subst e
        have : m = 1 := by rw [← em]; rfl
        subst this
        have hz0 : i.fmod 1 = 0 := by omega
        rw [hz0] at hcell
        have : V.int 0 = V.int cell := Option.some.inj hcell
        have : (0 : Int) = cell := V.int.inj this
        rw [← this] at hge'
        exact absurd hge' (by decide)
      have hlp : 0 < ns.length := List.length_pos_iff.mpr hne
      have hn0 : ((ns.map V.int).length : Int) ≠ 0 := by rw [List.length_map]; omega
      have hnp : 0 < ((ns.map V.int).length : Int) := by rw [List.length_map]; omega
      have g0 : 0 ≤ i.fmod ((ns.map V.int).length : Int) := Int.fmod_nonneg_of_pos _ hnp
      have g1 : i.fmod ((ns.map V.int).length : Int) < ((ns.map V.int).length : Int) := Int.fmod_lt_of_pos _ hnp
      refine ⟨_, rfl, _, rfl, _, _, rfl, rfl, ⟨(show b ≠ 0 by omega), (show b.natAbs < 1073741824 by omega)⟩, ?_⟩
      refine ⟨_, rfl, p, _, _, _, rfl, rfl, SqL.of hp1, atP1, ?_⟩
      refine ⟨_, rfl, p, _, _, _, rfl, rfl, SqL.of hp1, atP2, .inl ⟨_, rfl, ?_⟩⟩
      refine ⟨_, rfl, p, _, _, _, rfl, rfl, SqL.of hp1, atP1, l, _, rfl, .inl (SqL.of hl1), _, _, rfl, rfl, hn0, ?_⟩
      refine ⟨l, _, _, (i.fmod ((ns.map V.int).length : Int)).toNat, rfl, rfl, hl1, (by unfold ixN; rw [if_pos g0, if_pos g1]), ?_⟩
      refine ⟨_, rfl, .inl ⟨_, rfl, _, rfl, _, _, rfl, rfl, (show b ≠ 0 by omega), ?_⟩⟩
      refine k _ _ (Int.fmod_nonneg_of_pos _ hb) (Int.fmod_lt_of_pos _ hb) ⟨st, i, ns.set (i.fmod ((ns.map V.int).length : Int)).toNat (cell.fdiv b), (by rw [upd_ne npl]; exact hp1), (by rw [upd_same, List.map_set]), (by rw [List.length_set]; exact hlen)⟩ (fun x o e h1 h2 => ?_)
      rw [upd_ne h2]
      exact same x o e
    · refine ⟨_, rfl, p, _, _, _, rfl, rfl, SqL.of hp1, atP0, _, _, rfl, rfl, .inr (by decide), _, rfl, _, _, rfl, rfl, .inr (by decide), _, _, rfl, rfl, _, _, rfl, rfl, .inl ⟨_, rfl, _, _, rfl, rfl, (show (2147483647 : Int) ≠ 0 by decide), ?_⟩⟩
      refine ⟨_, rfl, p, _, _, 0, rfl, rfl, hp1, rfl, ?_⟩
      refine ⟨_, rfl, p, _, _, _, rfl, rfl, SqL.of upd_same, rfl, _, _, rfl, rfl, ?_⟩
      refine ⟨_, rfl, p, _, _, 2, rfl, rfl, upd_same, rfl, ?_⟩
      refine ⟨_, rfl, p, _, _, _, rfl, rfl, SqL.of upd_same, rfl, _, _, rfl, rfl, ⟨by decide, by decide⟩, .inl ⟨_, rfl, _, rfl, _, _, rfl, rfl, (show b ≠ 0 by omega), ?_⟩⟩
      refine k _ _ (Int.fmod_nonneg_of_pos _ hb) (Int.fmod_lt_of_pos _ hb) ⟨_, _, ns, upd_same, (by rw [upd_ne npl.symm, upd_ne npl.symm]; exact hl1), hlen⟩ (fun x o e h1 h2 => ?_)
      rw [upd_ne h1, upd_ne h1]
      exact same x o e
end
end HP

namespace HP
open PySem PySem.Spec PyProof.Rows L2
/-! ### data -/
def tyD : PyData → String
  | .none => "NoneType"
  | .bool _ => "bool"
  | .int _ => "int"
  | .str _ => "str"
  | .list _ => "list"
  | .tuple _ => "tuple"
  | .dict _ => "dict"
theorem SqL.same {K : PySem.W.Frag} {H H' : Hp} {a : Addr} {xs : List V} (e : Same H H') (h : SqL K H a xs) : SqL K H' a xs := e.seq h
theorem SqT.same {K : PySem.W.Frag} {H H' : Hp} {a : Addr} {xs : List V} (e : Same H H') (h : SqT K H a xs) : SqT K H' a xs := by
  rcases h with (h | ⟨o, h⟩) | h
  · exact .inl (.inl (e _ _ h))
  · exact .inl (.inr ⟨o, e _ _ h⟩)
  · exact .inr h
mutual
theorem Dp.same {K : PySem.W.Frag} {H H' : Hp} (e : Same H H') : ∀ (d : PyData) {v : V}, Dp K H v d → Dp K H' v d
  | .none, _, .non => .non
  | .bool b, _, .bl _ => .bl b
  | .int i, _, .int _ => .int i
  | .str x, _, .str _ => .str x
  | .list ds, _, .lst h a => .lst (SqL.same e h) (DpAll.same e ds a)
  | .tuple ds, _, .tup h a => .tup (SqT.same e h) (DpAll.same e ds a)
  | .dict kvs, _, h => nomatch h
theorem DpAll.same {K : PySem.W.Frag} {H H' : Hp} (e : Same H H') : ∀ (ds : List PyData) {vs : List V}, DpAll K H vs ds → DpAll K H' vs ds
  | [], _, .nil => .nil
  | d :: ds, _, .cons a b => .cons (Dp.same e d a) (DpAll.same e ds b)
end
theorem DpAll.len {K : PySem.W.Frag} {H : Hp} : ∀ {ds : List PyData} {vs : List V}, DpAll K H vs ds → vs.length = ds.length
  | [], _, .nil => rfl
  | d :: ds, _, .cons a b => congrArg Nat.succ (DpAll.len b)
theorem DpAll.at {K : PySem.W.Frag} {H : Hp} : ∀ {ds : List PyData} {vs : List V} {i : Nat} {v : V}, DpAll K H vs ds → vs[i]? = some v → ∃ d, ds[i]? = some d ∧ Dp K H v d
  | [], _, i, v, .nil, e => by simp at e
  | d :: ds, _, 0, v, .cons a b, e => by simp at e; subst e; exact ⟨d, rfl, a⟩
  | d :: ds, _, i + 1, v, .cons a b, e => by
    obtain ⟨d', h1, h2⟩ := DpAll.at (i := i) (v := v) b (by simpa using e)
    exact ⟨d', by simpa using h1, h2⟩
theorem tyL {K : PySem.W.Frag} {H : Hp} {a : Addr} {xs : List V} (h : SqL K H a xs) : TyX K H (.ref a) (.type "list") := by
  rcases h with (h | ⟨o, h⟩) | ⟨o, its, n, h, c, _⟩
  · exact .base (.lst h)
  · exact .base (.frz h)
  · exact .kList h c
theorem tyT {K : PySem.W.Frag} {H : Hp} {a : Addr} {xs : List V} (h : SqT K H a xs) : TyX K H (.ref a) (.type "tuple") := by
  rcases h with (h | ⟨o, h⟩) | ⟨o, its, n, h, c, _⟩
  · exact .base (.tup h)
  · exact .fTuple h
  · exact .kTuple h c
theorem dp_ty {K : PySem.W.Frag} {H : Hp} {d : PyData} {v : V} (h : Dp K H v d) : TyX K H v (.type (tyD d)) := by
  cases h with
  | non => exact .base .non
  | bl b => exact .base (.bl b)
  | int i => exact .base (.int i)
  | str x => exact .base (.str x)
  | lst h a => exact tyL h
  | tup h a => exact tyT h
def isaB (a b : String) : Bool := a == b || (a == "bool" && b == "int")
theorem kit_all : (["NoneType", "bool", "int", "str", "list", "tuple", "dict"] : List String).all (fun a => (["bool", "int", "str", "list", "tuple", "dict"] : List String).all fun b => decide (kitB a b = some (isaB a b))) = true := by decide +kernel
theorem tyD_mem (d : PyData) : tyD d ∈ (["NoneType", "bool", "int", "str", "list", "tuple", "dict"] : List String) := by cases d <;> simp [tyD]
theorem kitD {K : PySem.W.Frag} (d : PyData) {b : String} (hb : b ∈ (["bool", "int", "str", "list", "tuple", "dict"] : List String)) : PySem.W.kitOne K (.type (tyD d)) (.type b) = some (isaB (tyD d) b) :=
  kit_ty (of_decide_eq_true (List.all_eq_true.mp (List.all_eq_true.mp kit_all _ (tyD_mem d)) _ hb))
def isIntD : PyData → Bool
  | .int _ => true
  | _ => false
def az : Str := "abcdefghijklmnopqrstuvwxyz"
def isLet (c : Nat) : Bool := decide (c ∈ az.cps.toList)
def isNameS (x : Str) : Bool := decide (1 ≤ (x.length : Int)) && (decide ((x.length : Int) ≤ 8) && x.cps.toList.all isLet)
def isNameD : PyData → Bool
  | .str x => isNameS x
  | _ => false
/-! ### comprehensions whose items are told beforehand -/
def Cv (H1 : Hp) (D : Addr) (out : Nat → List V) (i : Nat) (H : Hp) : Prop := Same H1 H ∧ H D = some (.lst (out i))
theorem cv0 {H1 : Hp} {D : Addr} {out : Nat → List V} (hD : H1 D = none) (h0 : out 0 = []) : Cv H1 D out 0 (upd H1 D (.lst [])) :=
  ⟨fun b o e => by rw [upd_ne (ne_of_none e hD)]; exact e, by rw [upd_same, h0]⟩
theorem cv_yes {H1 H4 : Hp} {D : Addr} {out : Nat → List V} {i : Nat} {y : V} (hD : H1 D = none) (s : Same H1 H4) (h : H4 D = some (.lst (out i))) (hl : (out i).length ≤ 100000) (e : out (i + 1) = out i ++ [y]) :
    ∃ acc, H4 D = some (.lst acc) ∧ acc.length < sizeLine ∧ Cv H1 D out (i + 1) (upd H4 D (.lst (acc ++ [y]))) :=
  ⟨out i, h, Nat.lt_of_le_of_lt hl (by decide), fun b o q => by rw [upd_ne (ne_of_none q hD)]; exact s b o q, by rw [upd_same, e]⟩
theorem cv_no {H1 H4 : Hp} {D : Addr} {out : Nat → List V} {i : Nat} (s : Same H1 H4) (h : H4 D = some (.lst (out i))) (e : out (i + 1) = out i) : Cv H1 D out (i + 1) H4 := ⟨s, by rw [e]; exact h⟩
theorem snoc_at {α β : Type} (f : α → β) {l : List α} {i : Nat} {x : α} (h : l[i]? = some x) : (l.take (i + 1)).map f = (l.take i).map f ++ [f x] := by
  rw [List.take_add_one, h, List.map_append]
  rfl
theorem same_new {H H' : Hp} {p : Addr} {o : HO} (s : Same H H') (h : H' p = none) : Same H (upd H' p o) := fun b u e => by
  rw [upd_ne (ne_of_none (s b u e) h)]
  exact s b u e
theorem same_mut {H H' : Hp} {p : Addr} {o : HO} (s : Same H H') (h : H p = none) : Same H (upd H' p o) := fun b u e => by
  rw [upd_ne (ne_of_none e h)]
  exact s b u e
theorem lc_yes {σ : L2.St} {H : Hp} {A B : Hp → Prop} (h : A H) : tYes σ H (fun b H3 => if b = true then A H3 else B H3) := by
  show if true = true then A H else B H
  exact iteT h
end HP

namespace HP
open PySem PySem.Spec PyProof.Rows L2
abbrev sIsInt : Stmt := top 15
abbrev sIsName : Stmt := top 16
abbrev sThings : Stmt := top 17
abbrev sWords : Stmt := top 19
/-! ### what the module's own names hold -/
structure Cs (K : PySem.W.Frag) (mg : Str → Option Value) : Prop where
  letters : ∃ t, mg "LETTERS" = some (.str az t)
  mname : ∃ t, mg "MOST_NAME" = some (.int 8 t)
  mthings : ∃ t, mg "MOST_THINGS" = some (.int 4 t)
  mvalues : ∃ t, mg "MOST_VALUES" = some (.int 3 t)
section
variable {P : Program} {w : World} {K : PySem.W.Frag} {mg : Str → Option Value} {base : Heap}
def spIsInt (K : PySem.W.Frag) : Sp := fun vs H Q _ => ∃ (v : V) (d : PyData), vs = [v] ∧ Dp K H v d ∧ Q (.bl (isIntD d)) H
theorem scIsInt : FnScope ["value"] ["value"] (defScope sIsInt) := ⟨rfl, rfl, rfl, by decide +kernel, rfl, by decide +kernel, by decide +kernel⟩
theorem ok_isInt (D : Dat K mg "is_integer" sIsInt) (T : Fr mg) : Fn P w K mg base CX0 1 "is_integer" (spIsInt K) := by
  refine Fn.of0 D scIsInt (fun _ _ _ _ _ _ us hl => match us, hl with | [_], _ => rfl) (fun vs H Q E h => ?_) (fun f cdv A outer s H vs Q E hr h => ?_)
  · obtain ⟨v, d, rfl, _⟩ := h
    rfl
  · obtain ⟨v, d, rfl, hd, k⟩ := h
    refine ⟨_, (pss_one (ps_ret (pe_and (pe_callB (kIsi (K := K)) (by rfl) (T.fr "isinstance" (by decide +kernel)) (by decide +kernel) (pa_cons (pv 0) (pa_cons (pe_bltn (v := .ty "int") (u := .type "int") (by rfl) (T.fr "int" (by decide +kernel)) (by decide +kernel) rfl) pa_nil))) (pe_one (pe_not (pe_callB (kIsi (K := K)) (by rfl) (T.fr "isinstance" (by decide +kernel)) (by decide +kernel) (pa_cons (pv 0) (pa_cons (pe_bltn (v := .ty "bool") (u := .type "bool") (by rfl) (T.fr "bool" (by decide +kernel)) (by decide +kernel) rfl) pa_nil)))))))), ?_⟩
    refine ⟨_, rfl, v, _, _, _, _, rfl, .ty "int", dp_ty hd, kitD d (by decide), _, rfl, ?_⟩
    cases d with
    | int i =>
      refine iteT ?_
      exact ⟨_, rfl, v, _, _, _, _, rfl, .ty "bool", dp_ty hd, kitD _ (by decide), _, rfl, k⟩
    | bool b =>
      refine iteT ?_
      exact ⟨_, rfl, v, _, _, _, _, rfl, .ty "bool", dp_ty hd, kitD _ (by decide), _, rfl, k⟩
    | _ =>
      refine iteF ?_
      exact k
def spIsName (K : PySem.W.Frag) : Sp := fun vs H Q _ => ∃ (v : V) (d : PyData), vs = [v] ∧ Dp K H v d ∧ (∀ x, d = .str x → x.length ≤ 100000) ∧ ∀ H', Same H H' → Q (.bl (isNameD d)) H'
theorem scIsName : FnScope ["value", "sign"] ["value"] (defScope sIsName) := ⟨rfl, rfl, rfl, by decide +kernel, rfl, by decide +kernel, by decide +kernel⟩
theorem ok_isName (D : Dat K mg "is_name" sIsName) (T : Fr mg) (C : Cs K mg) : Fn P w K mg base CX0 1 "is_name" (spIsName K) := by
  refine Fn.of0 D scIsName (fun _ _ _ _ _ _ us hl => match us, hl with | [_], _ => rfl) (fun vs H Q E h => ?_) (fun f cdv A outer s H vs Q E hr h => ?_)
  · obtain ⟨v, d, rfl, _⟩ := h
    rfl
  · obtain ⟨v, d, rfl, hd, hx, k⟩ := h
    obtain ⟨tl, cL⟩ := C.letters
    obtain ⟨tm, cM⟩ := C.mname
    refine ⟨_, (pss_one (ps_ret (pe_and (pe_callB (kIsi (K := K)) (by rfl) (T.fr "isinstance" (by decide +kernel)) (by decide +kernel) (pa_cons (pv 0) (pa_cons (pe_bltn (v := .ty "str") (u := .type "str") (by rfl) (T.fr "str" (by decide +kernel)) (by decide +kernel) rfl) pa_nil))) (pe_and (pe_chain op_le op_le pe_int (pe_callB (kLenV (K := K)) (by rfl) (T.fr "len" (by decide +kernel)) (by decide +kernel) (pa_cons (pv 0) pa_nil)) (pe_glob (v := .int 8) (by rfl) cM ⟨_, rfl⟩)) (pe_one (pe_callB (kAll (K := K) rfl) (by rfl) (T.fr "all" (by decide +kernel)) (by decide +kernel) (pa_cons (pe_lc (own := [("sign", 1)]) (g := gName 1) (by rfl) scIsName.nd (pi_str (pv 0)) (blkOk_by (own := [("sign", 1)]) (N := ["value", "sign"]) (sc := defScope sIsName) (by decide +kernel)) (fun _ _ _ _ _ => (pg_name (i := 1) scIsName.nd rfl (Or.inl rfl))) (fun _ _ _ _ _ => pts_nil) (fun _ _ _ _ _ => (pe_cmpR op_in_sign (pv 1) (pe_glob (v := .str az) (by rfl) cL ⟨_, rfl⟩) (by rfl)))) pa_nil))))))), ?_⟩
    refine ⟨_, rfl, v, _, _, _, _, rfl, .ty "str", dp_ty hd, kitD d (by decide), _, rfl, ?_⟩
    cases d with
    | str x =>
      cases hd
      have hxl : x.length ≤ sizeLine := Nat.le_trans (hx x rfl) (by decide)
      refine iteT ?_
      refine ⟨_, rfl, _, x.length, rfl, ⟨hxl, rfl⟩, _, _, rfl, rfl, _, rfl, ?_⟩
      have en : isNameD (.str x) = (decide (1 ≤ (x.length : Int)) && (decide ((x.length : Int) ≤ 8) && x.cps.toList.all isLet)) := rfl
      rw [en] at k
      cases h1 : decide (1 ≤ (x.length : Int)) with
      | false =>
        rw [h1] at k
        exact iteF ⟨_, rfl, iteF (k H (Same.refl H))⟩
      | true =>
        rw [h1] at k
        refine iteT ⟨_, _, rfl, rfl, _, rfl, ?_⟩
        cases h2 : decide ((x.length : Int) ≤ 8) with
        | false =>
          rw [h2] at k
          exact iteF (k H (Same.refl H))
        | true =>
          rw [h2] at k
          have hxs : x.cps.size ≤ 8 := Int.ofNat_le.mp (of_decide_eq_true h2)
          refine iteT ⟨_, rfl, x, rfl, fun D hD => ?_⟩
          refine lc_it walk_str (Cv H D fun i => ((x.cps.toList.take i).map isLet).map V.bl) (cv0 hD rfl) (fun _ _ _ _ => True.intro) (fun i y H2 H3 hi p q => ?_) (fun H2 p => ?_)
          · obtain ⟨rfl, c, hc, rfl⟩ := q
            refine ⟨rfl, ?_⟩
            refine lc_yes ?_
            refine ⟨_, rfl, c, az, rfl, rfl, ?_⟩
            refine cv_yes hD p.1 p.2 ?_ ?_
            · simp only [List.length_map, List.length_take]
              omega
            · have hc' : x.cps.toList[i]? = some c := by rw [Array.getElem?_toList]; exact hc
              rw [snoc_at isLet hc', List.map_append]
              rfl
          · have e : x.cps.toList.take x.cps.size = x.cps.toList := by rw [← Array.length_toList, List.take_length]
            have hp2 : H2 D = some (.lst ((x.cps.toList.map isLet).map V.bl)) := by rw [← e]; exact p.2
            refine ⟨D, x.cps.toList.map isLet, rfl, SqL.of hp2, ?_⟩
            have e2 : (x.cps.toList.map isLet).all id = x.cps.toList.all isLet := by rw [List.all_map]; rfl
            show Q (.bl ((x.cps.toList.map isLet).all id)) H2
            rw [e2]
            exact k H2 p.1
    | _ =>
      refine iteF ?_
      exact k H (Same.refl H)
end
end HP

namespace HP
open PySem PySem.Spec PyProof.Rows L2
/-! ### are_things -/
def distinct : List Str → Bool
  | [] => true
  | x :: xs => !(xs.any fun y => decide (y = x)) && distinct xs
theorem distinct_iff : ∀ {xs : List Str}, distinct xs = true ↔ xs.Nodup
  | [] => by simp [distinct]
  | x :: xs => by
    unfold distinct
    rw [Bool.and_eq_true, distinct_iff, List.nodup_cons, Bool.not_eq_true']
    constructor
    · rintro ⟨h1, h2⟩
      refine ⟨fun h => ?_, h2⟩
      have := List.any_eq_false.mp h1 x h
      simp at this
    · rintro ⟨h1, h2⟩
      refine ⟨List.any_eq_false.mpr fun y hy => ?_, h2⟩
      intro e
      exact h1 (of_decide_eq_true e ▸ hy)
def strOf : PyData → Str
  | .str x => x
  | _ => Str.empty
def isThingsL (ds : List PyData) : Bool := decide (1 ≤ (ds.length : Int)) && (decide ((ds.length : Int) ≤ 4) && (ds.all isNameD && distinct (ds.map strOf)))
def isThingsD : PyData → Bool
  | .tuple ds => isThingsL ds
  | _ => false
theorem names_strs : ∀ {ds : List PyData}, ds.all isNameD = true → ds = (ds.map strOf).map PyData.str
  | [], _ => rfl
  | d :: ds, h => by
    rw [List.all_cons, Bool.and_eq_true] at h
    obtain ⟨h1, h2⟩ := h
    have := names_strs h2
    cases d with
    | str x => rw [List.map_cons, List.map_cons, ← this]; rfl
    | _ => cases h1
theorem dp_strs {K : PySem.W.Frag} {H : Hp} : ∀ {xs : List Str} {vs : List V}, DpAll K H vs (xs.map PyData.str) → vs = xs.map V.str
  | [], _, .nil => rfl
  | x :: xs, _, .cons (.str _) b => congrArg (V.str x :: ·) (dp_strs b)
theorem kv_strs (xs : List Str) : (xs.map (Sum.inr : Str → Key)).map kV = xs.map V.str := by
  rw [List.map_map]
  rfl
/-- the number of different ones -/
theorem ofKeys_nodup : ∀ (ks acc : List Key), acc.Nodup → (ks.foldl SM.plus acc).Nodup
  | [], acc, h => h
  | k :: ks, acc, h => by
    rw [List.foldl_cons]
    refine ofKeys_nodup ks _ ?_
    unfold SM.plus
    split
    · exact h
    · rename_i hk
      exact (List.perm_append_singleton k acc).nodup_iff.mpr (List.nodup_cons.mpr ⟨fun z => hk (SM.hasK_iff.mpr z), h⟩)
theorem ofKeys_mem : ∀ (ks acc : List Key) (k : Key), k ∈ ks.foldl SM.plus acc ↔ k ∈ acc ∨ k ∈ ks
  | [], acc, k => by simp
  | j :: ks, acc, k => by
    rw [List.foldl_cons, ofKeys_mem ks]
    unfold SM.plus
    split
    · rename_i hj
      have hj := SM.hasK_iff.mp hj
      constructor
      · rintro (h | h)
        · exact .inl h
        · exact .inr (List.mem_cons_of_mem _ h)
      · rintro (h | h)
        · exact .inl h
        · rcases List.mem_cons.mp h with rfl | h
          · exact .inl hj
          · exact .inr h
    · rw [List.mem_append, List.mem_singleton, List.mem_cons, or_assoc]
theorem ofKeys_all {ks acc : List Key} (h : (acc ++ ks).Nodup) : ks.foldl SM.plus acc = acc ++ ks := by
  induction ks generalizing acc with
  | nil => simp
  | cons k ks ih =>
    rw [List.foldl_cons]
    have hk : ¬ SM.hasK acc k = true := fun z => by
      have := SM.hasK_iff.mp z
      rw [List.nodup_append] at h
      exact h.2.2 k this k (List.mem_cons_self) rfl
    have e : SM.plus acc k = acc ++ [k] := by unfold SM.plus; rw [if_neg hk]
    rw [e, ih (by rw [List.append_assoc]; exact h), List.append_assoc]
    rfl
theorem ofKeys_back : ∀ (ks acc : List Key), acc.Nodup → (ks.foldl SM.plus acc).length = acc.length + ks.length → (acc ++ ks).Nodup
  | [], acc, h, _ => by rw [List.append_nil]; exact h
  | k :: ks, acc, h, e => by
    rw [List.foldl_cons, List.length_cons] at e
    have h1 := SM.ofKeys_len ks (SM.plus acc k)
    have hk : ¬ SM.hasK acc k = true := fun z => by
      have e2 : SM.plus acc k = acc := by unfold SM.plus; rw [if_pos z]
      rw [e2] at e h1
      omega
    have e2 : SM.plus acc k = acc ++ [k] := by unfold SM.plus; rw [if_neg hk]
    rw [e2] at e
    have nd := (List.perm_append_singleton k acc).nodup_iff.mpr (List.nodup_cons.mpr ⟨fun z => hk (SM.hasK_iff.mpr z), h⟩)
    have := ofKeys_back ks (acc ++ [k]) nd (by rw [e, List.length_append, List.length_singleton]; omega)
    rw [List.append_assoc] at this
    exact this
theorem ofKeys_len {xs : List Str} : decide (((SM.ofKeys (xs.map Sum.inr)).length : Int) = (xs.length : Int)) = distinct xs := by
  by_cases h : xs.Nodup
  · have hn : (xs.map (Sum.inr : Str → Key)).Nodup := by
      refine List.Pairwise.map _ (fun a b hab e => hab (Sum.inr.inj e)) h
    have e : SM.ofKeys (xs.map Sum.inr) = xs.map Sum.inr := by
      unfold SM.ofKeys
      rw [ofKeys_all (by simpa using hn)]
      rfl
    rw [e, List.length_map, distinct_iff.mpr h]
    exact decide_eq_true rfl
  · have hd : distinct xs = false := by
      cases q : distinct xs with
      | false => rfl
      | true => exact absurd (distinct_iff.mp q) h
    rw [hd]
    refine decide_eq_false fun e => h ?_
    have hl : ((xs.map (Sum.inr : Str → Key)).foldl SM.plus []).length = ([] : List Key).length + (xs.map (Sum.inr : Str → Key)).length := by
      rw [List.length_map, List.length_nil, Nat.zero_add]
      exact Int.ofNat.inj e
    have nd2 : (xs.map (Sum.inr : Str → Key)).Nodup := by
      have := ofKeys_back _ _ List.nodup_nil hl
      rw [List.nil_append] at this
      exact this
    exact List.Pairwise.of_map _ (fun a b hab e => hab (by rw [e])) nd2
section
variable {P : Program} {w : World} {K : PySem.W.Frag} {mg : Str → Option Value} {base : Heap}
/-- texts that are not too long -/
def Small (d : PyData) : Prop := ∀ ds, d = .tuple ds → ∀ x, PyData.str x ∈ ds → x.length ≤ 100000
def spThings (K : PySem.W.Frag) : Sp := fun vs H Q _ => ∃ (v : V) (d : PyData), vs = [v] ∧ Dp K H v d ∧ Small d ∧ ∀ H', Same H H' → Q (.bl (isThingsD d)) H'
theorem scThings : FnScope ["value", "thing"] ["value"] (defScope sThings) := ⟨rfl, rfl, rfl, by decide +kernel, rfl, by decide +kernel, by decide +kernel⟩
theorem ok_things (D : Dat K mg "are_things" sThings) (T : Fr mg) (C : Cs K mg) (FN : Fn P w K mg base CX0 1 "is_name" (spIsName K)) : Fn P w K mg base CX0 2 "are_things" (spThings K) := by
  refine Fn.of0 D scThings (fun _ _ _ _ _ _ us hl => match us, hl with | [_], _ => rfl) (fun vs H Q E h => ?_) (fun f cdv A outer s H vs Q E hr h => ?_)
  · obtain ⟨v, d, rfl, _⟩ := h
    rfl
  · obtain ⟨v, d, rfl, hd, hx, k⟩ := h
    obtain ⟨tm, cM⟩ := C.mthings
    refine ⟨_, (pss_cons (ps_if (PW.pt (pw_or (pt_not (pt_val (pe_callB (kIsi (K := K)) (by rfl) (T.fr "isinstance" (by decide +kernel)) (by decide +kernel) (pa_cons (pv 0) (pa_cons (pe_bltn (v := .ty "tuple") (u := .type "tuple") (by rfl) (T.fr "tuple" (by decide +kernel)) (by decide +kernel) rfl) pa_nil))))) (pw_or1 (pt_not (pt_chain op_le op_le pe_int (pe_callB (kLen (K := K)) (by rfl) (T.fr "len" (by decide +kernel)) (by decide +kernel) (pa_cons (pv 0) pa_nil)) (pe_glob (v := .int 4) (by rfl) cM ⟨_, rfl⟩)))))) (pss_one (ps_ret pe_bl)) pss_nil)
      (pss_cons (ps_if (pt_not (pt_val (pe_callB (kAll (K := K) rfl) (by rfl) (T.fr "all" (by decide +kernel)) (by decide +kernel) (pa_cons (pe_lc (own := [("thing", 1)]) (g := gName 1) (by rfl) scThings.nd (iT (K := K) (pv 0)) (blkOk_by (own := [("thing", 1)]) (N := ["value", "thing"]) (sc := defScope sThings) (by decide +kernel)) (fun _ _ _ _ _ => (pg_name (i := 1) scThings.nd rfl (Or.inl rfl))) (fun _ _ _ _ _ => pts_nil) (fun _ _ _ _ _ => (pf FN hr (by decide) (pa_cons (pv 1) pa_nil)))) pa_nil)))) (pss_one (ps_ret pe_bl)) pss_nil)
      (pss_one (ps_ret (pe_cmpR op_eq (pe_callB (kLenM (w := w)) (by rfl) (T.fr "len" (by decide +kernel)) (by decide +kernel) (pa_cons (pe_callTy (kSet (K := K) (w := w) rfl) (by rfl) (T.fr "set" (by decide +kernel)) (by decide +kernel) (pa_cons (pv 0) pa_nil)) pa_nil)) (pe_callB (kLen (K := K)) (by rfl) (T.fr "len" (by decide +kernel)) (by decide +kernel) (pa_cons (pv 0) pa_nil)) (nomark _)))))), ?_⟩
    refine ⟨_, rfl, v, _, _, _, _, rfl, .ty "tuple", dp_ty hd, kitD d (by decide), _, rfl, ?_⟩
    cases d with
    | tuple ds =>
      cases hd with
      | @tup a xs _ hS hA =>
      have hlen : xs.length = ds.length := DpAll.len hA
      have en : isThingsD (.tuple ds) = (decide (1 ≤ (xs.length : Int)) && (decide ((xs.length : Int) ≤ 4) && (ds.all isNameD && distinct (ds.map strOf)))) := by rw [hlen]; rfl
      rw [en] at k
      refine iteF ?_
      refine ⟨_, rfl, a, _, rfl, .inr hS, _, _, rfl, rfl, _, rfl, ?_⟩
      cases h1 : decide (1 ≤ (xs.length : Int)) with
      | false =>
        rw [h1] at k
        refine iteF ⟨_, rfl, ?_⟩
        refine iteT ?_
        exact k H (Same.refl H)
      | true =>
        rw [h1] at k
        refine iteT ⟨_, _, rfl, rfl, _, rfl, ?_⟩
        cases h2 : decide ((xs.length : Int) ≤ 4) with
        | false =>
          rw [h2] at k
          refine iteT ?_
          exact k H (Same.refl H)
        | true =>
          rw [h2] at k
          have h4 : xs.length ≤ 4 := Int.ofNat_le.mp (of_decide_eq_true h2)
          refine iteF ?_
          refine ⟨_, rfl, a, rfl, ⟨_, hS⟩, fun D hD => ?_⟩
          refine lc_it walk_tup (Cv H D fun i => ((ds.take i).map isNameD).map V.bl) (cv0 hD rfl) (fun i H2 _ p => SqT.same p.1 hS) (fun i y H2 H3 hi p q => ?_) (fun H2 p => ?_)
          · obtain ⟨rfl, hy⟩ := q
            obtain ⟨e, he, hde⟩ := DpAll.at hA hy
            refine ⟨rfl, ?_⟩
            refine lc_yes ?_
            refine ⟨_, rfl, y, e, rfl, Dp.same p.1 e hde, fun x ex => hx ds rfl x (by rw [← ex]; exact List.mem_of_getElem? he), fun H4 s4 => ?_⟩
            refine cv_yes hD (p.1.trans s4) (s4 _ _ p.2) ?_ ?_
            · simp only [List.length_map, List.length_take]
              omega
            · rw [snoc_at isNameD he, List.map_append]
              rfl
          · have hp2 : H2 D = some (.lst ((ds.map isNameD).map V.bl)) := by
              have z := p.2
              rw [hlen] at z
              dsimp only at z
              rw [List.take_length] at z
              exact z
            refine ⟨D, ds.map isNameD, rfl, SqL.of hp2, _, rfl, ?_⟩
            have e2 : (ds.map isNameD).all id = ds.all isNameD := by rw [List.all_map]; rfl
            rw [e2]
            cases h3 : ds.all isNameD with
            | false =>
              rw [h3] at k
              refine iteT ?_
              exact k H2 p.1
            | true =>
              rw [h3] at k
              refine iteF ?_
              have eds := names_strs h3
              have hvs : xs = ((ds.map strOf).map Sum.inr).map kV := by
                rw [eds] at hA
                rw [kv_strs]
                exact dp_strs hA
              have hS2 : SqT K H2 a (((ds.map strOf).map Sum.inr).map kV) := by rw [← hvs]; exact SqT.same p.1 hS
              refine ⟨_, rfl, a, (ds.map strOf).map Sum.inr, rfl, .inr hS2, ?_, fun q hq => ?_⟩
              · simp only [List.length_map]
                omega
              refine ⟨q, _, rfl, upd_same, ?_⟩
              have s3 : Same H2 (upd H2 q (SM.SetMO w q (SM.ofKeys ((ds.map strOf).map Sum.inr)))) := same_new (Same.refl H2) hq
              refine ⟨_, rfl, a, xs, rfl, .inr (SqT.same (p.1.trans s3) hS), rfl, ?_⟩
              have e5 : decide (V.int ((SM.ofKeys ((ds.map strOf).map Sum.inr)).length : Int) = V.int (xs.length : Int)) = distinct (ds.map strOf) := by
                rw [← ofKeys_len, List.length_map, hlen]
                by_cases z : ((SM.ofKeys ((ds.map strOf).map Sum.inr)).length : Int) = (ds.length : Int)
                · rw [decide_eq_true z, z]
                  exact decide_eq_true rfl
                · rw [decide_eq_false z]
                  exact decide_eq_false fun q => z (V.int.inj q)
              show Q (.bl (decide (V.int ((SM.ofKeys ((ds.map strOf).map Sum.inr)).length : Int) = V.int (xs.length : Int)))) _
              rw [e5]
              exact k _ (p.1.trans s3)
    | _ =>
      refine iteT ?_
      refine iteT ?_
      exact k H (Same.refl H)
end
end HP

namespace HP
open PySem PySem.Spec PyProof.Rows L2
/-! ### texts in order -/
def leS (a b : Str) : Prop := a.cps.toList ≤ b.cps.toList
instance (a b : Str) : Decidable (leS a b) := inferInstanceAs (Decidable (a.cps.toList ≤ b.cps.toList))
theorem leS_trans {a b c : Str} (h : leS a b) (k : leS b c) : leS a c := List.le_trans h k
theorem leS_total (a b : Str) : leS a b ∨ leS b a := List.le_total _ _
theorem str_ext {a b : Str} (h : a.cps.toList = b.cps.toList) : a = b := by
  cases a; cases b
  exact congrArg Str.mk (Array.toList_inj.mp h)
theorem leS_anti {a b : Str} (h : leS a b) (k : leS b a) : a = b := str_ext (List.le_antisymm h k)
theorem lt_le {a b : Str} : ltCps b.cps.toList a.cps.toList = false ↔ leS a b := by
  rw [ltCps_eq]
  unfold leS
  rw [decide_eq_false_iff_not, List.not_lt]
theorem rising_iff : ∀ {l : List Str} {p : Str}, risingS p l = true ↔ (p :: l).Pairwise leS
  | [], p => by simp [risingS]
  | x :: r, p => by
    have ih := rising_iff (l := r) (p := x)
    unfold risingS
    rw [Bool.and_eq_true, Bool.not_eq_true', lt_le, ih, List.pairwise_cons (a := p)]
    constructor
    · rintro ⟨h1, h2⟩
      refine ⟨fun y hy => ?_, h2⟩
      rcases List.mem_cons.mp hy with rfl | hy
      · exact h1
      · exact leS_trans h1 ((List.pairwise_cons.mp h2).1 y hy)
    · rintro ⟨h1, h2⟩
      exact ⟨h1 x List.mem_cons_self, h2⟩
theorem sortedS_iff : ∀ {l : List Str}, sortedS l = true ↔ l.Pairwise leS
  | [] => by simp [sortedS]
  | x :: r => rising_iff
/-- sorted -/
def srtS (xs : List Str) : List Str := xs.mergeSort fun a b => decide (leS a b)
theorem srtS_perm (xs : List Str) : (srtS xs).Perm xs := List.mergeSort_perm xs _
theorem srtS_pw (xs : List Str) : (srtS xs).Pairwise leS := by
  have h := List.pairwise_mergeSort (le := fun a b => decide (leS a b)) (fun a b c h k => decide_eq_true (leS_trans (of_decide_eq_true h) (of_decide_eq_true k)))
    (fun a b => by
      rcases leS_total a b with h | h
      · rw [decide_eq_true h]; rfl
      · rw [decide_eq_true h, Bool.or_true]) xs
  exact h.imp fun h => of_decide_eq_true h
theorem srtS_only {xs ys : List Str} (h : ys.Perm xs) (k : sortedS ys = true) : ys = srtS xs :=
  List.Perm.eq_of_pairwise (fun a b _ _ => leS_anti) (sortedS_iff.mp k) (srtS_pw xs) (h.trans (srtS_perm xs).symm)
theorem srtS_self {xs : List Str} (h : xs.Pairwise leS) : srtS xs = xs :=
  List.Perm.eq_of_pairwise (fun a b _ _ => leS_anti) (srtS_pw xs) h (srtS_perm xs)
/-! ### the different ones -/
def plusS (xs : List Str) (x : Str) : List Str := if xs.any (fun y => decide (y = x)) then xs else xs ++ [x]
def setS (xs : List Str) : List Str := xs.foldl plusS []
theorem plus_map (xs : List Str) (x : Str) : SM.plus (xs.map Sum.inr) (Sum.inr x) = (plusS xs x).map Sum.inr := by
  have e : SM.hasK (xs.map Sum.inr) (Sum.inr x) = xs.any (fun y => decide (y = x)) := by
    unfold SM.hasK
    rw [List.any_map]
    congr 1
    funext y
    show decide ((Sum.inr y : Key) = Sum.inr x) = decide (y = x)
    exact key_rr y x
  unfold SM.plus plusS
  rw [e]
  split
  · rfl
  · rw [List.map_append]; rfl
theorem ofKeys_map : ∀ (xs acc : List Str), (xs.map (Sum.inr : Str → Key)).foldl SM.plus (acc.map Sum.inr) = (xs.foldl plusS acc).map Sum.inr
  | [], acc => rfl
  | x :: xs, acc => by
    rw [List.map_cons, List.foldl_cons, List.foldl_cons, plus_map, ofKeys_map xs]
theorem ofKeys_strs (xs : List Str) : SM.ofKeys (xs.map Sum.inr) = (setS xs).map Sum.inr := ofKeys_map xs []
theorem setS_len (xs : List Str) : (setS xs).length ≤ xs.length := by
  have h := SM.ofKeys_len (xs.map Sum.inr) []
  have e : ((setS xs).map (Sum.inr : Str → Key)).length = (setS xs).length := List.length_map _
  rw [← e, ← ofKeys_strs]
  unfold SM.ofKeys
  rw [List.length_map, List.length_nil, Nat.zero_add] at h
  exact h
theorem setS_self {xs : List Str} (h : xs.Nodup) : setS xs = xs := by
  have hn : (xs.map (Sum.inr : Str → Key)).Nodup := List.Pairwise.map _ (fun a b hab e => hab (Sum.inr.inj e)) h
  have e : SM.ofKeys (xs.map Sum.inr) = xs.map Sum.inr := by
    unfold SM.ofKeys
    rw [ofKeys_all (by simpa using hn)]
    rfl
  rw [ofKeys_strs] at e
  exact (List.map_inj_right (fun a b q => Sum.inr.inj q)).mp e
/-! ### == of lists of texts -/
theorem eqvAll_strs : ∀ (xs ys : List Str), PyData.eqvAll (xs.map .str) (ys.map .str) = decide (xs = ys)
  | [], [] => rfl
  | x :: xs, [] => rfl
  | [], y :: ys => rfl
  | x :: xs, y :: ys => by
    show (PyData.eqv (.str x) (.str y) && PyData.eqvAll (xs.map .str) (ys.map .str)) = decide (x :: xs = y :: ys)
    rw [eqvAll_strs xs ys]
    show ((x == y) && decide (xs = ys)) = decide (x :: xs = y :: ys)
    by_cases h : x = y
    · subst h
      by_cases k : xs = ys
      · subst k; simp
      · simp [k]
    · have : (x == y) = false := beq_eq_false_iff_ne.mpr h
      rw [this]
      simp [h]
def okS (xs : List Str) : Prop := ∀ x ∈ xs, PyData.strOk x = true
theorem canLay_strs : ∀ (xs : List Str), okS xs → PyData.canLayAll0 (xs.map .str) = true
  | [], _ => by simp [PyData.canLayAll0]
  | x :: xs, h => by simp [PyData.canLayAll0, PyData.canLay0, canLay_strs xs fun y hy => h y (List.mem_cons_of_mem _ hy), h x List.mem_cons_self]
theorem depth_strs : ∀ (xs : List Str), PyData.depthAll (xs.map .str) = 0
  | [] => by simp [PyData.depthAll]
  | x :: xs => by simp [PyData.depthAll, PyData.depth, depth_strs xs]
theorem shaped_strs {xs : List Str} (h : okS xs) : SeqAt.shaped (.list (xs.map .str)) = true := by
  unfold SeqAt.shaped
  rw [Bool.and_eq_true]
  exact ⟨by simp only [PyData.canLay0]; exact canLay_strs xs h, decide_eq_true (by simp only [PyData.depth, depth_strs]; decide)⟩
theorem dpAll_strs {K : PySem.W.Frag} {H : Hp} : ∀ (xs : List Str), DpAll K H (xs.map V.str) (xs.map .str)
  | [] => .nil
  | x :: xs => .cons (.str x) (dpAll_strs xs)
theorem inV_strs (x : Str) : ∀ ws : List Str, inV (.str x) (ws.map V.str) = decide (x ∈ ws)
  | [] => rfl
  | y :: ws => by
    have ih := inV_strs x ws
    unfold inV at ih ⊢
    rw [List.map_cons, List.any_cons, ih]
    have e : eqV (.str y) (.str x) = decide (y = x) := by
      show (y == x) = decide (y = x)
      by_cases h : y = x
      · rw [decide_eq_true h, h]; exact beq_self_eq_true x
      · rw [decide_eq_false h]; exact beq_eq_false_iff_ne.mpr h
    rw [e]
    by_cases h : y = x
    · simp [h]
    · have h' : ¬ x = y := fun q => h q.symm
      simp [h, h']
theorem flat_strs : ∀ ws : List Str, (ws.map V.str).all flatV = true
  | [] => rfl
  | y :: ws => by rw [List.map_cons, List.all_cons, flat_strs ws]; rfl
/-! ### are_words -/
def allWords : List Str := ["ahead", "behind", "bottom", "change", "come", "filter", "place", "sort", "top"]
theorem ok_allWords : ∀ x ∈ allWords, PyData.strOk x = true := by decide +kernel
def isWordD : PyData → Bool
  | .str x => decide (x ∈ allWords)
  | _ => false
def ascS (xs : List Str) : Bool := decide (xs = srtS (setS xs))
def isWordsD : PyData → Bool
  | .tuple ds => ds.all isWordD && ascS (ds.map strOf)
  | _ => false
theorem words_strs : ∀ {ds : List PyData}, ds.all isWordD = true → ds = (ds.map strOf).map PyData.str ∧ ∀ x ∈ ds.map strOf, x ∈ allWords
  | [], _ => ⟨rfl, fun x h => by cases h⟩
  | d :: ds, h => by
    rw [List.all_cons, Bool.and_eq_true] at h
    obtain ⟨h1, h2⟩ := h
    obtain ⟨a, b⟩ := words_strs h2
    cases d with
    | str x =>
      refine ⟨by rw [List.map_cons, List.map_cons, ← a]; rfl, fun y hy => ?_⟩
      rcases List.mem_cons.mp hy with rfl | hy
      · exact of_decide_eq_true h1
      · exact b y hy
    | _ => cases h1
structure CsW (K : PySem.W.Frag) (mg : Str → Option Value) : Prop where
  words : ∃ a, mg "WORDS" = some (.ref a) ∧ ∀ H, SqT K H a (allWords.map V.str)
section
variable {P : Program} {w : World} {K : PySem.W.Frag} {mg : Str → Option Value} {base : Heap}
def spWords (K : PySem.W.Frag) : Sp := fun vs H Q _ => ∃ (v : V) (d : PyData), vs = [v] ∧ Dp K H v d ∧ (∀ ds, d = .tuple ds → ds.length < 64) ∧ ∀ H', Same H H' → Q (.bl (isWordsD d)) H'
theorem scWords : FnScope ["value", "word"] ["value"] (defScope sWords) := ⟨rfl, rfl, rfl, by decide +kernel, rfl, by decide +kernel, by decide +kernel⟩
theorem ok_words (D : Dat K mg "are_words" sWords) (T : Fr mg) (C : CsW K mg) : Fn P w K mg base CX0 1 "are_words" (spWords K) := by
  refine Fn.of0 D scWords (fun _ _ _ _ _ _ us hl => match us, hl with | [_], _ => rfl) (fun vs H Q E h => ?_) (fun f cdv A outer s H vs Q E hr h => ?_)
  · obtain ⟨v, d, rfl, _⟩ := h
    rfl
  · obtain ⟨v, d, rfl, hd, h64, k⟩ := h
    obtain ⟨aW, cW, hW⟩ := C.words
    refine ⟨_, (pss_cons (ps_if (PW.pt (pw_or (pt_not (pt_val (pe_callB (kIsi (K := K)) (by rfl) (T.fr "isinstance" (by decide +kernel)) (by decide +kernel) (pa_cons (pv 0) (pa_cons (pe_bltn (v := .ty "tuple") (u := .type "tuple") (by rfl) (T.fr "tuple" (by decide +kernel)) (by decide +kernel) rfl) pa_nil))))) (pw_or1 (pt_not (pt_val (pe_callB (kAll (K := K) rfl) (by rfl) (T.fr "all" (by decide +kernel)) (by decide +kernel) (pa_cons (pe_lc (own := [("word", 1)]) (g := gName 1) (by rfl) scWords.nd (iT (K := K) (pv 0)) (blkOk_by (own := [("word", 1)]) (N := ["value", "word"]) (sc := defScope sWords) (by decide +kernel)) (fun _ _ _ _ _ => (pg_name (i := 1) scWords.nd rfl (Or.inl rfl))) (fun _ _ _ _ _ => pts_nil) (fun _ _ _ _ _ => (pe_and (pe_callB (kIsi (K := K)) (by rfl) (T.fr "isinstance" (by decide +kernel)) (by decide +kernel) (pa_cons (pv 1) (pa_cons (pe_bltn (v := .ty "str") (u := .type "str") (by rfl) (T.fr "str" (by decide +kernel)) (by decide +kernel) rfl) pa_nil))) (pe_one (pe_cmpR (oIn (K := K)) (pv 1) (pe_glob (v := .ref aW) (by rfl) cW rfl) (by rfl)))))) pa_nil))))))) (pss_one (ps_ret pe_bl)) pss_nil)
      (pss_one (ps_ret (pe_cmpR (oEqD (K := K) hr.units) (pe_callTy (kList (K := K)) (by rfl) (T.fr "list" (by decide +kernel)) (by decide +kernel) (pa_cons (pv 0) pa_nil)) (pe_callB (kSortM (w := w) rfl) (by rfl) (T.fr "sorted" (by decide +kernel)) (by decide +kernel) (pa_cons (pe_callTy (kSet (K := K) (w := w) rfl) (by rfl) (T.fr "set" (by decide +kernel)) (by decide +kernel) (pa_cons (pv 0) pa_nil)) pa_nil)) (nomark _))))), ?_⟩
    refine ⟨_, rfl, v, _, _, _, _, rfl, .ty "tuple", dp_ty hd, kitD d (by decide), _, rfl, ?_⟩
    cases d with
    | tuple ds =>
      cases hd with
      | @tup a xs _ hS hA =>
      have hlen : xs.length = ds.length := DpAll.len hA
      have h64 := h64 ds rfl
      have en : isWordsD (.tuple ds) = (ds.all isWordD && ascS (ds.map strOf)) := rfl
      rw [en] at k
      refine iteF ?_
      refine ⟨_, rfl, a, rfl, ⟨_, hS⟩, fun D hD => ?_⟩
      refine lc_it walk_tup (Cv H D fun i => ((ds.take i).map isWordD).map V.bl) (cv0 hD rfl) (fun i H2 _ p => SqT.same p.1 hS) (fun i y H2 H3 hi p q => ?_) (fun H2 p => ?_)
      · obtain ⟨rfl, hy⟩ := q
        obtain ⟨e, he, hde⟩ := DpAll.at hA hy
        have hde := Dp.same p.1 e hde
        have fin : ∃ acc, H3 D = some (.lst acc) ∧ acc.length < sizeLine ∧ Cv H D (fun i => ((ds.take i).map isWordD).map V.bl) (i + 1) (upd H3 D (.lst (acc ++ [.bl (isWordD e)]))) := by
          refine cv_yes hD p.1 p.2 ?_ ?_
          · simp only [List.length_map, List.length_take]
            omega
          · rw [snoc_at isWordD he, List.map_append]
            rfl
        refine ⟨rfl, ?_⟩
        refine lc_yes ?_
        refine ⟨_, rfl, y, _, _, _, _, rfl, .ty "str", dp_ty hde, kitD e (by decide), _, rfl, ?_⟩
        cases e with
        | str x =>
          cases hde
          refine iteT ?_
          refine ⟨_, rfl, aW, _, rfl, .inr (hW H3), rfl, flat_strs allWords, ?_⟩
          show ∃ acc, H3 D = some (.lst acc) ∧ acc.length < sizeLine ∧ Cv H D (fun i => ((ds.take i).map isWordD).map V.bl) (i + 1) (upd H3 D (.lst (acc ++ [.bl (inV (.str x) (allWords.map V.str))])))
          rw [inV_strs]
          exact fin
        | _ =>
          refine iteF ?_
          exact fin
      · have hp2 : H2 D = some (.lst ((ds.map isWordD).map V.bl)) := by
          have z := p.2
          rw [hlen] at z
          dsimp only at z
          rw [List.take_length] at z
          exact z
        refine ⟨D, ds.map isWordD, rfl, SqL.of hp2, _, rfl, ?_⟩
        have e2 : (ds.map isWordD).all id = ds.all isWordD := by rw [List.all_map]; rfl
        rw [e2]
        cases h3 : ds.all isWordD with
        | false =>
          rw [h3] at k
          refine iteT ?_
          exact k H2 p.1
        | true =>
          rw [h3] at k
          refine iteF ?_
          obtain ⟨eds, hok⟩ := words_strs h3
          have hvs : xs = (ds.map strOf).map V.str := by
            rw [eds] at hA
            exact dp_strs hA
          have hS2 : SqT K H2 a ((ds.map strOf).map V.str) := by rw [← hvs]; exact SqT.same p.1 hS
          refine ⟨_, rfl, a, _, rfl, .inr hS2, fun l hl => ?_⟩
          have s3 : Same H2 (upd H2 l (.lst ((ds.map strOf).map V.str))) := same_new (Same.refl H2) hl
          refine ⟨_, rfl, a, (ds.map strOf).map Sum.inr, rfl, .inr (by rw [kv_strs]; exact SqT.same s3 hS2), ?_, fun q hq => ?_⟩
          · simp only [List.length_map]
            omega
          rw [ofKeys_strs]
          refine ⟨q, setS (ds.map strOf), rfl, upd_same, ?_, fun ys r py sy hr => ?_⟩
          · have := setS_len (ds.map strOf)
            rw [List.length_map] at this
            omega
          have ey := srtS_only py sy
          subst ey
          have nlq : l ≠ q := fun z => by rw [← z, upd_same] at hq; cases hq
          have nlr : l ≠ r := fun z => by rw [← z, upd_ne nlq, upd_same] at hr; cases hr
          have oks : okS (ds.map strOf) := fun x hx => ok_allWords x (hok x hx)
          have okt : okS (srtS (setS (ds.map strOf))) := fun x hx => by
            have h1 : x ∈ setS (ds.map strOf) := (srtS_perm _).mem_iff.mp hx
            have h2 : (Sum.inr x : Key) ∈ SM.ofKeys ((ds.map strOf).map Sum.inr) := by rw [ofKeys_strs]; exact List.mem_map_of_mem h1
            rcases (ofKeys_mem _ _ _).mp h2 with z | z
            · cases z
            · obtain ⟨y, hy, e⟩ := List.mem_map.mp z
              cases e
              exact oks x hy
          refine ⟨.list ((ds.map strOf).map .str), .list ((srtS (setS (ds.map strOf))).map .str), .lst (SqL.of (xs := (ds.map strOf).map V.str) ?_) (dpAll_strs _), .lst (SqL.of upd_same) (dpAll_strs _), shaped_strs oks, shaped_strs okt, ?_⟩
          · rw [upd_ne nlr, upd_ne nlq, upd_same]
          · have e6 : PyData.eqv (.list ((ds.map strOf).map .str)) (.list ((srtS (setS (ds.map strOf))).map .str)) = ascS (ds.map strOf) := eqvAll_strs _ _
            rw [e6]
            refine k _ (p.1.trans (s3.trans ?_))
            exact same_new (same_new (Same.refl _) hq) hr
    | _ =>
      refine iteT ?_
      refine iteT ?_
      exact k H (Same.refl H)
end
end HP

namespace HP
open PySem PySem.Spec PyProof.Rows L2
/-! ### raising the program's own errors -/
def veB : List Value := [.type "ValueError", .type "Exception", .type "BaseException", .type "object"]
/-- an error class without an __init__ of its own -/
structure Exc0 (K : PySem.W.Frag) (mg : Str → Option Value) (x : Str) (C : Addr) : Prop where
  gC : mg x = some (.ref C)
  ex : PySem.W.excIn K C veB "ValueError.__new__" = true
  kC : PySem.W.keepIn K (.ref C) = true
  sub : PySem.W.subIn K (.ref C) (.type "BaseException") = some true
  ty : PySem.W.typeIn K (.ref C) = some (.type "type")
/-- an error class whose __init__ stores one field -/
structure Exc1 (P : Program) (w : World) (K : PySem.W.Frag) (mg : Str → Option Value) (base : Heap) (x : Str) (C : Addr) (f : Str) (sp : Sp) : Prop where
  gC : mg x = some (.ref C)
  oc : OexC K C
  fn : ∃ (fI : Addr) (fd : FuncData) (ps : List Str), PySem.W.findIn K (.ref C) "__init__" = some (some (.ref fI)) ∧ PySem.W.typeIn K (.ref fI) = some (.type "function") ∧ Binds K fd ps [] ∧ FnOk P w K mg base CX0 1 fI fd ps sp
def spInit1 (C : Addr) (f : Str) : Sp := fun vs H Q _ => ∃ (a : Addr) (y : V), vs = [.ref a, y] ∧ H a = some (exo a C none) ∧ ∀ dx, H dx = none → dx ≠ a → Q .non (upd (upd H dx (exd dx [(f, y)])) a (exo a C (some dx)))
section
variable {X : Cx} {C : Addr} {x f : Str} {e : Expr} {te : TE} {W : WX} {p pos pos2 : Pos}
/-- x() -/
theorem pmk0 (T : Exc0 X.K X.mg x C) (hg : Gl X x := by rfl) (hdb : (x == ("__debug__" : Str)) = false := by decide) : PMk X (.Call (.Name x p) [] [] pos) (fun _ H Q => Q (.ref C) none H) := by
  intro pins s σ H Q I h
  refine wpAny_Call_Name_kw (ld_glob I hg T.gC ?_ hdb)
  refine PySem.W.callWith_K0 I.kIn T.kC ?_
  show wpAny _ _ (call (.ref C) []) _ _ _
  obtain ⟨bm, N, nm, qn, bs, hdct, sn, sub, ab, col, dd, k0, k1, k2, k3, k5, mN, hC, hN, hni, T2⟩ := exc_obj I.kIn T.ex
  refine wpAny_call_exc_subT PySem.F.excBase_ValueError T2 hC hN hni (fun h' e hm => ?_) (by show 0 ≤ sizeLine; exact Nat.zero_le _)
  exact mk_of I hm (raises_own T.sub T.ty) h (I.hok.gone hm.new)
/-- raise x() -/
def tRaise0 (C : Addr) (W : WX) : TS := fun _ σ H => W (.ref C) none σ H
theorem ps_raise0 (T : Exc0 X.K X.mg x C) (hc : X.calm = true) (tk : Takes X W) (hg : Gl X x := by rfl) (hdb : (x == ("__debug__" : Str)) = false := by decide) :
    PS X (.Raise (some (.Call (.Name x p) [] [] pos)) none pos2) (tRaise0 C W) := ps_raise hc tk (pmk0 T hg hdb)
/-- raise x(e) -/
def tRaise1 (C : Addr) (f : Str) (W : WX) (te : TE) : TS := fun _ σ H => te σ H fun v H1 => ∀ d, H1 d = none → W (.ref C) (some d) σ (upd H1 d (.xd [(f, v)]))
theorem ps_raise1 {n : Nat} (T : Exc1 X.prog X.w X.K X.mg X.base x C f (spInit1 C f)) (hc : X.calm = true) (hr : Room n X.A) (hn : 2 ≤ n) (tk : Takes X W) (he : PE X e te) (mono : ∀ σ H (A B : VK), (∀ v H, A v H → B v H) → te σ H A → te σ H B) (hg : Gl X x := by rfl) (hdb : (x == ("__debug__" : Str)) = false := by decide)
    (hs : starEach [e] X.env = (false, eval e X.env) :: starEach [] X.env := by rfl) (hpl : (backTo pos (starEach [] X.env)).any (·.1) = false := by rfl) :
    PS X (.Raise (some (.Call (.Name x p) [e] [] pos)) none pos2) (tRaise1 C f W te) := by
  obtain ⟨fI, fd, ps, iC, tI, hb, F1⟩ := T.fn
  have hE := ps_raise (pos := pos2) hc tk (pmk_oex (pos := pos) (p := p) T.oc iC tI F1 (hr.mono hn) hb .nil (fun _ _ _ _ _ _ _ h => h.elim) hg T.gC (pa_cons he pa_nil hs) hdb hs hpl)
  refine ⟨fun pins s σ H D I h => hE.run pins s σ H D I ?_⟩
  refine mono σ H _ _ (fun v H1 q => ?_) h
  refine ⟨by show 1 ≤ 1000; decide, fun a ha => ⟨a, v, rfl, upd_same, fun dx hdx nda => ⟨rfl, dx, [(f, v)], upd_same, ?_, ?_, ?_⟩⟩⟩
  · rw [upd_ne nda, upd_same]
  · rw [upd_ne nda] at hdx
    exact hdx
  · rw [upd_ne nda] at hdx
    have e : upd (del (upd (upd (upd H1 a (exo a C none)) dx (exd dx [(f, v)])) a (exo a C (some dx))) a) dx (.xd [(f, v)]) = upd H1 dx (.xd [(f, v)]) := by
      funext b
      by_cases h1 : b = dx
      · subst h1; rw [upd_same, upd_same]
      · rw [upd_ne h1, upd_ne h1]
        by_cases h2 : b = a
        · subst h2; rw [del_same]; exact ha.symm
        · rw [del_ne h2, upd_ne h2, upd_ne h1, upd_ne h2]
    rw [e]
    exact q dx hdx
end
end HP

namespace HP
open PySem PySem.Spec PyProof.Rows L2
/-! ### a dict of the written part: its keys walked, list(d), d[k], k in d -/
/-- at d: a dict of the written part with these pairs -/
structure WD (P : Program) (w : World) (K : PySem.W.Frag) (d : Addr) (kvs : List (Key × V)) : Prop where
  sm : (d == sysModules) = false
  ex : ∃ (o : Obj) (es : Array DictEntry) (ep : Nat) (vs : List (Key × Value)), K.lookup d = some o ∧ o.ExactDict ∧ o.data = .dict es ep ∧ KV kvs vs ∧ KeysOf (mixKind P w) es ∧ Pairs (mixKind P w) es.toList vs ∧ (vs.map (·.1)).Nodup
section
variable {X : Cx} {pins : List (Addr × Obj)} {σ : L2.St} {H : Hp} {s : Shared} {d : Addr} {kvs : List (Key × V)} {K : PySem.W.Frag} {P : Program} {w : World} {tg e : Expr} {td : TE}
theorem WD.got (D : WD X.prog X.w X.K d kvs) (I : L2.Inv X pins σ H s) : ∃ (o : Obj) (es : Array DictEntry) (ep : Nat) (vs : List (Key × Value)), s.heap.get? d = some o ∧ o.ExactDict ∧ o.data = .dict es ep ∧ es.size = kvs.length ∧ KV kvs vs ∧ s.heap.DictAt (mixKind X.prog X.w) d vs ep := by
  obtain ⟨o, es, ep, vs, hl, hx, hd, kv, k1, k2, k3⟩ := D.ex
  have ho := I.kIn d o hl
  refine ⟨o, es, ep, vs, ho, hx, hd, ?_, kv, o, es, ho, hx, hd, k1, k2, k3⟩
  have l1 := k2.length
  have l2 : kvs.length = vs.length := Paired.length kv
  rw [Array.length_toList] at l1
  omega
def ItW (kvs : List (Key × V)) : It := ⟨fun i _ => i < kvs.length, fun i H x H' => H' = H ∧ ∃ k v, kvs[i]? = some (k, v) ∧ x = kV k, fun i _ => kvs.length ≤ i⟩
theorem turnW {o : Obj} {es : Array DictEntry} {ep : Nat} (D : WD P w K d kvs) (hlk : K.lookup d = some o) (hod : o.data = .dict es ep) (it : Addr) : Turn P w K tg (ItW kvs) [it] it (fun i h => h.IsKeyIter it d i kvs.length ep) where
  mem := by simp
  obj := fun i h st b hb => by
    have e : b = it := by simpa using hb
    subst e
    obtain ⟨oi, e, c, dd⟩ := st
    exact ⟨oi, e, fun v z => by rw [dd] at z; cases z⟩
  keep := fun i h h' st k => st.at fun oi e => k it (by simp) oi e
  item := by
    intro X hP hw hK hc i pins s σ H E I hf st hg
    subst hP hw hK
    obtain ⟨f0, f1, f2, f3, f4, f5⟩ := hf it (by simp)
    obtain ⟨o', es', ep', vs, ho', hx, hdt, hsz, kv, hm⟩ := D.got I
    have eo : o' = o := Option.some.inj (ho'.symm.trans (I.kIn d o hlk))
    subst eo
    obtain ⟨rfl, rfl⟩ := dict_ep hod hdt
    obtain ⟨⟨k, v⟩, hkv⟩ : ∃ p, kvs[i]? = some p := ⟨kvs[i], List.getElem?_eq_getElem hg⟩
    obtain ⟨u, hu, ru⟩ := kv_get kv hkv
    have hl : kvs.length = vs.length := Paired.length kv
    rw [hl] at st
    refine wpAny_pyNext_dict_item st hm hu fun key h' hkey st' sb => ?_
    have I1 : L2.Inv X pins σ H { s with heap := h' } := I.turned (t' := s.toks) (fun b ob hb e => (sb.2 b hb).trans e) f0 f1 f3 f4 f5
    obtain ⟨oi, e, c, dd⟩ := id st'
    refine ⟨key, rfl, go_of (s := { s with heap := h' }) e c dd (by decide) ⟨kV k, H, I1, relV_key (show keyIs k key = true from hkey), ⟨rfl, k, v, hkv, rfl⟩, ?_, fun b hb => (hf b hb).1⟩⟩
    show h'.IsKeyIter it d (i + 1) kvs.length _
    rw [hl]
    exact st'
  done := by
    intro X hP hw hK hc i pins s σ H E I hf st hg
    subst hP hw hK
    obtain ⟨f0, f1, f2, f3, f4, f5⟩ := hf it (by simp)
    obtain ⟨o', es', ep', vs, ho', hx, hdt, hsz, kv, hm⟩ := D.got I
    have eo : o' = o := Option.some.inj (ho'.symm.trans (I.kIn d o hlk))
    subst eo
    obtain ⟨rfl, rfl⟩ := dict_ep hod hdt
    exact next_key_end (I.ok.hd hc) st ho' hdt hsz hg fun h' eb => ⟨rfl, I.turned (t' := s.toks) (fun b ob hb e => eb b ob hb e) f0 f1 f3 f4 f5⟩
  self := fun A i s Q E st h => wpAny_pyIter_keyiter st h
def iW (d : Addr) (kvs : List (Key × V)) (td : TE) : TI := fun σ H R => td σ H fun x H1 => x = .ref d ∧ R (ItW kvs) H1
theorem pi_keysW (D : WD X.prog X.w X.K d kvs) (he : PE X e td) : PI X tg e (iW d kvs td) := by
  refine ⟨fun pins s σ H R I h => ?_⟩
  refine thn (he.run pins s σ H _ I h) fun u s1 ⟨x, H1, I1, rx, ex, q⟩ => ?_
  subst ex
  obtain rfl : u = Value.ref d := rx
  obtain ⟨o, es, ep, vs, ho, hx, hdt, hsz, kv, hm⟩ := D.got I1
  obtain ⟨o2, _, _, _, hl, _⟩ := D.ex
  have eo : o2 = o := Option.some.inj ((I1.kIn d o2 hl).symm.trans ho)
  subst eo
  refine iter_keys D.sm ho hx hdt (pi_one (tk := s1.toks) I1 _ (turnW D hl hdt _) ⟨_, Heap.get?_push_size _ rfl, rfl, ?_⟩ q)
  rw [hsz] <;> rfl
theorem walkW : Walk (ItW kvs) kvs.length (fun _ => True) (fun i H x H' => H' = H ∧ ∃ k v, kvs[i]? = some (k, v) ∧ x = kV k) :=
  ⟨fun _ _ hi _ => hi, fun _ _ => Nat.le_refl _, fun _ _ _ _ _ _ y => y⟩
/-- list(d) -/
def rListW (d : Addr) (kvs : List (Key × V)) : List V → Hp → VK → Prop := fun xs H Q => xs = [.ref d] ∧ ∀ q, H q = none → Q (.ref q) (upd H q (.lst (kvs.map fun kv => kV kv.1)))
theorem call_listW (D : WD X.prog X.w X.K d kvs) (hz : kvs.length ≤ 1000) (hc : X.calm = true) : CallR X (.type "list") (rListW d kvs) := by
  intro pins s σ H xs us Q I r h
  obtain ⟨e, q⟩ := h
  subst e
  obtain ⟨u, eu, rx⟩ := vals1 r
  subst eu
  obtain rfl : u = Value.ref d := rx
  obtain ⟨o, es, ep, vs, ho, hx, hdt, hsz, rk, hat⟩ := D.got I
  have hl : kvs.length = vs.length := Paired.length rk
  have z : kvs.length ≤ sizeLine := Nat.le_trans hz (by decide)
  refine PySem.W.kdl_call (PySem.W.kdl_dict (knd := mixKind X.prog X.w) (kvs := vs) (ep := ep) D.sm) (I.ok.hd hc) hat (by rw [← hl]; exact z) fun h' tk acc' c' hkeep hS hacc => ?_
  refine ⟨.ref s.heap.objs.size, upd H s.heap.objs.size (.lst (kvs.map fun kv => kV kv.1)), I.laid hkeep (Nat.le_refl _) (show ObjOk X.prog X.w _ _ _ (.lst (kvs.map fun kv => kV kv.1)) from ⟨?_, acc'.toList, c', ?_, ?_⟩), rfl, q _ (I.hok.fresh (Nat.le_refl _))⟩
  · rw [List.length_map]; exact z
  · have el : acc'.toList.length = acc'.size := by simp
    refine vals_of_at (by rw [List.length_map, el, hacc.1, hl]) fun j x w h1 h2 => ?_
    obtain ⟨k, y, hky, hi⟩ := hacc.2 j w (by rw [← Array.getElem?_toList]; exact h2)
    have e1 : (kvs.map (·.1))[j]? = some k := by
      rw [KV.keys rk, List.getElem?_map, hky] <;> rfl
    have e2 : (kvs.map fun kv => kV kv.1)[j]? = some (kV k) := by
      have e3 : (kvs.map fun kv => kV kv.1) = (kvs.map (·.1)).map kV := by rw [List.map_map] <;> rfl
      rw [e3, List.getElem?_map, e1] <;> rfl
    rw [e2] at h1
    cases h1
    exact keyIs_rel hi
  · rw [Array.toArray_toList]; exact hS
/-- d[k] -/
def rIxW (d : Addr) (kvs : List (Key × V)) : R2 := fun x y H Q => ∃ (k : Key) (v : V), x = .ref d ∧ y = kV k ∧ valV kvs k = some v ∧ Q v H
theorem ixW (D : WD X.prog X.w X.K d kvs) : IxR X (rIxW d kvs) := by
  intro value slice pins s σ H x y v u Q I rx ry h hs
  obtain ⟨k, v0, rfl, rfl, e, q⟩ := h
  obtain rfl : v = Value.ref d := rx
  obtain ⟨o, es, ep, vs, ho, hx, hdt, hsz, rk, hat⟩ := D.got I
  obtain ⟨w', hw, rw'⟩ := RelO.some_of (v := v0) (o := valueAt vs k) (by rw [← e]; exact rk.val k)
  exact tail_any hat.dictOf.mapOf.typeIs slot_dict_getitem.lookup (wpAny_getItem_of (kV_is ry) hat.dictOf.mapOf hw ⟨v0, H, I.tok _, rw', q⟩) hs
def rInW (d : Addr) (kvs : List (Key × V)) (neg : Bool) : R2 := fun x y H Q => ∃ k : Key, x = kV k ∧ y = .ref d ∧ Q (.bl (if neg then !(valV kvs k).isSome else (valV kvs k).isSome)) H
theorem inW (D : WD X.prog X.w X.K d kvs) : OpR X (compareOp .In) (rInW d kvs false) := by
  intro pins s σ H x y v u Q I rx ry h
  obtain ⟨k, rfl, rfl, q⟩ := h
  cases ry
  obtain ⟨o, es, ep, vs, ho, hx, hdt, hsz, rk, hat⟩ := D.got I
  refine wpAny_in_of (kV_is rx) D.sm hat.dictOf.mapOf ?_
  rw [← (rk.val k).isSome_eq]
  exact ⟨.bl (valV kvs k).isSome, H, I.tok _, rfl, q⟩
theorem notInW (D : WD X.prog X.w X.K d kvs) : OpR X (compareOp .NotIn) (rInW d kvs true) := by
  intro pins s σ H x y v u Q I rx ry h
  obtain ⟨k, rfl, rfl, q⟩ := h
  cases ry
  obtain ⟨o, es, ep, vs, ho, hx, hdt, hsz, rk, hat⟩ := D.got I
  refine wpAny_notIn_of (kV_is rx) D.sm hat.dictOf.mapOf ?_
  rw [← (rk.val k).isSome_eq]
  exact ⟨.bl (!(valV kvs k).isSome), H, I.tok _, rfl, q⟩
end
end HP

namespace HP
open PySem PySem.Spec PyProof.Rows L2
abbrev sLook : Stmt := top 18
/-! ### a rule -/
theorem monoC {v : V} : ∀ (σ : L2.St) (H : Hp) (A B : VK), (∀ v H, A v H → B v H) → tC v σ H A → tC v σ H B := fun _ _ _ _ h q => h _ _ q
theorem monoV {i : Nat} : ∀ (σ : L2.St) (H : Hp) (A B : VK), (∀ v H, A v H → B v H) → tVar i σ H A → tVar i σ H B := fun _ _ _ _ h ⟨v, e, q⟩ => ⟨v, e, h _ _ q⟩
def partNames : List Str := ["asleep", "changing", "count", "first", "ring", "sorting"]
theorem ok_partNames : okS partNames := by
  show ∀ x ∈ partNames, PyData.strOk x = true
  decide +kernel
def partWords (p : Str) : List Str :=
  if p = "asleep" then ["keep", "drop"] else if p = "changing" then ["keep", "clear"] else if p = "count" then ["all", "rest"] else if p = "first" then ["newer", "elder"] else if p = "ring" then ["refuse", "turn"] else ["keep", "clear"]
/-- the table PARTS -/
structure Pt (P : Program) (w : World) (K : PySem.W.Frag) (mg : Str → Option Value) (d : Addr) (pa : Str → Addr) : Prop where
  gl : mg "PARTS" = some (.ref d)
  wd : WD P w K d (partNames.map fun p => (Sum.inr p, V.ref (pa p)))
  tup : ∀ p ∈ partNames, ∀ H, SqT K H (pa p) ((partWords p).map V.str)
/-- a dict of data -/
def DicAt (K : PySem.W.Frag) (H : Hp) (a : Addr) (kds : List (Key × PyData)) : Prop := ∃ kvs, H a = some (.dK kvs) ∧ Paired (fun (p : Key × V) (q : Key × PyData) => p.1 = q.1 ∧ Dp K H p.2 q.2) kvs kds
def valD (kds : List (Key × PyData)) (k : Key) : Option PyData := (kds.find? fun kv => decide (kv.1 = k)).map (·.2)
theorem valD_of {K : PySem.W.Frag} {H : Hp} : ∀ {kvs : List (Key × V)} {kds : List (Key × PyData)}, Paired (fun (p : Key × V) (q : Key × PyData) => p.1 = q.1 ∧ Dp K H p.2 q.2) kvs kds → ∀ {k : Key} {d : PyData}, valD kds k = some d → ∃ v, valV kvs k = some v ∧ Dp K H v d
  | _, _, .nil, k, d, h => by cases h
  | p :: kvs, q :: kds, .cons r t, k, d, h => by
    unfold valD at h
    unfold valV
    rw [List.find?_cons] at h ⊢
    rw [r.1]
    cases e : decide (q.1 = k) with
    | true =>
      rw [e] at h
      cases h
      exact ⟨p.2, rfl, r.2⟩
    | false =>
      rw [e] at h
      exact valD_of t h
/-- what is handed in as a rule: no dict, or a dict -/
inductive RuleV (K : PySem.W.Frag) (H : Hp) : V → Option (List (Key × PyData)) → Prop where
  | dat {v : V} {d : PyData} (h : Dp K H v d) : RuleV K H v none
  | dic {a : Addr} {kds : List (Key × PyData)} (h : DicAt K H a kds) : RuleV K H (.ref a) (some kds)
def isTxt : Key → Bool
  | .inr _ => true
  | .inl _ => false
def txt : Key → Str
  | .inr x => x
  | .inl _ => Str.empty
/-- the word d of the part p is one of its words -/
def goodPart (p : Str) : Option PyData → Bool
  | some (.str x) => decide (x ∈ partWords p)
  | _ => false
/-- the fault of a rule, none: it has none -/
def faultD (kds : List (Key × PyData)) : Option Str :=
  if (kds.map (·.1)).all isTxt = true then
    if srtS ((kds.map (·.1)).map txt) = partNames then partNames.find? fun p => !goodPart p (valD kds (Sum.inr p)) else some ("" : Str)
  else some ("" : Str)
def faultOf : Option (List (Key × PyData)) → Option Str
  | none => some ("" : Str)
  | some kds => faultD kds
section
variable {P : Program} {w : World} {K : PySem.W.Frag} {mg : Str → Option Value} {base : Heap}
def spLook (K : PySem.W.Frag) (C : Addr) : Sp := fun vs H Q E => ∃ (v : V) (r : Option (List (Key × PyData))), vs = [v] ∧ RuleV K H v r ∧ (∀ kds, r = some kds → kds.length < 64 ∧ okS ((kds.map (·.1)).map txt)) ∧
  (faultOf r = none → ∀ H', Same H H' → Q .non H') ∧
  ∀ p, faultOf r = some p → ∀ H' d, Same H H' → H d = none → H' d = some (.xd [("part", .str p)]) → E (.ref C) (some d) H'
theorem scLook : FnScope ["rule", "part"] ["rule"] (defScope sLook) := ⟨rfl, rfl, rfl, by decide +kernel, rfl, by decide +kernel, by decide +kernel⟩
theorem ok_look {C dP : Addr} {pa : Str → Addr} (D : Dat K mg "look_at_rule" sLook) (T : Fr mg) (Z : Pt P w K mg dP pa) (XR : Exc1 P w K mg base "InvalidRule" C "part" (spInit1 C "part")) : Fn P w K mg base (L2.CX P w) 3 "look_at_rule" (spLook K C) := by
  refine Fn.of D scLook (fun _ _ _ _ _ _ us hl => match us, hl with | [_], _ => rfl) (fun vs H Q E h => ?_) (fun f cdv A outer s H vs Q E hr h => ?_)
  · obtain ⟨v, d, rfl, _⟩ := h
    rfl
  · obtain ⟨v, r, rfl, hv, hsz, kQ, kE⟩ := h
    have hu : _ < cLine := hu_of hr
    refine ⟨_, (pss_cons (ps_if (PW.pt (pw_or (pt_not (pt_val (pe_callB (kIsi (K := K)) (by rfl) (T.fr "isinstance" (by decide +kernel)) (by decide +kernel) (pa_cons (pv 0) (pa_cons (pe_bltn (v := .ty "dict") (u := .type "dict") (by rfl) (T.fr "dict" (by decide +kernel)) (by decide +kernel) rfl) pa_nil))))) (pw_or1 (pt_not (pt_val (pe_callB (kAll (K := K) rfl) (by rfl) (T.fr "all" (by decide +kernel)) (by decide +kernel) (pa_cons (pe_lock (pe_lc (own := [("part", 1)]) (g := gName 1) (by rfl) scLook.nd (pi_keys (pv 0)) (blkOk_by (own := [("part", 1)]) (N := ["rule", "part"]) (sc := defScope sLook) (by decide +kernel)) (fun _ _ _ _ _ => (pg_name (i := 1) scLook.nd rfl (Or.inl rfl))) (fun _ _ _ _ _ => pts_nil) (fun _ _ _ _ _ => (pe_callB (kIsi (K := K)) (by rfl) (T.fr "isinstance" (by decide +kernel)) (by decide +kernel) (pa_cons (pv 1) (pa_cons (pe_bltn (v := .ty "str") (u := .type "str") (by rfl) (T.fr "str" (by decide +kernel)) (by decide +kernel) rfl) pa_nil)))))) pa_nil))))))) (pss_one (ps_raise1 XR rfl hr (by decide) (takes_of rfl rfl rfl rfl) pe_str monoC)) pss_nil)
      (pss_cons (ps_if (pt_cmpR (oNeD (K := K) hr.units) (pe_callB (kSortS (K := K)) (by rfl) (T.fr "sorted" (by decide +kernel)) (by decide +kernel) (pa_cons (pe_callTy (call_list_dK rfl) (by rfl) (T.fr "list" (by decide +kernel)) (by decide +kernel) (pa_cons (pv 0) pa_nil)) pa_nil)) (pe_callTy (call_listW Z.wd (by rw [List.length_map]; decide) rfl) (by rfl) (T.fr "list" (by decide +kernel)) (by decide +kernel) (pa_cons (pe_glob (v := .ref dP) (by rfl) Z.gl rfl) pa_nil)) (nomark _)) (pss_one (ps_raise1 XR rfl hr (by decide) (takes_of rfl rfl rfl rfl) pe_str monoC)) pss_nil)
      (pss_one (ps_for (passes_of rfl) rfl (pi_keysW Z.wd (pe_glob (v := .ref dP) (by rfl) Z.gl rfl)) (pg_name (i := 1) scLook.nd rfl (Or.inl rfl)) (pss_one (ps_if (PW.pt (pw_or (pt_not (pt_val (pe_callB (kIsi (K := K)) (by rfl) (T.fr "isinstance" (by decide +kernel)) (by decide +kernel) (pa_cons (pe_dget hu (pv 0) (pv 1) (fun _ _ => rfl)) (pa_cons (pe_bltn (v := .ty "str") (u := .type "str") (by rfl) (T.fr "str" (by decide +kernel)) (by decide +kernel) rfl) pa_nil))))) (pw_or1 (pt_cmpR (oNotIn (K := K)) (pe_dget hu (pv 0) (pv 1) (fun _ _ => rfl)) (pe_ix (ixW Z.wd) (pe_glob (v := .ref dP) (by rfl) Z.gl rfl) (pv 1) (fun _ _ => rfl)) (by rfl))))) (pss_one (ps_raise1 XR rfl hr (by decide) (takes_of rfl rfl rfl rfl) (pv 1) monoV)) pss_nil)))))), ?_⟩
    have e0 : ∀ H', Same H H' → faultOf r = some ("" : Str) → ∀ d, H' d = none → E (.ref C) (some d) (upd H' d (.xd [("part", .str "")])) := fun H' s e d hd => kE "" e _ d (same_new s hd) (s.free hd) upd_same
    cases hv with
    | @dat v d hd =>
      have nd : tyD d ≠ "dict" := by cases hd <;> simp [tyD]
      have en : isaB (tyD d) "dict" = false := by
        unfold isaB
        rw [beq_eq_false_iff_ne.mpr nd]
        cases (tyD d == "bool") <;> rfl
      refine ⟨_, rfl, v, _, _, _, _, rfl, .ty "dict", dp_ty hd, kitD d (by decide), _, rfl, ?_⟩
      rw [en]
      refine iteT ?_
      refine iteT ?_
      exact fun d hd => e0 H (Same.refl H) rfl d hd
    | @dic a kds h =>
      obtain ⟨kvs, ha, hp⟩ := h
      obtain ⟨h64, hok⟩ := hsz kds rfl
      have hl : kvs.length = kds.length := Paired.length hp
      have hks : kvs.map (·.1) = kds.map (·.1) := by
        clear ha hl hsz kQ kE e0 h64 hok
        induction hp with
        | nil => rfl
        | cons r t ih => rw [List.map_cons, List.map_cons, r.1, ih]
      refine ⟨_, rfl, .ref a, _, _, _, _, rfl, .ty "dict", .base (.dK ha), kit_ty (r := true) (by decide +kernel), _, rfl, ?_⟩
      refine iteF ?_
      refine ⟨a, .dK kvs, ha, trivial, fun od => ?_⟩
      refine ⟨_, rfl, a, od, rfl, .inl ⟨kvs, upd_same, fun D hD => ?_⟩⟩
      refine lc_it walk_keys (Cv (upd H a (.frz od (.dK kvs))) D fun i => (((kds.map (·.1)).take i).map isTxt).map V.bl) (cv0 hD rfl) (fun i H2 _ p => p.1 a _ upd_same) (fun i y H2 H3 hi p q => ?_) (fun H2 p => ?_)
      · obtain ⟨rfl, k, v, hk, rfl⟩ := q
        refine ⟨rfl, ?_⟩
        refine lc_yes ?_
        have fin : ∃ acc, H3 D = some (.lst acc) ∧ acc.length < sizeLine ∧ Cv (upd H a (.frz od (.dK kvs))) D (fun i => (((kds.map (·.1)).take i).map isTxt).map V.bl) (i + 1) (upd H3 D (.lst (acc ++ [.bl (isTxt k)]))) := by
          refine cv_yes hD p.1 p.2 ?_ ?_
          · simp only [List.length_map, List.length_take]
            omega
          · have hk2 : (kds.map (·.1))[i]? = some k := by rw [← hks, List.getElem?_map, hk]; rfl
            rw [snoc_at isTxt hk2, List.map_append]
            rfl
        cases k with
        | inl n => exact ⟨_, rfl, _, _, _, _, _, rfl, .ty "str", .base (.int n), kit_ty (r := false) (by decide +kernel), fin⟩
        | inr x => exact ⟨_, rfl, _, _, _, _, _, rfl, .ty "str", .base (.str x), kit_ty (r := true) (by decide +kernel), fin⟩
      · have hp2 : H2 D = some (.lst (((kds.map (·.1)).map isTxt).map V.bl)) := by
          have z := p.2
          dsimp only at z
          have e : (kds.map (·.1)).length = kvs.length := by rw [List.length_map]; exact hl.symm
          rw [← e, List.take_length] at z
          exact z
        refine ⟨p.1 a _ upd_same, ?_⟩
        have nDa : D ≠ a := fun z => by rw [z, upd_same] at hD; cases hD
        have s1 : Same H (upd H2 a (.dK kvs)) := fun b o e => by
          by_cases hb : b = a
          · subst hb
            rw [ha] at e
            cases e
            exact upd_same
          · rw [upd_ne hb]
            exact p.1 b o (by rw [upd_ne hb]; exact e)
        generalize eH3 : upd H2 a (.dK kvs) = H3 at s1
        have hD3 : H3 D = some (.lst (((kds.map (·.1)).map isTxt).map V.bl)) := by rw [← eH3, upd_ne nDa]; exact hp2
        refine ⟨D, (kds.map (·.1)).map isTxt, rfl, SqL.of hD3, _, rfl, ?_⟩
        have e2 : ((kds.map (·.1)).map isTxt).all id = (kds.map (·.1)).all isTxt := by rw [List.all_map]; rfl
        rw [e2]
        cases h1 : (kds.map (·.1)).all isTxt with
        | false =>
          refine iteT ?_
          exact fun d hd => e0 H3 s1 (by show faultD kds = _; unfold faultD; rw [h1]; rfl) d hd
        | true =>
          refine iteF ?_
          have hkt : kvs.map (fun kv => kV kv.1) = ((kds.map (·.1)).map txt).map V.str := by
            have e3 : (kvs.map fun kv => kV kv.1) = (kvs.map (·.1)).map kV := by rw [List.map_map]; rfl
            rw [e3, hks, ← kv_strs]
            congr 1
            generalize kds.map (·.1) = l at h1
            clear e3
            induction l with
            | nil => rfl
            | cons k l ih =>
              rw [List.all_cons, Bool.and_eq_true] at h1
              rw [List.map_cons, List.map_cons, ← ih h1.2]
              cases k with
              | inl n => cases h1.1
              | inr x => rfl
          refine ⟨_, rfl, a, kvs, rfl, s1 a _ ha, fun l hl3 => ?_⟩
          rw [hkt]
          have s2 : Same H3 (upd H3 l (.lst (((kds.map (·.1)).map txt).map V.str))) := same_new (Same.refl H3) hl3
          refine ⟨l, (kds.map (·.1)).map txt, rfl, SqL.of upd_same, ?_, fun ys q py sy hq => ?_⟩
          · rw [List.length_map, List.length_map]
            exact h64
          have ey := srtS_only py sy
          subst ey
          have s3 := s2.trans (same_new (o := .lst ((srtS ((kds.map (·.1)).map txt)).map V.str)) (Same.refl _) hq)
          generalize eH4 : upd (upd H3 l (.lst (((kds.map (·.1)).map txt).map V.str))) q (.lst ((srtS ((kds.map (·.1)).map txt)).map V.str)) = H4 at s3
          have hq4 : H4 q = some (.lst ((srtS ((kds.map (·.1)).map txt)).map V.str)) := by rw [← eH4, upd_same]
          refine ⟨rfl, fun m hm => ?_⟩
          have eP : (partNames.map fun p => ((Sum.inr p : Key), V.ref (pa p))).map (fun kv => kV kv.1) = partNames.map V.str := by rw [List.map_map]; rfl
          rw [eP]
          have s4 : Same H4 (upd H4 m (.lst (partNames.map V.str))) := same_new (Same.refl H4) hm
          have nqm : q ≠ m := ne_of_none hq4 hm
          have okt : okS (srtS ((kds.map (·.1)).map txt)) := fun x hx => hok x ((srtS_perm _).mem_iff.mp hx)
          refine ⟨.list ((srtS ((kds.map (·.1)).map txt)).map .str), .list (partNames.map .str), .lst (SqL.of (xs := (srtS ((kds.map (·.1)).map txt)).map V.str) (by rw [upd_ne nqm]; exact hq4)) (dpAll_strs _), .lst (SqL.of upd_same) (dpAll_strs _), shaped_strs okt, shaped_strs ok_partNames, _, rfl, ?_⟩
          have e6 : PyData.eqv (.list ((srtS ((kds.map (·.1)).map txt)).map .str)) (.list (partNames.map .str)) = decide (srtS ((kds.map (·.1)).map txt) = partNames) := eqvAll_strs _ _
          rw [e6]
          have s5 := s1.trans (s3.trans s4)
          by_cases h2 : srtS ((kds.map (·.1)).map txt) = partNames
          · rw [decide_eq_true h2]
            refine iteF ?_
            have hf : faultOf (some kds) = partNames.find? fun p => !goodPart p (valD kds (Sum.inr p)) := by show faultD kds = _; unfold faultD; rw [if_pos h1, if_pos h2]
            refine ⟨rfl, ?_⟩
            refine for_it (walkW (kvs := partNames.map fun p => (Sum.inr p, V.ref (pa p)))) (fun i σ H5 => ∃ v1, σ = [some (.ref a), v1] ∧ Same H H5 ∧ ∀ p ∈ partNames.take i, goodPart p (valD kds (Sum.inr p)) = true) ⟨none, rfl, s5, fun p hp => by cases hp⟩ (fun _ _ _ _ _ => True.intro) ?_ ?_
            · rintro i y σ H5 H6 hi ⟨v1, rfl, s6, hg⟩ ⟨rfl, k, v, hk, rfl⟩
              rw [List.getElem?_map] at hk
              obtain ⟨p, hpi, e⟩ : ∃ p, partNames[i]? = some p ∧ (Sum.inr p, V.ref (pa p)) = (k, v) := by
                cases q : partNames[i]? with
                | none => rw [q] at hk; cases hk
                | some p => rw [q] at hk; exact ⟨p, rfl, Option.some.inj hk⟩
              cases e
              have hpm : p ∈ partNames := List.mem_of_getElem? hpi
              have hin : p ∈ (kds.map (·.1)).map txt := by rw [← h2] at hpm; exact (srtS_perm _).mem_iff.mp hpm
              obtain ⟨d, hd⟩ : ∃ d, valD kds (Sum.inr p) = some d := by
                obtain ⟨k, hk, ek⟩ := List.mem_map.mp hin
                have hkt := List.all_eq_true.mp h1 k hk
                obtain ⟨⟨k', d⟩, hkd, e⟩ := List.mem_map.mp hk
                dsimp only at e
                subst e
                cases k' with
                | inl n => cases hkt
                | inr x =>
                  have ex : x = p := ek
                  subst ex
                  unfold valD
                  cases q : kds.find? (fun kv => decide (kv.1 = Sum.inr x)) with
                  | none =>
                    have := List.find?_eq_none.mp q _ hkd
                    simp at this
                  | some z => exact ⟨z.2, rfl⟩
              obtain ⟨v, hv, hdv⟩ := valD_of hp hd
              have hdv5 := Dp.same s6 d hdv
              have ha5 := s6 a _ ha
              have hgt : DGet H6 a (.str p) (some v) := by
                rw [← hv]
                exact DGet.k (k := Sum.inr p) ha5
              refine ⟨_, rfl, _, rfl, a, v, rfl, hgt, v, _, _, _, _, rfl, .ty "str", dp_ty hdv5, kitD d (by decide), _, rfl, ?_⟩
              have stop : goodPart p (valD kds (Sum.inr p)) = false → faultOf (some kds) = some p := fun hb => by
                rw [hf]
                refine List.find?_eq_some_iff_getElem.mpr ⟨by rw [hb]; rfl, i, (List.getElem?_eq_some_iff.mp hpi).1, (List.getElem?_eq_some_iff.mp hpi).2, fun j hj => ?_⟩
                have hjl : j < partNames.length := Nat.lt_trans hj (List.getElem?_eq_some_iff.mp hpi).1
                have := hg partNames[j] (List.mem_take_iff_getElem.mpr ⟨j, by omega, rfl⟩)
                rw [this]
                rfl
              have go : goodPart p (valD kds (Sum.inr p)) = true → ∀ q ∈ partNames.take (i + 1), goodPart q (valD kds (Sum.inr q)) = true := fun hb q hq => by
                rw [List.take_add_one, hpi] at hq
                rcases List.mem_append.mp hq with hq | hq
                · exact hg q hq
                · rw [List.mem_singleton.mp hq]
                  exact hb
              cases d with
              | str x =>
                cases hdv
                refine iteF ?_
                refine ⟨_, rfl, _, rfl, a, _, rfl, hgt, ?_⟩
                refine ⟨_, rfl, Sum.inr p, V.ref (pa p), rfl, rfl, ?_, ?_⟩
                · have all : ∀ (l : List Str), p ∈ l → valV (l.map fun p => ((Sum.inr p : Key), V.ref (pa p))) (Sum.inr p) = some (.ref (pa p)) := fun l => by
                    induction l with
                    | nil => intro h; cases h
                    | cons z l ih =>
                      intro h
                      unfold valV
                      rw [List.map_cons, List.find?_cons]
                      by_cases hz : z = p
                      · subst hz
                        rw [show decide ((Sum.inr z : Key) = Sum.inr z) = true from decide_eq_true rfl]
                        rfl
                      · rw [show decide ((Sum.inr z : Key) = Sum.inr p) = false from decide_eq_false fun q => hz (Sum.inr.inj q)]
                        rcases List.mem_cons.mp h with h | h
                        · exact absurd h.symm hz
                        · exact ih h
                  exact all partNames hpm
                · refine ⟨pa p, _, rfl, .inr (Z.tup p hpm _), rfl, flat_strs _, _, rfl, ?_⟩
                  rw [inV_strs]
                  have eg : goodPart p (valD kds (Sum.inr p)) = decide (x ∈ partWords p) := by rw [hd]; rfl
                  cases hb : decide (x ∈ partWords p) with
                  | true =>
                    rw [hb] at eg
                    refine iteF ?_
                    exact ⟨_, rfl, s6, go eg⟩
                  | false =>
                    rw [hb] at eg
                    refine iteT ?_
                    refine ⟨_, rfl, fun d hd => ?_⟩
                    exact kE p (stop eg) _ d (same_new s6 hd) (s6.free hd) upd_same
              | _ =>
                refine iteT ?_
                refine iteT ?_
                refine ⟨_, rfl, fun d hd2 => ?_⟩
                exact kE p (stop (by rw [hd]; rfl)) _ d (same_new s6 hd2) (s6.free hd2) upd_same
            · rintro σ H5 ⟨v1, rfl, s6, hg⟩
              refine kQ ?_ H5 s6
              rw [hf]
              refine List.find?_eq_none.mpr fun p hp => ?_
              have e : partNames.take (partNames.map fun p => ((Sum.inr p : Key), V.ref (pa p))).length = partNames := by rw [List.length_map, List.take_length]
              rw [hg p (by rw [e]; exact hp)]
              decide
          · rw [decide_eq_false h2]
            refine iteT ?_
            exact fun d hd => e0 _ s5 (by show faultD kds = _; unfold faultD; rw [if_pos h1, if_neg h2]) d hd
end
end HP

namespace HP
open PySem PySem.Spec PyProof.Rows L2 SlX
abbrev sInit : Stmt := inClass (top 20) 1
/-! ### scenes -/
theorem dc_it {J : It} {n : Nat} {G : Hp → Prop} {Y : Nat → Hp → V → Hp → Prop} (w : Walk J n G Y) {g : TG} {tt : TT} {tk tv : TE} {vs : List Nat} {σ : L2.St} {H1 : Hp} {D : Addr} {Qd : Hp → Prop} (Pv : Nat → Hp → Prop) (h0 : Pv 0 (upd H1 D (.dK []))) (hG : ∀ i H, i ≤ n → Pv i H → G H)
    (hs : ∀ i x H H', i < n → Pv i H → Y i H x H' → g x (wipe σ vs) H' fun σ2 H2 => wipe σ2 vs = wipe σ vs ∧ tt σ2 H2 fun b H3 =>
      if b = true then tk σ2 H3 fun y H4 => tv σ2 H4 fun z H5 => ∃ kvs k, y = kV k ∧ H5 D = some (.dK kvs) ∧ kvs.length < sizeLine ∧ Pv (i + 1) (upd H5 D (.dK (putK kvs k z))) else Pv (i + 1) H3) (hd : ∀ H, Pv n H → Qd H) :
    ∃ W : Nat → Nat → Hp → Prop, (∃ m, W 0 m (upd H1 D (.dK []))) ∧ ∀ i m H, W i m H →
      (J.stop i H ∧ Qd H) ∨ (J.go i H ∧ ∃ Nx : Hp → Prop, (∀ H', Nx H' → ∃ m', m' < m ∧ W (i + 1) m' H') ∧ ∀ x H', J.yld i H x H' → g x (wipe σ vs) H' fun σ2 H2 => wipe σ2 vs = wipe σ vs ∧ tt σ2 H2 fun b H3 =>
        if b = true then tk σ2 H3 fun y H4 => tv σ2 H4 fun z H5 => ∃ kvs k, y = kV k ∧ H5 D = some (.dK kvs) ∧ kvs.length < sizeLine ∧ Nx (upd H5 D (.dK (putK kvs k z))) else Nx H3) := by
  refine ⟨fun i m H => m = n - i ∧ i ≤ n ∧ Pv i H, ⟨n, by simp, Nat.zero_le _, h0⟩, ?_⟩
  rintro i m H ⟨rfl, hi, p⟩
  have q := hG i H hi p
  by_cases hlt : i < n
  · refine .inr ⟨w.goes i H hlt q, Pv (i + 1), fun H' p' => ⟨n - (i + 1), by omega, rfl, hlt, p'⟩, fun x H' y => hs i x H H' hlt p (w.yields i H x H' hlt q y)⟩
  · have e : i = n := by omega
    subst e
    exact .inl ⟨w.stops H q, hd H p⟩
theorem not_in_take {α : Type} {l : List α} (nd : l.Nodup) {j : Nat} {x : α} (h : l[j]? = some x) : x ∉ l.take j := fun hm => by
  obtain ⟨hj, e⟩ := List.getElem?_eq_some_iff.mp h
  have e2 : l.take j ++ l.drop j = l := List.take_append_drop j l
  rw [← e2, List.nodup_append] at nd
  refine nd.2.2 x hm x ?_ rfl
  rw [List.drop_eq_getElem_cons hj, e]
  exact List.mem_cons_self
theorem nodup_parts : partNames.Nodup := by decide +kernel
/-- the places of the slots -/
structure SlC (K : PySem.W.Frag) (C : Addr) : Prop where
  cls : SCls K C
  names : ∃ p, Slot1 K C "names" p 0
  size : ∃ p, Slot1 K C "size" p 2
  policy : ∃ p, Slot1 K C "policy" p 1
  told : ∃ p, Slot1 K C "told" p 3
/-- what a scene is made of -/
structure Sc where
  names : List Str
  many : Int
  word : Str → Str
  words : List Str
def Sc.pol (s : Sc) : List (Key × V) := partNames.map fun p => (Sum.inr p, V.str (s.word p))
/-- at a: the scene s, its parts at n, q, t -/
def SceneAt (K : PySem.W.Frag) (C : Addr) (H : Hp) (a : Addr) (s : Sc) : Prop :=
  ∃ (dx n q t : Addr), Slt H a C dx [some (.ref n), some (.ref q), some (.int s.many), some (.ref t)] ∧ SqT K H n (s.names.map V.str) ∧ H q = some (.dK s.pol) ∧ SqT K H t (s.words.map V.str)
theorem Slt.same {H H' : Hp} {a C dx : Addr} {vs : List (Option V)} (s : Same H H') (h : Slt H a C dx vs) : Slt H' a C dx vs := by
  rcases h with ⟨h, e⟩ | ⟨h, k⟩
  · exact .inl ⟨s _ _ h, e⟩
  · exact .inr ⟨s _ _ h, s _ _ k⟩
theorem SceneAt.same {K : PySem.W.Frag} {C a : Addr} {H H' : Hp} {s : Sc} (e : Same H H') (h : SceneAt K C H a s) : SceneAt K C H' a s := by
  obtain ⟨dx, n, q, t, h1, h2, h3, h4⟩ := h
  exact ⟨dx, n, q, t, Slt.same e h1, SqT.same e h2, e _ _ h3, SqT.same e h4⟩
/-! ### Scene.__init__ -/
inductive Fault where
  | things | values | rule (p : Str) | words
def isManyD : PyData → Bool
  | .int i => decide (1 ≤ i) && decide (i ≤ 3)
  | _ => false
/-- the first fault of what a scene is made of -/
def sceneFault (dT dM : PyData) (r : Option (List (Key × PyData))) (dW : PyData) : Option Fault :=
  if isThingsD dT = true then
    if isManyD dM = true then
      match faultOf r with
      | some p => some (.rule p)
      | none => if isWordsD dW = true then none else some .words
    else some .values
  else some .things
def intOf : PyData → Int
  | .int i => i
  | _ => 0
def strsOf : PyData → List Str
  | .tuple ds => ds.map strOf
  | _ => []
def kdsOf : Option (List (Key × PyData)) → List (Key × PyData)
  | some kds => kds
  | none => []
/-- the scene of what has no fault -/
def scOf (dT dM : PyData) (r : Option (List (Key × PyData))) (dW : PyData) : Sc := ⟨strsOf dT, intOf dM, fun p => strOf ((valD (kdsOf r) (Sum.inr p)).getD .none), strsOf dW⟩
structure Cls4 where
  things : Addr
  values : Addr
  rule : Addr
  words : Addr
/-- what is raised for a fault -/
def Raised (c : Cls4) (H : Hp) (E : XK) : Fault → Prop
  | .things => ∀ H', Same H H' → E (.ref c.things) none H'
  | .values => ∀ H', Same H H' → E (.ref c.values) none H'
  | .rule p => ∀ H' d, Same H H' → H d = none → H' d = some (.xd [("part", .str p)]) → E (.ref c.rule) (some d) H'
  | .words => ∀ H', Same H H' → E (.ref c.words) none H'
section
variable {P : Program} {w : World} {K : PySem.W.Frag} {mg : Str → Option Value} {base : Heap}
/-- what the arguments are -/
structure ScArgs (K : PySem.W.Frag) (H : Hp) (vT vM vR vW : V) (dT dM : PyData) (r : Option (List (Key × PyData))) (dW : PyData) : Prop where
  ht : Dp K H vT dT
  hts : Small dT
  hm : Dp K H vM dM
  hr : RuleV K H vR r
  hrs : ∀ kds, r = some kds → kds.length < 64 ∧ okS ((kds.map (·.1)).map txt)
  hw : Dp K H vW dW
  hws : ∀ ds, dW = .tuple ds → ds.length < 64
def spInit (K : PySem.W.Frag) (C : Addr) (c : Cls4) : Sp := fun vs H Q E => ∃ (x dx : Addr) (vT vM vR vW : V) (dT dM : PyData) (r : Option (List (Key × PyData))) (dW : PyData), vs = [.ref x, vT, vM, vR, vW] ∧ H x = some (.ins C dx []) ∧ H dx = some (.own x) ∧ dx ≠ x ∧
  ScArgs K H vT vM vR vW dT dM r dW ∧
  (sceneFault dT dM r dW = none → ∀ H', (∀ b o, H b = some o → b ≠ x → b ≠ dx → H' b = some o) → SceneAt K C H' x (scOf dT dM r dW) → Q .non H') ∧
  ∀ f, sceneFault dT dM r dW = some f → Raised c H E f
theorem scInit : FnScope ["self", "things", "many", "rule", "words", "part"] ["self", "things", "many", "rule", "words"] (defScope sInit) := ⟨rfl, rfl, rfl, by decide +kernel, rfl, by decide +kernel, by decide +kernel⟩
theorem ok_init {C dP fI : Addr} {fd : FuncData} {pa : Str → Addr} {c : Cls4} (F : FunD K "__init__" "Scene.__init__" (defArgs sInit) (defBody sInit) (defScope sInit) [] [] fI fd) (T : Fr mg) (Cc : Cs K mg) (Z : Pt P w K mg dP pa) (S : SlC K C)
    (X1 : Exc0 K mg "InvalidThings" c.things) (X2 : Exc0 K mg "InvalidValues" c.values) (X4 : Exc0 K mg "InvalidWords" c.words)
    (FT : Fn P w K mg base CX0 2 "are_things" (spThings K)) (FI : Fn P w K mg base CX0 1 "is_integer" (spIsInt K)) (FL : Fn P w K mg base (L2.CX P w) 3 "look_at_rule" (spLook K c.rule)) (FW : Fn P w K mg base CX0 1 "are_words" (spWords K)) :
    FnOk P w K mg base (L2.CX P w) 4 fI fd ["self", "things", "many", "rule", "words"] (spInit K C c) := by
  refine F.ok scInit (fun vs H Q E h => ?_) (fun cdv A outer s H vs Q E hr h => ?_)
  · obtain ⟨x, dx, vT, vM, vR, vW, dT, dM, r, dW, rfl, _⟩ := h
    rfl
  · obtain ⟨x, dx, vT, vM, vR, vW, dT, dM, r, dW, rfl, hx, hdx, ndx, ar, kQ, kE⟩ := h
    have hu : _ < cLine := hu_of hr
    obtain ⟨tv, cV⟩ := Cc.mvalues
    obtain ⟨pN, kN⟩ := S.names
    obtain ⟨pS, kS⟩ := S.size
    obtain ⟨pP, kP⟩ := S.policy
    obtain ⟨pT, kT⟩ := S.told
    refine ⟨_, (pss_cons (ps_if (pt_not (pt_val (pf FT hr (by decide) (pa_cons (pv 1) pa_nil)))) (pss_one (ps_raise0 X1 rfl (takes_of rfl rfl rfl rfl))) pss_nil)
      (pss_cons (ps_if (PW.pt (pw_or (pt_not (pt_val (pf FI hr (by decide) (pa_cons (pv 2) pa_nil)))) (pw_or1 (pt_not (pt_chain op_le op_le pe_int (pv 2) (pe_glob (v := .int 3) (by rfl) cV ⟨_, rfl⟩)))))) (pss_one (ps_raise0 X2 rfl (takes_of rfl rfl rfl rfl))) pss_nil)
      (pss_cons (ps_expr (pfX FL hr (passes_call (takes_of rfl rfl rfl rfl) (fun _ _ _ _ h => h)) (pa_cons (pv 3) pa_nil)))
      (pss_cons (ps_if (pt_not (pt_val (pf FW hr (by decide) (pa_cons (pv 4) pa_nil)))) (pss_one (ps_raise0 X4 rfl (takes_of rfl rfl rfl rfl))) pss_nil)
      (pss_cons (ps_sl (pv 0) (pv 1))
      (pss_cons (ps_sl (pv 0) (pv 2))
      (pss_cons (ps_sl (pv 0) (pe_dc (own := [("part", 5)]) (g := gName 5) (by rfl) scInit.nd (pi_keysW Z.wd (pe_glob (v := .ref dP) (by rfl) Z.gl rfl)) (blkOk_by (own := [("part", 5)]) (N := ["self", "things", "many", "rule", "words", "part"]) (sc := defScope sInit) (by decide +kernel)) (fun _ _ _ _ _ => (pg_name (i := 5) scInit.nd rfl (Or.inl rfl))) (fun _ _ _ _ _ => pts_nil) (fun _ _ _ _ _ => (pv 5)) (fun _ _ _ _ _ => (pe_dget hu (pv 3) (pv 5) (fun _ _ => rfl)))))
      (pss_one (ps_sl (pv 0) (pv 4)))))))))), ?_⟩
    refine ⟨_, rfl, vT, dT, rfl, ar.ht, ar.hts, fun H1 s1 => ⟨_, rfl, ?_⟩⟩
    cases h1 : isThingsD dT with
    | false =>
      refine iteT ?_
      exact kE .things (by unfold sceneFault; rw [h1]; rfl) H1 s1
    | true =>
      refine iteF ?_
      have hm1 := Dp.same s1 dM ar.hm
      refine ⟨_, rfl, vM, dM, rfl, hm1, ⟨_, rfl, ?_⟩⟩
      have bad : isManyD dM = false → E (.ref c.values) none H1 := fun h2 => kE .values (by unfold sceneFault; rw [h1, h2]; rfl) H1 s1
      cases dM with
      | int i =>
        cases hm1
        refine iteF ?_
        refine ⟨_, rfl, _, _, rfl, rfl, _, rfl, ?_⟩
        cases h2 : decide (1 ≤ i) with
        | false =>
          refine iteF ⟨_, rfl, ?_⟩
          refine iteT ?_
          exact bad (by show (decide (1 ≤ i) && decide (i ≤ 3)) = false; rw [h2]; rfl)
        | true =>
          refine iteT ⟨_, _, rfl, rfl, _, rfl, ?_⟩
          cases h3 : decide (i ≤ 3) with
          | false =>
            refine iteT ?_
            exact bad (by show (decide (1 ≤ i) && decide (i ≤ 3)) = false; rw [h2, h3]; rfl)
          | true =>
            refine iteF ?_
            have h4 : isManyD (.int i) = true := by show (decide (1 ≤ i) && decide (i ≤ 3)) = true; rw [h2, h3]; rfl
            have hR1 : RuleV K H1 vR r := by
              cases ar.hr with
              | dat h => exact .dat (Dp.same s1 _ h)
              | dic h =>
                obtain ⟨kvs, ha, hp⟩ := h
                exact .dic ⟨kvs, s1 _ _ ha, Paired.mapP hp fun a b q => ⟨q.1, Dp.same s1 _ q.2⟩⟩
            refine ⟨_, rfl, vR, r, rfl, hR1, ar.hrs, fun h5 H2 s2 => ?_, fun p h5 H2 d s2 hd hd2 => ?_⟩
            · have hW2 := Dp.same (s1.trans s2) dW ar.hw
              refine ⟨_, rfl, vW, dW, rfl, hW2, ar.hws, fun H3 s3 => ⟨_, rfl, ?_⟩⟩
              have s03 := s1.trans (s2.trans s3)
              cases h6 : isWordsD dW with
              | false =>
                refine iteT ?_
                exact kE .words (by unfold sceneFault; rw [h1, h4, h5]; show (if isWordsD dW = true then none else some Fault.words) = _; rw [h6]; rfl) H3 s03
              | true =>
                refine iteF ?_
                have hx3 := s03 _ _ hx
                have hdx3 := s03 _ _ hdx
                -- the rule
                obtain ⟨aR, kds, rfl, rfl, kvs, haR, hpR⟩ : ∃ (aR : Addr) (kds : List (Key × PyData)), vR = .ref aR ∧ r = some kds ∧ ∃ kvs, H3 aR = some (.dK kvs) ∧ Paired (fun (p : Key × V) (q : Key × PyData) => p.1 = q.1 ∧ Dp K H3 p.2 q.2) kvs kds := by
                  cases ar.hr with
                  | dat h => cases h5
                  | @dic a kds h =>
                    obtain ⟨kvs, ha, hp⟩ := h
                    exact ⟨a, kds, rfl, rfl, kvs, s03 _ _ ha, Paired.mapP hp fun a b q => ⟨q.1, Dp.same s03 _ q.2⟩⟩
                have nRx : aR ≠ x := ne_of haR hx3 (by intro z; cases z)
                have nRd : aR ≠ dx := ne_of haR hdx3 (by intro z; cases z)
                have good : ∀ p ∈ partNames, ∃ y, valD kds (Sum.inr p) = some (.str y) := fun p hp => by
                  have h7 : faultD kds = none := h5
                  unfold faultD at h7
                  split at h7
                  · split at h7
                    · have := List.find?_eq_none.mp h7 p hp
                      cases q : valD kds (Sum.inr p) with
                      | none => rw [q] at this; exact absurd rfl this
                      | some d =>
                        rw [q] at this
                        cases d with
                        | str y => exact ⟨y, rfl⟩
                        | _ => exact absurd rfl this
                    · cases h7
                  · cases h7
                -- self.names, self.size
                refine ⟨_, rfl, _, rfl, x, C, dx, pN, [], 0, rfl, .inl ⟨hx3, rfl⟩, S.cls, kN, ?_⟩
                refine ⟨_, rfl, _, rfl, x, C, dx, pS, _, 2, rfl, slH_slt ndx, S.cls, kS, ?_⟩
                rw [slH_twice ndx]
                generalize eH5 : slH H3 x C dx (putS 2 (.int i) (putS 0 vT [])) = H5
                have f5 : ∀ b o, H3 b = some o → b ≠ x → b ≠ dx → H5 b = some o := fun b o e h1 h2 => by rw [← eH5, slH_ne h1 h2]; exact e
                have st5 : Slt H5 x C dx (putS 2 (.int i) (putS 0 vT [])) := by rw [← eH5]; exact slH_slt ndx
                -- self.policy
                refine ⟨rfl, fun D hD => ?_⟩
                have hR5 : H5 aR = some (.dK kvs) := f5 _ _ haR nRx nRd
                have nDR : aR ≠ D := ne_of_none hR5 hD
                refine dc_it (walkW (kvs := partNames.map fun p => (Sum.inr p, V.ref (pa p)))) (fun j H6 => (∀ b o, H5 b = some o → H6 b = some o) ∧ H6 D = some (.dK ((partNames.take j).map fun p => (Sum.inr p, V.str (strOf ((valD kds (Sum.inr p)).getD .none)))))) ⟨fun b o e => by rw [upd_ne (ne_of_none e hD)]; exact e, by rw [upd_same]; rfl⟩ (fun _ _ _ _ => True.intro) (fun j y H6 H7 hj p q => ?_) (fun H6 p => ?_)
                · obtain ⟨rfl, k, v, hk, rfl⟩ := q
                  rw [List.getElem?_map] at hk
                  obtain ⟨pp, hpi, e⟩ : ∃ p, partNames[j]? = some p ∧ (Sum.inr p, V.ref (pa p)) = (k, v) := by
                    cases q : partNames[j]? with
                    | none => rw [q] at hk; cases hk
                    | some p => rw [q] at hk; exact ⟨p, rfl, Option.some.inj hk⟩
                  cases e
                  obtain ⟨y, hy⟩ := good pp (List.mem_of_getElem? hpi)
                  obtain ⟨v, hv, hdv⟩ := valD_of hpR hy
                  cases hdv
                  refine ⟨rfl, ?_⟩
                  refine lc_yes ?_
                  refine ⟨_, rfl, _, rfl, _, rfl, aR, _, rfl, (by rw [← hv]; exact DGet.k (k := Sum.inr pp) (p.1 _ _ hR5)), ?_⟩
                  refine ⟨_, Sum.inr pp, rfl, p.2, ?_, ?_, ?_⟩
                  · rw [List.length_map, List.length_take]
                    exact Nat.lt_of_le_of_lt (Nat.min_le_right _ _) (by decide)
                  · intro b o e
                    rw [upd_ne (ne_of_none e hD)]
                    exact p.1 b o e
                  · rw [upd_same, List.take_add_one, hpi]
                    have nk : valV ((partNames.take j).map fun p => ((Sum.inr p : Key), V.str (strOf ((valD kds (Sum.inr p)).getD .none)))) (Sum.inr pp) = none := by
                      unfold valV
                      have z : ((partNames.take j).map fun p => ((Sum.inr p : Key), V.str (strOf ((valD kds (Sum.inr p)).getD .none)))).find? (fun kv => decide (kv.1 = Sum.inr pp)) = none := by
                        refine List.find?_eq_none.mpr fun kv hkv => ?_
                        obtain ⟨p2, hp2, rfl⟩ := List.mem_map.mp hkv
                        have ne : p2 ≠ pp := fun e => by
                          subst e
                          exact not_in_take nodup_parts hpi hp2
                        simp [ne]
                      rw [z]
                      rfl
                    have ey : V.str (strOf ((valD kds (Sum.inr pp)).getD .none)) = V.str y := by rw [hy]; rfl
                    rw [putK_new _ nk, List.map_append, ← ey]
                    rfl
                · have e7 : (partNames.take (partNames.map fun p => ((Sum.inr p : Key), V.ref (pa p))).length) = partNames := by rw [List.length_map, List.take_length]
                  have hD6 : H6 D = some (.dK (scOf dT (.int i) (some kds) dW).pol) := by
                    have z := p.2
                    rw [e7] at z
                    exact z
                  refine ⟨_, rfl, x, C, dx, pP, _, 1, rfl, Slt.same p.1 st5, S.cls, kP, ?_⟩
                  refine ⟨_, rfl, _, rfl, x, C, dx, pT, _, 3, rfl, slH_slt ndx, S.cls, kT, ?_⟩
                  rw [slH_twice ndx]
                  have nDx : D ≠ x := fun e => by
                    subst e
                    rcases st5 with ⟨z, _⟩ | ⟨z, _⟩
                    · rw [hD] at z; cases z
                    · rw [hD] at z; cases z
                  have nDd : D ≠ dx := fun e => by
                    subst e
                    rcases st5 with ⟨_, z⟩ | ⟨_, z⟩
                    · cases z
                    · rw [hD] at z; cases z
                  refine kQ (by unfold sceneFault; rw [h1, h4, h5]; show (if isWordsD dW = true then none else some Fault.words) = none; rw [h6]; rfl) _ (fun b o e n1 n2 => ?_) ?_
                  · rw [slH_ne n1 n2]
                    exact p.1 b o (f5 b o (s03 b o e) n1 n2)
                  · have fr : ∀ b o, H b = some o → b ≠ x → b ≠ dx → slH H6 x C dx (putS 3 vW (putS 1 (.ref D) (putS 2 (.int i) (putS 0 vT [])))) b = some o := fun b o e n1 n2 => by
                      rw [slH_ne n1 n2]
                      exact p.1 b o (f5 b o (s03 b o e) n1 n2)
                    have frT : ∀ {n : Addr} {xs : List V}, SqT K H n xs → SqT K (slH H6 x C dx (putS 3 vW (putS 1 (.ref D) (putS 2 (.int i) (putS 0 vT []))))) n xs := fun {n xs} h => by
                      rcases h with (h | ⟨o, h⟩) | h
                      · exact .inl (.inl (fr _ _ h (ne_of h hx (by intro z; cases z)) (ne_of h hdx (by intro z; cases z))))
                      · exact .inl (.inr ⟨o, fr _ _ h (ne_of h hx (by intro z; cases z)) (ne_of h hdx (by intro z; cases z))⟩)
                      · exact .inr h
                    cases dT with
                    | tuple ds =>
                      cases ar.ht with
                      | @tup n xs _ hS hA =>
                      have hn : ds.all isNameD = true := by
                        have z : (decide (1 ≤ (ds.length : Int)) && (decide ((ds.length : Int) ≤ 4) && (ds.all isNameD && distinct (ds.map strOf)))) = true := h1
                        rw [Bool.and_eq_true, Bool.and_eq_true, Bool.and_eq_true] at z
                        exact z.2.2.1
                      have eds := names_strs hn
                      have hvs : xs = (ds.map strOf).map V.str := by rw [eds] at hA; exact dp_strs hA
                      subst hvs
                      cases dW with
                      | tuple es =>
                        cases ar.hw with
                        | @tup t ys _ hS2 hA2 =>
                        have hw2 : es.all isWordD = true := by
                          have z : (es.all isWordD && ascS (es.map strOf)) = true := h6
                          rw [Bool.and_eq_true] at z
                          exact z.1
                        obtain ⟨ees, _⟩ := words_strs hw2
                        have hvs2 : ys = (es.map strOf).map V.str := by rw [ees] at hA2; exact dp_strs hA2
                        subst hvs2
                        refine ⟨dx, n, D, t, slH_slt ndx, frT hS, ?_, frT hS2⟩
                        rw [slH_ne nDx nDd]
                        exact hD6
                      | _ => cases h6
                    | _ => cases h1
            · exact kE (.rule p) (by unfold sceneFault; rw [h1, h4, h5]; rfl) H2 d (s1.trans s2) (s1.free hd) hd2
      | _ =>
        refine iteT ?_
        refine iteT ?_
        exact bad rfl
end
end HP

namespace HP
open PySem PySem.Spec PyProof.Rows L2
/-! ### facts of the written part, as Bools -/
def ea (a b : Option (Option Value)) : Bool := decide (a = b)
def excB (K : PySem.W.Frag) (x : Str) : Bool := PySem.W.excIn K (He.ga K x) veB "ValueError.__new__" && (PySem.W.keepIn K (.ref (He.ga K x)) && (decide (PySem.W.subIn K (.ref (He.ga K x)) (.type "BaseException") = some true) && (decide (PySem.W.typeIn K (.ref (He.ga K x)) = some (.type "type")) &&
  ea (PySem.W.nsIn K mainGlobals x) (some (some (.ref (He.ga K x)))))))
def clsB (K : PySem.W.Frag) (C : Addr) : Bool := match K.lookup C with
  | some ⟨.type "type", _, .cls cd, sl⟩ => (match cd.mro, sl.toList with
    | .ref C' :: bm, [_, _, _, _, some (.builtin n), _] => C' == C && n == "ValueError.__new__" && !cd.hasDel && cd.hasDict && PySem.HandSPX.refsVE bm
    | _, _ => false)
  | _ => false
def oexB (K : PySem.W.Frag) (C : Addr) : Bool := clsB K C && (ea (PySem.W.findIn K (.ref C) "__setattr__") (some (some (.builtin "object.__setattr__"))) && (decide (PySem.W.subIn K (.ref C) (.type "BaseException") = some true) && (decide (PySem.W.typeIn K (.ref C) = some (.type "type")) && PySem.W.keepIn K (.ref C))))
/-- an error class x with the field f, its __init__ by the text -/
def exc1B (K : PySem.W.Frag) (x f : Str) : Bool := oexB K (He.ga K x) && (ea (PySem.W.nsIn K mainGlobals x) (some (some (.ref (He.ga K x)))) && (ea (PySem.W.findIn K (.ref (He.ga K x)) "__init__") (some (some (.ref (He.ma K (He.ga K x) "__init__")))) &&
  (decide (PySem.W.typeIn K (.ref (He.ma K (He.ga K x) "__init__")) = some (.type "function")) && (ea (PySem.W.findIn K (.ref (He.ga K x)) f) (some none) && xfB K (He.ga K x)))))
end HP

namespace HP
open PySem PySem.Spec PyProof.Rows L2 SlX
def sclB (K : PySem.W.Frag) (C : Addr) : Bool := PySem.W.plainGet K C Str.empty && (PySem.W.isClsIn K C && (PySem.W.plainOver K C && ea (PySem.W.findIn K (.ref C) "__setattr__") (some (some (.builtin "object.__setattr__")))))
def slotB (K : PySem.W.Frag) (C : Addr) (f : Str) (i : Nat) : Bool := ea (PySem.W.findIn K (.ref C) f) (some (some (.ref (He.ma K C f)))) && (ea (PySem.W.specialIn K (.ref (He.ma K C f)) "__get__") (some (some (.builtin "member_descriptor.__get__"))) &&
  (decide (PySem.W.takesIn K (.ref (He.ma K C f)) = some true) && (decide (PySem.W.typeIn K (.ref (He.ma K C f)) = some (.type "member_descriptor")) && (decide (PySem.W.slotIn K (He.ma K C f) C = some i) && decide (i < 1000)))))
/-- a tuple of texts of the written part -/
def tupAt (K : PySem.W.Frag) (a : Addr) (ws : List Str) : Bool := match K.lookup a with
  | some ⟨.type c, _, .seq its _, _⟩ => decide (c = "tuple") && (decide (its.size ≤ sizeLine) && He.relAll (ws.map V.str) its.toList)
  | _ => false
def partAd (K : PySem.W.Frag) (p : Str) : Addr := match PySem.W.nsIn K (He.ga K "PARTS") p with
  | some (some (.ref a)) => a
  | _ => 0
def partsB (K : PySem.W.Frag) : Bool := partNames.all fun p => ea (PySem.W.nsIn K (He.ga K "PARTS") p) (some (some (.ref (partAd K p)))) && tupAt K (partAd K p) (partWords p)
def sceneB (K : PySem.W.Frag) : Bool := sclB K (He.ga K "Scene") && (slotB K (He.ga K "Scene") "names" 0 && (slotB K (He.ga K "Scene") "policy" 1 && (slotB K (He.ga K "Scene") "size" 2 && slotB K (He.ga K "Scene") "told" 3)))
end HP

namespace HP
open PySem PySem.Spec PyProof.Rows L2
/-! ### d.update(e) -/
def rUpd : V → List V → Hp → VK → Prop := fun x xs H Q => ∃ (a b : Addr) (kvs more : List (Key × V)), x = .ref a ∧ xs = [.ref b] ∧ H a = some (.dK kvs) ∧ H b = some (.dK more) ∧ a ≠ b ∧ kvs.length + more.length ≤ 1000 ∧ Q .non (upd H a (.dK (mergeK kvs more)))
theorem mergeK_len : ∀ (more kvs : List (Key × V)), (mergeK kvs more).length ≤ kvs.length + more.length
  | [], kvs => Nat.le_refl _
  | kv :: more, kvs => by
    have h1 := mergeK_len more (putK kvs kv.1 kv.2)
    have h2 := length_putK kvs kv.1 kv.2
    have e : mergeK kvs (kv :: more) = mergeK (putK kvs kv.1 kv.2) more := rfl
    rw [e, List.length_cons]
    omega
theorem mt_update {X : Cx} : MtR X "dict.update" rUpd := by
  intro pins s σ H x xs v us Q I rx rxs h
  obtain ⟨a, b, kvs, more, rfl, rfl, ha, hb, nab, hz, q⟩ := h
  cases rx
  cases rxs with
  | cons r1 r2 =>
    cases r2
    cases r1
    obtain ⟨z1, hd1, vs1, k1, dd1⟩ := dk_of I.hok ha
    obtain ⟨z2, hd2, vs2, k2, dd2⟩ := dk_of I.hok hb
    have l1 : kvs.length = vs1.length := Paired.length k1
    have l2 : more.length = vs2.length := Paired.length k2
    have hsl := sizeLine_eq
    refine call_meetsIn PySem.F.slot_dict_update dd1.typeIs PySem.F.entry_dict_update (PySem.F.args_dict_update_2 _ _) (meets_dict_update (mixKind X.prog X.w) a b nab hd2) ⟨vs1, vs2, dd1, dd2, by omega, fun h' dd' _ hs => ?_⟩
    have he : ∃ q, h'.get? a = some q := let ⟨q, _, _, hq, _⟩ := dd'; ⟨q, hq⟩
    have hm := mergeK_len more kvs
    exact ⟨.non, _, d_write (t' := s.toks) I (by rw [ha]; exact True.intro) hs he (dk_new (by omega) hd1 (KV.merge k2 k1) dd'), rfl, q⟩
/-! ### draws out of a written list -/
theorem Keep.refl (p l : Addr) (H : Hp) : Keep p l H H := fun _ _ e _ _ => e
theorem Keep.trans {p l : Addr} {H H1 H2 : Hp} (a : Keep p l H H1) (b : Keep p l H1 H2) : Keep p l H H2 := fun c o e h1 h2 => b c o (a c o e h1 h2) h1 h2
theorem Keep.of {p l : Addr} {H H1 : Hp} (a : Same H H1) : Keep p l H H1 := fun c o e _ _ => a c o e
theorem Src.same {H H1 : Hp} {p l : Addr} (S : Src H p l) (a : Same H H1) : Src H1 p l := by
  obtain ⟨st, i, ns, h1, h2, h3⟩ := S.ex
  exact ⟨st, i, ns, a _ _ h1, a _ _ h2, h3⟩
theorem Src.pl {H : Hp} {p l : Addr} (S : Src H p l) : ∃ xs, H p = some (.lst xs) := let ⟨_, _, _, h, _⟩ := S.ex; ⟨_, h⟩
theorem Src.ll {H : Hp} {p l : Addr} (S : Src H p l) : ∃ xs, H l = some (.lst xs) := let ⟨_, _, _, _, h, _⟩ := S.ex; ⟨_, h⟩
theorem Src.nep {H : Hp} {p l a : Addr} (S : Src H p l) (h : H a = none) : a ≠ p := let ⟨_, e⟩ := S.pl; (ne_of_none e h).symm
theorem Src.nel {H : Hp} {p l a : Addr} (S : Src H p l) (h : H a = none) : a ≠ l := let ⟨_, e⟩ := S.ll; (ne_of_none e h).symm
/-- a new thing -/
theorem Src.new {H : Hp} {p l a : Addr} {o : HO} (S : Src H p l) (h : H a = none) : Src (upd H a o) p l := S.same (same_new (Same.refl H) h)
/-- a thing that is not the source changes -/
theorem Src.put {H : Hp} {p l a : Addr} {o : HO} (S : Src H p l) (h1 : a ≠ p) (h2 : a ≠ l) : Src (upd H a o) p l := by
  obtain ⟨st, i, ns, e1, e2, e3⟩ := S.ex
  exact ⟨st, i, ns, by rw [upd_ne h1.symm]; exact e1, by rw [upd_ne h2.symm]; exact e2, e3⟩
theorem Keep.new {H H1 : Hp} {p l a : Addr} {o : HO} (k : Keep p l H H1) (h : H a = none) : Keep p l H (upd H1 a o) := fun c u e h1 h2 => by
  rw [upd_ne (ne_of_none e h)]
  exact k c u e h1 h2
theorem Keep.free {H H1 : Hp} {p l a : Addr} (k : Keep p l H H1) (h : H1 a = none) (h1 : a ≠ p) (h2 : a ≠ l) : H a = none := by
  cases q : H a with
  | none => rfl
  | some o =>
    rw [k a o q h1 h2] at h
    cases h
theorem drawL {K : PySem.W.Frag} {tl : TE} {σ : L2.St} {H : Hp} {Q : VK} {p l : Addr} {i : Nat} {vs : List V} {n : Int} (hl : ∀ Q' : VK, (∀ q, H q = none → Q' (.ref q) (upd H q (.lst vs))) → tl σ H Q') (hσ : σ[i]? = some (some (.ref p))) (S : Src H p l) (hn : n = (vs.length : Int)) (h0 : 0 < vs.length) (hb : vs.length < 1000)
    (k : ∀ H' z, z ∈ vs → Src H' p l → Keep p l H H' → Q z H') : tOp (rIxL K) tl (tCall spNext [] E0 (tCons (tVar i) (tCons (tC (.int n)) tNil))) σ H Q := by
  refine hl _ fun q hq => ?_
  refine ⟨_, hσ, p, l, n, rfl, S.new hq, by omega, by omega, fun H' r h1 h2 S' K' => ?_⟩
  have hq' : H' q = some (.lst vs) := K' q _ upd_same (S.nep hq) (S.nel hq)
  obtain ⟨m, rfl⟩ : ∃ m : Nat, r = (m : Int) := ⟨r.toNat, by omega⟩
  have hr : m < vs.length := by omega
  exact ⟨q, vs, _, vs[m], rfl, rfl, SqL.of hq', atI_nat (List.getElem?_eq_getElem hr), k H' _ (List.getElem_mem hr) S' (Keep.trans (Keep.of (same_new (Same.refl H) hq)) K')⟩
/-- one of two texts -/
theorem draw2 {K : PySem.W.Frag} {σ : L2.St} {H : Hp} {Q : VK} {p l : Addr} {i : Nat} {x y : Str} (hσ : σ[i]? = some (some (.ref p))) (S : Src H p l)
    (k : ∀ H' z, z ∈ [x, y] → Src H' p l → Keep p l H H' → Q (.str z) H') : tOp (rIxL K) (tLst (tCons (tC (.str x)) (tCons (tC (.str y)) tNil))) (tCall spNext [] E0 (tCons (tVar i) (tCons (tC (.int 2)) tNil))) σ H Q := by
  refine drawL (vs := [.str x, .str y]) (fun Q' h => ⟨by show 2 ≤ sizeLine; decide, fun q hq => h q hq⟩) hσ S rfl (by show 0 < 2; decide) (by show 2 < 1000; decide) fun H' z hz S' K' => ?_
  rcases List.mem_cons.mp hz with rfl | hz
  · exact k H' x List.mem_cons_self S' K'
  · rw [List.mem_singleton.mp hz]
    exact k H' y (List.mem_cons_of_mem _ List.mem_cons_self) S' K'
end HP

namespace HP
open PySem PySem.Spec PyProof.Rows L2
abbrev sRule : Stmt := top 29
/-! ### _law_rule -/
def polOf (f : Str → Str) : List (Key × V) := partNames.map fun p => (Sum.inr p, V.str (f p))
section
variable {P : Program} {w : World} {K : PySem.W.Frag} {mg : Str → Option Value} {base : Heap}
def spRule : Sp := fun vs H Q _ => ∃ (p l : Addr), vs = [.ref p] ∧ Src H p l ∧ ∀ H' a f, Src H' p l → Keep p l H H' → H a = none → H' a = some (.dK (polOf f)) → (∀ q ∈ partNames, f q ∈ partWords q) → Q (.ref a) H'
theorem scRule : FnScope ["_law_h", "_law_found"] ["_law_h"] (defScope sRule) := ⟨rfl, rfl, rfl, by decide +kernel, rfl, by decide +kernel, by decide +kernel⟩
theorem ok_rule (D : Dat K mg "_law_rule" sRule) (T : Fr mg) (FN : Fn P w K mg base CX0 1 "_law_next" spNext) : Fn P w K mg base CX0 2 "_law_rule" spRule := by
  refine Fn.of0 D scRule (fun _ _ _ _ _ _ us hl => match us, hl with | [_], _ => rfl) (fun vs H Q E h => ?_) (fun f cdv A outer s H vs Q E hr h => ?_)
  · obtain ⟨p, l, rfl, _⟩ := h
    rfl
  · obtain ⟨p, l, rfl, S, k⟩ := h
    refine ⟨_, (pss_cons (ps_set (i := 1) scRule.nd rfl (Or.inl rfl) (pe_disp (pps_cons pe_str (pe_ix (ixL (K := K)) (pe_lst (pa_cons pe_str (pa_cons pe_str pa_nil))) (pf FN hr (by decide) (pa_cons (pv 0) (pa_cons pe_int pa_nil))) (fun _ _ => rfl)) (pps_cons pe_str (pe_ix (ixL (K := K)) (pe_lst (pa_cons pe_str (pa_cons pe_str pa_nil))) (pf FN hr (by decide) (pa_cons (pv 0) (pa_cons pe_int pa_nil))) (fun _ _ => rfl)) pps_nil)) (by rfl) (by rfl) (fun z => by cases z) (by decide)))
      (pss_cons (ps_expr (eBm (K := K) PySem.F.plainAttrs_dict PySem.F.slot_dict_update PySem.F.type_dict_update mt_update (pv 1) (pa_cons (pe_disp (pps_cons pe_str (pe_ix (ixL (K := K)) (pe_lst (pa_cons pe_str (pa_cons pe_str pa_nil))) (pf FN hr (by decide) (pa_cons (pv 0) (pa_cons pe_int pa_nil))) (fun _ _ => rfl)) (pps_cons pe_str (pe_ix (ixL (K := K)) (pe_lst (pa_cons pe_str (pa_cons pe_str pa_nil))) (pf FN hr (by decide) (pa_cons (pv 0) (pa_cons pe_int pa_nil))) (fun _ _ => rfl)) pps_nil)) (by rfl) (by rfl) (fun z => by cases z) (by decide)) pa_nil)))
      (pss_cons (ps_expr (eBm (K := K) PySem.F.plainAttrs_dict PySem.F.slot_dict_update PySem.F.type_dict_update mt_update (pv 1) (pa_cons (pe_disp (pps_cons pe_str (pe_ix (ixL (K := K)) (pe_lst (pa_cons pe_str (pa_cons pe_str pa_nil))) (pf FN hr (by decide) (pa_cons (pv 0) (pa_cons pe_int pa_nil))) (fun _ _ => rfl)) (pps_cons pe_str (pe_ix (ixL (K := K)) (pe_lst (pa_cons pe_str (pa_cons pe_str pa_nil))) (pf FN hr (by decide) (pa_cons (pv 0) (pa_cons pe_int pa_nil))) (fun _ _ => rfl)) pps_nil)) (by rfl) (by rfl) (fun z => by cases z) (by decide)) pa_nil)))
      (pss_one (ps_ret (pv 1)))))), ?_⟩
    intro a ha
    have S0 := S.new (o := .dK []) ha
    have nap := S.nep ha
    have nal := S.nel ha
    refine draw2 rfl S0 fun H1 z1 m1 S1 K1 => ?_
    refine draw2 rfl S1 fun H2 z2 m2 S2 K2 => ?_
    have ha2 : H2 a = some (.dK []) := K2 _ _ (K1 _ _ upd_same nap nal) nap nal
    refine ⟨ha2, [(Sum.inr "asleep", .str z1), (Sum.inr "changing", .str z2)], rfl, (by show 2 ≤ 15; decide), ?_⟩
    generalize eH3 : upd H2 a (.dK (mergeK [] [(Sum.inr "asleep", .str z1), (Sum.inr "changing", .str z2)])) = H3
    have S3 : Src H3 p l := by rw [← eH3]; exact S2.put nap nal
    have ha3 : H3 a = some (.dK (mergeK [] [(Sum.inr "asleep", .str z1), (Sum.inr "changing", .str z2)])) := by rw [← eH3, upd_same]
    have K3 : Keep p l H H3 := by rw [← eH3]; exact Keep.new (Keep.trans (Keep.of (same_new (Same.refl H) ha)) (K1.trans K2)) ha
    refine ⟨_, rfl, .inr (.inr (.inl ⟨rfl, .inl ⟨_, ha3⟩⟩)), fun b hb => ?_⟩
    have nab : a ≠ b := ne_of_none ha3 hb
    have nbp := S3.nep hb
    have nbl := S3.nel hb
    refine draw2 rfl (S3.new hb) fun H4 z3 m3 S4 K4 => ?_
    refine draw2 rfl S4 fun H5 z4 m4 S5 K5 => ?_
    have hb5 : H5 b = some (.dK []) := K5 _ _ (K4 _ _ upd_same nbp nbl) nbp nbl
    have K35 : Keep p l H3 H5 := Keep.trans (Keep.of (same_new (Same.refl H3) hb)) (K4.trans K5)
    have ha5 := K35 _ _ ha3 nap nal
    refine ⟨hb5, [(Sum.inr "count", .str z3), (Sum.inr "first", .str z4)], rfl, (by show 2 ≤ 15; decide), ?_⟩
    refine ⟨a, b, _, _, rfl, rfl, (by rw [upd_ne nab]; exact ha5), upd_same, nab, (by show 2 + 2 ≤ 1000; decide), ?_⟩
    generalize eH6 : upd (upd H5 b (.dK (mergeK [] [(Sum.inr "count", .str z3), (Sum.inr "first", .str z4)]))) a (.dK (mergeK (mergeK [] [(Sum.inr "asleep", .str z1), (Sum.inr "changing", .str z2)]) (mergeK [] [(Sum.inr "count", .str z3), (Sum.inr "first", .str z4)]))) = H6
    have S6 : Src H6 p l := by rw [← eH6]; exact (S5.put nbp nbl).put nap nal
    have ha6 : H6 a = some (.dK (mergeK (mergeK [] [(Sum.inr "asleep", .str z1), (Sum.inr "changing", .str z2)]) (mergeK [] [(Sum.inr "count", .str z3), (Sum.inr "first", .str z4)]))) := by rw [← eH6, upd_same]
    have K6 : Keep p l H H6 := by
      rw [← eH6]
      exact Keep.new (Keep.new (K3.trans K35) (K3.free hb nbp nbl)) ha
    refine ⟨_, rfl, .inr (.inr (.inl ⟨rfl, .inl ⟨_, ha6⟩⟩)), fun e he => ?_⟩
    have nae : a ≠ e := ne_of_none ha6 he
    have nep := S6.nep he
    have nel := S6.nel he
    refine draw2 rfl (S6.new he) fun H7 z5 m5 S7 K7 => ?_
    refine draw2 rfl S7 fun H8 z6 m6 S8 K8 => ?_
    have he8 : H8 e = some (.dK []) := K8 _ _ (K7 _ _ upd_same nep nel) nep nel
    have K68 : Keep p l H6 H8 := Keep.trans (Keep.of (same_new (Same.refl H6) he)) (K7.trans K8)
    have ha8 := K68 _ _ ha6 nap nal
    refine ⟨he8, [(Sum.inr "ring", .str z5), (Sum.inr "sorting", .str z6)], rfl, (by show 2 ≤ 15; decide), ?_⟩
    refine ⟨a, e, _, _, rfl, rfl, (by rw [upd_ne nae]; exact ha8), upd_same, nae, (by show 4 + 2 ≤ 1000; decide), ?_⟩
    refine ⟨_, rfl, ?_⟩
    let f : Str → Str := fun q => if q = "asleep" then z1 else if q = "changing" then z2 else if q = "count" then z3 else if q = "first" then z4 else if q = "ring" then z5 else z6
    refine k _ a f ((S8.put nep nel).put nap nal) (Keep.new (Keep.new (K6.trans K68) (K6.free he nep nel)) ha) ha ?_ ?_
    · rw [upd_same]
      rfl
    · intro q hq
      have hq' : q = "asleep" ∨ q = "changing" ∨ q = "count" ∨ q = "first" ∨ q = "ring" ∨ q = "sorting" := by
        simp only [partNames, List.mem_cons, List.not_mem_nil, or_false] at hq
        exact hq
      rcases hq' with rfl | rfl | rfl | rfl | rfl | rfl
      · exact m1
      · exact m2
      · exact m3
      · exact m4
      · exact m5
      · exact m6
end
end HP

namespace HP
open PySem PySem.Spec PyProof.Rows L2
abbrev sScene : Stmt := top 30
/-! ### _law_scene -/
theorem erase_map {α β : Type} (f : α → β) : ∀ (l : List α) (i : Nat), (l.map f).eraseIdx i = (l.eraseIdx i).map f
  | [], _ => rfl
  | x :: l, 0 => rfl
  | x :: l, i + 1 => by
    rw [List.map_cons, List.eraseIdx_cons_succ, List.eraseIdx_cons_succ, List.map_cons, erase_map f l i]
def fourNames : List Str := ["a", "c", "b", "dd"]
/-- what _law_scene draws -/
structure Drawn4 (names : List Str) (many : Int) (f : Str → Str) (words : List Str) (m w : Int) : Prop where
  nm : ∃ k : Nat, 2 ≤ k ∧ k ≤ 4 ∧ names = fourNames.take k
  m1 : 1 ≤ many
  m2 : many ≤ m
  rl : ∀ q ∈ partNames, f q ∈ partWords q
  ws : ∀ x ∈ words, x ∈ allWords
  wn : words.Nodup
  wp : words.Pairwise leS
  wl : (words.length : Int) ≤ w
/-- the list that it returns -/
structure Five (H : Hp) (a : Addr) (names : List Str) (many : Int) (f : Str → Str) (words : List Str) : Prop where
  ex : ∃ n r t e : Addr, H a = some (.lst [.ref n, .int many, .ref r, .ref t, .ref e]) ∧ H n = some (.tup (names.map V.str)) ∧ H r = some (.dK (polOf f)) ∧ H t = some (.tup (words.map V.str)) ∧ H e = some (.dK [])
section
variable {P : Program} {w : World} {K : PySem.W.Frag} {mg : Str → Option Value} {base : Heap}
def spScene : Sp := fun vs H Q _ => ∃ (p l : Addr) (t m n : Int), vs = [.ref p, .int t, .int m, .int n] ∧ Src H p l ∧ 2 ≤ t ∧ t ≤ 4 ∧ 1 ≤ m ∧ m ≤ 3 ∧ 1 ≤ n ∧ n ≤ 9 ∧
  ∀ H' a names many f words, Src H' p l → Keep p l H H' → H a = none → Five H' a names many f words → Drawn4 names many f words m n → Q (.ref a) H'
theorem scScene : FnScope ["_law_h", "_law_things", "_law_many", "_law_few", "_law_names", "_law_every", "_law_some", "_law_turn"] ["_law_h", "_law_things", "_law_many", "_law_few"] (defScope sScene) := ⟨rfl, rfl, rfl, by decide +kernel, rfl, by decide +kernel, by decide +kernel⟩
theorem ok_scene (D : Dat K mg "_law_scene" sScene) (T : Fr mg) (FN : Fn P w K mg base CX0 1 "_law_next" spNext) (FR : Fn P w K mg base CX0 2 "_law_rule" spRule) : Fn P w K mg base CX0 3 "_law_scene" spScene := by
  refine Fn.of0 D scScene (fun _ _ _ _ _ _ us hl => match us, hl with | [_, _, _, _], _ => rfl) (fun vs H Q E h => ?_) (fun f cdv A outer s H vs Q E hr h => ?_)
  · obtain ⟨p, l, t, m, n, rfl, _⟩ := h
    rfl
  · obtain ⟨p, l, t, m, n, rfl, S, ht1, ht2, hm1, hm2, hn1, hn2, k⟩ := h
    refine ⟨_, (pss_cons (ps_set (i := 4) scScene.nd rfl (Or.inl rfl) (pe_slice (slL (K := K)) (pe_lst (pa_cons pe_str (pa_cons pe_str (pa_cons pe_str (pa_cons pe_str pa_nil))))) po_none (po_some (pe_op op_add pe_int (pf FN hr (by decide) (pa_cons (pv 0) (pa_cons (pe_op op_sub (pv 1) pe_int) pa_nil)))))))
      (pss_cons (ps_set (i := 5) scScene.nd rfl (Or.inr rfl) (pe_lst (pa_cons pe_str (pa_cons pe_str (pa_cons pe_str (pa_cons pe_str (pa_cons pe_str (pa_cons pe_str (pa_cons pe_str (pa_cons pe_str (pa_cons pe_str pa_nil)))))))))))
      (pss_cons (ps_setLc (i := 6) (own := [("_law_turn", 7)]) (g := gName 7) (by rfl) scScene.nd rfl rfl (sw_true rfl rfl rfl (by decide +kernel)) (pi_range1 (by rfl) (T.fr "range" (by decide +kernel)) (pa_cons (pe_op op_add pe_int (pf FN hr (by decide) (pa_cons (pv 0) (pa_cons (pv 3) pa_nil)))) pa_nil)) (blkOk_by (own := [("_law_turn", 7)]) (N := ["_law_h", "_law_things", "_law_many", "_law_few", "_law_names", "_law_every", "_law_some", "_law_turn"]) (sc := defScope sScene) (by decide +kernel)) (fun _ _ _ _ _ => (pg_name (i := 7) scScene.nd rfl (Or.inl rfl))) (fun _ _ _ _ _ => pts_nil) (fun _ _ _ _ _ => (eBm (K := K) PySem.F.plainAttrs_list PySem.F.slot_list_pop PySem.F.type_list_pop mt_popAt (pv 5) (pa_cons (pf FN hr (by decide) (pa_cons (pv 0) (pa_cons (pe_callB (kLen (K := K)) (by rfl) (T.fr "len" (by decide +kernel)) (by decide +kernel) (pa_cons (pv 5) pa_nil)) pa_nil))) pa_nil))))
      (pss_one (ps_ret (pe_lst (pa_cons (pe_callTy (kTup (K := K)) (by rfl) (T.fr "tuple" (by decide +kernel)) (by decide +kernel) (pa_cons (pv 4) pa_nil)) (pa_cons (pe_op op_add pe_int (pf FN hr (by decide) (pa_cons (pv 0) (pa_cons (pv 2) pa_nil)))) (pa_cons (pf FR hr (by decide) (pa_cons (pv 0) pa_nil)) (pa_cons (pe_callTy (kTup (K := K)) (by rfl) (T.fr "tuple" (by decide +kernel)) (by decide +kernel) (pa_cons (pe_callB (kSortS (K := K)) (by rfl) (T.fr "sorted" (by decide +kernel)) (by decide +kernel) (pa_cons (pv 6) pa_nil)) pa_nil)) (pa_cons pe_dnewK pa_nil))))))))))), ?_⟩
    -- names
    refine ⟨(by show 4 ≤ sizeLine; decide), fun q0 hq0 => ?_⟩
    have S0 := S.new (o := .lst (fourNames.map V.str)) hq0
    refine ⟨_, rfl, _, rfl, _, _, rfl, rfl, p, l, t - 1, rfl, S0, by omega, by omega, fun H1 r hr0 hr1 S1 K1 => ?_⟩
    have K1' : Keep p l H H1 := Keep.trans (Keep.of (same_new (Same.refl H) hq0)) K1
    have hq1 : H1 q0 = some (.lst (fourNames.map V.str)) := K1 _ _ upd_same (S.nep hq0) (S.nel hq0)
    obtain ⟨kn, hk1, hk2, hcut⟩ : ∃ kn : Nat, 2 ≤ kn ∧ kn ≤ 4 ∧ cutV (fourNames.map V.str) none (some (2 + r)) = (fourNames.take kn).map V.str := by
      have h3 : r = 0 ∨ r = 1 ∨ r = 2 := by omega
      rcases h3 with rfl | rfl | rfl
      · exact ⟨2, by decide, by decide, rfl⟩
      · exact ⟨3, by decide, by decide, rfl⟩
      · exact ⟨4, by decide, by decide, rfl⟩
    refine ⟨_, _, rfl, rfl, _, rfl, q0, _, rfl, SqL.of hq1, fun nl hnl => ?_⟩
    rw [hcut]
    have S2 := S1.new (o := .lst ((fourNames.take kn).map V.str)) hnl
    have nnp := S1.nep hnl
    have nnl := S1.nel hnl
    generalize eH2 : upd H1 nl (.lst ((fourNames.take kn).map V.str)) = H2 at S2
    have hnl2 : H2 nl = some (.lst ((fourNames.take kn).map V.str)) := by rw [← eH2, upd_same]
    have K2 : Keep p l H H2 := by rw [← eH2]; exact Keep.new K1' (K1'.free hnl nnp nnl)
    -- every
    refine ⟨(by show 9 ≤ sizeLine; decide), fun ev hev => ?_⟩
    have nep := S2.nep hev
    have nel := S2.nel hev
    have nen : nl ≠ ev := ne_of_none hnl2 hev
    have S3 := S2.new (o := .lst (allWords.map V.str)) hev
    have hev3 : upd H2 ev (.lst (allWords.map V.str)) ev = some (.lst (allWords.map V.str)) := upd_same
    have K3 : Keep p l H (upd H2 ev (.lst (allWords.map V.str))) := Keep.new K2 (K2.free hev nep nel)
    have hnl3 : upd H2 ev (.lst (allWords.map V.str)) nl = some (.lst ((fourNames.take kn).map V.str)) := by rw [upd_ne nen]; exact hnl2
    have fev : H ev = none := K2.free hev nep nel
    show tSeq _ _ _ _ (upd H2 ev (.lst (allWords.map V.str)))
    generalize upd H2 ev (.lst (allWords.map V.str)) = H3 at S3 hev3 K3 hnl3
    -- some
    refine ⟨_, rfl, _, rfl, p, l, n, rfl, S3, by omega, by omega, fun H4 r2 hr20 hr21 S4 K4 => ?_⟩
    have K4' := K3.trans K4
    have hev4 := K4 _ _ hev3 nep nel
    have hnl4 := K4 _ _ hnl3 nnp nnl
    refine ⟨_, _, rfl, rfl, 1 + r2, rfl, by omega, by omega, fun D hD => ?_⟩
    have nDp := S4.nep hD
    have nDl := S4.nel hD
    have nDe : ev ≠ D := ne_of_none hev4 hD
    refine lc_range (lo := 0) (n := (1 + r2).toNat) (fun i H5 => ∃ tk rs : List Str, Src H5 p l ∧ (∀ c o, H4 c = some o → c ≠ p → c ≠ l → c ≠ ev → H5 c = some o) ∧ H5 ev = some (.lst (rs.map V.str)) ∧ H5 D = some (.lst (tk.map V.str)) ∧ (tk ++ rs).Perm allWords ∧ tk.length = i) ⟨[], allWords, S4.new hD, fun c o e _ _ _ => by rw [upd_ne (ne_of_none e hD)]; exact e, by rw [upd_ne nDe]; exact hev4, upd_same, List.Perm.refl _, rfl⟩ ?_ ?_
    · rintro i H5 hi ⟨tk, rs, S5, F5, he5, hD5, pm, htk⟩
      refine ⟨rfl, ?_⟩
      refine lc_yes ?_
      have hlen : tk.length + rs.length = 9 := by
        have := pm.length_eq
        rw [List.length_append] at this
        exact this
      refine ⟨_, rfl, .inl ⟨rfl, _, SqL.of he5⟩, ?_⟩
      refine ⟨_, rfl, _, rfl, ev, _, rfl, .inl (SqL.of he5), p, l, _, rfl, S5, by rw [List.length_map]; omega, by rw [List.length_map]; omega, fun H6 r3 h30 h31 S6 K6 => ?_⟩
      rw [List.length_map] at h31
      obtain ⟨m3, rfl⟩ : ∃ m : Nat, r3 = (m : Int) := ⟨r3.toNat, by omega⟩
      have hm3 : m3 < rs.length := by omega
      have he6 := K6 _ _ he5 nep nel
      have hD6 := K6 _ _ hD5 nDp nDl
      refine ⟨ev, rs.map V.str, _, m3, .str rs[m3], rfl, rfl, he6, by omega, by omega, ?_, ?_, ?_⟩
      · unfold seqIndex?
        rw [List.length_map]
        have h0 : ¬ ((m3 : Int) < 0) := by omega
        have h1 : (0 : Int) ≤ m3 := by omega
        have h2 : (m3 : Int) < rs.length := by omega
        simp [h0, h1, h2, hm3]
      · rw [List.getElem?_map, List.getElem?_eq_getElem hm3]
        rfl
      · refine ⟨tk.map V.str, by rw [upd_ne nDe.symm]; exact hD6, ?_, tk ++ [rs[m3]], rs.eraseIdx m3, ?_, fun c o e h1 h2 h3 => ?_, ?_, ?_, ?_, ?_⟩
        · rw [List.length_map]
          exact Nat.lt_of_le_of_lt (show tk.length ≤ 9 by omega) (by decide)
        · exact (S6.put nep nel).put nDp nDl
        · rw [upd_ne (ne_of_none e hD), upd_ne h3]
          exact K6 c o (F5 c o e h1 h2 h3) h1 h2
        · rw [upd_ne nDe, upd_same, erase_map]
        · rw [upd_same, List.map_append]
          rfl
        · refine List.Perm.trans ?_ pm
          rw [List.append_assoc]
          refine List.Perm.append_left tk ?_
          exact (erase_perm rs m3 rs[m3] (List.getElem?_eq_getElem hm3))
        · rw [List.length_append, htk]
          rfl
    · rintro H5 ⟨tk, rs, S5, F5, he5, hD5, pm, htk⟩
      have nDn : nl ≠ D := ne_of_none hnl4 hD
      have hnl5 : H5 nl = some (.lst ((fourNames.take kn).map V.str)) := F5 _ _ hnl4 nnp nnl nen
      have K5 : Keep p l H H5 := fun c o e h1 h2 => F5 c o (K4' c o e h1 h2) h1 h2 (ne_of_none e fev)
      have htl : tk.length ≤ 9 := by
        have := pm.length_eq
        rw [List.length_append] at this
        have e9 : allWords.length = 9 := rfl
        omega
      -- tuple(names)
      refine ⟨_, rfl, nl, _, rfl, .inl ⟨SqL.of hnl5, fun nt hnt => ?_⟩⟩
      have S6 := S5.new (o := .tup ((fourNames.take kn).map V.str)) hnt
      have ntp := S5.nep hnt
      have ntl := S5.nel hnt
      have K6 : Keep p l H (upd H5 nt (.tup ((fourNames.take kn).map V.str))) := Keep.new K5 (K5.free hnt ntp ntl)
      have hnt6 : upd H5 nt (.tup ((fourNames.take kn).map V.str)) nt = some (.tup ((fourNames.take kn).map V.str)) := upd_same
      have hD6 : upd H5 nt (.tup ((fourNames.take kn).map V.str)) D = some (.lst (tk.map V.str)) := by rw [upd_ne (ne_of_none hD5 hnt)]; exact hD5
      generalize upd H5 nt (.tup ((fourNames.take kn).map V.str)) = H6 at S6 K6 hnt6 hD6 ⊢
      -- 1 + next(h, many)
      refine ⟨_, rfl, _, rfl, p, l, m, rfl, S6, by omega, by omega, fun H7 r4 h40 h41 S7 K7 => ⟨_, _, rfl, rfl, ?_⟩⟩
      have K7' := K6.trans K7
      have hnt7 := K7 _ _ hnt6 ntp ntl
      have hD7 := K7 _ _ hD6 nDp nDl
      -- rule
      refine ⟨_, rfl, p, l, rfl, S7, fun H8 ra f S8 K8 hra hra8 hf => ?_⟩
      have K8' := K7'.trans K8
      have nrp := S7.nep hra
      have nrl := S7.nel hra
      have hnt8 := K8 _ _ hnt7 ntp ntl
      have hD8 := K8 _ _ hD7 nDp nDl
      -- tuple(sorted(some))
      refine ⟨_, rfl, D, tk, rfl, SqL.of hD8, by omega, fun ys q py sy hq => ?_⟩
      refine ⟨q, _, rfl, .inl ⟨SqL.of upd_same, fun wt hwt => ?_⟩⟩
      have nqw : q ≠ wt := fun e => by rw [← e, upd_same] at hwt; cases hwt
      rw [upd_ne nqw.symm] at hwt
      have nqp := S8.nep hq
      have nql := S8.nel hq
      have nwp := S8.nep hwt
      have nwl := S8.nel hwt
      have s9 : Same H8 (upd (upd H8 q (.lst (ys.map V.str))) wt (.tup (ys.map V.str))) := same_new (same_new (Same.refl H8) hq) (by rw [upd_ne nqw.symm]; exact hwt)
      have S9 := S8.same s9
      have K9 : Keep p l H (upd (upd H8 q (.lst (ys.map V.str))) wt (.tup (ys.map V.str))) := Keep.trans K8' (Keep.of s9)
      have hnt9 := s9 _ _ hnt8
      have hra9 := s9 _ _ hra8
      have hwt9 : upd (upd H8 q (.lst (ys.map V.str))) wt (.tup (ys.map V.str)) wt = some (.tup (ys.map V.str)) := upd_same
      generalize upd (upd H8 q (.lst (ys.map V.str))) wt (.tup (ys.map V.str)) = H9 at s9 S9 K9 hnt9 hra9 hwt9 ⊢
      -- {}
      intro e he
      have nep' := S9.nep he
      have nel' := S9.nel he
      refine ⟨(by show 5 ≤ sizeLine; decide), fun a ha => ?_⟩
      have nea : e ≠ a := fun z => by rw [← z, upd_same] at ha; cases ha
      have ha9 : H9 a = none := by rw [upd_ne nea.symm] at ha; exact ha
      have nap := S9.nep ha9
      have nal := S9.nel ha9
      have s10 : Same H9 (upd (upd H9 e (.dK [])) a (.lst [.ref nt, .int (1 + r4), .ref ra, .ref wt, .ref e])) := same_new (same_new (Same.refl H9) he) ha
      refine k _ a (fourNames.take kn) (1 + r4) f ys (S9.same s10) (Keep.trans K9 (Keep.of s10)) (K9.free ha9 nap nal) ⟨nt, ra, wt, e, upd_same, s10 _ _ hnt9, s10 _ _ hra9, s10 _ _ hwt9, ?_⟩ ⟨⟨kn, hk1, hk2, rfl⟩, by omega, by omega, hf, ?_, ?_, sortedS_iff.mp sy, ?_⟩
      · rw [upd_ne nea, upd_same]
      · intro x hx
        exact pm.mem_iff.mp (List.mem_append_left _ (py.mem_iff.mp hx))
      · have nd : (tk ++ rs).Nodup := pm.nodup_iff.mpr (by decide +kernel)
        exact py.nodup_iff.mpr (List.nodup_append.mp nd).1
      · rw [py.length_eq, htk]
        omega
end
end HP

namespace HP
open PySem PySem.Spec PyProof.Rows L2 SlX
/-! ### dicts by the parts' names -/
def dicV (g : Str → V) : List (Key × V) := partNames.map fun q => (Sum.inr q, g q)
def dicD (d : Str → PyData) : List (Key × PyData) := partNames.map fun q => (Sum.inr q, d q)
theorem putK_dic {g : Str → V} {p : Str} {v : V} (hp : p ∈ partNames) : putK (dicV g) (Sum.inr p) v = dicV (fun q => if q = p then v else g q) := by
  have h : (dicV g).any (fun kv => decide (kv.1 = Sum.inr p)) = true := by
    unfold dicV
    rw [List.any_map, List.any_eq_true]
    exact ⟨p, hp, decide_eq_true rfl⟩
  unfold putK
  rw [if_pos h]
  unfold dicV
  rw [List.map_map]
  refine List.map_congr_left fun q _ => ?_
  show (if (Sum.inr q : Key) = Sum.inr p then ((Sum.inr q : Key), v) else (Sum.inr q, g q)) = (Sum.inr q, if q = p then v else g q)
  by_cases e : q = p
  · rw [if_pos (by rw [e]), if_pos e]
  · rw [if_neg (fun z => e (Sum.inr.inj z)), if_neg e]
theorem valV_map (g : Str → V) (p : Str) : ∀ l : List Str, valV (l.map fun q => ((Sum.inr q : Key), g q)) (Sum.inr p) = if p ∈ l then some (g p) else none
  | [] => rfl
  | z :: l => by
    have ih := valV_map g p l
    unfold valV at ih ⊢
    rw [List.map_cons, List.find?_cons]
    by_cases hz : z = p
    · subst hz
      rw [show decide ((Sum.inr z : Key) = Sum.inr z) = true from decide_eq_true rfl, if_pos List.mem_cons_self]
      rfl
    · rw [show decide ((Sum.inr z : Key) = Sum.inr p) = false from decide_eq_false fun q => hz (Sum.inr.inj q)]
      have e : (p ∈ z :: l) ↔ p ∈ l := ⟨fun h => (List.mem_cons.mp h).resolve_left fun q => hz q.symm, List.mem_cons_of_mem _⟩
      simp only [e]
      exact ih
theorem valD_dic {d : Str → PyData} {p : Str} (hp : p ∈ partNames) : valD (dicD d) (Sum.inr p) = some (d p) := by
  unfold dicD
  generalize partNames = l at hp
  induction l with
  | nil => cases hp
  | cons z l ih =>
    unfold valD
    rw [List.map_cons, List.find?_cons]
    by_cases hz : z = p
    · subst hz
      rw [show decide ((Sum.inr z : Key) = Sum.inr z) = true from decide_eq_true rfl]
      rfl
    · rw [show decide ((Sum.inr z : Key) = Sum.inr p) = false from decide_eq_false fun q => hz (Sum.inr.inj q)]
      rcases List.mem_cons.mp hp with h | h
      · exact absurd h.symm hz
      · exact ih h
theorem sorted_parts : partNames.Pairwise leS := by
  have h : sortedS partNames = true := by decide +kernel
  exact sortedS_iff.mp h
theorem keys_dic (d : Str → PyData) : (dicD d).map (·.1) = partNames.map Sum.inr := by
  unfold dicD
  rw [List.map_map]
  rfl
theorem txts_dic (d : Str → PyData) : ((dicD d).map (·.1)).map txt = partNames := by
  rw [keys_dic, List.map_map]
  exact List.map_id _
theorem faultD_dic (d : Str → PyData) : faultD (dicD d) = partNames.find? fun p => !goodPart p (some (d p)) := by
  unfold faultD
  have h1 : ((dicD d).map (·.1)).all isTxt = true := by
    rw [keys_dic, List.all_map]
    exact List.all_eq_true.mpr fun _ _ => rfl
  rw [if_pos h1, txts_dic, if_pos (srtS_self sorted_parts)]
  have all : ∀ l : List Str, (∀ p ∈ l, p ∈ partNames) → l.find? (fun p => !goodPart p (valD (dicD d) (Sum.inr p))) = l.find? (fun p => !goodPart p (some (d p))) := by
    intro l
    induction l with
    | nil => intro _; rfl
    | cons z l ih =>
      intro h
      rw [List.find?_cons, List.find?_cons, valD_dic (h z List.mem_cons_self), ih fun p hp => h p (List.mem_cons_of_mem _ hp)]
  exact all partNames fun _ h => h
theorem dicP {K : PySem.W.Frag} {H : Hp} {g : Str → V} {d : Str → PyData} (h : ∀ p ∈ partNames, Dp K H (g p) (d p)) : Paired (fun (p : Key × V) (q : Key × PyData) => p.1 = q.1 ∧ Dp K H p.2 q.2) (dicV g) (dicD d) := by
  unfold dicV dicD
  generalize partNames = l at h
  induction l with
  | nil => exact .nil
  | cons z l ih => exact .cons ⟨rfl, h z List.mem_cons_self⟩ (ih fun p hp => h p (List.mem_cons_of_mem _ hp))
/-- a scene that stands -/
structure GoodSc (s : Sc) : Prop where
  nm : isThingsL (s.names.map .str) = true
  m1 : 1 ≤ s.many
  m2 : s.many ≤ 3
  rl : ∀ p ∈ partNames, s.word p ∈ partWords p
  ws : isWordsD (.tuple (s.words.map .str)) = true
  wl : s.words.length < 64
theorem GoodSc.many {s : Sc} (g : GoodSc s) : isManyD (.int s.many) = true := by
  show (decide (1 ≤ s.many) && decide (s.many ≤ 3)) = true
  rw [decide_eq_true g.m1, decide_eq_true g.m2]
  rfl
theorem map_strOf (xs : List Str) : (xs.map PyData.str).map strOf = xs := by
  rw [List.map_map]
  exact List.map_id _
theorem GoodSc.small {s : Sc} (g : GoodSc s) : Small (.tuple (s.names.map .str)) := fun ds e x hx => by
  cases e
  have h := g.nm
  unfold isThingsL at h
  rw [Bool.and_eq_true, Bool.and_eq_true, Bool.and_eq_true] at h
  have h2 := List.all_eq_true.mp h.2.2.1 _ hx
  have h3 : (decide (1 ≤ (x.length : Int)) && (decide ((x.length : Int) ≤ 8) && x.cps.toList.all isLet)) = true := h2
  rw [Bool.and_eq_true, Bool.and_eq_true] at h3
  have := of_decide_eq_true h3.2.1
  omega
section
variable {P : Program} {w : World} {K : PySem.W.Frag} {mg : Str → Option Value} {base : Heap}
theorem Raised.same {c : Cls4} {H H1 : Hp} {E : XK} {f : Fault} (s : Same H H1) (h : Raised c H E f) : Raised c H1 E f := by
  cases f with
  | things => exact fun H' e => h H' (s.trans e)
  | values => exact fun H' e => h H' (s.trans e)
  | rule p => exact fun H' d e hd => h H' d (s.trans e) (s.free hd)
  | words => exact fun H' e => h H' (s.trans e)
theorem ScArgs.same {H H1 : Hp} {vT vM vR vW : V} {dT dM dW : PyData} {r : Option (List (Key × PyData))} (s : Same H H1) (a : ScArgs K H vT vM vR vW dT dM r dW) : ScArgs K H1 vT vM vR vW dT dM r dW :=
  ⟨Dp.same s _ a.ht, a.hts, Dp.same s _ a.hm, by
    cases a.hr with
    | dat h => exact .dat (Dp.same s _ h)
    | dic h =>
      obtain ⟨kvs, ha, hp⟩ := h
      exact .dic ⟨kvs, s _ _ ha, Paired.mapP hp fun a b q => ⟨q.1, Dp.same s _ q.2⟩⟩, a.hrs, Dp.same s _ a.hw, a.hws⟩
/-- Scene(..), at the new instance -/
theorem scene_use {C x dx : Addr} {c : Cls4} {H : Hp} {Q : VK} {E : XK} {vT vM vR vW : V} {dT dM dW : PyData} {r : Option (List (Key × PyData))} (nx : H x = none) (ndx : H dx = none) (ne : dx ≠ x) (ar : ScArgs K H vT vM vR vW dT dM r dW)
    (kQ : sceneFault dT dM r dW = none → ∀ H', Same H H' → SceneAt K C H' x (scOf dT dM r dW) → Q (.ref x) H') (kE : ∀ f, sceneFault dT dM r dW = some f → Raised c H E f) :
    spInit K C c [.ref x, vT, vM, vR, vW] (upd (upd H dx (.own x)) x (.ins C dx [])) (fun v H2 => v = .non ∧ Q (.ref x) H2) E := by
  have s0 : Same H (upd (upd H dx (.own x)) x (.ins C dx [])) := same_mut (same_mut (Same.refl H) ndx) nx
  refine ⟨x, dx, vT, vM, vR, vW, dT, dM, r, dW, rfl, upd_same, by rw [upd_ne ne, upd_same], ne, ar.same s0, fun h H' fr st => ⟨rfl, kQ h H' (fun b o e => fr b o (s0 b o e) (ne_of_none e nx) (ne_of_none e ndx)) st⟩, fun f h => (kE f h).same s0⟩
/-- the class Scene can be called -/
def ScMk (P : Program) (w : World) (K : PySem.W.Frag) (mg : Str → Option Value) (base : Heap) (C : Addr) (c : Cls4) : Prop :=
  ∃ (fI : Addr) (fd : FuncData), mg "Scene" = some (.ref C) ∧ Mk K C fI ∧ Binds K fd ["self", "things", "many", "rule", "words"] [] ∧ FnOk P w K mg base (L2.CX P w) 4 fI fd ["self", "things", "many", "rule", "words"] (spInit K C c)
theorem peScene {X : Cx} {C : Addr} {c : Cls4} {n : Nat} {e : Expr} {es : List Expr} {t : TA} {p pos : Pos} {E : XK} (M : ScMk X.prog X.w X.K X.mg X.base C c) (hr : Room n X.A) (hn : 5 ≤ n) (hx : Passes (L2.CX X.prog X.w) X E) (ha : PA X (e :: es) t) (hg : Gl X "Scene" := by rfl)
    (he : starEach (e :: es) X.env = (false, eval e X.env) :: starEach es X.env := by rfl) (hpl : (backTo pos (starEach es X.env)).any (·.1) = false := by rfl) (hK : X.K = K := by rfl) : PE X (.Call (.Name "Scene" p) (e :: es) [] pos) (tMake C (spInit K C c) [] E t) := by
  subst hK
  obtain ⟨fI, fd, h1, h2, h3, h4⟩ := M
  exact pe_make h2 h4 (hr.mono hn) hg h1 h3 .nil hx ha (by decide) he hpl
theorem Sc.pol_congr {s t : Sc} (h : ∀ p ∈ partNames, s.word p = t.word p) : s.pol = t.pol := by
  unfold Sc.pol
  exact List.map_congr_left fun p hp => by rw [h p hp]
theorem SceneAt.congr {K : PySem.W.Frag} {C a : Addr} {H : Hp} {s t : Sc} (h : SceneAt K C H a s) (h1 : s.names = t.names) (h2 : s.many = t.many) (h3 : s.words = t.words) (h4 : ∀ p ∈ partNames, s.word p = t.word p) : SceneAt K C H a t := by
  obtain ⟨dx, n, q, y, a1, a2, a3, a4⟩ := h
  refine ⟨dx, n, q, y, ?_, ?_, ?_, ?_⟩
  · rw [← h2]; exact a1
  · rw [← h1]; exact a2
  · rw [← Sc.pol_congr h4]; exact a3
  · rw [← h3]; exact a4
/-- what is kept of a rule's words -/
theorem polD {K : PySem.W.Frag} {H : Hp} (s : Sc) : ∀ p ∈ partNames, Dp K H (V.str (s.word p)) (.str (s.word p)) := fun p _ => .str _
end
end HP

namespace HP
open PySem PySem.Spec PyProof.Rows L2
/-! ### raise x(e, e2) -/
def spInit2 (C : Addr) (f g : Str) : Sp := fun vs H Q _ => ∃ (a : Addr) (y z : V), vs = [.ref a, y, z] ∧ H a = some (exo a C none) ∧
  ∀ dx, H dx = none → dx ≠ a → Q .non (upd (upd (upd H dx (exd dx [(f, y)])) a (exo a C (some dx))) dx (exd dx [(g, z), (f, y)]))
section
variable {X : Cx} {C : Addr} {x f : Str} {e : Expr} {te : TE} {W : WX} {p pos pos2 : Pos}
def tRaise2 (C : Addr) (f g : Str) (W : WX) (te tu : TE) : TS := fun _ σ H => te σ H fun v H1 => tu σ H1 fun z H2 => ∀ d, H2 d = none → W (.ref C) (some d) σ (upd H2 d (.xd [(g, z), (f, v)]))
theorem ps_raise2 {e2 : Expr} {f g : Str} {te tu : TE} {n : Nat} (T : Exc1 X.prog X.w X.K X.mg X.base x C f (spInit2 C f g)) (hc : X.calm = true) (hr : Room n X.A) (hn : 2 ≤ n) (tk : Takes X W) (he : PE X e te) (hu : PE X e2 tu)
    (m1 : ∀ σ H (A B : VK), (∀ v H, A v H → B v H) → te σ H A → te σ H B) (m2 : ∀ σ H (A B : VK), (∀ v H, A v H → B v H) → tu σ H A → tu σ H B) (hg : Gl X x := by rfl) (hdb : (x == ("__debug__" : Str)) = false := by decide)
    (hs : starEach [e, e2] X.env = (false, eval e X.env) :: starEach [e2] X.env := by rfl) (hs2 : starEach [e2] X.env = (false, eval e2 X.env) :: starEach [] X.env := by rfl) (hpl : (backTo pos (starEach [e2] X.env)).any (·.1) = false := by rfl) :
    PS X (.Raise (some (.Call (.Name x p) [e, e2] [] pos)) none pos2) (tRaise2 C f g W te tu) := by
  obtain ⟨fI, fd, ps, iC, tI, hb, F1⟩ := T.fn
  have R := ps_raise (pos := pos2) hc tk (pmk_oex (pos := pos) (p := p) T.oc iC tI F1 (hr.mono hn) hb .nil (fun _ _ _ _ _ _ _ h => h.elim) hg T.gC (pa_cons he (pa_cons hu pa_nil hs2) hs) hdb hs hpl)
  refine ⟨fun pins s σ H D I h => R.run pins s σ H D I (m1 σ H _ _ (fun v H1 h1 => m2 σ H1 _ _ (fun z H2 q => ?_) h1) h)⟩
  refine ⟨by show 2 ≤ 1000; decide, fun a ha => ⟨a, v, z, rfl, upd_same, fun dx hdx nda => ⟨rfl, dx, [(g, z), (f, v)], by rw [upd_ne nda.symm, upd_same], upd_same, ?_, ?_⟩⟩⟩
  · rw [upd_ne nda] at hdx
    exact hdx
  · rw [upd_ne nda] at hdx
    have ee : upd (del (upd (upd (upd (upd H2 a (exo a C none)) dx (exd dx [(f, v)])) a (exo a C (some dx))) dx (exd dx [(g, z), (f, v)])) a) dx (.xd [(g, z), (f, v)]) = upd H2 dx (.xd [(g, z), (f, v)]) := by
      funext b
      by_cases h1 : b = dx
      · rw [h1, upd_same, upd_same]
      · by_cases h2 : b = a
        · rw [upd_ne h1, upd_ne h1, h2, del_same]; exact ha.symm
        · rw [upd_ne h1, upd_ne h1, del_ne h2, upd_ne h1, upd_ne h2, upd_ne h1, upd_ne h2]
    rw [ee]
    exact q dx hdx
end
def MonoE (te : TE) : Prop := ∀ (σ : L2.St) (H : Hp) (A B : VK), (∀ v H, A v H → B v H) → te σ H A → te σ H B
theorem mono_fld {K : PySem.W.Frag} {ta : TE} {f : Str} (h : MonoE ta) : MonoE (tFld K ta f) := fun σ H A B hab q =>
  h σ H _ _ (fun x H1 ⟨a, C, dx, fs, v, e1, e2, e3, e4, e5, e6⟩ => ⟨a, C, dx, fs, v, e1, e2, e3, e4, e5, hab _ _ e6⟩) q
theorem mono_add {ta tb : TE} (h : MonoE ta) (k : MonoE tb) : MonoE (tOp rAdd ta tb) := fun σ H A B hab q =>
  h σ H _ _ (fun x H1 q1 => k σ H1 _ _ (fun y H2 ⟨i, j, e1, e2, e3⟩ => ⟨i, j, e1, e2, hab _ _ e3⟩) q1) q
/-! ### *d of a dict of the written part -/
section
variable {X : Cx} {d : Addr} {kvs : List (Key × V)} {e : Expr} {es : List Expr} {te : TE} {t : TA} {p : Pos}
def tStarW (d : Addr) (kvs : List (Key × V)) (te : TE) (t : TA) : TA := fun σ H Q => te σ H fun x H1 => x = V.ref d ∧ t σ H1 fun ys H2 => Q ((kvs.map fun kv => kV kv.1) ++ ys) H2
theorem pa_starW (D : WD X.prog X.w X.K d kvs) (hz : kvs.length ≤ 1000) (hc : X.calm = true) (he : PE X e te) (hr : PA X es t) (hs : starEach (.Starred e p :: es) X.env = (true, eval e X.env) :: starEach es X.env := by rfl) : PA X (.Starred e p :: es) (tStarW d kvs te t) := by
  refine ⟨fun pos pins s σ H Q I h => ?_⟩
  refine PySem.W.items_star (thn (he.run pins s σ H _ I h) fun v s1 ⟨y, H1, I1, ry, ey, q⟩ => ?_) hs
  subst ey
  obtain rfl : v = Value.ref d := ry
  obtain ⟨o, es', ep, vs, ho, hx, hdt, hsz, rk, hat⟩ := D.got I1
  have hl : kvs.length = vs.length := Paired.length rk
  have z : kvs.length ≤ sizeLine := Nat.le_trans hz (by decide)
  have hT : s1.TypeIs (.ref d) "dict" := hat.dictOf.typeIs
  unfold PySem.W.StarOf notIterableAtAll
  refine wpAny_bind (wpAny_specialOf hT PySem.F.slot_dict_iter.lookup (wpAny_pure ⟨rfl, ?_⟩))
  refine PySem.W.kdu_collect (PySem.W.kdl_dict (knd := mixKind X.prog X.w) (kvs := vs) (ep := ep) D.sm) (I1.ok.hd hc) hat (by rw [← hl]; exact z) fun h' tk acc hk hacc => ?_
  have I2 := I1.kept (t' := tk) hk
  have rv : Vals (kvs.map fun kv => kV kv.1) acc.toList := by
    have el : acc.toList.length = acc.size := by simp
    refine vals_of_at (by rw [List.length_map, el, hacc.1, hl]) fun j x w h1 h2 => ?_
    obtain ⟨k, y, hky, hi⟩ := hacc.2 j w (by rw [← Array.getElem?_toList]; exact h2)
    have e1 : (kvs.map (·.1))[j]? = some k := by
      rw [KV.keys rk, List.getElem?_map, hky] <;> rfl
    have e2 : (kvs.map fun kv => kV kv.1)[j]? = some (kV k) := by
      have e3 : (kvs.map fun kv => kV kv.1) = (kvs.map (·.1)).map kV := by rw [List.map_map] <;> rfl
      rw [e3, List.getElem?_map, e1] <;> rfl
    rw [e2] at h1
    cases h1
    exact keyIs_rel hi
  exact thn (hr.run pos pins _ σ H1 _ I2 q) fun ws s3 ⟨ys, H3, I3, r3, q3⟩ => ⟨_, H3, I3, rv.append r3, q3⟩
end
end HP

namespace HP
open PySem PySem.Spec PyProof.Rows L2
abbrev sLineI : Stmt := inClass (top 23) 0
abbrev sRefuse : Stmt := inClass (top 23) 1
abbrev sDone : Stmt := inClass (top 23) 2
abbrev sOne : Stmt := inClass (top 23) 3
abbrev sTName : Stmt := inClass (top 23) 4
abbrev sFinish : Stmt := inClass (top 23) 5
/-! ### lines that are read -/
/-- a method of an own class -/
def MCl (P : Program) (w : World) (K : PySem.W.Frag) (mg : Str → Option Value) (base : Heap) (CX : CXT) (k : Nat) (C : Addr) (m : Str) (sp : Sp) : Prop :=
  Cls K C ∧ ∃ (g : Addr) (fd : FuncData) (ps : List Str), Meth K C m g ∧ Binds K fd ps [] ∧ FnOk P w K mg base CX k g fd ps sp
section
variable {X : Cx} {CX : CXT} {k j : Nat} {C : Addr} {m : Str} {sp : Sp} {o e : Expr} {es : List Expr} {ta : TE} {t : TA} {apos pos : Pos} {E : XK}
theorem peM (M : MCl X.prog X.w X.K X.mg X.base CX k C m sp) (hr : Room j X.A) (hkj : k ≤ j) (hx : Passes CX X E) (ho : PE X o ta) (ha : PA X (e :: es) t) {pl : Sem Bool}
    (hst : starEach (e :: es) X.env = (false, eval e X.env) :: starEach es X.env := by rfl) (hpl : (backTo pos (starEach es X.env)).any (·.1) = false := by rfl)
    (ht : eval (.Call (.Attribute o m apos) (e :: es) [] pos) X.env = (do
      let ov ← eval o X.env; standAt apos.atName; let (f, first) ← holding [ov] (getMethod ov m pl); callWith pos f first (backTo pos (starEach (e :: es) X.env)) (backToKw pos (keywordEach [] X.env))) := by rfl) :
    PE X (.Call (.Attribute o m apos) (e :: es) [] pos) (tMeth C m sp [] E ta t) := by
  obtain ⟨c, g, fd, ps, hm, hb, F⟩ := M
  exact pe_meth ho c hm F (hr.mono hkj) hb .nil hx ha (pl := pl) (hst := hst) (hpl := hpl) (ht := ht)
theorem peM0 (M : MCl X.prog X.w X.K X.mg X.base CX k C m sp) (hr : Room j X.A) (hkj : k ≤ j) (hx : Passes CX X E) (ho : PE X o ta) {pl : Sem Bool}
    (ht : eval (.Call (.Attribute o m apos) [] [] pos) X.env = (do
      let ov ← eval o X.env; standAt apos.atName; let (f, first) ← holding [ov] (getMethod ov m pl); callWith pos f first (backTo pos (starEach [] X.env)) (backToKw pos (keywordEach [] X.env))) := by rfl) :
    PE X (.Call (.Attribute o m apos) [] [] pos) (tMeth C m sp [] E ta tNil) := by
  obtain ⟨c, g, fd, ps, hm, hb, F⟩ := M
  exact pe_meth0 ho c hm F (hr.mono hkj) hb .nil hx (pl := pl) (ht := ht)
end
end HP

namespace HP
open PySem PySem.Spec PyProof.Rows L2
structure LnC (K : PySem.W.Frag) (C : Addr) : Prop where
  cls : Cls K C
  num : NoAttr K C "number"
  parts : NoAttr K C "parts"
  place : NoAttr K C "place"
def lnO (C dx : Addr) (n : Int) (q : Addr) (i : Int) : HO := .ins C dx [("number", .int n), ("parts", .ref q), ("place", .int i)]
/-- at a: line n with the words ws, at its word i -/
structure LnAt (H : Hp) (C a dx q : Addr) (n : Int) (ws : List Str) (i : Int) : Prop where
  at_ : H a = some (lnO C dx n q i)
  ws : H q = some (.lst (ws.map V.str))
theorem LnAt.same {H H' : Hp} {C a dx q : Addr} {n : Int} {ws : List Str} {i : Int} (s : Same H H') (h : LnAt H C a dx q n ws i) : LnAt H' C a dx q n ws i := ⟨s _ _ h.at_, s _ _ h.ws⟩
theorem LnAt.ne {H : Hp} {C a dx q : Addr} {n : Int} {ws : List Str} {i : Int} (h : LnAt H C a dx q n ws i) : q ≠ a := ne_of h.ws h.at_ (by intro z; cases z)
theorem LnAt.step {H : Hp} {C a dx q : Addr} {n : Int} {ws : List Str} {i : Int} (h : LnAt H C a dx q n ws i) (j : Int) : LnAt (upd H a (lnO C dx n q j)) C a dx q n ws j := ⟨upd_same, by rw [upd_ne h.ne]; exact h.ws⟩
/-- InvalidText(n, w) -/
def RaiseT (cT : Addr) (E : XK) (n w : Int) : Prop := ∀ H' d, H' d = some (.xd [("word", .int w), ("line", .int n)]) → E (.ref cT) (some d) H'
theorem at_str {ws : List Str} {i : Nat} {x : Str} (h : ws[i]? = some x) : atI (ws.map V.str) (i : Int) = some (.str x) := atI_nat (by rw [List.getElem?_map, h]; rfl)
theorem inV_str (x : Str) (xs : List Str) : inV (.str x) (xs.map V.str) = decide (x ∈ xs) := inV_strs x xs
section
variable {P : Program} {w : World} {K : PySem.W.Frag} {mg : Str → Option Value} {base : Heap}
def wordsOf (x : Str) : List Str := (Txt.split x " ").filter fun y => !decide (y = ("" : Str))
def spLine (C : Addr) : Sp := fun vs H Q _ => ∃ (x dx : Addr) (y : Str) (n : Int), vs = [.ref x, .str y, .int n] ∧ H x = some (.ins C dx []) ∧ y.length ≤ 90000 ∧
  ∀ H' q, (∀ b o, H b = some o → b ≠ x → H' b = some o) → H q = none → LnAt H' C x dx q n (wordsOf y) 0 → Q .non H'
theorem scLineI : FnScope ["self", "text", "number", "word"] ["self", "text", "number"] (defScope sLineI) := ⟨rfl, rfl, rfl, by decide +kernel, rfl, by decide +kernel, by decide +kernel⟩
theorem ok_line {C fI : Addr} {fd : FuncData} (F : FunD K "__init__" "Line.__init__" (defArgs sLineI) (defBody sLineI) (defScope sLineI) [] [] fI fd) (T : Fr mg) (L : LnC K C) : FnOk P w K mg base CX0 1 fI fd ["self", "text", "number"] (spLine C) := by
  refine F.ok scLineI (fun vs H Q E h => ?_) (fun cdv A outer s0 H vs Q E hr h => ?_)
  · obtain ⟨x, dx, y, n, rfl, _⟩ := h
    rfl
  · obtain ⟨x, dx, y, n, rfl, hx, hy, k⟩ := h
    refine ⟨_, (pss_cons (ps_fld (pv 0) (pv 2) rfl)
      (pss_cons (ps_fld (pv 0) (pe_lc (own := [("word", 3)]) (g := gName 3) (by rfl) scLineI.nd (iL (K := K) (pe_split (pv 1) pe_str)) (blkOk_by (own := [("word", 3)]) (N := ["self", "text", "number", "word"]) (sc := defScope sLineI) (by decide +kernel)) (fun _ _ _ _ _ => (pg_name (i := 3) scLineI.nd rfl (Or.inl rfl))) (fun _ _ _ _ _ => (pts_one (pt_cmpR op_ne (pv 3) pe_str (nomark _)))) (fun _ _ _ _ _ => (pv 3))) rfl)
      (pss_one (ps_fld (pv 0) pe_int rfl)))), ?_⟩
    refine ⟨_, rfl, _, rfl, x, C, dx, [], rfl, hx, L.cls, L.num, by show 0 < 1000; decide, ?_⟩
    refine ⟨_, rfl, ⟨y, rfl⟩, y, " ", rfl, rfl, rfl, Nat.le_trans (Nat.add_le_add_right hy 2) (by decide), fun l hl => ?_⟩
    have nlx : x ≠ l := fun e => by rw [← e, upd_same] at hl; cases hl
    rw [upd_ne nlx.symm] at hl
    generalize eH1 : upd (upd H x (.ins C dx (putF "number" (.int n) []))) l (.lst ((Txt.split y " ").map V.str)) = H1
    have hl1 : H1 l = some (.lst ((Txt.split y " ").map V.str)) := by rw [← eH1, upd_same]
    have hx1 : H1 x = some (.ins C dx [("number", .int n)]) := by rw [← eH1, upd_ne nlx, upd_same]; rfl
    have f1 : ∀ b o, H b = some o → b ≠ x → H1 b = some o := fun b o e h1 => by rw [← eH1, upd_ne (ne_of_none e hl), upd_ne h1]; exact e
    refine ⟨l, rfl, ⟨_, SqL.of hl1⟩, fun D hD => ?_⟩
    have hDH : H D = none := by
      cases q : H D with
      | none => rfl
      | some o =>
        by_cases e : D = x
        · rw [e, hx1] at hD; cases hD
        · rw [f1 _ _ q e] at hD; cases hD
    have hlen : (Txt.split y " ").length ≤ 90002 := Nat.le_trans (split_le y " ") (Nat.add_le_add_right hy 2)
    refine lc_list (K := K) (a := l) (xs := (Txt.split y " ").map V.str) (Cv H1 D fun i => (((Txt.split y " ").take i).filter fun z => !decide (z = ("" : Str))).map V.str) (cv0 hD rfl) (fun i H2 _ p => SqL.of (p.1 _ _ hl1)) (fun i v H2 hi p => ?_) (fun H2 p => ?_)
    · rw [List.getElem?_map] at hi
      obtain ⟨z, hz, rfl⟩ : ∃ z, (Txt.split y " ")[i]? = some z ∧ V.str z = v := by
        cases q : (Txt.split y " ")[i]? with
        | none => rw [q] at hi; cases hi
        | some z => rw [q] at hi; exact ⟨z, rfl, Option.some.inj hi⟩
      refine ⟨rfl, ?_⟩
      refine ⟨_, rfl, rfl, _, rfl, ?_⟩
      have ed : (!decide (V.str z = V.str "")) = !decide (z = ("" : Str)) := by
        rw [decide_eq_decide.mpr ⟨V.str.inj, fun e => by rw [e]⟩]
      rw [ed]
      have et : (Txt.split y " ").take (i + 1) = (Txt.split y " ").take i ++ [z] := by rw [List.take_add_one, hz]; rfl
      cases q : !decide (z = ("" : Str)) with
      | true =>
        refine iteT ?_
        refine ⟨_, rfl, cv_yes hD p.1 p.2 ?_ ?_⟩
        · rw [List.length_map]
          refine Nat.le_trans (List.length_filter_le ..) ?_
          rw [List.length_take]
          have := (List.getElem?_eq_some_iff.mp hz).1
          omega
        · rw [et, List.filter_append, List.map_append]
          simp only [List.filter_cons, q, List.filter_nil]
          rfl
      | false =>
        refine iteF ?_
        refine cv_no p.1 p.2 ?_
        rw [et, List.filter_append, List.map_append]
        simp only [List.filter_cons, q, List.filter_nil]
        exact List.append_nil _
    · have e : H2 D = some (.lst ((wordsOf y).map V.str)) := by
        have z := p.2
        rw [List.length_map] at z
        dsimp only at z
        rw [List.take_length] at z
        exact z
      have nDx : D ≠ x := fun e => by rw [e, hx1] at hD; cases hD
      refine ⟨_, rfl, x, C, dx, _, rfl, p.1 _ _ hx1, L.cls, L.parts, by show 1 < 1000; decide, ?_⟩
      refine ⟨_, rfl, x, C, dx, _, rfl, upd_same, L.cls, L.place, by show 2 < 1000; decide, ?_⟩
      rw [upd_upd]
      refine k _ D (fun b o e h1 => ?_) hDH ⟨upd_same, ?_⟩
      · rw [upd_ne h1]
        exact p.1 _ _ (f1 _ _ e h1)
      · rw [upd_ne nDx]
        exact e
def spDone (C : Addr) : Sp := fun vs H Q _ => ∃ (a dx q : Addr) (n i : Int) (ws : List Str), vs = [.ref a] ∧ LnAt H C a dx q n ws i ∧ Q (.bl (decide (i = (ws.length : Int)))) H
theorem scDone : FnScope ["self"] ["self"] (defScope sDone) := ⟨rfl, rfl, rfl, by decide +kernel, rfl, by decide +kernel, by decide +kernel⟩
theorem ok_done {C f : Addr} {fd : FuncData} (F : FunD K "is_done" "Line.is_done" (defArgs sDone) (defBody sDone) (defScope sDone) [] [] f fd) (T : Fr mg) (L : LnC K C) : FnOk P w K mg base CX0 1 f fd ["self"] (spDone C) := by
  refine F.ok scDone (fun vs H Q E h => ?_) (fun cdv A outer s0 H vs Q E hr h => ?_)
  · obtain ⟨a, dx, q, n, i, ws, rfl, _⟩ := h
    rfl
  · obtain ⟨a, dx, q, n, i, ws, rfl, h, k⟩ := h
    refine ⟨_, (pss_one (ps_ret (pe_cmpR op_eq (eFld (K := K) (pv 0)) (pe_callB (kLen (K := K)) (by rfl) (T.fr "len" (by decide +kernel)) (by decide +kernel) (pa_cons (eFld (K := K) (pv 0)) pa_nil)) (nomark _)))), ?_⟩
    refine ⟨_, rfl, a, C, dx, _, _, rfl, h.at_, L.cls, L.place, rfl, ?_⟩
    refine ⟨_, rfl, a, C, dx, _, _, rfl, h.at_, L.cls, L.parts, rfl, ?_⟩
    refine ⟨q, _, rfl, .inl (SqL.of h.ws), rfl, ?_⟩
    have e : decide (V.int i = V.int ((ws.map V.str).length : Int)) = decide (i = (ws.length : Int)) := by
      rw [List.length_map]
      exact decide_eq_decide.mpr ⟨V.int.inj, fun e => by rw [e]⟩
    rw [e]
    exact k
def spRefuse (C cT : Addr) : Sp := fun vs H _ E => ∃ (a dx q : Addr) (n i : Int) (ws : List Str), vs = [.ref a] ∧ LnAt H C a dx q n ws i ∧ RaiseT cT E n (i + 1)
theorem scRefuse : FnScope ["self"] ["self"] (defScope sRefuse) := ⟨rfl, rfl, rfl, by decide +kernel, rfl, by decide +kernel, by decide +kernel⟩
theorem ok_refuse {C cT f : Addr} {fd : FuncData} (F : FunD K "refuse" "Line.refuse" (defArgs sRefuse) (defBody sRefuse) (defScope sRefuse) [] [] f fd) (T : Fr mg) (L : LnC K C) (XT : Exc1 P w K mg base "InvalidText" cT "line" (spInit2 cT "line" "word")) : FnOk P w K mg base (L2.CX P w) 3 f fd ["self"] (spRefuse C cT) := by
  refine F.ok scRefuse (fun vs H Q E h => ?_) (fun cdv A outer s0 H vs Q E hr h => ?_)
  · obtain ⟨a, dx, q, n, i, ws, rfl, _⟩ := h
    rfl
  · obtain ⟨a, dx, q, n, i, ws, rfl, h, k⟩ := h
    refine ⟨_, (pss_one (ps_raise2 XT rfl hr (by decide) (takes_of rfl rfl rfl rfl) (eFld (K := K) (pv 0)) (pe_op op_add (eFld (K := K) (pv 0)) pe_int) (mono_fld monoV) (mono_add (mono_fld monoV) monoC))), ?_⟩
    refine ⟨_, rfl, a, C, dx, _, _, rfl, h.at_, L.cls, L.num, rfl, ?_⟩
    refine ⟨_, rfl, a, C, dx, _, _, rfl, h.at_, L.cls, L.place, rfl, _, _, rfl, rfl, fun d hd => ?_⟩
    exact k _ d upd_same
end
end HP

namespace HP
open PySem PySem.Spec PyProof.Rows L2
section
variable {P : Program} {w : World} {K : PySem.W.Frag} {mg : Str → Option Value} {base : Heap}
/-- a list or a tuple of texts -/
def SqS (K : PySem.W.Frag) (H : Hp) (p : Addr) (xs : List Str) : Prop := SqL K H p (xs.map V.str) ∨ SqT K H p (xs.map V.str)
def spOne (K : PySem.W.Frag) (C cT : Addr) : Sp := fun vs H Q E => ∃ (a dx q p : Addr) (n : Int) (i : Nat) (ws xs : List Str), vs = [.ref a, .ref p] ∧ LnAt H C a dx q n ws i ∧ i ≤ ws.length ∧ SqS K H p xs ∧
  (∀ x, ws[i]? = some x → x ∈ xs → Q (.str x) (upd H a (lnO C dx n q ((i + 1 : Nat) : Int)))) ∧ ((∀ x, ws[i]? = some x → x ∉ xs) → RaiseT cT E n ((i + 1 : Nat) : Int))
theorem scOne : FnScope ["self", "words"] ["self", "words"] (defScope sOne) := ⟨rfl, rfl, rfl, by decide +kernel, rfl, by decide +kernel, by decide +kernel⟩
theorem ok_one {C cT f : Addr} {fd : FuncData} (F : FunD K "take_one" "Line.take_one" (defArgs sOne) (defBody sOne) (defScope sOne) [] [] f fd) (T : Fr mg) (L : LnC K C) (MD : MCl P w K mg base CX0 1 C "is_done" (spDone C)) (MR : MCl P w K mg base (L2.CX P w) 3 C "refuse" (spRefuse C cT)) : FnOk P w K mg base (L2.CX P w) 4 f fd ["self", "words"] (spOne K C cT) := by
  refine F.ok scOne (fun vs H Q E h => ?_) (fun cdv A outer s0 H vs Q E hr h => ?_)
  · obtain ⟨a, dx, q, p, n, i, ws, xs, rfl, _⟩ := h
    rfl
  · obtain ⟨a, dx, q, p, n, i, ws, xs, rfl, h, hi, hp, kQ, kE⟩ := h
    refine ⟨_, (pss_cons (ps_if (PW.pt (pw_or (pt_val (peM0 MD hr (by decide) pass0 (pv 0))) (pw_or1 (pt_cmpR (oNotIn (K := K)) (pe_ix (ixL (K := K)) (eFld (K := K) (pv 0)) (eFld (K := K) (pv 0)) (fun _ _ => rfl)) (pv 1) (by rfl))))) (pss_one (ps_expr (peM0 MR hr (by decide) (passes_call (takes_of rfl rfl rfl rfl) (fun _ _ _ _ h => h)) (pv 0)))) pss_nil)
      (pss_cons (ps_fldaug (pv 0) pe_int in_add)
      (pss_one (ps_ret (pe_ix (ixL (K := K)) (eFld (K := K) (pv 0)) (pe_op op_sub (eFld (K := K) (pv 0)) pe_int) (fun _ _ => rfl)))))), ?_⟩
    have bad : (∀ x, ws[i]? = some x → x ∉ xs) → spRefuse C cT [.ref a] H (fun _ _ => False) E := fun hn => ⟨a, dx, q, n, i, ws, rfl, h, kE hn⟩
    refine ⟨_, rfl, a, dx, _, rfl, h.at_, rfl, a, dx, q, n, i, ws, rfl, h, _, rfl, ?_⟩
    cases e : ws[i]? with
    | none =>
      have hl : (i : Int) = (ws.length : Int) := by
        have := List.getElem?_eq_none_iff.mp e
        omega
      rw [decide_eq_true hl]
      refine iteT ?_
      refine iteT ?_
      refine ⟨_, rfl, a, dx, _, rfl, h.at_, rfl, ?_⟩
      exact ⟨a, dx, q, n, i, ws, rfl, h, kE fun x hx => by rw [e] at hx; cases hx⟩
    | some x =>
      have hl : ¬ (i : Int) = (ws.length : Int) := by
        have := (List.getElem?_eq_some_iff.mp e).1
        omega
      rw [decide_eq_false hl]
      refine iteF ?_
      refine ⟨_, rfl, a, C, dx, _, _, rfl, h.at_, L.cls, L.parts, rfl, _, rfl, a, C, dx, _, _, rfl, h.at_, L.cls, L.place, rfl, ?_⟩
      refine ⟨q, _, _, _, rfl, rfl, SqL.of h.ws, at_str e, ?_⟩
      refine ⟨_, rfl, p, _, rfl, hp, rfl, flat_strs _, _, rfl, ?_⟩
      rw [inV_strs]
      by_cases hm : x ∈ xs
      · rw [decide_eq_true hm]
        refine iteF ?_
        refine ⟨_, rfl, a, C, dx, _, _, rfl, h.at_, L.cls, L.place, rfl, _, _, rfl, rfl, dx, _, h.at_, by show 3 < 1000; decide, ?_⟩
        have eo : HO.ins C dx (putF "place" (.int ((i : Int) + 1)) [("number", .int n), ("parts", .ref q), ("place", .int (i : Int))]) = lnO C dx n q ((i + 1 : Nat) : Int) := rfl
        rw [eo]
        have h2 := h.step ((i + 1 : Nat) : Int)
        have k2 := kQ x e hm
        generalize upd H a (lnO C dx n q ((i + 1 : Nat) : Int)) = H2 at h2 k2
        refine ⟨_, rfl, a, C, dx, _, _, rfl, h2.at_, L.cls, L.parts, rfl, _, rfl, a, C, dx, _, _, rfl, h2.at_, L.cls, L.place, rfl, _, _, rfl, rfl, ?_⟩
        refine ⟨q, _, _, _, rfl, rfl, SqL.of h2.ws, ?_, k2⟩
        have e3 : ((i + 1 : Nat) : Int) - 1 = (i : Int) := by omega
        rw [e3]
        exact at_str e
      · rw [decide_eq_false hm]
        refine iteT ?_
        refine ⟨_, rfl, a, dx, _, rfl, h.at_, rfl, ?_⟩
        exact ⟨a, dx, q, n, i, ws, rfl, h, kE fun y hy => by rw [e] at hy; cases hy; exact hm⟩
def spTName (C cT : Addr) : Sp := fun vs H Q E => ∃ (a dx q : Addr) (n : Int) (i : Nat) (ws : List Str), vs = [.ref a] ∧ LnAt H C a dx q n ws i ∧ i ≤ ws.length ∧ (∀ x ∈ ws, x.length ≤ 100000) ∧
  (∀ x, ws[i]? = some x → isNameS x = true → ∀ H', Same H H' → Q (.str x) (upd H' a (lnO C dx n q ((i + 1 : Nat) : Int)))) ∧ ((∀ x, ws[i]? = some x → isNameS x = false) → RaiseT cT E n ((i + 1 : Nat) : Int))
theorem scTName : FnScope ["self"] ["self"] (defScope sTName) := ⟨rfl, rfl, rfl, by decide +kernel, rfl, by decide +kernel, by decide +kernel⟩
theorem ok_tname {C cT f : Addr} {fd : FuncData} (F : FunD K "take_name" "Line.take_name" (defArgs sTName) (defBody sTName) (defScope sTName) [] [] f fd) (T : Fr mg) (L : LnC K C) (MD : MCl P w K mg base CX0 1 C "is_done" (spDone C)) (MR : MCl P w K mg base (L2.CX P w) 3 C "refuse" (spRefuse C cT))
    (FN : Fn P w K mg base CX0 1 "is_name" (spIsName K)) : FnOk P w K mg base (L2.CX P w) 4 f fd ["self"] (spTName C cT) := by
  refine F.ok scTName (fun vs H Q E h => ?_) (fun cdv A outer s0 H vs Q E hr h => ?_)
  · obtain ⟨a, dx, q, n, i, ws, rfl, _⟩ := h
    rfl
  · obtain ⟨a, dx, q, n, i, ws, rfl, h, hi, hs, kQ, kE⟩ := h
    refine ⟨_, (pss_cons (ps_if (PW.pt (pw_or (pt_val (peM0 MD hr (by decide) pass0 (pv 0))) (pw_or1 (pt_not (pt_val (pf FN hr (by decide) (pa_cons (pe_ix (ixL (K := K)) (eFld (K := K) (pv 0)) (eFld (K := K) (pv 0)) (fun _ _ => rfl)) pa_nil))))))) (pss_one (ps_expr (peM0 MR hr (by decide) (passes_call (takes_of rfl rfl rfl rfl) (fun _ _ _ _ h => h)) (pv 0)))) pss_nil)
      (pss_cons (ps_fldaug (pv 0) pe_int in_add)
      (pss_one (ps_ret (pe_ix (ixL (K := K)) (eFld (K := K) (pv 0)) (pe_op op_sub (eFld (K := K) (pv 0)) pe_int) (fun _ _ => rfl)))))), ?_⟩
    refine ⟨_, rfl, a, dx, _, rfl, h.at_, rfl, a, dx, q, n, i, ws, rfl, h, _, rfl, ?_⟩
    cases e : ws[i]? with
    | none =>
      have hl : (i : Int) = (ws.length : Int) := by
        have := List.getElem?_eq_none_iff.mp e
        omega
      rw [decide_eq_true hl]
      refine iteT ?_
      refine iteT ?_
      refine ⟨_, rfl, a, dx, _, rfl, h.at_, rfl, ?_⟩
      exact ⟨a, dx, q, n, i, ws, rfl, h, kE fun x hx => by rw [e] at hx; cases hx⟩
    | some x =>
      have hl : ¬ (i : Int) = (ws.length : Int) := by
        have := (List.getElem?_eq_some_iff.mp e).1
        omega
      rw [decide_eq_false hl]
      refine iteF ?_
      refine ⟨_, rfl, a, C, dx, _, _, rfl, h.at_, L.cls, L.parts, rfl, _, rfl, a, C, dx, _, _, rfl, h.at_, L.cls, L.place, rfl, ?_⟩
      refine ⟨q, _, _, _, rfl, rfl, SqL.of h.ws, at_str e, ?_⟩
      refine ⟨_, .str x, rfl, .str x, fun y hy => by cases hy; exact hs x (List.mem_of_getElem? e), fun H1 s1 => ⟨_, rfl, ?_⟩⟩
      have h1 := h.same s1
      have en : isNameD (.str x) = isNameS x := rfl
      rw [en]
      cases hm : isNameS x with
      | true =>
        refine iteF ?_
        refine ⟨_, rfl, a, C, dx, _, _, rfl, h1.at_, L.cls, L.place, rfl, _, _, rfl, rfl, dx, _, h1.at_, by show 3 < 1000; decide, ?_⟩
        have eo : HO.ins C dx (putF "place" (.int ((i : Int) + 1)) [("number", .int n), ("parts", .ref q), ("place", .int (i : Int))]) = lnO C dx n q ((i + 1 : Nat) : Int) := rfl
        rw [eo]
        have h2 := h1.step ((i + 1 : Nat) : Int)
        have k2 := kQ x e hm H1 s1
        generalize upd H1 a (lnO C dx n q ((i + 1 : Nat) : Int)) = H2 at h2 k2
        refine ⟨_, rfl, a, C, dx, _, _, rfl, h2.at_, L.cls, L.parts, rfl, _, rfl, a, C, dx, _, _, rfl, h2.at_, L.cls, L.place, rfl, _, _, rfl, rfl, ?_⟩
        refine ⟨q, _, _, _, rfl, rfl, SqL.of h2.ws, ?_, k2⟩
        have e3 : ((i + 1 : Nat) : Int) - 1 = (i : Int) := by omega
        rw [e3]
        exact at_str e
      | false =>
        refine iteT ?_
        refine ⟨_, rfl, a, dx, _, rfl, h1.at_, rfl, ?_⟩
        exact ⟨a, dx, q, n, i, ws, rfl, h1, kE fun y hy => by rw [e] at hy; cases hy; exact hm⟩
def spFinish (C cT : Addr) : Sp := fun vs H Q E => ∃ (a dx q : Addr) (n : Int) (i : Nat) (ws : List Str), vs = [.ref a] ∧ LnAt H C a dx q n ws i ∧ (i = ws.length → Q .non H) ∧ (i ≠ ws.length → RaiseT cT E n ((i + 1 : Nat) : Int))
theorem scFinish : FnScope ["self"] ["self"] (defScope sFinish) := ⟨rfl, rfl, rfl, by decide +kernel, rfl, by decide +kernel, by decide +kernel⟩
theorem ok_finish {C cT f : Addr} {fd : FuncData} (F : FunD K "finish" "Line.finish" (defArgs sFinish) (defBody sFinish) (defScope sFinish) [] [] f fd) (T : Fr mg) (L : LnC K C) (MD : MCl P w K mg base CX0 1 C "is_done" (spDone C)) (MR : MCl P w K mg base (L2.CX P w) 3 C "refuse" (spRefuse C cT)) : FnOk P w K mg base (L2.CX P w) 4 f fd ["self"] (spFinish C cT) := by
  refine F.ok scFinish (fun vs H Q E h => ?_) (fun cdv A outer s0 H vs Q E hr h => ?_)
  · obtain ⟨a, dx, q, n, i, ws, rfl, _⟩ := h
    rfl
  · obtain ⟨a, dx, q, n, i, ws, rfl, h, kQ, kE⟩ := h
    refine ⟨_, (pss_one (ps_if (pt_not (pt_val (peM0 MD hr (by decide) pass0 (pv 0)))) (pss_one (ps_expr (peM0 MR hr (by decide) (passes_call (takes_of rfl rfl rfl rfl) (fun _ _ _ _ h => h)) (pv 0)))) pss_nil)), ?_⟩
    refine ⟨_, rfl, a, dx, _, rfl, h.at_, rfl, a, dx, q, n, i, ws, rfl, h, _, rfl, ?_⟩
    by_cases hl : i = ws.length
    · rw [decide_eq_true (show (i : Int) = (ws.length : Int) by omega)]
      refine iteF ?_
      exact kQ hl
    · rw [decide_eq_false (show ¬ (i : Int) = (ws.length : Int) by omega)]
      refine iteT ?_
      refine ⟨_, rfl, a, dx, _, rfl, h.at_, rfl, ?_⟩
      exact ⟨a, dx, q, n, i, ws, rfl, h, kE hl⟩
end
end HP

namespace HP
open PySem PySem.Spec PyProof.Rows L2
abbrev sRL : Stmt := top 24
/-! ### read_line -/
def headL : List Str := "things" :: "keys" :: "words" :: partNames
def digits : List Str := ["1", "2", "3"]
def digitOf (x : Str) : Int := if x = "1" then 1 else if x = "2" then 2 else 3
def goodWord (k : Nat) (x : Str) : Bool :=
  if k = 0 then isNameS x else if k = 1 then decide (x ∈ digits) else if k = 2 then decide (x ∈ allWords) else decide (x ∈ partWords (headL.getD k ("" : Str)))
/-- the first further word that cannot stand, from the n-th on -/
def badFrom (k : Nat) : Nat → List Str → Option Nat
  | _, [] => none
  | n, x :: xs => if goodWord k x = false ∨ (k ≠ 0 ∧ k ≠ 2 ∧ 1 < n) then some (n + 1) else badFrom k (n + 1) xs
/-- the number of the first word of the line k that cannot stand -/
def lineFault (k : Nat) : List Str → Option Nat
  | [] => some 1
  | x :: xs => if headL[k]? = some x then (match badFrom k 1 xs with
    | some n => some n
    | none => if xs = [] ∧ k ≠ 2 then some 2 else none) else some 1
theorem badFrom_step {k n : Nat} {x : Str} {xs : List Str} (h : goodWord k x = true) (h2 : k = 0 ∨ k = 2 ∨ n = 1) : badFrom k n (x :: xs) = badFrom k (n + 1) xs := by
  show (if goodWord k x = false ∨ (k ≠ 0 ∧ k ≠ 2 ∧ 1 < n) then some (n + 1) else badFrom k (n + 1) xs) = _
  rw [if_neg]
  rintro (z | z)
  · rw [h] at z; cases z
  · omega
theorem badFrom_bad {k n : Nat} {x : Str} {xs : List Str} (h : goodWord k x = false) : badFrom k n (x :: xs) = some (n + 1) := by
  unfold badFrom
  rw [if_pos (.inl h)]
/-- what a line k tells, as a value -/
def LV (H : Hp) (k : Nat) (ws : List Str) (v : V) : Prop :=
  if k = 0 ∨ k = 2 then ∃ t, v = .ref t ∧ H t = some (.tup ((ws.drop 1).map V.str)) else ∃ x, ws[1]? = some x ∧ goodWord k x = true ∧ v = if k = 1 then .int (digitOf x) else .str x
theorem LV.mono {H H' : Hp} {k : Nat} {ws : List Str} {v : V} (h : LV H k ws v) (s : ∀ t o, v = .ref t → H t = some o → H' t = some o) : LV H' k ws v := by
  unfold LV at h ⊢
  split at h
  · rename_i hk
    rw [if_pos hk]
    obtain ⟨t, e, ht⟩ := h
    exact ⟨t, e, s t _ e ht⟩
  · rename_i hk
    rw [if_neg hk]
    exact h
section
variable {P : Program} {w : World} {K : PySem.W.Frag} {mg : Str → Option Value} {base : Heap}
def spRL (C cT : Addr) : Sp := fun vs H Q E => ∃ (a dx q fd : Addr) (n : Int) (ws : List Str) (k : Nat) (head : Str) (kvs : List (Key × V)), vs = [.ref a, .str head, .ref fd] ∧ headL[k]? = some head ∧ LnAt H C a dx q n ws 0 ∧ H fd = some (.dK kvs) ∧ kvs.length ≤ 100 ∧
  (∀ x ∈ ws, x.length ≤ 100000) ∧ ws.length ≤ 100000 ∧
  (lineFault k ws = none → ∀ H' v, (∀ b o, H b = some o → b ≠ a → b ≠ fd → H' b = some o) → H' fd = some (.dK (putK kvs (Sum.inr head) v)) → LV H' k ws v → Q .non H') ∧
  ∀ m, lineFault k ws = some m → RaiseT cT E n (m : Int)
theorem scRL : FnScope ["line", "head", "found", "names", "words"] ["line", "head", "found"] (defScope sRL) := ⟨rfl, rfl, rfl, by decide +kernel, rfl, by decide +kernel, by decide +kernel⟩
/-- the tables of texts -/
structure Tx (K : PySem.W.Frag) (mg : Str → Option Value) : Prop where
  dg : ∃ d, mg "DIGITS" = some (.ref d) ∧ ∀ H, SqT K H d (digits.map V.str)
  wd : ∃ d, mg "WORDS" = some (.ref d) ∧ ∀ H, SqT K H d (allWords.map V.str)
theorem str_decide (x y : Str) : decide (V.str x = V.str y) = decide (x = y) := decide_eq_decide.mpr ⟨V.str.inj, fun e => by rw [e]⟩
theorem headL_cases {k : Nat} {h : Str} (e : headL[k]? = some h) : (k = 0 ∧ h = "things") ∨ (k = 1 ∧ h = "keys") ∨ (k = 2 ∧ h = "words") ∨ (3 ≤ k ∧ k < 9 ∧ h ∈ partNames) := by
  match k, e with
  | 0, e => exact .inl ⟨rfl, (Option.some.inj e).symm⟩
  | 1, e => exact .inr (.inl ⟨rfl, (Option.some.inj e).symm⟩)
  | 2, e => exact .inr (.inr (.inl ⟨rfl, (Option.some.inj e).symm⟩))
  | k + 3, e =>
    have e2 : partNames[k]? = some h := e
    have hl : k < partNames.length := (List.getElem?_eq_some_iff.mp e2).1
    have h6 : partNames.length = 6 := rfl
    exact .inr (.inr (.inr ⟨by omega, by omega, List.mem_of_getElem? e2⟩))
theorem parts_ne {h : Str} (hm : h ∈ partNames) : h ≠ "things" ∧ h ≠ "keys" ∧ h ≠ "words" := by
  have : ∀ h ∈ partNames, h ≠ "things" ∧ h ≠ "keys" ∧ h ≠ "words" := by decide +kernel
  exact this h hm
theorem ok_readLine {C cT dP : Addr} {pa : Str → Addr} (D : Dat K mg "read_line" sRL) (T : Fr mg) (Z : Pt P w K mg dP pa) (Xt : Tx K mg) (MD : MCl P w K mg base CX0 1 C "is_done" (spDone C)) (MO : MCl P w K mg base (L2.CX P w) 4 C "take_one" (spOne K C cT))
    (MN : MCl P w K mg base (L2.CX P w) 4 C "take_name" (spTName C cT)) (MF : MCl P w K mg base (L2.CX P w) 4 C "finish" (spFinish C cT)) : Fn P w K mg base (L2.CX P w) 5 "read_line" (spRL C cT) := by
  refine Fn.of D scRL (fun _ _ _ _ _ _ us hl => match us, hl with | [_, _, _], _ => rfl) (fun vs H Q E h => ?_) (fun f cdv A outer s H vs Q E hr h => ?_)
  · obtain ⟨a, dx, q, fd, n, ws, k, head, kvs, rfl, _⟩ := h
    rfl
  · obtain ⟨a, dx, q, fd, n, ws, k, head, kvs, rfl, hk, hL, hfd, hkl, hxs, hwl, kQ, kE⟩ := h
    have hu : _ < cLine := hu_of hr
    obtain ⟨dG, gG, tG⟩ := Xt.dg
    obtain ⟨dW, gW, tW⟩ := Xt.wd
    refine ⟨_, (pss_cons (ps_expr (peM MO hr (by decide) (passes_call (takes_of rfl rfl rfl rfl) (fun _ _ _ _ h => h)) (pv 0) (pa_cons (pe_lst (pa_cons (pv 1) pa_nil)) pa_nil)))
      (pss_cons (ps_if (pt_cmpR op_eq (pv 1) pe_str (nomark _)) (pss_cons (ps_set (i := 3) scRL.nd rfl (Or.inl rfl) (pe_lst (pa_cons (peM0 MN hr (by decide) (passes_call (takes_of rfl rfl rfl rfl) (fun _ _ _ _ h => h)) (pv 0)) pa_nil)))
      (pss_cons (ps_while (passes_of rfl) (pt_not (pt_val (peM0 MD hr (by decide) pass0 (pv 0)))) (pss_one (ps_expr (eBm (K := K) PySem.F.plainAttrs_list PySem.F.slot_list_append PySem.F.type_list_append mt_append (pv 3) (pa_cons (peM0 MN hr (by decide) (passes_call (takes_of rfl rfl rfl rfl) (fun _ _ _ _ h => h)) (pv 0)) pa_nil)))))
      (pss_one (ps_dput hu (pv 2) (pv 1) (pe_callTy (kTup (K := K)) (by rfl) (T.fr "tuple" (by decide +kernel)) (by decide +kernel) (pa_cons (pv 3) pa_nil)) rfl)))) (pss_one (ps_if (pt_cmpR op_eq (pv 1) pe_str (nomark _)) (pss_one (ps_dput hu (pv 2) (pv 1) (pe_callTy call_int_str (by rfl) (T.fr "int" (by decide +kernel)) (by decide +kernel) (pa_cons (peM MO hr (by decide) (passes_call (takes_of rfl rfl rfl rfl) (fun _ _ _ _ h => h)) (pv 0) (pa_cons (pe_glob (v := .ref dG) (by rfl) gG rfl) pa_nil)) pa_nil)) rfl)) (pss_one (ps_if (pt_cmpR op_eq (pv 1) pe_str (nomark _)) (pss_cons (ps_set (i := 4) scRL.nd rfl (Or.inl rfl) (pe_lst pa_nil))
      (pss_cons (ps_while (passes_of rfl) (pt_not (pt_val (peM0 MD hr (by decide) pass0 (pv 0)))) (pss_one (ps_expr (eBm (K := K) PySem.F.plainAttrs_list PySem.F.slot_list_append PySem.F.type_list_append mt_append (pv 4) (pa_cons (peM MO hr (by decide) (passes_call (takes_of rfl rfl rfl rfl) (fun _ _ _ _ h => h)) (pv 0) (pa_cons (pe_glob (v := .ref dW) (by rfl) gW rfl) pa_nil)) pa_nil)))))
      (pss_one (ps_dput hu (pv 2) (pv 1) (pe_callTy (kTup (K := K)) (by rfl) (T.fr "tuple" (by decide +kernel)) (by decide +kernel) (pa_cons (pv 4) pa_nil)) rfl)))) (pss_one (ps_dput hu (pv 2) (pv 1) (peM MO hr (by decide) (passes_call (takes_of rfl rfl rfl rfl) (fun _ _ _ _ h => h)) (pv 0) (pa_cons (pe_ix (ixW Z.wd) (pe_glob (v := .ref dP) (by rfl) Z.gl rfl) (pv 1) (fun _ _ => rfl)) pa_nil)) rfl)))))))
      (pss_one (ps_expr (peM0 MF hr (by decide) (passes_call (takes_of rfl rfl rfl rfl) (fun _ _ _ _ h => h)) (pv 0)))))), ?_⟩
    have hqa : q ≠ a := hL.ne
    have nfa : fd ≠ a := ne_of hfd hL.at_ (by intro z; cases z)
    -- line.take_one([head])
    refine ⟨_, rfl, a, dx, _, rfl, hL.at_, rfl, _, rfl, (by show 1 ≤ sizeLine; decide), fun l hl => ?_⟩
    have nla : a ≠ l := ne_of_none hL.at_ hl
    have nlq : q ≠ l := ne_of_none hL.ws hl
    have nlf : fd ≠ l := ne_of_none hfd hl
    have hL0 : LnAt (upd H l (.lst [.str head])) C a dx q n ws 0 := hL.same (same_new (Same.refl H) hl)
    have bad1 : (∀ x, ws[0]? = some x → x ∉ [head]) → lineFault k ws = some 1 := fun hno => by
      cases ws with
      | nil => rfl
      | cons y ys =>
        show (if headL[k]? = some y then _ else some 1) = some 1
        rw [if_neg]
        intro e
        rw [hk] at e
        exact hno y rfl (by rw [Option.some.inj e]; exact List.mem_singleton.mpr rfl)
    refine ⟨a, dx, q, l, n, 0, ws, [head], rfl, hL0, Nat.zero_le _, .inl (SqL.of upd_same), fun x hx0 hxm => ?_, fun hno => kE 1 (bad1 hno)⟩
    obtain rfl : x = head := List.mem_singleton.mp hxm
    obtain ⟨xs, rfl⟩ : ∃ xs, ws = x :: xs := by
      cases ws with
      | nil => cases hx0
      | cons y ys => exact ⟨ys, by rw [Option.some.inj hx0]⟩
    have h1 := hL0.step ((0 + 1 : Nat) : Int)
    have hf1 : upd (upd H l (.lst [.str x])) a (lnO C dx n q ((0 + 1 : Nat) : Int)) fd = some (.dK kvs) := by rw [upd_ne nfa, upd_ne nlf]; exact hfd
    have fr1 : ∀ b o, H b = some o → b ≠ a → upd (upd H l (.lst [.str x])) a (lnO C dx n q ((0 + 1 : Nat) : Int)) b = some o := fun b o e h => by rw [upd_ne h, upd_ne (ne_of_none e hl)]; exact e
    have eF : lineFault k (x :: xs) = (match badFrom k 1 xs with
      | some n => some n
      | none => if xs = [] ∧ k ≠ 2 then some 2 else none) := by
      show (if headL[k]? = some x then _ else some 1) = _
      rw [if_pos hk]
    show tSeq _ _ _ _ (upd (upd H l (.lst [.str x])) a (lnO C dx n q ((0 + 1 : Nat) : Int)))
    generalize upd (upd H l (.lst [.str x])) a (lnO C dx n q ((0 + 1 : Nat) : Int)) = H1 at h1 hf1 fr1
    -- the end of the line
    have fin : ∀ (σ : L2.St) (H2 : Hp) (i : Nat) (v : V) (D : Ends), σ[0]? = some (some (.ref a)) → LnAt H2 C a dx q n (x :: xs) i → (∀ b o, H b = some o → b ≠ a → b ≠ fd → H2 b = some o) → H2 fd = some (.dK (putK kvs (Sum.inr x) v)) → LV H2 k (x :: xs) v → (i = (x :: xs).length → lineFault k (x :: xs) = none) → (i ≠ (x :: xs).length → lineFault k (x :: xs) = some (i + 1)) → D.nx = (fun _ H' => Q .non H') →
        tDrop (tMeth C "finish" (spFinish C cT) [] E (tVar 0) tNil) D σ H2 := fun σ H2 i v D hσ hL2 fr2 hf2 lv e1 e2 eD => by
      refine ⟨_, hσ, a, dx, _, rfl, hL2.at_, rfl, ?_⟩
      refine ⟨a, dx, q, n, i, _, rfl, hL2, fun e => ?_, fun e => kE _ (e2 e)⟩
      rw [eD]
      exact kQ (e1 e) H2 v fr2 hf2 lv
    refine ⟨_, rfl, rfl, _, rfl, ?_⟩
    rw [str_decide]
    rcases headL_cases hk with ⟨rfl, rfl⟩ | ⟨rfl, rfl⟩ | ⟨rfl, rfl⟩ | ⟨k1, k2, hm⟩
    · -- things
      refine iteT ?_
      have b2 : (∀ z, (("things" : Str) :: xs)[1]? = some z → isNameS z = false) → lineFault 0 ("things" :: xs) = some 2 := fun hno => by
        rw [eF]
        cases xs with
        | nil => rfl
        | cons y ys =>
          have z : badFrom 0 1 (y :: ys) = some 2 := badFrom_bad (hno y rfl)
          rw [z]
      refine ⟨_, rfl, a, dx, _, rfl, h1.at_, rfl, a, dx, q, n, 1, _, rfl, h1, by simp, hxs, fun y hy gy H2 s2 => ?_, fun hno => kE 2 (b2 hno)⟩
      have h2 := (h1.same s2).step ((1 + 1 : Nat) : Int)
      have hf2 : upd H2 a (lnO C dx n q ((1 + 1 : Nat) : Int)) fd = some (.dK kvs) := by rw [upd_ne nfa]; exact s2 _ _ hf1
      have fr2 : ∀ b o, H b = some o → b ≠ a → upd H2 a (lnO C dx n q ((1 + 1 : Nat) : Int)) b = some o := fun b o e h => by rw [upd_ne h]; exact s2 _ _ (fr1 b o e h)
      generalize upd H2 a (lnO C dx n q ((1 + 1 : Nat) : Int)) = H3 at h2 hf2 fr2
      refine ⟨(by show 1 ≤ sizeLine; decide), fun nl hnl => ?_⟩
      have nqn : q ≠ nl := ne_of_none h2.ws hnl
      have hnlH : H nl = none := by
        cases e : H nl with
        | none => rfl
        | some o =>
          by_cases ea : nl = a
          · rw [ea, h2.at_] at hnl; cases hnl
          · rw [fr2 _ _ e ea] at hnl; cases hnl
      obtain ⟨ys, rfl⟩ : ∃ ys, xs = y :: ys := by
        cases xs with
        | nil => cases hy
        | cons z zs => cases hy; exact ⟨zs, rfl⟩
      have fst : ∀ H4, H4 = upd H3 nl (.lst [.str y]) → LnAt H4 C a dx q n ("things" :: y :: ys) ((1 + 1 : Nat) : Int) ∧ H4 nl = some (.lst (((y :: ys).take 1).map V.str)) ∧ H4 fd = some (.dK kvs) ∧ (∀ b o, H b = some o → b ≠ a → H4 b = some o) ∧ badFrom 0 1 (y :: ys) = badFrom 0 (1 + 1) ((y :: ys).drop 1) := fun H4 e4 => by
        subst e4
        refine ⟨h2.same (same_new (Same.refl _) hnl), upd_same, ?_, fun b o e h => ?_, badFrom_step gy (.inl rfl)⟩
        · rw [upd_ne (ne_of_none hf2 hnl)]; exact hf2
        · rw [upd_ne (ne_of_none e hnlH)]; exact fr2 b o e h
      have hyl : 1 ≤ (y :: ys).length := by simp
      generalize exs : y :: ys = xs at eF fin hyl fst hxs hwl kE

      refine ⟨fun m σ H2 => ∃ j, m = xs.length - j ∧ j ≤ xs.length ∧ 1 ≤ j ∧ σ = [some (.ref a), some (.str "things"), some (.ref fd), some (.ref nl), none] ∧ LnAt H2 C a dx q n ("things" :: xs) ((j + 1 : Nat) : Int) ∧ H2 nl = some (.lst ((xs.take j).map V.str)) ∧ H2 fd = some (.dK kvs) ∧ (∀ b o, H b = some o → b ≠ a → H2 b = some o) ∧ badFrom 0 1 xs = badFrom 0 (j + 1) (xs.drop j),
        ⟨_, 1, rfl, hyl, Nat.le_refl _, rfl, fst _ rfl⟩, ?_⟩
      rintro m σ H2 ⟨j, rfl, hjl, hj1, rfl, hLj, hnj, hfj, frj, ebj⟩
      have nna : nl ≠ a := ne_of hnj hLj.at_ (by intro z; cases z)
      have nnf : nl ≠ fd := ne_of hnj hfj (by intro z; cases z)
      refine ⟨_, rfl, a, dx, _, rfl, hLj.at_, rfl, a, dx, q, n, ((j + 1 : Nat) : Int), _, rfl, hLj, _, rfl, ?_⟩
      by_cases hj : j = xs.length
      · -- the end
        have e1 : (((j + 1 : Nat) : Int) = ((("things" : Str) :: xs).length : Int)) := by simp only [List.length_cons]; omega
        rw [decide_eq_true e1]
        refine iteF ?_
        refine ⟨_, rfl, nl, _, rfl, .inl ⟨SqL.of hnj, fun t ht => ?_⟩⟩
        have ntf : fd ≠ t := ne_of_none hfj ht
        refine ⟨_, rfl, _, rfl, fd, _, rfl, DPut.k (k := Sum.inr "things") (by rw [upd_ne ntf]; exact hfj) (Nat.lt_of_le_of_lt hkl (by decide)), ?_⟩
        have nta : a ≠ t := ne_of_none hLj.at_ ht
        have ntq : q ≠ t := ne_of_none hLj.ws ht
        have nqf : q ≠ fd := ne_of hLj.ws hfj (by intro z; cases z)
        have nb : badFrom 0 1 xs = none := by rw [ebj, hj, List.drop_length]; rfl
        have hxe : xs ≠ [] := fun e => by rw [e] at hj; simp at hj; omega
        refine fin _ _ (j + 1) (.ref t) _ rfl ⟨?_, ?_⟩ (fun b o e h h2 => ?_) upd_same ?_ (fun _ => ?_) (fun e => absurd (by simp only [List.length_cons]; omega) e) rfl
        · rw [upd_ne nfa.symm, upd_ne nta]; exact hLj.at_
        · rw [upd_ne nqf, upd_ne ntq]; exact hLj.ws
        · rw [upd_ne h2, upd_ne (ne_of_none (frj b o e h) ht)]; exact frj b o e h
        · unfold LV
          rw [if_pos (by decide)]
          refine ⟨t, rfl, ?_⟩
          rw [upd_ne ntf.symm, upd_same, hj, List.take_length]
          rfl
        · rw [eF, nb]
          show (if xs = [] ∧ _ then some 2 else none) = none
          rw [if_neg]
          rintro ⟨z1, z2⟩
          exact hxe z1
      · have hlt : j < xs.length := by omega
        have e1 : ¬ (((j + 1 : Nat) : Int) = ((("things" : Str) :: xs).length : Int)) := by simp only [List.length_cons]; omega
        rw [decide_eq_false e1]
        refine iteT ?_
        refine ⟨fun σ H2 => ∃ j', j' = j + 1 ∧ j' ≤ xs.length ∧ 1 ≤ j' ∧ σ = [some (.ref a), some (.str "things"), some (.ref fd), some (.ref nl), none] ∧ LnAt H2 C a dx q n ("things" :: xs) ((j' + 1 : Nat) : Int) ∧ H2 nl = some (.lst ((xs.take j').map V.str)) ∧ H2 fd = some (.dK kvs) ∧ (∀ b o, H b = some o → b ≠ a → H2 b = some o) ∧ badFrom 0 1 xs = badFrom 0 (j' + 1) (xs.drop j'),
          fun σ' H' ⟨j', e, r⟩ => ⟨xs.length - j', by omega, j', rfl, r⟩, ?_⟩
        have edr : xs.drop j = xs[j] :: xs.drop (j + 1) := List.drop_eq_getElem_cons hlt
        have ews : (("things" : Str) :: xs)[j + 1]? = some xs[j] := by rw [List.getElem?_cons_succ]; exact List.getElem?_eq_getElem hlt
        refine ⟨_, rfl, .inl ⟨rfl, _, SqL.of hnj⟩, _, rfl, a, dx, _, rfl, hLj.at_, rfl, a, dx, q, n, j + 1, _, rfl, hLj, by simp only [List.length_cons]; omega, hxs, fun y hy gy H4 s4 => ?_, fun hno => kE (j + 1 + 1) ?_⟩
        · rw [ews] at hy
          cases hy
          have h4 := (hLj.same s4).step ((j + 1 + 1 : Nat) : Int)
          have hn4 : upd H4 a (lnO C dx n q ((j + 1 + 1 : Nat) : Int)) nl = some (.lst ((xs.take j).map V.str)) := by rw [upd_ne nna]; exact s4 _ _ hnj
          refine ⟨nl, _, _, rfl, rfl, hn4, ?_, ?_⟩
          · rw [List.length_map, List.length_take]
            have : xs.length + 1 ≤ 100000 := hwl
            exact Nat.lt_of_le_of_lt (show min j xs.length ≤ 100000 by omega) (by decide)
          refine ⟨j + 1, rfl, hlt, by omega, rfl, ⟨by rw [upd_ne nna.symm]; exact h4.at_, by rw [upd_ne nqn]; exact h4.ws⟩, ?_, ?_, fun b o e h => ?_, ?_⟩
          · rw [upd_same, List.take_add_one, List.getElem?_eq_getElem hlt, List.map_append]
            rfl
          · rw [upd_ne nnf.symm, upd_ne nfa]; exact s4 _ _ hfj
          · rw [upd_ne (ne_of_none e hnlH), upd_ne h]; exact s4 _ _ (frj b o e h)
          · rw [ebj, edr]
            exact badFrom_step gy (.inl rfl)
        · have eb : badFrom 0 1 xs = some (j + 1 + 1) := by
            rw [ebj, edr]
            exact badFrom_bad (hno _ ews)
          rw [eF, eb]
    · -- keys
      refine iteF ?_
      refine ⟨_, rfl, rfl, _, rfl, ?_⟩
      rw [str_decide]
      refine iteT ?_
      have k0n : (1 : Nat) ≠ 0 := by decide
      have k2n : (1 : Nat) ≠ 2 := by decide
      have b2 : (∀ z, (("keys" : Str) :: xs)[1]? = some z → goodWord 1 z = false) → lineFault 1 ("keys" :: xs) = some 2 := fun hno => by
        rw [eF]
        cases xs with
        | nil =>
          show (if ([] : List Str) = [] ∧ 1 ≠ 2 then some 2 else none) = some 2
          rw [if_pos ⟨rfl, k2n⟩]
        | cons y ys =>
          have z : badFrom 1 1 (y :: ys) = some 2 := badFrom_bad (hno y rfl)
          rw [z]
      have b3 : ∀ z, (("keys" : Str) :: xs)[1]? = some z → goodWord 1 z = true → (2 = (("keys" : Str) :: xs).length → lineFault 1 ("keys" :: xs) = none) ∧ (2 ≠ (("keys" : Str) :: xs).length → lineFault 1 ("keys" :: xs) = some (2 + 1)) := fun z hz gz => by
        cases xs with
        | nil => cases hz
        | cons y ys =>
          have ez : y = z := Option.some.inj hz
          rw [← ez] at gz
          rw [eF]
          have e : badFrom 1 1 (y :: ys) = badFrom 1 2 ys := badFrom_step gz (.inr (.inr rfl))
          rw [e]
          cases ys with
          | nil =>
            refine ⟨fun _ => ?_, fun z => absurd rfl z⟩
            show (if [y] = [] ∧ 1 ≠ 2 then some 2 else none) = none
            rw [if_neg (fun z => by cases z.1)]
          | cons y2 ys =>
            refine ⟨fun z => by simp at z, fun _ => ?_⟩
            have e2 : badFrom 1 2 (y2 :: ys) = some 3 := by
              show (if goodWord 1 y2 = false ∨ (1 ≠ 0 ∧ 1 ≠ 2 ∧ 1 < 2) then some (2 + 1) else badFrom 1 (2 + 1) ys) = _
              rw [if_pos (.inr ⟨k0n, k2n, by decide⟩)]
            rw [e2]
      refine ⟨_, rfl, a, dx, _, rfl, h1.at_, rfl, a, dx, q, dG, n, 1, _, digits, rfl, h1, by simp, .inr (tG _), fun y hy gy => ?_, fun hno => kE 2 (b2 fun z hz => decide_eq_false (hno z hz))⟩
      have hi : PySem.intText? y = some (digitOf y) ∧ y.length ≤ 640 := by
        have : ∀ y ∈ digits, PySem.intText? y = some (digitOf y) ∧ y.length ≤ 640 := by decide +kernel
        exact this y gy
      refine ⟨y, digitOf y, rfl, hi.1, hi.2, ?_⟩
      have h2 := h1.step ((1 + 1 : Nat) : Int)
      have hf2 : upd H1 a (lnO C dx n q ((1 + 1 : Nat) : Int)) fd = some (.dK kvs) := by rw [upd_ne nfa]; exact hf1
      refine ⟨_, rfl, _, rfl, fd, _, rfl, DPut.k (k := Sum.inr "keys") hf2 (Nat.lt_of_le_of_lt hkl (by decide)), ?_⟩
      have nqf : q ≠ fd := ne_of h2.ws hf2 (by intro z; cases z)
      refine fin _ _ 2 (.int (digitOf y)) _ rfl ⟨by rw [upd_ne nfa.symm]; exact h2.at_, by rw [upd_ne nqf]; exact h2.ws⟩ (fun b o e h h3 => ?_) upd_same ?_ (b3 y hy (decide_eq_true gy)).1 (b3 y hy (decide_eq_true gy)).2 rfl
      · rw [upd_ne h3, upd_ne h]; exact fr1 b o e h
      · unfold LV
        rw [if_neg (by decide)]
        exact ⟨y, hy, decide_eq_true gy, rfl⟩
    · -- words
      refine iteF ?_
      refine ⟨_, rfl, rfl, _, rfl, ?_⟩
      rw [str_decide]
      refine iteF ?_
      refine ⟨_, rfl, rfl, _, rfl, ?_⟩
      rw [str_decide]
      refine iteT ?_
      refine ⟨(by show 0 ≤ sizeLine; decide), fun nl hnl => ?_⟩
      have nqn : q ≠ nl := ne_of_none h1.ws hnl
      have hnlH : H nl = none := by
        cases e : H nl with
        | none => rfl
        | some o =>
          by_cases ea : nl = a
          · rw [ea, h1.at_] at hnl; cases hnl
          · rw [fr1 _ _ e ea] at hnl; cases hnl
      have fst : ∀ H4, H4 = upd H1 nl (.lst []) → LnAt H4 C a dx q n ("words" :: xs) ((0 + 1 : Nat) : Int) ∧ H4 nl = some (.lst ((xs.take 0).map V.str)) ∧ H4 fd = some (.dK kvs) ∧ (∀ b o, H b = some o → b ≠ a → H4 b = some o) ∧ badFrom 2 1 xs = badFrom 2 (0 + 1) (xs.drop 0) := fun H4 e4 => by
        subst e4
        refine ⟨h1.same (same_new (Same.refl _) hnl), upd_same, ?_, fun b o e h => ?_, rfl⟩
        · rw [upd_ne (ne_of_none hf1 hnl)]; exact hf1
        · rw [upd_ne (ne_of_none e hnlH)]; exact fr1 b o e h

      refine ⟨fun m σ H2 => ∃ j, m = xs.length - j ∧ j ≤ xs.length ∧ σ = [some (.ref a), some (.str "words"), some (.ref fd), none, some (.ref nl)] ∧ LnAt H2 C a dx q n ("words" :: xs) ((j + 1 : Nat) : Int) ∧ H2 nl = some (.lst ((xs.take j).map V.str)) ∧ H2 fd = some (.dK kvs) ∧ (∀ b o, H b = some o → b ≠ a → H2 b = some o) ∧ badFrom 2 1 xs = badFrom 2 (j + 1) (xs.drop j),
        ⟨_, 0, rfl, Nat.zero_le _, rfl, fst _ rfl⟩, ?_⟩
      rintro m σ H2 ⟨j, rfl, hjl, rfl, hLj, hnj, hfj, frj, ebj⟩
      have nna : nl ≠ a := ne_of hnj hLj.at_ (by intro z; cases z)
      have nnf : nl ≠ fd := ne_of hnj hfj (by intro z; cases z)
      refine ⟨_, rfl, a, dx, _, rfl, hLj.at_, rfl, a, dx, q, n, ((j + 1 : Nat) : Int), _, rfl, hLj, _, rfl, ?_⟩
      by_cases hj : j = xs.length
      · -- the end
        have e1 : (((j + 1 : Nat) : Int) = ((("words" : Str) :: xs).length : Int)) := by simp only [List.length_cons]; omega
        rw [decide_eq_true e1]
        refine iteF ?_
        refine ⟨_, rfl, nl, _, rfl, .inl ⟨SqL.of hnj, fun t ht => ?_⟩⟩
        have ntf : fd ≠ t := ne_of_none hfj ht
        refine ⟨_, rfl, _, rfl, fd, _, rfl, DPut.k (k := Sum.inr "words") (by rw [upd_ne ntf]; exact hfj) (Nat.lt_of_le_of_lt hkl (by decide)), ?_⟩
        have nta : a ≠ t := ne_of_none hLj.at_ ht
        have ntq : q ≠ t := ne_of_none hLj.ws ht
        have nqf : q ≠ fd := ne_of hLj.ws hfj (by intro z; cases z)
        have nb : badFrom 2 1 xs = none := by rw [ebj, hj, List.drop_length]; rfl
        have hxe : True := True.intro
        refine fin _ _ (j + 1) (.ref t) _ rfl ⟨?_, ?_⟩ (fun b o e h h2 => ?_) upd_same ?_ (fun _ => ?_) (fun e => absurd (by simp only [List.length_cons]; omega) e) rfl
        · rw [upd_ne nfa.symm, upd_ne nta]; exact hLj.at_
        · rw [upd_ne nqf, upd_ne ntq]; exact hLj.ws
        · rw [upd_ne h2, upd_ne (ne_of_none (frj b o e h) ht)]; exact frj b o e h
        · unfold LV
          rw [if_pos (by decide)]
          refine ⟨t, rfl, ?_⟩
          rw [upd_ne ntf.symm, upd_same, hj, List.take_length]
          rfl
        · rw [eF, nb]
          show (if xs = [] ∧ _ then some 2 else none) = none
          rw [if_neg]
          rintro ⟨z1, z2⟩
          exact z2 rfl
      · have hlt : j < xs.length := by omega
        have e1 : ¬ (((j + 1 : Nat) : Int) = ((("words" : Str) :: xs).length : Int)) := by simp only [List.length_cons]; omega
        rw [decide_eq_false e1]
        refine iteT ?_
        refine ⟨fun σ H2 => ∃ j', j' = j + 1 ∧ j' ≤ xs.length ∧ σ = [some (.ref a), some (.str "words"), some (.ref fd), none, some (.ref nl)] ∧ LnAt H2 C a dx q n ("words" :: xs) ((j' + 1 : Nat) : Int) ∧ H2 nl = some (.lst ((xs.take j').map V.str)) ∧ H2 fd = some (.dK kvs) ∧ (∀ b o, H b = some o → b ≠ a → H2 b = some o) ∧ badFrom 2 1 xs = badFrom 2 (j' + 1) (xs.drop j'),
          fun σ' H' ⟨j', e, r⟩ => ⟨xs.length - j', by omega, j', rfl, r⟩, ?_⟩
        have edr : xs.drop j = xs[j] :: xs.drop (j + 1) := List.drop_eq_getElem_cons hlt
        have ews : (("words" : Str) :: xs)[j + 1]? = some xs[j] := by rw [List.getElem?_cons_succ]; exact List.getElem?_eq_getElem hlt
        refine ⟨_, rfl, .inl ⟨rfl, _, SqL.of hnj⟩, _, rfl, a, dx, _, rfl, hLj.at_, rfl, a, dx, q, dW, n, j + 1, _, allWords, rfl, hLj, by simp only [List.length_cons]; omega, .inr (tW _), fun y hy gy => ?_, fun hno => kE (j + 1 + 1) ?_⟩
        · rw [ews] at hy
          cases hy
          have h4 := hLj.step ((j + 1 + 1 : Nat) : Int)
          have hn4 : upd H2 a (lnO C dx n q ((j + 1 + 1 : Nat) : Int)) nl = some (.lst ((xs.take j).map V.str)) := by rw [upd_ne nna]; exact hnj
          refine ⟨nl, _, _, rfl, rfl, hn4, ?_, ?_⟩
          · rw [List.length_map, List.length_take]
            have : xs.length + 1 ≤ 100000 := hwl
            exact Nat.lt_of_le_of_lt (show min j xs.length ≤ 100000 by omega) (by decide)
          refine ⟨j + 1, rfl, hlt, rfl, ⟨by rw [upd_ne nna.symm]; exact h4.at_, by rw [upd_ne nqn]; exact h4.ws⟩, ?_, ?_, fun b o e h => ?_, ?_⟩
          · rw [upd_same, List.take_add_one, List.getElem?_eq_getElem hlt, List.map_append]
            rfl
          · rw [upd_ne nnf.symm, upd_ne nfa]; exact hfj
          · rw [upd_ne (ne_of_none e hnlH), upd_ne h]; exact frj b o e h
          · rw [ebj, edr]
            exact badFrom_step (decide_eq_true gy) (.inr (.inl rfl))
        · have eb : badFrom 2 1 xs = some (j + 1 + 1) := by
            rw [ebj, edr]
            exact badFrom_bad (decide_eq_false (hno _ ews))
          rw [eF, eb]
    · -- a part
      obtain ⟨n1, n2, n3⟩ := parts_ne hm
      rw [decide_eq_false n1]
      refine iteF ?_
      refine ⟨_, rfl, rfl, _, rfl, ?_⟩
      rw [str_decide, decide_eq_false n2]
      refine iteF ?_
      refine ⟨_, rfl, rfl, _, rfl, ?_⟩
      rw [str_decide, decide_eq_false n3]
      refine iteF ?_
      have k0n : k ≠ 0 := by omega
      have k1n : k ≠ 1 := by omega
      have k2n : k ≠ 2 := by omega
      have gk : ∀ z, goodWord k z = decide (z ∈ partWords x) := fun z => by
        unfold goodWord
        rw [if_neg k0n, if_neg k1n, if_neg k2n, List.getD_eq_getElem?_getD, hk]
        rfl
      have b2 : (∀ z, (x :: xs)[1]? = some z → goodWord k z = false) → lineFault k (x :: xs) = some 2 := fun hno => by
        rw [eF]
        cases xs with
        | nil =>
          show (if ([] : List Str) = [] ∧ k ≠ 2 then some 2 else none) = some 2
          rw [if_pos ⟨rfl, k2n⟩]
        | cons y ys =>
          have z : badFrom k 1 (y :: ys) = some 2 := badFrom_bad (hno y rfl)
          rw [z]
      have b3 : ∀ z, (x :: xs)[1]? = some z → goodWord k z = true → (2 = (x :: xs).length → lineFault k (x :: xs) = none) ∧ (2 ≠ (x :: xs).length → lineFault k (x :: xs) = some (2 + 1)) := fun z hz gz => by
        cases xs with
        | nil => cases hz
        | cons y ys =>
          have ez : y = z := Option.some.inj hz
          rw [← ez] at gz
          rw [eF]
          have e : badFrom k 1 (y :: ys) = badFrom k 2 ys := badFrom_step gz (.inr (.inr rfl))
          rw [e]
          cases ys with
          | nil =>
            refine ⟨fun _ => ?_, fun z => absurd rfl z⟩
            show (if [y] = [] ∧ k ≠ 2 then some 2 else none) = none
            rw [if_neg (fun z => by cases z.1)]
          | cons y2 ys =>
            refine ⟨fun z => by simp at z, fun _ => ?_⟩
            have e2 : badFrom k 2 (y2 :: ys) = some 3 := by
              show (if goodWord k y2 = false ∨ (k ≠ 0 ∧ k ≠ 2 ∧ 1 < 2) then some (2 + 1) else badFrom k (2 + 1) ys) = _
              rw [if_pos (.inr ⟨k0n, k2n, by decide⟩)]
            rw [e2]
      have eV := valV_map (fun q => V.ref (pa q)) x partNames
      rw [if_pos hm] at eV
      refine ⟨_, rfl, a, dx, _, rfl, h1.at_, rfl, _, rfl, Sum.inr x, .ref (pa x), rfl, rfl, eV, ?_⟩
      refine ⟨a, dx, q, pa x, n, 1, _, partWords x, rfl, h1, by simp, .inr (Z.tup x hm _), fun y hy gy => ?_, fun hno => kE 2 (b2 fun z hz => by rw [gk]; exact decide_eq_false (hno z hz))⟩
      have gy2 : goodWord k y = true := by rw [gk]; exact decide_eq_true gy
      have h2 := h1.step ((1 + 1 : Nat) : Int)
      have hf2 : upd H1 a (lnO C dx n q ((1 + 1 : Nat) : Int)) fd = some (.dK kvs) := by rw [upd_ne nfa]; exact hf1
      refine ⟨_, rfl, _, rfl, fd, _, rfl, DPut.k (k := Sum.inr x) hf2 (Nat.lt_of_le_of_lt hkl (by decide)), ?_⟩
      have nqf : q ≠ fd := ne_of h2.ws hf2 (by intro z; cases z)
      refine fin _ _ 2 (.str y) _ rfl ⟨by rw [upd_ne nfa.symm]; exact h2.at_, by rw [upd_ne nqf]; exact h2.ws⟩ (fun b o e h h3 => ?_) upd_same ?_ (b3 y hy gy2).1 (b3 y hy gy2).2 rfl
      · rw [upd_ne h3, upd_ne h]; exact fr1 b o e h
      · unfold LV
        rw [if_neg (by omega)]
        exact ⟨y, hy, gy2, by rw [if_neg k1n]⟩
end
end HP

namespace HP
open PySem PySem.Spec PyProof.Rows L2
abbrev sRead : Stmt := top 25
/-! ### read_scene -/
theorem piece_le {x y p : Str} (h : p ∈ Txt.split x y) : p.length ≤ x.length := by
  have sub : ∀ i j, (Builtin.Str.strSub x i j).length ≤ x.length := fun i j => by
    rw [TL.len_tl, TL.tl_strSub, List.length_take, List.length_drop, TL.len_tl x]
    omega
  unfold Txt.split at h
  split at h
  · rw [List.mem_singleton.mp h]; exact Nat.le_refl _
  · split at h
    · rw [List.mem_singleton.mp h]; exact Nat.le_refl _
    · unfold Builtin.Str.partsBetween at h
      obtain ⟨⟨i, j⟩, _, rfl⟩ := List.mem_map.mp h
      exact sub i j
theorem words_le {x p : Str} (h : p ∈ wordsOf x) : p.length ≤ x.length := piece_le (List.mem_filter.mp h).1
/-- the first line and word that cannot stand, from the line k on -/
def faultFrom : Nat → List Str → Option (Nat × Nat)
  | k, [] => if k < 9 then some (k + 1, 1) else none
  | k, r :: rs => match lineFault k (wordsOf r) with
    | some m => some (k + 1, m)
    | none => faultFrom (k + 1) rs
def lineOf (rows : List Str) (h : Str) : List Str := wordsOf (rows.getD (headL.idxOf h) ("" : Str))
def rdT (rows : List Str) : PyData := .tuple (((lineOf rows "things").drop 1).map .str)
def rdM (rows : List Str) : PyData := .int (digitOf ((lineOf rows "keys").getD 1 ("" : Str)))
def rdR (rows : List Str) : Option (List (Key × PyData)) := some (dicD fun p => .str ((lineOf rows p).getD 1 ("" : Str)))
def rdW (rows : List Str) : PyData := .tuple (((lineOf rows "words").drop 1).map .str)
theorem idx_head {j : Nat} {h : Str} (e : headL[j]? = some h) : headL.idxOf h = j := by
  have all : ∀ j : Fin 9, headL.idxOf (headL.getD j ("" : Str)) = j := by decide +kernel
  obtain ⟨hj, rfl⟩ := List.getElem?_eq_some_iff.mp e
  have := all ⟨j, hj⟩
  rw [List.getD_eq_getElem?_getD, e] at this
  exact this
theorem nodup_head : headL.Nodup := by decide +kernel
/-- the class Line can be called -/
def LnMk (P : Program) (w : World) (K : PySem.W.Frag) (mg : Str → Option Value) (base : Heap) (C : Addr) : Prop :=
  ∃ (fI : Addr) (fd : FuncData), mg "Line" = some (.ref C) ∧ Mk K C fI ∧ Binds K fd ["self", "text", "number"] [] ∧ FnOk P w K mg base CX0 1 fI fd ["self", "text", "number"] (spLine C)
theorem pfLine {X : Cx} {C : Addr} {n : Nat} {e : Expr} {es : List Expr} {t : TA} {p pos : Pos} (M : LnMk X.prog X.w X.K X.mg X.base C) (hr : Room n X.A) (hn : 2 ≤ n) (ha : PA X (e :: es) t) (hg : Gl X "Line" := by rfl)
    (he : starEach (e :: es) X.env = (false, eval e X.env) :: starEach es X.env := by rfl) (hpl : (backTo pos (starEach es X.env)).any (·.1) = false := by rfl) : PE X (.Call (.Name "Line" p) (e :: es) [] pos) (tMake C (spLine C) [] E0 t) := by
  obtain ⟨fI, fd, h1, h2, h3, h4⟩ := M
  exact pe_make h2 h4 (hr.mono hn) hg h1 h3 .nil pass0 ha (by decide) he hpl
theorem mono_len {K : PySem.W.Frag} {i : Nat} : MonoE (tCB (rLenQ K) (tCons (tVar i) tNil)) := fun σ H A B hab q => by
  obtain ⟨v, e, p, ys, e1, e2, e3⟩ := q
  exact ⟨v, e, p, ys, e1, e2, hab _ _ e3⟩
section
variable {P : Program} {w : World} {K : PySem.W.Frag} {mg : Str → Option Value} {base : Heap}
def spRead (K : PySem.W.Frag) (C cT : Addr) (c : Cls4) : Sp := fun vs H Q E => ∃ (x : Str), vs = [.str x] ∧ x.length ≤ 80000 ∧ (∀ r ∈ Txt.split x "\n", (wordsOf r).length < 60) ∧
  (∀ n m, faultFrom 0 (Txt.split x "\n") = some (n, m) → RaiseT cT E (n : Int) (m : Int)) ∧
  (faultFrom 0 (Txt.split x "\n") = none → (sceneFault (rdT (Txt.split x "\n")) (rdM (Txt.split x "\n")) (rdR (Txt.split x "\n")) (rdW (Txt.split x "\n")) = none →
      ∀ H' b, Same H H' → H b = none → SceneAt K C H' b (scOf (rdT (Txt.split x "\n")) (rdM (Txt.split x "\n")) (rdR (Txt.split x "\n")) (rdW (Txt.split x "\n"))) → Q (.ref b) H') ∧
    ∀ f, sceneFault (rdT (Txt.split x "\n")) (rdM (Txt.split x "\n")) (rdR (Txt.split x "\n")) (rdW (Txt.split x "\n")) = some f → (∀ p, f ≠ .rule p) → Raised c H E f)
theorem scRead : FnScope ["text", "heads", "rows", "found", "index", "row", "line", "part"] ["text"] (defScope sRead) := ⟨rfl, rfl, rfl, by decide +kernel, rfl, by decide +kernel, by decide +kernel⟩
theorem ok_read {C cL cT dP : Addr} {c : Cls4} {pa : Str → Addr} (D : Dat K mg "read_scene" sRead) (T : Fr mg) (Z : Pt P w K mg dP pa) (ML : LnMk P w K mg base cL) (MR : MCl P w K mg base (L2.CX P w) 3 cL "refuse" (spRefuse cL cT))
    (FR : Fn P w K mg base (L2.CX P w) 5 "read_line" (spRL cL cT)) (M : ScMk P w K mg base C c) (XT : Exc1 P w K mg base "InvalidText" cT "line" (spInit2 cT "line" "word")) : Fn P w K mg base (L2.CX P w) 6 "read_scene" (spRead K C cT c) := by
  refine Fn.of D scRead (fun _ _ _ _ _ _ us hl => match us, hl with | [_], _ => rfl) (fun vs H Q E h => ?_) (fun f cdv A outer s H vs Q E hr h => ?_)
  · obtain ⟨x, rfl, _⟩ := h
    rfl
  · obtain ⟨x, rfl, hx, hws, kT, kS⟩ := h
    have hu : _ < cLine := hu_of hr
    refine ⟨_, (pss_cons (ps_set (i := 1) scRead.nd rfl (Or.inl rfl) (pe_lst (pa_cons pe_str (pa_cons pe_str (pa_cons pe_str (pa_starW Z.wd (by show 6 ≤ 1000; decide) rfl (pe_glob (v := .ref dP) (by rfl) Z.gl rfl) pa_nil))))))
      (pss_cons (ps_set (i := 2) scRead.nd rfl (Or.inl rfl) (pe_split (pv 0) pe_str))
      (pss_cons (ps_set (i := 3) scRead.nd rfl (Or.inr rfl) pe_dnewK)
      (pss_cons (ps_for (passes_of rfl) rfl (pi_enum (by rfl) (T.fr "enumerate" (by decide +kernel)) (pa_cons (pv 2) pa_nil)) (pg_tup (by rfl) (pgs_cons (pg_name (i := 4) scRead.nd rfl (Or.inl rfl)) (pgs_cons (pg_name (i := 5) scRead.nd rfl (Or.inl rfl)) pgs_nil))) (pss_cons (ps_set (i := 6) scRead.nd rfl (Or.inl rfl) (pfLine ML hr (by decide) (pa_cons (pv 5) (pa_cons (pe_op op_add (pv 4) pe_int) pa_nil))))
      (pss_cons (ps_if (pt_cmpR op_ge (pv 4) (pe_callB (kLen (K := K)) (by rfl) (T.fr "len" (by decide +kernel)) (by decide +kernel) (pa_cons (pv 1) pa_nil)) (nomark _)) (pss_one (ps_expr (peM0 MR hr (by decide) (passes_call (takes_of rfl rfl rfl rfl) (fun _ _ _ _ h => h)) (pv 6)))) pss_nil)
      (pss_one (ps_expr (pfX FR hr (passes_call (takes_of rfl rfl rfl rfl) (fun _ _ _ _ h => h)) (pa_cons (pv 6) (pa_cons (pe_ix (ixL (K := K)) (pv 1) (pv 4) (fun _ _ => rfl)) (pa_cons (pv 3) pa_nil)))))))))
      (pss_cons (ps_if (pt_cmpR op_lt (pe_callB (kLen (K := K)) (by rfl) (T.fr "len" (by decide +kernel)) (by decide +kernel) (pa_cons (pv 2) pa_nil)) (pe_callB (kLen (K := K)) (by rfl) (T.fr "len" (by decide +kernel)) (by decide +kernel) (pa_cons (pv 1) pa_nil)) (nomark _)) (pss_one (ps_raise2 XT rfl hr (by decide) (takes_of rfl rfl rfl rfl) (pe_op op_add (pe_callB (kLen (K := K)) (by rfl) (T.fr "len" (by decide +kernel)) (by decide +kernel) (pa_cons (pv 2) pa_nil)) pe_int) pe_int (mono_add mono_len monoC) monoC)) pss_nil)
      (pss_one (ps_ret (peScene (K := K) M hr (by decide) (passes_call (takes_of rfl rfl rfl rfl) (fun _ _ _ _ h => h)) (pa_cons (pe_dget hu (pv 3) pe_str (fun _ _ => rfl)) (pa_cons (pe_dget hu (pv 3) pe_str (fun _ _ => rfl)) (pa_cons (pe_dc (own := [("part", 7)]) (g := gName 7) (by rfl) scRead.nd (pi_keysW Z.wd (pe_glob (v := .ref dP) (by rfl) Z.gl rfl)) (blkOk_by (own := [("part", 7)]) (N := ["text", "heads", "rows", "found", "index", "row", "line", "part"]) (sc := defScope sRead) (by decide +kernel)) (fun _ _ _ _ _ => (pg_name (i := 7) scRead.nd rfl (Or.inl rfl))) (fun _ _ _ _ _ => pts_nil) (fun _ _ _ _ _ => (pv 7)) (fun _ _ _ _ _ => (pe_dget hu (pv 3) (pv 7) (fun _ _ => rfl)))) (pa_cons (pe_dget hu (pv 3) pe_str (fun _ _ => rfl)) pa_nil)))))))))))), ?_⟩
    generalize erows : Txt.split x "\n" = rows at hws kT kS
    have hrl : rows.length ≤ 80002 := by rw [← erows]; exact Nat.le_trans (split_le x "\n") (Nat.add_le_add_right hx 2)
    have hrx : ∀ r ∈ rows, r.length ≤ 80000 := fun r hr0 => by rw [← erows] at hr0; exact Nat.le_trans (piece_le hr0) hx
    -- heads, rows, found
    refine ⟨rfl, (by show 9 ≤ sizeLine; decide), fun hd hhd => ?_⟩
    refine ⟨_, rfl, ⟨x, rfl⟩, x, "\n", rfl, rfl, rfl, Nat.le_trans (Nat.add_le_add_right hx 2) (by decide), fun rl hrl0 => ?_⟩
    rw [erows]
    intro fd hfd0
    generalize eH1 : upd (upd (upd H hd (.lst (headL.map V.str))) rl (.lst (rows.map V.str))) fd (.dK []) = H1
    have nhr : hd ≠ rl := fun e => by rw [← e, upd_same] at hrl0; cases hrl0
    have hrlH : H rl = none := by rw [upd_ne nhr.symm] at hrl0; exact hrl0
    have nhf : hd ≠ fd := fun e => by rw [← e, upd_ne nhr, upd_same] at hfd0; cases hfd0
    have nrf : rl ≠ fd := fun e => by rw [← e, upd_same] at hfd0; cases hfd0
    have hfdH : H fd = none := by rw [upd_ne nrf.symm, upd_ne nhf.symm] at hfd0; exact hfd0
    have hd1 : H1 hd = some (.lst (headL.map V.str)) := by rw [← eH1, upd_ne nhf, upd_ne nhr, upd_same]
    have hr1 : H1 rl = some (.lst (rows.map V.str)) := by rw [← eH1, upd_ne nrf, upd_same]
    have hf1 : H1 fd = some (.dK []) := by rw [← eH1, upd_same]
    have s1 : Same H H1 := by rw [← eH1]; exact same_mut (same_mut (same_mut (Same.refl H) hhd) hrlH) hfdH
    have eH1' : upd (upd (upd H hd (.lst ([V.str "things", V.str "keys", V.str "words"] ++ ((partNames.map fun p => ((Sum.inr p : Key), V.ref (pa p))).map fun kv => kV kv.1)))) rl (.lst (rows.map V.str))) fd (.dK []) = H1 := eH1
    show tSeq _ _ _ _ (upd (upd (upd H hd (.lst ([V.str "things", V.str "keys", V.str "words"] ++ ((partNames.map fun p => ((Sum.inr p : Key), V.ref (pa p))).map fun kv => kV kv.1)))) rl (.lst (rows.map V.str))) fd (.dK []))
    rw [eH1']
    -- the loop
    refine ⟨_, rfl, rl, _, rfl, SqL.of hr1, for_it (walk_enum (K := K) (a := rl) (xs := rows.map V.str)) (fun i σ H2 => ∃ (o1 o2 o3 : Option V) (g : Str → V), σ = [some (.str x), some (.ref hd), some (.ref rl), some (.ref fd), o1, o2, o3, none] ∧ i ≤ 9 ∧ (∀ b o, H1 b = some o → b ≠ fd → H2 b = some o) ∧
      H2 fd = some (.dK ((headL.take i).map fun h => (Sum.inr h, g h))) ∧ (∀ j h, j < i → headL[j]? = some h → LV H2 j (wordsOf (rows.getD j ("" : Str))) (g h) ∧ lineFault j (wordsOf (rows.getD j ("" : Str))) = none) ∧ faultFrom 0 rows = faultFrom i (rows.drop i))
      ⟨none, none, none, fun _ => .non, rfl, by decide, fun b o e _ => e, hf1, fun j h z => absurd z (Nat.not_lt_zero _), rfl⟩ (fun i σ H2 _ ⟨_, _, _, _, _, _, fr, _⟩ => SqL.of (fr _ _ hr1 nrf)) ?_ ?_⟩
    · rintro i v σ H2 H3 hi ⟨o1, o2, o3, g, rfl, hi9, fr2, hf2, lv2, eb2⟩ ⟨Tt, v1, v2, rfl, hTt, rfl, e1, e2⟩
      cases e1
      rw [List.length_map] at hi
      dsimp only at e2
      rw [List.getElem?_map, List.getElem?_eq_getElem hi] at e2
      cases e2
      refine ⟨Tt, _, rfl, SqT.of upd_same, rfl, ?_⟩
      refine ⟨_, _, rfl, _, _, rfl, rfl, ?_⟩
      have s3 : Same H2 (upd H2 Tt (.tup [.int (i : Nat), .str rows[i]])) := same_new (Same.refl H2) hTt
      show tSeq _ _ _ _ (upd H2 Tt (.tup [.int (i : Nat), .str rows[i]]))
      generalize upd H2 Tt (.tup [.int (i : Nat), .str rows[i]]) = H3 at s3
      -- Line(row, index + 1)
      refine ⟨_, rfl, _, rfl, _, _, rfl, rfl, fun a dx na ndx ne => ?_⟩
      refine ⟨a, dx, rows[i], (i : Int) + 1, rfl, upd_same, Nat.le_trans (hrx _ (List.getElem_mem hi)) (by decide), fun H4 q fr4 hq h4 => ⟨rfl, ?_⟩⟩
      have fr34 : ∀ b o, H3 b = some o → H4 b = some o := fun b o e => fr4 b o (by rw [upd_ne (ne_of_none e na), upd_ne (ne_of_none e ndx)]; exact e) (ne_of_none e na)
      have s24 : Same H2 H4 := fun b o e => fr34 b o (s3 b o e)
      have hf4 := s24 _ _ hf2
      have hd4 : H4 hd = some (.lst (headL.map V.str)) := s24 _ _ (fr2 _ _ hd1 nhf)
      have edr : rows.drop i = rows[i] :: rows.drop (i + 1) := List.drop_eq_getElem_cons hi
      have egd : rows.getD i ("" : Str) = rows[i] := by rw [List.getD_eq_getElem?_getD, List.getElem?_eq_getElem hi]; rfl
      refine ⟨_, rfl, _, rfl, hd, _, rfl, .inl (SqL.of hd4), _, _, rfl, rfl, _, rfl, ?_⟩
      have e9 : ((headL.map V.str).length : Int) = 9 := rfl
      rw [e9]
      by_cases h9 : i < 9
      · rw [decide_eq_false (show ¬ ((i : Int) ≥ 9) by omega)]
        refine iteF ?_
        obtain ⟨head, hk⟩ : ∃ h, headL[i]? = some h := ⟨headL[i]'h9, List.getElem?_eq_getElem h9⟩
        refine ⟨_, rfl, _, rfl, _, rfl, hd, _, _, _, rfl, rfl, SqL.of hd4, at_str hk, _, rfl, ?_⟩
        have hxs : ∀ z ∈ wordsOf rows[i], z.length ≤ 100000 := fun z hz => Nat.le_trans (words_le hz) (Nat.le_trans (hrx _ (List.getElem_mem hi)) (by decide))
        refine ⟨a, dx, q, fd, (i : Int) + 1, wordsOf rows[i], i, head, _, rfl, hk, h4, hf4, ?_, hxs, Nat.le_trans (Nat.le_of_lt (hws _ (List.getElem_mem hi))) (by decide), fun hno H5 v fr5 hf5 lv5 => ?_, fun m hm => ?_⟩
        · rw [List.length_map, List.length_take]
          omega
        · have naf : a ≠ fd := fun e => by rw [e] at na; rw [s3 _ _ hf2] at na; cases na
          have hne : ∀ j h, j < i → headL[j]? = some h → h ≠ head := fun j h hj e z => by
            rw [z] at e
            have := idx_head e
            rw [idx_head hk] at this
            omega
          refine ⟨_, _, _, fun h => if h = head then v else g h, rfl, h9, fun b o e h => ?_, ?_, fun j h hj e => ?_, ?_⟩
          · have e2 := fr2 b o e h
            exact fr5 b o (s24 b o e2) (ne_of_none (s3 _ _ e2) na) h
          · rw [hf5, List.take_add_one, hk, List.map_append]
            have nk : valV ((headL.take i).map fun h => ((Sum.inr h : Key), g h)) (Sum.inr head) = none := by
              rw [valV_map, if_neg (not_in_take nodup_head hk)]
            rw [putK_new _ nk]
            refine congrArg (fun z => some (HO.dK z)) ?_
            have e1 : ((headL.take i).map fun h => ((Sum.inr h : Key), g h)) = (headL.take i).map fun h => (Sum.inr h, if h = head then v else g h) := by
              refine List.map_congr_left fun h hm => ?_
              rw [if_neg (fun z : h = head => not_in_take nodup_head hk (by rw [← z]; exact hm))]
            rw [e1]
            show _ = _ ++ [(Sum.inr head, if head = head then v else g head)]
            rw [if_pos rfl]
          · by_cases hj2 : j = i
            · subst hj2
              rw [hk] at e
              cases e
              dsimp only
              rw [if_pos rfl, egd]
              exact ⟨lv5, hno⟩
            · have hj3 : j < i := by omega
              dsimp only
              rw [if_neg (hne j h hj3 e)]
              refine ⟨(lv2 j h hj3 e).1.mono fun t o e1 e2 => ?_, (lv2 j h hj3 e).2⟩
              have e3 : t ≠ fd := fun z => by
                have l := (lv2 j h hj3 e).1
                unfold LV at l
                split at l
                · obtain ⟨t2, e4, e5⟩ := l
                  rw [e1] at e4
                  cases e4
                  rw [z, hf2] at e5
                  cases e5
                · obtain ⟨y, _, _, e5⟩ := l
                  rw [e1] at e5
                  split at e5 <;> cases e5
              exact fr5 t o (s24 t o e2) (ne_of_none (s3 _ _ e2) na) e3
          · rw [eb2, edr]
            show (match lineFault i (wordsOf rows[i]) with
              | some m => some (i + 1, m)
              | none => faultFrom (i + 1) (rows.drop (i + 1))) = _
            rw [hno]
        · refine kT (i + 1) m ?_
          rw [eb2, edr]
          show (match lineFault i (wordsOf rows[i]) with
            | some m => some (i + 1, m)
            | none => faultFrom (i + 1) (rows.drop (i + 1))) = _
          rw [hm]
      · have hi2 : i = 9 := by omega
        rw [decide_eq_true (show ((i : Int) ≥ 9) by omega)]
        refine iteT ?_
        refine ⟨_, rfl, a, dx, _, rfl, h4.at_, rfl, a, dx, q, _, 0, _, rfl, h4, ?_⟩
        refine kT (i + 1) 1 ?_
        rw [eb2, edr]
        show (match lineFault i (wordsOf rows[i]) with
          | some m => some (i + 1, m)
          | none => faultFrom (i + 1) (rows.drop (i + 1))) = _
        have e1 : lineFault i (wordsOf rows[i]) = some 1 := by
          generalize wordsOf rows[i] = ws
          cases ws with
          | nil => rfl
          | cons y ys =>
            show (if headL[i]? = some y then _ else some 1) = some 1
            rw [if_neg]
            intro e
            rw [hi2] at e
            cases e
        rw [e1]
    · rintro σ H2 ⟨o1, o2, o3, g, rfl, hi9, fr2, hf2, lv2, eb2⟩
      rw [List.length_map] at hi9 hf2 lv2 eb2
      have hd2 := fr2 _ _ hd1 nhf
      have hr2 := fr2 _ _ hr1 nrf
      refine ⟨_, rfl, rl, _, rfl, .inl (SqL.of hr2), _, rfl, hd, _, rfl, .inl (SqL.of hd2), _, _, rfl, rfl, _, rfl, ?_⟩
      have e9 : ((headL.map V.str).length : Int) = 9 := rfl
      rw [e9, List.length_map]
      rw [List.drop_length] at eb2
      have eb3 : faultFrom 0 rows = if rows.length < 9 then some (rows.length + 1, 1) else none := eb2
      by_cases h9 : rows.length < 9
      · rw [decide_eq_true (show ((rows.length : Int) < 9) by omega)]
        refine iteT ?_
        refine ⟨_, rfl, rl, _, rfl, .inl (SqL.of hr2), _, _, rfl, rfl, fun d hd => ?_⟩
        rw [List.length_map]
        exact kT (rows.length + 1) 1 (by rw [eb3, if_pos h9]) _ d upd_same
      · rw [decide_eq_false (show ¬ ((rows.length : Int) < 9) by omega)]
        refine iteF ?_
        have hn : rows.length = 9 := by omega
        obtain ⟨kS1, kS2⟩ := kS (by rw [eb3, if_neg h9])
        have s2 : Same H H2 := fun b o e => fr2 b o (s1 b o e) (ne_of_none e hfdH)
        have hf3 : H2 fd = some (.dK (headL.map fun h => (Sum.inr h, g h))) := by
          rw [hf2, hn]
          rfl
        have val : ∀ h ∈ headL, valV (headL.map fun h => ((Sum.inr h : Key), g h)) (Sum.inr h) = some (g h) := fun h hm => by rw [valV_map, if_pos hm]
        have lvh : ∀ j h, headL[j]? = some h → LV H2 j (lineOf rows h) (g h) := fun j h e => by
          have hj : j < 9 := (List.getElem?_eq_some_iff.mp e).1
          have := (lv2 j h (by omega) e).1
          unfold lineOf
          rw [idx_head e]
          exact this
        -- found[..]
        refine ⟨_, rfl, fd, _, rfl, (by rw [← val "things" (by decide)]; exact DGet.k (k := Sum.inr "things") hf3), ?_⟩
        refine ⟨_, rfl, fd, _, rfl, (by rw [← val "keys" (by decide)]; exact DGet.k (k := Sum.inr "keys") hf3), ?_⟩
        refine ⟨rfl, fun D hD => ?_⟩
        have pg : ∀ p ∈ partNames, ∃ y, (lineOf rows p)[1]? = some y ∧ y ∈ partWords p ∧ g p = .str y := fun p hp => by
          obtain ⟨j, hj⟩ := List.mem_iff_getElem?.mp (show p ∈ headL from List.mem_cons_of_mem _ (List.mem_cons_of_mem _ (List.mem_cons_of_mem _ hp)))
          have l := lvh j p hj
          have n3 := parts_ne hp
          have h3 : 3 ≤ j := by
            rcases headL_cases hj with ⟨_, e⟩ | ⟨_, e⟩ | ⟨_, e⟩ | ⟨h, _⟩
            · exact absurd e n3.1
            · exact absurd e n3.2.1
            · exact absurd e n3.2.2
            · exact h
          unfold LV at l
          rw [if_neg (by omega)] at l
          obtain ⟨y, e1, e2, e3⟩ := l
          unfold goodWord at e2
          rw [if_neg (by omega), if_neg (by omega), if_neg (by omega), List.getD_eq_getElem?_getD, hj] at e2
          rw [if_neg (by omega)] at e3
          exact ⟨y, e1, of_decide_eq_true e2, e3⟩
        refine dc_it (walkW (kvs := partNames.map fun p => (Sum.inr p, V.ref (pa p)))) (fun j H6 => Same H2 H6 ∧ H6 D = some (.dK ((partNames.take j).map fun p => (Sum.inr p, g p)))) ⟨same_new (Same.refl H2) hD, by rw [upd_same]; rfl⟩ (fun _ _ _ _ => True.intro) (fun j y H6 H7 hj p q => ?_) (fun H6 p => ?_)
        · obtain ⟨rfl, k, v, hk, rfl⟩ := q
          rw [List.getElem?_map] at hk
          obtain ⟨pp, hpi, e⟩ : ∃ p, partNames[j]? = some p ∧ (Sum.inr p, V.ref (pa p)) = (k, v) := by
            cases q : partNames[j]? with
            | none => rw [q] at hk; cases hk
            | some p => rw [q] at hk; exact ⟨p, rfl, Option.some.inj hk⟩
          cases e
          have hpm := List.mem_of_getElem? hpi
          refine ⟨rfl, ?_⟩
          refine lc_yes ?_
          refine ⟨_, rfl, _, rfl, _, rfl, fd, _, rfl, (by rw [← val pp (List.mem_cons_of_mem _ (List.mem_cons_of_mem _ (List.mem_cons_of_mem _ hpm)))]; exact DGet.k (k := Sum.inr pp) (p.1 _ _ hf3)), ?_⟩
          refine ⟨_, Sum.inr pp, rfl, p.2, ?_, same_mut p.1 hD, ?_⟩
          · rw [List.length_map, List.length_take]
            exact Nat.lt_of_le_of_lt (Nat.min_le_right _ _) (by decide)
          · rw [upd_same, List.take_add_one, hpi]
            have nk : valV ((partNames.take j).map fun p => ((Sum.inr p : Key), g p)) (Sum.inr pp) = none := by rw [valV_map, if_neg (not_in_take nodup_parts hpi)]
            rw [putK_new _ nk, List.map_append]
            rfl
        · have e7 : (partNames.take (partNames.map fun p => ((Sum.inr p : Key), V.ref (pa p))).length) = partNames := by rw [List.length_map, List.take_length]
          have hD6 : H6 D = some (.dK (dicV g)) := by
            have z := p.2
            rw [e7] at z
            exact z
          refine ⟨_, rfl, fd, _, rfl, (by rw [← val "words" (by decide)]; exact DGet.k (k := Sum.inr "words") (p.1 _ _ hf3)), ?_⟩
          intro b dx2 nx ndx ne
          have s6 : Same H H6 := s2.trans p.1
          have l0 := lvh 0 "things" rfl
          have l1 := lvh 1 "keys" rfl
          have l2 := lvh 2 "words" rfl
          unfold LV at l0 l1 l2
          rw [if_pos (by decide)] at l0 l2
          rw [if_neg (by decide)] at l1
          obtain ⟨t0, e0, ht0⟩ := l0
          obtain ⟨t2, e2, ht2⟩ := l2
          obtain ⟨y1, ey1, gy1, e1⟩ := l1
          have hrow : ∀ h, (lineOf rows h).length < 60 ∧ ∀ z ∈ lineOf rows h, z.length ≤ 100000 := fun h => by
            unfold lineOf
            cases e : rows[headL.idxOf h]? with
            | none =>
              rw [List.getD_eq_getElem?_getD, e]
              decide +kernel
            | some r =>
              rw [List.getD_eq_getElem?_getD, e]
              have hm := List.mem_of_getElem? e
              exact ⟨hws r hm, fun z hz => Nat.le_trans (words_le hz) (Nat.le_trans (hrx r hm) (by decide))⟩
          have ar : ScArgs K H6 (g "things") (g "keys") (.ref D) (g "words") (rdT rows) (rdM rows) (rdR rows) (rdW rows) := by
            refine ⟨?_, fun ds e z hz => ?_, ?_, .dic ⟨_, hD6, dicP fun q hq => ?_⟩, fun kds e => ?_, ?_, fun ds e => ?_⟩
            · rw [e0]
              exact .tup (SqT.of (p.1 _ _ ht0)) (dpAll_strs _)
            · cases e
              obtain ⟨z2, hz2, e3⟩ := List.mem_map.mp hz
              cases e3
              exact (hrow "things").2 _ (List.mem_of_mem_drop hz2)
            · rw [e1]
              unfold rdM
              rw [List.getD_eq_getElem?_getD, ey1]
              exact .int _
            · obtain ⟨y, h1, h2, h3⟩ := pg q hq
              rw [h3, List.getD_eq_getElem?_getD, h1]
              exact .str _
            · cases e
              refine ⟨by show 6 < 64; decide, ?_⟩
              rw [txts_dic]
              exact ok_partNames
            · rw [e2]
              exact .tup (SqT.of (p.1 _ _ ht2)) (dpAll_strs _)
            · cases e
              rw [List.length_map, List.length_drop]
              have := (hrow "words").1
              omega
          have noR : faultOf (rdR rows) = none := by
            have e : faultOf (rdR rows) = partNames.find? fun p => !goodPart p (some (.str ((lineOf rows p).getD 1 ("" : Str)))) := faultD_dic _
            rw [e]
            refine List.find?_eq_none.mpr fun p hp => ?_
            obtain ⟨y, h1, h2, h3⟩ := pg p hp
            rw [List.getD_eq_getElem?_getD, h1]
            show ¬ (!decide (y ∈ partWords p)) = true
            rw [decide_eq_true h2]
            decide
          refine scene_use nx ndx ne ar (fun h H7 s7 st => kS1 h H7 b (s6.trans s7) (s6.free nx) st) (fun f h => (kS2 f h fun q e => ?_).same s6)
          rw [e] at h
          unfold sceneFault at h
          rw [noR] at h
          split at h
          · split at h
            · dsimp only at h
              split at h <;> cases h
            · cases h
          · cases h
end
end HP

namespace HP
open PySem PySem.Spec PyProof.Rows L2
abbrev sRows : Stmt := top 31
/-! ### _law_rows -/
/-- the words of the lines -/
def rowsOf (names : List Str) (many : Int) (f : Str → Str) (words : List Str) : List (List Str) :=
  ("things" :: names) :: ["keys", Str.ofString (toString many)] :: ("words" :: words) :: partNames.map fun p => [p, f p]
def joinW (ws : List Str) : Str := Txt.join " " ws
theorem tl_joinW (ws : List Str) : TL.tl (joinW ws) = TL.joinL [32] (ws.map TL.tl) := by
  show TL.tl (Txt.join " " ws) = _
  rw [TL.join_eq, TL.tl_join]
  rfl
theorem join_cons {x y : Str} {ws : List Str} (h : y = x ++ (" " : Str)) (hw : ws ≠ []) : y ++ joinW ws = joinW (x :: ws) := by
  refine TL.ext_tl ?_
  cases ws with
  | nil => exact absurd rfl hw
  | cons z zs =>
    rw [TL.tl_append, tl_joinW, tl_joinW, h, TL.tl_append]
    show _ = TL.tl x ++ ([32] ++ TL.joinL [32] ((z :: zs).map TL.tl))
    rw [List.append_assoc]
    rfl
theorem join_two (x y : Str) : x ++ (" " : Str) ++ y = joinW [x, y] := by
  refine TL.ext_tl ?_
  rw [TL.tl_append, TL.tl_append, tl_joinW]
  show _ = TL.tl x ++ ([32] ++ TL.tl y)
  rw [List.append_assoc]
  rfl
theorem sum_le {α : Type} (g : α → Nat) (b : Nat) : ∀ l : List α, (∀ x ∈ l, g x ≤ b) → (l.map g).sum ≤ l.length * b
  | [], _ => by simp
  | x :: l, h => by
    have h1 := h x List.mem_cons_self
    have h2 := sum_le g b l fun y hy => h y (List.mem_cons_of_mem _ hy)
    rw [List.map_cons, List.sum_cons, List.length_cons, Nat.succ_mul]
    omega
theorem Drawn4.small {names : List Str} {many : Int} {f : Str → Str} {words : List Str} {m w : Int} (d : Drawn4 names many f words m w) (hw : w ≤ 9) : names.length ≤ 4 ∧ names ≠ [] ∧ (∀ x ∈ names, x ∈ fourNames) ∧ words.length ≤ 9 := by
  obtain ⟨k, h1, h2, rfl⟩ := d.nm
  refine ⟨by rw [List.length_take]; omega, fun e => ?_, fun x hx => List.mem_of_mem_take hx, ?_⟩
  · have := congrArg List.length e
    rw [List.length_take] at this
    have h4 : fourNames.length = 4 := rfl
    simp only [List.length_nil] at this
    omega
  · have := d.wl
    omega
theorem catT_use {K : PySem.W.Frag} {H : Hp} {a : Addr} {xs ys : List V} {Q : VK} (ha : SqT K H a xs) (k : ∀ p H', Same H H' → SqT K H' p (xs ++ ys) → Q (.ref p) H') : (ys = [] → Q (.ref a) H) ∧ (ys ≠ [] → ∀ p, H p = none → Q (.ref p) (upd H p (.tup (xs ++ ys)))) :=
  ⟨fun e => k a H (Same.refl H) (by rw [e, List.append_nil]; exact ha), fun _ p hp => k p _ (same_new (Same.refl H) hp) (SqT.of upd_same)⟩
def rCatT2 (K : PySem.W.Frag) : R2 := fun x y H Q => ∃ a b xs ys, x = .ref a ∧ y = .ref b ∧ SqT K H a xs ∧ SqT K H b ys ∧ xs ≠ [] ∧ xs.length + ys.length ≤ sizeLine ∧ ∀ p H', Same H H' → SqT K H' p (xs ++ ys) → Q (.ref p) H'
theorem oCatT {X : Cx} {K : PySem.W.Frag} (hK : X.K = K := by rfl) : OpR X (binaryOp .Add) (rCatT2 K) := by
  subst hK
  intro pins s σ H x y v u Q I rx ry h
  obtain ⟨a, b, xs, ys, h1, h2, h3, h4, h5, h6, h7⟩ := h
  exact op_catT pins s σ H x y v u Q I rx ry ⟨a, b, xs, ys, h1, h2, h3, h4, h5, h6, catT_use h3 h7⟩
theorem four_len : ∀ x ∈ fourNames, x.length ≤ 2 := by decide +kernel
theorem word_len : ∀ x ∈ allWords, x.length ≤ 6 := by decide +kernel
theorem part_len : ∀ p ∈ partNames, p.length ≤ 8 ∧ ∀ x ∈ partWords p, x.length ≤ 6 := by decide +kernel
theorem join_len {ws : List Str} {b : Nat} (h : ∀ x ∈ ws, x.length ≤ b) : (joinW ws).length ≤ ws.length * b + ws.length := by
  have h1 := StrLaws.join_length_le " " ws
  have h2 := sum_le (fun x : Str => x.length) b ws h
  have e : joinW ws = Str.join " " ws := TL.join_eq " " ws
  rw [e]
  have e1 : ((" " : Str)).length = 1 := rfl
  rw [e1, Nat.mul_one] at h1
  omega
section
variable {P : Program} {w : World} {K : PySem.W.Frag} {mg : Str → Option Value} {base : Heap}
def spRows : Sp := fun vs H Q _ => ∃ (a : Addr) (names : List Str) (many : Int) (f : Str → Str) (words : List Str) (m w : Int), vs = [.ref a] ∧ Five H a names many f words ∧ Drawn4 names many f words m w ∧ m ≤ 3 ∧ w ≤ 9 ∧
  ∀ H' q, Same H H' → H q = none → H' q = some (.lst ((rowsOf names many f words).map fun ws => V.str (joinW ws))) → Q (.ref q) H'
theorem scRows : FnScope ["_law_t", "_law_rows_here", "_law_part"] ["_law_t"] (defScope sRows) := ⟨rfl, rfl, rfl, by decide +kernel, rfl, by decide +kernel, by decide +kernel⟩
theorem ok_rows (D : Dat K mg "_law_rows" sRows) (T : Fr mg) : Fn P w K mg base CX0 1 "_law_rows" spRows := by
  refine Fn.of0 D scRows (fun _ _ _ _ _ _ us hl => match us, hl with | [_], _ => rfl) (fun vs H Q E h => ?_) (fun f cdv A outer s H vs Q E hr h => ?_)
  · obtain ⟨a, names, many, f, words, m, w, rfl, _⟩ := h
    rfl
  · obtain ⟨a, names, many, g, words, m, w, rfl, ⟨n, r, t, e, ha, hn, hr0, ht, he⟩, dr, hm3, hw9, k⟩ := h
    have hu : _ < cLine := hu_of hr
    refine ⟨_, (pss_cons (ps_set (i := 1) scRows.nd rfl (Or.inl rfl) (pe_lst (pa_cons (pe_op op_add_str pe_str (pe_join pe_str (pe_ix (ixL (K := K)) (pv 0) pe_int (fun _ _ => rfl)))) (pa_cons (pe_op op_add_str pe_str (pe_callTy call_str_int (by rfl) (T.fr "str" (by decide +kernel)) (by decide +kernel) (pa_cons (pe_ix (ixL (K := K)) (pv 0) pe_int (fun _ _ => rfl)) pa_nil))) (pa_cons (pe_join pe_str (pe_op (oCatT (K := K)) (pe_tup (pa_cons pe_str pa_nil)) (pe_ix (ixL (K := K)) (pv 0) pe_int (fun _ _ => rfl)))) pa_nil)))))
      (pss_one (ps_ret (pe_op op_cat (pv 1) (pe_lc (own := [("_law_part", 2)]) (g := gName 2) (by rfl) scRows.nd (iL (K := K) (pe_callB (kSortS (K := K)) (by rfl) (T.fr "sorted" (by decide +kernel)) (by decide +kernel) (pa_cons (pe_callTy (call_list_dK rfl) (by rfl) (T.fr "list" (by decide +kernel)) (by decide +kernel) (pa_cons (pe_ix (ixL (K := K)) (pv 0) pe_int (fun _ _ => rfl)) pa_nil)) pa_nil))) (blkOk_by (own := [("_law_part", 2)]) (N := ["_law_t", "_law_rows_here", "_law_part"]) (sc := defScope sRows) (by decide +kernel)) (fun _ _ _ _ _ => (pg_name (i := 2) scRows.nd rfl (Or.inl rfl))) (fun _ _ _ _ _ => pts_nil) (fun _ _ _ _ _ => (pe_op op_add_str (pe_op op_add_str (pv 2) pe_str) (pe_dget hu (pe_ix (ixL (K := K)) (pv 0) pe_int (fun _ _ => rfl)) (pv 2) (fun _ _ => rfl))))))))), ?_⟩
    obtain ⟨n4, nne, nin, w9⟩ := dr.small hw9
    have s1000 : ∀ z : Nat, z ≤ 1000 → z ≤ sizeLine := fun z h => Nat.le_trans h (by decide)
    have hm1 := dr.m1
    have hm2 := dr.m2
    have ln : (joinW names).length ≤ 12 := by
      have := join_len (b := 2) (ws := names) fun x hx => four_len x (nin x hx)
      omega
    -- 'things ' + ' '.join(t[0])
    refine ⟨⟨" ", rfl⟩, _, rfl, a, _, 0, _, rfl, rfl, SqL.of ha, rfl, " ", n, names, rfl, rfl, .inr (SqT.of hn), ?_, _, _, rfl, rfl, ?_, ?_⟩
    · have := sum_le (fun x : Str => x.length) 2 names fun x hx => four_len x (nin x hx)
      have e1 : ((" " : Str)).length = 1 := rfl
      rw [e1]
      omega
    · have e1 : (("things " : Str)).length = 7 := rfl
      rw [e1]
      exact s1000 _ (show 7 + (joinW names).length ≤ 1000 by omega)
    -- 'keys ' + str(t[1])
    have lm : (Str.ofString (toString many)).length = 1 := by
      have : many = 1 ∨ many = 2 ∨ many = 3 := by omega
      rcases this with rfl | rfl | rfl <;> rfl
    refine ⟨_, rfl, a, _, 1, _, rfl, rfl, SqL.of ha, rfl, many, rfl, Nat.lt_of_le_of_lt (Nat.log2_le_self _) (by omega), _, _, rfl, rfl, ?_, ?_⟩
    · have e1 : (("keys " : Str)).length = 5 := rfl
      exact s1000 _ (by rw [e1]; show 5 + (Str.ofString (toString many)).length ≤ 1000; rw [lm]; decide)
    -- ' '.join(('words',) + t[3])
    refine ⟨⟨" ", rfl⟩, (by show 1 ≤ sizeLine; decide), fun p0 hp0 => ?_⟩
    have s0 : Same H (upd H p0 (.tup [.str "words"])) := same_new (Same.refl H) hp0
    refine ⟨_, rfl, a, _, 3, _, rfl, rfl, SqL.of (s0 _ _ ha), rfl, p0, t, _, _, rfl, rfl, SqT.of upd_same, SqT.of (s0 _ _ ht), by simp, ?_, fun p2 H2 s2 h2 => ?_⟩
    · rw [List.length_map]
      exact s1000 _ (show 1 + words.length ≤ 1000 by omega)
    have s02 := s0.trans s2
    have hws : ∀ x ∈ ("words" :: words : List Str), x.length ≤ 6 := fun x hx => by
      rcases List.mem_cons.mp hx with rfl | hx
      · decide +kernel
      · exact word_len x (dr.ws x hx)
    refine ⟨" ", p2, "words" :: words, rfl, rfl, .inr h2, ?_, ?_⟩
    · have := sum_le (fun x : Str => x.length) 6 ("words" :: words) hws
      have e1 : ((" " : Str)).length = 1 := rfl
      rw [e1]
      rw [List.length_cons] at this ⊢
      omega
    refine ⟨(by show 3 ≤ sizeLine; decide), fun rl hrl => ?_⟩
    have s3 : Same H (upd H2 rl (.lst [.str ("things " ++ Txt.join " " names), .str ("keys " ++ Str.ofString (toString many)), .str (Txt.join " " ("words" :: words))])) := same_new s02 hrl
    have hrl3 : upd H2 rl (.lst [.str ("things " ++ Txt.join " " names), .str ("keys " ++ Str.ofString (toString many)), .str (Txt.join " " ("words" :: words))]) rl = some (.lst [.str ("things " ++ Txt.join " " names), .str ("keys " ++ Str.ofString (toString many)), .str (Txt.join " " ("words" :: words))]) := upd_same
    generalize upd H2 rl (.lst [.str ("things " ++ Txt.join " " names), .str ("keys " ++ Str.ofString (toString many)), .str (Txt.join " " ("words" :: words))]) = H3 at s3 hrl3 ⊢
    have hrlH : H rl = none := s02.free hrl
    -- the comprehension
    refine ⟨_, rfl, _, rfl, a, _, 2, _, rfl, rfl, SqL.of (s3 _ _ ha), rfl, r, _, rfl, s3 _ _ hr0, fun l hl => ?_⟩
    have ek : ((polOf g).map fun kv => kV kv.1) = partNames.map V.str := by
      unfold polOf
      rw [List.map_map]
      rfl
    rw [ek]
    refine ⟨l, partNames, rfl, SqL.of upd_same, by decide, fun ys sl py sy hsl => ?_⟩
    have ey : ys = partNames := (srtS_only py sy).trans (srtS_self sorted_parts)
    subst ey
    have s5 : Same H3 (upd (upd H3 l (.lst (partNames.map V.str))) sl (.lst (partNames.map V.str))) := same_new (same_new (Same.refl H3) hl) hsl
    have hsl5 : upd (upd H3 l (.lst (partNames.map V.str))) sl (.lst (partNames.map V.str)) sl = some (.lst (partNames.map V.str)) := upd_same
    generalize upd (upd H3 l (.lst (partNames.map V.str))) sl (.lst (partNames.map V.str)) = H5 at s5 hsl5 ⊢
    have s35 := s3.trans s5
    refine ⟨sl, rfl, ⟨_, SqL.of hsl5⟩, fun D hD => ?_⟩
    refine lc_it walk_list (Cv H5 D fun i => (partNames.take i).map fun p => V.str (joinW [p, g p])) (cv0 hD rfl) (fun i H6 _ p => SqL.of (p.1 _ _ hsl5)) (fun i v H6 H7 hi p q => ?_) (fun H6 p => ?_)
    · obtain ⟨rfl, hy⟩ := q
      rw [List.getElem?_map] at hy
      obtain ⟨pp, hpp, rfl⟩ : ∃ z, partNames[i]? = some z ∧ V.str z = v := by
        cases q : partNames[i]? with
        | none => rw [q] at hy; cases hy
        | some z => rw [q] at hy; exact ⟨z, rfl, Option.some.inj hy⟩
      have hpm := List.mem_of_getElem? hpp
      have pl := part_len pp hpm
      have gl := pl.2 _ (dr.rl pp hpm)
      refine ⟨rfl, ?_⟩
      refine lc_yes ?_
      refine ⟨_, rfl, _, _, rfl, rfl, s1000 _ (by have e1 : ((" " : Str)).length = 1 := rfl; rw [e1]; omega), ?_⟩
      refine ⟨_, rfl, a, _, 2, _, rfl, rfl, SqL.of (p.1 _ _ (s35 _ _ ha)), rfl, _, rfl, r, .str (g pp), rfl, ?_, ?_⟩
      · have := valV_map (fun q => V.str (g q)) pp partNames
        rw [if_pos hpm] at this
        rw [← this]
        exact DGet.k (k := Sum.inr pp) (p.1 _ _ (s35 _ _ hr0))
      refine ⟨_, _, rfl, rfl, s1000 _ (by rw [Str.length_append]; have e1 : ((" " : Str)).length = 1 := rfl; rw [e1]; omega), ?_⟩
      refine cv_yes hD p.1 p.2 ?_ ?_
      · simp only [List.length_map, List.length_take]
        have h6 : partNames.length = 6 := rfl
        omega
      · rw [List.take_add_one, hpp, List.map_append, join_two]
        rfl
    · have e : H6 D = some (.lst (partNames.map fun p => V.str (joinW [p, g p]))) := by
        have z := p.2
        rw [List.length_map] at z
        dsimp only at z
        rw [List.take_length] at z
        exact z
      refine ⟨rl, D, _, _, rfl, rfl, p.1 _ _ (s5 _ _ hrl3), e, (by show 3 + 6 ≤ sizeLine; decide), fun q hq => ?_⟩
      have s6 := s35.trans p.1
      refine k _ q (same_new s6 hq) (s6.free hq) ?_
      rw [upd_same]
      refine congrArg (fun z => some (HO.lst z)) ?_
      have e1 : ("things " : Str) ++ Txt.join " " names = joinW ("things" :: names) := join_cons rfl nne
      have e2 : ("keys " : Str) ++ Str.ofString (toString many) = joinW ["keys", Str.ofString (toString many)] := join_two "keys" _
      rw [e1, e2]
      unfold rowsOf
      rw [List.map_cons, List.map_cons, List.map_cons, List.map_map]
      rfl
end
end HP

namespace HP
open PySem PySem.Spec PyProof.Rows L2
abbrev sLName : Stmt := top 32
abbrev sLBad : Stmt := top 33
abbrev sLDue : Stmt := top 34
/-! ### _law_name, _law_bad, _law_due -/
theorem isLet_eq (c : Nat) : isLet c = (decide (97 ≤ c) && decide (c ≤ 122)) := by
  have h1 : ∀ c : Fin 123, isLet c = (decide (97 ≤ c.val) && decide (c.val ≤ 122)) := by decide +kernel
  have h2 : ∀ d ∈ az.cps.toList, d ≤ 122 := by decide +kernel
  by_cases h : c < 123
  · exact h1 ⟨c, h⟩
  · have e : decide (c ≤ 122) = false := decide_eq_false (by omega)
    rw [e, Bool.and_false]
    exact decide_eq_false fun hm => h (by have := h2 c hm; omega)
section
variable {P : Program} {w : World} {K : PySem.W.Frag} {mg : Str → Option Value} {base : Heap}
def spLName : Sp := fun vs H Q _ => ∃ (x : Str), vs = [.str x] ∧ x.length ≤ 100000 ∧ ∀ H', Same H H' → Q (.bl (isNameS x)) H'
theorem scLName : FnScope ["_law_word", "_law_sign"] ["_law_word"] (defScope sLName) := ⟨rfl, rfl, rfl, by decide +kernel, rfl, by decide +kernel, by decide +kernel⟩
theorem ok_lname (D : Dat K mg "_law_name" sLName) (T : Fr mg) : Fn P w K mg base CX0 1 "_law_name" spLName := by
  refine Fn.of0 D scLName (fun _ _ _ _ _ _ us hl => match us, hl with | [_], _ => rfl) (fun vs H Q E h => ?_) (fun f cdv A outer s H vs Q E hr h => ?_)
  · obtain ⟨x, rfl, _⟩ := h
    rfl
  · obtain ⟨x, rfl, hx, k⟩ := h
    refine ⟨_, (pss_one (ps_ret (pe_and (pe_chain op_lt op_lt pe_int (pe_callB (kLenV (K := K)) (by rfl) (T.fr "len" (by decide +kernel)) (by decide +kernel) (pa_cons (pv 0) pa_nil)) pe_int) (pe_one (pe_callB (kAll (K := K) rfl) (by rfl) (T.fr "all" (by decide +kernel)) (by decide +kernel) (pa_cons (pe_lc (own := [("_law_sign", 1)]) (g := gName 1) (by rfl) scLName.nd (pi_str (pv 0)) (blkOk_by (own := [("_law_sign", 1)]) (N := ["_law_word", "_law_sign"]) (sc := defScope sLName) (by decide +kernel)) (fun _ _ _ _ _ => (pg_name (i := 1) scLName.nd rfl (Or.inl rfl))) (fun _ _ _ _ _ => pts_nil) (fun _ _ _ _ _ => (pe_chain op_le_str op_le_str pe_str (pv 1) pe_str))) pa_nil)))))), ?_⟩
    have hxl : x.length ≤ sizeLine := Nat.le_trans hx (by decide)
    have en : isNameS x = (decide (0 < (x.length : Int)) && (decide ((x.length : Int) < 9) && x.cps.toList.all isLet)) := by
      unfold isNameS
      rw [decide_eq_decide.mpr (show 1 ≤ (x.length : Int) ↔ 0 < (x.length : Int) by omega), decide_eq_decide.mpr (show (x.length : Int) ≤ 8 ↔ (x.length : Int) < 9 by omega)]
    rw [en] at k
    refine ⟨_, rfl, _, x.length, rfl, ⟨hxl, rfl⟩, _, _, rfl, rfl, _, rfl, ?_⟩
    cases h1 : decide (0 < (x.length : Int)) with
    | false =>
      rw [h1] at k
      exact iteF ⟨_, rfl, iteF (k H (Same.refl H))⟩
    | true =>
      rw [h1] at k
      refine iteT ⟨_, _, rfl, rfl, _, rfl, ?_⟩
      cases h2 : decide ((x.length : Int) < 9) with
      | false =>
        rw [h2] at k
        exact iteF (k H (Same.refl H))
      | true =>
        rw [h2] at k
        have hxs : x.cps.size ≤ 9 := by
          have := of_decide_eq_true h2
          exact Int.ofNat_le.mp (Int.le_of_lt this)
        refine iteT ⟨_, rfl, x, rfl, fun D hD => ?_⟩
        refine lc_it walk_str (Cv H D fun i => ((x.cps.toList.take i).map isLet).map V.bl) (cv0 hD rfl) (fun _ _ _ _ => True.intro) (fun i y H2 H3 hi p q => ?_) (fun H2 p => ?_)
        · obtain ⟨rfl, c, hc, rfl⟩ := q
          refine ⟨rfl, ?_⟩
          refine lc_yes ?_
          have fin : ∃ acc, H3 D = some (.lst acc) ∧ acc.length < sizeLine ∧ Cv H D (fun i => ((x.cps.toList.take i).map isLet).map V.bl) (i + 1) (upd H3 D (.lst (acc ++ [.bl (isLet c)]))) := by
            refine cv_yes hD p.1 p.2 ?_ ?_
            · simp only [List.length_map, List.length_take]
              omega
            · have hc' : x.cps.toList[i]? = some c := by rw [Array.getElem?_toList]; exact hc
              rw [snoc_at isLet hc', List.map_append]
              rfl
          have l1 : (!decide ((⟨#[c]⟩ : Str).cps.toList < ("a" : Str).cps.toList)) = decide (97 ≤ c) := by
            have e1 : ((⟨#[c]⟩ : Str).cps.toList < ("a" : Str).cps.toList) ↔ c < 97 := by
              show [c] < [97] ↔ c < 97
              simp [List.cons_lt_cons_iff]
            rw [decide_eq_decide.mpr e1, ← decide_not, decide_eq_decide.mpr Nat.not_lt]
          have l2 : (!decide (("z" : Str).cps.toList < (⟨#[c]⟩ : Str).cps.toList)) = decide (c ≤ 122) := by
            have e1 : (("z" : Str).cps.toList < (⟨#[c]⟩ : Str).cps.toList) ↔ 122 < c := by
              show [122] < [c] ↔ 122 < c
              simp [List.cons_lt_cons_iff]
            rw [decide_eq_decide.mpr e1, ← decide_not, decide_eq_decide.mpr Nat.not_lt]
          refine ⟨_, rfl, _, _, rfl, rfl, _, rfl, ?_⟩
          rw [l1]
          rw [isLet_eq c] at fin
          cases h3 : decide (97 ≤ c) with
          | false =>
            rw [h3] at fin
            exact iteF fin
          | true =>
            rw [h3] at fin
            refine iteT ⟨_, _, rfl, rfl, ?_⟩
            rw [l2]
            exact fin
        · have e : x.cps.toList.take x.cps.size = x.cps.toList := by rw [← Array.length_toList, List.take_length]
          have hp2 : H2 D = some (.lst ((x.cps.toList.map isLet).map V.bl)) := by rw [← e]; exact p.2
          refine ⟨D, x.cps.toList.map isLet, rfl, SqL.of hp2, ?_⟩
          have e2 : (x.cps.toList.map isLet).all id = x.cps.toList.all isLet := by rw [List.all_map]; rfl
          show Q (.bl ((x.cps.toList.map isLet).all id)) H2
          rw [e2]
          exact k H2 p.1
end
end HP

namespace HP
open PySem PySem.Spec PyProof.Rows L2
section
variable {P : Program} {w : World} {K : PySem.W.Frag} {mg : Str → Option Value} {base : Heap}
def goodL (k : Nat) : List Str := if k = 1 then digits else if k = 2 then allWords else partWords (headL.getD k ("" : Str))
theorem goodWord_L {k : Nat} (h : 1 ≤ k) (x : Str) : goodWord k x = decide (x ∈ goodL k) := by
  unfold goodWord goodL
  rw [if_neg (by omega)]
  split
  · rfl
  · split <;> rfl
def faultV : Option Nat → V
  | some m => .int (m : Int)
  | none => .non
def spLBad : Sp := fun vs H Q _ => ∃ (k : Nat) (wl : Addr) (ws : List Str), vs = [.int (k : Int), .ref wl] ∧ H wl = some (.lst (ws.map V.str)) ∧ okS ws ∧ (∀ x ∈ ws, x.length ≤ 100000) ∧ ws.length ≤ 1000 ∧ ∀ H', Same H H' → Q (faultV (lineFault k ws)) H'
theorem scLBad : FnScope ["_law_k", "_law_words", "_law_heads", "_law_good", "_law_n"] ["_law_k", "_law_words"] (defScope sLBad) := ⟨rfl, rfl, rfl, by decide +kernel, rfl, by decide +kernel, by decide +kernel⟩
theorem ok_lbad (D : Dat K mg "_law_bad" sLBad) (T : Fr mg) (FN : Fn P w K mg base CX0 1 "_law_name" spLName) : Fn P w K mg base CX0 2 "_law_bad" spLBad := by
  refine Fn.of0 D scLBad (fun _ _ _ _ _ _ us hl => match us, hl with | [_, _], _ => rfl) (fun vs H Q E h => ?_) (fun f cdv A outer s H vs Q E hr h => ?_)
  · obtain ⟨k, wl, ws, rfl, _⟩ := h
    rfl
  · obtain ⟨k, wl, ws, rfl, hwl, hok, hxs, hwn, kQ⟩ := h
    have hu : _ < cLine := hu_of hr
    refine ⟨_, (pss_cons (ps_set (i := 2) scLBad.nd rfl (Or.inl rfl) (pe_lst (pa_cons pe_str (pa_cons pe_str (pa_cons pe_str (pa_cons pe_str (pa_cons pe_str (pa_cons pe_str (pa_cons pe_str (pa_cons pe_str (pa_cons pe_str pa_nil)))))))))))
      (pss_cons (ps_if (PW.pt (pw_or (pt_cmpR op_ge (pv 0) (pe_callB (kLen (K := K)) (by rfl) (T.fr "len" (by decide +kernel)) (by decide +kernel) (pa_cons (pv 2) pa_nil)) (nomark _)) (pw_or (pt_cmpR (oEqD (K := K) hr.units) (pv 1) (pe_lst pa_nil) (nomark _)) (pw_or1 (pt_cmpR op_ne (pe_ix (ixL (K := K)) (pv 1) pe_int (fun _ _ => rfl)) (pe_ix (ixL (K := K)) (pv 2) (pv 0) (fun _ _ => rfl)) (nomark _)))))) (pss_one (ps_ret pe_int)) pss_nil)
      (pss_cons (ps_set (i := 3) scLBad.nd rfl (Or.inl rfl) (pe_disp (pps_cons pe_str (pe_lst (pa_cons pe_str (pa_cons pe_str pa_nil))) (pps_cons pe_str (pe_lst (pa_cons pe_str (pa_cons pe_str pa_nil))) (pps_cons pe_str (pe_lst (pa_cons pe_str (pa_cons pe_str pa_nil))) pps_nil))) (by rfl) (by rfl) (fun z => by cases z) (by decide)))
      (pss_cons (ps_expr (eBm (K := K) PySem.F.plainAttrs_dict PySem.F.slot_dict_update PySem.F.type_dict_update mt_update (pv 3) (pa_cons (pe_disp (pps_cons pe_str (pe_lst (pa_cons pe_str (pa_cons pe_str pa_nil))) (pps_cons pe_str (pe_lst (pa_cons pe_str (pa_cons pe_str pa_nil))) (pps_cons pe_str (pe_lst (pa_cons pe_str (pa_cons pe_str pa_nil))) pps_nil))) (by rfl) (by rfl) (fun z => by cases z) (by decide)) pa_nil)))
      (pss_cons (ps_expr (eBm (K := K) PySem.F.plainAttrs_dict PySem.F.slot_dict_update PySem.F.type_dict_update mt_update (pv 3) (pa_cons (pe_disp (pps_cons pe_str (pe_lst (pa_cons pe_str (pa_cons pe_str (pa_cons pe_str pa_nil)))) pps_nil) (by rfl) (by rfl) (fun z => by cases z) (by decide)) pa_nil)))
      (pss_cons (ps_dput hu (pv 3) pe_str (pe_lst (pa_cons pe_str (pa_cons pe_str (pa_cons pe_str (pa_cons pe_str (pa_cons pe_str (pa_cons pe_str (pa_cons pe_str (pa_cons pe_str (pa_cons pe_str pa_nil)))))))))) rfl)
      (pss_cons (ps_for PassesOwn.never rfl (pi_range2 (by rfl) (T.fr "range" (by decide +kernel)) (pa_cons pe_int (pa_cons (pe_callB (kLen (K := K)) (by rfl) (T.fr "len" (by decide +kernel)) (by decide +kernel) (pa_cons (pv 1) pa_nil)) pa_nil))) (pg_name (i := 4) scLBad.nd rfl (Or.inl rfl)) (pss_cons (ps_if (PW.pt (pw_or (PW.pt (pw_and (pt_cmpR op_eq (pv 0) pe_int (nomark _)) (pw_and1 (pt_not (pt_val (pf FN hr (by decide) (pa_cons (pe_ix (ixL (K := K)) (pv 1) (pv 4) (fun _ _ => rfl)) pa_nil))))))) (pw_or1 (PW.pt (pw_and (pt_cmpR op_gt (pv 0) pe_int (nomark _)) (pw_and1 (pt_cmpR (oNotIn (K := K)) (pe_ix (ixL (K := K)) (pv 1) (pv 4) (fun _ _ => rfl)) (pe_dget hu (pv 3) (pe_ix (ixL (K := K)) (pv 2) (pv 0) (fun _ _ => rfl)) (fun _ _ => rfl)) (by rfl)))))))) (pss_one (ps_ret (pe_op op_add (pv 4) pe_int))) pss_nil)
      (pss_one (ps_if (PW.pt (pw_and (pt_cmpR (oNotIn (K := K)) (pv 0) (pe_tup (pa_cons pe_int (pa_cons pe_int pa_nil))) (by rfl)) (pw_and1 (pt_cmpR op_gt (pv 4) pe_int (nomark _))))) (pss_one (ps_ret (pe_op op_add (pv 4) pe_int))) pss_nil))))
      (pss_one (ps_ret (pe_ifExp (PW.pt (pw_and (pt_cmpR op_eq (pe_callB (kLen (K := K)) (by rfl) (T.fr "len" (by decide +kernel)) (by decide +kernel) (pa_cons (pv 1) pa_nil)) pe_int (nomark _)) (pw_and1 (pt_cmpR op_ne (pv 0) pe_int (nomark _))))) pe_int pe_non)))))))))), ?_⟩
    -- heads
    refine ⟨(by show 9 ≤ sizeLine; decide), fun hd hhd => ?_⟩
    have s1 : Same H (upd H hd (.lst (headL.map V.str))) := same_new (Same.refl H) hhd
    have fh : upd H hd (.lst (headL.map V.str)) hd = some (.lst (headL.map V.str)) := upd_same
    have fw : upd H hd (.lst (headL.map V.str)) wl = some (.lst (ws.map V.str)) := s1 _ _ hwl
    show tSeq _ _ _ _ (upd H hd (.lst (headL.map V.str)))
    generalize upd H hd (.lst (headL.map V.str)) = H1 at s1 fh fw
    have e9 : ((headL.map V.str).length : Int) = 9 := rfl
    have ret1 : lineFault k ws = some 1 → ∀ H', Same H H' → Q (.int 1) H' := fun e H' s' => by rw [e] at kQ; exact kQ H' s'
    refine ⟨_, rfl, _, rfl, hd, _, rfl, .inl (SqL.of fh), _, _, rfl, rfl, _, rfl, ?_⟩
    rw [e9]
    by_cases hk9 : k < 9
    case neg =>
      rw [decide_eq_true (show (k : Int) ≥ 9 by omega)]
      refine iteT ?_
      refine iteT ?_
      refine ret1 ?_ H1 s1
      cases ws with
      | nil => rfl
      | cons y ys =>
        show (if headL[k]? = some y then _ else some 1) = some 1
        rw [if_neg]
        intro e
        have : k < headL.length := (List.getElem?_eq_some_iff.mp e).1
        exact hk9 this
    rw [decide_eq_false (show ¬ (k : Int) ≥ 9 by omega)]
    refine iteF ?_
    refine ⟨_, rfl, (by show 0 ≤ sizeLine; decide), fun e0 he0 => ?_⟩
    have s2 : Same H1 (upd H1 e0 (.lst [])) := same_new (Same.refl H1) he0
    refine ⟨.list (ws.map .str), .list [], .lst (SqL.of (s2 _ _ fw)) (dpAll_strs _), .lst (SqL.of upd_same) .nil, shaped_strs hok, rfl, _, rfl, ?_⟩
    replace fh := s2 _ _ fh
    replace fw := s2 _ _ fw
    replace s2 := s1.trans s2
    generalize upd H1 e0 (.lst []) = H2 at fh fw s2 ⊢
    have ee : PyData.eqv (.list (ws.map .str)) (.list []) = decide (ws = []) := eqvAll_strs ws []
    rw [ee]
    cases ws with
    | nil =>
      refine iteT ?_
      refine iteT ?_
      exact ret1 rfl H2 s2
    | cons x xs =>
    rw [decide_eq_false (show ¬ (x :: xs = []) by simp)]
    refine iteF ?_
    obtain ⟨head, hk⟩ : ∃ h, headL[k]? = some h := ⟨headL[k]'hk9, List.getElem?_eq_getElem hk9⟩
    refine ⟨_, rfl, wl, _, 0, .str x, rfl, rfl, SqL.of fw, at_str (ws := x :: xs) (i := 0) rfl, _, rfl, _, rfl, hd, _, _, .str head, rfl, rfl, SqL.of fh, at_str hk, rfl, _, rfl, ?_⟩
    rw [str_decide]
    by_cases hx : x = head
    case neg =>
      rw [decide_eq_false hx]
      refine iteT ?_
      refine ret1 ?_ H2 s2
      show (if headL[k]? = some x then _ else some 1) = some 1
      rw [if_neg]
      intro e
      rw [hk] at e
      exact hx (Option.some.inj e).symm
    subst hx
    rw [decide_eq_true rfl]
    refine iteF ?_
    have eF : lineFault k (x :: xs) = (match badFrom k 1 xs with
      | some n => some n
      | none => if xs = [] ∧ k ≠ 2 then some 2 else none) := by
      exact if_pos hk
    -- the table
    intro dg hdg
    have fg0 : upd H2 dg (.dK []) dg = some (.dK []) := upd_same
    have hdgH : H dg = none := s2.free hdg
    replace fh : upd H2 dg (.dK []) hd = some (.lst (headL.map V.str)) := by rw [upd_ne (ne_of_none fh hdg)]; exact fh
    replace fw : upd H2 dg (.dK []) wl = some (.lst ((x :: xs).map V.str)) := by rw [upd_ne (ne_of_none fw hdg)]; exact fw
    have s3 : Same H (upd H2 dg (.dK [])) := same_new s2 hdg
    have ndh : hd ≠ dg := ne_of fh fg0 (by intro z; cases z)
    have ndw : wl ≠ dg := ne_of fw fg0 (by intro z; cases z)
    generalize upd H2 dg (.dK []) = G0 at fg0 fh fw s3
    refine ⟨(by show 2 ≤ sizeLine; decide), fun q1 hq1 => ?_⟩
    have fq1 : upd G0 q1 (.lst [.str "keep", .str "drop"]) q1 = some (.lst [.str "keep", .str "drop"]) := upd_same
    have ndq1 : q1 ≠ dg := fun z => by rw [z, fg0] at hq1; cases hq1
    replace fh : upd G0 q1 (.lst [.str "keep", .str "drop"]) hd = some (.lst (headL.map V.str)) := by rw [upd_ne (ne_of_none fh hq1)]; exact fh
    replace fw : upd G0 q1 (.lst [.str "keep", .str "drop"]) wl = some (.lst ((x :: xs).map V.str)) := by rw [upd_ne (ne_of_none fw hq1)]; exact fw
    replace fg0 : upd G0 q1 (.lst [.str "keep", .str "drop"]) dg = some (.dK []) := by rw [upd_ne (ne_of_none fg0 hq1)]; exact fg0
    have s3' : Same H (upd G0 q1 (.lst [.str "keep", .str "drop"])) := same_new s3 hq1
    replace s3 := s3'
    clear s3'
    generalize upd G0 q1 (.lst [.str "keep", .str "drop"]) = G1 at fq1 s3 fh fw fg0 ⊢
    refine ⟨(by show 2 ≤ sizeLine; decide), fun q2 hq2 => ?_⟩
    have fq2 : upd G1 q2 (.lst [.str "keep", .str "clear"]) q2 = some (.lst [.str "keep", .str "clear"]) := upd_same
    have ndq2 : q2 ≠ dg := fun z => by rw [z, fg0] at hq2; cases hq2
    replace fh : upd G1 q2 (.lst [.str "keep", .str "clear"]) hd = some (.lst (headL.map V.str)) := by rw [upd_ne (ne_of_none fh hq2)]; exact fh
    replace fw : upd G1 q2 (.lst [.str "keep", .str "clear"]) wl = some (.lst ((x :: xs).map V.str)) := by rw [upd_ne (ne_of_none fw hq2)]; exact fw
    replace fg0 : upd G1 q2 (.lst [.str "keep", .str "clear"]) dg = some (.dK []) := by rw [upd_ne (ne_of_none fg0 hq2)]; exact fg0
    replace fq1 : upd G1 q2 (.lst [.str "keep", .str "clear"]) q1 = some (.lst [.str "keep", .str "drop"]) := by rw [upd_ne (ne_of_none fq1 hq2)]; exact fq1
    have s3' : Same H (upd G1 q2 (.lst [.str "keep", .str "clear"])) := same_new s3 hq2
    replace s3 := s3'
    clear s3'
    generalize upd G1 q2 (.lst [.str "keep", .str "clear"]) = G2 at fq2 s3 fh fw fg0 fq1 ⊢
    refine ⟨(by show 2 ≤ sizeLine; decide), fun q3 hq3 => ?_⟩
    have fq3 : upd G2 q3 (.lst [.str "all", .str "rest"]) q3 = some (.lst [.str "all", .str "rest"]) := upd_same
    have ndq3 : q3 ≠ dg := fun z => by rw [z, fg0] at hq3; cases hq3
    replace fh : upd G2 q3 (.lst [.str "all", .str "rest"]) hd = some (.lst (headL.map V.str)) := by rw [upd_ne (ne_of_none fh hq3)]; exact fh
    replace fw : upd G2 q3 (.lst [.str "all", .str "rest"]) wl = some (.lst ((x :: xs).map V.str)) := by rw [upd_ne (ne_of_none fw hq3)]; exact fw
    replace fg0 : upd G2 q3 (.lst [.str "all", .str "rest"]) dg = some (.dK []) := by rw [upd_ne (ne_of_none fg0 hq3)]; exact fg0
    replace fq1 : upd G2 q3 (.lst [.str "all", .str "rest"]) q1 = some (.lst [.str "keep", .str "drop"]) := by rw [upd_ne (ne_of_none fq1 hq3)]; exact fq1
    replace fq2 : upd G2 q3 (.lst [.str "all", .str "rest"]) q2 = some (.lst [.str "keep", .str "clear"]) := by rw [upd_ne (ne_of_none fq2 hq3)]; exact fq2
    have s3' : Same H (upd G2 q3 (.lst [.str "all", .str "rest"])) := same_new s3 hq3
    replace s3 := s3'
    clear s3'
    generalize upd G2 q3 (.lst [.str "all", .str "rest"]) = G3 at fq3 s3 fh fw fg0 fq1 fq2 ⊢
    refine ⟨fg0, [(Sum.inr "asleep", V.ref q1), (Sum.inr "changing", V.ref q2), (Sum.inr "count", V.ref q3)], rfl, (by show 3 ≤ 15; decide), ?_⟩
    have em1 : mergeK [] ([(Sum.inr "asleep", V.ref q1), (Sum.inr "changing", V.ref q2), (Sum.inr "count", V.ref q3)] : List (Key × V)) = ([(Sum.inr "asleep", V.ref q1), (Sum.inr "changing", V.ref q2), (Sum.inr "count", V.ref q3)] : List (Key × V)) := rfl
    rw [em1]
    have fg' : upd G3 dg (.dK ([(Sum.inr "asleep", V.ref q1), (Sum.inr "changing", V.ref q2), (Sum.inr "count", V.ref q3)])) dg = some (.dK ([(Sum.inr "asleep", V.ref q1), (Sum.inr "changing", V.ref q2), (Sum.inr "count", V.ref q3)])) := upd_same
    replace fh : upd G3 dg (.dK ([(Sum.inr "asleep", V.ref q1), (Sum.inr "changing", V.ref q2), (Sum.inr "count", V.ref q3)])) hd = some (.lst (headL.map V.str)) := by rw [upd_ne ndh]; exact fh
    replace fw : upd G3 dg (.dK ([(Sum.inr "asleep", V.ref q1), (Sum.inr "changing", V.ref q2), (Sum.inr "count", V.ref q3)])) wl = some (.lst ((x :: xs).map V.str)) := by rw [upd_ne ndw]; exact fw
    replace fq1 : upd G3 dg (.dK ([(Sum.inr "asleep", V.ref q1), (Sum.inr "changing", V.ref q2), (Sum.inr "count", V.ref q3)])) q1 = some (.lst [.str "keep", .str "drop"]) := by rw [upd_ne ndq1]; exact fq1
    replace fq2 : upd G3 dg (.dK ([(Sum.inr "asleep", V.ref q1), (Sum.inr "changing", V.ref q2), (Sum.inr "count", V.ref q3)])) q2 = some (.lst [.str "keep", .str "clear"]) := by rw [upd_ne ndq2]; exact fq2
    replace fq3 : upd G3 dg (.dK ([(Sum.inr "asleep", V.ref q1), (Sum.inr "changing", V.ref q2), (Sum.inr "count", V.ref q3)])) q3 = some (.lst [.str "all", .str "rest"]) := by rw [upd_ne ndq3]; exact fq3
    have s3' : Same H (upd G3 dg (.dK ([(Sum.inr "asleep", V.ref q1), (Sum.inr "changing", V.ref q2), (Sum.inr "count", V.ref q3)]))) := same_mut s3 hdgH
    replace s3 := s3'
    clear s3'
    clear fg0
    generalize upd G3 dg (.dK ([(Sum.inr "asleep", V.ref q1), (Sum.inr "changing", V.ref q2), (Sum.inr "count", V.ref q3)])) = G4 at fg' s3 fh fw fq1 fq2 fq3 ⊢
    have fg0 := fg'
    clear fg'
    refine ⟨_, rfl, .inr (.inr (.inl ⟨rfl, .inl ⟨_, fg0⟩⟩)), fun u1 hu1 => ?_⟩
    have nu1 : dg ≠ u1 := ne_of_none fg0 hu1
    have hHu1 : H u1 = none := s3.free hu1
    have fu1 : upd G4 u1 (.dK []) u1 = some (.dK []) := upd_same
    replace fh : upd G4 u1 (.dK []) hd = some (.lst (headL.map V.str)) := by rw [upd_ne (ne_of_none fh hu1)]; exact fh
    replace fw : upd G4 u1 (.dK []) wl = some (.lst ((x :: xs).map V.str)) := by rw [upd_ne (ne_of_none fw hu1)]; exact fw
    replace fg0 : upd G4 u1 (.dK []) dg = some (.dK ([(Sum.inr "asleep", V.ref q1), (Sum.inr "changing", V.ref q2), (Sum.inr "count", V.ref q3)])) := by rw [upd_ne (ne_of_none fg0 hu1)]; exact fg0
    replace fq1 : upd G4 u1 (.dK []) q1 = some (.lst [.str "keep", .str "drop"]) := by rw [upd_ne (ne_of_none fq1 hu1)]; exact fq1
    replace fq2 : upd G4 u1 (.dK []) q2 = some (.lst [.str "keep", .str "clear"]) := by rw [upd_ne (ne_of_none fq2 hu1)]; exact fq2
    replace fq3 : upd G4 u1 (.dK []) q3 = some (.lst [.str "all", .str "rest"]) := by rw [upd_ne (ne_of_none fq3 hu1)]; exact fq3
    have s3' : Same H (upd G4 u1 (.dK [])) := same_new s3 hu1
    replace s3 := s3'
    clear s3'
    generalize upd G4 u1 (.dK []) = G5 at fu1 s3 fh fw fg0 fq1 fq2 fq3 ⊢
    refine ⟨(by show 2 ≤ sizeLine; decide), fun q4 hq4 => ?_⟩
    have fq4 : upd G5 q4 (.lst [.str "newer", .str "elder"]) q4 = some (.lst [.str "newer", .str "elder"]) := upd_same
    have ndq4 : q4 ≠ dg := fun z => by rw [z, fg0] at hq4; cases hq4
    replace fh : upd G5 q4 (.lst [.str "newer", .str "elder"]) hd = some (.lst (headL.map V.str)) := by rw [upd_ne (ne_of_none fh hq4)]; exact fh
    replace fw : upd G5 q4 (.lst [.str "newer", .str "elder"]) wl = some (.lst ((x :: xs).map V.str)) := by rw [upd_ne (ne_of_none fw hq4)]; exact fw
    replace fg0 : upd G5 q4 (.lst [.str "newer", .str "elder"]) dg = some (.dK ([(Sum.inr "asleep", V.ref q1), (Sum.inr "changing", V.ref q2), (Sum.inr "count", V.ref q3)])) := by rw [upd_ne (ne_of_none fg0 hq4)]; exact fg0
    replace fq1 : upd G5 q4 (.lst [.str "newer", .str "elder"]) q1 = some (.lst [.str "keep", .str "drop"]) := by rw [upd_ne (ne_of_none fq1 hq4)]; exact fq1
    replace fq2 : upd G5 q4 (.lst [.str "newer", .str "elder"]) q2 = some (.lst [.str "keep", .str "clear"]) := by rw [upd_ne (ne_of_none fq2 hq4)]; exact fq2
    replace fq3 : upd G5 q4 (.lst [.str "newer", .str "elder"]) q3 = some (.lst [.str "all", .str "rest"]) := by rw [upd_ne (ne_of_none fq3 hq4)]; exact fq3
    replace fu1 : upd G5 q4 (.lst [.str "newer", .str "elder"]) u1 = some (.dK []) := by rw [upd_ne (ne_of_none fu1 hq4)]; exact fu1
    have s3' : Same H (upd G5 q4 (.lst [.str "newer", .str "elder"])) := same_new s3 hq4
    replace s3 := s3'
    clear s3'
    generalize upd G5 q4 (.lst [.str "newer", .str "elder"]) = G6 at fq4 s3 fh fw fg0 fq1 fq2 fq3 fu1 ⊢
    refine ⟨(by show 2 ≤ sizeLine; decide), fun q5 hq5 => ?_⟩
    have fq5 : upd G6 q5 (.lst [.str "refuse", .str "turn"]) q5 = some (.lst [.str "refuse", .str "turn"]) := upd_same
    have ndq5 : q5 ≠ dg := fun z => by rw [z, fg0] at hq5; cases hq5
    replace fh : upd G6 q5 (.lst [.str "refuse", .str "turn"]) hd = some (.lst (headL.map V.str)) := by rw [upd_ne (ne_of_none fh hq5)]; exact fh
    replace fw : upd G6 q5 (.lst [.str "refuse", .str "turn"]) wl = some (.lst ((x :: xs).map V.str)) := by rw [upd_ne (ne_of_none fw hq5)]; exact fw
    replace fg0 : upd G6 q5 (.lst [.str "refuse", .str "turn"]) dg = some (.dK ([(Sum.inr "asleep", V.ref q1), (Sum.inr "changing", V.ref q2), (Sum.inr "count", V.ref q3)])) := by rw [upd_ne (ne_of_none fg0 hq5)]; exact fg0
    replace fq1 : upd G6 q5 (.lst [.str "refuse", .str "turn"]) q1 = some (.lst [.str "keep", .str "drop"]) := by rw [upd_ne (ne_of_none fq1 hq5)]; exact fq1
    replace fq2 : upd G6 q5 (.lst [.str "refuse", .str "turn"]) q2 = some (.lst [.str "keep", .str "clear"]) := by rw [upd_ne (ne_of_none fq2 hq5)]; exact fq2
    replace fq3 : upd G6 q5 (.lst [.str "refuse", .str "turn"]) q3 = some (.lst [.str "all", .str "rest"]) := by rw [upd_ne (ne_of_none fq3 hq5)]; exact fq3
    replace fu1 : upd G6 q5 (.lst [.str "refuse", .str "turn"]) u1 = some (.dK []) := by rw [upd_ne (ne_of_none fu1 hq5)]; exact fu1
    replace fq4 : upd G6 q5 (.lst [.str "refuse", .str "turn"]) q4 = some (.lst [.str "newer", .str "elder"]) := by rw [upd_ne (ne_of_none fq4 hq5)]; exact fq4
    have s3' : Same H (upd G6 q5 (.lst [.str "refuse", .str "turn"])) := same_new s3 hq5
    replace s3 := s3'
    clear s3'
    generalize upd G6 q5 (.lst [.str "refuse", .str "turn"]) = G7 at fq5 s3 fh fw fg0 fq1 fq2 fq3 fu1 fq4 ⊢
    refine ⟨(by show 2 ≤ sizeLine; decide), fun q6 hq6 => ?_⟩
    have fq6 : upd G7 q6 (.lst [.str "keep", .str "clear"]) q6 = some (.lst [.str "keep", .str "clear"]) := upd_same
    have ndq6 : q6 ≠ dg := fun z => by rw [z, fg0] at hq6; cases hq6
    replace fh : upd G7 q6 (.lst [.str "keep", .str "clear"]) hd = some (.lst (headL.map V.str)) := by rw [upd_ne (ne_of_none fh hq6)]; exact fh
    replace fw : upd G7 q6 (.lst [.str "keep", .str "clear"]) wl = some (.lst ((x :: xs).map V.str)) := by rw [upd_ne (ne_of_none fw hq6)]; exact fw
    replace fg0 : upd G7 q6 (.lst [.str "keep", .str "clear"]) dg = some (.dK ([(Sum.inr "asleep", V.ref q1), (Sum.inr "changing", V.ref q2), (Sum.inr "count", V.ref q3)])) := by rw [upd_ne (ne_of_none fg0 hq6)]; exact fg0
    replace fq1 : upd G7 q6 (.lst [.str "keep", .str "clear"]) q1 = some (.lst [.str "keep", .str "drop"]) := by rw [upd_ne (ne_of_none fq1 hq6)]; exact fq1
    replace fq2 : upd G7 q6 (.lst [.str "keep", .str "clear"]) q2 = some (.lst [.str "keep", .str "clear"]) := by rw [upd_ne (ne_of_none fq2 hq6)]; exact fq2
    replace fq3 : upd G7 q6 (.lst [.str "keep", .str "clear"]) q3 = some (.lst [.str "all", .str "rest"]) := by rw [upd_ne (ne_of_none fq3 hq6)]; exact fq3
    replace fu1 : upd G7 q6 (.lst [.str "keep", .str "clear"]) u1 = some (.dK []) := by rw [upd_ne (ne_of_none fu1 hq6)]; exact fu1
    replace fq4 : upd G7 q6 (.lst [.str "keep", .str "clear"]) q4 = some (.lst [.str "newer", .str "elder"]) := by rw [upd_ne (ne_of_none fq4 hq6)]; exact fq4
    replace fq5 : upd G7 q6 (.lst [.str "keep", .str "clear"]) q5 = some (.lst [.str "refuse", .str "turn"]) := by rw [upd_ne (ne_of_none fq5 hq6)]; exact fq5
    have s3' : Same H (upd G7 q6 (.lst [.str "keep", .str "clear"])) := same_new s3 hq6
    replace s3 := s3'
    clear s3'
    generalize upd G7 q6 (.lst [.str "keep", .str "clear"]) = G8 at fq6 s3 fh fw fg0 fq1 fq2 fq3 fu1 fq4 fq5 ⊢
    refine ⟨fu1, [(Sum.inr "first", V.ref q4), (Sum.inr "ring", V.ref q5), (Sum.inr "sorting", V.ref q6)], rfl, (by show 3 ≤ 15; decide), ?_⟩
    refine ⟨dg, u1, _, _, rfl, rfl, (by rw [upd_ne nu1]; exact fg0), upd_same, nu1, (by show 3 + 3 ≤ 1000; decide), ?_⟩
    have em : mergeK ([(Sum.inr "asleep", V.ref q1), (Sum.inr "changing", V.ref q2), (Sum.inr "count", V.ref q3)] : List (Key × V)) (mergeK [] [(Sum.inr "first", V.ref q4), (Sum.inr "ring", V.ref q5), (Sum.inr "sorting", V.ref q6)]) = ([(Sum.inr "asleep", V.ref q1), (Sum.inr "changing", V.ref q2), (Sum.inr "count", V.ref q3), (Sum.inr "first", V.ref q4), (Sum.inr "ring", V.ref q5), (Sum.inr "sorting", V.ref q6)] : List (Key × V)) := rfl
    rw [em]
    clear em
    have s3' : Same H (upd (upd G8 u1 (.dK (mergeK [] [(Sum.inr "first", V.ref q4), (Sum.inr "ring", V.ref q5), (Sum.inr "sorting", V.ref q6)]))) dg (.dK ([(Sum.inr "asleep", V.ref q1), (Sum.inr "changing", V.ref q2), (Sum.inr "count", V.ref q3), (Sum.inr "first", V.ref q4), (Sum.inr "ring", V.ref q5), (Sum.inr "sorting", V.ref q6)]))) := same_mut (same_mut s3 hHu1) hdgH
    replace s3 := s3'
    clear s3'
    have fg' : upd (upd G8 u1 (.dK (mergeK [] [(Sum.inr "first", V.ref q4), (Sum.inr "ring", V.ref q5), (Sum.inr "sorting", V.ref q6)]))) dg (.dK ([(Sum.inr "asleep", V.ref q1), (Sum.inr "changing", V.ref q2), (Sum.inr "count", V.ref q3), (Sum.inr "first", V.ref q4), (Sum.inr "ring", V.ref q5), (Sum.inr "sorting", V.ref q6)])) dg = some (.dK ([(Sum.inr "asleep", V.ref q1), (Sum.inr "changing", V.ref q2), (Sum.inr "count", V.ref q3), (Sum.inr "first", V.ref q4), (Sum.inr "ring", V.ref q5), (Sum.inr "sorting", V.ref q6)])) := upd_same
    replace fh : upd (upd G8 u1 (.dK (mergeK [] [(Sum.inr "first", V.ref q4), (Sum.inr "ring", V.ref q5), (Sum.inr "sorting", V.ref q6)]))) dg (.dK ([(Sum.inr "asleep", V.ref q1), (Sum.inr "changing", V.ref q2), (Sum.inr "count", V.ref q3), (Sum.inr "first", V.ref q4), (Sum.inr "ring", V.ref q5), (Sum.inr "sorting", V.ref q6)])) hd = some (.lst (headL.map V.str)) := by rw [upd_ne ndh, upd_ne (ne_of fh fu1 (by intro z; cases z))]; exact fh
    replace fw : upd (upd G8 u1 (.dK (mergeK [] [(Sum.inr "first", V.ref q4), (Sum.inr "ring", V.ref q5), (Sum.inr "sorting", V.ref q6)]))) dg (.dK ([(Sum.inr "asleep", V.ref q1), (Sum.inr "changing", V.ref q2), (Sum.inr "count", V.ref q3), (Sum.inr "first", V.ref q4), (Sum.inr "ring", V.ref q5), (Sum.inr "sorting", V.ref q6)])) wl = some (.lst ((x :: xs).map V.str)) := by rw [upd_ne ndw, upd_ne (ne_of fw fu1 (by intro z; cases z))]; exact fw
    replace fq1 : upd (upd G8 u1 (.dK (mergeK [] [(Sum.inr "first", V.ref q4), (Sum.inr "ring", V.ref q5), (Sum.inr "sorting", V.ref q6)]))) dg (.dK ([(Sum.inr "asleep", V.ref q1), (Sum.inr "changing", V.ref q2), (Sum.inr "count", V.ref q3), (Sum.inr "first", V.ref q4), (Sum.inr "ring", V.ref q5), (Sum.inr "sorting", V.ref q6)])) q1 = some (.lst [.str "keep", .str "drop"]) := by rw [upd_ne ndq1, upd_ne (ne_of fq1 fu1 (by intro z; cases z))]; exact fq1
    replace fq2 : upd (upd G8 u1 (.dK (mergeK [] [(Sum.inr "first", V.ref q4), (Sum.inr "ring", V.ref q5), (Sum.inr "sorting", V.ref q6)]))) dg (.dK ([(Sum.inr "asleep", V.ref q1), (Sum.inr "changing", V.ref q2), (Sum.inr "count", V.ref q3), (Sum.inr "first", V.ref q4), (Sum.inr "ring", V.ref q5), (Sum.inr "sorting", V.ref q6)])) q2 = some (.lst [.str "keep", .str "clear"]) := by rw [upd_ne ndq2, upd_ne (ne_of fq2 fu1 (by intro z; cases z))]; exact fq2
    replace fq3 : upd (upd G8 u1 (.dK (mergeK [] [(Sum.inr "first", V.ref q4), (Sum.inr "ring", V.ref q5), (Sum.inr "sorting", V.ref q6)]))) dg (.dK ([(Sum.inr "asleep", V.ref q1), (Sum.inr "changing", V.ref q2), (Sum.inr "count", V.ref q3), (Sum.inr "first", V.ref q4), (Sum.inr "ring", V.ref q5), (Sum.inr "sorting", V.ref q6)])) q3 = some (.lst [.str "all", .str "rest"]) := by rw [upd_ne ndq3, upd_ne (ne_of fq3 fu1 (by intro z; cases z))]; exact fq3
    replace fq4 : upd (upd G8 u1 (.dK (mergeK [] [(Sum.inr "first", V.ref q4), (Sum.inr "ring", V.ref q5), (Sum.inr "sorting", V.ref q6)]))) dg (.dK ([(Sum.inr "asleep", V.ref q1), (Sum.inr "changing", V.ref q2), (Sum.inr "count", V.ref q3), (Sum.inr "first", V.ref q4), (Sum.inr "ring", V.ref q5), (Sum.inr "sorting", V.ref q6)])) q4 = some (.lst [.str "newer", .str "elder"]) := by rw [upd_ne ndq4, upd_ne (ne_of fq4 fu1 (by intro z; cases z))]; exact fq4
    replace fq5 : upd (upd G8 u1 (.dK (mergeK [] [(Sum.inr "first", V.ref q4), (Sum.inr "ring", V.ref q5), (Sum.inr "sorting", V.ref q6)]))) dg (.dK ([(Sum.inr "asleep", V.ref q1), (Sum.inr "changing", V.ref q2), (Sum.inr "count", V.ref q3), (Sum.inr "first", V.ref q4), (Sum.inr "ring", V.ref q5), (Sum.inr "sorting", V.ref q6)])) q5 = some (.lst [.str "refuse", .str "turn"]) := by rw [upd_ne ndq5, upd_ne (ne_of fq5 fu1 (by intro z; cases z))]; exact fq5
    replace fq6 : upd (upd G8 u1 (.dK (mergeK [] [(Sum.inr "first", V.ref q4), (Sum.inr "ring", V.ref q5), (Sum.inr "sorting", V.ref q6)]))) dg (.dK ([(Sum.inr "asleep", V.ref q1), (Sum.inr "changing", V.ref q2), (Sum.inr "count", V.ref q3), (Sum.inr "first", V.ref q4), (Sum.inr "ring", V.ref q5), (Sum.inr "sorting", V.ref q6)])) q6 = some (.lst [.str "keep", .str "clear"]) := by rw [upd_ne ndq6, upd_ne (ne_of fq6 fu1 (by intro z; cases z))]; exact fq6
    clear fg0 fu1
    generalize upd (upd G8 u1 (.dK (mergeK [] [(Sum.inr "first", V.ref q4), (Sum.inr "ring", V.ref q5), (Sum.inr "sorting", V.ref q6)]))) dg (.dK ([(Sum.inr "asleep", V.ref q1), (Sum.inr "changing", V.ref q2), (Sum.inr "count", V.ref q3), (Sum.inr "first", V.ref q4), (Sum.inr "ring", V.ref q5), (Sum.inr "sorting", V.ref q6)])) = G9 at fg' s3 fh fw fq1 fq2 fq3 fq4 fq5 fq6 ⊢
    have fg0 := fg'
    clear fg'
    refine ⟨_, rfl, .inr (.inr (.inl ⟨rfl, .inl ⟨_, fg0⟩⟩)), fun u2 hu2 => ?_⟩
    have nu2 : dg ≠ u2 := ne_of_none fg0 hu2
    have hHu2 : H u2 = none := s3.free hu2
    have fu2 : upd G9 u2 (.dK []) u2 = some (.dK []) := upd_same
    replace fh : upd G9 u2 (.dK []) hd = some (.lst (headL.map V.str)) := by rw [upd_ne (ne_of_none fh hu2)]; exact fh
    replace fw : upd G9 u2 (.dK []) wl = some (.lst ((x :: xs).map V.str)) := by rw [upd_ne (ne_of_none fw hu2)]; exact fw
    replace fg0 : upd G9 u2 (.dK []) dg = some (.dK ([(Sum.inr "asleep", V.ref q1), (Sum.inr "changing", V.ref q2), (Sum.inr "count", V.ref q3), (Sum.inr "first", V.ref q4), (Sum.inr "ring", V.ref q5), (Sum.inr "sorting", V.ref q6)])) := by rw [upd_ne (ne_of_none fg0 hu2)]; exact fg0
    replace fq1 : upd G9 u2 (.dK []) q1 = some (.lst [.str "keep", .str "drop"]) := by rw [upd_ne (ne_of_none fq1 hu2)]; exact fq1
    replace fq2 : upd G9 u2 (.dK []) q2 = some (.lst [.str "keep", .str "clear"]) := by rw [upd_ne (ne_of_none fq2 hu2)]; exact fq2
    replace fq3 : upd G9 u2 (.dK []) q3 = some (.lst [.str "all", .str "rest"]) := by rw [upd_ne (ne_of_none fq3 hu2)]; exact fq3
    replace fq4 : upd G9 u2 (.dK []) q4 = some (.lst [.str "newer", .str "elder"]) := by rw [upd_ne (ne_of_none fq4 hu2)]; exact fq4
    replace fq5 : upd G9 u2 (.dK []) q5 = some (.lst [.str "refuse", .str "turn"]) := by rw [upd_ne (ne_of_none fq5 hu2)]; exact fq5
    replace fq6 : upd G9 u2 (.dK []) q6 = some (.lst [.str "keep", .str "clear"]) := by rw [upd_ne (ne_of_none fq6 hu2)]; exact fq6
    have s3' : Same H (upd G9 u2 (.dK [])) := same_new s3 hu2
    replace s3 := s3'
    clear s3'
    generalize upd G9 u2 (.dK []) = G10 at fu2 s3 fh fw fg0 fq1 fq2 fq3 fq4 fq5 fq6 ⊢
    refine ⟨(by show 3 ≤ sizeLine; decide), fun q7 hq7 => ?_⟩
    have fq7 : upd G10 q7 (.lst [.str "1", .str "2", .str "3"]) q7 = some (.lst [.str "1", .str "2", .str "3"]) := upd_same
    have ndq7 : q7 ≠ dg := fun z => by rw [z, fg0] at hq7; cases hq7
    replace fh : upd G10 q7 (.lst [.str "1", .str "2", .str "3"]) hd = some (.lst (headL.map V.str)) := by rw [upd_ne (ne_of_none fh hq7)]; exact fh
    replace fw : upd G10 q7 (.lst [.str "1", .str "2", .str "3"]) wl = some (.lst ((x :: xs).map V.str)) := by rw [upd_ne (ne_of_none fw hq7)]; exact fw
    replace fg0 : upd G10 q7 (.lst [.str "1", .str "2", .str "3"]) dg = some (.dK ([(Sum.inr "asleep", V.ref q1), (Sum.inr "changing", V.ref q2), (Sum.inr "count", V.ref q3), (Sum.inr "first", V.ref q4), (Sum.inr "ring", V.ref q5), (Sum.inr "sorting", V.ref q6)])) := by rw [upd_ne (ne_of_none fg0 hq7)]; exact fg0
    replace fq1 : upd G10 q7 (.lst [.str "1", .str "2", .str "3"]) q1 = some (.lst [.str "keep", .str "drop"]) := by rw [upd_ne (ne_of_none fq1 hq7)]; exact fq1
    replace fq2 : upd G10 q7 (.lst [.str "1", .str "2", .str "3"]) q2 = some (.lst [.str "keep", .str "clear"]) := by rw [upd_ne (ne_of_none fq2 hq7)]; exact fq2
    replace fq3 : upd G10 q7 (.lst [.str "1", .str "2", .str "3"]) q3 = some (.lst [.str "all", .str "rest"]) := by rw [upd_ne (ne_of_none fq3 hq7)]; exact fq3
    replace fq4 : upd G10 q7 (.lst [.str "1", .str "2", .str "3"]) q4 = some (.lst [.str "newer", .str "elder"]) := by rw [upd_ne (ne_of_none fq4 hq7)]; exact fq4
    replace fq5 : upd G10 q7 (.lst [.str "1", .str "2", .str "3"]) q5 = some (.lst [.str "refuse", .str "turn"]) := by rw [upd_ne (ne_of_none fq5 hq7)]; exact fq5
    replace fq6 : upd G10 q7 (.lst [.str "1", .str "2", .str "3"]) q6 = some (.lst [.str "keep", .str "clear"]) := by rw [upd_ne (ne_of_none fq6 hq7)]; exact fq6
    replace fu2 : upd G10 q7 (.lst [.str "1", .str "2", .str "3"]) u2 = some (.dK []) := by rw [upd_ne (ne_of_none fu2 hq7)]; exact fu2
    have s3' : Same H (upd G10 q7 (.lst [.str "1", .str "2", .str "3"])) := same_new s3 hq7
    replace s3 := s3'
    clear s3'
    generalize upd G10 q7 (.lst [.str "1", .str "2", .str "3"]) = G11 at fq7 s3 fh fw fg0 fq1 fq2 fq3 fq4 fq5 fq6 fu2 ⊢
    refine ⟨fu2, [(Sum.inr "keys", V.ref q7)], rfl, (by show 1 ≤ 15; decide), ?_⟩
    refine ⟨dg, u2, _, _, rfl, rfl, (by rw [upd_ne nu2]; exact fg0), upd_same, nu2, (by show 6 + 1 ≤ 1000; decide), ?_⟩
    have em : mergeK ([(Sum.inr "asleep", V.ref q1), (Sum.inr "changing", V.ref q2), (Sum.inr "count", V.ref q3), (Sum.inr "first", V.ref q4), (Sum.inr "ring", V.ref q5), (Sum.inr "sorting", V.ref q6)] : List (Key × V)) (mergeK [] [(Sum.inr "keys", V.ref q7)]) = ([(Sum.inr "asleep", V.ref q1), (Sum.inr "changing", V.ref q2), (Sum.inr "count", V.ref q3), (Sum.inr "first", V.ref q4), (Sum.inr "ring", V.ref q5), (Sum.inr "sorting", V.ref q6), (Sum.inr "keys", V.ref q7)] : List (Key × V)) := rfl
    rw [em]
    clear em
    have s3' : Same H (upd (upd G11 u2 (.dK (mergeK [] [(Sum.inr "keys", V.ref q7)]))) dg (.dK ([(Sum.inr "asleep", V.ref q1), (Sum.inr "changing", V.ref q2), (Sum.inr "count", V.ref q3), (Sum.inr "first", V.ref q4), (Sum.inr "ring", V.ref q5), (Sum.inr "sorting", V.ref q6), (Sum.inr "keys", V.ref q7)]))) := same_mut (same_mut s3 hHu2) hdgH
    replace s3 := s3'
    clear s3'
    have fg' : upd (upd G11 u2 (.dK (mergeK [] [(Sum.inr "keys", V.ref q7)]))) dg (.dK ([(Sum.inr "asleep", V.ref q1), (Sum.inr "changing", V.ref q2), (Sum.inr "count", V.ref q3), (Sum.inr "first", V.ref q4), (Sum.inr "ring", V.ref q5), (Sum.inr "sorting", V.ref q6), (Sum.inr "keys", V.ref q7)])) dg = some (.dK ([(Sum.inr "asleep", V.ref q1), (Sum.inr "changing", V.ref q2), (Sum.inr "count", V.ref q3), (Sum.inr "first", V.ref q4), (Sum.inr "ring", V.ref q5), (Sum.inr "sorting", V.ref q6), (Sum.inr "keys", V.ref q7)])) := upd_same
    replace fh : upd (upd G11 u2 (.dK (mergeK [] [(Sum.inr "keys", V.ref q7)]))) dg (.dK ([(Sum.inr "asleep", V.ref q1), (Sum.inr "changing", V.ref q2), (Sum.inr "count", V.ref q3), (Sum.inr "first", V.ref q4), (Sum.inr "ring", V.ref q5), (Sum.inr "sorting", V.ref q6), (Sum.inr "keys", V.ref q7)])) hd = some (.lst (headL.map V.str)) := by rw [upd_ne ndh, upd_ne (ne_of fh fu2 (by intro z; cases z))]; exact fh
    replace fw : upd (upd G11 u2 (.dK (mergeK [] [(Sum.inr "keys", V.ref q7)]))) dg (.dK ([(Sum.inr "asleep", V.ref q1), (Sum.inr "changing", V.ref q2), (Sum.inr "count", V.ref q3), (Sum.inr "first", V.ref q4), (Sum.inr "ring", V.ref q5), (Sum.inr "sorting", V.ref q6), (Sum.inr "keys", V.ref q7)])) wl = some (.lst ((x :: xs).map V.str)) := by rw [upd_ne ndw, upd_ne (ne_of fw fu2 (by intro z; cases z))]; exact fw
    replace fq1 : upd (upd G11 u2 (.dK (mergeK [] [(Sum.inr "keys", V.ref q7)]))) dg (.dK ([(Sum.inr "asleep", V.ref q1), (Sum.inr "changing", V.ref q2), (Sum.inr "count", V.ref q3), (Sum.inr "first", V.ref q4), (Sum.inr "ring", V.ref q5), (Sum.inr "sorting", V.ref q6), (Sum.inr "keys", V.ref q7)])) q1 = some (.lst [.str "keep", .str "drop"]) := by rw [upd_ne ndq1, upd_ne (ne_of fq1 fu2 (by intro z; cases z))]; exact fq1
    replace fq2 : upd (upd G11 u2 (.dK (mergeK [] [(Sum.inr "keys", V.ref q7)]))) dg (.dK ([(Sum.inr "asleep", V.ref q1), (Sum.inr "changing", V.ref q2), (Sum.inr "count", V.ref q3), (Sum.inr "first", V.ref q4), (Sum.inr "ring", V.ref q5), (Sum.inr "sorting", V.ref q6), (Sum.inr "keys", V.ref q7)])) q2 = some (.lst [.str "keep", .str "clear"]) := by rw [upd_ne ndq2, upd_ne (ne_of fq2 fu2 (by intro z; cases z))]; exact fq2
    replace fq3 : upd (upd G11 u2 (.dK (mergeK [] [(Sum.inr "keys", V.ref q7)]))) dg (.dK ([(Sum.inr "asleep", V.ref q1), (Sum.inr "changing", V.ref q2), (Sum.inr "count", V.ref q3), (Sum.inr "first", V.ref q4), (Sum.inr "ring", V.ref q5), (Sum.inr "sorting", V.ref q6), (Sum.inr "keys", V.ref q7)])) q3 = some (.lst [.str "all", .str "rest"]) := by rw [upd_ne ndq3, upd_ne (ne_of fq3 fu2 (by intro z; cases z))]; exact fq3
    replace fq4 : upd (upd G11 u2 (.dK (mergeK [] [(Sum.inr "keys", V.ref q7)]))) dg (.dK ([(Sum.inr "asleep", V.ref q1), (Sum.inr "changing", V.ref q2), (Sum.inr "count", V.ref q3), (Sum.inr "first", V.ref q4), (Sum.inr "ring", V.ref q5), (Sum.inr "sorting", V.ref q6), (Sum.inr "keys", V.ref q7)])) q4 = some (.lst [.str "newer", .str "elder"]) := by rw [upd_ne ndq4, upd_ne (ne_of fq4 fu2 (by intro z; cases z))]; exact fq4
    replace fq5 : upd (upd G11 u2 (.dK (mergeK [] [(Sum.inr "keys", V.ref q7)]))) dg (.dK ([(Sum.inr "asleep", V.ref q1), (Sum.inr "changing", V.ref q2), (Sum.inr "count", V.ref q3), (Sum.inr "first", V.ref q4), (Sum.inr "ring", V.ref q5), (Sum.inr "sorting", V.ref q6), (Sum.inr "keys", V.ref q7)])) q5 = some (.lst [.str "refuse", .str "turn"]) := by rw [upd_ne ndq5, upd_ne (ne_of fq5 fu2 (by intro z; cases z))]; exact fq5
    replace fq6 : upd (upd G11 u2 (.dK (mergeK [] [(Sum.inr "keys", V.ref q7)]))) dg (.dK ([(Sum.inr "asleep", V.ref q1), (Sum.inr "changing", V.ref q2), (Sum.inr "count", V.ref q3), (Sum.inr "first", V.ref q4), (Sum.inr "ring", V.ref q5), (Sum.inr "sorting", V.ref q6), (Sum.inr "keys", V.ref q7)])) q6 = some (.lst [.str "keep", .str "clear"]) := by rw [upd_ne ndq6, upd_ne (ne_of fq6 fu2 (by intro z; cases z))]; exact fq6
    replace fq7 : upd (upd G11 u2 (.dK (mergeK [] [(Sum.inr "keys", V.ref q7)]))) dg (.dK ([(Sum.inr "asleep", V.ref q1), (Sum.inr "changing", V.ref q2), (Sum.inr "count", V.ref q3), (Sum.inr "first", V.ref q4), (Sum.inr "ring", V.ref q5), (Sum.inr "sorting", V.ref q6), (Sum.inr "keys", V.ref q7)])) q7 = some (.lst [.str "1", .str "2", .str "3"]) := by rw [upd_ne ndq7, upd_ne (ne_of fq7 fu2 (by intro z; cases z))]; exact fq7
    clear fg0 fu2
    generalize upd (upd G11 u2 (.dK (mergeK [] [(Sum.inr "keys", V.ref q7)]))) dg (.dK ([(Sum.inr "asleep", V.ref q1), (Sum.inr "changing", V.ref q2), (Sum.inr "count", V.ref q3), (Sum.inr "first", V.ref q4), (Sum.inr "ring", V.ref q5), (Sum.inr "sorting", V.ref q6), (Sum.inr "keys", V.ref q7)])) = G12 at fg' s3 fh fw fq1 fq2 fq3 fq4 fq5 fq6 fq7 ⊢
    have fg0 := fg'
    clear fg'
    refine ⟨(by show 9 ≤ sizeLine; decide), fun q8 hq8 => ?_⟩
    have fq8 : upd G12 q8 (.lst [.str "ahead", .str "behind", .str "bottom", .str "change", .str "come", .str "filter", .str "place", .str "sort", .str "top"]) q8 = some (.lst [.str "ahead", .str "behind", .str "bottom", .str "change", .str "come", .str "filter", .str "place", .str "sort", .str "top"]) := upd_same
    have ndq8 : q8 ≠ dg := fun z => by rw [z, fg0] at hq8; cases hq8
    replace fh : upd G12 q8 (.lst [.str "ahead", .str "behind", .str "bottom", .str "change", .str "come", .str "filter", .str "place", .str "sort", .str "top"]) hd = some (.lst (headL.map V.str)) := by rw [upd_ne (ne_of_none fh hq8)]; exact fh
    replace fw : upd G12 q8 (.lst [.str "ahead", .str "behind", .str "bottom", .str "change", .str "come", .str "filter", .str "place", .str "sort", .str "top"]) wl = some (.lst ((x :: xs).map V.str)) := by rw [upd_ne (ne_of_none fw hq8)]; exact fw
    replace fg0 : upd G12 q8 (.lst [.str "ahead", .str "behind", .str "bottom", .str "change", .str "come", .str "filter", .str "place", .str "sort", .str "top"]) dg = some (.dK ([(Sum.inr "asleep", V.ref q1), (Sum.inr "changing", V.ref q2), (Sum.inr "count", V.ref q3), (Sum.inr "first", V.ref q4), (Sum.inr "ring", V.ref q5), (Sum.inr "sorting", V.ref q6), (Sum.inr "keys", V.ref q7)])) := by rw [upd_ne (ne_of_none fg0 hq8)]; exact fg0
    replace fq1 : upd G12 q8 (.lst [.str "ahead", .str "behind", .str "bottom", .str "change", .str "come", .str "filter", .str "place", .str "sort", .str "top"]) q1 = some (.lst [.str "keep", .str "drop"]) := by rw [upd_ne (ne_of_none fq1 hq8)]; exact fq1
    replace fq2 : upd G12 q8 (.lst [.str "ahead", .str "behind", .str "bottom", .str "change", .str "come", .str "filter", .str "place", .str "sort", .str "top"]) q2 = some (.lst [.str "keep", .str "clear"]) := by rw [upd_ne (ne_of_none fq2 hq8)]; exact fq2
    replace fq3 : upd G12 q8 (.lst [.str "ahead", .str "behind", .str "bottom", .str "change", .str "come", .str "filter", .str "place", .str "sort", .str "top"]) q3 = some (.lst [.str "all", .str "rest"]) := by rw [upd_ne (ne_of_none fq3 hq8)]; exact fq3
    replace fq4 : upd G12 q8 (.lst [.str "ahead", .str "behind", .str "bottom", .str "change", .str "come", .str "filter", .str "place", .str "sort", .str "top"]) q4 = some (.lst [.str "newer", .str "elder"]) := by rw [upd_ne (ne_of_none fq4 hq8)]; exact fq4
    replace fq5 : upd G12 q8 (.lst [.str "ahead", .str "behind", .str "bottom", .str "change", .str "come", .str "filter", .str "place", .str "sort", .str "top"]) q5 = some (.lst [.str "refuse", .str "turn"]) := by rw [upd_ne (ne_of_none fq5 hq8)]; exact fq5
    replace fq6 : upd G12 q8 (.lst [.str "ahead", .str "behind", .str "bottom", .str "change", .str "come", .str "filter", .str "place", .str "sort", .str "top"]) q6 = some (.lst [.str "keep", .str "clear"]) := by rw [upd_ne (ne_of_none fq6 hq8)]; exact fq6
    replace fq7 : upd G12 q8 (.lst [.str "ahead", .str "behind", .str "bottom", .str "change", .str "come", .str "filter", .str "place", .str "sort", .str "top"]) q7 = some (.lst [.str "1", .str "2", .str "3"]) := by rw [upd_ne (ne_of_none fq7 hq8)]; exact fq7
    have s3' : Same H (upd G12 q8 (.lst [.str "ahead", .str "behind", .str "bottom", .str "change", .str "come", .str "filter", .str "place", .str "sort", .str "top"])) := same_new s3 hq8
    replace s3 := s3'
    clear s3'
    generalize upd G12 q8 (.lst [.str "ahead", .str "behind", .str "bottom", .str "change", .str "come", .str "filter", .str "place", .str "sort", .str "top"]) = G13 at fq8 s3 fh fw fg0 fq1 fq2 fq3 fq4 fq5 fq6 fq7 ⊢
    refine ⟨_, rfl, dg, _, rfl, DPut.k (k := Sum.inr "words") fg0 (by show 7 < sizeLine; decide), ?_⟩
    have em : putK ([(Sum.inr "asleep", V.ref q1), (Sum.inr "changing", V.ref q2), (Sum.inr "count", V.ref q3), (Sum.inr "first", V.ref q4), (Sum.inr "ring", V.ref q5), (Sum.inr "sorting", V.ref q6), (Sum.inr "keys", V.ref q7)] : List (Key × V)) (Sum.inr "words") (.ref q8) = ([(Sum.inr "asleep", V.ref q1), (Sum.inr "changing", V.ref q2), (Sum.inr "count", V.ref q3), (Sum.inr "first", V.ref q4), (Sum.inr "ring", V.ref q5), (Sum.inr "sorting", V.ref q6), (Sum.inr "keys", V.ref q7), (Sum.inr "words", V.ref q8)] : List (Key × V)) := rfl
    rw [em]
    clear em
    have fg' : upd G13 dg (.dK ([(Sum.inr "asleep", V.ref q1), (Sum.inr "changing", V.ref q2), (Sum.inr "count", V.ref q3), (Sum.inr "first", V.ref q4), (Sum.inr "ring", V.ref q5), (Sum.inr "sorting", V.ref q6), (Sum.inr "keys", V.ref q7), (Sum.inr "words", V.ref q8)])) dg = some (.dK ([(Sum.inr "asleep", V.ref q1), (Sum.inr "changing", V.ref q2), (Sum.inr "count", V.ref q3), (Sum.inr "first", V.ref q4), (Sum.inr "ring", V.ref q5), (Sum.inr "sorting", V.ref q6), (Sum.inr "keys", V.ref q7), (Sum.inr "words", V.ref q8)])) := upd_same
    replace fh : upd G13 dg (.dK ([(Sum.inr "asleep", V.ref q1), (Sum.inr "changing", V.ref q2), (Sum.inr "count", V.ref q3), (Sum.inr "first", V.ref q4), (Sum.inr "ring", V.ref q5), (Sum.inr "sorting", V.ref q6), (Sum.inr "keys", V.ref q7), (Sum.inr "words", V.ref q8)])) hd = some (.lst (headL.map V.str)) := by rw [upd_ne ndh]; exact fh
    replace fw : upd G13 dg (.dK ([(Sum.inr "asleep", V.ref q1), (Sum.inr "changing", V.ref q2), (Sum.inr "count", V.ref q3), (Sum.inr "first", V.ref q4), (Sum.inr "ring", V.ref q5), (Sum.inr "sorting", V.ref q6), (Sum.inr "keys", V.ref q7), (Sum.inr "words", V.ref q8)])) wl = some (.lst ((x :: xs).map V.str)) := by rw [upd_ne ndw]; exact fw
    replace fq1 : upd G13 dg (.dK ([(Sum.inr "asleep", V.ref q1), (Sum.inr "changing", V.ref q2), (Sum.inr "count", V.ref q3), (Sum.inr "first", V.ref q4), (Sum.inr "ring", V.ref q5), (Sum.inr "sorting", V.ref q6), (Sum.inr "keys", V.ref q7), (Sum.inr "words", V.ref q8)])) q1 = some (.lst [.str "keep", .str "drop"]) := by rw [upd_ne ndq1]; exact fq1
    replace fq2 : upd G13 dg (.dK ([(Sum.inr "asleep", V.ref q1), (Sum.inr "changing", V.ref q2), (Sum.inr "count", V.ref q3), (Sum.inr "first", V.ref q4), (Sum.inr "ring", V.ref q5), (Sum.inr "sorting", V.ref q6), (Sum.inr "keys", V.ref q7), (Sum.inr "words", V.ref q8)])) q2 = some (.lst [.str "keep", .str "clear"]) := by rw [upd_ne ndq2]; exact fq2
    replace fq3 : upd G13 dg (.dK ([(Sum.inr "asleep", V.ref q1), (Sum.inr "changing", V.ref q2), (Sum.inr "count", V.ref q3), (Sum.inr "first", V.ref q4), (Sum.inr "ring", V.ref q5), (Sum.inr "sorting", V.ref q6), (Sum.inr "keys", V.ref q7), (Sum.inr "words", V.ref q8)])) q3 = some (.lst [.str "all", .str "rest"]) := by rw [upd_ne ndq3]; exact fq3
    replace fq4 : upd G13 dg (.dK ([(Sum.inr "asleep", V.ref q1), (Sum.inr "changing", V.ref q2), (Sum.inr "count", V.ref q3), (Sum.inr "first", V.ref q4), (Sum.inr "ring", V.ref q5), (Sum.inr "sorting", V.ref q6), (Sum.inr "keys", V.ref q7), (Sum.inr "words", V.ref q8)])) q4 = some (.lst [.str "newer", .str "elder"]) := by rw [upd_ne ndq4]; exact fq4
    replace fq5 : upd G13 dg (.dK ([(Sum.inr "asleep", V.ref q1), (Sum.inr "changing", V.ref q2), (Sum.inr "count", V.ref q3), (Sum.inr "first", V.ref q4), (Sum.inr "ring", V.ref q5), (Sum.inr "sorting", V.ref q6), (Sum.inr "keys", V.ref q7), (Sum.inr "words", V.ref q8)])) q5 = some (.lst [.str "refuse", .str "turn"]) := by rw [upd_ne ndq5]; exact fq5
    replace fq6 : upd G13 dg (.dK ([(Sum.inr "asleep", V.ref q1), (Sum.inr "changing", V.ref q2), (Sum.inr "count", V.ref q3), (Sum.inr "first", V.ref q4), (Sum.inr "ring", V.ref q5), (Sum.inr "sorting", V.ref q6), (Sum.inr "keys", V.ref q7), (Sum.inr "words", V.ref q8)])) q6 = some (.lst [.str "keep", .str "clear"]) := by rw [upd_ne ndq6]; exact fq6
    replace fq7 : upd G13 dg (.dK ([(Sum.inr "asleep", V.ref q1), (Sum.inr "changing", V.ref q2), (Sum.inr "count", V.ref q3), (Sum.inr "first", V.ref q4), (Sum.inr "ring", V.ref q5), (Sum.inr "sorting", V.ref q6), (Sum.inr "keys", V.ref q7), (Sum.inr "words", V.ref q8)])) q7 = some (.lst [.str "1", .str "2", .str "3"]) := by rw [upd_ne ndq7]; exact fq7
    replace fq8 : upd G13 dg (.dK ([(Sum.inr "asleep", V.ref q1), (Sum.inr "changing", V.ref q2), (Sum.inr "count", V.ref q3), (Sum.inr "first", V.ref q4), (Sum.inr "ring", V.ref q5), (Sum.inr "sorting", V.ref q6), (Sum.inr "keys", V.ref q7), (Sum.inr "words", V.ref q8)])) q8 = some (.lst [.str "ahead", .str "behind", .str "bottom", .str "change", .str "come", .str "filter", .str "place", .str "sort", .str "top"]) := by rw [upd_ne ndq8]; exact fq8
    have s3' : Same H (upd G13 dg (.dK ([(Sum.inr "asleep", V.ref q1), (Sum.inr "changing", V.ref q2), (Sum.inr "count", V.ref q3), (Sum.inr "first", V.ref q4), (Sum.inr "ring", V.ref q5), (Sum.inr "sorting", V.ref q6), (Sum.inr "keys", V.ref q7), (Sum.inr "words", V.ref q8)]))) := same_mut s3 hdgH
    replace s3 := s3'
    clear s3'
    clear fg0
    generalize upd G13 dg (.dK ([(Sum.inr "asleep", V.ref q1), (Sum.inr "changing", V.ref q2), (Sum.inr "count", V.ref q3), (Sum.inr "first", V.ref q4), (Sum.inr "ring", V.ref q5), (Sum.inr "sorting", V.ref q6), (Sum.inr "keys", V.ref q7), (Sum.inr "words", V.ref q8)])) = G14 at fg' s3 fh fw fq1 fq2 fq3 fq4 fq5 fq6 fq7 fq8 ⊢
    have fg0 := fg'
    clear fg'
    -- what the table holds
    have tb : ∀ j h, headL[j]? = some h → 1 ≤ j → ∃ q : Addr, valV ([(Sum.inr "asleep", V.ref q1), (Sum.inr "changing", V.ref q2), (Sum.inr "count", V.ref q3), (Sum.inr "first", V.ref q4), (Sum.inr "ring", V.ref q5), (Sum.inr "sorting", V.ref q6), (Sum.inr "keys", V.ref q7), (Sum.inr "words", V.ref q8)] : List (Key × V)) (Sum.inr h) = some (.ref q) ∧ G14 q = some (.lst ((goodL j).map V.str)) := fun j h e hj => by
      have : j = 1 ∨ j = 2 ∨ j = 3 ∨ j = 4 ∨ j = 5 ∨ j = 6 ∨ j = 7 ∨ j = 8 := by
        have : j < 9 := (List.getElem?_eq_some_iff.mp e).1
        omega
      rcases this with rfl | rfl | rfl | rfl | rfl | rfl | rfl | rfl <;> cases e
      · exact ⟨q7, rfl, fq7⟩
      · exact ⟨q8, rfl, fq8⟩
      · exact ⟨q1, rfl, fq1⟩
      · exact ⟨q2, rfl, fq2⟩
      · exact ⟨q3, rfl, fq3⟩
      · exact ⟨q4, rfl, fq4⟩
      · exact ⟨q5, rfl, fq5⟩
      · exact ⟨q6, rfl, fq6⟩
    clear fq1 fq2 fq3 fq4 fq5 fq6 fq7 fq8
    generalize ([(Sum.inr "asleep", V.ref q1), (Sum.inr "changing", V.ref q2), (Sum.inr "count", V.ref q3), (Sum.inr "first", V.ref q4), (Sum.inr "ring", V.ref q5), (Sum.inr "sorting", V.ref q6), (Sum.inr "keys", V.ref q7), (Sum.inr "words", V.ref q8)] : List (Key × V)) = tab at tb fg0
    generalize G14 = G at tb fg0 fh fw s3 ⊢
    have hxl : xs.length ≤ 999 := by
      have : xs.length + 1 ≤ 1000 := hwn
      omega
    have el : (((x :: xs).map V.str).length : Int) = (xs.length : Int) + 1 := by rw [List.length_map, List.length_cons]; rfl
    refine ⟨_, rfl, wl, _, rfl, .inl (SqL.of fw), 1, _, rfl, ?_, ?_⟩
    · rw [el]
      exact ⟨by decide, by decide, by omega, by omega⟩
    rw [el]
    have en : ((xs.length : Int) + 1 - 1).toNat = xs.length := by omega
    rw [en]
    refine for_range (lo := 1) (n := xs.length) (fun i σ H2 => ∃ o, σ = [some (.int (k : Int)), some (.ref wl), some (.ref hd), some (.ref dg), o] ∧ Same G H2 ∧ badFrom k 1 xs = badFrom k (i + 1) (xs.drop i)) ⟨none, rfl, Same.refl G, rfl⟩ ?_ ?_
    · rintro i σ H2 hi ⟨o, rfl, sG, eb⟩
      have edr : xs.drop i = xs[i] :: xs.drop (i + 1) := List.drop_eq_getElem_cons hi
      have ews : (x :: xs)[i + 1]? = some xs[i] := by rw [List.getElem?_cons_succ]; exact List.getElem?_eq_getElem hi
      have ei : (1 : Int) + (i : Int) = ((i + 1 : Nat) : Int) := by omega
      have ati : atI ((x :: xs).map V.str) (1 + (i : Int)) = some (.str xs[i]) := by rw [ei]; exact at_str ews
      have hxi : xs[i].length ≤ 100000 := hxs _ (List.mem_cons_of_mem _ (List.getElem_mem hi))
      have retI : badFrom k 1 xs = some (i + 1 + 1) → ∀ H', Same H H' → Q (.int (1 + (i : Int) + 1)) H' := fun e H' s' => by
        have := kQ H' s'
        rw [eF, e] at this
        have e3 : (1 : Int) + (i : Int) + 1 = ((i + 1 + 1 : Nat) : Int) := by omega
        rw [e3]
        exact this
      -- the second test
      have second : ∀ H3, Same G H3 → goodWord k xs[i] = true → tIfS (tAnd (tTest (tOp (rIn K true) (tVar 0) (tTup (tCons (tC (.int 0)) (tCons (tC (.int 2)) tNil))))) (tTest (tOp (rI0 fun i j => .bl (decide (j < i))) (tVar 4) (tC (.int 1))))) (tRet (tOp rAdd (tVar 4) (tC (.int 1)))) tNext
          { nx := fun σ H2 => ∃ o, σ = [some (.int (k : Int)), some (.ref wl), some (.ref hd), some (.ref dg), o] ∧ Same G H2 ∧ badFrom k 1 xs = badFrom k (i + 1 + 1) (xs.drop (i + 1)), rt := Q } [some (.int (k : Int)), some (.ref wl), some (.ref hd), some (.ref dg), some (.int (1 + (i : Int)))] H3 := fun H3 sH3 g => by
        refine ⟨_, rfl, (by show 2 ≤ sizeLine; decide), fun tp htp => ?_⟩
        have s4 : Same G (upd H3 tp (.tup [.int 0, .int 2])) := same_new sH3 htp
        refine ⟨tp, _, rfl, .inr (SqT.of upd_same), rfl, rfl, _, rfl, ?_⟩
        generalize upd H3 tp (.tup [.int 0, .int 2]) = H4 at s4 ⊢
        by_cases hk02 : k = 0 ∨ k = 2
        · have e1 : (if true = true then !inV (.int (k : Int)) [.int 0, .int 2] else inV (.int (k : Int)) [.int 0, .int 2]) = false := by rcases hk02 with rfl | rfl <;> rfl
          rw [e1]
          refine iteF ?_
          refine iteF ?_
          refine ⟨_, rfl, s4, ?_⟩
          rw [eb, edr]
          exact badFrom_step g (by omega)
        · have e1 : (if true = true then !inV (.int (k : Int)) [.int 0, .int 2] else inV (.int (k : Int)) [.int 0, .int 2]) = true := by
            show (!((((0 : Int) == (k : Int))) || (((2 : Int) == (k : Int)) || false))) = true
            rw [beq_eq_false_iff_ne.mpr (show (0 : Int) ≠ (k : Int) by omega), beq_eq_false_iff_ne.mpr (show (2 : Int) ≠ (k : Int) by omega)]
            rfl
          rw [e1]
          refine iteT ?_
          refine ⟨_, rfl, _, _, rfl, rfl, _, rfl, ?_⟩
          by_cases hi0 : i = 0
          · subst hi0
            rw [decide_eq_false (show ¬ ((1 : Int) < 1 + ((0 : Nat) : Int)) by decide)]
            refine iteF ?_
            refine ⟨_, rfl, s4, ?_⟩
            rw [eb, edr]
            exact badFrom_step g (.inr (.inr rfl))
          · rw [decide_eq_true (show ((1 : Int) < 1 + (i : Int)) by omega)]
            refine iteT ?_
            refine ⟨_, rfl, _, _, rfl, rfl, ?_⟩
            refine retI ?_ _ (s3.trans s4)
            rw [eb, edr]
            show (if goodWord k xs[i] = false ∨ (k ≠ 0 ∧ k ≠ 2 ∧ 1 < i + 1) then some (i + 1 + 1) else _) = _
            rw [if_pos (.inr (by omega))]
      refine ⟨_, rfl, rfl, _, rfl, ?_⟩
      by_cases hk0 : k = 0
      · subst hk0
        refine iteT ?_
        refine ⟨_, rfl, _, rfl, wl, _, _, _, rfl, rfl, SqL.of (sG _ _ fw), ati, _, rfl, hxi, fun H3 s3' => ⟨_, rfl, ?_⟩⟩
        cases hn : isNameS xs[i] with
        | false =>
          refine iteT ?_
          refine iteT ?_
          refine ⟨_, rfl, _, _, rfl, rfl, ?_⟩
          refine retI ?_ _ (s3.trans (sG.trans s3'))
          rw [eb, edr]
          exact badFrom_bad hn
        | true =>
          refine iteF ?_
          refine ⟨_, rfl, _, _, rfl, rfl, _, rfl, ?_⟩
          refine iteF ?_
          refine iteF ?_
          exact second H3 (sG.trans s3') hn
      · have e1 : decide (V.int (k : Int) = V.int 0) = false := decide_eq_false fun e => hk0 (by have := V.int.inj e; omega)
        rw [e1]
        refine iteF ?_
        refine iteF ?_
        refine ⟨_, rfl, _, _, rfl, rfl, _, rfl, ?_⟩
        rw [decide_eq_true (show ((0 : Int) < (k : Int)) by omega)]
        refine iteT ?_
        obtain ⟨qk, ev, hq⟩ := tb k x hk (by omega)
        refine ⟨_, rfl, _, rfl, wl, _, _, _, rfl, rfl, SqL.of (sG _ _ fw), ati, ?_⟩
        refine ⟨_, rfl, _, rfl, _, rfl, hd, _, _, _, rfl, rfl, SqL.of (sG _ _ fh), at_str hk, dg, _, rfl, (by rw [← ev]; exact DGet.k (k := Sum.inr x) (sG _ _ fg0)), ?_⟩
        refine ⟨qk, _, rfl, .inl (SqL.of (sG _ _ hq)), rfl, flat_strs _, _, rfl, ?_⟩
        have eg := goodWord_L (k := k) (by omega) xs[i]
        have e2 : (if true = true then !inV (.str xs[i]) ((goodL k).map V.str) else inV (.str xs[i]) ((goodL k).map V.str)) = !goodWord k xs[i] := by
          rw [eg, ← inV_strs]
          rfl
        rw [e2]
        cases hn : goodWord k xs[i] with
        | false =>
          refine iteT ?_
          refine ⟨_, rfl, _, _, rfl, rfl, ?_⟩
          refine retI ?_ _ (s3.trans sG)
          rw [eb, edr]
          exact badFrom_bad hn
        | true =>
          refine iteF ?_
          exact second H2 sG hn
    · rintro σ H2 ⟨o, rfl, sG, eb⟩
      have nb : badFrom k 1 xs = none := by rw [eb, List.drop_length]; rfl
      rw [eF, nb] at kQ
      have kQ2 : ∀ H', Same H H' → Q (faultV (if xs = [] ∧ k ≠ 2 then some 2 else none)) H' := kQ
      refine ⟨_, rfl, wl, _, rfl, .inl (SqL.of (sG _ _ fw)), rfl, _, rfl, ?_⟩
      rw [el]
      by_cases hx0 : xs = []
      · subst hx0
        refine iteT ?_
        refine ⟨_, rfl, rfl, _, rfl, ?_⟩
        by_cases hk2 : k = 2
        · subst hk2
          refine iteF ?_
          rw [if_neg (by rintro ⟨_, z⟩; exact z rfl)] at kQ2
          exact kQ2 H2 (s3.trans sG)
        · have e1 : (!decide (V.int (k : Int) = V.int 2)) = true := by rw [decide_eq_false fun e => hk2 (by have := V.int.inj e; omega)]; rfl
          rw [e1]
          refine iteT ?_
          rw [if_pos ⟨rfl, hk2⟩] at kQ2
          exact kQ2 H2 (s3.trans sG)
      · have e1 : decide (V.int ((xs.length : Int) + 1) = V.int 1) = false := decide_eq_false fun e => hx0 (List.length_eq_zero_iff.mp (by have := V.int.inj e; omega))
        rw [e1]
        refine iteF ?_
        refine iteF ?_
        rw [if_neg (fun z => hx0 z.1)] at kQ2
        exact kQ2 H2 (s3.trans sG)
end
end HP

namespace HP
open PySem PySem.Spec PyProof.Rows L2
section
variable {P : Program} {w : World} {K : PySem.W.Frag} {mg : Str → Option Value} {base : Heap}
def dueD : Option (Nat × Nat) → PyData
  | none => .none
  | some (n, m) => .tuple [.int (n : Int), .int (m : Int)]
theorem fault9 (ws : List Str) {k : Nat} (h : 9 ≤ k) : lineFault k ws = some 1 := by
  cases ws with
  | nil => rfl
  | cons y ys =>
    show (if headL[k]? = some y then _ else some 1) = some 1
    rw [if_neg]
    intro e
    have : k < headL.length := (List.getElem?_eq_some_iff.mp e).1
    have h9 : headL.length = 9 := rfl
    omega
def spLDue (K : PySem.W.Frag) : Sp := fun vs H Q _ => ∃ (x : Str), vs = [.str x] ∧ x.length ≤ 80000 ∧ (∀ r ∈ Txt.split x "\n", (wordsOf r).length < 60 ∧ okS (wordsOf r)) ∧ ∀ H' v, Same H H' → Dp K H' v (dueD (faultFrom 0 (Txt.split x "\n"))) → Q v H'
theorem scLDue : FnScope ["_law_text", "_law_rows_here", "_law_k", "_law_bad_here", "_law_word"] ["_law_text"] (defScope sLDue) := ⟨rfl, rfl, rfl, by decide +kernel, rfl, by decide +kernel, by decide +kernel⟩
theorem ok_ldue (D : Dat K mg "_law_due" sLDue) (T : Fr mg) (FB : Fn P w K mg base CX0 2 "_law_bad" spLBad) : Fn P w K mg base CX0 3 "_law_due" (spLDue K) := by
  refine Fn.of0 D scLDue (fun _ _ _ _ _ _ us hl => match us, hl with | [_], _ => rfl) (fun vs H Q E h => ?_) (fun f cdv A outer s H vs Q E hr h => ?_)
  · obtain ⟨x, rfl, _⟩ := h
    rfl
  · obtain ⟨x, rfl, hx, hws, kQ⟩ := h
    refine ⟨_, (pss_cons (ps_set (i := 1) scLDue.nd rfl (Or.inl rfl) (pe_split (pv 0) pe_str))
      (pss_cons (ps_for PassesOwn.never rfl (pi_range1 (by rfl) (T.fr "range" (by decide +kernel)) (pa_cons (pe_callB (kLen (K := K)) (by rfl) (T.fr "len" (by decide +kernel)) (by decide +kernel) (pa_cons (pv 1) pa_nil)) pa_nil)) (pg_name (i := 2) scLDue.nd rfl (Or.inl rfl)) (pss_cons (ps_set (i := 3) scLDue.nd rfl (Or.inl rfl) (pf FB hr (by decide) (pa_cons (pv 2) (pa_cons (pe_lc (own := [("_law_word", 4)]) (g := gName 4) (by rfl) scLDue.nd (iL (K := K) (pe_split (pe_ix (ixL (K := K)) (pv 1) (pv 2) (fun _ _ => rfl)) pe_str)) (blkOk_by (own := [("_law_word", 4)]) (N := ["_law_text", "_law_rows_here", "_law_k", "_law_bad_here", "_law_word"]) (sc := defScope sLDue) (by decide +kernel)) (fun _ _ _ _ _ => (pg_name (i := 4) scLDue.nd rfl (Or.inl rfl))) (fun _ _ _ _ _ => (pts_one (pt_cmpR op_ne (pv 4) pe_str (nomark _)))) (fun _ _ _ _ _ => (pv 4))) pa_nil))))
      (pss_one (ps_if (pt_cmpR op_notN (pv 3) pe_non (nomark _)) (pss_one (ps_ret (pe_tup (pa_cons (pe_op op_add (pv 2) pe_int) (pa_cons (pv 3) pa_nil))))) pss_nil))))
      (pss_one (ps_ret (pe_ifExp (pt_cmpR op_eq (pe_callB (kLen (K := K)) (by rfl) (T.fr "len" (by decide +kernel)) (by decide +kernel) (pa_cons (pv 1) pa_nil)) pe_int (nomark _)) pe_non (pe_tup (pa_cons (pe_op op_add (pe_callB (kLen (K := K)) (by rfl) (T.fr "len" (by decide +kernel)) (by decide +kernel) (pa_cons (pv 1) pa_nil)) pe_int) (pa_cons pe_int pa_nil)))))))), ?_⟩
    generalize erows : Txt.split x "\n" = rows at hws kQ
    have hrl : rows.length ≤ 80002 := by rw [← erows]; exact Nat.le_trans (split_le x "\n") (Nat.add_le_add_right hx 2)
    have hrx : ∀ r ∈ rows, r.length ≤ 80000 := fun r hr0 => by rw [← erows] at hr0; exact Nat.le_trans (piece_le hr0) hx
    refine ⟨_, rfl, ⟨x, rfl⟩, x, "\n", rfl, rfl, rfl, Nat.le_trans (Nat.add_le_add_right hx 2) (by decide), fun rl hrl0 => ?_⟩
    rw [erows]
    have s1 : Same H (upd H rl (.lst (rows.map V.str))) := same_new (Same.refl H) hrl0
    have hr1 : upd H rl (.lst (rows.map V.str)) rl = some (.lst (rows.map V.str)) := upd_same
    show tSeq _ _ _ _ (upd H rl (.lst (rows.map V.str)))
    generalize upd H rl (.lst (rows.map V.str)) = H1 at s1 hr1
    refine ⟨_, rfl, rl, _, rfl, .inl (SqL.of hr1), _, rfl, by omega, by rw [List.length_map]; omega, ?_⟩
    rw [List.length_map]
    refine for_range (lo := 0) (n := rows.length) (fun i σ H2 => ∃ o1 o2, σ = [some (.str x), some (.ref rl), o1, o2, none] ∧ Same H1 H2 ∧ i ≤ 9 ∧ faultFrom 0 rows = faultFrom i (rows.drop i)) ⟨none, none, rfl, Same.refl H1, by omega, rfl⟩ ?_ ?_
    · rintro i σ H2 hi ⟨o1, o2, rfl, s2, hi9, eb⟩
      have edr : rows.drop i = rows[i] :: rows.drop (i + 1) := List.drop_eq_getElem_cons hi
      have ei : (0 : Int) + (i : Int) = (i : Int) := by omega
      have hri := hrx _ (List.getElem_mem hi)
      have ati : atI (rows.map V.str) (0 + (i : Int)) = some (.str rows[i]) := by rw [ei]; exact at_str (List.getElem?_eq_getElem hi)
      refine ⟨_, rfl, _, rfl, _, rfl, rl, _, _, _, rfl, rfl, SqL.of (s2 _ _ hr1), ati, ⟨_, rfl⟩, _, " ", rfl, rfl, rfl, Nat.le_trans (Nat.add_le_add_right hri 2) (by decide), fun l hl => ?_⟩
      have s3 : Same H2 (upd H2 l (.lst ((Txt.split rows[i] " ").map V.str))) := same_new (Same.refl H2) hl
      have hl3 : upd H2 l (.lst ((Txt.split rows[i] " ").map V.str)) l = some (.lst ((Txt.split rows[i] " ").map V.str)) := upd_same
      generalize upd H2 l (.lst ((Txt.split rows[i] " ").map V.str)) = H3 at s3 hl3 ⊢
      refine ⟨l, rfl, ⟨_, SqL.of hl3⟩, fun D hD => ?_⟩
      have hlen : (Txt.split rows[i] " ").length ≤ 80002 := Nat.le_trans (split_le _ " ") (Nat.add_le_add_right hri 2)
      refine lc_list (K := K) (a := l) (xs := (Txt.split rows[i] " ").map V.str) (Cv H3 D fun j => (((Txt.split rows[i] " ").take j).filter fun z => !decide (z = ("" : Str))).map V.str) (cv0 hD rfl) (fun j H4 _ p => SqL.of (p.1 _ _ hl3)) (fun j v H4 hj p => ?_) (fun H4 p => ?_)
      · rw [List.getElem?_map] at hj
        obtain ⟨z, hz, rfl⟩ : ∃ z, (Txt.split rows[i] " ")[j]? = some z ∧ V.str z = v := by
          cases q : (Txt.split rows[i] " ")[j]? with
          | none => rw [q] at hj; cases hj
          | some z => rw [q] at hj; exact ⟨z, rfl, Option.some.inj hj⟩
        refine ⟨rfl, ?_⟩
        refine ⟨_, rfl, rfl, _, rfl, ?_⟩
        rw [str_decide]
        have et : (Txt.split rows[i] " ").take (j + 1) = (Txt.split rows[i] " ").take j ++ [z] := by rw [List.take_add_one, hz]; rfl
        cases q : !decide (z = ("" : Str)) with
        | true =>
          refine iteT ?_
          refine ⟨_, rfl, cv_yes hD p.1 p.2 ?_ ?_⟩
          · rw [List.length_map]
            refine Nat.le_trans (List.length_filter_le ..) ?_
            rw [List.length_take]
            have := (List.getElem?_eq_some_iff.mp hz).1
            omega
          · rw [et, List.filter_append, List.map_append]
            simp only [List.filter_cons, q, List.filter_nil]
            rfl
        | false =>
          refine iteF ?_
          refine cv_no p.1 p.2 ?_
          rw [et, List.filter_append, List.map_append]
          simp only [List.filter_cons, q, List.filter_nil]
          exact List.append_nil _
      · have e : H4 D = some (.lst ((wordsOf rows[i]).map V.str)) := by
          have z := p.2
          rw [List.length_map] at z
          dsimp only at z
          rw [List.take_length] at z
          exact z
        have hw := hws _ (List.getElem_mem hi)
        have hxs : ∀ z ∈ wordsOf rows[i], z.length ≤ 100000 := fun z hz => Nat.le_trans (words_le hz) (Nat.le_trans hri (by decide))
        refine ⟨i, D, wordsOf rows[i], by rw [ei]; rfl, e, hw.2, hxs, by omega, fun H5 s5 => ?_⟩
        have s15 := s2.trans (s3.trans (p.1.trans s5))
        have eb2 : faultFrom 0 rows = (match lineFault i (wordsOf rows[i]) with
            | some m => some (i + 1, m)
            | none => faultFrom (i + 1) (rows.drop (i + 1))) := by rw [eb, edr]; rfl
        cases hf : lineFault i (wordsOf rows[i]) with
        | some m =>
          refine ⟨_, rfl, rfl, _, rfl, ?_⟩
          refine iteT ?_
          refine ⟨_, rfl, _, _, rfl, rfl, _, rfl, (by show 2 ≤ sizeLine; decide), fun tp htp => ?_⟩
          refine kQ _ _ (same_new (s1.trans s15) htp) ?_
          rw [eb2, hf, ei]
          exact .tup (SqT.of upd_same) (.cons (.int _) (.cons (.int _) .nil))
        | none =>
          refine ⟨_, rfl, rfl, _, rfl, ?_⟩
          refine iteF ?_
          refine ⟨_, _, rfl, s15, ?_, ?_⟩
          · apply Classical.byContradiction
            intro z
            rw [fault9 _ (show 9 ≤ i by omega)] at hf
            cases hf
          · rw [eb2, hf]
    · rintro σ H2 ⟨o1, o2, rfl, s2, hi9, eb⟩
      rw [List.drop_length] at eb
      have eb3 : faultFrom 0 rows = if rows.length < 9 then some (rows.length + 1, 1) else none := eb
      rw [eb3] at kQ
      refine ⟨_, rfl, rl, _, rfl, .inl (SqL.of (s2 _ _ hr1)), rfl, _, rfl, ?_⟩
      rw [List.length_map]
      by_cases h9 : rows.length = 9
      · have e1 : decide (V.int (rows.length : Int) = V.int 9) = true := decide_eq_true (by rw [h9]; rfl)
        rw [e1]
        refine iteT ?_
        refine kQ H2 _ (s1.trans s2) ?_
        rw [if_neg (by omega)]
        exact .non
      · have e1 : decide (V.int (rows.length : Int) = V.int 9) = false := decide_eq_false fun e => h9 (by have := V.int.inj e; omega)
        rw [e1]
        refine iteF ?_
        refine ⟨_, rfl, rl, _, rfl, .inl (SqL.of (s2 _ _ hr1)), _, _, rfl, rfl, (by show 2 ≤ sizeLine; decide), fun tp htp => ?_⟩
        refine kQ _ _ (same_new (s1.trans s2) htp) ?_
        rw [if_pos (by omega), List.length_map]
        exact .tup (SqT.of upd_same) (.cons (.int _) (.cons (.int _) .nil))
end
end HP

namespace HP
open PySem PySem.Spec PyProof.Rows L2
/-! ### expressions by what they denote: F, the part of the heap that stays, grows; W tells what else stands -/
structure Wd where
  ok : Hp → Hp → Prop
  sub : ∀ {F H}, ok F H → Same F H
  ext : ∀ {F H F' H'}, ok F H → Same H H' → Same F F' → Same F' H' → (∀ b o, F' b = some o → F b = some o ∨ H b = none) → ok F' H'
/-- a new thing that stays -/
theorem Wd.new (W : Wd) {F H : Hp} {q : Addr} {o : HO} (h : W.ok F H) (hq : H q = none) : Same F (upd F q o) ∧ W.ok (upd F q o) (upd H q o) := by
  have s := W.sub h
  have nF : F q = none := s.free hq
  refine ⟨same_new (Same.refl F) nF, W.ext h (same_new (Same.refl H) hq) (same_new (Same.refl F) nF) (fun b u e => ?_) (fun b u e => ?_)⟩
  · by_cases z : b = q
    · rw [z, upd_same] at e ⊢
      exact e
    · rw [upd_ne z] at e ⊢
      exact s b u e
  · by_cases z : b = q
    · exact .inr (by rw [z]; exact hq)
    · rw [upd_ne z] at e
      exact .inl e
abbrev RV := Hp → V → Prop
def DenR (W : Wd) (F : Hp) (σ : L2.St) (t : TE) (R : RV) : Prop := ∀ F1 H1, Same F F1 → W.ok F1 H1 → ∀ Q : VK, (∀ v F2 H2, Same F1 F2 → W.ok F2 H2 → R F2 v → Q v H2) → t σ H1 Q
def intR (i : Int) : RV := fun _ v => v = .int i
def strR (x : Str) : RV := fun _ v => v = .str x
def lsR (xs : List Str) : RV := fun F v => ∃ q, v = .ref q ∧ F q = some (.lst (xs.map V.str))
section
variable {W : Wd} {F : Hp} {σ : L2.St} {K : PySem.W.Frag}
theorem DenR.mono {F' : Hp} {t : TE} {R : RV} (h : DenR W F σ t R) (s : Same F F') : DenR W F' σ t R := fun F1 H1 s1 w Q k => h F1 H1 (s.trans s1) w Q k
theorem lsR.up {F' : Hp} {xs : List Str} {v : V} (s : Same F F') (h : lsR xs F v) : lsR xs F' v := let ⟨q, e, hq⟩ := h; ⟨q, e, s _ _ hq⟩
theorem dn_int {i : Int} : DenR W F σ (tC (.int i)) (intR i) := fun F1 H1 s w Q k => k _ F1 H1 (Same.refl _) w rfl
theorem dn_str {x : Str} : DenR W F σ (tC (.str x)) (strR x) := fun F1 H1 s w Q k => k _ F1 H1 (Same.refl _) w rfl
theorem dn_varI {i : Nat} {n : Int} (h : σ[i]? = some (some (.int n))) : DenR W F σ (tVar i) (intR n) := fun F1 H1 s w Q k => ⟨_, h, k _ F1 H1 (Same.refl _) w rfl⟩
theorem dn_varL {i : Nat} {v : V} {xs : List Str} (h : σ[i]? = some (some v)) (hv : lsR xs F v) : DenR W F σ (tVar i) (lsR xs) := fun F1 H1 s w Q k => ⟨_, h, k _ F1 H1 (Same.refl _) w (hv.up s)⟩
theorem dn_add {t u : TE} {i j : Int} (h : DenR W F σ t (intR i)) (g : DenR W F σ u (intR j)) : DenR W F σ (tOp rAdd t u) (intR (i + j)) := fun F1 H1 s w Q k => by
  refine h F1 H1 s w _ fun v F2 H2 s2 w2 e => ?_
  refine g F2 H2 (s.trans s2) w2 _ fun v3 F3 H3 s3 w3 e3 => ?_
  rw [e, e3]
  exact ⟨_, _, rfl, rfl, k _ F3 H3 (s2.trans s3) w3 rfl⟩
theorem dn_cat {t u : TE} {xs ys : List Str} (h : DenR W F σ t (lsR xs)) (g : DenR W F σ u (lsR ys)) (hl : xs.length + ys.length ≤ 1000) : DenR W F σ (tOp rCat t u) (lsR (xs ++ ys)) := fun F1 H1 s w Q k => by
  refine h F1 H1 s w _ fun v F2 H2 s2 w2 e => ?_
  refine g F2 H2 (s.trans s2) w2 _ fun v3 F3 H3 s3 w3 e3 => ?_
  obtain ⟨a, rfl, ha⟩ := e.up s3
  obtain ⟨b, rfl, hb⟩ := e3
  refine ⟨a, b, _, _, rfl, rfl, W.sub w3 _ _ ha, W.sub w3 _ _ hb, ?_, fun q hq => ?_⟩
  · rw [List.length_map, List.length_map]
    exact Nat.le_trans hl (by decide)
  · obtain ⟨s4, w4⟩ := W.new (o := .lst (xs.map V.str ++ ys.map V.str)) w3 hq
    exact k _ _ _ ((s2.trans s3).trans s4) w4 ⟨q, rfl, by rw [upd_same, List.map_append]⟩
theorem cut_map (xs : List Str) (lo hi : Option Int) : cutV (xs.map V.str) lo hi = ((xs.drop (HT.sIx xs.length 0 lo)).take (HT.sIx xs.length xs.length hi - HT.sIx xs.length 0 lo)).map V.str := by
  unfold cutV
  rw [List.length_map, List.map_take, List.map_drop]
theorem dn_to {t u : TE} {xs : List Str} {n : Nat} (h : DenR W F σ t (lsR xs)) (g : DenR W F σ u (intR (n : Int))) : DenR W F σ (tSl (rSlL K) t tNoPart (tPart u)) (lsR (xs.take n)) := fun F1 H1 s w Q k => by
  refine h F1 H1 s w _ fun v F2 H2 s2 w2 e => ?_
  refine g F2 H2 (s.trans s2) w2 _ fun v3 F3 H3 s3 w3 e3 => ?_
  obtain ⟨a, rfl, ha⟩ := e.up s3
  refine ⟨_, e3, a, _, rfl, SqL.of (W.sub w3 _ _ ha), fun q hq => ?_⟩
  obtain ⟨s4, w4⟩ := W.new (o := .lst (cutV (xs.map V.str) none (some (n : Int)))) w3 hq
  refine k _ _ _ ((s2.trans s3).trans s4) w4 ⟨q, rfl, ?_⟩
  rw [upd_same, cut_map, HT.sIx_none, HT.sIx_nat, List.drop_zero, Nat.sub_zero]
  by_cases z : n ≤ xs.length
  · rw [Nat.min_eq_left z]
  · rw [Nat.min_eq_right (by omega), List.take_length, List.take_of_length_le (by omega)]
theorem dn_from {t u : TE} {xs : List Str} {n : Nat} (h : DenR W F σ t (lsR xs)) (g : DenR W F σ u (intR (n : Int))) : DenR W F σ (tSl (rSlL K) t (tPart u) tNoPart) (lsR (xs.drop n)) := fun F1 H1 s w Q k => by
  refine h F1 H1 s w _ fun v F2 H2 s2 w2 e => ?_
  refine g F2 H2 (s.trans s2) w2 _ fun v3 F3 H3 s3 w3 e3 => ?_
  obtain ⟨a, rfl, ha⟩ := e.up s3
  refine ⟨_, e3, a, _, rfl, SqL.of (W.sub w3 _ _ ha), fun q hq => ?_⟩
  obtain ⟨s4, w4⟩ := W.new (o := .lst (cutV (xs.map V.str) (some (n : Int)) none)) w3 hq
  refine k _ _ _ ((s2.trans s3).trans s4) w4 ⟨q, rfl, ?_⟩
  rw [upd_same, cut_map, HT.sIx_none, HT.sIx_nat]
  by_cases z : n ≤ xs.length
  · rw [Nat.min_eq_left z, List.take_of_length_le (by rw [List.length_drop]; exact Nat.le_refl _)]
  · rw [Nat.min_eq_right (by omega), List.drop_length, List.drop_of_length_le (by omega), List.take_nil]
end
end HP

namespace HP
open PySem PySem.Spec PyProof.Rows L2
abbrev sSpoil : Stmt := top 35
/-! ### _law_spoil -/
/-- the source of draws stands outside what stays -/
def Wsrc (p l : Addr) : Wd where
  ok := fun F H => Same F H ∧ F p = none ∧ F l = none ∧ Src H p l
  sub := fun h => h.1
  ext := fun {F H F' H'} h s1 s2 s3 hn => by
    obtain ⟨h1, h2, h3, S⟩ := h
    have no : ∀ b xs, H b = some (.lst xs) → F b = none → F' b = none := fun b xs e e2 => by
      cases q : F' b with
      | none => rfl
      | some o =>
        rcases hn b o q with z | z
        · rw [e2] at z; cases z
        · rw [e] at z; cases z
    obtain ⟨xs, ex⟩ := S.pl
    obtain ⟨ys, ey⟩ := S.ll
    exact ⟨s3, no p _ ex h2, no l _ ey h3, S.same s1⟩
def ltR (b : Nat) : RV := fun _ v => ∃ r : Nat, v = .int (r : Int) ∧ r < b
def lsP (P : List Str → Prop) : RV := fun F v => ∃ xs, P xs ∧ lsR xs F v
def strP (P : Str → Prop) : RV := fun _ v => ∃ x, P x ∧ v = .str x
section
variable {W : Wd} {F : Hp} {σ : L2.St} {K : PySem.W.Frag}
theorem DenR.imp {t : TE} {R S : RV} (h : DenR W F σ t R) (f : ∀ F v, R F v → S F v) : DenR W F σ t S := fun F1 H1 s w Q k => h F1 H1 s w Q fun v F2 H2 s2 w2 r => k v F2 H2 s2 w2 (f F2 v r)
theorem dn_len {t : TE} {xs : List Str} (h : DenR W F σ t (lsR xs)) : DenR W F σ (tCB (rLenQ K) (tCons t tNil)) (intR (xs.length : Int)) := fun F1 H1 s w Q k => by
  refine h F1 H1 s w _ fun v F2 H2 s2 w2 e => ?_
  obtain ⟨a, rfl, ha⟩ := e
  refine ⟨a, _, rfl, .inl (SqL.of (W.sub w2 _ _ ha)), k _ F2 H2 s2 w2 ?_⟩
  rw [List.length_map]
  rfl
theorem dn_next {p l : Addr} {i b : Nat} {u : TE} (hσ : σ[i]? = some (some (.ref p))) (g : DenR (Wsrc p l) F σ u (intR (b : Int))) (h0 : 0 < b) (h1 : b < 1000) : DenR (Wsrc p l) F σ (tCall spNext [] E0 (tCons (tVar i) (tCons u tNil))) (ltR b) := fun F1 H1 s w Q k => by
  refine ⟨_, hσ, ?_⟩
  refine g F1 H1 s w _ fun v F2 H2 s2 w2 e => ?_
  rw [e]
  refine ⟨p, l, (b : Int), rfl, w2.2.2.2, by omega, by omega, fun H3 r r0 r1 S3 K3 => ?_⟩
  refine k _ F2 H3 s2 ⟨fun c o ec => K3 c o (w2.1 c o ec) (fun z => ?_) (fun z => ?_), w2.2.1, w2.2.2.1, S3⟩ ⟨r.toNat, ?_, by omega⟩
  · rw [z, w2.2.1] at ec; cases ec
  · rw [z, w2.2.2.1] at ec; cases ec
  · rw [Int.toNat_of_nonneg r0]
theorem dn_ix {t u : TE} {xs : List Str} {n : Nat} {x : Str} (h : DenR W F σ t (lsR xs)) (g : DenR W F σ u (intR (n : Int))) (e : xs[n]? = some x) : DenR W F σ (tOp (rIxL K) t u) (strR x) := fun F1 H1 s w Q k => by
  refine h F1 H1 s w _ fun v F2 H2 s2 w2 ev => ?_
  refine g F2 H2 (s.trans s2) w2 _ fun v3 F3 H3 s3 w3 e3 => ?_
  obtain ⟨a, rfl, ha⟩ := ev.up s3
  rw [e3]
  exact ⟨a, _, _, _, rfl, rfl, SqL.of (W.sub w3 _ _ ha), at_str e, k _ F3 H3 (s2.trans s3) w3 rfl⟩
theorem dn_pick {t u : TE} {xs : List Str} (h : DenR W F σ t (lsR xs)) (g : DenR W F σ u (ltR xs.length)) : DenR W F σ (tOp (rIxL K) t u) (strP fun x => x ∈ xs) := fun F1 H1 s w Q k => by
  refine h F1 H1 s w _ fun v F2 H2 s2 w2 ev => ?_
  refine g F2 H2 (s.trans s2) w2 _ fun v3 F3 H3 s3 w3 e3 => ?_
  obtain ⟨a, rfl, ha⟩ := ev.up s3
  obtain ⟨r, rfl, hr⟩ := e3
  exact ⟨a, _, _, _, rfl, rfl, SqL.of (W.sub w3 _ _ ha), at_str (List.getElem?_eq_getElem hr), k _ F3 H3 (s2.trans s3) w3 ⟨_, List.getElem_mem hr, rfl⟩⟩
theorem dn_one {t : TE} {P : Str → Prop} (h : DenR W F σ t (strP P)) : DenR W F σ (tLst (tCons t tNil)) (lsP fun xs => ∃ x, P x ∧ xs = [x]) := fun F1 H1 s w Q k => by
  refine h F1 H1 s w _ fun v F2 H2 s2 w2 ev => ?_
  obtain ⟨x, hx, rfl⟩ := ev
  refine ⟨(by show 1 ≤ sizeLine; decide), fun q hq => ?_⟩
  obtain ⟨s4, w4⟩ := W.new (o := .lst [.str x]) w2 hq
  exact k _ _ _ (s2.trans s4) w4 ⟨[x], ⟨x, hx, rfl⟩, q, rfl, upd_same⟩
theorem dn_catP {t u : TE} {P R : List Str → Prop} (h : DenR W F σ t (lsP P)) (g : DenR W F σ u (lsP R)) (hl : ∀ xs ys, P xs → R ys → xs.length + ys.length ≤ 1000) : DenR W F σ (tOp rCat t u) (lsP fun zs => ∃ xs ys, P xs ∧ R ys ∧ zs = xs ++ ys) := fun F1 H1 s w Q k => by
  refine h F1 H1 s w _ fun v F2 H2 s2 w2 e => ?_
  refine g F2 H2 (s.trans s2) w2 _ fun v3 F3 H3 s3 w3 e3 => ?_
  obtain ⟨xs, hx, e⟩ := e
  obtain ⟨ys, hy, e3⟩ := e3
  obtain ⟨a, rfl, ha⟩ := e.up s3
  obtain ⟨b, rfl, hb⟩ := e3
  refine ⟨a, b, _, _, rfl, rfl, W.sub w3 _ _ ha, W.sub w3 _ _ hb, ?_, fun q hq => ?_⟩
  · rw [List.length_map, List.length_map]
    exact Nat.le_trans (hl xs ys hx hy) (by decide)
  · obtain ⟨s4, w4⟩ := W.new (o := .lst (xs.map V.str ++ ys.map V.str)) w3 hq
    exact k _ _ _ ((s2.trans s3).trans s4) w4 ⟨xs ++ ys, ⟨xs, ys, hx, hy, rfl⟩, q, rfl, by rw [upd_same, List.map_append]⟩
theorem dn_addN {t u : TE} {i j : Nat} (h : DenR W F σ t (intR (i : Int))) (g : DenR W F σ u (intR (j : Int))) : DenR W F σ (tOp rAdd t u) (intR ((i + j : Nat) : Int)) := (dn_add h g).imp fun _ _ r => r
theorem dn_mid {t u u2 : TE} {xs : List Str} {a b : Nat} (h : DenR W F σ t (lsR xs)) (g : DenR W F σ u (intR (a : Int))) (g2 : DenR W F σ u2 (intR (b : Int))) : DenR W F σ (tSl (rSlL K) t (tPart u) (tPart u2)) (lsR ((xs.drop (min a xs.length)).take (min b xs.length - min a xs.length))) := fun F1 H1 s w Q k => by
  refine h F1 H1 s w _ fun v F2 H2 s2 w2 e => ?_
  refine g F2 H2 (s.trans s2) w2 _ fun v3 F3 H3 s3 w3 e3 => ?_
  refine ⟨_, e3, ?_⟩
  refine g2 F3 H3 (s.trans (s2.trans s3)) w3 _ fun v4 F4 H4 s4 w4 e4 => ?_
  obtain ⟨q0, rfl, ha⟩ := (e.up s3).up s4
  refine ⟨_, e4, q0, _, rfl, SqL.of (W.sub w4 _ _ ha), fun q hq => ?_⟩
  obtain ⟨s5, w5⟩ := W.new (o := .lst (cutV (xs.map V.str) (some (a : Int)) (some (b : Int)))) w4 hq
  refine k _ _ _ (((s2.trans s3).trans s4).trans s5) w5 ⟨q, rfl, ?_⟩
  rw [upd_same, cut_map, HT.sIx_nat, HT.sIx_nat]
theorem dn_strs {ts : TA} {xs : List Str} (h : ∀ H (Q : List V → Hp → Prop), Q (xs.map V.str) H → ts σ H Q) (hl : xs.length ≤ 1000) : DenR W F σ (tLst ts) (lsR xs) := fun F1 H1 s w Q k => by
  refine h _ _ ⟨by rw [List.length_map]; exact Nat.le_trans hl (by decide), fun q hq => ?_⟩
  obtain ⟨s4, w4⟩ := W.new (o := .lst (xs.map V.str)) w hq
  exact k _ _ _ s4 w4 ⟨q, rfl, upd_same⟩
theorem nx_of {a b c : L2.St → Hp → Prop} {r : VK} {H : Hp} (h : a σ H) : tNext { nx := a, rt := r, bk := b, ct := c } σ H := h
theorem dn_seq {t : TE} {g : TG} {u : TS} {D : Ends} {H : Hp} {R : RV} (h : DenR W F σ t R) (w : W.ok F H) (k : ∀ v F2 H2, Same F F2 → W.ok F2 H2 → R F2 v → g v σ H2 (u D)) : tSeq (tAsg t g) u D σ H := h F H (Same.refl F) w _ k
theorem DenR.ls {t : TE} {xs : List Str} (h : DenR W F σ t (lsR xs)) : DenR W F σ t (lsP fun ys => ys = xs) := h.imp fun _ _ r => ⟨_, rfl, r⟩
end
def moreW : List Str := ["a", "A", "keep", "top", "2", "4", "newer", "things", "?", "nineletter", "free", "drop"]
/-- the words that can be -/
def voc : List Str := "things" :: "keys" :: "words" :: "" :: "1" :: "2" :: "3" :: (fourNames ++ allWords ++ partNames ++ moreW ++ (["keep", "drop", "clear", "all", "rest", "newer", "elder", "refuse", "turn"] : List Str))
theorem voc_all : ∀ x ∈ voc, x.length ≤ 10 ∧ PyData.strOk x = true ∧ 32 ∉ TL.tl x ∧ 10 ∉ TL.tl x := by decide +kernel
def RowOk (n : Nat) (r : Str) : Prop := ∃ ws, ws ≠ [] ∧ ws.length ≤ n ∧ (∀ x ∈ ws, x ∈ voc) ∧ r = joinW ws
theorem RowOk.up {n m : Nat} {r : Str} (h : RowOk n r) (hm : n ≤ m) : RowOk m r := let ⟨ws, a, b, c, d⟩ := h; ⟨ws, a, Nat.le_trans b hm, c, d⟩
theorem row_of {ws : List Str} {n : Nat} (h1 : ws.length ≤ n) (h0 : 1 ≤ n) (h2 : ∀ x ∈ ws, x ∈ voc) : RowOk n (joinW ws) := by
  cases ws with
  | nil => exact ⟨[""], by simp, h0, fun x hx => by rw [List.mem_singleton.mp hx]; decide, rfl⟩
  | cons x xs => exact ⟨x :: xs, by simp, h1, h2, rfl⟩
theorem split_row {ws : List Str} (h1 : ws ≠ []) (h2 : ∀ x ∈ ws, x ∈ voc) : Txt.split (joinW ws) " " = ws := TL.split_join (y := " ") (s := 32) (S := []) rfl (by decide +kernel) h1 fun p hp => (voc_all p (h2 p hp)).2.2.1
section
variable {W : Wd} {F : Hp} {σ : L2.St}
def rSplit : V → List V → Hp → VK → Prop := fun x xs H Q => ∃ a b, x = .str a ∧ xs = [.str b] ∧ (b.length == 0) = false ∧ a.length + 2 ≤ sizeLine ∧ rNewStrs (Txt.split a b) H Q
theorem dn_split {t : TE} {x y : Str} (h : DenR W F σ t (strR x)) (hy : (y.length == 0) = false) (hx : x.length ≤ 100000) : DenR W F σ (tM1 rSplit t (tC (.str y))) (lsR (Txt.split x y)) := fun F1 H1 s w Q k => by
  refine h F1 H1 s w _ fun v F2 H2 s2 w2 e => ?_
  rw [e]
  refine ⟨⟨_, rfl⟩, x, y, rfl, rfl, hy, Nat.le_trans (Nat.add_le_add_right hx 2) (by decide), fun q hq => ?_⟩
  obtain ⟨s4, w4⟩ := W.new (o := .lst ((Txt.split x y).map V.str)) w2 hq
  exact k _ _ _ (s2.trans s4) w4 ⟨q, rfl, upd_same⟩
def rJoin (K : PySem.W.Frag) : V → List V → Hp → VK → Prop := fun x xs H Q => ∃ a p, ∃ ys : List Str, x = .str a ∧ xs = [.ref p] ∧ (SqL K H p (ys.map V.str) ∨ SqT K H p (ys.map V.str)) ∧ (ys.map (·.length)).sum + ys.length * a.length ≤ 16777216 ∧ Q (.str (Txt.join a ys)) H
theorem dn_join {K : PySem.W.Frag} {t : TE} {P : List Str → Prop} {y : Str} (h : DenR W F σ t (lsP P)) (hl : ∀ xs, P xs → (xs.map (·.length)).sum + xs.length * y.length ≤ 16777216) : DenR W F σ (tM1 (rJoin K) (tC (.str y)) t) (strP fun x => ∃ xs, P xs ∧ x = Txt.join y xs) := fun F1 H1 s w Q k => by
  refine ⟨⟨_, rfl⟩, ?_⟩
  refine h F1 H1 s w _ fun v F2 H2 s2 w2 e => ?_
  obtain ⟨xs, hx, a, rfl, ha⟩ := e
  exact ⟨y, a, xs, rfl, rfl, .inl (SqL.of (W.sub w2 _ _ ha)), hl xs hx, k _ F2 H2 s2 w2 ⟨_, ⟨xs, hx, rfl⟩, rfl⟩⟩
end
section
variable {P : Program} {w : World} {K : PySem.W.Frag} {mg : Str → Option Value} {base : Heap}
/-- a list of rows -/
def RowsAt (H : Hp) (q : Addr) (n m : Nat) : Prop := ∃ rs : List Str, H q = some (.lst (rs.map V.str)) ∧ rs ≠ [] ∧ rs.length ≤ n ∧ ∀ r ∈ rs, RowOk m r
def spSpoil : Sp := fun vs H Q _ => ∃ (p l q : Addr) (n m : Nat), vs = [.ref p, .ref q] ∧ Src H p l ∧ RowsAt H q n m ∧ q ≠ p ∧ q ≠ l ∧ n ≤ 20 ∧ 1 ≤ m ∧ m ≤ 20 ∧ ∀ H' q', Src H' p l → q' ≠ p → q' ≠ l → RowsAt H' q' (n + 1) (m + 1) → Q (.ref q') H'
theorem scSpoil : FnScope ["_law_h", "_law_rows_here", "_law_k", "_law_pick", "_law_words", "_law_at", "_law_more", "_law_new"] ["_law_h", "_law_rows_here"] (defScope sSpoil) := ⟨rfl, rfl, rfl, by decide +kernel, rfl, by decide +kernel, by decide +kernel⟩
theorem ok_spoil (D : Dat K mg "_law_spoil" sSpoil) (T : Fr mg) (FN : Fn P w K mg base CX0 1 "_law_next" spNext) : Fn P w K mg base CX0 2 "_law_spoil" spSpoil := by
  refine Fn.of0 D scSpoil (fun _ _ _ _ _ _ us hl => match us, hl with | [_, _], _ => rfl) (fun vs H Q E h => ?_) (fun f cdv A outer s H vs Q E hr h => ?_)
  · obtain ⟨p, l, q, n, m, rfl, _⟩ := h
    rfl
  · obtain ⟨p, l, q, n, m, rfl, S, ⟨rs, hq, rne, rlen, rok⟩, nqp, nql, n20, m1, m20, kQ⟩ := h
    refine ⟨_, (pss_cons (ps_set (i := 2) scSpoil.nd rfl (Or.inl rfl) (pf FN hr (by decide) (pa_cons (pv 0) (pa_cons (pe_callB (kLen (K := K)) (by rfl) (T.fr "len" (by decide +kernel)) (by decide +kernel) (pa_cons (pv 1) pa_nil)) pa_nil))))
      (pss_cons (ps_set (i := 3) scSpoil.nd rfl (Or.inl rfl) (pf FN hr (by decide) (pa_cons (pv 0) (pa_cons pe_int pa_nil))))
      (pss_cons (ps_if (pt_cmpR op_eq (pv 3) pe_int (nomark _)) (pss_one (ps_ret (pe_ifExp (pt_cmpR op_gt (pe_callB (kLen (K := K)) (by rfl) (T.fr "len" (by decide +kernel)) (by decide +kernel) (pa_cons (pv 1) pa_nil)) pe_int (nomark _)) (pe_op op_cat (pe_slice (slL (K := K)) (pv 1) po_none (po_some (pv 2))) (pe_slice (slL (K := K)) (pv 1) (po_some (pe_op op_add (pv 2) pe_int)) po_none)) (pv 1)))) pss_nil)
      (pss_cons (ps_if (pt_cmpR op_eq (pv 3) pe_int (nomark _)) (pss_one (ps_ret (pe_op op_cat (pe_op op_cat (pe_slice (slL (K := K)) (pv 1) po_none (po_some (pv 2))) (pe_slice (slL (K := K)) (pv 1) (po_some (pv 2)) (po_some (pe_op op_add (pv 2) pe_int)))) (pe_slice (slL (K := K)) (pv 1) (po_some (pv 2)) po_none)))) pss_nil)
      (pss_cons (ps_if (pt_cmpR op_eq (pv 3) pe_int (nomark _)) (pss_one (ps_ret (pe_op op_cat (pe_slice (slL (K := K)) (pv 1) (po_some (pv 2)) po_none) (pe_slice (slL (K := K)) (pv 1) po_none (po_some (pv 2)))))) pss_nil)
      (pss_cons (ps_set (i := 4) scSpoil.nd rfl (Or.inl rfl) (pe_split (pe_ix (ixL (K := K)) (pv 1) (pv 2) (fun _ _ => rfl)) pe_str))
      (pss_cons (ps_set (i := 5) scSpoil.nd rfl (Or.inl rfl) (pf FN hr (by decide) (pa_cons (pv 0) (pa_cons (pe_op op_add (pe_callB (kLen (K := K)) (by rfl) (T.fr "len" (by decide +kernel)) (by decide +kernel) (pa_cons (pv 4) pa_nil)) pe_int) pa_nil))))
      (pss_cons (ps_if (pt_cmpR op_eq (pv 3) pe_int (nomark _)) (pss_one (ps_ret (pe_op op_cat (pe_op op_cat (pe_slice (slL (K := K)) (pv 1) po_none (po_some (pv 2))) (pe_lst (pa_cons (pe_join pe_str (pe_slice (slL (K := K)) (pv 4) po_none (po_some (pv 5)))) pa_nil))) (pe_slice (slL (K := K)) (pv 1) (po_some (pe_op op_add (pv 2) pe_int)) po_none)))) pss_nil)
      (pss_cons (ps_set (i := 6) scSpoil.nd rfl (Or.inl rfl) (pe_lst (pa_cons pe_str (pa_cons pe_str (pa_cons pe_str (pa_cons pe_str (pa_cons pe_str (pa_cons pe_str (pa_cons pe_str (pa_cons pe_str (pa_cons pe_str (pa_cons pe_str (pa_cons pe_str (pa_cons pe_str pa_nil))))))))))))))
      (pss_cons (ps_set (i := 7) scSpoil.nd rfl (Or.inl rfl) (pe_op op_cat (pe_op op_cat (pe_slice (slL (K := K)) (pv 4) po_none (po_some (pv 5))) (pe_lst (pa_cons (pe_ix (ixL (K := K)) (pv 6) (pf FN hr (by decide) (pa_cons (pv 0) (pa_cons (pe_callB (kLen (K := K)) (by rfl) (T.fr "len" (by decide +kernel)) (by decide +kernel) (pa_cons (pv 6) pa_nil)) pa_nil))) (fun _ _ => rfl)) pa_nil))) (pe_slice (slL (K := K)) (pv 4) (po_some (pe_op op_add (pv 5) (pe_callTy call_int1 (by rfl) (T.fr "int" (by decide +kernel)) (by decide +kernel) (pa_cons (pe_cmpR op_eq (pv 3) pe_int (nomark _)) pa_nil)))) po_none)))
      (pss_one (ps_ret (pe_op op_cat (pe_op op_cat (pe_slice (slL (K := K)) (pv 1) po_none (po_some (pv 2))) (pe_lst (pa_cons (pe_join pe_str (pv 7)) pa_nil))) (pe_slice (slL (K := K)) (pv 1) (po_some (pe_op op_add (pv 2) pe_int)) po_none)))))))))))))), ?_⟩
    let W := Wsrc p l
    let F : Hp := fun b => if b = q then H q else none
    have hF : F q = some (.lst (rs.map V.str)) := by show (if q = q then H q else none) = _; rw [if_pos rfl]; exact hq
    have w0 : W.ok F H := by
      refine ⟨fun b o e => ?_, ?_, ?_, S⟩
      · by_cases z : b = q
        · have e2 : H q = some o := by rw [← e]; show H q = if b = q then H q else none; rw [if_pos z]
          rw [z]; exact e2
        · have e2 : F b = none := by show (if b = q then H q else none) = none; rw [if_neg z]
          rw [e2] at e; cases e
      · show (if p = q then H q else none) = none; rw [if_neg nqp.symm]
      · show (if l = q then H q else none) = none; rw [if_neg nql.symm]
    have lsq : lsR rs F (.ref q) := ⟨q, rfl, hF⟩
    have ret : ∀ F2 H2 v (P : List Str → Prop), W.ok F2 H2 → lsP P F2 v → (∀ xs, P xs → xs ≠ [] ∧ xs.length ≤ n + 1 ∧ ∀ r ∈ xs, RowOk (m + 1) r) → Q v H2 := fun F2 H2 v P w2 e hP => by
      obtain ⟨xs, hx, a, rfl, ha⟩ := e
      obtain ⟨h1, h2, h3⟩ := hP xs hx
      exact kQ H2 a w2.2.2.2 (fun z => by rw [z, w2.2.1] at ha; cases ha) (fun z => by rw [z, w2.2.2.1] at ha; cases ha) ⟨xs, W.sub w2 _ _ ha, h1, h2, h3⟩
    have rpos : 0 < rs.length := List.length_pos_iff.mpr rne
    -- k, pick
    refine dn_next (F := F) (p := p) (l := l) (by rfl) (dn_len (dn_varL (by rfl) lsq)) rpos (by omega) F H (Same.refl F) w0 _ fun v F1 H1 s1 w1 e1 => ?_
    obtain ⟨k, rfl, hk⟩ := e1
    refine dn_next (F := F1) (p := p) (l := l) (b := 6) (by rfl) dn_int (by decide) (by decide) F1 H1 (Same.refl F1) w1 _ fun v F2 H2 s2 w2 e2 => ?_
    obtain ⟨pick, rfl, hp6⟩ := e2
    have lsq2 : lsR rs F2 (.ref q) := lsq.up (s1.trans s2)
    have rk : rs[k]? = some rs[k] := List.getElem?_eq_getElem hk
    -- the picks
    refine ⟨_, rfl, rfl, _, rfl, ?_⟩
    have di : ∀ j : Nat, decide (V.int (pick : Int) = V.int (j : Int)) = decide (pick = j) := fun j => decide_eq_decide.mpr ⟨fun e => by have := V.int.inj e; omega, fun e => by rw [e]⟩
    have r1 : ∀ (k' : Nat) (P : List Str → Prop), True := fun _ _ => trivial
    have d0 := di 0
    have d1 := di 1
    have d2 := di 2
    have d3 := di 3
    have k1 : (k : Int) + 1 = ((k + 1 : Nat) : Int) := rfl
    have tk : (rs.take k).length ≤ k := by rw [List.length_take]; omega
    have dk : (rs.drop (k + 1)).length = rs.length - (k + 1) := List.length_drop
    have dk0 : (rs.drop k).length = rs.length - k := List.length_drop
    have mt : ∀ (j : Nat) r, r ∈ rs.take j → RowOk (m + 1) r := fun j r h => (rok r (List.mem_of_mem_take h)).up (by omega)
    have md : ∀ (j : Nat) r, r ∈ rs.drop j → RowOk (m + 1) r := fun j r h => (rok r (List.mem_of_mem_drop h)).up (by omega)
    rw [show decide (V.int (pick : Int) = V.int 0) = decide (pick = 0) from d0]
    by_cases h0 : pick = 0
    · rw [decide_eq_true h0]
      refine iteT ?_
      have hq2 : F2 q = some (.lst (rs.map V.str)) := (s1.trans s2) _ _ hF
      refine ⟨_, rfl, q, _, rfl, .inl (SqL.of (W.sub w2 _ _ hq2)), _, _, rfl, rfl, _, rfl, ?_⟩
      rw [List.length_map]
      by_cases h1 : 1 < rs.length
      · rw [decide_eq_true (show (1 : Int) < (rs.length : Int) by omega)]
        refine iteT ?_
        refine dn_cat (F := F2) (W := W) (dn_to (K := K) (dn_varL (by rfl) lsq2) (dn_varI (by rfl))) (dn_from (K := K) (n := k + 1) (dn_varL (by rfl) lsq2) (dn_addN (j := 1) (dn_varI (by rfl)) dn_int)) (by omega) F2 H2 (Same.refl _) w2 _ fun v F3 H3 s3 w3 e3 => ret F3 H3 v (fun xs => xs = rs.take k ++ rs.drop (k + 1)) w3 ⟨_, rfl, e3⟩ fun xs e => ?_
        subst e
        refine ⟨fun z => ?_, ?_, fun r h => ?_⟩
        · have := congrArg List.length z
          rw [List.length_append, List.length_take, dk, List.length_nil] at this
          omega
        · rw [List.length_append]; omega
        · rcases List.mem_append.mp h with h | h
          · exact mt _ r h
          · exact md _ r h
      · rw [decide_eq_false (show ¬ (1 : Int) < (rs.length : Int) by omega)]
        refine iteF ?_
        refine dn_varL (F := F2) (W := W) (by rfl) lsq2 F2 H2 (Same.refl _) w2 _ fun v F3 H3 s3 w3 e3 => ret F3 H3 v (fun xs => xs = rs) w3 ⟨_, rfl, e3⟩ fun xs e => ?_
        subst e
        exact ⟨rne, by omega, fun r h => (rok r h).up (by omega)⟩
    rw [decide_eq_false h0]
    refine iteF ?_
    refine ⟨_, rfl, rfl, _, rfl, ?_⟩
    rw [show decide (V.int (pick : Int) = V.int 1) = decide (pick = 1) from d1]
    by_cases h1 : pick = 1
    · rw [decide_eq_true h1]
      refine iteT ?_
      refine dn_cat (F := F2) (W := W) (dn_cat (dn_to (K := K) (dn_varL (by rfl) lsq2) (dn_varI (by rfl))) (dn_mid (K := K) (b := k + 1) (dn_varL (by rfl) lsq2) (dn_varI (by rfl)) (dn_addN (j := 1) (dn_varI (by rfl)) dn_int)) ?_) (dn_from (K := K) (dn_varL (by rfl) lsq2) (dn_varI (by rfl))) ?_ F2 H2 (Same.refl _) w2 _ fun v F3 H3 s3 w3 e3 => ret F3 H3 v (fun xs => xs = rs.take k ++ (rs.drop (min k rs.length)).take (min (k + 1) rs.length - min k rs.length) ++ rs.drop k) w3 ⟨_, rfl, e3⟩ fun xs e => ?_
      · rw [List.length_take, List.length_take, List.length_drop]; omega
      · rw [List.length_append, List.length_take, List.length_take, List.length_drop, dk0]; omega
      subst e
      refine ⟨fun z => ?_, ?_, fun r h => ?_⟩
      · have := congrArg List.length z
        rw [List.length_append, dk0, List.length_nil] at this
        omega
      · rw [List.length_append, List.length_append, List.length_take, List.length_take, List.length_drop, dk0]; omega
      · rcases List.mem_append.mp h with h | h
        · rcases List.mem_append.mp h with h | h
          · exact mt _ r h
          · exact md _ r (List.mem_of_mem_take h)
        · exact md _ r h
    rw [decide_eq_false h1]
    refine iteF ?_
    refine ⟨_, rfl, rfl, _, rfl, ?_⟩
    rw [show decide (V.int (pick : Int) = V.int 2) = decide (pick = 2) from d2]
    by_cases h2 : pick = 2
    · rw [decide_eq_true h2]
      refine iteT ?_
      refine dn_cat (F := F2) (W := W) (dn_from (K := K) (dn_varL (by rfl) lsq2) (dn_varI (by rfl))) (dn_to (K := K) (dn_varL (by rfl) lsq2) (dn_varI (by rfl))) (by omega) F2 H2 (Same.refl _) w2 _ fun v F3 H3 s3 w3 e3 => ret F3 H3 v (fun xs => xs = rs.drop k ++ rs.take k) w3 ⟨_, rfl, e3⟩ fun xs e => ?_
      subst e
      refine ⟨fun z => ?_, ?_, fun r h => ?_⟩
      · have := congrArg List.length z
        rw [List.length_append, dk0, List.length_nil] at this
        omega
      · rw [List.length_append, dk0]; omega
      · rcases List.mem_append.mp h with h | h
        · exact md _ r h
        · exact mt _ r h
    rw [decide_eq_false h2]
    refine iteF ?_
    -- words, at
    obtain ⟨ws, wne, wlen, wvoc, ers⟩ := rok _ (List.getElem_mem hk)
    have hjl : ∀ xs : List Str, (∀ x ∈ xs, x ∈ voc) → xs.length ≤ 40 → (xs.map (·.length)).sum + xs.length * ((" " : Str)).length ≤ 16777216 := fun xs h h4 => by
      have := sum_le (fun x : Str => x.length) 10 xs fun x hx => (voc_all x (h x hx)).1
      have e1 : ((" " : Str)).length = 1 := rfl
      rw [e1]
      omega
    have rl : rs[k].length ≤ 100000 := by
      rw [ers]
      have := join_len (b := 10) (ws := ws) fun x hx => (voc_all x (wvoc x hx)).1
      omega
    refine dn_split (F := F2) (W := W) (y := " ") (dn_ix (K := K) (dn_varL (by rfl) lsq2) (dn_varI (by rfl)) rk) rfl rl F2 H2 (Same.refl _) w2 _ fun vw F3 H3 s3 w3 e3 => ?_
    have esp : Txt.split rs[k] " " = ws := by rw [ers]; exact split_row wne wvoc
    rw [esp] at e3
    have lsq3 := lsq2.up s3
    refine dn_next (F := F3) (p := p) (l := l) (b := ws.length + 1) (by rfl) (dn_addN (j := 1) (dn_len (K := K) (dn_varL (by rfl) e3)) dn_int) (by omega) (by omega) F3 H3 (Same.refl _) w3 _ fun v F4 H4 s4 w4 e4 => ?_
    obtain ⟨at_, rfl, hat⟩ := e4
    have lsq4 := lsq3.up s4
    have lw4 := e3.up s4
    refine ⟨_, rfl, rfl, _, rfl, ?_⟩
    rw [show decide (V.int (pick : Int) = V.int 3) = decide (pick = 3) from d3]
    -- the end
    have fin : ∀ (P : List Str → Prop), (∀ xs, P xs → ∃ ws', xs = [joinW ws'] ∧ ws'.length ≤ m + 1 ∧ ∀ x ∈ ws', x ∈ voc) → ∀ F5 H5 v, W.ok F5 H5 → lsP (fun zs => ∃ xs ys, (∃ xs' ys', xs' = rs.take k ∧ P ys' ∧ xs = xs' ++ ys') ∧ ys = rs.drop (k + 1) ∧ zs = xs ++ ys) F5 v → Q v H5 := fun P hP F5 H5 v w5 e5 => by
      refine ret F5 H5 v _ w5 e5 fun xs h => ?_
      obtain ⟨_, _, ⟨_, ys', rfl, hy, rfl⟩, rfl, rfl⟩ := h
      obtain ⟨ws', rfl, hl, hv⟩ := hP ys' hy
      refine ⟨by simp, ?_, fun r h => ?_⟩
      · rw [List.length_append, List.length_append, List.length_singleton, dk]; omega
      · rcases List.mem_append.mp h with h | h
        · rcases List.mem_append.mp h with h | h
          · exact mt _ r h
          · rw [List.mem_singleton.mp h]
            exact row_of hl (by omega) hv
        · exact md _ r h
    by_cases h3 : pick = 3
    · rw [decide_eq_true h3]
      refine iteT ?_
      refine dn_catP (F := F4) (W := W) (dn_catP (DenR.ls (dn_to (K := K) (dn_varL (by rfl) lsq4) (dn_varI (by rfl)))) (dn_one (dn_join (K := K) (y := " ") (DenR.ls (dn_to (K := K) (dn_varL (by rfl) lw4) (dn_varI (by rfl)))) ?_)) ?_) (DenR.ls (dn_from (K := K) (n := k + 1) (dn_varL (by rfl) lsq4) (dn_addN (j := 1) (dn_varI (by rfl)) dn_int))) ?_ F4 H4 (Same.refl _) w4 _ fun v F5 H5 s5 w5 e5 => fin _ ?_ F5 H5 v w5 e5
      · rintro xs rfl
        exact hjl _ (fun x hx => wvoc x (List.mem_of_mem_take hx)) (by rw [List.length_take]; omega)
      · rintro xs ys rfl ⟨x, _, rfl⟩
        rw [List.length_singleton]; omega
      · rintro xs ys ⟨_, _, rfl, ⟨x, _, rfl⟩, rfl⟩ rfl
        rw [List.length_append, List.length_singleton]; omega
      · rintro xs ⟨x, ⟨_, rfl, rfl⟩, rfl⟩
        exact ⟨_, rfl, by rw [List.length_take]; omega, fun x hx => wvoc x (List.mem_of_mem_take hx)⟩
    rw [decide_eq_false h3]
    refine iteF ?_
    refine nx_of ?_
    refine dn_seq (dn_strs (F := F4) (W := W) (xs := moreW) (by intro H Q h; exact h) (by decide)) w4 fun vm F5 H5 s5 w5 e5 => ?_
    have lsq5 := lsq4.up s5
    have lw5 := lw4.up s5
    have dnB : ∀ (F : Hp) (σ : L2.St), σ[3]? = some (some (.int (pick : Int))) → DenR W F σ (tCB (fun xs H Q => (∃ i, xs = [.int i] ∧ Q (.int i) H) ∨ ∃ k, xs = [.bl k] ∧ Q (.int (if k then 1 else 0)) H) (tCons (tOp rEq (tVar 3) (tC (.int 5))) tNil)) (intR (((if pick = 5 then 1 else 0 : Nat)) : Int)) := fun F σ hσ F1 H1 s w Q k => by
      refine ⟨_, hσ, rfl, .inr ⟨_, rfl, k _ F1 H1 (Same.refl _) w ?_⟩⟩
      show V.int _ = V.int _
      rw [show decide (V.int (pick : Int) = V.int 5) = decide (pick = 5) from di 5]
      by_cases h : pick = 5
      · rw [decide_eq_true h, if_pos h]; rfl
      · rw [decide_eq_false h, if_neg h]; rfl
    refine dn_catP (F := F5) (W := W) (dn_catP (DenR.ls (dn_to (K := K) (dn_varL (by rfl) lw5) (dn_varI (by rfl)))) (dn_one (dn_pick (K := K) (dn_varL (by rfl) e5) (dn_next (p := p) (l := l) (by rfl) (dn_len (K := K) (dn_varL (by rfl) e5)) (by decide) (by decide)))) ?_) (DenR.ls (dn_from (K := K) (n := at_ + if pick = 5 then 1 else 0) (dn_varL (by rfl) lw5) (dn_addN (dn_varI (by rfl)) (dnB _ _ (by rfl))))) ?_ F5 H5 (Same.refl _) w5 _ fun vn F6 H6 s6 w6 e6 => ?_
    · rintro xs ys rfl ⟨x, _, rfl⟩
      rw [List.length_take, List.length_singleton]; omega
    · rintro xs ys ⟨_, _, rfl, ⟨x, _, rfl⟩, rfl⟩ rfl
      rw [List.length_append, List.length_take, List.length_singleton, List.length_drop]; omega
    have lsq6 := lsq5.up s6
    obtain ⟨nw, hnw, en⟩ := e6
    obtain ⟨_, _, ⟨_, _, rfl, ⟨xm, hxm, rfl⟩, rfl⟩, rfl, rfl⟩ := hnw
    have hmv : ∀ x ∈ moreW, x ∈ voc := by decide +kernel
    have vnw : ∀ x ∈ ws.take at_ ++ [xm] ++ ws.drop (at_ + if pick = 5 then 1 else 0), x ∈ voc := fun x hx => by
      rcases List.mem_append.mp hx with h | h
      · rcases List.mem_append.mp h with h | h
        · exact wvoc x (List.mem_of_mem_take h)
        · rw [List.mem_singleton.mp h]; exact hmv xm hxm
      · exact wvoc x (List.mem_of_mem_drop h)
    have lnw : (ws.take at_ ++ [xm] ++ ws.drop (at_ + if pick = 5 then 1 else 0)).length ≤ m + 1 := by
      rw [List.length_append, List.length_append, List.length_take, List.length_singleton, List.length_drop]; omega
    refine dn_catP (F := F6) (W := W) (dn_catP (DenR.ls (dn_to (K := K) (dn_varL (by rfl) lsq6) (dn_varI (by rfl)))) (dn_one (dn_join (K := K) (y := " ") (DenR.ls (dn_varL (by rfl) en)) ?_)) ?_) (DenR.ls (dn_from (K := K) (n := k + 1) (dn_varL (by rfl) lsq6) (dn_addN (j := 1) (dn_varI (by rfl)) dn_int))) ?_ F6 H6 (Same.refl _) w6 _ fun v F7 H7 s7 w7 e7 => fin _ ?_ F7 H7 v w7 e7
    · rintro xs rfl
      exact hjl _ vnw (by omega)
    · rintro xs ys rfl ⟨x, _, rfl⟩
      rw [List.length_singleton]; omega
    · rintro xs ys ⟨_, _, rfl, ⟨x, _, rfl⟩, rfl⟩ rfl
      rw [List.length_append, List.length_singleton]; omega
    · rintro xs ⟨x, ⟨_, rfl, rfl⟩, rfl⟩
      exact ⟨_, rfl, lnw, vnw⟩
end
end HP

namespace HP
open PySem PySem.Spec PyProof.Rows L2 SlX
/-! ### try with several clauses, some of them naming the exception, some with a tuple of classes -/
structure Cl2 where
  m : Value → Option Bool
  i : Option Nat
  ts : Addr → Value → Option Addr → TS
def Cl2.ends (k : Cl2) (D : Ends) : Ends := match k.i with
  | none => D
  | some i => { nx := fun σ H => D.nx (σ.set i none) H, rt := D.rt, bk := fun σ H => D.bk (σ.set i none) H, ct := fun σ H => D.ct (σ.set i none) H }
def Cl2.st (k : Cl2) (a : Addr) (σ : L2.St) : L2.St := match k.i with
  | none => σ
  | some i => σ.set i (some (.ref a))
def wMix2 (Wo : WX) (D : Ends) : List Cl2 → WX
  | [] => Wo
  | k :: r => fun cls d σ H => ∃ b, k.m cls = some b ∧ (b = true → ∀ a, H a = none → k.ts a cls d (k.ends D) (k.st a σ) H) ∧ (b = false → wMix2 Wo D r cls d σ H)
def SuOk2 (X : Cx) (b : Stmt) (bs : List Stmt) (ts : Addr → Value → Option Addr → TS) : Prop := ∀ (a : Addr) (oe : Obj) (cls : Value) (d : Option Addr) (pn : List (Addr × Obj)), Zc cls d oe → (∃ vs, oe.data = .fields vs) → PSs (X.suite a ((a, oe) :: pn)) (b :: bs) (ts a cls d)
inductive ClOk2 (X : Cx) : ExceptHandler → Cl2 → Prop
  | anon {x : Str} {c : Value} {ts : Addr → Value → Option Addr → TS} {b : Stmt} {bs : List Stmt} {np p : Pos} : Names X x c → SuOk2 X b bs ts → ClOk2 X (.ExceptHandler (some (.Name x np)) none (b :: bs) p) ⟨fun cls => PySem.W.exmOne X.K cls c, none, ts⟩
  | named {x n : Str} {c : Value} {i : Nat} {ts : Addr → Value → Option Addr → TS} {b : Stmt} {bs : List Stmt} {np p : Pos} : Names X x c → X.N[i]? = some n → X.env.kindOf n = some .local → SuOk2 X b bs ts →
      ClOk2 X (.ExceptHandler (some (.Name x np)) (some n) (b :: bs) p) ⟨fun cls => PySem.W.exmOne X.K cls c, some i, ts⟩
  | three {x1 x2 x3 : Str} {c1 c2 c3 : Value} {ts : Addr → Value → Option Addr → TS} {b : Stmt} {bs : List Stmt} {p1 p2 p3 np p : Pos} {kk : Nat} : Names X x1 c1 → Names X x2 c2 → Names X x3 c3 → SuOk2 X b bs ts → ClOk2 X (.ExceptHandler (some (.Tuple [.Name x1 p1, .Name x2 p2, .Name x3 p3] kk np)) none (b :: bs) p) ⟨fun cls => PySem.W.exmAny X.K cls [c1, c2, c3], none, ts⟩
section
variable {X : Cx}
theorem fly_keep {base h h' : Heap} {l : List Env} {e : Addr} {Z : Obj → Prop} (f : HandSPX.FlyingZ base l e Z h) (k : ∀ b o, h.get? b = some o → h'.get? b = some o) : HandSPX.FlyingZ base l e Z h' := by
  obtain ⟨f1, f2, f3, oe, vs, T, oT, ts, g1, g2, g3, g4, g5, g6, g7, g8, g9⟩ := f
  exact ⟨fun b o q => k b o (f1 b o q), f2, f3.of_keeps fun b o q _ => ⟨o, k b o q, rfl⟩, oe, vs, T, oT, ts, k _ _ g1, g2, g3, g4, g5, g6, k _ _ g7, g8, g9⟩
theorem nm_run2 {a : Addr} {oe : Obj} {pins pn : List (Addr × Obj)} {σ : L2.St} {H : Hp} {t : Shared} {x : Str} {c : Value} {np : Pos} {Q E : Value → Shared → Prop} {Q1 : Value → Shared → Prop} (hQ : Q = Q1) (S : Inv (X.suite a ((a, oe) :: pn)) pins σ H t) (hc : Names X x c) (q : Q c t) : wpAny (model X.prog X.w) (X.A.mark (some (.ref a))) (eval (.Name x np) X.env) Q E t := by
  rcases hc with ⟨h1, h2, h3 | ⟨h3, h4, h5⟩⟩
  · exact ld_glob (X := X.suite a ((a, oe) :: pn)) S h1 h3 q h2
  · exact ld_blt (X := X.suite a ((a, oe) :: pn)) S h1 h3 h4 q h5 h2
theorem ps_try_mix2 {body : List Stmt} {k0 : ExceptHandler} {ks : List ExceptHandler} {l : List Cl2} {pos : Pos} {tb : WX → TS} {Wo : WX} (st : X.stack = X.env :: X.outer) (fr : X.env.frame = some X.env.locals) (nd : X.N.Nodup) (tk : Takes X Wo)
    (hb : ∀ (W : WX) (pn : List (Addr × Obj)) (xe : Value → Shared → Prop), Takes (X.tr pn xe) W → PassesOwn (model X.prog X.w) X.A X.env xe → PSs (X.tr pn xe) body (tb W))
    (hk : Paired (ClOk2 X) (k0 :: ks) l) : PS X (.Try body (k0 :: ks) [] [] pos) (fun D σ H => tb (wMix2 Wo D l) D σ H) := by
  refine ⟨fun pins s σ H D I h => wpAny_Try_except ?_⟩
  have ok := I.ok
  have R := (hb (wMix2 Wo D l) (X.pn ++ pins) (fun e t1 => wpAny (model X.prog X.w) X.A (noteFrame e X.env) (fun _ t2 => wpAny (model X.prog X.w) X.A (setFlight e none) (fun _ t3 => wpAny (model X.prog X.w) X.A (handleBy e X.env (k0 :: ks)) (SP X pins D) X.xe t3) X.xe t2) X.xe t1) ?_ PassesOwn.looking).run [] s σ H D (I.toTry _) h
  · refine wpAny_mono R (fun f t q => ?_) (fun _ _ q => q)
    cases f
    case next => obtain ⟨σ1, H1, J, q1⟩ := q; exact wpAny_execs_nil ⟨σ1, H1, J.ofTry ok, q1⟩
    case ret => obtain ⟨v, σ1, H1, J, r, q1⟩ := q; exact ⟨v, σ1, H1, J.ofTry ok, r, q1⟩
    case brk => obtain ⟨σ1, H1, J, q1⟩ := q; exact ⟨σ1, H1, J.ofTry ok, q1⟩
    case cont => obtain ⟨σ1, H1, J, q1⟩ := q; exact ⟨σ1, H1, J.ofTry ok, q1⟩
  · rintro u t ⟨a, B, t0, pins1, σ1, H1, cls, d, rfl, J1, nb, up, sk, na, os, ag, w⟩
    have J := J1.ofTry (pins := pins) ok
    rw [show (X.tr (X.pn ++ pins) (fun e t1 => wpAny (model X.prog X.w) X.A (noteFrame e X.env) (fun _ t2 => wpAny (model X.prog X.w) X.A (setFlight e none) (fun _ t3 => wpAny (model X.prog X.w) X.A (handleBy e X.env (k0 :: ks)) (SP X pins D) X.xe t3) X.xe t2) X.xe t1)).stack = X.env :: X.outer from st] at sk
    refine Sky.land Zc.steady (by rw [ok.frames, st]) fr sk fun h3 fl up3 => ?_
    have go : ∀ {hds : List ExceptHandler} {l : List Cl2}, Paired (ClOk2 X) hds l → ∀ h3, HandSPX.FlyingZ B (X.env :: X.outer) a (Zc cls d) h3 → t.heap.UpToSlots h3 → wMix2 Wo D l cls d σ1 H1 → wpAny (model X.prog X.w) X.A (handleBy (.ref a) X.env hds) (SP X pins D) X.xe { t with heap := h3 } := by
      intro hds l hk
      induction hk with
      | nil =>
        intro h3 fl up3 w
        refine wpAny_handleBy_nil ?_
        obtain ⟨_, _, _, o2, vs2, T, oT, ts2, e1, e2, e3, e4, e5⟩ := id fl
        unfold PySem.passOn
        refine wpAny_bind (wpAny_field e1 e3 e4 ?_)
        have nn : ¬ ((Value.ref T == Value.none) = true) := by simp
        rw [if_neg nn]
        have last : wpAny (model X.prog X.w) X.A (setFlight (.ref a) X.env.frame) (fun _ t4 => wpAny (model X.prog X.w) X.A (throw (.ref a) : Sem Flow) (SP X pins D) X.xe t4) X.xe { t with heap := h3 } := by
          rw [fr]
          refine HandSPX.setFlight_upZ fl fun h4 g4 up4 => wpAny_throw (tk _ _ ⟨a, B, t0, pins, σ1, H1, cls, d, rfl, J, nb, (up.trans up3).trans up4, .inr (.inr ?_), na, os, ag, w⟩)
          rw [st]
          exact g4
        first
          | exact wpAny_bind (wpAny_pure (wpAny_bind last))
          | exact wpAny_bind last
      | @cons hd k hds l hc r ih =>
        rintro h3 fl up3 ⟨b, hb1, yes, no⟩
        have J3 : Inv X pins σ1 H1 { t with heap := h3 } := J.landed nb fl.1 (up.trans up3) os ag
        obtain ⟨oe, vs, he, hz, hd⟩ := fl.there
        have nf : a ∉ frs (X.env :: X.outer) := fun hm => by
          obtain ⟨_, o1, e1, hn⟩ := fl.2.2.1.mem hm
          rw [he] at e1
          cases e1
          exact hn _ hd
        have nL : a ≠ X.env.locals := fun z => nf (List.mem_filterMap.mpr ⟨_, List.mem_cons_self, z ▸ fr⟩)
        have nF : a ∉ X.fs := fun hm => by
          obtain ⟨e, e1, e2⟩ := List.mem_filterMap.mp hm
          exact nf (List.mem_filterMap.mpr ⟨e, List.mem_cons_of_mem _ e1, e2⟩)
        have S3 := J3.suite he hd na nL nF
        have L1 : PySem.W.Looks (model X.prog X.w) h3 (typeOf (.ref a)) cls := fun _ _ _ _ k q => wpAny_typeOf_ref (k _ _ he) (hz.1 ▸ q)
        cases hc with
        | anon hn hsu =>
          have L2 := PySem.W.exm_one (M := model X.prog X.w) J3.kIn L1 hb1
          refine wpAny_handleBy_cons (codeAny_handlers_test ?_) (by intro q; cases q)
          refine nm_run2 rfl S3 hn (L2.here ?_)
          cases b with
          | false => exact ih h3 fl up3 (no rfl)
          | true =>
            refine codeAny_handlers_suite (HandSPX.lands_againZ fl fun h4 fl4 up4 => ?_)
            have J4 : Inv X pins σ1 H1 { t with heap := h4 } := J.landed nb fl4.1 ((up.trans up3).trans up4) os ag
            obtain ⟨o4, v4, e4, z4, d4⟩ := fl4.there
            refine wpAny_mono ((hsu a o4 cls d (X.pn ++ pins) z4 ⟨_, d4⟩).run [] _ _ H1 _ (J4.suite e4 d4 na nL nF) (yes rfl a na)) (fun f t6 q => ?_) (fun _ _ z => z.elim)
            cases f
            case next => obtain ⟨σ6, H6, S6, q6⟩ := q; exact ⟨_, _, S6.unsuite ok, q6⟩
            case ret => obtain ⟨v6, σ6, H6, S6, r6, q6⟩ := q; exact ⟨_, _, _, S6.unsuite ok, r6, q6⟩
            case brk => obtain ⟨σ6, H6, S6, q6⟩ := q; exact ⟨_, _, S6.unsuite ok, q6⟩
            case cont => obtain ⟨σ6, H6, S6, q6⟩ := q; exact ⟨_, _, S6.unsuite ok, q6⟩
        | @three x1 x2 x3 c1 c2 c3 ts b0 bs p1 p2 p3 np p kk n1 n2 n3 hsu =>
          refine wpAny_handleBy_cons (codeAny_handlers_test ?_) (by intro q; cases q)
          refine wpAny_Tuple ?_
          refine wpAny_items_cons (nm_run2 rfl S3 n1 ?_)
          refine wpAny_items_cons (nm_run2 rfl S3 n2 ?_)
          refine wpAny_items_cons (nm_run2 rfl S3 n3 ?_)
          refine wpAny_items_nil ⟨by size_fits, ?_⟩
          have kp : ∀ q o, h3.get? q = some o → (h3.push { cls := .type "tuple", data := .seq [c1, c2, c3].toArray }).get? q = some o := fun _ _ z => Heap.get?_push_of_some _ z
          refine (PySem.W.exm_tup3 (M := model X.prog X.w) (J3.kIn.keeps kp) (L1.keeps kp) (Heap.get?_push_size h3 rfl) hb1).here ?_
          have fl := fly_keep fl kp
          have up3 := up3.trans (Heap.UpToSlots.of_keeps kp)
          cases b with
          | false => exact ih _ fl up3 (no rfl)
          | true =>
            refine codeAny_handlers_suite (HandSPX.lands_againZ fl fun h4 fl4 up4 => ?_)
            have J4 : Inv X pins σ1 H1 { t with heap := h4 } := J.landed nb fl4.1 ((up.trans up3).trans up4) os ag
            obtain ⟨o4, v4, e4, z4, d4⟩ := fl4.there
            refine wpAny_mono ((hsu a o4 cls d (X.pn ++ pins) z4 ⟨_, d4⟩).run [] _ _ H1 _ (J4.suite e4 d4 na nL nF) (yes rfl a na)) (fun f t6 q => ?_) (fun _ _ z => z.elim)
            cases f
            case next => obtain ⟨σ6, H6, S6, q6⟩ := q; exact ⟨_, _, S6.unsuite ok, q6⟩
            case ret => obtain ⟨v6, σ6, H6, S6, r6, q6⟩ := q; exact ⟨_, _, _, S6.unsuite ok, r6, q6⟩
            case brk => obtain ⟨σ6, H6, S6, q6⟩ := q; exact ⟨_, _, S6.unsuite ok, q6⟩
            case cont => obtain ⟨σ6, H6, S6, q6⟩ := q; exact ⟨_, _, S6.unsuite ok, q6⟩
        | @named x n c i ts b0 bs np p hn hi hl hsu =>
          have L2 := PySem.W.exm_one (M := model X.prog X.w) J3.kIn L1 hb1
          refine wpAny_handleBy_cons (codeAny_handlers_test ?_) (by intro q; cases q)
          refine nm_run2 rfl S3 hn (L2.here ?_)
          cases b with
          | false => exact ih h3 fl up3 (no rfl)
          | true =>
            refine codeAny_handlers_suite_as (HandSPX.lands_againZ fl fun h4 fl4 up4 => ?_)
            have J4 : Inv X pins σ1 H1 { t with heap := h4 } := J.landed nb fl4.1 ((up.trans up3).trans up4) os ag
            obtain ⟨o4, v4, e4, z4, d4⟩ := fl4.there
            refine store_ok (X := X.suite a ((a, o4) :: (X.pn ++ pins))) (v := .ref a) (J4.suite e4 d4 na nL nF) nd hi (.inl hl) rfl (fun t5 S5 => ?_) (.inr hl)
            refine wpAny_mono ((hsu a o4 cls d (X.pn ++ pins) z4 ⟨_, d4⟩).run [] t5 _ H1 _ S5 (yes rfl a na)) (fun f t6 q => ?_) (fun _ _ z => z.elim)
            cases f
            case next => obtain ⟨σ6, H6, S6, q6⟩ := q; exact gone_ok (S6.unsuite ok) nd hi hl fun t7 J7 => ⟨_, _, J7, q6⟩
            case ret => obtain ⟨v6, σ6, H6, S6, r6, q6⟩ := q; exact gone_ok (S6.unsuite ok) nd hi hl fun t7 J7 => ⟨_, _, _, J7, r6, q6⟩
            case brk => obtain ⟨σ6, H6, S6, q6⟩ := q; exact gone_ok (S6.unsuite ok) nd hi hl fun t7 J7 => ⟨_, _, J7, q6⟩
            case cont => obtain ⟨σ6, H6, S6, q6⟩ := q; exact gone_ok (S6.unsuite ok) nd hi hl fun t7 J7 => ⟨_, _, J7, q6⟩
    exact go hk h3 fl up3 w
end
end HP

namespace HP
open PySem PySem.Spec PyProof.Rows L2
abbrev sTold : Stmt := top 36
abbrev sLaw : Stmt := top 37
/-! ### _law_told, law -/
section
variable {X : Cx} {k j : Nat} {x : Str} {sp : Sp} {e : Expr} {es : List Expr} {t : TA} {p pos : Pos} {W : WX}
theorem pfS (F : Fn X.prog X.w X.K X.mg X.base (L2.CX X.prog X.w) k x sp) (hr : Room j X.A) (hkj : k ≤ j) (tk : Takes X W) (ha : PA X (e :: es) t) (hg : Gl X x := by rfl) (hdb : (x == ("__debug__" : Str)) = false := by decide)
    (he : starEach (e :: es) X.env = (false, eval e X.env) :: starEach es X.env := by rfl) (hpl : (backTo pos (starEach es X.env)).any (·.1) = false := by rfl) : PE X (.Call (.Name x p) (e :: es) [] pos) (tCallSD sp [] (fun σ cls d H => W cls d σ H) t) := by
  obtain ⟨f, fd, ps, h1, h2, h3, h4⟩ := F
  exact pe_callSD h4 (hr.mono hkj) hg h1 h2 h3 .nil (fun σ => passAt tk σ) ha hdb he hpl
end
section
variable {P : Program} {w : World} {K : PySem.W.Frag} {mg : Str → Option Value} {base : Heap}
/-- which class catches which -/
structure ExT15 (K : PySem.W.Frag) (c : Cls4) (cT : Addr) : Prop where
  xx : PySem.W.exmOne K (.ref cT) (.ref cT) = some true
  tx : PySem.W.exmOne K (.ref c.things) (.ref cT) = some false
  vx : PySem.W.exmOne K (.ref c.values) (.ref cT) = some false
  wx : PySem.W.exmOne K (.ref c.words) (.ref cT) = some false
  tm : PySem.W.exmAny K (.ref c.things) [.ref c.things, .ref c.values, .ref c.words] = some true
  vm : PySem.W.exmAny K (.ref c.values) [.ref c.things, .ref c.values, .ref c.words] = some true
  wm : PySem.W.exmAny K (.ref c.words) [.ref c.things, .ref c.values, .ref c.words] = some true
def spTold (K : PySem.W.Frag) : Sp := fun vs H Q _ => ∃ (x : Str), vs = [.str x] ∧ x.length ≤ 80000 ∧ (∀ r ∈ Txt.split x "\n", (wordsOf r).length < 60) ∧ ∀ H' v, Dp K H' v (dueD (faultFrom 0 (Txt.split x "\n"))) → Q v H'
theorem scTold : FnScope ["_law_text", "_law_told_here", "e"] ["_law_text"] (defScope sTold) := ⟨rfl, rfl, rfl, by decide +kernel, rfl, by decide +kernel, by decide +kernel⟩
theorem ok_told {C cT : Addr} {c : Cls4} (D : Dat K mg "_law_told" sTold) (FR : Fn P w K mg base (L2.CX P w) 6 "read_scene" (spRead K C cT c)) (gX : mg "InvalidText" = some (.ref cT)) (gT : mg "InvalidThings" = some (.ref c.things)) (gV : mg "InvalidValues" = some (.ref c.values)) (gW : mg "InvalidWords" = some (.ref c.words))
    (xT : ExT15 K c cT) (XF : XfC K cT) (hl : PySem.W.findIn K (.ref cT) "line" = some none) (hw : PySem.W.findIn K (.ref cT) "word" = some none) : Fn P w K mg base CX0 7 "_law_told" (spTold K) := by
  refine Fn.of0 D scTold (fun _ _ _ _ _ _ us hl => match us, hl with | [_], _ => rfl) (fun vs H Q E h => ?_) (fun f cdv A outer s0 H vs Q E hr h => ?_)
  · obtain ⟨x, rfl, _⟩ := h
    rfl
  · obtain ⟨x, rfl, hx, hws, kQ⟩ := h
    refine ⟨_, (pss_cons (ps_set (i := 1) scTold.nd rfl (Or.inl rfl) pe_non)
      (pss_cons (ps_try_mix2 rfl rfl scTold.nd takes_none5 (fun W pn xe tk own => (pss_one (ps_expr (pfS FR hr (by decide) tk (pa_cons (pv 0) pa_nil))))) (.cons (.named (i := 2) ⟨rfl, by decide, .inl gX⟩ rfl rfl (fun a oe cls d pn hz hf => (pss_one (ps_set (i := 1) scTold.nd rfl (Or.inl rfl) (pe_tup (pa_cons (pe_xf (C := cT) XF hl hz hf (pv 2)) (pa_cons (pe_xf (C := cT) XF hw hz hf (pv 2)) pa_nil))))))) (.cons (.three ⟨rfl, by decide, .inl gT⟩ ⟨rfl, by decide, .inl gV⟩ ⟨rfl, by decide, .inl gW⟩ (fun a oe cls d pn hz hf => (pss_one (ps_set (i := 1) scTold.nd rfl (Or.inl rfl) pe_non)))) .nil)))
      (pss_one (ps_ret (pv 1))))), ?_⟩
    refine ⟨_, rfl, x, rfl, hx, hws, fun n m e => ?_, fun e => ⟨fun e2 H1 b s1 hb st => ?_, fun f h nr => ?_⟩⟩
    · intro H1 d hd
      refine ⟨true, xT.xx, fun _ ad hn => ?_, fun z => Bool.noConfusion z⟩
      refine ⟨_, rfl, rfl, rfl, d, _, _, rfl, hd, rfl, ?_⟩
      refine ⟨_, rfl, rfl, rfl, d, _, _, rfl, hd, rfl, ?_⟩
      refine ⟨(by show 2 ≤ sizeLine; decide), fun q hq => ?_⟩
      refine ⟨_, rfl, kQ _ _ ?_⟩
      rw [e]
      exact .tup (SqT.of upd_same) (.cons (.int _) (.cons (.int _) .nil))
    · refine ⟨_, rfl, kQ H1 _ ?_⟩
      rw [e]
      exact .non
    · have fin : ∀ H1, Q .non H1 := fun H1 => kQ H1 _ (by rw [e]; exact .non)
      cases f with
      | things =>
        intro H1 s1
        exact ⟨false, xT.tx, fun z => Bool.noConfusion z, fun _ => ⟨true, xT.tm, fun _ ad hn => ⟨_, rfl, fin H1⟩, fun z => Bool.noConfusion z⟩⟩
      | values =>
        intro H1 s1
        exact ⟨false, xT.vx, fun z => Bool.noConfusion z, fun _ => ⟨true, xT.vm, fun _ ad hn => ⟨_, rfl, fin H1⟩, fun z => Bool.noConfusion z⟩⟩
      | words =>
        intro H1 s1
        exact ⟨false, xT.wx, fun z => Bool.noConfusion z, fun _ => ⟨true, xT.wm, fun _ ad hn => ⟨_, rfl, fin H1⟩, fun z => Bool.noConfusion z⟩⟩
      | rule p => exact absurd rfl (nr p)
theorem rows_ok {names : List Str} {many : Int} {f : Str → Str} {words : List Str} {m w : Int} (d : Drawn4 names many f words m w) (hm : m ≤ 3) (hw : w ≤ 9) : ∀ ws ∈ rowsOf names many f words, RowOk 10 (joinW ws) := fun ws hws => by
  obtain ⟨n4, nne, nin, w9⟩ := d.small hw
  have v1 : ∀ x ∈ fourNames, x ∈ voc := by decide +kernel
  have v2 : ∀ x ∈ allWords, x ∈ voc := by decide +kernel
  have v3 : ∀ p ∈ partNames, p ∈ voc ∧ ∀ x ∈ partWords p, x ∈ voc := by decide +kernel
  unfold rowsOf at hws
  rcases List.mem_cons.mp hws with rfl | hws
  · refine row_of (by rw [List.length_cons]; omega) (by decide) fun x hx => ?_
    rcases List.mem_cons.mp hx with rfl | hx
    · decide +kernel
    · exact v1 x (nin x hx)
  rcases List.mem_cons.mp hws with rfl | hws
  · refine row_of (by show 2 ≤ 10; decide) (by decide) fun x hx => ?_
    rcases List.mem_cons.mp hx with rfl | hx
    · decide +kernel
    · rw [List.mem_singleton.mp hx]
      have h1 := d.m1
      have h2 := d.m2
      have : many = 1 ∨ many = 2 ∨ many = 3 := by omega
      rcases this with rfl | rfl | rfl <;> decide +kernel
  rcases List.mem_cons.mp hws with rfl | hws
  · refine row_of (by rw [List.length_cons]; omega) (by decide) fun x hx => ?_
    rcases List.mem_cons.mp hx with rfl | hx
    · decide +kernel
    · exact v2 x (d.ws x hx)
  · obtain ⟨p, hp, rfl⟩ := List.mem_map.mp hws
    refine row_of (by show 2 ≤ 10; decide) (by decide) fun x hx => ?_
    rcases List.mem_cons.mp hx with rfl | hx
    · exact (v3 x hp).1
    · rw [List.mem_singleton.mp hx]
      exact (v3 p hp).2 _ (d.rl p hp)
/-- the lines of a text of rows -/
theorem text_rows {rs : List Str} {m : Nat} (h0 : rs ≠ []) (hn : rs.length ≤ 20) (hm : m ≤ 20) (h : ∀ r ∈ rs, RowOk m r) : (rs.map (·.length)).sum + rs.length * (("\n" : Str)).length ≤ 16777216 ∧ (Txt.join "\n" rs).length ≤ 80000 ∧ ∀ r ∈ Txt.split (Txt.join "\n" rs) "\n", (wordsOf r).length < 60 ∧ okS (wordsOf r) := by
  have rl : ∀ r ∈ rs, r.length ≤ 220 := fun r hr => by
    obtain ⟨ws, a, b, c, rfl⟩ := h r hr
    have := join_len (b := 10) (ws := ws) fun x hx => (voc_all x (c x hx)).1
    omega
  have hs := sum_le (fun x : Str => x.length) 220 rs rl
  have e1 : (("\n" : Str)).length = 1 := rfl
  have hj := StrLaws.join_length_le "\n" rs
  rw [e1] at hj ⊢
  have no10 : ∀ r ∈ rs, 10 ∉ TL.tl r := fun r hr hm => by
    obtain ⟨ws, a, b, c, rfl⟩ := h r hr
    rw [tl_joinW] at hm
    have all : ∀ ws : List Str, (∀ x ∈ ws, x ∈ voc) → 10 ∉ TL.joinL [32] (ws.map TL.tl) := by
      intro ws
      induction ws with
      | nil => intro _ hm; cases hm
      | cons x xs ih =>
        intro hv
        cases xs with
        | nil => exact (voc_all x (hv x List.mem_cons_self)).2.2.2
        | cons y ys =>
          intro hm
          have hm' : 10 ∈ TL.tl x ++ ([32] ++ TL.joinL [32] ((y :: ys).map TL.tl)) := hm
          rcases List.mem_append.mp hm' with h | h
          · exact (voc_all x (hv x List.mem_cons_self)).2.2.2 h
          · rcases List.mem_append.mp h with h | h
            · cases List.mem_singleton.mp h
            · exact ih (fun z hz => hv z (List.mem_cons_of_mem _ hz)) h
    exact all ws c hm
  have esp : Txt.split (Txt.join "\n" rs) "\n" = rs := TL.split_join (y := "\n") (s := 10) (S := []) rfl (by decide +kernel) h0 no10
  refine ⟨by omega, ?_, ?_⟩
  · have e : Txt.join "\n" rs = Str.join "\n" rs := TL.join_eq "\n" rs
    rw [e]
    omega
  · rw [esp]
    intro r hr
    obtain ⟨ws, a, b, c, rfl⟩ := h r hr
    have e : wordsOf (joinW ws) = ws.filter fun y => !decide (y = ("" : Str)) := by
      unfold wordsOf
      rw [split_row a c]
    rw [e]
    refine ⟨Nat.lt_of_le_of_lt (List.length_filter_le ..) (by omega), fun x hx => (voc_all x (c x (List.mem_filter.mp hx).1)).2.1⟩
theorem due_shaped (o : Option (Nat × Nat)) : SeqAt.shaped (dueD o) = true := by
  cases o with
  | none => rfl
  | some p => obtain ⟨n, m⟩ := p; rfl
def spLaw (K : PySem.W.Frag) : Sp := fun vs H Q _ => ∃ (a : Addr) (ns : List Int), vs = [.ref a] ∧ SqL K H a (ns.map V.int) ∧ ns.length ≤ 63 ∧ ∀ H', Q (.bl true) H'
theorem scLaw : FnScope ["_law_script", "_law_h", "_law_rows_here", "_law_turn", "_law_text"] ["_law_script"] (defScope sLaw) := ⟨rfl, rfl, rfl, by decide +kernel, rfl, by decide +kernel, by decide +kernel⟩
theorem ok_law {f : Addr} {fd : FuncData} (F : FunD K "law" "law" (defArgs sLaw) (defBody sLaw) (defScope sLaw) [] [] f fd) (T : Fr mg) (FM : Fn P w K mg base CX0 1 "_law_mix" (spMix K)) (FN : Fn P w K mg base CX0 1 "_law_next" spNext) (FS : Fn P w K mg base CX0 3 "_law_scene" spScene)
    (FR : Fn P w K mg base CX0 1 "_law_rows" spRows) (FP : Fn P w K mg base CX0 2 "_law_spoil" spSpoil) (FG : Fn P w K mg base CX0 7 "_law_told" (spTold K)) (FD : Fn P w K mg base CX0 3 "_law_due" (spLDue K)) : FnOk P w K mg base CX0 8 f fd ["_law_script"] (spLaw K) := by
  refine F.ok scLaw (fun vs H Q E h => ?_) (fun cdv A outer s0 H vs Q E hr h => ?_)
  · obtain ⟨a, ns, rfl, _⟩ := h
    rfl
  · obtain ⟨a, ns, rfl, hS, hlen, k⟩ := h
    suffices hh : ∃ t, PSs (cxOf CX0 P w K mg base _ "law" (defScope sLaw) f cdv A outer s0 H E).nox (defBody sLaw) t ∧ t { nx := fun _ H' => Q .non H', rt := Q } (L2.start _ [.ref a]) H by
      obtain ⟨t, h1, h2⟩ := hh
      exact ⟨t, h1.nox, h2⟩
    refine ⟨_, (pss_cons (ps_set (i := 1) scLaw.nd rfl (Or.inl rfl) (pf FM hr (by decide) (pa_cons (pv 0) (pa_cons pe_int pa_nil))))
      (pss_cons (ps_set (i := 2) scLaw.nd rfl (Or.inl rfl) (pf FR hr (by decide) (pa_cons (pf FS hr (by decide) (pa_cons (pv 1) (pa_cons pe_int (pa_cons pe_int (pa_cons pe_int pa_nil))))) pa_nil)))
      (pss_cons (ps_for PassesOwn.never rfl (pi_range1 (by rfl) (T.fr "range" (by decide +kernel)) (pa_cons (pf FN hr (by decide) (pa_cons (pv 1) (pa_cons pe_int pa_nil))) pa_nil)) (pg_name (i := 3) scLaw.nd rfl (Or.inl rfl)) (pss_one (ps_set (i := 2) scLaw.nd rfl (Or.inl rfl) (pf FP hr (by decide) (pa_cons (pv 1) (pa_cons (pv 2) pa_nil))))))
      (pss_cons (ps_set (i := 4) scLaw.nd rfl (Or.inl rfl) (pe_join pe_str (pv 2)))
      (pss_one (ps_ret (pe_cmpR (oEqD (K := K) hr.units) (pf FG hr (by decide) (pa_cons (pv 4) pa_nil)) (pf FD hr (by decide) (pa_cons (pv 4) pa_nil)) (nomark _)))))))), ?_⟩
    refine ⟨_, rfl, a, ns, 15, rfl, hS, hlen, fun H1 p l s1 hp hl S1 => ?_⟩
    refine ⟨_, rfl, p, l, 4, 3, 9, rfl, S1, by decide, by decide, by decide, by decide, by decide, by decide, fun H2 t names many fr words S2 K2 ht five dr => ?_⟩
    refine ⟨t, names, many, fr, words, 3, 9, rfl, five, dr, by decide, by decide, fun H3 q s3 hq hq3 => ?_⟩
    have S3 := S2.same s3
    have nqp := S2.nep hq
    have nql := S2.nel hq
    have ro := rows_ok dr (by decide) (by decide)
    have hR : RowsAt H3 q 9 10 := by
      refine ⟨(rowsOf names many fr words).map joinW, by rw [hq3, List.map_map]; rfl, by unfold rowsOf; simp, ?_, fun r hr => ?_⟩
      · rw [List.length_map]
        show (partNames.map fun p => [p, fr p]).length + 1 + 1 + 1 ≤ 9
        rw [List.length_map]
        decide
      · obtain ⟨ws, hws, rfl⟩ := List.mem_map.mp hr
        exact ro ws hws
    refine ⟨_, rfl, p, l, 3, rfl, S3, by decide, by decide, fun H4 r r0 r1 S4 K4 => ?_⟩
    have hR4 : RowsAt H4 q 9 10 := by
      obtain ⟨rs, h1, h2⟩ := hR
      exact ⟨rs, K4 _ _ h1 nqp nql, h2⟩
    refine ⟨r, rfl, by omega, by omega, ?_⟩
    refine for_range (lo := 0) (n := r.toNat) (fun i σ HC => ∃ qc v3, σ = [some (.ref a), some (.ref p), some (.ref qc), v3, none] ∧ Src HC p l ∧ qc ≠ p ∧ qc ≠ l ∧ RowsAt HC qc (9 + i) (10 + i)) ⟨q, none, rfl, S4, nqp, nql, hR4⟩ ?_ ?_
    · rintro i σ HC hi ⟨qc, v3, rfl, SC, n1, n2, hRC⟩
      refine ⟨_, rfl, _, rfl, p, l, qc, 9 + i, 10 + i, rfl, SC, hRC, n1, n2, by omega, by omega, by omega, fun HD qd SD m1 m2 hRD => ?_⟩
      exact ⟨qd, _, rfl, SD, m1, m2, hRD⟩
    · rintro σ HC ⟨qc, v3, rfl, SC, n1, n2, rs, hrs, rne, rlen, rok⟩
      obtain ⟨t1, t2, t3⟩ := text_rows rne (by omega) (m := 10 + r.toNat) (by omega) rok
      refine ⟨⟨_, rfl⟩, _, rfl, "\n", qc, rs, rfl, rfl, .inl (SqL.of hrs), t1, ?_⟩
      refine ⟨_, rfl, _, rfl, t2, fun r hr => (t3 r hr).1, fun HD v1 d1 => ?_⟩
      refine ⟨_, rfl, _, rfl, t2, t3, fun HE v2 sE d2 => ?_⟩
      refine ⟨_, _, Dp.same sE _ d1, d2, due_shaped _, due_shaped _, ?_⟩
      rw [SeqAt.eqv_refl _ (SeqAt.canLay_of_shaped (due_shaped _))]
      exact k HE
end
end HP

namespace HP
open PySem PySem.Spec PyProof.Rows L2
abbrev sIR : Stmt := inClass (top 5) 0
section
variable {P : Program} {w : World} {K : PySem.W.Frag} {mg : Str → Option Value} {base : Heap}
theorem scIR : FnScope ["self", "part"] ["self", "part"] (defScope sIR) := ⟨rfl, rfl, rfl, by decide +kernel, rfl, by decide +kernel, by decide +kernel⟩
theorem ok_initRule {C fI : Addr} {fd : FuncData} (F : FunD K "__init__" "InvalidRule.__init__" (defArgs sIR) (defBody sIR) (defScope sIR) [] [] fI fd) (O : OexC K C) (hno : PySem.W.findIn K (.ref C) "part" = some none) : FnOk P w K mg base CX0 1 fI fd ["self", "part"] (spInit1 C "part") := by
  refine F.ok scIR (fun vs H Q E h => ?_) (fun cdv A outer s0 H vs Q E hr h => ?_)
  · obtain ⟨a, y, rfl, _⟩ := h
    rfl
  · obtain ⟨a, y, rfl, ha, k⟩ := h
    refine ⟨_, (pss_one (ps_ost (pv 0) (pv 1))), ?_⟩
    exact ⟨_, rfl, _, rfl, a, C, rfl, O, hno, .inl ⟨ha, fun dx h1 h2 => k dx h1 h2⟩⟩
end
end HP

namespace HP
open PySem PySem.Spec PyProof.Rows L2
abbrev sIT : Stmt := inClass (top 7) 0
section
variable {P : Program} {w : World} {K : PySem.W.Frag} {mg : Str → Option Value} {base : Heap}
theorem scIT : FnScope ["self", "line", "word"] ["self", "line", "word"] (defScope sIT) := ⟨rfl, rfl, rfl, by decide +kernel, rfl, by decide +kernel, by decide +kernel⟩
theorem ok_initText {C fI : Addr} {fd : FuncData} (F : FunD K "__init__" "InvalidText.__init__" (defArgs sIT) (defBody sIT) (defScope sIT) [] [] fI fd) (O : OexC K C) (n1 : PySem.W.findIn K (.ref C) "line" = some none) (n2 : PySem.W.findIn K (.ref C) "word" = some none) : FnOk P w K mg base CX0 1 fI fd ["self", "line", "word"] (spInit2 C "line" "word") := by
  refine F.ok scIT (fun vs H Q E h => ?_) (fun cdv A outer s0 H vs Q E hr h => ?_)
  · obtain ⟨a, y, z, rfl, _⟩ := h
    rfl
  · obtain ⟨a, y, z, rfl, ha, k⟩ := h
    refine ⟨_, (pss_cons (ps_ost (pv 0) (pv 1))
      (pss_one (ps_ost (pv 0) (pv 2)))), ?_⟩
    refine ⟨_, rfl, _, rfl, a, C, rfl, O, n1, .inl ⟨ha, fun dx h1 h2 => ?_⟩⟩
    exact ⟨_, rfl, _, rfl, a, C, rfl, O, n2, .inr ⟨dx, _, upd_same, by rw [upd_ne h2, upd_same], by show 1 ≤ 900; decide, k dx h1 h2⟩⟩
end
end HP

namespace HP
open PySem PySem.Spec PyProof.Rows L2
/-! ### what the Bools of the written part say -/
section
variable {K : PySem.W.Frag} {h : Heap} {mg : Str → Option Value} {P : Program} {w : World} {base : Heap}
theorem ea_ok {a b : Option (Option Value)} (h : ea a b = true) : a = b := of_decide_eq_true h
theorem excB_ok (X : K.In h) (G : h.Ns mainGlobals mg) {x : Str} (c : excB K x = true) : Exc0 K mg x (He.ga K x) := by
  obtain ⟨c1, c⟩ := He.ba c
  obtain ⟨c2, c⟩ := He.ba c
  obtain ⟨c3, c⟩ := He.ba c
  obtain ⟨c4, c5⟩ := He.ba c
  exact ⟨PySem.W.mg_of X G (ea_ok c5), c1, c2, of_decide_eq_true c3, of_decide_eq_true c4⟩
theorem clsB_ok {C : Addr} (c : clsB K C = true) : ∃ nm q N bs bm sn sub ab col dd k0 k1 k2 k3 k5, K.lookup C = some (excClassObj nm q C N bs bm true sn sub ab col dd k0 k1 k2 k3 k5 "ValueError.__new__") ∧ PySem.HandSPX.refsVE bm = true := by
  unfold clsB at c
  split at c
  · rename_i o dd cd sl q
    split at c
    · rename_i C2 bm k0 k1 k2 k3 n k5 e1 e2
      obtain ⟨c, c5⟩ := He.ba c
      obtain ⟨c, c4⟩ := He.ba c
      obtain ⟨c, c3⟩ := He.ba c
      obtain ⟨c1, c2⟩ := He.ba c
      have z1 : C2 = C := beq_iff_eq.mp c1
      have z2 : n = "ValueError.__new__" := beq_iff_eq.mp c2
      subst z1 z2
      obtain ⟨nm, bs, mro, ns, qn, hd, sn, sub, ab, col, hdl⟩ := cd
      dsimp only at e1 c3 c4
      subst e1
      have z3 : hdl = false := by cases hdl <;> first | rfl | cases c3
      subst z3
      have z4 : hd = true := c4
      subst z4
      have z5 : sl = #[k0, k1, k2, k3, some (.builtin "ValueError.__new__"), k5] := by
        rw [← e2]
      subst z5
      exact ⟨nm, qn, ns, bs, bm, sn, sub, ab, col, dd, k0, k1, k2, k3, k5, q, c5⟩
    · cases c
  · cases c
theorem oexB_ok {C : Addr} (c : oexB K C = true) : OexC K C := by
  obtain ⟨c1, c⟩ := He.ba c
  obtain ⟨c2, c⟩ := He.ba c
  obtain ⟨c3, c⟩ := He.ba c
  obtain ⟨c4, c5⟩ := He.ba c
  exact ⟨clsB_ok c1, ea_ok c2, of_decide_eq_true c3, of_decide_eq_true c4, c5⟩
structure Ex1 (K : PySem.W.Frag) (mg : Str → Option Value) (x f : Str) : Prop where
  oc : OexC K (He.ga K x)
  gl : mg x = some (.ref (He.ga K x))
  ini : PySem.W.findIn K (.ref (He.ga K x)) "__init__" = some (some (.ref (He.ma K (He.ga K x) "__init__")))
  ty : PySem.W.typeIn K (.ref (He.ma K (He.ga K x) "__init__")) = some (.type "function")
  no : PySem.W.findIn K (.ref (He.ga K x)) f = some none
  xf : XfC K (He.ga K x)
theorem exc1B_ok (X : K.In h) (G : h.Ns mainGlobals mg) {x f : Str} (c : exc1B K x f = true) : Ex1 K mg x f := by
  obtain ⟨c1, c⟩ := He.ba c
  obtain ⟨c2, c⟩ := He.ba c
  obtain ⟨c3, c⟩ := He.ba c
  obtain ⟨c4, c⟩ := He.ba c
  obtain ⟨c5, c6⟩ := He.ba c
  exact ⟨oexB_ok c1, PySem.W.mg_of X G (ea_ok c2), ea_ok c3, of_decide_eq_true c4, ea_ok c5, xfB_ok c6⟩
end
end HP

namespace HP
open PySem PySem.Spec PyProof.Rows L2 SlX
section
variable {K : PySem.W.Frag} {h : Heap} {mg : Str → Option Value} {P : Program} {w : World} {base : Heap}
theorem slotB_ok {C : Addr} {f : Str} {i : Nat} (c : slotB K C f i = true) : ∃ p, Slot1 K C f p i := by
  obtain ⟨c1, c⟩ := He.ba c
  obtain ⟨c2, c⟩ := He.ba c
  obtain ⟨c3, c⟩ := He.ba c
  obtain ⟨c4, c⟩ := He.ba c
  obtain ⟨c5, c6⟩ := He.ba c
  exact ⟨_, ea_ok c1, ea_ok c2, of_decide_eq_true c3, of_decide_eq_true c4, of_decide_eq_true c5, of_decide_eq_true c6⟩
theorem sceneB_ok (c : sceneB K = true) : SlC K (He.ga K "Scene") := by
  obtain ⟨c1, c⟩ := He.ba c
  obtain ⟨c2, c⟩ := He.ba c
  obtain ⟨c3, c⟩ := He.ba c
  obtain ⟨c4, c5⟩ := He.ba c
  obtain ⟨d1, d⟩ := He.ba c1
  obtain ⟨d2, d⟩ := He.ba d
  obtain ⟨d3, d4⟩ := He.ba d
  exact ⟨⟨d1, d2, d3, ea_ok d4⟩, slotB_ok c2, slotB_ok c4, slotB_ok c3, slotB_ok c5⟩
theorem tupAt_ok {a : Addr} {ws : List Str} (c : tupAt K a ws = true) (H : Hp) : SqT K H a (ws.map V.str) := by
  unfold tupAt at c
  split at c
  · rename_i o cl dd its fl sl q
    obtain ⟨c1, c⟩ := He.ba c
    obtain ⟨c2, c3⟩ := He.ba c
    have z : cl = "tuple" := of_decide_eq_true c1
    subst z
    exact .inr ⟨_, its, _, q, rfl, rfl, of_decide_eq_true c2, He.relAll_ok c3⟩
  · cases c
/-! ### the table PARTS -/
def entAd (es : List DictEntry) (p : Str) : Addr := match es.find? (fun e => match e.key with
    | .str x _ => decide (x = p)
    | _ => false) with
  | some e => (match e.val with
    | .ref a => a
    | _ => 0)
  | none => 0
def entsB (f : Str → Addr) : List Str → List DictEntry → Bool
  | [], [] => true
  | p :: ps, e :: es => (match e.key with
      | .str x _ => decide (x = p)
      | _ => false) && (decide (e.val = .ref (f p)) && entsB f ps es)
  | _, _ => false
def partPa (K : PySem.W.Frag) (p : Str) : Addr := match K.lookup (He.ga K "PARTS") with
  | some ⟨_, _, .dict es _, _⟩ => entAd es.toList p
  | _ => 0
def tabB (K : PySem.W.Frag) : Bool := (match K.lookup (He.ga K "PARTS") with
  | some ⟨_, _, .dict es _, _⟩ => entsB (partPa K) partNames es.toList
  | _ => false) && (partNames.all fun p => tupAt K (partPa K p) (partWords p))
theorem ents_ok {f : Str → Addr} : ∀ {ps : List Str} {es : List DictEntry}, entsB f ps es = true → Pairs (mixKind P w) es (ps.map fun p => (Sum.inr p, Value.ref (f p)))
  | [], [], _ => .nil
  | [], _ :: _, c => by cases c
  | _ :: _, [], c => by cases c
  | p :: ps, e :: es, c => by
    obtain ⟨c1, c⟩ := He.ba c
    obtain ⟨c2, c3⟩ := He.ba c
    refine .cons ?_ (of_decide_eq_true c2) (ents_ok c3)
    split at c1
    · rename_i x t q
      have z : x = p := of_decide_eq_true c1
      subst z
      show keyIs (Sum.inr x) e.key = true
      rw [q]
      exact keyIs_str x t
    · cases c1
theorem kv_refs {f : Str → Addr} : ∀ ps : List Str, KV (ps.map fun p => ((Sum.inr p : Key), V.ref (f p))) (ps.map fun p => (Sum.inr p, Value.ref (f p)))
  | [] => .nil
  | p :: ps => .cons ⟨rfl, rfl⟩ (kv_refs ps)
theorem wd_of {es : Array DictEntry} {n : Nat} (D : KDict K w (He.ga K "PARTS") es n) (c : tabB K = true) : WD P w K (He.ga K "PARTS") (partNames.map fun p => (Sum.inr p, V.ref (partPa K p))) := by
  obtain ⟨c1, _⟩ := He.ba c
  rw [D.at_] at c1
  have c1 : entsB (partPa K) partNames es.toList = true := c1
  refine ⟨D.low, _, es, n, partNames.map fun p => (Sum.inr p, Value.ref (partPa K p)), D.at_, ⟨rfl, rfl, rfl⟩, rfl, kv_refs partNames, fun e he => ?_, ents_ok c1, ?_⟩
  · obtain ⟨x, t, e1, e2⟩ := D.lit.all e (Array.mem_toList_iff.mpr he)
    exact ⟨Sum.inr x, (by rw [e1]; exact mixKind_str P w x t), e2⟩
  · rw [List.map_map]
    exact List.Pairwise.map _ (fun a b hab e => hab (Sum.inr.inj e)) nodup_parts
end
end HP

set_option maxHeartbeats 0
namespace HP
open PySem PySem.Spec PyProof.Rows L2 SlX
/-! ### the head -/
def exB (K : PySem.W.Frag) : Bool := excB K "InvalidThings" && (excB K "InvalidValues" && (excB K "InvalidWords" && (exc1B K "InvalidRule" "part" && (sceneB K && (tabB K && (tupAt K (He.ga K "WORDS") allWords && (exc1B K "InvalidText" "line" && (ea (PySem.W.findIn K (.ref (He.ga K "InvalidText")) "word") (some none) && (tupAt K (He.ga K "DIGITS") digits && (decide (PySem.W.exmAny K (.ref (He.ga K "InvalidThings")) [.ref (He.ga K "InvalidThings"), .ref (He.ga K "InvalidValues"), .ref (He.ga K "InvalidWords")] = some true) && (decide (PySem.W.exmAny K (.ref (He.ga K "InvalidValues")) [.ref (He.ga K "InvalidThings"), .ref (He.ga K "InvalidValues"), .ref (He.ga K "InvalidWords")] = some true) && (decide (PySem.W.exmAny K (.ref (He.ga K "InvalidWords")) [.ref (He.ga K "InvalidThings"), .ref (He.ga K "InvalidValues"), .ref (He.ga K "InvalidWords")] = some true)))))))))))))
def df0 : He.DefD := ⟨("_law_mix", none), "_law_mix", "_law_mix", defArgs sMix, defBody sMix, defScope sMix, [], []⟩
def df1 : He.DefD := ⟨("_law_next", none), "_law_next", "_law_next", defArgs sNext, defBody sNext, defScope sNext, [], []⟩
def df2 : He.DefD := ⟨("_law_rule", none), "_law_rule", "_law_rule", defArgs sRule, defBody sRule, defScope sRule, [], []⟩
def df3 : He.DefD := ⟨("_law_scene", none), "_law_scene", "_law_scene", defArgs sScene, defBody sScene, defScope sScene, [], []⟩
def df4 : He.DefD := ⟨("_law_rows", none), "_law_rows", "_law_rows", defArgs sRows, defBody sRows, defScope sRows, [], []⟩
def df5 : He.DefD := ⟨("_law_name", none), "_law_name", "_law_name", defArgs sLName, defBody sLName, defScope sLName, [], []⟩
def df6 : He.DefD := ⟨("_law_bad", none), "_law_bad", "_law_bad", defArgs sLBad, defBody sLBad, defScope sLBad, [], []⟩
def df7 : He.DefD := ⟨("_law_due", none), "_law_due", "_law_due", defArgs sLDue, defBody sLDue, defScope sLDue, [], []⟩
def df8 : He.DefD := ⟨("_law_spoil", none), "_law_spoil", "_law_spoil", defArgs sSpoil, defBody sSpoil, defScope sSpoil, [], []⟩
def df9 : He.DefD := ⟨("_law_told", none), "_law_told", "_law_told", defArgs sTold, defBody sTold, defScope sTold, [], []⟩
def df10 : He.DefD := ⟨("law", none), "law", "law", defArgs sLaw, defBody sLaw, defScope sLaw, [], []⟩
def df11 : He.DefD := ⟨("is_integer", none), "is_integer", "is_integer", defArgs sIsInt, defBody sIsInt, defScope sIsInt, [], []⟩
def df12 : He.DefD := ⟨("is_name", none), "is_name", "is_name", defArgs sIsName, defBody sIsName, defScope sIsName, [], []⟩
def df13 : He.DefD := ⟨("are_things", none), "are_things", "are_things", defArgs sThings, defBody sThings, defScope sThings, [], []⟩
def df14 : He.DefD := ⟨("look_at_rule", none), "look_at_rule", "look_at_rule", defArgs sLook, defBody sLook, defScope sLook, [], []⟩
def df15 : He.DefD := ⟨("are_words", none), "are_words", "are_words", defArgs sWords, defBody sWords, defScope sWords, [], []⟩
def df16 : He.DefD := ⟨("read_line", none), "read_line", "read_line", defArgs sRL, defBody sRL, defScope sRL, [], []⟩
def df17 : He.DefD := ⟨("read_scene", none), "read_scene", "read_scene", defArgs sRead, defBody sRead, defScope sRead, [], []⟩
def df18 : He.DefD := ⟨("Scene", some "__init__"), "__init__", "Scene.__init__", defArgs sInit, defBody sInit, defScope sInit, [], []⟩
def df19 : He.DefD := ⟨("InvalidRule", some "__init__"), "__init__", "InvalidRule.__init__", defArgs sIR, defBody sIR, defScope sIR, [], []⟩
def df20 : He.DefD := ⟨("InvalidText", some "__init__"), "__init__", "InvalidText.__init__", defArgs sIT, defBody sIT, defScope sIT, [], []⟩
def df21 : He.DefD := ⟨("Line", some "__init__"), "__init__", "Line.__init__", defArgs sLineI, defBody sLineI, defScope sLineI, [], []⟩
def df22 : He.DefD := ⟨("Line", some "refuse"), "refuse", "Line.refuse", defArgs sRefuse, defBody sRefuse, defScope sRefuse, [], []⟩
def df23 : He.DefD := ⟨("Line", some "is_done"), "is_done", "Line.is_done", defArgs sDone, defBody sDone, defScope sDone, [], []⟩
def df24 : He.DefD := ⟨("Line", some "take_one"), "take_one", "Line.take_one", defArgs sOne, defBody sOne, defScope sOne, [], []⟩
def df25 : He.DefD := ⟨("Line", some "take_name"), "take_name", "Line.take_name", defArgs sTName, defBody sTName, defScope sTName, [], []⟩
def df26 : He.DefD := ⟨("Line", some "finish"), "finish", "Line.finish", defArgs sFinish, defBody sFinish, defScope sFinish, [], []⟩
def fnL : List He.DefD := [df0, df1, df2, df3, df4, df5, df6, df7, df8, df9, df10, df11, df12, df13, df14, df15, df16, df17, df18, df19, df20, df21, df22, df23, df24, df25, df26]
def faL : List He.Fa := [.glo "_law_mix", .glo "_law_next", .glo "_law_rule", .glo "_law_scene", .glo "_law_rows", .glo "_law_name", .glo "_law_bad", .glo "_law_due", .glo "_law_spoil", .glo "_law_told", .glo "law", .glo "is_integer", .glo "is_name", .glo "are_things", .glo "look_at_rule", .glo "are_words", .glo "read_line", .glo "read_scene", .glo "HandError", .glo "InvalidThings", .glo "InvalidValues", .glo "InvalidRule", .glo "InvalidWords", .glo "PARTS", .glo "WORDS", .glo "Scene", .glo "InvalidText", .glo "DIGITS", .glo "Line", .free "int", .free "list", .free "len", .free "max", .free "min", .free "isinstance", .free "sorted", .free "all", .free "any", .free "tuple", .free "set", .free "str", .free "bool", .free "dict", .free "range", .free "zip", .free "enumerate", .free "ValueError", .free "super", .str "LETTERS" az, .int "MOST_NAME" 8, .int "MOST_THINGS" 4, .int "MOST_VALUES" 3, .mkr "Scene", .cls "Line", .noat "Line" "number", .noat "Line" "parts", .noat "Line" "place", .meth "Line" "is_done", .meth "Line" "refuse", .meth "Line" "take_one", .meth "Line" "take_name", .meth "Line" "finish", .mkr "Line", .exm "InvalidText" "InvalidText" true, .exm "InvalidThings" "InvalidText" false, .exm "InvalidValues" "InvalidText" false, .exm "InvalidWords" "InvalidText" false]
def tsL0 : He.Tab := (fun K => He.ga K "PARTS", partNames)
abbrev R : PySem.W.OpenRow := PySem.W.OpenLaw.row PySem.Challenge.rw_handplaced_k15_whole_texts_refused
abbrev hk : PySem.W.Hook := He.hookX 5 faL fnL [tsL0] [] exB
def ob (s : PySem.W.SharedT) : He.AlX := He.obsX 5 faL fnL [tsL0] [] exB (HandSHeadRun.getT s)
theorem ob_eq (s : PySem.W.SharedT) : ob s = hk.obs s.abs := He.obsX_eq (HandSHeadRun.getT_eq s)
def loose : List PySem.Str := [("_wall" : PySem.Str), ("__name__" : PySem.Str), ("HandError" : PySem.Str), ("InvalidThings" : PySem.Str), ("InvalidValues" : PySem.Str), ("InvalidRule" : PySem.Str), ("InvalidWords" : PySem.Str), ("InvalidText" : PySem.Str), ("LETTERS" : PySem.Str), ("MOST_NAME" : PySem.Str), ("MOST_THINGS" : PySem.Str), ("MOST_VALUES" : PySem.Str), ("PARTS" : PySem.Str), ("WORDS" : PySem.Str), ("is_integer" : PySem.Str), ("is_name" : PySem.Str), ("are_things" : PySem.Str), ("look_at_rule" : PySem.Str), ("are_words" : PySem.Str), ("Scene" : PySem.Str), ("DIGITS" : PySem.Str), ("Line" : PySem.Str), ("read_line" : PySem.Str), ("read_scene" : PySem.Str), ("_law_mix" : PySem.Str), ("_law_next" : PySem.Str), ("_law_rule" : PySem.Str), ("_law_scene" : PySem.Str), ("_law_rows" : PySem.Str), ("_law_name" : PySem.Str), ("_law_bad" : PySem.Str), ("_law_due" : PySem.Str), ("_law_spoil" : PySem.Str), ("_law_told" : PySem.Str)]
theorem facts {P : Program} {w : World} {K : PySem.W.Frag} {h h0 : Heap} {mg : Str → Option Value} {f : Addr} (X : K.In h) (G : h.Ns mainGlobals mg) (hfa : mg ("law" : Str) = some (.ref f)) (c : He.SaysX faL fnL [tsL0] [] exB w h0 K) :
    ∃ fd : FuncData, (∀ (s : Shared) (v : Value), BindsTo s fd ⟨[v], []⟩ [("_law_script", v)]) ∧ ∀ base : Heap, K.In base → base.Ns mainGlobals mg → FnOk P w K mg base CX0 8 f fd ["_law_script"] (spLaw K) := by
  obtain ⟨fd0, F0⟩ := c.t.d.def_ 0 (d := df0) rfl
  obtain ⟨fd1, F1⟩ := c.t.d.def_ 1 (d := df1) rfl
  obtain ⟨fd2, F2⟩ := c.t.d.def_ 2 (d := df2) rfl
  obtain ⟨fd3, F3⟩ := c.t.d.def_ 3 (d := df3) rfl
  obtain ⟨fd4, F4⟩ := c.t.d.def_ 4 (d := df4) rfl
  obtain ⟨fd5, F5⟩ := c.t.d.def_ 5 (d := df5) rfl
  obtain ⟨fd6, F6⟩ := c.t.d.def_ 6 (d := df6) rfl
  obtain ⟨fd7, F7⟩ := c.t.d.def_ 7 (d := df7) rfl
  obtain ⟨fd8, F8⟩ := c.t.d.def_ 8 (d := df8) rfl
  obtain ⟨fd9, F9⟩ := c.t.d.def_ 9 (d := df9) rfl
  obtain ⟨fd10, F10⟩ := c.t.d.def_ 10 (d := df10) rfl
  obtain ⟨fd11, F11⟩ := c.t.d.def_ 11 (d := df11) rfl
  obtain ⟨fd12, F12⟩ := c.t.d.def_ 12 (d := df12) rfl
  obtain ⟨fd13, F13⟩ := c.t.d.def_ 13 (d := df13) rfl
  obtain ⟨fd14, F14⟩ := c.t.d.def_ 14 (d := df14) rfl
  obtain ⟨fd15, F15⟩ := c.t.d.def_ 15 (d := df15) rfl
  obtain ⟨fd16, F16⟩ := c.t.d.def_ 16 (d := df16) rfl
  obtain ⟨fd17, F17⟩ := c.t.d.def_ 17 (d := df17) rfl
  obtain ⟨fd18, F18⟩ := c.t.d.def_ 18 (d := df18) rfl
  obtain ⟨fd19, F19⟩ := c.t.d.def_ 19 (d := df19) rfl
  obtain ⟨fd20, F20⟩ := c.t.d.def_ 20 (d := df20) rfl
  obtain ⟨fd21, F21⟩ := c.t.d.def_ 21 (d := df21) rfl
  obtain ⟨fd22, F22⟩ := c.t.d.def_ 22 (d := df22) rfl
  obtain ⟨fd23, F23⟩ := c.t.d.def_ 23 (d := df23) rfl
  obtain ⟨fd24, F24⟩ := c.t.d.def_ 24 (d := df24) rfl
  obtain ⟨fd25, F25⟩ := c.t.d.def_ 25 (d := df25) rfl
  obtain ⟨fd26, F26⟩ := c.t.d.def_ 26 (d := df26) rfl
  have cm : exB K = true := c.more
  obtain ⟨m1, cm⟩ := He.ba cm
  obtain ⟨m2, cm⟩ := He.ba cm
  obtain ⟨m3, cm⟩ := He.ba cm
  obtain ⟨m4, cm⟩ := He.ba cm
  obtain ⟨m5, cm⟩ := He.ba cm
  obtain ⟨m6, cm⟩ := He.ba cm
  obtain ⟨m7, cm⟩ := He.ba cm
  obtain ⟨m8, cm⟩ := He.ba cm
  obtain ⟨m9, cm⟩ := He.ba cm
  obtain ⟨m10, cm⟩ := He.ba cm
  obtain ⟨m11, cm⟩ := He.ba cm
  obtain ⟨m12, cm⟩ := He.ba cm
  have m13 := cm
  have T : Fr mg := ⟨fun x hx => by
    have hx : x ∈ frees := List.contains_iff_mem.mp hx
    simp only [frees, List.mem_cons, List.not_mem_nil, or_false] at hx
    rcases hx with rfl | rfl | rfl | rfl | rfl | rfl | rfl | rfl | rfl | rfl | rfl | rfl | rfl | rfl | rfl | rfl | rfl | rfl | rfl
    · exact He.free_ok X G (c.t.d.fact 29 (f := .free "int") rfl)
    · exact He.free_ok X G (c.t.d.fact 30 (f := .free "list") rfl)
    · exact He.free_ok X G (c.t.d.fact 31 (f := .free "len") rfl)
    · exact He.free_ok X G (c.t.d.fact 32 (f := .free "max") rfl)
    · exact He.free_ok X G (c.t.d.fact 33 (f := .free "min") rfl)
    · exact He.free_ok X G (c.t.d.fact 34 (f := .free "isinstance") rfl)
    · exact He.free_ok X G (c.t.d.fact 35 (f := .free "sorted") rfl)
    · exact He.free_ok X G (c.t.d.fact 36 (f := .free "all") rfl)
    · exact He.free_ok X G (c.t.d.fact 37 (f := .free "any") rfl)
    · exact He.free_ok X G (c.t.d.fact 38 (f := .free "tuple") rfl)
    · exact He.free_ok X G (c.t.d.fact 39 (f := .free "set") rfl)
    · exact He.free_ok X G (c.t.d.fact 40 (f := .free "str") rfl)
    · exact He.free_ok X G (c.t.d.fact 41 (f := .free "bool") rfl)
    · exact He.free_ok X G (c.t.d.fact 42 (f := .free "dict") rfl)
    · exact He.free_ok X G (c.t.d.fact 43 (f := .free "range") rfl)
    · exact He.free_ok X G (c.t.d.fact 44 (f := .free "zip") rfl)
    · exact He.free_ok X G (c.t.d.fact 45 (f := .free "enumerate") rfl)
    · exact He.free_ok X G (c.t.d.fact 46 (f := .free "ValueError") rfl)
    · exact He.free_ok X G (c.t.d.fact 47 (f := .free "super") rfl)⟩
  refine ⟨fd10, ?_, fun base Kb Gb => ?_⟩
  · have b := FunD.bindsA (ps := ["_law_script"]) F10 fun _ _ _ _ _ _ us hl => match us, hl with | [_], _ => rfl
    exact fun s v => b s [v] rfl
  have X1 := excB_ok X G m1
  have X2 := excB_ok X G m2
  have X4 := excB_ok X G m3
  have E3 := exc1B_ok X G m4
  have S := sceneB_ok m5
  obtain ⟨es, ne, KD⟩ := c.t.tab 0 (t := tsL0) rfl
  have WDp : WD P w K (He.ga K "PARTS") _ := wd_of (P := P) KD m6
  have Z : Pt P w K mg (He.ga K "PARTS") (partPa K) := ⟨(He.glo_ok X G (c.t.d.fact 23 (f := .glo "PARTS") rfl)), WDp, fun p hp H => tupAt_ok (List.all_eq_true.mp (He.ba m6).2 p hp) H⟩
  have Cc : Cs K mg := ⟨(He.str_ok X G (c.t.d.fact 48 (f := .str "LETTERS" az) rfl)), (He.int_ok X G (c.t.d.fact 49 (f := .int "MOST_NAME" 8) rfl)), (He.int_ok X G (c.t.d.fact 50 (f := .int "MOST_THINGS" 4) rfl)), (He.int_ok X G (c.t.d.fact 51 (f := .int "MOST_VALUES" 3) rfl))⟩
  have CW : CsW K mg := ⟨_, (He.glo_ok X G (c.t.d.fact 24 (f := .glo "WORDS") rfl)), fun H => tupAt_ok m7 H⟩
  let c4 : Cls4 := ⟨(He.ga K "InvalidThings"), (He.ga K "InvalidValues"), (He.ga K "InvalidRule"), (He.ga K "InvalidWords")⟩
  have XR : Exc1 P w K mg base "InvalidRule" c4.rule "part" (spInit1 c4.rule "part") := ⟨E3.gl, E3.oc, _, _, _, E3.ini, E3.ty, (F19.bindsN fun _ _ _ _ _ _ us hl => match us, hl with | [_, _], _ => rfl), ok_initRule F19 E3.oc E3.no⟩
  have GI : Fn P w K mg base CX0 1 "is_integer" (spIsInt K) := ok_isInt ⟨_, _, (He.glo_ok X G (c.t.d.fact 11 (f := .glo "is_integer") rfl)), F11⟩ T
  have GN : Fn P w K mg base CX0 1 "is_name" (spIsName K) := ok_isName ⟨_, _, (He.glo_ok X G (c.t.d.fact 12 (f := .glo "is_name") rfl)), F12⟩ T Cc
  have GT : Fn P w K mg base CX0 2 "are_things" (spThings K) := ok_things ⟨_, _, (He.glo_ok X G (c.t.d.fact 13 (f := .glo "are_things") rfl)), F13⟩ T Cc GN
  have GW : Fn P w K mg base CX0 1 "are_words" (spWords K) := ok_words ⟨_, _, (He.glo_ok X G (c.t.d.fact 15 (f := .glo "are_words") rfl)), F15⟩ T CW
  have GL : Fn P w K mg base (L2.CX P w) 3 "look_at_rule" (spLook K c4.rule) := ok_look ⟨_, _, (He.glo_ok X G (c.t.d.fact 14 (f := .glo "look_at_rule") rfl)), F14⟩ T Z XR
  have FI := ok_init (P := P) (w := w) (base := base) (c := c4) F18 T Cc Z S X1 X2 X4 GT GI GL GW
  have M : ScMk P w K mg base (He.ga K "Scene") c4 := ⟨_, _, (He.glo_ok X G (c.t.d.fact 25 (f := .glo "Scene") rfl)), (He.mkr_ok (c.t.d.fact 52 (f := .mkr "Scene") rfl)), (F18.bindsN fun _ _ _ _ _ _ us hl => match us, hl with | [_, _, _, _, _], _ => rfl), FI⟩
  have ET := exc1B_ok X G m8
  have XT : Exc1 P w K mg base "InvalidText" (He.ga K "InvalidText") "line" (spInit2 (He.ga K "InvalidText") "line" "word") := ⟨ET.gl, ET.oc, _, _, _, ET.ini, ET.ty, (F20.bindsN fun _ _ _ _ _ _ us hl => match us, hl with | [_, _, _], _ => rfl), ok_initText F20 ET.oc ET.no (ea_ok m9)⟩
  have LC : LnC K (He.ga K "Line") := ⟨(He.cls_ok (c.t.d.fact 53 (f := .cls "Line") rfl)), (He.noat_ok (c.t.d.fact 54 (f := .noat "Line" "number") rfl)), (He.noat_ok (c.t.d.fact 55 (f := .noat "Line" "parts") rfl)), (He.noat_ok (c.t.d.fact 56 (f := .noat "Line" "place") rfl))⟩
  have MD : MCl P w K mg base CX0 1 (He.ga K "Line") "is_done" (spDone (He.ga K "Line")) := ⟨LC.cls, _, _, _, (He.meth_ok (c.t.d.fact 57 (f := .meth "Line" "is_done") rfl)), (F23.bindsN fun _ _ _ _ _ _ us hl => match us, hl with | [_], _ => rfl), ok_done F23 T LC⟩
  have MR : MCl P w K mg base (L2.CX P w) 3 (He.ga K "Line") "refuse" (spRefuse (He.ga K "Line") (He.ga K "InvalidText")) := ⟨LC.cls, _, _, _, (He.meth_ok (c.t.d.fact 58 (f := .meth "Line" "refuse") rfl)), (F22.bindsN fun _ _ _ _ _ _ us hl => match us, hl with | [_], _ => rfl), ok_refuse F22 T LC XT⟩
  have MO : MCl P w K mg base (L2.CX P w) 4 (He.ga K "Line") "take_one" (spOne K (He.ga K "Line") (He.ga K "InvalidText")) := ⟨LC.cls, _, _, _, (He.meth_ok (c.t.d.fact 59 (f := .meth "Line" "take_one") rfl)), (F24.bindsN fun _ _ _ _ _ _ us hl => match us, hl with | [_, _], _ => rfl), ok_one F24 T LC MD MR⟩
  have MN : MCl P w K mg base (L2.CX P w) 4 (He.ga K "Line") "take_name" (spTName (He.ga K "Line") (He.ga K "InvalidText")) := ⟨LC.cls, _, _, _, (He.meth_ok (c.t.d.fact 60 (f := .meth "Line" "take_name") rfl)), (F25.bindsN fun _ _ _ _ _ _ us hl => match us, hl with | [_], _ => rfl), ok_tname F25 T LC MD MR GN⟩
  have MF : MCl P w K mg base (L2.CX P w) 4 (He.ga K "Line") "finish" (spFinish (He.ga K "Line") (He.ga K "InvalidText")) := ⟨LC.cls, _, _, _, (He.meth_ok (c.t.d.fact 61 (f := .meth "Line" "finish") rfl)), (F26.bindsN fun _ _ _ _ _ _ us hl => match us, hl with | [_], _ => rfl), ok_finish F26 T LC MD MR⟩
  have ML : LnMk P w K mg base (He.ga K "Line") := ⟨_, _, (He.glo_ok X G (c.t.d.fact 28 (f := .glo "Line") rfl)), (He.mkr_ok (c.t.d.fact 62 (f := .mkr "Line") rfl)), (F21.bindsN fun _ _ _ _ _ _ us hl => match us, hl with | [_, _, _], _ => rfl), ok_line F21 T LC⟩
  have Xt : Tx K mg := ⟨⟨_, (He.glo_ok X G (c.t.d.fact 27 (f := .glo "DIGITS") rfl)), fun H => tupAt_ok m10 H⟩, ⟨_, (He.glo_ok X G (c.t.d.fact 24 (f := .glo "WORDS") rfl)), fun H => tupAt_ok m7 H⟩⟩
  have GRL : Fn P w K mg base (L2.CX P w) 5 "read_line" (spRL (He.ga K "Line") (He.ga K "InvalidText")) := ok_readLine ⟨_, _, (He.glo_ok X G (c.t.d.fact 16 (f := .glo "read_line") rfl)), F16⟩ T Z Xt MD MO MN MF
  have GRd : Fn P w K mg base (L2.CX P w) 6 "read_scene" (spRead K (He.ga K "Scene") (He.ga K "InvalidText") c4) := ok_read ⟨_, _, (He.glo_ok X G (c.t.d.fact 17 (f := .glo "read_scene") rfl)), F17⟩ T Z ML MR GRL M XT
  have Gmix : Fn P w K mg base CX0 1 "_law_mix" (spMix K) := ok_mix ⟨_, _, (He.glo_ok X G (c.t.d.fact 0 (f := .glo "_law_mix") rfl)), F0⟩ T
  have Gnext : Fn P w K mg base CX0 1 "_law_next" spNext := ok_next ⟨_, _, (He.glo_ok X G (c.t.d.fact 1 (f := .glo "_law_next") rfl)), F1⟩ T
  have Grule : Fn P w K mg base CX0 2 "_law_rule" spRule := ok_rule ⟨_, _, (He.glo_ok X G (c.t.d.fact 2 (f := .glo "_law_rule") rfl)), F2⟩ T Gnext
  have Gscene : Fn P w K mg base CX0 3 "_law_scene" spScene := ok_scene ⟨_, _, (He.glo_ok X G (c.t.d.fact 3 (f := .glo "_law_scene") rfl)), F3⟩ T Gnext Grule
  have Grows : Fn P w K mg base CX0 1 "_law_rows" spRows := ok_rows ⟨_, _, (He.glo_ok X G (c.t.d.fact 4 (f := .glo "_law_rows") rfl)), F4⟩ T
  have Gname : Fn P w K mg base CX0 1 "_law_name" spLName := ok_lname ⟨_, _, (He.glo_ok X G (c.t.d.fact 5 (f := .glo "_law_name") rfl)), F5⟩ T
  have Gbad : Fn P w K mg base CX0 2 "_law_bad" spLBad := ok_lbad ⟨_, _, (He.glo_ok X G (c.t.d.fact 6 (f := .glo "_law_bad") rfl)), F6⟩ T Gname
  have Gdue : Fn P w K mg base CX0 3 "_law_due" (spLDue K) := ok_ldue ⟨_, _, (He.glo_ok X G (c.t.d.fact 7 (f := .glo "_law_due") rfl)), F7⟩ T Gbad
  have Gspoil : Fn P w K mg base CX0 2 "_law_spoil" spSpoil := ok_spoil ⟨_, _, (He.glo_ok X G (c.t.d.fact 8 (f := .glo "_law_spoil") rfl)), F8⟩ T Gnext
  have xT : ExT15 K c4 (He.ga K "InvalidText") := ⟨(He.exm_ok (c.t.d.fact 63 (f := .exm "InvalidText" "InvalidText" true) rfl)), (He.exm_ok (c.t.d.fact 64 (f := .exm "InvalidThings" "InvalidText" false) rfl)), (He.exm_ok (c.t.d.fact 65 (f := .exm "InvalidValues" "InvalidText" false) rfl)), (He.exm_ok (c.t.d.fact 66 (f := .exm "InvalidWords" "InvalidText" false) rfl)), of_decide_eq_true m11, of_decide_eq_true m12, of_decide_eq_true m13⟩
  have Gtold : Fn P w K mg base CX0 7 "_law_told" (spTold K) := ok_told (C := He.ga K "Scene") (c := c4) ⟨_, _, (He.glo_ok X G (c.t.d.fact 9 (f := .glo "_law_told") rfl)), F9⟩ GRd ET.gl X1.gC X2.gC X4.gC xT ET.xf ET.no (ea_ok m9)
  have e := hfa.symm.trans (He.glo_ok X G (c.t.d.fact 10 (f := .glo "law") rfl))
  cases e
  exact ok_law F10 T Gmix Gnext Gscene Grows Gspoil Gtold Gdue
end HP

namespace HP
open PySem PySem.Spec PyProof.Rows L2
theorem run (w : World) : HandSHeadRun.RunEq R (PySem.W.view R.prog [37]) hk ob 12000 loose w :=
  PySem.W.byRow2 "special-get-raises" (P := fun w => HandSHeadRun.RunEq R (PySem.W.view R.prog [37]) hk ob 12000 loose w) (fun w os => by kernel_rfl) (fun w os => by kernel_rfl) w
end HP

open PySem PySem.W PySem.Calls PyProof.Rows
theorem PySem.Challenge.cw_handplaced_k15_whole_texts_refused_holds : PySem.Challenge.rw_handplaced_k15_whole_texts_refused.Holds := by
  w_on; o_law
  refine HandSHeadRun.head_any (r := OpenLaw.row PySem.Challenge.rw_handplaced_k15_whole_texts_refused) (q := view (OpenLaw.row PySem.Challenge.rw_handplaced_k15_whole_texts_refused).prog [37]) (H := HP.hk) (ob := HP.ob) (M := 12000) (loose := HP.loose) (d := HandSHeadRun.topDef (OpenLaw.row PySem.Challenge.rw_handplaced_k15_whole_texts_refused).prog 37) (kwd := []) HP.ob_eq
    (by kernel_rfl) (fun s => by kernel_rfl) HP.run (by kernel_rfl) (by kernel_rfl) (by kernel_rfl) (by rfl) (by first | assumption | decide +kernel) (by decide +kernel) ⟨rfl, rfl, rfl, rfl, rfl, by decide +kernel⟩ ?hw ?hc
  case hw => w_witness2
  case hc =>
    refine L2.walk_ofE (l := PySem.Challenge.rw_handplaced_k15_whole_texts_refused) (n := 63) (k := 8) (x := "_law_script") (CX := L2.CX0) rfl (by decide) (by kernel_rfl) ⟨rfl, by decide, by decide⟩ ?F (fun _ _ _ _ z => z)
    intro w mg fa h Y G hmg0
    obtain ⟨K, KX, c⟩ := Y
    have hmg : mg ("law" : PySem.Str) = some (.ref fa) := by
      have e : (HandSHeadRun.topDef (OpenLaw.row PySem.Challenge.rw_handplaced_k15_whole_texts_refused).prog 37).name = ("law" : PySem.Str) := by kernel_rfl
      rw [← e]
      exact hmg0
    obtain ⟨fd, hb, hF⟩ := HP.facts (P := (PySem.Challenge.rw_handplaced_k15_whole_texts_refused).prog) (w := w) KX G hmg c
    exact ⟨K, fd, HP.spLaw K, KX, hb, fun H a ns hl _ hS => ⟨a, ns, rfl, hS, hl, fun _ => rfl⟩, hF⟩
