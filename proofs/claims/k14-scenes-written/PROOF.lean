import PyProof.Rows.All
import Wide.All
import OpenK.AllK
import Wide.FinOn
import HandS.ForMost
import HandS.Set
import HandS.More
import HandS.IsInst
import HandS.Defaults
import HandS.Deep
import HandS.Walk
import HandS.Strs
import HandS.Exc
import HandS.ExcOwn
import HandS.ExcInit
import HandS.ExcField
import HandS.ExcIs
import HandS.TryOnly
import HandS.TryMany
import HandS.WordsExc
import HandS.Conv
import HandS.Iter
import HandS.DictComp
import HandS.Slots
import HandS.Star
import HandS.HeadHook1
import HandS.HeadHook2
import HandS.HeadHook3
import HandS.HeadHook4
import HandS.FStr
import HandS.Text
import KE.KDictSum
import HandS.SlotsOwn
import HandS.DictEq
import HandS.Style
import HandS.TupAny
import HandS.ListItems
import HandS.Finally
import PyProof.StrOps2
import HandS.HeadNt
import KE.KStateDown
import HandS.Ends
import HandS.Words
import HandS.Head0
import HandS.Head1
import HandS.Head2
import HandS.HeadEnd
import PySem.Challenge.RW_handplaced_k14_scenes_written
set_option Elab.async false
set_option linter.all false
set_option maxRecDepth 100000
set_option maxHeartbeats 4000000
/-! sets of ints and texts made of a list or a tuple: len, sorted -/
namespace SM
open PySem PySem.Spec PyProof.Rows L2
def mkey (v : Value) : Key := match v with
  | .int i _ => .inl i
  | .str x _ => .inr x
  | _ => .inl 0
theorem mkey_of {k : Key} {v : Value} (h : keyIs k v = true) : mkey v = k := by
  rcases keyIs_shape h with ⟨i, t, rfl, rfl⟩ | ⟨x, t, rfl, rfl⟩ <;> rfl
def ekey (e : Int × Value) : Key := mkey e.2
def GoodM (w : World) (e : Int × Value) : Prop := keyIs (ekey e) e.2 = true ∧ e.1 = keyH w (ekey e)
theorem is_scan {k : Key} {v : Value} (h : keyIs k v = true) : v.scannable = true := by
  rcases keyIs_shape h with ⟨i, t, rfl, rfl⟩ | ⟨x, t, rfl, rfl⟩ <;> rfl
/-- the set at a: its members ks, each once -/
def SetM (w : World) (h : Heap) (a : Addr) (ks : List Key) : Prop :=
  ∃ o es ep t, h.get? a = some o ∧ o.ExactSet ∧ o.data = .set es ep t ∧ (∀ e ∈ es.toList, GoodM w e) ∧ (es.toList.map ekey).Perm ks ∧ ks.Nodup ∧
    es.size < scanBound ∧ t.fits es.size = true ∧ Ris t.place.toList ∧ (w.params.followText "set-order" = true ∨ t.led = true)
section
variable {P : Program} {w : World} {h h' : Heap} {a : Addr} {ks : List Key}
theorem SetM.at (R : SetM w h a ks) (k : ∀ o, h.get? a = some o → h'.get? a = some o) : SetM w h' a ks := by
  obtain ⟨o, es, ep, t, ho, r⟩ := R
  exact ⟨o, es, ep, t, k o ho, r⟩
theorem good_elemsM {l : List (Int × Value)} (g : ∀ e ∈ l, GoodM w e) : ElemsOf (mixKind P w) l := fun e he => by
  obtain ⟨h1, h2⟩ := g e he
  exact ⟨⟨ekey e, h1, h2⟩, is_scan h1⟩
theorem good_memM {l : List (Int × Value)} (g : ∀ e ∈ l, GoodM w e) (k : Key) : k ∈ l.map ekey ↔ ∃ e ∈ l, (mixKind P w).is k e.2 = true := by
  rw [List.mem_map]
  constructor
  · rintro ⟨e, he, q⟩
    exact ⟨e, he, by rw [← q]; exact (g e he).1⟩
  · rintro ⟨e, he, q⟩
    exact ⟨e, he, mkey_of q⟩
end
section
variable {P : Program} {w : World} {A : Around} {E : Value → Shared → Prop} {s : Shared} {a : Addr} {ks : List Key}
theorem addM_tail {g : Bool → Sem Unit} (hg : ∀ (b : Bool) (s₁ : Shared) (Q' : Unit → Shared → Prop), Q' () s₁ → wpAny (model P w) A (g b) Q' E s₁)
    {o : Obj} {es : Array (Int × Value)} {ep : Nat} {t : SetTable} (ho : s.heap.get? a = some o) (hex : o.ExactSet) (hd : o.data = .set es ep t)
    {es1 : Array (Int × Value)} {t2 : SetTable} {ks' : List Key} (g1 : ∀ e ∈ es1.toList, GoodM w e) (m1 : (es1.toList.map ekey).Perm ks') (nd1 : ks'.Nodup)
    (hb1 : es1.size < scanBound) (hf2 : t2.fits es1.size = true) (hr : Ris t2.place.toList) (hl : w.params.followText "set-order" = true ∨ t2.led = true) {wasDummy : Bool} {R : Option Bool → Shared → Prop}
    (hR : ∀ h', Heap.SameBut a s.heap h' → SetM w h' a ks' → R (some true) { s with heap := h' }) :
    wpAny (model P w) A (do
        storeSet a es1 t2
        if (!wasDummy && t2.tooFull) = true then do
            g (relayAll t2 es1 (SetTable.grown es1.size)).2.2
            storeSet a (relayAll t2 es1 (SetTable.grown es1.size)).1 (relayAll t2 es1 (SetTable.grown es1.size)).2.1
            pure (some true)
          else pure (some true)) R E s := by
  refine wpAny_bind (wpAny_storeSet_of ho hd ?_ (fits_of_scanBound hb1))
  have ho1 := store_at (es' := es1) (t' := t2) ho hd
  have sb1 := Heap.SameBut.update s.heap a (Obj.putSet es1 t2)
  split
  · have pm := relayAll_perm t2 es1 (SetTable.grown es1.size)
    have hf3 := relayAll_fits t2 es1 (SetTable.grown es1.size)
    have hr3 := relayAll_ris t2 es1 (SetTable.grown es1.size)
    have hl3 := relayAll_led t2 es1 (SetTable.grown es1.size)
    generalize relayAll t2 es1 (SetTable.grown es1.size) = Z at pm hf3 hr3 hl3 ⊢
    obtain ⟨es2, t3, gave⟩ := Z
    dsimp only at pm hf3 hr3 hl3 ⊢
    have hsz : es2.size = es1.size := by rw [← Array.length_toList, pm.length_eq, Array.length_toList]
    have hb2 : es2.size < scanBound := by rw [hsz]; exact hb1
    refine wpAny_bind (hg _ _ _ ?_)
    refine wpAny_bind (wpAny_storeSet_of ho1 rfl ?_ (fits_of_scanBound hb2))
    have ho2 := store_at (es' := es2) (t' := t3) ho1 rfl
    refine wpAny_pure (hR _ (sb1.trans (Heap.SameBut.update _ a _)) ?_)
    exact ⟨_, es2, _, t3, ho2, hex, rfl, fun e he => g1 e (pm.mem_iff.mp he), (pm.map ekey).trans m1, nd1, hb2, hf3, hr3, hl.imp id fun z => by rw [hl3]; exact z⟩
  · exact wpAny_pure (hR _ sb1 ⟨_, es1, _, t2, ho1, hex, rfl, g1, m1, nd1, hb1, hf2, hr, hl⟩)
/-- the members behind one more -/
def hasK (ks : List Key) (k : Key) : Bool := ks.any fun j => decide (j = k)
theorem hasK_iff {ks : List Key} {k : Key} : hasK ks k = true ↔ k ∈ ks := by
  unfold hasK
  rw [List.any_eq_true]
  exact ⟨fun ⟨x, h, e⟩ => of_decide_eq_true e ▸ h, fun h => ⟨k, h, decide_eq_true rfl⟩⟩
def plus (ks : List Key) (k : Key) : List Key := if hasK ks k = true then ks else ks ++ [k]
theorem addM_hashed {k : Key} {v : Value} {Q : Bool → Shared → Prop} (hkey : keyIs k v = true) (R : SetM w s.heap a ks) (room : ks.length + 1 < scanBound)
    (hQ : ∀ h' b, Heap.SameBut a s.heap h' → SetM w h' a (plus ks k) → Q b { s with heap := h' }) :
    wpAny (model P w) A (setAddHashed a v ((mixKind P w).hash k)) Q E s := by
  obtain ⟨o, es, ep, t, ho, hex, hd, g, pk, nd, hb, hf, hr, hl⟩ := R
  have hsc : v.scannable = true := is_scan hkey
  have hel : ElemsOf (mixKind P w) es.toList := good_elemsM g
  have hn : es.size = ks.length := by rw [← pk.length_eq, List.length_map, Array.length_toList]
  unfold setAddHashed setAddHashedIn
  refine wpAny_holding (wpAny_bind (wpAny_setState_of ho hd hf ?_))
  dsimp only
  rw [byScan_of hsc hb hel]
  simp only [↓reduceIte]
  unfold setAddByScan
  refine wpAny_bind ?_
  refine wpAny_bind (wpAny_rule ?_)
  refine wpAny_bind (wpAny_setScan_of (knd := mixKind P w) hkey ho hd hf hel ?_)
  cases hfi : List.findIdx? (fun e => (mixKind P w).is k e.2) es.toList with
  | some j =>
    dsimp only
    obtain ⟨hj, pj, _⟩ := List.findIdx?_eq_some_iff_getElem.mp hfi
    have hSk : k ∈ ks := pk.mem_iff.mp ((good_memM (P := P) (w := w) g k).2 ⟨es.toList[j], List.getElem_mem hj, pj⟩)
    refine wpAny_pure (wpAny_pure ?_)
    refine hQ s.heap _ (Heap.SameBut.refl a s.heap) ?_
    unfold plus
    rw [if_pos (hasK_iff.mpr hSk)]
    exact ⟨o, es, ep, t, ho, hex, hd, g, pk, nd, hb, hf, hr, hl⟩
  | none =>
    dsimp only
    have hnk : k ∉ ks := fun z => by
      obtain ⟨e, he, q⟩ := (good_memM (P := P) (w := w) g k).1 (pk.mem_iff.mpr z)
      have c := List.findIdx?_eq_none_iff.mp hfi e he
      rw [q] at c
      cases c
    have hgw : ∀ (b : Bool) {s₁ : Shared} {Q' : Unit → Shared → Prop}, Q' () s₁ → wpAny (model P w) A (match b with | true => rule "set.scan.the-table-gave-way" | false => pure ()) Q' E s₁ :=
      fun b s₁ Q' q => by cases b <;> first | exact wpAny_pure q | exact wpAny_rule q
    have pm := layNew_perm t es ((mixKind P w).hash k) v
    have hf1 := layNew_fits t es ((mixKind P w).hash k) v
    have hr1 := layNew_ris t es ((mixKind P w).hash k) v hr
    have hl1 := layNew_led t es ((mixKind P w).hash k) v
    generalize layNew t es ((mixKind P w).hash k) v = Z at pm hf1 hr1 hl1 ⊢
    obtain ⟨es1, t1, wasDummy, gave⟩ := Z
    dsimp only at pm hf1 hr1 hl1 ⊢
    rw [Array.toList_push] at pm
    have pc : es1.toList.Perm (((mixKind P w).hash k, v) :: es.toList) := pm.trans (List.perm_append_singleton _ _)
    have ek : ekey ((mixKind P w).hash k, v) = k := mkey_of hkey
    have pk1 : (es1.toList.map ekey).Perm (plus ks k) := by
      refine (pc.map ekey).trans ?_
      rw [List.map_cons, ek]
      unfold plus
      rw [if_neg fun z => hnk (hasK_iff.mp z)]
      exact (pk.cons k).trans (List.perm_append_singleton _ _).symm
    have nd1 : (plus ks k).Nodup := by
      unfold plus
      rw [if_neg fun z => hnk (hasK_iff.mp z)]
      exact (List.perm_append_singleton k ks).nodup_iff.mpr (List.nodup_cons.mpr ⟨hnk, nd⟩)
    have g1 : ∀ e ∈ es1.toList, GoodM w e := fun e he => by
      rcases List.mem_cons.mp (pc.mem_iff.mp he) with z | z
      · rw [z]
        unfold GoodM
        rw [ek]
        exact ⟨hkey, rfl⟩
      · exact g e z
    have hsz : es1.size = ks.length + 1 := by rw [← Array.length_toList, pc.length_eq, List.length_cons, Array.length_toList, hn]
    have hb1 : es1.size < scanBound := by rw [hsz]; exact room
    have hled : w.params.followText "set-order" = true ∨ t1.led = true := hl.imp id fun z => by rw [hl1]; exact z
    have fin : ∀ h' b, Heap.SameBut a s.heap h' → SetM w h' a (plus ks k) → Q b { s with heap := h' } := fun h' b sb r => hQ h' b sb r
    refine wpAny_bind (hgw _ ?_)
    split
    · refine wpAny_bind ?_
      rw [hashByValue_scannable 8 hsc]
      refine wpAny_pure ?_
      refine addM_tail ?_ ho hex hd g1 pk1 nd1 hb1 ?_ ?_ ?_ ?_
      · intro b s₁ Q' q; cases b <;> first | exact wpAny_pure q | exact wpAny_rule q
      · first | (split <;> first | exact hf1 | exact SetTable.fits_plain_off hf1) | exact hf1
      · first | (split <;> exact hr1) | exact hr1
      · first | (split <;> exact hled) | exact hled
      · intro h' sb r; dsimp only; exact wpAny_pure (fin h' _ sb r)
    · refine wpAny_bind (wpAny_pure ?_)
      simp only [↓reduceIte]
      refine addM_tail ?_ ho hex hd g1 pk1 nd1 hb1 hf1 hr1 hled ?_
      · intro b s₁ Q' q; cases b <;> first | exact wpAny_pure q | exact wpAny_rule q
      · intro h' sb r; dsimp only; exact wpAny_pure (fin h' _ sb r)
theorem freshM {h : Heap} (w : World) : SetM w (h.push { cls := .type "set", dict := none, data := .set #[] 0 (.fresh 0 0 (!w.params.followText "set-order")) }) h.objs.size [] :=
  ⟨_, #[], 0, _, Heap.get?_push_size _ rfl, ⟨rfl, rfl, rfl⟩, rfl, (fun e he => by simp at he), (by simp), List.nodup_nil, (by decide), (by rfl), List.Pairwise.nil, by
    show _ ∨ (!w.params.followText "set-order") = true
    cases w.params.followText "set-order"
    · exact .inr rfl
    · exact .inl rfl⟩

/-- the members behind all of a row of keys -/
def ofKeys (ks : List Key) : List Key := ks.foldl plus []
theorem plus_len (ks : List Key) (k : Key) : (plus ks k).length ≤ ks.length + 1 := by
  unfold plus
  split
  · omega
  · rw [List.length_append, List.length_singleton]
    exact Nat.le_refl _
theorem ofKeys_len : ∀ (ks acc : List Key), (ks.foldl plus acc).length ≤ acc.length + ks.length
  | [], acc => Nat.le_refl _
  | k :: ks, acc => by
    have h1 := ofKeys_len ks (plus acc k)
    have h2 := plus_len acc k
    rw [List.foldl_cons, List.length_cons]
    omega
theorem take_snoc {α : Type} {l : List α} {i : Nat} {x : α} (h : l[i]? = some x) : l.take (i + 1) = l.take i ++ [x] := by
  rw [List.take_add_one, h]
  rfl
theorem ofKeys_step {ks : List Key} {i : Nat} {k : Key} (h : ks[i]? = some k) : ofKeys (ks.take (i + 1)) = plus (ofKeys (ks.take i)) k := by
  unfold ofKeys
  rw [take_snoc h, List.foldl_append]
  rfl
section
variable {prog : Program} {I : Addr} {fp wr : List Addr} {G : Array GenState → Array GenState → Prop} {n : Nat} {Pv : Nat → Value → Prop} {St : Nat → Shared → Prop} {R : Result → Shared → Prop}
theorem updM_loop (W : WalksS prog w A.in1 I fp wr G n Pv St) (S : Addr) (hSf : S ∉ fp) (ks : List Key) (hn : ks.length = n)
    (hval : ∀ i v, Pv i v → ∃ k, ks[i]? = some k ∧ keyIs k v = true) (hb : n + 1 < scanBound) :
    ∀ (m i : Nat) (s : Shared), n - i = m → i ≤ n → St i s → SetM w s.heap S (ofKeys (ks.take i)) →
      (∀ s', Moved (S :: wr) G s s' → SetM w s'.heap S (ofKeys ks) → R (.ok (.ret .none)) s') →
      codeAny (model prog w) A (.builtin "set.update.loop" ⟨[.ref S, .ref I], []⟩) R s := by
  have hSw : S ∉ wr := fun h => hSf (W.sub _ h)
  have hsub : ∀ b ∈ wr, b ∈ S :: wr := fun b hb => List.mem_cons_of_mem _ hb
  intro m
  induction m with
  | zero =>
    intro i s hk hi hst hS hR
    have hin : i = n := by omega
    subst hin
    rw [← hn, List.take_length] at hS
    refine codeAny_builtin PyProof.Rows.F.entry_set_update_loop ?_
    rw [Around.under_plainId PyProof.Rows.F.plain_set_update_loop _]
    show wpAny _ A.in1 (pyNext (.ref I) >>= _) _ _ s
    refine wpAny_bind (W.done s _ _ hst fun s' hm => ?_)
    show wpAny _ A.in1 (ret Value.none) _ _ s'
    exact wpAny_pure (hR s' (hm.mono hsub) (hS.at fun o ho => hm.heap S _ hSw ho))
  | succ m ih =>
    intro i s hk hi hst hS hR
    have hlt : i < n := by omega
    refine codeAny_builtin PyProof.Rows.F.entry_set_update_loop ?_
    rw [Around.under_plainId PyProof.Rows.F.plain_set_update_loop _]
    show wpAny _ A.in1 (pyNext (.ref I) >>= _) _ _ s
    refine wpAny_bind (W.item i s _ _ hlt hst fun v s' hP hst' hm => ?_)
    obtain ⟨k, hki, hkv⟩ := hval i v hP
    have hS' : SetM w s'.heap S (ofKeys (ks.take i)) := hS.at fun o ho => hm.heap S _ hSw ho
    show wpAny _ A.in1 (holding [v] (setAdd S v) >>= _) _ _ s'
    refine wpAny_bind (wpAny_holding ?_)
    unfold setAdd
    refine wpAny_holding ?_
    refine wpAny_bind ((mixKind prog w).pyHash (k := k) hkv ?_)
    have hroom : (ofKeys (ks.take i)).length + 1 < scanBound := by
      have h1 := ofKeys_len (ks.take i) []
      have h2 := List.length_take_le i ks
      have h3 : ([] : List Key).length = 0 := rfl
      unfold ofKeys
      omega
    refine addM_hashed (P := prog) (s := { s' with toks := s'.toks + 1 }) hkv hS' hroom fun h' bb hsb hS2 => ?_
    have hSi : SetM w h' S (ofKeys (ks.take (i + 1))) := by rw [ofKeys_step hki]; exact hS2
    refine wpAny_pure ⟨plainId_quiet PyProof.Rows.F.plain_set_update_loop _, ih (i + 1) _ (by omega) hlt (W.frame _ s' _ _ hst' (Nat.le_succ _) fun b hb o e => ?_) hSi fun s'' hm'' hS'' => ?_⟩
    · rw [hsb.2 b (fun h : b = S => hSf (by rw [← h]; exact hb))]; exact e
    · refine hR s'' (Moved.trans W.gtrans ((hm.mono hsub).then_heap (Nat.le_succ _) fun b o hb e => ?_) hm'') hS''
      rw [hsb.2 b (fun h : b = S => hb (by rw [h]; exact List.mem_cons_self))]; exact e
end
theorem new_led1 (v : Value) {Q₁ : Value → Shared → Prop}
    (h : Q₁ (.ref s.heap.objs.size) { s with heap := s.heap.push { cls := .type "set", dict := none, data := .set #[] 0 (.fresh 0 0 (!w.params.followText "set-order")) } }) :
    codeAny (model P w) A (.call (.builtin "set.__new__") ⟨[.type "set", v], []⟩) (wants Q₁ E) s := by
  refine codeAny_of_tree ?_
  show wpAny _ A.in1 (do checkBuiltinCall "set.__new__" ⟨[.type "set", v], []⟩; again (.builtin "set.__new__" ⟨[.type "set", v], []⟩)) _ _ s
  refine wpAny_bind (wpAny_of_eq (PySem.F.newCall_set_1 v) (wpAny_pure ⟨plainId_quiet F.plain_set_new _, codeAny_builtin F.entry_set_new ?_⟩))
  rw [Around.under_plainId F.plain_set_new _]
  unfold Builtin.«set.__new__» Builtin.Frozenset.newClass
  have hsub := sub_set_self
  obtain ⟨hp, g, d, tk, os⟩ := s
  dsimp only
  wp_walk
  refine wpAny_askSetting (wpAny_pure ?_)
  dsimp only
  simp only [newObj]
  refine wpAny_bind (wpAny_alloc (wpAny_pure ?_))
  exact wpAny_pure h

theorem sub_list_set : isSubtype (.type "list") (.type "set") = pure false := by rw [isSubtype_type]; kernel_rfl
theorem sub_list_frozenset : isSubtype (.type "list") (.type "frozenset") = pure false := by rw [isSubtype_type]; kernel_rfl
theorem call_setM_list {l : Addr} {items : Array Value} {ks : List Key} {Q : Value → Shared → Prop}
    (hh : A.handled = none) (hl : s.heap.IsList l items) (hks : ks.length = items.size) (hi : ∀ (i : Nat) v, items[i]? = some v → ∃ k, ks[i]? = some k ∧ keyIs k v = true) (hb : items.size + 1 < scanBound)
    (h : ∀ (h' : Heap) (tk : Nat), SetM w h' s.heap.objs.size (ofKeys ks) → (∀ b o, b < s.heap.objs.size → s.heap.get? b = some o → h'.get? b = some o) → Q (.ref s.heap.objs.size) { s with heap := h', toks := tk }) :
    wpAny (model P w) A (call (.type "set") [.ref l]) Q E s := by
  obtain ⟨c, tl, hmro⟩ := F.called_set.mro
  have hmade := F.called_set.made
  have hsub := F.called_set.sub
  refine wpAny_call (codeAny_of_tree ?_)
  show wpAny _ _ (callAny (.type "set") _) _ _ _
  refine wpAny_pure ⟨Code.quiet_builtin _ (by decide +kernel), codeAny_builtin F.entry_type_call ?_⟩
  rw [Around.under_plain (weight_type_call_type "set" [.ref l] []) rfl]
  have h1 := F.called_set.notType
  have h2 := F.called_set.canCreate
  have hct := PySem.F.typeCall_set_1 (.ref l)
  repeat (any_goals (first | assumption | wp_step))
  refine codeAny_mono (new_led1 (.ref l) (E := E) (Q₁ := fun obj s₁ => obj = .ref s.heap.objs.size ∧ s₁ = { s with heap := s.heap.push { cls := .type "set", dict := none, data := .set #[] 0 (.fresh 0 0 (!w.params.followText "set-order")) } }) ⟨rfl, rfl⟩) fun r s₁ hr => ?_
  cases r with
  | error e => exact hr
  | ok fl =>
    cases fl with
    | ret obj =>
      obtain ⟨rfl, rfl⟩ := hr
      have hM := freshM (h := s.heap) w
      have hS : (s.heap.push { cls := .type "set", dict := none, data := .set #[] 0 (.fresh 0 0 (!w.params.followText "set-order")) }).get? s.heap.objs.size = some { cls := .type "set", dict := none, data := .set #[] 0 (.fresh 0 0 (!w.params.followText "set-order")) } := Heap.get?_push_size _ rfl
      have hT : Shared.TypeIs { s with heap := s.heap.push { cls := .type "set", dict := none, data := .set #[] 0 (.fresh 0 0 (!w.params.followText "set-order")) } } (.ref s.heap.objs.size) "set" := ⟨_, hS, rfl⟩
      have hli := F.called_set.init.lookup
      have hbi := F.called_set.init.bind (.ref s.heap.objs.size)
      repeat (any_goals (first | assumption | wp_step))
      refine codeAny_mono (codeAny_call_builtin (R := wants (fun r s₂ => r = .none ∧ ∃ h' tk, s₂ = { s with heap := h', toks := tk } ∧ SetM w h' s.heap.objs.size (ofKeys ks) ∧
          (∀ b o, b < s.heap.objs.size → s.heap.get? b = some o → h'.get? b = some o)) E) F.called_set.init.plain F.entry_set_init (check_set_init_1 hT ?_)) fun r₂ s₂ hr₂ => ?_
      · obtain ⟨ol, hol, hcl, nl, hdl⟩ := hl
        obtain ⟨ocls, odict, odata, oslots⟩ := ol
        simp only at hcl hdl
        subst hcl; subst hdl
        have hol' : (s.heap.push { cls := .type "set", dict := none, data := .set #[] 0 (.fresh 0 0 (!w.params.followText "set-order")) }).get? l = some { cls := .type "list", dict := odict, data := .seq items nl, slots := oslots } := Heap.get?_push_of_some _ hol
        have hsls := sub_list_set
        have hslf := sub_list_frozenset
        have hne : (Value.type "list" == Value.type "dict") = false := by decide
        have hl1 : (s.heap.push { cls := .type "set", dict := none, data := .set #[] 0 (.fresh 0 0 (!w.params.followText "set-order")) }).IsList l items := ⟨_, hol', rfl, nl, rfl⟩
        unfold Builtin.«set.__init__» noKeywords Builtin.Frozenset.updateFrom
        generalize hPI : pyIter = PI
        wp_walk
        subst hPI
        refine wpAny_pyIter_list hl1 ?_
        refine wpAny_bind (wpAny_runValue ?_)
        have hlS : l < s.heap.objs.size := Heap.lt_size hol
        have hh3 : A.in1.in1.in1.handled = none := by simp [hh]
        have hneI : l ≠ (s.heap.push { cls := .type "set", dict := none, data := .set #[] 0 (.fresh 0 0 (!w.params.followText "set-order")) }).objs.size := by
          rw [Heap.size_push]; exact Nat.ne_of_lt (Nat.lt_succ_of_lt hlS)
        have hSf : s.heap.objs.size ∉ [(s.heap.push { cls := .type "set", dict := none, data := .set #[] 0 (.fresh 0 0 (!w.params.followText "set-order")) }).objs.size, l] := by
          rw [Heap.size_push]; simp only [List.mem_cons, List.mem_singleton, List.not_mem_nil, or_false, not_or]
          exact ⟨Nat.ne_of_lt (Nat.lt_succ_self _), Nat.ne_of_gt hlS⟩
        refine updM_loop ((Walks.list hh3 _ l hneI items).toS) s.heap.objs.size hSf ks hks hi hb (items.size - 0) 0 _ (by omega) (Nat.zero_le _)
          ⟨⟨_, Heap.get?_push_size _ rfl, rfl, rfl⟩, (hl1.push _)⟩ ?hS0 ?hR
        case hS0 => exact hM.at fun o e => Heap.get?_push_of_some _ e
        case hR =>
          intro s' hm hS'
          obtain ⟨h', g', d', tk', os'⟩ := s'
          have eg : g' = s.gens := hm.gens
          have ed : d' = s.drawn := hm.drawn
          have eo : os' = s.os := hm.os
          subst eg; subst ed; subst eo
          show wpAny _ _ _ _ _ _
          refine wpAny_pure ?_
          show wpAny _ _ (ret Value.none) _ _ _
          refine wpAny_pure ⟨rfl, h', tk', rfl, hS', fun b o hb e => ?_⟩
          have hb1 : b ≠ s.heap.objs.size := Nat.ne_of_lt hb
          have hb2 : b ≠ (s.heap.push { cls := .type "set", dict := none, data := .set #[] 0 (.fresh 0 0 (!w.params.followText "set-order")) }).objs.size := by
            rw [Heap.size_push]; exact Nat.ne_of_lt (Nat.lt_succ_of_lt hb)
          exact hm.heap b o (by simp only [List.mem_cons, List.mem_singleton, List.not_mem_nil, or_false, not_or]; exact ⟨hb1, hb2⟩) (Heap.get?_push_of_some _ (Heap.get?_push_of_some _ e))
      · cases r₂ with
        | error e => exact hr₂
        | ok fl₂ =>
          cases fl₂ with
          | ret r =>
            obtain ⟨rfl, h', tk, rfl, hS', hk'⟩ := hr₂
            repeat (any_goals (first | assumption | wp_step))
            exact h _ _ hS' hk'
          | _ => exact hr₂.elim
    | _ => exact hr.elim

theorem sub_tuple_set : isSubtype (.type "tuple") (.type "set") = pure false := by rw [isSubtype_type]; kernel_rfl
theorem sub_tuple_frozenset : isSubtype (.type "tuple") (.type "frozenset") = pure false := by rw [isSubtype_type]; kernel_rfl
theorem call_setM_tuple {l : Addr} {items : Array Value} {ks : List Key} {Q : Value → Shared → Prop}
    (hh : A.handled = none) (hl : s.heap.IsTuple l items) (hks : ks.length = items.size) (hi : ∀ (i : Nat) v, items[i]? = some v → ∃ k, ks[i]? = some k ∧ keyIs k v = true) (hb : items.size + 1 < scanBound)
    (h : ∀ (h' : Heap) (tk : Nat), SetM w h' s.heap.objs.size (ofKeys ks) → (∀ b o, b < s.heap.objs.size → s.heap.get? b = some o → h'.get? b = some o) → Q (.ref s.heap.objs.size) { s with heap := h', toks := tk }) :
    wpAny (model P w) A (call (.type "set") [.ref l]) Q E s := by
  obtain ⟨c, tl, hmro⟩ := F.called_set.mro
  have hmade := F.called_set.made
  have hsub := F.called_set.sub
  refine wpAny_call (codeAny_of_tree ?_)
  show wpAny _ _ (callAny (.type "set") _) _ _ _
  refine wpAny_pure ⟨Code.quiet_builtin _ (by decide +kernel), codeAny_builtin F.entry_type_call ?_⟩
  rw [Around.under_plain (weight_type_call_type "set" [.ref l] []) rfl]
  have h1 := F.called_set.notType
  have h2 := F.called_set.canCreate
  have hct := PySem.F.typeCall_set_1 (.ref l)
  repeat (any_goals (first | assumption | wp_step))
  refine codeAny_mono (new_led1 (.ref l) (E := E) (Q₁ := fun obj s₁ => obj = .ref s.heap.objs.size ∧ s₁ = { s with heap := s.heap.push { cls := .type "set", dict := none, data := .set #[] 0 (.fresh 0 0 (!w.params.followText "set-order")) } }) ⟨rfl, rfl⟩) fun r s₁ hr => ?_
  cases r with
  | error e => exact hr
  | ok fl =>
    cases fl with
    | ret obj =>
      obtain ⟨rfl, rfl⟩ := hr
      have hM := freshM (h := s.heap) w
      have hS : (s.heap.push { cls := .type "set", dict := none, data := .set #[] 0 (.fresh 0 0 (!w.params.followText "set-order")) }).get? s.heap.objs.size = some { cls := .type "set", dict := none, data := .set #[] 0 (.fresh 0 0 (!w.params.followText "set-order")) } := Heap.get?_push_size _ rfl
      have hT : Shared.TypeIs { s with heap := s.heap.push { cls := .type "set", dict := none, data := .set #[] 0 (.fresh 0 0 (!w.params.followText "set-order")) } } (.ref s.heap.objs.size) "set" := ⟨_, hS, rfl⟩
      have hli := F.called_set.init.lookup
      have hbi := F.called_set.init.bind (.ref s.heap.objs.size)
      repeat (any_goals (first | assumption | wp_step))
      refine codeAny_mono (codeAny_call_builtin (R := wants (fun r s₂ => r = .none ∧ ∃ h' tk, s₂ = { s with heap := h', toks := tk } ∧ SetM w h' s.heap.objs.size (ofKeys ks) ∧
          (∀ b o, b < s.heap.objs.size → s.heap.get? b = some o → h'.get? b = some o)) E) F.called_set.init.plain F.entry_set_init (check_set_init_1 hT ?_)) fun r₂ s₂ hr₂ => ?_
      · obtain ⟨ol, hol, hcl, nl, hdl⟩ := hl
        obtain ⟨ocls, odict, odata, oslots⟩ := ol
        simp only at hcl hdl
        subst hcl; subst hdl
        have hol' : (s.heap.push { cls := .type "set", dict := none, data := .set #[] 0 (.fresh 0 0 (!w.params.followText "set-order")) }).get? l = some { cls := .type "tuple", dict := odict, data := .seq items nl, slots := oslots } := Heap.get?_push_of_some _ hol
        have hsls := sub_tuple_set
        have hslf := sub_tuple_frozenset
        have hne : (Value.type "tuple" == Value.type "dict") = false := by decide
        have hl1 : (s.heap.push { cls := .type "set", dict := none, data := .set #[] 0 (.fresh 0 0 (!w.params.followText "set-order")) }).IsTuple l items := ⟨_, hol', rfl, nl, rfl⟩
        unfold Builtin.«set.__init__» noKeywords Builtin.Frozenset.updateFrom
        generalize hPI : pyIter = PI
        wp_walk
        subst hPI
        refine wpAny_pyIter_tuple hl1 ?_
        refine wpAny_bind (wpAny_runValue ?_)
        have hlS : l < s.heap.objs.size := Heap.lt_size hol
        have hh3 : A.in1.in1.in1.handled = none := by simp [hh]
        have hneI : l ≠ (s.heap.push { cls := .type "set", dict := none, data := .set #[] 0 (.fresh 0 0 (!w.params.followText "set-order")) }).objs.size := by
          rw [Heap.size_push]; exact Nat.ne_of_lt (Nat.lt_succ_of_lt hlS)
        have hSf : s.heap.objs.size ∉ [(s.heap.push { cls := .type "set", dict := none, data := .set #[] 0 (.fresh 0 0 (!w.params.followText "set-order")) }).objs.size, l] := by
          rw [Heap.size_push]; simp only [List.mem_cons, List.mem_singleton, List.not_mem_nil, or_false, not_or]
          exact ⟨Nat.ne_of_lt (Nat.lt_succ_self _), Nat.ne_of_gt hlS⟩
        refine updM_loop ((Walks.tuple hh3 _ l hneI items).toS) s.heap.objs.size hSf ks hks hi hb (items.size - 0) 0 _ (by omega) (Nat.zero_le _)
          ⟨⟨_, Heap.get?_push_size _ rfl, rfl, rfl⟩, (hl1.push _)⟩ ?hS0 ?hR
        case hS0 => exact hM.at fun o e => Heap.get?_push_of_some _ e
        case hR =>
          intro s' hm hS'
          obtain ⟨h', g', d', tk', os'⟩ := s'
          have eg : g' = s.gens := hm.gens
          have ed : d' = s.drawn := hm.drawn
          have eo : os' = s.os := hm.os
          subst eg; subst ed; subst eo
          show wpAny _ _ _ _ _ _
          refine wpAny_pure ?_
          show wpAny _ _ (ret Value.none) _ _ _
          refine wpAny_pure ⟨rfl, h', tk', rfl, hS', fun b o hb e => ?_⟩
          have hb1 : b ≠ s.heap.objs.size := Nat.ne_of_lt hb
          have hb2 : b ≠ (s.heap.push { cls := .type "set", dict := none, data := .set #[] 0 (.fresh 0 0 (!w.params.followText "set-order")) }).objs.size := by
            rw [Heap.size_push]; exact Nat.ne_of_lt (Nat.lt_succ_of_lt hb)
          exact hm.heap b o (by simp only [List.mem_cons, List.mem_singleton, List.not_mem_nil, or_false, not_or]; exact ⟨hb1, hb2⟩) (Heap.get?_push_of_some _ (Heap.get?_push_of_some _ e))
      · cases r₂ with
        | error e => exact hr₂
        | ok fl₂ =>
          cases fl₂ with
          | ret r =>
            obtain ⟨rfl, h', tk, rfl, hS', hk'⟩ := hr₂
            repeat (any_goals (first | assumption | wp_step))
            exact h _ _ hS' hk'
          | _ => exact hr₂.elim
    | _ => exact hr.elim
end
/-! ### over the layer -/
def SetMO (w : World) (a : Addr) (ks : List Key) : HO := .ext fun h => SetM w h a ks
section
variable {X : Cx}
theorem setMO_new {w : World} {P : Program} {H : Hp} {h : Heap} {a : Addr} {ks : List Key} (R : SetM w h a ks) : ObjOk P w H h a (SetMO w a ks) := by
  have ⟨o, _, _, _, ho, _⟩ := R
  exact ⟨R, ⟨o, ho⟩, fun h1 h2 p k => SetM.at p k⟩
theorem setMO_get {pins : List (Addr × Obj)} {σ : L2.St} {H : Hp} {s : Shared} {a : Addr} {ks : List Key} (I : Inv X pins σ H s) (ha : H a = some (SetMO X.w a ks)) : SetM X.w s.heap a ks := (I.hok a _ ha).1
theorem vals_key {ks : List Key} {us : List Value} (r : Vals (ks.map kV) us) : ∀ (i : Nat) v, us[i]? = some v → ∃ k, ks[i]? = some k ∧ keyIs k v = true := fun i v hv => by
  have hl := r.length
  rw [List.length_map] at hl
  have hi : i < us.length := (List.getElem?_eq_some_iff.mp hv).1
  have hk : ks[i]? = some ks[i] := List.getElem?_eq_getElem (by omega)
  obtain ⟨u, e, q⟩ := r.get (i := i) (x := kV ks[i]) (by rw [List.getElem?_map, hk]; rfl)
  rw [hv] at e
  cases e
  refine ⟨ks[i], hk, ?_⟩
  cases h : ks[i] with
  | inl j =>
    rw [h] at q
    obtain ⟨t, rfl⟩ := q
    exact keyIs_int j t
  | inr x =>
    rw [h] at q
    obtain ⟨t, rfl⟩ := q
    exact keyIs_str x t
/-- set(xs) of a list or tuple of ints and texts -/
def rSetM (K : PySem.W.Frag) (w : World) : List V → Hp → VK → Prop := fun xs H Q => ∃ (l : Addr) (ks : List Key), xs = [.ref l] ∧ (SqL K H l (ks.map kV) ∨ SqT K H l (ks.map kV)) ∧ ks.length ≤ 4000 ∧
  ∀ p, H p = none → Q (.ref p) (upd H p (SetMO w p (ofKeys ks)))
theorem cr_setM (hc : X.calm = true) : CallR X (.type "set") (rSetM X.K X.w) := by
  intro pins s σ H xs us Q I r h
  obtain ⟨l, ks, rfl, hl, hz, q⟩ := h
  cases r with
  | cons r1 r2 =>
    cases r2
    cases r1
    rcases hl with hl | hl
    · obtain ⟨its, rv, pl, hz2⟩ := I.list hl
      have hlen : its.length = ks.length := by
        have := rv.length
        rw [List.length_map] at this
        exact this.symm
      have hsb : scanBound = 4096 := rfl
      refine call_setM_list (P := X.prog) (w := X.w) (ks := ks) (I.ok.hd hc) pl.isList (by rw [List.size_toArray, hlen]) (fun i v hv => vals_key rv i v (by simpa using hv)) (by rw [List.size_toArray, hlen]; omega) fun h' tk hS hk => ?_
      exact ⟨.ref _, _, I.laid (t' := tk) (fun b u e => hk b u (Heap.lt_size e) e) (Nat.le_refl _) (setMO_new hS), rfl, q _ (I.hok.fresh (Nat.le_refl _))⟩
    · obtain ⟨its, rv, pl, hz2⟩ := I.tuple hl
      have hlen : its.length = ks.length := by
        have := rv.length
        rw [List.length_map] at this
        exact this.symm
      have hsb : scanBound = 4096 := rfl
      refine call_setM_tuple (P := X.prog) (w := X.w) (ks := ks) (I.ok.hd hc) pl (by rw [List.size_toArray, hlen]) (fun i v hv => vals_key rv i v (by simpa using hv)) (by rw [List.size_toArray, hlen]; omega) fun h' tk hS hk => ?_
      exact ⟨.ref _, _, I.laid (t' := tk) (fun b u e => hk b u (Heap.lt_size e) e) (Nat.le_refl _) (setMO_new hS), rfl, q _ (I.hok.fresh (Nat.le_refl _))⟩
/-- len(set) -/
def rLenM (w : World) : List V → Hp → VK → Prop := fun xs H Q => ∃ (a : Addr) (ks : List Key), xs = [.ref a] ∧ H a = some (SetMO w a ks) ∧ Q (.int ks.length) H
theorem cr_lenM : CallR X (.builtin "len") (rLenM X.w) := by
  intro pins s σ H xs us Q I r h
  obtain ⟨a, ks, rfl, ha, q⟩ := h
  cases r with
  | cons r1 r2 =>
    cases r2
    cases r1
    obtain ⟨o, es, ep, t, ho, hex, hd, g, pk, nd, hb, hf, hr, hl⟩ := setMO_get I ha
    have hn : es.size = ks.length := by rw [← pk.length_eq, List.length_map, Array.length_toList]
    exact call_len_set ho hex hd hf (by unfold scanBound at hb; omega) ⟨.int ks.length, H, I.tok _, ⟨_, by rw [hn]⟩, q⟩
/-- sorted(set) of texts -/
def rSortedM (w : World) : List V → Hp → VK → Prop := fun vs H Q => ∃ (a : Addr) (xs : List Str), vs = [V.ref a] ∧ H a = some (SetMO w a (xs.map Sum.inr)) ∧ xs.length < 64 ∧
  ∀ (ys : List Str) (p : Addr), ys.Perm xs → sortedS ys = true → H p = none → Q (.ref p) (upd H p (.lst (ys.map V.str)))
theorem cr_sortedM (hc : X.calm = true) : CallR X (.builtin "sorted") (rSortedM X.w) := by
  intro pins s σ H vs us Q I r h
  obtain ⟨a, xs, rfl, ha, h64, q⟩ := h
  obtain ⟨o, es, ep, t, ho, hex, hd, g, pk, nd, hb, hf, hr, hl⟩ := setMO_get I ha
  rw [Vals.ref1 r]
  have hn : es.size = xs.length := by rw [← List.length_map (as := xs) Sum.inr, ← pk.length_eq, List.length_map, Array.length_toList]
  refine Calls.call_function_entry kind_sorted plain_sorted entry_sorted (args_sorted1 _) ?_
  unfold Builtin.«sorted»
  refine wpAny_bind (m := checkCount "sorted" 1 1 _) (wpAny_pure ?_)
  refine wpAny_bind (collect_set (A := X.A.in1) (I.ok.hd hc) ⟨o, ho, hex.1, hd⟩ hf hb hr hl fun s1 vs k1 hz g1 o1 pm => ?_)
  have hvl : vs.length = xs.length := by rw [pm.length_eq, List.length_map, Array.length_toList]; exact hn
  have hkeys : (vs.map mkey).Perm (xs.map Sum.inr) := by
    have z := pm.map mkey
    rw [List.map_map] at z
    exact z.trans pk
  obtain ⟨zs, hS, hzs⟩ : ∃ zs : List Str, StrsAre vs zs ∧ zs.Perm xs := by
    have all : ∀ v ∈ vs, ∃ x t, v = Value.str x t ∧ x ∈ xs := fun v hv => by
      obtain ⟨e, he, rfl⟩ := List.mem_map.mp (pm.mem_iff.mp hv)
      have ge := (g e he).1
      have hm : ekey e ∈ xs.map (Sum.inr : Str → Key) := pk.mem_iff.mp (List.mem_map_of_mem he)
      obtain ⟨x, hx, ex⟩ := List.mem_map.mp hm
      rw [← ex] at ge
      rcases keyIs_shape ge with ⟨i, t, z, _⟩ | ⟨y, t, z, e2⟩
      · cases z
      · cases z
        exact ⟨x, t, e2, hx⟩
    have mk : ∀ (l : List Value), (∀ v ∈ l, ∃ x t, v = Value.str x t ∧ x ∈ xs) → ∃ zs : List Str, StrsAre l zs ∧ l.map mkey = zs.map Sum.inr := by
      intro l
      induction l with
      | nil => intro _; exact ⟨[], .nil, rfl⟩
      | cons v l ih =>
        intro hv
        obtain ⟨x, t, rfl, _⟩ := hv v List.mem_cons_self
        obtain ⟨zs, h1, h2⟩ := ih fun u hu => hv u (List.mem_cons_of_mem _ hu)
        exact ⟨x :: zs, .cons x t h1, by rw [List.map_cons, List.map_cons, h2]; rfl⟩
    obtain ⟨zs, h1, h2⟩ := mk vs all
    refine ⟨zs, h1, ?_⟩
    rw [h2] at hkeys
    have z := hkeys.map (fun k : Key => match k with | .inr x => x | .inl _ => Str.empty)
    rw [List.map_map, List.map_map] at z
    have e1 : ∀ l : List Str, l.map ((fun k : Key => match k with | .inr x => x | .inl _ => Str.empty) ∘ Sum.inr) = l := fun l => by
      induction l with
      | nil => rfl
      | cons x l ih => rw [List.map_cons, ih]; rfl
    rw [e1, e1] at z
    exact z
  refine wpAny_bind (wpAny_newList ?_ (by rw [hvl, sizeLine_eq]; omega))
  have hoL : (s1.heap.push (seqObj "list" vs.toArray 0)).get? s1.heap.objs.size = some (seqObj "list" vs.toArray 0) := Heap.get?_push_size _ rfl
  refine wpAny_bind (wpAny_holding (wpAny_call_entry slot_list_sort ⟨_, hoL, rfl⟩ entry_list_sort (list_sort_treeK strKind_oneLt hoL hS.keysOf (fun v₁ v₂ rest e => keyKind_strs (by rw [← e]; exact hS)) (by rw [hvl]; exact h64) fun st' hp hs => ⟨_, rfl, ?_⟩) (args_list_sort _)))
  obtain ⟨ys, a1, a2, a3⟩ := sorted_out_str hS hp hs
  obtain ⟨c, hcc⟩ := sortedHeap_at (vs := vs) (out := (arrOf st').map (·.2)) hoL
  have kk : ∀ b u, s.heap.get? b = some u → (sortedHeap (s1.heap.push (seqObj "list" vs.toArray 0)) s1.heap.objs.size vs ((arrOf st').map (·.2))).get? b = some u := fun b u e => by
    have q := k1 b u e
    have hlt := Heap.lt_size q
    rw [sortedHeap_old (Nat.ne_of_lt hlt) (by rw [size_push']; exact Nat.lt_succ_of_lt hlt)]
    exact Heap.get?_push_of_some _ q
  have hlen : (ys.map V.str).length ≤ sizeLine := by rw [List.length_map, a2.length_eq, hzs.length_eq, sizeLine_eq]; omega
  have hn0 : H s1.heap.objs.size = none := I.hok.fresh hz
  refine wpAny_pure ⟨_, rfl, ?_⟩
  have J : Inv X pins σ (upd H s1.heap.objs.size (.lst (ys.map V.str))) { s with heap := sortedHeap (s1.heap.push (seqObj "list" vs.toArray 0)) s1.heap.objs.size vs ((arrOf st').map (·.2)), gens := s1.gens, drawn := s1.drawn, toks := s1.toks } :=
    I.call (ch := []) (Un.laid kk hz hn0) (I.hok.laid kk hz ⟨hlen, ((arrOf st').map (·.2)).toList, c, vals_of_strs a1, by rw [Array.toArray_toList]; exact hcc⟩) (by rw [g1]; exact I.bare) (fun _ z => nomatch z)
  have e : ({ s1 with heap := sortedHeap (s1.heap.push (seqObj "list" vs.toArray 0)) s1.heap.objs.size vs ((arrOf st').map (·.2)) } : Shared) = { s with heap := sortedHeap (s1.heap.push (seqObj "list" vs.toArray 0)) s1.heap.objs.size vs ((arrOf st').map (·.2)), gens := s1.gens, drawn := s1.drawn, toks := s1.toks } := by
    cases s1
    cases s
    cases o1
    rfl
  refine ⟨.ref s1.heap.objs.size, _, ?_, rfl, q ys s1.heap.objs.size (a2.trans hzs) a3 hn0⟩
  rw [← e] at J
  exact J
end
end SM

namespace HP
open PySem PySem.Spec PyProof.Rows L2
def top (i : Nat) : Stmt := (PySem.Challenge.pw_handplaced_k14_scenes_written).main.body.getD i (.Pass ⟨0, 0, 0, 0⟩)
/-! ### names that stand for built-ins; defs by their names -/
def frees : List Str := ["int", "list", "len", "max", "min", "isinstance", "sorted", "all", "any", "tuple", "set", "str", "bool", "dict", "range", "zip", "enumerate", "ValueError", "super"]
structure Fr (mg : Str → Option Value) : Prop where
  fr : ∀ x, frees.contains x = true → mg x = none
/-- the def x of the text, as the top has left it -/
def Dat (K : PySem.W.Frag) (mg : Str → Option Value) (x : Str) (st : Stmt) : Prop := ∃ (f : Addr) (fd : FuncData), mg x = some (.ref f) ∧ FunD K x x (defArgs st) (defBody st) (defScope st) [] [] f fd
/-- the def x keeps the promise sp -/
def Fn (P : Program) (w : World) (K : PySem.W.Frag) (mg : Str → Option Value) (base : Heap) (CX : CXT) (k : Nat) (x : Str) (sp : Sp) : Prop :=
  ∃ (f : Addr) (fd : FuncData) (ps : List Str), mg x = some (.ref f) ∧ PySem.W.keepIn K (.ref f) = true ∧ Binds K fd ps [] ∧ FnOk P w K mg base CX k f fd ps sp
section
variable {P : Program} {w : World} {K : PySem.W.Frag} {mg : Str → Option Value} {base : Heap}
theorem Fn.of {CX : CXT} {x : Str} {st : Stmt} {N ps : List Str} {k : Nat} {sp : Sp} (D : Dat K mg x st) (S : FnScope N ps (defScope st))
    (hb : ∀ (kV doc pm : Value) (an : Option Addr) (cdv ct : Value) (us : List Value), us.length = ps.length → bindArgs (PySem.W.fnOf x x (defArgs st) (defBody st) (defScope st) .none kV doc pm an cdv ct) ⟨us, []⟩ = pure (ps.zip us))
    (len : ∀ vs H Q E, sp vs H Q E → vs.length = ps.length)
    (hbody : ∀ (f : Addr) (cdv : Value) (A : Around) (outer : List Env) (s : Shared) (H : Hp) (vs : List V) (Q : VK) (E : XK), Room k (A.deeper (envOfC x (defScope st) s.heap.objs.size f cdv)) → sp vs H Q E →
      ∃ t, PSs (cxOf CX P w K mg base N x (defScope st) f cdv A outer s H E) (defBody st) t ∧ t { nx := fun _ H' => Q .non H', rt := Q } (start N vs) H) : Fn P w K mg base CX (k + 1) x sp := by
  obtain ⟨f, fd, h1, F⟩ := D
  exact ⟨f, fd, ps, h1, F.kp, F.bindsN hb, F.ok S len fun cdv A outer s H vs Q E hr h => hbody f cdv A outer s H vs Q E hr h⟩
theorem Fn.of0 {x : Str} {st : Stmt} {N ps : List Str} {k : Nat} {sp : Sp} (D : Dat K mg x st) (S : FnScope N ps (defScope st))
    (hb : ∀ (kV doc pm : Value) (an : Option Addr) (cdv ct : Value) (us : List Value), us.length = ps.length → bindArgs (PySem.W.fnOf x x (defArgs st) (defBody st) (defScope st) .none kV doc pm an cdv ct) ⟨us, []⟩ = pure (ps.zip us))
    (len : ∀ vs H Q E, sp vs H Q E → vs.length = ps.length)
    (hbody : ∀ (f : Addr) (cdv : Value) (A : Around) (outer : List Env) (s : Shared) (H : Hp) (vs : List V) (Q : VK) (E : XK), Room k (A.deeper (envOfC x (defScope st) s.heap.objs.size f cdv)) → sp vs H Q E →
      ∃ t, PSs (cxOf CX0 P w K mg base N x (defScope st) f cdv A outer s H E).nox (defBody st) t ∧ t { nx := fun _ H' => Q .non H', rt := Q } (start N vs) H) : Fn P w K mg base CX0 (k + 1) x sp :=
  Fn.of D S hb len fun f cdv A outer s H vs Q E hr h => let ⟨t, a, b⟩ := hbody f cdv A outer s H vs Q E hr h; ⟨t, a.nox, b⟩
end
section
variable {X : Cx} {CX : CXT} {k j : Nat} {x : Str} {sp : Sp} {e : Expr} {es : List Expr} {t : TA} {p pos : Pos} {E : XK}
/-- f(e, ..) by f's promise -/
theorem pfX (F : Fn X.prog X.w X.K X.mg X.base CX k x sp) (hr : Room k X.A) (hx : Passes CX X E) (ha : PA X (e :: es) t) (hg : Gl X x := by rfl) (hdb : (x == ("__debug__" : Str)) = false := by decide)
    (he : starEach (e :: es) X.env = (false, eval e X.env) :: starEach es X.env := by rfl) (hpl : (backTo pos (starEach es X.env)).any (·.1) = false := by rfl) : PE X (.Call (.Name x p) (e :: es) [] pos) (tCall sp [] E t) := by
  obtain ⟨f, fd, ps, h1, h2, h3, h4⟩ := F
  exact pe_call h4 hr hg h1 h2 h3 .nil hx ha hdb he hpl
theorem pf (F : Fn X.prog X.w X.K X.mg X.base CX0 k x sp) (hr : Room j X.A) (hkj : k ≤ j) (ha : PA X (e :: es) t) (hg : Gl X x := by rfl) (hdb : (x == ("__debug__" : Str)) = false := by decide)
    (he : starEach (e :: es) X.env = (false, eval e X.env) :: starEach es X.env := by rfl) (hpl : (backTo pos (starEach es X.env)).any (·.1) = false := by rfl) : PE X (.Call (.Name x p) (e :: es) [] pos) (tCall sp [] E0 t) :=
  pfX F (hr.mono hkj) pass0 ha hg hdb he hpl
end
end HP

namespace HP
open PySem PySem.Spec PyProof.Rows L2
/-! ### the layer's rules with K named (for blocks of comprehensions) -/
section
variable {X : Cx} {K : PySem.W.Frag} {w : World} {tg : Expr} {l e : Expr} {tl ta to : TE} {t : TA} {f : Str} {pos : Pos}
def rLenQ (K : PySem.W.Frag) : List V → Hp → VK → Prop := fun xs H Q => ∃ p ys, xs = [.ref p] ∧ (SqL K H p ys ∨ SqT K H p ys) ∧ Q (.int ys.length) H
theorem kLen (hK : X.K = K := by rfl) : CallR X (.builtin "len") (rLenQ K) := by subst hK; exact call_len_seq
def rLenV (K : PySem.W.Frag) : List V → Hp → VK → Prop := fun xs H Q => ∃ x n, xs = [x] ∧ LenV K x H n ∧ Q (.int n) H
theorem kLenV (hK : X.K = K := by rfl) : CallR X (.builtin "len") (rLenV K) := by subst hK; exact call_len
def rListQ (K : PySem.W.Frag) : List V → Hp → VK → Prop := fun xs H Q => ∃ p ys, xs = [.ref p] ∧ (SqL K H p ys ∨ SqT K H p ys) ∧ ∀ l, H l = none → Q (.ref l) (upd H l (.lst ys))
theorem kList (hK : X.K = K := by rfl) : CallR X (.type "list") (rListQ K) := by subst hK; exact call_list_of
def rTupQ (K : PySem.W.Frag) : List V → Hp → VK → Prop := fun xs H Q => ∃ p ys, xs = [.ref p] ∧ ((SqL K H p ys ∧ ∀ l, H l = none → Q (.ref l) (upd H l (.tup ys))) ∨ (SqT K H p ys ∧ Q (.ref p) H))
theorem kTup (hK : X.K = K := by rfl) : CallR X (.type "tuple") (rTupQ K) := by subst hK; exact call_tuple_of
theorem kIsi (hK : X.K = K := by rfl) : CallR X (.builtin "isinstance") (rIsi K) := by subst hK; exact call_isi
theorem kIsiT (hK : X.K = K := by rfl) : CallR X (.builtin "isinstance") (rIsiT K) := by subst hK; exact call_isiT
theorem kAll (hc : X.calm = true) (hK : X.K = K := by rfl) : CallR X (.builtin "all") (rAll K) := by subst hK; exact cr_all hc
theorem kAny (hc : X.calm = true) (hK : X.K = K := by rfl) : CallR X (.builtin "any") (rAny K) := by subst hK; exact cr_any hc
theorem kSortS (hK : X.K = K := by rfl) : CallR X (.builtin "sorted") (rSortedS K) := by subst hK; exact cr_sortedS
theorem kSet (hc : X.calm = true) (hK : X.K = K := by rfl) (hw : X.w = w := by rfl) : CallR X (.type "set") (SM.rSetM K w) := by subst hK; subst hw; exact SM.cr_setM hc
theorem kLenM (hw : X.w = w := by rfl) : CallR X (.builtin "len") (SM.rLenM w) := by subst hw; exact SM.cr_lenM
theorem kSortM (hc : X.calm = true) (hw : X.w = w := by rfl) : CallR X (.builtin "sorted") (SM.rSortedM w) := by subst hw; exact SM.cr_sortedM hc
theorem ixL (hK : X.K = K := by rfl) : IxR X (rIxL K) := by subst hK; exact ix_list
theorem ixT (hK : X.K = K := by rfl) : IxR X (rIxT K) := by subst hK; exact ix_tup
theorem slL (hK : X.K = K := by rfl) : SlR X (rSlL K) := by subst hK; exact sl_list
theorem slT (hK : X.K = K := by rfl) : SlR X (rSlT K) := by subst hK; exact sl_tup
theorem oIn (hK : X.K = K := by rfl) : OpR X (compareOp .In) (rIn K false) := by subst hK; exact op_in_seq
theorem oNotIn (hK : X.K = K := by rfl) : OpR X (compareOp .NotIn) (rIn K true) := by subst hK; exact op_notIn_seq
theorem oEqD (hu : X.A.units + 64 < cLine) (hK : X.K = K := by rfl) : OpR X (compareOp .Eq) (rEqD K) := by subst hK; exact op_eqD hu
theorem oNeD (hu : X.A.units + 64 < cLine) (hK : X.K = K := by rfl) : OpR X (compareOp .NotEq) (rNeD K) := by subst hK; exact op_neD hu
theorem oInD (hu : X.A.units + 65 < cLine) (hK : X.K = K := by rfl) : OpR X (compareOp .In) (rInD K) := by subst hK; exact op_inD hu
theorem oNotInD (hu : X.A.units + 65 < cLine) (hK : X.K = K := by rfl) : OpR X (compareOp .NotIn) (rNotInD K) := by subst hK; exact op_notInD hu
theorem iL (hl : PE X l tl) (hK : X.K = K := by rfl) : PI X tg l (iList K tl) := by subst hK; exact pi_list hl
theorem iT (hl : PE X l tl) (hK : X.K = K := by rfl) : PI X tg l (iTup K tl) := by subst hK; exact pi_tup hl
theorem eFld (he : PE X e ta) (hb : attributeBase e f X.env (eval e X.env) = eval e X.env := by rfl) (hK : X.K = K := by rfl) : PE X (.Attribute e f pos) (tFld K ta f) := by subst hK; exact pe_fld he hb
theorem eBm0 {o : Expr} {name : Str} {apos cpos : Pos} {T id : String} {r : V → List V → Hp → VK → Prop} (pa : PlainAttrs T) (slot : Slot T name id) (hty : typeOf (.builtin id) = pure (.type "method_descriptor")) (hm : MtR X id r) (ho : PE X o to)
    (hbase : attributeBase o name X.env (eval o X.env) = eval o X.env := by rfl) (hline : (apos.endLine == cpos.line) = true := by rfl) (hK : X.K = K := by rfl) : PE X (.Call (.Attribute o name apos) [] [] cpos) (tBM0 K T r to) := by
  subst hK; exact pe_bm0 pa slot hty hm ho hbase hline
theorem eBm {o : Expr} {es : List Expr} {name : Str} {apos cpos : Pos} {T id : String} {r : V → List V → Hp → VK → Prop} (pa : PlainAttrs T) (slot : Slot T name id) (hty : typeOf (.builtin id) = pure (.type "method_descriptor")) (hm : MtR X id r) (ho : PE X o to) (ha : PA X (e :: es) t)
    (hbase : attributeBase o name X.env (eval o X.env) = eval o X.env := by rfl)
    (hfew : ((backTo cpos (starEach (e :: es) X.env)).all (fun x => !x.1) && (backToKw cpos (keywordEach [] X.env)).all (fun x => x.1.isSome)
      && decide ((e :: es).length + ([] : List Keyword).length + (if ([] : List Keyword).isEmpty then 0 else 1) < 30)) = true := by rfl)
    (hline : (apos.endLine == cpos.line) = true := by rfl) (hs : starEach (e :: es) X.env = (false, eval e X.env) :: starEach es X.env := by rfl) (hplain : (backTo cpos (starEach es X.env)).any (·.1) = false := by rfl) (hK : X.K = K := by rfl) :
    PE X (.Call (.Attribute o name apos) (e :: es) [] cpos) (tBM K T r to t) := by
  subst hK; exact pe_bm pa slot hty hm ho ha hbase hfew hline hs hplain
end
end HP

namespace HP
open PySem L2
abbrev sMix : Stmt := top 28
abbrev sNext : Stmt := top 29
/-! ### the source of draws -/
structure Src (H : Hp) (p l : Addr) : Prop where
  ex : ∃ (st i : Int) (ns : List Int), H p = some (.lst [.int st, .ref l, .int i, .int 14]) ∧ H l = some (.lst (ns.map V.int)) ∧ ns.length ≤ 63
/-- all but the source stands as it stood -/
def Keep (p l : Addr) (H H' : Hp) : Prop := ∀ c o, H c = some o → c ≠ p → c ≠ l → H' c = some o
def spMix (K : PySem.W.Frag) : Sp := fun vs H Q _ => ∃ (a : Addr) (ns : List Int) (z : Int), vs = [.ref a, .int z] ∧ SqL K H a (ns.map V.int) ∧ ns.length ≤ 63 ∧
  ∀ H' p l, Same H H' → H p = none → H l = none → Src H' p l → Q (.ref p) H'
def spNext : Sp := fun vs H Q _ => ∃ (p l : Addr) (b : Int), vs = [.ref p, .int b] ∧ Src H p l ∧ 0 < b ∧ b < 1073741824 ∧
  ∀ H' r, 0 ≤ r → r < b → Src H' p l → Keep p l H H' → Q (.int r) H'
section
variable {P : Program} {w : World} {K : PySem.W.Frag} {mg : Str → Option Value} {base : Heap}
theorem Src.ne {H : Hp} {p l : Addr} (S : Src H p l) : p ≠ l := fun e => by
  obtain ⟨st, i, ns, hp, hl, hlen⟩ := S.ex
  rw [← e, hp] at hl
  have e3 := congrArg (fun x => x[1]?) (HO.lst.inj (Option.some.inj hl))
  rw [List.getElem?_map] at e3
  cases q : ns[1]? with
  | none => rw [q] at e3; cases e3
  | some c => rw [q] at e3; cases e3
theorem int_at {ns : List Int} {i : Nat} {y : V} (hi : (ns.map V.int)[i]? = some y) : ∃ c, y = V.int c ∧ ns[i]? = some c := by
  rw [List.getElem?_map] at hi
  cases e : ns[i]? with
  | none => rw [e] at hi; cases hi
  | some c => rw [e] at hi; exact ⟨c, (Option.some.inj hi).symm, rfl⟩
theorem scMix : FnScope ["_law_script", "_law_seed", "_law_state", "_law_cell"] ["_law_script", "_law_seed"] (defScope sMix) := ⟨rfl, rfl, rfl, by decide +kernel, rfl, by decide +kernel, by decide +kernel⟩
theorem ok_mix (D : Dat K mg "_law_mix" sMix) (T : Fr mg) : Fn P w K mg base CX0 1 "_law_mix" (spMix K) := by
  refine Fn.of0 D scMix (fun _ _ _ _ _ _ us hl => match us, hl with | [_, _], _ => rfl) (fun vs H Q E h => ?_) (fun f cdv A outer s H vs Q E hr h => ?_)
  · obtain ⟨a, ns, z, rfl, _⟩ := h
    rfl
  · obtain ⟨a, ns, z, rfl, hS, hlen, k⟩ := h
    refine ⟨_, (pss_cons (ps_set (i := 2) scMix.nd rfl (Or.inl rfl) (pv 1))
      (pss_cons (ps_for PassesOwn.never rfl (iL (K := K) (pv 0)) (pg_name (i := 3) scMix.nd rfl (Or.inl rfl)) (pss_one (ps_set (i := 2) scMix.nd rfl (Or.inl rfl) (pe_op op_modN (pe_callTy call_int1 (by rfl) (T.fr "int" (by decide +kernel)) (by decide +kernel) (pa_cons (pe_op op_add (pe_op op_add (pe_op op_mul (pv 2) pe_int) (pe_op op_modN (pe_callTy call_int1 (by rfl) (T.fr "int" (by decide +kernel)) (by decide +kernel) (pa_cons (pv 3) pa_nil)) pe_int)) pe_int) pa_nil)) pe_int))))
      (pss_one (ps_ret (pe_lst (pa_cons (pv 2) (pa_cons (pe_callTy (kList (K := K)) (by rfl) (T.fr "list" (by decide +kernel)) (by decide +kernel) (pa_cons (pv 0) pa_nil)) (pa_cons pe_int (pa_cons pe_int pa_nil))))))))), ?_⟩
    refine ⟨_, rfl, ?_⟩
    refine ⟨_, rfl, a, rfl, ⟨_, hS⟩, for_list (K := K) (a := a) (xs := ns.map V.int) (fun i σ H2 => ∃ (st : Int) (v : Option V), σ = [some (.ref a), some (.int z), some (.int st), v] ∧ H2 = H)
      ⟨z, none, rfl, rfl⟩ (fun i σ H2 _ ⟨_, _, _, s2⟩ => s2 ▸ hS) ?_ ?_⟩
    · rintro i y σ H2 hi ⟨st, v, rfl, rfl⟩
      obtain ⟨c, rfl, _⟩ := int_at hi
      refine ⟨_, rfl, _, _, rfl, rfl, .inr (by decide), _, rfl, .inl ⟨_, rfl, ?_⟩⟩
      refine ⟨_, _, rfl, rfl, (show (2147483629 : Int) ≠ 0 by decide), _, _, rfl, rfl, _, _, rfl, rfl, .inl ⟨_, rfl, ?_⟩⟩
      refine ⟨_, _, rfl, rfl, (show (2147483647 : Int) ≠ 0 by decide), ?_⟩
      exact ⟨_, _, rfl, rfl⟩
    · rintro σ H2 ⟨st, v, rfl, rfl⟩
      refine ⟨_, rfl, _, rfl, a, _, rfl, .inl hS, fun l hl => ?_⟩
      refine ⟨(by show 4 ≤ sizeLine; decide), fun p hp => ?_⟩
      have npl : l ≠ p := fun e => by rw [← e, upd_same] at hp; cases hp
      have hp2 : H2 p = none := by rw [upd_ne npl.symm] at hp; exact hp
      refine k _ p l (fun b o e => ?_) hp2 hl ⟨st, 0, ns, upd_same, ?_, hlen⟩
      · rw [upd_ne (ne_of_none e hp2), upd_ne (ne_of_none e hl)]; exact e
      · rw [upd_ne npl, upd_same]
theorem scNext : FnScope ["_law_h", "_law_bound", "_law_cell"] ["_law_h", "_law_bound"] (defScope sNext) := ⟨rfl, rfl, rfl, by decide +kernel, rfl, by decide +kernel, by decide +kernel⟩
theorem ok_next (D : Dat K mg "_law_next" sNext) (T : Fr mg) : Fn P w K mg base CX0 1 "_law_next" spNext := by
  refine Fn.of0 D scNext (fun _ _ _ _ _ _ us hl => match us, hl with | [_, _], _ => rfl) (fun vs H Q E h => ?_) (fun f cdv A outer s H vs Q E hr h => ?_)
  · obtain ⟨p, l, b, rfl, _⟩ := h
    rfl
  · obtain ⟨p, l, b, rfl, S, hb, hb2, k⟩ := h
    obtain ⟨st, i, ns, hp, hl, hlen⟩ := S.ex
    have npl := S.ne
    refine ⟨_, (pss_cons (ps_set (i := 2) scNext.nd rfl (Or.inl rfl) (pe_ix (ixL (K := K)) (pe_op op_cat (pe_ix (ixL (K := K)) (pv 0) pe_int (fun _ _ => rfl)) (pe_lst (pa_cons pe_int pa_nil))) (pe_op op_modN (pe_callTy call_int1 (by rfl) (T.fr "int" (by decide +kernel)) (by decide +kernel) (pa_cons (pe_ix (ixL (K := K)) (pv 0) pe_int (fun _ _ => rfl)) pa_nil)) (pe_callB (call_max2 rfl) (by rfl) (T.fr "max" (by decide +kernel)) (by decide +kernel) (pa_cons pe_int (pa_cons (pe_callB (kLen (K := K)) (by rfl) (T.fr "len" (by decide +kernel)) (by decide +kernel) (pa_cons (pe_ix (ixL (K := K)) (pv 0) pe_int (fun _ _ => rfl)) pa_nil)) pa_nil)))) (fun _ _ => rfl)))
      (pss_cons (ps_if (pt_cmpR op_ge (pv 2) (pe_op op_pow pe_int pe_int) (nomark _)) (pss_cons (ps_asg (pe_op op_fdivN (pv 2) (pv 1)) (pg_sub (pe_ix (ixL (K := K)) (pv 0) pe_int (fun _ _ => rfl)) (pe_op op_modN (pe_callTy call_int1 (by rfl) (T.fr "int" (by decide +kernel)) (by decide +kernel) (pa_cons (pe_ix (ixL (K := K)) (pv 0) pe_int (fun _ _ => rfl)) pa_nil)) (pe_callB (kLen (K := K)) (by rfl) (T.fr "len" (by decide +kernel)) (by decide +kernel) (pa_cons (pe_ix (ixL (K := K)) (pv 0) pe_int (fun _ _ => rfl)) pa_nil))) set_list))
      (pss_one (ps_ret (pe_op op_modN (pe_callTy call_int1 (by rfl) (T.fr "int" (by decide +kernel)) (by decide +kernel) (pa_cons (pv 2) pa_nil)) (pv 1))))) pss_nil)
      (pss_cons (ps_asg (pe_op op_modN (pe_callTy call_int1 (by rfl) (T.fr "int" (by decide +kernel)) (by decide +kernel) (pa_cons (pe_op op_add (pe_op op_add (pe_op op_mul (pe_ix (ixL (K := K)) (pv 0) pe_int (fun _ _ => rfl)) pe_int) (pe_op op_mul (pv 2) pe_int)) pe_int) pa_nil)) pe_int) (pg_sub (pv 0) pe_int set_list))
      (pss_cons (ps_asg (pe_op op_add (pe_ix (ixL (K := K)) (pv 0) pe_int (fun _ _ => rfl)) pe_int) (pg_sub (pv 0) pe_int set_list))
      (pss_one (ps_ret (pe_op op_modN (pe_callTy call_int1 (by rfl) (T.fr "int" (by decide +kernel)) (by decide +kernel) (pa_cons (pe_op op_fdivN (pe_ix (ixL (K := K)) (pv 0) pe_int (fun _ _ => rfl)) pe_int) pa_nil)) (pv 1)))))))), ?_⟩
    have atP1 : atI ([.int st, .ref l, .int i, .int 14] : List V) 1 = some (.ref l) := rfl
    have atP2 : atI ([.int st, .ref l, .int i, .int 14] : List V) 2 = some (.int i) := rfl
    have atP0 : atI ([.int st, .ref l, .int i, .int 14] : List V) 0 = some (.int st) := rfl
    -- h[1]; [0]; +
    refine ⟨_, rfl, p, _, _, _, rfl, rfl, SqL.of hp, atP1, (by show 1 ≤ sizeLine; decide), fun z hz => ?_⟩
    have nlz : l ≠ z := ne_of_none hl hz
    have npz : p ≠ z := ne_of_none hp hz
    refine ⟨l, z, _, _, rfl, rfl, (by rw [upd_ne nlz]; exact hl), upd_same, (by simp; exact Nat.le_trans (Nat.succ_le_succ hlen) (by decide)), fun c hc => ?_⟩
    have ncz : c ≠ z := fun e => by rw [e, upd_same] at hc; cases hc
    rw [upd_ne ncz] at hc
    have npc : p ≠ c := ne_of_none hp hc
    have nlc : l ≠ c := ne_of_none hl hc
    generalize eH1 : upd (upd H z (.lst [.int 0])) c (.lst (ns.map V.int ++ [V.int 0])) = H1
    have hp1 : H1 p = some (.lst [.int st, .ref l, .int i, .int 14]) := by rw [← eH1, upd_ne npc, upd_ne npz]; exact hp
    have hl1 : H1 l = some (.lst (ns.map V.int)) := by rw [← eH1, upd_ne nlc, upd_ne nlz]; exact hl
    have hc1 : H1 c = some (.lst (ns.map V.int ++ [V.int 0])) := by rw [← eH1, upd_same]
    have same : Same H H1 := fun b o e => by rw [← eH1, upd_ne (ne_of_none e hc), upd_ne (ne_of_none e hz)]; exact e
    -- int(h[2]) % max(1, len(h[1]))
    have hm : (if (((ns.map V.int).length : Int)) > 1 then ((ns.map V.int).length : Int) else 1) > 0 := by split <;> omega
    have hm2 : (if (((ns.map V.int).length : Int)) > 1 then ((ns.map V.int).length : Int) else 1) ≤ (ns.length : Int) ∨ ns = [] := by
      rw [List.length_map]
      cases ns with
      | nil => right; rfl
      | cons a t => left; simp only [List.length_cons]; split <;> omega
    generalize em : (if (((ns.map V.int).length : Int)) > 1 then ((ns.map V.int).length : Int) else 1) = m at hm hm2
    have hf0 : 0 ≤ i.fmod m := Int.fmod_nonneg_of_pos _ hm
    have hf1 : i.fmod m < m := Int.fmod_lt_of_pos _ hm
    obtain ⟨cell, hcell⟩ : ∃ cell : Int, atI (ns.map V.int ++ [V.int 0]) (i.fmod m) = some (V.int cell) := by
      have hj : (i.fmod m).toNat < (ns ++ [0]).length := by
        rw [List.length_append, List.length_singleton]
        rcases hm2 with h | h
        · omega
        · subst h
          have : m = 1 := by rw [← em]; rfl
          subst this
          simp only [List.length_nil]
          omega
      refine ⟨(ns ++ [0])[(i.fmod m).toNat], ?_⟩
      have e : (ns.map V.int ++ [V.int 0]) = (ns ++ [0]).map V.int := by simp
      rw [e]
      unfold atI ixN
      rw [if_pos hf0, if_pos (by rw [List.length_map]; omega)]
      show ((ns ++ [0]).map V.int)[(i.fmod m).toNat]? = _
      rw [List.getElem?_map, List.getElem?_eq_getElem hj] <;> rfl
    refine ⟨_, rfl, p, _, _, _, rfl, rfl, SqL.of hp1, atP2, .inl ⟨_, rfl, ?_⟩⟩
    refine ⟨_, rfl, p, _, _, _, rfl, rfl, SqL.of hp1, atP1, l, _, rfl, .inl (SqL.of hl1), ?_⟩
    refine ⟨1, _, rfl, _, _, rfl, rfl, ?_⟩
    rw [em]
    refine ⟨(show m ≠ 0 by omega), c, _, _, _, rfl, rfl, SqL.of hc1, hcell, ?_⟩
    -- if cell >= 10 ** 18
    refine ⟨_, rfl, _, _, rfl, rfl, ⟨by decide, by decide, by decide⟩, _, _, rfl, rfl, _, rfl, ?_⟩
    refine ite2 (fun hge => ?_) (fun hge => ?_)
    · have hge' : (10 : Int) ^ 18 ≤ cell := of_decide_eq_true hge
      have hne : ns ≠ [] := fun e => by
        subst e
        have : m = 1 := by rw [← em]; rfl
        subst this
        have hz0 : i.fmod 1 = 0 := by omega
        rw [hz0] at hcell
        have : V.int 0 = V.int cell := Option.some.inj hcell
        have : (0 : Int) = cell := V.int.inj this
        rw [← this] at hge'
        exact absurd hge' (by decide)
      have hlp : 0 < ns.length := List.length_pos_iff.mpr hne
      have hn0 : ((ns.map V.int).length : Int) ≠ 0 := by rw [List.length_map]; omega
      have hnp : 0 < ((ns.map V.int).length : Int) := by rw [List.length_map]; omega
      have g0 : 0 ≤ i.fmod ((ns.map V.int).length : Int) := Int.fmod_nonneg_of_pos _ hnp
      have g1 : i.fmod ((ns.map V.int).length : Int) < ((ns.map V.int).length : Int) := Int.fmod_lt_of_pos _ hnp
      refine ⟨_, rfl, _, rfl, _, _, rfl, rfl, ⟨(show b ≠ 0 by omega), (show b.natAbs < 1073741824 by omega)⟩, ?_⟩
      refine ⟨_, rfl, p, _, _, _, rfl, rfl, SqL.of hp1, atP1, ?_⟩
      refine ⟨_, rfl, p, _, _, _, rfl, rfl, SqL.of hp1, atP2, .inl ⟨_, rfl, ?_⟩⟩
      refine ⟨_, rfl, p, _, _, _, rfl, rfl, SqL.of hp1, atP1, l, _, rfl, .inl (SqL.of hl1), _, _, rfl, rfl, hn0, ?_⟩
      refine ⟨l, _, _, (i.fmod ((ns.map V.int).length : Int)).toNat, rfl, rfl, hl1, (by unfold ixN; rw [if_pos g0, if_pos g1]), ?_⟩
      refine ⟨_, rfl, .inl ⟨_, rfl, _, rfl, _, _, rfl, rfl, (show b ≠ 0 by omega), ?_⟩⟩
      refine k _ _ (Int.fmod_nonneg_of_pos _ hb) (Int.fmod_lt_of_pos _ hb) ⟨st, i, ns.set (i.fmod ((ns.map V.int).length : Int)).toNat (cell.fdiv b), (by rw [upd_ne npl]; exact hp1), (by rw [upd_same, List.map_set]), (by rw [List.length_set]; exact hlen)⟩ (fun x o e h1 h2 => ?_)
      rw [upd_ne h2]
      exact same x o e
    · refine ⟨_, rfl, p, _, _, _, rfl, rfl, SqL.of hp1, atP0, _, _, rfl, rfl, .inr (by decide), _, rfl, _, _, rfl, rfl, .inr (by decide), _, _, rfl, rfl, _, _, rfl, rfl, .inl ⟨_, rfl, _, _, rfl, rfl, (show (2147483647 : Int) ≠ 0 by decide), ?_⟩⟩
      refine ⟨_, rfl, p, _, _, 0, rfl, rfl, hp1, rfl, ?_⟩
      refine ⟨_, rfl, p, _, _, _, rfl, rfl, SqL.of upd_same, rfl, _, _, rfl, rfl, ?_⟩
      refine ⟨_, rfl, p, _, _, 2, rfl, rfl, upd_same, rfl, ?_⟩
      refine ⟨_, rfl, p, _, _, _, rfl, rfl, SqL.of upd_same, rfl, _, _, rfl, rfl, ⟨by decide, by decide⟩, .inl ⟨_, rfl, _, rfl, _, _, rfl, rfl, (show b ≠ 0 by omega), ?_⟩⟩
      refine k _ _ (Int.fmod_nonneg_of_pos _ hb) (Int.fmod_lt_of_pos _ hb) ⟨_, _, ns, upd_same, (by rw [upd_ne npl.symm, upd_ne npl.symm]; exact hl1), hlen⟩ (fun x o e h1 h2 => ?_)
      rw [upd_ne h1, upd_ne h1]
      exact same x o e
end
end HP

namespace HP
open PySem PySem.Spec PyProof.Rows L2
/-! ### data -/
def tyD : PyData → String
  | .none => "NoneType"
  | .bool _ => "bool"
  | .int _ => "int"
  | .str _ => "str"
  | .list _ => "list"
  | .tuple _ => "tuple"
  | .dict _ => "dict"
theorem SqL.same {K : PySem.W.Frag} {H H' : Hp} {a : Addr} {xs : List V} (e : Same H H') (h : SqL K H a xs) : SqL K H' a xs := e.seq h
theorem SqT.same {K : PySem.W.Frag} {H H' : Hp} {a : Addr} {xs : List V} (e : Same H H') (h : SqT K H a xs) : SqT K H' a xs := by
  rcases h with (h | ⟨o, h⟩) | h
  · exact .inl (.inl (e _ _ h))
  · exact .inl (.inr ⟨o, e _ _ h⟩)
  · exact .inr h
mutual
theorem Dp.same {K : PySem.W.Frag} {H H' : Hp} (e : Same H H') : ∀ (d : PyData) {v : V}, Dp K H v d → Dp K H' v d
  | .none, _, .non => .non
  | .bool b, _, .bl _ => .bl b
  | .int i, _, .int _ => .int i
  | .str x, _, .str _ => .str x
  | .list ds, _, .lst h a => .lst (SqL.same e h) (DpAll.same e ds a)
  | .tuple ds, _, .tup h a => .tup (SqT.same e h) (DpAll.same e ds a)
  | .dict kvs, _, h => nomatch h
theorem DpAll.same {K : PySem.W.Frag} {H H' : Hp} (e : Same H H') : ∀ (ds : List PyData) {vs : List V}, DpAll K H vs ds → DpAll K H' vs ds
  | [], _, .nil => .nil
  | d :: ds, _, .cons a b => .cons (Dp.same e d a) (DpAll.same e ds b)
end
theorem DpAll.len {K : PySem.W.Frag} {H : Hp} : ∀ {ds : List PyData} {vs : List V}, DpAll K H vs ds → vs.length = ds.length
  | [], _, .nil => rfl
  | d :: ds, _, .cons a b => congrArg Nat.succ (DpAll.len b)
theorem DpAll.at {K : PySem.W.Frag} {H : Hp} : ∀ {ds : List PyData} {vs : List V} {i : Nat} {v : V}, DpAll K H vs ds → vs[i]? = some v → ∃ d, ds[i]? = some d ∧ Dp K H v d
  | [], _, i, v, .nil, e => by simp at e
  | d :: ds, _, 0, v, .cons a b, e => by simp at e; subst e; exact ⟨d, rfl, a⟩
  | d :: ds, _, i + 1, v, .cons a b, e => by
    obtain ⟨d', h1, h2⟩ := DpAll.at (i := i) (v := v) b (by simpa using e)
    exact ⟨d', by simpa using h1, h2⟩
theorem tyL {K : PySem.W.Frag} {H : Hp} {a : Addr} {xs : List V} (h : SqL K H a xs) : TyX K H (.ref a) (.type "list") := by
  rcases h with (h | ⟨o, h⟩) | ⟨o, its, n, h, c, _⟩
  · exact .base (.lst h)
  · exact .base (.frz h)
  · exact .kList h c
theorem tyT {K : PySem.W.Frag} {H : Hp} {a : Addr} {xs : List V} (h : SqT K H a xs) : TyX K H (.ref a) (.type "tuple") := by
  rcases h with (h | ⟨o, h⟩) | ⟨o, its, n, h, c, _⟩
  · exact .base (.tup h)
  · exact .fTuple h
  · exact .kTuple h c
theorem dp_ty {K : PySem.W.Frag} {H : Hp} {d : PyData} {v : V} (h : Dp K H v d) : TyX K H v (.type (tyD d)) := by
  cases h with
  | non => exact .base .non
  | bl b => exact .base (.bl b)
  | int i => exact .base (.int i)
  | str x => exact .base (.str x)
  | lst h a => exact tyL h
  | tup h a => exact tyT h
def isaB (a b : String) : Bool := a == b || (a == "bool" && b == "int")
theorem kit_all : (["NoneType", "bool", "int", "str", "list", "tuple", "dict"] : List String).all (fun a => (["bool", "int", "str", "list", "tuple", "dict"] : List String).all fun b => decide (kitB a b = some (isaB a b))) = true := by decide +kernel
theorem tyD_mem (d : PyData) : tyD d ∈ (["NoneType", "bool", "int", "str", "list", "tuple", "dict"] : List String) := by cases d <;> simp [tyD]
theorem kitD {K : PySem.W.Frag} (d : PyData) {b : String} (hb : b ∈ (["bool", "int", "str", "list", "tuple", "dict"] : List String)) : PySem.W.kitOne K (.type (tyD d)) (.type b) = some (isaB (tyD d) b) :=
  kit_ty (of_decide_eq_true (List.all_eq_true.mp (List.all_eq_true.mp kit_all _ (tyD_mem d)) _ hb))
def isIntD : PyData → Bool
  | .int _ => true
  | _ => false
def az : Str := "abcdefghijklmnopqrstuvwxyz"
def isLet (c : Nat) : Bool := decide (c ∈ az.cps.toList)
def isNameS (x : Str) : Bool := decide (1 ≤ (x.length : Int)) && (decide ((x.length : Int) ≤ 8) && x.cps.toList.all isLet)
def isNameD : PyData → Bool
  | .str x => isNameS x
  | _ => false
/-! ### comprehensions whose items are told beforehand -/
def Cv (H1 : Hp) (D : Addr) (out : Nat → List V) (i : Nat) (H : Hp) : Prop := Same H1 H ∧ H D = some (.lst (out i))
theorem cv0 {H1 : Hp} {D : Addr} {out : Nat → List V} (hD : H1 D = none) (h0 : out 0 = []) : Cv H1 D out 0 (upd H1 D (.lst [])) :=
  ⟨fun b o e => by rw [upd_ne (ne_of_none e hD)]; exact e, by rw [upd_same, h0]⟩
theorem cv_yes {H1 H4 : Hp} {D : Addr} {out : Nat → List V} {i : Nat} {y : V} (hD : H1 D = none) (s : Same H1 H4) (h : H4 D = some (.lst (out i))) (hl : (out i).length ≤ 100000) (e : out (i + 1) = out i ++ [y]) :
    ∃ acc, H4 D = some (.lst acc) ∧ acc.length < sizeLine ∧ Cv H1 D out (i + 1) (upd H4 D (.lst (acc ++ [y]))) :=
  ⟨out i, h, Nat.lt_of_le_of_lt hl (by decide), fun b o q => by rw [upd_ne (ne_of_none q hD)]; exact s b o q, by rw [upd_same, e]⟩
theorem cv_no {H1 H4 : Hp} {D : Addr} {out : Nat → List V} {i : Nat} (s : Same H1 H4) (h : H4 D = some (.lst (out i))) (e : out (i + 1) = out i) : Cv H1 D out (i + 1) H4 := ⟨s, by rw [e]; exact h⟩
theorem snoc_at {α β : Type} (f : α → β) {l : List α} {i : Nat} {x : α} (h : l[i]? = some x) : (l.take (i + 1)).map f = (l.take i).map f ++ [f x] := by
  rw [List.take_add_one, h, List.map_append]
  rfl
theorem same_new {H H' : Hp} {p : Addr} {o : HO} (s : Same H H') (h : H' p = none) : Same H (upd H' p o) := fun b u e => by
  rw [upd_ne (ne_of_none (s b u e) h)]
  exact s b u e
theorem same_mut {H H' : Hp} {p : Addr} {o : HO} (s : Same H H') (h : H p = none) : Same H (upd H' p o) := fun b u e => by
  rw [upd_ne (ne_of_none e h)]
  exact s b u e
theorem lc_yes {σ : L2.St} {H : Hp} {A B : Hp → Prop} (h : A H) : tYes σ H (fun b H3 => if b = true then A H3 else B H3) := by
  show if true = true then A H else B H
  exact iteT h
end HP

namespace HP
open PySem PySem.Spec PyProof.Rows L2
abbrev sIsInt : Stmt := top 15
abbrev sIsName : Stmt := top 16
abbrev sThings : Stmt := top 17
abbrev sWords : Stmt := top 19
/-! ### what the module's own names hold -/
structure Cs (K : PySem.W.Frag) (mg : Str → Option Value) : Prop where
  letters : ∃ t, mg "LETTERS" = some (.str az t)
  mname : ∃ t, mg "MOST_NAME" = some (.int 8 t)
  mthings : ∃ t, mg "MOST_THINGS" = some (.int 4 t)
  mvalues : ∃ t, mg "MOST_VALUES" = some (.int 3 t)
section
variable {P : Program} {w : World} {K : PySem.W.Frag} {mg : Str → Option Value} {base : Heap}
def spIsInt (K : PySem.W.Frag) : Sp := fun vs H Q _ => ∃ (v : V) (d : PyData), vs = [v] ∧ Dp K H v d ∧ Q (.bl (isIntD d)) H
theorem scIsInt : FnScope ["value"] ["value"] (defScope sIsInt) := ⟨rfl, rfl, rfl, by decide +kernel, rfl, by decide +kernel, by decide +kernel⟩
theorem ok_isInt (D : Dat K mg "is_integer" sIsInt) (T : Fr mg) : Fn P w K mg base CX0 1 "is_integer" (spIsInt K) := by
  refine Fn.of0 D scIsInt (fun _ _ _ _ _ _ us hl => match us, hl with | [_], _ => rfl) (fun vs H Q E h => ?_) (fun f cdv A outer s H vs Q E hr h => ?_)
  · obtain ⟨v, d, rfl, _⟩ := h
    rfl
  · obtain ⟨v, d, rfl, hd, k⟩ := h
    refine ⟨_, (pss_one (ps_ret (pe_and (pe_callB (kIsi (K := K)) (by rfl) (T.fr "isinstance" (by decide +kernel)) (by decide +kernel) (pa_cons (pv 0) (pa_cons (pe_bltn (v := .ty "int") (u := .type "int") (by rfl) (T.fr "int" (by decide +kernel)) (by decide +kernel) rfl) pa_nil))) (pe_one (pe_not (pe_callB (kIsi (K := K)) (by rfl) (T.fr "isinstance" (by decide +kernel)) (by decide +kernel) (pa_cons (pv 0) (pa_cons (pe_bltn (v := .ty "bool") (u := .type "bool") (by rfl) (T.fr "bool" (by decide +kernel)) (by decide +kernel) rfl) pa_nil)))))))), ?_⟩
    refine ⟨_, rfl, v, _, _, _, _, rfl, .ty "int", dp_ty hd, kitD d (by decide), _, rfl, ?_⟩
    cases d with
    | int i =>
      refine iteT ?_
      exact ⟨_, rfl, v, _, _, _, _, rfl, .ty "bool", dp_ty hd, kitD _ (by decide), _, rfl, k⟩
    | bool b =>
      refine iteT ?_
      exact ⟨_, rfl, v, _, _, _, _, rfl, .ty "bool", dp_ty hd, kitD _ (by decide), _, rfl, k⟩
    | _ =>
      refine iteF ?_
      exact k
def spIsName (K : PySem.W.Frag) : Sp := fun vs H Q _ => ∃ (v : V) (d : PyData), vs = [v] ∧ Dp K H v d ∧ (∀ x, d = .str x → x.length ≤ 100000) ∧ ∀ H', Same H H' → Q (.bl (isNameD d)) H'
theorem scIsName : FnScope ["value", "sign"] ["value"] (defScope sIsName) := ⟨rfl, rfl, rfl, by decide +kernel, rfl, by decide +kernel, by decide +kernel⟩
theorem ok_isName (D : Dat K mg "is_name" sIsName) (T : Fr mg) (C : Cs K mg) : Fn P w K mg base CX0 1 "is_name" (spIsName K) := by
  refine Fn.of0 D scIsName (fun _ _ _ _ _ _ us hl => match us, hl with | [_], _ => rfl) (fun vs H Q E h => ?_) (fun f cdv A outer s H vs Q E hr h => ?_)
  · obtain ⟨v, d, rfl, _⟩ := h
    rfl
  · obtain ⟨v, d, rfl, hd, hx, k⟩ := h
    obtain ⟨tl, cL⟩ := C.letters
    obtain ⟨tm, cM⟩ := C.mname
    refine ⟨_, (pss_one (ps_ret (pe_and (pe_callB (kIsi (K := K)) (by rfl) (T.fr "isinstance" (by decide +kernel)) (by decide +kernel) (pa_cons (pv 0) (pa_cons (pe_bltn (v := .ty "str") (u := .type "str") (by rfl) (T.fr "str" (by decide +kernel)) (by decide +kernel) rfl) pa_nil))) (pe_and (pe_chain op_le op_le pe_int (pe_callB (kLenV (K := K)) (by rfl) (T.fr "len" (by decide +kernel)) (by decide +kernel) (pa_cons (pv 0) pa_nil)) (pe_glob (v := .int 8) (by rfl) cM ⟨_, rfl⟩)) (pe_one (pe_callB (kAll (K := K) rfl) (by rfl) (T.fr "all" (by decide +kernel)) (by decide +kernel) (pa_cons (pe_lc (own := [("sign", 1)]) (g := gName 1) (by rfl) scIsName.nd (pi_str (pv 0)) (blkOk_by (own := [("sign", 1)]) (N := ["value", "sign"]) (sc := defScope sIsName) (by decide +kernel)) (fun _ _ _ _ _ => (pg_name (i := 1) scIsName.nd rfl (Or.inl rfl))) (fun _ _ _ _ _ => pts_nil) (fun _ _ _ _ _ => (pe_cmpR op_in_sign (pv 1) (pe_glob (v := .str az) (by rfl) cL ⟨_, rfl⟩) (by rfl)))) pa_nil))))))), ?_⟩
    refine ⟨_, rfl, v, _, _, _, _, rfl, .ty "str", dp_ty hd, kitD d (by decide), _, rfl, ?_⟩
    cases d with
    | str x =>
      cases hd
      have hxl : x.length ≤ sizeLine := Nat.le_trans (hx x rfl) (by decide)
      refine iteT ?_
      refine ⟨_, rfl, _, x.length, rfl, ⟨hxl, rfl⟩, _, _, rfl, rfl, _, rfl, ?_⟩
      have en : isNameD (.str x) = (decide (1 ≤ (x.length : Int)) && (decide ((x.length : Int) ≤ 8) && x.cps.toList.all isLet)) := rfl
      rw [en] at k
      cases h1 : decide (1 ≤ (x.length : Int)) with
      | false =>
        rw [h1] at k
        exact iteF ⟨_, rfl, iteF (k H (Same.refl H))⟩
      | true =>
        rw [h1] at k
        refine iteT ⟨_, _, rfl, rfl, _, rfl, ?_⟩
        cases h2 : decide ((x.length : Int) ≤ 8) with
        | false =>
          rw [h2] at k
          exact iteF (k H (Same.refl H))
        | true =>
          rw [h2] at k
          have hxs : x.cps.size ≤ 8 := Int.ofNat_le.mp (of_decide_eq_true h2)
          refine iteT ⟨_, rfl, x, rfl, fun D hD => ?_⟩
          refine lc_it walk_str (Cv H D fun i => ((x.cps.toList.take i).map isLet).map V.bl) (cv0 hD rfl) (fun _ _ _ _ => True.intro) (fun i y H2 H3 hi p q => ?_) (fun H2 p => ?_)
          · obtain ⟨rfl, c, hc, rfl⟩ := q
            refine ⟨rfl, ?_⟩
            refine lc_yes ?_
            refine ⟨_, rfl, c, az, rfl, rfl, ?_⟩
            refine cv_yes hD p.1 p.2 ?_ ?_
            · simp only [List.length_map, List.length_take]
              omega
            · have hc' : x.cps.toList[i]? = some c := by rw [Array.getElem?_toList]; exact hc
              rw [snoc_at isLet hc', List.map_append]
              rfl
          · have e : x.cps.toList.take x.cps.size = x.cps.toList := by rw [← Array.length_toList, List.take_length]
            have hp2 : H2 D = some (.lst ((x.cps.toList.map isLet).map V.bl)) := by rw [← e]; exact p.2
            refine ⟨D, x.cps.toList.map isLet, rfl, SqL.of hp2, ?_⟩
            have e2 : (x.cps.toList.map isLet).all id = x.cps.toList.all isLet := by rw [List.all_map]; rfl
            show Q (.bl ((x.cps.toList.map isLet).all id)) H2
            rw [e2]
            exact k H2 p.1
    | _ =>
      refine iteF ?_
      exact k H (Same.refl H)
end
end HP

namespace HP
open PySem PySem.Spec PyProof.Rows L2
/-! ### are_things -/
def distinct : List Str → Bool
  | [] => true
  | x :: xs => !(xs.any fun y => decide (y = x)) && distinct xs
theorem distinct_iff : ∀ {xs : List Str}, distinct xs = true ↔ xs.Nodup
  | [] => by simp [distinct]
  | x :: xs => by
    unfold distinct
    rw [Bool.and_eq_true, distinct_iff, List.nodup_cons, Bool.not_eq_true']
    constructor
    · rintro ⟨h1, h2⟩
      refine ⟨fun h => ?_, h2⟩
      have := List.any_eq_false.mp h1 x h
      simp at this
    · rintro ⟨h1, h2⟩
      refine ⟨List.any_eq_false.mpr fun y hy => ?_, h2⟩
      intro e
      exact h1 (of_decide_eq_true e ▸ hy)
def strOf : PyData → Str
  | .str x => x
  | _ => Str.empty
def isThingsL (ds : List PyData) : Bool := decide (1 ≤ (ds.length : Int)) && (decide ((ds.length : Int) ≤ 4) && (ds.all isNameD && distinct (ds.map strOf)))
def isThingsD : PyData → Bool
  | .tuple ds => isThingsL ds
  | _ => false
theorem names_strs : ∀ {ds : List PyData}, ds.all isNameD = true → ds = (ds.map strOf).map PyData.str
  | [], _ => rfl
  | d :: ds, h => by
    rw [List.all_cons, Bool.and_eq_true] at h
    obtain ⟨h1, h2⟩ := h
    have := names_strs h2
    cases d with
    | str x => rw [List.map_cons, List.map_cons, ← this]; rfl
    | _ => cases h1
theorem dp_strs {K : PySem.W.Frag} {H : Hp} : ∀ {xs : List Str} {vs : List V}, DpAll K H vs (xs.map PyData.str) → vs = xs.map V.str
  | [], _, .nil => rfl
  | x :: xs, _, .cons (.str _) b => congrArg (V.str x :: ·) (dp_strs b)
theorem kv_strs (xs : List Str) : (xs.map (Sum.inr : Str → Key)).map kV = xs.map V.str := by
  rw [List.map_map]
  rfl
/-- the number of different ones -/
theorem ofKeys_nodup : ∀ (ks acc : List Key), acc.Nodup → (ks.foldl SM.plus acc).Nodup
  | [], acc, h => h
  | k :: ks, acc, h => by
    rw [List.foldl_cons]
    refine ofKeys_nodup ks _ ?_
    unfold SM.plus
    split
    · exact h
    · rename_i hk
      exact (List.perm_append_singleton k acc).nodup_iff.mpr (List.nodup_cons.mpr ⟨fun z => hk (SM.hasK_iff.mpr z), h⟩)
theorem ofKeys_mem : ∀ (ks acc : List Key) (k : Key), k ∈ ks.foldl SM.plus acc ↔ k ∈ acc ∨ k ∈ ks
  | [], acc, k => by simp
  | j :: ks, acc, k => by
    rw [List.foldl_cons, ofKeys_mem ks]
    unfold SM.plus
    split
    · rename_i hj
      have hj := SM.hasK_iff.mp hj
      constructor
      · rintro (h | h)
        · exact .inl h
        · exact .inr (List.mem_cons_of_mem _ h)
      · rintro (h | h)
        · exact .inl h
        · rcases List.mem_cons.mp h with rfl | h
          · exact .inl hj
          · exact .inr h
    · rw [List.mem_append, List.mem_singleton, List.mem_cons, or_assoc]
theorem ofKeys_all {ks acc : List Key} (h : (acc ++ ks).Nodup) : ks.foldl SM.plus acc = acc ++ ks := by
  induction ks generalizing acc with
  | nil => simp
  | cons k ks ih =>
    rw [List.foldl_cons]
    have hk : ¬ SM.hasK acc k = true := fun z => by
      have := SM.hasK_iff.mp z
      rw [List.nodup_append] at h
      exact h.2.2 k this k (List.mem_cons_self) rfl
    have e : SM.plus acc k = acc ++ [k] := by unfold SM.plus; rw [if_neg hk]
    rw [e, ih (by rw [List.append_assoc]; exact h), List.append_assoc]
    rfl
theorem ofKeys_back : ∀ (ks acc : List Key), acc.Nodup → (ks.foldl SM.plus acc).length = acc.length + ks.length → (acc ++ ks).Nodup
  | [], acc, h, _ => by rw [List.append_nil]; exact h
  | k :: ks, acc, h, e => by
    rw [List.foldl_cons, List.length_cons] at e
    have h1 := SM.ofKeys_len ks (SM.plus acc k)
    have hk : ¬ SM.hasK acc k = true := fun z => by
      have e2 : SM.plus acc k = acc := by unfold SM.plus; rw [if_pos z]
      rw [e2] at e h1
      omega
    have e2 : SM.plus acc k = acc ++ [k] := by unfold SM.plus; rw [if_neg hk]
    rw [e2] at e
    have nd := (List.perm_append_singleton k acc).nodup_iff.mpr (List.nodup_cons.mpr ⟨fun z => hk (SM.hasK_iff.mpr z), h⟩)
    have := ofKeys_back ks (acc ++ [k]) nd (by rw [e, List.length_append, List.length_singleton]; omega)
    rw [List.append_assoc] at this
    exact this
theorem ofKeys_len {xs : List Str} : decide (((SM.ofKeys (xs.map Sum.inr)).length : Int) = (xs.length : Int)) = distinct xs := by
  by_cases h : xs.Nodup
  · have hn : (xs.map (Sum.inr : Str → Key)).Nodup := by
      refine List.Pairwise.map _ (fun a b hab e => hab (Sum.inr.inj e)) h
    have e : SM.ofKeys (xs.map Sum.inr) = xs.map Sum.inr := by
      unfold SM.ofKeys
      rw [ofKeys_all (by simpa using hn)]
      rfl
    rw [e, List.length_map, distinct_iff.mpr h]
    exact decide_eq_true rfl
  · have hd : distinct xs = false := by
      cases q : distinct xs with
      | false => rfl
      | true => exact absurd (distinct_iff.mp q) h
    rw [hd]
    refine decide_eq_false fun e => h ?_
    have hl : ((xs.map (Sum.inr : Str → Key)).foldl SM.plus []).length = ([] : List Key).length + (xs.map (Sum.inr : Str → Key)).length := by
      rw [List.length_map, List.length_nil, Nat.zero_add]
      exact Int.ofNat.inj e
    have nd2 : (xs.map (Sum.inr : Str → Key)).Nodup := by
      have := ofKeys_back _ _ List.nodup_nil hl
      rw [List.nil_append] at this
      exact this
    exact List.Pairwise.of_map _ (fun a b hab e => hab (by rw [e])) nd2
section
variable {P : Program} {w : World} {K : PySem.W.Frag} {mg : Str → Option Value} {base : Heap}
/-- texts that are not too long -/
def Small (d : PyData) : Prop := ∀ ds, d = .tuple ds → ∀ x, PyData.str x ∈ ds → x.length ≤ 100000
def spThings (K : PySem.W.Frag) : Sp := fun vs H Q _ => ∃ (v : V) (d : PyData), vs = [v] ∧ Dp K H v d ∧ Small d ∧ ∀ H', Same H H' → Q (.bl (isThingsD d)) H'
theorem scThings : FnScope ["value", "thing"] ["value"] (defScope sThings) := ⟨rfl, rfl, rfl, by decide +kernel, rfl, by decide +kernel, by decide +kernel⟩
theorem ok_things (D : Dat K mg "are_things" sThings) (T : Fr mg) (C : Cs K mg) (FN : Fn P w K mg base CX0 1 "is_name" (spIsName K)) : Fn P w K mg base CX0 2 "are_things" (spThings K) := by
  refine Fn.of0 D scThings (fun _ _ _ _ _ _ us hl => match us, hl with | [_], _ => rfl) (fun vs H Q E h => ?_) (fun f cdv A outer s H vs Q E hr h => ?_)
  · obtain ⟨v, d, rfl, _⟩ := h
    rfl
  · obtain ⟨v, d, rfl, hd, hx, k⟩ := h
    obtain ⟨tm, cM⟩ := C.mthings
    refine ⟨_, (pss_cons (ps_if (PW.pt (pw_or (pt_not (pt_val (pe_callB (kIsi (K := K)) (by rfl) (T.fr "isinstance" (by decide +kernel)) (by decide +kernel) (pa_cons (pv 0) (pa_cons (pe_bltn (v := .ty "tuple") (u := .type "tuple") (by rfl) (T.fr "tuple" (by decide +kernel)) (by decide +kernel) rfl) pa_nil))))) (pw_or1 (pt_not (pt_chain op_le op_le pe_int (pe_callB (kLen (K := K)) (by rfl) (T.fr "len" (by decide +kernel)) (by decide +kernel) (pa_cons (pv 0) pa_nil)) (pe_glob (v := .int 4) (by rfl) cM ⟨_, rfl⟩)))))) (pss_one (ps_ret pe_bl)) pss_nil)
      (pss_cons (ps_if (pt_not (pt_val (pe_callB (kAll (K := K) rfl) (by rfl) (T.fr "all" (by decide +kernel)) (by decide +kernel) (pa_cons (pe_lc (own := [("thing", 1)]) (g := gName 1) (by rfl) scThings.nd (iT (K := K) (pv 0)) (blkOk_by (own := [("thing", 1)]) (N := ["value", "thing"]) (sc := defScope sThings) (by decide +kernel)) (fun _ _ _ _ _ => (pg_name (i := 1) scThings.nd rfl (Or.inl rfl))) (fun _ _ _ _ _ => pts_nil) (fun _ _ _ _ _ => (pf FN hr (by decide) (pa_cons (pv 1) pa_nil)))) pa_nil)))) (pss_one (ps_ret pe_bl)) pss_nil)
      (pss_one (ps_ret (pe_cmpR op_eq (pe_callB (kLenM (w := w)) (by rfl) (T.fr "len" (by decide +kernel)) (by decide +kernel) (pa_cons (pe_callTy (kSet (K := K) (w := w) rfl) (by rfl) (T.fr "set" (by decide +kernel)) (by decide +kernel) (pa_cons (pv 0) pa_nil)) pa_nil)) (pe_callB (kLen (K := K)) (by rfl) (T.fr "len" (by decide +kernel)) (by decide +kernel) (pa_cons (pv 0) pa_nil)) (nomark _)))))), ?_⟩
    refine ⟨_, rfl, v, _, _, _, _, rfl, .ty "tuple", dp_ty hd, kitD d (by decide), _, rfl, ?_⟩
    cases d with
    | tuple ds =>
      cases hd with
      | @tup a xs _ hS hA =>
      have hlen : xs.length = ds.length := DpAll.len hA
      have en : isThingsD (.tuple ds) = (decide (1 ≤ (xs.length : Int)) && (decide ((xs.length : Int) ≤ 4) && (ds.all isNameD && distinct (ds.map strOf)))) := by rw [hlen]; rfl
      rw [en] at k
      refine iteF ?_
      refine ⟨_, rfl, a, _, rfl, .inr hS, _, _, rfl, rfl, _, rfl, ?_⟩
      cases h1 : decide (1 ≤ (xs.length : Int)) with
      | false =>
        rw [h1] at k
        refine iteF ⟨_, rfl, ?_⟩
        refine iteT ?_
        exact k H (Same.refl H)
      | true =>
        rw [h1] at k
        refine iteT ⟨_, _, rfl, rfl, _, rfl, ?_⟩
        cases h2 : decide ((xs.length : Int) ≤ 4) with
        | false =>
          rw [h2] at k
          refine iteT ?_
          exact k H (Same.refl H)
        | true =>
          rw [h2] at k
          have h4 : xs.length ≤ 4 := Int.ofNat_le.mp (of_decide_eq_true h2)
          refine iteF ?_
          refine ⟨_, rfl, a, rfl, ⟨_, hS⟩, fun D hD => ?_⟩
          refine lc_it walk_tup (Cv H D fun i => ((ds.take i).map isNameD).map V.bl) (cv0 hD rfl) (fun i H2 _ p => SqT.same p.1 hS) (fun i y H2 H3 hi p q => ?_) (fun H2 p => ?_)
          · obtain ⟨rfl, hy⟩ := q
            obtain ⟨e, he, hde⟩ := DpAll.at hA hy
            refine ⟨rfl, ?_⟩
            refine lc_yes ?_
            refine ⟨_, rfl, y, e, rfl, Dp.same p.1 e hde, fun x ex => hx ds rfl x (by rw [← ex]; exact List.mem_of_getElem? he), fun H4 s4 => ?_⟩
            refine cv_yes hD (p.1.trans s4) (s4 _ _ p.2) ?_ ?_
            · simp only [List.length_map, List.length_take]
              omega
            · rw [snoc_at isNameD he, List.map_append]
              rfl
          · have hp2 : H2 D = some (.lst ((ds.map isNameD).map V.bl)) := by
              have z := p.2
              rw [hlen] at z
              dsimp only at z
              rw [List.take_length] at z
              exact z
            refine ⟨D, ds.map isNameD, rfl, SqL.of hp2, _, rfl, ?_⟩
            have e2 : (ds.map isNameD).all id = ds.all isNameD := by rw [List.all_map]; rfl
            rw [e2]
            cases h3 : ds.all isNameD with
            | false =>
              rw [h3] at k
              refine iteT ?_
              exact k H2 p.1
            | true =>
              rw [h3] at k
              refine iteF ?_
              have eds := names_strs h3
              have hvs : xs = ((ds.map strOf).map Sum.inr).map kV := by
                rw [eds] at hA
                rw [kv_strs]
                exact dp_strs hA
              have hS2 : SqT K H2 a (((ds.map strOf).map Sum.inr).map kV) := by rw [← hvs]; exact SqT.same p.1 hS
              refine ⟨_, rfl, a, (ds.map strOf).map Sum.inr, rfl, .inr hS2, ?_, fun q hq => ?_⟩
              · simp only [List.length_map]
                omega
              refine ⟨q, _, rfl, upd_same, ?_⟩
              have s3 : Same H2 (upd H2 q (SM.SetMO w q (SM.ofKeys ((ds.map strOf).map Sum.inr)))) := same_new (Same.refl H2) hq
              refine ⟨_, rfl, a, xs, rfl, .inr (SqT.same (p.1.trans s3) hS), rfl, ?_⟩
              have e5 : decide (V.int ((SM.ofKeys ((ds.map strOf).map Sum.inr)).length : Int) = V.int (xs.length : Int)) = distinct (ds.map strOf) := by
                rw [← ofKeys_len, List.length_map, hlen]
                by_cases z : ((SM.ofKeys ((ds.map strOf).map Sum.inr)).length : Int) = (ds.length : Int)
                · rw [decide_eq_true z, z]
                  exact decide_eq_true rfl
                · rw [decide_eq_false z]
                  exact decide_eq_false fun q => z (V.int.inj q)
              show Q (.bl (decide (V.int ((SM.ofKeys ((ds.map strOf).map Sum.inr)).length : Int) = V.int (xs.length : Int)))) _
              rw [e5]
              exact k _ (p.1.trans s3)
    | _ =>
      refine iteT ?_
      refine iteT ?_
      exact k H (Same.refl H)
end
end HP

namespace HP
open PySem PySem.Spec PyProof.Rows L2
/-! ### texts in order -/
def leS (a b : Str) : Prop := a.cps.toList ≤ b.cps.toList
instance (a b : Str) : Decidable (leS a b) := inferInstanceAs (Decidable (a.cps.toList ≤ b.cps.toList))
theorem leS_trans {a b c : Str} (h : leS a b) (k : leS b c) : leS a c := List.le_trans h k
theorem leS_total (a b : Str) : leS a b ∨ leS b a := List.le_total _ _
theorem str_ext {a b : Str} (h : a.cps.toList = b.cps.toList) : a = b := by
  cases a; cases b
  exact congrArg Str.mk (Array.toList_inj.mp h)
theorem leS_anti {a b : Str} (h : leS a b) (k : leS b a) : a = b := str_ext (List.le_antisymm h k)
theorem lt_le {a b : Str} : ltCps b.cps.toList a.cps.toList = false ↔ leS a b := by
  rw [ltCps_eq]
  unfold leS
  rw [decide_eq_false_iff_not, List.not_lt]
theorem rising_iff : ∀ {l : List Str} {p : Str}, risingS p l = true ↔ (p :: l).Pairwise leS
  | [], p => by simp [risingS]
  | x :: r, p => by
    have ih := rising_iff (l := r) (p := x)
    unfold risingS
    rw [Bool.and_eq_true, Bool.not_eq_true', lt_le, ih, List.pairwise_cons (a := p)]
    constructor
    · rintro ⟨h1, h2⟩
      refine ⟨fun y hy => ?_, h2⟩
      rcases List.mem_cons.mp hy with rfl | hy
      · exact h1
      · exact leS_trans h1 ((List.pairwise_cons.mp h2).1 y hy)
    · rintro ⟨h1, h2⟩
      exact ⟨h1 x List.mem_cons_self, h2⟩
theorem sortedS_iff : ∀ {l : List Str}, sortedS l = true ↔ l.Pairwise leS
  | [] => by simp [sortedS]
  | x :: r => rising_iff
/-- sorted -/
def srtS (xs : List Str) : List Str := xs.mergeSort fun a b => decide (leS a b)
theorem srtS_perm (xs : List Str) : (srtS xs).Perm xs := List.mergeSort_perm xs _
theorem srtS_pw (xs : List Str) : (srtS xs).Pairwise leS := by
  have h := List.pairwise_mergeSort (le := fun a b => decide (leS a b)) (fun a b c h k => decide_eq_true (leS_trans (of_decide_eq_true h) (of_decide_eq_true k)))
    (fun a b => by
      rcases leS_total a b with h | h
      · rw [decide_eq_true h]; rfl
      · rw [decide_eq_true h, Bool.or_true]) xs
  exact h.imp fun h => of_decide_eq_true h
theorem srtS_only {xs ys : List Str} (h : ys.Perm xs) (k : sortedS ys = true) : ys = srtS xs :=
  List.Perm.eq_of_pairwise (fun a b _ _ => leS_anti) (sortedS_iff.mp k) (srtS_pw xs) (h.trans (srtS_perm xs).symm)
theorem srtS_self {xs : List Str} (h : xs.Pairwise leS) : srtS xs = xs :=
  List.Perm.eq_of_pairwise (fun a b _ _ => leS_anti) (srtS_pw xs) h (srtS_perm xs)
/-! ### the different ones -/
def plusS (xs : List Str) (x : Str) : List Str := if xs.any (fun y => decide (y = x)) then xs else xs ++ [x]
def setS (xs : List Str) : List Str := xs.foldl plusS []
theorem plus_map (xs : List Str) (x : Str) : SM.plus (xs.map Sum.inr) (Sum.inr x) = (plusS xs x).map Sum.inr := by
  have e : SM.hasK (xs.map Sum.inr) (Sum.inr x) = xs.any (fun y => decide (y = x)) := by
    unfold SM.hasK
    rw [List.any_map]
    congr 1
    funext y
    show decide ((Sum.inr y : Key) = Sum.inr x) = decide (y = x)
    exact key_rr y x
  unfold SM.plus plusS
  rw [e]
  split
  · rfl
  · rw [List.map_append]; rfl
theorem ofKeys_map : ∀ (xs acc : List Str), (xs.map (Sum.inr : Str → Key)).foldl SM.plus (acc.map Sum.inr) = (xs.foldl plusS acc).map Sum.inr
  | [], acc => rfl
  | x :: xs, acc => by
    rw [List.map_cons, List.foldl_cons, List.foldl_cons, plus_map, ofKeys_map xs]
theorem ofKeys_strs (xs : List Str) : SM.ofKeys (xs.map Sum.inr) = (setS xs).map Sum.inr := ofKeys_map xs []
theorem setS_len (xs : List Str) : (setS xs).length ≤ xs.length := by
  have h := SM.ofKeys_len (xs.map Sum.inr) []
  have e : ((setS xs).map (Sum.inr : Str → Key)).length = (setS xs).length := List.length_map _
  rw [← e, ← ofKeys_strs]
  unfold SM.ofKeys
  rw [List.length_map, List.length_nil, Nat.zero_add] at h
  exact h
theorem setS_self {xs : List Str} (h : xs.Nodup) : setS xs = xs := by
  have hn : (xs.map (Sum.inr : Str → Key)).Nodup := List.Pairwise.map _ (fun a b hab e => hab (Sum.inr.inj e)) h
  have e : SM.ofKeys (xs.map Sum.inr) = xs.map Sum.inr := by
    unfold SM.ofKeys
    rw [ofKeys_all (by simpa using hn)]
    rfl
  rw [ofKeys_strs] at e
  exact (List.map_inj_right (fun a b q => Sum.inr.inj q)).mp e
/-! ### == of lists of texts -/
theorem eqvAll_strs : ∀ (xs ys : List Str), PyData.eqvAll (xs.map .str) (ys.map .str) = decide (xs = ys)
  | [], [] => rfl
  | x :: xs, [] => rfl
  | [], y :: ys => rfl
  | x :: xs, y :: ys => by
    show (PyData.eqv (.str x) (.str y) && PyData.eqvAll (xs.map .str) (ys.map .str)) = decide (x :: xs = y :: ys)
    rw [eqvAll_strs xs ys]
    show ((x == y) && decide (xs = ys)) = decide (x :: xs = y :: ys)
    by_cases h : x = y
    · subst h
      by_cases k : xs = ys
      · subst k; simp
      · simp [k]
    · have : (x == y) = false := beq_eq_false_iff_ne.mpr h
      rw [this]
      simp [h]
def okS (xs : List Str) : Prop := ∀ x ∈ xs, PyData.strOk x = true
theorem canLay_strs : ∀ (xs : List Str), okS xs → PyData.canLayAll0 (xs.map .str) = true
  | [], _ => by simp [PyData.canLayAll0]
  | x :: xs, h => by simp [PyData.canLayAll0, PyData.canLay0, canLay_strs xs fun y hy => h y (List.mem_cons_of_mem _ hy), h x List.mem_cons_self]
theorem depth_strs : ∀ (xs : List Str), PyData.depthAll (xs.map .str) = 0
  | [] => by simp [PyData.depthAll]
  | x :: xs => by simp [PyData.depthAll, PyData.depth, depth_strs xs]
theorem shaped_strs {xs : List Str} (h : okS xs) : SeqAt.shaped (.list (xs.map .str)) = true := by
  unfold SeqAt.shaped
  rw [Bool.and_eq_true]
  exact ⟨by simp only [PyData.canLay0]; exact canLay_strs xs h, decide_eq_true (by simp only [PyData.depth, depth_strs]; decide)⟩
theorem dpAll_strs {K : PySem.W.Frag} {H : Hp} : ∀ (xs : List Str), DpAll K H (xs.map V.str) (xs.map .str)
  | [] => .nil
  | x :: xs => .cons (.str x) (dpAll_strs xs)
theorem inV_strs (x : Str) : ∀ ws : List Str, inV (.str x) (ws.map V.str) = decide (x ∈ ws)
  | [] => rfl
  | y :: ws => by
    have ih := inV_strs x ws
    unfold inV at ih ⊢
    rw [List.map_cons, List.any_cons, ih]
    have e : eqV (.str y) (.str x) = decide (y = x) := by
      show (y == x) = decide (y = x)
      by_cases h : y = x
      · rw [decide_eq_true h, h]; exact beq_self_eq_true x
      · rw [decide_eq_false h]; exact beq_eq_false_iff_ne.mpr h
    rw [e]
    by_cases h : y = x
    · simp [h]
    · have h' : ¬ x = y := fun q => h q.symm
      simp [h, h']
theorem flat_strs : ∀ ws : List Str, (ws.map V.str).all flatV = true
  | [] => rfl
  | y :: ws => by rw [List.map_cons, List.all_cons, flat_strs ws]; rfl
/-! ### are_words -/
def allWords : List Str := ["ahead", "behind", "bottom", "change", "come", "filter", "place", "sort", "top"]
theorem ok_allWords : ∀ x ∈ allWords, PyData.strOk x = true := by decide +kernel
def isWordD : PyData → Bool
  | .str x => decide (x ∈ allWords)
  | _ => false
def ascS (xs : List Str) : Bool := decide (xs = srtS (setS xs))
def isWordsD : PyData → Bool
  | .tuple ds => ds.all isWordD && ascS (ds.map strOf)
  | _ => false
theorem words_strs : ∀ {ds : List PyData}, ds.all isWordD = true → ds = (ds.map strOf).map PyData.str ∧ ∀ x ∈ ds.map strOf, x ∈ allWords
  | [], _ => ⟨rfl, fun x h => by cases h⟩
  | d :: ds, h => by
    rw [List.all_cons, Bool.and_eq_true] at h
    obtain ⟨h1, h2⟩ := h
    obtain ⟨a, b⟩ := words_strs h2
    cases d with
    | str x =>
      refine ⟨by rw [List.map_cons, List.map_cons, ← a]; rfl, fun y hy => ?_⟩
      rcases List.mem_cons.mp hy with rfl | hy
      · exact of_decide_eq_true h1
      · exact b y hy
    | _ => cases h1
structure CsW (K : PySem.W.Frag) (mg : Str → Option Value) : Prop where
  words : ∃ a, mg "WORDS" = some (.ref a) ∧ ∀ H, SqT K H a (allWords.map V.str)
section
variable {P : Program} {w : World} {K : PySem.W.Frag} {mg : Str → Option Value} {base : Heap}
def spWords (K : PySem.W.Frag) : Sp := fun vs H Q _ => ∃ (v : V) (d : PyData), vs = [v] ∧ Dp K H v d ∧ (∀ ds, d = .tuple ds → ds.length < 64) ∧ ∀ H', Same H H' → Q (.bl (isWordsD d)) H'
theorem scWords : FnScope ["value", "word"] ["value"] (defScope sWords) := ⟨rfl, rfl, rfl, by decide +kernel, rfl, by decide +kernel, by decide +kernel⟩
theorem ok_words (D : Dat K mg "are_words" sWords) (T : Fr mg) (C : CsW K mg) : Fn P w K mg base CX0 1 "are_words" (spWords K) := by
  refine Fn.of0 D scWords (fun _ _ _ _ _ _ us hl => match us, hl with | [_], _ => rfl) (fun vs H Q E h => ?_) (fun f cdv A outer s H vs Q E hr h => ?_)
  · obtain ⟨v, d, rfl, _⟩ := h
    rfl
  · obtain ⟨v, d, rfl, hd, h64, k⟩ := h
    obtain ⟨aW, cW, hW⟩ := C.words
    refine ⟨_, (pss_cons (ps_if (PW.pt (pw_or (pt_not (pt_val (pe_callB (kIsi (K := K)) (by rfl) (T.fr "isinstance" (by decide +kernel)) (by decide +kernel) (pa_cons (pv 0) (pa_cons (pe_bltn (v := .ty "tuple") (u := .type "tuple") (by rfl) (T.fr "tuple" (by decide +kernel)) (by decide +kernel) rfl) pa_nil))))) (pw_or1 (pt_not (pt_val (pe_callB (kAll (K := K) rfl) (by rfl) (T.fr "all" (by decide +kernel)) (by decide +kernel) (pa_cons (pe_lc (own := [("word", 1)]) (g := gName 1) (by rfl) scWords.nd (iT (K := K) (pv 0)) (blkOk_by (own := [("word", 1)]) (N := ["value", "word"]) (sc := defScope sWords) (by decide +kernel)) (fun _ _ _ _ _ => (pg_name (i := 1) scWords.nd rfl (Or.inl rfl))) (fun _ _ _ _ _ => pts_nil) (fun _ _ _ _ _ => (pe_and (pe_callB (kIsi (K := K)) (by rfl) (T.fr "isinstance" (by decide +kernel)) (by decide +kernel) (pa_cons (pv 1) (pa_cons (pe_bltn (v := .ty "str") (u := .type "str") (by rfl) (T.fr "str" (by decide +kernel)) (by decide +kernel) rfl) pa_nil))) (pe_one (pe_cmpR (oIn (K := K)) (pv 1) (pe_glob (v := .ref aW) (by rfl) cW rfl) (by rfl)))))) pa_nil))))))) (pss_one (ps_ret pe_bl)) pss_nil)
      (pss_one (ps_ret (pe_cmpR (oEqD (K := K) hr.units) (pe_callTy (kList (K := K)) (by rfl) (T.fr "list" (by decide +kernel)) (by decide +kernel) (pa_cons (pv 0) pa_nil)) (pe_callB (kSortM (w := w) rfl) (by rfl) (T.fr "sorted" (by decide +kernel)) (by decide +kernel) (pa_cons (pe_callTy (kSet (K := K) (w := w) rfl) (by rfl) (T.fr "set" (by decide +kernel)) (by decide +kernel) (pa_cons (pv 0) pa_nil)) pa_nil)) (nomark _))))), ?_⟩
    refine ⟨_, rfl, v, _, _, _, _, rfl, .ty "tuple", dp_ty hd, kitD d (by decide), _, rfl, ?_⟩
    cases d with
    | tuple ds =>
      cases hd with
      | @tup a xs _ hS hA =>
      have hlen : xs.length = ds.length := DpAll.len hA
      have h64 := h64 ds rfl
      have en : isWordsD (.tuple ds) = (ds.all isWordD && ascS (ds.map strOf)) := rfl
      rw [en] at k
      refine iteF ?_
      refine ⟨_, rfl, a, rfl, ⟨_, hS⟩, fun D hD => ?_⟩
      refine lc_it walk_tup (Cv H D fun i => ((ds.take i).map isWordD).map V.bl) (cv0 hD rfl) (fun i H2 _ p => SqT.same p.1 hS) (fun i y H2 H3 hi p q => ?_) (fun H2 p => ?_)
      · obtain ⟨rfl, hy⟩ := q
        obtain ⟨e, he, hde⟩ := DpAll.at hA hy
        have hde := Dp.same p.1 e hde
        have fin : ∃ acc, H3 D = some (.lst acc) ∧ acc.length < sizeLine ∧ Cv H D (fun i => ((ds.take i).map isWordD).map V.bl) (i + 1) (upd H3 D (.lst (acc ++ [.bl (isWordD e)]))) := by
          refine cv_yes hD p.1 p.2 ?_ ?_
          · simp only [List.length_map, List.length_take]
            omega
          · rw [snoc_at isWordD he, List.map_append]
            rfl
        refine ⟨rfl, ?_⟩
        refine lc_yes ?_
        refine ⟨_, rfl, y, _, _, _, _, rfl, .ty "str", dp_ty hde, kitD e (by decide), _, rfl, ?_⟩
        cases e with
        | str x =>
          cases hde
          refine iteT ?_
          refine ⟨_, rfl, aW, _, rfl, .inr (hW H3), rfl, flat_strs allWords, ?_⟩
          show ∃ acc, H3 D = some (.lst acc) ∧ acc.length < sizeLine ∧ Cv H D (fun i => ((ds.take i).map isWordD).map V.bl) (i + 1) (upd H3 D (.lst (acc ++ [.bl (inV (.str x) (allWords.map V.str))])))
          rw [inV_strs]
          exact fin
        | _ =>
          refine iteF ?_
          exact fin
      · have hp2 : H2 D = some (.lst ((ds.map isWordD).map V.bl)) := by
          have z := p.2
          rw [hlen] at z
          dsimp only at z
          rw [List.take_length] at z
          exact z
        refine ⟨D, ds.map isWordD, rfl, SqL.of hp2, _, rfl, ?_⟩
        have e2 : (ds.map isWordD).all id = ds.all isWordD := by rw [List.all_map]; rfl
        rw [e2]
        cases h3 : ds.all isWordD with
        | false =>
          rw [h3] at k
          refine iteT ?_
          exact k H2 p.1
        | true =>
          rw [h3] at k
          refine iteF ?_
          obtain ⟨eds, hok⟩ := words_strs h3
          have hvs : xs = (ds.map strOf).map V.str := by
            rw [eds] at hA
            exact dp_strs hA
          have hS2 : SqT K H2 a ((ds.map strOf).map V.str) := by rw [← hvs]; exact SqT.same p.1 hS
          refine ⟨_, rfl, a, _, rfl, .inr hS2, fun l hl => ?_⟩
          have s3 : Same H2 (upd H2 l (.lst ((ds.map strOf).map V.str))) := same_new (Same.refl H2) hl
          refine ⟨_, rfl, a, (ds.map strOf).map Sum.inr, rfl, .inr (by rw [kv_strs]; exact SqT.same s3 hS2), ?_, fun q hq => ?_⟩
          · simp only [List.length_map]
            omega
          rw [ofKeys_strs]
          refine ⟨q, setS (ds.map strOf), rfl, upd_same, ?_, fun ys r py sy hr => ?_⟩
          · have := setS_len (ds.map strOf)
            rw [List.length_map] at this
            omega
          have ey := srtS_only py sy
          subst ey
          have nlq : l ≠ q := fun z => by rw [← z, upd_same] at hq; cases hq
          have nlr : l ≠ r := fun z => by rw [← z, upd_ne nlq, upd_same] at hr; cases hr
          have oks : okS (ds.map strOf) := fun x hx => ok_allWords x (hok x hx)
          have okt : okS (srtS (setS (ds.map strOf))) := fun x hx => by
            have h1 : x ∈ setS (ds.map strOf) := (srtS_perm _).mem_iff.mp hx
            have h2 : (Sum.inr x : Key) ∈ SM.ofKeys ((ds.map strOf).map Sum.inr) := by rw [ofKeys_strs]; exact List.mem_map_of_mem h1
            rcases (ofKeys_mem _ _ _).mp h2 with z | z
            · cases z
            · obtain ⟨y, hy, e⟩ := List.mem_map.mp z
              cases e
              exact oks x hy
          refine ⟨.list ((ds.map strOf).map .str), .list ((srtS (setS (ds.map strOf))).map .str), .lst (SqL.of (xs := (ds.map strOf).map V.str) ?_) (dpAll_strs _), .lst (SqL.of upd_same) (dpAll_strs _), shaped_strs oks, shaped_strs okt, ?_⟩
          · rw [upd_ne nlr, upd_ne nlq, upd_same]
          · have e6 : PyData.eqv (.list ((ds.map strOf).map .str)) (.list ((srtS (setS (ds.map strOf))).map .str)) = ascS (ds.map strOf) := eqvAll_strs _ _
            rw [e6]
            refine k _ (p.1.trans (s3.trans ?_))
            exact same_new (same_new (Same.refl _) hq) hr
    | _ =>
      refine iteT ?_
      refine iteT ?_
      exact k H (Same.refl H)
end
end HP

namespace HP
open PySem PySem.Spec PyProof.Rows L2
/-! ### raising the program's own errors -/
def veB : List Value := [.type "ValueError", .type "Exception", .type "BaseException", .type "object"]
/-- an error class without an __init__ of its own -/
structure Exc0 (K : PySem.W.Frag) (mg : Str → Option Value) (x : Str) (C : Addr) : Prop where
  gC : mg x = some (.ref C)
  ex : PySem.W.excIn K C veB "ValueError.__new__" = true
  kC : PySem.W.keepIn K (.ref C) = true
  sub : PySem.W.subIn K (.ref C) (.type "BaseException") = some true
  ty : PySem.W.typeIn K (.ref C) = some (.type "type")
/-- an error class whose __init__ stores one field -/
structure Exc1 (P : Program) (w : World) (K : PySem.W.Frag) (mg : Str → Option Value) (base : Heap) (x : Str) (C : Addr) (f : Str) (sp : Sp) : Prop where
  gC : mg x = some (.ref C)
  oc : OexC K C
  fn : ∃ (fI : Addr) (fd : FuncData) (ps : List Str), PySem.W.findIn K (.ref C) "__init__" = some (some (.ref fI)) ∧ PySem.W.typeIn K (.ref fI) = some (.type "function") ∧ Binds K fd ps [] ∧ FnOk P w K mg base CX0 1 fI fd ps sp
def spInit1 (C : Addr) (f : Str) : Sp := fun vs H Q _ => ∃ (a : Addr) (y : V), vs = [.ref a, y] ∧ H a = some (exo a C none) ∧ ∀ dx, H dx = none → dx ≠ a → Q .non (upd (upd H dx (exd dx [(f, y)])) a (exo a C (some dx)))
section
variable {X : Cx} {C : Addr} {x f : Str} {e : Expr} {te : TE} {W : WX} {p pos pos2 : Pos}
/-- x() -/
theorem pmk0 (T : Exc0 X.K X.mg x C) (hg : Gl X x := by rfl) (hdb : (x == ("__debug__" : Str)) = false := by decide) : PMk X (.Call (.Name x p) [] [] pos) (fun _ H Q => Q (.ref C) none H) := by
  intro pins s σ H Q I h
  refine wpAny_Call_Name_kw (ld_glob I hg T.gC ?_ hdb)
  refine PySem.W.callWith_K0 I.kIn T.kC ?_
  show wpAny _ _ (call (.ref C) []) _ _ _
  obtain ⟨bm, N, nm, qn, bs, hdct, sn, sub, ab, col, dd, k0, k1, k2, k3, k5, mN, hC, hN, hni, T2⟩ := exc_obj I.kIn T.ex
  refine wpAny_call_exc_subT PySem.F.excBase_ValueError T2 hC hN hni (fun h' e hm => ?_) (by show 0 ≤ sizeLine; exact Nat.zero_le _)
  exact mk_of I hm (raises_own T.sub T.ty) h (I.hok.gone hm.new)
/-- raise x() -/
def tRaise0 (C : Addr) (W : WX) : TS := fun _ σ H => W (.ref C) none σ H
theorem ps_raise0 (T : Exc0 X.K X.mg x C) (hc : X.calm = true) (tk : Takes X W) (hg : Gl X x := by rfl) (hdb : (x == ("__debug__" : Str)) = false := by decide) :
    PS X (.Raise (some (.Call (.Name x p) [] [] pos)) none pos2) (tRaise0 C W) := ps_raise hc tk (pmk0 T hg hdb)
/-- raise x(e) -/
def tRaise1 (C : Addr) (f : Str) (W : WX) (te : TE) : TS := fun _ σ H => te σ H fun v H1 => ∀ d, H1 d = none → W (.ref C) (some d) σ (upd H1 d (.xd [(f, v)]))
theorem ps_raise1 {n : Nat} (T : Exc1 X.prog X.w X.K X.mg X.base x C f (spInit1 C f)) (hc : X.calm = true) (hr : Room n X.A) (hn : 2 ≤ n) (tk : Takes X W) (he : PE X e te) (mono : ∀ σ H (A B : VK), (∀ v H, A v H → B v H) → te σ H A → te σ H B) (hg : Gl X x := by rfl) (hdb : (x == ("__debug__" : Str)) = false := by decide)
    (hs : starEach [e] X.env = (false, eval e X.env) :: starEach [] X.env := by rfl) (hpl : (backTo pos (starEach [] X.env)).any (·.1) = false := by rfl) :
    PS X (.Raise (some (.Call (.Name x p) [e] [] pos)) none pos2) (tRaise1 C f W te) := by
  obtain ⟨fI, fd, ps, iC, tI, hb, F1⟩ := T.fn
  have hE := ps_raise (pos := pos2) hc tk (pmk_oex (pos := pos) (p := p) T.oc iC tI F1 (hr.mono hn) hb .nil (fun _ _ _ _ _ _ _ h => h.elim) hg T.gC (pa_cons he pa_nil hs) hdb hs hpl)
  refine ⟨fun pins s σ H D I h => hE.run pins s σ H D I ?_⟩
  refine mono σ H _ _ (fun v H1 q => ?_) h
  refine ⟨by show 1 ≤ 1000; decide, fun a ha => ⟨a, v, rfl, upd_same, fun dx hdx nda => ⟨rfl, dx, [(f, v)], upd_same, ?_, ?_, ?_⟩⟩⟩
  · rw [upd_ne nda, upd_same]
  · rw [upd_ne nda] at hdx
    exact hdx
  · rw [upd_ne nda] at hdx
    have e : upd (del (upd (upd (upd H1 a (exo a C none)) dx (exd dx [(f, v)])) a (exo a C (some dx))) a) dx (.xd [(f, v)]) = upd H1 dx (.xd [(f, v)]) := by
      funext b
      by_cases h1 : b = dx
      · subst h1; rw [upd_same, upd_same]
      · rw [upd_ne h1, upd_ne h1]
        by_cases h2 : b = a
        · subst h2; rw [del_same]; exact ha.symm
        · rw [del_ne h2, upd_ne h2, upd_ne h1, upd_ne h2]
    rw [e]
    exact q dx hdx
end
end HP

namespace HP
open PySem PySem.Spec PyProof.Rows L2
/-! ### a dict of the written part: its keys walked, list(d), d[k], k in d -/
/-- at d: a dict of the written part with these pairs -/
structure WD (P : Program) (w : World) (K : PySem.W.Frag) (d : Addr) (kvs : List (Key × V)) : Prop where
  sm : (d == sysModules) = false
  ex : ∃ (o : Obj) (es : Array DictEntry) (ep : Nat) (vs : List (Key × Value)), K.lookup d = some o ∧ o.ExactDict ∧ o.data = .dict es ep ∧ KV kvs vs ∧ KeysOf (mixKind P w) es ∧ Pairs (mixKind P w) es.toList vs ∧ (vs.map (·.1)).Nodup
section
variable {X : Cx} {pins : List (Addr × Obj)} {σ : L2.St} {H : Hp} {s : Shared} {d : Addr} {kvs : List (Key × V)} {K : PySem.W.Frag} {P : Program} {w : World} {tg e : Expr} {td : TE}
theorem WD.got (D : WD X.prog X.w X.K d kvs) (I : L2.Inv X pins σ H s) : ∃ (o : Obj) (es : Array DictEntry) (ep : Nat) (vs : List (Key × Value)), s.heap.get? d = some o ∧ o.ExactDict ∧ o.data = .dict es ep ∧ es.size = kvs.length ∧ KV kvs vs ∧ s.heap.DictAt (mixKind X.prog X.w) d vs ep := by
  obtain ⟨o, es, ep, vs, hl, hx, hd, kv, k1, k2, k3⟩ := D.ex
  have ho := I.kIn d o hl
  refine ⟨o, es, ep, vs, ho, hx, hd, ?_, kv, o, es, ho, hx, hd, k1, k2, k3⟩
  have l1 := k2.length
  have l2 : kvs.length = vs.length := Paired.length kv
  rw [Array.length_toList] at l1
  omega
def ItW (kvs : List (Key × V)) : It := ⟨fun i _ => i < kvs.length, fun i H x H' => H' = H ∧ ∃ k v, kvs[i]? = some (k, v) ∧ x = kV k, fun i _ => kvs.length ≤ i⟩
theorem turnW {o : Obj} {es : Array DictEntry} {ep : Nat} (D : WD P w K d kvs) (hlk : K.lookup d = some o) (hod : o.data = .dict es ep) (it : Addr) : Turn P w K tg (ItW kvs) [it] it (fun i h => h.IsKeyIter it d i kvs.length ep) where
  mem := by simp
  obj := fun i h st b hb => by
    have e : b = it := by simpa using hb
    subst e
    obtain ⟨oi, e, c, dd⟩ := st
    exact ⟨oi, e, fun v z => by rw [dd] at z; cases z⟩
  keep := fun i h h' st k => st.at fun oi e => k it (by simp) oi e
  item := by
    intro X hP hw hK hc i pins s σ H E I hf st hg
    subst hP hw hK
    obtain ⟨f0, f1, f2, f3, f4, f5⟩ := hf it (by simp)
    obtain ⟨o', es', ep', vs, ho', hx, hdt, hsz, kv, hm⟩ := D.got I
    have eo : o' = o := Option.some.inj (ho'.symm.trans (I.kIn d o hlk))
    subst eo
    obtain ⟨rfl, rfl⟩ := dict_ep hod hdt
    obtain ⟨⟨k, v⟩, hkv⟩ : ∃ p, kvs[i]? = some p := ⟨kvs[i], List.getElem?_eq_getElem hg⟩
    obtain ⟨u, hu, ru⟩ := kv_get kv hkv
    have hl : kvs.length = vs.length := Paired.length kv
    rw [hl] at st
    refine wpAny_pyNext_dict_item st hm hu fun key h' hkey st' sb => ?_
    have I1 : L2.Inv X pins σ H { s with heap := h' } := I.turned (t' := s.toks) (fun b ob hb e => (sb.2 b hb).trans e) f0 f1 f3 f4 f5
    obtain ⟨oi, e, c, dd⟩ := id st'
    refine ⟨key, rfl, go_of (s := { s with heap := h' }) e c dd (by decide) ⟨kV k, H, I1, relV_key (show keyIs k key = true from hkey), ⟨rfl, k, v, hkv, rfl⟩, ?_, fun b hb => (hf b hb).1⟩⟩
    show h'.IsKeyIter it d (i + 1) kvs.length _
    rw [hl]
    exact st'
  done := by
    intro X hP hw hK hc i pins s σ H E I hf st hg
    subst hP hw hK
    obtain ⟨f0, f1, f2, f3, f4, f5⟩ := hf it (by simp)
    obtain ⟨o', es', ep', vs, ho', hx, hdt, hsz, kv, hm⟩ := D.got I
    have eo : o' = o := Option.some.inj (ho'.symm.trans (I.kIn d o hlk))
    subst eo
    obtain ⟨rfl, rfl⟩ := dict_ep hod hdt
    exact next_key_end (I.ok.hd hc) st ho' hdt hsz hg fun h' eb => ⟨rfl, I.turned (t' := s.toks) (fun b ob hb e => eb b ob hb e) f0 f1 f3 f4 f5⟩
  self := fun A i s Q E st h => wpAny_pyIter_keyiter st h
def iW (d : Addr) (kvs : List (Key × V)) (td : TE) : TI := fun σ H R => td σ H fun x H1 => x = .ref d ∧ R (ItW kvs) H1
theorem pi_keysW (D : WD X.prog X.w X.K d kvs) (he : PE X e td) : PI X tg e (iW d kvs td) := by
  refine ⟨fun pins s σ H R I h => ?_⟩
  refine thn (he.run pins s σ H _ I h) fun u s1 ⟨x, H1, I1, rx, ex, q⟩ => ?_
  subst ex
  obtain rfl : u = Value.ref d := rx
  obtain ⟨o, es, ep, vs, ho, hx, hdt, hsz, kv, hm⟩ := D.got I1
  obtain ⟨o2, _, _, _, hl, _⟩ := D.ex
  have eo : o2 = o := Option.some.inj ((I1.kIn d o2 hl).symm.trans ho)
  subst eo
  refine iter_keys D.sm ho hx hdt (pi_one (tk := s1.toks) I1 _ (turnW D hl hdt _) ⟨_, Heap.get?_push_size _ rfl, rfl, ?_⟩ q)
  rw [hsz] <;> rfl
theorem walkW : Walk (ItW kvs) kvs.length (fun _ => True) (fun i H x H' => H' = H ∧ ∃ k v, kvs[i]? = some (k, v) ∧ x = kV k) :=
  ⟨fun _ _ hi _ => hi, fun _ _ => Nat.le_refl _, fun _ _ _ _ _ _ y => y⟩
/-- list(d) -/
def rListW (d : Addr) (kvs : List (Key × V)) : List V → Hp → VK → Prop := fun xs H Q => xs = [.ref d] ∧ ∀ q, H q = none → Q (.ref q) (upd H q (.lst (kvs.map fun kv => kV kv.1)))
theorem call_listW (D : WD X.prog X.w X.K d kvs) (hz : kvs.length ≤ 1000) (hc : X.calm = true) : CallR X (.type "list") (rListW d kvs) := by
  intro pins s σ H xs us Q I r h
  obtain ⟨e, q⟩ := h
  subst e
  obtain ⟨u, eu, rx⟩ := vals1 r
  subst eu
  obtain rfl : u = Value.ref d := rx
  obtain ⟨o, es, ep, vs, ho, hx, hdt, hsz, rk, hat⟩ := D.got I
  have hl : kvs.length = vs.length := Paired.length rk
  have z : kvs.length ≤ sizeLine := Nat.le_trans hz (by decide)
  refine PySem.W.kdl_call (PySem.W.kdl_dict (knd := mixKind X.prog X.w) (kvs := vs) (ep := ep) D.sm) (I.ok.hd hc) hat (by rw [← hl]; exact z) fun h' tk acc' c' hkeep hS hacc => ?_
  refine ⟨.ref s.heap.objs.size, upd H s.heap.objs.size (.lst (kvs.map fun kv => kV kv.1)), I.laid hkeep (Nat.le_refl _) (show ObjOk X.prog X.w _ _ _ (.lst (kvs.map fun kv => kV kv.1)) from ⟨?_, acc'.toList, c', ?_, ?_⟩), rfl, q _ (I.hok.fresh (Nat.le_refl _))⟩
  · rw [List.length_map]; exact z
  · have el : acc'.toList.length = acc'.size := by simp
    refine vals_of_at (by rw [List.length_map, el, hacc.1, hl]) fun j x w h1 h2 => ?_
    obtain ⟨k, y, hky, hi⟩ := hacc.2 j w (by rw [← Array.getElem?_toList]; exact h2)
    have e1 : (kvs.map (·.1))[j]? = some k := by
      rw [KV.keys rk, List.getElem?_map, hky] <;> rfl
    have e2 : (kvs.map fun kv => kV kv.1)[j]? = some (kV k) := by
      have e3 : (kvs.map fun kv => kV kv.1) = (kvs.map (·.1)).map kV := by rw [List.map_map] <;> rfl
      rw [e3, List.getElem?_map, e1] <;> rfl
    rw [e2] at h1
    cases h1
    exact keyIs_rel hi
  · rw [Array.toArray_toList]; exact hS
/-- d[k] -/
def rIxW (d : Addr) (kvs : List (Key × V)) : R2 := fun x y H Q => ∃ (k : Key) (v : V), x = .ref d ∧ y = kV k ∧ valV kvs k = some v ∧ Q v H
theorem ixW (D : WD X.prog X.w X.K d kvs) : IxR X (rIxW d kvs) := by
  intro value slice pins s σ H x y v u Q I rx ry h hs
  obtain ⟨k, v0, rfl, rfl, e, q⟩ := h
  obtain rfl : v = Value.ref d := rx
  obtain ⟨o, es, ep, vs, ho, hx, hdt, hsz, rk, hat⟩ := D.got I
  obtain ⟨w', hw, rw'⟩ := RelO.some_of (v := v0) (o := valueAt vs k) (by rw [← e]; exact rk.val k)
  exact tail_any hat.dictOf.mapOf.typeIs slot_dict_getitem.lookup (wpAny_getItem_of (kV_is ry) hat.dictOf.mapOf hw ⟨v0, H, I.tok _, rw', q⟩) hs
def rInW (d : Addr) (kvs : List (Key × V)) (neg : Bool) : R2 := fun x y H Q => ∃ k : Key, x = kV k ∧ y = .ref d ∧ Q (.bl (if neg then !(valV kvs k).isSome else (valV kvs k).isSome)) H
theorem inW (D : WD X.prog X.w X.K d kvs) : OpR X (compareOp .In) (rInW d kvs false) := by
  intro pins s σ H x y v u Q I rx ry h
  obtain ⟨k, rfl, rfl, q⟩ := h
  cases ry
  obtain ⟨o, es, ep, vs, ho, hx, hdt, hsz, rk, hat⟩ := D.got I
  refine wpAny_in_of (kV_is rx) D.sm hat.dictOf.mapOf ?_
  rw [← (rk.val k).isSome_eq]
  exact ⟨.bl (valV kvs k).isSome, H, I.tok _, rfl, q⟩
theorem notInW (D : WD X.prog X.w X.K d kvs) : OpR X (compareOp .NotIn) (rInW d kvs true) := by
  intro pins s σ H x y v u Q I rx ry h
  obtain ⟨k, rfl, rfl, q⟩ := h
  cases ry
  obtain ⟨o, es, ep, vs, ho, hx, hdt, hsz, rk, hat⟩ := D.got I
  refine wpAny_notIn_of (kV_is rx) D.sm hat.dictOf.mapOf ?_
  rw [← (rk.val k).isSome_eq]
  exact ⟨.bl (!(valV kvs k).isSome), H, I.tok _, rfl, q⟩
end
end HP

namespace HP
open PySem PySem.Spec PyProof.Rows L2
abbrev sLook : Stmt := top 18
/-! ### a rule -/
theorem monoC {v : V} : ∀ (σ : L2.St) (H : Hp) (A B : VK), (∀ v H, A v H → B v H) → tC v σ H A → tC v σ H B := fun _ _ _ _ h q => h _ _ q
theorem monoV {i : Nat} : ∀ (σ : L2.St) (H : Hp) (A B : VK), (∀ v H, A v H → B v H) → tVar i σ H A → tVar i σ H B := fun _ _ _ _ h ⟨v, e, q⟩ => ⟨v, e, h _ _ q⟩
def partNames : List Str := ["asleep", "changing", "count", "first", "ring", "sorting"]
theorem ok_partNames : okS partNames := by
  show ∀ x ∈ partNames, PyData.strOk x = true
  decide +kernel
def partWords (p : Str) : List Str :=
  if p = "asleep" then ["keep", "drop"] else if p = "changing" then ["keep", "clear"] else if p = "count" then ["all", "rest"] else if p = "first" then ["newer", "elder"] else if p = "ring" then ["refuse", "turn"] else ["keep", "clear"]
/-- the table PARTS -/
structure Pt (P : Program) (w : World) (K : PySem.W.Frag) (mg : Str → Option Value) (d : Addr) (pa : Str → Addr) : Prop where
  gl : mg "PARTS" = some (.ref d)
  wd : WD P w K d (partNames.map fun p => (Sum.inr p, V.ref (pa p)))
  tup : ∀ p ∈ partNames, ∀ H, SqT K H (pa p) ((partWords p).map V.str)
/-- a dict of data -/
def DicAt (K : PySem.W.Frag) (H : Hp) (a : Addr) (kds : List (Key × PyData)) : Prop := ∃ kvs, H a = some (.dK kvs) ∧ Paired (fun (p : Key × V) (q : Key × PyData) => p.1 = q.1 ∧ Dp K H p.2 q.2) kvs kds
def valD (kds : List (Key × PyData)) (k : Key) : Option PyData := (kds.find? fun kv => decide (kv.1 = k)).map (·.2)
theorem valD_of {K : PySem.W.Frag} {H : Hp} : ∀ {kvs : List (Key × V)} {kds : List (Key × PyData)}, Paired (fun (p : Key × V) (q : Key × PyData) => p.1 = q.1 ∧ Dp K H p.2 q.2) kvs kds → ∀ {k : Key} {d : PyData}, valD kds k = some d → ∃ v, valV kvs k = some v ∧ Dp K H v d
  | _, _, .nil, k, d, h => by cases h
  | p :: kvs, q :: kds, .cons r t, k, d, h => by
    unfold valD at h
    unfold valV
    rw [List.find?_cons] at h ⊢
    rw [r.1]
    cases e : decide (q.1 = k) with
    | true =>
      rw [e] at h
      cases h
      exact ⟨p.2, rfl, r.2⟩
    | false =>
      rw [e] at h
      exact valD_of t h
/-- what is handed in as a rule: no dict, or a dict -/
inductive RuleV (K : PySem.W.Frag) (H : Hp) : V → Option (List (Key × PyData)) → Prop where
  | dat {v : V} {d : PyData} (h : Dp K H v d) : RuleV K H v none
  | dic {a : Addr} {kds : List (Key × PyData)} (h : DicAt K H a kds) : RuleV K H (.ref a) (some kds)
def isTxt : Key → Bool
  | .inr _ => true
  | .inl _ => false
def txt : Key → Str
  | .inr x => x
  | .inl _ => Str.empty
/-- the word d of the part p is one of its words -/
def goodPart (p : Str) : Option PyData → Bool
  | some (.str x) => decide (x ∈ partWords p)
  | _ => false
/-- the fault of a rule, none: it has none -/
def faultD (kds : List (Key × PyData)) : Option Str :=
  if (kds.map (·.1)).all isTxt = true then
    if srtS ((kds.map (·.1)).map txt) = partNames then partNames.find? fun p => !goodPart p (valD kds (Sum.inr p)) else some ("" : Str)
  else some ("" : Str)
def faultOf : Option (List (Key × PyData)) → Option Str
  | none => some ("" : Str)
  | some kds => faultD kds
section
variable {P : Program} {w : World} {K : PySem.W.Frag} {mg : Str → Option Value} {base : Heap}
def spLook (K : PySem.W.Frag) (C : Addr) : Sp := fun vs H Q E => ∃ (v : V) (r : Option (List (Key × PyData))), vs = [v] ∧ RuleV K H v r ∧ (∀ kds, r = some kds → kds.length < 64 ∧ okS ((kds.map (·.1)).map txt)) ∧
  (faultOf r = none → ∀ H', Same H H' → Q .non H') ∧
  ∀ p, faultOf r = some p → ∀ H' d, Same H H' → H d = none → H' d = some (.xd [("part", .str p)]) → E (.ref C) (some d) H'
theorem scLook : FnScope ["rule", "part"] ["rule"] (defScope sLook) := ⟨rfl, rfl, rfl, by decide +kernel, rfl, by decide +kernel, by decide +kernel⟩
theorem ok_look {C dP : Addr} {pa : Str → Addr} (D : Dat K mg "look_at_rule" sLook) (T : Fr mg) (Z : Pt P w K mg dP pa) (XR : Exc1 P w K mg base "InvalidRule" C "part" (spInit1 C "part")) : Fn P w K mg base (L2.CX P w) 3 "look_at_rule" (spLook K C) := by
  refine Fn.of D scLook (fun _ _ _ _ _ _ us hl => match us, hl with | [_], _ => rfl) (fun vs H Q E h => ?_) (fun f cdv A outer s H vs Q E hr h => ?_)
  · obtain ⟨v, d, rfl, _⟩ := h
    rfl
  · obtain ⟨v, r, rfl, hv, hsz, kQ, kE⟩ := h
    have hu : _ < cLine := hu_of hr
    refine ⟨_, (pss_cons (ps_if (PW.pt (pw_or (pt_not (pt_val (pe_callB (kIsi (K := K)) (by rfl) (T.fr "isinstance" (by decide +kernel)) (by decide +kernel) (pa_cons (pv 0) (pa_cons (pe_bltn (v := .ty "dict") (u := .type "dict") (by rfl) (T.fr "dict" (by decide +kernel)) (by decide +kernel) rfl) pa_nil))))) (pw_or1 (pt_not (pt_val (pe_callB (kAll (K := K) rfl) (by rfl) (T.fr "all" (by decide +kernel)) (by decide +kernel) (pa_cons (pe_lock (pe_lc (own := [("part", 1)]) (g := gName 1) (by rfl) scLook.nd (pi_keys (pv 0)) (blkOk_by (own := [("part", 1)]) (N := ["rule", "part"]) (sc := defScope sLook) (by decide +kernel)) (fun _ _ _ _ _ => (pg_name (i := 1) scLook.nd rfl (Or.inl rfl))) (fun _ _ _ _ _ => pts_nil) (fun _ _ _ _ _ => (pe_callB (kIsi (K := K)) (by rfl) (T.fr "isinstance" (by decide +kernel)) (by decide +kernel) (pa_cons (pv 1) (pa_cons (pe_bltn (v := .ty "str") (u := .type "str") (by rfl) (T.fr "str" (by decide +kernel)) (by decide +kernel) rfl) pa_nil)))))) pa_nil))))))) (pss_one (ps_raise1 XR rfl hr (by decide) (takes_of rfl rfl rfl rfl) pe_str monoC)) pss_nil)
      (pss_cons (ps_if (pt_cmpR (oNeD (K := K) hr.units) (pe_callB (kSortS (K := K)) (by rfl) (T.fr "sorted" (by decide +kernel)) (by decide +kernel) (pa_cons (pe_callTy (call_list_dK rfl) (by rfl) (T.fr "list" (by decide +kernel)) (by decide +kernel) (pa_cons (pv 0) pa_nil)) pa_nil)) (pe_callTy (call_listW Z.wd (by rw [List.length_map]; decide) rfl) (by rfl) (T.fr "list" (by decide +kernel)) (by decide +kernel) (pa_cons (pe_glob (v := .ref dP) (by rfl) Z.gl rfl) pa_nil)) (nomark _)) (pss_one (ps_raise1 XR rfl hr (by decide) (takes_of rfl rfl rfl rfl) pe_str monoC)) pss_nil)
      (pss_one (ps_for (passes_of rfl) rfl (pi_keysW Z.wd (pe_glob (v := .ref dP) (by rfl) Z.gl rfl)) (pg_name (i := 1) scLook.nd rfl (Or.inl rfl)) (pss_one (ps_if (PW.pt (pw_or (pt_not (pt_val (pe_callB (kIsi (K := K)) (by rfl) (T.fr "isinstance" (by decide +kernel)) (by decide +kernel) (pa_cons (pe_dget hu (pv 0) (pv 1) (fun _ _ => rfl)) (pa_cons (pe_bltn (v := .ty "str") (u := .type "str") (by rfl) (T.fr "str" (by decide +kernel)) (by decide +kernel) rfl) pa_nil))))) (pw_or1 (pt_cmpR (oNotIn (K := K)) (pe_dget hu (pv 0) (pv 1) (fun _ _ => rfl)) (pe_ix (ixW Z.wd) (pe_glob (v := .ref dP) (by rfl) Z.gl rfl) (pv 1) (fun _ _ => rfl)) (by rfl))))) (pss_one (ps_raise1 XR rfl hr (by decide) (takes_of rfl rfl rfl rfl) (pv 1) monoV)) pss_nil)))))), ?_⟩
    have e0 : ∀ H', Same H H' → faultOf r = some ("" : Str) → ∀ d, H' d = none → E (.ref C) (some d) (upd H' d (.xd [("part", .str "")])) := fun H' s e d hd => kE "" e _ d (same_new s hd) (s.free hd) upd_same
    cases hv with
    | @dat v d hd =>
      have nd : tyD d ≠ "dict" := by cases hd <;> simp [tyD]
      have en : isaB (tyD d) "dict" = false := by
        unfold isaB
        rw [beq_eq_false_iff_ne.mpr nd]
        cases (tyD d == "bool") <;> rfl
      refine ⟨_, rfl, v, _, _, _, _, rfl, .ty "dict", dp_ty hd, kitD d (by decide), _, rfl, ?_⟩
      rw [en]
      refine iteT ?_
      refine iteT ?_
      exact fun d hd => e0 H (Same.refl H) rfl d hd
    | @dic a kds h =>
      obtain ⟨kvs, ha, hp⟩ := h
      obtain ⟨h64, hok⟩ := hsz kds rfl
      have hl : kvs.length = kds.length := Paired.length hp
      have hks : kvs.map (·.1) = kds.map (·.1) := by
        clear ha hl hsz kQ kE e0 h64 hok
        induction hp with
        | nil => rfl
        | cons r t ih => rw [List.map_cons, List.map_cons, r.1, ih]
      refine ⟨_, rfl, .ref a, _, _, _, _, rfl, .ty "dict", .base (.dK ha), kit_ty (r := true) (by decide +kernel), _, rfl, ?_⟩
      refine iteF ?_
      refine ⟨a, .dK kvs, ha, trivial, fun od => ?_⟩
      refine ⟨_, rfl, a, od, rfl, .inl ⟨kvs, upd_same, fun D hD => ?_⟩⟩
      refine lc_it walk_keys (Cv (upd H a (.frz od (.dK kvs))) D fun i => (((kds.map (·.1)).take i).map isTxt).map V.bl) (cv0 hD rfl) (fun i H2 _ p => p.1 a _ upd_same) (fun i y H2 H3 hi p q => ?_) (fun H2 p => ?_)
      · obtain ⟨rfl, k, v, hk, rfl⟩ := q
        refine ⟨rfl, ?_⟩
        refine lc_yes ?_
        have fin : ∃ acc, H3 D = some (.lst acc) ∧ acc.length < sizeLine ∧ Cv (upd H a (.frz od (.dK kvs))) D (fun i => (((kds.map (·.1)).take i).map isTxt).map V.bl) (i + 1) (upd H3 D (.lst (acc ++ [.bl (isTxt k)]))) := by
          refine cv_yes hD p.1 p.2 ?_ ?_
          · simp only [List.length_map, List.length_take]
            omega
          · have hk2 : (kds.map (·.1))[i]? = some k := by rw [← hks, List.getElem?_map, hk]; rfl
            rw [snoc_at isTxt hk2, List.map_append]
            rfl
        cases k with
        | inl n => exact ⟨_, rfl, _, _, _, _, _, rfl, .ty "str", .base (.int n), kit_ty (r := false) (by decide +kernel), fin⟩
        | inr x => exact ⟨_, rfl, _, _, _, _, _, rfl, .ty "str", .base (.str x), kit_ty (r := true) (by decide +kernel), fin⟩
      · have hp2 : H2 D = some (.lst (((kds.map (·.1)).map isTxt).map V.bl)) := by
          have z := p.2
          dsimp only at z
          have e : (kds.map (·.1)).length = kvs.length := by rw [List.length_map]; exact hl.symm
          rw [← e, List.take_length] at z
          exact z
        refine ⟨p.1 a _ upd_same, ?_⟩
        have nDa : D ≠ a := fun z => by rw [z, upd_same] at hD; cases hD
        have s1 : Same H (upd H2 a (.dK kvs)) := fun b o e => by
          by_cases hb : b = a
          · subst hb
            rw [ha] at e
            cases e
            exact upd_same
          · rw [upd_ne hb]
            exact p.1 b o (by rw [upd_ne hb]; exact e)
        generalize eH3 : upd H2 a (.dK kvs) = H3 at s1
        have hD3 : H3 D = some (.lst (((kds.map (·.1)).map isTxt).map V.bl)) := by rw [← eH3, upd_ne nDa]; exact hp2
        refine ⟨D, (kds.map (·.1)).map isTxt, rfl, SqL.of hD3, _, rfl, ?_⟩
        have e2 : ((kds.map (·.1)).map isTxt).all id = (kds.map (·.1)).all isTxt := by rw [List.all_map]; rfl
        rw [e2]
        cases h1 : (kds.map (·.1)).all isTxt with
        | false =>
          refine iteT ?_
          exact fun d hd => e0 H3 s1 (by show faultD kds = _; unfold faultD; rw [h1]; rfl) d hd
        | true =>
          refine iteF ?_
          have hkt : kvs.map (fun kv => kV kv.1) = ((kds.map (·.1)).map txt).map V.str := by
            have e3 : (kvs.map fun kv => kV kv.1) = (kvs.map (·.1)).map kV := by rw [List.map_map]; rfl
            rw [e3, hks, ← kv_strs]
            congr 1
            generalize kds.map (·.1) = l at h1
            clear e3
            induction l with
            | nil => rfl
            | cons k l ih =>
              rw [List.all_cons, Bool.and_eq_true] at h1
              rw [List.map_cons, List.map_cons, ← ih h1.2]
              cases k with
              | inl n => cases h1.1
              | inr x => rfl
          refine ⟨_, rfl, a, kvs, rfl, s1 a _ ha, fun l hl3 => ?_⟩
          rw [hkt]
          have s2 : Same H3 (upd H3 l (.lst (((kds.map (·.1)).map txt).map V.str))) := same_new (Same.refl H3) hl3
          refine ⟨l, (kds.map (·.1)).map txt, rfl, SqL.of upd_same, ?_, fun ys q py sy hq => ?_⟩
          · rw [List.length_map, List.length_map]
            exact h64
          have ey := srtS_only py sy
          subst ey
          have s3 := s2.trans (same_new (o := .lst ((srtS ((kds.map (·.1)).map txt)).map V.str)) (Same.refl _) hq)
          generalize eH4 : upd (upd H3 l (.lst (((kds.map (·.1)).map txt).map V.str))) q (.lst ((srtS ((kds.map (·.1)).map txt)).map V.str)) = H4 at s3
          have hq4 : H4 q = some (.lst ((srtS ((kds.map (·.1)).map txt)).map V.str)) := by rw [← eH4, upd_same]
          refine ⟨rfl, fun m hm => ?_⟩
          have eP : (partNames.map fun p => ((Sum.inr p : Key), V.ref (pa p))).map (fun kv => kV kv.1) = partNames.map V.str := by rw [List.map_map]; rfl
          rw [eP]
          have s4 : Same H4 (upd H4 m (.lst (partNames.map V.str))) := same_new (Same.refl H4) hm
          have nqm : q ≠ m := ne_of_none hq4 hm
          have okt : okS (srtS ((kds.map (·.1)).map txt)) := fun x hx => hok x ((srtS_perm _).mem_iff.mp hx)
          refine ⟨.list ((srtS ((kds.map (·.1)).map txt)).map .str), .list (partNames.map .str), .lst (SqL.of (xs := (srtS ((kds.map (·.1)).map txt)).map V.str) (by rw [upd_ne nqm]; exact hq4)) (dpAll_strs _), .lst (SqL.of upd_same) (dpAll_strs _), shaped_strs okt, shaped_strs ok_partNames, _, rfl, ?_⟩
          have e6 : PyData.eqv (.list ((srtS ((kds.map (·.1)).map txt)).map .str)) (.list (partNames.map .str)) = decide (srtS ((kds.map (·.1)).map txt) = partNames) := eqvAll_strs _ _
          rw [e6]
          have s5 := s1.trans (s3.trans s4)
          by_cases h2 : srtS ((kds.map (·.1)).map txt) = partNames
          · rw [decide_eq_true h2]
            refine iteF ?_
            have hf : faultOf (some kds) = partNames.find? fun p => !goodPart p (valD kds (Sum.inr p)) := by show faultD kds = _; unfold faultD; rw [if_pos h1, if_pos h2]
            refine ⟨rfl, ?_⟩
            refine for_it (walkW (kvs := partNames.map fun p => (Sum.inr p, V.ref (pa p)))) (fun i σ H5 => ∃ v1, σ = [some (.ref a), v1] ∧ Same H H5 ∧ ∀ p ∈ partNames.take i, goodPart p (valD kds (Sum.inr p)) = true) ⟨none, rfl, s5, fun p hp => by cases hp⟩ (fun _ _ _ _ _ => True.intro) ?_ ?_
            · rintro i y σ H5 H6 hi ⟨v1, rfl, s6, hg⟩ ⟨rfl, k, v, hk, rfl⟩
              rw [List.getElem?_map] at hk
              obtain ⟨p, hpi, e⟩ : ∃ p, partNames[i]? = some p ∧ (Sum.inr p, V.ref (pa p)) = (k, v) := by
                cases q : partNames[i]? with
                | none => rw [q] at hk; cases hk
                | some p => rw [q] at hk; exact ⟨p, rfl, Option.some.inj hk⟩
              cases e
              have hpm : p ∈ partNames := List.mem_of_getElem? hpi
              have hin : p ∈ (kds.map (·.1)).map txt := by rw [← h2] at hpm; exact (srtS_perm _).mem_iff.mp hpm
              obtain ⟨d, hd⟩ : ∃ d, valD kds (Sum.inr p) = some d := by
                obtain ⟨k, hk, ek⟩ := List.mem_map.mp hin
                have hkt := List.all_eq_true.mp h1 k hk
                obtain ⟨⟨k', d⟩, hkd, e⟩ := List.mem_map.mp hk
                dsimp only at e
                subst e
                cases k' with
                | inl n => cases hkt
                | inr x =>
                  have ex : x = p := ek
                  subst ex
                  unfold valD
                  cases q : kds.find? (fun kv => decide (kv.1 = Sum.inr x)) with
                  | none =>
                    have := List.find?_eq_none.mp q _ hkd
                    simp at this
                  | some z => exact ⟨z.2, rfl⟩
              obtain ⟨v, hv, hdv⟩ := valD_of hp hd
              have hdv5 := Dp.same s6 d hdv
              have ha5 := s6 a _ ha
              have hgt : DGet H6 a (.str p) (some v) := by
                rw [← hv]
                exact DGet.k (k := Sum.inr p) ha5
              refine ⟨_, rfl, _, rfl, a, v, rfl, hgt, v, _, _, _, _, rfl, .ty "str", dp_ty hdv5, kitD d (by decide), _, rfl, ?_⟩
              have stop : goodPart p (valD kds (Sum.inr p)) = false → faultOf (some kds) = some p := fun hb => by
                rw [hf]
                refine List.find?_eq_some_iff_getElem.mpr ⟨by rw [hb]; rfl, i, (List.getElem?_eq_some_iff.mp hpi).1, (List.getElem?_eq_some_iff.mp hpi).2, fun j hj => ?_⟩
                have hjl : j < partNames.length := Nat.lt_trans hj (List.getElem?_eq_some_iff.mp hpi).1
                have := hg partNames[j] (List.mem_take_iff_getElem.mpr ⟨j, by omega, rfl⟩)
                rw [this]
                rfl
              have go : goodPart p (valD kds (Sum.inr p)) = true → ∀ q ∈ partNames.take (i + 1), goodPart q (valD kds (Sum.inr q)) = true := fun hb q hq => by
                rw [List.take_add_one, hpi] at hq
                rcases List.mem_append.mp hq with hq | hq
                · exact hg q hq
                · rw [List.mem_singleton.mp hq]
                  exact hb
              cases d with
              | str x =>
                cases hdv
                refine iteF ?_
                refine ⟨_, rfl, _, rfl, a, _, rfl, hgt, ?_⟩
                refine ⟨_, rfl, Sum.inr p, V.ref (pa p), rfl, rfl, ?_, ?_⟩
                · have all : ∀ (l : List Str), p ∈ l → valV (l.map fun p => ((Sum.inr p : Key), V.ref (pa p))) (Sum.inr p) = some (.ref (pa p)) := fun l => by
                    induction l with
                    | nil => intro h; cases h
                    | cons z l ih =>
                      intro h
                      unfold valV
                      rw [List.map_cons, List.find?_cons]
                      by_cases hz : z = p
                      · subst hz
                        rw [show decide ((Sum.inr z : Key) = Sum.inr z) = true from decide_eq_true rfl]
                        rfl
                      · rw [show decide ((Sum.inr z : Key) = Sum.inr p) = false from decide_eq_false fun q => hz (Sum.inr.inj q)]
                        rcases List.mem_cons.mp h with h | h
                        · exact absurd h.symm hz
                        · exact ih h
                  exact all partNames hpm
                · refine ⟨pa p, _, rfl, .inr (Z.tup p hpm _), rfl, flat_strs _, _, rfl, ?_⟩
                  rw [inV_strs]
                  have eg : goodPart p (valD kds (Sum.inr p)) = decide (x ∈ partWords p) := by rw [hd]; rfl
                  cases hb : decide (x ∈ partWords p) with
                  | true =>
                    rw [hb] at eg
                    refine iteF ?_
                    exact ⟨_, rfl, s6, go eg⟩
                  | false =>
                    rw [hb] at eg
                    refine iteT ?_
                    refine ⟨_, rfl, fun d hd => ?_⟩
                    exact kE p (stop eg) _ d (same_new s6 hd) (s6.free hd) upd_same
              | _ =>
                refine iteT ?_
                refine iteT ?_
                refine ⟨_, rfl, fun d hd2 => ?_⟩
                exact kE p (stop (by rw [hd]; rfl)) _ d (same_new s6 hd2) (s6.free hd2) upd_same
            · rintro σ H5 ⟨v1, rfl, s6, hg⟩
              refine kQ ?_ H5 s6
              rw [hf]
              refine List.find?_eq_none.mpr fun p hp => ?_
              have e : partNames.take (partNames.map fun p => ((Sum.inr p : Key), V.ref (pa p))).length = partNames := by rw [List.length_map, List.take_length]
              rw [hg p (by rw [e]; exact hp)]
              decide
          · rw [decide_eq_false h2]
            refine iteT ?_
            exact fun d hd => e0 _ s5 (by show faultD kds = _; unfold faultD; rw [if_pos h1, if_neg h2]) d hd
end
end HP

namespace HP
open PySem PySem.Spec PyProof.Rows L2 SlX
abbrev sInit : Stmt := inClass (top 20) 1
/-! ### scenes -/
theorem dc_it {J : It} {n : Nat} {G : Hp → Prop} {Y : Nat → Hp → V → Hp → Prop} (w : Walk J n G Y) {g : TG} {tt : TT} {tk tv : TE} {vs : List Nat} {σ : L2.St} {H1 : Hp} {D : Addr} {Qd : Hp → Prop} (Pv : Nat → Hp → Prop) (h0 : Pv 0 (upd H1 D (.dK []))) (hG : ∀ i H, i ≤ n → Pv i H → G H)
    (hs : ∀ i x H H', i < n → Pv i H → Y i H x H' → g x (wipe σ vs) H' fun σ2 H2 => wipe σ2 vs = wipe σ vs ∧ tt σ2 H2 fun b H3 =>
      if b = true then tk σ2 H3 fun y H4 => tv σ2 H4 fun z H5 => ∃ kvs k, y = kV k ∧ H5 D = some (.dK kvs) ∧ kvs.length < sizeLine ∧ Pv (i + 1) (upd H5 D (.dK (putK kvs k z))) else Pv (i + 1) H3) (hd : ∀ H, Pv n H → Qd H) :
    ∃ W : Nat → Nat → Hp → Prop, (∃ m, W 0 m (upd H1 D (.dK []))) ∧ ∀ i m H, W i m H →
      (J.stop i H ∧ Qd H) ∨ (J.go i H ∧ ∃ Nx : Hp → Prop, (∀ H', Nx H' → ∃ m', m' < m ∧ W (i + 1) m' H') ∧ ∀ x H', J.yld i H x H' → g x (wipe σ vs) H' fun σ2 H2 => wipe σ2 vs = wipe σ vs ∧ tt σ2 H2 fun b H3 =>
        if b = true then tk σ2 H3 fun y H4 => tv σ2 H4 fun z H5 => ∃ kvs k, y = kV k ∧ H5 D = some (.dK kvs) ∧ kvs.length < sizeLine ∧ Nx (upd H5 D (.dK (putK kvs k z))) else Nx H3) := by
  refine ⟨fun i m H => m = n - i ∧ i ≤ n ∧ Pv i H, ⟨n, by simp, Nat.zero_le _, h0⟩, ?_⟩
  rintro i m H ⟨rfl, hi, p⟩
  have q := hG i H hi p
  by_cases hlt : i < n
  · refine .inr ⟨w.goes i H hlt q, Pv (i + 1), fun H' p' => ⟨n - (i + 1), by omega, rfl, hlt, p'⟩, fun x H' y => hs i x H H' hlt p (w.yields i H x H' hlt q y)⟩
  · have e : i = n := by omega
    subst e
    exact .inl ⟨w.stops H q, hd H p⟩
theorem not_in_take {α : Type} {l : List α} (nd : l.Nodup) {j : Nat} {x : α} (h : l[j]? = some x) : x ∉ l.take j := fun hm => by
  obtain ⟨hj, e⟩ := List.getElem?_eq_some_iff.mp h
  have e2 : l.take j ++ l.drop j = l := List.take_append_drop j l
  rw [← e2, List.nodup_append] at nd
  refine nd.2.2 x hm x ?_ rfl
  rw [List.drop_eq_getElem_cons hj, e]
  exact List.mem_cons_self
theorem nodup_parts : partNames.Nodup := by decide +kernel
/-- the places of the slots -/
structure SlC (K : PySem.W.Frag) (C : Addr) : Prop where
  cls : SCls K C
  names : ∃ p, Slot1 K C "names" p 0
  size : ∃ p, Slot1 K C "size" p 2
  policy : ∃ p, Slot1 K C "policy" p 1
  told : ∃ p, Slot1 K C "told" p 3
/-- what a scene is made of -/
structure Sc where
  names : List Str
  many : Int
  word : Str → Str
  words : List Str
def Sc.pol (s : Sc) : List (Key × V) := partNames.map fun p => (Sum.inr p, V.str (s.word p))
/-- at a: the scene s, its parts at n, q, t -/
def SceneAt (K : PySem.W.Frag) (C : Addr) (H : Hp) (a : Addr) (s : Sc) : Prop :=
  ∃ (dx n q t : Addr), Slt H a C dx [some (.ref n), some (.ref q), some (.int s.many), some (.ref t)] ∧ SqT K H n (s.names.map V.str) ∧ H q = some (.dK s.pol) ∧ SqT K H t (s.words.map V.str)
theorem Slt.same {H H' : Hp} {a C dx : Addr} {vs : List (Option V)} (s : Same H H') (h : Slt H a C dx vs) : Slt H' a C dx vs := by
  rcases h with ⟨h, e⟩ | ⟨h, k⟩
  · exact .inl ⟨s _ _ h, e⟩
  · exact .inr ⟨s _ _ h, s _ _ k⟩
theorem SceneAt.same {K : PySem.W.Frag} {C a : Addr} {H H' : Hp} {s : Sc} (e : Same H H') (h : SceneAt K C H a s) : SceneAt K C H' a s := by
  obtain ⟨dx, n, q, t, h1, h2, h3, h4⟩ := h
  exact ⟨dx, n, q, t, Slt.same e h1, SqT.same e h2, e _ _ h3, SqT.same e h4⟩
/-! ### Scene.__init__ -/
inductive Fault where
  | things | values | rule (p : Str) | words
def isManyD : PyData → Bool
  | .int i => decide (1 ≤ i) && decide (i ≤ 3)
  | _ => false
/-- the first fault of what a scene is made of -/
def sceneFault (dT dM : PyData) (r : Option (List (Key × PyData))) (dW : PyData) : Option Fault :=
  if isThingsD dT = true then
    if isManyD dM = true then
      match faultOf r with
      | some p => some (.rule p)
      | none => if isWordsD dW = true then none else some .words
    else some .values
  else some .things
def intOf : PyData → Int
  | .int i => i
  | _ => 0
def strsOf : PyData → List Str
  | .tuple ds => ds.map strOf
  | _ => []
def kdsOf : Option (List (Key × PyData)) → List (Key × PyData)
  | some kds => kds
  | none => []
/-- the scene of what has no fault -/
def scOf (dT dM : PyData) (r : Option (List (Key × PyData))) (dW : PyData) : Sc := ⟨strsOf dT, intOf dM, fun p => strOf ((valD (kdsOf r) (Sum.inr p)).getD .none), strsOf dW⟩
structure Cls4 where
  things : Addr
  values : Addr
  rule : Addr
  words : Addr
/-- what is raised for a fault -/
def Raised (c : Cls4) (H : Hp) (E : XK) : Fault → Prop
  | .things => ∀ H', Same H H' → E (.ref c.things) none H'
  | .values => ∀ H', Same H H' → E (.ref c.values) none H'
  | .rule p => ∀ H' d, Same H H' → H d = none → H' d = some (.xd [("part", .str p)]) → E (.ref c.rule) (some d) H'
  | .words => ∀ H', Same H H' → E (.ref c.words) none H'
section
variable {P : Program} {w : World} {K : PySem.W.Frag} {mg : Str → Option Value} {base : Heap}
/-- what the arguments are -/
structure ScArgs (K : PySem.W.Frag) (H : Hp) (vT vM vR vW : V) (dT dM : PyData) (r : Option (List (Key × PyData))) (dW : PyData) : Prop where
  ht : Dp K H vT dT
  hts : Small dT
  hm : Dp K H vM dM
  hr : RuleV K H vR r
  hrs : ∀ kds, r = some kds → kds.length < 64 ∧ okS ((kds.map (·.1)).map txt)
  hw : Dp K H vW dW
  hws : ∀ ds, dW = .tuple ds → ds.length < 64
def spInit (K : PySem.W.Frag) (C : Addr) (c : Cls4) : Sp := fun vs H Q E => ∃ (x dx : Addr) (vT vM vR vW : V) (dT dM : PyData) (r : Option (List (Key × PyData))) (dW : PyData), vs = [.ref x, vT, vM, vR, vW] ∧ H x = some (.ins C dx []) ∧ H dx = some (.own x) ∧ dx ≠ x ∧
  ScArgs K H vT vM vR vW dT dM r dW ∧
  (sceneFault dT dM r dW = none → ∀ H', (∀ b o, H b = some o → b ≠ x → b ≠ dx → H' b = some o) → SceneAt K C H' x (scOf dT dM r dW) → Q .non H') ∧
  ∀ f, sceneFault dT dM r dW = some f → Raised c H E f
theorem scInit : FnScope ["self", "things", "many", "rule", "words", "part"] ["self", "things", "many", "rule", "words"] (defScope sInit) := ⟨rfl, rfl, rfl, by decide +kernel, rfl, by decide +kernel, by decide +kernel⟩
theorem ok_init {C dP fI : Addr} {fd : FuncData} {pa : Str → Addr} {c : Cls4} (F : FunD K "__init__" "Scene.__init__" (defArgs sInit) (defBody sInit) (defScope sInit) [] [] fI fd) (T : Fr mg) (Cc : Cs K mg) (Z : Pt P w K mg dP pa) (S : SlC K C)
    (X1 : Exc0 K mg "InvalidThings" c.things) (X2 : Exc0 K mg "InvalidValues" c.values) (X4 : Exc0 K mg "InvalidWords" c.words)
    (FT : Fn P w K mg base CX0 2 "are_things" (spThings K)) (FI : Fn P w K mg base CX0 1 "is_integer" (spIsInt K)) (FL : Fn P w K mg base (L2.CX P w) 3 "look_at_rule" (spLook K c.rule)) (FW : Fn P w K mg base CX0 1 "are_words" (spWords K)) :
    FnOk P w K mg base (L2.CX P w) 4 fI fd ["self", "things", "many", "rule", "words"] (spInit K C c) := by
  refine F.ok scInit (fun vs H Q E h => ?_) (fun cdv A outer s H vs Q E hr h => ?_)
  · obtain ⟨x, dx, vT, vM, vR, vW, dT, dM, r, dW, rfl, _⟩ := h
    rfl
  · obtain ⟨x, dx, vT, vM, vR, vW, dT, dM, r, dW, rfl, hx, hdx, ndx, ar, kQ, kE⟩ := h
    have hu : _ < cLine := hu_of hr
    obtain ⟨tv, cV⟩ := Cc.mvalues
    obtain ⟨pN, kN⟩ := S.names
    obtain ⟨pS, kS⟩ := S.size
    obtain ⟨pP, kP⟩ := S.policy
    obtain ⟨pT, kT⟩ := S.told
    refine ⟨_, (pss_cons (ps_if (pt_not (pt_val (pf FT hr (by decide) (pa_cons (pv 1) pa_nil)))) (pss_one (ps_raise0 X1 rfl (takes_of rfl rfl rfl rfl))) pss_nil)
      (pss_cons (ps_if (PW.pt (pw_or (pt_not (pt_val (pf FI hr (by decide) (pa_cons (pv 2) pa_nil)))) (pw_or1 (pt_not (pt_chain op_le op_le pe_int (pv 2) (pe_glob (v := .int 3) (by rfl) cV ⟨_, rfl⟩)))))) (pss_one (ps_raise0 X2 rfl (takes_of rfl rfl rfl rfl))) pss_nil)
      (pss_cons (ps_expr (pfX FL hr (passes_call (takes_of rfl rfl rfl rfl) (fun _ _ _ _ h => h)) (pa_cons (pv 3) pa_nil)))
      (pss_cons (ps_if (pt_not (pt_val (pf FW hr (by decide) (pa_cons (pv 4) pa_nil)))) (pss_one (ps_raise0 X4 rfl (takes_of rfl rfl rfl rfl))) pss_nil)
      (pss_cons (ps_sl (pv 0) (pv 1))
      (pss_cons (ps_sl (pv 0) (pv 2))
      (pss_cons (ps_sl (pv 0) (pe_dc (own := [("part", 5)]) (g := gName 5) (by rfl) scInit.nd (pi_keysW Z.wd (pe_glob (v := .ref dP) (by rfl) Z.gl rfl)) (blkOk_by (own := [("part", 5)]) (N := ["self", "things", "many", "rule", "words", "part"]) (sc := defScope sInit) (by decide +kernel)) (fun _ _ _ _ _ => (pg_name (i := 5) scInit.nd rfl (Or.inl rfl))) (fun _ _ _ _ _ => pts_nil) (fun _ _ _ _ _ => (pv 5)) (fun _ _ _ _ _ => (pe_dget hu (pv 3) (pv 5) (fun _ _ => rfl)))))
      (pss_one (ps_sl (pv 0) (pv 4)))))))))), ?_⟩
    refine ⟨_, rfl, vT, dT, rfl, ar.ht, ar.hts, fun H1 s1 => ⟨_, rfl, ?_⟩⟩
    cases h1 : isThingsD dT with
    | false =>
      refine iteT ?_
      exact kE .things (by unfold sceneFault; rw [h1]; rfl) H1 s1
    | true =>
      refine iteF ?_
      have hm1 := Dp.same s1 dM ar.hm
      refine ⟨_, rfl, vM, dM, rfl, hm1, ⟨_, rfl, ?_⟩⟩
      have bad : isManyD dM = false → E (.ref c.values) none H1 := fun h2 => kE .values (by unfold sceneFault; rw [h1, h2]; rfl) H1 s1
      cases dM with
      | int i =>
        cases hm1
        refine iteF ?_
        refine ⟨_, rfl, _, _, rfl, rfl, _, rfl, ?_⟩
        cases h2 : decide (1 ≤ i) with
        | false =>
          refine iteF ⟨_, rfl, ?_⟩
          refine iteT ?_
          exact bad (by show (decide (1 ≤ i) && decide (i ≤ 3)) = false; rw [h2]; rfl)
        | true =>
          refine iteT ⟨_, _, rfl, rfl, _, rfl, ?_⟩
          cases h3 : decide (i ≤ 3) with
          | false =>
            refine iteT ?_
            exact bad (by show (decide (1 ≤ i) && decide (i ≤ 3)) = false; rw [h2, h3]; rfl)
          | true =>
            refine iteF ?_
            have h4 : isManyD (.int i) = true := by show (decide (1 ≤ i) && decide (i ≤ 3)) = true; rw [h2, h3]; rfl
            have hR1 : RuleV K H1 vR r := by
              cases ar.hr with
              | dat h => exact .dat (Dp.same s1 _ h)
              | dic h =>
                obtain ⟨kvs, ha, hp⟩ := h
                exact .dic ⟨kvs, s1 _ _ ha, Paired.mapP hp fun a b q => ⟨q.1, Dp.same s1 _ q.2⟩⟩
            refine ⟨_, rfl, vR, r, rfl, hR1, ar.hrs, fun h5 H2 s2 => ?_, fun p h5 H2 d s2 hd hd2 => ?_⟩
            · have hW2 := Dp.same (s1.trans s2) dW ar.hw
              refine ⟨_, rfl, vW, dW, rfl, hW2, ar.hws, fun H3 s3 => ⟨_, rfl, ?_⟩⟩
              have s03 := s1.trans (s2.trans s3)
              cases h6 : isWordsD dW with
              | false =>
                refine iteT ?_
                exact kE .words (by unfold sceneFault; rw [h1, h4, h5]; show (if isWordsD dW = true then none else some Fault.words) = _; rw [h6]; rfl) H3 s03
              | true =>
                refine iteF ?_
                have hx3 := s03 _ _ hx
                have hdx3 := s03 _ _ hdx
                -- the rule
                obtain ⟨aR, kds, rfl, rfl, kvs, haR, hpR⟩ : ∃ (aR : Addr) (kds : List (Key × PyData)), vR = .ref aR ∧ r = some kds ∧ ∃ kvs, H3 aR = some (.dK kvs) ∧ Paired (fun (p : Key × V) (q : Key × PyData) => p.1 = q.1 ∧ Dp K H3 p.2 q.2) kvs kds := by
                  cases ar.hr with
                  | dat h => cases h5
                  | @dic a kds h =>
                    obtain ⟨kvs, ha, hp⟩ := h
                    exact ⟨a, kds, rfl, rfl, kvs, s03 _ _ ha, Paired.mapP hp fun a b q => ⟨q.1, Dp.same s03 _ q.2⟩⟩
                have nRx : aR ≠ x := ne_of haR hx3 (by intro z; cases z)
                have nRd : aR ≠ dx := ne_of haR hdx3 (by intro z; cases z)
                have good : ∀ p ∈ partNames, ∃ y, valD kds (Sum.inr p) = some (.str y) := fun p hp => by
                  have h7 : faultD kds = none := h5
                  unfold faultD at h7
                  split at h7
                  · split at h7
                    · have := List.find?_eq_none.mp h7 p hp
                      cases q : valD kds (Sum.inr p) with
                      | none => rw [q] at this; exact absurd rfl this
                      | some d =>
                        rw [q] at this
                        cases d with
                        | str y => exact ⟨y, rfl⟩
                        | _ => exact absurd rfl this
                    · cases h7
                  · cases h7
                -- self.names, self.size
                refine ⟨_, rfl, _, rfl, x, C, dx, pN, [], 0, rfl, .inl ⟨hx3, rfl⟩, S.cls, kN, ?_⟩
                refine ⟨_, rfl, _, rfl, x, C, dx, pS, _, 2, rfl, slH_slt ndx, S.cls, kS, ?_⟩
                rw [slH_twice ndx]
                generalize eH5 : slH H3 x C dx (putS 2 (.int i) (putS 0 vT [])) = H5
                have f5 : ∀ b o, H3 b = some o → b ≠ x → b ≠ dx → H5 b = some o := fun b o e h1 h2 => by rw [← eH5, slH_ne h1 h2]; exact e
                have st5 : Slt H5 x C dx (putS 2 (.int i) (putS 0 vT [])) := by rw [← eH5]; exact slH_slt ndx
                -- self.policy
                refine ⟨rfl, fun D hD => ?_⟩
                have hR5 : H5 aR = some (.dK kvs) := f5 _ _ haR nRx nRd
                have nDR : aR ≠ D := ne_of_none hR5 hD
                refine dc_it (walkW (kvs := partNames.map fun p => (Sum.inr p, V.ref (pa p)))) (fun j H6 => (∀ b o, H5 b = some o → H6 b = some o) ∧ H6 D = some (.dK ((partNames.take j).map fun p => (Sum.inr p, V.str (strOf ((valD kds (Sum.inr p)).getD .none)))))) ⟨fun b o e => by rw [upd_ne (ne_of_none e hD)]; exact e, by rw [upd_same]; rfl⟩ (fun _ _ _ _ => True.intro) (fun j y H6 H7 hj p q => ?_) (fun H6 p => ?_)
                · obtain ⟨rfl, k, v, hk, rfl⟩ := q
                  rw [List.getElem?_map] at hk
                  obtain ⟨pp, hpi, e⟩ : ∃ p, partNames[j]? = some p ∧ (Sum.inr p, V.ref (pa p)) = (k, v) := by
                    cases q : partNames[j]? with
                    | none => rw [q] at hk; cases hk
                    | some p => rw [q] at hk; exact ⟨p, rfl, Option.some.inj hk⟩
                  cases e
                  obtain ⟨y, hy⟩ := good pp (List.mem_of_getElem? hpi)
                  obtain ⟨v, hv, hdv⟩ := valD_of hpR hy
                  cases hdv
                  refine ⟨rfl, ?_⟩
                  refine lc_yes ?_
                  refine ⟨_, rfl, _, rfl, _, rfl, aR, _, rfl, (by rw [← hv]; exact DGet.k (k := Sum.inr pp) (p.1 _ _ hR5)), ?_⟩
                  refine ⟨_, Sum.inr pp, rfl, p.2, ?_, ?_, ?_⟩
                  · rw [List.length_map, List.length_take]
                    exact Nat.lt_of_le_of_lt (Nat.min_le_right _ _) (by decide)
                  · intro b o e
                    rw [upd_ne (ne_of_none e hD)]
                    exact p.1 b o e
                  · rw [upd_same, List.take_add_one, hpi]
                    have nk : valV ((partNames.take j).map fun p => ((Sum.inr p : Key), V.str (strOf ((valD kds (Sum.inr p)).getD .none)))) (Sum.inr pp) = none := by
                      unfold valV
                      have z : ((partNames.take j).map fun p => ((Sum.inr p : Key), V.str (strOf ((valD kds (Sum.inr p)).getD .none)))).find? (fun kv => decide (kv.1 = Sum.inr pp)) = none := by
                        refine List.find?_eq_none.mpr fun kv hkv => ?_
                        obtain ⟨p2, hp2, rfl⟩ := List.mem_map.mp hkv
                        have ne : p2 ≠ pp := fun e => by
                          subst e
                          exact not_in_take nodup_parts hpi hp2
                        simp [ne]
                      rw [z]
                      rfl
                    have ey : V.str (strOf ((valD kds (Sum.inr pp)).getD .none)) = V.str y := by rw [hy]; rfl
                    rw [putK_new _ nk, List.map_append, ← ey]
                    rfl
                · have e7 : (partNames.take (partNames.map fun p => ((Sum.inr p : Key), V.ref (pa p))).length) = partNames := by rw [List.length_map, List.take_length]
                  have hD6 : H6 D = some (.dK (scOf dT (.int i) (some kds) dW).pol) := by
                    have z := p.2
                    rw [e7] at z
                    exact z
                  refine ⟨_, rfl, x, C, dx, pP, _, 1, rfl, Slt.same p.1 st5, S.cls, kP, ?_⟩
                  refine ⟨_, rfl, _, rfl, x, C, dx, pT, _, 3, rfl, slH_slt ndx, S.cls, kT, ?_⟩
                  rw [slH_twice ndx]
                  have nDx : D ≠ x := fun e => by
                    subst e
                    rcases st5 with ⟨z, _⟩ | ⟨z, _⟩
                    · rw [hD] at z; cases z
                    · rw [hD] at z; cases z
                  have nDd : D ≠ dx := fun e => by
                    subst e
                    rcases st5 with ⟨_, z⟩ | ⟨_, z⟩
                    · cases z
                    · rw [hD] at z; cases z
                  refine kQ (by unfold sceneFault; rw [h1, h4, h5]; show (if isWordsD dW = true then none else some Fault.words) = none; rw [h6]; rfl) _ (fun b o e n1 n2 => ?_) ?_
                  · rw [slH_ne n1 n2]
                    exact p.1 b o (f5 b o (s03 b o e) n1 n2)
                  · have fr : ∀ b o, H b = some o → b ≠ x → b ≠ dx → slH H6 x C dx (putS 3 vW (putS 1 (.ref D) (putS 2 (.int i) (putS 0 vT [])))) b = some o := fun b o e n1 n2 => by
                      rw [slH_ne n1 n2]
                      exact p.1 b o (f5 b o (s03 b o e) n1 n2)
                    have frT : ∀ {n : Addr} {xs : List V}, SqT K H n xs → SqT K (slH H6 x C dx (putS 3 vW (putS 1 (.ref D) (putS 2 (.int i) (putS 0 vT []))))) n xs := fun {n xs} h => by
                      rcases h with (h | ⟨o, h⟩) | h
                      · exact .inl (.inl (fr _ _ h (ne_of h hx (by intro z; cases z)) (ne_of h hdx (by intro z; cases z))))
                      · exact .inl (.inr ⟨o, fr _ _ h (ne_of h hx (by intro z; cases z)) (ne_of h hdx (by intro z; cases z))⟩)
                      · exact .inr h
                    cases dT with
                    | tuple ds =>
                      cases ar.ht with
                      | @tup n xs _ hS hA =>
                      have hn : ds.all isNameD = true := by
                        have z : (decide (1 ≤ (ds.length : Int)) && (decide ((ds.length : Int) ≤ 4) && (ds.all isNameD && distinct (ds.map strOf)))) = true := h1
                        rw [Bool.and_eq_true, Bool.and_eq_true, Bool.and_eq_true] at z
                        exact z.2.2.1
                      have eds := names_strs hn
                      have hvs : xs = (ds.map strOf).map V.str := by rw [eds] at hA; exact dp_strs hA
                      subst hvs
                      cases dW with
                      | tuple es =>
                        cases ar.hw with
                        | @tup t ys _ hS2 hA2 =>
                        have hw2 : es.all isWordD = true := by
                          have z : (es.all isWordD && ascS (es.map strOf)) = true := h6
                          rw [Bool.and_eq_true] at z
                          exact z.1
                        obtain ⟨ees, _⟩ := words_strs hw2
                        have hvs2 : ys = (es.map strOf).map V.str := by rw [ees] at hA2; exact dp_strs hA2
                        subst hvs2
                        refine ⟨dx, n, D, t, slH_slt ndx, frT hS, ?_, frT hS2⟩
                        rw [slH_ne nDx nDd]
                        exact hD6
                      | _ => cases h6
                    | _ => cases h1
            · exact kE (.rule p) (by unfold sceneFault; rw [h1, h4, h5]; rfl) H2 d (s1.trans s2) (s1.free hd) hd2
      | _ =>
        refine iteT ?_
        refine iteT ?_
        exact bad rfl
end
end HP

namespace HP
open PySem PySem.Spec PyProof.Rows L2
/-! ### facts of the written part, as Bools -/
def ea (a b : Option (Option Value)) : Bool := decide (a = b)
def excB (K : PySem.W.Frag) (x : Str) : Bool := PySem.W.excIn K (He.ga K x) veB "ValueError.__new__" && (PySem.W.keepIn K (.ref (He.ga K x)) && (decide (PySem.W.subIn K (.ref (He.ga K x)) (.type "BaseException") = some true) && (decide (PySem.W.typeIn K (.ref (He.ga K x)) = some (.type "type")) &&
  ea (PySem.W.nsIn K mainGlobals x) (some (some (.ref (He.ga K x)))))))
def clsB (K : PySem.W.Frag) (C : Addr) : Bool := match K.lookup C with
  | some ⟨.type "type", _, .cls cd, sl⟩ => (match cd.mro, sl.toList with
    | .ref C' :: bm, [_, _, _, _, some (.builtin n), _] => C' == C && n == "ValueError.__new__" && !cd.hasDel && cd.hasDict && PySem.HandSPX.refsVE bm
    | _, _ => false)
  | _ => false
def oexB (K : PySem.W.Frag) (C : Addr) : Bool := clsB K C && (ea (PySem.W.findIn K (.ref C) "__setattr__") (some (some (.builtin "object.__setattr__"))) && (decide (PySem.W.subIn K (.ref C) (.type "BaseException") = some true) && (decide (PySem.W.typeIn K (.ref C) = some (.type "type")) && PySem.W.keepIn K (.ref C))))
/-- an error class x with the field f, its __init__ by the text -/
def exc1B (K : PySem.W.Frag) (x f : Str) : Bool := oexB K (He.ga K x) && (ea (PySem.W.nsIn K mainGlobals x) (some (some (.ref (He.ga K x)))) && (ea (PySem.W.findIn K (.ref (He.ga K x)) "__init__") (some (some (.ref (He.ma K (He.ga K x) "__init__")))) &&
  (decide (PySem.W.typeIn K (.ref (He.ma K (He.ga K x) "__init__")) = some (.type "function")) && (ea (PySem.W.findIn K (.ref (He.ga K x)) f) (some none) && xfB K (He.ga K x)))))
end HP

namespace HP
open PySem PySem.Spec PyProof.Rows L2 SlX
def sclB (K : PySem.W.Frag) (C : Addr) : Bool := PySem.W.plainGet K C Str.empty && (PySem.W.isClsIn K C && (PySem.W.plainOver K C && ea (PySem.W.findIn K (.ref C) "__setattr__") (some (some (.builtin "object.__setattr__")))))
def slotB (K : PySem.W.Frag) (C : Addr) (f : Str) (i : Nat) : Bool := ea (PySem.W.findIn K (.ref C) f) (some (some (.ref (He.ma K C f)))) && (ea (PySem.W.specialIn K (.ref (He.ma K C f)) "__get__") (some (some (.builtin "member_descriptor.__get__"))) &&
  (decide (PySem.W.takesIn K (.ref (He.ma K C f)) = some true) && (decide (PySem.W.typeIn K (.ref (He.ma K C f)) = some (.type "member_descriptor")) && (decide (PySem.W.slotIn K (He.ma K C f) C = some i) && decide (i < 1000)))))
/-- a tuple of texts of the written part -/
def tupAt (K : PySem.W.Frag) (a : Addr) (ws : List Str) : Bool := match K.lookup a with
  | some ⟨.type c, _, .seq its _, _⟩ => decide (c = "tuple") && (decide (its.size ≤ sizeLine) && He.relAll (ws.map V.str) its.toList)
  | _ => false
def partAd (K : PySem.W.Frag) (p : Str) : Addr := match PySem.W.nsIn K (He.ga K "PARTS") p with
  | some (some (.ref a)) => a
  | _ => 0
def partsB (K : PySem.W.Frag) : Bool := partNames.all fun p => ea (PySem.W.nsIn K (He.ga K "PARTS") p) (some (some (.ref (partAd K p)))) && tupAt K (partAd K p) (partWords p)
def sceneB (K : PySem.W.Frag) : Bool := sclB K (He.ga K "Scene") && (slotB K (He.ga K "Scene") "names" 0 && (slotB K (He.ga K "Scene") "policy" 1 && (slotB K (He.ga K "Scene") "size" 2 && slotB K (He.ga K "Scene") "told" 3)))
end HP

namespace HP
open PySem PySem.Spec PyProof.Rows L2
/-! ### d.update(e) -/
def rUpd : V → List V → Hp → VK → Prop := fun x xs H Q => ∃ (a b : Addr) (kvs more : List (Key × V)), x = .ref a ∧ xs = [.ref b] ∧ H a = some (.dK kvs) ∧ H b = some (.dK more) ∧ a ≠ b ∧ kvs.length + more.length ≤ 1000 ∧ Q .non (upd H a (.dK (mergeK kvs more)))
theorem mergeK_len : ∀ (more kvs : List (Key × V)), (mergeK kvs more).length ≤ kvs.length + more.length
  | [], kvs => Nat.le_refl _
  | kv :: more, kvs => by
    have h1 := mergeK_len more (putK kvs kv.1 kv.2)
    have h2 := length_putK kvs kv.1 kv.2
    have e : mergeK kvs (kv :: more) = mergeK (putK kvs kv.1 kv.2) more := rfl
    rw [e, List.length_cons]
    omega
theorem mt_update {X : Cx} : MtR X "dict.update" rUpd := by
  intro pins s σ H x xs v us Q I rx rxs h
  obtain ⟨a, b, kvs, more, rfl, rfl, ha, hb, nab, hz, q⟩ := h
  cases rx
  cases rxs with
  | cons r1 r2 =>
    cases r2
    cases r1
    obtain ⟨z1, hd1, vs1, k1, dd1⟩ := dk_of I.hok ha
    obtain ⟨z2, hd2, vs2, k2, dd2⟩ := dk_of I.hok hb
    have l1 : kvs.length = vs1.length := Paired.length k1
    have l2 : more.length = vs2.length := Paired.length k2
    have hsl := sizeLine_eq
    refine call_meetsIn PySem.F.slot_dict_update dd1.typeIs PySem.F.entry_dict_update (PySem.F.args_dict_update_2 _ _) (meets_dict_update (mixKind X.prog X.w) a b nab hd2) ⟨vs1, vs2, dd1, dd2, by omega, fun h' dd' _ hs => ?_⟩
    have he : ∃ q, h'.get? a = some q := let ⟨q, _, _, hq, _⟩ := dd'; ⟨q, hq⟩
    have hm := mergeK_len more kvs
    exact ⟨.non, _, d_write (t' := s.toks) I (by rw [ha]; exact True.intro) hs he (dk_new (by omega) hd1 (KV.merge k2 k1) dd'), rfl, q⟩
/-! ### draws out of a written list -/
theorem Keep.refl (p l : Addr) (H : Hp) : Keep p l H H := fun _ _ e _ _ => e
theorem Keep.trans {p l : Addr} {H H1 H2 : Hp} (a : Keep p l H H1) (b : Keep p l H1 H2) : Keep p l H H2 := fun c o e h1 h2 => b c o (a c o e h1 h2) h1 h2
theorem Keep.of {p l : Addr} {H H1 : Hp} (a : Same H H1) : Keep p l H H1 := fun c o e _ _ => a c o e
theorem Src.same {H H1 : Hp} {p l : Addr} (S : Src H p l) (a : Same H H1) : Src H1 p l := by
  obtain ⟨st, i, ns, h1, h2, h3⟩ := S.ex
  exact ⟨st, i, ns, a _ _ h1, a _ _ h2, h3⟩
theorem Src.pl {H : Hp} {p l : Addr} (S : Src H p l) : ∃ xs, H p = some (.lst xs) := let ⟨_, _, _, h, _⟩ := S.ex; ⟨_, h⟩
theorem Src.ll {H : Hp} {p l : Addr} (S : Src H p l) : ∃ xs, H l = some (.lst xs) := let ⟨_, _, _, _, h, _⟩ := S.ex; ⟨_, h⟩
theorem Src.nep {H : Hp} {p l a : Addr} (S : Src H p l) (h : H a = none) : a ≠ p := let ⟨_, e⟩ := S.pl; (ne_of_none e h).symm
theorem Src.nel {H : Hp} {p l a : Addr} (S : Src H p l) (h : H a = none) : a ≠ l := let ⟨_, e⟩ := S.ll; (ne_of_none e h).symm
/-- a new thing -/
theorem Src.new {H : Hp} {p l a : Addr} {o : HO} (S : Src H p l) (h : H a = none) : Src (upd H a o) p l := S.same (same_new (Same.refl H) h)
/-- a thing that is not the source changes -/
theorem Src.put {H : Hp} {p l a : Addr} {o : HO} (S : Src H p l) (h1 : a ≠ p) (h2 : a ≠ l) : Src (upd H a o) p l := by
  obtain ⟨st, i, ns, e1, e2, e3⟩ := S.ex
  exact ⟨st, i, ns, by rw [upd_ne h1.symm]; exact e1, by rw [upd_ne h2.symm]; exact e2, e3⟩
theorem Keep.new {H H1 : Hp} {p l a : Addr} {o : HO} (k : Keep p l H H1) (h : H a = none) : Keep p l H (upd H1 a o) := fun c u e h1 h2 => by
  rw [upd_ne (ne_of_none e h)]
  exact k c u e h1 h2
theorem Keep.free {H H1 : Hp} {p l a : Addr} (k : Keep p l H H1) (h : H1 a = none) (h1 : a ≠ p) (h2 : a ≠ l) : H a = none := by
  cases q : H a with
  | none => rfl
  | some o =>
    rw [k a o q h1 h2] at h
    cases h
theorem drawL {K : PySem.W.Frag} {tl : TE} {σ : L2.St} {H : Hp} {Q : VK} {p l : Addr} {i : Nat} {vs : List V} {n : Int} (hl : ∀ Q' : VK, (∀ q, H q = none → Q' (.ref q) (upd H q (.lst vs))) → tl σ H Q') (hσ : σ[i]? = some (some (.ref p))) (S : Src H p l) (hn : n = (vs.length : Int)) (h0 : 0 < vs.length) (hb : vs.length < 1000)
    (k : ∀ H' z, z ∈ vs → Src H' p l → Keep p l H H' → Q z H') : tOp (rIxL K) tl (tCall spNext [] E0 (tCons (tVar i) (tCons (tC (.int n)) tNil))) σ H Q := by
  refine hl _ fun q hq => ?_
  refine ⟨_, hσ, p, l, n, rfl, S.new hq, by omega, by omega, fun H' r h1 h2 S' K' => ?_⟩
  have hq' : H' q = some (.lst vs) := K' q _ upd_same (S.nep hq) (S.nel hq)
  obtain ⟨m, rfl⟩ : ∃ m : Nat, r = (m : Int) := ⟨r.toNat, by omega⟩
  have hr : m < vs.length := by omega
  exact ⟨q, vs, _, vs[m], rfl, rfl, SqL.of hq', atI_nat (List.getElem?_eq_getElem hr), k H' _ (List.getElem_mem hr) S' (Keep.trans (Keep.of (same_new (Same.refl H) hq)) K')⟩
/-- one of two texts -/
theorem draw2 {K : PySem.W.Frag} {σ : L2.St} {H : Hp} {Q : VK} {p l : Addr} {i : Nat} {x y : Str} (hσ : σ[i]? = some (some (.ref p))) (S : Src H p l)
    (k : ∀ H' z, z ∈ [x, y] → Src H' p l → Keep p l H H' → Q (.str z) H') : tOp (rIxL K) (tLst (tCons (tC (.str x)) (tCons (tC (.str y)) tNil))) (tCall spNext [] E0 (tCons (tVar i) (tCons (tC (.int 2)) tNil))) σ H Q := by
  refine drawL (vs := [.str x, .str y]) (fun Q' h => ⟨by show 2 ≤ sizeLine; decide, fun q hq => h q hq⟩) hσ S rfl (by show 0 < 2; decide) (by show 2 < 1000; decide) fun H' z hz S' K' => ?_
  rcases List.mem_cons.mp hz with rfl | hz
  · exact k H' x List.mem_cons_self S' K'
  · rw [List.mem_singleton.mp hz]
    exact k H' y (List.mem_cons_of_mem _ List.mem_cons_self) S' K'
end HP

namespace HP
open PySem PySem.Spec PyProof.Rows L2
abbrev sRule : Stmt := top 30
/-! ### _law_rule -/
def polOf (f : Str → Str) : List (Key × V) := partNames.map fun p => (Sum.inr p, V.str (f p))
section
variable {P : Program} {w : World} {K : PySem.W.Frag} {mg : Str → Option Value} {base : Heap}
def spRule : Sp := fun vs H Q _ => ∃ (p l : Addr), vs = [.ref p] ∧ Src H p l ∧ ∀ H' a f, Src H' p l → Keep p l H H' → H a = none → H' a = some (.dK (polOf f)) → (∀ q ∈ partNames, f q ∈ partWords q) → Q (.ref a) H'
theorem scRule : FnScope ["_law_h", "_law_found"] ["_law_h"] (defScope sRule) := ⟨rfl, rfl, rfl, by decide +kernel, rfl, by decide +kernel, by decide +kernel⟩
theorem ok_rule (D : Dat K mg "_law_rule" sRule) (T : Fr mg) (FN : Fn P w K mg base CX0 1 "_law_next" spNext) : Fn P w K mg base CX0 2 "_law_rule" spRule := by
  refine Fn.of0 D scRule (fun _ _ _ _ _ _ us hl => match us, hl with | [_], _ => rfl) (fun vs H Q E h => ?_) (fun f cdv A outer s H vs Q E hr h => ?_)
  · obtain ⟨p, l, rfl, _⟩ := h
    rfl
  · obtain ⟨p, l, rfl, S, k⟩ := h
    refine ⟨_, (pss_cons (ps_set (i := 1) scRule.nd rfl (Or.inl rfl) (pe_disp (pps_cons pe_str (pe_ix (ixL (K := K)) (pe_lst (pa_cons pe_str (pa_cons pe_str pa_nil))) (pf FN hr (by decide) (pa_cons (pv 0) (pa_cons pe_int pa_nil))) (fun _ _ => rfl)) (pps_cons pe_str (pe_ix (ixL (K := K)) (pe_lst (pa_cons pe_str (pa_cons pe_str pa_nil))) (pf FN hr (by decide) (pa_cons (pv 0) (pa_cons pe_int pa_nil))) (fun _ _ => rfl)) pps_nil)) (by rfl) (by rfl) (fun z => by cases z) (by decide)))
      (pss_cons (ps_expr (eBm (K := K) PySem.F.plainAttrs_dict PySem.F.slot_dict_update PySem.F.type_dict_update mt_update (pv 1) (pa_cons (pe_disp (pps_cons pe_str (pe_ix (ixL (K := K)) (pe_lst (pa_cons pe_str (pa_cons pe_str pa_nil))) (pf FN hr (by decide) (pa_cons (pv 0) (pa_cons pe_int pa_nil))) (fun _ _ => rfl)) (pps_cons pe_str (pe_ix (ixL (K := K)) (pe_lst (pa_cons pe_str (pa_cons pe_str pa_nil))) (pf FN hr (by decide) (pa_cons (pv 0) (pa_cons pe_int pa_nil))) (fun _ _ => rfl)) pps_nil)) (by rfl) (by rfl) (fun z => by cases z) (by decide)) pa_nil)))
      (pss_cons (ps_expr (eBm (K := K) PySem.F.plainAttrs_dict PySem.F.slot_dict_update PySem.F.type_dict_update mt_update (pv 1) (pa_cons (pe_disp (pps_cons pe_str (pe_ix (ixL (K := K)) (pe_lst (pa_cons pe_str (pa_cons pe_str pa_nil))) (pf FN hr (by decide) (pa_cons (pv 0) (pa_cons pe_int pa_nil))) (fun _ _ => rfl)) (pps_cons pe_str (pe_ix (ixL (K := K)) (pe_lst (pa_cons pe_str (pa_cons pe_str pa_nil))) (pf FN hr (by decide) (pa_cons (pv 0) (pa_cons pe_int pa_nil))) (fun _ _ => rfl)) pps_nil)) (by rfl) (by rfl) (fun z => by cases z) (by decide)) pa_nil)))
      (pss_one (ps_ret (pv 1)))))), ?_⟩
    intro a ha
    have S0 := S.new (o := .dK []) ha
    have nap := S.nep ha
    have nal := S.nel ha
    refine draw2 rfl S0 fun H1 z1 m1 S1 K1 => ?_
    refine draw2 rfl S1 fun H2 z2 m2 S2 K2 => ?_
    have ha2 : H2 a = some (.dK []) := K2 _ _ (K1 _ _ upd_same nap nal) nap nal
    refine ⟨ha2, [(Sum.inr "asleep", .str z1), (Sum.inr "changing", .str z2)], rfl, (by show 2 ≤ 15; decide), ?_⟩
    generalize eH3 : upd H2 a (.dK (mergeK [] [(Sum.inr "asleep", .str z1), (Sum.inr "changing", .str z2)])) = H3
    have S3 : Src H3 p l := by rw [← eH3]; exact S2.put nap nal
    have ha3 : H3 a = some (.dK (mergeK [] [(Sum.inr "asleep", .str z1), (Sum.inr "changing", .str z2)])) := by rw [← eH3, upd_same]
    have K3 : Keep p l H H3 := by rw [← eH3]; exact Keep.new (Keep.trans (Keep.of (same_new (Same.refl H) ha)) (K1.trans K2)) ha
    refine ⟨_, rfl, .inr (.inr (.inl ⟨rfl, .inl ⟨_, ha3⟩⟩)), fun b hb => ?_⟩
    have nab : a ≠ b := ne_of_none ha3 hb
    have nbp := S3.nep hb
    have nbl := S3.nel hb
    refine draw2 rfl (S3.new hb) fun H4 z3 m3 S4 K4 => ?_
    refine draw2 rfl S4 fun H5 z4 m4 S5 K5 => ?_
    have hb5 : H5 b = some (.dK []) := K5 _ _ (K4 _ _ upd_same nbp nbl) nbp nbl
    have K35 : Keep p l H3 H5 := Keep.trans (Keep.of (same_new (Same.refl H3) hb)) (K4.trans K5)
    have ha5 := K35 _ _ ha3 nap nal
    refine ⟨hb5, [(Sum.inr "count", .str z3), (Sum.inr "first", .str z4)], rfl, (by show 2 ≤ 15; decide), ?_⟩
    refine ⟨a, b, _, _, rfl, rfl, (by rw [upd_ne nab]; exact ha5), upd_same, nab, (by show 2 + 2 ≤ 1000; decide), ?_⟩
    generalize eH6 : upd (upd H5 b (.dK (mergeK [] [(Sum.inr "count", .str z3), (Sum.inr "first", .str z4)]))) a (.dK (mergeK (mergeK [] [(Sum.inr "asleep", .str z1), (Sum.inr "changing", .str z2)]) (mergeK [] [(Sum.inr "count", .str z3), (Sum.inr "first", .str z4)]))) = H6
    have S6 : Src H6 p l := by rw [← eH6]; exact (S5.put nbp nbl).put nap nal
    have ha6 : H6 a = some (.dK (mergeK (mergeK [] [(Sum.inr "asleep", .str z1), (Sum.inr "changing", .str z2)]) (mergeK [] [(Sum.inr "count", .str z3), (Sum.inr "first", .str z4)]))) := by rw [← eH6, upd_same]
    have K6 : Keep p l H H6 := by
      rw [← eH6]
      exact Keep.new (Keep.new (K3.trans K35) (K3.free hb nbp nbl)) ha
    refine ⟨_, rfl, .inr (.inr (.inl ⟨rfl, .inl ⟨_, ha6⟩⟩)), fun e he => ?_⟩
    have nae : a ≠ e := ne_of_none ha6 he
    have nep := S6.nep he
    have nel := S6.nel he
    refine draw2 rfl (S6.new he) fun H7 z5 m5 S7 K7 => ?_
    refine draw2 rfl S7 fun H8 z6 m6 S8 K8 => ?_
    have he8 : H8 e = some (.dK []) := K8 _ _ (K7 _ _ upd_same nep nel) nep nel
    have K68 : Keep p l H6 H8 := Keep.trans (Keep.of (same_new (Same.refl H6) he)) (K7.trans K8)
    have ha8 := K68 _ _ ha6 nap nal
    refine ⟨he8, [(Sum.inr "ring", .str z5), (Sum.inr "sorting", .str z6)], rfl, (by show 2 ≤ 15; decide), ?_⟩
    refine ⟨a, e, _, _, rfl, rfl, (by rw [upd_ne nae]; exact ha8), upd_same, nae, (by show 4 + 2 ≤ 1000; decide), ?_⟩
    refine ⟨_, rfl, ?_⟩
    let f : Str → Str := fun q => if q = "asleep" then z1 else if q = "changing" then z2 else if q = "count" then z3 else if q = "first" then z4 else if q = "ring" then z5 else z6
    refine k _ a f ((S8.put nep nel).put nap nal) (Keep.new (Keep.new (K6.trans K68) (K6.free he nep nel)) ha) ha ?_ ?_
    · rw [upd_same]
      rfl
    · intro q hq
      have hq' : q = "asleep" ∨ q = "changing" ∨ q = "count" ∨ q = "first" ∨ q = "ring" ∨ q = "sorting" := by
        simp only [partNames, List.mem_cons, List.not_mem_nil, or_false] at hq
        exact hq
      rcases hq' with rfl | rfl | rfl | rfl | rfl | rfl
      · exact m1
      · exact m2
      · exact m3
      · exact m4
      · exact m5
      · exact m6
end
end HP

namespace HP
open PySem PySem.Spec PyProof.Rows L2
abbrev sScene : Stmt := top 31
/-! ### _law_scene -/
theorem erase_map {α β : Type} (f : α → β) : ∀ (l : List α) (i : Nat), (l.map f).eraseIdx i = (l.eraseIdx i).map f
  | [], _ => rfl
  | x :: l, 0 => rfl
  | x :: l, i + 1 => by
    rw [List.map_cons, List.eraseIdx_cons_succ, List.eraseIdx_cons_succ, List.map_cons, erase_map f l i]
def fourNames : List Str := ["a", "c", "b", "dd"]
/-- what _law_scene draws -/
structure Drawn4 (names : List Str) (many : Int) (f : Str → Str) (words : List Str) (m w : Int) : Prop where
  nm : ∃ k : Nat, 2 ≤ k ∧ k ≤ 4 ∧ names = fourNames.take k
  m1 : 1 ≤ many
  m2 : many ≤ m
  rl : ∀ q ∈ partNames, f q ∈ partWords q
  ws : ∀ x ∈ words, x ∈ allWords
  wn : words.Nodup
  wp : words.Pairwise leS
  wl : (words.length : Int) ≤ w
/-- the list that it returns -/
structure Five (H : Hp) (a : Addr) (names : List Str) (many : Int) (f : Str → Str) (words : List Str) : Prop where
  ex : ∃ n r t e : Addr, H a = some (.lst [.ref n, .int many, .ref r, .ref t, .ref e]) ∧ H n = some (.tup (names.map V.str)) ∧ H r = some (.dK (polOf f)) ∧ H t = some (.tup (words.map V.str)) ∧ H e = some (.dK [])
section
variable {P : Program} {w : World} {K : PySem.W.Frag} {mg : Str → Option Value} {base : Heap}
def spScene : Sp := fun vs H Q _ => ∃ (p l : Addr) (t m n : Int), vs = [.ref p, .int t, .int m, .int n] ∧ Src H p l ∧ 2 ≤ t ∧ t ≤ 4 ∧ 1 ≤ m ∧ m ≤ 3 ∧ 1 ≤ n ∧ n ≤ 9 ∧
  ∀ H' a names many f words, Src H' p l → Keep p l H H' → H a = none → Five H' a names many f words → Drawn4 names many f words m n → Q (.ref a) H'
theorem scScene : FnScope ["_law_h", "_law_things", "_law_many", "_law_few", "_law_names", "_law_every", "_law_some", "_law_turn"] ["_law_h", "_law_things", "_law_many", "_law_few"] (defScope sScene) := ⟨rfl, rfl, rfl, by decide +kernel, rfl, by decide +kernel, by decide +kernel⟩
theorem ok_scene (D : Dat K mg "_law_scene" sScene) (T : Fr mg) (FN : Fn P w K mg base CX0 1 "_law_next" spNext) (FR : Fn P w K mg base CX0 2 "_law_rule" spRule) : Fn P w K mg base CX0 3 "_law_scene" spScene := by
  refine Fn.of0 D scScene (fun _ _ _ _ _ _ us hl => match us, hl with | [_, _, _, _], _ => rfl) (fun vs H Q E h => ?_) (fun f cdv A outer s H vs Q E hr h => ?_)
  · obtain ⟨p, l, t, m, n, rfl, _⟩ := h
    rfl
  · obtain ⟨p, l, t, m, n, rfl, S, ht1, ht2, hm1, hm2, hn1, hn2, k⟩ := h
    refine ⟨_, (pss_cons (ps_set (i := 4) scScene.nd rfl (Or.inl rfl) (pe_slice (slL (K := K)) (pe_lst (pa_cons pe_str (pa_cons pe_str (pa_cons pe_str (pa_cons pe_str pa_nil))))) po_none (po_some (pe_op op_add pe_int (pf FN hr (by decide) (pa_cons (pv 0) (pa_cons (pe_op op_sub (pv 1) pe_int) pa_nil)))))))
      (pss_cons (ps_set (i := 5) scScene.nd rfl (Or.inr rfl) (pe_lst (pa_cons pe_str (pa_cons pe_str (pa_cons pe_str (pa_cons pe_str (pa_cons pe_str (pa_cons pe_str (pa_cons pe_str (pa_cons pe_str (pa_cons pe_str pa_nil)))))))))))
      (pss_cons (ps_setLc (i := 6) (own := [("_law_turn", 7)]) (g := gName 7) (by rfl) scScene.nd rfl rfl (sw_true rfl rfl rfl (by decide +kernel)) (pi_range1 (by rfl) (T.fr "range" (by decide +kernel)) (pa_cons (pe_op op_add pe_int (pf FN hr (by decide) (pa_cons (pv 0) (pa_cons (pv 3) pa_nil)))) pa_nil)) (blkOk_by (own := [("_law_turn", 7)]) (N := ["_law_h", "_law_things", "_law_many", "_law_few", "_law_names", "_law_every", "_law_some", "_law_turn"]) (sc := defScope sScene) (by decide +kernel)) (fun _ _ _ _ _ => (pg_name (i := 7) scScene.nd rfl (Or.inl rfl))) (fun _ _ _ _ _ => pts_nil) (fun _ _ _ _ _ => (eBm (K := K) PySem.F.plainAttrs_list PySem.F.slot_list_pop PySem.F.type_list_pop mt_popAt (pv 5) (pa_cons (pf FN hr (by decide) (pa_cons (pv 0) (pa_cons (pe_callB (kLen (K := K)) (by rfl) (T.fr "len" (by decide +kernel)) (by decide +kernel) (pa_cons (pv 5) pa_nil)) pa_nil))) pa_nil))))
      (pss_one (ps_ret (pe_lst (pa_cons (pe_callTy (kTup (K := K)) (by rfl) (T.fr "tuple" (by decide +kernel)) (by decide +kernel) (pa_cons (pv 4) pa_nil)) (pa_cons (pe_op op_add pe_int (pf FN hr (by decide) (pa_cons (pv 0) (pa_cons (pv 2) pa_nil)))) (pa_cons (pf FR hr (by decide) (pa_cons (pv 0) pa_nil)) (pa_cons (pe_callTy (kTup (K := K)) (by rfl) (T.fr "tuple" (by decide +kernel)) (by decide +kernel) (pa_cons (pe_callB (kSortS (K := K)) (by rfl) (T.fr "sorted" (by decide +kernel)) (by decide +kernel) (pa_cons (pv 6) pa_nil)) pa_nil)) (pa_cons pe_dnewK pa_nil))))))))))), ?_⟩
    -- names
    refine ⟨(by show 4 ≤ sizeLine; decide), fun q0 hq0 => ?_⟩
    have S0 := S.new (o := .lst (fourNames.map V.str)) hq0
    refine ⟨_, rfl, _, rfl, _, _, rfl, rfl, p, l, t - 1, rfl, S0, by omega, by omega, fun H1 r hr0 hr1 S1 K1 => ?_⟩
    have K1' : Keep p l H H1 := Keep.trans (Keep.of (same_new (Same.refl H) hq0)) K1
    have hq1 : H1 q0 = some (.lst (fourNames.map V.str)) := K1 _ _ upd_same (S.nep hq0) (S.nel hq0)
    obtain ⟨kn, hk1, hk2, hcut⟩ : ∃ kn : Nat, 2 ≤ kn ∧ kn ≤ 4 ∧ cutV (fourNames.map V.str) none (some (2 + r)) = (fourNames.take kn).map V.str := by
      have h3 : r = 0 ∨ r = 1 ∨ r = 2 := by omega
      rcases h3 with rfl | rfl | rfl
      · exact ⟨2, by decide, by decide, rfl⟩
      · exact ⟨3, by decide, by decide, rfl⟩
      · exact ⟨4, by decide, by decide, rfl⟩
    refine ⟨_, _, rfl, rfl, _, rfl, q0, _, rfl, SqL.of hq1, fun nl hnl => ?_⟩
    rw [hcut]
    have S2 := S1.new (o := .lst ((fourNames.take kn).map V.str)) hnl
    have nnp := S1.nep hnl
    have nnl := S1.nel hnl
    generalize eH2 : upd H1 nl (.lst ((fourNames.take kn).map V.str)) = H2 at S2
    have hnl2 : H2 nl = some (.lst ((fourNames.take kn).map V.str)) := by rw [← eH2, upd_same]
    have K2 : Keep p l H H2 := by rw [← eH2]; exact Keep.new K1' (K1'.free hnl nnp nnl)
    -- every
    refine ⟨(by show 9 ≤ sizeLine; decide), fun ev hev => ?_⟩
    have nep := S2.nep hev
    have nel := S2.nel hev
    have nen : nl ≠ ev := ne_of_none hnl2 hev
    have S3 := S2.new (o := .lst (allWords.map V.str)) hev
    have hev3 : upd H2 ev (.lst (allWords.map V.str)) ev = some (.lst (allWords.map V.str)) := upd_same
    have K3 : Keep p l H (upd H2 ev (.lst (allWords.map V.str))) := Keep.new K2 (K2.free hev nep nel)
    have hnl3 : upd H2 ev (.lst (allWords.map V.str)) nl = some (.lst ((fourNames.take kn).map V.str)) := by rw [upd_ne nen]; exact hnl2
    have fev : H ev = none := K2.free hev nep nel
    show tSeq _ _ _ _ (upd H2 ev (.lst (allWords.map V.str)))
    generalize upd H2 ev (.lst (allWords.map V.str)) = H3 at S3 hev3 K3 hnl3
    -- some
    refine ⟨_, rfl, _, rfl, p, l, n, rfl, S3, by omega, by omega, fun H4 r2 hr20 hr21 S4 K4 => ?_⟩
    have K4' := K3.trans K4
    have hev4 := K4 _ _ hev3 nep nel
    have hnl4 := K4 _ _ hnl3 nnp nnl
    refine ⟨_, _, rfl, rfl, 1 + r2, rfl, by omega, by omega, fun D hD => ?_⟩
    have nDp := S4.nep hD
    have nDl := S4.nel hD
    have nDe : ev ≠ D := ne_of_none hev4 hD
    refine lc_range (lo := 0) (n := (1 + r2).toNat) (fun i H5 => ∃ tk rs : List Str, Src H5 p l ∧ (∀ c o, H4 c = some o → c ≠ p → c ≠ l → c ≠ ev → H5 c = some o) ∧ H5 ev = some (.lst (rs.map V.str)) ∧ H5 D = some (.lst (tk.map V.str)) ∧ (tk ++ rs).Perm allWords ∧ tk.length = i) ⟨[], allWords, S4.new hD, fun c o e _ _ _ => by rw [upd_ne (ne_of_none e hD)]; exact e, by rw [upd_ne nDe]; exact hev4, upd_same, List.Perm.refl _, rfl⟩ ?_ ?_
    · rintro i H5 hi ⟨tk, rs, S5, F5, he5, hD5, pm, htk⟩
      refine ⟨rfl, ?_⟩
      refine lc_yes ?_
      have hlen : tk.length + rs.length = 9 := by
        have := pm.length_eq
        rw [List.length_append] at this
        exact this
      refine ⟨_, rfl, .inl ⟨rfl, _, SqL.of he5⟩, ?_⟩
      refine ⟨_, rfl, _, rfl, ev, _, rfl, .inl (SqL.of he5), p, l, _, rfl, S5, by rw [List.length_map]; omega, by rw [List.length_map]; omega, fun H6 r3 h30 h31 S6 K6 => ?_⟩
      rw [List.length_map] at h31
      obtain ⟨m3, rfl⟩ : ∃ m : Nat, r3 = (m : Int) := ⟨r3.toNat, by omega⟩
      have hm3 : m3 < rs.length := by omega
      have he6 := K6 _ _ he5 nep nel
      have hD6 := K6 _ _ hD5 nDp nDl
      refine ⟨ev, rs.map V.str, _, m3, .str rs[m3], rfl, rfl, he6, by omega, by omega, ?_, ?_, ?_⟩
      · unfold seqIndex?
        rw [List.length_map]
        have h0 : ¬ ((m3 : Int) < 0) := by omega
        have h1 : (0 : Int) ≤ m3 := by omega
        have h2 : (m3 : Int) < rs.length := by omega
        simp [h0, h1, h2, hm3]
      · rw [List.getElem?_map, List.getElem?_eq_getElem hm3]
        rfl
      · refine ⟨tk.map V.str, by rw [upd_ne nDe.symm]; exact hD6, ?_, tk ++ [rs[m3]], rs.eraseIdx m3, ?_, fun c o e h1 h2 h3 => ?_, ?_, ?_, ?_, ?_⟩
        · rw [List.length_map]
          exact Nat.lt_of_le_of_lt (show tk.length ≤ 9 by omega) (by decide)
        · exact (S6.put nep nel).put nDp nDl
        · rw [upd_ne (ne_of_none e hD), upd_ne h3]
          exact K6 c o (F5 c o e h1 h2 h3) h1 h2
        · rw [upd_ne nDe, upd_same, erase_map]
        · rw [upd_same, List.map_append]
          rfl
        · refine List.Perm.trans ?_ pm
          rw [List.append_assoc]
          refine List.Perm.append_left tk ?_
          exact (erase_perm rs m3 rs[m3] (List.getElem?_eq_getElem hm3))
        · rw [List.length_append, htk]
          rfl
    · rintro H5 ⟨tk, rs, S5, F5, he5, hD5, pm, htk⟩
      have nDn : nl ≠ D := ne_of_none hnl4 hD
      have hnl5 : H5 nl = some (.lst ((fourNames.take kn).map V.str)) := F5 _ _ hnl4 nnp nnl nen
      have K5 : Keep p l H H5 := fun c o e h1 h2 => F5 c o (K4' c o e h1 h2) h1 h2 (ne_of_none e fev)
      have htl : tk.length ≤ 9 := by
        have := pm.length_eq
        rw [List.length_append] at this
        have e9 : allWords.length = 9 := rfl
        omega
      -- tuple(names)
      refine ⟨_, rfl, nl, _, rfl, .inl ⟨SqL.of hnl5, fun nt hnt => ?_⟩⟩
      have S6 := S5.new (o := .tup ((fourNames.take kn).map V.str)) hnt
      have ntp := S5.nep hnt
      have ntl := S5.nel hnt
      have K6 : Keep p l H (upd H5 nt (.tup ((fourNames.take kn).map V.str))) := Keep.new K5 (K5.free hnt ntp ntl)
      have hnt6 : upd H5 nt (.tup ((fourNames.take kn).map V.str)) nt = some (.tup ((fourNames.take kn).map V.str)) := upd_same
      have hD6 : upd H5 nt (.tup ((fourNames.take kn).map V.str)) D = some (.lst (tk.map V.str)) := by rw [upd_ne (ne_of_none hD5 hnt)]; exact hD5
      generalize upd H5 nt (.tup ((fourNames.take kn).map V.str)) = H6 at S6 K6 hnt6 hD6 ⊢
      -- 1 + next(h, many)
      refine ⟨_, rfl, _, rfl, p, l, m, rfl, S6, by omega, by omega, fun H7 r4 h40 h41 S7 K7 => ⟨_, _, rfl, rfl, ?_⟩⟩
      have K7' := K6.trans K7
      have hnt7 := K7 _ _ hnt6 ntp ntl
      have hD7 := K7 _ _ hD6 nDp nDl
      -- rule
      refine ⟨_, rfl, p, l, rfl, S7, fun H8 ra f S8 K8 hra hra8 hf => ?_⟩
      have K8' := K7'.trans K8
      have nrp := S7.nep hra
      have nrl := S7.nel hra
      have hnt8 := K8 _ _ hnt7 ntp ntl
      have hD8 := K8 _ _ hD7 nDp nDl
      -- tuple(sorted(some))
      refine ⟨_, rfl, D, tk, rfl, SqL.of hD8, by omega, fun ys q py sy hq => ?_⟩
      refine ⟨q, _, rfl, .inl ⟨SqL.of upd_same, fun wt hwt => ?_⟩⟩
      have nqw : q ≠ wt := fun e => by rw [← e, upd_same] at hwt; cases hwt
      rw [upd_ne nqw.symm] at hwt
      have nqp := S8.nep hq
      have nql := S8.nel hq
      have nwp := S8.nep hwt
      have nwl := S8.nel hwt
      have s9 : Same H8 (upd (upd H8 q (.lst (ys.map V.str))) wt (.tup (ys.map V.str))) := same_new (same_new (Same.refl H8) hq) (by rw [upd_ne nqw.symm]; exact hwt)
      have S9 := S8.same s9
      have K9 : Keep p l H (upd (upd H8 q (.lst (ys.map V.str))) wt (.tup (ys.map V.str))) := Keep.trans K8' (Keep.of s9)
      have hnt9 := s9 _ _ hnt8
      have hra9 := s9 _ _ hra8
      have hwt9 : upd (upd H8 q (.lst (ys.map V.str))) wt (.tup (ys.map V.str)) wt = some (.tup (ys.map V.str)) := upd_same
      generalize upd (upd H8 q (.lst (ys.map V.str))) wt (.tup (ys.map V.str)) = H9 at s9 S9 K9 hnt9 hra9 hwt9 ⊢
      -- {}
      intro e he
      have nep' := S9.nep he
      have nel' := S9.nel he
      refine ⟨(by show 5 ≤ sizeLine; decide), fun a ha => ?_⟩
      have nea : e ≠ a := fun z => by rw [← z, upd_same] at ha; cases ha
      have ha9 : H9 a = none := by rw [upd_ne nea.symm] at ha; exact ha
      have nap := S9.nep ha9
      have nal := S9.nel ha9
      have s10 : Same H9 (upd (upd H9 e (.dK [])) a (.lst [.ref nt, .int (1 + r4), .ref ra, .ref wt, .ref e])) := same_new (same_new (Same.refl H9) he) ha
      refine k _ a (fourNames.take kn) (1 + r4) f ys (S9.same s10) (Keep.trans K9 (Keep.of s10)) (K9.free ha9 nap nal) ⟨nt, ra, wt, e, upd_same, s10 _ _ hnt9, s10 _ _ hra9, s10 _ _ hwt9, ?_⟩ ⟨⟨kn, hk1, hk2, rfl⟩, by omega, by omega, hf, ?_, ?_, sortedS_iff.mp sy, ?_⟩
      · rw [upd_ne nea, upd_same]
      · intro x hx
        exact pm.mem_iff.mp (List.mem_append_left _ (py.mem_iff.mp hx))
      · have nd : (tk ++ rs).Nodup := pm.nodup_iff.mpr (by decide +kernel)
        exact py.nodup_iff.mpr (List.nodup_append.mp nd).1
      · rw [py.length_eq, htk]
        omega
end
end HP

namespace HP
open PySem PySem.Spec PyProof.Rows L2 SlX
/-! ### dicts by the parts' names -/
def dicV (g : Str → V) : List (Key × V) := partNames.map fun q => (Sum.inr q, g q)
def dicD (d : Str → PyData) : List (Key × PyData) := partNames.map fun q => (Sum.inr q, d q)
theorem putK_dic {g : Str → V} {p : Str} {v : V} (hp : p ∈ partNames) : putK (dicV g) (Sum.inr p) v = dicV (fun q => if q = p then v else g q) := by
  have h : (dicV g).any (fun kv => decide (kv.1 = Sum.inr p)) = true := by
    unfold dicV
    rw [List.any_map, List.any_eq_true]
    exact ⟨p, hp, decide_eq_true rfl⟩
  unfold putK
  rw [if_pos h]
  unfold dicV
  rw [List.map_map]
  refine List.map_congr_left fun q _ => ?_
  show (if (Sum.inr q : Key) = Sum.inr p then ((Sum.inr q : Key), v) else (Sum.inr q, g q)) = (Sum.inr q, if q = p then v else g q)
  by_cases e : q = p
  · rw [if_pos (by rw [e]), if_pos e]
  · rw [if_neg (fun z => e (Sum.inr.inj z)), if_neg e]
theorem valV_map (g : Str → V) (p : Str) : ∀ l : List Str, valV (l.map fun q => ((Sum.inr q : Key), g q)) (Sum.inr p) = if p ∈ l then some (g p) else none
  | [] => rfl
  | z :: l => by
    have ih := valV_map g p l
    unfold valV at ih ⊢
    rw [List.map_cons, List.find?_cons]
    by_cases hz : z = p
    · subst hz
      rw [show decide ((Sum.inr z : Key) = Sum.inr z) = true from decide_eq_true rfl, if_pos List.mem_cons_self]
      rfl
    · rw [show decide ((Sum.inr z : Key) = Sum.inr p) = false from decide_eq_false fun q => hz (Sum.inr.inj q)]
      have e : (p ∈ z :: l) ↔ p ∈ l := ⟨fun h => (List.mem_cons.mp h).resolve_left fun q => hz q.symm, List.mem_cons_of_mem _⟩
      simp only [e]
      exact ih
theorem valD_dic {d : Str → PyData} {p : Str} (hp : p ∈ partNames) : valD (dicD d) (Sum.inr p) = some (d p) := by
  unfold dicD
  generalize partNames = l at hp
  induction l with
  | nil => cases hp
  | cons z l ih =>
    unfold valD
    rw [List.map_cons, List.find?_cons]
    by_cases hz : z = p
    · subst hz
      rw [show decide ((Sum.inr z : Key) = Sum.inr z) = true from decide_eq_true rfl]
      rfl
    · rw [show decide ((Sum.inr z : Key) = Sum.inr p) = false from decide_eq_false fun q => hz (Sum.inr.inj q)]
      rcases List.mem_cons.mp hp with h | h
      · exact absurd h.symm hz
      · exact ih h
theorem sorted_parts : partNames.Pairwise leS := by
  have h : sortedS partNames = true := by decide +kernel
  exact sortedS_iff.mp h
theorem keys_dic (d : Str → PyData) : (dicD d).map (·.1) = partNames.map Sum.inr := by
  unfold dicD
  rw [List.map_map]
  rfl
theorem txts_dic (d : Str → PyData) : ((dicD d).map (·.1)).map txt = partNames := by
  rw [keys_dic, List.map_map]
  exact List.map_id _
theorem faultD_dic (d : Str → PyData) : faultD (dicD d) = partNames.find? fun p => !goodPart p (some (d p)) := by
  unfold faultD
  have h1 : ((dicD d).map (·.1)).all isTxt = true := by
    rw [keys_dic, List.all_map]
    exact List.all_eq_true.mpr fun _ _ => rfl
  rw [if_pos h1, txts_dic, if_pos (srtS_self sorted_parts)]
  have all : ∀ l : List Str, (∀ p ∈ l, p ∈ partNames) → l.find? (fun p => !goodPart p (valD (dicD d) (Sum.inr p))) = l.find? (fun p => !goodPart p (some (d p))) := by
    intro l
    induction l with
    | nil => intro _; rfl
    | cons z l ih =>
      intro h
      rw [List.find?_cons, List.find?_cons, valD_dic (h z List.mem_cons_self), ih fun p hp => h p (List.mem_cons_of_mem _ hp)]
  exact all partNames fun _ h => h
theorem dicP {K : PySem.W.Frag} {H : Hp} {g : Str → V} {d : Str → PyData} (h : ∀ p ∈ partNames, Dp K H (g p) (d p)) : Paired (fun (p : Key × V) (q : Key × PyData) => p.1 = q.1 ∧ Dp K H p.2 q.2) (dicV g) (dicD d) := by
  unfold dicV dicD
  generalize partNames = l at h
  induction l with
  | nil => exact .nil
  | cons z l ih => exact .cons ⟨rfl, h z List.mem_cons_self⟩ (ih fun p hp => h p (List.mem_cons_of_mem _ hp))
/-- a scene that stands -/
structure GoodSc (s : Sc) : Prop where
  nm : isThingsL (s.names.map .str) = true
  m1 : 1 ≤ s.many
  m2 : s.many ≤ 3
  rl : ∀ p ∈ partNames, s.word p ∈ partWords p
  ws : isWordsD (.tuple (s.words.map .str)) = true
  wl : s.words.length < 64
theorem GoodSc.many {s : Sc} (g : GoodSc s) : isManyD (.int s.many) = true := by
  show (decide (1 ≤ s.many) && decide (s.many ≤ 3)) = true
  rw [decide_eq_true g.m1, decide_eq_true g.m2]
  rfl
theorem map_strOf (xs : List Str) : (xs.map PyData.str).map strOf = xs := by
  rw [List.map_map]
  exact List.map_id _
theorem GoodSc.small {s : Sc} (g : GoodSc s) : Small (.tuple (s.names.map .str)) := fun ds e x hx => by
  cases e
  have h := g.nm
  unfold isThingsL at h
  rw [Bool.and_eq_true, Bool.and_eq_true, Bool.and_eq_true] at h
  have h2 := List.all_eq_true.mp h.2.2.1 _ hx
  have h3 : (decide (1 ≤ (x.length : Int)) && (decide ((x.length : Int) ≤ 8) && x.cps.toList.all isLet)) = true := h2
  rw [Bool.and_eq_true, Bool.and_eq_true] at h3
  have := of_decide_eq_true h3.2.1
  omega
section
variable {P : Program} {w : World} {K : PySem.W.Frag} {mg : Str → Option Value} {base : Heap}
theorem Raised.same {c : Cls4} {H H1 : Hp} {E : XK} {f : Fault} (s : Same H H1) (h : Raised c H E f) : Raised c H1 E f := by
  cases f with
  | things => exact fun H' e => h H' (s.trans e)
  | values => exact fun H' e => h H' (s.trans e)
  | rule p => exact fun H' d e hd => h H' d (s.trans e) (s.free hd)
  | words => exact fun H' e => h H' (s.trans e)
theorem ScArgs.same {H H1 : Hp} {vT vM vR vW : V} {dT dM dW : PyData} {r : Option (List (Key × PyData))} (s : Same H H1) (a : ScArgs K H vT vM vR vW dT dM r dW) : ScArgs K H1 vT vM vR vW dT dM r dW :=
  ⟨Dp.same s _ a.ht, a.hts, Dp.same s _ a.hm, by
    cases a.hr with
    | dat h => exact .dat (Dp.same s _ h)
    | dic h =>
      obtain ⟨kvs, ha, hp⟩ := h
      exact .dic ⟨kvs, s _ _ ha, Paired.mapP hp fun a b q => ⟨q.1, Dp.same s _ q.2⟩⟩, a.hrs, Dp.same s _ a.hw, a.hws⟩
/-- Scene(..), at the new instance -/
theorem scene_use {C x dx : Addr} {c : Cls4} {H : Hp} {Q : VK} {E : XK} {vT vM vR vW : V} {dT dM dW : PyData} {r : Option (List (Key × PyData))} (nx : H x = none) (ndx : H dx = none) (ne : dx ≠ x) (ar : ScArgs K H vT vM vR vW dT dM r dW)
    (kQ : sceneFault dT dM r dW = none → ∀ H', Same H H' → SceneAt K C H' x (scOf dT dM r dW) → Q (.ref x) H') (kE : ∀ f, sceneFault dT dM r dW = some f → Raised c H E f) :
    spInit K C c [.ref x, vT, vM, vR, vW] (upd (upd H dx (.own x)) x (.ins C dx [])) (fun v H2 => v = .non ∧ Q (.ref x) H2) E := by
  have s0 : Same H (upd (upd H dx (.own x)) x (.ins C dx [])) := same_mut (same_mut (Same.refl H) ndx) nx
  refine ⟨x, dx, vT, vM, vR, vW, dT, dM, r, dW, rfl, upd_same, by rw [upd_ne ne, upd_same], ne, ar.same s0, fun h H' fr st => ⟨rfl, kQ h H' (fun b o e => fr b o (s0 b o e) (ne_of_none e nx) (ne_of_none e ndx)) st⟩, fun f h => (kE f h).same s0⟩
/-- the class Scene can be called -/
def ScMk (P : Program) (w : World) (K : PySem.W.Frag) (mg : Str → Option Value) (base : Heap) (C : Addr) (c : Cls4) : Prop :=
  ∃ (fI : Addr) (fd : FuncData), mg "Scene" = some (.ref C) ∧ Mk K C fI ∧ Binds K fd ["self", "things", "many", "rule", "words"] [] ∧ FnOk P w K mg base (L2.CX P w) 4 fI fd ["self", "things", "many", "rule", "words"] (spInit K C c)
theorem peScene {X : Cx} {C : Addr} {c : Cls4} {n : Nat} {e : Expr} {es : List Expr} {t : TA} {p pos : Pos} {E : XK} (M : ScMk X.prog X.w X.K X.mg X.base C c) (hr : Room n X.A) (hn : 5 ≤ n) (hx : Passes (L2.CX X.prog X.w) X E) (ha : PA X (e :: es) t) (hg : Gl X "Scene" := by rfl)
    (he : starEach (e :: es) X.env = (false, eval e X.env) :: starEach es X.env := by rfl) (hpl : (backTo pos (starEach es X.env)).any (·.1) = false := by rfl) (hK : X.K = K := by rfl) : PE X (.Call (.Name "Scene" p) (e :: es) [] pos) (tMake C (spInit K C c) [] E t) := by
  subst hK
  obtain ⟨fI, fd, h1, h2, h3, h4⟩ := M
  exact pe_make h2 h4 (hr.mono hn) hg h1 h3 .nil hx ha (by decide) he hpl
theorem Sc.pol_congr {s t : Sc} (h : ∀ p ∈ partNames, s.word p = t.word p) : s.pol = t.pol := by
  unfold Sc.pol
  exact List.map_congr_left fun p hp => by rw [h p hp]
theorem SceneAt.congr {K : PySem.W.Frag} {C a : Addr} {H : Hp} {s t : Sc} (h : SceneAt K C H a s) (h1 : s.names = t.names) (h2 : s.many = t.many) (h3 : s.words = t.words) (h4 : ∀ p ∈ partNames, s.word p = t.word p) : SceneAt K C H a t := by
  obtain ⟨dx, n, q, y, a1, a2, a3, a4⟩ := h
  refine ⟨dx, n, q, y, ?_, ?_, ?_, ?_⟩
  · rw [← h2]; exact a1
  · rw [← h1]; exact a2
  · rw [← Sc.pol_congr h4]; exact a3
  · rw [← h3]; exact a4
/-- what is kept of a rule's words -/
theorem polD {K : PySem.W.Frag} {H : Hp} (s : Sc) : ∀ p ∈ partNames, Dp K H (V.str (s.word p)) (.str (s.word p)) := fun p _ => .str _
end
end HP

namespace HP
open PySem PySem.Spec PyProof.Rows L2 SlX
abbrev sTurned : Stmt := inClass (top 20) 7
abbrev sWithout : Stmt := inClass (top 20) 8
section
variable {P : Program} {w : World} {K : PySem.W.Frag} {mg : Str → Option Value} {base : Heap}
/-- what turned refuses -/
def turnFault (dp dw : PyData) : Option Str := match dp with
  | .str p => if p ∈ partNames then (if goodPart p (some dw) = true then none else some p) else some ("" : Str)
  | _ => some ("" : Str)
def turnSc (s : Sc) (dp dw : PyData) : Sc := { s with word := fun q => if q = strOf dp then strOf dw else s.word q }
/-- the fault that Scene finds behind turned -/
theorem turn_fault {s : Sc} (g : GoodSc s) {p : Str} (hp : p ∈ partNames) (dw : PyData) (f : Fault) (h : sceneFault (.tuple (s.names.map .str)) (.int s.many) (some (dicD fun q => if q = p then dw else .str (s.word q))) (.tuple (s.words.map .str)) = some f) :
    f = .rule p ∧ turnFault (.str p) dw = some p := by
  unfold sceneFault at h
  rw [show isThingsD (.tuple (s.names.map .str)) = true from g.nm, g.many, g.ws] at h
  have e : faultOf (some (dicD fun q => if q = p then dw else .str (s.word q))) = partNames.find? fun q => !goodPart q (some (if q = p then dw else .str (s.word q))) := faultD_dic _
  rw [e] at h
  cases q : partNames.find? fun q => !goodPart q (some (if q = p then dw else .str (s.word q))) with
  | none => rw [q] at h; cases h
  | some z =>
    rw [q] at h
    have hz := List.find?_some q
    have hm := List.mem_of_find?_eq_some q
    by_cases ez : z = p
    · subst ez
      rw [if_pos rfl] at hz
      cases h
      refine ⟨rfl, ?_⟩
      show (if z ∈ partNames then (if goodPart z (some dw) = true then none else some z) else some ("" : Str)) = some z
      rw [if_pos hp, if_neg (fun y => by rw [y] at hz; cases hz)]
    · rw [if_neg ez] at hz
      have : goodPart z (some (.str (s.word z))) = true := decide_eq_true (g.rl z hm)
      rw [this] at hz
      cases hz
theorem turn_good {s : Sc} (g : GoodSc s) {p : Str} (hp : p ∈ partNames) (dw : PyData) (h : sceneFault (.tuple (s.names.map .str)) (.int s.many) (some (dicD fun q => if q = p then dw else .str (s.word q))) (.tuple (s.words.map .str)) = none) :
    turnFault (.str p) dw = none ∧ scOf (.tuple (s.names.map .str)) (.int s.many) (some (dicD fun q => if q = p then dw else .str (s.word q))) (.tuple (s.words.map .str)) = scOf (.tuple (s.names.map .str)) (.int s.many) (some (dicD fun q => if q = p then dw else .str (s.word q))) (.tuple (s.words.map .str)) := by
  refine ⟨?_, rfl⟩
  unfold sceneFault at h
  rw [show isThingsD (.tuple (s.names.map .str)) = true from g.nm, g.many, g.ws] at h
  have e : faultOf (some (dicD fun q => if q = p then dw else .str (s.word q))) = partNames.find? fun q => !goodPart q (some (if q = p then dw else .str (s.word q))) := faultD_dic _
  rw [e] at h
  cases q : partNames.find? fun q => !goodPart q (some (if q = p then dw else .str (s.word q))) with
  | none =>
    have := List.find?_eq_none.mp q p hp
    rw [if_pos rfl] at this
    show (if p ∈ partNames then (if goodPart p (some dw) = true then none else some p) else some ("" : Str)) = none
    rw [if_pos hp]
    cases y : goodPart p (some dw) with
    | true => rfl
    | false => rw [y] at this; exact absurd rfl this
  | some z => rw [q] at h; cases h
def spTurned (K : PySem.W.Frag) (C : Addr) (c : Cls4) : Sp := fun vs H Q E => ∃ (a : Addr) (vp vw : V) (s : Sc) (dp dw : PyData), vs = [.ref a, vp, vw] ∧ SceneAt K C H a s ∧ GoodSc s ∧ Dp K H vp dp ∧ Dp K H vw dw ∧
  (turnFault dp dw = none → ∀ H' b, Same H H' → H b = none → SceneAt K C H' b (turnSc s dp dw) → Q (.ref b) H') ∧
  ∀ p, turnFault dp dw = some p → Raised c H E (.rule p)
theorem scTurned : FnScope ["self", "part", "word", "rule"] ["self", "part", "word"] (defScope sTurned) := ⟨rfl, rfl, rfl, by decide +kernel, rfl, by decide +kernel, by decide +kernel⟩
theorem ok_turned {C dP fT : Addr} {fd : FuncData} {pa : Str → Addr} {c : Cls4} (F : FunD K "turned" "Scene.turned" (defArgs sTurned) (defBody sTurned) (defScope sTurned) [] [] fT fd) (T : Fr mg) (Z : Pt P w K mg dP pa) (S : SlC K C)
    (XR : Exc1 P w K mg base "InvalidRule" c.rule "part" (spInit1 c.rule "part")) (M : ScMk P w K mg base C c) : FnOk P w K mg base (L2.CX P w) 6 fT fd ["self", "part", "word"] (spTurned K C c) := by
  refine F.ok scTurned (fun vs H Q E h => ?_) (fun cdv A outer s0 H vs Q E hr h => ?_)
  · obtain ⟨a, vp, vw, s, dp, dw, rfl, _⟩ := h
    rfl
  · obtain ⟨a, vp, vw, s, dp, dw, rfl, hs, gs, hp, hw, kQ, kE⟩ := h
    have hu : _ < cLine := hu_of hr
    obtain ⟨pN, kN⟩ := S.names
    obtain ⟨pS, kS⟩ := S.size
    obtain ⟨pP, kP⟩ := S.policy
    obtain ⟨pT, kT⟩ := S.told
    refine ⟨_, (pss_cons (ps_if (PW.pt (pw_or (pt_not (pt_val (pe_callB (kIsi (K := K)) (by rfl) (T.fr "isinstance" (by decide +kernel)) (by decide +kernel) (pa_cons (pv 1) (pa_cons (pe_bltn (v := .ty "str") (u := .type "str") (by rfl) (T.fr "str" (by decide +kernel)) (by decide +kernel) rfl) pa_nil))))) (pw_or1 (pt_cmpR (notInW Z.wd) (pv 1) (pe_glob (v := .ref dP) (by rfl) Z.gl rfl) (by rfl))))) (pss_one (ps_raise1 XR rfl hr (by decide) (takes_of rfl rfl rfl rfl) pe_str monoC)) pss_nil)
      (pss_cons (ps_set (i := 3) scTurned.nd rfl (Or.inl rfl) (pe_callTy call_dictD (by rfl) (T.fr "dict" (by decide +kernel)) (by decide +kernel) (pa_cons (pe_sl (pv 0)) pa_nil)))
      (pss_cons (ps_dput hu (pv 3) (pv 1) (pv 2) rfl)
      (pss_one (ps_ret (peScene (K := K) M hr (by decide) (passes_call (takes_of rfl rfl rfl rfl) (fun _ _ _ _ h => h)) (pa_cons (pe_sl (pv 0)) (pa_cons (pe_sl (pv 0)) (pa_cons (pv 3) (pa_cons (pe_sl (pv 0)) pa_nil)))))))))), ?_⟩
    have hp0 := hp
    have bad : turnFault dp dw = some ("" : Str) → ∀ d, H d = none → E (.ref c.rule) (some d) (upd H d (.xd [("part", .str "")])) := fun h d hd => kE "" h _ d (same_new (Same.refl H) hd) hd upd_same
    refine ⟨_, rfl, vp, _, _, _, _, rfl, .ty "str", dp_ty hp, kitD dp (by decide), _, rfl, ?_⟩
    cases dp with
    | str p =>
      cases hp
      refine iteF ?_
      refine ⟨_, rfl, Sum.inr p, rfl, rfl, ?_⟩
      have eV := valV_map (fun q => V.ref (pa q)) p partNames
      refine ⟨_, rfl, ?_⟩
      by_cases hm : p ∈ partNames
      · rw [if_pos hm] at eV
        rw [eV]
        refine iteF ?_
        obtain ⟨dx, n, q, t, h1, h2, h3, h4⟩ := id hs
        refine ⟨_, rfl, a, C, dx, pP, _, 1, .ref q, rfl, h1, S.cls, kP, rfl, ?_⟩
        refine ⟨q, _, rfl, .inl h3, fun r hr0 => ?_⟩
        refine ⟨_, rfl, _, rfl, _, rfl, r, _, rfl, DPut.k (k := Sum.inr p) upd_same (by rw [show s.pol.length = 6 from rfl]; decide), ?_⟩
        have e1 : putK s.pol (Sum.inr p) vw = dicV fun q => if q = p then vw else .str (s.word q) := putK_dic (g := fun q => V.str (s.word q)) hm
        rw [upd_upd, e1]
        have s1 : Same H (upd H r (.dK (dicV fun q => if q = p then vw else .str (s.word q)))) := same_new (Same.refl H) hr0
        generalize eH1 : upd H r (.dK (dicV fun q => if q = p then vw else .str (s.word q))) = H1 at s1
        have hr1 : H1 r = some (.dK (dicV fun q => if q = p then vw else .str (s.word q))) := by rw [← eH1, upd_same]
        refine ⟨_, rfl, a, C, dx, pN, _, 0, .ref n, rfl, Slt.same s1 h1, S.cls, kN, rfl, ?_⟩
        refine ⟨_, rfl, a, C, dx, pS, _, 2, .int s.many, rfl, Slt.same s1 h1, S.cls, kS, rfl, ?_⟩
        refine ⟨_, rfl, ?_⟩
        refine ⟨_, rfl, a, C, dx, pT, _, 3, .ref t, rfl, Slt.same s1 h1, S.cls, kT, rfl, ?_⟩
        intro x dx2 nx ndx ne
        have ar : ScArgs K H1 (.ref n) (.int s.many) (.ref r) (.ref t) (.tuple (s.names.map .str)) (.int s.many) (some (dicD fun q => if q = p then dw else .str (s.word q))) (.tuple (s.words.map .str)) := by
          refine ⟨.tup (SqT.same s1 h2) (dpAll_strs _), gs.small, .int _, .dic ⟨_, hr1, dicP fun q _ => ?_⟩, fun kds e => ?_, .tup (SqT.same s1 h4) (dpAll_strs _), fun ds e => ?_⟩
          · by_cases eq : q = p
            · rw [if_pos eq, if_pos eq]
              exact Dp.same s1 _ hw
            · rw [if_neg eq, if_neg eq]
              exact .str _
          · cases e
            refine ⟨by rw [show (dicD fun q => if q = p then dw else .str (s.word q)).length = 6 from rfl]; decide, ?_⟩
            rw [txts_dic]
            exact ok_partNames
          · cases e
            rw [List.length_map]
            exact gs.wl
        refine scene_use nx ndx ne ar (fun h H2 s2 st => ?_) (fun f h => ?_)
        · refine kQ (turn_good gs hm dw h).1 H2 x (s1.trans s2) (s1.free nx) (st.congr (map_strOf _) rfl (map_strOf _) fun p2 hp2 => ?_)
          show strOf ((valD (dicD fun q => if q = p then dw else .str (s.word q)) (Sum.inr p2)).getD .none) = if p2 = p then strOf dw else s.word p2
          rw [valD_dic hp2]
          show strOf (if p2 = p then dw else .str (s.word p2)) = _
          by_cases eq : p2 = p
          · rw [if_pos eq, if_pos eq]
          · rw [if_neg eq, if_neg eq]
            rfl
        · obtain ⟨rfl, hf⟩ := turn_fault gs hm dw f h
          exact (kE p hf).same s1
      · rw [if_neg hm] at eV
        rw [eV]
        refine iteT ?_
        refine bad ?_
        show (if p ∈ partNames then (if goodPart p (some dw) = true then none else some p) else some ("" : Str)) = _
        rw [if_neg hm]
    | _ =>
      refine iteT ?_
      refine iteT ?_
      exact bad rfl
end
end HP

namespace HP
open PySem PySem.Spec PyProof.Rows L2
/-! ### raise x(e, e2) -/
def spInit2 (C : Addr) (f g : Str) : Sp := fun vs H Q _ => ∃ (a : Addr) (y z : V), vs = [.ref a, y, z] ∧ H a = some (exo a C none) ∧
  ∀ dx, H dx = none → dx ≠ a → Q .non (upd (upd (upd H dx (exd dx [(f, y)])) a (exo a C (some dx))) dx (exd dx [(g, z), (f, y)]))
section
variable {X : Cx} {C : Addr} {x f : Str} {e : Expr} {te : TE} {W : WX} {p pos pos2 : Pos}
def tRaise2 (C : Addr) (f g : Str) (W : WX) (te tu : TE) : TS := fun _ σ H => te σ H fun v H1 => tu σ H1 fun z H2 => ∀ d, H2 d = none → W (.ref C) (some d) σ (upd H2 d (.xd [(g, z), (f, v)]))
theorem ps_raise2 {e2 : Expr} {f g : Str} {te tu : TE} {n : Nat} (T : Exc1 X.prog X.w X.K X.mg X.base x C f (spInit2 C f g)) (hc : X.calm = true) (hr : Room n X.A) (hn : 2 ≤ n) (tk : Takes X W) (he : PE X e te) (hu : PE X e2 tu)
    (m1 : ∀ σ H (A B : VK), (∀ v H, A v H → B v H) → te σ H A → te σ H B) (m2 : ∀ σ H (A B : VK), (∀ v H, A v H → B v H) → tu σ H A → tu σ H B) (hg : Gl X x := by rfl) (hdb : (x == ("__debug__" : Str)) = false := by decide)
    (hs : starEach [e, e2] X.env = (false, eval e X.env) :: starEach [e2] X.env := by rfl) (hs2 : starEach [e2] X.env = (false, eval e2 X.env) :: starEach [] X.env := by rfl) (hpl : (backTo pos (starEach [e2] X.env)).any (·.1) = false := by rfl) :
    PS X (.Raise (some (.Call (.Name x p) [e, e2] [] pos)) none pos2) (tRaise2 C f g W te tu) := by
  obtain ⟨fI, fd, ps, iC, tI, hb, F1⟩ := T.fn
  have R := ps_raise (pos := pos2) hc tk (pmk_oex (pos := pos) (p := p) T.oc iC tI F1 (hr.mono hn) hb .nil (fun _ _ _ _ _ _ _ h => h.elim) hg T.gC (pa_cons he (pa_cons hu pa_nil hs2) hs) hdb hs hpl)
  refine ⟨fun pins s σ H D I h => R.run pins s σ H D I (m1 σ H _ _ (fun v H1 h1 => m2 σ H1 _ _ (fun z H2 q => ?_) h1) h)⟩
  refine ⟨by show 2 ≤ 1000; decide, fun a ha => ⟨a, v, z, rfl, upd_same, fun dx hdx nda => ⟨rfl, dx, [(g, z), (f, v)], by rw [upd_ne nda.symm, upd_same], upd_same, ?_, ?_⟩⟩⟩
  · rw [upd_ne nda] at hdx
    exact hdx
  · rw [upd_ne nda] at hdx
    have ee : upd (del (upd (upd (upd (upd H2 a (exo a C none)) dx (exd dx [(f, v)])) a (exo a C (some dx))) dx (exd dx [(g, z), (f, v)])) a) dx (.xd [(g, z), (f, v)]) = upd H2 dx (.xd [(g, z), (f, v)]) := by
      funext b
      by_cases h1 : b = dx
      · rw [h1, upd_same, upd_same]
      · by_cases h2 : b = a
        · rw [upd_ne h1, upd_ne h1, h2, del_same]; exact ha.symm
        · rw [upd_ne h1, upd_ne h1, del_ne h2, upd_ne h1, upd_ne h2, upd_ne h1, upd_ne h2]
    rw [ee]
    exact q dx hdx
end
def MonoE (te : TE) : Prop := ∀ (σ : L2.St) (H : Hp) (A B : VK), (∀ v H, A v H → B v H) → te σ H A → te σ H B
theorem mono_fld {K : PySem.W.Frag} {ta : TE} {f : Str} (h : MonoE ta) : MonoE (tFld K ta f) := fun σ H A B hab q =>
  h σ H _ _ (fun x H1 ⟨a, C, dx, fs, v, e1, e2, e3, e4, e5, e6⟩ => ⟨a, C, dx, fs, v, e1, e2, e3, e4, e5, hab _ _ e6⟩) q
theorem mono_add {ta tb : TE} (h : MonoE ta) (k : MonoE tb) : MonoE (tOp rAdd ta tb) := fun σ H A B hab q =>
  h σ H _ _ (fun x H1 q1 => k σ H1 _ _ (fun y H2 ⟨i, j, e1, e2, e3⟩ => ⟨i, j, e1, e2, hab _ _ e3⟩) q1) q
/-! ### *d of a dict of the written part -/
section
variable {X : Cx} {d : Addr} {kvs : List (Key × V)} {e : Expr} {es : List Expr} {te : TE} {t : TA} {p : Pos}
def tStarW (d : Addr) (kvs : List (Key × V)) (te : TE) (t : TA) : TA := fun σ H Q => te σ H fun x H1 => x = V.ref d ∧ t σ H1 fun ys H2 => Q ((kvs.map fun kv => kV kv.1) ++ ys) H2
theorem pa_starW (D : WD X.prog X.w X.K d kvs) (hz : kvs.length ≤ 1000) (hc : X.calm = true) (he : PE X e te) (hr : PA X es t) (hs : starEach (.Starred e p :: es) X.env = (true, eval e X.env) :: starEach es X.env := by rfl) : PA X (.Starred e p :: es) (tStarW d kvs te t) := by
  refine ⟨fun pos pins s σ H Q I h => ?_⟩
  refine PySem.W.items_star (thn (he.run pins s σ H _ I h) fun v s1 ⟨y, H1, I1, ry, ey, q⟩ => ?_) hs
  subst ey
  obtain rfl : v = Value.ref d := ry
  obtain ⟨o, es', ep, vs, ho, hx, hdt, hsz, rk, hat⟩ := D.got I1
  have hl : kvs.length = vs.length := Paired.length rk
  have z : kvs.length ≤ sizeLine := Nat.le_trans hz (by decide)
  have hT : s1.TypeIs (.ref d) "dict" := hat.dictOf.typeIs
  unfold PySem.W.StarOf notIterableAtAll
  refine wpAny_bind (wpAny_specialOf hT PySem.F.slot_dict_iter.lookup (wpAny_pure ⟨rfl, ?_⟩))
  refine PySem.W.kdu_collect (PySem.W.kdl_dict (knd := mixKind X.prog X.w) (kvs := vs) (ep := ep) D.sm) (I1.ok.hd hc) hat (by rw [← hl]; exact z) fun h' tk acc hk hacc => ?_
  have I2 := I1.kept (t' := tk) hk
  have rv : Vals (kvs.map fun kv => kV kv.1) acc.toList := by
    have el : acc.toList.length = acc.size := by simp
    refine vals_of_at (by rw [List.length_map, el, hacc.1, hl]) fun j x w h1 h2 => ?_
    obtain ⟨k, y, hky, hi⟩ := hacc.2 j w (by rw [← Array.getElem?_toList]; exact h2)
    have e1 : (kvs.map (·.1))[j]? = some k := by
      rw [KV.keys rk, List.getElem?_map, hky] <;> rfl
    have e2 : (kvs.map fun kv => kV kv.1)[j]? = some (kV k) := by
      have e3 : (kvs.map fun kv => kV kv.1) = (kvs.map (·.1)).map kV := by rw [List.map_map] <;> rfl
      rw [e3, List.getElem?_map, e1] <;> rfl
    rw [e2] at h1
    cases h1
    exact keyIs_rel hi
  exact thn (hr.run pos pins _ σ H1 _ I2 q) fun ws s3 ⟨ys, H3, I3, r3, q3⟩ => ⟨_, H3, I3, rv.append r3, q3⟩
end
end HP

namespace HP
open PySem PySem.Spec PyProof.Rows L2
abbrev sLineI : Stmt := inClass (top 24) 0
abbrev sRefuse : Stmt := inClass (top 24) 1
abbrev sDone : Stmt := inClass (top 24) 2
abbrev sOne : Stmt := inClass (top 24) 3
abbrev sTName : Stmt := inClass (top 24) 4
abbrev sFinish : Stmt := inClass (top 24) 5
/-! ### lines that are read -/
/-- a method of an own class -/
def MCl (P : Program) (w : World) (K : PySem.W.Frag) (mg : Str → Option Value) (base : Heap) (CX : CXT) (k : Nat) (C : Addr) (m : Str) (sp : Sp) : Prop :=
  Cls K C ∧ ∃ (g : Addr) (fd : FuncData) (ps : List Str), Meth K C m g ∧ Binds K fd ps [] ∧ FnOk P w K mg base CX k g fd ps sp
section
variable {X : Cx} {CX : CXT} {k j : Nat} {C : Addr} {m : Str} {sp : Sp} {o e : Expr} {es : List Expr} {ta : TE} {t : TA} {apos pos : Pos} {E : XK}
theorem peM (M : MCl X.prog X.w X.K X.mg X.base CX k C m sp) (hr : Room j X.A) (hkj : k ≤ j) (hx : Passes CX X E) (ho : PE X o ta) (ha : PA X (e :: es) t) {pl : Sem Bool}
    (hst : starEach (e :: es) X.env = (false, eval e X.env) :: starEach es X.env := by rfl) (hpl : (backTo pos (starEach es X.env)).any (·.1) = false := by rfl)
    (ht : eval (.Call (.Attribute o m apos) (e :: es) [] pos) X.env = (do
      let ov ← eval o X.env; standAt apos.atName; let (f, first) ← holding [ov] (getMethod ov m pl); callWith pos f first (backTo pos (starEach (e :: es) X.env)) (backToKw pos (keywordEach [] X.env))) := by rfl) :
    PE X (.Call (.Attribute o m apos) (e :: es) [] pos) (tMeth C m sp [] E ta t) := by
  obtain ⟨c, g, fd, ps, hm, hb, F⟩ := M
  exact pe_meth ho c hm F (hr.mono hkj) hb .nil hx ha (pl := pl) (hst := hst) (hpl := hpl) (ht := ht)
theorem peM0 (M : MCl X.prog X.w X.K X.mg X.base CX k C m sp) (hr : Room j X.A) (hkj : k ≤ j) (hx : Passes CX X E) (ho : PE X o ta) {pl : Sem Bool}
    (ht : eval (.Call (.Attribute o m apos) [] [] pos) X.env = (do
      let ov ← eval o X.env; standAt apos.atName; let (f, first) ← holding [ov] (getMethod ov m pl); callWith pos f first (backTo pos (starEach [] X.env)) (backToKw pos (keywordEach [] X.env))) := by rfl) :
    PE X (.Call (.Attribute o m apos) [] [] pos) (tMeth C m sp [] E ta tNil) := by
  obtain ⟨c, g, fd, ps, hm, hb, F⟩ := M
  exact pe_meth0 ho c hm F (hr.mono hkj) hb .nil hx (pl := pl) (ht := ht)
end
end HP

namespace HP
open PySem PySem.Spec PyProof.Rows L2
structure LnC (K : PySem.W.Frag) (C : Addr) : Prop where
  cls : Cls K C
  num : NoAttr K C "number"
  parts : NoAttr K C "parts"
  place : NoAttr K C "place"
def lnO (C dx : Addr) (n : Int) (q : Addr) (i : Int) : HO := .ins C dx [("number", .int n), ("parts", .ref q), ("place", .int i)]
/-- at a: line n with the words ws, at its word i -/
structure LnAt (H : Hp) (C a dx q : Addr) (n : Int) (ws : List Str) (i : Int) : Prop where
  at_ : H a = some (lnO C dx n q i)
  ws : H q = some (.lst (ws.map V.str))
theorem LnAt.same {H H' : Hp} {C a dx q : Addr} {n : Int} {ws : List Str} {i : Int} (s : Same H H') (h : LnAt H C a dx q n ws i) : LnAt H' C a dx q n ws i := ⟨s _ _ h.at_, s _ _ h.ws⟩
theorem LnAt.ne {H : Hp} {C a dx q : Addr} {n : Int} {ws : List Str} {i : Int} (h : LnAt H C a dx q n ws i) : q ≠ a := ne_of h.ws h.at_ (by intro z; cases z)
theorem LnAt.step {H : Hp} {C a dx q : Addr} {n : Int} {ws : List Str} {i : Int} (h : LnAt H C a dx q n ws i) (j : Int) : LnAt (upd H a (lnO C dx n q j)) C a dx q n ws j := ⟨upd_same, by rw [upd_ne h.ne]; exact h.ws⟩
/-- InvalidText(n, w) -/
def RaiseT (cT : Addr) (E : XK) (n w : Int) : Prop := ∀ H' d, H' d = some (.xd [("word", .int w), ("line", .int n)]) → E (.ref cT) (some d) H'
theorem at_str {ws : List Str} {i : Nat} {x : Str} (h : ws[i]? = some x) : atI (ws.map V.str) (i : Int) = some (.str x) := atI_nat (by rw [List.getElem?_map, h]; rfl)
theorem inV_str (x : Str) (xs : List Str) : inV (.str x) (xs.map V.str) = decide (x ∈ xs) := inV_strs x xs
section
variable {P : Program} {w : World} {K : PySem.W.Frag} {mg : Str → Option Value} {base : Heap}
def wordsOf (x : Str) : List Str := (Txt.split x " ").filter fun y => !decide (y = ("" : Str))
def spLine (C : Addr) : Sp := fun vs H Q _ => ∃ (x dx : Addr) (y : Str) (n : Int), vs = [.ref x, .str y, .int n] ∧ H x = some (.ins C dx []) ∧ y.length ≤ 90000 ∧
  ∀ H' q, (∀ b o, H b = some o → b ≠ x → H' b = some o) → H q = none → LnAt H' C x dx q n (wordsOf y) 0 → Q .non H'
theorem scLineI : FnScope ["self", "text", "number", "word"] ["self", "text", "number"] (defScope sLineI) := ⟨rfl, rfl, rfl, by decide +kernel, rfl, by decide +kernel, by decide +kernel⟩
theorem ok_line {C fI : Addr} {fd : FuncData} (F : FunD K "__init__" "Line.__init__" (defArgs sLineI) (defBody sLineI) (defScope sLineI) [] [] fI fd) (T : Fr mg) (L : LnC K C) : FnOk P w K mg base CX0 1 fI fd ["self", "text", "number"] (spLine C) := by
  refine F.ok scLineI (fun vs H Q E h => ?_) (fun cdv A outer s0 H vs Q E hr h => ?_)
  · obtain ⟨x, dx, y, n, rfl, _⟩ := h
    rfl
  · obtain ⟨x, dx, y, n, rfl, hx, hy, k⟩ := h
    refine ⟨_, (pss_cons (ps_fld (pv 0) (pv 2) rfl)
      (pss_cons (ps_fld (pv 0) (pe_lc (own := [("word", 3)]) (g := gName 3) (by rfl) scLineI.nd (iL (K := K) (pe_split (pv 1) pe_str)) (blkOk_by (own := [("word", 3)]) (N := ["self", "text", "number", "word"]) (sc := defScope sLineI) (by decide +kernel)) (fun _ _ _ _ _ => (pg_name (i := 3) scLineI.nd rfl (Or.inl rfl))) (fun _ _ _ _ _ => (pts_one (pt_cmpR op_ne (pv 3) pe_str (nomark _)))) (fun _ _ _ _ _ => (pv 3))) rfl)
      (pss_one (ps_fld (pv 0) pe_int rfl)))), ?_⟩
    refine ⟨_, rfl, _, rfl, x, C, dx, [], rfl, hx, L.cls, L.num, by show 0 < 1000; decide, ?_⟩
    refine ⟨_, rfl, ⟨y, rfl⟩, y, " ", rfl, rfl, rfl, Nat.le_trans (Nat.add_le_add_right hy 2) (by decide), fun l hl => ?_⟩
    have nlx : x ≠ l := fun e => by rw [← e, upd_same] at hl; cases hl
    rw [upd_ne nlx.symm] at hl
    generalize eH1 : upd (upd H x (.ins C dx (putF "number" (.int n) []))) l (.lst ((Txt.split y " ").map V.str)) = H1
    have hl1 : H1 l = some (.lst ((Txt.split y " ").map V.str)) := by rw [← eH1, upd_same]
    have hx1 : H1 x = some (.ins C dx [("number", .int n)]) := by rw [← eH1, upd_ne nlx, upd_same]; rfl
    have f1 : ∀ b o, H b = some o → b ≠ x → H1 b = some o := fun b o e h1 => by rw [← eH1, upd_ne (ne_of_none e hl), upd_ne h1]; exact e
    refine ⟨l, rfl, ⟨_, SqL.of hl1⟩, fun D hD => ?_⟩
    have hDH : H D = none := by
      cases q : H D with
      | none => rfl
      | some o =>
        by_cases e : D = x
        · rw [e, hx1] at hD; cases hD
        · rw [f1 _ _ q e] at hD; cases hD
    have hlen : (Txt.split y " ").length ≤ 90002 := Nat.le_trans (split_le y " ") (Nat.add_le_add_right hy 2)
    refine lc_list (K := K) (a := l) (xs := (Txt.split y " ").map V.str) (Cv H1 D fun i => (((Txt.split y " ").take i).filter fun z => !decide (z = ("" : Str))).map V.str) (cv0 hD rfl) (fun i H2 _ p => SqL.of (p.1 _ _ hl1)) (fun i v H2 hi p => ?_) (fun H2 p => ?_)
    · rw [List.getElem?_map] at hi
      obtain ⟨z, hz, rfl⟩ : ∃ z, (Txt.split y " ")[i]? = some z ∧ V.str z = v := by
        cases q : (Txt.split y " ")[i]? with
        | none => rw [q] at hi; cases hi
        | some z => rw [q] at hi; exact ⟨z, rfl, Option.some.inj hi⟩
      refine ⟨rfl, ?_⟩
      refine ⟨_, rfl, rfl, _, rfl, ?_⟩
      have ed : (!decide (V.str z = V.str "")) = !decide (z = ("" : Str)) := by
        rw [decide_eq_decide.mpr ⟨V.str.inj, fun e => by rw [e]⟩]
      rw [ed]
      have et : (Txt.split y " ").take (i + 1) = (Txt.split y " ").take i ++ [z] := by rw [List.take_add_one, hz]; rfl
      cases q : !decide (z = ("" : Str)) with
      | true =>
        refine iteT ?_
        refine ⟨_, rfl, cv_yes hD p.1 p.2 ?_ ?_⟩
        · rw [List.length_map]
          refine Nat.le_trans (List.length_filter_le ..) ?_
          rw [List.length_take]
          have := (List.getElem?_eq_some_iff.mp hz).1
          omega
        · rw [et, List.filter_append, List.map_append]
          simp only [List.filter_cons, q, List.filter_nil]
          rfl
      | false =>
        refine iteF ?_
        refine cv_no p.1 p.2 ?_
        rw [et, List.filter_append, List.map_append]
        simp only [List.filter_cons, q, List.filter_nil]
        exact List.append_nil _
    · have e : H2 D = some (.lst ((wordsOf y).map V.str)) := by
        have z := p.2
        rw [List.length_map] at z
        dsimp only at z
        rw [List.take_length] at z
        exact z
      have nDx : D ≠ x := fun e => by rw [e, hx1] at hD; cases hD
      refine ⟨_, rfl, x, C, dx, _, rfl, p.1 _ _ hx1, L.cls, L.parts, by show 1 < 1000; decide, ?_⟩
      refine ⟨_, rfl, x, C, dx, _, rfl, upd_same, L.cls, L.place, by show 2 < 1000; decide, ?_⟩
      rw [upd_upd]
      refine k _ D (fun b o e h1 => ?_) hDH ⟨upd_same, ?_⟩
      · rw [upd_ne h1]
        exact p.1 _ _ (f1 _ _ e h1)
      · rw [upd_ne nDx]
        exact e
def spDone (C : Addr) : Sp := fun vs H Q _ => ∃ (a dx q : Addr) (n i : Int) (ws : List Str), vs = [.ref a] ∧ LnAt H C a dx q n ws i ∧ Q (.bl (decide (i = (ws.length : Int)))) H
theorem scDone : FnScope ["self"] ["self"] (defScope sDone) := ⟨rfl, rfl, rfl, by decide +kernel, rfl, by decide +kernel, by decide +kernel⟩
theorem ok_done {C f : Addr} {fd : FuncData} (F : FunD K "is_done" "Line.is_done" (defArgs sDone) (defBody sDone) (defScope sDone) [] [] f fd) (T : Fr mg) (L : LnC K C) : FnOk P w K mg base CX0 1 f fd ["self"] (spDone C) := by
  refine F.ok scDone (fun vs H Q E h => ?_) (fun cdv A outer s0 H vs Q E hr h => ?_)
  · obtain ⟨a, dx, q, n, i, ws, rfl, _⟩ := h
    rfl
  · obtain ⟨a, dx, q, n, i, ws, rfl, h, k⟩ := h
    refine ⟨_, (pss_one (ps_ret (pe_cmpR op_eq (eFld (K := K) (pv 0)) (pe_callB (kLen (K := K)) (by rfl) (T.fr "len" (by decide +kernel)) (by decide +kernel) (pa_cons (eFld (K := K) (pv 0)) pa_nil)) (nomark _)))), ?_⟩
    refine ⟨_, rfl, a, C, dx, _, _, rfl, h.at_, L.cls, L.place, rfl, ?_⟩
    refine ⟨_, rfl, a, C, dx, _, _, rfl, h.at_, L.cls, L.parts, rfl, ?_⟩
    refine ⟨q, _, rfl, .inl (SqL.of h.ws), rfl, ?_⟩
    have e : decide (V.int i = V.int ((ws.map V.str).length : Int)) = decide (i = (ws.length : Int)) := by
      rw [List.length_map]
      exact decide_eq_decide.mpr ⟨V.int.inj, fun e => by rw [e]⟩
    rw [e]
    exact k
def spRefuse (C cT : Addr) : Sp := fun vs H _ E => ∃ (a dx q : Addr) (n i : Int) (ws : List Str), vs = [.ref a] ∧ LnAt H C a dx q n ws i ∧ RaiseT cT E n (i + 1)
theorem scRefuse : FnScope ["self"] ["self"] (defScope sRefuse) := ⟨rfl, rfl, rfl, by decide +kernel, rfl, by decide +kernel, by decide +kernel⟩
theorem ok_refuse {C cT f : Addr} {fd : FuncData} (F : FunD K "refuse" "Line.refuse" (defArgs sRefuse) (defBody sRefuse) (defScope sRefuse) [] [] f fd) (T : Fr mg) (L : LnC K C) (XT : Exc1 P w K mg base "InvalidText" cT "line" (spInit2 cT "line" "word")) : FnOk P w K mg base (L2.CX P w) 3 f fd ["self"] (spRefuse C cT) := by
  refine F.ok scRefuse (fun vs H Q E h => ?_) (fun cdv A outer s0 H vs Q E hr h => ?_)
  · obtain ⟨a, dx, q, n, i, ws, rfl, _⟩ := h
    rfl
  · obtain ⟨a, dx, q, n, i, ws, rfl, h, k⟩ := h
    refine ⟨_, (pss_one (ps_raise2 XT rfl hr (by decide) (takes_of rfl rfl rfl rfl) (eFld (K := K) (pv 0)) (pe_op op_add (eFld (K := K) (pv 0)) pe_int) (mono_fld monoV) (mono_add (mono_fld monoV) monoC))), ?_⟩
    refine ⟨_, rfl, a, C, dx, _, _, rfl, h.at_, L.cls, L.num, rfl, ?_⟩
    refine ⟨_, rfl, a, C, dx, _, _, rfl, h.at_, L.cls, L.place, rfl, _, _, rfl, rfl, fun d hd => ?_⟩
    exact k _ d upd_same
end
end HP

namespace HP
open PySem PySem.Spec PyProof.Rows L2
section
variable {P : Program} {w : World} {K : PySem.W.Frag} {mg : Str → Option Value} {base : Heap}
/-- a list or a tuple of texts -/
def SqS (K : PySem.W.Frag) (H : Hp) (p : Addr) (xs : List Str) : Prop := SqL K H p (xs.map V.str) ∨ SqT K H p (xs.map V.str)
def spOne (K : PySem.W.Frag) (C cT : Addr) : Sp := fun vs H Q E => ∃ (a dx q p : Addr) (n : Int) (i : Nat) (ws xs : List Str), vs = [.ref a, .ref p] ∧ LnAt H C a dx q n ws i ∧ i ≤ ws.length ∧ SqS K H p xs ∧
  (∀ x, ws[i]? = some x → x ∈ xs → Q (.str x) (upd H a (lnO C dx n q ((i + 1 : Nat) : Int)))) ∧ ((∀ x, ws[i]? = some x → x ∉ xs) → RaiseT cT E n ((i + 1 : Nat) : Int))
theorem scOne : FnScope ["self", "words"] ["self", "words"] (defScope sOne) := ⟨rfl, rfl, rfl, by decide +kernel, rfl, by decide +kernel, by decide +kernel⟩
theorem ok_one {C cT f : Addr} {fd : FuncData} (F : FunD K "take_one" "Line.take_one" (defArgs sOne) (defBody sOne) (defScope sOne) [] [] f fd) (T : Fr mg) (L : LnC K C) (MD : MCl P w K mg base CX0 1 C "is_done" (spDone C)) (MR : MCl P w K mg base (L2.CX P w) 3 C "refuse" (spRefuse C cT)) : FnOk P w K mg base (L2.CX P w) 4 f fd ["self", "words"] (spOne K C cT) := by
  refine F.ok scOne (fun vs H Q E h => ?_) (fun cdv A outer s0 H vs Q E hr h => ?_)
  · obtain ⟨a, dx, q, p, n, i, ws, xs, rfl, _⟩ := h
    rfl
  · obtain ⟨a, dx, q, p, n, i, ws, xs, rfl, h, hi, hp, kQ, kE⟩ := h
    refine ⟨_, (pss_cons (ps_if (PW.pt (pw_or (pt_val (peM0 MD hr (by decide) pass0 (pv 0))) (pw_or1 (pt_cmpR (oNotIn (K := K)) (pe_ix (ixL (K := K)) (eFld (K := K) (pv 0)) (eFld (K := K) (pv 0)) (fun _ _ => rfl)) (pv 1) (by rfl))))) (pss_one (ps_expr (peM0 MR hr (by decide) (passes_call (takes_of rfl rfl rfl rfl) (fun _ _ _ _ h => h)) (pv 0)))) pss_nil)
      (pss_cons (ps_fldaug (pv 0) pe_int in_add)
      (pss_one (ps_ret (pe_ix (ixL (K := K)) (eFld (K := K) (pv 0)) (pe_op op_sub (eFld (K := K) (pv 0)) pe_int) (fun _ _ => rfl)))))), ?_⟩
    have bad : (∀ x, ws[i]? = some x → x ∉ xs) → spRefuse C cT [.ref a] H (fun _ _ => False) E := fun hn => ⟨a, dx, q, n, i, ws, rfl, h, kE hn⟩
    refine ⟨_, rfl, a, dx, _, rfl, h.at_, rfl, a, dx, q, n, i, ws, rfl, h, _, rfl, ?_⟩
    cases e : ws[i]? with
    | none =>
      have hl : (i : Int) = (ws.length : Int) := by
        have := List.getElem?_eq_none_iff.mp e
        omega
      rw [decide_eq_true hl]
      refine iteT ?_
      refine iteT ?_
      refine ⟨_, rfl, a, dx, _, rfl, h.at_, rfl, ?_⟩
      exact ⟨a, dx, q, n, i, ws, rfl, h, kE fun x hx => by rw [e] at hx; cases hx⟩
    | some x =>
      have hl : ¬ (i : Int) = (ws.length : Int) := by
        have := (List.getElem?_eq_some_iff.mp e).1
        omega
      rw [decide_eq_false hl]
      refine iteF ?_
      refine ⟨_, rfl, a, C, dx, _, _, rfl, h.at_, L.cls, L.parts, rfl, _, rfl, a, C, dx, _, _, rfl, h.at_, L.cls, L.place, rfl, ?_⟩
      refine ⟨q, _, _, _, rfl, rfl, SqL.of h.ws, at_str e, ?_⟩
      refine ⟨_, rfl, p, _, rfl, hp, rfl, flat_strs _, _, rfl, ?_⟩
      rw [inV_strs]
      by_cases hm : x ∈ xs
      · rw [decide_eq_true hm]
        refine iteF ?_
        refine ⟨_, rfl, a, C, dx, _, _, rfl, h.at_, L.cls, L.place, rfl, _, _, rfl, rfl, dx, _, h.at_, by show 3 < 1000; decide, ?_⟩
        have eo : HO.ins C dx (putF "place" (.int ((i : Int) + 1)) [("number", .int n), ("parts", .ref q), ("place", .int (i : Int))]) = lnO C dx n q ((i + 1 : Nat) : Int) := rfl
        rw [eo]
        have h2 := h.step ((i + 1 : Nat) : Int)
        have k2 := kQ x e hm
        generalize upd H a (lnO C dx n q ((i + 1 : Nat) : Int)) = H2 at h2 k2
        refine ⟨_, rfl, a, C, dx, _, _, rfl, h2.at_, L.cls, L.parts, rfl, _, rfl, a, C, dx, _, _, rfl, h2.at_, L.cls, L.place, rfl, _, _, rfl, rfl, ?_⟩
        refine ⟨q, _, _, _, rfl, rfl, SqL.of h2.ws, ?_, k2⟩
        have e3 : ((i + 1 : Nat) : Int) - 1 = (i : Int) := by omega
        rw [e3]
        exact at_str e
      · rw [decide_eq_false hm]
        refine iteT ?_
        refine ⟨_, rfl, a, dx, _, rfl, h.at_, rfl, ?_⟩
        exact ⟨a, dx, q, n, i, ws, rfl, h, kE fun y hy => by rw [e] at hy; cases hy; exact hm⟩
def spTName (C cT : Addr) : Sp := fun vs H Q E => ∃ (a dx q : Addr) (n : Int) (i : Nat) (ws : List Str), vs = [.ref a] ∧ LnAt H C a dx q n ws i ∧ i ≤ ws.length ∧ (∀ x ∈ ws, x.length ≤ 100000) ∧
  (∀ x, ws[i]? = some x → isNameS x = true → ∀ H', Same H H' → Q (.str x) (upd H' a (lnO C dx n q ((i + 1 : Nat) : Int)))) ∧ ((∀ x, ws[i]? = some x → isNameS x = false) → RaiseT cT E n ((i + 1 : Nat) : Int))
theorem scTName : FnScope ["self"] ["self"] (defScope sTName) := ⟨rfl, rfl, rfl, by decide +kernel, rfl, by decide +kernel, by decide +kernel⟩
theorem ok_tname {C cT f : Addr} {fd : FuncData} (F : FunD K "take_name" "Line.take_name" (defArgs sTName) (defBody sTName) (defScope sTName) [] [] f fd) (T : Fr mg) (L : LnC K C) (MD : MCl P w K mg base CX0 1 C "is_done" (spDone C)) (MR : MCl P w K mg base (L2.CX P w) 3 C "refuse" (spRefuse C cT))
    (FN : Fn P w K mg base CX0 1 "is_name" (spIsName K)) : FnOk P w K mg base (L2.CX P w) 4 f fd ["self"] (spTName C cT) := by
  refine F.ok scTName (fun vs H Q E h => ?_) (fun cdv A outer s0 H vs Q E hr h => ?_)
  · obtain ⟨a, dx, q, n, i, ws, rfl, _⟩ := h
    rfl
  · obtain ⟨a, dx, q, n, i, ws, rfl, h, hi, hs, kQ, kE⟩ := h
    refine ⟨_, (pss_cons (ps_if (PW.pt (pw_or (pt_val (peM0 MD hr (by decide) pass0 (pv 0))) (pw_or1 (pt_not (pt_val (pf FN hr (by decide) (pa_cons (pe_ix (ixL (K := K)) (eFld (K := K) (pv 0)) (eFld (K := K) (pv 0)) (fun _ _ => rfl)) pa_nil))))))) (pss_one (ps_expr (peM0 MR hr (by decide) (passes_call (takes_of rfl rfl rfl rfl) (fun _ _ _ _ h => h)) (pv 0)))) pss_nil)
      (pss_cons (ps_fldaug (pv 0) pe_int in_add)
      (pss_one (ps_ret (pe_ix (ixL (K := K)) (eFld (K := K) (pv 0)) (pe_op op_sub (eFld (K := K) (pv 0)) pe_int) (fun _ _ => rfl)))))), ?_⟩
    refine ⟨_, rfl, a, dx, _, rfl, h.at_, rfl, a, dx, q, n, i, ws, rfl, h, _, rfl, ?_⟩
    cases e : ws[i]? with
    | none =>
      have hl : (i : Int) = (ws.length : Int) := by
        have := List.getElem?_eq_none_iff.mp e
        omega
      rw [decide_eq_true hl]
      refine iteT ?_
      refine iteT ?_
      refine ⟨_, rfl, a, dx, _, rfl, h.at_, rfl, ?_⟩
      exact ⟨a, dx, q, n, i, ws, rfl, h, kE fun x hx => by rw [e] at hx; cases hx⟩
    | some x =>
      have hl : ¬ (i : Int) = (ws.length : Int) := by
        have := (List.getElem?_eq_some_iff.mp e).1
        omega
      rw [decide_eq_false hl]
      refine iteF ?_
      refine ⟨_, rfl, a, C, dx, _, _, rfl, h.at_, L.cls, L.parts, rfl, _, rfl, a, C, dx, _, _, rfl, h.at_, L.cls, L.place, rfl, ?_⟩
      refine ⟨q, _, _, _, rfl, rfl, SqL.of h.ws, at_str e, ?_⟩
      refine ⟨_, .str x, rfl, .str x, fun y hy => by cases hy; exact hs x (List.mem_of_getElem? e), fun H1 s1 => ⟨_, rfl, ?_⟩⟩
      have h1 := h.same s1
      have en : isNameD (.str x) = isNameS x := rfl
      rw [en]
      cases hm : isNameS x with
      | true =>
        refine iteF ?_
        refine ⟨_, rfl, a, C, dx, _, _, rfl, h1.at_, L.cls, L.place, rfl, _, _, rfl, rfl, dx, _, h1.at_, by show 3 < 1000; decide, ?_⟩
        have eo : HO.ins C dx (putF "place" (.int ((i : Int) + 1)) [("number", .int n), ("parts", .ref q), ("place", .int (i : Int))]) = lnO C dx n q ((i + 1 : Nat) : Int) := rfl
        rw [eo]
        have h2 := h1.step ((i + 1 : Nat) : Int)
        have k2 := kQ x e hm H1 s1
        generalize upd H1 a (lnO C dx n q ((i + 1 : Nat) : Int)) = H2 at h2 k2
        refine ⟨_, rfl, a, C, dx, _, _, rfl, h2.at_, L.cls, L.parts, rfl, _, rfl, a, C, dx, _, _, rfl, h2.at_, L.cls, L.place, rfl, _, _, rfl, rfl, ?_⟩
        refine ⟨q, _, _, _, rfl, rfl, SqL.of h2.ws, ?_, k2⟩
        have e3 : ((i + 1 : Nat) : Int) - 1 = (i : Int) := by omega
        rw [e3]
        exact at_str e
      | false =>
        refine iteT ?_
        refine ⟨_, rfl, a, dx, _, rfl, h1.at_, rfl, ?_⟩
        exact ⟨a, dx, q, n, i, ws, rfl, h1, kE fun y hy => by rw [e] at hy; cases hy; exact hm⟩
def spFinish (C cT : Addr) : Sp := fun vs H Q E => ∃ (a dx q : Addr) (n : Int) (i : Nat) (ws : List Str), vs = [.ref a] ∧ LnAt H C a dx q n ws i ∧ (i = ws.length → Q .non H) ∧ (i ≠ ws.length → RaiseT cT E n ((i + 1 : Nat) : Int))
theorem scFinish : FnScope ["self"] ["self"] (defScope sFinish) := ⟨rfl, rfl, rfl, by decide +kernel, rfl, by decide +kernel, by decide +kernel⟩
theorem ok_finish {C cT f : Addr} {fd : FuncData} (F : FunD K "finish" "Line.finish" (defArgs sFinish) (defBody sFinish) (defScope sFinish) [] [] f fd) (T : Fr mg) (L : LnC K C) (MD : MCl P w K mg base CX0 1 C "is_done" (spDone C)) (MR : MCl P w K mg base (L2.CX P w) 3 C "refuse" (spRefuse C cT)) : FnOk P w K mg base (L2.CX P w) 4 f fd ["self"] (spFinish C cT) := by
  refine F.ok scFinish (fun vs H Q E h => ?_) (fun cdv A outer s0 H vs Q E hr h => ?_)
  · obtain ⟨a, dx, q, n, i, ws, rfl, _⟩ := h
    rfl
  · obtain ⟨a, dx, q, n, i, ws, rfl, h, kQ, kE⟩ := h
    refine ⟨_, (pss_one (ps_if (pt_not (pt_val (peM0 MD hr (by decide) pass0 (pv 0)))) (pss_one (ps_expr (peM0 MR hr (by decide) (passes_call (takes_of rfl rfl rfl rfl) (fun _ _ _ _ h => h)) (pv 0)))) pss_nil)), ?_⟩
    refine ⟨_, rfl, a, dx, _, rfl, h.at_, rfl, a, dx, q, n, i, ws, rfl, h, _, rfl, ?_⟩
    by_cases hl : i = ws.length
    · rw [decide_eq_true (show (i : Int) = (ws.length : Int) by omega)]
      refine iteF ?_
      exact kQ hl
    · rw [decide_eq_false (show ¬ (i : Int) = (ws.length : Int) by omega)]
      refine iteT ?_
      refine ⟨_, rfl, a, dx, _, rfl, h.at_, rfl, ?_⟩
      exact ⟨a, dx, q, n, i, ws, rfl, h, kE hl⟩
end
end HP

namespace HP
open PySem PySem.Spec PyProof.Rows L2
abbrev sRL : Stmt := top 25
/-! ### read_line -/
def headL : List Str := "things" :: "keys" :: "words" :: partNames
def digits : List Str := ["1", "2", "3"]
def digitOf (x : Str) : Int := if x = "1" then 1 else if x = "2" then 2 else 3
def goodWord (k : Nat) (x : Str) : Bool :=
  if k = 0 then isNameS x else if k = 1 then decide (x ∈ digits) else if k = 2 then decide (x ∈ allWords) else decide (x ∈ partWords (headL.getD k ("" : Str)))
/-- the first further word that cannot stand, from the n-th on -/
def badFrom (k : Nat) : Nat → List Str → Option Nat
  | _, [] => none
  | n, x :: xs => if goodWord k x = false ∨ (k ≠ 0 ∧ k ≠ 2 ∧ 1 < n) then some (n + 1) else badFrom k (n + 1) xs
/-- the number of the first word of the line k that cannot stand -/
def lineFault (k : Nat) : List Str → Option Nat
  | [] => some 1
  | x :: xs => if headL[k]? = some x then (match badFrom k 1 xs with
    | some n => some n
    | none => if xs = [] ∧ k ≠ 2 then some 2 else none) else some 1
theorem badFrom_step {k n : Nat} {x : Str} {xs : List Str} (h : goodWord k x = true) (h2 : k = 0 ∨ k = 2 ∨ n = 1) : badFrom k n (x :: xs) = badFrom k (n + 1) xs := by
  show (if goodWord k x = false ∨ (k ≠ 0 ∧ k ≠ 2 ∧ 1 < n) then some (n + 1) else badFrom k (n + 1) xs) = _
  rw [if_neg]
  rintro (z | z)
  · rw [h] at z; cases z
  · omega
theorem badFrom_bad {k n : Nat} {x : Str} {xs : List Str} (h : goodWord k x = false) : badFrom k n (x :: xs) = some (n + 1) := by
  unfold badFrom
  rw [if_pos (.inl h)]
/-- what a line k tells, as a value -/
def LV (H : Hp) (k : Nat) (ws : List Str) (v : V) : Prop :=
  if k = 0 ∨ k = 2 then ∃ t, v = .ref t ∧ H t = some (.tup ((ws.drop 1).map V.str)) else ∃ x, ws[1]? = some x ∧ goodWord k x = true ∧ v = if k = 1 then .int (digitOf x) else .str x
theorem LV.mono {H H' : Hp} {k : Nat} {ws : List Str} {v : V} (h : LV H k ws v) (s : ∀ t o, v = .ref t → H t = some o → H' t = some o) : LV H' k ws v := by
  unfold LV at h ⊢
  split at h
  · rename_i hk
    rw [if_pos hk]
    obtain ⟨t, e, ht⟩ := h
    exact ⟨t, e, s t _ e ht⟩
  · rename_i hk
    rw [if_neg hk]
    exact h
section
variable {P : Program} {w : World} {K : PySem.W.Frag} {mg : Str → Option Value} {base : Heap}
def spRL (C cT : Addr) : Sp := fun vs H Q E => ∃ (a dx q fd : Addr) (n : Int) (ws : List Str) (k : Nat) (head : Str) (kvs : List (Key × V)), vs = [.ref a, .str head, .ref fd] ∧ headL[k]? = some head ∧ LnAt H C a dx q n ws 0 ∧ H fd = some (.dK kvs) ∧ kvs.length ≤ 100 ∧
  (∀ x ∈ ws, x.length ≤ 100000) ∧ ws.length ≤ 100000 ∧
  (lineFault k ws = none → ∀ H' v, (∀ b o, H b = some o → b ≠ a → b ≠ fd → H' b = some o) → H' fd = some (.dK (putK kvs (Sum.inr head) v)) → LV H' k ws v → Q .non H') ∧
  ∀ m, lineFault k ws = some m → RaiseT cT E n (m : Int)
theorem scRL : FnScope ["line", "head", "found", "names", "words"] ["line", "head", "found"] (defScope sRL) := ⟨rfl, rfl, rfl, by decide +kernel, rfl, by decide +kernel, by decide +kernel⟩
/-- the tables of texts -/
structure Tx (K : PySem.W.Frag) (mg : Str → Option Value) : Prop where
  dg : ∃ d, mg "DIGITS" = some (.ref d) ∧ ∀ H, SqT K H d (digits.map V.str)
  wd : ∃ d, mg "WORDS" = some (.ref d) ∧ ∀ H, SqT K H d (allWords.map V.str)
theorem str_decide (x y : Str) : decide (V.str x = V.str y) = decide (x = y) := decide_eq_decide.mpr ⟨V.str.inj, fun e => by rw [e]⟩
theorem headL_cases {k : Nat} {h : Str} (e : headL[k]? = some h) : (k = 0 ∧ h = "things") ∨ (k = 1 ∧ h = "keys") ∨ (k = 2 ∧ h = "words") ∨ (3 ≤ k ∧ k < 9 ∧ h ∈ partNames) := by
  match k, e with
  | 0, e => exact .inl ⟨rfl, (Option.some.inj e).symm⟩
  | 1, e => exact .inr (.inl ⟨rfl, (Option.some.inj e).symm⟩)
  | 2, e => exact .inr (.inr (.inl ⟨rfl, (Option.some.inj e).symm⟩))
  | k + 3, e =>
    have e2 : partNames[k]? = some h := e
    have hl : k < partNames.length := (List.getElem?_eq_some_iff.mp e2).1
    have h6 : partNames.length = 6 := rfl
    exact .inr (.inr (.inr ⟨by omega, by omega, List.mem_of_getElem? e2⟩))
theorem parts_ne {h : Str} (hm : h ∈ partNames) : h ≠ "things" ∧ h ≠ "keys" ∧ h ≠ "words" := by
  have : ∀ h ∈ partNames, h ≠ "things" ∧ h ≠ "keys" ∧ h ≠ "words" := by decide +kernel
  exact this h hm
theorem ok_readLine {C cT dP : Addr} {pa : Str → Addr} (D : Dat K mg "read_line" sRL) (T : Fr mg) (Z : Pt P w K mg dP pa) (Xt : Tx K mg) (MD : MCl P w K mg base CX0 1 C "is_done" (spDone C)) (MO : MCl P w K mg base (L2.CX P w) 4 C "take_one" (spOne K C cT))
    (MN : MCl P w K mg base (L2.CX P w) 4 C "take_name" (spTName C cT)) (MF : MCl P w K mg base (L2.CX P w) 4 C "finish" (spFinish C cT)) : Fn P w K mg base (L2.CX P w) 5 "read_line" (spRL C cT) := by
  refine Fn.of D scRL (fun _ _ _ _ _ _ us hl => match us, hl with | [_, _, _], _ => rfl) (fun vs H Q E h => ?_) (fun f cdv A outer s H vs Q E hr h => ?_)
  · obtain ⟨a, dx, q, fd, n, ws, k, head, kvs, rfl, _⟩ := h
    rfl
  · obtain ⟨a, dx, q, fd, n, ws, k, head, kvs, rfl, hk, hL, hfd, hkl, hxs, hwl, kQ, kE⟩ := h
    have hu : _ < cLine := hu_of hr
    obtain ⟨dG, gG, tG⟩ := Xt.dg
    obtain ⟨dW, gW, tW⟩ := Xt.wd
    refine ⟨_, (pss_cons (ps_expr (peM MO hr (by decide) (passes_call (takes_of rfl rfl rfl rfl) (fun _ _ _ _ h => h)) (pv 0) (pa_cons (pe_lst (pa_cons (pv 1) pa_nil)) pa_nil)))
      (pss_cons (ps_if (pt_cmpR op_eq (pv 1) pe_str (nomark _)) (pss_cons (ps_set (i := 3) scRL.nd rfl (Or.inl rfl) (pe_lst (pa_cons (peM0 MN hr (by decide) (passes_call (takes_of rfl rfl rfl rfl) (fun _ _ _ _ h => h)) (pv 0)) pa_nil)))
      (pss_cons (ps_while (passes_of rfl) (pt_not (pt_val (peM0 MD hr (by decide) pass0 (pv 0)))) (pss_one (ps_expr (eBm (K := K) PySem.F.plainAttrs_list PySem.F.slot_list_append PySem.F.type_list_append mt_append (pv 3) (pa_cons (peM0 MN hr (by decide) (passes_call (takes_of rfl rfl rfl rfl) (fun _ _ _ _ h => h)) (pv 0)) pa_nil)))))
      (pss_one (ps_dput hu (pv 2) (pv 1) (pe_callTy (kTup (K := K)) (by rfl) (T.fr "tuple" (by decide +kernel)) (by decide +kernel) (pa_cons (pv 3) pa_nil)) rfl)))) (pss_one (ps_if (pt_cmpR op_eq (pv 1) pe_str (nomark _)) (pss_one (ps_dput hu (pv 2) (pv 1) (pe_callTy call_int_str (by rfl) (T.fr "int" (by decide +kernel)) (by decide +kernel) (pa_cons (peM MO hr (by decide) (passes_call (takes_of rfl rfl rfl rfl) (fun _ _ _ _ h => h)) (pv 0) (pa_cons (pe_glob (v := .ref dG) (by rfl) gG rfl) pa_nil)) pa_nil)) rfl)) (pss_one (ps_if (pt_cmpR op_eq (pv 1) pe_str (nomark _)) (pss_cons (ps_set (i := 4) scRL.nd rfl (Or.inl rfl) (pe_lst pa_nil))
      (pss_cons (ps_while (passes_of rfl) (pt_not (pt_val (peM0 MD hr (by decide) pass0 (pv 0)))) (pss_one (ps_expr (eBm (K := K) PySem.F.plainAttrs_list PySem.F.slot_list_append PySem.F.type_list_append mt_append (pv 4) (pa_cons (peM MO hr (by decide) (passes_call (takes_of rfl rfl rfl rfl) (fun _ _ _ _ h => h)) (pv 0) (pa_cons (pe_glob (v := .ref dW) (by rfl) gW rfl) pa_nil)) pa_nil)))))
      (pss_one (ps_dput hu (pv 2) (pv 1) (pe_callTy (kTup (K := K)) (by rfl) (T.fr "tuple" (by decide +kernel)) (by decide +kernel) (pa_cons (pv 4) pa_nil)) rfl)))) (pss_one (ps_dput hu (pv 2) (pv 1) (peM MO hr (by decide) (passes_call (takes_of rfl rfl rfl rfl) (fun _ _ _ _ h => h)) (pv 0) (pa_cons (pe_ix (ixW Z.wd) (pe_glob (v := .ref dP) (by rfl) Z.gl rfl) (pv 1) (fun _ _ => rfl)) pa_nil)) rfl)))))))
      (pss_one (ps_expr (peM0 MF hr (by decide) (passes_call (takes_of rfl rfl rfl rfl) (fun _ _ _ _ h => h)) (pv 0)))))), ?_⟩
    have hqa : q ≠ a := hL.ne
    have nfa : fd ≠ a := ne_of hfd hL.at_ (by intro z; cases z)
    -- line.take_one([head])
    refine ⟨_, rfl, a, dx, _, rfl, hL.at_, rfl, _, rfl, (by show 1 ≤ sizeLine; decide), fun l hl => ?_⟩
    have nla : a ≠ l := ne_of_none hL.at_ hl
    have nlq : q ≠ l := ne_of_none hL.ws hl
    have nlf : fd ≠ l := ne_of_none hfd hl
    have hL0 : LnAt (upd H l (.lst [.str head])) C a dx q n ws 0 := hL.same (same_new (Same.refl H) hl)
    have bad1 : (∀ x, ws[0]? = some x → x ∉ [head]) → lineFault k ws = some 1 := fun hno => by
      cases ws with
      | nil => rfl
      | cons y ys =>
        show (if headL[k]? = some y then _ else some 1) = some 1
        rw [if_neg]
        intro e
        rw [hk] at e
        exact hno y rfl (by rw [Option.some.inj e]; exact List.mem_singleton.mpr rfl)
    refine ⟨a, dx, q, l, n, 0, ws, [head], rfl, hL0, Nat.zero_le _, .inl (SqL.of upd_same), fun x hx0 hxm => ?_, fun hno => kE 1 (bad1 hno)⟩
    obtain rfl : x = head := List.mem_singleton.mp hxm
    obtain ⟨xs, rfl⟩ : ∃ xs, ws = x :: xs := by
      cases ws with
      | nil => cases hx0
      | cons y ys => exact ⟨ys, by rw [Option.some.inj hx0]⟩
    have h1 := hL0.step ((0 + 1 : Nat) : Int)
    have hf1 : upd (upd H l (.lst [.str x])) a (lnO C dx n q ((0 + 1 : Nat) : Int)) fd = some (.dK kvs) := by rw [upd_ne nfa, upd_ne nlf]; exact hfd
    have fr1 : ∀ b o, H b = some o → b ≠ a → upd (upd H l (.lst [.str x])) a (lnO C dx n q ((0 + 1 : Nat) : Int)) b = some o := fun b o e h => by rw [upd_ne h, upd_ne (ne_of_none e hl)]; exact e
    have eF : lineFault k (x :: xs) = (match badFrom k 1 xs with
      | some n => some n
      | none => if xs = [] ∧ k ≠ 2 then some 2 else none) := by
      show (if headL[k]? = some x then _ else some 1) = _
      rw [if_pos hk]
    show tSeq _ _ _ _ (upd (upd H l (.lst [.str x])) a (lnO C dx n q ((0 + 1 : Nat) : Int)))
    generalize upd (upd H l (.lst [.str x])) a (lnO C dx n q ((0 + 1 : Nat) : Int)) = H1 at h1 hf1 fr1
    -- the end of the line
    have fin : ∀ (σ : L2.St) (H2 : Hp) (i : Nat) (v : V) (D : Ends), σ[0]? = some (some (.ref a)) → LnAt H2 C a dx q n (x :: xs) i → (∀ b o, H b = some o → b ≠ a → b ≠ fd → H2 b = some o) → H2 fd = some (.dK (putK kvs (Sum.inr x) v)) → LV H2 k (x :: xs) v → (i = (x :: xs).length → lineFault k (x :: xs) = none) → (i ≠ (x :: xs).length → lineFault k (x :: xs) = some (i + 1)) → D.nx = (fun _ H' => Q .non H') →
        tDrop (tMeth C "finish" (spFinish C cT) [] E (tVar 0) tNil) D σ H2 := fun σ H2 i v D hσ hL2 fr2 hf2 lv e1 e2 eD => by
      refine ⟨_, hσ, a, dx, _, rfl, hL2.at_, rfl, ?_⟩
      refine ⟨a, dx, q, n, i, _, rfl, hL2, fun e => ?_, fun e => kE _ (e2 e)⟩
      rw [eD]
      exact kQ (e1 e) H2 v fr2 hf2 lv
    refine ⟨_, rfl, rfl, _, rfl, ?_⟩
    rw [str_decide]
    rcases headL_cases hk with ⟨rfl, rfl⟩ | ⟨rfl, rfl⟩ | ⟨rfl, rfl⟩ | ⟨k1, k2, hm⟩
    · -- things
      refine iteT ?_
      have b2 : (∀ z, (("things" : Str) :: xs)[1]? = some z → isNameS z = false) → lineFault 0 ("things" :: xs) = some 2 := fun hno => by
        rw [eF]
        cases xs with
        | nil => rfl
        | cons y ys =>
          have z : badFrom 0 1 (y :: ys) = some 2 := badFrom_bad (hno y rfl)
          rw [z]
      refine ⟨_, rfl, a, dx, _, rfl, h1.at_, rfl, a, dx, q, n, 1, _, rfl, h1, by simp, hxs, fun y hy gy H2 s2 => ?_, fun hno => kE 2 (b2 hno)⟩
      have h2 := (h1.same s2).step ((1 + 1 : Nat) : Int)
      have hf2 : upd H2 a (lnO C dx n q ((1 + 1 : Nat) : Int)) fd = some (.dK kvs) := by rw [upd_ne nfa]; exact s2 _ _ hf1
      have fr2 : ∀ b o, H b = some o → b ≠ a → upd H2 a (lnO C dx n q ((1 + 1 : Nat) : Int)) b = some o := fun b o e h => by rw [upd_ne h]; exact s2 _ _ (fr1 b o e h)
      generalize upd H2 a (lnO C dx n q ((1 + 1 : Nat) : Int)) = H3 at h2 hf2 fr2
      refine ⟨(by show 1 ≤ sizeLine; decide), fun nl hnl => ?_⟩
      have nqn : q ≠ nl := ne_of_none h2.ws hnl
      have hnlH : H nl = none := by
        cases e : H nl with
        | none => rfl
        | some o =>
          by_cases ea : nl = a
          · rw [ea, h2.at_] at hnl; cases hnl
          · rw [fr2 _ _ e ea] at hnl; cases hnl
      obtain ⟨ys, rfl⟩ : ∃ ys, xs = y :: ys := by
        cases xs with
        | nil => cases hy
        | cons z zs => cases hy; exact ⟨zs, rfl⟩
      have fst : ∀ H4, H4 = upd H3 nl (.lst [.str y]) → LnAt H4 C a dx q n ("things" :: y :: ys) ((1 + 1 : Nat) : Int) ∧ H4 nl = some (.lst (((y :: ys).take 1).map V.str)) ∧ H4 fd = some (.dK kvs) ∧ (∀ b o, H b = some o → b ≠ a → H4 b = some o) ∧ badFrom 0 1 (y :: ys) = badFrom 0 (1 + 1) ((y :: ys).drop 1) := fun H4 e4 => by
        subst e4
        refine ⟨h2.same (same_new (Same.refl _) hnl), upd_same, ?_, fun b o e h => ?_, badFrom_step gy (.inl rfl)⟩
        · rw [upd_ne (ne_of_none hf2 hnl)]; exact hf2
        · rw [upd_ne (ne_of_none e hnlH)]; exact fr2 b o e h
      have hyl : 1 ≤ (y :: ys).length := by simp
      generalize exs : y :: ys = xs at eF fin hyl fst hxs hwl kE

      refine ⟨fun m σ H2 => ∃ j, m = xs.length - j ∧ j ≤ xs.length ∧ 1 ≤ j ∧ σ = [some (.ref a), some (.str "things"), some (.ref fd), some (.ref nl), none] ∧ LnAt H2 C a dx q n ("things" :: xs) ((j + 1 : Nat) : Int) ∧ H2 nl = some (.lst ((xs.take j).map V.str)) ∧ H2 fd = some (.dK kvs) ∧ (∀ b o, H b = some o → b ≠ a → H2 b = some o) ∧ badFrom 0 1 xs = badFrom 0 (j + 1) (xs.drop j),
        ⟨_, 1, rfl, hyl, Nat.le_refl _, rfl, fst _ rfl⟩, ?_⟩
      rintro m σ H2 ⟨j, rfl, hjl, hj1, rfl, hLj, hnj, hfj, frj, ebj⟩
      have nna : nl ≠ a := ne_of hnj hLj.at_ (by intro z; cases z)
      have nnf : nl ≠ fd := ne_of hnj hfj (by intro z; cases z)
      refine ⟨_, rfl, a, dx, _, rfl, hLj.at_, rfl, a, dx, q, n, ((j + 1 : Nat) : Int), _, rfl, hLj, _, rfl, ?_⟩
      by_cases hj : j = xs.length
      · -- the end
        have e1 : (((j + 1 : Nat) : Int) = ((("things" : Str) :: xs).length : Int)) := by simp only [List.length_cons]; omega
        rw [decide_eq_true e1]
        refine iteF ?_
        refine ⟨_, rfl, nl, _, rfl, .inl ⟨SqL.of hnj, fun t ht => ?_⟩⟩
        have ntf : fd ≠ t := ne_of_none hfj ht
        refine ⟨_, rfl, _, rfl, fd, _, rfl, DPut.k (k := Sum.inr "things") (by rw [upd_ne ntf]; exact hfj) (Nat.lt_of_le_of_lt hkl (by decide)), ?_⟩
        have nta : a ≠ t := ne_of_none hLj.at_ ht
        have ntq : q ≠ t := ne_of_none hLj.ws ht
        have nqf : q ≠ fd := ne_of hLj.ws hfj (by intro z; cases z)
        have nb : badFrom 0 1 xs = none := by rw [ebj, hj, List.drop_length]; rfl
        have hxe : xs ≠ [] := fun e => by rw [e] at hj; simp at hj; omega
        refine fin _ _ (j + 1) (.ref t) _ rfl ⟨?_, ?_⟩ (fun b o e h h2 => ?_) upd_same ?_ (fun _ => ?_) (fun e => absurd (by simp only [List.length_cons]; omega) e) rfl
        · rw [upd_ne nfa.symm, upd_ne nta]; exact hLj.at_
        · rw [upd_ne nqf, upd_ne ntq]; exact hLj.ws
        · rw [upd_ne h2, upd_ne (ne_of_none (frj b o e h) ht)]; exact frj b o e h
        · unfold LV
          rw [if_pos (by decide)]
          refine ⟨t, rfl, ?_⟩
          rw [upd_ne ntf.symm, upd_same, hj, List.take_length]
          rfl
        · rw [eF, nb]
          show (if xs = [] ∧ _ then some 2 else none) = none
          rw [if_neg]
          rintro ⟨z1, z2⟩
          exact hxe z1
      · have hlt : j < xs.length := by omega
        have e1 : ¬ (((j + 1 : Nat) : Int) = ((("things" : Str) :: xs).length : Int)) := by simp only [List.length_cons]; omega
        rw [decide_eq_false e1]
        refine iteT ?_
        refine ⟨fun σ H2 => ∃ j', j' = j + 1 ∧ j' ≤ xs.length ∧ 1 ≤ j' ∧ σ = [some (.ref a), some (.str "things"), some (.ref fd), some (.ref nl), none] ∧ LnAt H2 C a dx q n ("things" :: xs) ((j' + 1 : Nat) : Int) ∧ H2 nl = some (.lst ((xs.take j').map V.str)) ∧ H2 fd = some (.dK kvs) ∧ (∀ b o, H b = some o → b ≠ a → H2 b = some o) ∧ badFrom 0 1 xs = badFrom 0 (j' + 1) (xs.drop j'),
          fun σ' H' ⟨j', e, r⟩ => ⟨xs.length - j', by omega, j', rfl, r⟩, ?_⟩
        have edr : xs.drop j = xs[j] :: xs.drop (j + 1) := List.drop_eq_getElem_cons hlt
        have ews : (("things" : Str) :: xs)[j + 1]? = some xs[j] := by rw [List.getElem?_cons_succ]; exact List.getElem?_eq_getElem hlt
        refine ⟨_, rfl, .inl ⟨rfl, _, SqL.of hnj⟩, _, rfl, a, dx, _, rfl, hLj.at_, rfl, a, dx, q, n, j + 1, _, rfl, hLj, by simp only [List.length_cons]; omega, hxs, fun y hy gy H4 s4 => ?_, fun hno => kE (j + 1 + 1) ?_⟩
        · rw [ews] at hy
          cases hy
          have h4 := (hLj.same s4).step ((j + 1 + 1 : Nat) : Int)
          have hn4 : upd H4 a (lnO C dx n q ((j + 1 + 1 : Nat) : Int)) nl = some (.lst ((xs.take j).map V.str)) := by rw [upd_ne nna]; exact s4 _ _ hnj
          refine ⟨nl, _, _, rfl, rfl, hn4, ?_, ?_⟩
          · rw [List.length_map, List.length_take]
            have : xs.length + 1 ≤ 100000 := hwl
            exact Nat.lt_of_le_of_lt (show min j xs.length ≤ 100000 by omega) (by decide)
          refine ⟨j + 1, rfl, hlt, by omega, rfl, ⟨by rw [upd_ne nna.symm]; exact h4.at_, by rw [upd_ne nqn]; exact h4.ws⟩, ?_, ?_, fun b o e h => ?_, ?_⟩
          · rw [upd_same, List.take_add_one, List.getElem?_eq_getElem hlt, List.map_append]
            rfl
          · rw [upd_ne nnf.symm, upd_ne nfa]; exact s4 _ _ hfj
          · rw [upd_ne (ne_of_none e hnlH), upd_ne h]; exact s4 _ _ (frj b o e h)
          · rw [ebj, edr]
            exact badFrom_step gy (.inl rfl)
        · have eb : badFrom 0 1 xs = some (j + 1 + 1) := by
            rw [ebj, edr]
            exact badFrom_bad (hno _ ews)
          rw [eF, eb]
    · -- keys
      refine iteF ?_
      refine ⟨_, rfl, rfl, _, rfl, ?_⟩
      rw [str_decide]
      refine iteT ?_
      have k0n : (1 : Nat) ≠ 0 := by decide
      have k2n : (1 : Nat) ≠ 2 := by decide
      have b2 : (∀ z, (("keys" : Str) :: xs)[1]? = some z → goodWord 1 z = false) → lineFault 1 ("keys" :: xs) = some 2 := fun hno => by
        rw [eF]
        cases xs with
        | nil =>
          show (if ([] : List Str) = [] ∧ 1 ≠ 2 then some 2 else none) = some 2
          rw [if_pos ⟨rfl, k2n⟩]
        | cons y ys =>
          have z : badFrom 1 1 (y :: ys) = some 2 := badFrom_bad (hno y rfl)
          rw [z]
      have b3 : ∀ z, (("keys" : Str) :: xs)[1]? = some z → goodWord 1 z = true → (2 = (("keys" : Str) :: xs).length → lineFault 1 ("keys" :: xs) = none) ∧ (2 ≠ (("keys" : Str) :: xs).length → lineFault 1 ("keys" :: xs) = some (2 + 1)) := fun z hz gz => by
        cases xs with
        | nil => cases hz
        | cons y ys =>
          have ez : y = z := Option.some.inj hz
          rw [← ez] at gz
          rw [eF]
          have e : badFrom 1 1 (y :: ys) = badFrom 1 2 ys := badFrom_step gz (.inr (.inr rfl))
          rw [e]
          cases ys with
          | nil =>
            refine ⟨fun _ => ?_, fun z => absurd rfl z⟩
            show (if [y] = [] ∧ 1 ≠ 2 then some 2 else none) = none
            rw [if_neg (fun z => by cases z.1)]
          | cons y2 ys =>
            refine ⟨fun z => by simp at z, fun _ => ?_⟩
            have e2 : badFrom 1 2 (y2 :: ys) = some 3 := by
              show (if goodWord 1 y2 = false ∨ (1 ≠ 0 ∧ 1 ≠ 2 ∧ 1 < 2) then some (2 + 1) else badFrom 1 (2 + 1) ys) = _
              rw [if_pos (.inr ⟨k0n, k2n, by decide⟩)]
            rw [e2]
      refine ⟨_, rfl, a, dx, _, rfl, h1.at_, rfl, a, dx, q, dG, n, 1, _, digits, rfl, h1, by simp, .inr (tG _), fun y hy gy => ?_, fun hno => kE 2 (b2 fun z hz => decide_eq_false (hno z hz))⟩
      have hi : PySem.intText? y = some (digitOf y) ∧ y.length ≤ 640 := by
        have : ∀ y ∈ digits, PySem.intText? y = some (digitOf y) ∧ y.length ≤ 640 := by decide +kernel
        exact this y gy
      refine ⟨y, digitOf y, rfl, hi.1, hi.2, ?_⟩
      have h2 := h1.step ((1 + 1 : Nat) : Int)
      have hf2 : upd H1 a (lnO C dx n q ((1 + 1 : Nat) : Int)) fd = some (.dK kvs) := by rw [upd_ne nfa]; exact hf1
      refine ⟨_, rfl, _, rfl, fd, _, rfl, DPut.k (k := Sum.inr "keys") hf2 (Nat.lt_of_le_of_lt hkl (by decide)), ?_⟩
      have nqf : q ≠ fd := ne_of h2.ws hf2 (by intro z; cases z)
      refine fin _ _ 2 (.int (digitOf y)) _ rfl ⟨by rw [upd_ne nfa.symm]; exact h2.at_, by rw [upd_ne nqf]; exact h2.ws⟩ (fun b o e h h3 => ?_) upd_same ?_ (b3 y hy (decide_eq_true gy)).1 (b3 y hy (decide_eq_true gy)).2 rfl
      · rw [upd_ne h3, upd_ne h]; exact fr1 b o e h
      · unfold LV
        rw [if_neg (by decide)]
        exact ⟨y, hy, decide_eq_true gy, rfl⟩
    · -- words
      refine iteF ?_
      refine ⟨_, rfl, rfl, _, rfl, ?_⟩
      rw [str_decide]
      refine iteF ?_
      refine ⟨_, rfl, rfl, _, rfl, ?_⟩
      rw [str_decide]
      refine iteT ?_
      refine ⟨(by show 0 ≤ sizeLine; decide), fun nl hnl => ?_⟩
      have nqn : q ≠ nl := ne_of_none h1.ws hnl
      have hnlH : H nl = none := by
        cases e : H nl with
        | none => rfl
        | some o =>
          by_cases ea : nl = a
          · rw [ea, h1.at_] at hnl; cases hnl
          · rw [fr1 _ _ e ea] at hnl; cases hnl
      have fst : ∀ H4, H4 = upd H1 nl (.lst []) → LnAt H4 C a dx q n ("words" :: xs) ((0 + 1 : Nat) : Int) ∧ H4 nl = some (.lst ((xs.take 0).map V.str)) ∧ H4 fd = some (.dK kvs) ∧ (∀ b o, H b = some o → b ≠ a → H4 b = some o) ∧ badFrom 2 1 xs = badFrom 2 (0 + 1) (xs.drop 0) := fun H4 e4 => by
        subst e4
        refine ⟨h1.same (same_new (Same.refl _) hnl), upd_same, ?_, fun b o e h => ?_, rfl⟩
        · rw [upd_ne (ne_of_none hf1 hnl)]; exact hf1
        · rw [upd_ne (ne_of_none e hnlH)]; exact fr1 b o e h

      refine ⟨fun m σ H2 => ∃ j, m = xs.length - j ∧ j ≤ xs.length ∧ σ = [some (.ref a), some (.str "words"), some (.ref fd), none, some (.ref nl)] ∧ LnAt H2 C a dx q n ("words" :: xs) ((j + 1 : Nat) : Int) ∧ H2 nl = some (.lst ((xs.take j).map V.str)) ∧ H2 fd = some (.dK kvs) ∧ (∀ b o, H b = some o → b ≠ a → H2 b = some o) ∧ badFrom 2 1 xs = badFrom 2 (j + 1) (xs.drop j),
        ⟨_, 0, rfl, Nat.zero_le _, rfl, fst _ rfl⟩, ?_⟩
      rintro m σ H2 ⟨j, rfl, hjl, rfl, hLj, hnj, hfj, frj, ebj⟩
      have nna : nl ≠ a := ne_of hnj hLj.at_ (by intro z; cases z)
      have nnf : nl ≠ fd := ne_of hnj hfj (by intro z; cases z)
      refine ⟨_, rfl, a, dx, _, rfl, hLj.at_, rfl, a, dx, q, n, ((j + 1 : Nat) : Int), _, rfl, hLj, _, rfl, ?_⟩
      by_cases hj : j = xs.length
      · -- the end
        have e1 : (((j + 1 : Nat) : Int) = ((("words" : Str) :: xs).length : Int)) := by simp only [List.length_cons]; omega
        rw [decide_eq_true e1]
        refine iteF ?_
        refine ⟨_, rfl, nl, _, rfl, .inl ⟨SqL.of hnj, fun t ht => ?_⟩⟩
        have ntf : fd ≠ t := ne_of_none hfj ht
        refine ⟨_, rfl, _, rfl, fd, _, rfl, DPut.k (k := Sum.inr "words") (by rw [upd_ne ntf]; exact hfj) (Nat.lt_of_le_of_lt hkl (by decide)), ?_⟩
        have nta : a ≠ t := ne_of_none hLj.at_ ht
        have ntq : q ≠ t := ne_of_none hLj.ws ht
        have nqf : q ≠ fd := ne_of hLj.ws hfj (by intro z; cases z)
        have nb : badFrom 2 1 xs = none := by rw [ebj, hj, List.drop_length]; rfl
        have hxe : True := True.intro
        refine fin _ _ (j + 1) (.ref t) _ rfl ⟨?_, ?_⟩ (fun b o e h h2 => ?_) upd_same ?_ (fun _ => ?_) (fun e => absurd (by simp only [List.length_cons]; omega) e) rfl
        · rw [upd_ne nfa.symm, upd_ne nta]; exact hLj.at_
        · rw [upd_ne nqf, upd_ne ntq]; exact hLj.ws
        · rw [upd_ne h2, upd_ne (ne_of_none (frj b o e h) ht)]; exact frj b o e h
        · unfold LV
          rw [if_pos (by decide)]
          refine ⟨t, rfl, ?_⟩
          rw [upd_ne ntf.symm, upd_same, hj, List.take_length]
          rfl
        · rw [eF, nb]
          show (if xs = [] ∧ _ then some 2 else none) = none
          rw [if_neg]
          rintro ⟨z1, z2⟩
          exact z2 rfl
      · have hlt : j < xs.length := by omega
        have e1 : ¬ (((j + 1 : Nat) : Int) = ((("words" : Str) :: xs).length : Int)) := by simp only [List.length_cons]; omega
        rw [decide_eq_false e1]
        refine iteT ?_
        refine ⟨fun σ H2 => ∃ j', j' = j + 1 ∧ j' ≤ xs.length ∧ σ = [some (.ref a), some (.str "words"), some (.ref fd), none, some (.ref nl)] ∧ LnAt H2 C a dx q n ("words" :: xs) ((j' + 1 : Nat) : Int) ∧ H2 nl = some (.lst ((xs.take j').map V.str)) ∧ H2 fd = some (.dK kvs) ∧ (∀ b o, H b = some o → b ≠ a → H2 b = some o) ∧ badFrom 2 1 xs = badFrom 2 (j' + 1) (xs.drop j'),
          fun σ' H' ⟨j', e, r⟩ => ⟨xs.length - j', by omega, j', rfl, r⟩, ?_⟩
        have edr : xs.drop j = xs[j] :: xs.drop (j + 1) := List.drop_eq_getElem_cons hlt
        have ews : (("words" : Str) :: xs)[j + 1]? = some xs[j] := by rw [List.getElem?_cons_succ]; exact List.getElem?_eq_getElem hlt
        refine ⟨_, rfl, .inl ⟨rfl, _, SqL.of hnj⟩, _, rfl, a, dx, _, rfl, hLj.at_, rfl, a, dx, q, dW, n, j + 1, _, allWords, rfl, hLj, by simp only [List.length_cons]; omega, .inr (tW _), fun y hy gy => ?_, fun hno => kE (j + 1 + 1) ?_⟩
        · rw [ews] at hy
          cases hy
          have h4 := hLj.step ((j + 1 + 1 : Nat) : Int)
          have hn4 : upd H2 a (lnO C dx n q ((j + 1 + 1 : Nat) : Int)) nl = some (.lst ((xs.take j).map V.str)) := by rw [upd_ne nna]; exact hnj
          refine ⟨nl, _, _, rfl, rfl, hn4, ?_, ?_⟩
          · rw [List.length_map, List.length_take]
            have : xs.length + 1 ≤ 100000 := hwl
            exact Nat.lt_of_le_of_lt (show min j xs.length ≤ 100000 by omega) (by decide)
          refine ⟨j + 1, rfl, hlt, rfl, ⟨by rw [upd_ne nna.symm]; exact h4.at_, by rw [upd_ne nqn]; exact h4.ws⟩, ?_, ?_, fun b o e h => ?_, ?_⟩
          · rw [upd_same, List.take_add_one, List.getElem?_eq_getElem hlt, List.map_append]
            rfl
          · rw [upd_ne nnf.symm, upd_ne nfa]; exact hfj
          · rw [upd_ne (ne_of_none e hnlH), upd_ne h]; exact frj b o e h
          · rw [ebj, edr]
            exact badFrom_step (decide_eq_true gy) (.inr (.inl rfl))
        · have eb : badFrom 2 1 xs = some (j + 1 + 1) := by
            rw [ebj, edr]
            exact badFrom_bad (decide_eq_false (hno _ ews))
          rw [eF, eb]
    · -- a part
      obtain ⟨n1, n2, n3⟩ := parts_ne hm
      rw [decide_eq_false n1]
      refine iteF ?_
      refine ⟨_, rfl, rfl, _, rfl, ?_⟩
      rw [str_decide, decide_eq_false n2]
      refine iteF ?_
      refine ⟨_, rfl, rfl, _, rfl, ?_⟩
      rw [str_decide, decide_eq_false n3]
      refine iteF ?_
      have k0n : k ≠ 0 := by omega
      have k1n : k ≠ 1 := by omega
      have k2n : k ≠ 2 := by omega
      have gk : ∀ z, goodWord k z = decide (z ∈ partWords x) := fun z => by
        unfold goodWord
        rw [if_neg k0n, if_neg k1n, if_neg k2n, List.getD_eq_getElem?_getD, hk]
        rfl
      have b2 : (∀ z, (x :: xs)[1]? = some z → goodWord k z = false) → lineFault k (x :: xs) = some 2 := fun hno => by
        rw [eF]
        cases xs with
        | nil =>
          show (if ([] : List Str) = [] ∧ k ≠ 2 then some 2 else none) = some 2
          rw [if_pos ⟨rfl, k2n⟩]
        | cons y ys =>
          have z : badFrom k 1 (y :: ys) = some 2 := badFrom_bad (hno y rfl)
          rw [z]
      have b3 : ∀ z, (x :: xs)[1]? = some z → goodWord k z = true → (2 = (x :: xs).length → lineFault k (x :: xs) = none) ∧ (2 ≠ (x :: xs).length → lineFault k (x :: xs) = some (2 + 1)) := fun z hz gz => by
        cases xs with
        | nil => cases hz
        | cons y ys =>
          have ez : y = z := Option.some.inj hz
          rw [← ez] at gz
          rw [eF]
          have e : badFrom k 1 (y :: ys) = badFrom k 2 ys := badFrom_step gz (.inr (.inr rfl))
          rw [e]
          cases ys with
          | nil =>
            refine ⟨fun _ => ?_, fun z => absurd rfl z⟩
            show (if [y] = [] ∧ k ≠ 2 then some 2 else none) = none
            rw [if_neg (fun z => by cases z.1)]
          | cons y2 ys =>
            refine ⟨fun z => by simp at z, fun _ => ?_⟩
            have e2 : badFrom k 2 (y2 :: ys) = some 3 := by
              show (if goodWord k y2 = false ∨ (k ≠ 0 ∧ k ≠ 2 ∧ 1 < 2) then some (2 + 1) else badFrom k (2 + 1) ys) = _
              rw [if_pos (.inr ⟨k0n, k2n, by decide⟩)]
            rw [e2]
      have eV := valV_map (fun q => V.ref (pa q)) x partNames
      rw [if_pos hm] at eV
      refine ⟨_, rfl, a, dx, _, rfl, h1.at_, rfl, _, rfl, Sum.inr x, .ref (pa x), rfl, rfl, eV, ?_⟩
      refine ⟨a, dx, q, pa x, n, 1, _, partWords x, rfl, h1, by simp, .inr (Z.tup x hm _), fun y hy gy => ?_, fun hno => kE 2 (b2 fun z hz => by rw [gk]; exact decide_eq_false (hno z hz))⟩
      have gy2 : goodWord k y = true := by rw [gk]; exact decide_eq_true gy
      have h2 := h1.step ((1 + 1 : Nat) : Int)
      have hf2 : upd H1 a (lnO C dx n q ((1 + 1 : Nat) : Int)) fd = some (.dK kvs) := by rw [upd_ne nfa]; exact hf1
      refine ⟨_, rfl, _, rfl, fd, _, rfl, DPut.k (k := Sum.inr x) hf2 (Nat.lt_of_le_of_lt hkl (by decide)), ?_⟩
      have nqf : q ≠ fd := ne_of h2.ws hf2 (by intro z; cases z)
      refine fin _ _ 2 (.str y) _ rfl ⟨by rw [upd_ne nfa.symm]; exact h2.at_, by rw [upd_ne nqf]; exact h2.ws⟩ (fun b o e h h3 => ?_) upd_same ?_ (b3 y hy gy2).1 (b3 y hy gy2).2 rfl
      · rw [upd_ne h3, upd_ne h]; exact fr1 b o e h
      · unfold LV
        rw [if_neg (by omega)]
        exact ⟨y, hy, gy2, by rw [if_neg k1n]⟩
end
end HP

namespace HP
open PySem PySem.Spec PyProof.Rows L2
abbrev sRead : Stmt := top 26
/-! ### read_scene -/
theorem piece_le {x y p : Str} (h : p ∈ Txt.split x y) : p.length ≤ x.length := by
  have sub : ∀ i j, (Builtin.Str.strSub x i j).length ≤ x.length := fun i j => by
    rw [TL.len_tl, TL.tl_strSub, List.length_take, List.length_drop, TL.len_tl x]
    omega
  unfold Txt.split at h
  split at h
  · rw [List.mem_singleton.mp h]; exact Nat.le_refl _
  · split at h
    · rw [List.mem_singleton.mp h]; exact Nat.le_refl _
    · unfold Builtin.Str.partsBetween at h
      obtain ⟨⟨i, j⟩, _, rfl⟩ := List.mem_map.mp h
      exact sub i j
theorem words_le {x p : Str} (h : p ∈ wordsOf x) : p.length ≤ x.length := piece_le (List.mem_filter.mp h).1
/-- the first line and word that cannot stand, from the line k on -/
def faultFrom : Nat → List Str → Option (Nat × Nat)
  | k, [] => if k < 9 then some (k + 1, 1) else none
  | k, r :: rs => match lineFault k (wordsOf r) with
    | some m => some (k + 1, m)
    | none => faultFrom (k + 1) rs
def lineOf (rows : List Str) (h : Str) : List Str := wordsOf (rows.getD (headL.idxOf h) ("" : Str))
def rdT (rows : List Str) : PyData := .tuple (((lineOf rows "things").drop 1).map .str)
def rdM (rows : List Str) : PyData := .int (digitOf ((lineOf rows "keys").getD 1 ("" : Str)))
def rdR (rows : List Str) : Option (List (Key × PyData)) := some (dicD fun p => .str ((lineOf rows p).getD 1 ("" : Str)))
def rdW (rows : List Str) : PyData := .tuple (((lineOf rows "words").drop 1).map .str)
theorem idx_head {j : Nat} {h : Str} (e : headL[j]? = some h) : headL.idxOf h = j := by
  have all : ∀ j : Fin 9, headL.idxOf (headL.getD j ("" : Str)) = j := by decide +kernel
  obtain ⟨hj, rfl⟩ := List.getElem?_eq_some_iff.mp e
  have := all ⟨j, hj⟩
  rw [List.getD_eq_getElem?_getD, e] at this
  exact this
theorem nodup_head : headL.Nodup := by decide +kernel
/-- the class Line can be called -/
def LnMk (P : Program) (w : World) (K : PySem.W.Frag) (mg : Str → Option Value) (base : Heap) (C : Addr) : Prop :=
  ∃ (fI : Addr) (fd : FuncData), mg "Line" = some (.ref C) ∧ Mk K C fI ∧ Binds K fd ["self", "text", "number"] [] ∧ FnOk P w K mg base CX0 1 fI fd ["self", "text", "number"] (spLine C)
theorem pfLine {X : Cx} {C : Addr} {n : Nat} {e : Expr} {es : List Expr} {t : TA} {p pos : Pos} (M : LnMk X.prog X.w X.K X.mg X.base C) (hr : Room n X.A) (hn : 2 ≤ n) (ha : PA X (e :: es) t) (hg : Gl X "Line" := by rfl)
    (he : starEach (e :: es) X.env = (false, eval e X.env) :: starEach es X.env := by rfl) (hpl : (backTo pos (starEach es X.env)).any (·.1) = false := by rfl) : PE X (.Call (.Name "Line" p) (e :: es) [] pos) (tMake C (spLine C) [] E0 t) := by
  obtain ⟨fI, fd, h1, h2, h3, h4⟩ := M
  exact pe_make h2 h4 (hr.mono hn) hg h1 h3 .nil pass0 ha (by decide) he hpl
theorem mono_len {K : PySem.W.Frag} {i : Nat} : MonoE (tCB (rLenQ K) (tCons (tVar i) tNil)) := fun σ H A B hab q => by
  obtain ⟨v, e, p, ys, e1, e2, e3⟩ := q
  exact ⟨v, e, p, ys, e1, e2, hab _ _ e3⟩
section
variable {P : Program} {w : World} {K : PySem.W.Frag} {mg : Str → Option Value} {base : Heap}
def spRead (K : PySem.W.Frag) (C cT : Addr) (c : Cls4) : Sp := fun vs H Q E => ∃ (x : Str), vs = [.str x] ∧ x.length ≤ 80000 ∧ (∀ r ∈ Txt.split x "\n", (wordsOf r).length < 60) ∧
  (∀ n m, faultFrom 0 (Txt.split x "\n") = some (n, m) → RaiseT cT E (n : Int) (m : Int)) ∧
  (faultFrom 0 (Txt.split x "\n") = none → (sceneFault (rdT (Txt.split x "\n")) (rdM (Txt.split x "\n")) (rdR (Txt.split x "\n")) (rdW (Txt.split x "\n")) = none →
      ∀ H' b, Same H H' → H b = none → SceneAt K C H' b (scOf (rdT (Txt.split x "\n")) (rdM (Txt.split x "\n")) (rdR (Txt.split x "\n")) (rdW (Txt.split x "\n"))) → Q (.ref b) H') ∧
    ∀ f, sceneFault (rdT (Txt.split x "\n")) (rdM (Txt.split x "\n")) (rdR (Txt.split x "\n")) (rdW (Txt.split x "\n")) = some f → (∀ p, f ≠ .rule p) → Raised c H E f)
theorem scRead : FnScope ["text", "heads", "rows", "found", "index", "row", "line", "part"] ["text"] (defScope sRead) := ⟨rfl, rfl, rfl, by decide +kernel, rfl, by decide +kernel, by decide +kernel⟩
theorem ok_read {C cL cT dP : Addr} {c : Cls4} {pa : Str → Addr} (D : Dat K mg "read_scene" sRead) (T : Fr mg) (Z : Pt P w K mg dP pa) (ML : LnMk P w K mg base cL) (MR : MCl P w K mg base (L2.CX P w) 3 cL "refuse" (spRefuse cL cT))
    (FR : Fn P w K mg base (L2.CX P w) 5 "read_line" (spRL cL cT)) (M : ScMk P w K mg base C c) (XT : Exc1 P w K mg base "InvalidText" cT "line" (spInit2 cT "line" "word")) : Fn P w K mg base (L2.CX P w) 6 "read_scene" (spRead K C cT c) := by
  refine Fn.of D scRead (fun _ _ _ _ _ _ us hl => match us, hl with | [_], _ => rfl) (fun vs H Q E h => ?_) (fun f cdv A outer s H vs Q E hr h => ?_)
  · obtain ⟨x, rfl, _⟩ := h
    rfl
  · obtain ⟨x, rfl, hx, hws, kT, kS⟩ := h
    have hu : _ < cLine := hu_of hr
    refine ⟨_, (pss_cons (ps_set (i := 1) scRead.nd rfl (Or.inl rfl) (pe_lst (pa_cons pe_str (pa_cons pe_str (pa_cons pe_str (pa_starW Z.wd (by show 6 ≤ 1000; decide) rfl (pe_glob (v := .ref dP) (by rfl) Z.gl rfl) pa_nil))))))
      (pss_cons (ps_set (i := 2) scRead.nd rfl (Or.inl rfl) (pe_split (pv 0) pe_str))
      (pss_cons (ps_set (i := 3) scRead.nd rfl (Or.inr rfl) pe_dnewK)
      (pss_cons (ps_for (passes_of rfl) rfl (pi_enum (by rfl) (T.fr "enumerate" (by decide +kernel)) (pa_cons (pv 2) pa_nil)) (pg_tup (by rfl) (pgs_cons (pg_name (i := 4) scRead.nd rfl (Or.inl rfl)) (pgs_cons (pg_name (i := 5) scRead.nd rfl (Or.inl rfl)) pgs_nil))) (pss_cons (ps_set (i := 6) scRead.nd rfl (Or.inl rfl) (pfLine ML hr (by decide) (pa_cons (pv 5) (pa_cons (pe_op op_add (pv 4) pe_int) pa_nil))))
      (pss_cons (ps_if (pt_cmpR op_ge (pv 4) (pe_callB (kLen (K := K)) (by rfl) (T.fr "len" (by decide +kernel)) (by decide +kernel) (pa_cons (pv 1) pa_nil)) (nomark _)) (pss_one (ps_expr (peM0 MR hr (by decide) (passes_call (takes_of rfl rfl rfl rfl) (fun _ _ _ _ h => h)) (pv 6)))) pss_nil)
      (pss_one (ps_expr (pfX FR hr (passes_call (takes_of rfl rfl rfl rfl) (fun _ _ _ _ h => h)) (pa_cons (pv 6) (pa_cons (pe_ix (ixL (K := K)) (pv 1) (pv 4) (fun _ _ => rfl)) (pa_cons (pv 3) pa_nil)))))))))
      (pss_cons (ps_if (pt_cmpR op_lt (pe_callB (kLen (K := K)) (by rfl) (T.fr "len" (by decide +kernel)) (by decide +kernel) (pa_cons (pv 2) pa_nil)) (pe_callB (kLen (K := K)) (by rfl) (T.fr "len" (by decide +kernel)) (by decide +kernel) (pa_cons (pv 1) pa_nil)) (nomark _)) (pss_one (ps_raise2 XT rfl hr (by decide) (takes_of rfl rfl rfl rfl) (pe_op op_add (pe_callB (kLen (K := K)) (by rfl) (T.fr "len" (by decide +kernel)) (by decide +kernel) (pa_cons (pv 2) pa_nil)) pe_int) pe_int (mono_add mono_len monoC) monoC)) pss_nil)
      (pss_one (ps_ret (peScene (K := K) M hr (by decide) (passes_call (takes_of rfl rfl rfl rfl) (fun _ _ _ _ h => h)) (pa_cons (pe_dget hu (pv 3) pe_str (fun _ _ => rfl)) (pa_cons (pe_dget hu (pv 3) pe_str (fun _ _ => rfl)) (pa_cons (pe_dc (own := [("part", 7)]) (g := gName 7) (by rfl) scRead.nd (pi_keysW Z.wd (pe_glob (v := .ref dP) (by rfl) Z.gl rfl)) (blkOk_by (own := [("part", 7)]) (N := ["text", "heads", "rows", "found", "index", "row", "line", "part"]) (sc := defScope sRead) (by decide +kernel)) (fun _ _ _ _ _ => (pg_name (i := 7) scRead.nd rfl (Or.inl rfl))) (fun _ _ _ _ _ => pts_nil) (fun _ _ _ _ _ => (pv 7)) (fun _ _ _ _ _ => (pe_dget hu (pv 3) (pv 7) (fun _ _ => rfl)))) (pa_cons (pe_dget hu (pv 3) pe_str (fun _ _ => rfl)) pa_nil)))))))))))), ?_⟩
    generalize erows : Txt.split x "\n" = rows at hws kT kS
    have hrl : rows.length ≤ 80002 := by rw [← erows]; exact Nat.le_trans (split_le x "\n") (Nat.add_le_add_right hx 2)
    have hrx : ∀ r ∈ rows, r.length ≤ 80000 := fun r hr0 => by rw [← erows] at hr0; exact Nat.le_trans (piece_le hr0) hx
    -- heads, rows, found
    refine ⟨rfl, (by show 9 ≤ sizeLine; decide), fun hd hhd => ?_⟩
    refine ⟨_, rfl, ⟨x, rfl⟩, x, "\n", rfl, rfl, rfl, Nat.le_trans (Nat.add_le_add_right hx 2) (by decide), fun rl hrl0 => ?_⟩
    rw [erows]
    intro fd hfd0
    generalize eH1 : upd (upd (upd H hd (.lst (headL.map V.str))) rl (.lst (rows.map V.str))) fd (.dK []) = H1
    have nhr : hd ≠ rl := fun e => by rw [← e, upd_same] at hrl0; cases hrl0
    have hrlH : H rl = none := by rw [upd_ne nhr.symm] at hrl0; exact hrl0
    have nhf : hd ≠ fd := fun e => by rw [← e, upd_ne nhr, upd_same] at hfd0; cases hfd0
    have nrf : rl ≠ fd := fun e => by rw [← e, upd_same] at hfd0; cases hfd0
    have hfdH : H fd = none := by rw [upd_ne nrf.symm, upd_ne nhf.symm] at hfd0; exact hfd0
    have hd1 : H1 hd = some (.lst (headL.map V.str)) := by rw [← eH1, upd_ne nhf, upd_ne nhr, upd_same]
    have hr1 : H1 rl = some (.lst (rows.map V.str)) := by rw [← eH1, upd_ne nrf, upd_same]
    have hf1 : H1 fd = some (.dK []) := by rw [← eH1, upd_same]
    have s1 : Same H H1 := by rw [← eH1]; exact same_mut (same_mut (same_mut (Same.refl H) hhd) hrlH) hfdH
    have eH1' : upd (upd (upd H hd (.lst ([V.str "things", V.str "keys", V.str "words"] ++ ((partNames.map fun p => ((Sum.inr p : Key), V.ref (pa p))).map fun kv => kV kv.1)))) rl (.lst (rows.map V.str))) fd (.dK []) = H1 := eH1
    show tSeq _ _ _ _ (upd (upd (upd H hd (.lst ([V.str "things", V.str "keys", V.str "words"] ++ ((partNames.map fun p => ((Sum.inr p : Key), V.ref (pa p))).map fun kv => kV kv.1)))) rl (.lst (rows.map V.str))) fd (.dK []))
    rw [eH1']
    -- the loop
    refine ⟨_, rfl, rl, _, rfl, SqL.of hr1, for_it (walk_enum (K := K) (a := rl) (xs := rows.map V.str)) (fun i σ H2 => ∃ (o1 o2 o3 : Option V) (g : Str → V), σ = [some (.str x), some (.ref hd), some (.ref rl), some (.ref fd), o1, o2, o3, none] ∧ i ≤ 9 ∧ (∀ b o, H1 b = some o → b ≠ fd → H2 b = some o) ∧
      H2 fd = some (.dK ((headL.take i).map fun h => (Sum.inr h, g h))) ∧ (∀ j h, j < i → headL[j]? = some h → LV H2 j (wordsOf (rows.getD j ("" : Str))) (g h) ∧ lineFault j (wordsOf (rows.getD j ("" : Str))) = none) ∧ faultFrom 0 rows = faultFrom i (rows.drop i))
      ⟨none, none, none, fun _ => .non, rfl, by decide, fun b o e _ => e, hf1, fun j h z => absurd z (Nat.not_lt_zero _), rfl⟩ (fun i σ H2 _ ⟨_, _, _, _, _, _, fr, _⟩ => SqL.of (fr _ _ hr1 nrf)) ?_ ?_⟩
    · rintro i v σ H2 H3 hi ⟨o1, o2, o3, g, rfl, hi9, fr2, hf2, lv2, eb2⟩ ⟨Tt, v1, v2, rfl, hTt, rfl, e1, e2⟩
      cases e1
      rw [List.length_map] at hi
      dsimp only at e2
      rw [List.getElem?_map, List.getElem?_eq_getElem hi] at e2
      cases e2
      refine ⟨Tt, _, rfl, SqT.of upd_same, rfl, ?_⟩
      refine ⟨_, _, rfl, _, _, rfl, rfl, ?_⟩
      have s3 : Same H2 (upd H2 Tt (.tup [.int (i : Nat), .str rows[i]])) := same_new (Same.refl H2) hTt
      show tSeq _ _ _ _ (upd H2 Tt (.tup [.int (i : Nat), .str rows[i]]))
      generalize upd H2 Tt (.tup [.int (i : Nat), .str rows[i]]) = H3 at s3
      -- Line(row, index + 1)
      refine ⟨_, rfl, _, rfl, _, _, rfl, rfl, fun a dx na ndx ne => ?_⟩
      refine ⟨a, dx, rows[i], (i : Int) + 1, rfl, upd_same, Nat.le_trans (hrx _ (List.getElem_mem hi)) (by decide), fun H4 q fr4 hq h4 => ⟨rfl, ?_⟩⟩
      have fr34 : ∀ b o, H3 b = some o → H4 b = some o := fun b o e => fr4 b o (by rw [upd_ne (ne_of_none e na), upd_ne (ne_of_none e ndx)]; exact e) (ne_of_none e na)
      have s24 : Same H2 H4 := fun b o e => fr34 b o (s3 b o e)
      have hf4 := s24 _ _ hf2
      have hd4 : H4 hd = some (.lst (headL.map V.str)) := s24 _ _ (fr2 _ _ hd1 nhf)
      have edr : rows.drop i = rows[i] :: rows.drop (i + 1) := List.drop_eq_getElem_cons hi
      have egd : rows.getD i ("" : Str) = rows[i] := by rw [List.getD_eq_getElem?_getD, List.getElem?_eq_getElem hi]; rfl
      refine ⟨_, rfl, _, rfl, hd, _, rfl, .inl (SqL.of hd4), _, _, rfl, rfl, _, rfl, ?_⟩
      have e9 : ((headL.map V.str).length : Int) = 9 := rfl
      rw [e9]
      by_cases h9 : i < 9
      · rw [decide_eq_false (show ¬ ((i : Int) ≥ 9) by omega)]
        refine iteF ?_
        obtain ⟨head, hk⟩ : ∃ h, headL[i]? = some h := ⟨headL[i]'h9, List.getElem?_eq_getElem h9⟩
        refine ⟨_, rfl, _, rfl, _, rfl, hd, _, _, _, rfl, rfl, SqL.of hd4, at_str hk, _, rfl, ?_⟩
        have hxs : ∀ z ∈ wordsOf rows[i], z.length ≤ 100000 := fun z hz => Nat.le_trans (words_le hz) (Nat.le_trans (hrx _ (List.getElem_mem hi)) (by decide))
        refine ⟨a, dx, q, fd, (i : Int) + 1, wordsOf rows[i], i, head, _, rfl, hk, h4, hf4, ?_, hxs, Nat.le_trans (Nat.le_of_lt (hws _ (List.getElem_mem hi))) (by decide), fun hno H5 v fr5 hf5 lv5 => ?_, fun m hm => ?_⟩
        · rw [List.length_map, List.length_take]
          omega
        · have naf : a ≠ fd := fun e => by rw [e] at na; rw [s3 _ _ hf2] at na; cases na
          have hne : ∀ j h, j < i → headL[j]? = some h → h ≠ head := fun j h hj e z => by
            rw [z] at e
            have := idx_head e
            rw [idx_head hk] at this
            omega
          refine ⟨_, _, _, fun h => if h = head then v else g h, rfl, h9, fun b o e h => ?_, ?_, fun j h hj e => ?_, ?_⟩
          · have e2 := fr2 b o e h
            exact fr5 b o (s24 b o e2) (ne_of_none (s3 _ _ e2) na) h
          · rw [hf5, List.take_add_one, hk, List.map_append]
            have nk : valV ((headL.take i).map fun h => ((Sum.inr h : Key), g h)) (Sum.inr head) = none := by
              rw [valV_map, if_neg (not_in_take nodup_head hk)]
            rw [putK_new _ nk]
            refine congrArg (fun z => some (HO.dK z)) ?_
            have e1 : ((headL.take i).map fun h => ((Sum.inr h : Key), g h)) = (headL.take i).map fun h => (Sum.inr h, if h = head then v else g h) := by
              refine List.map_congr_left fun h hm => ?_
              rw [if_neg (fun z : h = head => not_in_take nodup_head hk (by rw [← z]; exact hm))]
            rw [e1]
            show _ = _ ++ [(Sum.inr head, if head = head then v else g head)]
            rw [if_pos rfl]
          · by_cases hj2 : j = i
            · subst hj2
              rw [hk] at e
              cases e
              dsimp only
              rw [if_pos rfl, egd]
              exact ⟨lv5, hno⟩
            · have hj3 : j < i := by omega
              dsimp only
              rw [if_neg (hne j h hj3 e)]
              refine ⟨(lv2 j h hj3 e).1.mono fun t o e1 e2 => ?_, (lv2 j h hj3 e).2⟩
              have e3 : t ≠ fd := fun z => by
                have l := (lv2 j h hj3 e).1
                unfold LV at l
                split at l
                · obtain ⟨t2, e4, e5⟩ := l
                  rw [e1] at e4
                  cases e4
                  rw [z, hf2] at e5
                  cases e5
                · obtain ⟨y, _, _, e5⟩ := l
                  rw [e1] at e5
                  split at e5 <;> cases e5
              exact fr5 t o (s24 t o e2) (ne_of_none (s3 _ _ e2) na) e3
          · rw [eb2, edr]
            show (match lineFault i (wordsOf rows[i]) with
              | some m => some (i + 1, m)
              | none => faultFrom (i + 1) (rows.drop (i + 1))) = _
            rw [hno]
        · refine kT (i + 1) m ?_
          rw [eb2, edr]
          show (match lineFault i (wordsOf rows[i]) with
            | some m => some (i + 1, m)
            | none => faultFrom (i + 1) (rows.drop (i + 1))) = _
          rw [hm]
      · have hi2 : i = 9 := by omega
        rw [decide_eq_true (show ((i : Int) ≥ 9) by omega)]
        refine iteT ?_
        refine ⟨_, rfl, a, dx, _, rfl, h4.at_, rfl, a, dx, q, _, 0, _, rfl, h4, ?_⟩
        refine kT (i + 1) 1 ?_
        rw [eb2, edr]
        show (match lineFault i (wordsOf rows[i]) with
          | some m => some (i + 1, m)
          | none => faultFrom (i + 1) (rows.drop (i + 1))) = _
        have e1 : lineFault i (wordsOf rows[i]) = some 1 := by
          generalize wordsOf rows[i] = ws
          cases ws with
          | nil => rfl
          | cons y ys =>
            show (if headL[i]? = some y then _ else some 1) = some 1
            rw [if_neg]
            intro e
            rw [hi2] at e
            cases e
        rw [e1]
    · rintro σ H2 ⟨o1, o2, o3, g, rfl, hi9, fr2, hf2, lv2, eb2⟩
      rw [List.length_map] at hi9 hf2 lv2 eb2
      have hd2 := fr2 _ _ hd1 nhf
      have hr2 := fr2 _ _ hr1 nrf
      refine ⟨_, rfl, rl, _, rfl, .inl (SqL.of hr2), _, rfl, hd, _, rfl, .inl (SqL.of hd2), _, _, rfl, rfl, _, rfl, ?_⟩
      have e9 : ((headL.map V.str).length : Int) = 9 := rfl
      rw [e9, List.length_map]
      rw [List.drop_length] at eb2
      have eb3 : faultFrom 0 rows = if rows.length < 9 then some (rows.length + 1, 1) else none := eb2
      by_cases h9 : rows.length < 9
      · rw [decide_eq_true (show ((rows.length : Int) < 9) by omega)]
        refine iteT ?_
        refine ⟨_, rfl, rl, _, rfl, .inl (SqL.of hr2), _, _, rfl, rfl, fun d hd => ?_⟩
        rw [List.length_map]
        exact kT (rows.length + 1) 1 (by rw [eb3, if_pos h9]) _ d upd_same
      · rw [decide_eq_false (show ¬ ((rows.length : Int) < 9) by omega)]
        refine iteF ?_
        have hn : rows.length = 9 := by omega
        obtain ⟨kS1, kS2⟩ := kS (by rw [eb3, if_neg h9])
        have s2 : Same H H2 := fun b o e => fr2 b o (s1 b o e) (ne_of_none e hfdH)
        have hf3 : H2 fd = some (.dK (headL.map fun h => (Sum.inr h, g h))) := by
          rw [hf2, hn]
          rfl
        have val : ∀ h ∈ headL, valV (headL.map fun h => ((Sum.inr h : Key), g h)) (Sum.inr h) = some (g h) := fun h hm => by rw [valV_map, if_pos hm]
        have lvh : ∀ j h, headL[j]? = some h → LV H2 j (lineOf rows h) (g h) := fun j h e => by
          have hj : j < 9 := (List.getElem?_eq_some_iff.mp e).1
          have := (lv2 j h (by omega) e).1
          unfold lineOf
          rw [idx_head e]
          exact this
        -- found[..]
        refine ⟨_, rfl, fd, _, rfl, (by rw [← val "things" (by decide)]; exact DGet.k (k := Sum.inr "things") hf3), ?_⟩
        refine ⟨_, rfl, fd, _, rfl, (by rw [← val "keys" (by decide)]; exact DGet.k (k := Sum.inr "keys") hf3), ?_⟩
        refine ⟨rfl, fun D hD => ?_⟩
        have pg : ∀ p ∈ partNames, ∃ y, (lineOf rows p)[1]? = some y ∧ y ∈ partWords p ∧ g p = .str y := fun p hp => by
          obtain ⟨j, hj⟩ := List.mem_iff_getElem?.mp (show p ∈ headL from List.mem_cons_of_mem _ (List.mem_cons_of_mem _ (List.mem_cons_of_mem _ hp)))
          have l := lvh j p hj
          have n3 := parts_ne hp
          have h3 : 3 ≤ j := by
            rcases headL_cases hj with ⟨_, e⟩ | ⟨_, e⟩ | ⟨_, e⟩ | ⟨h, _⟩
            · exact absurd e n3.1
            · exact absurd e n3.2.1
            · exact absurd e n3.2.2
            · exact h
          unfold LV at l
          rw [if_neg (by omega)] at l
          obtain ⟨y, e1, e2, e3⟩ := l
          unfold goodWord at e2
          rw [if_neg (by omega), if_neg (by omega), if_neg (by omega), List.getD_eq_getElem?_getD, hj] at e2
          rw [if_neg (by omega)] at e3
          exact ⟨y, e1, of_decide_eq_true e2, e3⟩
        refine dc_it (walkW (kvs := partNames.map fun p => (Sum.inr p, V.ref (pa p)))) (fun j H6 => Same H2 H6 ∧ H6 D = some (.dK ((partNames.take j).map fun p => (Sum.inr p, g p)))) ⟨same_new (Same.refl H2) hD, by rw [upd_same]; rfl⟩ (fun _ _ _ _ => True.intro) (fun j y H6 H7 hj p q => ?_) (fun H6 p => ?_)
        · obtain ⟨rfl, k, v, hk, rfl⟩ := q
          rw [List.getElem?_map] at hk
          obtain ⟨pp, hpi, e⟩ : ∃ p, partNames[j]? = some p ∧ (Sum.inr p, V.ref (pa p)) = (k, v) := by
            cases q : partNames[j]? with
            | none => rw [q] at hk; cases hk
            | some p => rw [q] at hk; exact ⟨p, rfl, Option.some.inj hk⟩
          cases e
          have hpm := List.mem_of_getElem? hpi
          refine ⟨rfl, ?_⟩
          refine lc_yes ?_
          refine ⟨_, rfl, _, rfl, _, rfl, fd, _, rfl, (by rw [← val pp (List.mem_cons_of_mem _ (List.mem_cons_of_mem _ (List.mem_cons_of_mem _ hpm)))]; exact DGet.k (k := Sum.inr pp) (p.1 _ _ hf3)), ?_⟩
          refine ⟨_, Sum.inr pp, rfl, p.2, ?_, same_mut p.1 hD, ?_⟩
          · rw [List.length_map, List.length_take]
            exact Nat.lt_of_le_of_lt (Nat.min_le_right _ _) (by decide)
          · rw [upd_same, List.take_add_one, hpi]
            have nk : valV ((partNames.take j).map fun p => ((Sum.inr p : Key), g p)) (Sum.inr pp) = none := by rw [valV_map, if_neg (not_in_take nodup_parts hpi)]
            rw [putK_new _ nk, List.map_append]
            rfl
        · have e7 : (partNames.take (partNames.map fun p => ((Sum.inr p : Key), V.ref (pa p))).length) = partNames := by rw [List.length_map, List.take_length]
          have hD6 : H6 D = some (.dK (dicV g)) := by
            have z := p.2
            rw [e7] at z
            exact z
          refine ⟨_, rfl, fd, _, rfl, (by rw [← val "words" (by decide)]; exact DGet.k (k := Sum.inr "words") (p.1 _ _ hf3)), ?_⟩
          intro b dx2 nx ndx ne
          have s6 : Same H H6 := s2.trans p.1
          have l0 := lvh 0 "things" rfl
          have l1 := lvh 1 "keys" rfl
          have l2 := lvh 2 "words" rfl
          unfold LV at l0 l1 l2
          rw [if_pos (by decide)] at l0 l2
          rw [if_neg (by decide)] at l1
          obtain ⟨t0, e0, ht0⟩ := l0
          obtain ⟨t2, e2, ht2⟩ := l2
          obtain ⟨y1, ey1, gy1, e1⟩ := l1
          have hrow : ∀ h, (lineOf rows h).length < 60 ∧ ∀ z ∈ lineOf rows h, z.length ≤ 100000 := fun h => by
            unfold lineOf
            cases e : rows[headL.idxOf h]? with
            | none =>
              rw [List.getD_eq_getElem?_getD, e]
              decide +kernel
            | some r =>
              rw [List.getD_eq_getElem?_getD, e]
              have hm := List.mem_of_getElem? e
              exact ⟨hws r hm, fun z hz => Nat.le_trans (words_le hz) (Nat.le_trans (hrx r hm) (by decide))⟩
          have ar : ScArgs K H6 (g "things") (g "keys") (.ref D) (g "words") (rdT rows) (rdM rows) (rdR rows) (rdW rows) := by
            refine ⟨?_, fun ds e z hz => ?_, ?_, .dic ⟨_, hD6, dicP fun q hq => ?_⟩, fun kds e => ?_, ?_, fun ds e => ?_⟩
            · rw [e0]
              exact .tup (SqT.of (p.1 _ _ ht0)) (dpAll_strs _)
            · cases e
              obtain ⟨z2, hz2, e3⟩ := List.mem_map.mp hz
              cases e3
              exact (hrow "things").2 _ (List.mem_of_mem_drop hz2)
            · rw [e1]
              unfold rdM
              rw [List.getD_eq_getElem?_getD, ey1]
              exact .int _
            · obtain ⟨y, h1, h2, h3⟩ := pg q hq
              rw [h3, List.getD_eq_getElem?_getD, h1]
              exact .str _
            · cases e
              refine ⟨by show 6 < 64; decide, ?_⟩
              rw [txts_dic]
              exact ok_partNames
            · rw [e2]
              exact .tup (SqT.of (p.1 _ _ ht2)) (dpAll_strs _)
            · cases e
              rw [List.length_map, List.length_drop]
              have := (hrow "words").1
              omega
          have noR : faultOf (rdR rows) = none := by
            have e : faultOf (rdR rows) = partNames.find? fun p => !goodPart p (some (.str ((lineOf rows p).getD 1 ("" : Str)))) := faultD_dic _
            rw [e]
            refine List.find?_eq_none.mpr fun p hp => ?_
            obtain ⟨y, h1, h2, h3⟩ := pg p hp
            rw [List.getD_eq_getElem?_getD, h1]
            show ¬ (!decide (y ∈ partWords p)) = true
            rw [decide_eq_true h2]
            decide
          refine scene_use nx ndx ne ar (fun h H7 s7 st => kS1 h H7 b (s6.trans s7) (s6.free nx) st) (fun f h => (kS2 f h fun q e => ?_).same s6)
          rw [e] at h
          unfold sceneFault at h
          rw [noR] at h
          split at h
          · split at h
            · dsimp only at h
              split at h <;> cases h
            · cases h
          · cases h
end
end HP

namespace HP
open PySem PySem.Spec PyProof.Rows L2
abbrev sRows : Stmt := top 33
/-! ### _law_rows -/
/-- the words of the lines -/
def rowsOf (names : List Str) (many : Int) (f : Str → Str) (words : List Str) : List (List Str) :=
  ("things" :: names) :: ["keys", Str.ofString (toString many)] :: ("words" :: words) :: partNames.map fun p => [p, f p]
def joinW (ws : List Str) : Str := Txt.join " " ws
theorem tl_joinW (ws : List Str) : TL.tl (joinW ws) = TL.joinL [32] (ws.map TL.tl) := by
  show TL.tl (Txt.join " " ws) = _
  rw [TL.join_eq, TL.tl_join]
  rfl
theorem join_cons {x y : Str} {ws : List Str} (h : y = x ++ (" " : Str)) (hw : ws ≠ []) : y ++ joinW ws = joinW (x :: ws) := by
  refine TL.ext_tl ?_
  cases ws with
  | nil => exact absurd rfl hw
  | cons z zs =>
    rw [TL.tl_append, tl_joinW, tl_joinW, h, TL.tl_append]
    show _ = TL.tl x ++ ([32] ++ TL.joinL [32] ((z :: zs).map TL.tl))
    rw [List.append_assoc]
    rfl
theorem join_two (x y : Str) : x ++ (" " : Str) ++ y = joinW [x, y] := by
  refine TL.ext_tl ?_
  rw [TL.tl_append, TL.tl_append, tl_joinW]
  show _ = TL.tl x ++ ([32] ++ TL.tl y)
  rw [List.append_assoc]
  rfl
theorem sum_le {α : Type} (g : α → Nat) (b : Nat) : ∀ l : List α, (∀ x ∈ l, g x ≤ b) → (l.map g).sum ≤ l.length * b
  | [], _ => by simp
  | x :: l, h => by
    have h1 := h x List.mem_cons_self
    have h2 := sum_le g b l fun y hy => h y (List.mem_cons_of_mem _ hy)
    rw [List.map_cons, List.sum_cons, List.length_cons, Nat.succ_mul]
    omega
theorem Drawn4.small {names : List Str} {many : Int} {f : Str → Str} {words : List Str} {m w : Int} (d : Drawn4 names many f words m w) (hw : w ≤ 9) : names.length ≤ 4 ∧ names ≠ [] ∧ (∀ x ∈ names, x ∈ fourNames) ∧ words.length ≤ 9 := by
  obtain ⟨k, h1, h2, rfl⟩ := d.nm
  refine ⟨by rw [List.length_take]; omega, fun e => ?_, fun x hx => List.mem_of_mem_take hx, ?_⟩
  · have := congrArg List.length e
    rw [List.length_take] at this
    have h4 : fourNames.length = 4 := rfl
    simp only [List.length_nil] at this
    omega
  · have := d.wl
    omega
theorem catT_use {K : PySem.W.Frag} {H : Hp} {a : Addr} {xs ys : List V} {Q : VK} (ha : SqT K H a xs) (k : ∀ p H', Same H H' → SqT K H' p (xs ++ ys) → Q (.ref p) H') : (ys = [] → Q (.ref a) H) ∧ (ys ≠ [] → ∀ p, H p = none → Q (.ref p) (upd H p (.tup (xs ++ ys)))) :=
  ⟨fun e => k a H (Same.refl H) (by rw [e, List.append_nil]; exact ha), fun _ p hp => k p _ (same_new (Same.refl H) hp) (SqT.of upd_same)⟩
def rCatT2 (K : PySem.W.Frag) : R2 := fun x y H Q => ∃ a b xs ys, x = .ref a ∧ y = .ref b ∧ SqT K H a xs ∧ SqT K H b ys ∧ xs ≠ [] ∧ xs.length + ys.length ≤ sizeLine ∧ ∀ p H', Same H H' → SqT K H' p (xs ++ ys) → Q (.ref p) H'
theorem oCatT {X : Cx} {K : PySem.W.Frag} (hK : X.K = K := by rfl) : OpR X (binaryOp .Add) (rCatT2 K) := by
  subst hK
  intro pins s σ H x y v u Q I rx ry h
  obtain ⟨a, b, xs, ys, h1, h2, h3, h4, h5, h6, h7⟩ := h
  exact op_catT pins s σ H x y v u Q I rx ry ⟨a, b, xs, ys, h1, h2, h3, h4, h5, h6, catT_use h3 h7⟩
theorem four_len : ∀ x ∈ fourNames, x.length ≤ 2 := by decide +kernel
theorem word_len : ∀ x ∈ allWords, x.length ≤ 6 := by decide +kernel
theorem part_len : ∀ p ∈ partNames, p.length ≤ 8 ∧ ∀ x ∈ partWords p, x.length ≤ 6 := by decide +kernel
theorem join_len {ws : List Str} {b : Nat} (h : ∀ x ∈ ws, x.length ≤ b) : (joinW ws).length ≤ ws.length * b + ws.length := by
  have h1 := StrLaws.join_length_le " " ws
  have h2 := sum_le (fun x : Str => x.length) b ws h
  have e : joinW ws = Str.join " " ws := TL.join_eq " " ws
  rw [e]
  have e1 : ((" " : Str)).length = 1 := rfl
  rw [e1, Nat.mul_one] at h1
  omega
section
variable {P : Program} {w : World} {K : PySem.W.Frag} {mg : Str → Option Value} {base : Heap}
def spRows : Sp := fun vs H Q _ => ∃ (a : Addr) (names : List Str) (many : Int) (f : Str → Str) (words : List Str) (m w : Int), vs = [.ref a] ∧ Five H a names many f words ∧ Drawn4 names many f words m w ∧ m ≤ 3 ∧ w ≤ 9 ∧
  ∀ H' q, Same H H' → H q = none → H' q = some (.lst ((rowsOf names many f words).map fun ws => V.str (joinW ws))) → Q (.ref q) H'
theorem scRows : FnScope ["_law_t", "_law_rows_here", "_law_part"] ["_law_t"] (defScope sRows) := ⟨rfl, rfl, rfl, by decide +kernel, rfl, by decide +kernel, by decide +kernel⟩
theorem ok_rows (D : Dat K mg "_law_rows" sRows) (T : Fr mg) : Fn P w K mg base CX0 1 "_law_rows" spRows := by
  refine Fn.of0 D scRows (fun _ _ _ _ _ _ us hl => match us, hl with | [_], _ => rfl) (fun vs H Q E h => ?_) (fun f cdv A outer s H vs Q E hr h => ?_)
  · obtain ⟨a, names, many, f, words, m, w, rfl, _⟩ := h
    rfl
  · obtain ⟨a, names, many, g, words, m, w, rfl, ⟨n, r, t, e, ha, hn, hr0, ht, he⟩, dr, hm3, hw9, k⟩ := h
    have hu : _ < cLine := hu_of hr
    refine ⟨_, (pss_cons (ps_set (i := 1) scRows.nd rfl (Or.inl rfl) (pe_lst (pa_cons (pe_op op_add_str pe_str (pe_join pe_str (pe_ix (ixL (K := K)) (pv 0) pe_int (fun _ _ => rfl)))) (pa_cons (pe_op op_add_str pe_str (pe_callTy call_str_int (by rfl) (T.fr "str" (by decide +kernel)) (by decide +kernel) (pa_cons (pe_ix (ixL (K := K)) (pv 0) pe_int (fun _ _ => rfl)) pa_nil))) (pa_cons (pe_join pe_str (pe_op (oCatT (K := K)) (pe_tup (pa_cons pe_str pa_nil)) (pe_ix (ixL (K := K)) (pv 0) pe_int (fun _ _ => rfl)))) pa_nil)))))
      (pss_one (ps_ret (pe_op op_cat (pv 1) (pe_lc (own := [("_law_part", 2)]) (g := gName 2) (by rfl) scRows.nd (iL (K := K) (pe_callB (kSortS (K := K)) (by rfl) (T.fr "sorted" (by decide +kernel)) (by decide +kernel) (pa_cons (pe_callTy (call_list_dK rfl) (by rfl) (T.fr "list" (by decide +kernel)) (by decide +kernel) (pa_cons (pe_ix (ixL (K := K)) (pv 0) pe_int (fun _ _ => rfl)) pa_nil)) pa_nil))) (blkOk_by (own := [("_law_part", 2)]) (N := ["_law_t", "_law_rows_here", "_law_part"]) (sc := defScope sRows) (by decide +kernel)) (fun _ _ _ _ _ => (pg_name (i := 2) scRows.nd rfl (Or.inl rfl))) (fun _ _ _ _ _ => pts_nil) (fun _ _ _ _ _ => (pe_op op_add_str (pe_op op_add_str (pv 2) pe_str) (pe_dget hu (pe_ix (ixL (K := K)) (pv 0) pe_int (fun _ _ => rfl)) (pv 2) (fun _ _ => rfl))))))))), ?_⟩
    obtain ⟨n4, nne, nin, w9⟩ := dr.small hw9
    have s1000 : ∀ z : Nat, z ≤ 1000 → z ≤ sizeLine := fun z h => Nat.le_trans h (by decide)
    have hm1 := dr.m1
    have hm2 := dr.m2
    have ln : (joinW names).length ≤ 12 := by
      have := join_len (b := 2) (ws := names) fun x hx => four_len x (nin x hx)
      omega
    -- 'things ' + ' '.join(t[0])
    refine ⟨⟨" ", rfl⟩, _, rfl, a, _, 0, _, rfl, rfl, SqL.of ha, rfl, " ", n, names, rfl, rfl, .inr (SqT.of hn), ?_, _, _, rfl, rfl, ?_, ?_⟩
    · have := sum_le (fun x : Str => x.length) 2 names fun x hx => four_len x (nin x hx)
      have e1 : ((" " : Str)).length = 1 := rfl
      rw [e1]
      omega
    · have e1 : (("things " : Str)).length = 7 := rfl
      rw [e1]
      exact s1000 _ (show 7 + (joinW names).length ≤ 1000 by omega)
    -- 'keys ' + str(t[1])
    have lm : (Str.ofString (toString many)).length = 1 := by
      have : many = 1 ∨ many = 2 ∨ many = 3 := by omega
      rcases this with rfl | rfl | rfl <;> rfl
    refine ⟨_, rfl, a, _, 1, _, rfl, rfl, SqL.of ha, rfl, many, rfl, Nat.lt_of_le_of_lt (Nat.log2_le_self _) (by omega), _, _, rfl, rfl, ?_, ?_⟩
    · have e1 : (("keys " : Str)).length = 5 := rfl
      exact s1000 _ (by rw [e1]; show 5 + (Str.ofString (toString many)).length ≤ 1000; rw [lm]; decide)
    -- ' '.join(('words',) + t[3])
    refine ⟨⟨" ", rfl⟩, (by show 1 ≤ sizeLine; decide), fun p0 hp0 => ?_⟩
    have s0 : Same H (upd H p0 (.tup [.str "words"])) := same_new (Same.refl H) hp0
    refine ⟨_, rfl, a, _, 3, _, rfl, rfl, SqL.of (s0 _ _ ha), rfl, p0, t, _, _, rfl, rfl, SqT.of upd_same, SqT.of (s0 _ _ ht), by simp, ?_, fun p2 H2 s2 h2 => ?_⟩
    · rw [List.length_map]
      exact s1000 _ (show 1 + words.length ≤ 1000 by omega)
    have s02 := s0.trans s2
    have hws : ∀ x ∈ ("words" :: words : List Str), x.length ≤ 6 := fun x hx => by
      rcases List.mem_cons.mp hx with rfl | hx
      · decide +kernel
      · exact word_len x (dr.ws x hx)
    refine ⟨" ", p2, "words" :: words, rfl, rfl, .inr h2, ?_, ?_⟩
    · have := sum_le (fun x : Str => x.length) 6 ("words" :: words) hws
      have e1 : ((" " : Str)).length = 1 := rfl
      rw [e1]
      rw [List.length_cons] at this ⊢
      omega
    refine ⟨(by show 3 ≤ sizeLine; decide), fun rl hrl => ?_⟩
    have s3 : Same H (upd H2 rl (.lst [.str ("things " ++ Txt.join " " names), .str ("keys " ++ Str.ofString (toString many)), .str (Txt.join " " ("words" :: words))])) := same_new s02 hrl
    have hrl3 : upd H2 rl (.lst [.str ("things " ++ Txt.join " " names), .str ("keys " ++ Str.ofString (toString many)), .str (Txt.join " " ("words" :: words))]) rl = some (.lst [.str ("things " ++ Txt.join " " names), .str ("keys " ++ Str.ofString (toString many)), .str (Txt.join " " ("words" :: words))]) := upd_same
    generalize upd H2 rl (.lst [.str ("things " ++ Txt.join " " names), .str ("keys " ++ Str.ofString (toString many)), .str (Txt.join " " ("words" :: words))]) = H3 at s3 hrl3 ⊢
    have hrlH : H rl = none := s02.free hrl
    -- the comprehension
    refine ⟨_, rfl, _, rfl, a, _, 2, _, rfl, rfl, SqL.of (s3 _ _ ha), rfl, r, _, rfl, s3 _ _ hr0, fun l hl => ?_⟩
    have ek : ((polOf g).map fun kv => kV kv.1) = partNames.map V.str := by
      unfold polOf
      rw [List.map_map]
      rfl
    rw [ek]
    refine ⟨l, partNames, rfl, SqL.of upd_same, by decide, fun ys sl py sy hsl => ?_⟩
    have ey : ys = partNames := (srtS_only py sy).trans (srtS_self sorted_parts)
    subst ey
    have s5 : Same H3 (upd (upd H3 l (.lst (partNames.map V.str))) sl (.lst (partNames.map V.str))) := same_new (same_new (Same.refl H3) hl) hsl
    have hsl5 : upd (upd H3 l (.lst (partNames.map V.str))) sl (.lst (partNames.map V.str)) sl = some (.lst (partNames.map V.str)) := upd_same
    generalize upd (upd H3 l (.lst (partNames.map V.str))) sl (.lst (partNames.map V.str)) = H5 at s5 hsl5 ⊢
    have s35 := s3.trans s5
    refine ⟨sl, rfl, ⟨_, SqL.of hsl5⟩, fun D hD => ?_⟩
    refine lc_it walk_list (Cv H5 D fun i => (partNames.take i).map fun p => V.str (joinW [p, g p])) (cv0 hD rfl) (fun i H6 _ p => SqL.of (p.1 _ _ hsl5)) (fun i v H6 H7 hi p q => ?_) (fun H6 p => ?_)
    · obtain ⟨rfl, hy⟩ := q
      rw [List.getElem?_map] at hy
      obtain ⟨pp, hpp, rfl⟩ : ∃ z, partNames[i]? = some z ∧ V.str z = v := by
        cases q : partNames[i]? with
        | none => rw [q] at hy; cases hy
        | some z => rw [q] at hy; exact ⟨z, rfl, Option.some.inj hy⟩
      have hpm := List.mem_of_getElem? hpp
      have pl := part_len pp hpm
      have gl := pl.2 _ (dr.rl pp hpm)
      refine ⟨rfl, ?_⟩
      refine lc_yes ?_
      refine ⟨_, rfl, _, _, rfl, rfl, s1000 _ (by have e1 : ((" " : Str)).length = 1 := rfl; rw [e1]; omega), ?_⟩
      refine ⟨_, rfl, a, _, 2, _, rfl, rfl, SqL.of (p.1 _ _ (s35 _ _ ha)), rfl, _, rfl, r, .str (g pp), rfl, ?_, ?_⟩
      · have := valV_map (fun q => V.str (g q)) pp partNames
        rw [if_pos hpm] at this
        rw [← this]
        exact DGet.k (k := Sum.inr pp) (p.1 _ _ (s35 _ _ hr0))
      refine ⟨_, _, rfl, rfl, s1000 _ (by rw [Str.length_append]; have e1 : ((" " : Str)).length = 1 := rfl; rw [e1]; omega), ?_⟩
      refine cv_yes hD p.1 p.2 ?_ ?_
      · simp only [List.length_map, List.length_take]
        have h6 : partNames.length = 6 := rfl
        omega
      · rw [List.take_add_one, hpp, List.map_append, join_two]
        rfl
    · have e : H6 D = some (.lst (partNames.map fun p => V.str (joinW [p, g p]))) := by
        have z := p.2
        rw [List.length_map] at z
        dsimp only at z
        rw [List.take_length] at z
        exact z
      refine ⟨rl, D, _, _, rfl, rfl, p.1 _ _ (s5 _ _ hrl3), e, (by show 3 + 6 ≤ sizeLine; decide), fun q hq => ?_⟩
      have s6 := s35.trans p.1
      refine k _ q (same_new s6 hq) (s6.free hq) ?_
      rw [upd_same]
      refine congrArg (fun z => some (HO.lst z)) ?_
      have e1 : ("things " : Str) ++ Txt.join " " names = joinW ("things" :: names) := join_cons rfl nne
      have e2 : ("keys " : Str) ++ Str.ofString (toString many) = joinW ["keys", Str.ofString (toString many)] := join_two "keys" _
      rw [e1, e2]
      unfold rowsOf
      rw [List.map_cons, List.map_cons, List.map_cons, List.map_map]
      rfl
end
end HP

namespace HP
open PySem PySem.Spec PyProof.Rows L2
/-! ### expressions by what they denote: F, the part of the heap that stays, grows; W tells what else stands -/
structure Wd where
  ok : Hp → Hp → Prop
  sub : ∀ {F H}, ok F H → Same F H
  ext : ∀ {F H F' H'}, ok F H → Same H H' → Same F F' → Same F' H' → (∀ b o, F' b = some o → F b = some o ∨ H b = none) → ok F' H'
/-- a new thing that stays -/
theorem Wd.new (W : Wd) {F H : Hp} {q : Addr} {o : HO} (h : W.ok F H) (hq : H q = none) : Same F (upd F q o) ∧ W.ok (upd F q o) (upd H q o) := by
  have s := W.sub h
  have nF : F q = none := s.free hq
  refine ⟨same_new (Same.refl F) nF, W.ext h (same_new (Same.refl H) hq) (same_new (Same.refl F) nF) (fun b u e => ?_) (fun b u e => ?_)⟩
  · by_cases z : b = q
    · rw [z, upd_same] at e ⊢
      exact e
    · rw [upd_ne z] at e ⊢
      exact s b u e
  · by_cases z : b = q
    · exact .inr (by rw [z]; exact hq)
    · rw [upd_ne z] at e
      exact .inl e
abbrev RV := Hp → V → Prop
def DenR (W : Wd) (F : Hp) (σ : L2.St) (t : TE) (R : RV) : Prop := ∀ F1 H1, Same F F1 → W.ok F1 H1 → ∀ Q : VK, (∀ v F2 H2, Same F1 F2 → W.ok F2 H2 → R F2 v → Q v H2) → t σ H1 Q
def intR (i : Int) : RV := fun _ v => v = .int i
def strR (x : Str) : RV := fun _ v => v = .str x
def lsR (xs : List Str) : RV := fun F v => ∃ q, v = .ref q ∧ F q = some (.lst (xs.map V.str))
section
variable {W : Wd} {F : Hp} {σ : L2.St} {K : PySem.W.Frag}
theorem DenR.mono {F' : Hp} {t : TE} {R : RV} (h : DenR W F σ t R) (s : Same F F') : DenR W F' σ t R := fun F1 H1 s1 w Q k => h F1 H1 (s.trans s1) w Q k
theorem lsR.up {F' : Hp} {xs : List Str} {v : V} (s : Same F F') (h : lsR xs F v) : lsR xs F' v := let ⟨q, e, hq⟩ := h; ⟨q, e, s _ _ hq⟩
theorem dn_int {i : Int} : DenR W F σ (tC (.int i)) (intR i) := fun F1 H1 s w Q k => k _ F1 H1 (Same.refl _) w rfl
theorem dn_str {x : Str} : DenR W F σ (tC (.str x)) (strR x) := fun F1 H1 s w Q k => k _ F1 H1 (Same.refl _) w rfl
theorem dn_varI {i : Nat} {n : Int} (h : σ[i]? = some (some (.int n))) : DenR W F σ (tVar i) (intR n) := fun F1 H1 s w Q k => ⟨_, h, k _ F1 H1 (Same.refl _) w rfl⟩
theorem dn_varL {i : Nat} {v : V} {xs : List Str} (h : σ[i]? = some (some v)) (hv : lsR xs F v) : DenR W F σ (tVar i) (lsR xs) := fun F1 H1 s w Q k => ⟨_, h, k _ F1 H1 (Same.refl _) w (hv.up s)⟩
theorem dn_add {t u : TE} {i j : Int} (h : DenR W F σ t (intR i)) (g : DenR W F σ u (intR j)) : DenR W F σ (tOp rAdd t u) (intR (i + j)) := fun F1 H1 s w Q k => by
  refine h F1 H1 s w _ fun v F2 H2 s2 w2 e => ?_
  refine g F2 H2 (s.trans s2) w2 _ fun v3 F3 H3 s3 w3 e3 => ?_
  rw [e, e3]
  exact ⟨_, _, rfl, rfl, k _ F3 H3 (s2.trans s3) w3 rfl⟩
theorem dn_cat {t u : TE} {xs ys : List Str} (h : DenR W F σ t (lsR xs)) (g : DenR W F σ u (lsR ys)) (hl : xs.length + ys.length ≤ 1000) : DenR W F σ (tOp rCat t u) (lsR (xs ++ ys)) := fun F1 H1 s w Q k => by
  refine h F1 H1 s w _ fun v F2 H2 s2 w2 e => ?_
  refine g F2 H2 (s.trans s2) w2 _ fun v3 F3 H3 s3 w3 e3 => ?_
  obtain ⟨a, rfl, ha⟩ := e.up s3
  obtain ⟨b, rfl, hb⟩ := e3
  refine ⟨a, b, _, _, rfl, rfl, W.sub w3 _ _ ha, W.sub w3 _ _ hb, ?_, fun q hq => ?_⟩
  · rw [List.length_map, List.length_map]
    exact Nat.le_trans hl (by decide)
  · obtain ⟨s4, w4⟩ := W.new (o := .lst (xs.map V.str ++ ys.map V.str)) w3 hq
    exact k _ _ _ ((s2.trans s3).trans s4) w4 ⟨q, rfl, by rw [upd_same, List.map_append]⟩
theorem cut_map (xs : List Str) (lo hi : Option Int) : cutV (xs.map V.str) lo hi = ((xs.drop (HT.sIx xs.length 0 lo)).take (HT.sIx xs.length xs.length hi - HT.sIx xs.length 0 lo)).map V.str := by
  unfold cutV
  rw [List.length_map, List.map_take, List.map_drop]
theorem dn_to {t u : TE} {xs : List Str} {n : Nat} (h : DenR W F σ t (lsR xs)) (g : DenR W F σ u (intR (n : Int))) : DenR W F σ (tSl (rSlL K) t tNoPart (tPart u)) (lsR (xs.take n)) := fun F1 H1 s w Q k => by
  refine h F1 H1 s w _ fun v F2 H2 s2 w2 e => ?_
  refine g F2 H2 (s.trans s2) w2 _ fun v3 F3 H3 s3 w3 e3 => ?_
  obtain ⟨a, rfl, ha⟩ := e.up s3
  refine ⟨_, e3, a, _, rfl, SqL.of (W.sub w3 _ _ ha), fun q hq => ?_⟩
  obtain ⟨s4, w4⟩ := W.new (o := .lst (cutV (xs.map V.str) none (some (n : Int)))) w3 hq
  refine k _ _ _ ((s2.trans s3).trans s4) w4 ⟨q, rfl, ?_⟩
  rw [upd_same, cut_map, HT.sIx_none, HT.sIx_nat, List.drop_zero, Nat.sub_zero]
  by_cases z : n ≤ xs.length
  · rw [Nat.min_eq_left z]
  · rw [Nat.min_eq_right (by omega), List.take_length, List.take_of_length_le (by omega)]
theorem dn_from {t u : TE} {xs : List Str} {n : Nat} (h : DenR W F σ t (lsR xs)) (g : DenR W F σ u (intR (n : Int))) : DenR W F σ (tSl (rSlL K) t (tPart u) tNoPart) (lsR (xs.drop n)) := fun F1 H1 s w Q k => by
  refine h F1 H1 s w _ fun v F2 H2 s2 w2 e => ?_
  refine g F2 H2 (s.trans s2) w2 _ fun v3 F3 H3 s3 w3 e3 => ?_
  obtain ⟨a, rfl, ha⟩ := e.up s3
  refine ⟨_, e3, a, _, rfl, SqL.of (W.sub w3 _ _ ha), fun q hq => ?_⟩
  obtain ⟨s4, w4⟩ := W.new (o := .lst (cutV (xs.map V.str) (some (n : Int)) none)) w3 hq
  refine k _ _ _ ((s2.trans s3).trans s4) w4 ⟨q, rfl, ?_⟩
  rw [upd_same, cut_map, HT.sIx_none, HT.sIx_nat]
  by_cases z : n ≤ xs.length
  · rw [Nat.min_eq_left z, List.take_of_length_le (by rw [List.length_drop]; exact Nat.le_refl _)]
  · rw [Nat.min_eq_right (by omega), List.drop_length, List.drop_of_length_le (by omega), List.take_nil]
end
end HP

namespace HP
open PySem PySem.Spec PyProof.Rows L2
/-! ### draws, texts -/
/-- the source of draws stands outside what stays -/
def Wsrc (p l : Addr) : Wd where
  ok := fun F H => Same F H ∧ F p = none ∧ F l = none ∧ Src H p l
  sub := fun h => h.1
  ext := fun {F H F' H'} h s1 s2 s3 hn => by
    obtain ⟨h1, h2, h3, S⟩ := h
    have no : ∀ b xs, H b = some (.lst xs) → F b = none → F' b = none := fun b xs e e2 => by
      cases q : F' b with
      | none => rfl
      | some o =>
        rcases hn b o q with z | z
        · rw [e2] at z; cases z
        · rw [e] at z; cases z
    obtain ⟨xs, ex⟩ := S.pl
    obtain ⟨ys, ey⟩ := S.ll
    exact ⟨s3, no p _ ex h2, no l _ ey h3, S.same s1⟩
def ltR (b : Nat) : RV := fun _ v => ∃ r : Nat, v = .int (r : Int) ∧ r < b
def lsP (P : List Str → Prop) : RV := fun F v => ∃ xs, P xs ∧ lsR xs F v
def strP (P : Str → Prop) : RV := fun _ v => ∃ x, P x ∧ v = .str x
section
variable {W : Wd} {F : Hp} {σ : L2.St} {K : PySem.W.Frag}
theorem DenR.imp {t : TE} {R S : RV} (h : DenR W F σ t R) (f : ∀ F v, R F v → S F v) : DenR W F σ t S := fun F1 H1 s w Q k => h F1 H1 s w Q fun v F2 H2 s2 w2 r => k v F2 H2 s2 w2 (f F2 v r)
theorem dn_len {t : TE} {xs : List Str} (h : DenR W F σ t (lsR xs)) : DenR W F σ (tCB (rLenQ K) (tCons t tNil)) (intR (xs.length : Int)) := fun F1 H1 s w Q k => by
  refine h F1 H1 s w _ fun v F2 H2 s2 w2 e => ?_
  obtain ⟨a, rfl, ha⟩ := e
  refine ⟨a, _, rfl, .inl (SqL.of (W.sub w2 _ _ ha)), k _ F2 H2 s2 w2 ?_⟩
  rw [List.length_map]
  rfl
theorem dn_next {p l : Addr} {i b : Nat} {u : TE} (hσ : σ[i]? = some (some (.ref p))) (g : DenR (Wsrc p l) F σ u (intR (b : Int))) (h0 : 0 < b) (h1 : b < 1000) : DenR (Wsrc p l) F σ (tCall spNext [] E0 (tCons (tVar i) (tCons u tNil))) (ltR b) := fun F1 H1 s w Q k => by
  refine ⟨_, hσ, ?_⟩
  refine g F1 H1 s w _ fun v F2 H2 s2 w2 e => ?_
  rw [e]
  refine ⟨p, l, (b : Int), rfl, w2.2.2.2, by omega, by omega, fun H3 r r0 r1 S3 K3 => ?_⟩
  refine k _ F2 H3 s2 ⟨fun c o ec => K3 c o (w2.1 c o ec) (fun z => ?_) (fun z => ?_), w2.2.1, w2.2.2.1, S3⟩ ⟨r.toNat, ?_, by omega⟩
  · rw [z, w2.2.1] at ec; cases ec
  · rw [z, w2.2.2.1] at ec; cases ec
  · rw [Int.toNat_of_nonneg r0]
theorem dn_ix {t u : TE} {xs : List Str} {n : Nat} {x : Str} (h : DenR W F σ t (lsR xs)) (g : DenR W F σ u (intR (n : Int))) (e : xs[n]? = some x) : DenR W F σ (tOp (rIxL K) t u) (strR x) := fun F1 H1 s w Q k => by
  refine h F1 H1 s w _ fun v F2 H2 s2 w2 ev => ?_
  refine g F2 H2 (s.trans s2) w2 _ fun v3 F3 H3 s3 w3 e3 => ?_
  obtain ⟨a, rfl, ha⟩ := ev.up s3
  rw [e3]
  exact ⟨a, _, _, _, rfl, rfl, SqL.of (W.sub w3 _ _ ha), at_str e, k _ F3 H3 (s2.trans s3) w3 rfl⟩
theorem dn_pick {t u : TE} {xs : List Str} (h : DenR W F σ t (lsR xs)) (g : DenR W F σ u (ltR xs.length)) : DenR W F σ (tOp (rIxL K) t u) (strP fun x => x ∈ xs) := fun F1 H1 s w Q k => by
  refine h F1 H1 s w _ fun v F2 H2 s2 w2 ev => ?_
  refine g F2 H2 (s.trans s2) w2 _ fun v3 F3 H3 s3 w3 e3 => ?_
  obtain ⟨a, rfl, ha⟩ := ev.up s3
  obtain ⟨r, rfl, hr⟩ := e3
  exact ⟨a, _, _, _, rfl, rfl, SqL.of (W.sub w3 _ _ ha), at_str (List.getElem?_eq_getElem hr), k _ F3 H3 (s2.trans s3) w3 ⟨_, List.getElem_mem hr, rfl⟩⟩
theorem dn_one {t : TE} {P : Str → Prop} (h : DenR W F σ t (strP P)) : DenR W F σ (tLst (tCons t tNil)) (lsP fun xs => ∃ x, P x ∧ xs = [x]) := fun F1 H1 s w Q k => by
  refine h F1 H1 s w _ fun v F2 H2 s2 w2 ev => ?_
  obtain ⟨x, hx, rfl⟩ := ev
  refine ⟨(by show 1 ≤ sizeLine; decide), fun q hq => ?_⟩
  obtain ⟨s4, w4⟩ := W.new (o := .lst [.str x]) w2 hq
  exact k _ _ _ (s2.trans s4) w4 ⟨[x], ⟨x, hx, rfl⟩, q, rfl, upd_same⟩
theorem dn_catP {t u : TE} {P R : List Str → Prop} (h : DenR W F σ t (lsP P)) (g : DenR W F σ u (lsP R)) (hl : ∀ xs ys, P xs → R ys → xs.length + ys.length ≤ 1000) : DenR W F σ (tOp rCat t u) (lsP fun zs => ∃ xs ys, P xs ∧ R ys ∧ zs = xs ++ ys) := fun F1 H1 s w Q k => by
  refine h F1 H1 s w _ fun v F2 H2 s2 w2 e => ?_
  refine g F2 H2 (s.trans s2) w2 _ fun v3 F3 H3 s3 w3 e3 => ?_
  obtain ⟨xs, hx, e⟩ := e
  obtain ⟨ys, hy, e3⟩ := e3
  obtain ⟨a, rfl, ha⟩ := e.up s3
  obtain ⟨b, rfl, hb⟩ := e3
  refine ⟨a, b, _, _, rfl, rfl, W.sub w3 _ _ ha, W.sub w3 _ _ hb, ?_, fun q hq => ?_⟩
  · rw [List.length_map, List.length_map]
    exact Nat.le_trans (hl xs ys hx hy) (by decide)
  · obtain ⟨s4, w4⟩ := W.new (o := .lst (xs.map V.str ++ ys.map V.str)) w3 hq
    exact k _ _ _ ((s2.trans s3).trans s4) w4 ⟨xs ++ ys, ⟨xs, ys, hx, hy, rfl⟩, q, rfl, by rw [upd_same, List.map_append]⟩
theorem dn_addN {t u : TE} {i j : Nat} (h : DenR W F σ t (intR (i : Int))) (g : DenR W F σ u (intR (j : Int))) : DenR W F σ (tOp rAdd t u) (intR ((i + j : Nat) : Int)) := (dn_add h g).imp fun _ _ r => r
theorem dn_mid {t u u2 : TE} {xs : List Str} {a b : Nat} (h : DenR W F σ t (lsR xs)) (g : DenR W F σ u (intR (a : Int))) (g2 : DenR W F σ u2 (intR (b : Int))) : DenR W F σ (tSl (rSlL K) t (tPart u) (tPart u2)) (lsR ((xs.drop (min a xs.length)).take (min b xs.length - min a xs.length))) := fun F1 H1 s w Q k => by
  refine h F1 H1 s w _ fun v F2 H2 s2 w2 e => ?_
  refine g F2 H2 (s.trans s2) w2 _ fun v3 F3 H3 s3 w3 e3 => ?_
  refine ⟨_, e3, ?_⟩
  refine g2 F3 H3 (s.trans (s2.trans s3)) w3 _ fun v4 F4 H4 s4 w4 e4 => ?_
  obtain ⟨q0, rfl, ha⟩ := (e.up s3).up s4
  refine ⟨_, e4, q0, _, rfl, SqL.of (W.sub w4 _ _ ha), fun q hq => ?_⟩
  obtain ⟨s5, w5⟩ := W.new (o := .lst (cutV (xs.map V.str) (some (a : Int)) (some (b : Int)))) w4 hq
  refine k _ _ _ (((s2.trans s3).trans s4).trans s5) w5 ⟨q, rfl, ?_⟩
  rw [upd_same, cut_map, HT.sIx_nat, HT.sIx_nat]
theorem dn_strs {ts : TA} {xs : List Str} (h : ∀ H (Q : List V → Hp → Prop), Q (xs.map V.str) H → ts σ H Q) (hl : xs.length ≤ 1000) : DenR W F σ (tLst ts) (lsR xs) := fun F1 H1 s w Q k => by
  refine h _ _ ⟨by rw [List.length_map]; exact Nat.le_trans hl (by decide), fun q hq => ?_⟩
  obtain ⟨s4, w4⟩ := W.new (o := .lst (xs.map V.str)) w hq
  exact k _ _ _ s4 w4 ⟨q, rfl, upd_same⟩
theorem nx_of {a b c : L2.St → Hp → Prop} {r : VK} {H : Hp} (h : a σ H) : tNext { nx := a, rt := r, bk := b, ct := c } σ H := h
theorem dn_seq {t : TE} {g : TG} {u : TS} {D : Ends} {H : Hp} {R : RV} (h : DenR W F σ t R) (w : W.ok F H) (k : ∀ v F2 H2, Same F F2 → W.ok F2 H2 → R F2 v → g v σ H2 (u D)) : tSeq (tAsg t g) u D σ H := h F H (Same.refl F) w _ k
theorem DenR.ls {t : TE} {xs : List Str} (h : DenR W F σ t (lsR xs)) : DenR W F σ t (lsP fun ys => ys = xs) := h.imp fun _ _ r => ⟨_, rfl, r⟩
end
def moreW : List Str := ["a", "A", "keep", "top", "2", "4", "newer", "things", "?", "nineletter", "free", "drop"]
/-- the words that can be -/
def voc : List Str := "things" :: "keys" :: "words" :: "" :: "1" :: "2" :: "3" :: (fourNames ++ allWords ++ partNames ++ moreW ++ (["keep", "drop", "clear", "all", "rest", "newer", "elder", "refuse", "turn"] : List Str))
theorem voc_all : ∀ x ∈ voc, x.length ≤ 10 ∧ PyData.strOk x = true ∧ 32 ∉ TL.tl x ∧ 10 ∉ TL.tl x := by decide +kernel
def RowOk (n : Nat) (r : Str) : Prop := ∃ ws, ws ≠ [] ∧ ws.length ≤ n ∧ (∀ x ∈ ws, x ∈ voc) ∧ r = joinW ws
theorem RowOk.up {n m : Nat} {r : Str} (h : RowOk n r) (hm : n ≤ m) : RowOk m r := let ⟨ws, a, b, c, d⟩ := h; ⟨ws, a, Nat.le_trans b hm, c, d⟩
theorem row_of {ws : List Str} {n : Nat} (h1 : ws.length ≤ n) (h0 : 1 ≤ n) (h2 : ∀ x ∈ ws, x ∈ voc) : RowOk n (joinW ws) := by
  cases ws with
  | nil => exact ⟨[""], by simp, h0, fun x hx => by rw [List.mem_singleton.mp hx]; decide, rfl⟩
  | cons x xs => exact ⟨x :: xs, by simp, h1, h2, rfl⟩
theorem split_row {ws : List Str} (h1 : ws ≠ []) (h2 : ∀ x ∈ ws, x ∈ voc) : Txt.split (joinW ws) " " = ws := TL.split_join (y := " ") (s := 32) (S := []) rfl (by decide +kernel) h1 fun p hp => (voc_all p (h2 p hp)).2.2.1
section
variable {W : Wd} {F : Hp} {σ : L2.St}
def rSplit : V → List V → Hp → VK → Prop := fun x xs H Q => ∃ a b, x = .str a ∧ xs = [.str b] ∧ (b.length == 0) = false ∧ a.length + 2 ≤ sizeLine ∧ rNewStrs (Txt.split a b) H Q
theorem dn_split {t : TE} {x y : Str} (h : DenR W F σ t (strR x)) (hy : (y.length == 0) = false) (hx : x.length ≤ 100000) : DenR W F σ (tM1 rSplit t (tC (.str y))) (lsR (Txt.split x y)) := fun F1 H1 s w Q k => by
  refine h F1 H1 s w _ fun v F2 H2 s2 w2 e => ?_
  rw [e]
  refine ⟨⟨_, rfl⟩, x, y, rfl, rfl, hy, Nat.le_trans (Nat.add_le_add_right hx 2) (by decide), fun q hq => ?_⟩
  obtain ⟨s4, w4⟩ := W.new (o := .lst ((Txt.split x y).map V.str)) w2 hq
  exact k _ _ _ (s2.trans s4) w4 ⟨q, rfl, upd_same⟩
def rJoin (K : PySem.W.Frag) : V → List V → Hp → VK → Prop := fun x xs H Q => ∃ a p, ∃ ys : List Str, x = .str a ∧ xs = [.ref p] ∧ (SqL K H p (ys.map V.str) ∨ SqT K H p (ys.map V.str)) ∧ (ys.map (·.length)).sum + ys.length * a.length ≤ 16777216 ∧ Q (.str (Txt.join a ys)) H
theorem dn_join {K : PySem.W.Frag} {t : TE} {P : List Str → Prop} {y : Str} (h : DenR W F σ t (lsP P)) (hl : ∀ xs, P xs → (xs.map (·.length)).sum + xs.length * y.length ≤ 16777216) : DenR W F σ (tM1 (rJoin K) (tC (.str y)) t) (strP fun x => ∃ xs, P xs ∧ x = Txt.join y xs) := fun F1 H1 s w Q k => by
  refine ⟨⟨_, rfl⟩, ?_⟩
  refine h F1 H1 s w _ fun v F2 H2 s2 w2 e => ?_
  obtain ⟨xs, hx, a, rfl, ha⟩ := e
  exact ⟨y, a, xs, rfl, rfl, .inl (SqL.of (W.sub w2 _ _ ha)), hl xs hx, k _ F2 H2 s2 w2 ⟨_, ⟨xs, hx, rfl⟩, rfl⟩⟩
end
end HP

namespace HP
open PySem PySem.Spec PyProof.Rows L2
theorem rows_ok {names : List Str} {many : Int} {f : Str → Str} {words : List Str} {m w : Int} (d : Drawn4 names many f words m w) (hm : m ≤ 3) (hw : w ≤ 9) : ∀ ws ∈ rowsOf names many f words, RowOk 10 (joinW ws) := fun ws hws => by
  obtain ⟨n4, nne, nin, w9⟩ := d.small hw
  have v1 : ∀ x ∈ fourNames, x ∈ voc := by decide +kernel
  have v2 : ∀ x ∈ allWords, x ∈ voc := by decide +kernel
  have v3 : ∀ p ∈ partNames, p ∈ voc ∧ ∀ x ∈ partWords p, x ∈ voc := by decide +kernel
  unfold rowsOf at hws
  rcases List.mem_cons.mp hws with rfl | hws
  · refine row_of (by rw [List.length_cons]; omega) (by decide) fun x hx => ?_
    rcases List.mem_cons.mp hx with rfl | hx
    · decide +kernel
    · exact v1 x (nin x hx)
  rcases List.mem_cons.mp hws with rfl | hws
  · refine row_of (by show 2 ≤ 10; decide) (by decide) fun x hx => ?_
    rcases List.mem_cons.mp hx with rfl | hx
    · decide +kernel
    · rw [List.mem_singleton.mp hx]
      have h1 := d.m1
      have h2 := d.m2
      have : many = 1 ∨ many = 2 ∨ many = 3 := by omega
      rcases this with rfl | rfl | rfl <;> decide +kernel
  rcases List.mem_cons.mp hws with rfl | hws
  · refine row_of (by rw [List.length_cons]; omega) (by decide) fun x hx => ?_
    rcases List.mem_cons.mp hx with rfl | hx
    · decide +kernel
    · exact v2 x (d.ws x hx)
  · obtain ⟨p, hp, rfl⟩ := List.mem_map.mp hws
    refine row_of (by show 2 ≤ 10; decide) (by decide) fun x hx => ?_
    rcases List.mem_cons.mp hx with rfl | hx
    · exact (v3 x hp).1
    · rw [List.mem_singleton.mp hx]
      exact (v3 p hp).2 _ (d.rl p hp)
/-- the lines of a text of rows -/
theorem text_rows {rs : List Str} {m : Nat} (h0 : rs ≠ []) (hn : rs.length ≤ 20) (hm : m ≤ 20) (h : ∀ r ∈ rs, RowOk m r) : (rs.map (·.length)).sum + rs.length * (("\n" : Str)).length ≤ 16777216 ∧ (Txt.join "\n" rs).length ≤ 80000 ∧ ∀ r ∈ Txt.split (Txt.join "\n" rs) "\n", (wordsOf r).length < 60 ∧ okS (wordsOf r) := by
  have rl : ∀ r ∈ rs, r.length ≤ 220 := fun r hr => by
    obtain ⟨ws, a, b, c, rfl⟩ := h r hr
    have := join_len (b := 10) (ws := ws) fun x hx => (voc_all x (c x hx)).1
    omega
  have hs := sum_le (fun x : Str => x.length) 220 rs rl
  have e1 : (("\n" : Str)).length = 1 := rfl
  have hj := StrLaws.join_length_le "\n" rs
  rw [e1] at hj ⊢
  have no10 : ∀ r ∈ rs, 10 ∉ TL.tl r := fun r hr hm => by
    obtain ⟨ws, a, b, c, rfl⟩ := h r hr
    rw [tl_joinW] at hm
    have all : ∀ ws : List Str, (∀ x ∈ ws, x ∈ voc) → 10 ∉ TL.joinL [32] (ws.map TL.tl) := by
      intro ws
      induction ws with
      | nil => intro _ hm; cases hm
      | cons x xs ih =>
        intro hv
        cases xs with
        | nil => exact (voc_all x (hv x List.mem_cons_self)).2.2.2
        | cons y ys =>
          intro hm
          have hm' : 10 ∈ TL.tl x ++ ([32] ++ TL.joinL [32] ((y :: ys).map TL.tl)) := hm
          rcases List.mem_append.mp hm' with h | h
          · exact (voc_all x (hv x List.mem_cons_self)).2.2.2 h
          · rcases List.mem_append.mp h with h | h
            · cases List.mem_singleton.mp h
            · exact ih (fun z hz => hv z (List.mem_cons_of_mem _ hz)) h
    exact all ws c hm
  have esp : Txt.split (Txt.join "\n" rs) "\n" = rs := TL.split_join (y := "\n") (s := 10) (S := []) rfl (by decide +kernel) h0 no10
  refine ⟨by omega, ?_, ?_⟩
  · have e : Txt.join "\n" rs = Str.join "\n" rs := TL.join_eq "\n" rs
    rw [e]
    omega
  · rw [esp]
    intro r hr
    obtain ⟨ws, a, b, c, rfl⟩ := h r hr
    have e : wordsOf (joinW ws) = ws.filter fun y => !decide (y = ("" : Str)) := by
      unfold wordsOf
      rw [split_row a c]
    rw [e]
    refine ⟨Nat.lt_of_le_of_lt (List.length_filter_le ..) (by omega), fun x hx => (voc_all x (c x (List.mem_filter.mp hx).1)).2.1⟩
end HP

namespace HT
open PySem PySem.Spec PyProof.Rows
section
variable {prog : Program} {w : World} {A : Around} {E : Value → Shared → Prop} {s : Shared}
theorem adjust_rev (n : Nat) : Builtin.Slice.sliceAdjust none none (-1) (n : Int) = ((n : Int) - 1, -1) := by
  unfold Builtin.Slice.sliceAdjust
  have h1 : ((-1 : Int) < 0) := by omega
  simp only [h1, if_true]
theorem places_rev (n : Nat) : Builtin.Slice.slicePlaces ((n : Int) - 1) (-1) (-1) = n := by
  unfold Builtin.Slice.slicePlaces
  have h1 : ¬ ((-1 : Int) > 0) := by omega
  simp only [h1, if_false]
  split
  · have e : ((n : Int) - 1 - -1 - -1 - 1) / (- -1) = (n : Int) := by
      rw [show (- -1 : Int) = 1 by decide, Int.ediv_one]
      omega
    first
      | (rw [e]; simp; done)
      | (have e2 : ((n : Int) - 1 - -1 - 1) / (- -1) + 1 = (n : Int) := by
          rw [show (- -1 : Int) = 1 by decide, Int.ediv_one]
          omega
         rw [e2]; simp; done)
      | (simp; omega)
  · omega
theorem applied_rev {sl : Addr} {vl vu vk : Value} {n : Nat} {Q : Int × Int × Nat → Shared → Prop} (hs : s.heap.IsSliceOf sl vl vu vk) (pl : IsPart vl none) (pu : IsPart vu none) (pk : IsPart vk (some (-1)))
    (h : Q ((n : Int) - 1, -1, n) s) : wpAny (model prog w) A (Builtin.Slice.sliceApplied (.ref sl) (pure (n : Int))) Q E s := by
  obtain ⟨os, hos, hcs, hds⟩ := id hs
  unfold Builtin.Slice.sliceApplied Builtin.Slice.sliceFields
  refine wpAny_bind (wpAny_bind (wpAny_field hos hds (x := vl) rfl (wpAny_bind (wpAny_field hos hds (x := vu) rfl (wpAny_bind (wpAny_field hos hds (x := vk) rfl (wpAny_pure ?_)))))))
  refine wpAny_bind (slicePart_ pk ?_)
  show wpAny _ _ (if ((-1 : Int) == 0) = true then _ else _) _ _ s
  rw [if_neg (by decide)]
  refine wpAny_bind (slicePart_ pl (wpAny_bind (slicePart_ pu (wpAny_bind (wpAny_pure ?_)))))
  show wpAny _ _ (match Builtin.Slice.sliceAdjust none none (-1) (n : Int) with | (lo, hi) => pure (lo, (-1 : Int), Builtin.Slice.slicePlaces lo hi (-1))) _ _ s
  rw [adjust_rev n]
  show wpAny _ _ (pure ((n : Int) - 1, (-1 : Int), Builtin.Slice.slicePlaces ((n : Int) - 1) (-1) (-1))) _ _ s
  rw [places_rev]
  exact wpAny_pure h
theorem pick_rev (xs : Array Value) : ((List.range xs.size).filterMap fun (m : Nat) => xs[((xs.size : Int) - 1 + (m : Int) * (-1)).toNat]?).toArray = xs.toList.reverse.toArray := by
  rw [← PySem.W.krv_pick xs]
  unfold slicePick
  rw [PySem.W.krv_bounds]
  show _ = ((sliceRange ((xs.size : Int) - 1) (-1) (-1)).filterMap (xs[·]?)).toArray
  rw [PySem.W.krv_sliceRange, List.filterMap_map]
  congr 1
  refine congrArg (fun f => (List.range xs.size).filterMap f) (funext fun m => ?_)
  have e : ((xs.size : Int) - 1 + (m : Int) * (-1)).toNat = xs.size - 1 - m := by omega
  show xs[((xs.size : Int) - 1 + (m : Int) * (-1)).toNat]? = xs[xs.size - 1 - m]?
  rw [e]
theorem getItem_tuple_rev {t sl : Addr} {items : Array Value} {vl vu vk : Value} {Q : Value → Shared → Prop} (ht : IsTup s.heap t items) (hs : s.heap.IsSliceOf sl vl vu vk) (pl : IsPart vl none) (pu : IsPart vu none) (pk : IsPart vk (some (-1)))
    (h : Q (.ref s.heap.objs.size) { s with heap := s.heap.push { cls := .type "tuple", data := .seq items.toList.reverse.toArray } })
    (hsz : items.size ≤ sizeLine) : wpAny (model prog w) A (getItem (.ref t) (.ref sl)) Q E s := by
  have htake : sizeOk (.seq items.toList.reverse.toArray) := by
    show items.toList.reverse.toArray.size ≤ sizeLine
    rw [List.size_toArray, List.length_reverse, Array.length_toList]
    exact hsz
  obtain ⟨os, hos, hcs, hds⟩ := id hs
  have hTs : s.TypeIs (.ref sl) "slice" := ⟨os, hos, hcs⟩
  unfold getItem
  try with_reducible refine wpAny_holding ?_
  first | refine wpAny_bind (wpAny_pure ?_) | skip
  refine wpAny_bind (wpAny_sequenceKey ht.typeIs (by decide) ?_)
  refine wpAny_bind (wpAny_callSpecial?_slot (name := Str.ofString "__getitem__") ht.typeIs PyProof.Rows.slot_tuple_getitem
    (wpAny_call_entry PyProof.Rows.slot_tuple_getitem ht.typeIs entry_tuple_getitem ?_ (args_tuple_getitem _ _)))
  show wpAny _ _ (Builtin.Tuple.tupleItemsOf (.ref t) >>= _) _ _ s
  refine wpAny_bind (tupleItemsOf_ ht ?_)
  refine wpAny_bind (wpAny_typeOf hTs ?_)
  rw [if_pos (by decide)]
  refine wpAny_bind (applied_rev hs pl pu pk ?_)
  show wpAny _ _ (if ((items.size : Int) - 1 == 0 && (-1 : Int) == 1 && items.size == items.size) = true then _ else _) _ _ s
  rw [if_neg (by rw [show ((-1 : Int) == 1) = false from rfl, Bool.and_false, Bool.false_and]; exact Bool.false_ne_true), pick_rev]
  first
    | exact wpAny_bind (m := Builtin.Tuple.tupleExact _) (wpAny_newObj_type (wpAny_pure ⟨_, rfl, wpAny_pure h⟩) htake)
    | exact wpAny_bind (m := Builtin.Tuple.tupleExact _) (wpAny_newObj_type (wpAny_bind (wpAny_pure (wpAny_pure ⟨_, rfl, wpAny_pure h⟩))) htake)
    | exact wpAny_bind (wpAny_bind (m := Builtin.Tuple.tupleExact _) (wpAny_newObj_type (wpAny_pure (wpAny_pure ⟨_, rfl, wpAny_pure h⟩)) htake))
    | exact wpAny_bind (wpAny_bind (m := Builtin.Tuple.tupleExact _) (wpAny_newObj_type (wpAny_pure ⟨_, rfl, wpAny_pure h⟩) htake))
end
end HT
namespace HP
open PySem PySem.Spec PyProof.Rows L2 SlX
section
variable {X : Cx}
/-- t[::-1], a tuple -/
def tRevT (K : PySem.W.Frag) (te : TE) : TE := fun σ H Q => te σ H fun x H1 => ∃ a xs, x = .ref a ∧ SqT K H1 a xs ∧ ∀ p, H1 p = none → Q (.ref p) (upd H1 p (.tup xs.reverse))
theorem pe_revT {e : Expr} {te : TE} {k : Nat} {p1 p2 p3 pos : Pos} (he : PE X e te) : PE X (.Subscript e (.Slice none none (some (.UnaryOp .USub (.Constant (.int 1) k p1) p2)) p3) pos) (tRevT X.K te) := by
  refine ⟨fun pins s σ H Q I h => ?_⟩
  refine Subscript_ (thn (he.run pins s σ H _ I h) fun v s1 ⟨x, H1, I1, r1, q1⟩ => ?_)
  obtain ⟨a, xs, ex, hx, q⟩ := q1
  subst ex
  cases r1
  have hst : PO X (some (.UnaryOp .USub (.Constant (.int 1) k p1) p2)) (tPart (tUn (rU fun i => .int (-i)) (tC (.int 1)))) := po_some (pe_un un_neg pe_int)
  refine wpAny_Slice (thn (po_none.run pins s1 σ H1 (fun o H2 => o = none ∧ H2 = H1) I1 ⟨rfl, rfl⟩) fun vl s2 ⟨l, H2, I2, pl, el, e2⟩ => ?_)
  subst el e2
  refine thn (po_none.run pins s2 σ H2 (fun o H3 => o = none ∧ H3 = H2) I2 ⟨rfl, rfl⟩) fun vu s3 ⟨u, H3, I3, pu, eu, e3⟩ => ?_
  subst eu e3
  refine thn (hst.run pins s3 σ H3 (fun o H4 => o = some (-1) ∧ H4 = H3) I3 ⟨1, rfl, -1, rfl, rfl, rfl⟩) fun vs s4 ⟨o, H4, I4, ps, eo, e4⟩ => ?_
  subst eo e4
  have I5 : Inv X pins σ H4 { s4 with heap := s4.heap.push { cls := .type "slice", data := .fields #[vl, vu, vs] } } := I4.kept (t' := s4.toks) fun b ob q => Heap.get?_push_of_some _ q
  obtain ⟨its, r, ht, hz⟩ := I5.tuple hx
  have hlen := r.length
  show wpAny (model X.prog X.w) X.A (subscriptTail e (.Slice none none (some (.UnaryOp .USub (.Constant (.int 1) k p1) p2)) p3) (.ref a) (.ref s4.heap.objs.size)) (EP X pins σ Q) X.xe { s4 with heap := s4.heap.push { cls := .type "slice", data := .fields #[vl, vu, vs] } }
  refine tail_any (ops := [.ref a, .ref s4.heap.objs.size]) ht.typeIs (PyProof.Rows.slot_tuple_getitem.lookup) ?_ (by with_unfolding_all rfl)
  refine HT.getItem_tuple_rev ht (Heap.IsSliceOf.new _ vl vu vs) pl pu ps ?_ (by rw [List.size_toArray]; omega)
  refine ⟨.ref _, _, I5.laid (t' := s4.toks) (o := .tup xs.reverse) (fun b ob q => Heap.get?_push_of_some _ q) (Nat.le_refl _) ?_, rfl, q _ (I5.hok.fresh (Nat.le_refl _))⟩
  exact ⟨by rw [List.length_reverse]; exact hz, _, r.reverse, IsTup.new _ _⟩
end
end HP

namespace HP
open PySem PySem.Spec PyProof.Rows L2 SlX
def tJoined (ts : List TE) : TE := fun σ H Q => tJs ts Str.empty σ H fun out H1 => Q (.str out) H1
theorem eJoined {X : Cx} {v1 v2 : Expr} {rest : List Expr} {ts : List TE} {pos : Pos} (h : PJ X (v1 :: v2 :: rest) ts) : PE X (.JoinedStr (v1 :: v2 :: rest) pos) (tJoined ts) := pe_joined h
/-! ### z * n -/
def repS (z : Str) (n : Nat) : Str := ⟨(List.replicate n z.cps).foldl (· ++ ·) #[]⟩
theorem rep_fold (z : Array Nat) : ∀ (n : Nat) (acc : Array Nat), ((List.replicate n z).foldl (· ++ ·) acc).toList = acc.toList ++ (List.replicate n z.toList).flatten
  | 0, acc => by simp
  | n + 1, acc => by
    rw [List.replicate_succ, List.foldl_cons, rep_fold z n, List.replicate_succ, List.flatten_cons]
    simp [List.append_assoc]
theorem tl_rep (z : Str) (n : Nat) : TL.tl (repS z n) = (List.replicate n (TL.tl z)).flatten := by
  show ((List.replicate n z.cps).foldl (· ++ ·) #[]).toList = _
  rw [rep_fold]
  rfl
theorem rep_len (z : Str) (n : Nat) : (repS z n).length = n * z.length := by
  rw [TL.len_tl, tl_rep, TL.len_tl z]
  simp [List.length_flatten]
theorem rep_one (z : Str) : repS z 1 = z := TL.ext_tl (by rw [tl_rep]; simp)
theorem rep_zero (z : Str) : repS z 0 = Str.empty := rfl
def rMulS : R2 := fun x y H Q => ∃ (z : Str) (n : Nat), x = .str z ∧ y = .int (n : Int) ∧ 1 ≤ z.length ∧ z.length ≤ 1000 ∧ n ≤ 1000 ∧ Q (.str (repS z n)) H
theorem op_mulS {X : Cx} : OpR X (binaryOp .Mult) rMulS := by
  intro pins s σ H x y v u Q I rx ry h
  obtain ⟨z, n, rfl, rfl, h1, h2, h3, q⟩ := h
  obtain ⟨t, rfl⟩ := rx
  obtain ⟨t', rfl⟩ := ry
  have hz : z.length * n ≤ 1000000 := Nat.le_trans (Nat.mul_le_mul h2 h3) (by decide)
  have hsz : n * z.length ≤ sizeLine := by rw [Nat.mul_comm]; exact Nat.le_trans hz (by decide)
  refine PySem.P.mul_str ?_ (fun a b => ?_) (fun a b => ?_) ?_
  · rw [decide_eq_false (by omega), decide_eq_false (by omega)]
    rfl
  · have hn : (1 : Int) ≤ (n : Int) := by omega
    intro hc
    have hc' : ((2 : Int) ^ 63 - 1) / (n : Int) < (z.length : Int) := hc
    have : ((2 : Int) ^ 63 - 1) < (z.length : Int) * (n : Int) := by
      have := Int.lt_mul_of_ediv_lt (show (0 : Int) < n by omega) hc'
      exact this
    have e : (z.length : Int) * (n : Int) = ((z.length * n : Nat) : Int) := by rw [Int.natCast_mul]
    rw [e] at this
    omega
  · rw [Int.toNat_natCast]
    exact decide_eq_false (by rw [Nat.mul_comm]; exact Nat.not_lt.mpr hsz)
  · by_cases c1 : (n : Int) < 1
    · rw [if_pos c1]
      have e : n = 0 := by omega
      subst e
      exact ⟨by decide, .str Str.empty, H, I.tok _, ⟨_, rfl⟩, by rw [← rep_zero z]; exact q⟩
    · rw [if_neg c1]
      by_cases c2 : ((n : Int) == 1 || z.length == 0) = true
      · rw [if_pos c2]
        have e : n = 1 := by
          rw [Bool.or_eq_true] at c2
          rcases c2 with c2 | c2
          · have := eq_of_beq c2; omega
          · have := eq_of_beq c2; omega
        subst e
        rw [rep_one] at q
        exact ⟨.str z, H, I, ⟨_, rfl⟩, q⟩
      · rw [if_neg c2, Int.toNat_natCast]
        exact ⟨by show (repS z n).length ≤ sizeLine; rw [rep_len]; exact hsz, .str (repS z n), H, I.tok _, ⟨_, rfl⟩, q⟩
/-! ### d == e, dicts of data -/
section
variable {X : Cx} {pins : List (Addr × Obj)} {σ : L2.St} {H : Hp} {s : Shared}
def valDd (kds : List (Key × PyData)) (k : Key) : Option PyData := (kds.find? fun kv => decide (kv.1 = k)).map (·.2)
/-- the dicts are equal -/
def dicEqv (ka kb : List (Key × PyData)) : Bool := ka.length == kb.length && ka.all fun kv => match valDd kb kv.1 with
  | some e => PyData.eqv kv.2 e
  | none => false
def DicA (K : PySem.W.Frag) (H : Hp) (a : Addr) (kds : List (Key × PyData)) : Prop := ∃ kvs, H a = some (.dK kvs) ∧ Paired (fun (p : Key × V) (q : Key × PyData) => p.1 = q.1 ∧ Dp K H p.2 q.2) kvs kds
theorem val_dd {K : PySem.W.Frag} {kvs : List (Key × V)} {kds : List (Key × PyData)} (h : Paired (fun (p : Key × V) (q : Key × PyData) => p.1 = q.1 ∧ Dp K H p.2 q.2) kvs kds) (k : Key) :
    (valV kvs k = none ∧ valDd kds k = none) ∨ ∃ v d, valV kvs k = some v ∧ valDd kds k = some d ∧ Dp K H v d := by
  induction h with
  | nil => exact .inl ⟨rfl, rfl⟩
  | @cons p q ps qs r t ih =>
    unfold valV valDd at ih ⊢
    rw [List.find?_cons, List.find?_cons, r.1]
    cases decide (q.1 = k) with
    | true => exact .inr ⟨p.2, q.2, rfl, rfl, r.2⟩
    | false => exact ih
theorem hits_dd (I : Inv X pins σ H s) {A : Around} (hu : A.units + 64 < cLine) {ls : List (Key × V)} {lds : List (Key × PyData)} {vb : List (Key × Value)} (hl : Paired (fun (p : Key × V) (q : Key × PyData) => p.1 = q.1 ∧ Dp X.K H p.2 q.2) ls lds) (rb : KV ls vb) (sl : ∀ kd ∈ lds, SeqAt.shaped kd.2 = true) :
    ∀ {ks : List (Key × V)} {kds : List (Key × PyData)} {va : List (Key × Value)}, Paired (fun (p : Key × V) (q : Key × PyData) => p.1 = q.1 ∧ Dp X.K H p.2 q.2) ks kds → KV ks va → (∀ kd ∈ kds, SeqAt.shaped kd.2 = true) →
    ∃ b, PySem.W.KeqHitsP X.prog X.w A s vb va b ∧ b = kds.all fun kv => match valDd lds kv.1 with
      | some e => PyData.eqv kv.2 e
      | none => false := by
  intro ks kds va hk ra
  unfold KV at ra
  induction hk generalizing va with
  | nil =>
    intro _
    cases ra
    exact ⟨true, .nil, rfl⟩
  | @cons p q ps qs r t ih =>
    intro sk
    cases ra with
    | @cons _ q2 _ qs2 r2 t2 =>
      obtain ⟨b, hb, eb⟩ := ih t2 fun kd h => sk kd (List.mem_cons_of_mem _ h)
      obtain ⟨key, v⟩ := q2
      have h1 : p.1 = key := r2.1
      have h2 : RelV p.2 v := r2.2
      rw [List.all_cons]
      rcases val_dd hl q.1 with ⟨e1, e2⟩ | ⟨u, d, e1, e2, hd⟩
      · rw [e2]
        refine ⟨false, ?_, by simp⟩
        have rr : RelO (none : Option V) (valueAt vb q.1) := by rw [← e1]; exact rb.val q.1
        rw [← h1, r.1]
        exact .miss (by cases hv : valueAt vb q.1 with
          | none => rfl
          | some y => rw [hv] at rr; exact absurd rr (by intro z; cases z))
      · rw [e2]
        have rr : RelO (some u) (valueAt vb q.1) := by rw [← e1]; exact rb.val q.1
        obtain ⟨y, hy, ry⟩ := rr.some_of
        obtain ⟨as, ra1⟩ := Dp.reads I q.2 p.2 v r.2 h2
        obtain ⟨bs, rb1⟩ := Dp.reads I d u y hd ry
        have hmd : (q.1, d) ∈ lds ∨ ∃ k', (k', d) ∈ lds := by
          have := e2
          unfold valDd at this
          cases hf : lds.find? (fun kv => decide (kv.1 = q.1)) with
          | none => rw [hf] at this; cases this
          | some kv =>
            rw [hf] at this
            have hm := List.mem_of_find?_eq_some hf
            have : kv.2 = d := Option.some.inj this
            exact .inr ⟨kv.1, by rw [← this]; exact hm⟩
        have sd : SeqAt.shaped d = true := by
          rcases hmd with h | ⟨k', h⟩
          · exact sl _ h
          · exact sl _ h
        have se := sk q List.mem_cons_self
        refine ⟨PyData.eqv q.2 d && b, ?_, by rw [eb]⟩
        rw [← h1, r.1]
        exact .hit hy (SeqAt.eqAt_reads q.2 d A s v y as bs ra1 rb1 (SeqAt.canLay_of_shaped se) (SeqAt.canLay_of_shaped sd) (SeqAt.room_of_shaped se hu)).eqP hb
theorem rcNe_dicts {prog : Program} {w : World} {Kt : Type} [DecidableEq Kt] {knd : KeyKind prog w Kt} {A : Around} {s : Shared} {a b : Addr} {ka kb : List (Kt × Value)} {r : Bool} (ha : (a == sysModules) = false) (hb : (b == sysModules) = false)
    (da : s.heap.DictOf knd a ka) (db : s.heap.DictOf knd b kb) (hu : A.units < cLine) (hits : ka.length = kb.length → PySem.W.KeqHitsP prog w A.in1 s kb ka r) (E Q : Value → Shared → Prop) (h : Q (.bool (!(ka.length == kb.length && r))) s) : wpAny (model prog w) A (richCompare .NotEq (.ref a) (.ref b)) Q E s := by
  refine wpAny_richCompare_same_room (op := .NotEq) da.typeIs db.typeIs PySem.F.slot_dict_ne (wpAny_call_entry PySem.F.slot_dict_ne da.typeIs PySem.F.entry_dict_ne ?_ (PySem.F.args_dict_ne_2 _ _)) hu
  show wpAny _ _ (Builtin.Dict.dictSlotArgs "__ne__" ⟨[.ref a, .ref b], []⟩ >>= _) _ _ s
  refine wpAny_bind ?_
  unfold Builtin.Dict.dictSlotArgs
  refine wpAny_bind (wpAny_notOrdered_dict da.typeIs ?_)
  show wpAny _ _ (pure (Value.ref a, Value.ref b)) _ _ s
  refine wpAny_pure ?_
  refine wpAny_bind (wpAny_isInstance (T := "dict") db.typeIs PySem.F.sub_dict_dict ?_)
  simp only [Bool.not_true, Bool.false_eq_true, if_false]
  refine wpAny_bind (wpAny_pure (wpAny_bind (wpAny_pure ?_)))
  refine wpAny_bind (PySem.W.samePairsP ha hb da db hits ?_)
  refine wpAny_pure ⟨_, rfl, ?_, ?_⟩
  · exact fun x => nomatch x
  · have e : ((ka.length == kb.length && r) == false) = !(ka.length == kb.length && r) := by cases (ka.length == kb.length && r) <;> rfl
    show Q (.bool ((ka.length == kb.length && r) == false)) s
    rw [e]
    exact h
theorem neDic_run (I : Inv X pins σ H s) {A : Around} (hu : A.units + 65 < cLine) {a b : Addr} {ka kb : List (Key × PyData)} (ha : DicA X.K H a ka) (hb : DicA X.K H b kb) (sa : ∀ kd ∈ ka, SeqAt.shaped kd.2 = true) (sb : ∀ kd ∈ kb, SeqAt.shaped kd.2 = true)
    (E Q : Value → Shared → Prop) (q : Q (.bool (!dicEqv ka kb)) s) : wpAny (model X.prog X.w) A (richCompare .NotEq (.ref a) (.ref b)) Q E s := by
  obtain ⟨kvs, h1, p1⟩ := ha
  obtain ⟨lvs, h2, p2⟩ := hb
  obtain ⟨_, ya, va, ra, da⟩ := dk_of I.hok h1
  obtain ⟨_, yb, vb, rb, db⟩ := dk_of I.hok h2
  obtain ⟨r, hr, er⟩ := hits_dd I (A := A.in1) (by show A.units + 1 + 64 < cLine; omega) p2 rb sb p1 ra sa
  refine rcNe_dicts (knd := mixKind X.prog X.w) (r := r) ya yb da db (by omega) (fun _ => hr) E Q ?_
  have e1 : va.length = ka.length := by rw [← Paired.length ra]; exact Paired.length p1
  have e2 : vb.length = kb.length := by rw [← Paired.length rb]; exact Paired.length p2
  rw [e1, e2, er]
  exact q
def rEqDic (K : PySem.W.Frag) : R2 := fun x y H Q => ∃ a b ka kb, x = .ref a ∧ y = .ref b ∧ DicA K H a ka ∧ DicA K H b kb ∧ (∀ kd ∈ ka, SeqAt.shaped kd.2 = true) ∧ (∀ kd ∈ kb, SeqAt.shaped kd.2 = true) ∧ Q (.bl (dicEqv ka kb)) H
theorem eqDic_run (I : Inv X pins σ H s) {A : Around} (hu : A.units + 65 < cLine) {a b : Addr} {ka kb : List (Key × PyData)} (ha : DicA X.K H a ka) (hb : DicA X.K H b kb) (sa : ∀ kd ∈ ka, SeqAt.shaped kd.2 = true) (sb : ∀ kd ∈ kb, SeqAt.shaped kd.2 = true)
    (E Q : Value → Shared → Prop) (q : Q (.bool (dicEqv ka kb)) s) : wpAny (model X.prog X.w) A (richCompare .Eq (.ref a) (.ref b)) Q E s := by
  obtain ⟨kvs, h1, p1⟩ := ha
  obtain ⟨lvs, h2, p2⟩ := hb
  obtain ⟨_, ya, va, ra, da⟩ := dk_of I.hok h1
  obtain ⟨_, yb, vb, rb, db⟩ := dk_of I.hok h2
  obtain ⟨r, hr, er⟩ := hits_dd I (A := A.in1) (by show A.units + 1 + 64 < cLine; omega) p2 rb sb p1 ra sa
  refine PySem.W.rcP_dicts (knd := mixKind X.prog X.w) (r := r) ya yb da db (by omega) (fun _ => hr) E Q ?_
  have e1 : va.length = ka.length := by rw [← Paired.length ra]; exact Paired.length p1
  have e2 : vb.length = kb.length := by rw [← Paired.length rb]; exact Paired.length p2
  rw [e1, e2, er]
  exact q
theorem oEqDic {K : PySem.W.Frag} (hu : X.A.units + 65 < cLine) (hK : X.K = K := by rfl) : OpR X (compareOp .Eq) (rEqDic K) := by
  subst hK
  intro pins s σ H x y v u Q I rx ry h
  obtain ⟨a, b, ka, kb, rfl, rfl, ha, hb, sa, sb, q⟩ := h
  cases (show v = Value.ref a from rx)
  cases (show u = Value.ref b from ry)
  exact eqDic_run I hu ha hb sa sb _ _ ⟨.bl _, H, I, rfl, q⟩
end
/-! ### x == y, x of a slotted class with an own __eq__, y a list -/
section
variable {X : Cx} {CX : CXT} {C g : Addr} {n : Nat} {sp : Sp} {E : XK}
def rOwnL (K : PySem.W.Frag) (C : Addr) (sp : Sp) (E : XK) : R2 := fun x y H Q => ∃ a dx vs b ys, x = .ref a ∧ y = .ref b ∧ Slt H a C dx vs ∧ SqL K H b ys ∧ PySem.W.notFirst K C (.type "list") = true ∧ sp [x, y] H Q E
theorem op_ownL {op : CmpOp} {K : PySem.W.Frag} (hop : ∀ a b, compareOp op a b = richCompare op a b) (hs : PySem.W.findIn X.K (.ref C) (cmpInfo op).2.1 = some (some (.ref g))) (hf : PySem.W.isFn X.K (.ref g) = true) (F : FnR X.prog X.w X.K X.mg X.base CX n g sp)
    (hr : Room n X.A) (hx : Passes CX X E) (hK : X.K = K := by rfl) : OpR X (compareOp op) (rOwnL K C sp E) := by
  subst hK
  intro pins s σ H x y v u Q I rx ry h
  obtain ⟨a, dx, vs, b, ys, rfl, rfl, ha, hb, hn, q⟩ := h
  cases (show v = Value.ref a from rx)
  cases (show u = Value.ref b from ry)
  obtain ⟨sl, od, _, J, _⟩ := slt_inst I ha
  obtain ⟨its, r, pl, _⟩ := I.list hb
  obtain ⟨m, hF⟩ := I.fr
  rw [hop]
  obtain ⟨ol, hol, hcl, _⟩ := pl.isList
  have LT : PySem.W.Looks (model X.prog X.w) s.heap (typeOf (.ref b)) (.type "list") := fun _ _ _ _ k q => wpAny_typeOf_ref (k _ _ hol) (hcl ▸ q)
  refine PySem.W.cmp_K (op := op) (tb := .type "list") hr.units0 hF I.ok.mod.kin J LT hn hs hf ?_
  refine wpAny_mono (wpAny_call (run_fnR (us := [.ref a, .ref b]) (vs := [.ref a, .ref b]) F hr hx I (.cons rfl (.cons rfl .nil)) q)) (fun w s' z => ?_) fun _ _ x => x
  obtain ⟨z', H', I', rz, qz⟩ := z
  exact cmpback rz ⟨z', H', I', rz, qz⟩
end
end HP

namespace HP
open PySem PySem.Spec PyProof.Rows L2 SlX
abbrev sPThings : Stmt := inClass (top 20) 2
abbrev sPMany : Stmt := inClass (top 20) 3
abbrev sPRule : Stmt := inClass (top 20) 4
abbrev sPWords : Stmt := inClass (top 20) 5
abbrev sEq : Stmt := inClass (top 20) 6
/-! ### properties of scenes, == of scenes -/
section
variable {X : Cx}
theorem eSl {K : PySem.W.Frag} {e : Expr} {ta : TE} {f : Str} {pos : Pos} (he : PE X e ta) (hb : attributeBase e f X.env (eval e X.env) = eval e X.env := by rfl) (hK : X.K = K := by rfl) : PE X (.Attribute e f pos) (SlX.tSl K ta f) := by subst hK; exact pe_sl he hb
/-- isinstance of data or of a slotted instance -/
def rIsi2 (K : PySem.W.Frag) (u : Value) : List V → Hp → VK → Prop := fun xs H Q => rIsi K xs H Q ∨ rIsiSl K u xs H Q
theorem kIsi2 {K : PySem.W.Frag} (u : Value) (hK : X.K = K := by rfl) : CallR X (.builtin "isinstance") (rIsi2 K u) := by
  subst hK
  intro pins s σ H xs us Q I r h
  rcases h with h | h
  · exact call_isi pins s σ H xs us Q I r h
  · exact call_isiSl u pins s σ H xs us Q I r h
/-- == of tuples, or of dicts -/
def rEq2 (K : PySem.W.Frag) : R2 := fun x y H Q => rEqD K x y H Q ∨ rEqDic K x y H Q
end
/-- a property of the class at C, its getter's promise sp -/
structure PropOk (P : Program) (w : World) (K : PySem.W.Frag) (mg : Str → Option Value) (base : Heap) (C : Addr) (f : Str) (n : Nat) (sp : Sp) : Prop where
  cls : SCls K C
  ex : ∃ p g, PySem.W.findIn K (.ref C) f = some (some (.ref p)) ∧ PySem.W.specialIn K (.ref p) "__get__" = some (some (.builtin "property.__get__")) ∧ PySem.W.takesIn K (.ref p) = some true ∧ (∃ rest, PySem.W.recIn K p "property" = some (.ref g :: rest)) ∧ FnR P w K mg base CX0 n g sp
theorem ePr {X : Cx} {C : Addr} {f : Str} {n j : Nat} {sp : Sp} {e : Expr} {ta : TE} {pos : Pos} (F : PropOk X.prog X.w X.K X.mg X.base C f n sp) (hr : Room j X.A) (hn : n + 1 ≤ j) (he : PE X e ta) (hb : attributeBase e f X.env (eval e X.env) = eval e X.env := by rfl) : PE X (.Attribute e f pos) (tPropSl C sp E0 ta) := by
  obtain ⟨p, g, h1, h2, h3, h4, h5⟩ := F.ex
  exact pe_propSl he F.cls h1 h2 h3 h4 h5 (hr.mono hn) (fun _ _ _ _ z => z.elim) hb
section
variable {P : Program} {w : World} {K : PySem.W.Frag} {mg : Str → Option Value} {base : Heap}
def spPThings (K : PySem.W.Frag) (C : Addr) : Sp := fun vs H Q _ => ∃ (a : Addr) (s : Sc), vs = [.ref a] ∧ SceneAt K C H a s ∧ ∀ n, SqT K H n (s.names.map V.str) → Q (.ref n) H
theorem scPThings : FnScope ["self"] ["self"] (defScope sPThings) := ⟨rfl, rfl, rfl, by decide +kernel, rfl, by decide +kernel, by decide +kernel⟩
theorem ok_pthings {C f : Addr} {fd : FuncData} (F : FunD K "things" "Scene.things" (defArgs sPThings) (defBody sPThings) (defScope sPThings) [] [] f fd) (S : SlC K C) : FnOk P w K mg base CX0 1 f fd ["self"] (spPThings K C) := by
  refine F.ok scPThings (fun vs H Q E h => ?_) (fun cdv A outer s0 H vs Q E hr h => ?_)
  · obtain ⟨a, s, rfl, _⟩ := h
    rfl
  · obtain ⟨a, s, rfl, ⟨dx, n, q, t, h1, h2, h3, h4⟩, k⟩ := h
    obtain ⟨pN, kN⟩ := S.names
    refine ⟨_, (pss_one (ps_ret (eSl (K := K) (pv 0)))), ?_⟩
    exact ⟨_, rfl, a, C, dx, pN, _, 0, .ref n, rfl, h1, S.cls, kN, rfl, k n h2⟩
def spPMany (K : PySem.W.Frag) (C : Addr) : Sp := fun vs H Q _ => ∃ (a : Addr) (s : Sc), vs = [.ref a] ∧ SceneAt K C H a s ∧ Q (.int s.many) H
theorem scPMany : FnScope ["self"] ["self"] (defScope sPMany) := ⟨rfl, rfl, rfl, by decide +kernel, rfl, by decide +kernel, by decide +kernel⟩
theorem ok_pmany {C f : Addr} {fd : FuncData} (F : FunD K "many" "Scene.many" (defArgs sPMany) (defBody sPMany) (defScope sPMany) [] [] f fd) (S : SlC K C) : FnOk P w K mg base CX0 1 f fd ["self"] (spPMany K C) := by
  refine F.ok scPMany (fun vs H Q E h => ?_) (fun cdv A outer s0 H vs Q E hr h => ?_)
  · obtain ⟨a, s, rfl, _⟩ := h
    rfl
  · obtain ⟨a, s, rfl, ⟨dx, n, q, t, h1, h2, h3, h4⟩, k⟩ := h
    obtain ⟨pS, kS⟩ := S.size
    refine ⟨_, (pss_one (ps_ret (eSl (K := K) (pv 0)))), ?_⟩
    exact ⟨_, rfl, a, C, dx, pS, _, 2, .int s.many, rfl, h1, S.cls, kS, rfl, k⟩
def spPWords (K : PySem.W.Frag) (C : Addr) : Sp := fun vs H Q _ => ∃ (a : Addr) (s : Sc), vs = [.ref a] ∧ SceneAt K C H a s ∧ ∀ n, SqT K H n (s.words.map V.str) → Q (.ref n) H
theorem scPWords : FnScope ["self"] ["self"] (defScope sPWords) := ⟨rfl, rfl, rfl, by decide +kernel, rfl, by decide +kernel, by decide +kernel⟩
theorem ok_pwords {C f : Addr} {fd : FuncData} (F : FunD K "words" "Scene.words" (defArgs sPWords) (defBody sPWords) (defScope sPWords) [] [] f fd) (S : SlC K C) : FnOk P w K mg base CX0 1 f fd ["self"] (spPWords K C) := by
  refine F.ok scPWords (fun vs H Q E h => ?_) (fun cdv A outer s0 H vs Q E hr h => ?_)
  · obtain ⟨a, s, rfl, _⟩ := h
    rfl
  · obtain ⟨a, s, rfl, ⟨dx, n, q, t, h1, h2, h3, h4⟩, k⟩ := h
    obtain ⟨pT, kT⟩ := S.told
    refine ⟨_, (pss_one (ps_ret (eSl (K := K) (pv 0)))), ?_⟩
    exact ⟨_, rfl, a, C, dx, pT, _, 3, .ref t, rfl, h1, S.cls, kT, rfl, k t h4⟩
def spPRule (K : PySem.W.Frag) (C : Addr) : Sp := fun vs H Q _ => ∃ (a : Addr) (s : Sc), vs = [.ref a] ∧ SceneAt K C H a s ∧ ∀ H' d, Same H H' → H d = none → H' d = some (.dK s.pol) → Q (.ref d) H'
theorem scPRule : FnScope ["self", "part"] ["self"] (defScope sPRule) := ⟨rfl, rfl, rfl, by decide +kernel, rfl, by decide +kernel, by decide +kernel⟩
theorem ok_prule {C f dP : Addr} {pa : Str → Addr} {fd : FuncData} (F : FunD K "rule" "Scene.rule" (defArgs sPRule) (defBody sPRule) (defScope sPRule) [] [] f fd) (Z : Pt P w K mg dP pa) (S : SlC K C) : FnOk P w K mg base CX0 1 f fd ["self"] (spPRule K C) := by
  refine F.ok scPRule (fun vs H Q E h => ?_) (fun cdv A outer s0 H vs Q E hr h => ?_)
  · obtain ⟨a, s, rfl, _⟩ := h
    rfl
  · obtain ⟨a, s, rfl, ⟨dx, n, q, t, h1, h2, h3, h4⟩, k⟩ := h
    obtain ⟨pP, kP⟩ := S.policy
    have hu : _ < cLine := hu_of hr
    refine ⟨_, (pss_one (ps_ret (pe_dc (own := [("part", 1)]) (g := gName 1) (by rfl) scPRule.nd (pi_keysW Z.wd (pe_glob (v := .ref dP) (by rfl) Z.gl rfl)) (blkOk_by (own := [("part", 1)]) (N := ["self", "part"]) (sc := defScope sPRule) (by decide +kernel)) (fun _ _ _ _ _ => (pg_name (i := 1) scPRule.nd rfl (Or.inl rfl))) (fun _ _ _ _ _ => pts_nil) (fun _ _ _ _ _ => (pv 1)) (fun _ _ _ _ _ => (pe_dget hu (eSl (K := K) (pv 0)) (pv 1) (fun _ _ => rfl)))))), ?_⟩
    refine ⟨rfl, fun D hD => ?_⟩
    refine dc_it (walkW (kvs := partNames.map fun p => (Sum.inr p, V.ref (pa p)))) (fun j H6 => Same H H6 ∧ H6 D = some (.dK ((partNames.take j).map fun p => (Sum.inr p, V.str (s.word p))))) ⟨same_new (Same.refl H) hD, by rw [upd_same]; rfl⟩ (fun _ _ _ _ => True.intro) (fun j y H6 H7 hj p q2 => ?_) (fun H6 p => ?_)
    · obtain ⟨rfl, kk, v, hk, rfl⟩ := q2
      rw [List.getElem?_map] at hk
      obtain ⟨pp, hpi, e⟩ : ∃ p, partNames[j]? = some p ∧ (Sum.inr p, V.ref (pa p)) = (kk, v) := by
        cases q : partNames[j]? with
        | none => rw [q] at hk; cases hk
        | some p => rw [q] at hk; exact ⟨p, rfl, Option.some.inj hk⟩
      cases e
      have hpm := List.mem_of_getElem? hpi
      have eV := valV_map (fun q => V.str (s.word q)) pp partNames
      rw [if_pos hpm] at eV
      refine ⟨rfl, ?_⟩
      refine lc_yes ?_
      refine ⟨_, rfl, _, rfl, a, C, dx, pP, _, 1, .ref q, rfl, Slt.same p.1 h1, S.cls, kP, rfl, _, rfl, q, .str (s.word pp), rfl, (by rw [← eV]; exact DGet.k (k := Sum.inr pp) (p.1 _ _ h3)), ?_⟩
      refine ⟨_, Sum.inr pp, rfl, p.2, ?_, same_mut p.1 hD, ?_⟩
      · rw [List.length_map, List.length_take]
        exact Nat.lt_of_le_of_lt (Nat.min_le_right _ _) (by decide)
      · rw [upd_same, List.take_add_one, hpi]
        have nk : valV ((partNames.take j).map fun p => ((Sum.inr p : Key), V.str (s.word p))) (Sum.inr pp) = none := by rw [valV_map (fun q => V.str (s.word q)), if_neg (not_in_take nodup_parts hpi)]
        rw [putK_new _ nk, List.map_append]
        rfl
    · have e7 : (partNames.take (partNames.map fun p => ((Sum.inr p : Key), V.ref (pa p))).length) = partNames := by rw [List.length_map, List.take_length]
      have hD6 : H6 D = some (.dK s.pol) := by
        have z := p.2
        rw [e7] at z
        exact z
      exact k H6 D p.1 hD hD6
end
end HP

namespace HP
open PySem PySem.Spec PyProof.Rows L2 SlX
/-! ### plain facts of what is drawn -/
theorem plusS_new {xs : List Str} {x : Str} (h : x ∉ xs) : plusS xs x = xs ++ [x] := by
  unfold plusS
  rw [if_neg]
  intro q
  obtain ⟨y, hy, e⟩ := List.any_eq_true.mp q
  exact h (of_decide_eq_true e ▸ hy)
theorem setS_from : ∀ (xs acc : List Str), (acc ++ xs).Nodup → xs.foldl plusS acc = acc ++ xs
  | [], acc, _ => by rw [List.append_nil]; rfl
  | x :: xs, acc, h => by
    have hx : x ∉ acc := fun q => by
      have := (List.nodup_append.mp h).2.2 x q x List.mem_cons_self
      exact this rfl
    rw [List.foldl_cons, plusS_new hx]
    have e : acc ++ [x] ++ xs = acc ++ x :: xs := by rw [List.append_assoc]; rfl
    rw [setS_from xs (acc ++ [x]) (by rw [e]; exact h), e]
theorem setS_nodup {xs : List Str} (h : xs.Nodup) : setS xs = xs := setS_from xs [] h
theorem words_good {ws : List Str} (h1 : ∀ x ∈ ws, x ∈ allWords) (h2 : ws.Nodup) (h3 : ws.Pairwise leS) : isWordsD (.tuple (ws.map .str)) = true := by
  show ((ws.map PyData.str).all isWordD && ascS ((ws.map PyData.str).map strOf)) = true
  rw [map_strOf, Bool.and_eq_true]
  refine ⟨?_, ?_⟩
  · rw [List.all_map, List.all_eq_true]
    exact fun x hx => decide_eq_true (h1 x hx)
  · unfold ascS
    rw [setS_nodup h2, srtS_self h3]
    exact decide_eq_true rfl
theorem drawn_good {names : List Str} {many : Int} {f : Str → Str} {words : List Str} {w : Int} (d : Drawn4 names many f words 3 w) (hw : w ≤ 9) : GoodSc ⟨names, many, f, words⟩ := by
  refine ⟨?_, d.m1, d.m2, d.rl, words_good d.ws d.wn d.wp, ?_⟩
  · obtain ⟨k, h1, h2, rfl⟩ := d.nm
    have h3 : k = 2 ∨ k = 3 ∨ k = 4 := by omega
    rcases h3 with rfl | rfl | rfl
    · show isThingsL ((fourNames.take 2).map .str) = true
      decide +kernel
    · show isThingsL ((fourNames.take 3).map .str) = true
      decide +kernel
    · show isThingsL ((fourNames.take 4).map .str) = true
      decide +kernel
  · have := d.wl
    show words.length < 64
    omega
theorem good_none {s : Sc} (g : GoodSc s) : sceneFault (.tuple (s.names.map .str)) (.int s.many) (some (dicD fun q => .str (s.word q))) (.tuple (s.words.map .str)) = none := by
  unfold sceneFault
  rw [show isThingsD (.tuple (s.names.map .str)) = true from g.nm, g.many, g.ws]
  have e : faultOf (some (dicD fun q => .str (s.word q))) = none := by
    show faultD _ = none
    rw [faultD_dic]
    refine List.find?_eq_none.mpr fun p hp => ?_
    rw [show goodPart p (some (.str (s.word p))) = true from decide_eq_true (g.rl p hp)]
    decide
  rw [e]
  rfl
end HP

namespace HP
open PySem PySem.Spec PyProof.Rows L2 SlX
/-! ### == of scenes -/
def scEq (s t : Sc) : Bool := decide (s.names = t.names) && (decide (s.many = t.many) && (partNames.all (fun p => decide (s.word p = t.word p)) && decide (s.words = t.words)))
def polDs (s : Sc) : List (Key × PyData) := dicD fun p => .str (s.word p)
theorem dicA_pol {K : PySem.W.Frag} {H : Hp} {q : Addr} (s : Sc) (h : H q = some (.dK s.pol)) : DicA K H q (polDs s) := ⟨_, h, dicP (g := fun p => V.str (s.word p)) (d := fun p => .str (s.word p)) fun p _ => .str _⟩
theorem valDd_dic {d : Str → PyData} {p : Str} (hp : p ∈ partNames) : valDd (dicD d) (Sum.inr p) = some (d p) := valD_dic hp
theorem eqv_str (x y : Str) : PyData.eqv (.str x) (.str y) = decide (x = y) := by
  have := eqvAll_strs [x] [y]
  rw [List.map_cons, List.map_nil, List.map_cons, List.map_nil] at this
  have e : PyData.eqvAll [.str x] [.str y] = (PyData.eqv (.str x) (.str y) && true) := rfl
  rw [e, Bool.and_true] at this
  rw [this]
  exact decide_eq_decide.mpr ⟨fun h => List.head_eq_of_cons_eq h, fun h => by rw [h]⟩
theorem dicEqv_pol (s t : Sc) : dicEqv (polDs s) (polDs t) = partNames.all (fun p => decide (s.word p = t.word p)) := by
  unfold dicEqv polDs
  have e : (dicD fun p => PyData.str (s.word p)).length = (dicD fun p => PyData.str (t.word p)).length := rfl
  rw [e, beq_self_eq_true, Bool.true_and]
  unfold dicD
  rw [List.all_map]
  have all : ∀ l : List Str, (∀ p ∈ l, p ∈ partNames) → l.all ((fun kv : Key × PyData => match valDd (dicD fun p => PyData.str (t.word p)) kv.1 with
      | some e => PyData.eqv kv.2 e
      | none => false) ∘ fun q => (Sum.inr q, PyData.str (s.word q))) = l.all fun p => decide (s.word p = t.word p) := by
    intro l
    induction l with
    | nil => intro _; rfl
    | cons x l ih =>
      intro h
      rw [List.all_cons, List.all_cons, ih fun p hp => h p (List.mem_cons_of_mem _ hp)]
      have : ((fun kv : Key × PyData => match valDd (dicD fun p => PyData.str (t.word p)) kv.1 with
        | some e => PyData.eqv kv.2 e
        | none => false) ∘ fun q => (Sum.inr q, PyData.str (s.word q))) x = decide (s.word x = t.word x) := by
        show (match valDd (dicD fun p => PyData.str (t.word p)) (Sum.inr x) with
          | some e => PyData.eqv (.str (s.word x)) e
          | none => false) = _
        rw [valDd_dic (h x List.mem_cons_self)]
        exact eqv_str _ _
      rw [this]
  exact all partNames fun _ h => h
theorem ok_words' : ∀ p ∈ partNames, ∀ x ∈ partWords p, PyData.strOk x = true := by decide +kernel
theorem GoodSc.okN {s : Sc} (g : GoodSc s) : okS s.names := fun x hx => by
  have h := g.nm
  unfold isThingsL at h
  rw [Bool.and_eq_true, Bool.and_eq_true, Bool.and_eq_true] at h
  have h2 := List.all_eq_true.mp h.2.2.1 (.str x) (List.mem_map.mpr ⟨x, hx, rfl⟩)
  have h3 : (decide (1 ≤ (x.length : Int)) && (decide ((x.length : Int) ≤ 8) && x.cps.toList.all isLet)) = true := h2
  rw [Bool.and_eq_true, Bool.and_eq_true] at h3
  have h4 := List.all_eq_true.mp h3.2.2
  have az1 : ∀ d ∈ az.cps.toList, d < 0x110000 := by decide +kernel
  show x.cps.all (· < 0x110000) = true
  rw [← Array.all_toList]
  exact List.all_eq_true.mpr fun c hc => decide_eq_true (az1 c (of_decide_eq_true (h4 c hc)))
theorem GoodSc.okW {s : Sc} (g : GoodSc s) : okS s.words ∧ ∀ x ∈ s.words, x ∈ allWords := by
  have h := g.ws
  have z : ((s.words.map PyData.str).all isWordD && ascS ((s.words.map PyData.str).map strOf)) = true := h
  rw [Bool.and_eq_true] at z
  have hm : ∀ x ∈ s.words, x ∈ allWords := fun x hx => of_decide_eq_true (List.all_eq_true.mp z.1 (.str x) (List.mem_map.mpr ⟨x, hx, rfl⟩))
  exact ⟨fun x hx => ok_allWords x (hm x hx), hm⟩
theorem shapedT_strs {xs : List Str} (h : okS xs) : SeqAt.shaped (.tuple (xs.map .str)) = true := shaped_strs h
section
variable {P : Program} {w : World} {K : PySem.W.Frag} {mg : Str → Option Value} {base : Heap}
theorem units65 {k : Nat} {A : Around} (r : Room k A) : A.units + 65 < cLine := by have := r.un; omega
/-- what == asks of the class -/
structure EqC (K : PySem.W.Frag) (C : Addr) : Prop where
  isi : SIsi K C
  kit : PySem.W.kitOne K (.ref C) (.ref C) = some true
  kitL : PySem.W.kitOne K (.type "list") (.ref C) = some false
  first : PySem.W.notFirst K C (.ref C) = true
  firstL : PySem.W.notFirst K C (.type "list") = true
def spEqS (K : PySem.W.Frag) (C : Addr) : Sp := fun vs H Q _ => ∃ (a b : Addr) (s : Sc), vs = [.ref a, .ref b] ∧ SceneAt K C H a s ∧ GoodSc s ∧ ((∃ t, SceneAt K C H b t ∧ GoodSc t ∧ Q (.bl (scEq s t)) H) ∨ ∃ ys, SqL K H b ys ∧ Q (.bl false) H)
theorem scEqS : FnScope ["self", "other"] ["self", "other"] (defScope sEq) := ⟨rfl, rfl, rfl, by decide +kernel, rfl, by decide +kernel, by decide +kernel⟩
theorem ok_eqS {C f : Addr} {fd : FuncData} (F : FunD K "__eq__" "Scene.__eq__" (defArgs sEq) (defBody sEq) (defScope sEq) [] [] f fd) (T : Fr mg) (S : SlC K C) (gS : mg "Scene" = some (.ref C)) (EC : EqC K C) : FnOk P w K mg base CX0 1 f fd ["self", "other"] (spEqS K C) := by
  refine F.ok scEqS (fun vs H Q E h => ?_) (fun cdv A outer s0 H vs Q E hr h => ?_)
  · obtain ⟨a, b, s, rfl, _⟩ := h
    rfl
  · obtain ⟨a, b, s, rfl, ⟨dx, n, q, t, h1, h2, h3, h4⟩, gs, hb⟩ := h
    obtain ⟨pN, kN⟩ := S.names
    obtain ⟨pS, kS⟩ := S.size
    obtain ⟨pP, kP⟩ := S.policy
    obtain ⟨pT, kT⟩ := S.told
    have hu := hr.units
    refine ⟨_, (pss_cons (ps_if (PW.pt (pw_or (pt_not (pt_val (pe_callB (kIsi2 (K := K) (.ref C)) (by rfl) (T.fr "isinstance" (by decide +kernel)) (by decide +kernel) (pa_cons (pv 1) (pa_cons (pe_glob (v := .ref C) (by rfl) gS rfl) pa_nil))))) (pw_or (pt_cmpR (oNeD (K := K) hr.units) (eSl (K := K) (pv 0)) (eSl (K := K) (pv 1)) (nomark _)) (pw_or1 (pt_cmpR op_ne (eSl (K := K) (pv 0)) (eSl (K := K) (pv 1)) (nomark _)))))) (pss_one (ps_ret pe_bl)) pss_nil)
      (pss_one (ps_ret (pe_and (pe_cmpR (oEqDic (K := K) (units65 hr)) (eSl (K := K) (pv 0)) (eSl (K := K) (pv 1)) (nomark _)) (pe_one (pe_cmpR (oEqD (K := K) hr.units) (eSl (K := K) (pv 0)) (eSl (K := K) (pv 1)) (nomark _))))))), ?_⟩
    rcases hb with ⟨u, ⟨dy, n2, q2, t2, g1, g2, g3, g4⟩, gu, k⟩ | ⟨ys, hy, k⟩
    · refine ⟨_, rfl, .inr ⟨b, C, dy, _, .ref C, true, rfl, rfl, fun w hw => hw, g1, S.cls, EC.isi, EC.kit, _, rfl, ?_⟩⟩
      refine iteF ?_
      unfold scEq at k
      refine ⟨_, rfl, a, C, dx, pN, _, 0, .ref n, rfl, h1, S.cls, kN, rfl, _, rfl, b, C, dy, pN, _, 0, .ref n2, rfl, g1, S.cls, kN, rfl, ?_⟩
      refine ⟨_, _, .tup h2 (dpAll_strs _), .tup g2 (dpAll_strs _), shapedT_strs gs.okN, shapedT_strs gu.okN, _, rfl, ?_⟩
      have e1 : PyData.eqv (.tuple (s.names.map .str)) (.tuple (u.names.map .str)) = decide (s.names = u.names) := eqvAll_strs _ _
      rw [e1]
      by_cases hn : s.names = u.names
      · rw [decide_eq_true hn] at k ⊢
        refine iteF ?_
        refine ⟨_, rfl, a, C, dx, pS, _, 2, .int s.many, rfl, h1, S.cls, kS, rfl, _, rfl, b, C, dy, pS, _, 2, .int u.many, rfl, g1, S.cls, kS, rfl, rfl, _, rfl, ?_⟩
        have e2 : decide (V.int s.many = V.int u.many) = decide (s.many = u.many) := decide_eq_decide.mpr ⟨V.int.inj, fun e => by rw [e]⟩
        rw [e2]
        by_cases hm : s.many = u.many
        · rw [decide_eq_true hm] at k ⊢
          refine iteF ?_
          refine ⟨_, rfl, a, C, dx, pP, _, 1, .ref q, rfl, h1, S.cls, kP, rfl, _, rfl, b, C, dy, pP, _, 1, .ref q2, rfl, g1, S.cls, kP, rfl, ?_⟩
          have shp : ∀ v : Sc, GoodSc v → ∀ kd ∈ polDs v, SeqAt.shaped kd.2 = true := fun v gv kd hkd => by
            obtain ⟨p, hp, rfl⟩ := List.mem_map.mp hkd
            have := shaped_strs (xs := [v.word p]) fun x hx => by rw [List.mem_singleton.mp hx]; exact ok_words' p hp _ (gv.rl p hp)
            have c1 := SeqAt.canLay_of_shaped this
            have c2 : (PyData.str (v.word p)).canLay0 = true := by
              have c3 : ((PyData.str (v.word p)).canLay0 && true) = true := c1
              rw [Bool.and_true] at c3
              exact c3
            show (PyData.canLay0 (.str (v.word p)) && decide (PyData.depth (.str (v.word p)) ≤ 64)) = true
            rw [c2]
            rfl
          refine ⟨q, q2, polDs s, polDs u, rfl, rfl, dicA_pol s h3, dicA_pol u g3, shp s gs, shp u gu, _, rfl, ?_⟩
          rw [dicEqv_pol]
          cases hp : partNames.all (fun p => decide (s.word p = u.word p)) with
          | false =>
            rw [hp] at k
            exact iteF k
          | true =>
            rw [hp] at k
            refine iteT ?_
            refine ⟨_, rfl, a, C, dx, pT, _, 3, .ref t, rfl, h1, S.cls, kT, rfl, _, rfl, b, C, dy, pT, _, 3, .ref t2, rfl, g1, S.cls, kT, rfl, ?_⟩
            refine ⟨_, _, .tup h4 (dpAll_strs _), .tup g4 (dpAll_strs _), shapedT_strs gs.okW.1, shapedT_strs gu.okW.1, ?_⟩
            have e3 : PyData.eqv (.tuple (s.words.map .str)) (.tuple (u.words.map .str)) = decide (s.words = u.words) := eqvAll_strs _ _
            rw [e3]
            exact k
        · rw [decide_eq_false hm] at k ⊢
          refine iteT ?_
          exact k
      · rw [decide_eq_false hn] at k ⊢
        refine iteT ?_
        refine iteT ?_
        exact k
    · refine ⟨_, rfl, .inl ⟨.ref b, .ref C, _, _, false, rfl, .own C, tyL hy, EC.kitL, _, rfl, ?_⟩⟩
      refine iteT ?_
      refine iteT ?_
      exact k
end
end HP

namespace HP
open PySem PySem.Spec PyProof.Rows L2 SlX
abbrev sWrite : Stmt := top 23
/-! ### scenes that are made -/
theorem valD_map (d : Str → PyData) (p : Str) : ∀ l : List Str, p ∈ l → valD (l.map fun q => ((Sum.inr q : Key), d q)) (Sum.inr p) = some (d p)
  | [], h => by cases h
  | z :: l, h => by
    unfold valD
    rw [List.map_cons, List.find?_cons]
    by_cases hz : z = p
    · subst hz
      rw [show decide ((Sum.inr z : Key) = Sum.inr z) = true from decide_eq_true rfl]
      rfl
    · rw [show decide ((Sum.inr z : Key) = Sum.inr p) = false from decide_eq_false fun q => hz (Sum.inr.inj q)]
      rcases List.mem_cons.mp h with h | h
      · exact absurd h.symm hz
      · exact valD_map d p l h
theorem txts_map (d : Str → PyData) (l : List Str) : ((l.map fun q => ((Sum.inr q : Key), d q)).map (·.1)).map txt = l := by
  rw [List.map_map, List.map_map]
  exact List.map_id _
theorem faultD_perm {ps : List Str} (hp : ps.Perm partNames) {f : Str → Str} (hf : ∀ p ∈ partNames, f p ∈ partWords p) : faultD (ps.map fun p => ((Sum.inr p : Key), PyData.str (f p))) = none := by
  unfold faultD
  have h1 : ((ps.map fun p => ((Sum.inr p : Key), PyData.str (f p))).map (·.1)).all isTxt = true := by
    rw [List.map_map, List.all_map]
    exact List.all_eq_true.mpr fun _ _ => rfl
  have h2 : srtS ps = partNames := by
    have e := srtS_only (xs := ps) (ys := partNames) hp.symm (sortedS_iff.mpr sorted_parts)
    exact e.symm
  rw [if_pos h1, txts_map (fun p => .str (f p)), if_pos h2]
  refine List.find?_eq_none.mpr fun p hm => ?_
  rw [valD_map (fun p => .str (f p)) p ps (hp.mem_iff.mpr hm)]
  show ¬ (!decide (f p ∈ partWords p)) = true
  rw [decide_eq_true (hf p hm)]
  decide
section
variable {P : Program} {w : World} {K : PySem.W.Frag} {mg : Str → Option Value} {base : Heap}
/-- Scene(..) of what makes the scene s -/
theorem scene_made {C x dx n r t : Addr} {c : Cls4} {H : Hp} {Q : VK} {E : XK} {s : Sc} {ps : List Str} (g : GoodSc s) (nx : H x = none) (ndx : H dx = none) (ne : dx ≠ x) (hn : SqT K H n (s.names.map V.str)) (hp : ps.Perm partNames) (hr : H r = some (.dK (ps.map fun p => (Sum.inr p, V.str (s.word p)))))
    (ht : SqT K H t (s.words.map V.str)) (kQ : ∀ H', Same H H' → SceneAt K C H' x s → Q (.ref x) H') : spInit K C c [.ref x, .ref n, .int s.many, .ref r, .ref t] (upd (upd H dx (.own x)) x (.ins C dx [])) (fun v H2 => v = .non ∧ Q (.ref x) H2) E := by
  have pr : Paired (fun (p : Key × V) (q : Key × PyData) => p.1 = q.1 ∧ Dp K H p.2 q.2) (ps.map fun p => (Sum.inr p, V.str (s.word p))) (ps.map fun p => (Sum.inr p, PyData.str (s.word p))) := by
    clear hr hp
    induction ps with
    | nil => exact .nil
    | cons z l ih => exact .cons ⟨rfl, .str _⟩ ih
  have ar : ScArgs K H (.ref n) (.int s.many) (.ref r) (.ref t) (.tuple (s.names.map .str)) (.int s.many) (some (ps.map fun p => (Sum.inr p, PyData.str (s.word p)))) (.tuple (s.words.map .str)) := by
    refine ⟨.tup hn (dpAll_strs _), g.small, .int _, .dic ⟨_, hr, pr⟩, fun kds e => ?_, .tup ht (dpAll_strs _), fun ds e => ?_⟩
    · cases e
      refine ⟨by rw [List.length_map, hp.length_eq]; decide, ?_⟩
      rw [txts_map (fun p => .str (s.word p))]
      exact fun x hx => ok_partNames x (hp.mem_iff.mp hx)
    · cases e
      rw [List.length_map]
      exact g.wl
  have nof : sceneFault (.tuple (s.names.map .str)) (.int s.many) (some (ps.map fun p => (Sum.inr p, PyData.str (s.word p)))) (.tuple (s.words.map .str)) = none := by
    unfold sceneFault
    rw [show isThingsD (.tuple (s.names.map .str)) = true from g.nm, g.many, g.ws]
    have e : faultOf (some (ps.map fun p => ((Sum.inr p : Key), PyData.str (s.word p)))) = none := faultD_perm hp g.rl
    rw [e]
    rfl
  refine scene_use nx ndx ne ar (fun _ H2 s2 st => kQ H2 s2 (st.congr (map_strOf _) rfl (map_strOf _) fun p hm => ?_)) (fun f h => by rw [nof] at h; cases h)
  show strOf ((valD (ps.map fun p => ((Sum.inr p : Key), PyData.str (s.word p))) (Sum.inr p)).getD .none) = s.word p
  rw [valD_map (fun p => .str (s.word p)) p ps (hp.mem_iff.mpr hm)]
  rfl
/-! ### without a word -/
def outSc (s : Sc) (x : Str) : Sc := { s with words := s.words.filter fun y => !decide (y = x) }
theorem good_out {s : Sc} (g : GoodSc s) (nd : s.words.Nodup) (pw : s.words.Pairwise leS) (x : Str) : GoodSc (outSc s x) :=
  ⟨g.nm, g.m1, g.m2, g.rl, words_good (fun y hy => g.okW.2 y (List.mem_filter.mp hy).1) (nd.filter _) (pw.filter _), Nat.lt_of_le_of_lt (List.length_filter_le ..) g.wl⟩
def spOut (K : PySem.W.Frag) (C : Addr) : Sp := fun vs H Q _ => ∃ (a : Addr) (x : Str) (s : Sc), vs = [.ref a, .str x] ∧ SceneAt K C H a s ∧ GoodSc s ∧ s.words.Nodup ∧ s.words.Pairwise leS ∧ x ∈ s.words ∧ ∀ H' b, Same H H' → H b = none → SceneAt K C H' b (outSc s x) → Q (.ref b) H'
theorem scWithout : FnScope ["self", "word", "other"] ["self", "word"] (defScope sWithout) := ⟨rfl, rfl, rfl, by decide +kernel, rfl, by decide +kernel, by decide +kernel⟩
theorem ok_out {C fT cw : Addr} {fd : FuncData} {c : Cls4} (F : FunD K "without" "Scene.without" (defArgs sWithout) (defBody sWithout) (defScope sWithout) [] [] fT fd) (T : Fr mg) (S : SlC K C)
    (XW : Exc1 P w K mg base "UnknownWord" cw "word" (spInit1 cw "word")) (M : ScMk P w K mg base C c) : FnOk P w K mg base (L2.CX P w) 6 fT fd ["self", "word"] (spOut K C) := by
  refine F.ok scWithout (fun vs H Q E h => ?_) (fun cdv A outer s0 H vs Q E hr h => ?_)
  · obtain ⟨a, x, s, rfl, _⟩ := h
    rfl
  · obtain ⟨a, x, s, rfl, hs, gs, nd, pw, hm, k⟩ := h
    obtain ⟨pN, kN⟩ := S.names
    obtain ⟨pS, kS⟩ := S.size
    obtain ⟨pP, kP⟩ := S.policy
    obtain ⟨pT, kT⟩ := S.told
    refine ⟨_, (pss_cons (ps_if (PW.pt (pw_or (pt_not (pt_val (pe_callB (kIsi (K := K)) (by rfl) (T.fr "isinstance" (by decide +kernel)) (by decide +kernel) (pa_cons (pv 1) (pa_cons (pe_bltn (v := .ty "str") (u := .type "str") (by rfl) (T.fr "str" (by decide +kernel)) (by decide +kernel) rfl) pa_nil))))) (pw_or1 (pt_cmpR (oNotIn (K := K)) (pv 1) (pe_sl (pv 0)) (by rfl))))) (pss_one (ps_raise1 XW rfl hr (by decide) (takes_of rfl rfl rfl rfl) (pv 1) monoV)) pss_nil)
      (pss_one (ps_ret (peScene (K := K) M hr (by decide) (passes_call (takes_of rfl rfl rfl rfl) (fun _ _ _ _ h => h)) (pa_cons (pe_sl (pv 0)) (pa_cons (pe_sl (pv 0)) (pa_cons (pe_sl (pv 0)) (pa_cons (pe_callTy (kTup (K := K)) (by rfl) (T.fr "tuple" (by decide +kernel)) (by decide +kernel) (pa_cons (pe_lc (own := [("other", 2)]) (g := gName 2) (by rfl) scWithout.nd (iT (K := K) (pe_sl (pv 0))) (blkOk_by (own := [("other", 2)]) (N := ["self", "word", "other"]) (sc := defScope sWithout) (by decide +kernel)) (fun _ _ _ _ _ => (pg_name (i := 2) scWithout.nd rfl (Or.inl rfl))) (fun _ _ _ _ _ => (pts_one (pt_cmpR op_ne (pv 2) (pv 1) (nomark _)))) (fun _ _ _ _ _ => (pv 2))) pa_nil)) pa_nil)))))))), ?_⟩
    obtain ⟨dx, n, q, t, h1, h2, h3, h4⟩ := id hs
    refine ⟨_, rfl, _, _, _, _, _, rfl, .ty "str", .base (.str x), kit_ty (r := true) (by decide +kernel), _, rfl, ?_⟩
    refine iteF ?_
    refine ⟨_, rfl, _, rfl, a, C, dx, pT, _, 3, .ref t, rfl, h1, S.cls, kT, rfl, ?_⟩
    refine ⟨t, _, rfl, .inr h4, rfl, flat_strs _, _, rfl, ?_⟩
    rw [inV_strs, decide_eq_true hm]
    refine iteF ?_
    refine ⟨_, rfl, a, C, dx, pN, _, 0, .ref n, rfl, h1, S.cls, kN, rfl, ?_⟩
    refine ⟨_, rfl, a, C, dx, pS, _, 2, .int s.many, rfl, h1, S.cls, kS, rfl, ?_⟩
    refine ⟨_, rfl, a, C, dx, pP, _, 1, .ref q, rfl, h1, S.cls, kP, rfl, ?_⟩
    refine ⟨_, rfl, a, C, dx, pT, _, 3, .ref t, rfl, h1, S.cls, kT, rfl, t, rfl, ⟨_, h4⟩, fun D hD => ?_⟩
    refine lc_it walk_tup (Cv H D fun i => ((s.words.take i).filter fun y => !decide (y = x)).map V.str) (cv0 hD rfl) (fun i H2 _ p => SqT.same p.1 h4) (fun i v H2 H3 hi p q => ?_) (fun H2 p => ?_)
    · obtain ⟨rfl, hy⟩ := q
      rw [List.getElem?_map] at hy
      obtain ⟨z, hz, rfl⟩ : ∃ z, s.words[i]? = some z ∧ V.str z = v := by
        cases q : s.words[i]? with
        | none => rw [q] at hy; cases hy
        | some z => rw [q] at hy; exact ⟨z, rfl, Option.some.inj hy⟩
      refine ⟨rfl, ?_⟩
      refine ⟨_, rfl, _, rfl, rfl, _, rfl, ?_⟩
      rw [str_decide]
      have et : s.words.take (i + 1) = s.words.take i ++ [z] := by rw [List.take_add_one, hz]; rfl
      have hl := gs.wl
      cases q : !decide (z = x) with
      | true =>
        refine iteT ?_
        refine ⟨_, rfl, cv_yes hD p.1 p.2 ?_ ?_⟩
        · rw [List.length_map]
          refine Nat.le_trans (List.length_filter_le ..) ?_
          rw [List.length_take]
          omega
        · rw [et, List.filter_append, List.map_append]
          simp only [List.filter_cons, q, List.filter_nil]
          rfl
      | false =>
        refine iteF ?_
        refine cv_no p.1 p.2 ?_
        rw [et, List.filter_append, List.map_append]
        simp only [List.filter_cons, q, List.filter_nil]
        exact List.append_nil _
    · have e : H2 D = some (.lst ((outSc s x).words.map V.str)) := by
        have z := p.2
        rw [List.length_map] at z
        dsimp only at z
        rw [List.take_length] at z
        exact z
      refine ⟨D, _, rfl, .inl ⟨SqL.of e, fun tp htp => ?_⟩⟩
      have s3 : Same H (upd H2 tp (.tup ((outSc s x).words.map V.str))) := same_new p.1 htp
      have ht3 : upd H2 tp (.tup ((outSc s x).words.map V.str)) tp = some (.tup ((outSc s x).words.map V.str)) := upd_same
      intro b dx2 nx ndx ne
      generalize upd H2 tp (.tup ((outSc s x).words.map V.str)) = H3 at s3 ht3 nx ndx ⊢
      exact scene_made (s := outSc s x) (ps := partNames) (good_out gs nd pw x) nx ndx ne (SqT.same s3 h2) (List.Perm.refl _) (s3 _ _ h3) (SqT.of ht3) fun H4 s4 st => k H4 b (s3.trans s4) (s3.free nx) st
/-! ### write_scene -/
def rowsSc (s : Sc) : List Str := (rowsOf s.names s.many s.word s.words).map joinW
def textSc (s : Sc) : Str := Txt.join "\n" (rowsSc s)
def spWrite (K : PySem.W.Frag) (C : Addr) : Sp := fun vs H Q _ => ∃ (a : Addr) (s : Sc), vs = [.ref a] ∧ SceneAt K C H a s ∧ GoodSc s ∧ s.words.length ≤ 9 ∧ ∀ H', Same H H' → Q (.str (textSc s)) H'
theorem scWrite : FnScope ["scene", "found", "part"] ["scene"] (defScope sWrite) := ⟨rfl, rfl, rfl, by decide +kernel, rfl, by decide +kernel, by decide +kernel⟩
theorem ok_write {C dP : Addr} {pa : Str → Addr} (D : Dat K mg "write_scene" sWrite) (T : Fr mg) (Z : Pt P w K mg dP pa) (S : SlC K C) : Fn P w K mg base CX0 1 "write_scene" (spWrite K C) := by
  refine Fn.of0 D scWrite (fun _ _ _ _ _ _ us hl => match us, hl with | [_], _ => rfl) (fun vs H Q E h => ?_) (fun f cdv A outer s0 H vs Q E hr h => ?_)
  · obtain ⟨a, s, rfl, _⟩ := h
    rfl
  · obtain ⟨a, s, rfl, ⟨dx, n, q, t, h1, h2, h3, h4⟩, gs, w9, k⟩ := h
    obtain ⟨pN, kN⟩ := S.names
    obtain ⟨pS, kS⟩ := S.size
    obtain ⟨pP, kP⟩ := S.policy
    obtain ⟨pT, kT⟩ := S.told
    have hu : _ < cLine := hu_of hr
    refine ⟨_, (pss_cons (ps_set (i := 1) scWrite.nd rfl (Or.inl rfl) (pe_lst (pa_cons (pe_join pe_str (pe_lst (pa_cons pe_str (StX.pa_star (eSl (K := K) (pv 0)) pa_nil)))) (pa_cons (eJoined (.cons pe_str (.cons (pe_fmt (eSl (K := K) (pv 0))) .nil))) (pa_cons (pe_join pe_str (pe_lst (pa_cons pe_str (StX.pa_star (eSl (K := K) (pv 0)) pa_nil)))) pa_nil)))))
      (pss_one (ps_ret (pe_join pe_str (pe_lst (StX.pa_star (pv 1) (StX.pa_star (pe_lc (own := [("part", 2)]) (g := gName 2) (by rfl) scWrite.nd (pi_keysW Z.wd (pe_glob (v := .ref dP) (by rfl) Z.gl rfl)) (blkOk_by (own := [("part", 2)]) (N := ["scene", "found", "part"]) (sc := defScope sWrite) (by decide +kernel)) (fun _ _ _ _ _ => (pg_name (i := 2) scWrite.nd rfl (Or.inl rfl))) (fun _ _ _ _ _ => pts_nil) (fun _ _ _ _ _ => (eJoined (.cons (pe_fmt (pv 2)) (.cons pe_str (.cons (pe_fmt (pe_dget hu (eSl (K := K) (pv 0)) (pv 2) (fun _ _ => rfl))) .nil)))))) pa_nil))))))), ?_⟩
    have s1000 : ∀ z : Nat, z ≤ 1000 → z ≤ sizeLine := fun z h => Nat.le_trans h (by decide)
    have nl8 : ∀ x ∈ s.names, x.length ≤ 8 := fun x hx => by
      have h := gs.nm
      unfold isThingsL at h
      rw [Bool.and_eq_true, Bool.and_eq_true, Bool.and_eq_true] at h
      have h2 := List.all_eq_true.mp h.2.2.1 (.str x) (List.mem_map.mpr ⟨x, hx, rfl⟩)
      have h3 : (decide (1 ≤ (x.length : Int)) && (decide ((x.length : Int) ≤ 8) && x.cps.toList.all isLet)) = true := h2
      rw [Bool.and_eq_true, Bool.and_eq_true] at h3
      have := of_decide_eq_true h3.2.1
      omega
    have nl4 : s.names.length ≤ 4 ∧ s.names ≠ [] := by
      have h := gs.nm
      unfold isThingsL at h
      rw [Bool.and_eq_true, Bool.and_eq_true] at h
      have h1 := of_decide_eq_true h.1
      have h2 := of_decide_eq_true h.2.1
      rw [List.length_map] at h1 h2
      refine ⟨by omega, fun e => ?_⟩
      rw [e] at h1
      exact absurd h1 (by decide)
    have wl6 : ∀ x ∈ s.words, x.length ≤ 6 := fun x hx => word_len x (gs.okW.2 x hx)
    have e1 : ((" " : Str)).length = 1 := rfl
    -- ' '.join(['things', *scene.names])
    refine ⟨⟨" ", rfl⟩, _, rfl, a, C, dx, pN, _, 0, .ref n, rfl, h1, S.cls, kN, rfl, n, _, rfl, .inl h2, ?_, fun l1 hl1 => ?_⟩
    · rw [List.append_nil, List.length_cons, List.length_map]
      exact s1000 _ (by omega)
    have sA : Same H (upd H l1 (.lst (V.str "things" :: (s.names.map V.str ++ [])))) := same_new (Same.refl H) hl1
    have hlA : upd H l1 (.lst (V.str "things" :: (s.names.map V.str ++ []))) l1 = some (.lst ((("things" : Str) :: s.names).map V.str)) := by rw [upd_same, List.append_nil]; rfl
    generalize upd H l1 (.lst (V.str "things" :: (s.names.map V.str ++ []))) = HA at sA hlA ⊢
    have b8 : ∀ x ∈ ("things" :: s.names : List Str), x.length ≤ 8 := fun x hx => by
      rcases List.mem_cons.mp hx with rfl | hx
      · decide +kernel
      · exact nl8 x hx
    refine ⟨" ", l1, "things" :: s.names, rfl, rfl, .inl (SqL.of hlA), ?_, ?_⟩
    · have := sum_le (fun x : Str => x.length) 8 ("things" :: s.names) b8
      rw [e1]
      rw [List.length_cons] at this ⊢
      omega
    -- f'keys {scene.size}'
    have hm1 := gs.m1
    have hm2 := gs.m2
    have lm : (Str.ofString (toString s.many)).length = 1 := by
      have : s.many = 1 ∨ s.many = 2 ∨ s.many = 3 := by omega
      rcases this with h | h | h <;> rw [h] <;> rfl
    refine ⟨"keys ", rfl, (by show 5 ≤ sizeLine; decide), _, rfl, a, C, dx, pS, _, 2, .int s.many, rfl, Slt.same sA h1, S.cls, kS, rfl, .inr ⟨s.many, rfl, Nat.lt_of_le_of_lt (Nat.log2_le_self _) (by omega), _, rfl, ?_, ?_⟩⟩
    · rw [Str.length_append]
      show (5 : Nat) + (Str.ofString (toString s.many)).length ≤ sizeLine
      rw [lm]
      decide
    -- ' '.join(['words', *scene.told])
    refine ⟨⟨" ", rfl⟩, _, rfl, a, C, dx, pT, _, 3, .ref t, rfl, Slt.same sA h1, S.cls, kT, rfl, t, _, rfl, .inl (SqT.same sA h4), ?_, fun l2 hl2 => ?_⟩
    · rw [List.append_nil, List.length_cons, List.length_map]
      exact s1000 _ (by omega)
    have sB : Same HA (upd HA l2 (.lst (V.str "words" :: (s.words.map V.str ++ [])))) := same_new (Same.refl HA) hl2
    have hlB : upd HA l2 (.lst (V.str "words" :: (s.words.map V.str ++ []))) l2 = some (.lst ((("words" : Str) :: s.words).map V.str)) := by rw [upd_same, List.append_nil]; rfl
    generalize upd HA l2 (.lst (V.str "words" :: (s.words.map V.str ++ []))) = HB at sB hlB ⊢
    have b6 : ∀ x ∈ ("words" :: s.words : List Str), x.length ≤ 6 := fun x hx => by
      rcases List.mem_cons.mp hx with rfl | hx
      · decide +kernel
      · exact wl6 x hx
    refine ⟨" ", l2, "words" :: s.words, rfl, rfl, .inl (SqL.of hlB), ?_, ?_⟩
    · have := sum_le (fun x : Str => x.length) 6 ("words" :: s.words) b6
      rw [e1]
      rw [List.length_cons] at this ⊢
      omega
    refine ⟨(by show 3 ≤ sizeLine; decide), fun fl hfl => ?_⟩
    have ek : Str.empty ++ ("keys " : Str) ++ Str.ofString (toString s.many) = joinW ["keys", Str.ofString (toString s.many)] := by
      rw [← join_two "keys" (Str.ofString (toString s.many))]
      refine TL.ext_tl ?_
      rw [TL.tl_append, TL.tl_append, TL.tl_append, TL.tl_append]
      rfl
    have sC : Same H (upd HB fl (.lst [.str (joinW ("things" :: s.names)), .str (joinW ["keys", Str.ofString (toString s.many)]), .str (joinW ("words" :: s.words))])) := same_new (sA.trans sB) hfl
    have hfC : upd HB fl (.lst [.str (joinW ("things" :: s.names)), .str (joinW ["keys", Str.ofString (toString s.many)]), .str (joinW ("words" :: s.words))]) fl = some (.lst [.str (joinW ("things" :: s.names)), .str (joinW ["keys", Str.ofString (toString s.many)]), .str (joinW ("words" :: s.words))]) := upd_same
    have eH : upd HB fl (.lst [.str (Txt.join " " ("things" :: s.names)), .str (Str.empty ++ ("keys " : Str) ++ Str.ofString (toString s.many)), .str (Txt.join " " ("words" :: s.words))]) = upd HB fl (.lst [.str (joinW ("things" :: s.names)), .str (joinW ["keys", Str.ofString (toString s.many)]), .str (joinW ("words" :: s.words))]) := by
      rw [ek]
      rfl
    rw [show upd HB fl (.lst [.str (Txt.join " " ("things" :: s.names)), .str (Str.empty ++ ("keys " : Str) ++ Str.ofString (toString s.many)), .str (Txt.join " " ("words" :: s.words))]) = _ from eH]
    generalize upd HB fl (.lst [.str (joinW ("things" :: s.names)), .str (joinW ["keys", Str.ofString (toString s.many)]), .str (joinW ("words" :: s.words))]) = HC at sC hfC ⊢
    -- the rest
    refine ⟨⟨"\n", rfl⟩, _, rfl, fl, _, rfl, .inr (SqL.of hfC), rfl, fun D hD => ?_⟩
    refine lc_it (walkW (kvs := partNames.map fun p => (Sum.inr p, V.ref (pa p)))) (Cv HC D fun i => (partNames.take i).map fun p => V.str (joinW [p, s.word p])) (cv0 hD rfl) (fun _ _ _ _ => True.intro) (fun i v H6 H7 hi p q2 => ?_) (fun H6 p => ?_)
    · obtain ⟨rfl, kk, v, hk, rfl⟩ := q2
      rw [List.getElem?_map] at hk
      obtain ⟨pp, hpi, e⟩ : ∃ p, partNames[i]? = some p ∧ (Sum.inr p, V.ref (pa p)) = (kk, v) := by
        cases q : partNames[i]? with
        | none => rw [q] at hk; cases hk
        | some p => rw [q] at hk; exact ⟨p, rfl, Option.some.inj hk⟩
      cases e
      have hpm := List.mem_of_getElem? hpi
      have pl := part_len pp hpm
      have gl := pl.2 _ (gs.rl pp hpm)
      have eV := valV_map (fun q => V.str (s.word q)) pp partNames
      rw [if_pos hpm] at eV
      have sp := sC.trans p.1
      refine ⟨rfl, ?_⟩
      refine lc_yes ?_
      refine ⟨_, rfl, .inl ⟨pp, rfl, s1000 _ (by omega), pp, rfl, s1000 _ (by rw [Str.length_append]; show 0 + pp.length ≤ 1000; omega), ?_⟩⟩
      refine ⟨" ", rfl, s1000 _ (by rw [Str.length_append, Str.length_append, e1]; show 0 + pp.length + 1 ≤ 1000; omega), ?_⟩
      refine ⟨_, rfl, a, C, dx, pP, _, 1, .ref q, rfl, Slt.same sp h1, S.cls, kP, rfl, _, rfl, q, .str (s.word pp), rfl, (by rw [← eV]; exact DGet.k (k := Sum.inr pp) (sp _ _ h3)), .inl ⟨s.word pp, rfl, s1000 _ (by omega), s.word pp, rfl, s1000 _ (by rw [Str.length_append, Str.length_append, Str.length_append, e1]; show 0 + pp.length + 1 + (s.word pp).length ≤ 1000; omega), ?_⟩⟩
      refine cv_yes hD p.1 p.2 ?_ ?_
      · simp only [List.length_map, List.length_take]
        have h6 : partNames.length = 6 := rfl
        omega
      · rw [List.take_add_one, hpi, List.map_append]
        have ej : Str.empty ++ pp ++ (" " : Str) ++ s.word pp = joinW [pp, s.word pp] := by
          rw [← join_two]
          refine TL.ext_tl ?_
          rw [TL.tl_append, TL.tl_append, TL.tl_append, TL.tl_append, TL.tl_append]
          rfl
        show _ = _ ++ [V.str (Str.empty ++ pp ++ (" " : Str) ++ s.word pp)]
        rw [ej]
        rfl
    · have e : H6 D = some (.lst (partNames.map fun p => V.str (joinW [p, s.word p]))) := by
        have z := p.2
        rw [List.length_map] at z
        dsimp only at z
        rw [List.take_length] at z
        exact z
      refine ⟨D, _, rfl, .inr (SqL.of e), ?_, fun l3 hl3 => ?_⟩
      · show 3 + (6 + 0) ≤ sizeLine
        decide
      have er : ([V.str (joinW ("things" :: s.names)), V.str (joinW ["keys", Str.ofString (toString s.many)]), V.str (joinW ("words" :: s.words))] ++ ((partNames.map fun p => V.str (joinW [p, s.word p])) ++ [])) = (rowsSc s).map V.str := by
        unfold rowsSc rowsOf
        rw [List.append_nil, List.map_map]
        rfl
      rw [er]
      have gl : ∀ r ∈ rowsSc s, r.length ≤ 220 := fun r hr => by
        obtain ⟨ws, hws, rfl⟩ := List.mem_map.mp hr
        unfold rowsOf at hws
        rcases List.mem_cons.mp hws with rfl | hws
        · have := join_len (b := 8) b8
          rw [List.length_cons] at this
          omega
        rcases List.mem_cons.mp hws with rfl | hws
        · have := join_len (b := 8) (ws := ["keys", Str.ofString (toString s.many)]) fun x hx => by
            rcases List.mem_cons.mp hx with rfl | hx
            · decide +kernel
            · rw [List.mem_singleton.mp hx, lm]; decide
          rw [List.length_cons, List.length_singleton] at this
          omega
        rcases List.mem_cons.mp hws with rfl | hws
        · have := join_len (b := 6) b6
          rw [List.length_cons] at this
          omega
        · obtain ⟨p, hp, rfl⟩ := List.mem_map.mp hws
          have pl := part_len p hp
          have gl := pl.2 _ (gs.rl p hp)
          have := join_len (b := 8) (ws := [p, s.word p]) fun x hx => by
            rcases List.mem_cons.mp hx with rfl | hx
            · exact pl.1
            · rw [List.mem_singleton.mp hx]; omega
          rw [List.length_cons, List.length_singleton] at this
          omega
      have hs := sum_le (fun x : Str => x.length) 220 (rowsSc s) gl
      have l9 : (rowsSc s).length = 9 := rfl
      have e2 : (("\n" : Str)).length = 1 := rfl
      refine ⟨"\n", l3, rowsSc s, rfl, rfl, .inl (SqL.of upd_same), by rw [e2]; omega, ?_⟩
      exact k _ (same_new (sC.trans p.1) hl3)
end
end HP

namespace HP
open PySem PySem.Spec PyProof.Rows L2 SlX
abbrev sBuilt : Stmt := top 32
abbrev sLoose : Stmt := top 34
/-! ### words of texts with blanks -/
def neL (L : List Nat) : List (List Nat) := (TL.spl [32] 0 [] L).filter fun p => !decide (p = [])
theorem neL_sp (L : List Nat) : neL (32 :: L) = neL L := by
  unfold neL
  have := TL.spl_part1 (s := 32) (S := []) (p := []) (rest := L) (acc := []) (by simp)
  have e : TL.spl [32] 0 [] (32 :: L) = [] :: TL.spl [32] 0 [] L := this
  rw [e]
  rfl
theorem neL_sps (k : Nat) (L : List Nat) : neL (List.replicate k 32 ++ L) = neL L := by
  induction k with
  | zero => rfl
  | succ k ih => rw [List.replicate_succ, List.cons_append, neL_sp, ih]
theorem neL_word {p L : List Nat} (h : 32 ∉ p) (hp : p ≠ []) : neL (p ++ 32 :: L) = p :: neL L := by
  unfold neL
  have := TL.spl_part1 (s := 32) (S := []) (p := p) (rest := L) (acc := []) h
  have e : TL.spl [32] 0 [] (p ++ 32 :: L) = p :: TL.spl [32] 0 [] L := this
  rw [e, List.filter_cons]
  rw [decide_eq_false hp]
  rfl
theorem neL_nil : neL [] = [] := rfl
theorem words_tl (x : Str) : (wordsOf x).map TL.tl = neL (TL.tl x) := by
  unfold wordsOf neL
  have e0 : (Txt.split x " ").map TL.tl = TL.spl [32] 0 [] (TL.tl x) := TL.split_spl x " " (by decide +kernel) (TL.kind_ok (by decide +kernel))
  rw [← e0]
  have all : ∀ l : List Str, (l.filter fun y => !decide (y = ("" : Str))).map TL.tl = (l.map TL.tl).filter fun p => !decide (p = []) := by
    intro l
    induction l with
    | nil => rfl
    | cons y l ih =>
      rw [List.filter_cons, List.map_cons, List.filter_cons]
      have e : decide (y = ("" : Str)) = decide (TL.tl y = []) := decide_eq_decide.mpr ⟨fun h => by rw [h]; rfl, fun h => TL.ext_tl h⟩
      rw [e]
      cases decide (TL.tl y = []) with
      | true => exact ih
      | false => rw [← ih]; rfl
  exact all _
/-- ws with blanks: some ahead, one at least behind each -/
def Blanks : List Str → List Nat → Prop
  | [], L => L = []
  | w :: ws, L => ∃ (k : Nat) (M : List Nat), L = TL.tl w ++ (List.replicate (k + 1) 32 ++ M) ∧ Blanks ws M
theorem blanks_words : ∀ {ws : List Str} {L : List Nat}, Blanks ws L → (∀ w ∈ ws, 32 ∉ TL.tl w ∧ TL.tl w ≠ []) → neL L = ws.map TL.tl
  | [], L, h, _ => by
    have : L = [] := h
    subst this
    rfl
  | w :: ws, L, ⟨k, M, e, h⟩, hw => by
    subst e
    rw [List.replicate_succ, List.cons_append, neL_word (hw w List.mem_cons_self).1 (hw w List.mem_cons_self).2, neL_sps, blanks_words h fun z hz => hw z (List.mem_cons_of_mem _ hz)]
    rfl
theorem blanks_snoc : ∀ {ws : List Str} {L : List Nat} (w : Str) (k : Nat), Blanks ws L → Blanks (ws ++ [w]) (L ++ (TL.tl w ++ List.replicate (k + 1) 32))
  | [], L, w, k, h => by
    have : L = [] := h
    subst this
    exact ⟨k, [], by simp, rfl⟩
  | z :: ws, L, w, k, ⟨j, M, e, h⟩ => by
    subst e
    refine ⟨j, M ++ (TL.tl w ++ List.replicate (k + 1) 32), ?_, blanks_snoc w k h⟩
    simp [List.append_assoc]
theorem blanks_free : ∀ {ws : List Str} {L : List Nat} {c : Nat}, Blanks ws L → c ≠ 32 → (∀ w ∈ ws, c ∉ TL.tl w) → c ∉ L
  | [], L, c, h, _, _ => by
    have : L = [] := h
    subst this
    exact List.not_mem_nil
  | w :: ws, L, c, ⟨k, M, e, h⟩, hc, hw => by
    subst e
    intro hm
    rcases List.mem_append.mp hm with q | q
    · exact hw w List.mem_cons_self q
    · rcases List.mem_append.mp q with q | q
      · exact hc (List.eq_of_mem_replicate q)
      · exact blanks_free h hc (fun z hz => hw z (List.mem_cons_of_mem _ hz)) q
/-- z tells ws, with blanks -/
def LooseT (ws : List Str) (z : Str) : Prop := ∃ (k : Nat) (L : List Nat), TL.tl z = List.replicate k 32 ++ L ∧ Blanks ws L
theorem loose_words {ws : List Str} {z : Str} (h : LooseT ws z) (hw : ∀ w ∈ ws, 32 ∉ TL.tl w ∧ TL.tl w ≠ []) : wordsOf z = ws := by
  obtain ⟨k, L, e, hb⟩ := h
  refine TL.map_tl_inj ?_
  rw [words_tl, e, neL_sps, blanks_words hb hw]
/-! ### what is read of good lines -/
theorem badFrom_all {k n : Nat} {xs : List Str} (h : ∀ x ∈ xs, goodWord k x = true) (h2 : k = 0 ∨ k = 2 ∨ xs.length + n ≤ 2) : badFrom k n xs = none := by
  induction xs generalizing n with
  | nil => rfl
  | cons x xs ih =>
    rw [List.length_cons] at h2
    by_cases hk : k = 0 ∨ k = 2
    · rw [badFrom_step (h x List.mem_cons_self) (hk.imp_right .inl)]
      exact ih (fun y hy => h y (List.mem_cons_of_mem _ hy)) (hk.imp_right .inl)
    · have h3 : xs.length + 1 + n ≤ 2 := by omega
      by_cases hn : n = 1
      · rw [badFrom_step (h x List.mem_cons_self) (.inr (.inr hn))]
        exact ih (fun y hy => h y (List.mem_cons_of_mem _ hy)) (.inr (.inr (by omega)))
      · have e0 : n = 0 := by omega
        have g := h x List.mem_cons_self
        have e : badFrom k n (x :: xs) = badFrom k (n + 1) xs := by
          show (if goodWord k x = false ∨ (k ≠ 0 ∧ k ≠ 2 ∧ 1 < n) then some (n + 1) else badFrom k (n + 1) xs) = _
          rw [if_neg]
          rintro (z | z)
          · rw [g] at z; cases z
          · omega
        rw [e]
        exact ih (fun y hy => h y (List.mem_cons_of_mem _ hy)) (.inr (.inr (by omega)))
theorem lineFault_ok {k : Nat} {x : Str} {xs : List Str} (h : headL[k]? = some x) (hb : badFrom k 1 xs = none) (hn : xs = [] → k = 2) : lineFault k (x :: xs) = none := by
  show (if headL[k]? = some x then (match badFrom k 1 xs with
    | some n => some n
    | none => if xs = [] ∧ k ≠ 2 then some 2 else none) else some 1) = none
  rw [if_pos h, hb]
  show (if xs = [] ∧ k ≠ 2 then some 2 else none) = none
  rw [if_neg fun z => z.2 (hn z.1)]
theorem digit_many {m : Int} (h1 : 1 ≤ m) (h2 : m ≤ 3) : digitOf (Str.ofString (toString m)) = m ∧ Str.ofString (toString m) ∈ digits := by
  have : m = 1 ∨ m = 2 ∨ m = 3 := by omega
  rcases this with rfl | rfl | rfl <;> decide +kernel
theorem read_good {s : Sc} (g : GoodSc s) {R : List Str} (hR : R.map wordsOf = rowsOf s.names s.many s.word s.words) :
    faultFrom 0 R = none ∧ rdT R = .tuple (s.names.map .str) ∧ rdM R = .int s.many ∧ rdR R = some (dicD fun p => .str (s.word p)) ∧ rdW R = .tuple (s.words.map .str) := by
  have len : R.length = 9 := by
    have := congrArg List.length hR
    rw [List.length_map] at this
    exact this
  have at_ : ∀ k, k < 9 → wordsOf (R.getD k ("" : Str)) = (rowsOf s.names s.many s.word s.words).getD k [] := fun k hk => by
    have hk2 : k < R.length := by omega
    have e := congrArg (fun l : List (List Str) => l[k]?) hR
    rw [List.getElem?_map, List.getElem?_eq_getElem hk2] at e
    rw [List.getD_eq_getElem?_getD, List.getElem?_eq_getElem hk2, List.getD_eq_getElem?_getD, ← e]
    rfl
  have nmg : ∀ x ∈ s.names, isNameS x = true := fun x hx => by
    have h := g.nm
    unfold isThingsL at h
    rw [Bool.and_eq_true, Bool.and_eq_true, Bool.and_eq_true] at h
    exact List.all_eq_true.mp h.2.2.1 (.str x) (List.mem_map.mpr ⟨x, hx, rfl⟩)
  have nne : s.names ≠ [] := fun e => by
    have h := g.nm
    unfold isThingsL at h
    rw [Bool.and_eq_true] at h
    have h1 := of_decide_eq_true h.1
    rw [e] at h1
    exact absurd h1 (by decide)
  have lf : ∀ k, k < 9 → lineFault k ((rowsOf s.names s.many s.word s.words).getD k []) = none := fun k hk => by
    match k, hk with
    | 0, _ => exact lineFault_ok rfl (badFrom_all (fun x hx => nmg x hx) (.inl rfl)) fun e => absurd e nne
    | 1, _ => exact lineFault_ok rfl (badFrom_all (fun x hx => by rw [List.mem_singleton.mp hx]; exact decide_eq_true (digit_many g.m1 g.m2).2) (.inr (.inr (by show 1 + 1 ≤ 2; decide)))) fun e => by cases e
    | 2, _ => exact lineFault_ok rfl (badFrom_all (fun x hx => decide_eq_true (g.okW.2 x hx)) (.inr (.inl rfl))) fun _ => rfl
    | k + 3, hk =>
      have h6 : k < 6 := by omega
      have hp : partNames[k]? = some (partNames[k]'h6) := List.getElem?_eq_getElem h6
      have e : (rowsOf s.names s.many s.word s.words).getD (k + 3) [] = [partNames[k]'h6, s.word (partNames[k]'h6)] := by
        rw [List.getD_eq_getElem?_getD]
        show (((partNames.map fun p => [p, s.word p]))[k]?).getD [] = _
        rw [List.getElem?_map, hp]
        rfl
      rw [e]
      have hd : headL[k + 3]? = some (partNames[k]'h6) := hp
      refine lineFault_ok hd (badFrom_all (fun x hx => ?_) (.inr (.inr (by show 1 + 1 ≤ 2; decide)))) fun e => by cases e
      rw [List.mem_singleton.mp hx]
      unfold goodWord
      rw [if_neg (by omega), if_neg (by omega), if_neg (by omega), List.getD_eq_getElem?_getD, hd]
      exact decide_eq_true (g.rl _ (List.mem_of_getElem? hp))
  have ff : ∀ j, j ≤ 9 → faultFrom (9 - j) (R.drop (9 - j)) = none := by
    intro j
    induction j with
    | zero =>
      intro _
      rw [show R.drop (9 - 0) = [] from List.drop_of_length_le (by omega)]
      rfl
    | succ j ih =>
      intro hj
      have hk : 9 - (j + 1) < R.length := by omega
      rw [List.drop_eq_getElem_cons hk]
      have e1 : lineFault (9 - (j + 1)) (wordsOf R[9 - (j + 1)]) = none := by
        have := at_ (9 - (j + 1)) (by omega)
        rw [List.getD_eq_getElem?_getD, List.getElem?_eq_getElem hk] at this
        have e : wordsOf R[9 - (j + 1)] = (rowsOf s.names s.many s.word s.words).getD (9 - (j + 1)) [] := this
        rw [e]
        exact lf _ (by omega)
      show (match lineFault (9 - (j + 1)) (wordsOf R[9 - (j + 1)]) with
        | some m => some (9 - (j + 1) + 1, m)
        | none => faultFrom (9 - (j + 1) + 1) (R.drop (9 - (j + 1) + 1))) = none
      rw [e1]
      have e2 : 9 - (j + 1) + 1 = 9 - j := by omega
      rw [e2]
      exact ih (by omega)
  have ln : ∀ k h, headL[k]? = some h → lineOf R h = (rowsOf s.names s.many s.word s.words).getD k [] := fun k h e => by
    unfold lineOf
    rw [idx_head e]
    exact at_ k (List.getElem?_eq_some_iff.mp e).1
  refine ⟨ff 9 (Nat.le_refl _), ?_, ?_, ?_, ?_⟩
  · unfold rdT
    rw [ln 0 "things" rfl]
    rfl
  · unfold rdM
    rw [ln 1 "keys" rfl]
    show PyData.int (digitOf (Str.ofString (toString s.many))) = _
    rw [(digit_many g.m1 g.m2).1]
  · unfold rdR dicD
    refine congrArg some (List.map_congr_left fun p hp => ?_)
    obtain ⟨k, hk⟩ := List.mem_iff_getElem?.mp hp
    have hd : headL[k + 3]? = some p := hk
    show (Sum.inr p, PyData.str ((lineOf R p).getD 1 ("" : Str))) = (Sum.inr p, PyData.str (s.word p))
    rw [ln (k + 3) p hd]
    rw [List.getD_eq_getElem?_getD (l := rowsOf s.names s.many s.word s.words)]
    show (Sum.inr p, PyData.str ((((((partNames.map fun p => [p, s.word p]))[k]?).getD [])).getD 1 ("" : Str))) = _
    rw [List.getElem?_map, hk]
    rfl
  · unfold rdW
    rw [ln 2 "words" rfl]
    rfl
end HP

namespace HP
open PySem PySem.Spec PyProof.Rows L2 SlX
/-! ### rules -/
section
variable {X : Cx} {K : PySem.W.Frag}
/-- t[lo:hi], whichever it is -/
def rSlB : V → Option Int → Option Int → Hp → VK → Prop := fun x lo hi H Q => ∃ a xs, x = .ref a ∧ H a = some (.tup xs) ∧ ∀ p H', Same H H' → H' p = some (.tup (cutV xs lo hi)) → Q (.ref p) H'
theorem slB : SlR X rSlB := by
  intro pins s σ H x v vl vu lo hi sl Q I rx hs pl pu h
  obtain ⟨a, xs, e, hx, q⟩ := h
  refine sl_tupA pins s σ H x v vl vu lo hi sl Q I rx hs pl pu ⟨a, xs, e, SqT.of hx, fun hw => q a H (Same.refl H) ?_, fun hw p hp => q p _ (same_new (Same.refl H) hp) upd_same⟩
  unfold cutV
  rw [hw.1, hw.2, List.drop_zero, Nat.sub_zero, List.take_length]
  exact hx
theorem eRevT {e : Expr} {te : TE} {k : Nat} {p1 p2 p3 pos : Pos} (he : PE X e te) (hK : X.K = K := by rfl) : PE X (.Subscript e (.Slice none none (some (.UnaryOp .USub (.Constant (.int 1) k p1) p2)) p3) pos) (tRevT K te) := by subst hK; exact pe_revT he
theorem eRevL {e : Expr} {te : TE} {k : Nat} {p1 p2 p3 pos : Pos} (he : PE X e te) (hK : X.K = K := by rfl) : PE X (.Subscript e (.Slice none none (some (.UnaryOp .USub (.Constant (.int 1) k p1) p2)) p3) pos) (tRevL K te) := by subst hK; exact pe_revL he
def rDictP (K : PySem.W.Frag) : List V → Hp → VK → Prop := fun xs H Q => ∃ (a : Addr) (ps : List Addr) (kvs : List (Key × V)), xs = [.ref a] ∧ SqL K H a (ps.map V.ref) ∧ Paired (fun p kv => SqT K H p [kV kv.1, kv.2]) ps kvs ∧ ∀ p, H p = none → Q (.ref p) (upd H p (.dK (mergeK [] kvs)))
theorem kDictP (hc : X.calm = true) (hK : X.K = K := by rfl) : CallR X (.type "dict") (rDictP K) := by subst hK; exact call_dictP hc
def rNeDic (K : PySem.W.Frag) : R2 := fun x y H Q => ∃ a b ka kb, x = .ref a ∧ y = .ref b ∧ DicA K H a ka ∧ DicA K H b kb ∧ (∀ kd ∈ ka, SeqAt.shaped kd.2 = true) ∧ (∀ kd ∈ kb, SeqAt.shaped kd.2 = true) ∧ Q (.bl (!dicEqv ka kb)) H
theorem oNeDic (hu : X.A.units + 65 < cLine) (hK : X.K = K := by rfl) : OpR X (compareOp .NotEq) (rNeDic K) := by
  subst hK
  intro pins s σ H x y v u Q I rx ry h
  obtain ⟨a, b, ka, kb, rfl, rfl, ha, hb, sa, sb, q⟩ := h
  cases (show v = Value.ref a from rx)
  cases (show u = Value.ref b from ry)
  exact neDic_run I hu ha hb sa sb _ _ ⟨.bl _, H, I, rfl, q⟩
/-- own == of scenes -/
structure EqOk (P : Program) (w : World) (K : PySem.W.Frag) (mg : Str → Option Value) (base : Heap) (C : Addr) : Prop where
  cls : EqC K C
  ex : ∃ g, PySem.W.findIn K (.ref C) "__eq__" = some (some (.ref g)) ∧ PySem.W.isFn K (.ref g) = true ∧ FnR P w K mg base CX0 1 g (spEqS K C)
def rEqS (K : PySem.W.Frag) (C : Addr) : R2 := fun x y H Q => ∃ a s, x = .ref a ∧ SceneAt K C H a s ∧ GoodSc s ∧ ((∃ b t, y = .ref b ∧ SceneAt K C H b t ∧ GoodSc t ∧ Q (.bl (scEq s t)) H) ∨ ∃ b ys, y = .ref b ∧ SqL K H b ys ∧ Q (.bl false) H)
theorem oEqS {C : Addr} {j : Nat} (F : EqOk X.prog X.w X.K X.mg X.base C) (hr : Room j X.A) (hj : 1 ≤ j) (hK : X.K = K := by rfl) : OpR X (compareOp .Eq) (rEqS K C) := by
  subst hK
  intro pins s σ H x y v u Q I rx ry h
  obtain ⟨g, h1, h2, h3⟩ := F.ex
  obtain ⟨a, sc, e1, ha, gs, hb⟩ := h
  subst e1
  have ha' := ha
  obtain ⟨dx, n, q, t, h4, _⟩ := ha'
  rcases hb with ⟨b, sd, e2, hb, gd, q0⟩ | ⟨b, ys, e2, hb, q0⟩
  · subst e2
    obtain ⟨dy, n2, q2, t2, g4, _⟩ := id hb
    exact op_own (op := .Eq) (CX := CX0) (E := E0) (sp := spEqS X.K C) (fun _ _ => rfl) h1 h2 h3 (hr.mono hj) pass0 pins s σ H _ _ v u Q I rx ry ⟨a, dx, _, b, C, dy, _, rfl, rfl, h4, g4, F.cls.first, a, b, sc, rfl, ha, gs, .inl ⟨sd, hb, gd, q0⟩⟩
  · subst e2
    exact op_ownL (op := .Eq) (CX := CX0) (E := E0) (sp := spEqS X.K C) (fun _ _ => rfl) h1 h2 h3 (hr.mono hj) pass0 rfl pins s σ H _ _ v u Q I rx ry ⟨a, dx, _, b, ys, rfl, rfl, h4, hb, F.cls.firstL, a, b, sc, rfl, ha, gs, .inr ⟨ys, hb, q0⟩⟩
end
theorem SceneAt.off {K : PySem.W.Frag} {C a r : Addr} {H : Hp} {s : Sc} {kvs : List (Key × V)} {o : HO} (h : SceneAt K C H a s) (hr : H r = some (.dK kvs)) (hd : kvs ≠ s.pol) : SceneAt K C (upd H r o) a s := by
  obtain ⟨dx, n, q, t, h1, h2, h3, h4⟩ := h
  have tu : ∀ {n : Addr} {xs : List V}, SqT K H n xs → SqT K (upd H r o) n xs := fun {n xs} h => by
    rcases h with (h | ⟨o', h⟩) | h
    · exact .inl (.inl (by rw [upd_ne (ne_of h hr (by intro z; cases z))]; exact h))
    · exact .inl (.inr ⟨o', by rw [upd_ne (ne_of h hr (by intro z; cases z))]; exact h⟩)
    · exact .inr h
  refine ⟨dx, n, q, t, ?_, tu h2, ?_, tu h4⟩
  · rcases h1 with ⟨h, e⟩ | ⟨h, k⟩
    · exact .inl ⟨by rw [upd_ne (ne_of h hr (by intro z; cases z))]; exact h, e⟩
    · exact .inr ⟨by rw [upd_ne (ne_of h hr (by intro z; cases z))]; exact h, by rw [upd_ne (ne_of k hr (by intro z; cases z))]; exact k⟩
  · rw [upd_ne (ne_of h3 hr (by intro z; exact hd (HO.dK.inj z).symm))]
    exact h3
section
variable {P : Program} {w : World} {K : PySem.W.Frag} {mg : Str → Option Value} {base : Heap}
theorem scene_madeR {C x dx n r t : Addr} {c : Cls4} {H : Hp} {R : Hp → Prop} {E : XK} {s : Sc} {ps : List Str} {many : Int} (g : GoodSc s) (nx : H x = none) (ndx : H dx = none) (ne : dx ≠ x) (hn : SqT K H n (s.names.map V.str)) (hp : ps.Perm partNames) (hr : H r = some (.dK (ps.map fun p => (Sum.inr p, V.str (s.word p)))))
    (ht : SqT K H t (s.words.map V.str)) (hm : s.many = many) (kQ : ∀ H', Same H H' → SceneAt K C H' x s → R H') : spInit K C c [.ref x, .ref n, .int many, .ref r, .ref t] (upd (upd H dx (.own x)) x (.ins C dx [])) (fun v H2 => v = .non ∧ R H2) E := by
  subst hm
  exact scene_made (Q := fun _ H => R H) g nx ndx ne hn hp hr ht kQ
/-! ### _law_built -/
def spBuilt (K : PySem.W.Frag) (C : Addr) : Sp := fun vs H Q _ => ∃ (a : Addr) (s : Sc), vs = [.ref a] ∧ Five H a s.names s.many s.word s.words ∧ GoodSc s ∧ ∀ H' b, Same H H' → H b = none → SceneAt K C H' b s → Q (.ref b) H'
theorem scBuilt : FnScope ["_law_t"] ["_law_t"] (defScope sBuilt) := ⟨rfl, rfl, rfl, by decide +kernel, rfl, by decide +kernel, by decide +kernel⟩
theorem ok_built {C : Addr} {c : Cls4} (D : Dat K mg "_law_built" sBuilt) (M : ScMk P w K mg base C c) : Fn P w K mg base CX0 6 "_law_built" (spBuilt K C) := by
  refine Fn.of0 D scBuilt (fun _ _ _ _ _ _ us hl => match us, hl with | [_], _ => rfl) (fun vs H Q E h => ?_) (fun f cdv A outer s0 H vs Q E hr h => ?_)
  · obtain ⟨a, s, rfl, _⟩ := h
    rfl
  · obtain ⟨a, s, rfl, ⟨n, r, t, e, ha, hn, hr0, ht, he⟩, gs, k⟩ := h
    refine ⟨_, (pss_one (ps_ret (peScene (K := K) M hr (by decide) (passes_call (E := fun _ _ _ => False) takes_none5 (fun _ _ _ _ h => h)) (pa_cons (pe_ix (ixL (K := K)) (pv 0) pe_int (fun _ _ => rfl)) (pa_cons (pe_ix (ixL (K := K)) (pv 0) pe_int (fun _ _ => rfl)) (pa_cons (pe_ix (ixL (K := K)) (pv 0) pe_int (fun _ _ => rfl)) (pa_cons (pe_ix (ixL (K := K)) (pv 0) pe_int (fun _ _ => rfl)) pa_nil))))))), ?_⟩
    refine ⟨_, rfl, a, _, 0, _, rfl, rfl, SqL.of ha, rfl, ?_⟩
    refine ⟨_, rfl, a, _, 1, _, rfl, rfl, SqL.of ha, rfl, ?_⟩
    refine ⟨_, rfl, a, _, 2, _, rfl, rfl, SqL.of ha, rfl, ?_⟩
    refine ⟨_, rfl, a, _, 3, _, rfl, rfl, SqL.of ha, rfl, ?_⟩
    intro b dx nx ndx ne
    exact scene_made (s := s) (ps := partNames) gs nx ndx ne (SqT.of hn) (List.Perm.refl _) hr0 (SqT.of ht) fun H2 s2 st => k H2 b s2 nx st
/-! ### _law_loose -/
def spLoose : Sp := fun vs H Q _ => ∃ (p l : Addr) (ws : List Str), vs = [.ref p, .str (joinW ws)] ∧ Src H p l ∧ ws ≠ [] ∧ ws.length ≤ 12 ∧ (∀ x ∈ ws, x ∈ voc) ∧ ∀ H' z, Src H' p l → Keep p l H H' → LooseT ws z → z.length ≤ 600 → Q (.str z) H'
theorem scLoose : FnScope ["_law_h", "_law_row", "_law_found", "_law_word"] ["_law_h", "_law_row"] (defScope sLoose) := ⟨rfl, rfl, rfl, by decide +kernel, rfl, by decide +kernel, by decide +kernel⟩
theorem tl_sp (n : Nat) : TL.tl (repS " " n) = List.replicate n 32 := by
  rw [tl_rep]
  have e : TL.tl (" " : Str) = [32] := rfl
  rw [e]
  induction n with
  | zero => rfl
  | succ n ih => rw [List.replicate_succ, List.flatten_cons, ih, List.replicate_succ]; rfl
theorem ok_loose (D : Dat K mg "_law_loose" sLoose) (T : Fr mg) (FN : Fn P w K mg base CX0 1 "_law_next" spNext) : Fn P w K mg base CX0 2 "_law_loose" spLoose := by
  refine Fn.of0 D scLoose (fun _ _ _ _ _ _ us hl => match us, hl with | [_, _], _ => rfl) (fun vs H Q E h => ?_) (fun f cdv A outer s0 H vs Q E hr h => ?_)
  · obtain ⟨p, l, ws, rfl, _⟩ := h
    rfl
  · obtain ⟨p, l, ws, rfl, S, wne, wl, wv, k⟩ := h
    refine ⟨_, (pss_cons (ps_set (i := 2) scLoose.nd rfl (Or.inl rfl) (pe_op op_mulS pe_str (pf FN hr (by decide) (pa_cons (pv 0) (pa_cons pe_int pa_nil)))))
      (pss_cons (ps_for PassesOwn.never rfl (iL (K := K) (pe_split (pv 1) pe_str)) (pg_name (i := 3) scLoose.nd rfl (Or.inl rfl)) (pss_one (ps_set (i := 2) scLoose.nd rfl (Or.inl rfl) (pe_op op_add_str (pe_op op_add_str (pv 2) (pv 3)) (pe_op op_mulS pe_str (pe_op op_add pe_int (pf FN hr (by decide) (pa_cons (pv 0) (pa_cons pe_int pa_nil)))))))))
      (pss_one (ps_ret (pv 2))))), ?_⟩
    have jl : (joinW ws).length ≤ 200 := by
      have := join_len (b := 10) (ws := ws) fun x hx => (voc_all x (wv x hx)).1
      omega
    refine ⟨_, rfl, p, l, 3, rfl, S, by decide, by decide, fun H1 r r0 r1 S1 K1 => ?_⟩
    obtain ⟨m, rfl⟩ : ∃ m : Nat, r = (m : Int) := ⟨r.toNat, by omega⟩
    refine ⟨" ", m, rfl, rfl, by decide, by decide, by omega, ?_⟩
    refine ⟨_, rfl, ⟨_, rfl⟩, joinW ws, " ", rfl, rfl, rfl, Nat.le_trans (show (joinW ws).length + 2 ≤ 1000 by omega) (by decide), fun sl hsl => ?_⟩
    rw [split_row wne wv]
    have S2 := S1.new (o := .lst (ws.map V.str)) hsl
    have nsp := S1.nep hsl
    have nsl := S1.nel hsl
    have K2 : Keep p l H (upd H1 sl (.lst (ws.map V.str))) := Keep.new K1 (K1.free hsl nsp nsl)
    have hs2 : upd H1 sl (.lst (ws.map V.str)) sl = some (.lst (ws.map V.str)) := upd_same
    generalize upd H1 sl (.lst (ws.map V.str)) = H2 at S2 K2 hs2 ⊢
    refine ⟨sl, rfl, ⟨_, SqL.of hs2⟩, for_list (K := K) (a := sl) (xs := ws.map V.str) (fun i σ H3 => ∃ (z : Str) (v : Option V), σ = [some (.ref p), some (.str (joinW ws)), some (.str z), v] ∧ Src H3 p l ∧ Keep p l H H3 ∧ H3 sl = some (.lst (ws.map V.str)) ∧ LooseT (ws.take i) z ∧ z.length ≤ 3 + 20 * i) ⟨_, none, rfl, S2, K2, hs2, ⟨m, [], by rw [tl_sp, List.append_nil], rfl⟩, ?_⟩ (fun i σ H3 _ ⟨_, _, _, _, _, h, _⟩ => SqL.of h) ?_ ?_⟩
    · rw [rep_len]
      have e1 : ((" " : Str)).length = 1 := rfl
      rw [e1]
      omega
    · rintro i y σ H3 hi ⟨z, v, rfl, S3, K3, hs3, lz, zl⟩
      rw [List.getElem?_map] at hi
      obtain ⟨x, hx, rfl⟩ : ∃ z, ws[i]? = some z ∧ V.str z = y := by
        cases q : ws[i]? with
        | none => rw [q] at hi; cases hi
        | some z => rw [q] at hi; exact ⟨z, rfl, Option.some.inj hi⟩
      have xv := voc_all x (wv x (List.mem_of_getElem? hx))
      have hi2 := (List.getElem?_eq_some_iff.mp hx).1
      refine ⟨_, rfl, _, rfl, _, _, rfl, rfl, Nat.le_trans (show z.length + x.length ≤ 1000 by omega) (by decide), ?_⟩
      refine ⟨_, rfl, p, l, 3, rfl, S3, by decide, by decide, fun H4 r r0 r1 S4 K4 => ?_⟩
      obtain ⟨j, rfl⟩ : ∃ j : Nat, r = (j : Int) := ⟨r.toNat, by omega⟩
      refine ⟨_, _, rfl, rfl, " ", 1 + j, rfl, by show V.int (1 + (j : Int)) = V.int ((1 + j : Nat) : Int); rw [Int.natCast_add]; rfl, by decide, by decide, by omega, ?_⟩
      have e1 : ((" " : Str)).length = 1 := rfl
      refine ⟨_, _, rfl, rfl, ?_, ?_⟩
      · rw [Str.length_append, rep_len, e1]
        exact Nat.le_trans (show z.length + x.length + (1 + j) * 1 ≤ 1000 by omega) (by decide)
      refine ⟨_, _, rfl, S4, K3.trans K4, K4 _ _ hs3 nsp nsl, ?_, ?_⟩
      · obtain ⟨k0, L, e, hb⟩ := lz
        refine ⟨k0, L ++ (TL.tl x ++ List.replicate (j + 1) 32), ?_, ?_⟩
        · rw [TL.tl_append, TL.tl_append, e, tl_sp, Nat.add_comm 1 j]
          simp [List.append_assoc]
        · rw [List.take_add_one, hx]
          exact blanks_snoc x j hb
      · rw [Str.length_append, Str.length_append, rep_len, e1]
        omega
    · rintro σ H3 ⟨z, v, rfl, S3, K3, hs3, lz, zl⟩
      rw [List.length_map] at lz zl
      rw [List.take_length] at lz
      exact ⟨_, rfl, k H3 z S3 K3 lz (by omega)⟩
end
end HP

namespace HP
open PySem PySem.Spec PyProof.Rows L2 SlX
abbrev sLaw : Stmt := top 35
section
variable {X : Cx} {CX : CXT} {k j : Nat} {C : Addr} {m : Str} {sp : Sp} {o e : Expr} {es : List Expr} {ta : TE} {t : TA} {apos pos : Pos} {E : XK}
/-- a method of a slotted class -/
def MSX (P : Program) (w : World) (K : PySem.W.Frag) (mg : Str → Option Value) (base : Heap) (CX : CXT) (k : Nat) (C : Addr) (m : Str) (sp : Sp) : Prop :=
  SCls K C ∧ ∃ (g : Addr) (fd : FuncData) (ps : List Str), Meth K C m g ∧ Binds K fd ps [] ∧ FnOk P w K mg base CX k g fd ps sp
def tMSX (C : Addr) (sp : Sp) (E : XK) (ta : TE) (t : TA) : TE := fun σ H Q => ta σ H fun x H1 => ∃ a dx vs, x = .ref a ∧ Slt H1 a C dx vs ∧ t σ H1 fun ws H2 => sp (x :: ws) H2 Q E
theorem eMSX (M : MSX X.prog X.w X.K X.mg X.base CX k C m sp) (hr : Room j X.A) (hkj : k ≤ j) (hx : Passes CX X E) (ho : PE X o ta) (ha : PA X (e :: es) t) {pl : Sem Bool}
    (hst : starEach (e :: es) X.env = (false, eval e X.env) :: starEach es X.env := by rfl) (hpl : (backTo pos (starEach es X.env)).any (·.1) = false := by rfl)
    (ht : eval (.Call (.Attribute o m apos) (e :: es) [] pos) X.env = (do
      let ov ← eval o X.env; standAt apos.atName; let (f, first) ← holding [ov] (getMethod ov m pl); callWith pos f first (backTo pos (starEach (e :: es) X.env)) (backToKw pos (keywordEach [] X.env))) := by rfl) :
    PE X (.Call (.Attribute o m apos) (e :: es) [] pos) (tMSX C sp E ta t) := by
  obtain ⟨c, g, fd, ps, hm, hb, F⟩ := M
  refine ⟨fun pins s σ H Q I h => PySem.W.methodCall_KW (pl := pl) (thn (ho.run pins s σ H _ I h) fun u s1 ⟨x, H1, I1, rx, a, dx, vs, ex, hsl, q⟩ => ?_) ht⟩
  cases ex
  cases rx
  refine getmethsl_ok I1 hsl c hm (PySem.W.callWith_K (first := [.ref a]) (h₀ := X.base) I.ok.mod.kin hm.kp (thn (ha.run pos pins s1 σ H1 _ I1 q) fun us s2 ⟨ws, H2, I2, r, q2⟩ => ⟨I2.kIn, ?_⟩) hst hpl)
  have F2 := FnOk.raw (dvs := []) F hb .nil
  exact wpAny_call (run_fnR (us := .ref a :: us) (vs := .ref a :: ws) F2 (hr.mono hkj) hx I2 (.cons rfl r) (by rw [List.append_nil]; exact q2))
end
theorem SceneAt.keep {K : PySem.W.Frag} {C a p l : Addr} {H H' : Hp} {s : Sc} (h : SceneAt K C H a s) (S : Src H p l) (k : Keep p l H H') : SceneAt K C H' a s := by
  obtain ⟨xs, ex⟩ := S.pl
  obtain ⟨ys, ey⟩ := S.ll
  have up : ∀ b o, H b = some o → (∀ zs, o ≠ .lst zs) → H' b = some o := fun b o e hn => k b o e (ne_of e ex (hn _)) (ne_of e ey (hn _))
  obtain ⟨dx, n, q, t, h1, h2, h3, h4⟩ := h
  have tu : ∀ {n : Addr} {xs : List V}, SqT K H n xs → SqT K H' n xs := fun {n xs} h => by
    rcases h with (h | ⟨o', h⟩) | h
    · exact .inl (.inl (up _ _ h (fun _ z => by cases z)))
    · exact .inl (.inr ⟨o', up _ _ h (fun _ z => by cases z)⟩)
    · exact .inr h
  refine ⟨dx, n, q, t, ?_, tu h2, up _ _ h3 (fun _ z => by cases z), tu h4⟩
  rcases h1 with ⟨h, e⟩ | ⟨h, k'⟩
  · exact .inl ⟨up _ _ h (fun _ z => by cases z), e⟩
  · exact .inr ⟨up _ _ h (fun _ z => by cases z), up _ _ k' (fun _ z => by cases z)⟩
def neD : List (Key × V) := [(Sum.inr "newer", V.str "elder"), (Sum.inr "elder", V.str "newer")]
theorem SceneAt.putL {K : PySem.W.Frag} {C a r : Addr} {H : Hp} {s : Sc} {xs : List V} {o : HO} (h : SceneAt K C H a s) (hr : H r = some (.lst xs)) : SceneAt K C (upd H r o) a s := by
  have up : ∀ b o', H b = some o' → (∀ zs, o' ≠ .lst zs) → upd H r o b = some o' := fun b o' e hn => by rw [upd_ne (ne_of e hr (hn _))]; exact e
  obtain ⟨dx, n, q, t, h1, h2, h3, h4⟩ := h
  have tu : ∀ {n : Addr} {xs : List V}, SqT K H n xs → SqT K (upd H r o) n xs := fun {n xs} h => by
    rcases h with (h | ⟨o', h⟩) | h
    · exact .inl (.inl (up _ _ h (fun _ z => by cases z)))
    · exact .inl (.inr ⟨o', up _ _ h (fun _ z => by cases z)⟩)
    · exact .inr h
  refine ⟨dx, n, q, t, ?_, tu h2, up _ _ h3 (fun _ z => by cases z), tu h4⟩
  rcases h1 with ⟨h, e⟩ | ⟨h, k'⟩
  · exact .inl ⟨up _ _ h (fun _ z => by cases z), e⟩
  · exact .inr ⟨up _ _ h (fun _ z => by cases z), up _ _ k' (fun _ z => by cases z)⟩
theorem shp_pol (v : Sc) (gv : GoodSc v) : ∀ kd ∈ polDs v, SeqAt.shaped kd.2 = true := fun kd hkd => by
  obtain ⟨p, hp, rfl⟩ := List.mem_map.mp hkd
  have := shaped_strs (xs := [v.word p]) fun x hx => by rw [List.mem_singleton.mp hx]; exact ok_words' p hp _ (gv.rl p hp)
  have c1 := SeqAt.canLay_of_shaped this
  have c2 : (PyData.str (v.word p)).canLay0 = true := by
    have c3 : ((PyData.str (v.word p)).canLay0 && true) = true := c1
    rw [Bool.and_true] at c3
    exact c3
  show (PyData.canLay0 (.str (v.word p)) && decide (PyData.depth (.str (v.word p)) ≤ 64)) = true
  rw [c2]
  rfl
theorem call_nil1 {sp : Sp} {σ : L2.St} {H : Hp} {v : V} {Q : VK} {E : XK} (h : sp [v] H Q E) : tNil σ H (fun xs H2 => sp ((v :: xs) ++ []) H2 Q E) := h
theorem paired_app {α β : Type} {F : α → β → Prop} : ∀ {xs : List α} {ys : List β} {us : List α} {vs : List β}, Paired F xs ys → Paired F us vs → Paired F (xs ++ us) (ys ++ vs)
  | _, _, _, _, .nil, h => h
  | _, _, _, _, .cons r t, h => .cons r (paired_app t h)
theorem paired_rev {α β : Type} {F : α → β → Prop} : ∀ {xs : List α} {ys : List β}, Paired F xs ys → Paired F xs.reverse ys.reverse
  | _, _, .nil => .nil
  | _, _, .cons r t => by
    rw [List.reverse_cons, List.reverse_cons]
    exact paired_app (paired_rev t) (.cons r .nil)
theorem Drawn4.drop {names : List Str} {many : Int} {f : Str → Str} {words : List Str} {m w : Int} (d : Drawn4 names many f words m w) (n : Nat) : Drawn4 names many f (words.drop n) m w :=
  ⟨d.nm, d.m1, d.m2, d.rl, fun x hx => d.ws x (List.mem_of_mem_drop hx), d.wn.sublist (List.drop_sublist n words), d.wp.sublist (List.drop_sublist n words), by have := d.wl; rw [List.length_drop]; omega⟩
theorem rows_voc {names : List Str} {many : Int} {f : Str → Str} {words : List Str} {m w : Int} (d : Drawn4 names many f words m w) (hm : m ≤ 3) (hw : w ≤ 9) : ∀ ws ∈ rowsOf names many f words, ws ≠ [] ∧ ws.length ≤ 10 ∧ ∀ x ∈ ws, x ∈ voc ∧ TL.tl x ≠ [] := fun ws hws => by
  obtain ⟨n4, nne, nin, w9⟩ := d.small hw
  have v1 : ∀ x ∈ fourNames, x ∈ voc ∧ TL.tl x ≠ [] := by decide +kernel
  have v2 : ∀ x ∈ allWords, x ∈ voc ∧ TL.tl x ≠ [] := by decide +kernel
  have v3 : ∀ p ∈ partNames, (p ∈ voc ∧ TL.tl p ≠ []) ∧ ∀ x ∈ partWords p, x ∈ voc ∧ TL.tl x ≠ [] := by decide +kernel
  unfold rowsOf at hws
  rcases List.mem_cons.mp hws with rfl | hws
  · refine ⟨by simp, by rw [List.length_cons]; omega, fun x hx => ?_⟩
    rcases List.mem_cons.mp hx with rfl | hx
    · decide +kernel
    · exact v1 x (nin x hx)
  rcases List.mem_cons.mp hws with rfl | hws
  · refine ⟨by simp, by show 2 ≤ 10; decide, fun x hx => ?_⟩
    rcases List.mem_cons.mp hx with rfl | hx
    · decide +kernel
    · rw [List.mem_singleton.mp hx]
      have h1 := d.m1
      have h2 := d.m2
      have : many = 1 ∨ many = 2 ∨ many = 3 := by omega
      rcases this with rfl | rfl | rfl <;> decide +kernel
  rcases List.mem_cons.mp hws with rfl | hws
  · refine ⟨by simp, by rw [List.length_cons]; omega, fun x hx => ?_⟩
    rcases List.mem_cons.mp hx with rfl | hx
    · decide +kernel
    · exact v2 x (d.ws x hx)
  · obtain ⟨p, hp, rfl⟩ := List.mem_map.mp hws
    refine ⟨by simp, by show 2 ≤ 10; decide, fun x hx => ?_⟩
    rcases List.mem_cons.mp hx with rfl | hx
    · exact (v3 x hp).1
    · rw [List.mem_singleton.mp hx]
      exact (v3 p hp).2 _ (d.rl p hp)
theorem joinL_free {c : Nat} (hc : c ≠ 32) : ∀ {ws : List Str}, (∀ x ∈ ws, c ∉ TL.tl x) → c ∉ TL.joinL [32] (ws.map TL.tl)
  | [], _ => by intro hm; cases hm
  | [x], h => h x List.mem_cons_self
  | x :: y :: ys, h => by
    intro hm
    have hm' : c ∈ TL.tl x ++ ([32] ++ TL.joinL [32] ((y :: ys).map TL.tl)) := hm
    rcases List.mem_append.mp hm' with q | q
    · exact h x List.mem_cons_self q
    · rcases List.mem_append.mp q with q | q
      · exact hc (List.mem_singleton.mp q)
      · exact joinL_free hc (fun z hz => h z (List.mem_cons_of_mem _ hz)) q
theorem text_of {R : List Str} (h0 : R ≠ []) (h9 : R.length ≤ 9) (hf : ∀ z ∈ R, 10 ∉ TL.tl z ∧ z.length ≤ 600) : Txt.split (Txt.join "\n" R) "\n" = R ∧ (Txt.join "\n" R).length ≤ 80000 ∧ (R.map (·.length)).sum + R.length * (("\n" : Str)).length ≤ 16777216 := by
  have hs := sum_le (fun x : Str => x.length) 600 R fun z hz => (hf z hz).2
  have e1 : (("\n" : Str)).length = 1 := rfl
  have hj := StrLaws.join_length_le "\n" R
  rw [e1] at hj ⊢
  refine ⟨TL.split_join (y := "\n") (s := 10) (S := []) rfl (by decide +kernel) h0 fun z hz => (hf z hz).1, ?_, by omega⟩
  have e : Txt.join "\n" R = Str.join "\n" R := TL.join_eq "\n" R
  rw [e]
  omega
theorem scEq_self (s : Sc) : scEq s s = true := by
  unfold scEq
  rw [decide_eq_true rfl, decide_eq_true rfl, decide_eq_true rfl, List.all_eq_true.mpr fun p _ => decide_eq_true rfl]
  rfl
section
variable {P : Program} {w : World} {K : PySem.W.Frag} {mg : Str → Option Value} {base : Heap}
theorem read_use {C cT : Addr} {c : Cls4} {H : Hp} {Q : VK} {E : XK} {x : Str} {s : Sc} (g : GoodSc s) (w9 : s.words.length ≤ 9) (hx : x.length ≤ 80000) (hR : (Txt.split x "\n").map wordsOf = rowsOf s.names s.many s.word s.words) (kQ : ∀ H' b, Same H H' → H b = none → SceneAt K C H' b s → Q (.ref b) H') : spRead K C cT c [.str x] H Q E := by
  obtain ⟨r1, r2, r3, r4, r5⟩ := read_good g hR
  have nl4 : s.names.length ≤ 4 := by
    have h := g.nm
    unfold isThingsL at h
    rw [Bool.and_eq_true, Bool.and_eq_true] at h
    have h2 := of_decide_eq_true h.2.1
    rw [List.length_map] at h2
    omega
  have nof : sceneFault (rdT (Txt.split x "\n")) (rdM (Txt.split x "\n")) (rdR (Txt.split x "\n")) (rdW (Txt.split x "\n")) = none := by
    rw [r2, r3, r4, r5]
    exact good_none g
  refine ⟨x, rfl, hx, fun r hr => ?_, fun n m e => by (rw [r1] at e; cases e), fun _ => ⟨fun _ H' b s' hb st => kQ H' b s' hb ?_, fun f h => by (rw [nof] at h; cases h)⟩⟩
  · have hm : wordsOf r ∈ rowsOf s.names s.many s.word s.words := by rw [← hR]; exact List.mem_map.mpr ⟨r, hr, rfl⟩
    unfold rowsOf at hm
    rcases List.mem_cons.mp hm with e | hm
    · rw [e, List.length_cons]; omega
    rcases List.mem_cons.mp hm with e | hm
    · rw [e]; show 2 < 60; decide
    rcases List.mem_cons.mp hm with e | hm
    · rw [e, List.length_cons]; omega
    · obtain ⟨p, _, e⟩ := List.mem_map.mp hm
      rw [← e]; show 2 < 60; decide
  · rw [r2, r3, r4, r5] at st
    refine st.congr (map_strOf _) rfl (map_strOf _) fun p hp => ?_
    show strOf ((valD (dicD fun p => .str (s.word p)) (Sum.inr p)).getD .none) = s.word p
    rw [valD_dic hp]
    rfl
def spLaw (K : PySem.W.Frag) : Sp := fun vs H Q _ => ∃ (a : Addr) (ns : List Int), vs = [.ref a] ∧ SqL K H a (ns.map V.int) ∧ ns.length ≤ 63 ∧ ∀ H', Q (.bl true) H'
theorem scLaw : FnScope ["_law_script", "_law_h", "_law_t", "_law_rule_here", "_law_scene_here", "_law_loose_here", "_law_others", "_law_row", "_law_word", "_law_other", "_law_x"] ["_law_script"] (defScope sLaw) := ⟨rfl, rfl, rfl, by decide +kernel, rfl, by decide +kernel, by decide +kernel⟩
theorem ok_law {C cT : Addr} {c : Cls4} {f : Addr} {fd : FuncData} (F : FunD K "law" "law" (defArgs sLaw) (defBody sLaw) (defScope sLaw) [] [] f fd) (T : Fr mg) (S : SlC K C) (M : ScMk P w K mg base C c) (EQ : EqOk P w K mg base C) (FM : Fn P w K mg base CX0 1 "_law_mix" (spMix K)) (FN : Fn P w K mg base CX0 1 "_law_next" spNext) (FS : Fn P w K mg base CX0 3 "_law_scene" spScene)
    (FR : Fn P w K mg base CX0 1 "_law_rows" spRows) (FL : Fn P w K mg base CX0 2 "_law_loose" spLoose) (FB : Fn P w K mg base CX0 6 "_law_built" (spBuilt K C)) (FW : Fn P w K mg base CX0 1 "write_scene" (spWrite K C)) (FD : Fn P w K mg base (L2.CX P w) 6 "read_scene" (spRead K C cT c))
    (PT : PropOk P w K mg base C "things" 1 (spPThings K C)) (PM : PropOk P w K mg base C "many" 1 (spPMany K C)) (PW_ : PropOk P w K mg base C "words" 1 (spPWords K C)) (PR : PropOk P w K mg base C "rule" 1 (spPRule K C))
    (MT : MSX P w K mg base (L2.CX P w) 6 C "turned" (spTurned K C c)) (MO : MSX P w K mg base (L2.CX P w) 6 C "without" (spOut K C)) : FnOk P w K mg base CX0 8 f fd ["_law_script"] (spLaw K) := by
  refine F.ok scLaw (fun vs H Q E h => ?_) (fun cdv A outer s0 H vs Q E hr h => ?_)
  · obtain ⟨a, ns, rfl, _⟩ := h
    rfl
  · obtain ⟨a, ns, rfl, hS, hlen, k⟩ := h
    suffices hh : ∃ t, PSs (cxOf CX0 P w K mg base _ "law" (defScope sLaw) f cdv A outer s0 H E).nox (defBody sLaw) t ∧ t { nx := fun _ H' => Q .non H', rt := Q } (L2.start _ [.ref a]) H by
      obtain ⟨t, h1, h2⟩ := hh
      exact ⟨t, h1.nox, h2⟩
    have hu : _ < cLine := hu_of hr
    refine ⟨_, (pss_cons (ps_set (i := 1) scLaw.nd rfl (Or.inr rfl) (pf FM hr (by decide) (pa_cons (pv 0) (pa_cons pe_int pa_nil))))
      (pss_cons (ps_set (i := 2) scLaw.nd rfl (Or.inr rfl) (pf FS hr (by decide) (pa_cons (pv 1) (pa_cons pe_int (pa_cons pe_int (pa_cons pe_int pa_nil))))))
      (pss_cons (ps_asg (pe_slice slB (pe_ix (ixL (K := K)) (pv 2) pe_int (fun _ _ => rfl)) (po_some (pf FN hr (by decide) (pa_cons (pv 1) (pa_cons pe_int pa_nil)))) po_none) (pg_sub (pv 2) pe_int set_list))
      (pss_cons (ps_set (i := 3) scLaw.nd rfl (Or.inl rfl) (pe_callTy (kDictP (K := K) rfl) (by rfl) (T.fr "dict" (by decide +kernel)) (by decide +kernel) (pa_cons (eRevL (K := K) (LiI.pe_listItems rfl (pe_ix (ixL (K := K)) (pv 2) pe_int (fun _ _ => rfl)) (by rfl) (T.fr "list" (by decide +kernel)) (by decide +kernel))) pa_nil)))
      (pss_cons (ps_set (i := 4) scLaw.nd rfl (Or.inr rfl) (peScene (K := K) M hr (by decide) (passes_call (E := fun _ _ _ => False) takes_none5 (fun _ _ _ _ h => h)) (pa_cons (pe_ix (ixL (K := K)) (pv 2) pe_int (fun _ _ => rfl)) (pa_cons (pe_ix (ixL (K := K)) (pv 2) pe_int (fun _ _ => rfl)) (pa_cons (pv 3) (pa_cons (pe_ix (ixL (K := K)) (pv 2) pe_int (fun _ _ => rfl)) pa_nil))))))
      (pss_cons (ps_expr (eBm0 (K := K) PySem.F.plainAttrs_dict PySem.F.slot_dict_clear PySem.F.type_dict_clear mtd_clear (pv 3)))
      (pss_cons (ps_if (PW.pt (pw_or (pt_cmpR op_ne (pf FW hr (by decide) (pa_cons (pv 4) pa_nil)) (pe_join pe_str (pf FR hr (by decide) (pa_cons (pv 2) pa_nil))) (nomark _)) (pw_or1 (pt_not (pt_cmpR (oEqS (K := K) EQ hr (by decide)) (pfX FD (hr.mono (by decide)) (passes_call (E := fun _ _ _ => False) takes_none5 (fun _ _ _ _ h => h)) (pa_cons (pf FW hr (by decide) (pa_cons (pv 4) pa_nil)) pa_nil)) (pv 4) (nomark _)))))) (pss_one (ps_ret pe_bl)) pss_nil)
      (pss_cons (ps_set (i := 5) scLaw.nd rfl (Or.inl rfl) (pe_join pe_str (pe_lc (own := [("_law_row", 7)]) (g := gName 7) (by rfl) scLaw.nd (iL (K := K) (pf FR hr (by decide) (pa_cons (pv 2) pa_nil))) (blkOk_by (own := [("_law_row", 7)]) (N := ["_law_script", "_law_h", "_law_t", "_law_rule_here", "_law_scene_here", "_law_loose_here", "_law_others", "_law_row", "_law_word", "_law_other", "_law_x"]) (sc := defScope sLaw) (by decide +kernel)) (fun _ _ _ _ _ => (pg_name (i := 7) scLaw.nd rfl (Or.inl rfl))) (fun _ _ _ _ _ => pts_nil) (fun _ _ _ _ _ => (pf FL hr (by decide) (pa_cons (pv 1) (pa_cons (pv 7) pa_nil)))))))
      (pss_cons (ps_if (PW.pt (pw_or (pt_not (pt_cmpR (oEqS (K := K) EQ hr (by decide)) (pfX FD (hr.mono (by decide)) (passes_call (E := fun _ _ _ => False) takes_none5 (fun _ _ _ _ h => h)) (pa_cons (pv 5) pa_nil)) (pv 4) (nomark _))) (pw_or1 (pt_cmpR op_ne (pf FW hr (by decide) (pa_cons (pfX FD (hr.mono (by decide)) (passes_call (E := fun _ _ _ => False) takes_none5 (fun _ _ _ _ h => h)) (pa_cons (pv 5) pa_nil)) pa_nil)) (pf FW hr (by decide) (pa_cons (pv 4) pa_nil)) (nomark _))))) (pss_one (ps_ret pe_bl)) pss_nil)
      (pss_cons (ps_expr (eBm0 (K := K) PySem.F.plainAttrs_dict PySem.F.slot_dict_clear PySem.F.type_dict_clear mtd_clear (ePr PR hr (by decide) (pv 4))))
      (pss_cons (ps_if (PW.pt (pw_or (pt_cmpR (oNeD (K := K) hr.units) (ePr PT hr (by decide) (pv 4)) (pe_ix (ixL (K := K)) (pv 2) pe_int (fun _ _ => rfl)) (nomark _)) (pw_or (pt_cmpR op_ne (ePr PM hr (by decide) (pv 4)) (pe_ix (ixL (K := K)) (pv 2) pe_int (fun _ _ => rfl)) (nomark _)) (pw_or (pt_cmpR (oNeD (K := K) hr.units) (ePr PW_ hr (by decide) (pv 4)) (pe_ix (ixL (K := K)) (pv 2) pe_int (fun _ _ => rfl)) (nomark _)) (pw_or1 (pt_cmpR (oNeDic (K := K) (units65 hr)) (ePr PR hr (by decide) (pv 4)) (pe_ix (ixL (K := K)) (pv 2) pe_int (fun _ _ => rfl)) (nomark _))))))) (pss_one (ps_ret pe_bl)) pss_nil)
      (pss_cons (ps_if (PW.pt (pw_or (pt_cmpR (oNeD (K := K) hr.units) (pe_callTy (call_list_dK rfl) (by rfl) (T.fr "list" (by decide +kernel)) (by decide +kernel) (pa_cons (ePr PR hr (by decide) (pv 4)) pa_nil)) (pe_callB (kSortS (K := K)) (by rfl) (T.fr "sorted" (by decide +kernel)) (by decide +kernel) (pa_cons (pe_callTy (call_list_dK rfl) (by rfl) (T.fr "list" (by decide +kernel)) (by decide +kernel) (pa_cons (pe_ix (ixL (K := K)) (pv 2) pe_int (fun _ _ => rfl)) pa_nil)) pa_nil)) (nomark _)) (pw_or (pt_cmpR (oEqS (K := K) EQ hr (by decide)) (pv 4) (pv 2) (nomark _)) (pw_or1 (pt_not (pt_cmpR (oEqS (K := K) EQ hr (by decide)) (pv 4) (pf FB hr (by decide) (pa_cons (pv 2) pa_nil)) (nomark _))))))) (pss_one (ps_ret pe_bl)) pss_nil)
      (pss_cons (ps_set (i := 6) scLaw.nd rfl (Or.inl rfl) (pe_lst (pa_cons (peScene (K := K) M hr (by decide) (passes_call (E := fun _ _ _ => False) takes_none5 (fun _ _ _ _ h => h)) (pa_cons (eRevT (K := K) (pe_ix (ixL (K := K)) (pv 2) pe_int (fun _ _ => rfl))) (pa_cons (pe_ix (ixL (K := K)) (pv 2) pe_int (fun _ _ => rfl)) (pa_cons (pe_ix (ixL (K := K)) (pv 2) pe_int (fun _ _ => rfl)) (pa_cons (pe_ix (ixL (K := K)) (pv 2) pe_int (fun _ _ => rfl)) pa_nil))))) (pa_cons (peScene (K := K) M hr (by decide) (passes_call (E := fun _ _ _ => False) takes_none5 (fun _ _ _ _ h => h)) (pa_cons (pe_ix (ixL (K := K)) (pv 2) pe_int (fun _ _ => rfl)) (pa_cons (pe_op op_add (pe_op op_modN (pe_ix (ixL (K := K)) (pv 2) pe_int (fun _ _ => rfl)) pe_int) pe_int) (pa_cons (pe_ix (ixL (K := K)) (pv 2) pe_int (fun _ _ => rfl)) (pa_cons (pe_ix (ixL (K := K)) (pv 2) pe_int (fun _ _ => rfl)) pa_nil))))) pa_nil))))
      (pss_cons (ps_set (i := 6) scLaw.nd rfl (Or.inl rfl) (pe_op op_cat (pv 6) (pe_lst (pa_cons (eMSX MT hr (by decide) (passes_call (E := fun _ _ _ => False) takes_none5 (fun _ _ _ _ h => h)) (pv 4) (pa_cons pe_str (pa_cons (pe_dget hu (pe_disp (pps_cons pe_str pe_str (pps_cons pe_str pe_str pps_nil)) (by rfl) (by rfl) (fun z => by cases z) (by decide)) (pe_dget hu (pe_ix (ixL (K := K)) (pv 2) pe_int (fun _ _ => rfl)) pe_str (fun _ _ => rfl)) (fun _ _ => rfl)) pa_nil))) pa_nil))))
      (pss_cons (ps_set (i := 6) scLaw.nd rfl (Or.inl rfl) (pe_op op_cat (pv 6) (pe_lc (own := [("_law_word", 8)]) (g := gName 8) (by rfl) scLaw.nd (iT (K := K) (pe_ix (ixL (K := K)) (pv 2) pe_int (fun _ _ => rfl))) (blkOk_by (own := [("_law_word", 8)]) (N := ["_law_script", "_law_h", "_law_t", "_law_rule_here", "_law_scene_here", "_law_loose_here", "_law_others", "_law_row", "_law_word", "_law_other", "_law_x"]) (sc := defScope sLaw) (by decide +kernel)) (fun _ _ _ _ _ => (pg_name (i := 8) scLaw.nd rfl (Or.inl rfl))) (fun _ _ _ _ _ => pts_nil) (fun _ _ _ _ _ => (eMSX MO hr (by decide) (passes_call (E := fun _ _ _ => False) takes_none5 (fun _ _ _ _ h => h)) (pv 4) (pa_cons (pv 8) pa_nil))))))
      (pss_cons (ps_if (PW.pt (pw_or (pt_val (pe_callB (kAny (K := K) rfl) (by rfl) (T.fr "any" (by decide +kernel)) (by decide +kernel) (pa_cons (pe_lc (own := [("_law_other", 9)]) (g := gName 9) (by rfl) scLaw.nd (iL (K := K) (pv 6)) (blkOk_by (own := [("_law_other", 9)]) (N := ["_law_script", "_law_h", "_law_t", "_law_rule_here", "_law_scene_here", "_law_loose_here", "_law_others", "_law_row", "_law_word", "_law_other", "_law_x"]) (sc := defScope sLaw) (by decide +kernel)) (fun _ _ _ _ _ => (pg_name (i := 9) scLaw.nd rfl (Or.inl rfl))) (fun _ _ _ _ _ => pts_nil) (fun _ _ _ _ _ => (pe_cmpR (oEqS (K := K) EQ hr (by decide)) (pv 4) (pv 9) (nomark _)))) pa_nil))) (pw_or1 (pt_not (pt_cmpR (oEqS (K := K) EQ hr (by decide)) (pv 4) (pf FB hr (by decide) (pa_cons (pv 2) pa_nil)) (nomark _)))))) (pss_one (ps_ret pe_bl)) pss_nil)
      (pss_one (ps_ret (pe_callB (kAll (K := K) rfl) (by rfl) (T.fr "all" (by decide +kernel)) (by decide +kernel) (pa_cons (pe_lc (own := [("_law_word", 8)]) (g := gName 8) (by rfl) scLaw.nd (iT (K := K) (pe_ix (ixL (K := K)) (pv 2) pe_int (fun _ _ => rfl))) (blkOk_by (own := [("_law_word", 8)]) (N := ["_law_script", "_law_h", "_law_t", "_law_rule_here", "_law_scene_here", "_law_loose_here", "_law_others", "_law_row", "_law_word", "_law_other", "_law_x"]) (sc := defScope sLaw) (by decide +kernel)) (fun _ _ _ _ _ => (pg_name (i := 8) scLaw.nd rfl (Or.inr rfl))) (fun _ _ _ _ _ => pts_nil) (fun _ _ _ _ _ => (pe_cmpR (oEqS (K := K) EQ hr (by decide)) (eMSX MO hr (by decide) (passes_call (E := fun _ _ _ => False) takes_none5 (fun _ _ _ _ h => h)) (pv 4) (pa_cons (pv 8) pa_nil)) (peScene (K := K) M hr (by decide) (passes_call (E := fun _ _ _ => False) takes_none5 (fun _ _ _ _ h => h)) (pa_cons (pe_ix (ixL (K := K)) (pv 2) pe_int (fun _ _ => rfl)) (pa_cons (pe_ix (ixL (K := K)) (pv 2) pe_int (fun _ _ => rfl)) (pa_cons (pe_ix (ixL (K := K)) (pv 2) pe_int (fun _ _ => rfl)) (pa_cons (pe_callTy (kTup (K := K)) (by rfl) (T.fr "tuple" (by decide +kernel)) (by decide +kernel) (pa_cons (pe_lc (own := [("_law_x", 10)]) (g := gName 10) (by rfl) scLaw.nd (iT (K := K) (pe_ix (ixL (K := K)) (pv 2) pe_int (fun _ _ => rfl))) (blkOk_by (own := [("_law_x", 10)]) (N := ["_law_script", "_law_h", "_law_t", "_law_rule_here", "_law_scene_here", "_law_loose_here", "_law_others", "_law_row", "_law_word", "_law_other", "_law_x"]) (by rfl)) (fun _ _ _ _ _ => (pg_name (i := 10) scLaw.nd rfl (Or.inl rfl))) (fun _ _ _ _ _ => (pts_one (pt_cmpR op_ne (pv 10) (pv 8) (nomark _)))) (fun _ _ _ _ _ => (pv 10))) pa_nil)) pa_nil))))) (nomark _)))) pa_nil)))))))))))))))))))), ?_⟩
    refine ⟨_, rfl, a, ns, 14, rfl, hS, hlen, fun H1 p l s1 hp hl S1 => ?_⟩
    refine ⟨_, rfl, p, l, 4, 3, 9, rfl, S1, by decide, by decide, by decide, by decide, by decide, by decide, fun H2 t names many fr words S2 K2 ht five dr => ?_⟩
    obtain ⟨nA, rA, tA, eA, ht2, hn2, hr2, hw2, he2⟩ := five.ex
    have ntp : t ≠ p := S1.nep ht
    have ntl : t ≠ l := S1.nel ht
    have off : ∀ b o, H2 b = some o → (∀ xs, o ≠ .lst xs) → b ≠ p ∧ b ≠ l := fun b o e hn => by
      obtain ⟨xs, ex⟩ := S2.pl
      obtain ⟨ys, ey⟩ := S2.ll
      exact ⟨ne_of e ex (hn xs), ne_of e ey (hn ys)⟩
    have oT : ∀ (xs : List V) (ys : List V), HO.tup xs ≠ .lst ys := fun _ _ z => by cases z
    have oD : ∀ (xs : List (Key × V)) (ys : List V), HO.dK xs ≠ .lst ys := fun _ _ z => by cases z
    -- t[3] = t[3][n:]
    refine ⟨_, rfl, t, _, 3, _, rfl, rfl, SqL.of ht2, rfl, _, rfl, p, l, 2, rfl, S2, by decide, by decide, fun H3 r r0 r1 S3 K3 => ?_⟩
    obtain ⟨m, rfl⟩ : ∃ m : Nat, r = (m : Int) := ⟨r.toNat, by omega⟩
    have hw3 := K3 _ _ hw2 (off _ _ hw2 (oT _)).1 (off _ _ hw2 (oT _)).2
    refine ⟨_, rfl, tA, _, rfl, hw3, fun wA H4 s4 hw4 => ?_⟩
    have ec : cutV (words.map V.str) (some (m : Int)) none = (words.drop m).map V.str := by
      rw [cut_map, HT.sIx_nat, HT.sIx_none]
      by_cases z : m ≤ words.length
      · rw [Nat.min_eq_left z, List.take_of_length_le (by rw [List.length_drop]; exact Nat.le_refl _)]
      · rw [Nat.min_eq_right (by omega), List.drop_length, List.drop_of_length_le (by omega), List.take_nil]
    rw [ec] at hw4
    have ht3 := K3 _ _ ht2 ntp ntl
    refine ⟨_, rfl, t, _, 3, 3, rfl, rfl, s4 _ _ ht3, rfl, ?_⟩
    have S4 := S3.same s4
    have S5 : Src (upd H4 t (.lst [.ref nA, .int many, .ref rA, .ref wA, .ref eA])) p l := S4.put ntp ntl
    have ht5 : upd H4 t (.lst [.ref nA, .int many, .ref rA, .ref wA, .ref eA]) t = some (.lst [.ref nA, .int many, .ref rA, .ref wA, .ref eA]) := upd_same
    have up5 : ∀ b o, H4 b = some o → (∀ xs, o ≠ .lst xs) → upd H4 t (.lst [.ref nA, .int many, .ref rA, .ref wA, .ref eA]) b = some o := fun b o e hn => by rw [upd_ne (ne_of e (s4 _ _ ht3) (hn _))]; exact e
    have hn5 := up5 _ _ (s4 _ _ (K3 _ _ hn2 (off _ _ hn2 (oT _)).1 (off _ _ hn2 (oT _)).2)) (oT _)
    have hr5 := up5 _ _ (s4 _ _ (K3 _ _ hr2 (off _ _ hr2 (oD _)).1 (off _ _ hr2 (oD _)).2)) (oD _)
    have he5 := up5 _ _ (s4 _ _ (K3 _ _ he2 (off _ _ he2 (oD _)).1 (off _ _ he2 (oD _)).2)) (oD _)
    have hw5 := up5 _ _ hw4 (oT _)
    show tSeq _ _ _ _ (upd H4 t (.lst [.ref nA, .int many, .ref rA, .ref wA, .ref eA]))
    generalize upd H4 t (.lst [.ref nA, .int many, .ref rA, .ref wA, .ref eA]) = H5 at S5 ht5 hn5 hr5 he5 hw5
    have dr' := dr.drop m
    have gs : GoodSc ⟨names, many, fr, words.drop m⟩ := drawn_good dr' (by decide)
    have w9 : (words.drop m).length ≤ 9 := (dr'.small (by decide)).2.2.2
    -- rule_here
    refine ⟨_, rfl, t, _, 2, _, rfl, rfl, SqL.of ht5, rfl, rA, _, rfl, hr5, fun H6 q6 ts s6 hq6 hts nqt hq hpair => ?_⟩
    refine ⟨q6, _, rfl, SqL.of hq, fun q7 hq7 => ?_⟩
    have s7 : Same H6 (upd H6 q7 (.lst (ts.map V.ref).reverse)) := same_new (Same.refl H6) hq7
    have hq7' : upd H6 q7 (.lst (ts.map V.ref).reverse) q7 = some (.lst (ts.reverse.map V.ref)) := by rw [upd_same, List.map_reverse]
    generalize upd H6 q7 (.lst (ts.map V.ref).reverse) = H7 at s7 hq7' ⊢
    refine ⟨q7, ts.reverse, (polOf fr).reverse, rfl, SqL.of hq7', paired_rev (Paired.mapP hpair fun x y z => SqT.of (s7 _ _ z)), fun rd hrd => ?_⟩
    have em : mergeK [] (polOf fr).reverse = partNames.reverse.map fun p => (Sum.inr p, V.str (fr p)) := rfl
    rw [em]
    have s57 : Same H5 H7 := fun b o e => s7 b o (s6 b o e)
    have s8 : Same H5 (upd H7 rd (.dK (partNames.reverse.map fun p => (Sum.inr p, V.str (fr p))))) := same_new s57 hrd
    have hrd8 : upd H7 rd (.dK (partNames.reverse.map fun p => (Sum.inr p, V.str (fr p)))) rd = some (.dK (partNames.reverse.map fun p => (Sum.inr p, V.str (fr p)))) := upd_same
    have hrd5 : H5 rd = none := s57.free hrd
    show tSeq _ _ _ _ (upd H7 rd (.dK (partNames.reverse.map fun p => (Sum.inr p, V.str (fr p)))))
    generalize upd H7 rd (.dK (partNames.reverse.map fun p => (Sum.inr p, V.str (fr p)))) = H8 at s8 hrd8
    -- scene_here
    refine ⟨_, rfl, t, _, 0, _, rfl, rfl, SqL.of (s8 _ _ ht5), rfl, ?_⟩
    refine ⟨_, rfl, t, _, 1, _, rfl, rfl, SqL.of (s8 _ _ ht5), rfl, ?_⟩
    refine ⟨_, rfl, ?_⟩
    refine ⟨_, rfl, t, _, 3, _, rfl, rfl, SqL.of (s8 _ _ ht5), rfl, ?_⟩
    intro b dx nx ndx ne
    refine scene_madeR (s := ⟨names, many, fr, words.drop m⟩) (ps := partNames.reverse) gs nx ndx ne (SqT.of (s8 _ _ hn5)) (List.reverse_perm _) hrd8 (SqT.of (s8 _ _ hw5)) rfl fun H9 s9 st9 => ?_
    -- rule_here.clear()
    have hrd9 := s9 _ _ hrd8
    refine ⟨_, rfl, .inr (.inr (.inl ⟨rfl, .inl ⟨_, hrd9⟩⟩)), rd, _, rfl, rfl, hrd9, ?_⟩
    have st10 : SceneAt K C (upd H9 rd (.dK [])) b ⟨names, many, fr, words.drop m⟩ := st9.off hrd9 fun e => by
      have h1 := congrArg (fun l : List (Key × V) => (l.head?).map (·.1)) e
      have h2 : (some (Sum.inr ("sorting" : Str)) : Option Key) = some (Sum.inr ("asleep" : Str)) := h1
      exact absurd h2 (by decide +kernel)
    have s10 : Same H5 (upd H9 rd (.dK [])) := same_mut (s8.trans s9) hrd5
    show tSeq _ _ _ _ (upd H9 rd (.dK []))
    generalize upd H9 rd (.dK []) = H10 at st10 s10
    have S10 := S5.same s10
    have fiveU : ∀ H', Same H10 H' → Five H' t names many fr (words.drop m) := fun H' s' => ⟨nA, rA, wA, eA, s' _ _ (s10 _ _ ht5), s' _ _ (s10 _ _ hn5), s' _ _ (s10 _ _ hr5), s' _ _ (s10 _ _ hw5), s' _ _ (s10 _ _ he5)⟩
    generalize esc : (⟨names, many, fr, words.drop m⟩ : Sc) = s at gs st10
    have en : s.names = names := by rw [← esc]
    have emn : s.many = many := by rw [← esc]
    have ewd : s.word = fr := by rw [← esc]
    have ews : s.words = words.drop m := by rw [← esc]
    have dr2 : Drawn4 s.names s.many s.word s.words 3 9 := by rw [← esc]; exact dr'
    have five2 : ∀ H', Same H10 H' → Five H' t s.names s.many s.word s.words := fun H' s' => by rw [← esc]; exact fiveU H' s'
    have w92 : s.words.length ≤ 9 := by rw [ews]; exact w9
    have rv := rows_voc dr2 (by decide) (by decide)
    -- the text
    have rs9 : (rowsSc s).length ≤ 9 := by show 9 ≤ 9; decide
    have rsn : rowsSc s ≠ [] := by unfold rowsSc rowsOf; simp
    have rsf : ∀ z ∈ rowsSc s, 10 ∉ TL.tl z ∧ z.length ≤ 600 := fun z hz => by
      obtain ⟨ws, hws, rfl⟩ := List.mem_map.mp hz
      obtain ⟨h1, h2, h3⟩ := rv ws hws
      refine ⟨?_, ?_⟩
      · rw [tl_joinW]
        exact joinL_free (by decide) fun x hx => (voc_all x (h3 x hx).1).2.2.2
      · have := join_len (b := 10) (ws := ws) fun x hx => (voc_all x (h3 x hx).1).1
        omega
    obtain ⟨tx1, tx2, tx3⟩ := text_of rsn rs9 rsf
    have txw : (Txt.split (textSc s) "\n").map wordsOf = rowsOf s.names s.many s.word s.words := by
      have e0 : Txt.split (textSc s) "\n" = rowsSc s := tx1
      rw [e0]
      unfold rowsSc
      rw [List.map_map]
      have all : ∀ L : List (List Str), (∀ ws ∈ L, ws ≠ [] ∧ ws.length ≤ 10 ∧ ∀ x ∈ ws, x ∈ voc ∧ TL.tl x ≠ []) → L.map (wordsOf ∘ joinW) = L := by
        intro L
        induction L with
        | nil => intro _; rfl
        | cons ws L ih =>
          intro h
          obtain ⟨h1, h2, h3⟩ := h ws List.mem_cons_self
          rw [List.map_cons, ih fun x hx => h x (List.mem_cons_of_mem _ hx)]
          have e : wordsOf (joinW ws) = ws := by
            unfold wordsOf
            rw [split_row h1 fun x hx => (h3 x hx).1]
            refine List.filter_eq_self.mpr fun x hx => ?_
            have : x ≠ ("" : Str) := fun e => (h3 x hx).2 (by rw [e]; rfl)
            rw [decide_eq_false this]
            rfl
          exact congrArg (· :: L) e
      exact all _ rv
    have readW : ∀ (H' : Hp) (Q' : VK) (E' : XK), (∀ H2 b2, Same H' H2 → H' b2 = none → SceneAt K C H2 b2 s → Q' (.ref b2) H2) → spRead K C cT c [.str (textSc s)] H' Q' E' := fun H' Q' E' kq => read_use gs w92 tx2 txw kq
    -- write(scene) != join(rows(t)) or not read(write(scene)) == scene
    refine ⟨_, rfl, b, s, rfl, st10, gs, w92, fun H11 s11 => ?_⟩
    refine ⟨⟨"\n", rfl⟩, _, rfl, t, s.names, s.many, s.word, s.words, 3, 9, rfl, five2 _ s11, dr2, by decide, by decide, fun H12 q12 s12 hq12 hq12' => ?_⟩
    refine ⟨"\n", q12, rowsSc s, rfl, rfl, .inl (SqL.of (by rw [hq12']; unfold rowsSc; rw [List.map_map]; rfl)), tx3, rfl, _, rfl, ?_⟩
    have ed : (!decide (V.str (textSc s) = V.str (Txt.join "\n" (rowsSc s)))) = false := by
      rw [decide_eq_true (show V.str (textSc s) = V.str (Txt.join "\n" (rowsSc s)) from rfl)]
      rfl
    rw [ed]
    refine iteF ?_
    have s1012 : Same H10 H12 := s11.trans s12
    refine ⟨_, rfl, b, s, rfl, st10.same s1012, gs, w92, fun H13 s13 => ?_⟩
    refine call_nil1 (sp := spRead K C cT c) ?_
    refine readW H13 _ _ fun H14 b2 s14 hb2 st14 => ?_
    have s1014 : Same H10 H14 := s1012.trans (s13.trans s14)
    refine ⟨_, rfl, b2, s, rfl, st14, gs, .inl ⟨b, s, rfl, st10.same s1014, gs, _, rfl, ?_⟩⟩
    rw [scEq_self]
    refine iteF ?_
    -- loose_here
    have S14 := S10.same s1014
    refine ⟨⟨"\n", rfl⟩, _, rfl, t, s.names, s.many, s.word, s.words, 3, 9, rfl, five2 _ s1014, dr2, by decide, by decide, fun H15 q15 s15 hq15 hq15' => ?_⟩
    have S15 := S14.same s15
    have nqp := S14.nep hq15
    have nql := S14.nel hq15
    refine ⟨q15, rfl, ⟨_, SqL.of hq15'⟩, fun D hD => ?_⟩
    have nDp := S15.nep hD
    have nDl := S15.nel hD
    refine lc_list (K := K) (a := q15) (xs := (rowsOf s.names s.many s.word s.words).map fun ws => V.str (joinW ws)) (fun i H' => ∃ zs : List Str, Src H' p l ∧ Keep p l H15 H' ∧ H' D = some (.lst (zs.map V.str)) ∧ zs.length = i ∧ Paired LooseT ((rowsOf s.names s.many s.word s.words).take i) zs ∧ ∀ z ∈ zs, z.length ≤ 600)
      ⟨[], S15.new hD, Keep.of (same_new (Same.refl H15) hD), upd_same, rfl, .nil, fun _ h => by cases h⟩ (fun i H' _ ⟨_, _, K', _⟩ => SqL.of (K' _ _ hq15' nqp nql)) (fun i v H' hi ⟨zs, S', K', hD', zl, pz, z6⟩ => ?_) (fun H' ⟨zs, S', K', hD', zl, pz, z6⟩ => ?_)
    · rw [List.getElem?_map] at hi
      obtain ⟨ws, hws, rfl⟩ : ∃ ws, (rowsOf s.names s.many s.word s.words)[i]? = some ws ∧ V.str (joinW ws) = v := by
        cases q : (rowsOf s.names s.many s.word s.words)[i]? with
        | none => rw [q] at hi; cases hi
        | some z => rw [q] at hi; exact ⟨z, rfl, Option.some.inj hi⟩
      obtain ⟨h1, h2, h3⟩ := rv ws (List.mem_of_getElem? hws)
      have hi9 : i < 9 := (List.getElem?_eq_some_iff.mp hws).1
      refine ⟨rfl, ?_⟩
      refine lc_yes ?_
      refine ⟨_, rfl, _, rfl, p, l, ws, rfl, S', h1, by omega, fun x hx => (h3 x hx).1, fun H'' z S'' K'' lz lz6 => ?_⟩
      refine ⟨zs.map V.str, K'' _ _ hD' nDp nDl, by rw [List.length_map, zl]; exact Nat.lt_trans hi9 (by decide), zs ++ [z], S''.put nDp nDl, fun c o e n1 n2 => ?_, ?_, ?_, ?_, ?_⟩
      · rw [upd_ne (ne_of_none e hD)]
        exact K'' c o (K' c o e n1 n2) n1 n2
      · rw [upd_same, List.map_append]
        rfl
      · rw [List.length_append, zl]
        rfl
      · rw [List.take_add_one, hws]
        exact paired_app pz (.cons lz .nil)
      · intro y hy
        rcases List.mem_append.mp hy with hy | hy
        · exact z6 y hy
        · rw [List.mem_singleton.mp hy]; exact lz6
    rw [List.length_map] at zl pz
    rw [List.take_length] at pz
    have zR : ∀ z ∈ zs, 10 ∉ TL.tl z ∧ z.length ≤ 600 := fun z hz => by
      refine ⟨?_, z6 z hz⟩
      have all : ∀ {L : List (List Str)} {zs : List Str}, Paired LooseT L zs → (∀ ws ∈ L, ∀ x ∈ ws, x ∈ voc) → ∀ z ∈ zs, 10 ∉ TL.tl z := by
        intro L zs hp
        induction hp with
        | nil => intro _ z hz; cases hz
        | @cons ws y L zs r t ih =>
          intro hv z hz
          rcases List.mem_cons.mp hz with rfl | hz
          · obtain ⟨k0, M, e, hb⟩ := r
            rw [e]
            intro hm
            rcases List.mem_append.mp hm with q | q
            · exact absurd (List.eq_of_mem_replicate q) (by decide)
            · exact blanks_free hb (by decide) (fun x hx => (voc_all x (hv ws List.mem_cons_self x hx)).2.2.2) q
          · exact ih (fun ws' h => hv ws' (List.mem_cons_of_mem _ h)) z hz
      exact all pz (fun ws hws x hx => ((rv ws hws).2.2 x hx).1) z hz
    have z9 : zs.length = 9 := zl
    have zn : zs ≠ [] := fun e => by rw [e] at z9; cases z9
    obtain ⟨lx1, lx2, lx3⟩ := text_of zn (by omega) zR
    have lxw : (Txt.split (Txt.join "\n" zs) "\n").map wordsOf = rowsOf s.names s.many s.word s.words := by
      rw [lx1]
      have all : ∀ {L : List (List Str)} {zs : List Str}, Paired LooseT L zs → (∀ ws ∈ L, ∀ x ∈ ws, x ∈ voc ∧ TL.tl x ≠ []) → zs.map wordsOf = L := by
        intro L zs hp
        induction hp with
        | nil => intro _; rfl
        | @cons ws y L zs r t ih =>
          intro hv
          rw [List.map_cons, ih fun ws' h => hv ws' (List.mem_cons_of_mem _ h), loose_words r fun x hx => ⟨(voc_all x (hv ws List.mem_cons_self x hx).1).2.2.1, (hv ws List.mem_cons_self x hx).2⟩]
      exact all pz fun ws hws => (rv ws hws).2.2
    have readL : ∀ (H' : Hp) (Q' : VK) (E' : XK), (∀ H2 b2, Same H' H2 → H' b2 = none → SceneAt K C H2 b2 s → Q' (.ref b2) H2) → spRead K C cT c [.str (Txt.join "\n" zs)] H' Q' E' := fun H' Q' E' kq => read_use gs w92 lx2 lxw kq
    refine ⟨"\n", D, zs, rfl, rfl, .inl (SqL.of hD'), lx3, ?_⟩
    -- what stands
    have K16 : Keep p l H10 H' := Keep.trans (Keep.of (s1014.trans s15)) K'
    have stK : SceneAt K C H' b s := st10.keep S10 K16
    have k5 : ∀ b o, H5 b = some o → (∀ xs, o ≠ .lst xs) → H' b = some o := fun b o e hn => by
      obtain ⟨xs, ex⟩ := S5.pl
      obtain ⟨ys, ey⟩ := S5.ll
      exact K16 b o (s10 b o e) (ne_of e ex (hn xs)) (ne_of e ey (hn ys))
    have ht16 : H' t = some (.lst [.ref nA, .int many, .ref rA, .ref wA, .ref eA]) := K16 _ _ (s10 _ _ ht5) ntp ntl
    have hn16 := k5 _ _ hn5 (oT _)
    have hr16 := k5 _ _ hr5 (oD _)
    have hw16 := k5 _ _ hw5 (oT _)
    have he16 := k5 _ _ he5 (oD _)
    clear hn5 hr5 hw5 he5 k5 K16 K' S' hD' ht5
    have hpol : polOf fr = s.pol := by rw [← esc]; rfl
    rw [← en] at hn16
    rw [← ews] at hw16
    rw [hpol] at hr16
    rw [← emn] at ht16
    generalize H' = G0 at stK ht16 hn16 hr16 hw16 he16 ⊢
    -- not read(loose) == scene or write(read(loose)) != write(scene)
    refine ⟨_, rfl, call_nil1 (sp := spRead K C cT c) ?_⟩
    refine readL G0 _ _ fun G1 b3 g1 hb3 st3 => ?_
    refine ⟨_, rfl, b3, s, rfl, st3, gs, .inl ⟨b, s, rfl, stK.same g1, gs, _, rfl, ?_⟩⟩
    rw [scEq_self]
    refine iteF ?_
    refine ⟨_, rfl, call_nil1 (sp := spRead K C cT c) ?_⟩
    refine readL G1 _ _ fun G2 b4 g2 hb4 st4 => ?_
    refine call_nil1 (sp := spWrite K C) ⟨b4, s, rfl, st4, gs, w92, fun G3 g3 => ?_⟩
    have g03 := g1.trans (g2.trans g3)
    refine ⟨_, rfl, b, s, rfl, stK.same g03, gs, w92, fun G4 g4 => ⟨rfl, _, rfl, ?_⟩⟩
    rw [decide_eq_true (show V.str (textSc s) = V.str (textSc s) from rfl)]
    refine iteF ?_
    have g04 := g03.trans g4
    -- scene.rule.clear()
    have slt : ∀ G, SceneAt K C G b s → ∃ dx vs, Slt G b C dx vs := fun G st => let ⟨dx, n, q, t, h, _⟩ := st; ⟨dx, _, h⟩
    obtain ⟨dx4, vs4, slt4⟩ := slt G4 (stK.same g04)
    refine ⟨_, rfl, b, dx4, vs4, rfl, slt4, b, s, rfl, stK.same g04, fun G5 d5 g5 hd5 hd5' => ?_⟩
    refine ⟨.inr (.inr (.inl ⟨rfl, .inl ⟨_, hd5'⟩⟩)), d5, _, rfl, rfl, hd5', ?_⟩
    have g6 : Same G4 (upd G5 d5 (.dK [])) := same_mut g5 hd5
    show tSeq _ _ _ _ (upd G5 d5 (.dK []))
    generalize upd G5 d5 (.dK []) = G6 at g6
    have g06 := g04.trans g6
    -- things, many, words, rule
    obtain ⟨dx6, vs6, slt6⟩ := slt G6 (stK.same g06)
    refine ⟨_, rfl, b, dx6, vs6, rfl, slt6, b, s, rfl, stK.same g06, fun n6 hn6 => ?_⟩
    refine ⟨_, rfl, t, _, 0, _, rfl, rfl, SqL.of (g06 _ _ ht16), rfl, ?_⟩
    refine ⟨_, _, .tup hn6 (dpAll_strs _), .tup (SqT.of (g06 _ _ hn16)) (dpAll_strs _), shapedT_strs gs.okN, shapedT_strs gs.okN, _, rfl, ?_⟩
    have eqT : ∀ xs : List Str, PyData.eqv (.tuple (xs.map .str)) (.tuple (xs.map .str)) = true := fun xs => by
      have : PyData.eqv (.tuple (xs.map .str)) (.tuple (xs.map .str)) = decide (xs = xs) := eqvAll_strs _ _
      rw [this]
      exact decide_eq_true rfl
    rw [eqT]
    refine iteF ?_
    refine ⟨_, rfl, b, dx6, vs6, rfl, slt6, b, s, rfl, stK.same g06, ?_⟩
    refine ⟨_, rfl, t, _, 1, _, rfl, rfl, SqL.of (g06 _ _ ht16), rfl, rfl, _, rfl, ?_⟩
    rw [decide_eq_true (show V.int s.many = V.int s.many from rfl)]
    refine iteF ?_
    refine ⟨_, rfl, b, dx6, vs6, rfl, slt6, b, s, rfl, stK.same g06, fun n7 hn7 => ?_⟩
    refine ⟨_, rfl, t, _, 3, _, rfl, rfl, SqL.of (g06 _ _ ht16), rfl, ?_⟩
    refine ⟨_, _, .tup hn7 (dpAll_strs _), .tup (SqT.of (g06 _ _ hw16)) (dpAll_strs _), shapedT_strs gs.okW.1, shapedT_strs gs.okW.1, _, rfl, ?_⟩
    rw [eqT]
    refine iteF ?_
    refine ⟨_, rfl, b, dx6, vs6, rfl, slt6, b, s, rfl, stK.same g06, fun G7 d7 g7 hd7 hd7' => ?_⟩
    have g07 := g06.trans g7
    refine ⟨_, rfl, t, _, 2, _, rfl, rfl, SqL.of (g07 _ _ ht16), rfl, ?_⟩
    refine ⟨d7, rA, polDs s, polDs s, rfl, rfl, dicA_pol s hd7', dicA_pol s (g07 _ _ hr16), shp_pol s gs, shp_pol s gs, _, rfl, ?_⟩
    have eqP : dicEqv (polDs s) (polDs s) = true := by rw [dicEqv_pol]; exact List.all_eq_true.mpr fun p _ => decide_eq_true rfl
    rw [eqP]
    refine iteF ?_
    -- list(rule), scene == t, scene == built(t)
    obtain ⟨dx7, vs7, slt7⟩ := slt G7 (stK.same g07)
    refine ⟨_, rfl, b, dx7, vs7, rfl, slt7, b, s, rfl, stK.same g07, fun G8 d8 g8 hd8 hd8' => ?_⟩
    refine ⟨d8, _, rfl, hd8', fun l8 hl8 => ?_⟩
    have ek : (s.pol.map fun kv => kV kv.1) = partNames.map V.str := by
      unfold Sc.pol
      rw [List.map_map]
      rfl
    rw [ek]
    have g9 : Same G8 (upd G8 l8 (.lst (partNames.map V.str))) := same_new (Same.refl G8) hl8
    have hl9 : upd G8 l8 (.lst (partNames.map V.str)) l8 = some (.lst (partNames.map V.str)) := upd_same
    generalize upd G8 l8 (.lst (partNames.map V.str)) = G9 at g9 hl9 ⊢
    have g09 := g07.trans (g8.trans g9)
    refine ⟨_, rfl, t, _, 2, _, rfl, rfl, SqL.of (g09 _ _ ht16), rfl, rA, _, rfl, g09 _ _ hr16, fun l10 hl10 => ?_⟩
    rw [ek]
    refine ⟨l10, partNames, rfl, SqL.of upd_same, by decide, fun ys q11 py sy hq11 => ?_⟩
    have ey : ys = partNames := (srtS_only py sy).trans (srtS_self sorted_parts)
    subst ey
    have g11 : Same G9 (upd (upd G9 l10 (.lst (partNames.map V.str))) q11 (.lst (partNames.map V.str))) := same_new (same_new (Same.refl G9) hl10) hq11
    have hq11' : upd (upd G9 l10 (.lst (partNames.map V.str))) q11 (.lst (partNames.map V.str)) q11 = some (.lst (partNames.map V.str)) := upd_same
    generalize upd (upd G9 l10 (.lst (partNames.map V.str))) q11 (.lst (partNames.map V.str)) = G11 at g11 hq11' ⊢
    have g011 := g09.trans g11
    refine ⟨_, _, .lst (SqL.of (g11 _ _ hl9)) (dpAll_strs _), .lst (SqL.of hq11') (dpAll_strs _), shaped_strs ok_partNames, shaped_strs ok_partNames, _, rfl, ?_⟩
    have eqL : PyData.eqv (.list (partNames.map .str)) (.list (partNames.map .str)) = true := eqT partNames
    rw [eqL]
    refine iteF ?_
    refine ⟨_, rfl, _, rfl, b, s, rfl, stK.same g011, gs, .inr ⟨t, _, rfl, SqL.of (g011 _ _ ht16), _, rfl, ?_⟩⟩
    refine iteF ?_
    have five3 : ∀ G, Same G0 G → Five G t s.names s.many s.word s.words := fun G g => ⟨nA, rA, wA, eA, g _ _ ht16, g _ _ hn16, by rw [ewd, hpol]; exact g _ _ hr16, g _ _ hw16, g _ _ he16⟩
    refine ⟨_, rfl, _, rfl, t, s, rfl, five3 _ g011, gs, fun G12 b5 g12 hb5 st5 => ?_⟩
    have g012 := g011.trans g12
    refine ⟨b, s, rfl, stK.same g012, gs, .inl ⟨b5, s, rfl, st5, gs, _, rfl, ?_⟩⟩
    rw [scEq_self]
    refine iteF ?_
    -- others
    have scF : ∀ u : Sc, (s.names ≠ u.names ∨ s.many ≠ u.many ∨ (∃ p ∈ partNames, s.word p ≠ u.word p) ∨ s.words ≠ u.words) → scEq s u = false := fun u h => by
      unfold scEq
      rcases h with h | h | ⟨p, hp, h⟩ | h
      · rw [decide_eq_false h]; rfl
      · rw [decide_eq_false h, Bool.false_and, Bool.and_false]
      · rw [show partNames.all (fun p => decide (s.word p = u.word p)) = false from List.all_eq_false.mpr ⟨p, hp, by rw [decide_eq_false h]; decide⟩]
        rw [Bool.false_and, Bool.and_false, Bool.and_false]
      · rw [decide_eq_false h, Bool.and_false, Bool.and_false, Bool.and_false]
    have nmk : ∃ k : Nat, (k = 2 ∨ k = 3 ∨ k = 4) ∧ s.names = fourNames.take k := by
      obtain ⟨k, h1, h2, h3⟩ := dr2.nm
      exact ⟨k, by omega, h3⟩
    have gR : GoodSc { s with names := s.names.reverse } := by
      refine ⟨?_, gs.m1, gs.m2, gs.rl, gs.ws, gs.wl⟩
      obtain ⟨k, hk, e⟩ := nmk
      show isThingsL ((s.names.reverse).map .str) = true
      rw [e]
      rcases hk with rfl | rfl | rfl <;> decide +kernel
    have nR : s.names ≠ s.names.reverse := by
      obtain ⟨k, hk, e⟩ := nmk
      rw [e]
      rcases hk with rfl | rfl | rfl <;> decide +kernel
    have hm1 := gs.m1
    have hm2 := gs.m2
    have mm : 1 ≤ s.many.fmod 3 + 1 ∧ s.many.fmod 3 + 1 ≤ 3 ∧ s.many ≠ s.many.fmod 3 + 1 := by
      have : s.many = 1 ∨ s.many = 2 ∨ s.many = 3 := by omega
      rcases this with h | h | h <;> rw [h] <;> decide
    have gM : GoodSc { s with many := s.many.fmod 3 + 1 } := ⟨gs.nm, mm.1, mm.2.1, gs.rl, gs.ws, gs.wl⟩
    -- Scene(t[0][::-1], ..)
    refine ⟨_, rfl, t, _, 0, _, rfl, rfl, SqL.of (g012 _ _ ht16), rfl, nA, _, rfl, SqT.of (g012 _ _ hn16), fun q13 hq13 => ?_⟩
    have g13 : Same G12 (upd G12 q13 (.tup (s.names.map V.str).reverse)) := same_new (Same.refl G12) hq13
    have hq13' : upd G12 q13 (.tup (s.names.map V.str).reverse) q13 = some (.tup (s.names.reverse.map V.str)) := by rw [upd_same, List.map_reverse]
    generalize upd G12 q13 (.tup (s.names.map V.str).reverse) = G13 at g13 hq13' ⊢
    have g013 := g012.trans g13
    refine ⟨_, rfl, t, _, 1, _, rfl, rfl, SqL.of (g013 _ _ ht16), rfl, ?_⟩
    refine ⟨_, rfl, t, _, 2, _, rfl, rfl, SqL.of (g013 _ _ ht16), rfl, ?_⟩
    refine ⟨_, rfl, t, _, 3, _, rfl, rfl, SqL.of (g013 _ _ ht16), rfl, ?_⟩
    intro bR dxR nxR ndxR neR
    refine scene_madeR (s := { s with names := s.names.reverse }) (ps := partNames) gR nxR ndxR neR (SqT.of hq13') (List.Perm.refl _) (g013 _ _ hr16) (SqT.of (g013 _ _ hw16)) rfl fun G14 g14 stR => ?_
    have g014 := g013.trans g14
    -- Scene(t[0], t[1] % 3 + 1, ..)
    refine ⟨_, rfl, t, _, 0, _, rfl, rfl, SqL.of (g014 _ _ ht16), rfl, ?_⟩
    refine ⟨_, rfl, t, _, 1, _, rfl, rfl, SqL.of (g014 _ _ ht16), rfl, _, _, rfl, rfl, (show (3 : Int) ≠ 0 by decide), _, _, rfl, rfl, ?_⟩
    refine ⟨_, rfl, t, _, 2, _, rfl, rfl, SqL.of (g014 _ _ ht16), rfl, ?_⟩
    refine ⟨_, rfl, t, _, 3, _, rfl, rfl, SqL.of (g014 _ _ ht16), rfl, ?_⟩
    intro bM dxM nxM ndxM neM
    refine scene_madeR (s := { s with many := s.many.fmod 3 + 1 }) (ps := partNames) gM nxM ndxM neM (SqT.of (g014 _ _ hn16)) (List.Perm.refl _) (g014 _ _ hr16) (SqT.of (g014 _ _ hw16)) rfl fun G15 g15 stM => ?_
    have g015 := g014.trans g15
    refine ⟨(by show 2 ≤ sizeLine; decide), fun o1 ho1 => ?_⟩
    have g16 : Same G15 (upd G15 o1 (.lst [.ref bR, .ref bM])) := same_new (Same.refl G15) ho1
    have ho1' : upd G15 o1 (.lst [.ref bR, .ref bM]) o1 = some (.lst [.ref bR, .ref bM]) := upd_same
    show tSeq _ _ _ _ (upd G15 o1 (.lst [.ref bR, .ref bM]))
    generalize upd G15 o1 (.lst [.ref bR, .ref bM]) = G16 at g16 ho1'
    have g016 := g015.trans g16
    -- turned
    have fw : s.word "first" = "newer" ∨ s.word "first" = "elder" := by
      have := gs.rl "first" (by decide)
      have e : partWords "first" = (["newer", "elder"] : List Str) := by decide +kernel
      rw [e] at this
      rcases List.mem_cons.mp this with h | h
      · exact .inl h
      · exact .inr (List.mem_singleton.mp h)
    refine ⟨_, rfl, ?_⟩
    obtain ⟨dx16, vs16, slt16⟩ := slt G16 (stK.same g016)
    refine ⟨_, rfl, b, dx16, vs16, rfl, slt16, ?_⟩
    intro dd hdd
    refine ⟨upd_same, neD, rfl, (by show 2 ≤ 15; decide), ?_⟩
    have emd : mergeK [] neD = neD := rfl
    rw [emd, upd_upd]
    have g17 : Same G16 (upd G16 dd (.dK neD)) := same_new (Same.refl G16) hdd
    have hdd' : upd G16 dd (.dK neD) dd = some (.dK neD) := upd_same
    generalize upd G16 dd (.dK neD) = G17 at g17 hdd' ⊢
    have g017 := g016.trans g17
    have eF := valV_map (fun q => V.str (s.word q)) "first" partNames
    rw [if_pos (by decide)] at eF
    obtain ⟨w2, hw2, hwn, hwp⟩ : ∃ w2 : Str, valV neD (Sum.inr (s.word "first")) = some (.str w2) ∧ s.word "first" ≠ w2 ∧ w2 ∈ partWords "first" := by
      rcases fw with h | h
      · rw [h]; exact ⟨"elder", rfl, by decide, by decide +kernel⟩
      · rw [h]; exact ⟨"newer", rfl, by decide, by decide +kernel⟩
    refine ⟨_, rfl, t, _, 2, _, rfl, rfl, SqL.of (g017 _ _ ht16), rfl, rA, .str (s.word "first"), rfl, (by rw [← eF]; exact DGet.k (k := Sum.inr "first") (g017 _ _ hr16)), ?_⟩
    refine ⟨dd, .str w2, rfl, (by rw [← hw2]; exact DGet.k (k := Sum.inr (s.word "first")) hdd'), ?_⟩
    have tf : turnFault (.str "first") (.str w2) = none := by
      show (if ("first" : Str) ∈ partNames then (if goodPart "first" (some (.str w2)) = true then none else some ("first" : Str)) else some ("" : Str)) = none
      rw [if_pos (by decide), if_pos (show goodPart "first" (some (.str w2)) = true from decide_eq_true hwp)]
    have gT : GoodSc (turnSc s (.str "first") (.str w2)) := by
      refine ⟨gs.nm, gs.m1, gs.m2, fun p hp => ?_, gs.ws, gs.wl⟩
      show (if p = ("first" : Str) then w2 else s.word p) ∈ partWords p
      by_cases e : p = "first"
      · rw [if_pos e, e]; exact hwp
      · rw [if_neg e]; exact gs.rl p hp
    refine ⟨b, .str "first", .str w2, s, .str "first", .str w2, rfl, stK.same g017, gs, .str _, .str _, fun _ G18 bT g18 hbT stT => ?_, fun p h => by (rw [tf] at h; cases h)⟩
    have g018 := g017.trans g18
    refine ⟨(by show 1 ≤ sizeLine; decide), fun o2 ho2 => ?_⟩
    have g19 : Same G18 (upd G18 o2 (.lst [.ref bT])) := same_new (Same.refl G18) ho2
    refine ⟨o1, o2, _, _, rfl, rfl, g19 _ _ ((g17.trans g18) _ _ ho1'), upd_same, (by show 2 + 1 ≤ sizeLine; decide), fun o3 ho3 => ?_⟩
    have g20 : Same G18 (upd (upd G18 o2 (.lst [.ref bT])) o3 (.lst ([.ref bR, .ref bM] ++ [.ref bT]))) := same_new g19 ho3
    have ho3' : upd (upd G18 o2 (.lst [.ref bT])) o3 (.lst ([.ref bR, .ref bM] ++ [.ref bT])) o3 = some (.lst [.ref bR, .ref bM, .ref bT]) := upd_same
    show tSeq _ _ _ _ (upd (upd G18 o2 (.lst [.ref bT])) o3 (.lst ([.ref bR, .ref bM] ++ [.ref bT])))
    generalize upd (upd G18 o2 (.lst [.ref bT])) o3 (.lst ([.ref bR, .ref bM] ++ [.ref bT])) = G20 at g20 ho3'
    have g020 := g018.trans g20
    have stR' : SceneAt K C G20 bR { s with names := s.names.reverse } := stR.same (g15.trans (g16.trans (g17.trans (g18.trans g20))))
    have stM' : SceneAt K C G20 bM { s with many := s.many.fmod 3 + 1 } := stM.same (g16.trans (g17.trans (g18.trans g20)))
    have stT' := stT.same g20
    have nd : s.words.Nodup := dr2.wn
    have pw : s.words.Pairwise leS := dr2.wp
    -- without each word
    refine ⟨_, rfl, _, rfl, t, _, 3, _, rfl, rfl, SqL.of (g020 _ _ ht16), rfl, wA, rfl, ⟨_, SqT.of (g020 _ _ hw16)⟩, fun D2 hD2 => ?_⟩
    refine lc_it walk_tup (fun i G => ∃ L : List Addr, Same G20 G ∧ G D2 = some (.lst (L.map V.ref)) ∧ Paired (fun x c => SceneAt K C G c (outSc s x)) (s.words.take i) L) ⟨[], same_new (Same.refl G20) hD2, upd_same, .nil⟩ (fun i G _ ⟨_, g, _⟩ => SqT.of (g _ _ (g020 _ _ hw16))) (fun i v G G' hi ⟨L, g, hDL, pL⟩ q => ?_) (fun G ⟨L, g, hDL, pL⟩ => ?_)
    · obtain ⟨rfl, hy⟩ := q
      rw [List.getElem?_map] at hy
      obtain ⟨x, hx, rfl⟩ : ∃ z, s.words[i]? = some z ∧ V.str z = v := by
        cases q : s.words[i]? with
        | none => rw [q] at hy; cases hy
        | some z => rw [q] at hy; exact ⟨z, rfl, Option.some.inj hy⟩
      refine ⟨rfl, ?_⟩
      refine lc_yes ?_
      obtain ⟨dxx, vsx, sltx⟩ := slt G' (stK.same (g020.trans g))
      refine ⟨_, rfl, b, dxx, vsx, rfl, sltx, _, rfl, b, x, s, rfl, stK.same (g020.trans g), gs, nd, pw, List.mem_of_getElem? hx, fun G3 bx g3 hbx stx => ?_⟩
      have hl := Paired.length pL
      rw [List.length_take] at hl
      refine ⟨L.map V.ref, g3 _ _ hDL, ?_, L ++ [bx], same_mut (g.trans g3) hD2, ?_, ?_⟩
      · rw [List.length_map]
        exact Nat.lt_of_le_of_lt (show L.length ≤ 9 by omega) (by decide)
      · rw [upd_same, List.map_append]; rfl
      · rw [List.take_add_one, hx]
        exact paired_app (Paired.mapP pL fun _ _ z => (z.same g3).putL (g3 _ _ hDL)) (.cons (stx.putL (g3 _ _ hDL)) .nil)
    rw [List.length_map, List.take_length] at pL
    have hL := Paired.length pL
    refine ⟨o3, D2, _, _, rfl, rfl, g _ _ ho3', hDL, ?_, fun o4 ho4 => ?_⟩
    · rw [List.length_map]
      exact Nat.le_trans (show 3 + L.length ≤ 20 by omega) (by decide)
    -- the list of all others
    have oth : ∃ U : List (Addr × Sc), [V.ref bR, V.ref bM, V.ref bT] ++ L.map V.ref = U.map (fun u => V.ref u.1) ∧ U.length ≤ 12 ∧ ∀ u ∈ U, SceneAt K C G u.1 u.2 ∧ GoodSc u.2 ∧ scEq s u.2 = false := by
      refine ⟨(bR, { s with names := s.names.reverse }) :: (bM, { s with many := s.many.fmod 3 + 1 }) :: (bT, turnSc s (.str "first") (.str w2)) :: (L.zip (s.words.map (outSc s))), ?_, ?_, fun u hu => ?_⟩
      · show _ :: _ :: _ :: L.map V.ref = _ :: _ :: _ :: ((L.zip (s.words.map (outSc s))).map fun u => V.ref u.1)
        have e : ((L.zip (s.words.map (outSc s))).map fun u => V.ref u.1) = L.map V.ref := by
          have e1 : ((L.zip (s.words.map (outSc s))).map fun u => V.ref u.1) = ((L.zip (s.words.map (outSc s))).map Prod.fst).map V.ref := by rw [List.map_map]; rfl
          rw [e1, List.map_fst_zip (by rw [List.length_map]; omega)]
        rw [e]
      · rw [List.length_cons, List.length_cons, List.length_cons, List.length_zip, List.length_map]
        omega
      · rcases List.mem_cons.mp hu with rfl | hu
        · exact ⟨stR'.same g, gR, scF _ (.inl nR)⟩
        rcases List.mem_cons.mp hu with rfl | hu
        · exact ⟨stM'.same g, gM, scF _ (.inr (.inl mm.2.2))⟩
        rcases List.mem_cons.mp hu with rfl | hu
        · exact ⟨stT'.same g, gT, scF _ (.inr (.inr (.inl ⟨"first", by decide, by show s.word "first" ≠ (if ("first" : Str) = ("first" : Str) then w2 else s.word "first"); rw [if_pos rfl]; exact hwn⟩)))⟩
        · have all : ∀ {ws : List Str} {L : List Addr}, Paired (fun x c => SceneAt K C G c (outSc s x)) ws L → (∀ x ∈ ws, x ∈ s.words) → ∀ u ∈ L.zip (ws.map (outSc s)), SceneAt K C G u.1 u.2 ∧ ∃ x ∈ s.words, u.2 = outSc s x := by
            intro ws L hp
            induction hp with
            | nil => intro _ u hu; cases hu
            | @cons x c ws L r t ih =>
              intro hw u hu
              rw [List.map_cons, List.zip_cons_cons] at hu
              rcases List.mem_cons.mp hu with rfl | hu
              · exact ⟨r, x, hw x List.mem_cons_self, rfl⟩
              · exact ih (fun y hy => hw y (List.mem_cons_of_mem _ hy)) u hu
          obtain ⟨h1, x, hx, e⟩ := all pL (fun x hx => hx) u hu
          refine ⟨h1, by rw [e]; exact good_out gs nd pw x, ?_⟩
          rw [e]
          refine scF _ (.inr (.inr (.inr fun e2 => ?_)))
          have : x ∈ (outSc s x).words := by rw [← e2]; exact hx
          have h3 := (List.mem_filter.mp this).2
          rw [decide_eq_true (rfl : x = x)] at h3
          cases h3
    obtain ⟨U, eU, lU, hU⟩ := oth
    rw [eU]
    have g21 : Same G (upd G o4 (.lst (U.map fun u => V.ref u.1))) := same_new (Same.refl G) ho4
    have ho4' : upd G o4 (.lst (U.map fun u => V.ref u.1)) o4 = some (.lst (U.map fun u => V.ref u.1)) := upd_same
    show tSeq _ _ _ _ (upd G o4 (.lst (U.map fun u => V.ref u.1)))
    generalize upd G o4 (.lst (U.map fun u => V.ref u.1)) = G21 at g21 ho4'
    have g021 := g020.trans (g.trans g21)
    have hU' : ∀ u ∈ U, SceneAt K C G21 u.1 u.2 ∧ GoodSc u.2 ∧ scEq s u.2 = false := fun u hu => ⟨(hU u hu).1.same g21, (hU u hu).2⟩
    clear hU eU pL hL hDL stR' stM' stT'
    -- any([scene == other ..]) or not scene == built(t)
    refine ⟨_, rfl, o4, rfl, ⟨_, SqL.of ho4'⟩, fun D3 hD3 => ?_⟩
    refine lc_it walk_list (Cv G21 D3 fun i => ((U.take i).map fun _ => false).map V.bl) (cv0 hD3 rfl) (fun i G3 _ p => SqL.of (p.1 _ _ ho4')) (fun i v G3 G3' hi p q => ?_) (fun G3 p => ?_)
    · obtain ⟨rfl, hy⟩ := q
      rw [List.getElem?_map] at hy
      obtain ⟨u, hu, rfl⟩ : ∃ z, U[i]? = some z ∧ V.ref z.1 = v := by
        cases q : U[i]? with
        | none => rw [q] at hy; cases hy
        | some z => rw [q] at hy; exact ⟨z, rfl, Option.some.inj hy⟩
      obtain ⟨h1, h2, h3⟩ := hU' u (List.mem_of_getElem? hu)
      refine ⟨rfl, ?_⟩
      refine lc_yes ?_
      refine ⟨_, rfl, _, rfl, b, s, rfl, stK.same (g021.trans p.1), gs, .inl ⟨u.1, u.2, rfl, h1.same p.1, h2, ?_⟩⟩
      rw [h3]
      refine cv_yes hD3 p.1 p.2 ?_ ?_
      · simp only [List.length_map, List.length_take]
        omega
      · rw [snoc_at (fun _ => false) hu, List.map_append]
        rfl
    · have hp2 : G3 D3 = some (.lst ((U.map fun _ => false).map V.bl)) := by
        have z := p.2
        rw [List.length_map] at z
        dsimp only at z
        rw [List.take_length] at z
        exact z
      refine ⟨D3, U.map fun _ => false, rfl, SqL.of hp2, _, rfl, ?_⟩
      have ea : (U.map fun _ => false).any id = false := by
        rw [List.any_map]
        exact List.any_eq_false.mpr fun _ _ => Bool.false_ne_true
      rw [ea]
      refine iteF ?_
      have g3 := g021.trans p.1
      refine ⟨_, rfl, _, rfl, t, s, rfl, five3 _ g3, gs, fun G4 b6 g4 hb6 st6 => ?_⟩
      have g4' := g3.trans g4
      refine ⟨b, s, rfl, stK.same g4', gs, .inl ⟨b6, s, rfl, st6, gs, _, rfl, ?_⟩⟩
      rw [scEq_self]
      refine iteF ?_
      -- all([without(word) == Scene(..) for word in t[3]])
      refine ⟨_, rfl, t, _, 3, _, rfl, rfl, SqL.of (g4' _ _ ht16), rfl, wA, rfl, ⟨_, SqT.of (g4' _ _ hw16)⟩, fun D4 hD4 => ?_⟩
      refine lc_it walk_tup (Cv G4 D4 fun i => ((s.words.take i).map fun _ => true).map V.bl) (cv0 hD4 rfl) (fun i G5 _ p => SqT.of (p.1 _ _ (g4' _ _ hw16))) (fun i v G5 G5' hi p q => ?_) (fun G5 p => ?_)
      · obtain ⟨rfl, hy⟩ := q
        rw [List.getElem?_map] at hy
        obtain ⟨x, hx, rfl⟩ : ∃ z, s.words[i]? = some z ∧ V.str z = v := by
          cases q : s.words[i]? with
          | none => rw [q] at hy; cases hy
          | some z => rw [q] at hy; exact ⟨z, rfl, Option.some.inj hy⟩
        have g5 := g4'.trans p.1
        refine ⟨rfl, ?_⟩
        refine lc_yes ?_
        obtain ⟨dxx, vsx, sltx⟩ := slt G5' (stK.same g5)
        refine ⟨_, rfl, b, dxx, vsx, rfl, sltx, _, rfl, b, x, s, rfl, stK.same g5, gs, nd, pw, List.mem_of_getElem? hx, fun G6 bx g6 hbx stx => ?_⟩
        have g06 := g5.trans g6
        refine ⟨_, rfl, t, _, 0, _, rfl, rfl, SqL.of (g06 _ _ ht16), rfl, ?_⟩
        refine ⟨_, rfl, t, _, 1, _, rfl, rfl, SqL.of (g06 _ _ ht16), rfl, ?_⟩
        refine ⟨_, rfl, t, _, 2, _, rfl, rfl, SqL.of (g06 _ _ ht16), rfl, ?_⟩
        refine ⟨_, rfl, t, _, 3, _, rfl, rfl, SqL.of (g06 _ _ ht16), rfl, wA, rfl, ⟨_, SqT.of (g06 _ _ hw16)⟩, fun D5 hD5 => ?_⟩
        refine lc_it walk_tup (Cv G6 D5 fun i => ((s.words.take i).filter fun y => !decide (y = x)).map V.str) (cv0 hD5 rfl) (fun i G7 _ p => SqT.of (p.1 _ _ (g06 _ _ hw16))) (fun j v G7 G7' hj p7 q => ?_) (fun G7 p7 => ?_)
        · obtain ⟨rfl, hy⟩ := q
          rw [List.getElem?_map] at hy
          obtain ⟨z, hz, rfl⟩ : ∃ z, s.words[j]? = some z ∧ V.str z = v := by
            cases q : s.words[j]? with
            | none => rw [q] at hy; cases hy
            | some z => rw [q] at hy; exact ⟨z, rfl, Option.some.inj hy⟩
          refine ⟨rfl, ?_⟩
          refine ⟨_, rfl, _, rfl, rfl, _, rfl, ?_⟩
          rw [str_decide]
          have et : s.words.take (j + 1) = s.words.take j ++ [z] := by rw [List.take_add_one, hz]; rfl
          cases q : !decide (z = x) with
          | true =>
            refine iteT ?_
            refine ⟨_, rfl, cv_yes hD5 p7.1 p7.2 ?_ ?_⟩
            · rw [List.length_map]
              refine Nat.le_trans (List.length_filter_le ..) ?_
              rw [List.length_take]
              omega
            · rw [et, List.filter_append, List.map_append]
              simp only [List.filter_cons, q, List.filter_nil]
              rfl
          | false =>
            refine iteF ?_
            refine cv_no p7.1 p7.2 ?_
            rw [et, List.filter_append, List.map_append]
            simp only [List.filter_cons, q, List.filter_nil]
            exact List.append_nil _
        · have e : G7 D5 = some (.lst ((outSc s x).words.map V.str)) := by
            have z := p7.2
            rw [List.length_map] at z
            dsimp only at z
            rw [List.take_length] at z
            exact z
          refine ⟨D5, _, rfl, .inl ⟨SqL.of e, fun tp htp => ?_⟩⟩
          have g8 : Same G7 (upd G7 tp (.tup ((outSc s x).words.map V.str))) := same_new (Same.refl G7) htp
          have ht8 : upd G7 tp (.tup ((outSc s x).words.map V.str)) tp = some (.tup ((outSc s x).words.map V.str)) := upd_same
          intro bz dz nx ndx ne
          generalize upd G7 tp (.tup ((outSc s x).words.map V.str)) = G8 at g8 ht8 nx ndx ⊢
          have g68 := p7.1.trans g8
          have g08 := g06.trans g68
          refine scene_madeR (s := outSc s x) (ps := partNames) (good_out gs nd pw x) nx ndx ne (SqT.of (g08 _ _ hn16)) (List.Perm.refl _) (g08 _ _ hr16) (SqT.of ht8) rfl fun G9 g9 stz => ?_
          refine ⟨bx, outSc s x, rfl, stx.same (g68.trans g9), good_out gs nd pw x, .inl ⟨bz, outSc s x, rfl, stz, good_out gs nd pw x, ?_⟩⟩
          rw [scEq_self]
          have gg := g6.trans (g68.trans g9)
          refine cv_yes hD4 (p.1.trans gg) (gg _ _ p.2) ?_ ?_
          · simp only [List.length_map, List.length_take]
            omega
          · rw [snoc_at (fun _ => true) hx, List.map_append]
            rfl
      · have hp2 : G5 D4 = some (.lst ((s.words.map fun _ => true).map V.bl)) := by
          have z := p.2
          rw [List.length_map] at z
          dsimp only at z
          rw [List.take_length] at z
          exact z
        refine ⟨D4, s.words.map fun _ => true, rfl, SqL.of hp2, ?_⟩
        have ea : (s.words.map fun _ => true).all id = true := by
          rw [List.all_map]
          exact List.all_eq_true.mpr fun _ _ => rfl
        show Q (.bl ((s.words.map fun _ => true).all id)) G5
        rw [ea]
        exact k G5
end
end HP

namespace HP
open PySem PySem.Spec PyProof.Rows L2
abbrev sIR : Stmt := inClass (top 4) 0
section
variable {P : Program} {w : World} {K : PySem.W.Frag} {mg : Str → Option Value} {base : Heap}
theorem scIR : FnScope ["self", "part"] ["self", "part"] (defScope sIR) := ⟨rfl, rfl, rfl, by decide +kernel, rfl, by decide +kernel, by decide +kernel⟩
theorem ok_initRule {C fI : Addr} {fd : FuncData} (F : FunD K "__init__" "InvalidRule.__init__" (defArgs sIR) (defBody sIR) (defScope sIR) [] [] fI fd) (O : OexC K C) (hno : PySem.W.findIn K (.ref C) "part" = some none) : FnOk P w K mg base CX0 1 fI fd ["self", "part"] (spInit1 C "part") := by
  refine F.ok scIR (fun vs H Q E h => ?_) (fun cdv A outer s0 H vs Q E hr h => ?_)
  · obtain ⟨a, y, rfl, _⟩ := h
    rfl
  · obtain ⟨a, y, rfl, ha, k⟩ := h
    refine ⟨_, (pss_one (ps_ost (pv 0) (pv 1))), ?_⟩
    exact ⟨_, rfl, _, rfl, a, C, rfl, O, hno, .inl ⟨ha, fun dx h1 h2 => k dx h1 h2⟩⟩
end
end HP

namespace HP
open PySem PySem.Spec PyProof.Rows L2
abbrev sIT : Stmt := inClass (top 7) 0
section
variable {P : Program} {w : World} {K : PySem.W.Frag} {mg : Str → Option Value} {base : Heap}
theorem scIT : FnScope ["self", "line", "word"] ["self", "line", "word"] (defScope sIT) := ⟨rfl, rfl, rfl, by decide +kernel, rfl, by decide +kernel, by decide +kernel⟩
theorem ok_initText {C fI : Addr} {fd : FuncData} (F : FunD K "__init__" "InvalidText.__init__" (defArgs sIT) (defBody sIT) (defScope sIT) [] [] fI fd) (O : OexC K C) (n1 : PySem.W.findIn K (.ref C) "line" = some none) (n2 : PySem.W.findIn K (.ref C) "word" = some none) : FnOk P w K mg base CX0 1 fI fd ["self", "line", "word"] (spInit2 C "line" "word") := by
  refine F.ok scIT (fun vs H Q E h => ?_) (fun cdv A outer s0 H vs Q E hr h => ?_)
  · obtain ⟨a, y, z, rfl, _⟩ := h
    rfl
  · obtain ⟨a, y, z, rfl, ha, k⟩ := h
    refine ⟨_, (pss_cons (ps_ost (pv 0) (pv 1))
      (pss_one (ps_ost (pv 0) (pv 2)))), ?_⟩
    refine ⟨_, rfl, _, rfl, a, C, rfl, O, n1, .inl ⟨ha, fun dx h1 h2 => ?_⟩⟩
    exact ⟨_, rfl, _, rfl, a, C, rfl, O, n2, .inr ⟨dx, _, upd_same, by rw [upd_ne h2, upd_same], by show 1 ≤ 900; decide, k dx h1 h2⟩⟩
end
end HP

namespace HP
open PySem PySem.Spec PyProof.Rows L2
abbrev sUW : Stmt := inClass (top 6) 0
section
variable {P : Program} {w : World} {K : PySem.W.Frag} {mg : Str → Option Value} {base : Heap}
theorem scUW : FnScope ["self", "word"] ["self", "word"] (defScope sUW) := ⟨rfl, rfl, rfl, by decide +kernel, rfl, by decide +kernel, by decide +kernel⟩
theorem ok_initWord {C fI : Addr} {fd : FuncData} (F : FunD K "__init__" "UnknownWord.__init__" (defArgs sUW) (defBody sUW) (defScope sUW) [] [] fI fd) (O : OexC K C) (hno : PySem.W.findIn K (.ref C) "word" = some none) : FnOk P w K mg base CX0 1 fI fd ["self", "word"] (spInit1 C "word") := by
  refine F.ok scUW (fun vs H Q E h => ?_) (fun cdv A outer s0 H vs Q E hr h => ?_)
  · obtain ⟨a, y, rfl, _⟩ := h
    rfl
  · obtain ⟨a, y, rfl, ha, k⟩ := h
    refine ⟨_, (pss_one (ps_ost (pv 0) (pv 1))), ?_⟩
    exact ⟨_, rfl, _, rfl, a, C, rfl, O, hno, .inl ⟨ha, fun dx h1 h2 => k dx h1 h2⟩⟩
end
end HP

namespace HP
open PySem PySem.Spec PyProof.Rows L2
/-! ### what the Bools of the written part say -/
section
variable {K : PySem.W.Frag} {h : Heap} {mg : Str → Option Value} {P : Program} {w : World} {base : Heap}
theorem ea_ok {a b : Option (Option Value)} (h : ea a b = true) : a = b := of_decide_eq_true h
theorem excB_ok (X : K.In h) (G : h.Ns mainGlobals mg) {x : Str} (c : excB K x = true) : Exc0 K mg x (He.ga K x) := by
  obtain ⟨c1, c⟩ := He.ba c
  obtain ⟨c2, c⟩ := He.ba c
  obtain ⟨c3, c⟩ := He.ba c
  obtain ⟨c4, c5⟩ := He.ba c
  exact ⟨PySem.W.mg_of X G (ea_ok c5), c1, c2, of_decide_eq_true c3, of_decide_eq_true c4⟩
theorem clsB_ok {C : Addr} (c : clsB K C = true) : ∃ nm q N bs bm sn sub ab col dd k0 k1 k2 k3 k5, K.lookup C = some (excClassObj nm q C N bs bm true sn sub ab col dd k0 k1 k2 k3 k5 "ValueError.__new__") ∧ PySem.HandSPX.refsVE bm = true := by
  unfold clsB at c
  split at c
  · rename_i o dd cd sl q
    split at c
    · rename_i C2 bm k0 k1 k2 k3 n k5 e1 e2
      obtain ⟨c, c5⟩ := He.ba c
      obtain ⟨c, c4⟩ := He.ba c
      obtain ⟨c, c3⟩ := He.ba c
      obtain ⟨c1, c2⟩ := He.ba c
      have z1 : C2 = C := beq_iff_eq.mp c1
      have z2 : n = "ValueError.__new__" := beq_iff_eq.mp c2
      subst z1 z2
      obtain ⟨nm, bs, mro, ns, qn, hd, sn, sub, ab, col, hdl⟩ := cd
      dsimp only at e1 c3 c4
      subst e1
      have z3 : hdl = false := by cases hdl <;> first | rfl | cases c3
      subst z3
      have z4 : hd = true := c4
      subst z4
      have z5 : sl = #[k0, k1, k2, k3, some (.builtin "ValueError.__new__"), k5] := by
        rw [← e2]
      subst z5
      exact ⟨nm, qn, ns, bs, bm, sn, sub, ab, col, dd, k0, k1, k2, k3, k5, q, c5⟩
    · cases c
  · cases c
theorem oexB_ok {C : Addr} (c : oexB K C = true) : OexC K C := by
  obtain ⟨c1, c⟩ := He.ba c
  obtain ⟨c2, c⟩ := He.ba c
  obtain ⟨c3, c⟩ := He.ba c
  obtain ⟨c4, c5⟩ := He.ba c
  exact ⟨clsB_ok c1, ea_ok c2, of_decide_eq_true c3, of_decide_eq_true c4, c5⟩
structure Ex1 (K : PySem.W.Frag) (mg : Str → Option Value) (x f : Str) : Prop where
  oc : OexC K (He.ga K x)
  gl : mg x = some (.ref (He.ga K x))
  ini : PySem.W.findIn K (.ref (He.ga K x)) "__init__" = some (some (.ref (He.ma K (He.ga K x) "__init__")))
  ty : PySem.W.typeIn K (.ref (He.ma K (He.ga K x) "__init__")) = some (.type "function")
  no : PySem.W.findIn K (.ref (He.ga K x)) f = some none
  xf : XfC K (He.ga K x)
theorem exc1B_ok (X : K.In h) (G : h.Ns mainGlobals mg) {x f : Str} (c : exc1B K x f = true) : Ex1 K mg x f := by
  obtain ⟨c1, c⟩ := He.ba c
  obtain ⟨c2, c⟩ := He.ba c
  obtain ⟨c3, c⟩ := He.ba c
  obtain ⟨c4, c⟩ := He.ba c
  obtain ⟨c5, c6⟩ := He.ba c
  exact ⟨oexB_ok c1, PySem.W.mg_of X G (ea_ok c2), ea_ok c3, of_decide_eq_true c4, ea_ok c5, xfB_ok c6⟩
end
end HP

namespace HP
open PySem PySem.Spec PyProof.Rows L2 SlX
section
variable {K : PySem.W.Frag} {h : Heap} {mg : Str → Option Value} {P : Program} {w : World} {base : Heap}
theorem slotB_ok {C : Addr} {f : Str} {i : Nat} (c : slotB K C f i = true) : ∃ p, Slot1 K C f p i := by
  obtain ⟨c1, c⟩ := He.ba c
  obtain ⟨c2, c⟩ := He.ba c
  obtain ⟨c3, c⟩ := He.ba c
  obtain ⟨c4, c⟩ := He.ba c
  obtain ⟨c5, c6⟩ := He.ba c
  exact ⟨_, ea_ok c1, ea_ok c2, of_decide_eq_true c3, of_decide_eq_true c4, of_decide_eq_true c5, of_decide_eq_true c6⟩
theorem sceneB_ok (c : sceneB K = true) : SlC K (He.ga K "Scene") := by
  obtain ⟨c1, c⟩ := He.ba c
  obtain ⟨c2, c⟩ := He.ba c
  obtain ⟨c3, c⟩ := He.ba c
  obtain ⟨c4, c5⟩ := He.ba c
  obtain ⟨d1, d⟩ := He.ba c1
  obtain ⟨d2, d⟩ := He.ba d
  obtain ⟨d3, d4⟩ := He.ba d
  exact ⟨⟨d1, d2, d3, ea_ok d4⟩, slotB_ok c2, slotB_ok c4, slotB_ok c3, slotB_ok c5⟩
theorem tupAt_ok {a : Addr} {ws : List Str} (c : tupAt K a ws = true) (H : Hp) : SqT K H a (ws.map V.str) := by
  unfold tupAt at c
  split at c
  · rename_i o cl dd its fl sl q
    obtain ⟨c1, c⟩ := He.ba c
    obtain ⟨c2, c3⟩ := He.ba c
    have z : cl = "tuple" := of_decide_eq_true c1
    subst z
    exact .inr ⟨_, its, _, q, rfl, rfl, of_decide_eq_true c2, He.relAll_ok c3⟩
  · cases c
/-! ### the table PARTS -/
def entAd (es : List DictEntry) (p : Str) : Addr := match es.find? (fun e => match e.key with
    | .str x _ => decide (x = p)
    | _ => false) with
  | some e => (match e.val with
    | .ref a => a
    | _ => 0)
  | none => 0
def entsB (f : Str → Addr) : List Str → List DictEntry → Bool
  | [], [] => true
  | p :: ps, e :: es => (match e.key with
      | .str x _ => decide (x = p)
      | _ => false) && (decide (e.val = .ref (f p)) && entsB f ps es)
  | _, _ => false
def partPa (K : PySem.W.Frag) (p : Str) : Addr := match K.lookup (He.ga K "PARTS") with
  | some ⟨_, _, .dict es _, _⟩ => entAd es.toList p
  | _ => 0
def tabB (K : PySem.W.Frag) : Bool := (match K.lookup (He.ga K "PARTS") with
  | some ⟨_, _, .dict es _, _⟩ => entsB (partPa K) partNames es.toList
  | _ => false) && (partNames.all fun p => tupAt K (partPa K p) (partWords p))
theorem ents_ok {f : Str → Addr} : ∀ {ps : List Str} {es : List DictEntry}, entsB f ps es = true → Pairs (mixKind P w) es (ps.map fun p => (Sum.inr p, Value.ref (f p)))
  | [], [], _ => .nil
  | [], _ :: _, c => by cases c
  | _ :: _, [], c => by cases c
  | p :: ps, e :: es, c => by
    obtain ⟨c1, c⟩ := He.ba c
    obtain ⟨c2, c3⟩ := He.ba c
    refine .cons ?_ (of_decide_eq_true c2) (ents_ok c3)
    split at c1
    · rename_i x t q
      have z : x = p := of_decide_eq_true c1
      subst z
      show keyIs (Sum.inr x) e.key = true
      rw [q]
      exact keyIs_str x t
    · cases c1
theorem kv_refs {f : Str → Addr} : ∀ ps : List Str, KV (ps.map fun p => ((Sum.inr p : Key), V.ref (f p))) (ps.map fun p => (Sum.inr p, Value.ref (f p)))
  | [] => .nil
  | p :: ps => .cons ⟨rfl, rfl⟩ (kv_refs ps)
theorem wd_of {es : Array DictEntry} {n : Nat} (D : KDict K w (He.ga K "PARTS") es n) (c : tabB K = true) : WD P w K (He.ga K "PARTS") (partNames.map fun p => (Sum.inr p, V.ref (partPa K p))) := by
  obtain ⟨c1, _⟩ := He.ba c
  rw [D.at_] at c1
  have c1 : entsB (partPa K) partNames es.toList = true := c1
  refine ⟨D.low, _, es, n, partNames.map fun p => (Sum.inr p, Value.ref (partPa K p)), D.at_, ⟨rfl, rfl, rfl⟩, rfl, kv_refs partNames, fun e he => ?_, ents_ok c1, ?_⟩
  · obtain ⟨x, t, e1, e2⟩ := D.lit.all e (Array.mem_toList_iff.mpr he)
    exact ⟨Sum.inr x, (by rw [e1]; exact mixKind_str P w x t), e2⟩
  · rw [List.map_map]
    exact List.Pairwise.map _ (fun a b hab e => hab (Sum.inr.inj e)) nodup_parts
end
end HP

namespace HP
open PySem PySem.Spec PyProof.Rows L2
/-! ### a hook with defs at any address (getters of properties) -/
abbrev AlY : Type := He.AlX × (Bool × List He5.FnW)
def frY (n : Nat) (g : Addr → Option Obj) : PySem.W.Frag := He.frT g (He.asD g n)
def obsY (n : Nat) (fa : List He.Fa) (fn : List He.DefD) (ts : List He.Tab) (ex : PySem.W.Frag → Bool) (fp : List He5.DefA) (g : Addr → Option Obj) : AlY := (He.obsX n fa fn ts [] ex g, (fp.all fun d => d.ok (frY n g)), fp.map fun d => He5.fnA (frY n g) (d.at_ (frY n g)))
def valY (fn : List He.DefD) (ts : List He.Tab) (fp : List He5.DefA) (w : World) : AlY := (He.valX fn ts w, true, fp.map He5.DefA.val)
structure SaysY (fa : List He.Fa) (fn : List He.DefD) (ts : List He.Tab) (ex : PySem.W.Frag → Bool) (fp : List He5.DefA) (w : World) (h : Heap) (K : PySem.W.Frag) : Prop where
  x : He.SaysX fa fn ts [] ex w h K
  ok : (fp.all fun d => d.ok K) = true
  fns : (fp.map fun d => He5.fnA K (d.at_ K)) = fp.map He5.DefA.val
def hookY (n : Nat) (fa : List He.Fa) (fn : List He.DefD) (ts : List He.Tab) (ex : PySem.W.Frag → Bool) (fp : List He5.DefA) : PySem.W.Hook where
  α := AlY
  obs := fun s => obsY n fa fn ts ex fp s.heap.get?
  val := fun w => valY fn ts fp w
  says := fun w h => ∃ K : PySem.W.Frag, K.In h ∧ SaysY fa fn ts ex fp w h K
  of := fun w s e => ⟨_, He.frT_in, He.saysX_of (congrArg (fun z : AlY => z.1) e), congrArg (fun z : AlY => z.2.1) e, congrArg (fun z : AlY => z.2.2) e⟩
  keeps := fun _ _ _ ⟨K, hK, c⟩ k => ⟨K, PySem.W.Frag.In.keeps hK k, ⟨c.x.t, c.x.more, c.x.hd, c.x.out, fun p hp => k _ _ (c.x.empty p hp)⟩, c.ok, c.fns⟩
theorem obsY_eq {n : Nat} {fa : List He.Fa} {fn : List He.DefD} {ts : List He.Tab} {ex : PySem.W.Frag → Bool} {fp : List He5.DefA} {g : Addr → Option Obj} {s : Shared} (h : ∀ a, g a = s.heap.get? a) : obsY n fa fn ts ex fp g = (hookY n fa fn ts ex fp).obs s := by
  have e : g = s.heap.get? := funext h
  rw [e] <;> rfl
theorem SaysY.def_ {fa : List He.Fa} {fn : List He.DefD} {ts : List He.Tab} {ex : PySem.W.Frag → Bool} {fp : List He5.DefA} {w : World} {h : Heap} {K : PySem.W.Frag} (c : SaysY fa fn ts ex fp w h K) (i : Nat) {d : He5.DefA} (hi : fp[i]? = some d := by rfl) : ∃ fd, L2.FunD K d.name d.qual d.params d.body d.scope (d.dvs K) (d.kws K) (d.at_ K) fd := by
  have e2 : (fp.map fun d => He5.fnA K (d.at_ K))[i]? = (fp.map He5.DefA.val)[i]? := by rw [c.fns]
  rw [List.getElem?_map, List.getElem?_map, hi] at e2
  exact He5.DefA.funD (Option.some.inj e2) (List.all_eq_true.mp c.ok d (List.mem_of_getElem? hi))
/-! ### properties, == by the Bools -/
def propB (K : PySem.W.Frag) (C : Addr) (f : Str) : Bool := ea (PySem.W.findIn K (.ref C) f) (some (some (.ref (He.ma K C f)))) && (ea (PySem.W.specialIn K (.ref (He.ma K C f)) "__get__") (some (some (.builtin "property.__get__"))) && (decide (PySem.W.takesIn K (.ref (He.ma K C f)) = some true) &&
  (match PySem.W.recIn K (He.ma K C f) "property" with
    | some (.ref _ :: _) => true
    | _ => false)))
theorem propB_ok {K : PySem.W.Frag} {C : Addr} {f : Str} (h : propB K C f = true) : PySem.W.findIn K (.ref C) f = some (some (.ref (He.ma K C f))) ∧ PySem.W.specialIn K (.ref (He.ma K C f)) "__get__" = some (some (.builtin "property.__get__")) ∧ PySem.W.takesIn K (.ref (He.ma K C f)) = some true ∧ ∃ rest, PySem.W.recIn K (He.ma K C f) "property" = some (.ref (He5.wf K C "property" f) :: rest) := by
  obtain ⟨c1, c⟩ := He.ba h
  obtain ⟨c2, c⟩ := He.ba c
  obtain ⟨c3, c4⟩ := He.ba c
  refine ⟨ea_ok c1, ea_ok c2, of_decide_eq_true c3, ?_⟩
  unfold He5.wf
  split at c4
  · rename_i g r e
    exact ⟨r, by rw [e]⟩
  · cases c4
def isiB (K : PySem.W.Frag) (C : Addr) : Bool := ea (PySem.W.findIn K (.ref C) "__class__") (some (some (.builtin "object.__class__"))) && (ea (PySem.W.specialIn K (.builtin "object.__class__") "__get__") (some (some (.builtin "getset_descriptor.__get__"))) && (decide (PySem.W.takesIn K (.builtin "object.__class__") = some true) && decide (PySem.W.mroIn K C (.type "object") = some true)))
theorem isiB_ok {K : PySem.W.Frag} {C : Addr} (h : isiB K C = true) : SlX.SIsi K C := by
  obtain ⟨c1, c⟩ := He.ba h
  obtain ⟨c2, c⟩ := He.ba c
  obtain ⟨c3, c4⟩ := He.ba c
  exact ⟨ea_ok c1, ea_ok c2, of_decide_eq_true c3, of_decide_eq_true c4⟩
end HP

set_option maxHeartbeats 0
namespace HP
open PySem PySem.Spec PyProof.Rows L2 SlX
/-! ### the head -/
def exB (K : PySem.W.Frag) : Bool := excB K "InvalidThings" && (excB K "InvalidValues" && (excB K "InvalidWords" && (exc1B K "InvalidRule" "part" && (sceneB K && (tabB K && (tupAt K (He.ga K "WORDS") allWords && (exc1B K "InvalidText" "line" && (ea (PySem.W.findIn K (.ref (He.ga K "InvalidText")) "word") (some none) && (tupAt K (He.ga K "DIGITS") digits && (exc1B K "UnknownWord" "word" && (propB K (He.ga K "Scene") "things" && (propB K (He.ga K "Scene") "many" && (propB K (He.ga K "Scene") "words" && (propB K (He.ga K "Scene") "rule" && (isiB K (He.ga K "Scene") && (decide (PySem.W.kitOne K (.ref (He.ga K "Scene")) (.ref (He.ga K "Scene")) = some true) && (decide (PySem.W.kitOne K (.type "list") (.ref (He.ga K "Scene")) = some false) && (PySem.W.notFirst K (He.ga K "Scene") (.ref (He.ga K "Scene")) && (PySem.W.notFirst K (He.ga K "Scene") (.type "list"))))))))))))))))))))
def df0 : He.DefD := ⟨("_law_mix", none), "_law_mix", "_law_mix", defArgs sMix, defBody sMix, defScope sMix, [], []⟩
def df1 : He.DefD := ⟨("_law_next", none), "_law_next", "_law_next", defArgs sNext, defBody sNext, defScope sNext, [], []⟩
def df2 : He.DefD := ⟨("_law_rule", none), "_law_rule", "_law_rule", defArgs sRule, defBody sRule, defScope sRule, [], []⟩
def df3 : He.DefD := ⟨("_law_scene", none), "_law_scene", "_law_scene", defArgs sScene, defBody sScene, defScope sScene, [], []⟩
def df4 : He.DefD := ⟨("_law_rows", none), "_law_rows", "_law_rows", defArgs sRows, defBody sRows, defScope sRows, [], []⟩
def df5 : He.DefD := ⟨("_law_built", none), "_law_built", "_law_built", defArgs sBuilt, defBody sBuilt, defScope sBuilt, [], []⟩
def df6 : He.DefD := ⟨("_law_loose", none), "_law_loose", "_law_loose", defArgs sLoose, defBody sLoose, defScope sLoose, [], []⟩
def df7 : He.DefD := ⟨("law", none), "law", "law", defArgs sLaw, defBody sLaw, defScope sLaw, [], []⟩
def df8 : He.DefD := ⟨("is_integer", none), "is_integer", "is_integer", defArgs sIsInt, defBody sIsInt, defScope sIsInt, [], []⟩
def df9 : He.DefD := ⟨("is_name", none), "is_name", "is_name", defArgs sIsName, defBody sIsName, defScope sIsName, [], []⟩
def df10 : He.DefD := ⟨("are_things", none), "are_things", "are_things", defArgs sThings, defBody sThings, defScope sThings, [], []⟩
def df11 : He.DefD := ⟨("look_at_rule", none), "look_at_rule", "look_at_rule", defArgs sLook, defBody sLook, defScope sLook, [], []⟩
def df12 : He.DefD := ⟨("are_words", none), "are_words", "are_words", defArgs sWords, defBody sWords, defScope sWords, [], []⟩
def df13 : He.DefD := ⟨("read_line", none), "read_line", "read_line", defArgs sRL, defBody sRL, defScope sRL, [], []⟩
def df14 : He.DefD := ⟨("read_scene", none), "read_scene", "read_scene", defArgs sRead, defBody sRead, defScope sRead, [], []⟩
def df15 : He.DefD := ⟨("write_scene", none), "write_scene", "write_scene", defArgs sWrite, defBody sWrite, defScope sWrite, [], []⟩
def df16 : He.DefD := ⟨("Scene", some "__init__"), "__init__", "Scene.__init__", defArgs sInit, defBody sInit, defScope sInit, [], []⟩
def df17 : He.DefD := ⟨("Scene", some "turned"), "turned", "Scene.turned", defArgs sTurned, defBody sTurned, defScope sTurned, [], []⟩
def df18 : He.DefD := ⟨("Scene", some "without"), "without", "Scene.without", defArgs sWithout, defBody sWithout, defScope sWithout, [], []⟩
def df19 : He.DefD := ⟨("Scene", some "__eq__"), "__eq__", "Scene.__eq__", defArgs sEq, defBody sEq, defScope sEq, [], []⟩
def df20 : He.DefD := ⟨("InvalidRule", some "__init__"), "__init__", "InvalidRule.__init__", defArgs sIR, defBody sIR, defScope sIR, [], []⟩
def df21 : He.DefD := ⟨("UnknownWord", some "__init__"), "__init__", "UnknownWord.__init__", defArgs sUW, defBody sUW, defScope sUW, [], []⟩
def df22 : He.DefD := ⟨("InvalidText", some "__init__"), "__init__", "InvalidText.__init__", defArgs sIT, defBody sIT, defScope sIT, [], []⟩
def df23 : He.DefD := ⟨("Line", some "__init__"), "__init__", "Line.__init__", defArgs sLineI, defBody sLineI, defScope sLineI, [], []⟩
def df24 : He.DefD := ⟨("Line", some "refuse"), "refuse", "Line.refuse", defArgs sRefuse, defBody sRefuse, defScope sRefuse, [], []⟩
def df25 : He.DefD := ⟨("Line", some "is_done"), "is_done", "Line.is_done", defArgs sDone, defBody sDone, defScope sDone, [], []⟩
def df26 : He.DefD := ⟨("Line", some "take_one"), "take_one", "Line.take_one", defArgs sOne, defBody sOne, defScope sOne, [], []⟩
def df27 : He.DefD := ⟨("Line", some "take_name"), "take_name", "Line.take_name", defArgs sTName, defBody sTName, defScope sTName, [], []⟩
def df28 : He.DefD := ⟨("Line", some "finish"), "finish", "Line.finish", defArgs sFinish, defBody sFinish, defScope sFinish, [], []⟩
def fnL : List He.DefD := [df0, df1, df2, df3, df4, df5, df6, df7, df8, df9, df10, df11, df12, df13, df14, df15, df16, df17, df18, df19, df20, df21, df22, df23, df24, df25, df26, df27, df28]
def dp0 : He5.DefA := ⟨fun K => He5.wf K (He.ga K "Scene") "property" "things", "things", "Scene.things", defArgs sPThings, defBody sPThings, defScope sPThings, [], []⟩
def dp1 : He5.DefA := ⟨fun K => He5.wf K (He.ga K "Scene") "property" "many", "many", "Scene.many", defArgs sPMany, defBody sPMany, defScope sPMany, [], []⟩
def dp2 : He5.DefA := ⟨fun K => He5.wf K (He.ga K "Scene") "property" "words", "words", "Scene.words", defArgs sPWords, defBody sPWords, defScope sPWords, [], []⟩
def dp3 : He5.DefA := ⟨fun K => He5.wf K (He.ga K "Scene") "property" "rule", "rule", "Scene.rule", defArgs sPRule, defBody sPRule, defScope sPRule, [], []⟩
def fpL : List He5.DefA := [dp0, dp1, dp2, dp3]
def faL : List He.Fa := [.glo "_law_mix", .glo "_law_next", .glo "_law_rule", .glo "_law_scene", .glo "_law_rows", .glo "_law_built", .glo "_law_loose", .glo "law", .glo "is_integer", .glo "is_name", .glo "are_things", .glo "look_at_rule", .glo "are_words", .glo "read_line", .glo "read_scene", .glo "write_scene", .glo "HandError", .glo "InvalidThings", .glo "InvalidValues", .glo "InvalidRule", .glo "InvalidWords", .glo "PARTS", .glo "WORDS", .glo "Scene", .glo "UnknownWord", .glo "InvalidText", .glo "DIGITS", .glo "Line", .free "int", .free "list", .free "len", .free "max", .free "min", .free "isinstance", .free "sorted", .free "all", .free "any", .free "tuple", .free "set", .free "str", .free "bool", .free "dict", .free "range", .free "zip", .free "enumerate", .free "ValueError", .free "super", .str "LETTERS" az, .int "MOST_NAME" 8, .int "MOST_THINGS" 4, .int "MOST_VALUES" 3, .mkr "Scene", .cls "Line", .noat "Line" "number", .noat "Line" "parts", .noat "Line" "place", .meth "Line" "is_done", .meth "Line" "refuse", .meth "Line" "take_one", .meth "Line" "take_name", .meth "Line" "finish", .mkr "Line", .meth "Scene" "__eq__", .meth "Scene" "turned", .meth "Scene" "without"]
def tsL0 : He.Tab := (fun K => He.ga K "PARTS", partNames)
abbrev R : PySem.W.OpenRow := PySem.W.OpenLaw.row PySem.Challenge.rw_handplaced_k14_scenes_written
abbrev hk : PySem.W.Hook := hookY 5 faL fnL [tsL0] exB fpL
def ob (s : PySem.W.SharedT) : AlY := obsY 5 faL fnL [tsL0] exB fpL (HandSHeadRun.getT s)
theorem ob_eq (s : PySem.W.SharedT) : ob s = hk.obs s.abs := obsY_eq (HandSHeadRun.getT_eq s)
def loose : List PySem.Str := [("__name__" : PySem.Str), ("HandError" : PySem.Str), ("InvalidThings" : PySem.Str), ("InvalidValues" : PySem.Str), ("InvalidRule" : PySem.Str), ("InvalidWords" : PySem.Str), ("UnknownWord" : PySem.Str), ("InvalidText" : PySem.Str), ("LETTERS" : PySem.Str), ("MOST_NAME" : PySem.Str), ("MOST_THINGS" : PySem.Str), ("MOST_VALUES" : PySem.Str), ("PARTS" : PySem.Str), ("WORDS" : PySem.Str), ("is_integer" : PySem.Str), ("is_name" : PySem.Str), ("are_things" : PySem.Str), ("look_at_rule" : PySem.Str), ("are_words" : PySem.Str), ("Scene" : PySem.Str), ("DIGITS" : PySem.Str), ("write_scene" : PySem.Str), ("Line" : PySem.Str), ("read_line" : PySem.Str), ("read_scene" : PySem.Str), ("_law_mix" : PySem.Str), ("_law_next" : PySem.Str), ("_law_rule" : PySem.Str), ("_law_scene" : PySem.Str), ("_law_built" : PySem.Str), ("_law_rows" : PySem.Str), ("_law_loose" : PySem.Str)]
theorem facts {P : Program} {w : World} {K : PySem.W.Frag} {h h0 : Heap} {mg : Str → Option Value} {f : Addr} (X : K.In h) (G : h.Ns mainGlobals mg) (hfa : mg ("law" : Str) = some (.ref f)) (cY : SaysY faL fnL [tsL0] exB fpL w h0 K) :
    ∃ fd : FuncData, (∀ (s : Shared) (v : Value), BindsTo s fd ⟨[v], []⟩ [("_law_script", v)]) ∧ ∀ base : Heap, K.In base → base.Ns mainGlobals mg → FnOk P w K mg base CX0 8 f fd ["_law_script"] (spLaw K) := by
  have c := cY.x
  obtain ⟨pd0, P0⟩ := cY.def_ 0 (d := dp0) rfl
  obtain ⟨pd1, P1⟩ := cY.def_ 1 (d := dp1) rfl
  obtain ⟨pd2, P2⟩ := cY.def_ 2 (d := dp2) rfl
  obtain ⟨pd3, P3⟩ := cY.def_ 3 (d := dp3) rfl
  obtain ⟨fd0, F0⟩ := c.t.d.def_ 0 (d := df0) rfl
  obtain ⟨fd1, F1⟩ := c.t.d.def_ 1 (d := df1) rfl
  obtain ⟨fd2, F2⟩ := c.t.d.def_ 2 (d := df2) rfl
  obtain ⟨fd3, F3⟩ := c.t.d.def_ 3 (d := df3) rfl
  obtain ⟨fd4, F4⟩ := c.t.d.def_ 4 (d := df4) rfl
  obtain ⟨fd5, F5⟩ := c.t.d.def_ 5 (d := df5) rfl
  obtain ⟨fd6, F6⟩ := c.t.d.def_ 6 (d := df6) rfl
  obtain ⟨fd7, F7⟩ := c.t.d.def_ 7 (d := df7) rfl
  obtain ⟨fd8, F8⟩ := c.t.d.def_ 8 (d := df8) rfl
  obtain ⟨fd9, F9⟩ := c.t.d.def_ 9 (d := df9) rfl
  obtain ⟨fd10, F10⟩ := c.t.d.def_ 10 (d := df10) rfl
  obtain ⟨fd11, F11⟩ := c.t.d.def_ 11 (d := df11) rfl
  obtain ⟨fd12, F12⟩ := c.t.d.def_ 12 (d := df12) rfl
  obtain ⟨fd13, F13⟩ := c.t.d.def_ 13 (d := df13) rfl
  obtain ⟨fd14, F14⟩ := c.t.d.def_ 14 (d := df14) rfl
  obtain ⟨fd15, F15⟩ := c.t.d.def_ 15 (d := df15) rfl
  obtain ⟨fd16, F16⟩ := c.t.d.def_ 16 (d := df16) rfl
  obtain ⟨fd17, F17⟩ := c.t.d.def_ 17 (d := df17) rfl
  obtain ⟨fd18, F18⟩ := c.t.d.def_ 18 (d := df18) rfl
  obtain ⟨fd19, F19⟩ := c.t.d.def_ 19 (d := df19) rfl
  obtain ⟨fd20, F20⟩ := c.t.d.def_ 20 (d := df20) rfl
  obtain ⟨fd21, F21⟩ := c.t.d.def_ 21 (d := df21) rfl
  obtain ⟨fd22, F22⟩ := c.t.d.def_ 22 (d := df22) rfl
  obtain ⟨fd23, F23⟩ := c.t.d.def_ 23 (d := df23) rfl
  obtain ⟨fd24, F24⟩ := c.t.d.def_ 24 (d := df24) rfl
  obtain ⟨fd25, F25⟩ := c.t.d.def_ 25 (d := df25) rfl
  obtain ⟨fd26, F26⟩ := c.t.d.def_ 26 (d := df26) rfl
  obtain ⟨fd27, F27⟩ := c.t.d.def_ 27 (d := df27) rfl
  obtain ⟨fd28, F28⟩ := c.t.d.def_ 28 (d := df28) rfl
  have cm : exB K = true := c.more
  obtain ⟨m1, cm⟩ := He.ba cm
  obtain ⟨m2, cm⟩ := He.ba cm
  obtain ⟨m3, cm⟩ := He.ba cm
  obtain ⟨m4, cm⟩ := He.ba cm
  obtain ⟨m5, cm⟩ := He.ba cm
  obtain ⟨m6, cm⟩ := He.ba cm
  obtain ⟨m7, cm⟩ := He.ba cm
  obtain ⟨m8, cm⟩ := He.ba cm
  obtain ⟨m9, cm⟩ := He.ba cm
  obtain ⟨m10, cm⟩ := He.ba cm
  obtain ⟨m11, cm⟩ := He.ba cm
  obtain ⟨m12, cm⟩ := He.ba cm
  obtain ⟨m13, cm⟩ := He.ba cm
  obtain ⟨m14, cm⟩ := He.ba cm
  obtain ⟨m15, cm⟩ := He.ba cm
  obtain ⟨m16, cm⟩ := He.ba cm
  obtain ⟨m17, cm⟩ := He.ba cm
  obtain ⟨m18, cm⟩ := He.ba cm
  obtain ⟨m19, cm⟩ := He.ba cm
  have m20 := cm
  have T : Fr mg := ⟨fun x hx => by
    have hx : x ∈ frees := List.contains_iff_mem.mp hx
    simp only [frees, List.mem_cons, List.not_mem_nil, or_false] at hx
    rcases hx with rfl | rfl | rfl | rfl | rfl | rfl | rfl | rfl | rfl | rfl | rfl | rfl | rfl | rfl | rfl | rfl | rfl | rfl | rfl
    · exact He.free_ok X G (c.t.d.fact 28 (f := .free "int") rfl)
    · exact He.free_ok X G (c.t.d.fact 29 (f := .free "list") rfl)
    · exact He.free_ok X G (c.t.d.fact 30 (f := .free "len") rfl)
    · exact He.free_ok X G (c.t.d.fact 31 (f := .free "max") rfl)
    · exact He.free_ok X G (c.t.d.fact 32 (f := .free "min") rfl)
    · exact He.free_ok X G (c.t.d.fact 33 (f := .free "isinstance") rfl)
    · exact He.free_ok X G (c.t.d.fact 34 (f := .free "sorted") rfl)
    · exact He.free_ok X G (c.t.d.fact 35 (f := .free "all") rfl)
    · exact He.free_ok X G (c.t.d.fact 36 (f := .free "any") rfl)
    · exact He.free_ok X G (c.t.d.fact 37 (f := .free "tuple") rfl)
    · exact He.free_ok X G (c.t.d.fact 38 (f := .free "set") rfl)
    · exact He.free_ok X G (c.t.d.fact 39 (f := .free "str") rfl)
    · exact He.free_ok X G (c.t.d.fact 40 (f := .free "bool") rfl)
    · exact He.free_ok X G (c.t.d.fact 41 (f := .free "dict") rfl)
    · exact He.free_ok X G (c.t.d.fact 42 (f := .free "range") rfl)
    · exact He.free_ok X G (c.t.d.fact 43 (f := .free "zip") rfl)
    · exact He.free_ok X G (c.t.d.fact 44 (f := .free "enumerate") rfl)
    · exact He.free_ok X G (c.t.d.fact 45 (f := .free "ValueError") rfl)
    · exact He.free_ok X G (c.t.d.fact 46 (f := .free "super") rfl)⟩
  refine ⟨fd7, ?_, fun base Kb Gb => ?_⟩
  · have b := FunD.bindsA (ps := ["_law_script"]) F7 fun _ _ _ _ _ _ us hl => match us, hl with | [_], _ => rfl
    exact fun s v => b s [v] rfl
  have X1 := excB_ok X G m1
  have X2 := excB_ok X G m2
  have X4 := excB_ok X G m3
  have E3 := exc1B_ok X G m4
  have S := sceneB_ok m5
  obtain ⟨es, ne, KD⟩ := c.t.tab 0 (t := tsL0) rfl
  have WDp : WD P w K (He.ga K "PARTS") _ := wd_of (P := P) KD m6
  have Z : Pt P w K mg (He.ga K "PARTS") (partPa K) := ⟨(He.glo_ok X G (c.t.d.fact 21 (f := .glo "PARTS") rfl)), WDp, fun p hp H => tupAt_ok (List.all_eq_true.mp (He.ba m6).2 p hp) H⟩
  have Cc : Cs K mg := ⟨(He.str_ok X G (c.t.d.fact 47 (f := .str "LETTERS" az) rfl)), (He.int_ok X G (c.t.d.fact 48 (f := .int "MOST_NAME" 8) rfl)), (He.int_ok X G (c.t.d.fact 49 (f := .int "MOST_THINGS" 4) rfl)), (He.int_ok X G (c.t.d.fact 50 (f := .int "MOST_VALUES" 3) rfl))⟩
  have CW : CsW K mg := ⟨_, (He.glo_ok X G (c.t.d.fact 22 (f := .glo "WORDS") rfl)), fun H => tupAt_ok m7 H⟩
  let c4 : Cls4 := ⟨(He.ga K "InvalidThings"), (He.ga K "InvalidValues"), (He.ga K "InvalidRule"), (He.ga K "InvalidWords")⟩
  have XR : Exc1 P w K mg base "InvalidRule" c4.rule "part" (spInit1 c4.rule "part") := ⟨E3.gl, E3.oc, _, _, _, E3.ini, E3.ty, (F20.bindsN fun _ _ _ _ _ _ us hl => match us, hl with | [_, _], _ => rfl), ok_initRule F20 E3.oc E3.no⟩
  have GI : Fn P w K mg base CX0 1 "is_integer" (spIsInt K) := ok_isInt ⟨_, _, (He.glo_ok X G (c.t.d.fact 8 (f := .glo "is_integer") rfl)), F8⟩ T
  have GN : Fn P w K mg base CX0 1 "is_name" (spIsName K) := ok_isName ⟨_, _, (He.glo_ok X G (c.t.d.fact 9 (f := .glo "is_name") rfl)), F9⟩ T Cc
  have GT : Fn P w K mg base CX0 2 "are_things" (spThings K) := ok_things ⟨_, _, (He.glo_ok X G (c.t.d.fact 10 (f := .glo "are_things") rfl)), F10⟩ T Cc GN
  have GW : Fn P w K mg base CX0 1 "are_words" (spWords K) := ok_words ⟨_, _, (He.glo_ok X G (c.t.d.fact 12 (f := .glo "are_words") rfl)), F12⟩ T CW
  have GL : Fn P w K mg base (L2.CX P w) 3 "look_at_rule" (spLook K c4.rule) := ok_look ⟨_, _, (He.glo_ok X G (c.t.d.fact 11 (f := .glo "look_at_rule") rfl)), F11⟩ T Z XR
  have FI := ok_init (P := P) (w := w) (base := base) (c := c4) F16 T Cc Z S X1 X2 X4 GT GI GL GW
  have M : ScMk P w K mg base (He.ga K "Scene") c4 := ⟨_, _, (He.glo_ok X G (c.t.d.fact 23 (f := .glo "Scene") rfl)), (He.mkr_ok (c.t.d.fact 51 (f := .mkr "Scene") rfl)), (F16.bindsN fun _ _ _ _ _ _ us hl => match us, hl with | [_, _, _, _, _], _ => rfl), FI⟩
  have ET := exc1B_ok X G m8
  have XT : Exc1 P w K mg base "InvalidText" (He.ga K "InvalidText") "line" (spInit2 (He.ga K "InvalidText") "line" "word") := ⟨ET.gl, ET.oc, _, _, _, ET.ini, ET.ty, (F22.bindsN fun _ _ _ _ _ _ us hl => match us, hl with | [_, _, _], _ => rfl), ok_initText F22 ET.oc ET.no (ea_ok m9)⟩
  have LC : LnC K (He.ga K "Line") := ⟨(He.cls_ok (c.t.d.fact 52 (f := .cls "Line") rfl)), (He.noat_ok (c.t.d.fact 53 (f := .noat "Line" "number") rfl)), (He.noat_ok (c.t.d.fact 54 (f := .noat "Line" "parts") rfl)), (He.noat_ok (c.t.d.fact 55 (f := .noat "Line" "place") rfl))⟩
  have MD : MCl P w K mg base CX0 1 (He.ga K "Line") "is_done" (spDone (He.ga K "Line")) := ⟨LC.cls, _, _, _, (He.meth_ok (c.t.d.fact 56 (f := .meth "Line" "is_done") rfl)), (F25.bindsN fun _ _ _ _ _ _ us hl => match us, hl with | [_], _ => rfl), ok_done F25 T LC⟩
  have MR : MCl P w K mg base (L2.CX P w) 3 (He.ga K "Line") "refuse" (spRefuse (He.ga K "Line") (He.ga K "InvalidText")) := ⟨LC.cls, _, _, _, (He.meth_ok (c.t.d.fact 57 (f := .meth "Line" "refuse") rfl)), (F24.bindsN fun _ _ _ _ _ _ us hl => match us, hl with | [_], _ => rfl), ok_refuse F24 T LC XT⟩
  have MO : MCl P w K mg base (L2.CX P w) 4 (He.ga K "Line") "take_one" (spOne K (He.ga K "Line") (He.ga K "InvalidText")) := ⟨LC.cls, _, _, _, (He.meth_ok (c.t.d.fact 58 (f := .meth "Line" "take_one") rfl)), (F26.bindsN fun _ _ _ _ _ _ us hl => match us, hl with | [_, _], _ => rfl), ok_one F26 T LC MD MR⟩
  have MN : MCl P w K mg base (L2.CX P w) 4 (He.ga K "Line") "take_name" (spTName (He.ga K "Line") (He.ga K "InvalidText")) := ⟨LC.cls, _, _, _, (He.meth_ok (c.t.d.fact 59 (f := .meth "Line" "take_name") rfl)), (F27.bindsN fun _ _ _ _ _ _ us hl => match us, hl with | [_], _ => rfl), ok_tname F27 T LC MD MR GN⟩
  have MF : MCl P w K mg base (L2.CX P w) 4 (He.ga K "Line") "finish" (spFinish (He.ga K "Line") (He.ga K "InvalidText")) := ⟨LC.cls, _, _, _, (He.meth_ok (c.t.d.fact 60 (f := .meth "Line" "finish") rfl)), (F28.bindsN fun _ _ _ _ _ _ us hl => match us, hl with | [_], _ => rfl), ok_finish F28 T LC MD MR⟩
  have ML : LnMk P w K mg base (He.ga K "Line") := ⟨_, _, (He.glo_ok X G (c.t.d.fact 27 (f := .glo "Line") rfl)), (He.mkr_ok (c.t.d.fact 61 (f := .mkr "Line") rfl)), (F23.bindsN fun _ _ _ _ _ _ us hl => match us, hl with | [_, _, _], _ => rfl), ok_line F23 T LC⟩
  have Xt : Tx K mg := ⟨⟨_, (He.glo_ok X G (c.t.d.fact 26 (f := .glo "DIGITS") rfl)), fun H => tupAt_ok m10 H⟩, ⟨_, (He.glo_ok X G (c.t.d.fact 22 (f := .glo "WORDS") rfl)), fun H => tupAt_ok m7 H⟩⟩
  have GRL : Fn P w K mg base (L2.CX P w) 5 "read_line" (spRL (He.ga K "Line") (He.ga K "InvalidText")) := ok_readLine ⟨_, _, (He.glo_ok X G (c.t.d.fact 13 (f := .glo "read_line") rfl)), F13⟩ T Z Xt MD MO MN MF
  have GRd : Fn P w K mg base (L2.CX P w) 6 "read_scene" (spRead K (He.ga K "Scene") (He.ga K "InvalidText") c4) := ok_read ⟨_, _, (He.glo_ok X G (c.t.d.fact 14 (f := .glo "read_scene") rfl)), F14⟩ T Z ML MR GRL M XT
  have EW := exc1B_ok X G m11
  have XW : Exc1 P w K mg base "UnknownWord" (He.ga K "UnknownWord") "word" (spInit1 (He.ga K "UnknownWord") "word") := ⟨EW.gl, EW.oc, _, _, _, EW.ini, EW.ty, (F21.bindsN fun _ _ _ _ _ _ us hl => match us, hl with | [_, _], _ => rfl), ok_initWord F21 EW.oc EW.no⟩
  have pb0 := propB_ok m12
  have Pr0 : PropOk P w K mg base (He.ga K "Scene") "things" 1 (spPThings K (He.ga K "Scene")) := ⟨S.cls, _, _, pb0.1, pb0.2.1, pb0.2.2.1, pb0.2.2.2, (FnOk.raw (dvs := []) (ok_pthings P0 S) (P0.bindsN fun _ _ _ _ _ _ us hl => match us, hl with | [_], _ => rfl) .nil).imp fun vs H Q E h => by rw [List.append_nil]; exact h⟩
  have pb1 := propB_ok m13
  have Pr1 : PropOk P w K mg base (He.ga K "Scene") "many" 1 (spPMany K (He.ga K "Scene")) := ⟨S.cls, _, _, pb1.1, pb1.2.1, pb1.2.2.1, pb1.2.2.2, (FnOk.raw (dvs := []) (ok_pmany P1 S) (P1.bindsN fun _ _ _ _ _ _ us hl => match us, hl with | [_], _ => rfl) .nil).imp fun vs H Q E h => by rw [List.append_nil]; exact h⟩
  have pb2 := propB_ok m14
  have Pr2 : PropOk P w K mg base (He.ga K "Scene") "words" 1 (spPWords K (He.ga K "Scene")) := ⟨S.cls, _, _, pb2.1, pb2.2.1, pb2.2.2.1, pb2.2.2.2, (FnOk.raw (dvs := []) (ok_pwords P2 S) (P2.bindsN fun _ _ _ _ _ _ us hl => match us, hl with | [_], _ => rfl) .nil).imp fun vs H Q E h => by rw [List.append_nil]; exact h⟩
  have pb3 := propB_ok m15
  have Pr3 : PropOk P w K mg base (He.ga K "Scene") "rule" 1 (spPRule K (He.ga K "Scene")) := ⟨S.cls, _, _, pb3.1, pb3.2.1, pb3.2.2.1, pb3.2.2.2, (FnOk.raw (dvs := []) (ok_prule P3 Z S) (P3.bindsN fun _ _ _ _ _ _ us hl => match us, hl with | [_], _ => rfl) .nil).imp fun vs H Q E h => by rw [List.append_nil]; exact h⟩
  have EC : EqC K (He.ga K "Scene") := ⟨isiB_ok m16, of_decide_eq_true m17, of_decide_eq_true m18, m19, m20⟩
  have ME := (He.meth_ok (c.t.d.fact 62 (f := .meth "Scene" "__eq__") rfl))
  have EQ : EqOk P w K mg base (He.ga K "Scene") := ⟨EC, _, ME.at_, ME.fn, (FnOk.raw (dvs := []) (ok_eqS F19 T S (He.glo_ok X G (c.t.d.fact 23 (f := .glo "Scene") rfl)) EC) (F19.bindsN fun _ _ _ _ _ _ us hl => match us, hl with | [_, _], _ => rfl) .nil).imp fun vs H Q E h => by rw [List.append_nil]; exact h⟩
  have MT : MSX P w K mg base (L2.CX P w) 6 (He.ga K "Scene") "turned" (spTurned K (He.ga K "Scene") c4) := ⟨S.cls, _, _, _, (He.meth_ok (c.t.d.fact 63 (f := .meth "Scene" "turned") rfl)), (F17.bindsN fun _ _ _ _ _ _ us hl => match us, hl with | [_, _, _], _ => rfl), ok_turned F17 T Z S XR M⟩
  have MO2 : MSX P w K mg base (L2.CX P w) 6 (He.ga K "Scene") "without" (spOut K (He.ga K "Scene")) := ⟨S.cls, _, _, _, (He.meth_ok (c.t.d.fact 64 (f := .meth "Scene" "without") rfl)), (F18.bindsN fun _ _ _ _ _ _ us hl => match us, hl with | [_, _], _ => rfl), ok_out F18 T S XW M⟩
  have Gmix : Fn P w K mg base CX0 1 "_law_mix" (spMix K) := ok_mix ⟨_, _, (He.glo_ok X G (c.t.d.fact 0 (f := .glo "_law_mix") rfl)), F0⟩ T
  have Gnext : Fn P w K mg base CX0 1 "_law_next" spNext := ok_next ⟨_, _, (He.glo_ok X G (c.t.d.fact 1 (f := .glo "_law_next") rfl)), F1⟩ T
  have Grule : Fn P w K mg base CX0 2 "_law_rule" spRule := ok_rule ⟨_, _, (He.glo_ok X G (c.t.d.fact 2 (f := .glo "_law_rule") rfl)), F2⟩ T Gnext
  have Gscene : Fn P w K mg base CX0 3 "_law_scene" spScene := ok_scene ⟨_, _, (He.glo_ok X G (c.t.d.fact 3 (f := .glo "_law_scene") rfl)), F3⟩ T Gnext Grule
  have Gwrite : Fn P w K mg base CX0 1 "write_scene" (spWrite K (He.ga K "Scene")) := ok_write ⟨_, _, (He.glo_ok X G (c.t.d.fact 15 (f := .glo "write_scene") rfl)), F15⟩ T Z S
  have Grows : Fn P w K mg base CX0 1 "_law_rows" spRows := ok_rows ⟨_, _, (He.glo_ok X G (c.t.d.fact 4 (f := .glo "_law_rows") rfl)), F4⟩ T
  have Gbuilt : Fn P w K mg base CX0 6 "_law_built" (spBuilt K (He.ga K "Scene")) := ok_built (c := c4) ⟨_, _, (He.glo_ok X G (c.t.d.fact 5 (f := .glo "_law_built") rfl)), F5⟩ M
  have Gloose : Fn P w K mg base CX0 2 "_law_loose" spLoose := ok_loose ⟨_, _, (He.glo_ok X G (c.t.d.fact 6 (f := .glo "_law_loose") rfl)), F6⟩ T Gnext
  have e := hfa.symm.trans (He.glo_ok X G (c.t.d.fact 7 (f := .glo "law") rfl))
  cases e
  exact ok_law F7 T S M EQ Gmix Gnext Gscene Grows Gloose Gbuilt Gwrite GRd Pr0 Pr1 Pr2 Pr3 MT MO2
end HP

namespace HP
open PySem PySem.Spec PyProof.Rows L2
theorem run (w : World) : HandSHeadRun.RunEq R (PySem.W.view R.prog [35]) hk ob 12000 loose w :=
  PySem.W.byRow2 "special-get-raises" (P := fun w => HandSHeadRun.RunEq R (PySem.W.view R.prog [35]) hk ob 12000 loose w) (fun w os => by kernel_rfl) (fun w os => by kernel_rfl) w
end HP

open PySem PySem.W PySem.Calls PyProof.Rows
theorem PySem.Challenge.cw_handplaced_k14_scenes_written_holds : PySem.Challenge.rw_handplaced_k14_scenes_written.Holds := by
  w_on; o_law
  refine HandSHeadRun.head_any (r := OpenLaw.row PySem.Challenge.rw_handplaced_k14_scenes_written) (q := view (OpenLaw.row PySem.Challenge.rw_handplaced_k14_scenes_written).prog [35]) (H := HP.hk) (ob := HP.ob) (M := 12000) (loose := HP.loose) (d := HandSHeadRun.topDef (OpenLaw.row PySem.Challenge.rw_handplaced_k14_scenes_written).prog 35) (kwd := []) HP.ob_eq
    (by kernel_rfl) (fun s => by kernel_rfl) HP.run (by kernel_rfl) (by kernel_rfl) (by kernel_rfl) (by rfl) (by first | assumption | decide +kernel) (by decide +kernel) ⟨rfl, rfl, rfl, rfl, rfl, by decide +kernel⟩ ?hw ?hc
  case hw => w_witness2
  case hc =>
    refine L2.walk_ofE (l := PySem.Challenge.rw_handplaced_k14_scenes_written) (n := 63) (k := 8) (x := "_law_script") (CX := L2.CX0) rfl (by decide) (by kernel_rfl) ⟨rfl, by decide, by decide⟩ ?F (fun _ _ _ _ z => z)
    intro w mg fa h Y G hmg0
    obtain ⟨K, KX, c⟩ := Y
    have hmg : mg ("law" : PySem.Str) = some (.ref fa) := by
      have e : (HandSHeadRun.topDef (OpenLaw.row PySem.Challenge.rw_handplaced_k14_scenes_written).prog 35).name = ("law" : PySem.Str) := by kernel_rfl
      rw [← e]
      exact hmg0
    obtain ⟨fd, hb, hF⟩ := HP.facts (P := (PySem.Challenge.rw_handplaced_k14_scenes_written).prog) (w := w) KX G hmg c
    exact ⟨K, fd, HP.spLaw K, KX, hb, fun H a ns hl _ hS => ⟨a, ns, rfl, hS, hl, fun _ => rfl⟩, hF⟩
