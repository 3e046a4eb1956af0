import PyProof.Rows.All
import Wide.All
import OpenK.AllK
import Wide.FinOn
import HandS.ForMost
import HandS.IsInst
import HandS.Defaults
import HandS.Codes
import HandS.Walk
import HandS.Star
import HandS.CallLocal
import HandS.SetKeys
import HandS.Strs
import HandS.Conv
import KE.SortData
import HandS.SetBool
import PySem.Challenge.RW_menuhome_k44_papers_known_by_hand
import HandS.Style
import HandS.ClsMeth
import KE.GoesMore
import HandS.Small
import HandS.DictComp
import HandS.SlotsOwn
import HandS.HeadEnd
import PyProof.ReprRoads
import PyProof.ReprBulk
import HandS.SortKw
import KE.SortKeyHeap
import HandS.TryOnly
import HandS.TupLe
import KE.KStateDown
import HandS.Ends
import HandS.Head0
import HandS.Head1
import HandS.Head2
import HandS.HeadHook1
import HandS.HeadHook2
import HandS.HeadHook3
import HandS.HeadNt
import HandS.RaiseMore
import HandS.ExcIs
import HandS.WordsExc
set_option Elab.async false
set_option linter.all false
set_option maxRecDepth 100000
set_option maxHeartbeats 4000000
namespace MH
open PySem PySem.Spec PyProof.Rows L2

/-! ### classes called: C(*y), and a class held by a slot -/
section
variable {X : Cx} {CX : CXT} {k i : Nat} {f C : Addr} {fd : FuncData} {ps : List Str} {sp : Sp} {dvs : List V} {ds : List Value} {E : XK} {x : Str} {p q pos : Pos} {e : Expr} {es : List Expr} {te : TE} {t : TA}
/-- what C(vs) asks -/
def mkAsk (C : Addr) (sp : Sp) (E : XK) (vs : List V) (H : Hp) (Q : VK) : Prop := ∀ z dz, H z = none → H dz = none → dz ≠ z →
  sp (.ref z :: vs) (upd (upd H dz (.own z)) z (.ins C dz [])) (fun v H2 => v = .non ∧ Q (.ref z) H2) E
def tMkStar (K : PySem.W.Frag) (C : Addr) (sp : Sp) (E : XK) (te : TE) : TE := fun σ H Q => te σ H fun y H1 => ∃ a xs, y = V.ref a ∧ (SqT K H1 a xs ∨ SqL K H1 a xs) ∧ mkAsk C sp E xs H1 Q
theorem pe_mkStar (M : Mk X.K C f) (F : FnOk X.prog X.w X.K X.mg X.base CX k f fd ps sp) (hr : Room (k + 1) X.A) (hg : Gl X x) (hm : X.mg x = some (.ref C)) (hb : Binds X.K fd ps []) (hx : Passes CX X E) (he : PE X e te)
    (hdb : (x == ("__debug__" : Str)) = false := by decide) (hst : starEach [.Starred e q] X.env = [(true, eval e X.env)] := by rfl) :
    PE X (.Call (.Name x p) [.Starred e q] [] pos) (tMkStar X.K C sp E te) := by
  refine ⟨fun pins s σ H Q I h => ?_⟩
  refine wpAny_Call_Name_kw (ld_glob I hg hm ?_ hdb)
  refine PySem.W.callWith_S (h₀ := X.base) I.ok.mod.kin M.kp (thn (he.run pins s σ H _ I h) fun v s1 ⟨y, H1, I1, ry, a, xs, ey, hxs, ask⟩ => ?_) hst
  subst ey
  obtain rfl : v = Value.ref a := ry
  refine StX.star_any I1 hxs fun us s2 I2 rv => ⟨I2.kIn, ?_⟩
  refine run_make (dvs := []) M F hr hb .nil hx I2 rv fun z dz h1 h2 h3 => ?_
  rw [List.append_nil]
  exact ask z dz h1 h2 h3
def tMkSlot (i : Nat) (C : Addr) (sp : Sp) (E : XK) (t : TA) : TE := fun σ H Q => σ[i]? = some (some (.ref C)) ∧ t σ H fun vs H1 => mkAsk C sp E vs H1 Q
theorem pe_mkSlot (M : Mk X.K C f) (F : FnOk X.prog X.w X.K X.mg X.base CX k f fd ps sp) (hr : Room (k + 1) X.A) (hN : X.N[i]? = some x) (hv : Vis X.env.scope x) (hb : Binds X.K fd ps []) (hx : Passes CX X E) (ha : PA X (e :: es) t)
    (hdb : (x == ("__debug__" : Str)) = false := by decide) (hcd : (x == ("__classdict__" : Str)) = false := by decide)
    (he : starEach (e :: es) X.env = (false, eval e X.env) :: starEach es X.env := by rfl) (hpl : (backTo pos (starEach es X.env)).any (·.1) = false := by rfl) : PE X (.Call (.Name x p) (e :: es) [] pos) (tMkSlot i C sp E t) := by
  refine ⟨fun pins s σ H Q I h => ?_⟩
  obtain ⟨hs, ht⟩ := h
  refine wpAny_Call_Name_kw (thn ((pe_var (pos := p) hN hv hdb hcd).run pins s σ H (fun v H1 => v = .ref C ∧ H1 = H) I ⟨.ref C, hs, rfl, rfl⟩) fun u s1 ⟨v, H1, I1, r1, e1, e2⟩ => ?_)
  subst e1
  subst e2
  obtain rfl : u = Value.ref C := r1
  refine PySem.W.callWith_K (h₀ := X.base) I.ok.mod.kin M.kp (thn (ha.run pos pins s1 σ _ _ I1 ht) fun us s2 ⟨vs, H2, I2, r, ask⟩ => ⟨I2.kIn, ?_⟩) he hpl
  refine run_make (dvs := []) M F hr hb .nil hx I2 r fun z dz h1 h2 h3 => ?_
  rw [List.append_nil]
  exact ask z dz h1 h2 h3
end
end MH
set_option Elab.async false
set_option linter.all false
set_option maxRecDepth 100000
set_option maxHeartbeats 4000000
namespace MH
open PySem PySem.Spec PyProof.Rows L2

/-! ### sorted(xs), items that are data of one shape -/
/-- the items, by their data -/
noncomputable def sortV (xs : List V) (ds : List PyData) : List V := ((xs.zip ds).mergeSort (PySem.W.dataLe false fun b => b.2)).map (·.1)
theorem sortV_perm {xs : List V} {ds : List PyData} (h : xs.length = ds.length) : (sortV xs ds).Perm xs := by
  unfold sortV
  have q := (List.mergeSort_perm (xs.zip ds) (PySem.W.dataLe false fun b => b.2)).map (fun b : V × PyData => b.1)
  rw [List.map_fst_zip (by omega)] at q
  exact q
theorem dpAll_len {K : PySem.W.Frag} {H : Hp} : ∀ {xs : List V} {ds : List PyData}, DpAll K H xs ds → xs.length = ds.length
  | _, _, .nil => rfl
  | _, _, .cons _ t => congrArg Nat.succ (dpAll_len t)
def rSortedD (K : PySem.W.Frag) : List V → Hp → VK → Prop := fun vs H Q => ∃ (a : Addr) (xs : List V) (ds : List PyData), vs = [.ref a] ∧ SqL K H a xs ∧ DpAll K H xs ds ∧ PySem.W.AllAlike ds ∧ PySem.W.Sortable ds ∧
  xs.length ≤ 100000 ∧ (∀ d ∈ ds, d.depth ≤ 60) ∧ ∀ p, H p = none → Q (.ref p) (upd H p (.lst (sortV xs ds)))
section
variable {X : Cx} {pins : List (Addr × Obj)} {σ : L2.St} {H : Hp} {s : Shared}
theorem each_rel (I : Inv X pins σ H s) : ∀ {xs : List V} {us : List Value} {ds : List PyData}, Vals xs us → DpAll X.K H xs ds →
    PySem.W.EachIs (fun (u : Value) (b : V × PyData) => RelV b.1 u) us (xs.zip ds) ∧ PySem.W.EachIs (fun (u : Value) (b : V × PyData) => ∃ as, Reads s.heap u b.2 as) us (xs.zip ds)
  | _, _, _, .nil, .nil => ⟨.nil, .nil⟩
  | _, _, _, .cons r rt, .cons d dt => by
    obtain ⟨h1, h2⟩ := each_rel I rt dt
    exact ⟨.cons r h1, .cons (Dp.reads I _ _ _ d r) h2⟩
theorem vals_each : ∀ {bs : List (V × PyData)} {us : List Value}, PySem.W.EachIs (fun (u : Value) (b : V × PyData) => RelV b.1 u) us bs → Vals (bs.map (·.1)) us
  | _, _, .nil => .nil
  | _, _, .cons r t => .cons r (vals_each t)
theorem cr_sortedD (hu : X.A.units + 64 < cLine) : CallR X (.builtin "sorted") (rSortedD X.K) := by
  intro pins s σ H vs us Q I r h
  obtain ⟨a, xs, ds, rfl, hs, hd, hal, hk, hl, hdep, q⟩ := h
  obtain ⟨its, rv, hls, _⟩ := I.list hs
  rw [Vals.ref1 r]
  have hlen := dpAll_len hd
  obtain ⟨e1, e2⟩ := each_rel I rv hd
  have em : (xs.zip ds).map (fun b : V × PyData => b.2) = ds := List.map_snd_zip (by omega)
  have zl : (xs.zip ds).length = xs.length := by rw [List.length_zip]; omega
  refine PySem.W.sorted_data (R := fun (u : Value) (b : V × PyData) => RelV b.1 u) (enc := fun b : V × PyData => b.2) hls.isList e1 e2 (by rw [em]; exact hal) (by rw [em]; exact hk) (by rw [zl]; exact Nat.le_trans hl (by decide))
    (fun b hb => ?_) fun out ol oe => ?_
  · have hb2 : b.2 ∈ ds := by rw [← em]; exact List.mem_map_of_mem hb
    have := hdep _ hb2
    omega
  · have rv2 := vals_each oe
    have hl2 : (sortV xs ds).length ≤ sizeLine := by rw [(sortV_perm hlen).length_eq]; exact Nat.le_trans hl (by decide)
    obtain ⟨ep, he'⟩ := PyProof.Rows.sortedAll_at s.heap its out.toArray
    exact ⟨.ref _, upd H (s.heap.objs.size + 1) (.lst (sortV xs ds)), I.laid (t' := s.toks) (fun _ _ => PyProof.Rows.sortedAll_old) (Nat.le_succ _) ⟨hl2, out, ep, rv2, by simpa using he'⟩, rfl, q _ (I.hok.fresh (Nat.le_succ _))⟩
end
end MH
set_option Elab.async false
set_option linter.all false
set_option maxRecDepth 100000
set_option maxHeartbeats 4000000
namespace MH
open PySem PySem.Spec PyProof.Rows L2

/-! ### sets of texts, with what a walk asks of the table -/
def txOf (e : Int × Value) : Str := match e.2 with | .str x _ => x | _ => Str.empty
def TxE (w : World) (e : Int × Value) : Prop := ∃ x tk, e.2 = Value.str x tk ∧ e.1 = hashStr w x
/-- at a: a set of the texts L (in any order, none twice) -/
def SetS (w : World) (h : Heap) (a : Addr) (L : List Str) : Prop :=
  ∃ o es ep t, h.get? a = some o ∧ o.ExactSet ∧ o.data = .set es ep t ∧ (∀ e ∈ es.toList, TxE w e) ∧ (es.toList.map txOf).Perm L ∧ L.Nodup ∧
    es.size < scanBound ∧ t.fits es.size = true ∧ Ris t.place.toList ∧ (w.params.followText "set-order" = true ∨ t.led = true)
section
variable {P : Program} {w : World} {h h' : Heap} {a : Addr} {L : List Str}
theorem SetS.at (R : SetS w h a L) (k : ∀ o, h.get? a = some o → h'.get? a = some o) : SetS w h' a L := by
  obtain ⟨o, es, ep, t, ho, r⟩ := R
  exact ⟨o, es, ep, t, k o ho, r⟩
theorem tx_elems {l : List (Int × Value)} (g : ∀ e ∈ l, TxE w e) : ElemsOf (strKind P w) l := fun e he => by
  obtain ⟨x, tk, h1, h2⟩ := g e he
  exact ⟨⟨x, by rw [h1]; exact strKind_is P w x tk, h2⟩, by rw [h1] <;> rfl⟩
theorem tx_is {e : Int × Value} (g : TxE w e) (x : Str) : (strKind P w).is x e.2 = true ↔ txOf e = x := by
  obtain ⟨y, tk, h1, _⟩ := g
  unfold txOf
  rw [h1]
  show (Value.isStrOf x (.str y tk) = true) ↔ y = x
  simp [Value.isStrOf]
  try (constructor <;> intro z <;> exact z.symm)
theorem tx_mem {l : List (Int × Value)} (g : ∀ e ∈ l, TxE w e) (x : Str) : x ∈ l.map txOf ↔ ∃ e ∈ l, (strKind P w).is x e.2 = true := by
  rw [List.mem_map]
  constructor
  · rintro ⟨e, he, q⟩
    exact ⟨e, he, (tx_is (g e he) x).2 q⟩
  · rintro ⟨e, he, q⟩
    exact ⟨e, he, (tx_is (g e he) x).1 q⟩
end
section
variable {P : Program} {w : World} {A : Around} {E : Value → Shared → Prop} {s : Shared} {a : Addr} {L : List Str}
theorem setS_tail {g : Bool → Sem Unit} (hg : ∀ (b : Bool) (s₁ : Shared) (Q' : Unit → Shared → Prop), Q' () s₁ → wpAny (model P w) A (g b) Q' E s₁)
    {o : Obj} {es : Array (Int × Value)} {ep : Nat} {t : SetTable} (ho : s.heap.get? a = some o) (hex : o.ExactSet) (hd : o.data = .set es ep t)
    {es1 : Array (Int × Value)} {t2 : SetTable} {L' : List Str} (g1 : ∀ e ∈ es1.toList, TxE w e) (p1 : (es1.toList.map txOf).Perm L') (nd1 : L'.Nodup)
    (hb1 : es1.size < scanBound) (hf2 : t2.fits es1.size = true) (hr : Ris t2.place.toList) (hl : w.params.followText "set-order" = true ∨ t2.led = true) {wasDummy : Bool} {R : Option Bool → Shared → Prop}
    (hR : ∀ h', Heap.SameBut a s.heap h' → SetS w h' a L' → R (some true) { s with heap := h' }) :
    wpAny (model P w) A (do
        storeSet a es1 t2
        if (!wasDummy && t2.tooFull) = true then do
            g (relayAll t2 es1 (SetTable.grown es1.size)).2.2
            storeSet a (relayAll t2 es1 (SetTable.grown es1.size)).1 (relayAll t2 es1 (SetTable.grown es1.size)).2.1
            pure (some true)
        else pure (some true)) R E s := by
  have at1 := store_at (es' := es1) (t' := t2) ho hd
  have but1 := Heap.SameBut.update s.heap a (Obj.putSet es1 t2)
  refine wpAny_bind (wpAny_storeSet_of ho hd ?_ (fits_of_scanBound hb1))
  by_cases big : (!wasDummy && t2.tooFull) = true
  · rw [if_pos big]
    have pm := relayAll_perm t2 es1 (SetTable.grown es1.size)
    have ft := relayAll_fits t2 es1 (SetTable.grown es1.size)
    have ri := relayAll_ris t2 es1 (SetTable.grown es1.size)
    have le := relayAll_led t2 es1 (SetTable.grown es1.size)
    generalize relayAll t2 es1 (SetTable.grown es1.size) = Z at pm ft ri le ⊢
    obtain ⟨es2, t3, gave⟩ := Z
    dsimp only at pm ft ri le ⊢
    have sz : es2.size = es1.size := by rw [← Array.length_toList, pm.length_eq, Array.length_toList]
    have bd : es2.size < scanBound := by rw [sz]; exact hb1
    refine wpAny_bind (hg _ _ _ (wpAny_bind (wpAny_storeSet_of at1 rfl ?_ (fits_of_scanBound bd))))
    have at2 := store_at (es' := es2) (t' := t3) at1 rfl
    refine wpAny_pure (hR _ (but1.trans (Heap.SameBut.update _ a _)) ⟨_, es2, _, t3, at2, hex, rfl, fun e he => g1 e (pm.mem_iff.mp he), (pm.map txOf).trans p1, nd1, bd, ft, ri, ?_⟩)
    rw [le]
    exact hl
  · rw [if_neg big]
    exact wpAny_pure (hR _ but1 ⟨_, es1, _, t2, at1, hex, rfl, g1, p1, nd1, hb1, hf2, hr, hl⟩)
theorem setS_hashed {x : Str} {tk : Tok} {Q : Bool → Shared → Prop} (R : SetS w s.heap a L) (room : L.length + 1 < scanBound)
    (hQ : ∀ h' b, Heap.SameBut a s.heap h' → SetS w h' a (if x ∈ L then L else x :: L) → Q b { s with heap := h' }) :
    wpAny (model P w) A (setAddHashed a (.str x tk) ((strKind P w).hash x)) Q E s := by
  obtain ⟨o, es, ep, t, ho, hex, hd, g, pL, nd, hb, hf, hr, hl⟩ := R
  have hkey : (strKind P w).is x (.str x tk) = true := strKind_is P w x tk
  have hsc : (Value.str x tk).scannable = true := rfl
  have hel : ElemsOf (strKind P w) es.toList := tx_elems g
  unfold setAddHashed setAddHashedIn
  refine wpAny_holding (wpAny_bind (wpAny_setState_of ho hd hf ?_))
  dsimp only
  rw [byScan_of hsc hb hel]
  simp only [↓reduceIte]
  unfold setAddByScan
  refine wpAny_bind (wpAny_bind (wpAny_rule (wpAny_bind (wpAny_setScan_of hkey ho hd hf hel ?_))))
  cases found : List.findIdx? (fun e => (strKind P w).is x e.2) es.toList with
  | some j =>
    dsimp only
    obtain ⟨hj, pj, _⟩ := List.findIdx?_eq_some_iff_getElem.mp found
    have hx : x ∈ L := pL.mem_iff.mp ((tx_mem (P := P) (w := w) g x).2 ⟨es.toList[j], List.getElem_mem hj, pj⟩)
    refine wpAny_pure (wpAny_pure (hQ s.heap _ (Heap.SameBut.refl a s.heap) ?_))
    rw [if_pos hx]
    exact ⟨o, es, ep, t, ho, hex, hd, g, pL, nd, hb, hf, hr, hl⟩
  | none =>
    dsimp only
    have hx : x ∉ L := fun z => by
      obtain ⟨e, he, q⟩ := (tx_mem (P := P) (w := w) g x).1 (pL.mem_iff.mpr z)
      have c := List.findIdx?_eq_none_iff.mp found e he
      rw [q] at c
      cases c
    have gave : ∀ (b : Bool) {s₁ : Shared} {Q' : Unit → Shared → Prop}, Q' () s₁ → wpAny (model P w) A (match b with | true => rule "set.scan.the-table-gave-way" | false => pure ()) Q' E s₁ :=
      fun b s₁ Q' q => by cases b <;> first | exact wpAny_pure q | exact wpAny_rule q
    have pm := layNew_perm t es ((strKind P w).hash x) (.str x tk)
    have ft := layNew_fits t es ((strKind P w).hash x) (.str x tk)
    have ri := layNew_ris t es ((strKind P w).hash x) (.str x tk) hr
    have le := layNew_led t es ((strKind P w).hash x) (.str x tk)
    generalize layNew t es ((strKind P w).hash x) (.str x tk) = Z at pm ft ri le ⊢
    obtain ⟨es1, t1, wasDummy, gv⟩ := Z
    dsimp only at pm ft ri le ⊢
    rw [Array.toList_push] at pm
    have pc : es1.toList.Perm (((strKind P w).hash x, Value.str x tk) :: es.toList) := pm.trans (List.perm_append_singleton _ _)
    have g1 : ∀ e ∈ es1.toList, TxE w e := fun e he => by
      rcases List.mem_cons.mp (pc.mem_iff.mp he) with z | z
      · rw [z]; exact ⟨x, tk, rfl, rfl⟩
      · exact g e z
    have p1 : (es1.toList.map txOf).Perm (x :: L) := (pc.map txOf).trans (List.Perm.cons x pL)
    have nd1 : (x :: L).Nodup := List.nodup_cons.mpr ⟨hx, nd⟩
    have hsz : es1.size = L.length + 1 := by
      have q := p1.length_eq
      rw [List.length_map, Array.length_toList, List.length_cons] at q
      exact q
    have hb1 : es1.size < scanBound := by rw [hsz]; exact room
    have led : w.params.followText "set-order" = true ∨ t1.led = true := hl.imp id fun z => by rw [le]; exact z
    have fin : ∀ h', Heap.SameBut a s.heap h' → SetS w h' a (x :: L) → Q true { s with heap := h' } := fun h' sb r => hQ h' true sb (by rw [if_neg hx]; exact r)
    refine wpAny_bind (gave _ ?_)
    split
    · refine wpAny_bind ?_
      rw [hashByValue_scannable 8 hsc]
      refine wpAny_pure (setS_tail ?_ ho hex hd g1 p1 nd1 hb1 ?_ ?_ ?_ ?_)
      · intro b s₁ Q' q; cases b <;> first | exact wpAny_pure q | exact wpAny_rule q
      · first | (split <;> first | exact ft | exact SetTable.fits_plain_off ft) | exact ft
      · first | (split <;> exact ri) | exact ri
      · first | (split <;> exact led) | exact led
      · intro h' sb r; dsimp only; exact wpAny_pure (fin h' sb r)
    · refine wpAny_bind (wpAny_pure ?_)
      simp only [↓reduceIte]
      refine setS_tail ?_ ho hex hd g1 p1 nd1 hb1 ft ri led ?_
      · intro b s₁ Q' q; cases b <;> first | exact wpAny_pure q | exact wpAny_rule q
      · intro h' sb r; dsimp only; exact wpAny_pure (fin h' sb r)
theorem SetS.setOf (R : SetS w s.heap a L) : s.heap.SetOf (strKind P w) a (fun x => decide (x ∈ L)) L.length := by
  obtain ⟨o, es, ep, t, ho, hx, hd, g, pL, nd, hb, hf, _⟩ := R
  refine ⟨o, es, ep, t, ho, hx, hd, tx_elems g, fun x => ?_, hb, hf, ?_⟩
  · rw [decide_eq_true_eq, ← pL.mem_iff]
    exact tx_mem g x
  · have q := pL.length_eq
    rw [List.length_map, Array.length_toList] at q
    exact q
/-- found.add(x) -/
theorem setS_add {x : Str} {tk : Tok} {Q : Value → Shared → Prop} (R : SetS w s.heap a L) (room : L.length + 1 < scanBound)
    (hQ : ∀ h', Heap.SameBut a s.heap h' → SetS w h' a (if x ∈ L then L else x :: L) → Q .none { s with heap := h', toks := s.toks + 1 }) :
    wpAny (model P w) A (call (.builtin "set.add") [.ref a, .str x tk]) Q E s := by
  have hS : s.heap.SetOf (strKind P w) a (fun x => decide (x ∈ L)) L.length := R.setOf
  refine wpAny_call_entry F.slot_set_add hS.typeIs F.entry_set_add ?_ (F.args_set_add_2 _ _)
  unfold Builtin.«set.add» Builtin.Frozenset.oneOther
  simp only [List.isEmpty_nil, bind_assoc]
  unfold Builtin.Frozenset.addrOf setAdd
  refine wpAny_bind (wpAny_pure ?_)
  try dsimp only
  refine wpAny_bind (wpAny_pure ?_)
  try dsimp only
  refine wpAny_bind (wpAny_holding (wpAny_bind ((strKind P w).pyHash (strKind_is P w x tk) ?_)))
  refine setS_hashed (s := { s with toks := s.toks + 1 }) R room fun h' b sb r => ?_
  show wpAny _ _ (ret Value.none) _ _ _
  exact wpAny_pure ⟨_, rfl, hQ h' sb r⟩
theorem setS_fresh {h : Heap} (w : World) : SetS w (h.push { cls := .type "set", dict := none, data := .set #[] 0 (.fresh 0 0 (!w.params.followText "set-order")) }) h.objs.size [] :=
  ⟨_, #[], 0, _, Heap.get?_push_size _ rfl, ⟨rfl, rfl, rfl⟩, rfl, (fun e he => by simp at he), List.Perm.nil, List.nodup_nil, (by decide), (by rfl), List.Pairwise.nil, by
    show _ ∨ (!w.params.followText "set-order") = true
    cases w.params.followText "set-order"
    · exact .inr rfl
    · exact .inl rfl⟩
end
end MH
set_option Elab.async false
set_option linter.all false
set_option maxRecDepth 100000
set_option maxHeartbeats 4000000
namespace MH
open PySem PySem.Spec PyProof.Rows L2
/-- the set of texts at a, as a tracked thing -/
def SetSO (w : World) (a : Addr) (L : List Str) : HO := .ext fun h => SetS w h a L
section
variable {X : Cx} {pins : List (Addr × Obj)} {σ : L2.St} {H : Hp} {s : Shared}
theorem setSO_new {w : World} {P : Program} {H : Hp} {h : Heap} {a : Addr} {L : List Str} (R : SetS w h a L) : ObjOk P w H h a (SetSO w a L) := by
  have ⟨o, _, _, _, ho, _⟩ := R
  exact ⟨R, ⟨o, ho⟩, fun h1 h2 p k => SetS.at p k⟩
theorem setSO_get {a : Addr} {L : List Str} (I : Inv X pins σ H s) (ha : H a = some (SetSO X.w a L)) : SetS X.w s.heap a L := (I.hok a _ ha).1
theorem addS_ok {E : Value → Shared → Prop} {D : Addr} {L : List Str} {x : Str} {tk : Tok} {Q : Value → Shared → Prop} (I : Inv X pins σ H s) (hD : H D = some (SetSO X.w D L)) (room : L.length + 1 < scanBound)
    (h : ∀ s', Inv X pins σ (upd H D (SetSO X.w D (if x ∈ L then L else x :: L))) s' → Q .none s') : wpAny (model X.prog X.w) X.A (call (.builtin "set.add") [.ref D, .str x tk]) Q E s := by
  have R := setSO_get I hD
  refine setS_add R room fun h' sb new => ?_
  have he : ∃ u, h'.get? D = some u := by
    have ⟨o, _, _, _, ho, _⟩ := new
    exact ⟨o, ho⟩
  exact h _ (I.write (e := D) (t' := s.toks + 1) (by rw [hD]; trivial) (.inl rfl) (fun b u hb hu => (sb.2 b hb).trans hu) he (setSO_new new))
/-- sorted(found) -/
def rSortedSet (w : World) : List V → Hp → VK → Prop := fun vs H Q => ∃ (a : Addr) (L : List Str), vs = [V.ref a] ∧ H a = some (SetSO w a L) ∧ L.length ≤ 1000 ∧
  ∀ (ys : List Str) p, ys.Perm L → ys.Pairwise (fun x y => x.cps.toList ≤ y.cps.toList) → H p = none → Q (.ref p) (upd H p (.lst (ys.map V.str)))
theorem strs_each {w : World} {h : Heap} : ∀ {l : List Value}, (∀ v ∈ l, ∃ x tk, v = Value.str x tk) → ∃ xs : List Str, PySem.W.EachIs (fun (u : Value) (x : Str) => ∃ tk, u = Value.str x tk) l xs
  | [], _ => ⟨[], .nil⟩
  | v :: l, h => by
    obtain ⟨x, tk, rfl⟩ := h v List.mem_cons_self
    obtain ⟨xs, e⟩ := strs_each (w := w) (h := ‹Heap›) fun u hu => h u (List.mem_cons_of_mem _ hu)
    exact ⟨x :: xs, .cons ⟨tk, rfl⟩ e⟩
theorem each_tx : ∀ {l : List Value} {xs : List Str}, PySem.W.EachIs (fun (u : Value) (x : Str) => ∃ tk, u = Value.str x tk) l xs → l.map (fun v => match v with | .str x _ => x | _ => Str.empty) = xs
  | _, _, .nil => rfl
  | _, _, .cons ⟨_, e⟩ t => by
    rw [List.map_cons, each_tx t, e]
theorem each_vals : ∀ {l : List Value} {xs : List Str}, PySem.W.EachIs (fun (u : Value) (x : Str) => ∃ tk, u = Value.str x tk) l xs → Vals (xs.map V.str) l
  | _, _, .nil => .nil
  | _, _, .cons ⟨tk, e⟩ t => .cons ⟨tk, e⟩ (each_vals t)
theorem each_read {h : Heap} {a : Addr} : ∀ {l : List Value} {xs : List Str}, PySem.W.EachIs (fun (u : Value) (x : Str) => ∃ tk, u = Value.str x tk) l xs → PySem.W.EachIs (fun (u : Value) (x : Str) => ∃ as, Reads h u (.str x) as ∧ a ∉ as) l xs
  | _, _, .nil => .nil
  | _, _, .cons ⟨tk, e⟩ t => .cons (by subst e; exact ⟨[], .str _ _, by simp⟩) (each_read t)
theorem le_total_nats (x y : List Nat) : x ≤ y ∨ y ≤ x := List.le_total x y
theorem cr_sortedSet (hu : X.A.units + 64 < cLine) (hc : X.calm = true) : CallR X (.builtin "sorted") (rSortedSet X.w) := by
  intro pins s σ H vs us Q I r h
  obtain ⟨a, L, rfl, ha, hL, q⟩ := h
  rw [Vals.ref1 r]
  have hh := I.ok.hd hc
  obtain ⟨o, es, ep, t, ho, hex, hd, g, pL, nd, hb, hf, hr, hl⟩ := setSO_get I ha
  have hn : es.size = L.length := by
    have z := pL.length_eq
    rw [List.length_map, Array.length_toList] at z
    exact z
  refine Calls.call_function_entry kind_sorted plain_sorted entry_sorted (args_sorted1 _) ?_
  unfold Builtin.«sorted»
  refine wpAny_bind (m := checkCount "sorted" 1 1 _) (wpAny_pure ?_)
  refine wpAny_bind (collect_set (A := X.A.in1) hh ⟨o, ho, hex.1, hd⟩ hf hb hr hl fun s1 vs k1 hz g1 o1 pm => ?_)
  have hvl : vs.length = L.length := by rw [pm.length_eq, List.length_map, Array.length_toList]; exact hn
  obtain ⟨xs, ex⟩ := strs_each (w := X.w) (h := s.heap) (l := vs) fun v hv => by
    obtain ⟨e, he, z⟩ := List.mem_map.mp (pm.mem_iff.mp hv)
    obtain ⟨x, tk, h1, _⟩ := g e he
    exact ⟨x, tk, by rw [← z]; exact h1⟩
  have px : xs.Perm L := by
    have z := pm.map (fun v => match v with | .str x _ => x | _ => Str.empty)
    rw [each_tx ex, List.map_map] at z
    exact z.trans pL
  refine wpAny_bind (wpAny_newList ?_ (by rw [hvl]; exact Nat.le_trans hL (by decide)))
  have hoL : (s1.heap.push (seqObj "list" vs.toArray 0)).get? s1.heap.objs.size = some (seqObj "list" vs.toArray 0) := Heap.get?_push_size _ rfl
  have sorted : (xs.mergeSort (PySem.W.dataLe false fun b : Str => PyData.str b)).Pairwise (fun x y => x.cps.toList ≤ y.cps.toList) := by
    rw [PySem.W.dataLe_str]
    have z := List.pairwise_mergeSort (le := fun a b : Str => decide (a.cps.toList ≤ b.cps.toList)) (fun a b c h1 h2 => decide_eq_true (List.le_trans (of_decide_eq_true h1) (of_decide_eq_true h2)))
      (fun a b => by rw [Bool.or_eq_true, decide_eq_true_eq, decide_eq_true_eq]; exact le_total_nats _ _) xs
    exact z.imp fun h => of_decide_eq_true h
  have pmm : (xs.mergeSort (PySem.W.dataLe false fun b : Str => PyData.str b)).Perm L := (List.mergeSort_perm _ _).trans px
  refine wpAny_bind (wpAny_holding (PySem.W.list_sort_data (a := s1.heap.objs.size) (n := 0) (R := fun (u : Value) (x : Str) => ∃ tk, u = Value.str x tk) (enc := fun b : Str => PyData.str b) hoL ex (each_read ex) (PySem.W.AllAlike.of fun _ _ => rfl) (PySem.W.Sortable.others fun b => ⟨fun z => (nomatch z), fun xs z => (nomatch z)⟩)
    (by rw [px.length_eq]; exact Nat.le_trans hL (by decide)) (fun b _ => ?_) fun out ol oe => ?_))
  · show X.A.in1.units + 1 + 0 < cLine
    have : X.A.in1.units = X.A.units + 1 := rfl
    omega
  · have hlt : s1.heap.objs.size ≥ s.heap.objs.size := hz
    obtain ⟨c, hc2⟩ := sortedHeap_at (vs := vs) (out := out.toArray) hoL
    have hls : ((xs.mergeSort (PySem.W.dataLe false fun b : Str => PyData.str b)).map V.str).length ≤ sizeLine := by rw [List.length_map, pmm.length_eq]; exact Nat.le_trans hL (by decide)
    have kp : ∀ b u, s.heap.get? b = some u → (sortedHeap (s1.heap.push (seqObj "list" vs.toArray 0)) s1.heap.objs.size vs out.toArray).get? b = some u := fun b u e => by
      have z := k1 b u e
      have lt := Heap.lt_size z
      rw [sortedHeap_old (Nat.ne_of_lt lt) (by rw [size_push']; exact Nat.lt_succ_of_lt lt)]
      exact Heap.get?_push_of_some _ z
    have hn : H s1.heap.objs.size = none := I.hok.fresh hz
    refine wpAny_pure ⟨_, rfl, .ref s1.heap.objs.size, upd H s1.heap.objs.size (.lst ((xs.mergeSort (PySem.W.dataLe false fun b : Str => PyData.str b)).map V.str)), ?_, rfl, q _ _ pmm sorted hn⟩
    refine I.call' (ch := []) o1 (Un.laid kp hz hn) (I.hok.laid kp hz ⟨hls, out, c, each_vals oe, hc2⟩) (by show AllBare s1.gens; rw [g1]; exact I.bare) (fun _ z => nomatch z)
end
end MH
set_option Elab.async false
set_option linter.all false
set_option maxRecDepth 100000
set_option maxHeartbeats 8000000
namespace MH
open PySem PySem.Spec PyProof.Rows L2
/-! ### len(set(xs)), texts of which none comes twice -/
section
variable {prog : Program} {w : World} {A : Around} {R : Result → Shared → Prop} {I : Addr} {fp wr : List Addr} {G : Array GenState → Array GenState → Prop} {n : Nat} {Pv : Nat → Value → Prop} {St : Nat → Shared → Prop}
/-- the texts taken so far, as a set -/
abbrev tkn (xs : List Str) (i : Nat) : Str → Bool := fun z => (xs.take i).any (· == z)
theorem gather_strs (W : WalksS prog w A.in1 I fp wr G n Pv St) (D : Addr) (hD : D ∉ fp) (xs : List Str) (hn : xs.length = n) (nd : xs.Nodup) (hb : n + 1 < scanBound)
    (hval : ∀ i v, Pv i v → ∃ t, v = .str (xs.getD i Str.empty) t) :
    ∀ (k i : Nat) (s : Shared), n - i = k → i ≤ n → St i s → s.heap.SetOf (PySem.strKind prog w) D (tkn xs i) i →
      (∀ s', Moved (D :: wr) G s s' → s'.heap.SetOf (PySem.strKind prog w) D (tkn xs n) n → R (.ok (.ret .none)) s') →
      codeAny (model prog w) A (.builtin "set.update.loop" ⟨[.ref D, .ref I], []⟩) R s := by
  have hDw : D ∉ wr := fun z => hD (W.sub _ z)
  intro k
  induction k with
  | zero =>
    intro i s hk hi hst hS hR
    obtain rfl : i = n := by omega
    refine codeAny_builtin PyProof.Rows.F.entry_set_update_loop ?_
    rw [Around.under_plainId PyProof.Rows.F.plain_set_update_loop _]
    show wpAny _ A.in1 (pyNext (.ref I) >>= _) _ _ s
    refine wpAny_bind (W.done s _ _ hst fun s' hm => ?_)
    show wpAny _ A.in1 (ret Value.none) _ _ s'
    refine wpAny_pure (hR s' (hm.mono fun b hb => List.mem_cons_of_mem _ hb) ?_)
    obtain ⟨o, es, ep, t, ho, more⟩ := hS
    exact ⟨o, es, ep, t, hm.heap D _ hDw ho, more⟩
  | succ k ih =>
    intro i s hk hi hst hS hR
    have lt : i < n := by omega
    have ltx : i < xs.length := by omega
    refine codeAny_builtin PyProof.Rows.F.entry_set_update_loop ?_
    rw [Around.under_plainId PyProof.Rows.F.plain_set_update_loop _]
    show wpAny _ A.in1 (pyNext (.ref I) >>= _) _ _ s
    refine wpAny_bind (W.item i s _ _ lt hst fun v s' hP hst' hm => ?_)
    obtain ⟨t, rfl⟩ := hval i v hP
    have hS' : s'.heap.SetOf (PySem.strKind prog w) D (tkn xs i) i := by
      obtain ⟨o, es, ep, tb, ho, more⟩ := hS
      exact ⟨o, es, ep, tb, hm.heap D _ hDw ho, more⟩
    have fresh : tkn xs i (xs.getD i Str.empty) = false := by
      rw [← Bool.not_eq_true]
      intro z
      obtain ⟨y, hy, e⟩ := List.any_eq_true.mp z
      have e' : y = xs.getD i Str.empty := eq_of_beq e
      rw [List.getD_eq_getElem?_getD, List.getElem?_eq_getElem ltx, Option.getD_some] at e'
      obtain ⟨j, hj, ej⟩ := List.mem_take_iff_getElem.mp hy
      have hji : j < i := by omega
      have := (List.pairwise_iff_getElem.mp nd) j i (by omega) ltx hji
      exact this (ej.trans e')
    show wpAny _ A.in1 (holding [Value.str (xs.getD i Str.empty) t] (setAdd D (.str (xs.getD i Str.empty) t)) >>= _) _ _ s'
    refine wpAny_bind (wpAny_holding ?_)
    unfold setAdd
    refine wpAny_holding (wpAny_bind ((PySem.strKind prog w).pyHash (k := xs.getD i Str.empty) (strKind_is _ _ _ _) ?_))
    refine wpAny_setAddHashed_of (knd := PySem.strKind prog w) (s := { s' with toks := s'.toks + 1 }) (strKind_is _ _ _ _) rfl hS' (by omega) fun h' sb hS2 => ?_
    have hS3 : h'.SetOf (PySem.strKind prog w) D (tkn xs (i + 1)) (i + 1) := by
      refine SetOf_congr hS2 (fun z => ?_) (by rw [fresh]; rfl)
      show (tkn xs i z || decide (z = xs.getD i Str.empty)) = (xs.take (i + 1)).any (· == z)
      rw [List.take_succ, List.any_append, List.getD_eq_getElem?_getD, List.getElem?_eq_getElem ltx]
      simp only [Option.getD_some, Option.toList_some, List.any_cons, List.any_nil, Bool.or_false]
      congr 1
      by_cases e : z = xs[i]
      · subst e; simp
      · have : (xs[i] == z) = false := beq_eq_false_iff_ne.mpr fun q => e q.symm
        simp [e, this]
    refine wpAny_pure ⟨plainId_quiet PyProof.Rows.F.plain_set_update_loop _, ih (i + 1) _ (by omega) lt (W.frame _ s' _ _ hst' (Nat.le_succ _) fun b hb o e => ?_) hS3 fun s'' hm'' hS'' => ?_⟩
    · rw [sb.2 b (fun z : b = D => hD (by rw [← z]; exact hb))]; exact e
    · refine hR s'' (Moved.trans W.gtrans ((hm.mono fun b hb => List.mem_cons_of_mem _ hb).then_heap (Nat.le_succ _) fun b o hb e => ?_) hm'') hS''
      rw [sb.2 b (fun z : b = D => hb (by rw [z]; exact List.mem_cons_self))]; exact e
end
section
variable {prog : Program} {w : World} {A : Around} {E : Value → Shared → Prop} {s : Shared}
theorem set_of_strs {l : Addr} {items : Array Value} {xs : List Str} {Q : Value → Shared → Prop}
    (hh : A.handled = none) (hl : s.heap.IsList l items) (hi : PyProof.Rows.StrsAre items.toList xs) (nd : xs.Nodup) (hb : xs.length + 1 < scanBound)
    (h : ∀ (h' : Heap) (tk : Nat), h'.SetOf (PySem.strKind prog w) s.heap.objs.size (tkn xs xs.length) xs.length →
      (∀ b o, b < s.heap.objs.size → s.heap.get? b = some o → h'.get? b = some o) → Q (.ref s.heap.objs.size) { s with heap := h', toks := tk }) :
    wpAny (model prog w) A (call (.type "set") [.ref l]) Q E s := by
  have len : xs.length = items.size := by rw [← StrsAre.len_eq hi, Array.length_toList]
  obtain ⟨c, tl, hmro⟩ := PySem.F.called_set.mro
  have hmade := PySem.F.called_set.made
  have hsub := PySem.F.called_set.sub
  refine wpAny_call (codeAny_of_tree ?_)
  show wpAny _ _ (callAny (.type "set") _) _ _ _
  refine wpAny_pure ⟨Code.quiet_builtin _ (by decide +kernel), codeAny_builtin PySem.F.entry_type_call ?_⟩
  rw [Around.under_plain (weight_type_call_type "set" [.ref l] []) rfl]
  have h1 := PySem.F.called_set.notType
  have h2 := PySem.F.called_set.canCreate
  have hct := PySem.F.typeCall_set_1 (.ref l)
  repeat (any_goals (first | assumption | wp_step))
  refine codeAny_mono (code_set_new_1 (.ref l) (E := E) (Q₁ := fun obj s₁ => ∃ led : Bool, obj = .ref s.heap.objs.size ∧ s₁ = { s with heap := s.heap.push { cls := .type "set", dict := none, data := .set #[] 0 (.fresh 0 0 led) } }) fun led => ⟨led, rfl, rfl⟩) fun r s₁ hr => ?_
  cases r with
  | error e => exact hr
  | ok fl =>
    cases fl with
    | ret obj =>
      obtain ⟨led, rfl, rfl⟩ := hr
      generalize hO : ({ cls := .type "set", dict := none, data := .set #[] 0 (.fresh 0 0 led) } : Obj) = oS
      have hS : (s.heap.push oS).get? s.heap.objs.size = some oS := Heap.get?_push_size _ (by rw [← hO]; rfl)
      have hT : Shared.TypeIs { s with heap := s.heap.push oS } (.ref s.heap.objs.size) "set" := ⟨_, hS, by rw [← hO]⟩
      have hli := PySem.F.called_set.init.lookup
      have hbi := PySem.F.called_set.init.bind (.ref s.heap.objs.size)
      repeat (any_goals (first | assumption | wp_step))
      refine codeAny_mono (codeAny_call_builtin (R := wants (fun r s₂ => r = .none ∧ ∃ h' tk, s₂ = { s with heap := h', toks := tk } ∧
          h'.SetOf (PySem.strKind prog w) s.heap.objs.size (tkn xs xs.length) xs.length ∧
          (∀ b o, b < s.heap.objs.size → s.heap.get? b = some o → h'.get? b = some o)) E) PySem.F.called_set.init.plain PySem.F.entry_set_init (check_set_init_1 hT ?_)) fun r₂ s₂ hr₂ => ?_
      · obtain ⟨ol, hol, hcl, nl, hdl⟩ := hl
        obtain ⟨ocls, odict, odata, oslots⟩ := ol
        simp only at hcl hdl
        subst hcl; subst hdl
        have hol' : (s.heap.push oS).get? l = some { cls := .type "list", dict := odict, data := .seq items nl, slots := oslots } := Heap.get?_push_of_some _ hol
        have hsls := PySem.F.sub_list_set
        have hslf := PySem.F.sub_list_frozenset
        have hne : (Value.type "list" == Value.type "dict") = false := by decide
        have hl1 : (s.heap.push oS).IsList l items := ⟨_, hol', rfl, nl, rfl⟩
        have lS : l < s.heap.objs.size := Heap.lt_size hol
        have sz : (s.heap.push oS).objs.size = s.heap.objs.size + 1 := Heap.size_push _ _
        have nI : l ≠ (s.heap.push oS).objs.size := by rw [sz]; exact Nat.ne_of_lt (Nat.lt_succ_of_lt lS)
        have nD : s.heap.objs.size ∉ [(s.heap.push oS).objs.size, l] := by
          rw [sz]; simp only [List.mem_cons, List.not_mem_nil, or_false, not_or]
          exact ⟨Nat.ne_of_lt (Nat.lt_succ_self _), Nat.ne_of_gt lS⟩
        have hget : ((s.heap.push oS).push { cls := .type "list_iterator", data := .fields #[.ref l, .int 0 0] }).get? s.heap.objs.size = some oS := Heap.get?_push_of_some _ hS
        subst hO
        unfold Builtin.«set.__init__» noKeywords Builtin.Frozenset.updateFrom
        generalize hPI : pyIter = PI
        wp_walk
        subst hPI
        refine wpAny_pyIter_list hl1 ?_
        refine wpAny_bind (wpAny_runValue ?_)
        have hh3 : A.in1.in1.in1.handled = none := by simp [hh]
        have hval : ∀ (i : Nat) (v : Value), items[i]? = some v → ∃ t, v = .str (xs.getD i Str.empty) t := fun i v hv => SS.strs_at hi i v (by rw [Array.getElem?_toList]; exact hv)
        refine gather_strs ((Walks.list hh3 _ l nI items).toS) s.heap.objs.size nD xs len nd (by rw [← len]; exact hb) hval (items.size - 0) 0 _ (by omega) (Nat.zero_le _)
          ⟨⟨_, Heap.get?_push_size _ rfl, rfl, rfl⟩, (hl1.push _)⟩ ?begin ?fin
        case begin =>
          exact SetOf_congr ((PyProof.Rows.setObjOf_fresh (knd := PySem.strKind prog w) led).setOf hget (by unfold scanBound; omega)) (fun _ => rfl) rfl
        case fin =>
          intro s' hm hS'
          obtain ⟨h', g', d', tk', os'⟩ := s'
          have eg : g' = s.gens := hm.gens
          have ed : d' = s.drawn := hm.drawn
          have eo : os' = s.os := hm.os
          subst eg; subst ed; subst eo
          rw [← len] at hS'
          show wpAny _ _ _ _ _ _
          refine wpAny_pure ?_
          show wpAny _ _ (ret Value.none) _ _ _
          refine wpAny_pure ⟨rfl, h', tk', rfl, hS', fun b o hb e => ?_⟩
          refine hm.heap b o ?_ (Heap.get?_push_of_some _ (Heap.get?_push_of_some _ e))
          rw [sz]
          simp only [List.mem_cons, List.not_mem_nil, or_false, not_or]
          exact ⟨Nat.ne_of_lt hb, Nat.ne_of_lt (Nat.lt_succ_of_lt hb)⟩
      · cases r₂ with
        | error e => exact hr₂
        | ok fl₂ =>
          cases fl₂ with
          | ret r =>
            obtain ⟨rfl, h', tk, rfl, hS', hk'⟩ := hr₂
            repeat (any_goals (first | assumption | wp_step))
            exact h _ _ hS' hk'
          | _ => exact hr₂.elim
    | _ => exact hr.elim
end
/-- len(set(xs)) -/
def tLenSetN (K : PySem.W.Frag) (ta : TE) : TE := fun σ H Q => ta σ H fun x H1 => ∃ l, ∃ xs : List Str, x = .ref l ∧ SqL K H1 l (xs.map V.str) ∧ xs.Nodup ∧ xs.length ≤ 4000 ∧ Q (.int xs.length) H1
theorem pe_lenSetN {X : Cx} {a : Expr} {ta : TE} {p p2 q pos : Pos} (hc : X.calm = true) (hg : Gl X "len") (hm : X.mg "len" = none) (hg2 : Gl X "set") (hm2 : X.mg "set" = none) (ha : PE X a ta)
    (na : starEach [a] X.env = (false, eval a X.env) :: starEach [] X.env := by rfl) : PE X (.Call (.Name "len" p) [.Call (.Name "set" p2) [a] [] q] [] pos) (tLenSetN X.K ta) := by
  refine ⟨fun pins s σ H Q I h => ?_⟩
  refine Call_ (ld_blt I hg hm boot_len ?_)
  refine PyProof.Rows.callWith_builtin1 (PyProof.Rows.args_cons ?_ rfl) rfl rfl
  refine Call_ (ld_blt I hg2 hm2 boot_set ?_)
  refine PyProof.Rows.callWith_type1 (PyProof.Rows.args_cons (thn (ha.run pins s σ H _ I h) fun v s1 ⟨x, H1, I1, r1, q1⟩ => PyProof.Rows.args_nil ?_) na) na rfl
  obtain ⟨l, xs, rfl, hq, nd, h1, q1⟩ := q1
  cases r1
  obtain ⟨its, r, pl, hz⟩ := I1.list hq
  refine set_of_strs (I1.ok.hd hc) pl.isList (by simpa using strsAre_of r) nd (by unfold scanBound; omega) fun h' tk hS hk => ?_
  refine PyProof.Rows.args_nil ?_
  obtain ⟨o, es, ep, t, ho, hex, hd, _, _, _, hf, hn⟩ := hS
  have I2 : Inv X pins σ H1 { s1 with heap := h', toks := tk } := I1.kept fun b o e => hk b o (Heap.lt_size e) e
  exact call_len_set ho hex hd hf (by rw [hn] <;> omega) ⟨.int xs.length, H1, I2.tok _, ⟨_, by rw [hn]⟩, q1⟩
end MH
set_option Elab.async false
set_option linter.all false
set_option maxRecDepth 100000
set_option maxHeartbeats 8000000
namespace MH
open PySem PySem.Spec PyProof.Rows L2
/-! ### {elt for t0 in i0 if .. for t1 in i1 if ..}, texts -/
abbrev comp2 (elt t0 i0 t1 i1 : Expr) (f0 f1 : List Expr) (scope : Scope) (pos : Pos) : Expr := .SetComp elt [⟨t0, i0, f0, 0⟩, ⟨t1, i1, f1, 0⟩] scope pos
section
variable (elt t0 i0 t1 i1 : Expr) (f0 f1 : List Expr) (scope : Scope) (pos : Pos) (it acc : Value) (env : Env)
theorem turn_outer : compTurn (comp2 elt t0 i0 t1 i1 f0 f1 scope pos) 0 it acc env = (do
      standAt i0.pos
      match ← pyNext it with
      | none => pure (.done .next)
      | some v =>
        letOwnedTupleGo t0 it v
        assign t0 env v
        let mut go := true
        for c in f0 do
          if go then go ← isTrue c env (eval c env)
        if go then
          let x ← eval i1 env
          standAt i1.pos
          let x ← foldedSetIterable i1 env x
          let _ ← runOwn (.compStart (comp2 elt t0 i0 t1 i1 f0 f1 scope pos) 1 (← holding [x] (pyIter x)) acc env) env
        again (.compLoop (comp2 elt t0 i0 t1 i1 f0 f1 scope pos) 0 it acc env)) := by rfl
theorem turn_inner : compTurn (comp2 elt t0 i0 t1 i1 f0 f1 scope pos) 1 it acc env = (do
      standAt i1.pos
      match ← pyNext it with
      | none => pure (.done .next)
      | some v =>
        letOwnedTupleGo t1 it v
        assign t1 env v
        let mut go := true
        for c in f1 do
          if go then go ← isTrue c env (eval c env)
        if go then
          (do let v ← eval elt env; standAt elt.pos; let _ ← call (.builtin "set.add") [acc, v])
        again (.compLoop (comp2 elt t0 i0 t1 i1 f0 f1 scope pos) 1 it acc env)) := by rfl
end
section
variable {prog : Program} {w : World} {A : Around} {R : Result → Shared → Prop} {s : Shared} {elt t0 i0 t1 i1 : Expr} {f0 f1 : List Expr} {scope : Scope} {pos : Pos} {it acc : Value} {env : Env}
/-- where an error of the turn goes -/
abbrev NtE (prog : Program) (w : World) (A : Around) (env : Env) (R : Result → Shared → Prop) : Value → Shared → Prop := notedBy (model prog w) A env fun e s' => R (.error e) s'
/-- the tests of a clause, one behind the other -/
abbrev tests (f : List Expr) (env : Env) : Sem Bool := forIn f true fun c r => if r = true then do let ok ← isTrue c env (eval c env); pure (ForInStep.yield ok) else pure (ForInStep.yield r)
/-- next, store, tests: what a turn does ahead of its heart -/
abbrev ahead (prog : Program) (w : World) (A : Around) (R : Result → Shared → Prop) (tg : Expr) (fs : List Expr) (env : Env) (it : Value) (stop : Shared → Prop) (heart : Shared → Prop) (skip : Shared → Prop) (s : Shared) : Prop :=
  wpAny (model prog w) A (pyNext it) (fun r s₁ => match r with
    | none => stop s₁
    | some v => wpAny (model prog w) A (letOwnedTupleGo tg it v) (fun _ s₂ => wpAny (model prog w) A (assign tg env v) (fun _ s₃ =>
        wpAny (model prog w) A (tests fs env) (fun ok s₄ => if ok = true then heart s₄ else skip s₄) (NtE prog w A env R) s₃) (NtE prog w A env R) s₂) (NtE prog w A env R) s₁) (NtE prog w A env R) s
theorem loop_outer (hs : ∀ x, foldedSetIterable i1 env x = pure x) (J : Nat → Shared → Prop)
    (turn : ∀ n s, J n s → ahead prog w A R t0 f0 env it (R (.ok .next))
      (fun s₄ => wpAny (model prog w) A (eval i1 env) (fun x s₅ => wpAny (model prog w) A (pyIter x) (fun it1 s₆ =>
        codeAny (model prog w) A (.compStart (comp2 elt t0 i0 t1 i1 f0 f1 scope pos) 1 it1 acc env) (fun r s' => match r with
          | .ok _ => ∃ m, m < n ∧ J m s'
          | .error _ => False) s₆) (NtE prog w A env R) s₅) (NtE prog w A env R) s₄) (fun s₄ => ∃ m, m < n ∧ J m s₄) s)
    (n : Nat) (h : J n s) : codeAny (model prog w) A (.compLoop (comp2 elt t0 i0 t1 i1 f0 f1 scope pos) 0 it acc env) R s := by
  refine codeAny_loop rfl J (fun n s hJ => ?_) n h
  show wpAny _ A ((compTurn (comp2 elt t0 i0 t1 i1 f0 f1 scope pos) 0 it acc env).onRaise (fun x => do noteFrame x env; theTreesLotGoes x)) _ _ s
  refine wpAny_noted ?_
  rw [turn_outer]
  refine wpAny_bind (wpAny_standAt (wpAny_bind (wpAny_mono (turn n s hJ) (fun r s₁ q1 => ?_) fun _ _ z => z)))
  cases r with
  | none => exact wpAny_pure q1
  | some v =>
    refine wpAny_bind (wpAny_mono q1 (fun _ s₂ q2 => ?_) fun _ _ z => z)
    refine wpAny_bind (wpAny_mono q2 (fun _ s₃ q3 => wpAny_bind (wpAny_mono q3 (fun ok s₄ q4 => ?_) fun _ _ z => z)) fun _ _ z => z)
    cases ok with
    | false => exact wpAny_pure ⟨rfl, q4⟩
    | true =>
      refine wpAny_bind (wpAny_mono q4 (fun x s₅ q5 => ?_) fun _ _ z => z)
      refine wpAny_bind (wpAny_standAt (wpAny_bind (wpAny_of_eq (hs x) (wpAny_bind (wpAny_holding (wpAny_mono q5 (fun it1 s₆ q6 => ?_) fun _ _ z => z))))))
      refine wpAny_bind (wpAny_runOwn ?_)
      rw [Around.mark_none]
      refine codeAny_mono q6 fun r s' hr => ?_
      cases r with
      | error e => exact hr.elim
      | ok f => first | exact wpAny_pure ⟨rfl, hr⟩ | exact wpAny_bind (wpAny_pure (wpAny_pure ⟨rfl, hr⟩))
theorem loop_inner (J : Nat → Shared → Prop)
    (turn : ∀ n s, J n s → ahead prog w A R t1 f1 env it (R (.ok .next))
      (fun s₄ => wpAny (model prog w) A (eval elt env) (fun x s₅ => wpAny (model prog w) A (call (.builtin "set.add") [acc, x]) (fun _ s₆ => ∃ m, m < n ∧ J m s₆) (NtE prog w A env R) s₅) (NtE prog w A env R) s₄)
      (fun s₄ => ∃ m, m < n ∧ J m s₄) s)
    (n : Nat) (h : J n s) : codeAny (model prog w) A (.compLoop (comp2 elt t0 i0 t1 i1 f0 f1 scope pos) 1 it acc env) R s := by
  refine codeAny_loop rfl J (fun n s hJ => ?_) n h
  show wpAny _ A ((compTurn (comp2 elt t0 i0 t1 i1 f0 f1 scope pos) 1 it acc env).onRaise (fun x => do noteFrame x env; theTreesLotGoes x)) _ _ s
  refine wpAny_noted ?_
  rw [turn_inner]
  refine wpAny_bind (wpAny_standAt (wpAny_bind (wpAny_mono (turn n s hJ) (fun r s₁ q1 => ?_) fun _ _ z => z)))
  cases r with
  | none => exact wpAny_pure q1
  | some v =>
    refine wpAny_bind (wpAny_mono q1 (fun _ s₂ q2 => ?_) fun _ _ z => z)
    refine wpAny_bind (wpAny_mono q2 (fun _ s₃ q3 => wpAny_bind (wpAny_mono q3 (fun ok s₄ q4 => ?_) fun _ _ z => z)) fun _ _ z => z)
    cases ok with
    | false => exact wpAny_pure ⟨rfl, q4⟩
    | true =>
      exact wpAny_bind (wpAny_bind (wpAny_mono q4 (fun x s₅ q5 => wpAny_bind (wpAny_standAt (wpAny_bind (wpAny_mono q5 (fun _ s₆ q6 => wpAny_pure (wpAny_pure ⟨rfl, q6⟩)) fun _ _ z => z)))) fun _ _ z => z))
theorem start_inner (h0 : codeAny (model prog w) A (.compLoop (comp2 elt t0 i0 t1 i1 f0 f1 scope pos) 1 it acc env) R s)
    (h : wpAny (model prog w) A (pyIter it) (fun it' s' => codeAny (model prog w) A (.compLoop (comp2 elt t0 i0 t1 i1 f0 f1 scope pos) 1 it' acc env) R s') (NtE prog w A env R) s) :
    codeAny (model prog w) A (.compStart (comp2 elt t0 i0 t1 i1 f0 f1 scope pos) 1 it acc env) R s := by
  refine codeAny_of_tree ?_
  show wpAny _ _ ((compStart (comp2 elt t0 i0 t1 i1 f0 f1 scope pos) 1 it acc env).onRaise (fun x => do noteFrame x env; standAt theWindowsPlace)) _ _ s
  refine wpAny_notedAt ?_
  unfold compStart
  show wpAny _ _ (ask >>= _) _ _ s
  refine wpAny_bind (wpAny_askSetting (wpAny_ite ?_))
  split
  · first | exact wpAny_bind (wpAny_pure (wpAny_pure (And.intro rfl h0))) | exact wpAny_pure (And.intro rfl h0)
  · first
      | exact wpAny_bind (wpAny_rule (wpAny_bind (wpAny_standAt (wpAny_bind (wpAny_mono h (fun it' s' z => wpAny_pure (And.intro rfl z)) fun _ _ x => x)))))
      | (refine wpAny_bind (wpAny_rule ?_); show wpAny _ _ (standAt i1.pos >>= _) _ _ s; exact wpAny_bind (wpAny_standAt (wpAny_bind (wpAny_mono h (fun it' s' z => wpAny_pure (And.intro rfl z)) fun _ _ x => x))))
end
end MH
set_option Elab.async false
set_option linter.all false
set_option maxRecDepth 100000
set_option maxHeartbeats 8000000
namespace MH
open PySem PySem.Spec PyProof.Rows L2
/-- the set D, one more text in it -/
abbrev putS (w : World) (D : Addr) (L : List Str) (x : Str) : HO := SetSO w D (if x ∈ L then L else x :: L)
/-- what the reading asks: as of a list's comprehension of two clauses, the element a text that goes into the set at D -/
def tSc2 (w : World) (wi : TI) (g : TG) (tt : TT) (wi1 : TI) (g1 : TG) (tt1 : TT) (te : TE) (vs vs1 : List Nat) : TE := fun σ H Q => wi σ H fun J H1 => ∀ D, H1 D = none → ∃ W : Nat → Nat → Hp → Prop, (∃ m, W 0 m (upd H1 D (SetSO w D []))) ∧ ∀ i m H, W i m H →
  (J.stop i H ∧ Q (.ref D) H) ∨ (J.go i H ∧ ∃ Nx : Hp → Prop, (∀ H', Nx H' → ∃ m', m' < m ∧ W (i + 1) m' H') ∧ ∀ x H', J.yld i H x H' → g x (wipe σ vs) H' fun σ2 H2 => wipe σ2 vs = wipe σ vs ∧ tt σ2 H2 fun b H3 =>
    if b = true then wi1 σ2 H3 fun J1 H4 => ∃ W1 : Nat → Nat → Hp → Prop, (∃ m, W1 0 m H4) ∧ ∀ j k H, W1 j k H →
      (J1.stop j H ∧ Nx H) ∨ (J1.go j H ∧ ∃ Nx1 : Hp → Prop, (∀ H', Nx1 H' → ∃ k', k' < k ∧ W1 (j + 1) k' H') ∧ ∀ x H', J1.yld j H x H' → g1 x (wipe σ2 vs1) H' fun σ3 H5 => wipe σ3 vs1 = wipe σ2 vs1 ∧ tt1 σ3 H5 fun b H6 =>
        if b = true then te σ3 H6 fun y H7 => ∃ z L, y = .str z ∧ H7 D = some (SetSO w D L) ∧ L.length + 1 < scanBound ∧ Nx1 (upd H7 D (putS w D L z)) else Nx1 H6)
    else Nx H3)
section
variable {X : Cx}
/-- a judgement in the comprehension's own block, wherever it stands -/
abbrev InBlk (X : Cx) (scope : Scope) (J : Cx → Prop) : Prop := ∀ (s : Shared) (H : Hp) (C : Addr) (cl : List (Str × Addr)) (fp : List Addr), J (X.blk s H scope (compEnvC scope cl C X.env) fp)
theorem sc2_run {pins : List (Addr × Obj)} {s : Shared} {σ : L2.St} {H : Hp} {Q : VK} {elt tg iter tg1 iter1 : Expr} {ifs ifs1 : List Expr} {scope : Scope} {own : List (Str × Nat)} {vs1 : List Nat} {pos pos' : Pos} {wi wi1 : TI} {g g1 : TG} {tt tt1 : TT} {te : TE}
    (hc : X.calm = true) (hN : X.N.Nodup) (I : Inv X pins σ H s) (hi : PI X tg iter wi) (ok : BlkOk X.N X.env.scope scope own) (hv : ∀ i ∈ vs1, i ∈ own.map (·.2))
    (hg : InBlk X scope fun Y => PG Y tg g) (ht : InBlk X scope fun Y => PTs Y ifs tt) (he : InBlk X scope fun Y => PE Y elt te) (hs : ∀ x, foldedSetIterable iter X.env x = pure x)
    (hi1 : InBlk X scope fun Y => PI Y tg1 iter1 wi1) (hg1 : InBlk X scope fun Y => PG Y tg1 g1) (ht1 : InBlk X scope fun Y => PTs Y ifs1 tt1) (hs1 : ∀ env x, foldedSetIterable iter1 env x = pure x)
    (h : tSc2 X.w wi g tt wi1 g1 tt1 te (own.map (·.2)) vs1 σ H Q) {Qf : Value → Shared → Prop}
    (hRR : ∀ D C s' m H', Inv X pins σ H' s' → Q (.ref D) H' → s'.heap.Ns C m → FpOk X pins H' C → compPost (model X.prog X.w) X.A X.xe none Qf (.ref D) C (.ok .next) s') :
    wpAny (model X.prog X.w) X.A (comprehension (comp2 elt tg iter tg1 iter1 ifs ifs1 scope pos) scope X.env pos' (newSet (.type "set")) false (eval iter X.env) none) Qf X.xe s := by
  have closed : ∀ y ∈ scope.names, y.2 = .free → ∃ c, X.env.cells.lookup y.1 = some c := fun y hy e => (ok.free y hy e).elim (fun k => I.ok.has _ (.inl k)) fun k => I.ok.has _ (.inr k)
  refine wpAny_comprehension_free (use := none) rfl hs (closure_ok closed) ok.kind (fun y hy e => by rw [ok.uniq y hy, e]) (thn (hi.run pins s σ H _ I h) fun xv s1 hx => thn hx fun itv s2 h2 => ?_)
  obtain ⟨it, fp, tn, J, H2, rfl, I2, T, st2, f2, q⟩ := h2
  refine PpSet.newSet_ok (newEnv_comp ?_)
  generalize hD : s2.heap.objs.size = D
  have hDn : H2 D = none := I2.hok.fresh (Nat.le_of_eq hD)
  obtain ⟨W, ⟨m0, w0⟩, turn⟩ := q D hDn
  generalize hOs : ({ cls := .type "set", dict := none, data := .set #[] 0 (.fresh 0 0 (!X.w.params.followText "set-order")) } : Obj) = oS
  generalize hs3 : ({ s2 with heap := s2.heap.push oS } : Shared) = s3
  have hp3 : s3.heap = s2.heap.push oS := by rw [← hs3]
  generalize hH3 : upd H2 D (SetSO X.w D []) = H3 at w0
  have I3 : Inv X pins σ H3 s3 := by
    rw [← hs3, ← hH3, ← hOs]
    refine I2.laid (t' := s2.toks) (fun b o e => Heap.get?_push_of_some _ e) (Nat.le_of_eq hD) ?_
    rw [← hD]
    exact setSO_new (setS_fresh X.w)
  have below : ∀ b ∈ fp, b < s2.heap.objs.size := fun b hb => let ⟨o, e, _⟩ := T.obj _ _ st2 b hb; Heap.lt_size e
  have f3 : ∀ b ∈ fp, FpOk X pins H3 b ∧ b < s3.heap.objs.size := fun b hb => by
    have lt := below b hb
    refine ⟨⟨?_, (f2 b hb).2⟩, by rw [hp3, Heap.size_push]; exact Nat.lt_succ_of_lt lt⟩
    rw [← hH3, upd_ne (by rw [← hD]; exact Nat.ne_of_lt lt)]
    exact (f2 b hb).1
  have st3 : tn 0 s3.heap := T.keep _ _ _ st2 fun b _ o e => by rw [hp3]; exact Heap.get?_push_of_some _ e
  have I4 := block_start I3 ok hN f3
  generalize hcl : cellsFrom (s3.heap.objs.size + 1) scope.names (cloFrom X.env.cells scope.names []) = cl at I4 ⊢
  have pg := hg s3 H3 s3.heap.objs.size cl fp
  have pt := ht s3 H3 s3.heap.objs.size cl fp
  have pe := he s3 H3 s3.heap.objs.size cl fp
  have pi1 := hi1 s3 H3 s3.heap.objs.size cl fp
  have pg1 := hg1 s3 H3 s3.heap.objs.size cl fp
  have pt1 := ht1 s3 H3 s3.heap.objs.size cl fp
  show codeAny _ _ (.compStart (comp2 elt tg iter tg1 iter1 ifs ifs1 scope pos) 0 (.ref it) (.ref D) (compEnvC scope cl s3.heap.objs.size X.env)) (compPost (model X.prog X.w) X.A X.xe none Qf (.ref D) s3.heap.objs.size)
    { s3 with heap := pushCells (s3.heap.push { cls := .type "dict", data := .dict #[] }) scope.names }
  have n3 : ∀ b ∈ fp, H3 b = none := fun b hb => (f3 b hb).1.1
  have cL : (compEnvC scope cl s3.heap.objs.size X.env).locals = s3.heap.objs.size := rfl
  generalize compEnvC scope cl s3.heap.objs.size X.env = ce at I4 pg pt pe pi1 pg1 pt1 cL ⊢
  generalize hs4 : ({ s3 with heap := pushCells (s3.heap.push { cls := .type "dict", data := .dict #[] }) scope.names } : Shared) = s4 at I4 ⊢
  have st4 : tn 0 s4.heap := T.keep _ _ _ st3 fun b _ o e => by rw [← hs4]; exact pushCells_keeps _ _ _ _ (Heap.get?_push_of_some _ e)
  have own3 : ∀ {σ' : L2.St} {H' : Hp} {s' : Shared}, Inv (X.blk s3 H3 scope ce fp) [] σ' H' s' → (∀ b ∈ fp, H' b = none) → ∀ b ∈ fp, FpOk (X.blk s3 H3 scope ce fp) [] H' b := fun {σ' H' s'} I' hn b hb =>
    ⟨hn b hb, (I'.ok.exf b hb).1, I'.ok.exfs b hb, .inl hb, fun x c e => (I'.ok.exf b hb).2 x c e, fun p hp => absurd (show p ∈ ([] : List (Addr × Obj)) ++ [] from hp) (by simp)⟩
  -- what holds between two turns of the outer loop
  let OutI : Nat → Shared → Prop := fun n s' => ∃ i H', Inv (X.blk s3 H3 scope ce fp) [] (wipe σ (own.map (·.2))) H' s' ∧ tn i s'.heap ∧ (∀ b ∈ fp, H' b = none) ∧ W i n H'
  have outer : codeAny (model X.prog X.w) X.A (.compLoop (comp2 elt tg iter tg1 iter1 ifs ifs1 scope pos) 0 (.ref it) (.ref D) ce) (compPost (model X.prog X.w) X.A X.xe none Qf (.ref D) s3.heap.objs.size) s4 := by
    refine loop_outer (hs1 ce) OutI ?_ m0 ⟨0, H3, I4, st4, n3, w0⟩
    rintro n s5 ⟨i, H5, I5, st5, n5, w5⟩
    rcases turn i n H5 w5 with ⟨stop, qq⟩ | ⟨go, Nx, hNx, step⟩
    · refine thnF (T.done (X.blk s3 H3 scope ce fp) rfl rfl rfl hc i [] s5 _ H5 (fun _ _ => False) I5 (own3 I5 n5) st5 stop) fun r s6 ⟨hr, I6⟩ => ?_
      subst hr
      have I7 : Inv X pins σ H5 s6 := I3.call' (ch := fp) I6.os I6.base I6.hok I6.bare fun b hb => let ⟨_, e1, e2, e3, e4, e5⟩ := (f3 b hb).1; ⟨e3, e1, e4, e5⟩
      have nC : H5 s3.heap.objs.size = none := by rw [← cL]; exact I6.free
      obtain ⟨m, hn, _⟩ := I6.loc
      have hn : s6.heap.Ns ce.locals m := hn
      rw [cL] at hn
      exact hRR D s3.heap.objs.size s6 m H5 I7 qq hn (I3.fpOk (Nat.le_refl _) nC)
    · refine thnF (T.item (X.blk s3 H3 scope ce fp) rfl rfl rfl hc i [] s5 _ H5 (fun _ _ => False) I5 (own3 I5 n5) st5 go) fun r s6 ⟨u, hr, h6⟩ => ?_
      subst hr
      refine thnF h6 fun _ s7 ⟨x, H7, I7, r7, y7, st7, n7⟩ => ?_
      have I7' := I7.pinned (own3 I7 n7) (T.obj _ _ st7)
      refine thnF (pg.run _ s7 _ H7 x u _ I7' r7 (step x H7 y7)) fun _ s8 ⟨σ8, H8, I8, hw8, q8⟩ => ?_
      refine thnF (pt.run _ s8 σ8 H8 _ I8 q8) fun b s9 ⟨H9, I9, q9⟩ => ?_
      -- any end of the turn that knows what the block knew
      have fin : ∀ {σ9 : L2.St} {s' : Shared} {H' : Hp}, Inv (X.blk s3 H3 scope ce fp) ([] ++ pinsAt fp s7.heap) σ9 H' s' → (wipe σ (own.map (·.2))).length = σ9.length →
          (∀ (j : Nat) v, (wipe σ (own.map (·.2)))[j]? = some (some v) → σ9[j]? = some (some v)) → Nx H' → ∃ m, m < n ∧ OutI m s' := fun {σ9 s' H'} I' hl hk nx => by
        obtain ⟨m', hm, w'⟩ := hNx H' nx
        have kept : ∀ b ∈ fp, ∀ o, s7.heap.get? b = some o → s'.heap.get? b = some o ∧ H' b = none := fun b hb o e =>
          let z := I'.pin (b, o) (List.mem_append_right _ (List.mem_append_right _ (mem_pinsAt hb e)))
          ⟨z.1, z.2.1⟩
        exact ⟨m', hm, i + 1, H', (I'.unpinned (pins := [])).weak hl hk, T.keep _ _ _ st7 fun b hb o e => (kept b hb o e).1, fun b hb => let ⟨o, e, _⟩ := T.obj _ _ st7 b hb; (kept b hb o e).2, w'⟩
      have l8 : (wipe σ (own.map (·.2))).length = σ8.length := by rw [← hw8, wipe_length]
      have k8 : ∀ (j : Nat) v, (wipe σ (own.map (·.2)))[j]? = some (some v) → σ8[j]? = some (some v) := fun j v e => by
        rw [← hw8] at e
        exact (wipe_some e).1
      have k9 : ∀ (j : Nat) v, (wipe σ (own.map (·.2)))[j]? = some (some v) → (wipe σ8 vs1)[j]? = some (some v) := fun j v e => by
        rw [← hw8] at e
        obtain ⟨e1, e2⟩ := wipe_some e
        rw [wipe_out fun z => e2 (hv j z)]
        exact e1
      cases b with
      | false =>
        simp only [Bool.false_eq_true, if_false] at q9 ⊢
        exact fin I9 l8 k8 q9
      | true =>
        simp only [if_true] at q9 ⊢
        refine thnF (pi1.run _ s9 σ8 H9 _ I9 q9) fun xv s10 hx => thnF hx fun itv s11 h11 => ?_
        obtain ⟨it1, fp1, tn1, J1, H11, rfl, I11, T1, st11, f11, W1, ⟨m1, w1⟩, turn1⟩ := h11
        have own1 : ∀ {H' : Hp}, (∀ b ∈ fp1, H' b = none) → ∀ b ∈ fp1, FpOk (X.blk s3 H3 scope ce fp) ([] ++ pinsAt fp s7.heap) H' b := fun hn b hb => ⟨hn b hb, (f11 b hb).2⟩
        let InI : Nat → Shared → Prop := fun k s' => ∃ j H', Inv (X.blk s3 H3 scope ce fp) ([] ++ pinsAt fp s7.heap) (wipe σ8 vs1) H' s' ∧ tn1 j s'.heap ∧ (∀ b ∈ fp1, H' b = none) ∧ W1 j k H'
        have inner : codeAny (model X.prog X.w) X.A (.compLoop (comp2 elt tg iter tg1 iter1 ifs ifs1 scope pos) 1 (.ref it1) (.ref D) ce)
            (fun r s' => match r with
              | .ok _ => ∃ m, m < n ∧ OutI m s'
              | .error _ => False) s11 := by
          refine loop_inner InI ?_ m1 ⟨0, H11, I11.weak (wipe_length _ _) (fun j v e => (wipe_some e).1), st11, fun b hb => (f11 b hb).1, w1⟩
          rintro k s12 ⟨j, H12, I12, st12, n12, w12⟩
          rcases turn1 j k H12 w12 with ⟨stop1, nx1⟩ | ⟨go1, Nx1, hNx1, step1⟩
          · refine thnF (T1.done (X.blk s3 H3 scope ce fp) rfl rfl rfl hc j _ s12 (wipe σ8 vs1) H12 (fun _ _ => False) I12 (own1 n12) st12 stop1) fun r s13 ⟨hr, I13⟩ => ?_
            subst hr
            exact fin I13 (l8.trans (wipe_length σ8 vs1).symm) k9 nx1
          · refine thnF (T1.item (X.blk s3 H3 scope ce fp) rfl rfl rfl hc j _ s12 (wipe σ8 vs1) H12 (fun _ _ => False) I12 (own1 n12) st12 go1) fun r s13 ⟨u1, hr, h13⟩ => ?_
            subst hr
            refine thnF h13 fun _ s14 ⟨x1, H14, I14, r14, y14, st14, n14⟩ => ?_
            have I14' := I14.pinned (own1 n14) (T1.obj _ _ st14)
            refine thnF (pg1.run _ s14 (wipe σ8 vs1) H14 x1 u1 _ I14' r14 (step1 x1 H14 y14)) fun _ s15 ⟨σ15, H15, I15, hw15, q15⟩ => ?_
            refine thnF (pt1.run _ s15 σ15 H15 _ I15 q15) fun b1 s16 ⟨H16, I16, q16⟩ => ?_
            have fin1 : ∀ {s' : Shared} {H' : Hp}, Inv (X.blk s3 H3 scope ce fp) (([] ++ pinsAt fp s7.heap) ++ pinsAt fp1 s14.heap) σ15 H' s' → Nx1 H' → ∃ m, m < k ∧ InI m s' := fun {s' H'} I' nx => by
              obtain ⟨m', hm, w'⟩ := hNx1 H' nx
              have kept : ∀ b ∈ fp1, ∀ o, s14.heap.get? b = some o → s'.heap.get? b = some o ∧ H' b = none := fun b hb o e =>
                let z := I'.pin (b, o) (List.mem_append_right _ (List.mem_append_right _ (mem_pinsAt hb e)))
                ⟨z.1, z.2.1⟩
              exact ⟨m', hm, j + 1, H', I'.unpinned.weak (by rw [← hw15, wipe_length]) (fun j v e => by rw [← hw15] at e; exact (wipe_some e).1), T1.keep _ _ _ st14 fun b hb o e => (kept b hb o e).1, fun b hb => let ⟨o, e, _⟩ := T1.obj _ _ st14 b hb; (kept b hb o e).2, w'⟩
            cases b1 with
            | false =>
              simp only [Bool.false_eq_true, if_false] at q16 ⊢
              exact fin1 I16 q16
            | true =>
              simp only [if_true] at q16 ⊢
              refine thnF (pe.run _ s16 σ15 H16 _ I16 q16) fun z s17 ⟨yv, H17, I17, r17, zt, L, ey, hD17, room, nx⟩ => ?_
              subst ey
              obtain ⟨tk, rfl⟩ := r17
              exact addS_ok (X := X.blk s3 H3 scope ce fp) I17 hD17 room fun s18 I18 => fin1 I18 nx
        exact start_inner inner (T1.self X.A 0 _ _ _ st11 inner)
  exact PpSet.codeAny_compStart_set outer (T.self X.A 0 _ _ _ st4 outer)
/-- as a value -/
theorem pe_sc2 {elt tg iter tg1 iter1 : Expr} {ifs ifs1 : List Expr} {scope : Scope} {own : List (Str × Nat)} {vs1 : List Nat} {pos : Pos} {wi wi1 : TI} {g g1 : TG} {tt tt1 : TT} {te : TE}
    (hc : X.calm = true) (hN : X.N.Nodup) (hi : PI X tg iter wi) (ok : BlkOk X.N X.env.scope scope own) (hv : ∀ i ∈ vs1, i ∈ own.map (·.2))
    (hg : InBlk X scope fun Y => PG Y tg g) (ht : InBlk X scope fun Y => PTs Y ifs tt) (hi1 : InBlk X scope fun Y => PI Y tg1 iter1 wi1) (hg1 : InBlk X scope fun Y => PG Y tg1 g1) (ht1 : InBlk X scope fun Y => PTs Y ifs1 tt1)
    (he : InBlk X scope fun Y => PE Y elt te) (hs : ∀ x, foldedSetIterable iter X.env x = pure x := by intro _; rfl) (hs1 : ∀ env x, foldedSetIterable iter1 env x = pure x := by intro _ _; rfl) :
    PE X (comp2 elt tg iter tg1 iter1 ifs ifs1 scope pos) (tSc2 X.w wi g tt wi1 g1 tt1 te (own.map (·.2)) vs1) := by
  refine ⟨fun pins s σ H Q I h => ?_⟩
  rw [PpSet.eval_SetComp]
  refine sc2_run hc hN I hi ok hv hg ht he hs hi1 hg1 ht1 hs1 h fun D C s' m H' I' q hn f => ⟨m, hn, fun h'' sb => ?_⟩
  obtain ⟨f0, f1, f2, f3, f4, f5⟩ := f
  exact ⟨.ref D, H', I'.turned (t' := s'.toks) (fun b o hb e => (sb.2 b hb).trans e) f0 f1 f3 f4 f5, rfl, q⟩
end
end MH
set_option Elab.async false
set_option linter.all false
set_option maxRecDepth 100000
set_option maxHeartbeats 4000000
namespace MH
open PySem PySem.Spec PyProof.Rows L2

/-! ### heaps that grow -/
theorem Same.upd {H : Hp} {p : Addr} {o : HO} (h : H p = none) : Same H (upd H p o) := fun a u e => by rw [upd_ne (ne_of_none e h)]; exact e
theorem same_rd {H H' : Hp} {a : Addr} {u : HO} (e : Same H H') (h : Rd H a u) : Rd H' a u := h.elim (fun h => .inl (e a _ h)) fun ⟨o, h⟩ => .inr ⟨o, e a _ h⟩
theorem same_t {K : PySem.W.Frag} {H H' : Hp} {a : Addr} {xs : List V} (e : Same H H') (h : SqT K H a xs) : SqT K H' a xs := h.elim (fun h => .inl (same_rd e h)) .inr
theorem same_l {K : PySem.W.Frag} {H H' : Hp} {a : Addr} {xs : List V} (e : Same H H') (h : SqL K H a xs) : SqL K H' a xs := h.elim (fun h => .inl (same_rd e h)) .inr
theorem sqT {K : PySem.W.Frag} {H : Hp} {a : Addr} {xs : List V} (h : H a = some (.tup xs)) : SqT K H a xs := .inl (.inl h)
theorem sqL {K : PySem.W.Frag} {H : Hp} {a : Addr} {xs : List V} (h : H a = some (.lst xs)) : SqL K H a xs := .inl (.inl h)
theorem line_of {n : Nat} (h : n ≤ 100000) : n ≤ sizeLine := Nat.le_trans h (by decide)
theorem line_lt {n : Nat} (h : n ≤ 100000) : n < sizeLine := Nat.lt_of_le_of_lt h (by decide)

/-- what never changes once it stands: tuples, the instances of the classes Fr -/
def isFz (Fr : Addr → Prop) : HO → Prop
  | .tup _ => True
  | .ins C _ _ => Fr C
  | _ => False
/-- all such things are as they were -/
def Fz (Fr : Addr → Prop) (H H' : Hp) : Prop := ∀ b o, H b = some o → isFz Fr o → H' b = some o
theorem Fz.refl {Fr : Addr → Prop} (H : Hp) : Fz Fr H H := fun _ _ h _ => h
theorem Fz.trans {Fr : Addr → Prop} {H H1 H2 : Hp} (a : Fz Fr H H1) (b : Fz Fr H1 H2) : Fz Fr H H2 := fun c o h z => b c o (a c o h z) z
theorem Fz.of {Fr : Addr → Prop} {H H' : Hp} (e : Same H H') : Fz Fr H H' := fun b o h _ => e b o h
theorem Fz.set {Fr : Addr → Prop} {H : Hp} {p : Addr} {u o : HO} (h : H p = some u) (hu : ¬ isFz Fr u) : Fz Fr H (L2.upd H p o) := fun b v e z => by
  have ne : b ≠ p := fun q => by
    rw [q, h] at e
    exact hu ((Option.some.inj e) ▸ z)
  rw [upd_ne ne]
  exact e
theorem Fz.new {Fr : Addr → Prop} {H : Hp} {p : Addr} {o : HO} (h : H p = none) : Fz Fr H (L2.upd H p o) := Fz.of (Same.upd h)
theorem same_put {H H' : Hp} {p : Addr} {o : HO} (s : Same H H') (h : H p = none) : Same H (L2.upd H' p o) := fun a u e => by rw [upd_ne (ne_of_none e h)]; exact s a u e

/-! ### a comprehension whose turns change nothing that stood -/
section
variable {J : It} {n : Nat} {G : Hp → Prop} {Y : Nat → Hp → V → Hp → Prop}
/-- R i y H: what is known of the element of turn i, none if the tests leave it out -/
theorem lc_pure {Fr : Addr → Prop} (w : Walk J n G Y) {g : TG} {tt : TT} {te : TE} {vs : List Nat} {σ : L2.St} {H1 : Hp} {D : Addr} {Qd : Hp → Prop} (hD : H1 D = none) (hn : n ≤ 100000)
    (R : Nat → Option V → Hp → Prop) (mono : ∀ i o H H', Fz Fr H H' → R i o H → R i o H') (hG : ∀ H, Same H1 H → G H)
    (hs : ∀ i x H H' (k1 : V → Hp → Prop) (k0 : Hp → Prop), i < n → Same H1 H → Y i H x H' → (∀ y H4, Same H H4 → R i (some y) H4 → k1 y H4) → (∀ H3, Same H H3 → R i none H3 → k0 H3) →
      g x (wipe σ vs) H' fun σ2 H2 => wipe σ2 vs = wipe σ vs ∧ tt σ2 H2 fun b H3 => if b = true then te σ2 H3 k1 else k0 H3)
    (hd : ∀ H (os : List (Option V)), Same H1 H → os.length = n → (∀ i o, os[i]? = some o → R i o H) → H D = some (.lst (os.filterMap id)) → Qd H) :
    ∃ W : Nat → Nat → Hp → Prop, (∃ m, W 0 m (L2.upd H1 D (.lst []))) ∧ ∀ i m H, W i m H →
      (J.stop i H ∧ Qd H) ∨ (J.go i H ∧ ∃ Nx : Hp → Prop, (∀ H', Nx H' → ∃ m', m' < m ∧ W (i + 1) m' H') ∧ ∀ x H', J.yld i H x H' → g x (wipe σ vs) H' fun σ2 H2 => wipe σ2 vs = wipe σ vs ∧ tt σ2 H2 fun b H3 =>
        if b = true then te σ2 H3 fun y H4 => ∃ acc, H4 D = some (.lst acc) ∧ acc.length < sizeLine ∧ Nx (L2.upd H4 D (.lst (acc ++ [y]))) else Nx H3) := by
  have more : ∀ {os : List (Option V)} {i : Nat} {o : Option V} {H H' : Hp}, os.length = i → Fz Fr H H' → (∀ j o, os[j]? = some o → R j o H) → R i o H' → ∀ j o', (os ++ [o])[j]? = some o' → R j o' H' := fun {os i o H H'} hl sm hr hn' j o' e => by
    by_cases lt : j < os.length
    · rw [List.getElem?_append_left lt] at e
      exact mono _ _ _ _ sm (hr j o' e)
    · rw [List.getElem?_append_right (by omega)] at e
      have hj : j - os.length = 0 := by
        rcases Nat.eq_zero_or_pos (j - os.length) with z | z
        · exact z
        · rw [List.getElem?_eq_none (by simp; omega)] at e
          cases e
      rw [hj] at e
      have e2 : o = o' := Option.some.inj e
      rw [← e2, show j = i by omega]
      exact hn'
  refine lc_it w (fun i H => ∃ os : List (Option V), Same H1 H ∧ os.length = i ∧ (∀ j o, os[j]? = some o → R j o H) ∧ H D = some (.lst (os.filterMap id)))
    ⟨[], Same.upd hD, rfl, fun j o e => by simp at e, upd_same⟩ (fun i H _ ⟨_, sm, _⟩ => hG H sm) (fun i x H H' hi ⟨os, sm, hl, hr, hDl⟩ y => ?_) fun H ⟨os, sm, hl, hr, hDl⟩ => hd H os sm hl hr hDl
  refine hs i x H H' _ _ hi sm y (fun v H4 s4 r4 => ⟨os.filterMap id, s4 _ _ hDl, line_lt (Nat.le_trans (List.length_filterMap_le _ _) (by omega)), os ++ [some v], ?_, by rw [List.length_append, hl]; rfl, ?_, ?_⟩) (fun H3 s3 r3 => ⟨os ++ [none], sm.trans s3, by rw [List.length_append, hl]; rfl, ?_, ?_⟩)
  · exact same_put (sm.trans s4) hD
  · have f4 : Fz Fr H (L2.upd H4 D (.lst (os.filterMap id ++ [v]))) := (Fz.of s4).trans (Fz.set (s4 _ _ hDl) fun z => z)
    exact more hl f4 hr (mono _ _ _ _ (Fz.set (s4 _ _ hDl) fun z => z) r4)
  · rw [upd_same, List.filterMap_append]; rfl
  · exact more hl (Fz.of s3) hr r3
  · rw [s3 _ _ hDl, List.filterMap_append]
    simp
end
end MH
set_option Elab.async false
set_option linter.all false
set_option maxRecDepth 100000
set_option maxHeartbeats 4000000
namespace MH
open PySem PySem.Spec PyProof.Rows L2

/-! ### texts -/
abbrev cs (x : Str) : List Nat := x.cps.toList
theorem str_ext {x y : Str} (h : cs x = cs y) : x = y := by
  obtain ⟨a⟩ := x
  obtain ⟨b⟩ := y
  exact congrArg Str.mk (Array.toList_inj.mp h)
theorem cs_app (x y : Str) : cs (x ++ y) = cs x ++ cs y := TL.tl_append x y
theorem len_cs (x : Str) : x.length = (cs x).length := by simp [Str.length]
theorem s_cs (x : Str) : SX.S (cs x) = x := SX.S_tl x
theorem map_S_cs (l : List Str) : (l.map cs).map SX.S = l := by
  rw [List.map_map]
  exact (List.map_congr_left fun x _ => s_cs x).trans (List.map_id _)
/-- the text of one sign -/
abbrev ch (c : Nat) : Str := ⟨#[c]⟩
theorem split_join {c : Nat} (hc : c < 256) {ws : List Str} (hne : ws ≠ []) (h : ∀ w ∈ ws, c ∉ cs w) : Txt.split (Txt.join (ch c) ws) (ch c) = ws := by
  have e : Txt.join (ch c) ws = SX.S (TL.joinL [c] (ws.map cs)) := by
    have z := SX.join_S [c] (ws.map cs)
    rw [map_S_cs] at z
    exact z
  rw [e]
  have z := SX.split_S (a := TL.joinL [c] (ws.map cs)) (b := [c]) (by simp) (by simp [hc])
  have q : (ch c) = SX.S [c] := rfl
  rw [q, z, SX.spl_join (c := c) (sep := []) (by simpa using hne) (fun p hp => by
    obtain ⟨w, hw, rfl⟩ := List.mem_map.mp hp
    exact h w hw), map_S_cs]
theorem cs_join (a : Str) (ws : List Str) : cs (Txt.join a ws) = TL.joinL (cs a) (ws.map cs) := by
  have z := SX.join_S (cs a) (ws.map cs)
  rw [map_S_cs, s_cs] at z
  rw [z]
theorem partition_at {c : Nat} (x y : Str) (h : c ∉ cs x) : Txt.partition (x ++ (ch c ++ y)) (ch c) = (x, ch c, y) := by
  have e : x ++ (ch c ++ y) = SX.S (cs x ++ ([c] ++ cs y)) := by
    refine str_ext ?_
    rw [cs_app, cs_app]
  rw [e]
  have z := SX.partition_some (a := cs x ++ ([c] ++ cs y)) (b := [c]) (p := cs x) (q := cs y) (by simp) (SX.par_head (sep := []) (cs y) h)
  rw [s_cs, s_cs] at z
  exact z
theorem join_cons (a x y : Str) (ws : List Str) : Txt.join a (x :: y :: ws) = x ++ (a ++ Txt.join a (y :: ws)) := by
  refine str_ext ?_
  rw [cs_join, cs_app, cs_app, cs_join]
  rfl
theorem join_one (a x : Str) : Txt.join a [x] = x := by
  refine str_ext ?_
  rw [cs_join]
  rfl
end MH
set_option Elab.async false
set_option linter.all false
set_option maxRecDepth 100000
set_option maxHeartbeats 4000000
namespace MH
open PySem PySem.Spec PyProof.Rows L2
/-! ### boards -/
inductive Act where
  | line (x : Str) | out | again | main | back | go (n : Str) | call (n t : Str)
  deriving DecidableEq
def Act.words : Act → List Str
  | .line x => ["line", x]
  | .out => ["out"]
  | .again => ["again"]
  | .main => ["main"]
  | .back => ["back"]
  | .go n => ["go", n]
  | .call n t => ["call", n, t]
/-- a menu; its rows as they were written, or ascending -/
structure Menu where
  name : Str
  rows : List (Str × Act)
  tail : Act
  tries : Int
  clears : Bool
  deriving DecidableEq
def Act.text (a : Act) : Str := Txt.join " " a.words
/-- every value that is one of these texts -/
def letters : List Nat := cs "abcdefghijklmnopqrstuvwxyz"
def barred : List Str := ["line", "out", "main", "back", "go", "call", "menu", "else", "none"]
def alone : List Str := ["out", "again", "main", "back"]
def okName (x : Str) : Bool := !(inV (.str x) (barred.map V.str)) && (decide (1 ≤ x.length) && decide (x.length ≤ 4) && (cs x).all fun c => decide (c ∈ letters))
def digits : List Nat := cs "0123456789"
def okDigit (x : Str) : Bool := decide (x.length = 1) && decide ((cs x).headD 0 ∈ digits)
def Act.ok : Act → Bool
  | .line x => okName x
  | .go n => okName n
  | .call n t => okName n && okName t
  | _ => true

/-! ### answers -/
theorem ite_dec {p A B : Prop} [Decidable p] (h1 : p → A) (h2 : ¬ p → B) : if decide p = true then A else B := by
  by_cases h : p
  · rw [if_pos (decide_eq_true h)]; exact h1 h
  · rw [if_neg (by rw [decide_eq_false h]; exact Bool.false_ne_true)]; exact h2 h
theorem ite_yes {p A B : Prop} [Decidable p] (h : p) (a : A) : if decide p = true then A else B := by rw [if_pos (decide_eq_true h)]; exact a
theorem ite_no {p A B : Prop} [Decidable p] (h : ¬ p) (b : B) : if decide p = true then A else B := by rw [if_neg (by rw [decide_eq_false h]; exact Bool.false_ne_true)]; exact b
theorem ite_b {b : Bool} {A B : Prop} (h1 : b = true → A) (h2 : b = false → B) : if b = true then A else B := by
  cases b
  · rw [if_neg Bool.false_ne_true]; exact h2 rfl
  · rw [if_pos rfl]; exact h1 rfl
theorem ite_n {b : Bool} {A B : Prop} (h1 : b = false → A) (h2 : b = true → B) : if (!b) = true then A else B := by
  cases b
  · exact (if_pos rfl) ▸ h1 rfl
  · rw [if_neg (by decide)]; exact h2 rfl

/-! ### what the top holds -/
structure Glo (K : PySem.W.Frag) (mg : Str → Option Value) (x : Str) (st : Stmt) : Prop where
  ex : ∃ f fd, FunD K x x (defArgs st) (defBody st) (defScope st) [] [] f fd ∧ mg x = some (.ref f)
/-- a def that keeps a promise, by its global name -/
structure CalX (P : Program) (w : World) (K : PySem.W.Frag) (mg : Str → Option Value) (base : Heap) (CX : CXT) (k : Nat) (x : Str) (sp : Sp) : Prop where
  ex : ∃ f fd ps, FnOk P w K mg base CX k f fd ps sp ∧ mg x = some (.ref f) ∧ PySem.W.keepIn K (.ref f) = true ∧ Binds K fd ps []
section
variable {P : Program} {w : World} {K : PySem.W.Frag} {mg : Str → Option Value} {base : Heap}
theorem mkCal {CX : CXT} {x : Str} {st : Stmt} {N ps : List Str} {k : Nat} {sp : Sp} (G : Glo K mg x st) (S : FnScope N ps (defScope st)) (len : ∀ vs H Q E, sp vs H Q E → vs.length = ps.length)
    (hb : ∀ (kV doc pm : Value) (an : Option Addr) (cdv ct : Value) (us : List Value), us.length = ps.length → bindArgs (PySem.W.fnOf x x (defArgs st) (defBody st) (defScope st) .none kV doc pm an cdv ct) ⟨us, []⟩ = pure (ps.zip us))
    (hbody : ∀ (f : Addr) (cdv : Value) (A : Around) (outer : List Env) (s : Shared) (H : Hp) (vs : List V) (Q : VK) (E : XK), Room k (A.deeper (envOfC x (defScope st) s.heap.objs.size f cdv)) → sp vs H Q E →
      ∃ t, PSs (cxOf CX P w K mg base N x (defScope st) f cdv A outer s H E) (defBody st) t ∧ t { nx := fun _ H' => Q .non H', rt := Q } (start N vs) H) : CalX P w K mg base CX (k + 1) x sp := by
  obtain ⟨f, fd, F, hm⟩ := G.ex
  exact ⟨f, fd, ps, F.ok S len (hbody f), hm, F.kp, F.bindsN hb⟩
theorem CalX.mono {CX : CXT} {j k : Nat} {x : Str} {sp : Sp} (c : CalX P w K mg base CX j x sp) (h : j ≤ k) : CalX P w K mg base CX k x sp := by
  obtain ⟨f, fd, ps, F, a, b, d⟩ := c.ex
  exact ⟨f, fd, ps, F.mono h, a, b, d⟩
end
section
variable {X : Cx} {CX : CXT} {k j : Nat} {x : Str} {sp : Sp} {E : XK} {p pos : Pos} {e : Expr} {es : List Expr} {t : TA}
theorem pe_cal (c : CalX X.prog X.w X.K X.mg X.base CX k x sp) (hr : Room j X.A) (hk : k ≤ j) (hx : Passes CX X E) (ha : PA X (e :: es) t) (hg : Gl X x := by rfl)
    (hdb : (x == ("__debug__" : Str)) = false := by decide) (he : starEach (e :: es) X.env = (false, eval e X.env) :: starEach es X.env := by rfl) (hpl : (backTo pos (starEach es X.env)).any (·.1) = false := by rfl) :
    PE X (.Call (.Name x p) (e :: es) [] pos) (tCall sp [] E t) := by
  obtain ⟨f, fd, ps, F, hm, kp, b⟩ := c.ex
  exact pe_call F (hr.mono hk) hg hm kp b .nil hx ha hdb he hpl
end
/-- the built-in names that no module of the program takes -/
structure Blt (mg : Str → Option Value) : Prop where
  len : mg "len" = none
  isinstance : mg "isinstance" = none
  str : mg "str" = none
  int : mg "int" = none
  bool : mg "bool" = none
  list : mg "list" = none
  tuple : mg "tuple" = none
  set : mg "set" = none
  dict : mg "dict" = none
  sorted : mg "sorted" = none
  all : mg "all" = none
  any : mg "any" = none
  range : mg "range" = none
  enumerate : mg "enumerate" = none
  abs : mg "abs" = none
  min : mg "min" = none
  repr : mg "repr" = none
  zip : mg "zip" = none
/-- the constants of words -/
structure Cst (K : PySem.W.Frag) (w : World) (mg : Str → Option Value) : Prop where
  LETTERS : ∃ t, mg "LETTERS" = some (.str "abcdefghijklmnopqrstuvwxyz" t)
  SIGNS : ∃ t, mg "SIGNS" = some (.str "0123456789" t)
  MOST : ∃ t, mg "MOST_LETTERS" = some (.int 4 t)
  BARRED : ∃ a, mg "BARRED" = some (.ref a) ∧ ∀ H, SqT K H a (barred.map V.str)
  ALONE : ∃ a, mg "ALONE" = some (.ref a) ∧ ∀ H, SqT K H a (alone.map V.str)
  MANY : ∃ d es n, mg "MANY_NAMES" = some (.ref d) ∧ KDict K w d es n ∧ ∀ x : Str, ∃ r, PySem.W.nsIn K d x = some r ∧
    ((x = "line" ∨ x = "go") ∧ (∃ t, r = some (.int 1 t)) ∨ x = "call" ∧ (∃ t, r = some (.int 2 t)) ∨ ¬ (x = "line" ∨ x = "go" ∨ x = "call") ∧ r = none)
end MH
set_option Elab.async false
set_option linter.all false
set_option maxRecDepth 100000
set_option maxHeartbeats 4000000
namespace MH
open PySem PySem.Spec PyProof.Rows L2
section
variable {X : Cx} {d : Addr} {es : Array DictEntry} {n : Nat}
/-- d[x], d a dict of the text's top -/
def rIxKd (K : PySem.W.Frag) (d : Addr) : R2 := fun x y H Q => ∃ (z : Str) (u0 : Value) (v0 : V), x = .ref d ∧ y = .str z ∧ PySem.W.nsIn K d z = some (some u0) ∧ RelV v0 u0 ∧ Q v0 H
theorem ix_kd (D : KDict X.K X.w d es n) : IxR X (rIxKd X.K d) := by
  intro value slice pins s σ H x y v u Q I rx ry h hs
  obtain ⟨z, u0, v0, rfl, rfl, e, r, q⟩ := h
  have T := kd_type D I
  have rx' : v = .ref d := rx
  subst rx'
  refine tail_any T PySem.F.slot_dict_getitem.lookup ?_ hs
  exact op_item_kd D pins s σ H (.ref d) (.str z) (.ref d) u Q I rfl ry ⟨z, u0, v0, rfl, rfl, e, r, q⟩
end
/-- the kinds of values that isinstance asks of -/
theorem tyx_list {K : PySem.W.Frag} {H : Hp} {a : Addr} {xs : List V} (h : SqL K H a xs) : TyX K H (.ref a) (.type "list") := by
  rcases h with (h | ⟨o, h⟩) | ⟨o, its, n, e, c, _⟩
  · exact .base (.lst h)
  · exact .base (.frz h)
  · exact .kList e c
theorem tyx_tup {K : PySem.W.Frag} {H : Hp} {a : Addr} {xs : List V} (h : SqT K H a xs) : TyX K H (.ref a) (.type "tuple") := by
  rcases h with (h | ⟨o, h⟩) | ⟨o, its, n, e, c, _⟩
  · exact .base (.tup h)
  · exact .fTuple h
  · exact .kTuple e c
theorem at0 {α : Type} {x : α} {r : List α} : atI (x :: r) 0 = some x := atI_nat (j := 0) rfl
theorem at1 {α : Type} {x y : α} {r : List α} : atI (x :: y :: r) 1 = some y := atI_nat (j := 1) rfl
theorem at2 {α : Type} {x y z : α} {r : List α} : atI (x :: y :: z :: r) 2 = some z := atI_nat (j := 2) rfl
theorem at3 {α : Type} {x y z u : α} {r : List α} : atI (x :: y :: z :: u :: r) 3 = some u := atI_nat (j := 3) rfl
theorem at4 {α : Type} {x y z u v : α} {r : List α} : atI (x :: y :: z :: u :: v :: r) 4 = some v := atI_nat (j := 4) rfl
theorem os_vals {os : List (Option V)} {vs : List V} (hl : os.length = vs.length) (h : ∀ (i : Nat) (o : Option V), os[i]? = some o → o = vs[i]?) : os.filterMap id = vs := by
  have e : os = vs.map some := by
    refine List.ext_getElem? fun i => ?_
    rw [List.getElem?_map]
    cases q : os[i]? with
    | none =>
      have : vs.length ≤ i := by rw [← hl]; exact List.getElem?_eq_none_iff.mp q
      rw [List.getElem?_eq_none this]; rfl
    | some o =>
      have z := h i o q
      have lt : i < vs.length := by rw [← hl]; exact (List.getElem?_eq_some_iff.mp q).1
      rw [List.getElem?_eq_getElem lt] at z ⊢
      rw [z]; rfl
  rw [e, List.filterMap_map]
  show vs.filterMap some = vs
  exact List.filterMap_some
end MH
set_option Elab.async false
set_option linter.all false
set_option maxRecDepth 100000
set_option maxHeartbeats 4000000
namespace MH
open PySem PySem.Spec PyProof.Rows L2
/-! ### words without blanks -/
theorem okName_len {x : Str} (h : okName x = true) : x.length ≤ 4 := by
  unfold okName at h
  simp only [Bool.and_eq_true, decide_eq_true_eq] at h
  exact h.2.1.2
theorem okName_low {x : Str} (h : okName x = true) : ∀ c ∈ cs x, c ∈ letters := by
  unfold okName at h
  simp only [Bool.and_eq_true, decide_eq_true_eq] at h
  intro c hc
  exact of_decide_eq_true (List.all_eq_true.mp h.2.2 c hc)
theorem let_all : (letters.all fun c => decide (97 ≤ c) && decide (c ≤ 122)) = true := by decide +kernel
theorem let_low {c : Nat} (h : c ∈ letters) : 97 ≤ c ∧ c ≤ 122 := by
  have z := List.all_eq_true.mp let_all c h
  simpa using z
theorem okName_no {x : Str} (h : okName x = true) {c : Nat} (hc : c < 97) : c ∉ cs x := fun z => by
  have := (let_low (okName_low h c z)).1
  omega
theorem word_all : ((["line", "out", "again", "main", "back", "go", "call", "menu", "tries", "clear", "else"] : List Str).all fun x => (cs x).all (fun c => decide (c ≠ 32 ∧ c ≠ 10)) && decide (x.length ≤ 5)) = true := by decide +kernel
theorem word_no {x : Str} (h : x ∈ (["line", "out", "again", "main", "back", "go", "call", "menu", "tries", "clear", "else"] : List Str)) : (32 ∉ cs x ∧ 10 ∉ cs x) ∧ x.length ≤ 5 := by
  have z := List.all_eq_true.mp word_all x h
  rw [Bool.and_eq_true, decide_eq_true_eq] at z
  refine ⟨⟨fun m => ?_, fun m => ?_⟩, z.2⟩
  · have := of_decide_eq_true (List.all_eq_true.mp z.1 _ m); omega
  · have := of_decide_eq_true (List.all_eq_true.mp z.1 _ m); omega
theorem words_no {a : Act} (h : a.ok = true) : ∀ x ∈ a.words, (32 ∉ cs x ∧ 10 ∉ cs x) ∧ x.length ≤ 5 := by
  have nm : ∀ {x : Str}, okName x = true → (32 ∉ cs x ∧ 10 ∉ cs x) ∧ x.length ≤ 5 := fun hx => ⟨⟨okName_no hx (by decide), okName_no hx (by decide)⟩, by have := okName_len hx; omega⟩
  intro x hx
  cases a with
  | line y =>
    rcases List.mem_cons.mp hx with rfl | hx
    · exact word_no (by simp)
    · rw [List.mem_singleton.mp hx]; exact nm h
  | go y =>
    rcases List.mem_cons.mp hx with rfl | hx
    · exact word_no (by simp)
    · rw [List.mem_singleton.mp hx]; exact nm h
  | call y z =>
    have h2 : (okName y && okName z) = true := h
    rw [Bool.and_eq_true] at h2
    rcases List.mem_cons.mp hx with rfl | hx
    · exact word_no (by simp)
    · rcases List.mem_cons.mp hx with rfl | hx
      · exact nm h2.1
      · rw [List.mem_singleton.mp hx]; exact nm h2.2
  | out => rw [List.mem_singleton.mp hx]; exact word_no (by simp)
  | again => rw [List.mem_singleton.mp hx]; exact word_no (by simp)
  | main => rw [List.mem_singleton.mp hx]; exact word_no (by simp)
  | back => rw [List.mem_singleton.mp hx]; exact word_no (by simp)
theorem blank : (" " : Str) = ch 32 := by decide +kernel
theorem act_split {a : Act} (h : a.ok = true) : Txt.split a.text " " = a.words := by
  unfold Act.text
  rw [blank]
  refine split_join (by decide) ?_ fun x hx => (words_no h x hx).1.1
  cases a <;> exact List.cons_ne_nil _ _
/-- the texts of one word -/
def Act.lone : Act → Bool
  | .out => true
  | .again => true
  | .main => true
  | .back => true
  | _ => false
theorem inV_strs (x : Str) (l : List Str) : inV (.str x) (l.map V.str) = l.contains x := by
  unfold inV
  rw [List.any_map, List.contains_eq_any_beq]
  refine congrArg (fun p => l.any p) (funext fun y => ?_)
  show (y == x) = (x == y)
  exact Bool.beq_comm
theorem alone_in {a : Act} (h : a.ok = true) : inV (.str a.text) (alone.map V.str) = a.lone := by
  rw [inV_strs]
  have two : ∀ (x y : Str) (r : List Str), (32 : Nat) ∈ cs (Txt.join " " (x :: y :: r)) := fun x y r => by
    rw [join_cons, cs_app, cs_app, blank]
    simp
  have no : ∀ z ∈ alone, 32 ∉ cs z := fun z hz => (word_no (by
    have q : ∀ z ∈ alone, z ∈ (["line", "out", "again", "main", "back", "go", "call", "menu", "tries", "clear", "else"] : List Str) := by decide +kernel
    exact q z hz)).1.1
  have f : ∀ (x y : Str) (r : List Str), alone.contains (Txt.join " " (x :: y :: r)) = false := fun x y r => by
    rw [← Bool.not_eq_true]
    intro z
    exact no _ (List.contains_iff_mem.mp z) (two x y r)
  cases a with
  | line y => exact f _ _ _
  | go y => exact f _ _ _
  | call y z => exact f _ _ _
  | out => show alone.contains (Txt.join " " ["out"]) = true; rw [join_one]; decide +kernel
  | again => show alone.contains (Txt.join " " ["again"]) = true; rw [join_one]; decide +kernel
  | main => show alone.contains (Txt.join " " ["main"]) = true; rw [join_one]; decide +kernel
  | back => show alone.contains (Txt.join " " ["back"]) = true; rw [join_one]; decide +kernel
theorem lone_words {a : Act} (h : a.lone = true) : a.words = [a.text] := by
  cases a with
  | line y => cases h
  | go y => cases h
  | call y z => cases h
  | out => show _ = [Txt.join " " ["out"]]; rw [join_one]; rfl
  | again => show _ = [Txt.join " " ["again"]]; rw [join_one]; rfl
  | main => show _ = [Txt.join " " ["main"]]; rw [join_one]; rfl
  | back => show _ = [Txt.join " " ["back"]]; rw [join_one]; rfl
theorem text_len {a : Act} (h : a.ok = true) : a.text.length ≤ 17 := by
  have w : ∀ x ∈ a.words, x.length ≤ 5 := fun x hx => (words_no h x hx).2
  rw [len_cs]
  unfold Act.text
  rw [cs_join, blank]
  have l5 : ∀ x ∈ a.words, (cs x).length ≤ 5 := fun x hx => by rw [← len_cs]; exact w x hx
  cases a with
  | line y => have := l5 "line" (by simp [Act.words]); have := l5 y (by simp [Act.words]); (have l1 : (cs (ch 32)).length = 1 := rfl); simp only [Act.words, List.map, TL.joinL, List.length_append, List.length_cons, List.length_nil, l1]; omega
  | go y => have := l5 "go" (by simp [Act.words]); have := l5 y (by simp [Act.words]); (have l1 : (cs (ch 32)).length = 1 := rfl); simp only [Act.words, List.map, TL.joinL, List.length_append, List.length_cons, List.length_nil, l1]; omega
  | call y z => have := l5 "call" (by simp [Act.words]); have := l5 y (by simp [Act.words]); have := l5 z (by simp [Act.words]); (have l1 : (cs (ch 32)).length = 1 := rfl); simp only [Act.words, List.map, TL.joinL, List.length_append, List.length_cons, List.length_nil, l1]; omega
  | out => have := l5 "out" (by simp [Act.words]); (have l1 : (cs (ch 32)).length = 1 := rfl); simp only [Act.words, List.map, TL.joinL, List.length_append, List.length_cons, List.length_nil, l1]; omega
  | again => have := l5 "again" (by simp [Act.words]); (have l1 : (cs (ch 32)).length = 1 := rfl); simp only [Act.words, List.map, TL.joinL, List.length_append, List.length_cons, List.length_nil, l1]; omega
  | main => have := l5 "main" (by simp [Act.words]); (have l1 : (cs (ch 32)).length = 1 := rfl); simp only [Act.words, List.map, TL.joinL, List.length_append, List.length_cons, List.length_nil, l1]; omega
  | back => have := l5 "back" (by simp [Act.words]); (have l1 : (cs (ch 32)).length = 1 := rfl); simp only [Act.words, List.map, TL.joinL, List.length_append, List.length_cons, List.length_nil, l1]; omega
end MH
set_option Elab.async false
set_option linter.all false
set_option maxRecDepth 100000
set_option maxHeartbeats 4000000
namespace MH
open PySem PySem.Spec PyProof.Rows L2
/-! ### two lists that go together -/
section
variable {α β : Type} {R R' : α → β → Prop}
theorem paired_get : ∀ {l : List α} {m : List β} {i : Nat} {b : β}, Paired R l m → m[i]? = some b → ∃ a, l[i]? = some a ∧ R a b
  | _, _, _, _, .nil, e => by simp at e
  | _, _, 0, b, .cons r _, e => ⟨_, rfl, by simp at e; subst e; exact r⟩
  | _, _, i + 1, b, .cons _ t, e => by
    obtain ⟨a, h1, h2⟩ := paired_get (i := i) t (by simpa using e)
    exact ⟨a, by simpa using h1, h2⟩
theorem paired_getL : ∀ {l : List α} {m : List β} {i : Nat} {a : α}, Paired R l m → l[i]? = some a → ∃ b, m[i]? = some b ∧ R a b
  | _, _, _, _, .nil, e => by simp at e
  | _, _, 0, b, .cons r _, e => ⟨_, rfl, by simp at e; subst e; exact r⟩
  | _, _, i + 1, b, .cons _ t, e => by
    obtain ⟨a, h1, h2⟩ := paired_getL (i := i) t (by simpa using e)
    exact ⟨a, by simpa using h1, h2⟩
theorem paired_imp : ∀ {l : List α} {m : List β}, Paired R l m → (∀ a b, R a b → R' a b) → Paired R' l m
  | _, _, .nil, _ => .nil
  | _, _, .cons r t, f => .cons (f _ _ r) (paired_imp t f)
theorem paired_app : ∀ {l l' : List α} {m m' : List β}, Paired R l m → Paired R l' m' → Paired R (l ++ l') (m ++ m')
  | _, _, _, _, .nil, s => s
  | _, _, _, _, .cons r t, s => .cons r (paired_app t s)
theorem paired_of : ∀ {l : List α} {m : List β}, l.length = m.length → (∀ (i : Nat) a b, l[i]? = some a → m[i]? = some b → R a b) → Paired R l m
  | [], [], _, _ => .nil
  | [], _ :: _, h, _ => by simp at h
  | _ :: _, [], h, _ => by simp at h
  | a :: l, b :: m, h, f => .cons (f 0 a b rfl rfl) (paired_of (by simpa using h) fun i x y h1 h2 => f (i + 1) x y (by simpa using h1) (by simpa using h2))
end
/-- what a comprehension of elements without a test leaves: its list, each element told by the item -/
theorem os_paired {α : Type} {R : α → V → Prop} {os : List (Option V)} {l : List α} (hl : os.length = l.length) (h : ∀ (i : Nat) (o : Option V) a, os[i]? = some o → l[i]? = some a → ∃ y, o = some y ∧ R a y) :
    Paired (fun y a => R a y) (os.filterMap id) l := by
  induction l generalizing os with
  | nil =>
    have : os = [] := List.length_eq_zero_iff.mp hl
    subst this
    exact .nil
  | cons a l ih =>
    match os, hl, h with
    | o :: os, hl, h =>
      obtain ⟨y, rfl, r⟩ := h 0 o a rfl rfl
      exact .cons r (ih (by simpa using hl) fun i o' a' h1 h2 => h (i + 1) o' a' (by simpa using h1) (by simpa using h2))

/-! ### rows -/
/-- a row as a tuple of two texts -/
def RowV (H : Hp) (x : V) (r : Str × Act) : Prop := ∃ t, x = .ref t ∧ H t = some (.tup [.str r.1, .str r.2.text])
theorem RowV.mono {Fr : Addr → Prop} {H H' : Hp} {x : V} {r : Str × Act} (e : Fz Fr H H') (h : RowV H x r) : RowV H' x r := let ⟨t, a, b⟩ := h; ⟨t, a, e _ _ b trivial⟩
theorem RowV.same {H H' : Hp} {x : V} {r : Str × Act} (e : Same H H') (h : RowV H x r) : RowV H' x r := let ⟨t, a, b⟩ := h; ⟨t, a, e _ _ b⟩
/-- rows that a menu may have -/
def okRows (rows : List (Str × Act)) : Prop := (∀ r ∈ rows, okDigit r.1 = true ∧ r.2.ok = true) ∧ (rows.map (·.1)).Nodup ∧ rows.length ≤ 20
theorem okDigit_len {x : Str} (h : okDigit x = true) : x.length = 1 := by
  unfold okDigit at h
  rw [Bool.and_eq_true] at h
  exact of_decide_eq_true h.1
end MH
namespace MH
open PySem PySem.Spec PyProof.Rows L2
/-! ### the lines of a board's text -/
def Menu.headWords (m : Menu) : List Str := "menu" :: m.name :: "tries" :: ch (m.tries.toNat + 48) :: (if m.clears then ["clear"] else [])
def Menu.headText (m : Menu) : Str := Txt.join " " m.headWords
def rowText (r : Str × Act) : Str := r.1 ++ (ch 32 ++ r.2.text)
def tailText (a : Act) : Str := ("else" : Str) ++ (ch 32 ++ a.text)
def Menu.lines (m : Menu) : List Str := m.headText :: (m.rows.map rowText ++ [tailText m.tail])
def boardLines (B : List Menu) : List Str := B.flatMap Menu.lines
def boardText (B : List Menu) : Str := Txt.join "\n" (boardLines B)
/-- a menu that a text may tell -/
structure Menu.Ok (m : Menu) : Prop where
  name : okName m.name = true
  rows : okRows m.rows
  tail : m.tail.ok = true
  lo : 1 ≤ m.tries
  hi : m.tries ≤ 9
theorem head_no {m : Menu} (h : m.Ok) : ∀ x ∈ m.headWords, (32 ∉ cs x ∧ 10 ∉ cs x) ∧ x.length ≤ 5 := by
  intro x hx
  have lo := h.lo
  unfold Menu.headWords at hx
  rcases List.mem_cons.mp hx with rfl | hx
  · exact word_no (by simp)
  · rcases List.mem_cons.mp hx with rfl | hx
    · have := okName_len h.name
      exact ⟨⟨okName_no h.name (by decide), okName_no h.name (by decide)⟩, by omega⟩
    · rcases List.mem_cons.mp hx with rfl | hx
      · exact word_no (by simp)
      · rcases List.mem_cons.mp hx with rfl | hx
        · refine ⟨⟨fun z => ?_, fun z => ?_⟩, by show 1 ≤ 5; decide⟩
          · have : (32 : Nat) = m.tries.toNat + 48 := by simpa using z
            omega
          · have : (10 : Nat) = m.tries.toNat + 48 := by simpa using z
            omega
        · cases q : m.clears with
          | false => rw [q] at hx; simp at hx
          | true =>
            rw [q] at hx
            have : x = "clear" := by simpa using hx
            rw [this]
            exact word_no (by simp)
theorem head_split {m : Menu} (h : m.Ok) : Txt.split m.headText " " = m.headWords := by
  unfold Menu.headText
  rw [blank]
  exact split_join (by decide) (List.cons_ne_nil _ _) fun x hx => (head_no h x hx).1.1
theorem len_joinL {k b : Nat} {c : Nat} : ∀ {ws : List (List Nat)}, (∀ w ∈ ws, w.length ≤ b) → ws.length ≤ k → (TL.joinL [c] ws).length ≤ k * (b + 1)
  | [], _, _ => Nat.zero_le _
  | [w], h, hk => by
    have := h w List.mem_cons_self
    show w.length ≤ _
    have h1 : 1 ≤ k := hk
    calc w.length ≤ 1 * (b + 1) := by omega
      _ ≤ k * (b + 1) := Nat.mul_le_mul_right _ h1
  | w :: v :: r, h, hk => by
    have h1 := h w List.mem_cons_self
    have h2 := len_joinL (k := k - 1) (c := c) (ws := v :: r) (fun u hu => h u (List.mem_cons_of_mem _ hu)) (by simp at hk ⊢; omega)
    show (w ++ ([c] ++ TL.joinL [c] (v :: r))).length ≤ _
    rw [List.length_append, List.length_append, List.length_singleton]
    have : k * (b + 1) = (k - 1) * (b + 1) + (b + 1) := by
      have : k = (k - 1) + 1 := by simp at hk; omega
      rw [this, Nat.add_mul, Nat.one_mul]; simp
    omega
theorem head_len {m : Menu} (h : m.Ok) : m.headText.length ≤ 30 := by
  rw [len_cs]
  unfold Menu.headText
  rw [cs_join, blank]
  refine len_joinL (k := 5) (b := 5) (fun w hw => ?_) ?_
  · obtain ⟨x, hx, rfl⟩ := List.mem_map.mp hw
    rw [← len_cs]
    exact (head_no h x hx).2
  · rw [List.length_map]
    unfold Menu.headWords
    cases m.clears <;> simp
end MH
set_option Elab.async false
set_option linter.all false
set_option maxRecDepth 100000
set_option maxHeartbeats 4000000
namespace MH
open PySem PySem.Spec PyProof.Rows L2
/-! ### sorted rows -/
def encRow (r : Str × Act) : PyData := .tuple [.str r.1, .str r.2.text]
noncomputable def sortRows (rows : List (Str × Act)) : List (Str × Act) := rows.mergeSort (PySem.W.dataLe false encRow)
theorem sortRows_perm (rows : List (Str × Act)) : (sortRows rows).Perm rows := List.mergeSort_perm rows _
theorem paired_zip {α β : Type} {R : α → β → Prop} : ∀ {l : List α} {m : List β}, Paired R l m → ∀ p ∈ l.zip m, R p.1 p.2
  | _, _, .nil, p, h => by simp at h
  | _, _, .cons r t, p, h => by
    rw [List.zip_cons_cons] at h
    rcases List.mem_cons.mp h with rfl | h
    · exact r
    · exact paired_zip t p h
theorem paired_unzip {α β : Type} {R : α → β → Prop} : ∀ {z : List (α × β)}, (∀ p ∈ z, R p.1 p.2) → Paired R (z.map (·.1)) (z.map (·.2))
  | [], _ => .nil
  | p :: z, h => .cons (h p List.mem_cons_self) (paired_unzip fun q hq => h q (List.mem_cons_of_mem _ hq))
theorem sortV_rows {R : V → Str × Act → Prop} {xs : List V} {rows : List (Str × Act)} (h : Paired R xs rows) : Paired R (sortV xs (rows.map encRow)) (sortRows rows) := by
  have hl := Paired.length h
  have e1 : sortV xs (rows.map encRow) = ((xs.zip rows).mergeSort (PySem.W.dataLe false fun p => encRow p.2)).map (·.1) := by
    unfold sortV
    have ez : xs.zip (rows.map encRow) = (xs.zip rows).map fun p => (p.1, encRow p.2) := by
      rw [List.zip_map_right]
      rfl
    rw [ez, ← List.map_mergeSort (f := fun p : V × (Str × Act) => (p.1, encRow p.2)) (s := PySem.W.dataLe false fun b : V × PyData => b.2) (r := PySem.W.dataLe false fun p : V × (Str × Act) => encRow p.2) (fun a _ b _ => rfl), List.map_map]
    rfl
  have e2 : sortRows rows = ((xs.zip rows).mergeSort (PySem.W.dataLe false fun p => encRow p.2)).map (·.2) := by
    rw [List.map_mergeSort (f := fun p : V × (Str × Act) => p.2) (s := PySem.W.dataLe false encRow) (r := PySem.W.dataLe false fun p : V × (Str × Act) => encRow p.2) (fun a _ b _ => rfl), List.map_snd_zip (by omega)]
    rfl
  rw [e1, e2]
  exact paired_unzip fun p hp => paired_zip h p ((List.mergeSort_perm _ _).mem_iff.mp hp)
theorem dp_rows {K : PySem.W.Frag} {H : Hp} : ∀ {xs : List V} {rows : List (Str × Act)}, Paired (RowV H) xs rows → DpAll K H xs (rows.map encRow)
  | _, _, .nil => .nil
  | _, _, .cons ⟨t, e, h⟩ r => by
    subst e
    exact .cons (.tup (sqT h) (.cons (.str _) (.cons (.str _) .nil))) (dp_rows r)
theorem okRows_sort {rows : List (Str × Act)} (h : okRows rows) : okRows (sortRows rows) :=
  ⟨fun r hr => h.1 r ((sortRows_perm rows).mem_iff.mp hr), ((sortRows_perm rows).map _).nodup_iff.mpr h.2.1, by rw [(sortRows_perm rows).length_eq]; exact h.2.2⟩
theorem alike_rows (rows : List (Str × Act)) : PySem.W.AllAlike (rows.map encRow) := PySem.W.AllAlike.of fun _ _ => rfl
theorem sortable_rows (rows : List (Str × Act)) : PySem.W.Sortable (rows.map encRow) := PySem.W.Sortable.tuples fun _ => ⟨_, _, rfl⟩
theorem depth_rows (rows : List (Str × Act)) : ∀ d ∈ rows.map encRow, d.depth ≤ 60 := fun d hd => by
  obtain ⟨r, _, rfl⟩ := List.mem_map.mp hd
  have e : (encRow r).depth = (encRow ("", .out)).depth := rfl
  rw [e]
  decide +kernel

/-! ### menus as they stand -/
/-- an action as a tuple of its words -/
def ActV (H : Hp) (x : V) (a : Act) : Prop := ∃ t, x = .ref t ∧ H t = some (.tup (a.words.map V.str))
theorem ActV.mono {Fr : Addr → Prop} {H H' : Hp} {x : V} {a : Act} (e : Fz Fr H H') (h : ActV H x a) : ActV H' x a := let ⟨t, p, q⟩ := h; ⟨t, p, e _ _ q trivial⟩
def DeedV (H : Hp) (x : V) (r : Str × Act) : Prop := ∃ t y, x = .ref t ∧ H t = some (.tup [.str r.1, y]) ∧ ActV H y r.2
theorem DeedV.mono {Fr : Addr → Prop} {H H' : Hp} {x : V} {r : Str × Act} (e : Fz Fr H H') (h : DeedV H x r) : DeedV H' x r := let ⟨t, y, p, q, s⟩ := h; ⟨t, y, p, e _ _ q trivial, s.mono e⟩
def menuFs (m : Menu) (rt dt : Addr) (la : V) : List (Str × V) := [("name", .str m.name), ("rows", .ref rt), ("tail", .str m.tail.text), ("tries", .int m.tries), ("clears", .bl m.clears), ("deeds", .ref dt), ("last", la)]
structure MenuIs (C : Addr) (H : Hp) (z : Addr) (m : Menu) (dx rt dt : Addr) (la : V) (xs ds : List V) : Prop where
  at_ : H z = some (.ins C dx (menuFs m rt dt la))
  rows : H rt = some (.tup xs)
  prows : Paired (RowV H) xs m.rows
  deeds : H dt = some (.tup ds)
  pdeeds : Paired (DeedV H) ds m.rows
  last : ActV H la m.tail
def MenuAt (C : Addr) (H : Hp) (z : Addr) (m : Menu) : Prop := ∃ dx rt dt la xs ds, MenuIs C H z m dx rt dt la xs ds
theorem MenuIs.mono {Fr : Addr → Prop} {C : Addr} {H H' : Hp} {z dx rt dt : Addr} {m : Menu} {la : V} {xs ds : List V} (hF : Fr C) (e : Fz Fr H H') (h : MenuIs C H z m dx rt dt la xs ds) : MenuIs C H' z m dx rt dt la xs ds :=
  ⟨e _ _ h.at_ hF, e _ _ h.rows trivial, paired_imp h.prows fun _ _ q => q.mono e, e _ _ h.deeds trivial, paired_imp h.pdeeds fun _ _ q => q.mono e, h.last.mono e⟩
theorem MenuAt.mono {Fr : Addr → Prop} {C : Addr} {H H' : Hp} {z : Addr} {m : Menu} (hF : Fr C) (e : Fz Fr H H') (h : MenuAt C H z m) : MenuAt C H' z m := let ⟨a, b, c, d, x, y, q⟩ := h; ⟨a, b, c, d, x, y, q.mono hF e⟩
theorem MenuAt.same {C : Addr} {H H' : Hp} {z : Addr} {m : Menu} (e : Same H H') (h : MenuAt C H z m) : MenuAt C H' z m := h.mono (Fr := fun _ => True) trivial (Fz.of e)
/-- the menu with its rows ascending -/
noncomputable def Menu.sorted (m : Menu) : Menu := { m with rows := sortRows m.rows }
theorem Menu.Ok.sorted {m : Menu} (h : m.Ok) : m.sorted.Ok := ⟨h.name, okRows_sort h.rows, h.tail, h.lo, h.hi⟩
end MH
namespace MH
open PySem PySem.Spec PyProof.Rows L2
/-! ### classes of the text -/
structure ObjC (K : PySem.W.Frag) (C : Addr) (fs : List Str) : Prop where
  cls : Cls K C
  no : ∀ f ∈ fs, NoAttr K C f
/-- all but z is as it was -/
def But (z : Addr) (H H' : Hp) : Prop := ∀ b o, b ≠ z → H b = some o → H' b = some o
theorem But.of {z : Addr} {H H' : Hp} (e : Same H H') : But z H H' := fun b o _ h => e b o h
theorem But.trans {z : Addr} {H H1 H2 : Hp} (a : But z H H1) (b : But z H1 H2) : But z H H2 := fun c o n h => b c o n (a c o n h)
theorem But.upd {z : Addr} {H H' : Hp} {o : HO} (a : But z H H') : But z H (L2.upd H' z o) := fun b u n h => by rw [upd_ne n]; exact a b u n h
theorem But.fz {Fr : Addr → Prop} {z C dx : Addr} {H H' : Hp} {fs : List (Str × V)} (a : But z H H') (hz : H z = some (.ins C dx fs)) (hC : ¬ Fr C) : Fz Fr H H' := fun b o h f => by
  refine a b o (fun e => ?_) h
  rw [e, hz] at h
  cases h
  exact hC f
/-- a new instance behind its __init__ -/
theorem But.made {z dx C : Addr} {H H2 : Hp} (h1 : H z = none) (h2 : H dx = none) (a : But z (L2.upd (L2.upd H dx (.own z)) z (.ins C dx [])) H2) : Same H H2 := fun b o e => by
  have n1 := ne_of_none e h1
  have n2 := ne_of_none e h2
  exact a b o n1 (by rw [upd_ne n1, upd_ne n2]; exact e)
structure MakX (P : Program) (w : World) (K : PySem.W.Frag) (mg : Str → Option Value) (base : Heap) (CX : CXT) (k : Nat) (x : Str) (C : Addr) (sp : Sp) : Prop where
  ex : ∃ f fd ps, Mk K C f ∧ FnOk P w K mg base CX k f fd ps sp ∧ mg x = some (.ref C) ∧ Binds K fd ps []
end MH
namespace MH
open PySem PySem.Spec PyProof.Rows L2
theorem but_rd {z C dx a : Addr} {fs : List (Str × V)} {H H' : Hp} {u : HO} (e : But z H H') (hz : H z = some (.ins C dx fs)) (nu : ∀ C dx fs, u ≠ .ins C dx fs) (h : Rd H a u) : Rd H' a u := by
  refine h.elim (fun h => .inl (e a _ (fun q => ?_) h)) fun ⟨o, h⟩ => .inr ⟨o, e a _ (fun q => ?_) h⟩
  · rw [q, hz] at h; exact nu _ _ _ (Option.some.inj h).symm
  · rw [q, hz] at h; cases h
theorem but_l {K : PySem.W.Frag} {z C dx a : Addr} {fs : List (Str × V)} {H H' : Hp} {xs : List V} (e : But z H H') (hz : H z = some (.ins C dx fs)) (h : SqL K H a xs) : SqL K H' a xs := h.elim (fun h => .inl (but_rd e hz (fun _ _ _ q => by cases q) h)) .inr
end MH
set_option Elab.async false
set_option linter.all false
set_option maxRecDepth 100000
namespace MH
open PySem L2
def top (i : Nat) : Stmt := PySem.Challenge.pw_menuhome_k44_papers_known_by_hand.main.body.getD i (.Pass ⟨0, 0, 0, 0⟩)
abbrev s__wall : Stmt := top 0
abbrev s_InvalidMenu_init : Stmt := inClass (top 3) 0
abbrev s_InvalidBoard_init : Stmt := inClass (top 4) 0
abbrev s_InvalidText_init : Stmt := inClass (top 5) 0
abbrev s_InvalidStack_init : Stmt := inClass (top 6) 0
abbrev s_NoMenu_init : Stmt := inClass (top 8) 0
abbrev s_is_integer : Stmt := top 16
abbrev s_is_name : Stmt := top 17
abbrev s_is_digit : Stmt := top 18
abbrev s_is_sequence : Stmt := top 19
abbrev s_are_unlike : Stmt := top 20
abbrev s_number_in : Stmt := top 21
abbrev s_action_in : Stmt := top 22
abbrev s_is_row : Stmt := top 24
abbrev s_are_rows : Stmt := top 25
abbrev s_head_in : Stmt := top 26
abbrev s_told_in : Stmt := top 27
abbrev s_Menu_init : Stmt := inClass (top 28) 0
abbrev s_Menu_read : Stmt := inClass (top 28) 1
abbrev s_Menu_action : Stmt := inClass (top 28) 2
abbrev s_Menu_eq : Stmt := inClass (top 28) 3
abbrev s_Menu_iter : Stmt := inClass (top 28) 4
abbrev s_Menu_str : Stmt := inClass (top 28) 5
abbrev s_deeds_of : Stmt := top 30
abbrev s_named_in : Stmt := top 31
abbrev s_Board_init : Stmt := inClass (top 32) 0
abbrev s_Board_read : Stmt := inClass (top 32) 1
abbrev s_Board_menu : Stmt := inClass (top 32) 2
abbrev s_Board_having : Stmt := inClass (top 32) 3
abbrev s_Board_len : Stmt := inClass (top 32) 4
abbrev s_Board_iter : Stmt := inClass (top 32) 5
abbrev s_Board_eq : Stmt := inClass (top 32) 6
abbrev s_Board_str : Stmt := inClass (top 32) 7
abbrev s_need_stack : Stmt := top 33
abbrev s_need_line : Stmt := top 34
abbrev s_plus : Stmt := top 36
abbrev s_lesser : Stmt := top 37
abbrev s_is_below : Stmt := top 38
abbrev s_steps_of : Stmt := top 39
abbrev s_told_to : Stmt := top 40
abbrev s_told_home : Stmt := top 41
abbrev s_Sums_init : Stmt := inClass (top 42) 0
abbrev s_Sums_go_over : Stmt := inClass (top 42) 1
abbrev s_Sums_fall : Stmt := inClass (top 42) 2
abbrev s_Sums_ways_to : Stmt := inClass (top 42) 3
abbrev s_paper : Stmt := top 44
abbrev s_is_count : Stmt := top 45
abbrev s_is_entry : Stmt := top 46
abbrev s_is_formed : Stmt := top 47
abbrev s_is_borne : Stmt := top 48
abbrev s_paper_holds : Stmt := top 49
abbrev s_fewest : Stmt := top 51
abbrev s_never : Stmt := top 52
abbrev s__law_deal : Stmt := top 54
abbrev s__law_draw : Stmt := top 55
abbrev s__law_mixed : Stmt := top 56
abbrev s__law_names : Stmt := top 57
abbrev s__law_lone_right : Stmt := top 58
abbrev s_law : Stmt := top 59
end MH
set_option Elab.async false
set_option linter.all false
set_option maxRecDepth 100000
set_option maxHeartbeats 4000000
namespace MH
open PySem PySem.Spec PyProof.Rows L2
section
variable {P : Program} {w : World} {K : PySem.W.Frag} {mg : Str → Option Value} {base : Heap}
/-! ### is_digit -/
def sp_is_digit : Sp := fun vs H Q _ => ∃ x : Str, vs = [.str x] ∧ x.length ≤ 100000 ∧ Q (.bl (okDigit x)) H
theorem sc_is_digit : FnScope ["value"] ["value"] (defScope s_is_digit) := ⟨rfl, rfl, rfl, by decide +kernel, rfl, by decide +kernel, by decide +kernel⟩
theorem one_ch {x : Str} (h : x.length = 1) : x = ch ((cs x).headD 0) := by
  rw [len_cs] at h
  refine str_ext ?_
  match e : cs x, h with
  | [c], _ => simp [List.headD]
theorem ok_is_digit (G : Glo K mg "is_digit" s_is_digit) (T : Blt mg) (B : Cst K w mg) : CalX P w K mg base CX0 2 "is_digit" sp_is_digit := by
  refine mkCal G sc_is_digit (fun vs H Q E h => ?_) (fun _ _ _ _ _ _ us hl => match us, hl with | [_], _ => rfl) (fun f cdv A outer s H vs Q E hr h => ?_)
  · obtain ⟨x, rfl, _⟩ := h
    rfl
  · obtain ⟨x, rfl, hl, k⟩ := h
    obtain ⟨t1, hS⟩ := B.SIGNS
    refine ⟨_, pss_one (ps_ret (pe_and (pe_callB call_isi (by rfl) T.isinstance boot_isinstance (pa_cons (pv 0) (pa_cons (pe_bltn (v := .ty "str") (by rfl) T.str boot_str rfl) pa_nil)))
      (pe_and (pe_cmpR op_eq (pe_callB call_len (by rfl) T.len boot_len (pa_cons (pv 0) pa_nil)) pe_int (nomark _))
       (pe_one (pe_cmpR op_in_sign (pv 0) (pe_glob (v := .str "0123456789") rfl hS ⟨_, rfl⟩) rfl))))), ?_⟩
    refine ⟨_, rfl, _, _, _, _, true, rfl, .ty "str", .base (.str _), kit_ty (by decide +kernel), true, rfl, ?_⟩
    refine ⟨_, rfl, _, x.length, rfl, ⟨line_of hl, rfl⟩, ?_⟩
    refine ⟨rfl, _, rfl, ?_⟩
    refine ite_dec (fun h => ?_) (fun h => ?_)
    · have h1 : x.length = 1 := by have := V.int.inj h; omega
      refine ⟨_, rfl, _, _, congrArg V.str (one_ch h1), rfl, ?_⟩
      have e : okDigit x = decide ((cs x).headD 0 ∈ (("0123456789" : Str)).cps.toList) := by
        unfold okDigit
        rw [decide_eq_true h1, Bool.true_and]
        rfl
      rw [← e]
      exact k
    · have h1 : okDigit x = false := by
        unfold okDigit
        rw [decide_eq_false (fun z => h (by rw [z]; rfl)), Bool.false_and]
      rw [h1] at k
      exact k
end
end MH
set_option Elab.async false
set_option linter.all false
set_option maxRecDepth 100000
set_option maxHeartbeats 4000000
namespace MH
open PySem PySem.Spec PyProof.Rows L2
section
variable {P : Program} {w : World} {K : PySem.W.Frag} {mg : Str → Option Value} {base : Heap}
/-! ### is_name -/
def sp_is_name : Sp := fun vs H Q _ => ∃ x : Str, vs = [.str x] ∧ x.length ≤ 100000 ∧ ∀ H', Same H H' → Q (.bl (okName x)) H'
theorem sc_is_name : FnScope ["value", "sign"] ["value"] (defScope s_is_name) := ⟨rfl, rfl, rfl, by decide +kernel, rfl, by decide +kernel, by decide +kernel⟩
theorem ok_is_name (G : Glo K mg "is_name" s_is_name) (T : Blt mg) (B : Cst K w mg) : CalX P w K mg base CX0 2 "is_name" sp_is_name := by
  refine mkCal G sc_is_name (fun vs H Q E h => ?_) (fun _ _ _ _ _ _ us hl => match us, hl with | [_], _ => rfl) (fun f cdv A outer s H vs Q E hr h => ?_)
  · obtain ⟨x, rfl, _⟩ := h
    rfl
  · obtain ⟨x, rfl, hl, k⟩ := h
    obtain ⟨t1, hL⟩ := B.LETTERS
    obtain ⟨t2, hM⟩ := B.MOST
    obtain ⟨aB, hB, sB⟩ := B.BARRED
    refine ⟨_, pss_cons (ps_if (PW.pt (pw_or (pt_not (pt_val (pe_callB call_isi (by rfl) T.isinstance boot_isinstance (pa_cons (pv 0) (pa_cons (pe_bltn (v := .ty "str") (by rfl) T.str boot_str rfl) pa_nil)))))
        (pw_or (pt_cmpR op_in_seq (pv 0) (pe_glob (v := .ref aB) rfl hB rfl) (by rfl))
          (pw_or1 (pt_not (pt_chain op_le op_le pe_int (pe_callB call_len (by rfl) T.len boot_len (pa_cons (pv 0) pa_nil)) (pe_glob (v := .int 4) rfl hM ⟨_, rfl⟩)))))))
        (pss_one (ps_ret pe_bl)) pss_nil)
      (pss_one (ps_ret (pe_callB (cr_all rfl) (by rfl) T.all (by decide +kernel) (pa_cons (pe_lc (own := [("sign", 1)]) (g := gName 1) rfl sc_is_name.nd (pi_str (pv 0)) (blkOk_by (own := [("sign", 1)]) (N := ["value", "sign"]) (sc := defScope s_is_name) (by decide +kernel))
        (fun _ _ _ _ _ => pg_name (i := 1) sc_is_name.nd rfl (Or.inl rfl)) (fun _ _ _ _ _ => pts_nil) (fun _ _ _ _ _ => pe_cmpR op_in_sign (pv 1) (pe_glob (v := .str "abcdefghijklmnopqrstuvwxyz") rfl hL ⟨_, rfl⟩) rfl)) pa_nil)))), ?_⟩
    refine ⟨_, rfl, _, _, _, _, true, rfl, .ty "str", .base (.str _), kit_ty (by decide +kernel), true, rfl, iteF ?_⟩
    refine ⟨_, rfl, aB, _, rfl, .inr (sB H), rfl, by decide +kernel, _, rfl, ?_⟩
    cases hb : inV (.str x) (barred.map V.str) with
    | true =>
      refine iteT (iteT ?_)
      have e : okName x = false := by unfold okName; rw [hb]; rfl
      exact e ▸ k H (Same.refl H)
    | false =>
      refine iteF ?_
      refine ⟨_, rfl, _, x.length, rfl, ⟨line_of hl, rfl⟩, _, _, rfl, rfl, _, rfl, ?_⟩
      refine ite_dec (fun h1 => ?_) (fun h1 => ?_)
      · refine ⟨_, _, rfl, rfl, _, rfl, ?_⟩
        refine ite_n (fun h2 => ?_) (fun h2 => ?_)
        · have e : okName x = false := by
            unfold okName
            rw [hb, decide_eq_false (p := x.length ≤ 4) (fun z => of_decide_eq_false h2 (by omega))]
            simp
          have q := k H (Same.refl H)
          rw [e] at q
          exact q
        · have h2 := of_decide_eq_true h2
          have e : okName x = (cs x).all fun c => decide (c ∈ letters) := by
            unfold okName
            rw [hb, decide_eq_true (show 1 ≤ x.length by omega), decide_eq_true (show x.length ≤ 4 by omega)]
            rfl
          refine ⟨_, rfl, x, rfl, fun D hD => lc_pure (Fr := fun _ => False) walk_str hD (by have := len_cs x; simp at this; omega)
            (fun i o _ => o = ((cs x).map fun c => V.bl (decide (c ∈ letters)))[i]?) (fun _ _ _ _ _ z => z) (fun _ _ => trivial) (fun i z H1 H2 k1 k0 hi sm y q1 q0 => ?_) (fun H1 os sm hl2 hr hD2 => ?_)⟩
          · obtain ⟨rfl, c, hc, rfl⟩ := y
            refine ⟨rfl, _, rfl, c, _, rfl, rfl, q1 _ _ (Same.refl _) ?_⟩
            rw [List.getElem?_map, Array.getElem?_toList, hc]
            rfl
          · refine ⟨D, (cs x).map fun c => decide (c ∈ letters), rfl, sqL ?_, ?_⟩
            · rw [hD2, os_vals (vs := (cs x).map fun c => V.bl (decide (c ∈ letters))) (by rw [hl2]; simp) hr, List.map_map]
              rfl
            · have e2 : (List.map (fun c => decide (c ∈ letters)) (cs x)).all id = okName x := by
                rw [e, List.all_map]
                rfl
              exact e2 ▸ k H1 sm
      · have e : okName x = false := by
          unfold okName
          rw [hb, decide_eq_false (p := 1 ≤ x.length) (fun z => h1 (by omega))]
          simp
        have q := k H (Same.refl H)
        rw [e] at q
        exact ⟨_, rfl, q⟩
end
end MH
set_option Elab.async false
set_option linter.all false
set_option maxRecDepth 100000
set_option maxHeartbeats 4000000
namespace MH
open PySem PySem.Spec PyProof.Rows L2
section
variable {P : Program} {w : World} {K : PySem.W.Frag} {mg : Str → Option Value} {base : Heap}
/-! ### is_integer, of an int -/
def sp_is_integer : Sp := fun vs H Q _ => ∃ n : Int, vs = [.int n] ∧ Q (.bl true) H
theorem sc_is_integer : FnScope ["value"] ["value"] (defScope s_is_integer) := ⟨rfl, rfl, rfl, by decide +kernel, rfl, by decide +kernel, by decide +kernel⟩
theorem ok_is_integer (G : Glo K mg "is_integer" s_is_integer) (T : Blt mg) : CalX P w K mg base CX0 2 "is_integer" sp_is_integer := by
  refine mkCal G sc_is_integer (fun vs H Q E h => ?_) (fun _ _ _ _ _ _ us hl => match us, hl with | [_], _ => rfl) (fun f cdv A outer s H vs Q E hr h => ?_)
  · obtain ⟨x, rfl, _⟩ := h
    rfl
  · obtain ⟨n, rfl, k⟩ := h
    refine ⟨_, pss_one (ps_ret (pe_and (pe_callB call_isi (by rfl) T.isinstance boot_isinstance (pa_cons (pv 0) (pa_cons (pe_bltn (v := .ty "int") (by rfl) T.int boot_int rfl) pa_nil)))
      (pe_one (pe_not (pe_callB call_isi (by rfl) T.isinstance boot_isinstance (pa_cons (pv 0) (pa_cons (pe_bltn (v := .ty "bool") (by rfl) T.bool boot_bool rfl) pa_nil))))))), ?_⟩
    refine ⟨_, rfl, _, _, _, _, true, rfl, .ty "int", .base (.int _), kit_ty (by decide +kernel), true, rfl, ?_⟩
    exact ⟨_, rfl, _, _, _, _, false, rfl, .ty "bool", .base (.int _), kit_ty (by decide +kernel), false, rfl, k⟩
/-! ### is_sequence, of any value -/
def sp_is_sequence (K : PySem.W.Frag) : Sp := fun vs H Q _ => ∃ (x : V) (t : Value) (b : Bool), vs = [x] ∧ (∀ H', Same H H' → TyX K H' x t) ∧ PySem.W.kitAny K t [.type "list", .type "tuple"] = some b ∧ ∀ H', Same H H' → Q (.bl b) H'
theorem sc_is_sequence : FnScope ["value"] ["value"] (defScope s_is_sequence) := ⟨rfl, rfl, rfl, by decide +kernel, rfl, by decide +kernel, by decide +kernel⟩
theorem ok_is_sequence (G : Glo K mg "is_sequence" s_is_sequence) (T : Blt mg) : CalX P w K mg base CX0 2 "is_sequence" (sp_is_sequence K) := by
  refine mkCal G sc_is_sequence (fun vs H Q E h => ?_) (fun _ _ _ _ _ _ us hl => match us, hl with | [_], _ => rfl) (fun f cdv A outer s H vs Q E hr h => ?_)
  · obtain ⟨x, t, b, rfl, _⟩ := h
    rfl
  · obtain ⟨x, t, b, rfl, ty, kb, k⟩ := h
    refine ⟨_, pss_one (ps_ret (pe_callB call_isiT (by rfl) T.isinstance boot_isinstance (pa_cons (pv 0) (pa_cons (pe_tup (pa_cons (pe_bltn (v := .ty "list") (by rfl) T.list boot_list rfl) (pa_cons (pe_bltn (v := .ty "tuple") (by rfl) T.tuple boot_tuple rfl) pa_nil))) pa_nil)))), ?_⟩
    refine ⟨_, rfl, by show 2 ≤ sizeLine; decide, fun p hp => ?_⟩
    exact ⟨x, p, _, t, _, b, rfl, upd_same, .cons (.ty "list") (.cons (.ty "tuple") .nil), ty _ (Same.upd hp), kb, k _ (Same.upd hp)⟩
theorem kit_seq_list (K : PySem.W.Frag) : PySem.W.kitAny K (.type "list") [.type "list", .type "tuple"] = some true := kitAny_cons (b := true) (kit_ty (by decide +kernel)) (fun z => Bool.noConfusion z) fun _ => rfl
theorem kit_seq_tup (K : PySem.W.Frag) : PySem.W.kitAny K (.type "tuple") [.type "list", .type "tuple"] = some true :=
  kitAny_cons (b := false) (kit_ty (by decide +kernel)) (fun _ => kitAny_cons (b := true) (kit_ty (by decide +kernel)) (fun z => Bool.noConfusion z) fun _ => rfl) fun z => Bool.noConfusion z
/-! ### are_unlike, of texts of which none comes twice -/
def sp_are_unlike (K : PySem.W.Frag) : Sp := fun vs H Q _ => ∃ (a : Addr) (xs : List Str), vs = [.ref a] ∧ SqL K H a (xs.map V.str) ∧ xs.Nodup ∧ xs.length ≤ 4000 ∧ Q (.bl true) H
theorem sc_are_unlike : FnScope ["values"] ["values"] (defScope s_are_unlike) := ⟨rfl, rfl, rfl, by decide +kernel, rfl, by decide +kernel, by decide +kernel⟩
theorem ok_are_unlike (G : Glo K mg "are_unlike" s_are_unlike) (T : Blt mg) : CalX P w K mg base CX0 2 "are_unlike" (sp_are_unlike K) := by
  refine mkCal G sc_are_unlike (fun vs H Q E h => ?_) (fun _ _ _ _ _ _ us hl => match us, hl with | [_], _ => rfl) (fun f cdv A outer s H vs Q E hr h => ?_)
  · obtain ⟨a, xs, rfl, _⟩ := h
    rfl
  · obtain ⟨a, xs, rfl, hs, nd, hl, k⟩ := h
    refine ⟨_, pss_one (ps_ret (pe_cmpR op_eq (pe_lenSetN rfl (by rfl) T.len (by rfl) T.set (pv 0)) (pe_callB call_len_seq (by rfl) T.len boot_len (pa_cons (pv 0) pa_nil)) (nomark _))), ?_⟩
    refine ⟨_, rfl, a, xs, rfl, hs, nd, hl, _, rfl, a, _, rfl, .inl hs, rfl, ?_⟩
    have e : decide (V.int (xs.length : Nat) = V.int ((xs.map V.str).length : Nat)) = true := decide_eq_true (by rw [List.length_map])
    show Q (V.bl (decide (V.int (xs.length : Nat) = V.int ((xs.map V.str).length : Nat)))) H
    rw [e]
    exact k
/-! ### number_in, of a digit -/
def sp_number_in : Sp := fun vs H Q _ => ∃ c : Nat, vs = [.str (ch c)] ∧ 48 ≤ c ∧ c ≤ 57 ∧ ∀ H', Same H H' → Q (.int ((c : Int) - 48)) H'
theorem sc_number_in : FnScope ["word", "sign"] ["word"] (defScope s_number_in) := ⟨rfl, rfl, rfl, by decide +kernel, rfl, by decide +kernel, by decide +kernel⟩
theorem dig_all : ((List.range 58).all fun c => decide (c < 48) || okDigit (ch c)) = true := by decide +kernel
theorem dig_ok {c : Nat} (h1 : 48 ≤ c) (h2 : c ≤ 57) : okDigit (ch c) = true := by
  have z := List.all_eq_true.mp dig_all c (List.mem_range.mpr (by omega))
  rw [Bool.or_eq_true, decide_eq_true_eq] at z
  exact z.resolve_left (by omega)
theorem int_all : ((List.range 58).all fun c => decide (c < 48) || decide (PySem.intText? (ch c) = some ((c : Int) - 48))) = true := by decide +kernel
theorem int_ok {c : Nat} (h1 : 48 ≤ c) (h2 : c ≤ 57) : PySem.intText? (ch c) = some ((c : Int) - 48) := by
  have z := List.all_eq_true.mp int_all c (List.mem_range.mpr (by omega))
  rw [Bool.or_eq_true, decide_eq_true_eq, decide_eq_true_eq] at z
  exact z.resolve_left (by omega)
theorem ok_number_in (G : Glo K mg "number_in" s_number_in) (T : Blt mg) (D : CalX P w K mg base CX0 2 "is_digit" sp_is_digit) : CalX P w K mg base CX0 4 "number_in" sp_number_in := by
  refine mkCal G sc_number_in (fun vs H Q E h => ?_) (fun _ _ _ _ _ _ us hl => match us, hl with | [_], _ => rfl) (fun f cdv A outer s H vs Q E hr h => ?_)
  · obtain ⟨c, rfl, _⟩ := h
    rfl
  · obtain ⟨c, rfl, h1, h2, k⟩ := h
    refine ⟨_, pss_cons (ps_if (PW.pt (pw_or (pt_not (pt_chain op_le op_le pe_int (pe_callB call_len (by rfl) T.len boot_len (pa_cons (pv 0) pa_nil)) pe_int))
        (pw_or1 (pt_not (pt_val (pe_callB (cr_all rfl) (by rfl) T.all (by decide +kernel) (pa_cons (pe_lc (own := [("sign", 1)]) (g := gName 1) rfl sc_number_in.nd (pi_str (pv 0)) (blkOk_by (own := [("sign", 1)]) (N := ["word", "sign"]) (sc := defScope s_number_in) (by decide +kernel))
          (fun _ _ _ _ _ => pg_name (i := 1) sc_number_in.nd rfl (Or.inl rfl)) (fun _ _ _ _ _ => pts_nil) (fun _ _ _ _ _ => pe_cal (j := 2) D (hr.mono (by decide)) (by decide) pass0 (pa_cons (pv 1) pa_nil))) pa_nil)))))))
        (pss_one (ps_ret pe_non)) pss_nil)
      (pss_cons (ps_if (PW.pt (pw_and (pt_cmpR op_eq (pe_callB call_len (by rfl) T.len boot_len (pa_cons (pv 0) pa_nil)) pe_int (nomark _)) (pw_and1 (pt_cmpR op_eq (pe_ix ix_str (pv 0) pe_int (fun _ _ => rfl)) pe_str (nomark _)))))
        (pss_one (ps_ret pe_non)) pss_nil)
      (pss_one (ps_ret (pe_callTy call_int_str (by rfl) T.int boot_int (pa_cons (pv 0) pa_nil))))), ?_⟩
    refine ⟨_, rfl, _, 1, rfl, ⟨line_of (by show 1 ≤ 100000; decide), rfl⟩, _, _, rfl, rfl, _, rfl, ?_⟩
    refine ite_yes (by decide) ⟨_, _, rfl, rfl, _, rfl, ?_⟩
    -- not all(..)
    refine ⟨_, rfl, ch c, rfl, fun L hL => lc_pure (Fr := fun _ => False) walk_str hL (by show 1 ≤ 100000; decide) (fun i o _ => o = [V.bl true][i]?) (fun _ _ _ _ _ z => z) (fun _ _ => trivial) (fun i z H1 H2 k1 k0 hi sm y q1 q0 => ?_) (fun H1 os sm hl2 hr hD2 => ?_)⟩
    · obtain ⟨rfl, d, hd, rfl⟩ := y
      have hi0 : i = 0 := by have : i < 1 := hi; omega
      subst hi0
      obtain rfl : c = d := Option.some.inj hd
      refine ⟨rfl, _, rfl, ch c, rfl, by show 1 ≤ 100000; decide, q1 _ _ (Same.refl _) ?_⟩
      rw [dig_ok h1 h2]
      rfl
    · refine ⟨L, [true], rfl, sqL ?_, _, rfl, ?_⟩
      · rw [hD2, os_vals (vs := [V.bl true]) (by rw [hl2]; rfl) hr]
        rfl
      · -- len(word) == 2 is false
        refine ⟨_, rfl, _, 1, rfl, ⟨line_of (by show 1 ≤ 100000; decide), rfl⟩, rfl, _, rfl, ?_⟩
        refine ⟨_, rfl, ch c, _, rfl, int_ok h1 h2, by show 1 ≤ 640; decide, k _ sm⟩
end
end MH
set_option Elab.async false
set_option linter.all false
set_option maxRecDepth 100000
set_option maxHeartbeats 4000000
namespace MH
open PySem PySem.Spec PyProof.Rows L2
section
variable {P : Program} {w : World} {K : PySem.W.Frag} {mg : Str → Option Value} {base : Heap}
/-! ### action_in, of an action's text -/
def sp_action_in : Sp := fun vs H Q _ => ∃ a : Act, vs = [.str a.text] ∧ a.ok = true ∧ ∀ p H', Same H H' → H p = none → H' p = some (.tup (a.words.map V.str)) → Q (.ref p) H'
theorem sc_action_in : FnScope ["text", "words", "word"] ["text"] (defScope s_action_in) := ⟨rfl, rfl, rfl, by decide +kernel, rfl, by decide +kernel, by decide +kernel⟩
theorem act_parts {a : Act} (ok : a.ok = true) (lo : a.lone = false) : ∃ hd tl, a.words = hd :: tl ∧ ((hd = "line" ∨ hd = "go") ∧ tl.length = 1 ∨ hd = "call" ∧ tl.length = 2) ∧ ∀ x ∈ tl, okName x = true := by
  cases a with
  | line y => exact ⟨_, _, rfl, .inl ⟨.inl rfl, rfl⟩, fun x hx => by rw [List.mem_singleton.mp hx]; exact ok⟩
  | go y => exact ⟨_, _, rfl, .inl ⟨.inr rfl, rfl⟩, fun x hx => by rw [List.mem_singleton.mp hx]; exact ok⟩
  | call y z =>
    have h2 : (okName y && okName z) = true := ok
    rw [Bool.and_eq_true] at h2
    refine ⟨_, _, rfl, .inr ⟨rfl, rfl⟩, fun x hx => ?_⟩
    rcases List.mem_cons.mp hx with rfl | hx
    · exact h2.1
    · rw [List.mem_singleton.mp hx]; exact h2.2
  | out => cases lo
  | again => cases lo
  | main => cases lo
  | back => cases lo
theorem kinds_ne : (("line" : Str) ≠ "call") ∧ (("go" : Str) ≠ "call") ∧ (("call" : Str) ≠ "line") ∧ (("call" : Str) ≠ "go") := by decide +kernel
theorem ok_action_in (G : Glo K mg "action_in" s_action_in) (T : Blt mg) (B : Cst K w mg) (D : CalX P w K mg base CX0 2 "is_name" sp_is_name) : CalX P w K mg base CX0 4 "action_in" sp_action_in := by
  refine mkCal G sc_action_in (fun vs H Q E h => ?_) (fun _ _ _ _ _ _ us hl => match us, hl with | [_], _ => rfl) (fun f cdv A outer s H vs Q E hr h => ?_)
  · obtain ⟨a, rfl, _⟩ := h
    rfl
  · obtain ⟨a, rfl, ok, k⟩ := h
    obtain ⟨aA, hA, sA⟩ := B.ALONE
    obtain ⟨dM, es, n, hM, kd, hget⟩ := B.MANY
    refine ⟨_, pss_cons (ps_if (pt_not (pt_val (pe_callB call_isi (by rfl) T.isinstance boot_isinstance (pa_cons (pv 0) (pa_cons (pe_bltn (v := .ty "str") (by rfl) T.str boot_str rfl) pa_nil))))) (pss_one (ps_ret pe_non)) pss_nil)
      (pss_cons (ps_set (i := 1) sc_action_in.nd rfl (Or.inl rfl) (pe_split (pv 0) pe_str))
      (pss_cons (ps_if (pt_cmpR op_in_seq (pv 0) (pe_glob (v := .ref aA) rfl hA rfl) (by rfl)) (pss_one (ps_ret (pe_tup (pa_cons (pv 0) pa_nil)))) pss_nil)
      (pss_cons (ps_if (PW.pt (pw_or (pt_cmpR (op_notIn_kd kd) (pe_ix ix_list (pv 1) pe_int (fun _ _ => rfl)) (pe_glob (v := .ref dM) rfl hM rfl) (by rfl))
          (pw_or1 (pt_cmpR op_ne (pe_callB call_len_seq (by rfl) T.len boot_len (pa_cons (pv 1) pa_nil)) (pe_op op_add pe_int (pe_ix (ix_kd kd) (pe_glob (v := .ref dM) rfl hM rfl) (pe_ix ix_list (pv 1) pe_int (fun _ _ => rfl)) (fun _ _ => rfl))) (nomark _)))))
          (pss_one (ps_ret pe_non)) pss_nil)
      (pss_one (ps_ret (pe_ifExp (pt_val (pe_callB (cr_all rfl) (by rfl) T.all (by decide +kernel) (pa_cons (pe_lc (own := [("word", 2)]) (g := gName 2) rfl sc_action_in.nd (pi_list (pe_slice sl_list (pv 1) (po_some pe_int) po_none))
          (blkOk_by (own := [("word", 2)]) (N := ["text", "words", "word"]) (sc := defScope s_action_in) (by decide +kernel)) (fun _ _ _ _ _ => pg_name (i := 2) sc_action_in.nd rfl (Or.inl rfl)) (fun _ _ _ _ _ => pts_nil) (fun _ _ _ _ _ => pe_cal (j := 2) D (hr.mono (by decide)) (by decide) pass0 (pa_cons (pv 2) pa_nil))) pa_nil)))
          (pe_callTy call_tuple_of (by rfl) T.tuple boot_tuple (pa_cons (pv 1) pa_nil)) pe_non)))))), ?_⟩
    have tl := text_len ok
    refine ⟨_, rfl, _, _, _, _, true, rfl, .ty "str", .base (.str _), kit_ty (by decide +kernel), true, rfl, iteF ?_⟩
    -- words = text.split(" ")
    refine ⟨_, rfl, ⟨_, rfl⟩, _, _, rfl, rfl, by decide +kernel, line_of (by omega), fun l hl => ?_⟩
    rw [act_split ok]
    have sm : Same H (upd H l (.lst (a.words.map V.str))) := Same.upd hl
    have hw : (upd H l (.lst (a.words.map V.str))) l = some (.lst (a.words.map V.str)) := upd_same
    refine ⟨_, rfl, aA, _, rfl, .inr (sA _), rfl, by decide +kernel, _, rfl, ?_⟩
    cases lo : a.lone with
    | true =>
      have e := alone_in ok
      rw [lo] at e
      rw [e]
      refine iteT ⟨_, rfl, by show 1 ≤ sizeLine; decide, fun p hp => ?_⟩
      refine k p _ (same_put sm (sm.free hp)) (sm.free hp) ?_
      rw [upd_same, lone_words lo]
      rfl
    | false =>
      have e := alone_in ok
      rw [lo] at e
      rw [e]
      obtain ⟨hd, tl, ew, hk, hn⟩ := act_parts ok lo
      obtain ⟨m, hm, hlen⟩ : ∃ m : Int, (∃ t, PySem.W.nsIn K dM hd = some (some (.int m t))) ∧ (tl.length : Int) = m := by
        obtain ⟨r, h1, h2⟩ := hget hd
        rcases hk with ⟨h3, h4⟩ | ⟨h3, h4⟩
        · rcases h2 with ⟨_, t, e2⟩ | ⟨e2, _⟩ | ⟨e2, _⟩
          · exact ⟨1, ⟨t, by rw [h1, e2]⟩, by rw [h4]; rfl⟩
          · rcases h3 with h3 | h3
            · exact absurd (h3.symm.trans e2) kinds_ne.1
            · exact absurd (h3.symm.trans e2) kinds_ne.2.1
          · exact absurd (h3.elim .inl fun z => .inr (.inl z)) e2
        · rcases h2 with ⟨e2, _⟩ | ⟨_, t, e2⟩ | ⟨e2, _⟩
          · rcases e2 with e2 | e2
            · exact absurd (h3.symm.trans e2) kinds_ne.2.2.1
            · exact absurd (h3.symm.trans e2) kinds_ne.2.2.2
          · exact ⟨2, ⟨t, by rw [h1, e2]⟩, by rw [h4]; rfl⟩
          · exact absurd (.inr (.inr h3)) e2
      obtain ⟨t, hm⟩ := hm
      rw [ew] at hw sm k
      rw [ew]
      have hl2 : tl.length ≤ 2 := by rcases hk with ⟨_, h⟩ | ⟨_, h⟩ <;> omega
      refine iteF ?_
      refine ⟨_, rfl, l, _, 0, .str hd, rfl, rfl, sqL hw, at0, hd, _, rfl, rfl, hm, _, rfl, ?_⟩
      refine iteF ⟨_, rfl, l, _, rfl, .inl (sqL hw), _, rfl, l, _, 0, .str hd, rfl, rfl, sqL hw, at0, hd, _, .int m, rfl, rfl, hm, ⟨t, rfl⟩, _, _, rfl, rfl, rfl, _, rfl, ?_⟩
      have ne : (!decide (V.int (((hd :: tl).map V.str).length : Nat) = V.int (1 + m))) = false := by
        rw [decide_eq_true]
        · rfl
        · rw [List.length_map, List.length_cons, ← hlen]
          congr 1
          omega
      rw [ne]
      refine iteF ?_
      -- all([is_name(word) for word in words[1:]])
      refine ⟨_, rfl, _, rfl, l, _, rfl, sqL hw, fun c hc => ?_⟩
      have ecut : cutV ((hd :: tl).map V.str) (some 1) none = tl.map V.str := by
        rcases hk with ⟨_, h⟩ | ⟨_, h⟩
        · obtain ⟨y, rfl⟩ := List.length_eq_one_iff.mp h
          rfl
        · match tl, h with
          | [y, z], _ => rfl
      rw [ecut]
      refine ⟨c, rfl, ⟨_, sqL upd_same⟩, fun L hL => ?_⟩
      have hc1 : (upd (upd H l (.lst ((hd :: tl).map V.str))) c (.lst (tl.map V.str))) c = some (.lst (tl.map V.str)) := upd_same
      have sm2 : Same H (upd (upd H l (.lst ((hd :: tl).map V.str))) c (.lst (tl.map V.str))) := sm.trans (Same.upd hc)
      have hw2 : (upd (upd H l (.lst ((hd :: tl).map V.str))) c (.lst (tl.map V.str))) l = some (.lst ((hd :: tl).map V.str)) := Same.upd hc _ _ hw
      generalize upd (upd H l (.lst ((hd :: tl).map V.str))) c (.lst (tl.map V.str)) = H2 at hc1 sm2 hw2 hL ⊢
      refine lc_pure (Fr := fun _ => False) (walk_list (K := K) (xs := tl.map V.str)) hL (by rw [List.length_map]; omega) (fun i o _ => o = (tl.map fun _ => V.bl true)[i]?) (fun _ _ _ _ _ z => z)
        (fun H3 s3 => sqL (s3 _ _ hc1)) (fun i z H3 H4 k1 k0 hi s3 y q1 q0 => ?_) (fun H3 os s3 hl3 hr hD => ?_)
      · obtain ⟨rfl, hz⟩ := y
        rw [List.getElem?_map] at hz
        cases hx : tl[i]? with
        | none => rw [hx] at hz; cases hz
        | some x =>
          rw [hx] at hz
          obtain rfl : V.str x = z := Option.some.inj hz
          have okx := hn x (List.mem_of_getElem? hx)
          refine ⟨rfl, _, rfl, x, rfl, by have := okName_len okx; omega, fun H5 s5 => q1 _ _ s5 ?_⟩
          rw [okx, List.getElem?_map, hx]
          rfl
      · have e3 : H3 L = some (.lst ((tl.map fun _ => true).map V.bl)) := by
          rw [hD, os_vals (vs := tl.map fun _ => V.bl true) (by rw [hl3]; simp) hr, List.map_map]
          rfl
        refine ⟨L, _, rfl, sqL e3, _, rfl, ?_⟩
        have ea : (tl.map fun _ => true).all id = true := by simp
        rw [ea]
        refine iteT ⟨_, rfl, l, _, rfl, .inl ⟨sqL (s3 _ _ hw2), fun p hp => ?_⟩⟩
        have s4 : Same H H3 := sm2.trans s3
        exact k p _ (same_put s4 (s4.free hp)) (s4.free hp) upd_same
end
end MH
set_option Elab.async false
set_option linter.all false
set_option maxRecDepth 100000
set_option maxHeartbeats 4000000
namespace MH
open PySem PySem.Spec PyProof.Rows L2
section
variable {P : Program} {w : World} {K : PySem.W.Frag} {mg : Str → Option Value} {base : Heap}
/-! ### is_row, are_rows, of rows -/
def sp_is_row : Sp := fun vs H Q _ => ∃ (x : V) (r : Str × Act), vs = [x] ∧ RowV H x r ∧ okDigit r.1 = true ∧ r.2.ok = true ∧ ∀ H', Same H H' → Q (.bl true) H'
theorem sc_is_row : FnScope ["value"] ["value"] (defScope s_is_row) := ⟨rfl, rfl, rfl, by decide +kernel, rfl, by decide +kernel, by decide +kernel⟩
theorem ok_is_row (G : Glo K mg "is_row" s_is_row) (T : Blt mg) (D : CalX P w K mg base CX0 2 "is_digit" sp_is_digit) (D2 : CalX P w K mg base CX0 4 "action_in" sp_action_in) : CalX P w K mg base CX0 5 "is_row" sp_is_row := by
  refine mkCal G sc_is_row (fun vs H Q E h => ?_) (fun _ _ _ _ _ _ us hl => match us, hl with | [_], _ => rfl) (fun f cdv A outer s H vs Q E hr h => ?_)
  · obtain ⟨x, r, rfl, _⟩ := h
    rfl
  · obtain ⟨x, ⟨d, a⟩, rfl, ⟨t, rfl, ht⟩, hd, ha, k⟩ := h
    refine ⟨_, pss_cons (ps_if (PW.pt (pw_or (pt_not (pt_val (pe_callB call_isi (by rfl) T.isinstance boot_isinstance (pa_cons (pv 0) (pa_cons (pe_bltn (v := .ty "tuple") (by rfl) T.tuple boot_tuple rfl) pa_nil)))))
          (pw_or1 (pt_cmpR op_ne (pe_callB call_len_seq (by rfl) T.len boot_len (pa_cons (pv 0) pa_nil)) pe_int (nomark _)))))
        (pss_one (ps_ret pe_bl)) pss_nil)
      (pss_one (ps_ret (pe_and (pe_cal (j := 4) D hr (by decide) pass0 (pa_cons (pe_ix ix_tup (pv 0) pe_int (fun _ _ => rfl)) pa_nil))
        (pe_one (pe_cmpR op_notN (pe_cal (j := 4) D2 hr (by decide) pass0 (pa_cons (pe_ix ix_tup (pv 0) pe_int (fun _ _ => rfl)) pa_nil)) pe_non (nomark _)))))), ?_⟩
    refine ⟨_, rfl, _, _, _, _, true, rfl, .ty "tuple", tyx_tup (sqT ht), kit_ty (by decide +kernel), true, rfl, iteF ?_⟩
    refine ⟨_, rfl, t, _, rfl, .inr (sqT ht), rfl, _, rfl, iteF ?_⟩
    refine ⟨_, rfl, t, _, 0, _, rfl, rfl, sqT ht, at0, d, rfl, by have z : d.length = 1 := okDigit_len hd; omega, _, rfl, ?_⟩
    rw [show okDigit d = true from hd]
    refine iteT ⟨_, rfl, t, _, 1, _, rfl, rfl, sqT ht, at1, a, rfl, ha, fun p H' sm hp hw => ?_⟩
    exact ⟨rfl, k _ sm⟩
def sp_are_rows (K : PySem.W.Frag) : Sp := fun vs H Q _ => ∃ (l : Addr) (xs : List V) (rows : List (Str × Act)), vs = [.ref l] ∧ SqL K H l xs ∧ Paired (RowV H) xs rows ∧ okRows rows ∧ ∀ H', Same H H' → Q (.bl true) H'
theorem sc_are_rows : FnScope ["value", "row"] ["value"] (defScope s_are_rows) := ⟨rfl, rfl, rfl, by decide +kernel, rfl, by decide +kernel, by decide +kernel⟩
theorem ok_are_rows (G : Glo K mg "are_rows" s_are_rows) (T : Blt mg) (D0 : CalX P w K mg base CX0 2 "is_sequence" (sp_is_sequence K)) (D : CalX P w K mg base CX0 5 "is_row" sp_is_row) (D2 : CalX P w K mg base CX0 2 "are_unlike" (sp_are_unlike K)) :
    CalX P w K mg base CX0 6 "are_rows" (sp_are_rows K) := by
  refine mkCal G sc_are_rows (fun vs H Q E h => ?_) (fun _ _ _ _ _ _ us hl => match us, hl with | [_], _ => rfl) (fun f cdv A outer s H vs Q E hr h => ?_)
  · obtain ⟨x, r, rows, rfl, _⟩ := h
    rfl
  · obtain ⟨l, xs, rows, rfl, hs, hp, ⟨hok, hnd, hlen⟩, k⟩ := h
    refine ⟨_, pss_cons (ps_if (PW.pt (pw_or (pt_not (pt_val (pe_cal (j := 5) D0 hr (by decide) pass0 (pa_cons (pv 0) pa_nil))))
          (pw_or1 (pt_not (pt_val (pe_callB (cr_all rfl) (by rfl) T.all (by decide +kernel) (pa_cons (pe_lc (own := [("row", 1)]) (g := gName 1) rfl sc_are_rows.nd (pi_list (pv 0)) (blkOk_by (own := [("row", 1)]) (N := ["value", "row"]) (sc := defScope s_are_rows) (by decide +kernel))
            (fun _ _ _ _ _ => pg_name (i := 1) sc_are_rows.nd rfl (Or.inl rfl)) (fun _ _ _ _ _ => pts_nil) (fun _ _ _ _ _ => pe_cal (j := 5) D hr (by decide) pass0 (pa_cons (pv 1) pa_nil))) pa_nil)))))))
        (pss_one (ps_ret pe_bl)) pss_nil)
      (pss_one (ps_ret (pe_cal (j := 5) D2 hr (by decide) pass0 (pa_cons (pe_lc (te := tOp (rIxT K) (tVar 1) (tC (.int 0))) (own := [("row", 1)]) (g := gName 1) rfl sc_are_rows.nd (pi_list (pv 0)) (blkOk_by (own := [("row", 1)]) (N := ["value", "row"]) (sc := defScope s_are_rows) (by decide +kernel))
            (fun _ _ _ _ _ => pg_name (i := 1) sc_are_rows.nd rfl (Or.inl rfl)) (fun _ _ _ _ _ => pts_nil) (fun _ _ _ _ _ => pe_ix ix_tup (pv 1) pe_int (fun _ _ => rfl))) pa_nil)))), ?_⟩
    have elen := Paired.length hp
    refine ⟨_, rfl, _, _, true, rfl, fun H' sm => tyx_list (same_l sm hs), kit_seq_list K, fun H1 s1 => ?_⟩
    refine ⟨_, rfl, iteF ?_⟩
    refine ⟨_, rfl, l, rfl, ⟨_, same_l s1 hs⟩, fun L hL => ?_⟩
    refine lc_pure (Fr := fun _ => False) (walk_list (K := K) (xs := xs)) hL (by omega) (fun i o _ => o = (xs.map fun _ => V.bl true)[i]?) (fun _ _ _ _ _ z => z)
        (fun H3 s3 => same_l (s1.trans s3) hs) (fun i z H3 H4 k1 k0 hi s3 y q1 q0 => ?_) (fun H3 os s3 hl3 hr3 hD => ?_)
    · obtain ⟨rfl, hz⟩ := y
      obtain ⟨r, hr1, rv⟩ := paired_getL hp hz
      have okr := hok r (List.mem_of_getElem? hr1)
      refine ⟨rfl, _, rfl, z, r, rfl, rv.same (s1.trans s3), okr.1, okr.2, fun H5 s5 => q1 _ _ s5 ?_⟩
      rw [List.getElem?_map, hz]
      rfl
    · have e3 : H3 L = some (.lst ((xs.map fun _ => true).map V.bl)) := by
        rw [hD, os_vals (vs := xs.map fun _ => V.bl true) (by rw [hl3]; simp) hr3, List.map_map]
        rfl
      refine ⟨L, _, rfl, sqL e3, _, rfl, ?_⟩
      have ea : (xs.map fun _ => true).all id = true := by simp
      rw [ea]
      refine iteF ⟨_, rfl, l, rfl, ⟨_, same_l (s1.trans s3) hs⟩, fun L2 hL2 => ?_⟩
      refine lc_pure (Fr := fun _ => False) (walk_list (K := K) (xs := xs)) hL2 (by omega) (fun i o _ => o = (rows.map fun r => V.str r.1)[i]?) (fun _ _ _ _ _ z => z)
        (fun H4 s4 => same_l ((s1.trans s3).trans s4) hs) (fun i z H4 H5 k1 k0 hi s4 y q1 q0 => ?_) (fun H4 os s4 hl4 hr4 hD4 => ?_)
      · obtain ⟨rfl, hz⟩ := y
        obtain ⟨r, hr1, t, rfl, ht⟩ := paired_getL hp hz
        refine ⟨rfl, _, rfl, t, _, 0, _, rfl, rfl, sqT (((s1.trans s3).trans s4) _ _ ht), at0, q1 _ _ (Same.refl _) ?_⟩
        rw [List.getElem?_map, hr1]
        rfl
      · refine ⟨L2, rows.map (·.1), rfl, sqL ?_, hnd, by rw [List.length_map]; omega, k _ ((s1.trans s3).trans s4)⟩
        rw [hD4, os_vals (vs := rows.map fun r => V.str r.1) (by rw [hl4, List.length_map, elen]) hr4, List.map_map]
        rfl
end
end MH
set_option Elab.async false
set_option linter.all false
set_option maxRecDepth 100000
set_option maxHeartbeats 4000000
namespace MH
open PySem PySem.Spec PyProof.Rows L2
section
variable {P : Program} {w : World} {K : PySem.W.Frag} {mg : Str → Option Value} {base : Heap}
/-! ### head_in, of a menu's first line -/
def sp_head_in : Sp := fun vs H Q _ => ∃ m : Menu, vs = [.str m.headText] ∧ m.Ok ∧ ∀ p H', Same H H' → H p = none → H' p = some (.tup [.str m.name, .int m.tries, .bl m.clears]) → Q (.ref p) H'
theorem sc_head_in : FnScope ["line", "words", "clear", "tries"] ["line"] (defScope s_head_in) := ⟨rfl, rfl, rfl, by decide +kernel, rfl, by decide +kernel, by decide +kernel⟩
theorem ok_head_in (G : Glo K mg "head_in" s_head_in) (T : Blt mg) (D : CalX P w K mg base CX0 4 "number_in" sp_number_in) (D2 : CalX P w K mg base CX0 2 "is_name" sp_is_name) : CalX P w K mg base CX0 5 "head_in" sp_head_in := by
  refine mkCal G sc_head_in (fun vs H Q E h => ?_) (fun _ _ _ _ _ _ us hl => match us, hl with | [_], _ => rfl) (fun f cdv A outer s H vs Q E hr h => ?_)
  · obtain ⟨m, rfl, _⟩ := h
    rfl
  · obtain ⟨m, rfl, ok, k⟩ := h
    refine ⟨_, pss_cons (ps_set (i := 1) sc_head_in.nd rfl (Or.inl rfl) (pe_split (pv 0) pe_str))
      (pss_cons (ps_set (i := 2) sc_head_in.nd rfl (Or.inl rfl) (pe_and (pe_cmpR op_eq (pe_callB call_len_seq (by rfl) T.len boot_len (pa_cons (pv 1) pa_nil)) pe_int (nomark _)) (pe_one (pe_cmpR op_eq (pe_ix ix_list (pv 1) pe_int (fun _ _ => rfl)) pe_str (nomark _)))))
      (pss_cons (ps_if (PW.pt (pw_or (PW.pt (pw_and (pt_cmpR op_ne (pe_callB call_len_seq (by rfl) T.len boot_len (pa_cons (pv 1) pa_nil)) pe_int (nomark _)) (pw_and1 (pt_not (pt_val (pv 2))))))
          (pw_or (pt_cmpR op_ne (pe_ix ix_list (pv 1) pe_int (fun _ _ => rfl)) pe_str (nomark _)) (pw_or1 (pt_cmpR op_ne (pe_ix ix_list (pv 1) pe_int (fun _ _ => rfl)) pe_str (nomark _))))))
        (pss_one (ps_ret pe_non)) pss_nil)
      (pss_cons (ps_set (i := 3) sc_head_in.nd rfl (Or.inl rfl) (pe_cal (j := 4) D hr (by decide) pass0 (pa_cons (pe_ix ix_list (pv 1) pe_int (fun _ _ => rfl)) pa_nil)))
      (pss_one (ps_ret (pe_ifExp (PW.pt (pw_and (pt_val (pe_cal (j := 4) D2 hr (by decide) pass0 (pa_cons (pe_ix ix_list (pv 1) pe_int (fun _ _ => rfl)) pa_nil))) (pw_and1 (pt_cmpR op_notN (pv 3) pe_non (nomark _)))))
        (pe_tup (pa_cons (pe_ix ix_list (pv 1) pe_int (fun _ _ => rfl)) (pa_cons (pv 3) (pa_cons (pv 2) pa_nil)))) pe_non)))))), ?_⟩
    have hl := head_len ok
    have t1 := ok.lo
    have t9 := ok.hi
    refine ⟨_, rfl, ⟨_, rfl⟩, _, _, rfl, rfl, by decide +kernel, line_of (by omega), fun l hl => ?_⟩
    rw [head_split ok]
    have sm : Same H (upd H l (.lst (m.headWords.map V.str))) := Same.upd hl
    have hw : (upd H l (.lst (m.headWords.map V.str))) l = some (.lst (m.headWords.map V.str)) := upd_same
    generalize upd H l (.lst (m.headWords.map V.str)) = H1 at sm hw ⊢
    have c1 : ((((m.tries.toNat + 48 : Nat)) : Int) - 48) = m.tries := by omega
    cases hc : m.clears with
    | false =>
      have ew : m.headWords.map V.str = [.str "menu", .str m.name, .str "tries", .str (ch (m.tries.toNat + 48))] := by unfold Menu.headWords; rw [hc]; rfl
      rw [ew] at hw
      refine ⟨_, rfl, l, _, rfl, .inl (sqL hw), rfl, false, rfl, iteF ?_⟩
      refine ⟨_, rfl, l, _, rfl, .inl (sqL hw), rfl, false, rfl, iteF ?_⟩
      refine iteF ?_
      refine ⟨_, rfl, l, _, 0, _, rfl, rfl, sqL hw, at0, rfl, false, rfl, iteF ⟨_, rfl, l, _, 2, _, rfl, rfl, sqL hw, at2, rfl, false, rfl, iteF ?_⟩⟩
      refine ⟨_, rfl, l, _, 3, _, rfl, rfl, sqL hw, at3, _, rfl, by omega, by omega, fun H2 s2 => ?_⟩
      rw [c1]
      refine ⟨_, rfl, l, _, 1, _, rfl, rfl, sqL (s2 _ _ hw), at1, m.name, rfl, by have := okName_len ok.name; omega, fun H3 s3 => ?_⟩
      rw [ok.name]
      refine ⟨true, rfl, iteT ⟨_, rfl, rfl, true, rfl, iteT ?_⟩⟩
      refine ⟨_, rfl, l, _, 1, _, rfl, rfl, sqL (s3 _ _ (s2 _ _ hw)), at1, _, rfl, _, rfl, by show 3 ≤ sizeLine; decide, fun p hp => ?_⟩
      have s4 : Same H H3 := (sm.trans s2).trans s3
      exact k p _ (same_put s4 (s4.free hp)) (s4.free hp) (by rw [upd_same]; exact hc ▸ rfl)
    | true =>
      have ew : m.headWords.map V.str = [.str "menu", .str m.name, .str "tries", .str (ch (m.tries.toNat + 48)), .str "clear"] := by unfold Menu.headWords; rw [hc]; rfl
      rw [ew] at hw
      refine ⟨_, rfl, l, _, rfl, .inl (sqL hw), rfl, true, rfl, iteT ⟨_, rfl, l, _, 4, _, rfl, rfl, sqL hw, at4, rfl, ?_⟩⟩
      refine ⟨_, rfl, l, _, rfl, .inl (sqL hw), rfl, true, rfl, iteT ⟨_, rfl, true, rfl, ?_⟩⟩
      refine iteF ?_
      refine ⟨_, rfl, l, _, 0, _, rfl, rfl, sqL hw, at0, rfl, false, rfl, iteF ⟨_, rfl, l, _, 2, _, rfl, rfl, sqL hw, at2, rfl, false, rfl, iteF ?_⟩⟩
      refine ⟨_, rfl, l, _, 3, _, rfl, rfl, sqL hw, at3, _, rfl, by omega, by omega, fun H2 s2 => ?_⟩
      rw [c1]
      refine ⟨_, rfl, l, _, 1, _, rfl, rfl, sqL (s2 _ _ hw), at1, m.name, rfl, by have := okName_len ok.name; omega, fun H3 s3 => ?_⟩
      rw [ok.name]
      refine ⟨true, rfl, iteT ⟨_, rfl, rfl, true, rfl, iteT ?_⟩⟩
      refine ⟨_, rfl, l, _, 1, _, rfl, rfl, sqL (s3 _ _ (s2 _ _ hw)), at1, _, rfl, _, rfl, by show 3 ≤ sizeLine; decide, fun p hp => ?_⟩
      have s4 : Same H H3 := (sm.trans s2).trans s3
      exact k p _ (same_put s4 (s4.free hp)) (s4.free hp) (by rw [upd_same]; exact hc ▸ rfl)
end
end MH
set_option Elab.async false
set_option linter.all false
set_option maxRecDepth 100000
set_option maxHeartbeats 4000000
namespace MH
open PySem PySem.Spec PyProof.Rows L2
section
variable {P : Program} {w : World} {K : PySem.W.Frag} {mg : Str → Option Value} {base : Heap}
/-! ### told_in, of the lines of a menu within a list of lines -/
def sp_told_in (K : PySem.W.Frag) : Sp := fun vs H Q _ => ∃ (l : Addr) (pre rest : List Str) (m : Menu), vs = [.ref l, .int pre.length] ∧ H l = some (.lst ((pre ++ (m.lines ++ rest)).map V.str)) ∧ m.Ok ∧ (pre ++ (m.lines ++ rest)).length ≤ 4000 ∧
  ∀ p q r xs H', Same H H' → H p = none → H r = none → H' p = some (.tup [.ref q, .int ((pre.length + m.lines.length : Nat) : Int)]) →
    H' q = some (.tup [.str m.name, .ref r, .str m.tail.text, .int m.tries, .bl m.clears]) → H' r = some (.lst xs) → Paired (RowV H') xs m.rows → Q (.ref p) H'
theorem sc_told_in : FnScope ["lines", "begin", "head", "rows", "at", "word", "gap", "action", "row"] ["lines", "begin"] (defScope s_told_in) := ⟨rfl, rfl, rfl, by decide +kernel, rfl, by decide +kernel, by decide +kernel⟩
theorem lines_len (m : Menu) : m.lines.length = m.rows.length + 2 := by
  unfold Menu.lines
  simp
theorem ite_nn {p A B : Prop} [Decidable p] (h : ¬ p) (a : A) : if (!decide p) = true then A else B := by rw [decide_eq_false h]; exact a
theorem ite_ny {p A B : Prop} [Decidable p] (h : p) (b : B) : if (!decide p) = true then A else B := by rw [decide_eq_true h]; exact b
theorem okDigit_low {x : Str} (h : okDigit x = true) : ∀ c ∈ cs x, 48 ≤ c ∧ c ≤ 57 := by
  have h1 := okDigit_len h
  unfold okDigit at h
  rw [Bool.and_eq_true] at h
  have h2 := of_decide_eq_true h.2
  rw [one_ch h1]
  intro c hc
  have e : c = (cs x).headD 0 := by simpa using hc
  rw [e]
  have z : (digits.all fun c => decide (48 ≤ c) && decide (c ≤ 57)) = true := by decide +kernel
  simpa using List.all_eq_true.mp z _ h2
theorem okDigit_no {x : Str} (h : okDigit x = true) : 32 ∉ cs x := fun z => by
  have := okDigit_low h _ z
  omega
theorem ok_told_in (G : Glo K mg "told_in" s_told_in) (T : Blt mg) (D1 : CalX P w K mg base CX0 2 "is_digit" sp_is_digit) (D : CalX P w K mg base CX0 5 "head_in" sp_head_in) (D2 : CalX P w K mg base CX0 4 "action_in" sp_action_in) :
    CalX P w K mg base CX0 6 "told_in" (sp_told_in K) := by
  refine mkCal G sc_told_in (fun vs H Q E h => ?_) (fun _ _ _ _ _ _ us hl => match us, hl with | [_, _], _ => rfl) (fun f cdv A outer s H vs Q E hr h => ?_)
  · obtain ⟨l, pre, rest, m, rfl, _⟩ := h
    rfl
  · obtain ⟨l, pre, rest, m, rfl, hl, ok, hlen, k⟩ := h
    have nd := sc_told_in.nd
    refine ⟨_, pss_cons (ps_if (pt_cmpR op_ge (pv 1) (pe_callB call_len_seq (by rfl) T.len boot_len (pa_cons (pv 0) pa_nil)) (nomark _)) (pss_one ps_never) pss_nil)
      (pss_cons (ps_par (i := 2) (j := 3) rfl nd rfl rfl (by decide) rfl rfl (pa_cons (pe_cal (j := 5) D hr (by decide) pass0 (pa_cons (pe_ix ix_list (pv 0) (pv 1) (fun _ _ => rfl)) pa_nil)) (pa_cons (pe_lst pa_nil) pa_nil)) (by rfl))
      (pss_cons (ps_if (pt_cmpR op_isN (pv 2) pe_non (nomark _)) (pss_one ps_never) pss_nil)
      (pss_cons (ps_for (passes_of rfl) rfl (pi_range2 (by rfl) T.range (pa_cons (pe_op op_add (pv 1) pe_int) (pa_cons (pe_callB call_len_seq (by rfl) T.len boot_len (pa_cons (pv 0) pa_nil)) pa_nil))) (pg_name (i := 4) nd rfl (Or.inl rfl))
        (pss_cons (ps_asg (pe_partition (pe_ix ix_list (pv 0) (pv 4) (fun _ _ => rfl)) pe_str) (pg_tup rfl (pgs_cons (pg_name (i := 5) nd rfl (Or.inl rfl)) (pgs_cons (pg_name (i := 6) nd rfl (Or.inl rfl)) (pgs_cons (pg_name (i := 7) nd rfl (Or.inl rfl)) pgs_nil)))))
        (pss_cons (ps_if (PW.pt (pw_or (pt_cmpR op_isN (pe_cal (j := 5) D2 hr (by decide) pass0 (pa_cons (pv 7) pa_nil)) pe_non (nomark _))
            (pw_or1 (PW.pt (pw_and (pt_cmpR op_ne (pv 5) pe_str (nomark _)) (pw_and1 (pt_not (pt_val (pe_cal (j := 5) D1 hr (by decide) pass0 (pa_cons (pv 5) pa_nil))))))))))
          (pss_one ps_never) pss_nil)
        (pss_cons (ps_if (pt_cmpR op_eq (pv 5) pe_str (nomark _))
          (pss_one (ps_ret (pe_tup (pa_cons (pe_tup (pa_cons (pe_ix ix_tup (pv 2) pe_int (fun _ _ => rfl)) (pa_cons (pv 3) (pa_cons (pv 7) (pa_cons (pe_ix ix_tup (pv 2) pe_int (fun _ _ => rfl)) (pa_cons (pe_ix ix_tup (pv 2) pe_int (fun _ _ => rfl)) pa_nil))))))
            (pa_cons (pe_op op_add (pv 4) pe_int) pa_nil))))) pss_nil)
        (pss_cons (ps_if (pt_cmpR op_in_seq (pv 5) (pe_lc (te := tOp (rIxT K) (tVar 8) (tC (.int 0))) (own := [("row", 8)]) (g := gName 8) rfl nd (pi_list (pv 3)) (blkOk_by (own := [("row", 8)]) (N := ["lines", "begin", "head", "rows", "at", "word", "gap", "action", "row"]) (sc := defScope s_told_in) (by decide +kernel))
              (fun _ _ _ _ _ => pg_name (i := 8) nd rfl (Or.inl rfl)) (fun _ _ _ _ _ => pts_nil) (fun _ _ _ _ _ => pe_ix ix_tup (pv 8) pe_int (fun _ _ => rfl))) (by rfl)) (pss_one ps_never) pss_nil)
        (pss_one (ps_expr (pe_bm PySem.F.plainAttrs_list PySem.F.slot_list_append PySem.F.type_list_append mt_append (pv 3) (pa_cons (pe_tup (pa_cons (pv 5) (pa_cons (pv 7) pa_nil))) pa_nil)))))))))
      (pss_one ps_never)))), ?_⟩
    have ll := lines_len m
    have hlen2 : pre.length + (m.lines.length + rest.length) ≤ 4000 := by simpa using hlen
    have hP : ∀ j, ((pre ++ (m.lines ++ rest)).map V.str)[pre.length + j]? = ((m.lines ++ rest).map V.str)[j]? := fun j => by
      rw [List.map_append, List.getElem?_append_right (by simp), List.length_map, Nat.add_sub_cancel_left]
    refine ⟨_, rfl, _, rfl, l, _, rfl, .inl (sqL hl), _, _, rfl, rfl, _, rfl, ite_no (by rw [List.length_map]; simp; omega) ?_⟩
    -- head, rows = head_in(lines[begin]), []
    refine ⟨_, rfl, _, rfl, l, _, pre.length, .str m.headText, rfl, rfl, sqL hl, atI_nat (hP 0), m, rfl, ok, fun h H1 s1 hh e1 => ?_⟩
    refine ⟨by decide, fun r hr0 => ?_⟩
    refine ⟨_, _, rfl, ?_⟩
    refine ⟨_, rfl, rfl, _, rfl, iteF ?_⟩
    have fr : H r = none := s1.free hr0
    have hn : ((pre ++ (m.lines ++ rest)).map V.str).length = pre.length + (m.rows.length + 2 + rest.length) := by simp; omega
    refine ⟨_, rfl, _, _, rfl, rfl, _, rfl, l, _, rfl, .inl (sqL (Same.upd hr0 _ _ (s1 _ _ hl))), _, _, rfl, by rw [hn]; omega, ?_⟩
    refine for_it walk_range (fun i σ Hh => i ≤ m.rows.length ∧ (∃ a b c d e, σ = [some (.ref l), some (.int pre.length), some (.ref h), some (.ref r), a, b, c, d, e]) ∧ Same H Hh ∧ Hh h = some (.tup [.str m.name, .int m.tries, .bl m.clears]) ∧
      ∃ xs, Hh r = some (.lst xs) ∧ Paired (RowV Hh) xs (m.rows.take i)) ⟨Nat.zero_le _, ⟨_, _, _, _, _, rfl⟩, same_put s1 fr, by rw [upd_ne (ne_of_none e1 hr0)]; exact e1, [], upd_same, .nil⟩ (fun _ _ _ _ _ => trivial) (fun i x σ Ha Hb hi hp y => ?_) (fun σ Ha hp => ?_)
    · obtain ⟨rfl, rfl⟩ := y
      obtain ⟨hle, ⟨a, b, c, d, e, rfl⟩, sa, ha, xs, hx, px⟩ := hp
      have hl2 := sa _ _ hl
      have ei : (pre.length : Int) + 1 + (i : Nat) = ((pre.length + (i + 1) : Nat) : Int) := by omega
      obtain ⟨wd, act, hg, no, hw5, oka, hcase⟩ : ∃ (wd : Str) (act : Act), ((pre ++ (m.lines ++ rest)).map V.str)[pre.length + (i + 1)]? = some (.str (wd ++ (ch 32 ++ act.text))) ∧ 32 ∉ cs wd ∧ wd.length ≤ 4 ∧ act.ok = true ∧
          ((i < m.rows.length ∧ okDigit wd = true ∧ m.rows[i]? = some (wd, act)) ∨ (i = m.rows.length ∧ wd = "else" ∧ act = m.tail)) := by
        rcases Nat.lt_or_ge i m.rows.length with lt | ge
        · obtain ⟨okd, oka⟩ := ok.rows.1 _ (List.getElem_mem lt)
          refine ⟨(m.rows[i]).1, (m.rows[i]).2, ?_, okDigit_no okd, by rw [okDigit_len okd]; decide, oka, .inl ⟨lt, okd, List.getElem?_eq_getElem lt⟩⟩
          rw [hP]
          unfold Menu.lines
          rw [List.cons_append, List.map_cons, List.getElem?_cons_succ, List.append_assoc, List.map_append, List.map_map, List.getElem?_append_left (by simpa using lt), List.getElem?_map, List.getElem?_eq_getElem lt]
          rfl
        · obtain rfl : i = m.rows.length := Nat.le_antisymm hle ge
          refine ⟨"else", m.tail, ?_, (word_no (x := "else") (by simp)).1.1, by decide, ok.tail, .inr ⟨rfl, rfl, rfl⟩⟩
          rw [hP]
          unfold Menu.lines
          rw [List.cons_append, List.map_cons, List.getElem?_cons_succ, List.append_assoc, List.map_append, List.getElem?_append_right (by simp)]
          simp [tailText]
      have tl := text_len oka
      have sl : (wd ++ (ch 32 ++ act.text)).length ≤ 100 := by
        rw [len_cs, cs_app, cs_app, List.length_append, List.length_append, ← len_cs, ← len_cs, ← len_cs]
        have : (ch 32).length = 1 := rfl
        omega
      refine ⟨_, rfl, _, rfl, l, _, ((pre.length + (i + 1) : Nat) : Int), _, rfl, congrArg V.int ei, sqL hl2, atI_nat hg, ⟨_, rfl⟩, _, _, rfl, rfl, by decide, line_of (by omega), fun p hp0 => ?_⟩
      rw [blank, partition_at _ _ no]
      refine ⟨p, _, rfl, sqT upd_same, rfl, _, _, rfl, _, _, rfl, _, _, rfl, rfl, ?_⟩
      have rp : r ≠ p := fun z => by rw [z, hp0] at hx; cases hx
      have hap : h ≠ p := ne_of_none ha hp0
      refine ⟨_, rfl, act, rfl, oka, fun p2 H2 s2 hp2 e2 => ?_⟩
      have s3 : Same Hb H2 := (Same.upd hp0).trans s2
      refine ⟨rfl, _, rfl, iteF ?_⟩
      rcases hcase with ⟨lt, okd, hri⟩ | ⟨rfl, rfl, rfl⟩
      · have ne : wd ≠ "else" := fun z => by rw [z] at okd; exact absurd okd (by decide +kernel)
        refine ⟨_, rfl, rfl, _, rfl, ite_nn (fun z => ne (V.str.inj z)) ⟨_, rfl, wd, rfl, by omega, _, rfl, ?_⟩⟩
        rw [okd]
        refine iteF ⟨_, rfl, rfl, _, rfl, ite_no (fun z => ne (V.str.inj z)) ?_⟩
        have px2 : Paired (RowV H2) xs (m.rows.take i) := paired_imp px fun _ _ z => z.same s3
        have hx2 : H2 r = some (.lst xs) := s3 _ _ hx
        have xl : xs.length = i := by rw [Paired.length px2, List.length_take]; omega
        have few := ok.rows.2.2
        refine ⟨_, rfl, _, rfl, r, rfl, ⟨_, sqL hx2⟩, fun L hL => ?_⟩
        refine lc_pure (Fr := fun _ => False) (walk_list (K := K) (xs := xs)) hL (by omega) (fun j o _ => o = ((m.rows.take i).map fun r => V.str r.1)[j]?) (fun _ _ _ _ _ z => z)
          (fun H4 s4 => sqL (s4 _ _ hx2)) (fun j z H4 H5 k1 k0 hj s4 y q1 q0 => ?_) (fun H4 os s4 hl4 hr4 hD4 => ?_)
        · obtain ⟨rfl, hz⟩ := y
          obtain ⟨r2, hr1, t, rfl, ht⟩ := paired_getL px2 hz
          refine ⟨rfl, _, rfl, t, _, 0, _, rfl, rfl, sqT (s4 _ _ ht), at0, q1 _ _ (Same.refl _) ?_⟩
          rw [List.getElem?_map, hr1]
          rfl
        · have e5 : H4 L = some (.lst ((m.rows.take i).map fun r => V.str r.1)) := by
            rw [hD4, os_vals (vs := (m.rows.take i).map fun r => V.str r.1) (by rw [hl4, List.length_map, Paired.length px2]) hr4]
          refine ⟨L, _, rfl, .inl (sqL e5), rfl, by rw [List.all_map]; exact List.all_eq_true.mpr fun _ _ => rfl, _, rfl, ?_⟩
          rw [show ((m.rows.take i).map fun r => V.str r.1) = ((m.rows.take i).map (·.1)).map V.str by rw [List.map_map]; rfl, inV_strs]
          have nin : ((m.rows.take i).map (·.1)).contains wd = false := by
            rw [← Bool.not_eq_true]
            intro z
            obtain ⟨j, hj, e⟩ := List.mem_iff_getElem.mp (List.contains_iff_mem.mp z)
            have ji : j < i := by
              have := hj
              rw [List.length_map, List.length_take] at this
              omega
            have e2 : (m.rows.map (·.1))[j]? = (m.rows.map (·.1))[i]? := by
              rw [List.getElem?_map, List.getElem?_map, hri]
              rw [List.getElem_map, List.getElem_take] at e
              rw [List.getElem?_eq_getElem (by omega)]
              exact congrArg some e
            have := (List.getElem?_inj (by rw [List.length_map]; omega) ok.rows.2.1).mp e2
            omega
          rw [nin]
          refine iteF ?_
          have hx4 : H4 r = some (.lst xs) := s4 _ _ hx2
          refine ⟨_, rfl, .inl ⟨rfl, _, sqL hx4⟩, _, rfl, _, rfl, by show 2 ≤ sizeLine; decide, fun p3 hp3 => ?_⟩
          have s5 : Same H2 (upd H4 p3 (.tup [.str wd, .str act.text])) := same_put s4 (s4.free hp3)
          have hx5 : (upd H4 p3 (.tup [.str wd, .str act.text])) r = some (.lst xs) := s5 _ _ hx2
          have f5 : Fz (fun _ => False) H2 (upd (upd H4 p3 (.tup [.str wd, .str act.text])) r (.lst (xs ++ [.ref p3]))) := (Fz.of s5).trans (Fz.set hx5 fun z => z)
          have rp3 : p3 ≠ r := fun z => by rw [z] at hp3; rw [hx4] at hp3; cases hp3
          refine ⟨r, xs, _, rfl, rfl, hx5, line_lt (by omega), lt, ⟨_, _, _, _, _, rfl⟩, same_put ((sa.trans s3).trans s5) fr, ?_, xs ++ [.ref p3], upd_same, ?_⟩
          · exact f5 _ _ (s3 _ _ ha) trivial
          · rw [List.take_add_one, hri]
            exact paired_app (paired_imp px2 fun _ _ z => z.mono f5) (.cons ⟨p3, rfl, by rw [upd_ne rp3]; exact upd_same⟩ .nil)
      · refine ⟨_, rfl, rfl, _, rfl, ite_ny rfl ⟨_, rfl, rfl, _, rfl, ite_yes rfl ?_⟩⟩
        have h3 := s3 _ _ ha
        refine ⟨_, rfl, h, _, 0, _, rfl, rfl, sqT h3, at0, _, rfl, _, rfl, _, rfl, h, _, 1, _, rfl, rfl, sqT h3, at1, _, rfl, h, _, 2, _, rfl, rfl, sqT h3, at2, by show 5 ≤ sizeLine; decide, fun q hq => ?_⟩
        refine ⟨_, rfl, _, _, rfl, rfl, by show 2 ≤ sizeLine; decide, fun p3 hp3 => ?_⟩
        have sq : Same H2 (upd H2 q (.tup [.str m.name, .ref r, .str m.tail.text, .int m.tries, .bl m.clears])) := Same.upd hq
        have qp : q ≠ p3 := fun z => by rw [← z, upd_same] at hp3; cases hp3
        have sH := (sa.trans s3).trans sq
        have hr2 : H2 r = some (.lst xs) := s3 _ _ hx
        have fin : Same H2 (upd (upd H2 q (.tup [.str m.name, .ref r, .str m.tail.text, .int m.tries, .bl m.clears])) p3 (.tup [.ref q, .int ((pre.length : Int) + 1 + (m.rows.length : Int) + 1)])) := same_put sq (sq.free hp3)
        refine k p3 q r xs _ (same_put sH (sH.free hp3)) (sH.free hp3) fr ?_ ?_ (fin _ _ hr2) ?_
        · rw [upd_same, ll]
          exact congrArg (fun z => some (HO.tup [.ref q, .int z])) (by omega)
        · rw [upd_ne qp]; exact upd_same
        · have e9 := px
          rw [List.take_length] at e9
          exact paired_imp e9 fun _ _ z => z.same (s3.trans fin)
    · exact absurd hp.1 (by rw [hn]; omega)
end
end MH
set_option Elab.async false
set_option linter.all false
set_option maxRecDepth 100000
set_option maxHeartbeats 4000000
namespace MH
open PySem PySem.Spec PyProof.Rows L2
section
variable {P : Program} {w : World} {K : PySem.W.Frag} {mg : Str → Option Value} {base : Heap}
/-! ### Menu.__init__, of the parts of a menu -/
def menuNames : List Str := ["name", "rows", "tail", "tries", "clears", "deeds", "last", "__init__", "read", "action"]
def sp_menu_init (K : PySem.W.Frag) (C : Addr) : Sp := fun vs H Q _ => ∃ (z dx r : Addr) (xs : List V) (m : Menu), vs = [.ref z, .str m.name, .ref r, .str m.tail.text, .int m.tries, .bl m.clears] ∧ H z = some (.ins C dx []) ∧ SqL K H r xs ∧ Paired (RowV H) xs m.rows ∧ m.Ok ∧
  ∀ H', But z H H' → MenuAt C H' z m.sorted → Q .non H'
theorem sc_menu_init : FnScope ["self", "name", "rows", "tail", "tries", "clears", "digit", "action"] ["self", "name", "rows", "tail", "tries", "clears"] (defScope s_Menu_init) := ⟨rfl, rfl, rfl, by decide +kernel, rfl, by decide +kernel, by decide +kernel⟩
theorem ok_menu_init {C f : Addr} {fd : FuncData} {dvs : List V} (M : Mk K C f) (hmC : mg "Menu" = some (.ref C)) (O : ObjC K C ["name", "rows", "tail", "tries", "clears", "deeds", "last"])
    (F : FunD K "__init__" "Menu.__init__" (defArgs s_Menu_init) (defBody s_Menu_init) (defScope s_Menu_init) dvs [] f fd) (hd : dvs.length = 2) (T : Blt mg)
    (D1 : CalX P w K mg base CX0 2 "is_name" sp_is_name) (D2 : CalX P w K mg base CX0 6 "are_rows" (sp_are_rows K)) (D3 : CalX P w K mg base CX0 4 "action_in" sp_action_in) (D4 : CalX P w K mg base CX0 2 "is_integer" sp_is_integer) :
    MakX P w K mg base CX0 7 "Menu" C (sp_menu_init K C) := by
  have B : Binds K fd ["self", "name", "rows", "tail", "tries", "clears"] [] := by
    obtain ⟨ds, hds, b⟩ := F.binds1 (ps := ["self", "name", "rows", "tail", "tries", "clears"]) 6 2 (fun z => by rw [z] at hd; cases hd) (by rw [hd]; rfl) (fun T kV doc pm an cdv ct us its hl hi => by
      rw [hd] at hi
      match us, its, hl, hi with
      | [_, _, _, _, _, _], [_, _], _, _ => exact ⟨_, rfl, rfl⟩)
    have e : dvs.drop 2 = [] := List.drop_eq_nil_of_le (by omega)
    rw [e] at hds
    cases hds
    exact b
  refine ⟨f, fd, _, M, F.ok sc_menu_init (fun vs H Q E h => ?_) (fun cdv A outer s H vs Q E hr h => ?_), hmC, B⟩
  · obtain ⟨z, dx, r, xs, m, rfl, _⟩ := h
    rfl
  · obtain ⟨z, dx, r, xs, m, rfl, hz, hs, hp, ok, k⟩ := h
    have nd := sc_menu_init.nd
    refine ⟨_, pss_cons (ps_if (pt_not (pt_val (pe_cal (j := 6) D1 hr (by decide) pass0 (pa_cons (pv 1) pa_nil)))) (pss_one ps_never) pss_nil)
      (pss_cons (ps_if (pt_not (pt_val (pe_cal (j := 6) D2 hr (by decide) pass0 (pa_cons (pv 2) pa_nil)))) (pss_one ps_never) pss_nil)
      (pss_cons (ps_if (pt_cmpR op_isN (pe_cal (j := 6) D3 hr (by decide) pass0 (pa_cons (pv 3) pa_nil)) pe_non (nomark _)) (pss_one ps_never) pss_nil)
      (pss_cons (ps_if (PW.pt (pw_or (pt_not (pt_val (pe_cal (j := 6) D4 hr (by decide) pass0 (pa_cons (pv 4) pa_nil)))) (pw_or1 (pt_cmpR op_lt (pv 4) pe_int (nomark _))))) (pss_one ps_never) pss_nil)
      (pss_cons (ps_if (pt_not (pt_val (pe_callB call_isi (by rfl) T.isinstance boot_isinstance (pa_cons (pv 5) (pa_cons (pe_bltn (v := .ty "bool") (by rfl) T.bool boot_bool rfl) pa_nil))))) (pss_one ps_never) pss_nil)
      (pss_cons (ps_fld (pv 0) (pv 1) (by rfl))
      (pss_cons (ps_fld (pv 0) (pe_callTy call_tuple_of (by rfl) T.tuple boot_tuple (pa_cons (pe_callB (cr_sortedD hr.units) (by rfl) T.sorted (by decide +kernel) (pa_cons (pv 2) pa_nil)) pa_nil)) (by rfl))
      (pss_cons (ps_fld (pv 0) (pv 3) (by rfl))
      (pss_cons (ps_fld (pv 0) (pv 4) (by rfl))
      (pss_cons (ps_fld (pv 0) (pv 5) (by rfl))
      (pss_cons (ps_fld (pv 0) (pe_callTy call_tuple_of (by rfl) T.tuple boot_tuple (pa_cons (pe_lc (own := [("digit", 6), ("action", 7)]) (g := gTup K 2 (gCons (gName 6) (gCons (gName 7) gNil))) rfl nd (pi_tup (pe_fld (pv 0) (by rfl)))
            (blkOk_by (own := [("digit", 6), ("action", 7)]) (N := ["self", "name", "rows", "tail", "tries", "clears", "digit", "action"]) (sc := defScope s_Menu_init) (by decide +kernel))
            (fun _ _ _ _ _ => pg_tup rfl (pgs_cons (pg_name (i := 6) nd rfl (Or.inl rfl)) (pgs_cons (pg_name (i := 7) nd rfl (Or.inl rfl)) pgs_nil))) (fun _ _ _ _ _ => pts_nil)
            (fun _ _ _ _ _ => pe_tup (pa_cons (pv 6) (pa_cons (pe_cal (j := 6) D3 (hr.mono (by decide)) (by decide) pass0 (pa_cons (pv 7) pa_nil)) pa_nil)))) pa_nil)) (by rfl))
      (pss_one (ps_fld (pv 0) (pe_cal (j := 6) D3 hr (by decide) pass0 (pa_cons (pv 3) pa_nil)) (by rfl))))))))))))), ?_⟩
    have okl := okName_len ok.name
    refine ⟨_, rfl, m.name, rfl, by omega, fun H1 s1 => ?_⟩
    rw [ok.name]
    refine ⟨_, rfl, iteF ⟨_, rfl, r, xs, m.rows, rfl, same_l s1 hs, paired_imp hp fun _ _ q => q.same s1, ok.rows, fun H2 s2 => ⟨_, rfl, iteF ?_⟩⟩⟩
    refine ⟨_, rfl, m.tail, rfl, ok.tail, fun p H3 s3 hp3 e3 => ⟨rfl, _, rfl, iteF ?_⟩⟩
    refine ⟨_, rfl, m.tries, rfl, _, rfl, iteF ⟨_, rfl, _, _, rfl, rfl, _, rfl, ite_no (by have := ok.lo; omega) ?_⟩⟩
    refine ⟨_, rfl, _, _, _, _, true, rfl, .ty "bool", .base (.bl _), kit_ty (by decide +kernel), true, rfl, iteF ?_⟩
    have b3 : But z H H3 := But.of ((s1.trans s2).trans s3)
    have z3 : H3 z = some (.ins C dx []) := ((s1.trans s2).trans s3) _ _ hz
    -- self.name
    refine ⟨_, rfl, _, rfl, z, C, dx, _, rfl, z3, O.cls, O.no _ (by simp), by simp, ?_⟩
    have b4 := b3.upd (o := .ins C dx (putF "name" (.str m.name) []))
    have z4 : (upd H3 z (.ins C dx (putF "name" (.str m.name) []))) z = some (.ins C dx [("name", .str m.name)]) := upd_same
    generalize upd H3 z (.ins C dx (putF "name" (.str m.name) [])) = H4 at b4 z4 ⊢
    -- self.rows
    have f4 : Fz (fun _ => False) H H4 := b4.fz hz fun q => q
    have p4 : Paired (RowV H4) xs m.rows := paired_imp hp fun _ _ q => q.mono f4
    have few := ok.rows.2.2
    have xl := Paired.length hp
    refine ⟨_, rfl, r, xs, m.rows.map encRow, rfl, but_l b4 hz hs, dp_rows p4, alike_rows _, sortable_rows _, by omega, depth_rows _, fun sl hsl => ?_⟩
    have p5 : Paired (RowV H4) (sortV xs (m.rows.map encRow)) m.sorted.rows := sortV_rows p4
    generalize sortV xs (m.rows.map encRow) = ys at p5 ⊢
    have s5 : Same H4 (upd H4 sl (.lst ys)) := Same.upd hsl
    refine ⟨sl, ys, rfl, .inl ⟨sqL upd_same, fun rt hrt => ?_⟩⟩
    have s6 := same_put (o := .tup ys) s5 (s5.free hrt)
    have r6 : (upd (upd H4 sl (.lst ys)) rt (.tup ys)) rt = some (.tup ys) := upd_same
    generalize upd (upd H4 sl (.lst ys)) rt (.tup ys) = H6 at s6 r6 ⊢
    refine ⟨_, rfl, z, C, dx, _, rfl, s6 _ _ z4, O.cls, O.no _ (by simp), by simp, ?_⟩
    have p6 : Paired (RowV H6) ys m.sorted.rows := paired_imp p5 fun _ _ q => q.same s6
    have b6 : But z H H6 := b4.trans (But.of s6)
    have z6 := s6 _ _ z4
    have b7 := b6.upd (o := .ins C dx (putF "rows" (.ref rt) [("name", .str m.name)]))
    have z7 : (upd H6 z (.ins C dx (putF "rows" (.ref rt) [("name", .str m.name)]))) z = some (.ins C dx [("name", .str m.name), ("rows", .ref rt)]) := upd_same
    have f7 : Fz (fun _ => False) H6 (upd H6 z (.ins C dx (putF "rows" (.ref rt) [("name", .str m.name)]))) := Fz.set z6 fun q => q
    generalize upd H6 z (.ins C dx (putF "rows" (.ref rt) [("name", .str m.name)])) = H7 at b7 z7 f7 ⊢
    -- self.tail, self.tries, self.clears
    refine ⟨_, rfl, _, rfl, z, C, dx, _, rfl, z7, O.cls, O.no _ (by simp), by simp, ?_⟩
    have b8 := b7.upd (o := .ins C dx (putF "tail" (.str m.tail.text) [("name", .str m.name), ("rows", .ref rt)]))
    have z8 : (upd H7 z (.ins C dx (putF "tail" (.str m.tail.text) [("name", .str m.name), ("rows", .ref rt)]))) z = some (.ins C dx [("name", .str m.name), ("rows", .ref rt), ("tail", .str m.tail.text)]) := upd_same
    have f8 : Fz (fun _ => False) H6 (upd H7 z (.ins C dx (putF "tail" (.str m.tail.text) [("name", .str m.name), ("rows", .ref rt)]))) := f7.trans (Fz.set z7 fun q => q)
    generalize upd H7 z (.ins C dx (putF "tail" (.str m.tail.text) [("name", .str m.name), ("rows", .ref rt)])) = H8 at b8 z8 f8 ⊢
    refine ⟨_, rfl, _, rfl, z, C, dx, _, rfl, z8, O.cls, O.no _ (by simp), by simp, ?_⟩
    have b9 := b8.upd (o := .ins C dx (putF "tries" (.int m.tries) [("name", .str m.name), ("rows", .ref rt), ("tail", .str m.tail.text)]))
    have z9 : (upd H8 z (.ins C dx (putF "tries" (.int m.tries) [("name", .str m.name), ("rows", .ref rt), ("tail", .str m.tail.text)]))) z = some (.ins C dx [("name", .str m.name), ("rows", .ref rt), ("tail", .str m.tail.text), ("tries", .int m.tries)]) := upd_same
    have f9 : Fz (fun _ => False) H6 (upd H8 z (.ins C dx (putF "tries" (.int m.tries) [("name", .str m.name), ("rows", .ref rt), ("tail", .str m.tail.text)]))) := f8.trans (Fz.set z8 fun q => q)
    generalize upd H8 z (.ins C dx (putF "tries" (.int m.tries) [("name", .str m.name), ("rows", .ref rt), ("tail", .str m.tail.text)])) = H9 at b9 z9 f9 ⊢
    refine ⟨_, rfl, _, rfl, z, C, dx, _, rfl, z9, O.cls, O.no _ (by simp), by simp, ?_⟩
    have b10 := b9.upd (o := .ins C dx (putF "clears" (.bl m.clears) [("name", .str m.name), ("rows", .ref rt), ("tail", .str m.tail.text), ("tries", .int m.tries)]))
    have z10 : (upd H9 z (.ins C dx (putF "clears" (.bl m.clears) [("name", .str m.name), ("rows", .ref rt), ("tail", .str m.tail.text), ("tries", .int m.tries)]))) z = some (.ins C dx [("name", .str m.name), ("rows", .ref rt), ("tail", .str m.tail.text), ("tries", .int m.tries), ("clears", .bl m.clears)]) := upd_same
    have f10 : Fz (fun _ => False) H6 (upd H9 z (.ins C dx (putF "clears" (.bl m.clears) [("name", .str m.name), ("rows", .ref rt), ("tail", .str m.tail.text), ("tries", .int m.tries)]))) := f9.trans (Fz.set z9 fun q => q)
    generalize upd H9 z (.ins C dx (putF "clears" (.bl m.clears) [("name", .str m.name), ("rows", .ref rt), ("tail", .str m.tail.text), ("tries", .int m.tries)])) = H10 at b10 z10 f10 ⊢
    have p10 : Paired (RowV H10) ys m.sorted.rows := paired_imp p6 fun _ _ q => q.mono f10
    have r10 := f10 _ _ r6 trivial
    have okS := ok.sorted
    have yl := Paired.length p10
    have fewS := okS.rows.2.2
    -- self.deeds
    refine ⟨_, rfl, z, C, dx, _, _, rfl, z10, O.cls, O.no _ (by simp), rfl, rt, rfl, ⟨_, sqT r10⟩, fun L hL => ?_⟩
    refine lc_pure (Fr := fun _ => False) (walk_tup (K := K) (xs := ys)) hL (by omega) (fun i o Hq => ∃ r y, m.sorted.rows[i]? = some r ∧ o = some y ∧ DeedV Hq y r) (fun _ _ _ _ e ⟨r, y, h1, h2, h3⟩ => ⟨r, y, h1, h2, h3.mono e⟩)
      (fun H4 s4 => sqT (s4 _ _ r10)) (fun j x Ha Hb k1 k0 hj sa y q1 q0 => ?_) (fun Ha os sa hl4 hr4 hD4 => ?_)
    · obtain ⟨rfl, hx⟩ := y
      obtain ⟨r2, hr1, t, rfl, ht⟩ := paired_getL p10 hx
      have okr := okS.rows.1 r2 (List.mem_of_getElem? hr1)
      refine ⟨t, _, rfl, sqT (sa _ _ ht), rfl, _, _, rfl, _, _, rfl, rfl, rfl, ?_⟩
      refine ⟨_, rfl, _, rfl, r2.2, rfl, okr.2, fun pa Hc sc hpa epa => ⟨by show 2 ≤ sizeLine; decide, fun p2 hp2 => ?_⟩⟩
      have s9 := same_put (o := .tup [.str r2.1, .ref pa]) sc (sc.free hp2)
      exact q1 _ _ s9 ⟨r2, _, hr1, rfl, p2, _, rfl, upd_same, pa, rfl, by rw [upd_ne (ne_of_none epa hp2)]; exact epa⟩
    · have pd := os_paired (os := os) (l := m.sorted.rows) (R := fun r y => DeedV Ha y r) (by omega) fun i o r h1 h2 => by
        obtain ⟨r', y, h3, h4, h5⟩ := hr4 i o h1
        rw [h2] at h3
        cases h3
        exact ⟨y, h4, h5⟩
      generalize os.filterMap id = dl at hD4 pd
      refine ⟨L, dl, rfl, .inl ⟨sqL hD4, fun dt hdt => ?_⟩⟩
      have sd : Same H10 (upd Ha dt (.tup dl)) := same_put sa (sa.free hdt)
      have sd2 : Same Ha (upd Ha dt (.tup dl)) := Same.upd hdt
      have zd := sd _ _ z10
      have ed : (upd Ha dt (.tup dl)) dt = some (.tup dl) := upd_same
      have pd2 : Paired (DeedV (upd Ha dt (.tup dl))) dl m.sorted.rows := paired_imp pd fun _ _ q => q.mono (Fz.of (Fr := fun _ => False) sd2)
      generalize upd Ha dt (.tup dl) = H11 at sd sd2 zd ed pd2 ⊢
      refine ⟨_, rfl, z, C, dx, _, rfl, zd, O.cls, O.no _ (by simp), by simp, ?_⟩
      have b12 := (b10.trans (But.of sd)).upd (o := .ins C dx (putF "deeds" (.ref dt) [("name", .str m.name), ("rows", .ref rt), ("tail", .str m.tail.text), ("tries", .int m.tries), ("clears", .bl m.clears)]))
      have z12 : (upd H11 z (.ins C dx (putF "deeds" (.ref dt) [("name", .str m.name), ("rows", .ref rt), ("tail", .str m.tail.text), ("tries", .int m.tries), ("clears", .bl m.clears)]))) z = some (.ins C dx [("name", .str m.name), ("rows", .ref rt), ("tail", .str m.tail.text), ("tries", .int m.tries), ("clears", .bl m.clears), ("deeds", .ref dt)]) := upd_same
      have f12 : Fz (fun _ => False) H11 (upd H11 z (.ins C dx (putF "deeds" (.ref dt) [("name", .str m.name), ("rows", .ref rt), ("tail", .str m.tail.text), ("tries", .int m.tries), ("clears", .bl m.clears)]))) := Fz.set zd fun q => q
      generalize upd H11 z (.ins C dx (putF "deeds" (.ref dt) [("name", .str m.name), ("rows", .ref rt), ("tail", .str m.tail.text), ("tries", .int m.tries), ("clears", .bl m.clears)])) = H12 at b12 z12 f12 ⊢
      refine ⟨_, rfl, m.tail, rfl, ok.tail, fun la H13 s13 hla ela => ?_⟩
      have z13 := s13 _ _ z12
      refine ⟨_, rfl, z, C, dx, _, rfl, z13, O.cls, O.no _ (by simp), by simp, ?_⟩
      have f13 : Fz (fun _ => False) H13 (upd H13 z (.ins C dx (putF "last" (.ref la) [("name", .str m.name), ("rows", .ref rt), ("tail", .str m.tail.text), ("tries", .int m.tries), ("clears", .bl m.clears), ("deeds", .ref dt)]))) := Fz.set z13 fun q => q
      have fA : Fz (fun _ => False) H11 H13 := f12.trans (Fz.of s13)
      have fB := fA.trans f13
      have fC := (f10.trans (Fz.of sd)).trans fB
      refine k _ (b12.trans (But.of s13)).upd ⟨dx, rt, dt, .ref la, ys, dl, upd_same, fC _ _ r6 trivial, paired_imp p6 fun _ _ q => q.mono fC, fB _ _ ed trivial, paired_imp pd2 fun _ _ q => q.mono fB, la, rfl, f13 _ _ ela trivial⟩
end
end MH
set_option Elab.async false
set_option linter.all false
set_option maxRecDepth 100000
set_option maxHeartbeats 4000000
namespace MH
open PySem PySem.Spec PyProof.Rows L2
/-! ### turns of any kind -/
theorem loop_it {J : It} {n : Nat} {G : Hp → Prop} {Y : Nat → Hp → V → Hp → Prop} (w : Walk J n G Y) {Body : V → Hp → (Hp → Prop) → Prop} {Qd : Hp → Prop} {H0 : Hp} (Pv : Nat → Hp → Prop) (h0 : Pv 0 H0) (hG : ∀ i H, i ≤ n → Pv i H → G H)
    (hs : ∀ i x H H', i < n → Pv i H → Y i H x H' → Body x H' (Pv (i + 1))) (hd : ∀ H, Pv n H → Qd H) :
    ∃ W : Nat → Nat → Hp → Prop, (∃ m, W 0 m H0) ∧ ∀ i m H, W i m H →
      (J.stop i H ∧ Qd H) ∨ (J.go i H ∧ ∃ Nx : Hp → Prop, (∀ H', Nx H' → ∃ m', m' < m ∧ W (i + 1) m' H') ∧ ∀ x H', J.yld i H x H' → Body x H' Nx) := by
  refine ⟨fun i m H => m = n - i ∧ i ≤ n ∧ Pv i H, ⟨n, by simp, Nat.zero_le _, h0⟩, ?_⟩
  rintro i m H ⟨rfl, hi, p⟩
  have q := hG i H hi p
  by_cases hlt : i < n
  · exact .inr ⟨w.goes i H hlt q, Pv (i + 1), fun H' p' => ⟨n - (i + 1), by omega, rfl, hlt, p'⟩, fun x H' y => hs i x H H' hlt p (w.yields i H x H' hlt q y)⟩
  · have e : i = n := by omega
    subst e
    exact .inl ⟨w.stops H q, hd H p⟩

/-! ### actions of a menu -/
def Menu.acts (m : Menu) : List Act := m.rows.map (·.2) ++ [m.tail]
/-- the menus an action names -/
def Act.names : Act → List Str
  | .go n => [n]
  | .call n t => [n, t]
  | _ => []
def Act.head : Act → Str
  | .line _ => "line"
  | .out => "out"
  | .again => "again"
  | .main => "main"
  | .back => "back"
  | .go _ => "go"
  | .call _ _ => "call"
theorem Act.words_head (a : Act) : ∃ r, a.words = a.head :: r := by cases a <;> exact ⟨_, rfl⟩
theorem Act.names_tl {a : Act} (h : inV (.str a.head) [.str "go", .str "call"] = true) : a.words = a.head :: a.names := by
  cases a with
  | go n => rfl
  | call n t => rfl
  | line x => exact absurd h (show ¬ inV (.str "line") [.str "go", .str "call"] = true by decide +kernel)
  | out => exact absurd h (by decide +kernel)
  | again => exact absurd h (by decide +kernel)
  | main => exact absurd h (by decide +kernel)
  | back => exact absurd h (by decide +kernel)
theorem Act.names_no {a : Act} (h : inV (.str a.head) [.str "go", .str "call"] = false) : a.names = [] := by
  cases a with
  | go n => exact absurd h (show ¬ inV (.str "go") [.str "go", .str "call"] = false by decide +kernel)
  | call n t => exact absurd h (show ¬ inV (.str "call") [.str "go", .str "call"] = false by decide +kernel)
  | line x => rfl
  | out => rfl
  | again => rfl
  | main => rfl
  | back => rfl
def Menu.names (m : Menu) : List Str := m.acts.flatMap Act.names
theorem acts_ok {m : Menu} (h : m.Ok) : ∀ a ∈ m.acts, a.ok = true := by
  intro a ha
  rcases List.mem_append.mp ha with ha | ha
  · obtain ⟨r, hr, rfl⟩ := List.mem_map.mp ha
    exact (h.rows.1 r hr).2
  · rw [List.mem_singleton.mp ha]; exact h.tail
end MH
namespace MH
open PySem PySem.Spec PyProof.Rows L2
theorem paired_mapR {α β γ : Type} {R : α → γ → Prop} {f : β → γ} : ∀ {l : List α} {m : List β}, Paired (fun a b => R a (f b)) l m → Paired R l (m.map f)
  | _, _, .nil => .nil
  | _, _, .cons r t => .cons r (paired_mapR t)
end MH
namespace MH
open PySem PySem.Spec PyProof.Rows L2
theorem Act.names_cut {a : Act} (h : inV (.str a.head) [.str "go", .str "call"] = true) : cutV (a.words.map V.str) (some 1) none = a.names.map V.str ∧
    ¬ (HT.sIx (a.words.map V.str).length 0 (some 1) = 0 ∧ HT.sIx (a.words.map V.str).length (a.words.map V.str).length none = (a.words.map V.str).length) := by
  cases a with
  | go n => exact ⟨rfl, fun z => absurd z.1 (show ¬ HT.sIx 2 0 (some 1) = 0 by decide +kernel)⟩
  | call n t => exact ⟨rfl, fun z => absurd z.1 (show ¬ HT.sIx 3 0 (some 1) = 0 by decide +kernel)⟩
  | line x => exact absurd h (show ¬ inV (.str "line") [.str "go", .str "call"] = true by decide +kernel)
  | out => exact absurd h (by decide +kernel)
  | again => exact absurd h (by decide +kernel)
  | main => exact absurd h (by decide +kernel)
  | back => exact absurd h (by decide +kernel)
theorem ActV.parts {H : Hp} {x : V} {a : Act} (h : ActV H x a) : ∃ t r, x = .ref t ∧ H t = some (.tup (.str a.head :: r)) ∧ a.words.map V.str = .str a.head :: r := by
  obtain ⟨t, e, ht⟩ := h
  obtain ⟨r, hw⟩ := a.words_head
  exact ⟨t, r.map V.str, e, by rw [ht, hw]; rfl, by rw [hw]; rfl⟩
theorem names_len (a : Act) : a.names.length ≤ 2 := by cases a <;> simp [Act.names]
theorem Menu.names_len {m : Menu} (h : m.Ok) : m.names.length ≤ 42 := by
  unfold Menu.names Menu.acts
  have := h.rows.2.2
  have z : ∀ l : List Act, (l.flatMap Act.names).length ≤ 2 * l.length := fun l => by
    induction l with
    | nil => simp
    | cons a l ih =>
      rw [List.flatMap_cons, List.length_append, List.length_cons]
      have := MH.names_len a
      omega
  have := z (m.rows.map (·.2) ++ [m.tail])
  simp at this
  simp
  omega
end MH
set_option Elab.async false
set_option linter.all false
set_option maxRecDepth 100000
set_option maxHeartbeats 4000000
namespace MH
open PySem PySem.Spec PyProof.Rows L2
section
variable {P : Program} {w : World} {K : PySem.W.Frag} {mg : Str → Option Value} {base : Heap}
/-! ### deeds_of, named_in -/
def sp_deeds_of (C : Addr) : Sp := fun vs H Q _ => ∃ (z : Addr) (m : Menu), vs = [.ref z] ∧ MenuAt C H z m ∧ m.Ok ∧ ∀ l xs H', Same H H' → H l = none → H' l = some (.lst xs) → Paired (ActV H') xs m.acts → Q (.ref l) H'
theorem sc_deeds_of : FnScope ["menu", "digit", "deed"] ["menu"] (defScope s_deeds_of) := ⟨rfl, rfl, rfl, by decide +kernel, rfl, by decide +kernel, by decide +kernel⟩
theorem ok_deeds_of {C : Addr} (G : Glo K mg "deeds_of" s_deeds_of) (O : ObjC K C ["name", "rows", "tail", "tries", "clears", "deeds", "last"]) : CalX P w K mg base CX0 2 "deeds_of" (sp_deeds_of C) := by
  refine mkCal G sc_deeds_of (fun vs H Q E h => ?_) (fun _ _ _ _ _ _ us hl => match us, hl with | [_], _ => rfl) (fun f cdv A outer s H vs Q E hr h => ?_)
  · obtain ⟨z, m, rfl, _⟩ := h
    rfl
  · obtain ⟨z, m, rfl, ⟨dx, rt, dt, la, xs, ds, h⟩, ok, k⟩ := h
    have nd := sc_deeds_of.nd
    refine ⟨_, pss_one (ps_ret (pe_lst (StX.pa_star (pe_lc (te := tVar 2) (own := [("digit", 1), ("deed", 2)]) (g := gTup K 2 (gCons (gName 1) (gCons (gName 2) gNil))) rfl nd (pi_tup (pe_fld (pv 0) (by rfl)))
            (blkOk_by (own := [("digit", 1), ("deed", 2)]) (N := ["menu", "digit", "deed"]) (sc := defScope s_deeds_of) (by decide +kernel))
            (fun _ _ _ _ _ => pg_tup rfl (pgs_cons (pg_name (i := 1) nd rfl (Or.inl rfl)) (pgs_cons (pg_name (i := 2) nd rfl (Or.inl rfl)) pgs_nil))) (fun _ _ _ _ _ => pts_nil)
            (fun _ _ _ _ _ => pv 2)) (pa_cons (pe_fld (pv 0) (by rfl)) pa_nil)))), ?_⟩
    refine ⟨_, rfl, z, C, dx, _, _, rfl, h.at_, O.cls, O.no _ (by simp), rfl, dt, rfl, ⟨_, sqT h.deeds⟩, fun L hL => ?_⟩
    have few := ok.rows.2.2
    have dl := Paired.length h.pdeeds
    refine lc_pure (Fr := fun _ => True) (walk_tup (K := K) (xs := ds)) hL (by omega) (fun i o Hq => ∃ r y, m.rows[i]? = some r ∧ o = some y ∧ ActV Hq y r.2) (fun _ _ _ _ e ⟨r, y, h1, h2, h3⟩ => ⟨r, y, h1, h2, h3.mono e⟩)
      (fun H4 s4 => sqT (s4 _ _ h.deeds)) (fun j x Ha Hb k1 k0 hj sa y q1 q0 => ?_) (fun Ha os sa hl4 hr4 hD4 => ?_)
    · obtain ⟨rfl, hx⟩ := y
      obtain ⟨r2, hr1, t, y, rfl, ht, hy⟩ := paired_getL h.pdeeds hx
      refine ⟨t, _, rfl, sqT (sa _ _ ht), rfl, _, _, rfl, _, _, rfl, rfl, rfl, _, rfl, ?_⟩
      exact q1 _ _ (Same.refl _) ⟨r2, y, hr1, rfl, hy.mono (Fz.of (Fr := fun _ => False) sa)⟩
    · have pd := os_paired (os := os) (l := m.rows) (R := fun r y => ActV Ha y r.2) (by omega) fun i o r h1 h2 => by
        obtain ⟨r', y, h3, h4, h5⟩ := hr4 i o h1
        rw [h2] at h3
        cases h3
        exact ⟨y, h4, h5⟩
      generalize os.filterMap id = dl at hD4 pd
      refine ⟨L, dl, rfl, .inr (sqL hD4), ?_⟩
      have hz := sa _ _ h.at_
      refine ⟨_, rfl, z, C, dx, _, _, rfl, hz, O.cls, O.no _ (by simp), rfl, ?_⟩
      have dl2 := Paired.length pd
      refine ⟨by show (dl ++ [la]).length ≤ sizeLine; rw [List.length_append, dl2]; exact line_of (by show m.rows.length + 1 ≤ 100000; omega), fun l hl => ?_⟩
      have s5 := same_put (o := .lst (dl ++ [la])) sa (sa.free hl)
      have s6 : Same Ha (upd Ha l (.lst (dl ++ [la]))) := Same.upd hl
      exact k l (dl ++ [la]) _ s5 (sa.free hl) upd_same (paired_app (paired_mapR (paired_imp pd fun _ _ q => q.mono (Fz.of (Fr := fun _ => False) s6))) (.cons (h.last.mono (Fz.of (Fr := fun _ => False) s5)) .nil))
def sp_named_in (C : Addr) : Sp := fun vs H Q _ => ∃ (z : Addr) (m : Menu), vs = [.ref z] ∧ MenuAt C H z m ∧ m.Ok ∧ ∀ l H', Same H H' → H l = none → H' l = some (.lst (m.names.map V.str)) → Q (.ref l) H'
theorem sc_named_in : FnScope ["menu", "deed", "name"] ["menu"] (defScope s_named_in) := ⟨rfl, rfl, rfl, by decide +kernel, rfl, by decide +kernel, by decide +kernel⟩
theorem ok_named_in {C : Addr} (G : Glo K mg "named_in" s_named_in) (D : CalX P w K mg base CX0 2 "deeds_of" (sp_deeds_of C)) : CalX P w K mg base CX0 3 "named_in" (sp_named_in C) := by
  refine mkCal G sc_named_in (fun vs H Q E h => ?_) (fun _ _ _ _ _ _ us hl => match us, hl with | [_], _ => rfl) (fun f cdv A outer s H vs Q E hr h => ?_)
  · obtain ⟨z, m, rfl, _⟩ := h
    rfl
  · obtain ⟨z, m, rfl, hm, ok, k⟩ := h
    have nd := sc_named_in.nd
    refine ⟨_, pss_one (ps_ret (pe_lc2 (te := tVar 2) (tt := tTest (tOp (rIn K false) (tOp (rIxT K) (tVar 1) (tC (.int 0))) (tTup (tCons (tC (.str "go")) (tCons (tC (.str "call")) tNil))))) (wi1 := iTup K (tSl (rSlT K) (tVar 1) (tPart (tC (.int 1))) tNoPart)) (own := [("deed", 1), ("name", 2)]) (vs1 := [2]) (g := gName 1) (g1 := gName 2) rfl nd (pi_list (pe_cal (j := 2) D hr (by decide) pass0 (pa_cons (pv 0) pa_nil)))
            (blkOk_by (own := [("deed", 1), ("name", 2)]) (N := ["menu", "deed", "name"]) (sc := defScope s_named_in) (by decide +kernel)) (by decide)
            (fun _ _ _ _ _ => pg_name (i := 1) nd rfl (Or.inl rfl)) (fun _ _ _ _ _ => pts_one (pt_cmpR op_in_seq (pe_ix ix_tup (pv 1) pe_int (fun _ _ => rfl)) (pe_tup (pa_cons pe_str (pa_cons pe_str pa_nil))) (by rfl)))
            (fun _ _ _ _ _ => pi_tup (pe_slice sl_tup (pv 1) (po_some pe_int) po_none)) (fun _ _ _ _ _ => pg_name (i := 2) nd rfl (Or.inl rfl)) (fun _ _ _ _ _ => pts_nil)
            (fun _ _ _ _ _ => pv 2))), ?_⟩
    refine ⟨_, rfl, z, m, rfl, hm, ok, fun l xs H1 s1 hl e1 p1 => ?_⟩
    refine ⟨l, rfl, ⟨_, sqL e1⟩, fun L hL => ?_⟩
    have xl := Paired.length p1
    have al : m.acts.length ≤ 21 := by unfold Menu.acts; have := ok.rows.2.2; simp; omega
    have nlen := Menu.names_len ok
    have pre : ∀ (i j : Nat) (a : Act), m.acts[i]? = some a → j ≤ a.names.length → (((m.acts.take i).flatMap Act.names) ++ a.names.take j).length ≤ 42 := fun i j a ha hj => by
      have e : m.names = ((m.acts.take i).flatMap Act.names) ++ (a.names ++ (m.acts.drop (i + 1)).flatMap Act.names) := by
        unfold Menu.names
        have e2 : m.acts = m.acts.take i ++ (a :: m.acts.drop (i + 1)) := by
          obtain ⟨hi, rfl⟩ := List.getElem?_eq_some_iff.mp ha
          rw [← List.drop_eq_getElem_cons hi, List.take_append_drop]
        conv => lhs; rw [e2]
        rw [List.flatMap_append, List.flatMap_cons]
      rw [e] at nlen
      rw [List.length_append, List.length_take]
      rw [List.length_append, List.length_append] at nlen
      omega
    refine loop_it (walk_list (K := K) (xs := xs)) (fun i Hq => Same H1 Hq ∧ Hq L = some (.lst (((m.acts.take i).flatMap Act.names).map V.str))) ⟨Same.upd hL, upd_same⟩ (fun i Hq _ p => sqL (p.1 _ _ e1)) (fun i x Hq0 Hq hi ⟨sq, eL⟩ y => ?_) (fun Hq ⟨sq, eL⟩ => ?_)
    · obtain ⟨rfl, hx⟩ := y
      obtain ⟨a, ha, av⟩ := paired_getL p1 hx
      obtain ⟨t, r, rfl, ht, ew⟩ := av.parts
      have ht2 := sq _ _ ht
      have stepNo : a.names = [] → ((m.acts.take (i + 1)).flatMap Act.names) = (m.acts.take i).flatMap Act.names := fun z => by
        rw [List.take_add_one, ha, List.flatMap_append]
        simp [z]
      have stepYes : ((m.acts.take (i + 1)).flatMap Act.names) = (m.acts.take i).flatMap Act.names ++ a.names := by
        rw [List.take_add_one, ha, List.flatMap_append]
        simp
      refine ⟨rfl, _, rfl, t, _, 0, _, rfl, rfl, sqT ht2, at0, by show 2 ≤ sizeLine; decide, fun p hp => ?_⟩
      refine ⟨p, _, rfl, .inr (sqT upd_same), rfl, rfl, _, rfl, ?_⟩
      have s2 : Same Hq (upd Hq p (.tup [.str "go", .str "call"])) := Same.upd hp
      cases hc : inV (.str a.head) [.str "go", .str "call"] with
      | false =>
        refine iteF ⟨sq.trans s2, ?_⟩
        rw [stepNo (Act.names_no hc)]
        exact s2 _ _ eL
      | true =>
        refine iteT ?_
        obtain ⟨c1, c2⟩ := Act.names_cut hc
        rw [ew] at c1 c2
        refine ⟨_, rfl, _, rfl, t, _, rfl, sqT (s2 _ _ ht2), c2, fun p2 hp2 => ?_⟩
        rw [c1]
        have s3 := same_put (o := .tup (a.names.map V.str)) s2 (s2.free hp2)
        have eT : (upd (upd Hq p (.tup [.str "go", .str "call"])) p2 (.tup (a.names.map V.str))) p2 = some (.tup (a.names.map V.str)) := upd_same
        generalize upd (upd Hq p (.tup [.str "go", .str "call"])) p2 (.tup (a.names.map V.str)) = Hs at s3 eT ⊢
        refine ⟨p2, rfl, ⟨_, sqT eT⟩, ?_⟩
        refine loop_it (walk_tup (K := K) (xs := a.names.map V.str)) (fun j Hz => Same H1 Hz ∧ Hz p2 = some (.tup (a.names.map V.str)) ∧ Hz L = some (.lst ((((m.acts.take i).flatMap Act.names) ++ a.names.take j).map V.str))) ⟨sq.trans s3, eT, by rw [List.take_zero, List.append_nil]; exact s3 _ _ eL⟩
          (fun j Hz _ p => sqT p.2.1) (fun j x Hz Hz' hj ⟨sz, ez, lz⟩ y => ?_) (fun Hz ⟨sz, ez, lz⟩ => ?_)
        · obtain ⟨rfl, hx2⟩ := y
          rw [List.getElem?_map] at hx2
          obtain ⟨n, hn, rfl⟩ := Option.map_eq_some_iff.mp hx2
          refine ⟨rfl, _, rfl, _, lz, ?_, ?_⟩
          · rw [List.length_map]
            exact line_lt (by have := pre i j a ha (by rw [List.length_map] at hj; omega); omega)
          · have pL : p2 ≠ L := fun z => by rw [z, lz] at ez; cases ez
            have LH : H1 L = none := hL
            refine ⟨same_put sz LH, by rw [upd_ne pL]; exact ez, ?_⟩
            rw [upd_same, List.take_add_one, hn, ← List.append_assoc, List.map_append (l₂ := (some n).toList)]
            rfl
        · refine ⟨sz, ?_⟩
          rw [lz, List.length_map, List.take_length, stepYes]
    · rw [show m.acts.take xs.length = m.acts by rw [xl, List.take_length]] at eL
      exact k L Hq (s1.trans sq) (s1.free hL) eL
end
end MH
set_option Elab.async false
set_option linter.all false
set_option maxRecDepth 100000
set_option maxHeartbeats 4000000
namespace MH
open PySem PySem.Spec PyProof.Rows L2
/-! ### boards as they stand -/
def Act.goal : Act → List Str
  | .line x => [x]
  | _ => []
def goalsOf (B : List Menu) : List Str := B.flatMap fun m => m.acts.flatMap Act.goal
def namesOf (B : List Menu) : List Str := B.map (·.name)
def firstOf : List Menu → Str
  | m :: _ => m.name
  | [] => ""
structure IsGoals (B : List Menu) (ys : List Str) : Prop where
  mem : ∀ x, x ∈ ys ↔ x ∈ goalsOf B
  nd : ys.Nodup
  asc : ys.Pairwise fun x y => x.cps.toList ≤ y.cps.toList
structure BoardOk (B : List Menu) : Prop where
  ne : B ≠ []
  ok : ∀ m ∈ B, m.Ok
  nd : (namesOf B).Nodup
  closed : ∀ m ∈ B, ∀ n ∈ m.names, n ∈ namesOf B
  few : B.length ≤ 20
def MenuV (C : Addr) (H : Hp) (x : V) (m : Menu) : Prop := ∃ a, x = .ref a ∧ MenuAt C H a m
theorem MenuV.mono {Fr : Addr → Prop} {C : Addr} {H H' : Hp} {x : V} {m : Menu} (hF : Fr C) (e : Fz Fr H H') (h : MenuV C H x m) : MenuV C H' x m := let ⟨a, p, q⟩ := h; ⟨a, p, q.mono hF e⟩
theorem MenuV.same {C : Addr} {H H' : Hp} {x : V} {m : Menu} (e : Same H H') (h : MenuV C H x m) : MenuV C H' x m := h.mono (Fr := fun _ => True) trivial (Fz.of e)
def boardFs (B : List Menu) (mt nt lt : Addr) : List (Str × V) := [("menus", .ref mt), ("names", .ref nt), ("first", .str (firstOf B)), ("lines", .ref lt)]
structure BoardIs (CB CM : Addr) (H : Hp) (z : Addr) (B : List Menu) (dx mt nt lt : Addr) (xs : List V) (ys : List Str) : Prop where
  at_ : H z = some (.ins CB dx (boardFs B mt nt lt))
  menus : H mt = some (.tup xs)
  pmenus : Paired (MenuV CM H) xs B
  names : H nt = some (.tup ((namesOf B).map V.str))
  lines : H lt = some (.tup (ys.map V.str))
  goals : IsGoals B ys
def BoardAt (CB CM : Addr) (H : Hp) (z : Addr) (B : List Menu) : Prop := ∃ dx mt nt lt xs ys, BoardIs CB CM H z B dx mt nt lt xs ys
theorem BoardIs.mono {Fr : Addr → Prop} {CB CM : Addr} {H H' : Hp} {z dx mt nt lt : Addr} {B : List Menu} {xs : List V} {ys : List Str} (h1 : Fr CB) (h2 : Fr CM) (e : Fz Fr H H') (h : BoardIs CB CM H z B dx mt nt lt xs ys) : BoardIs CB CM H' z B dx mt nt lt xs ys :=
  ⟨e _ _ h.at_ h1, e _ _ h.menus trivial, paired_imp h.pmenus fun _ _ q => q.mono h2 e, e _ _ h.names trivial, e _ _ h.lines trivial, h.goals⟩
theorem BoardAt.mono {Fr : Addr → Prop} {CB CM : Addr} {H H' : Hp} {z : Addr} {B : List Menu} (h1 : Fr CB) (h2 : Fr CM) (e : Fz Fr H H') (h : BoardAt CB CM H z B) : BoardAt CB CM H' z B := let ⟨a, b, c, d, x, y, q⟩ := h; ⟨a, b, c, d, x, y, q.mono h1 h2 e⟩
theorem BoardAt.same {CB CM : Addr} {H H' : Hp} {z : Addr} {B : List Menu} (e : Same H H') (h : BoardAt CB CM H z B) : BoardAt CB CM H' z B := h.mono (Fr := fun _ => True) trivial trivial (Fz.of e)
theorem goals_len {m : Menu} (h : m.Ok) : (m.acts.flatMap Act.goal).length ≤ 21 := by
  have z : ∀ l : List Act, (l.flatMap Act.goal).length ≤ l.length := fun l => by
    induction l with
    | nil => simp
    | cons a l ih =>
      rw [List.flatMap_cons, List.length_append, List.length_cons]
      have : a.goal.length ≤ 1 := by cases a <;> simp [Act.goal]
      omega
  have al : m.acts.length ≤ 21 := by unfold Menu.acts; have := h.rows.2.2; simp; omega
  exact Nat.le_trans (z _) al
/-- a value of a class of the text, as isinstance asks it -/
structure IsiC (K : PySem.W.Frag) (C : Addr) : Prop where
  ty : ∀ (H : Hp) (a dx : Addr) (fs : List (Str × V)), H a = some (.ins C dx fs) → TyX K H (.ref a) (.ref C)
theorem kit_self {K : PySem.W.Frag} {C : Addr} : PySem.W.kitOne K (.ref C) (.ref C) = some true := if_pos (by simp)
theorem take_flat {α β : Type} {f : α → List β} {l : List α} {i : Nat} {a : α} (h : l[i]? = some a) : (l.take (i + 1)).flatMap f = (l.take i).flatMap f ++ f a := by
  rw [List.take_add_one, h, List.flatMap_append]
  simp
theorem flat_take_len {α β : Type} {f : α → List β} (b : Nat) : ∀ {l : List α} (i : Nat), (∀ a ∈ l, (f a).length ≤ b) → ((l.take i).flatMap f).length ≤ b * l.length
  | [], i, _ => by simp
  | a :: l, 0, _ => by simp
  | a :: l, i + 1, h => by
    rw [List.take_succ_cons, List.flatMap_cons, List.length_append, List.length_cons, Nat.mul_add]
    have h1 := h a List.mem_cons_self
    have h2 := flat_take_len b (l := l) (f := f) i fun x hx => h x (List.mem_cons_of_mem _ hx)
    omega
end MH
namespace MH
open PySem PySem.Spec PyProof.Rows L2
theorem MenuAt.but {z C dx CM a : Addr} {H H' : Hp} {m : Menu} (e : But z H H') (hz : H z = some (.ins C dx [])) (h : MenuAt CM H a m) : MenuAt CM H' a m := by
  obtain ⟨dx2, rt, dt, la, xs, ds, i⟩ := h
  have f : Fz (fun _ => False) H H' := e.fz hz fun q => q
  refine ⟨dx2, rt, dt, la, xs, ds, e _ _ (fun q => ?_) i.at_, f _ _ i.rows trivial, paired_imp i.prows fun _ _ q => q.mono f, f _ _ i.deeds trivial, paired_imp i.pdeeds fun _ _ q => q.mono f, i.last.mono f⟩
  have h1 := i.at_
  rw [q, hz] at h1
  cases h1
theorem MenuV.but {z C dx CM : Addr} {H H' : Hp} {x : V} {m : Menu} (e : But z H H') (hz : H z = some (.ins C dx [])) (h : MenuV CM H x m) : MenuV CM H' x m := let ⟨a, p, q⟩ := h; ⟨a, p, q.but e hz⟩
theorem Act.goal_line {a : Act} : (a.head = "line" ∧ ∃ x, a = .line x) ∨ (a.head ≠ "line" ∧ a.goal = []) := by
  cases a with
  | line x => exact .inl ⟨rfl, x, rfl⟩
  | out => exact .inr ⟨show ("out" : Str) ≠ "line" by decide +kernel, rfl⟩
  | again => exact .inr ⟨show ("again" : Str) ≠ "line" by decide +kernel, rfl⟩
  | main => exact .inr ⟨show ("main" : Str) ≠ "line" by decide +kernel, rfl⟩
  | back => exact .inr ⟨show ("back" : Str) ≠ "line" by decide +kernel, rfl⟩
  | go n => exact .inr ⟨show ("go" : Str) ≠ "line" by decide +kernel, rfl⟩
  | call n t => exact .inr ⟨show ("call" : Str) ≠ "line" by decide +kernel, rfl⟩
end MH
set_option Elab.async false
set_option linter.all false
set_option maxRecDepth 100000
set_option maxHeartbeats 4000000
namespace MH
open PySem PySem.Spec PyProof.Rows L2
section
variable {P : Program} {w : World} {K : PySem.W.Frag} {mg : Str → Option Value} {base : Heap}
/-! ### Board.__init__, of menus -/
def sp_board_init (K : PySem.W.Frag) (CB CM : Addr) : Sp := fun vs H Q _ => ∃ (z dx l : Addr) (xs : List V) (B : List Menu), vs = [.ref z, .ref l] ∧ H z = some (.ins CB dx []) ∧ SqL K H l xs ∧ Paired (MenuV CM H) xs B ∧ BoardOk B ∧
  ∀ H', But z H H' → BoardAt CB CM H' z B → Q .non H'
theorem sc_board_init : FnScope ["self", "menus", "names", "menu", "name", "deed"] ["self", "menus"] (defScope s_Board_init) := ⟨rfl, rfl, rfl, by decide +kernel, rfl, by decide +kernel, by decide +kernel⟩
theorem ok_board_init {CB CM f : Addr} {fd : FuncData} (M : Mk K CB f) (hmC : mg "Board" = some (.ref CB)) (hmM : mg "Menu" = some (.ref CM)) (I : IsiC K CM) (O : ObjC K CB ["menus", "names", "first", "lines"]) (OM : ObjC K CM ["name", "rows", "tail", "tries", "clears", "deeds", "last"])
    (F : FunD K "__init__" "Board.__init__" (defArgs s_Board_init) (defBody s_Board_init) (defScope s_Board_init) [] [] f fd) (T : Blt mg)
    (D1 : CalX P w K mg base CX0 2 "is_sequence" (sp_is_sequence K)) (D2 : CalX P w K mg base CX0 2 "are_unlike" (sp_are_unlike K)) (D3 : CalX P w K mg base CX0 3 "named_in" (sp_named_in CM)) (D4 : CalX P w K mg base CX0 2 "deeds_of" (sp_deeds_of CM)) :
    MakX P w K mg base CX0 5 "Board" CB (sp_board_init K CB CM) := by
  have B : Binds K fd ["self", "menus"] [] := F.bindsN fun _ _ _ _ _ _ us hl => match us, hl with | [_, _], _ => rfl
  refine ⟨f, fd, _, M, F.ok sc_board_init (fun vs H Q E h => ?_) (fun cdv A outer s H vs Q E hr h => ?_), hmC, B⟩
  · obtain ⟨z, dx, r, xs, m, rfl, _⟩ := h
    rfl
  · obtain ⟨z, dx, l, xs, B, rfl, hz, hs, hp, ok, k⟩ := h
    have nd := sc_board_init.nd
    refine ⟨_, pss_cons (ps_if (PW.pt (pw_or (pt_not (pt_val (pe_cal (j := 4) D1 hr (by decide) pass0 (pa_cons (pv 1) pa_nil)))) (pw_or (pt_cmpR op_eq (pe_callB call_len_seq (by rfl) T.len boot_len (pa_cons (pv 1) pa_nil)) pe_int (nomark _))
        (pw_or1 (pt_not (pt_val (pe_callB (cr_all rfl) (by rfl) T.all (by decide +kernel) (pa_cons (pe_lc (te := tCB (rIsi K) (tCons (tVar 3) (tCons (tC (.ref CM)) tNil))) (own := [("menu", 3)]) (g := gName 3) rfl nd (pi_list (pv 1))
            (blkOk_by (own := [("menu", 3)]) (N := ["self", "menus", "names", "menu", "name", "deed"]) (sc := defScope s_Board_init) (by decide +kernel)) (fun _ _ _ _ _ => pg_name (i := 3) nd rfl (Or.inl rfl)) (fun _ _ _ _ _ => pts_nil)
            (fun _ _ _ _ _ => pe_callB call_isi (by rfl) T.isinstance boot_isinstance (pa_cons (pv 3) (pa_cons (pe_glob (v := .ref CM) rfl hmM rfl) pa_nil)))) pa_nil)))))))) (pss_one ps_never) pss_nil)
      (pss_cons (ps_set (i := 2) nd rfl (Or.inr rfl) (pe_lc (te := tFld K (tVar 3) "name") (own := [("menu", 3)]) (g := gName 3) rfl nd (pi_list (pv 1))
            (blkOk_by (own := [("menu", 3)]) (N := ["self", "menus", "names", "menu", "name", "deed"]) (sc := defScope s_Board_init) (by decide +kernel)) (fun _ _ _ _ _ => pg_name (i := 3) nd rfl (Or.inl rfl)) (fun _ _ _ _ _ => pts_nil)
            (fun _ _ _ _ _ => pe_fld (pv 3) (by rfl))))
      (pss_cons (ps_if (pt_not (pt_val (pe_cal (j := 4) D2 hr (by decide) pass0 (pa_cons (pv 2) pa_nil)))) (pss_one ps_never) pss_nil)
      (pss_cons (ps_if (pt_not (pt_val (pe_callB (cr_all rfl) (by rfl) T.all (by decide +kernel) (pa_cons (pe_lc2 (te := tOp (rIn K false) (tVar 4) (tVar 2)) (wi1 := iList K (tCall (sp_named_in CM) [] E0 (tCons (tVar 3) tNil))) (own := [("menu", 3), ("name", 4)]) (vs1 := [4]) (g := gName 3) (g1 := gName 4) rfl nd (pi_list (pv 1))
            (blkOk_by (own := [("menu", 3), ("name", 4)]) (N := ["self", "menus", "names", "menu", "name", "deed"]) (sc := defScope s_Board_init) (by decide +kernel)) (by decide)
            (fun _ _ _ _ _ => pg_name (i := 3) nd rfl (Or.inl rfl)) (fun _ _ _ _ _ => pts_nil) (fun _ _ _ _ _ => pi_list (pe_cal (j := 4) D3 (hr.mono (by decide)) (by decide) pass0 (pa_cons (pv 3) pa_nil)))
            (fun _ _ _ _ _ => pg_name (i := 4) nd rfl (Or.inl rfl)) (fun _ _ _ _ _ => pts_nil) (fun _ _ _ _ _ => pe_cmpR op_in_seq (pv 4) (pv 2) (by rfl))) pa_nil)))) (pss_one ps_never) pss_nil)
      (pss_cons (ps_fld (pv 0) (pe_callTy call_tuple_of (by rfl) T.tuple boot_tuple (pa_cons (pv 1) pa_nil)) (by rfl))
      (pss_cons (ps_fld (pv 0) (pe_callTy call_tuple_of (by rfl) T.tuple boot_tuple (pa_cons (pv 2) pa_nil)) (by rfl))
      (pss_cons (ps_fld (pv 0) (pe_ix ix_list (pv 2) pe_int (fun _ _ => rfl)) (by rfl))
      (pss_one (ps_fld (pv 0) (pe_callTy call_tuple_of (by rfl) T.tuple boot_tuple (pa_cons (pe_callB (cr_sortedSet hr.units rfl) (by rfl) T.sorted (by decide +kernel) (pa_cons
          (pe_sc2 (te := tOp (rIxT K) (tVar 5) (tC (.int 1))) (tt1 := tTest (tOp rEq (tOp (rIxT K) (tVar 5) (tC (.int 0))) (tC (.str "line")))) (wi1 := iList K (tCall (sp_deeds_of CM) [] E0 (tCons (tVar 3) tNil))) (own := [("menu", 3), ("deed", 5)]) (vs1 := [5]) (g := gName 3) (g1 := gName 5) rfl nd (pi_list (pv 1))
            (blkOk_by (own := [("menu", 3), ("deed", 5)]) (N := ["self", "menus", "names", "menu", "name", "deed"]) (sc := defScope s_Board_init) (by decide +kernel)) (by decide)
            (fun _ _ _ _ _ => pg_name (i := 3) nd rfl (Or.inl rfl)) (fun _ _ _ _ _ => pts_nil) (fun _ _ _ _ _ => pi_list (pe_cal (j := 4) D4 (hr.mono (by decide)) (by decide) pass0 (pa_cons (pv 3) pa_nil)))
            (fun _ _ _ _ _ => pg_name (i := 5) nd rfl (Or.inl rfl)) (fun _ _ _ _ _ => pts_one (pt_cmpR op_eq (pe_ix ix_tup (pv 5) pe_int (fun _ _ => rfl)) pe_str (nomark _))) (fun _ _ _ _ _ => pe_ix ix_tup (pv 5) pe_int (fun _ _ => rfl))) pa_nil)) pa_nil)) (by rfl))))))))), ?_⟩
    have xl := Paired.length hp
    have few := ok.few
    have ne0 : xs.length ≠ 0 := fun q => ok.ne (List.length_eq_zero_iff.mp (by omega))
    refine ⟨_, rfl, _, _, true, rfl, fun H' sm => tyx_list (same_l sm hs), kit_seq_list K, fun H1 s1 => ⟨_, rfl, iteF ?_⟩⟩
    refine ⟨_, rfl, l, _, rfl, .inl (same_l s1 hs), rfl, _, rfl, ite_no (fun q => ne0 (by have := V.int.inj q; omega)) ?_⟩
    -- all([isinstance(menu, Menu) for menu in menus])
    refine ⟨_, rfl, l, rfl, ⟨_, same_l s1 hs⟩, fun L hL => ?_⟩
    refine lc_pure (Fr := fun _ => False) (walk_list (K := K) (xs := xs)) hL (by omega) (fun i o _ => o = (xs.map fun _ => V.bl true)[i]?) (fun _ _ _ _ _ z => z)
      (fun H3 s3 => same_l (s1.trans s3) hs) (fun i x H3 H4 k1 k0 hi s3 y q1 q0 => ?_) (fun H2 os s2 hl2 hr2 hD2 => ?_)
    · obtain ⟨rfl, hx⟩ := y
      obtain ⟨m, hm1, a, rfl, ha⟩ := paired_getL hp hx
      obtain ⟨_, _, _, _, _, _, hI⟩ := ha.same (s1.trans s3)
      refine ⟨rfl, _, rfl, _, _, _, _, true, rfl, .own CM, I.ty _ _ _ _ hI.at_, kit_self, q1 _ _ (Same.refl _) ?_⟩
      rw [List.getElem?_map, hx]
      rfl
    · have e3 : H2 L = some (.lst ((xs.map fun _ => true).map V.bl)) := by
        rw [hD2, os_vals (vs := xs.map fun _ => V.bl true) (by rw [hl2]; simp) hr2, List.map_map]
        rfl
      refine ⟨L, _, rfl, sqL e3, _, rfl, ?_⟩
      have ea : (xs.map fun _ => true).all id = true := by simp
      rw [ea]
      have t2 : Same H H2 := s1.trans s2
      clear hL hl2 hr2 hD2 e3 ea s2 s1
      -- names = [menu.name for menu in menus]
      refine iteF ⟨_, rfl, l, rfl, ⟨_, same_l t2 hs⟩, fun N hN => ?_⟩
      refine lc_pure (Fr := fun _ => False) (walk_list (K := K) (xs := xs)) hN (by omega) (fun i o _ => o = (B.map fun m => V.str m.name)[i]?) (fun _ _ _ _ _ z => z)
        (fun H3 s3 => same_l (t2.trans s3) hs) (fun i x H3 H4 k1 k0 hi s3 y q1 q0 => ?_) (fun H3 os s3 hl3 hr3 hD3 => ?_)
      · obtain ⟨rfl, hx⟩ := y
        obtain ⟨m, hm1, a, rfl, ha⟩ := paired_getL hp hx
        obtain ⟨_, _, _, _, _, _, hI⟩ := ha.same (t2.trans s3)
        refine ⟨rfl, _, rfl, a, CM, _, _, _, rfl, hI.at_, OM.cls, OM.no _ (by simp), rfl, q1 _ _ (Same.refl _) ?_⟩
        rw [List.getElem?_map, hm1]
        rfl
      · have eN : H3 N = some (.lst ((namesOf B).map V.str)) := by
          rw [hD3, os_vals (vs := B.map fun m => V.str m.name) (by rw [hl3, List.length_map, xl]) hr3]
          unfold namesOf
          rw [List.map_map]
          rfl
        have t3 : Same H H3 := t2.trans s3
        clear hN hl3 hr3 hD3 s3
        refine ⟨_, rfl, N, namesOf B, rfl, sqL eN, ok.nd, by unfold namesOf; rw [List.length_map]; omega, _, rfl, iteF ?_⟩
        -- all([name in names ..])
        refine ⟨_, rfl, l, rfl, ⟨_, same_l t3 hs⟩, fun L2 hL2 => ?_⟩
        refine loop_it (walk_list (K := K) (xs := xs)) (fun i Hq => Same H3 Hq ∧ ∃ n, n ≤ 42 * i ∧ Hq L2 = some (.lst ((List.replicate n true).map V.bl))) ⟨Same.upd hL2, 0, Nat.zero_le _, upd_same⟩ (fun i Hq _ p => same_l (t3.trans p.1) hs) (fun i x Hq0 Hq hi ⟨sq, n, hn, eL⟩ y => ?_) (fun Hq ⟨sq, n, hn, eL⟩ => ?_)
        · obtain ⟨rfl, hx⟩ := y
          obtain ⟨m, hm1, a, rfl, ha⟩ := paired_getL hp hx
          have hmB := List.mem_of_getElem? hm1
          have okm := ok.ok m hmB
          have nl := Menu.names_len okm
          refine ⟨rfl, _, rfl, a, m, rfl, ha.same (t3.trans sq), okm, fun ln Hs ss hln eln => ?_⟩
          refine ⟨ln, rfl, ⟨_, sqL eln⟩, ?_⟩
          refine loop_it (walk_list (K := K) (xs := m.names.map V.str)) (fun j Hz => Same H3 Hz ∧ Hz ln = some (.lst (m.names.map V.str)) ∧ Hz L2 = some (.lst ((List.replicate (n + j) true).map V.bl))) ⟨sq.trans ss, eln, ss _ _ eL⟩ (fun j Hz _ p => sqL p.2.1) (fun j x Hz0 Hz hj ⟨sz, ez, lz⟩ y => ?_) (fun Hz ⟨sz, ez, lz⟩ => ?_)
          · obtain ⟨rfl, hx2⟩ := y
            rw [List.getElem?_map] at hx2
            obtain ⟨nm, hnm, rfl⟩ := Option.map_eq_some_iff.mp hx2
            have inN : nm ∈ namesOf B := ok.closed m hmB nm (List.mem_of_getElem? hnm)
            have ine : inV (.str nm) ((namesOf B).map V.str) = true := by
              rw [inV_strs]
              exact List.contains_iff_mem.mpr inN
            have nL : ln ≠ L2 := fun q => by rw [← q, hln] at eL; cases eL
            refine ⟨rfl, _, rfl, _, rfl, N, _, rfl, .inl (sqL (sz _ _ eN)), rfl, by rw [List.all_map]; exact List.all_eq_true.mpr fun _ _ => rfl, _, lz, ?_, ?_⟩
            · rw [List.length_map, List.length_replicate]
              exact line_lt (by rw [List.length_map] at hj; omega)
            · refine ⟨same_put sz hL2, by rw [upd_ne nL]; exact ez, ?_⟩
              rw [upd_same, ← Nat.add_assoc, List.replicate_succ', List.map_append]
              show some (HO.lst (_ ++ [V.bl (inV (.str nm) ((namesOf B).map V.str))])) = _
              rw [ine]
              rfl
          · refine ⟨sz, n + (m.names.map V.str).length, by rw [List.length_map]; omega, lz⟩
        · refine ⟨L2, _, rfl, sqL eL, _, rfl, ?_⟩
          have ea : (List.replicate n true).all id = true := by simp
          rw [ea]
          have t4 : Same H Hq := t3.trans sq
          have eN4 := sq _ _ eN
          clear hL2 ea eL sq eN t3
          refine iteF ?_
          have b4 : But z H Hq := But.of t4
          have z4 := t4 _ _ hz
          -- self.menus
          refine ⟨_, rfl, l, xs, rfl, .inl ⟨same_l t4 hs, fun mt hmt => ?_⟩⟩
          have s5 : Same Hq (upd Hq mt (.tup xs)) := Same.upd hmt
          have em : (upd Hq mt (.tup xs)) mt = some (.tup xs) := upd_same
          generalize upd Hq mt (.tup xs) = H5 at s5 em ⊢
          have z5 := s5 _ _ z4
          refine ⟨_, rfl, z, CB, dx, _, rfl, z5, O.cls, O.no _ (by simp), by simp, ?_⟩
          have b6 := (b4.trans (But.of s5)).upd (o := .ins CB dx (putF "menus" (.ref mt) []))
          have z6 : (upd H5 z (.ins CB dx (putF "menus" (.ref mt) []))) z = some (.ins CB dx [("menus", .ref mt)]) := upd_same
          have f6 : Fz (fun C => C ≠ CB) H5 (upd H5 z (.ins CB dx (putF "menus" (.ref mt) []))) := Fz.set z5 fun q => q rfl
          have n6 : (upd H5 z (.ins CB dx (putF "menus" (.ref mt) []))) N = some (.lst ((namesOf B).map V.str)) := by
            rw [upd_ne fun q => by rw [← q, s5 _ _ eN4] at z5; cases z5]
            exact s5 _ _ eN4
          generalize upd H5 z (.ins CB dx (putF "menus" (.ref mt) [])) = H6 at b6 z6 f6 n6 ⊢
          -- self.names
          refine ⟨_, rfl, N, _, rfl, .inl ⟨sqL n6, fun nt hnt => ?_⟩⟩
          have s7 : Same H6 (upd H6 nt (.tup ((namesOf B).map V.str))) := Same.upd hnt
          have en : (upd H6 nt (.tup ((namesOf B).map V.str))) nt = some (.tup ((namesOf B).map V.str)) := upd_same
          generalize upd H6 nt (.tup ((namesOf B).map V.str)) = H7 at s7 en ⊢
          have z7 := s7 _ _ z6
          refine ⟨_, rfl, z, CB, dx, _, rfl, z7, O.cls, O.no _ (by simp), by simp, ?_⟩
          have b8 := (b6.trans (But.of s7)).upd (o := .ins CB dx (putF "names" (.ref nt) [("menus", .ref mt)]))
          have z8 : (upd H7 z (.ins CB dx (putF "names" (.ref nt) [("menus", .ref mt)]))) z = some (.ins CB dx [("menus", .ref mt), ("names", .ref nt)]) := upd_same
          have f8 : Fz (fun C => C ≠ CB) H7 (upd H7 z (.ins CB dx (putF "names" (.ref nt) [("menus", .ref mt)]))) := Fz.set z7 fun q => q rfl
          have n8 : (upd H7 z (.ins CB dx (putF "names" (.ref nt) [("menus", .ref mt)]))) N = some (.lst ((namesOf B).map V.str)) := by
            rw [upd_ne fun q => by rw [← q, s7 _ _ n6] at z7; cases z7]
            exact s7 _ _ n6
          generalize upd H7 z (.ins CB dx (putF "names" (.ref nt) [("menus", .ref mt)])) = H8 at b8 z8 f8 n8 ⊢
          -- self.first
          obtain ⟨m0, B0, rfl⟩ : ∃ m0 B0, B = m0 :: B0 := by
            cases B with
            | nil => exact absurd rfl ok.ne
            | cons a b => exact ⟨a, b, rfl⟩
          refine ⟨_, rfl, N, _, 0, .str m0.name, rfl, rfl, sqL n8, at0, ?_⟩
          refine ⟨_, rfl, z, CB, dx, _, rfl, z8, O.cls, O.no _ (by simp), by simp, ?_⟩
          have b9 := b8.upd (o := .ins CB dx (putF "first" (.str m0.name) [("menus", .ref mt), ("names", .ref nt)]))
          have z9 : (upd H8 z (.ins CB dx (putF "first" (.str m0.name) [("menus", .ref mt), ("names", .ref nt)]))) z = some (.ins CB dx [("menus", .ref mt), ("names", .ref nt), ("first", .str m0.name)]) := upd_same
          have f9 : Fz (fun C => C ≠ CB) H8 (upd H8 z (.ins CB dx (putF "first" (.str m0.name) [("menus", .ref mt), ("names", .ref nt)]))) := Fz.set z8 fun q => q rfl
          generalize upd H8 z (.ins CB dx (putF "first" (.str m0.name) [("menus", .ref mt), ("names", .ref nt)])) = H9 at b9 z9 f9 ⊢
          -- self.lines
          have l9 : SqL K H9 l xs := but_l b9 hz hs
          have p9 : Paired (MenuV CM H9) xs (m0 :: B0) := paired_imp hp fun _ _ q => q.but b9 hz
          refine ⟨_, rfl, l, rfl, ⟨_, l9⟩, fun D hD => ?_⟩
          refine loop_it (walk_list (K := K) (xs := xs)) (fun i Hq => Same H9 Hq ∧ ∃ L, Hq D = some (SetSO w D L) ∧ L.Nodup ∧ (∀ x, x ∈ L ↔ x ∈ goalsOf ((m0 :: B0).take i)) ∧ L.length ≤ 21 * i)
            ⟨Same.upd hD, [], upd_same, List.nodup_nil, fun x => by simp [goalsOf], Nat.zero_le _⟩ (fun i Hq _ p => same_l p.1 l9) (fun i x Hq0 Hq hi ⟨sq, L, eL, ndL, mL, lenL⟩ y => ?_) (fun Hq ⟨sq, L, eL, ndL, mL, lenL⟩ => ?_)
          · obtain ⟨rfl, hx⟩ := y
            obtain ⟨m, hm1, a, rfl, ha⟩ := paired_getL p9 hx
            have hmB := List.mem_of_getElem? hm1
            have okm := ok.ok m hmB
            have gl := goals_len okm
            have al : m.acts.length ≤ 21 := by unfold Menu.acts; have := okm.rows.2.2; simp; omega
            refine ⟨rfl, _, rfl, a, m, rfl, ha.same sq, okm, fun ln ds Hs ss hln eln pds => ?_⟩
            have dl := Paired.length pds
            refine ⟨ln, rfl, ⟨_, sqL eln⟩, ?_⟩
            refine loop_it (walk_list (K := K) (xs := ds)) (fun j Hz => Same H9 Hz ∧ Hz ln = some (.lst ds) ∧ Paired (ActV Hz) ds m.acts ∧ ∃ L2, Hz D = some (SetSO w D L2) ∧ L2.Nodup ∧ (∀ x, x ∈ L2 ↔ x ∈ goalsOf ((m0 :: B0).take i) ++ (m.acts.take j).flatMap Act.goal) ∧ L2.length ≤ 21 * i + j)
              ⟨sq.trans ss, eln, pds, L, ss _ _ eL, ndL, fun x => by simpa using mL x, lenL⟩ (fun j Hz _ p => sqL p.2.1) (fun j x Hz0 Hz hj ⟨sz, ez, pz, L2, lz, nd2, m2, len2⟩ y => ?_) (fun Hz ⟨sz, ez, pz, L2, lz, nd2, m2, len2⟩ => ?_)
            · obtain ⟨rfl, hx2⟩ := y
              obtain ⟨act, hact, av⟩ := paired_getL pz hx2
              obtain ⟨t, r, rfl, ht, ew⟩ := av.parts
              refine ⟨rfl, _, rfl, t, _, 0, _, rfl, rfl, sqT ht, at0, rfl, _, rfl, ?_⟩
              rcases act.goal_line with ⟨hh, g, rfl⟩ | ⟨hh, g0⟩
              · refine ite_yes (congrArg V.str hh) ?_
                have er : r = [.str g] := by
                  have q : (V.str "line" :: [V.str g]) = V.str "line" :: r := ew
                  exact (List.cons.inj q).2.symm
                subst er
                refine ⟨_, rfl, t, _, 1, .str g, rfl, rfl, sqT ht, at1, g, L2, rfl, lz, by show L2.length + 1 < 4096; omega, ?_⟩
                have nL : ln ≠ D := fun q => by rw [← q, hln] at eL; cases eL
                have f2 : Fz (fun _ => False) Hz (upd Hz D (putS w D L2 g)) := Fz.set lz fun q => q
                refine ⟨same_put sz hD, by rw [upd_ne nL]; exact ez, paired_imp pz fun _ _ q => q.mono f2, (if g ∈ L2 then L2 else g :: L2), upd_same, ?_, fun x => ?_, ?_⟩
                · split
                  · exact nd2
                  · exact List.nodup_cons.mpr ⟨by assumption, nd2⟩
                · rw [take_flat hact, ← List.append_assoc, List.mem_append (t := Act.goal (.line g)), ← m2]
                  show _ ↔ x ∈ L2 ∨ x ∈ [g]
                  split
                  · rw [List.mem_singleton]
                    exact ⟨.inl, fun q => q.elim id fun e => by rw [e]; assumption⟩
                  · rw [List.mem_cons, List.mem_singleton]
                    exact or_comm
                · split
                  · omega
                  · rw [List.length_cons]; omega
              · refine ite_no (fun q => hh (V.str.inj q)) ⟨sz, ez, pz, L2, lz, nd2, fun x => ?_, by omega⟩
                rw [take_flat hact, g0, List.append_nil]
                exact m2 x
            · refine ⟨sz, L2, lz, nd2, fun x => ?_, by omega⟩
              rw [m2 x, dl, List.take_length]
              unfold goalsOf
              rw [take_flat hm1]
          · have xl2 : xs.length = (m0 :: B0).length := xl
            rw [xl2, List.take_length] at mL
            refine ⟨D, L, rfl, eL, by omega, fun ys sl hperm hasc hsl => ?_⟩
            have sA := same_put (o := .lst (ys.map V.str)) sq (sq.free hsl)
            refine ⟨sl, _, rfl, .inl ⟨sqL upd_same, fun lt hlt => ?_⟩⟩
            have sB := same_put (o := .tup (ys.map V.str)) sA (sA.free hlt)
            have el : (upd (upd Hq sl (.lst (ys.map V.str))) lt (.tup (ys.map V.str))) lt = some (.tup (ys.map V.str)) := upd_same
            generalize upd (upd Hq sl (.lst (ys.map V.str))) lt (.tup (ys.map V.str)) = HB at sB el ⊢
            have zB := sB _ _ z9
            refine ⟨_, rfl, z, CB, dx, _, rfl, zB, O.cls, O.no _ (by simp), by simp, ?_⟩
            have fB : Fz (fun _ => False) HB (upd HB z (.ins CB dx (putF "lines" (.ref lt) [("menus", .ref mt), ("names", .ref nt), ("first", .str m0.name)]))) := Fz.set zB fun q => q
            have bB := (b9.trans (But.of sB)).upd (o := .ins CB dx (putF "lines" (.ref lt) [("menus", .ref mt), ("names", .ref nt), ("first", .str m0.name)]))
            have f9B := (Fz.of (Fr := fun _ => False) sB).trans fB
            have w8 : Fz (fun _ => False) H7 H8 := fun b o e q => f8 b o e (by cases o <;> first | exact q | exact q.elim)
            have w9 : Fz (fun _ => False) H8 H9 := fun b o e q => f9 b o e (by cases o <;> first | exact q | exact q.elim)
            have w6 : Fz (fun _ => False) H5 H6 := fun b o e q => f6 b o e (by cases o <;> first | exact q | exact q.elim)
            have g7 := (w8.trans w9).trans f9B
            have g5 := (w6.trans (Fz.of s7)).trans g7
            exact k _ bB ⟨dx, mt, nt, lt, xs, ys, upd_same, g5 _ _ em trivial, paired_imp hp fun _ _ q => q.but bB hz, g7 _ _ en trivial, fB _ _ el trivial, fun x => by rw [hperm.mem_iff]; exact mL x, hperm.nodup_iff.mpr ndL, hasc⟩
end
end MH
set_option Elab.async false
set_option linter.all false
set_option maxRecDepth 100000
set_option maxHeartbeats 4000000
namespace MH
open PySem PySem.Spec PyProof.Rows L2
/-! ### the text of a board -/
theorem in_joinL {c d : Nat} : ∀ {ws : List (List Nat)}, c ∈ TL.joinL [d] ws → c = d ∨ ∃ w ∈ ws, c ∈ w
  | [], h => by cases h
  | [w], h => .inr ⟨w, List.mem_singleton.mpr rfl, h⟩
  | w :: v :: r, h => by
    rcases List.mem_append.mp (show c ∈ w ++ ([d] ++ TL.joinL [d] (v :: r)) from h) with h | h
    · exact .inr ⟨w, List.mem_cons_self, h⟩
    · rcases List.mem_append.mp h with h | h
      · exact .inl (List.mem_singleton.mp h)
      · rcases in_joinL h with h | ⟨u, hu, h⟩
        · exact .inl h
        · exact .inr ⟨u, List.mem_cons_of_mem _ hu, h⟩
theorem no_join {c d : Nat} {ws : List Str} (h : ∀ w ∈ ws, c ∉ cs w) (hd : c ≠ d) : c ∉ cs (Txt.join (ch d) ws) := fun z => by
  rw [cs_join] at z
  rcases in_joinL z with z | ⟨w, hw, z⟩
  · exact hd z
  · obtain ⟨x, hx, rfl⟩ := List.mem_map.mp hw
    exact h x hx z
theorem act_no {a : Act} (h : a.ok = true) : 10 ∉ cs a.text := by
  unfold Act.text
  rw [blank]
  exact no_join (fun w hw => (words_no h w hw).1.2) (by decide)
theorem sp_no {x y : Str} (h1 : 10 ∉ cs x) (h2 : 10 ∉ cs y) : 10 ∉ cs (x ++ (ch 32 ++ y)) := fun z => by
  rw [cs_app, cs_app] at z
  rcases List.mem_append.mp z with z | z
  · exact h1 z
  · rcases List.mem_append.mp z with z | z
    · exact absurd (List.mem_singleton.mp z) (by decide)
    · exact h2 z
theorem digit_cs {x : Str} (h : okDigit x = true) : ∀ c ∈ cs x, 48 ≤ c := by
  have h1 := okDigit_len h
  unfold okDigit at h
  rw [Bool.and_eq_true] at h
  have h2 := of_decide_eq_true h.2
  intro c hc
  rw [len_cs] at h1
  obtain ⟨d, hd⟩ := List.length_eq_one_iff.mp h1
  rw [hd] at hc h2
  have e : c = d := List.mem_singleton.mp hc
  have z : (digits.all fun c => decide (48 ≤ c)) = true := by decide +kernel
  rw [e]
  exact of_decide_eq_true (List.all_eq_true.mp z _ h2)
theorem lines_no {m : Menu} (h : m.Ok) : ∀ x ∈ m.lines, 10 ∉ cs x ∧ x.length ≤ 30 := by
  intro x hx
  unfold Menu.lines at hx
  rcases List.mem_cons.mp hx with rfl | hx
  · refine ⟨?_, head_len h⟩
    unfold Menu.headText
    rw [blank]
    exact no_join (fun w hw => (head_no h w hw).1.2) (by decide)
  · have l1 : (ch 32).length = 1 := rfl
    rcases List.mem_append.mp hx with hx | hx
    · obtain ⟨r, hr, rfl⟩ := List.mem_map.mp hx
      obtain ⟨hd, ha⟩ := h.rows.1 r hr
      refine ⟨sp_no (fun z => ?_) (act_no ha), ?_⟩
      · have := digit_cs hd _ z; omega
      · have t1 := okDigit_len hd
        have t2 := text_len ha
        unfold rowText
        rw [len_cs, cs_app, cs_app, List.length_append, List.length_append, ← len_cs, ← len_cs, ← len_cs]
        omega
    · rw [List.mem_singleton.mp hx]
      refine ⟨sp_no (word_no (x := "else") (by simp)).1.2 (act_no h.tail), ?_⟩
      have t2 := text_len h.tail
      have t1 := (word_no (x := "else") (by simp)).2
      unfold tailText
      rw [len_cs, cs_app, cs_app, List.length_append, List.length_append, ← len_cs, ← len_cs, ← len_cs]
      omega
theorem lines_count (m : Menu) : m.lines.length = m.rows.length + 2 := by
  unfold Menu.lines
  simp
theorem boardLines_len {B : List Menu} (h : BoardOk B) : (boardLines B).length ≤ 440 := by
  have z := flat_take_len (f := Menu.lines) 22 (l := B) B.length fun m hm => by
    rw [lines_count]
    have := (h.ok m hm).rows.2.2
    omega
  rw [List.take_length] at z
  have := h.few
  unfold boardLines
  omega
theorem newline : ("\n" : Str) = ch 10 := by decide +kernel
theorem board_split {B : List Menu} (h : BoardOk B) : Txt.split (boardText B) "\n" = boardLines B := by
  unfold boardText
  rw [newline]
  refine split_join (by decide) ?_ fun x hx => ?_
  · have ne := h.ne
    match B, ne with
    | m :: r, _ =>
      unfold boardLines Menu.lines
      simp
  · obtain ⟨m, hm, hx⟩ := List.mem_flatMap.mp hx
    exact (lines_no (h.ok m hm) x hx).1
theorem board_len {B : List Menu} (h : BoardOk B) : (boardText B).length ≤ 20000 := by
  rw [len_cs]
  unfold boardText
  rw [cs_join, newline]
  have z := len_joinL (k := 440) (b := 30) (c := 10) (ws := (boardLines B).map cs) (fun w hw => by
    obtain ⟨x, hx, rfl⟩ := List.mem_map.mp hw
    obtain ⟨m, hm, hx⟩ := List.mem_flatMap.mp hx
    rw [← len_cs]
    exact (lines_no (h.ok m hm) x hx).2) (by rw [List.length_map]; exact boardLines_len h)
  show (TL.joinL [10] _).length ≤ _
  omega
theorem sorted_names {m : Menu} : ∀ n, n ∈ m.sorted.names ↔ n ∈ m.names := by
  intro n
  unfold Menu.names Menu.acts Menu.sorted
  have p := ((sortRows_perm m.rows).map (fun r : Str × Act => r.2)).append_right [m.tail]
  rw [List.mem_flatMap, List.mem_flatMap]
  exact ⟨fun ⟨a, h1, h2⟩ => ⟨a, p.mem_iff.mp h1, h2⟩, fun ⟨a, h1, h2⟩ => ⟨a, p.mem_iff.mpr h1, h2⟩⟩
theorem sorted_namesOf (B : List Menu) : namesOf (B.map Menu.sorted) = namesOf B := by
  unfold namesOf
  rw [List.map_map]
  rfl
theorem BoardOk.sorted {B : List Menu} (h : BoardOk B) : BoardOk (B.map Menu.sorted) where
  ne := fun z => h.ne (List.map_eq_nil_iff.mp z)
  ok := fun m hm => by
    obtain ⟨m', h1, rfl⟩ := List.mem_map.mp hm
    exact (h.ok m' h1).sorted
  nd := by rw [sorted_namesOf]; exact h.nd
  closed := fun m hm n hn => by
    obtain ⟨m', h1, rfl⟩ := List.mem_map.mp hm
    rw [sorted_namesOf]
    exact h.closed m' h1 n ((sorted_names n).mp hn)
  few := by rw [List.length_map]; exact h.few
end MH
namespace MH
open PySem PySem.Spec PyProof.Rows L2
theorem made_same {z dz C : Addr} {H : Hp} (h1 : H z = none) (h2 : H dz = none) : Same H (L2.upd (L2.upd H dz (.own z)) z (.ins C dz [])) := same_put (Same.upd h2) h1
theorem boardLines_at {B : List Menu} {i : Nat} {m : Menu} (h : B[i]? = some m) : boardLines B = boardLines (B.take i) ++ (m.lines ++ boardLines (B.drop (i + 1))) := by
  have e2 : B = B.take i ++ (m :: B.drop (i + 1)) := by
    obtain ⟨hi, rfl⟩ := List.getElem?_eq_some_iff.mp h
    rw [← List.drop_eq_getElem_cons hi, List.take_append_drop]
  unfold boardLines
  conv => lhs; rw [e2]
  rw [List.flatMap_append, List.flatMap_cons]
theorem boardLines_take {B : List Menu} {i : Nat} {m : Menu} (h : B[i]? = some m) : boardLines (B.take (i + 1)) = boardLines (B.take i) ++ m.lines := take_flat h
/-- what told_in told -/
def ToldV (td : Addr) (H : Hp) (x : V) (m : Menu) : Prop := ∃ q r ys, x = .ref q ∧ r ≠ td ∧ H q = some (.tup [.str m.name, .ref r, .str m.tail.text, .int m.tries, .bl m.clears]) ∧ H r = some (.lst ys) ∧ Paired (RowV H) ys m.rows
theorem ToldV.same {td : Addr} {H H' : Hp} {x : V} {m : Menu} (e : Same H H') (h : ToldV td H x m) : ToldV td H' x m := let ⟨q, r, ys, a, b, c, d, f⟩ := h; ⟨q, r, ys, a, b, e _ _ c, e _ _ d, paired_imp f fun _ _ z => z.same e⟩
theorem ToldV.put {td : Addr} {H : Hp} {x : V} {m : Menu} {xs ys : List V} (hd : H td = some (.lst xs)) (h : ToldV td H x m) : ToldV td (L2.upd H td (.lst ys)) x m := by
  obtain ⟨q, r, zs, a, b, c, d, f⟩ := h
  have fz : Fz (fun _ => False) H (L2.upd H td (.lst ys)) := Fz.set hd fun z => z
  exact ⟨q, r, zs, a, b, fz _ _ c trivial, by rw [upd_ne b]; exact d, paired_imp f fun _ _ z => z.mono fz⟩
end MH
set_option Elab.async false
set_option linter.all false
set_option maxRecDepth 100000
set_option maxHeartbeats 4000000
namespace MH
open PySem PySem.Spec PyProof.Rows L2
section
variable {P : Program} {w : World} {K : PySem.W.Frag} {mg : Str → Option Value} {base : Heap}
/-! ### Board.read, of a board's text -/
def sp_board_read (CB CM : Addr) : Sp := fun vs H Q _ => ∃ B : List Menu, vs = [.ref CB, .str (boardText B)] ∧ BoardOk B ∧ ∀ z H', Same H H' → H z = none → BoardAt CB CM H' z (B.map Menu.sorted) → Q (.ref z) H'
theorem sc_board_read : FnScope ["cls", "text", "lines", "told", "at", "more"] ["cls", "text"] (defScope s_Board_read) := ⟨rfl, rfl, rfl, by decide +kernel, rfl, by decide +kernel, by decide +kernel⟩
theorem ok_board_read {CB CM f : Addr} {fd : FuncData} (F : FunD K "read" "Board.read" (defArgs s_Board_read) (defBody s_Board_read) (defScope s_Board_read) [] [] f fd) (T : Blt mg)
    (D1 : CalX P w K mg base CX0 6 "told_in" (sp_told_in K)) (D2 : MakX P w K mg base CX0 7 "Menu" CM (sp_menu_init K CM)) (D3 : MakX P w K mg base CX0 5 "Board" CB (sp_board_init K CB CM)) :
    FnR P w K mg base CX0 9 f (sp_board_read CB CM) := by
  have B : Binds K fd ["cls", "text"] [] := F.bindsN fun _ _ _ _ _ _ us hl => match us, hl with | [_, _], _ => rfl
  obtain ⟨fM, fdM, psM, MM, FM, gM, bM⟩ := D2.ex
  obtain ⟨fB, fdB, psB, MB, FB, gB, bB⟩ := D3.ex
  refine ((F.ok (k := 8) (sp := sp_board_read CB CM) sc_board_read (fun vs H Q E h => ?_) (fun cdv A outer s H vs Q E hr h => ?_)).raw B .nil).imp fun vs H Q E h => by rw [List.append_nil]; exact h
  · obtain ⟨B, rfl, _⟩ := h
    rfl
  · obtain ⟨B, rfl, ok, k⟩ := h
    have nd := sc_board_read.nd
    refine ⟨_, pss_cons (ps_if (pt_not (pt_val (pe_callB call_isi (by rfl) T.isinstance boot_isinstance (pa_cons (pv 1) (pa_cons (pe_bltn (v := .ty "str") (by rfl) T.str boot_str rfl) pa_nil))))) (pss_one ps_never) pss_nil)
      (pss_cons (ps_par3 (i := 2) (j := 3) (l := 4) rfl nd rfl rfl rfl (by decide) (by decide) (by decide) rfl rfl rfl (pa_cons (pe_split (pv 1) pe_str) (pa_cons (pe_lst pa_nil) (pa_cons pe_int pa_nil))) (by rfl))
      (pss_cons (ps_while (passes_of rfl) (PW.pt (pw_or (pt_cmpR op_lt (pv 4) (pe_callB call_len_seq (by rfl) T.len boot_len (pa_cons (pv 2) pa_nil)) (nomark _)) (pw_or1 (pt_cmpR op_eq (pe_callB call_len_seq (by rfl) T.len boot_len (pa_cons (pv 3) pa_nil)) pe_int (nomark _)))))
        (pss_cons (ps_asg (pe_cal (j := 8) D1 hr (by decide) pass0 (pa_cons (pv 2) (pa_cons (pv 4) pa_nil))) (pg_tup rfl (pgs_cons (pg_name (i := 5) nd rfl (Or.inl rfl)) (pgs_cons (pg_name (i := 4) nd rfl (Or.inl rfl)) pgs_nil))))
        (pss_one (ps_expr (pe_bm PySem.F.plainAttrs_list PySem.F.slot_list_append PySem.F.type_list_append mt_append (pv 3) (pa_cons (pv 5) pa_nil))))))
      (pss_one (ps_ret (pe_mkSlot (i := 0) (E := E0) (k := 5) MB FB (hr.mono (by decide)) rfl (Or.inl rfl) bB pass0 (pa_cons
          (pe_lc (te := tMkStar K CM (sp_menu_init K CM) E0 (tVar 5)) (own := [("more", 5)]) (g := gName 5) rfl nd (pi_list (pv 3)) (blkOk_by (own := [("more", 5)]) (N := ["cls", "text", "lines", "told", "at", "more"]) (sc := defScope s_Board_read) (by decide +kernel))
            (fun _ _ _ _ _ => pg_name (i := 5) nd rfl (Or.inl rfl)) (fun _ _ _ _ _ => pts_nil) (fun _ _ _ _ _ => pe_mkStar (k := 7) MM FM (hr.mono (by decide)) (by rfl) gM bM pass0 (pv 5))) pa_nil)))))), ?_⟩
    have bl := boardLines_len ok
    have few := ok.few
    have nz : 0 < B.length := List.length_pos_iff.mpr ok.ne
    refine ⟨_, rfl, _, _, _, _, true, rfl, .ty "str", .base (.str _), kit_ty (by decide +kernel), true, rfl, iteF ?_⟩
    refine ⟨_, rfl, ⟨_, rfl⟩, _, _, rfl, rfl, by decide +kernel, line_of (by have := board_len ok; omega), fun l hl => ?_⟩
    rw [board_split ok]
    have s1 : Same H (upd H l (.lst ((boardLines B).map V.str))) := Same.upd hl
    refine ⟨by show 0 ≤ sizeLine; decide, fun td htd => ?_⟩
    have td0 : H td = none := s1.free htd
    have ltd : l ≠ td := fun q => by rw [← q, upd_same] at htd; cases htd
    refine ⟨_, _, _, rfl, ?_⟩
    refine ⟨fun n σ Hq => ∃ i, i ≤ B.length ∧ n = B.length - i ∧ (∃ e, σ = [some (.ref CB), some (.str (boardText B)), some (.ref l), some (.ref td), some (.int ((boardLines (B.take i)).length : Nat)), e]) ∧ Same H Hq ∧ Hq l = some (.lst ((boardLines B).map V.str)) ∧
      ∃ xs, Hq td = some (.lst xs) ∧ Paired (ToldV td Hq) xs (B.take i), ⟨_, 0, Nat.zero_le _, rfl, ⟨_, rfl⟩, same_put s1 td0, by rw [upd_ne ltd]; exact upd_same, [], upd_same, .nil⟩, ?_⟩
    rintro n σ Hq ⟨i, hi, rfl, ⟨e, rfl⟩, sq, el, xs, et, pt⟩
    have xlen := Paired.length pt
    refine ⟨_, rfl, _, rfl, l, _, rfl, .inl (sqL el), _, _, rfl, rfl, _, rfl, ?_⟩
    rw [List.length_map]
    rcases Nat.lt_or_ge i B.length with lt | ge
    · have hm := List.getElem?_eq_getElem lt
      generalize B[i] = m at hm
      have okm := ok.ok m (List.mem_of_getElem? hm)
      have eB := boardLines_at hm
      have lm := lines_count m
      have tl : (boardLines (B.take i)).length + m.lines.length ≤ (boardLines B).length := by rw [eB, List.length_append, List.length_append]; omega
      have hl2 : Hq l = some (.lst ((boardLines (B.take i) ++ (m.lines ++ boardLines (B.drop (i + 1)))).map V.str)) := by rw [el, eB]
      refine ite_yes (by omega) ⟨_, fun σ' H' h => h, ?_⟩
      refine ⟨_, rfl, _, rfl, l, boardLines (B.take i), boardLines (B.drop (i + 1)), m, rfl, hl2, okm, by rw [← eB]; omega, fun p q r ys Hr sr hp hr0 ep eq er pr => ?_⟩
      have er0 : r ≠ td := fun z => by rw [← z, hr0] at et; cases et
      refine ⟨p, _, rfl, sqT ep, rfl, _, _, rfl, _, _, rfl, rfl, ?_⟩
      have et2 := sr _ _ et
      have pt2 : Paired (ToldV td (upd Hr td (.lst (xs ++ [.ref q])))) xs (B.take i) := paired_imp pt fun _ _ z => (z.same sr).put et2
      refine ⟨_, rfl, .inl ⟨rfl, _, sqL et2⟩, _, rfl, td, xs, _, rfl, rfl, et2, ?_, ?_⟩
      · rw [xlen, List.length_take]
        exact line_lt (by omega)
      · have nq : (ToldV td (upd Hr td (.lst (xs ++ [.ref q])))) (.ref q) m := ToldV.put et2 ⟨q, r, ys, rfl, er0, eq, er, pr⟩
        refine ⟨B.length - (i + 1), by omega, i + 1, lt, rfl, ⟨some (.ref q), ?_⟩, same_put (sq.trans sr) td0, by rw [upd_ne ltd]; exact sr _ _ el, _, upd_same, ?_⟩
        · rw [boardLines_take hm, List.length_append]
          rfl
        · rw [List.take_add_one, hm]
          exact paired_app pt2 (.cons nq .nil)
    · obtain rfl : i = B.length := Nat.le_antisymm hi ge
      rw [List.take_length] at pt
      have xl2 : xs.length = B.length := Paired.length pt
      refine ite_no (by rw [List.take_length]; omega) ?_
      refine ⟨_, rfl, td, _, rfl, .inl (sqL et), rfl, _, rfl, ite_no (fun q => by have := V.int.inj q; omega) ?_⟩
      refine ⟨rfl, _, rfl, td, rfl, ⟨_, sqL et⟩, fun L hL => ?_⟩
      refine lc_pure (Fr := fun _ => True) (walk_list (K := K) (xs := xs)) hL (by omega) (fun i o Hq => ∃ m y, B[i]? = some m ∧ o = some y ∧ MenuV CM Hq y m.sorted) (fun _ _ _ _ e ⟨m, y, h1, h2, h3⟩ => ⟨m, y, h1, h2, h3.mono trivial e⟩)
        (fun H3 s3 => sqL (s3 _ _ et)) (fun i x H3 H4 k1 k0 hi s3 y q1 q0 => ?_) (fun H3 os s3 hl3 hr3 hD3 => ?_)
      · obtain ⟨rfl, hx⟩ := y
        obtain ⟨m, hm, tv⟩ := paired_getL pt hx
        obtain ⟨q, r, ys, rfl, _, eq, er, pr⟩ := tv.same s3
        have okm := ok.ok m (List.mem_of_getElem? hm)
        refine ⟨rfl, _, rfl, q, _, rfl, .inl (sqT eq), fun z dz hz hdz hne => ?_⟩
        have sz := made_same (C := CM) hz hdz
        exact ⟨z, dz, r, ys, m, rfl, upd_same, sqL (sz _ _ er), paired_imp pr fun _ _ h => h.same sz, okm, fun H' b hM => ⟨rfl, q1 _ _ (But.made hz hdz b) ⟨m, _, hm, rfl, z, rfl, hM⟩⟩⟩
      · have pd := os_paired (os := os) (l := B.map Menu.sorted) (R := fun m y => MenuV CM H3 y m) (by rw [List.length_map]; omega) fun i o m h1 h2 => by
          obtain ⟨m', y, h3, h4, h5⟩ := hr3 i o h1
          rw [List.getElem?_map, h3] at h2
          cases h2
          exact ⟨y, h4, h5⟩
        generalize os.filterMap id = ml at hD3 pd
        have s4 := sq.trans s3
        intro z dz hz hdz hne
        have sz := made_same (C := CB) hz hdz
        exact ⟨z, dz, L, ml, B.map Menu.sorted, rfl, upd_same, sqL (sz _ _ hD3), paired_imp pd fun _ _ h => h.same sz, ok.sorted, fun H' b hB => ⟨rfl, k z H' (s4.trans (But.made hz hdz b)) (s4.free hz) hB⟩⟩
end
end MH
set_option Elab.async false
set_option linter.all false
set_option maxRecDepth 100000
set_option maxHeartbeats 4000000
namespace MH
open PySem PySem.Spec PyProof.Rows L2
/-! ### list(text) -/
section
variable {X : Cx}
def rListTx : List V → Hp → VK → Prop := fun vs H Q => ∃ z : Str, vs = [.str z] ∧ z.length ≤ 100000 ∧ ∀ l, H l = none → Q (.ref l) (upd H l (.lst ((cs z).map fun c => V.str (ch c))))
theorem call_list_tx (hc : X.calm = true) : CallR X (.type "list") rListTx := by
  intro pins s σ H xs us Q I r h
  obtain ⟨z, rfl, hz, q⟩ := h
  obtain ⟨u, rfl, t, rfl⟩ := vals1 r
  have hz2 : z.cps.size ≤ sizeLine := line_of hz
  refine call_list_str (I.ok.hd hc) z t (fun h' tk acc' c' kp e hi => ?_) hz2
  have hv : Vals ((cs z).map fun c => V.str (ch c)) acc'.toList := by
    refine vals_of_idx _ _ (by simp; exact hi.1) fun j u hj => ?_
    obtain ⟨c, u2, h1, h2⟩ := hi.2 j u (by simpa using hj)
    exact ⟨.str (ch c), by simp [h1], u2, h2⟩
  exact ⟨.ref s.heap.objs.size, upd H s.heap.objs.size (.lst ((cs z).map fun c => V.str (ch c))), I.laid (t' := tk) kp (Nat.le_refl _) (show ObjOk X.prog X.w _ h' _ (.lst _) from ⟨by rw [List.length_map]; simpa using hz2, acc'.toList, c', hv, by simpa using e⟩), rfl, q _ (I.hok.fresh (Nat.le_refl _))⟩
end
end MH
set_option Elab.async false
set_option linter.all false
set_option maxRecDepth 100000
set_option maxHeartbeats 4000000
namespace MH
open PySem PySem.Spec PyProof.Rows L2
/-! ### a heap but two cells -/
def hide (p q : Addr) (H : Hp) : Hp := fun b => if b = p then none else if b = q then none else H b
section
variable {p q b : Addr} {H H' : Hp} {o : HO}
theorem hide_some (h : hide p q H b = some o) : H b = some o := by
  unfold hide at h
  split at h
  · cases h
  · split at h
    · cases h
    · exact h
theorem hide_ne (h : hide p q H b = some o) : b ≠ p ∧ b ≠ q := by
  unfold hide at h
  split at h
  · cases h
  · split at h
    · cases h
    · exact ⟨by assumption, by assumption⟩
theorem hide_of (h : H b = some o) (h1 : b ≠ p) (h2 : b ≠ q) : hide p q H b = some o := by
  unfold hide
  rw [if_neg h1, if_neg h2]
  exact h
theorem hide_none (h : H b = none) : hide p q H b = none := by
  unfold hide
  split
  · rfl
  · split
    · rfl
    · exact h
theorem hide_p : hide p q (upd H p o) = hide p q H := by
  funext b
  unfold hide
  split
  · rfl
  · split
    · rfl
    · rw [upd_ne (by assumption)]
theorem hide_q : hide p q (upd H q o) = hide p q H := by
  funext b
  unfold hide
  split
  · rfl
  · split
    · rfl
    · rw [upd_ne (by assumption)]
theorem hide_upd (h1 : b ≠ p) (h2 : b ≠ q) : hide p q (upd H b o) = upd (hide p q H) b o := by
  funext c
  by_cases e : c = b
  · subst e
    rw [upd_same]
    exact hide_of upd_same h1 h2
  · rw [upd_ne e]
    unfold hide
    split
    · rfl
    · split
      · rfl
      · rw [upd_ne e]
theorem hide_same (s : Same H H') : Same (hide p q H) (hide p q H') := fun b o e => by
  obtain ⟨h1, h2⟩ := hide_ne e
  exact hide_of (s b o (hide_some e)) h1 h2
theorem hide_fz {Fr : Addr → Prop} (hp : ∀ o, H p = some o → ¬ isFz Fr o) (hq : ∀ o, H q = some o → ¬ isFz Fr o) (s : Same (hide p q H) (hide p q H')) : Fz Fr H H' := fun b o e f => by
  refine hide_some (s b o (hide_of e (fun z => ?_) (fun z => ?_)))
  · rw [z] at e; exact hp _ e f
  · rw [z] at e; exact hq _ e f
end
/-! ### dealing -/
structure DealIs (H : Hp) (p q : Addr) (cs : List Int) (b : Int) : Prop where
  top : H p = some (.lst [.ref q, .int b])
  cells : H q = some (.lst (cs.map V.int))
  ne : p ≠ q
  nn : ∀ c ∈ cs, 0 ≤ c
  lo : 0 ≤ b
  hi : b < 2147483647
  few : cs.length ≤ 63
def DealAt (H : Hp) (p q : Addr) : Prop := ∃ cs b, DealIs H p q cs b
section
variable {p q a : Addr} {H H' : Hp} {o : HO} {cs : List Int} {b : Int}
theorem DealIs.same (s : Same H H') (d : DealIs H p q cs b) : DealIs H' p q cs b := ⟨s _ _ d.top, s _ _ d.cells, d.ne, d.nn, d.lo, d.hi, d.few⟩
theorem DealAt.same (s : Same H H') (d : DealAt H p q) : DealAt H' p q := let ⟨cs, b, h⟩ := d; ⟨cs, b, h.same s⟩
theorem DealAt.upd (d : DealAt H p q) (h1 : a ≠ p) (h2 : a ≠ q) : DealAt (upd H a o) p q := by
  obtain ⟨cs, b, h⟩ := d
  exact ⟨cs, b, by rw [upd_ne h1.symm]; exact h.top, by rw [upd_ne h2.symm]; exact h.cells, h.ne, h.nn, h.lo, h.hi, h.few⟩
theorem DealAt.new (d : DealAt H p q) (h : H a = none) : a ≠ p ∧ a ≠ q := by
  obtain ⟨cs, b, i⟩ := d
  exact ⟨fun z => (by rw [z, i.top] at h; cases h), fun z => (by rw [z, i.cells] at h; cases h)⟩
theorem DealAt.fz {Fr : Addr → Prop} (d : DealAt H p q) (s : Same (hide p q H) (hide p q H')) : Fz Fr H H' := by
  obtain ⟨cs, b, i⟩ := d
  refine hide_fz (fun o e => ?_) (fun o e => ?_) s
  · rw [i.top] at e; cases e; exact fun z => z
  · rw [i.cells] at e; cases e; exact fun z => z
/-- a new cell beside the deal -/
theorem DealAt.put (d : DealAt H p q) (h : H a = none) {G : Hp} (s : Same G (hide p q H)) : DealAt (L2.upd H a o) p q ∧ Same G (hide p q (L2.upd H a o)) := by
  obtain ⟨h1, h2⟩ := d.new h
  refine ⟨d.upd h1 h2, ?_⟩
  rw [hide_upd h1 h2]
  refine s.trans (Same.upd (hide_none h))
end
theorem ints_list {K : PySem.W.Frag} {H : Hp} {q : Addr} {cs : List Int} (h : SqL K H q (cs.map V.int)) : Dp K H (.ref q) (.list (cs.map PyData.int)) := by
  refine .lst h ?_
  clear h
  induction cs with
  | nil => exact .nil
  | cons c cs ih => exact .cons (.int c) ih
theorem eqv_nil (ds : List PyData) : PyData.eqv (.list ds) (.list []) = ds.isEmpty := by
  cases ds
  · simp [PyData.eqv, PyData.eqvAll]
  · simp [PyData.eqv, PyData.eqvAll]
theorem atI_last' {α : Type} {xs : List α} {v : α} (h : xs ≠ []) (e : xs[xs.length - 1]? = some v) : atI xs (-1) = some v := by
  have e2 : xs = xs.dropLast ++ [v] := by
    rw [← List.getLast?_eq_getElem?, List.getLast?_eq_some_getLast h] at e
    rw [← Option.some.inj e]
    exact (List.dropLast_concat_getLast h).symm
  rw [e2]
  exact atI_last _ _
end MH
namespace MH
open PySem PySem.Spec PyProof.Rows L2
theorem hide_l {K : PySem.W.Frag} {p q l : Addr} {H : Hp} {xs : List V} (h : SqL K (hide p q H) l xs) : SqL K H l xs := h.elim (fun h => .inl (h.elim (fun h => .inl (hide_some h)) fun ⟨o, h⟩ => .inr ⟨o, hide_some h⟩)) .inr
/-- texts of the usual signs -/
def okTx (x : Str) : Bool := (cs x).all fun c => decide (c < 1000)
theorem strOk_of {x : Str} (h : okTx x = true) : PyData.strOk x = true := by
  unfold PyData.strOk
  rw [← Array.all_toList]
  refine List.all_eq_true.mpr fun c hc => ?_
  have := of_decide_eq_true (List.all_eq_true.mp h c hc)
  exact decide_eq_true (by omega)
theorem lay_strs : ∀ {xs : List Str}, (∀ x ∈ xs, okTx x = true) → PyData.canLayAll0 (xs.map PyData.str) = true
  | [], _ => rfl
  | x :: r, h => by
    simp only [List.map_cons, PyData.canLayAll0, PyData.canLay0, Bool.and_eq_true]
    exact ⟨strOk_of (h x List.mem_cons_self), lay_strs fun y hy => h y (List.mem_cons_of_mem _ hy)⟩
theorem depth_strs : ∀ (xs : List Str), PyData.depthAll (xs.map PyData.str) = 0
  | [] => rfl
  | _ :: r => by simp [PyData.depthAll, PyData.depth, depth_strs r]
theorem shaped_strs {xs : List Str} (h : ∀ x ∈ xs, okTx x = true) : SeqAt.shaped (.list (xs.map PyData.str)) = true := by
  simp [SeqAt.shaped, PyData.canLay0, PyData.depth, lay_strs h, depth_strs]
theorem strs_list {K : PySem.W.Frag} {H : Hp} {q : Addr} {xs : List Str} (h : SqL K H q (xs.map V.str)) : Dp K H (.ref q) (.list (xs.map PyData.str)) := by
  refine .lst h ?_
  clear h
  induction xs with
  | nil => exact .nil
  | cons c cs ih => exact .cons (.str c) ih
theorem erase_perm {α : Type} : ∀ {xs : List α} {i : Nat} {x : α}, xs[i]? = some x → (x :: xs.eraseIdx i).Perm xs
  | [], _, _, h => by simp at h
  | a :: xs, 0, x, h => by simp at h; subst h; simp
  | a :: xs, i + 1, x, h => by
    rw [List.eraseIdx_cons_succ]
    exact (List.Perm.swap a x _).trans ((erase_perm (xs := xs) (i := i) (x := x) (by simpa using h)).cons a)
end MH
namespace MH
open PySem PySem.Spec PyProof.Rows L2
structure rListAny (K : PySem.W.Frag) (xs : List V) (H : Hp) (Q : VK) : Prop where
  or : (∃ p ys, xs = [V.ref p] ∧ (SqL K H p ys ∨ SqT K H p ys) ∧ ∀ l, H l = none → Q (.ref l) (upd H l (.lst ys))) ∨ rListTx xs H Q
theorem call_list_any {X : Cx} (hc : X.calm = true) : CallR X (.type "list") (rListAny X.K) := fun pins s σ H xs us Q I r h => (call_list_of.or (call_list_tx hc)) pins s σ H xs us Q I r h.or
theorem or_list {K : PySem.W.Frag} {p q : Addr} {H : Hp} {x : V} {xs : List Str} {Q : VK} (hx : (∃ l, x = .ref l ∧ SqL K (hide p q H) l (xs.map V.str)) ∨ ∃ z, x = .str z ∧ xs = (cs z).map ch) (hl : xs.length ≤ 1000) (h : ∀ l, H l = none → Q (.ref l) (upd H l (.lst (xs.map V.str)))) :
    rListAny K [x] H Q := by
  rcases hx with ⟨l, rfl, hs⟩ | ⟨z, rfl, rfl⟩
  · exact ⟨.inl ⟨l, _, rfl, .inl (hide_l hs), h⟩⟩
  · refine ⟨.inr ⟨z, rfl, by rw [len_cs]; simp at hl ⊢; omega, fun l hl => ?_⟩⟩
    have := h l hl
    rw [List.map_map] at this
    exact this
end MH
namespace MH
theorem eraseIdx_map' {α β : Type} (f : α → β) : ∀ (l : List α) (i : Nat), (l.map f).eraseIdx i = (l.eraseIdx i).map f
  | [], _ => by simp
  | a :: l, 0 => by simp
  | a :: l, i + 1 => by simp [eraseIdx_map' f l i]
end MH
namespace MH
open PySem PySem.Spec PyProof.Rows L2
theorem DealAt.put' {p q a : Addr} {H : Hp} (o : HO) (d : DealAt H p q) (h : H a = none) : DealAt (L2.upd H a o) p q ∧ Same (hide p q H) (hide p q (L2.upd H a o)) ∧ hide p q (L2.upd H a o) a = some o := by
  obtain ⟨h1, h2⟩ := d.put (o := o) h (Same.refl _)
  obtain ⟨h3, h4⟩ := d.new h
  exact ⟨h1, h2, hide_of upd_same h3 h4⟩
end MH
namespace MH
open PySem PySem.Spec PyProof.Rows L2
theorem cut_take (xs : List V) (r : Int) (h : 0 ≤ r) : cutV xs none (some r) = xs.take r.toNat := by
  unfold cutV
  have e : HT.sIx xs.length xs.length (some r) = min r.toNat xs.length := by
    have := HT.sIx_nat xs.length xs.length r.toNat
    rw [show ((r.toNat : Nat) : Int) = r by omega] at this
    exact this
  rw [e, HT.sIx_none]
  simp
/-! ### the law's own boards -/
structure LMenuIs (H : Hp) (x : V) (m : Menu) (t rl : Addr) (rs : List V) (tv : V) : Prop where
  eq : x = .ref t
  at_ : H t = some (.tup [.str m.name, .ref rl, tv, .int m.tries, .bl m.clears])
  rows : H rl = some (.lst rs)
  prows : Paired (DeedV H) rs m.rows
  tail : ActV H tv m.tail
def LMenuV (H : Hp) (x : V) (m : Menu) : Prop := ∃ t rl rs tv, LMenuIs H x m t rl rs tv
def LMenuN (fl : Addr) (H : Hp) (x : V) (m : Menu) : Prop := ∃ t rl rs tv, LMenuIs H x m t rl rs tv ∧ rl ≠ fl
theorem DeedV.same {H H' : Hp} {x : V} {r : Str × Act} (e : Same H H') (h : DeedV H x r) : DeedV H' x r := h.mono (Fz.of (Fr := fun _ => False) e)
theorem ActV.same {H H' : Hp} {x : V} {a : Act} (e : Same H H') (h : ActV H x a) : ActV H' x a := h.mono (Fz.of (Fr := fun _ => False) e)
theorem LMenuIs.same {H H' : Hp} {x : V} {m : Menu} {t rl : Addr} {rs : List V} {tv : V} (e : Same H H') (h : LMenuIs H x m t rl rs tv) : LMenuIs H' x m t rl rs tv :=
  ⟨h.eq, e _ _ h.at_, e _ _ h.rows, paired_imp h.prows fun _ _ q => q.same e, h.tail.same e⟩
theorem LMenuV.same {H H' : Hp} {x : V} {m : Menu} (e : Same H H') (h : LMenuV H x m) : LMenuV H' x m := let ⟨a, b, c, d, q⟩ := h; ⟨a, b, c, d, q.same e⟩
theorem LMenuN.same {fl : Addr} {H H' : Hp} {x : V} {m : Menu} (e : Same H H') (h : LMenuN fl H x m) : LMenuN fl H' x m := let ⟨a, b, c, d, q, n⟩ := h; ⟨a, b, c, d, q.same e, n⟩
theorem LMenuN.put {fl : Addr} {H : Hp} {x : V} {m : Menu} {xs ys : List V} (hd : H fl = some (.lst xs)) (h : LMenuN fl H x m) : LMenuN fl (L2.upd H fl (.lst ys)) x m := by
  obtain ⟨t, rl, rs, tv, i, n⟩ := h
  have fz : Fz (fun _ => False) H (L2.upd H fl (.lst ys)) := Fz.set hd fun z => z
  exact ⟨t, rl, rs, tv, ⟨i.eq, fz _ _ i.at_ trivial, by rw [upd_ne n]; exact i.rows, paired_imp i.prows fun _ _ q => q.mono fz, i.tail.mono fz⟩, n⟩
theorem LMenuN.menu {fl : Addr} {H : Hp} {x : V} {m : Menu} (h : LMenuN fl H x m) : LMenuV H x m := let ⟨a, b, c, d, q, _⟩ := h; ⟨a, b, c, d, q⟩
def lawNames : List Str := ["top", "pay", "ask", "bye", "x", "yy", "tone"]
def lawGoals : List Str := ["cash", "desk", "x", "top"]
theorem lawNames_ok : (lawNames.all okName && lawGoals.all okName && lawNames.all okTx && lawGoals.all okTx) = true := by decide +kernel
theorem lawNames_nd : lawNames.Nodup := by decide +kernel
theorem digits_ok : (((cs ("0123456789" : Str)).map ch).all fun x => okDigit x && okTx x) = true := by decide +kernel
theorem digits_nd : ((cs ("0123456789" : Str)).map ch).Nodup := by decide +kernel
theorem name_ok {x : Str} (h : x ∈ lawNames) : okName x = true ∧ okTx x = true := by
  have z := lawNames_ok
  simp only [Bool.and_eq_true] at z
  exact ⟨List.all_eq_true.mp z.1.1.1 x h, List.all_eq_true.mp z.1.2 x h⟩
theorem goal_ok {x : Str} (h : x ∈ lawGoals) : okName x = true ∧ okTx x = true := by
  have z := lawNames_ok
  simp only [Bool.and_eq_true] at z
  exact ⟨List.all_eq_true.mp z.1.1.2 x h, List.all_eq_true.mp z.2 x h⟩
theorem digit_ok {x : Str} (h : x ∈ (cs ("0123456789" : Str)).map ch) : okDigit x = true ∧ okTx x = true := by
  have z := List.all_eq_true.mp digits_ok x h
  simpa using z
theorem act_ok_of {called numbers : List Str} {a : Act} (h1 : ∀ n ∈ a.names, n ∈ called) (h2 : ∀ g ∈ a.goal, g ∈ numbers) (c : ∀ n ∈ called, okName n = true) (d : ∀ g ∈ numbers, okName g = true) : a.ok = true := by
  cases a with
  | line x => exact d x (h2 x (by simp [Act.goal]))
  | go n => exact c n (h1 n (by simp [Act.names]))
  | call n t =>
    show (okName n && okName t) = true
    rw [c n (h1 n (by simp [Act.names])), c t (h1 t (by simp [Act.names]))]
    rfl
  | out => rfl
  | again => rfl
  | main => rfl
  | back => rfl
end MH
namespace MH
open PySem PySem.Spec PyProof.Rows L2
theorem app_assoc (x y z : Str) : (x ++ y) ++ z = x ++ (y ++ z) := by
  refine str_ext ?_
  rw [cs_app, cs_app, cs_app, cs_app, List.append_assoc]
theorem tries_text {m : Menu} (h : m.Ok) : (toString m.tries : Str) = ch (m.tries.toNat + 48) := by
  have h1 := h.lo
  have h2 := h.hi
  have c : m.tries = 1 ∨ m.tries = 2 ∨ m.tries = 3 ∨ m.tries = 4 ∨ m.tries = 5 ∨ m.tries = 6 ∨ m.tries = 7 ∨ m.tries = 8 ∨ m.tries = 9 := by omega
  rcases c with c | c | c | c | c | c | c | c | c <;> rw [c] <;> decide +kernel
theorem menu_sp : ("menu " : Str) = "menu" ++ " " := by decide +kernel
theorem tries_sp : (" tries " : Str) = " " ++ ("tries" ++ " ") := by decide +kernel
theorem clear_sp : (" clear" : Str) = " " ++ "clear" := by decide +kernel
theorem else_sp : ("else " : Str) = "else" ++ ch 32 := by decide +kernel
theorem app_nil (x : Str) : x ++ ("" : Str) = x := by
  refine str_ext ?_
  rw [cs_app]
  exact List.append_nil _
theorem head_eq {m : Menu} (h : m.Ok) : ((("menu " ++ m.name) ++ " tries ") ++ (toString m.tries : Str)) ++ (if m.clears = true then (" clear" : Str) else "") = m.headText := by
  rw [tries_text h]
  unfold Menu.headText Menu.headWords
  cases m.clears with
  | false =>
    show (((("menu " : Str) ++ m.name) ++ " tries ") ++ ch (m.tries.toNat + 48)) ++ ("" : Str) = Txt.join " " ["menu", m.name, "tries", ch (m.tries.toNat + 48)]
    rw [app_nil, join_cons, join_cons, join_cons, join_one, menu_sp, tries_sp]
    simp only [app_assoc]
  | true =>
    show (((("menu " : Str) ++ m.name) ++ " tries ") ++ ch (m.tries.toNat + 48)) ++ (" clear" : Str) = Txt.join " " ["menu", m.name, "tries", ch (m.tries.toNat + 48), "clear"]
    rw [join_cons, join_cons, join_cons, join_cons, join_one, menu_sp, tries_sp, clear_sp]
    simp only [app_assoc]
theorem row_eq (r : Str × Act) : (r.1 ++ " ") ++ Txt.join " " r.2.words = rowText r := by
  rw [app_assoc, blank]
  rfl
theorem tail_eq (a : Act) : ("else " : Str) ++ Txt.join " " a.words = tailText a := by
  rw [else_sp, app_assoc]
  rfl
theorem app_len (x y : Str) : (x ++ y).length = x.length + y.length := by
  rw [len_cs, cs_app, List.length_append, ← len_cs, ← len_cs]
end MH
namespace MH
open PySem PySem.Spec PyProof.Rows L2
def rAddStr : V → V → Hp → VK → Prop := fun x y H Q => ∃ i j, x = .str i ∧ y = .str j ∧ i.length + j.length ≤ sizeLine ∧ Q (.str (i ++ j)) H
def tJoin (K : PySem.W.Frag) (to te : TE) : TE := tM1 (fun x xs H Q => ∃ a p, ∃ ys : List Str, x = .str a ∧ xs = [.ref p] ∧ (SqL K H p (ys.map V.str) ∨ SqT K H p (ys.map V.str)) ∧
      (ys.map (·.length)).sum + ys.length * a.length ≤ 16777216 ∧ Q (.str (Txt.join a ys)) H) to te
theorem words_sum {a : Act} (h : a.ok = true) : (a.words.map (·.length)).sum + a.words.length * (" " : Str).length ≤ 16777216 := by
  have l1 : (" " : Str).length = 1 := by decide +kernel
  rw [l1]
  have w := words_no h
  cases a with
  | line y => have := (w "line" (by simp [Act.words])).2; have := (w y (by simp [Act.words])).2; simp [Act.words]; omega
  | go y => have := (w "go" (by simp [Act.words])).2; have := (w y (by simp [Act.words])).2; simp [Act.words]; omega
  | call y z => have := (w "call" (by simp [Act.words])).2; have := (w y (by simp [Act.words])).2; have := (w z (by simp [Act.words])).2; simp [Act.words]; omega
  | out => have := (w "out" (by simp [Act.words])).2; simp [Act.words]; omega
  | again => have := (w "again" (by simp [Act.words])).2; simp [Act.words]; omega
  | main => have := (w "main" (by simp [Act.words])).2; simp [Act.words]; omega
  | back => have := (w "back" (by simp [Act.words])).2; simp [Act.words]; omega
end MH
namespace MH
open PySem PySem.Spec PyProof.Rows L2
theorem tries_log {m : Menu} (h : m.Ok) : m.tries.natAbs.log2 < 1920 ∧ (toString m.tries : Str).length = 1 := by
  have h1 := h.lo
  have h2 := h.hi
  have c : m.tries = 1 ∨ m.tries = 2 ∨ m.tries = 3 ∨ m.tries = 4 ∨ m.tries = 5 ∨ m.tries = 6 ∨ m.tries = 7 ∨ m.tries = 8 ∨ m.tries = 9 := by omega
  rcases c with c | c | c | c | c | c | c | c | c <;> rw [c] <;> exact ⟨by decide +kernel, by decide +kernel⟩
theorem len_consts : ("menu " : Str).length = 5 ∧ (" tries " : Str).length = 7 ∧ (" clear" : Str).length = 6 ∧ ("" : Str).length = 0 ∧ (" " : Str).length = 1 ∧ ("else " : Str).length = 5 := by decide +kernel
end MH
namespace MH
open PySem PySem.Spec PyProof.Rows L2
theorem head_eqT {m : Menu} (h : m.Ok) (c : m.clears = true) : ((("menu " ++ m.name) ++ " tries ") ++ (toString m.tries : Str)) ++ (" clear" : Str) = m.headText := by
  have e := head_eq h
  rw [c] at e
  exact e
theorem head_eqF {m : Menu} (h : m.Ok) (c : m.clears = false) : ((("menu " ++ m.name) ++ " tries ") ++ (toString m.tries : Str)) ++ ("" : Str) = m.headText := by
  have e := head_eq h
  rw [c] at e
  exact e
end MH
namespace MH
open PySem PySem.Spec PyProof.Rows L2
theorem sum_le {b : Nat} : ∀ {l : List Str}, (∀ x ∈ l, x.length ≤ b) → (l.map (·.length)).sum ≤ b * l.length
  | [], _ => by simp
  | x :: r, h => by
    have h1 := h x List.mem_cons_self
    have h2 := sum_le (l := r) fun y hy => h y (List.mem_cons_of_mem _ hy)
    rw [List.map_cons, List.sum_cons, List.length_cons, Nat.mul_add]
    omega
theorem board_sum {B : List Menu} (h : BoardOk B) : ((boardLines B).map (·.length)).sum + (boardLines B).length * ("\n" : Str).length ≤ 16777216 := by
  have l1 : ("\n" : Str).length = 1 := by decide +kernel
  have z := sum_le (b := 30) (l := boardLines B) fun x hx => by
    obtain ⟨m, hm, hx⟩ := List.mem_flatMap.mp hx
    exact (lines_no (h.ok m hm) x hx).2
  have := boardLines_len h
  rw [l1]
  omega
end MH
namespace MH
open PySem PySem.Spec PyProof.Rows L2
theorem filter_ints : ∀ {os : List (Option V)}, (∀ (i : Nat) (o : Option V), os[i]? = some o → ∃ n : Int, 0 ≤ n ∧ (o = some (.int n) ∨ o = none)) → ∃ cs : List Int, os.filterMap id = cs.map V.int ∧ (∀ c ∈ cs, 0 ≤ c) ∧ cs.length ≤ os.length
  | [], _ => ⟨[], rfl, fun _ h => (by cases h), Nat.le_refl _⟩
  | o :: os, h => by
    obtain ⟨cs, e, nn, l⟩ := filter_ints (os := os) fun i o' h' => h (i + 1) o' (by simpa using h')
    obtain ⟨n, hn, rfl | rfl⟩ := h 0 o rfl
    · exact ⟨n :: cs, by simp [e], fun c hc => (List.mem_cons.mp hc).elim (fun q => q ▸ hn) (nn c), by simp; omega⟩
    · exact ⟨cs, by simp [e], nn, by simp; omega⟩
theorem cut_all (xs : List V) (h : xs.length ≤ 63) : cutV xs (some 0) (some 63) = xs := by
  unfold cutV
  have e1 := HT.sIx_nat xs.length 0 0
  have e2 := HT.sIx_nat xs.length xs.length 63
  rw [show HT.sIx xs.length 0 (some 0) = min 0 xs.length from e1, show HT.sIx xs.length xs.length (some 63) = min 63 xs.length from e2]
  rw [Nat.zero_min, List.drop_zero, Nat.sub_zero, Nat.min_eq_right h, List.take_length]
end MH
set_option Elab.async false
set_option linter.all false
set_option maxRecDepth 100000
set_option maxHeartbeats 4000000
namespace MH
open PySem PySem.Spec PyProof.Rows L2
/-! ### enumerate(tuple) -/
theorem meets_enum1 {v : Value} {o : Obj} {G : Heap → Prop} (B : Begins v o G) :
    Meets (Builtin.«enumerate.__new__» ⟨[.type "enumerate", v], []⟩) (fun _ R s => G s.heap ∧
      R (.ok (.ret (.ref (s.heap.push o).objs.size))) { s with heap := (s.heap.push o).push { cls := .type "enumerate", data := .fields #[.none, .bool false, .ref s.heap.objs.size, rawInt 0, .none, .none] } }) :=
  .of_wp fun prog w A R s h => by
    obtain ⟨hp, g, d, tk, os⟩ := s; obtain ⟨h1, h⟩ := h
    have hsub := sub_enumerate
    have itr : ∀ {A' : Around} {E : Value → Shared → Prop} {Q : Value → Shared → Prop}, Q (.ref hp.objs.size) ⟨hp.push o, g, d, tk, os⟩ → wpAny (model prog w) A' (pyIter v) Q E ⟨hp, g, d, tk, os⟩ :=
      fun q => B.iter prog w _ _ ⟨hp, g, d, tk, os⟩ _ h1 q
    wp_walk using itr
    refine wpAny_stack_any fun st => wpAny_pure ?_
    split
    · rename_i c _ _ _ _ _
      cases (c == Value.type "enumerate")
      · wp_walk using itr
        exact ⟨_, rfl, h⟩
      · wp_walk using itr
        exact ⟨_, rfl, h⟩
    · wp_walk using itr
      exact ⟨_, rfl, h⟩
section
variable {prog : Program} {w : World} {A : Around} {E : Value → Shared → Prop} {s : Shared}
theorem call_enum1 {v : Value} {o : Obj} {G : Heap → Prop} {Q : Value → Shared → Prop} (B : Begins v o G) (h1 : G s.heap)
    (h : ∀ h', IsEnum h' (s.heap.objs.size + 1) s.heap.objs.size 0 .none → h'.get? s.heap.objs.size = some o → (∀ b o, s.heap.get? b = some o → h'.get? b = some o) → Q (.ref (s.heap.objs.size + 1)) { s with heap := h' }) :
    wpAny (model prog w) A (call (.type "enumerate") [v]) Q E s := by
  refine callType_new F.called_enumerate (by decide) (F.typeCall_enumerate_1 _) (F.newCall_enumerate_1 _) (fun obj => F.args_object_init_2 obj _) F.entry_enumerate_new (meets_enum1 B) ⟨h1, ?_⟩
  have one : (s.heap.push o).objs.size = s.heap.objs.size + 1 := Heap.size_push ..
  show _ ∧ _
  rw [one]
  have top := Heap.get?_push_size (s.heap.push o) (o := { cls := .type "enumerate", data := .fields #[.none, .bool false, .ref s.heap.objs.size, rawInt 0, .none, .none] }) rfl
  rw [one] at top
  exact ⟨⟨_, top, rfl⟩, h _ top (Heap.get?_push_of_some _ (Heap.get?_push_size _ B.free)) fun b u x => Heap.get?_push_of_some _ (Heap.get?_push_of_some _ x)⟩
end
/-- the tuple at a, each item in a new pair -/
def ItE (K : PySem.W.Frag) (a : Addr) : It :=
  ⟨fun i H => ∃ (xs : List V) (x : V), SqT K H a xs ∧ xs[i]? = some x, fun i H v H' => ∃ t x, v = .ref t ∧ H t = none ∧ H' = upd H t (.tup [.int (i : Nat), x]) ∧ ∀ xs, SqT K H a xs → xs[i]? = some x, fun i H => ∃ xs : List V, SqT K H a xs ∧ xs.length = i⟩
theorem turn_enumT {P : Program} {w : World} {K : PySem.W.Frag} {elts : List Expr} {kk : Nat} {tpos : Pos} (a e it : Addr) :
    Turn P w K (.Tuple elts kk tpos) (ItE K a) [e, it] e (fun i h => (∃ old, IsEnum h e it ((i : Nat) : Int) old) ∧ h.IsTupleIter it a i ∧ e ≠ it ∧ a ≠ it ∧ e ≠ a) where
  mem := List.mem_cons_self
  obj := fun i h st b hb => by
    obtain ⟨⟨old, he⟩, ⟨o, ho, hc, hd⟩, _⟩ := st
    rcases List.mem_cons.mp hb with rfl | hb
    · exact ⟨_, he, fun v q => nomatch q⟩
    · rw [List.mem_singleton.mp hb]
      exact ⟨o, ho, fun v q => by rw [hd] at q; cases q⟩
  keep := fun i h h' ⟨⟨old, he⟩, hi, r⟩ k => ⟨⟨old, k e (by simp) _ he⟩, hi.at fun o q => k it (by simp) o q, r⟩
  item := by
    intro X hP hw hK hc i pins s σ H E I hf st hg
    subst hP hw hK
    obtain ⟨⟨old, he⟩, hit, n1, n2, n3⟩ := st
    obtain ⟨xs, x, hq, hx⟩ := hg
    obtain ⟨its, rv, p, _⟩ := I.tuple hq
    obtain ⟨u, hu, ru⟩ := rv.get hx
    have hel : e < s.heap.objs.size := Heap.lt_size he
    have hil : it < s.heap.objs.size := by obtain ⟨_, q, _⟩ := hit; exact Heap.lt_size q
    have D := Draws.tuple (prog := X.prog) (w := X.w) (A := X.A.in1) (I.ok.hd hc) it a n2 its.toArray
    have lt : i < its.toArray.size := by
      have := (List.getElem?_eq_some_iff.mp hu).1
      simpa using this
    refine wpAny_pyNext_enum_itemD D he ⟨hit, p⟩ lt n1 (by simp [n1, n3]) fun u2 h' tk hu2 ho st2 hT hsz hk => ?_
    obtain rfl : u = u2 := by
      have e1 : its[i]? = some u2 := by simpa using hu2
      rw [hu] at e1
      exact Option.some.inj e1
    refine ⟨_, rfl, wpAny_letOwnedTupleGo_enum (s := { s with heap := h', toks := tk + 1 }) ho fun h'' he' sb => ?_⟩
    have hT2 : h''.get? s.heap.objs.size = some { cls := .type "tuple", data := .seq #[.int i tk, u] } := (sb.2 _ (Nat.ne_of_gt hel)).trans hT
    have new : ObjOk X.prog X.w (upd H s.heap.objs.size (.tup [.int (i : Nat), x])) h'' s.heap.objs.size (.tup [.int (i : Nat), x]) :=
      ⟨by show 2 ≤ sizeLine; decide, [.int i tk, u], .cons ⟨_, rfl⟩ (.cons ru .nil), ⟨_, hT2, rfl, _, rfl⟩⟩
    have I1 : Inv X pins σ (upd H s.heap.objs.size (.tup [.int (i : Nat), x])) { s with heap := h'', toks := tk + 1 } :=
      I.turnedNew (ch := [e, it]) (fun b ob hb q => (sb.2 b (fun z => hb (by simp [z]))).trans (hk b ob (fun z => hb (by simp [z])) (fun z => hb (by simp [z])) q)) hf (Nat.le_refl _) new
    refine ⟨.ref s.heap.objs.size, _, I1, rfl, ⟨_, x, rfl, I.hok.fresh (Nat.le_refl _), rfl, fun ys hy => by rw [I.tuple_inj hy hq]; exact hx⟩, ⟨⟨u, ?_⟩, st2.1.at fun o q => (sb.2 it (Ne.symm n1)).trans q, n1, n2, n3⟩, fun b hb => ?_⟩
    · rw [show ((i + 1 : Nat) : Int) = (i : Int) + 1 by omega]; exact he'
    · have low : b < s.heap.objs.size := by
        rcases List.mem_cons.mp hb with rfl | hb
        · exact hel
        · rw [List.mem_singleton.mp hb]; exact hil
      rw [upd_ne (Nat.ne_of_lt low)]
      exact (hf b hb).1
  done := by
    intro X hP hw hK hc i pins s σ H E I hf st hg
    subst hP hw hK
    obtain ⟨⟨old, he⟩, hit, n1, n2, n3⟩ := st
    obtain ⟨xs, hq, hx⟩ := hg
    obtain ⟨its, rv, p, _⟩ := I.tuple hq
    obtain ⟨f0, f1, f2, f3, f4, f5⟩ := hf it (by simp)
    have hl : its.toArray.size = i := by rw [← hx, rv.length]; simp
    have D := Draws.tuple (prog := X.prog) (w := X.w) (A := X.A.in1) (I.ok.hd hc) it a n2 its.toArray
    have f2' := hf it (by simp)
    refine wpAny_pyNext_enum_endD D he (by rw [hl]; exact ⟨hit, p⟩) fun h' eb => ⟨rfl, ?_⟩
    obtain ⟨g0, g1, g2, g3, g4, g5⟩ := f2'
    exact I.turned (t' := s.toks) (fun b o hb q => eb b o hb q) g0 g1 g3 g4 g5
  self := fun A i s Q E st h => let ⟨⟨_, he⟩, _⟩ := st; wpAny_pyIter_enum he h
def iEnumT (K : PySem.W.Frag) (ta : TA) : TI := fun σ H R => ta σ H fun vs H1 => ∃ a xs, vs = [.ref a] ∧ ((SqL K H1 a xs ∧ R (Ite K a) H1) ∨ (SqT K H1 a xs ∧ R (ItE K a) H1))
theorem pi_enumA {X : Cx} {e : Expr} {ta : TA} {p pos tpos : Pos} {elts : List Expr} {kk : Nat} (hg : Gl X "enumerate") (hm : X.mg "enumerate" = none) (ha : PA X [e] ta) (hs : starEach [e] X.env = [(false, eval e X.env)] := by rfl) :
    PI X (.Tuple elts kk tpos) (.Call (.Name "enumerate" p) [e] [] pos) (iEnumT X.K ta) := by
  refine ⟨fun pins s σ H R I h => ?_⟩
  refine Call_ (ld_blt I hg hm boot_enumerate (PyProof.Rows.callWith_type1 (thn (ha.run pos pins s σ H _ I h) fun us s1 ⟨vs, H1, I1, r1, q1⟩ => ?_) hs rfl))
  obtain ⟨a, xs, ex, hq⟩ := q1
  subst ex
  obtain ⟨u, rfl, ru⟩ := vals1 r1
  obtain rfl : u = Value.ref a := ru
  have low : ∀ b : Addr, b ∈ [s1.heap.objs.size + 1, s1.heap.objs.size] → s1.heap.objs.size ≤ b := fun b hb => by
    rcases List.mem_cons.mp hb with rfl | hb
    · exact Nat.le_succ _
    · rw [List.mem_singleton.mp hb]
      exact Nat.le_refl _
  rcases hq with ⟨hq, q⟩ | ⟨hq, q⟩
  · obtain ⟨its, rv, p', hz⟩ := I1.list hq
    refine call_enumerate_list p'.isList fun h' he hit hsz hk => wpAny_pyIter_enum he ?_
    have I2 : Inv X pins σ H1 { s1 with heap := h' } := I1.kept (t' := s1.toks) hk
    exact ⟨s1.heap.objs.size + 1, [s1.heap.objs.size + 1, s1.heap.objs.size], _, _, H1, rfl, I2, turn_enum a (s1.heap.objs.size + 1) s1.heap.objs.size, ⟨⟨.none, he⟩, hit, Nat.succ_ne_self _⟩, fun b hb => I1.fpOk (low b hb) (I1.hok.fresh (low b hb)), q⟩
  · obtain ⟨its, rv, p', hz⟩ := I1.tuple hq
    have al : a < s1.heap.objs.size := by obtain ⟨o, e1, _⟩ := p'; exact Heap.lt_size e1
    refine call_enum1 (begins_tuple a its.toArray) p' fun h' he hit hk => wpAny_pyIter_enum he ?_
    have I2 : Inv X pins σ H1 { s1 with heap := h' } := I1.kept (t' := s1.toks) hk
    refine ⟨s1.heap.objs.size + 1, [s1.heap.objs.size + 1, s1.heap.objs.size], _, _, H1, rfl, I2, turn_enumT a (s1.heap.objs.size + 1) s1.heap.objs.size, ⟨⟨.none, he⟩, ⟨_, hit, rfl, rfl⟩, Nat.succ_ne_self _, Nat.ne_of_lt al, fun z => ?_⟩, fun b hb => I1.fpOk (low b hb) (I1.hok.fresh (low b hb)), q⟩
    have z' : s1.heap.objs.size + 1 < s1.heap.objs.size := Nat.lt_of_le_of_lt (Nat.le_of_eq z) al
    exact absurd z' (Nat.not_lt.mpr (Nat.le_succ _))
theorem walk_enumT {K : PySem.W.Frag} {a : Addr} {xs : List V} : Walk (ItE K a) xs.length (fun H => SqT K H a xs) (fun i H v H' => ∃ t x, v = .ref t ∧ H t = none ∧ H' = upd H t (.tup [.int (i : Nat), x]) ∧ xs[i]? = some x) := by
  refine ⟨fun i _ hi q => ⟨xs, xs[i], q, by simp [hi]⟩, fun _ q => ⟨xs, q, rfl⟩, fun i H v H' _ q y => ?_⟩
  obtain ⟨t, x, h1, h2, h3, h4⟩ := y
  exact ⟨t, x, h1, h2, h3, h4 xs q⟩
theorem walk_enumL {K : PySem.W.Frag} {a : Addr} {xs : List V} : Walk (Ite K a) xs.length (fun H => SqL K H a xs) (fun i H v H' => ∃ t x, v = .ref t ∧ H t = none ∧ H' = upd H t (.tup [.int (i : Nat), x]) ∧ xs[i]? = some x) := by
  refine ⟨fun i _ hi q => ⟨xs, xs[i], q, by simp [hi]⟩, fun _ q => ⟨xs, q, Nat.le_refl _⟩, fun i H v H' _ q y => ?_⟩
  obtain ⟨t, x, h1, h2, h3, h4⟩ := y
  exact ⟨t, x, h1, h2, h3, h4 xs q⟩
end MH
set_option Elab.async false
set_option linter.all false
set_option maxRecDepth 100000
set_option maxHeartbeats 4000000
namespace MH
open PySem PySem.Spec PyProof.Rows L2
/-! ### what silence computes -/
abbrev Tab := Str → Option Str
def Tab.put (τ : Tab) (x r : Str) : Tab := fun y => if y = x then some r else τ y
def tailOf (B : List Menu) (x : Str) : Act := match B.find? (fun m => decide (m.name = x)) with
  | some m => m.tail
  | none => .out
mutual
def endOf (B : List Menu) : Nat → Tab → Str → Str × Tab
  | n, τ, x => match τ x with
    | some r => (r, τ)
    | none => match n with
      | 0 => ("round", τ)
      | n + 1 => let q := endBy B n (τ.put x "round") (tailOf B x)
        (q.1, q.2.put x q.1)
termination_by n => (n, 0)
def endBy (B : List Menu) : Nat → Tab → Act → Str × Tab
  | n, τ, a => match a with
    | .line y => (y, τ)
    | .out => ("out", τ)
    | .back => ("back", τ)
    | .again => ("round", τ)
    | .main => let q := endOf B n τ (firstOf B)
      (if q.1 = "back" then "out" else q.1, q.2)
    | .go m => endOf B n τ m
    | .call m t => let q := endOf B n τ m
      if q.1 = "back" then endOf B n q.2 t else q
termination_by n => (n, 1)
end
/-- names that the table doesn't hold -/
def unk (B : List Menu) (τ : Tab) : Nat := ((namesOf B).filter fun x => (τ x).isNone).length
theorem filter_le {α : Type} {p p' : α → Bool} : ∀ {l : List α}, (∀ x ∈ l, p' x = true → p x = true) → (l.filter p').length ≤ (l.filter p).length
  | [], _ => Nat.le_refl _
  | a :: l, h => by
    have ih := filter_le (l := l) fun x hx => h x (List.mem_cons_of_mem _ hx)
    have ha := h a List.mem_cons_self
    rw [List.filter_cons, List.filter_cons]
    by_cases e : p' a = true
    · rw [if_pos e, if_pos (ha e), List.length_cons, List.length_cons]; omega
    · rw [if_neg e]
      split
      · rw [List.length_cons]; omega
      · exact ih
theorem filter_lt {α : Type} {p p' : α → Bool} {x : α} : ∀ {l : List α}, (∀ x ∈ l, p' x = true → p x = true) → x ∈ l → p x = true → p' x = false → (l.filter p').length + 1 ≤ (l.filter p).length
  | [], _, hx, _, _ => by cases hx
  | a :: l, h, hx, h1, h2 => by
    have h' := fun x hx => h x (List.mem_cons_of_mem a hx)
    rw [List.filter_cons, List.filter_cons]
    rcases List.mem_cons.mp hx with rfl | hx
    · rw [if_pos h1, if_neg (by rw [h2]; exact Bool.false_ne_true), List.length_cons]
      have := filter_le h'
      omega
    · have ih := filter_lt h' hx h1 h2
      have ha := h a List.mem_cons_self
      by_cases e : p' a = true
      · rw [if_pos e, if_pos (ha e), List.length_cons, List.length_cons]; omega
      · rw [if_neg e]
        split
        · rw [List.length_cons]; omega
        · exact ih
/-- a table that holds at least what another does -/
def Tab.Le (a b : Tab) : Prop := ∀ x, (b x).isNone = true → (a x).isNone = true
theorem Tab.Le.refl (a : Tab) : a.Le a := fun _ h => h
theorem Tab.Le.trans {a b c : Tab} (h : a.Le b) (k : b.Le c) : a.Le c := fun x q => h x (k x q)
theorem Tab.le_put (a : Tab) (x r : Str) : a.Le (a.put x r) := fun y h => by
  unfold Tab.put at h
  by_cases e : y = x
  · rw [if_pos e] at h; cases h
  · rw [if_neg e] at h; exact h
theorem unk_le {B : List Menu} {a b : Tab} (h : a.Le b) : unk B b ≤ unk B a := filter_le fun x _ q => h x q
theorem unk_put {B : List Menu} {τ : Tab} {x r : Str} (hx : x ∈ namesOf B) (h : τ x = none) : unk B (τ.put x r) + 1 ≤ unk B τ :=
  filter_lt (fun y _ q => Tab.le_put τ x r y q) hx (by rw [h]; rfl) (by unfold Tab.put; rw [if_pos rfl]; rfl)
theorem end_le (B : List Menu) : ∀ n : Nat, (∀ (τ : Tab) (x : Str), τ.Le (endOf B n τ x).2) ∧ ∀ (τ : Tab) (a : Act), τ.Le (endBy B n τ a).2 := by
  have by_of : ∀ n : Nat, (∀ (τ : Tab) (x : Str), τ.Le (endOf B n τ x).2) → ∀ (τ : Tab) (a : Act), τ.Le (endBy B n τ a).2 := fun n h τ a => by
    cases a with
    | line y => rw [endBy]; exact Tab.Le.refl _
    | out => rw [endBy]; exact Tab.Le.refl _
    | again => rw [endBy]; exact Tab.Le.refl _
    | back => rw [endBy]; exact Tab.Le.refl _
    | main => rw [endBy]; exact h _ _
    | go m => rw [endBy]; exact h _ _
    | call m t =>
      rw [endBy]
      split
      · exact (h _ _).trans (h _ _)
      · exact h _ _
  intro n
  induction n with
  | zero =>
    have h0 : ∀ (τ : Tab) (x : Str), τ.Le (endOf B 0 τ x).2 := fun τ x => by
      rw [endOf]
      split
      · exact Tab.Le.refl _
      · exact Tab.Le.refl _
    exact ⟨h0, by_of 0 h0⟩
  | succ n ih =>
    have h1 : ∀ (τ : Tab) (x : Str), τ.Le (endOf B (n + 1) τ x).2 := fun τ x => by
      rw [endOf]
      split
      · exact Tab.Le.refl _
      · exact ((Tab.le_put _ _ _).trans (ih.2 _ _)).trans (Tab.le_put _ _ _)
    exact ⟨h1, by_of (n + 1) h1⟩
theorem tailOf_eq {B : List Menu} {m : Menu} (nd : (namesOf B).Nodup) (h : m ∈ B) : tailOf B m.name = m.tail := by
  unfold tailOf
  have e : B.find? (fun k => decide (k.name = m.name)) = some m := by
    induction B with
    | nil => cases h
    | cons b B ih =>
      have nd' := List.nodup_cons.mp (show (b.name :: namesOf B).Nodup from nd)
      rw [List.find?_cons]
      rcases List.mem_cons.mp h with rfl | h
      · rw [decide_eq_true rfl]
      · by_cases e : b.name = m.name
        · exact absurd (by rw [e]; exact List.mem_map_of_mem h) nd'.1
        · rw [decide_eq_false e]
          exact ih nd'.2 h
  rw [e]
/-- the dict that holds the table -/
def TabAt (B : List Menu) (H : Hp) (d : Addr) (τ : Tab) : Prop := ∃ kvs : List (Key × V), H d = some (.dK kvs) ∧ (∀ x : Str, valV kvs (Sum.inr x) = (τ x).map V.str) ∧ kvs.length + unk B τ ≤ 20
theorem put_len {κ : Type} [DecidableEq κ] {kvs : List (κ × V)} {k : κ} {v : V} : (putK kvs k v).length = if (valV kvs k).isSome = true then kvs.length else kvs.length + 1 := by
  unfold putK
  rw [valV_any]
  split
  · rw [List.length_map]
  · rw [List.length_append]; rfl
theorem put_tab {kvs : List (Key × V)} {τ : Tab} {x r : Str} (h : ∀ x : Str, valV kvs (Sum.inr x) = (τ x).map V.str) : ∀ y : Str, valV (putK kvs (Sum.inr x) (.str r)) (Sum.inr y) = ((τ.put x r) y).map V.str := fun y => by
  rw [valV_put]
  unfold Tab.put
  by_cases e : y = x
  · rw [if_pos (by rw [e]), if_pos e]; rfl
  · rw [if_neg (fun z => e (Sum.inr.inj z)), if_neg e]
    exact h y
end MH
namespace MH
open PySem PySem.Spec PyProof.Rows L2
theorem But.fzD {Fr : Addr → Prop} {d : Addr} {H H' : Hp} {kvs : List (Key × V)} (a : But d H H') (hd : H d = some (.dK kvs)) : Fz Fr H H' := fun b o h f => by
  refine a b o (fun e => ?_) h
  rw [e, hd] at h
  cases h
  exact f
theorem But.refl (z : Addr) (H : Hp) : But z H H := fun _ _ _ h => h
theorem first_mem {B : List Menu} (h : BoardOk B) : firstOf B ∈ namesOf B := by
  have ne := h.ne
  match B, ne with
  | m :: r, _ => exact List.mem_cons_self
/-- an instance of Silence -/
structure SilAt (CS CB CM : Addr) (H : Hp) (z zb d : Addr) (B : List Menu) (τ : Tab) : Prop where
  at_ : ∃ dx, H z = some (.ins CS dx [("plan", .ref zb), ("told", .ref d)])
  board : BoardAt CB CM H zb B
  tab : TabAt B H d τ
theorem SilAt.but {CS CB CM : Addr} {H H' : Hp} {z zb d : Addr} {B : List Menu} {τ τ' : Tab} (h : SilAt CS CB CM H z zb d B τ) (a : But d H H') (t : TabAt B H' d τ') : SilAt CS CB CM H' z zb d B τ' := by
  obtain ⟨kvs, hd, _⟩ := h.tab
  have fz : Fz (fun _ => True) H H' := a.fzD hd
  obtain ⟨dx, hz⟩ := h.at_
  exact ⟨⟨dx, fz _ _ hz trivial⟩, h.board.mono trivial trivial fz, t⟩
theorem TabAt.get {B : List Menu} {H : Hp} {d : Addr} {τ : Tab} (h : TabAt B H d τ) (x : Str) : DGet H d (.str x) ((τ x).map V.str) := by
  obtain ⟨kvs, hd, hv, _⟩ := h
  rw [← hv x]
  exact DGet.k (k := Sum.inr x) hd
theorem TabAt.put_new {B : List Menu} {H : Hp} {d : Addr} {τ : Tab} {x r : Str} (h : TabAt B H d τ) (hx : x ∈ namesOf B) (hn : τ x = none) : ∃ H', DPut H d (.str x) (.str r) H' ∧ But d H H' ∧ TabAt B H' d (τ.put x r) := by
  obtain ⟨kvs, hd, hv, hl⟩ := h
  refine ⟨_, DPut.k (k := Sum.inr x) hd (line_lt (by omega)), (But.refl d H).upd, _, upd_same, put_tab hv, ?_⟩
  have hv' := hv x
  rw [hn] at hv'
  rw [put_len, hv']
  have := unk_put (r := r) hx hn
  show kvs.length + 1 + _ ≤ 20
  omega
theorem TabAt.put_old {B : List Menu} {H : Hp} {d : Addr} {τ : Tab} {x r : Str} (h : TabAt B H d τ) (hn : (τ x).isSome = true) : ∃ H', DPut H d (.str x) (.str r) H' ∧ But d H H' ∧ TabAt B H' d (τ.put x r) := by
  obtain ⟨kvs, hd, hv, hl⟩ := h
  refine ⟨_, DPut.k (k := Sum.inr x) hd (line_lt (by omega)), (But.refl d H).upd, _, upd_same, put_tab hv, ?_⟩
  have hv' := hv x
  rw [put_len, hv', Option.isSome_map, if_pos hn]
  have := unk_le (B := B) (Tab.le_put τ x r)
  omega
end MH
namespace MH
open PySem PySem.Spec PyProof.Rows L2
theorem TabAt.same {B : List Menu} {H H' : Hp} {d : Addr} {τ : Tab} (e : Same H H') (h : TabAt B H d τ) : TabAt B H' d τ := let ⟨kvs, a, b, c⟩ := h; ⟨kvs, e _ _ a, b, c⟩
theorem SilAt.same {CS CB CM : Addr} {H H' : Hp} {z zb d : Addr} {B : List Menu} {τ : Tab} (e : Same H H') (h : SilAt CS CB CM H z zb d B τ) : SilAt CS CB CM H' z zb d B τ := let ⟨dx, hz⟩ := h.at_; ⟨⟨dx, e _ _ hz⟩, h.board.same e, h.tab.same e⟩
end MH
namespace MH
open PySem PySem.Spec PyProof.Rows L2
section
variable {B : List Menu} {n : Nat} {τ : Tab}
theorem by_line {y : Str} : endBy B n τ (.line y) = (y, τ) := by rw [endBy]
theorem by_out : endBy B n τ .out = (("out" : Str), τ) := by rw [endBy]
theorem by_back : endBy B n τ .back = (("back" : Str), τ) := by rw [endBy]
theorem by_again : endBy B n τ .again = (("round" : Str), τ) := by rw [endBy]
theorem by_main : endBy B n τ .main = (if (endOf B n τ (firstOf B)).1 = ("back" : Str) then ("out" : Str) else (endOf B n τ (firstOf B)).1, (endOf B n τ (firstOf B)).2) := by rw [endBy]
theorem by_go {m : Str} : endBy B n τ (.go m) = endOf B n τ m := by rw [endBy]
theorem by_call {m t : Str} : endBy B n τ (.call m t) = if (endOf B n τ m).1 = ("back" : Str) then endOf B n (endOf B n τ m).2 t else endOf B n τ m := by rw [endBy]
theorem of_some {x r : Str} (h : τ x = some r) : endOf B n τ x = (r, τ) := by
  rw [endOf.eq_def]
  dsimp only
  rw [h]
theorem of_none {x : Str} (h : τ x = none) : endOf B (n + 1) τ x = ((endBy B n (τ.put x "round") (tailOf B x)).1, (endBy B n (τ.put x "round") (tailOf B x)).2.put x (endBy B n (τ.put x "round") (tailOf B x)).1) := by
  rw [endOf.eq_def]
  dsimp only
  rw [h]
end
end MH
namespace MH
open PySem PySem.Spec PyProof.Rows L2
def silOf (B : List Menu) (n : Nat) : Tab → List Str → Str
  | _, [] => "out"
  | τ, x :: xs => if (endOf B n τ x).1 = "back" then silOf B n (endOf B n τ x).2 xs else (endOf B n τ x).1
def tab0 : Tab := fun _ => none
theorem Same.but {d : Addr} {H H1 H2 : Hp} (s : Same H H1) (h : H d = none) (b : But d H1 H2) : Same H H2 := fun a u e => b a u (ne_of_none e h) (s a u e)
theorem unk_len (B : List Menu) (τ : Tab) : unk B τ ≤ B.length := by
  unfold unk
  refine Nat.le_trans (List.length_filter_le _ _) ?_
  unfold namesOf
  rw [List.length_map]
  exact Nat.le_refl _
end MH
set_option Elab.async false
set_option linter.all false
set_option maxRecDepth 100000
set_option maxHeartbeats 4000000
namespace MH
open PySem PySem.Spec PyProof.Rows L2
/-! ### the plain law of silence -/
section
variable (T : Str → Act) (f0 : Str)
/-- what a menu that starts comes to within n levels -/
def ev : Nat → Str → Option Str
  | 0, _ => none
  | n + 1, x => match T x with
    | .line y => some y
    | .out => some "out"
    | .back => some "back"
    | .again => ev n x
    | .main => match ev n f0 with
      | none => none
      | some r => some (if r = "back" then "out" else r)
    | .go m => ev n m
    | .call m t => match ev n m with
      | none => none
      | some r => if r = "back" then ev n t else some r
/-- k acts from a stack; none: no end yet, or too high -/
def sim : Nat → List Str → Option Str
  | 0, _ => none
  | _ + 1, [] => none
  | k + 1, x :: below => if 40 < (x :: below).length then none else match T x with
    | .line y => some y
    | .out => some "out"
    | .back => if below = [] then some "out" else sim k below
    | .again => sim k (x :: below)
    | .main => sim k [f0]
    | .go m => sim k (m :: below)
    | .call m t => sim k (m :: t :: below)
end
section
variable {T : Str → Act} {f0 : Str}
theorem ev_mono : ∀ {n : Nat} {x r : Str}, ev T f0 n x = some r → ev T f0 (n + 1) x = some r
  | 0, x, r, h => by cases h
  | n + 1, x, r, h => by
    rw [ev] at h
    rw [ev]
    cases hT : T x with
    | line y => rw [hT] at h; exact h
    | out => rw [hT] at h; exact h
    | back => rw [hT] at h; exact h
    | again => rw [hT] at h; exact ev_mono h
    | go m => rw [hT] at h; exact ev_mono h
    | main =>
      rw [hT] at h
      dsimp only at h ⊢
      cases q : ev T f0 n f0 with
      | none => rw [q] at h; cases h
      | some r' => rw [q] at h; rw [ev_mono q]; exact h
    | call m t =>
      rw [hT] at h
      dsimp only at h ⊢
      cases q : ev T f0 n m with
      | none => rw [q] at h; cases h
      | some r' =>
        rw [q] at h
        rw [ev_mono q]
        dsimp only at h ⊢
        by_cases e : r' = "back"
        · rw [if_pos e] at h ⊢; exact ev_mono h
        · rw [if_neg e] at h ⊢; exact h
theorem ev_le {n m : Nat} {x r : Str} (h : ev T f0 n x = some r) (l : n ≤ m) : ev T f0 m x = some r := by
  induction l with
  | refl => exact h
  | step _ ih => exact ev_mono ih
theorem ev_same {n m : Nat} {x r r' : Str} (h : ev T f0 n x = some r) (h' : ev T f0 m x = some r') : r = r' := by
  rcases Nat.le_total n m with l | l
  · have := ev_le h l; rw [h'] at this; exact (Option.some.inj this).symm
  · have := ev_le h' l; rw [h] at this; exact Option.some.inj this
/-- from above: the acts that an evaluation takes -/
theorem ev_sim (hT : ∀ x y, T x = .line y → y ≠ "back") : ∀ {n : Nat} {x r : Str}, ev T f0 n x = some r → ∃ j, j + 1 ≤ 2 ^ n ∧ ∀ (below : List Str) (k : Nat), below.length + n ≤ 40 →
    sim T f0 (k + j) (x :: below) = if r = "back" then (if below = [] then some ("out" : Str) else sim T f0 k below) else some r
  | 0, x, r, h => by cases h
  | n + 1, x, r, h => by
    have p2 : 1 ≤ 2 ^ n := Nat.one_le_two_pow
    have e2 : 2 ^ (n + 1) = 2 ^ n + 2 ^ n := by rw [Nat.pow_succ]; omega
    rw [ev] at h
    cases q : T x with
    | line y =>
      rw [q] at h
      obtain rfl : y = r := Option.some.inj h
      refine ⟨1, by omega, fun below k hb => ?_⟩
      rw [sim, if_neg (by rw [List.length_cons]; omega), q, if_neg (hT x y q)]
    | out =>
      rw [q] at h
      obtain rfl : ("out" : Str) = r := Option.some.inj h
      refine ⟨1, by omega, fun below k hb => ?_⟩
      rw [sim, if_neg (by rw [List.length_cons]; omega), q, if_neg (show ("out" : Str) ≠ "back" by decide +kernel)]
    | back =>
      rw [q] at h
      obtain rfl : ("back" : Str) = r := Option.some.inj h
      refine ⟨1, by omega, fun below k hb => ?_⟩
      rw [sim, if_neg (by rw [List.length_cons]; omega), q, if_pos rfl]
    | again =>
      rw [q] at h
      obtain ⟨j, hj, s⟩ := ev_sim hT (n := n) (x := x) (r := r) h
      refine ⟨j + 1, by omega, fun below k hb => ?_⟩
      rw [← Nat.add_assoc, sim, if_neg (by rw [List.length_cons]; omega), q]
      exact s below k (by omega)
    | go m =>
      rw [q] at h
      obtain ⟨j, hj, s⟩ := ev_sim hT (n := n) (x := m) (r := r) h
      refine ⟨j + 1, by omega, fun below k hb => ?_⟩
      rw [← Nat.add_assoc, sim, if_neg (by rw [List.length_cons]; omega), q]
      exact s below k (by omega)
    | main =>
      rw [q] at h
      dsimp only at h
      cases q2 : ev T f0 n f0 with
      | none => rw [q2] at h; cases h
      | some r' =>
        rw [q2] at h
        obtain ⟨j, hj, s⟩ := ev_sim hT q2
        refine ⟨j + 1, by omega, fun below k hb => ?_⟩
        rw [← Nat.add_assoc, sim, if_neg (by rw [List.length_cons]; omega), q]
        dsimp only
        rw [s [] k (by simp; omega)]
        have h2 := Option.some.inj h
        by_cases e : r' = "back"
        · rw [if_pos e] at h2
          rw [if_pos e, if_pos rfl, ← h2, if_neg (show ("out" : Str) ≠ "back" by decide +kernel)]
        · rw [if_neg e] at h2
          rw [if_neg e, ← h2, if_neg e]
    | call m t =>
      rw [q] at h
      dsimp only at h
      cases q2 : ev T f0 n m with
      | none => rw [q2] at h; cases h
      | some r' =>
        rw [q2] at h
        obtain ⟨j, hj, s⟩ := ev_sim hT q2
        dsimp only at h
        by_cases e : r' = "back"
        · rw [if_pos e] at h
          obtain ⟨j2, hj2, s2⟩ := ev_sim hT (n := n) (x := t) (r := r) h
          refine ⟨j2 + j + 1, by omega, fun below k hb => ?_⟩
          rw [show k + (j2 + j + 1) = (k + j2) + j + 1 by omega, sim, if_neg (by rw [List.length_cons]; omega), q]
          dsimp only
          rw [s (t :: below) (k + j2) (by rw [List.length_cons]; omega), if_pos e, if_neg (List.cons_ne_nil _ _)]
          exact s2 below k (by omega)
        · rw [if_neg e] at h
          obtain rfl : r' = r := Option.some.inj h
          refine ⟨j + 1, by omega, fun below k hb => ?_⟩
          rw [← Nat.add_assoc, sim, if_neg (by rw [List.length_cons]; omega), q]
          dsimp only
          rw [s (t :: below) k (by rw [List.length_cons]; omega), if_neg e, if_neg e]
/-- an end behind a menu that goes back is an end of what lies beneath -/
theorem sim_back (hT : ∀ x y, T x = .line y → y ≠ "back") : ∀ (n : Nat) (x : Str) (k : Nat) (below : List Str) (e : Str), ev T f0 n x = some ("back" : Str) → below ≠ [] → sim T f0 k (x :: below) = some e → ∃ k', k' < k ∧ sim T f0 k' below = some e
  | 0, x, k, below, e, h, _, _ => by cases h
  | n + 1, x, 0, below, e, h, hb, hs => by cases hs
  | n + 1, x, k + 1, below, e, h, hb, hs => by
    rw [ev] at h
    rw [sim] at hs
    by_cases hl : 40 < (x :: below).length
    · rw [if_pos hl] at hs; cases hs
    rw [if_neg hl] at hs
    cases q : T x with
    | line y => rw [q] at h; exact absurd (Option.some.inj h) (hT x y q)
    | out => rw [q] at h; exact absurd (Option.some.inj h) (show ("out" : Str) ≠ "back" by decide +kernel)
    | back =>
      rw [q] at hs
      dsimp only at hs
      rw [if_neg hb] at hs
      exact ⟨k, Nat.lt_succ_self k, hs⟩
    | again =>
      rw [q] at h hs
      obtain ⟨k', l, s⟩ := sim_back hT n _ _ _ _ h hb hs
      exact ⟨k', by omega, s⟩
    | go m =>
      rw [q] at h hs
      obtain ⟨k', l, s⟩ := sim_back hT n _ _ _ _ h hb hs
      exact ⟨k', by omega, s⟩
    | main =>
      rw [q] at h
      dsimp only at h
      cases q2 : ev T f0 n f0 with
      | none => rw [q2] at h; cases h
      | some r' =>
        rw [q2] at h
        have h2 := Option.some.inj h
        by_cases e : r' = "back"
        · rw [if_pos e] at h2; exact absurd h2 (show ("out" : Str) ≠ "back" by decide +kernel)
        · rw [if_neg e] at h2; exact absurd h2 e
    | call m t =>
      rw [q] at h hs
      dsimp only at h hs
      cases q2 : ev T f0 n m with
      | none => rw [q2] at h; cases h
      | some r' =>
        rw [q2] at h
        dsimp only at h
        by_cases e : r' = "back"
        · rw [if_pos e] at h
          rw [e] at q2
          obtain ⟨k1, l1, s1⟩ := sim_back hT n _ _ _ _ q2 (List.cons_ne_nil _ _) hs
          obtain ⟨k2, l2, s2⟩ := sim_back hT n _ _ _ _ h hb s1
          exact ⟨k2, by omega, s2⟩
        · rw [if_neg e] at h
          exact absurd (Option.some.inj h) e
/-- from below: an end is an evaluation -/
theorem sim_ev (hT : ∀ x y, T x = .line y → y ≠ "back") : ∀ (k : Nat) {x : Str} {below : List Str} {e : Str}, sim T f0 k (x :: below) = some e → ∃ n r, ev T f0 n x = some r := by
  intro k
  induction k using Nat.strongRecOn with
  | ind k ih =>
    intro x below e hs
    match k, hs, ih with
    | 0, hs, _ => cases hs
    | k + 1, hs, ih =>
    rw [sim] at hs
    by_cases hl : 40 < (x :: below).length
    · rw [if_pos hl] at hs; cases hs
    rw [if_neg hl] at hs
    cases q : T x with
    | line y => exact ⟨1, y, by rw [ev, q]⟩
    | out => exact ⟨1, "out", by rw [ev, q]⟩
    | back => exact ⟨1, "back", by rw [ev, q]⟩
    | again =>
      rw [q] at hs
      obtain ⟨n, r, h⟩ := ih k (Nat.lt_succ_self k) hs
      exact ⟨n + 1, r, by rw [ev, q]; exact h⟩
    | go m =>
      rw [q] at hs
      obtain ⟨n, r, h⟩ := ih k (Nat.lt_succ_self k) hs
      exact ⟨n + 1, r, by rw [ev, q]; exact h⟩
    | main =>
      rw [q] at hs
      obtain ⟨n, r, h⟩ := ih k (Nat.lt_succ_self k) hs
      exact ⟨n + 1, _, by rw [ev, q]; dsimp only; rw [h]⟩
    | call m t =>
      rw [q] at hs
      obtain ⟨n, r, h⟩ := ih k (Nat.lt_succ_self k) hs
      by_cases e2 : r = "back"
      · rw [e2] at h
        obtain ⟨k', l, s⟩ := sim_back hT n _ _ _ _ h (List.cons_ne_nil _ _) hs
        obtain ⟨n2, r2, h2⟩ := ih k' (by omega) s
        refine ⟨max n n2 + 1, r2, ?_⟩
        rw [ev, q]
        dsimp only
        rw [ev_le h (Nat.le_max_left _ _)]
        dsimp only
        rw [if_pos rfl]
        exact ev_le h2 (Nat.le_max_right _ _)
      · refine ⟨n + 1, r, ?_⟩
        rw [ev, q]
        dsimp only
        rw [h]
        dsimp only
        rw [if_neg e2]
end
end MH
namespace MH
open PySem PySem.Spec PyProof.Rows L2
section
variable {T : Str → Act} {f0 : Str}
/-- what an action of menu x comes to -/
def evb (T : Str → Act) (f0 : Str) (n : Nat) (x : Str) (a : Act) : Option Str := match a with
    | .line y => some y
    | .out => some "out"
    | .back => some "back"
    | .again => ev T f0 n x
    | .main => match ev T f0 n f0 with
      | none => none
      | some r => some (if r = "back" then "out" else r)
    | .go m => ev T f0 n m
    | .call m t => match ev T f0 n m with
      | none => none
      | some r => if r = "back" then ev T f0 n t else some r
theorem ev_evb {n : Nat} {x : Str} : ev T f0 (n + 1) x = evb T f0 n x (T x) := by
  rw [ev]
  rfl
def Rel (T : Str → Act) (f0 : Str) (S : List Str) (y : Str) : Prop := ∀ n, ev T f0 n y ≠ none → ∃ s ∈ S, ∃ m, m ≤ n ∧ ev T f0 m s ≠ none
end
structure Good (B : List Menu) (S : List Str) (τ : Tab) : Prop where
  room : unk B τ + S.length ≤ (namesOf B).length
  val : ∀ y r, τ y = some r → r ≠ "round" → ev (tailOf B) (firstOf B) ((namesOf B).length - unk B τ - S.length) y = some r
  rnd : ∀ y, τ y = some "round" → Rel (tailOf B) (firstOf B) S y
structure Plain (B : List Menu) : Prop where
  line : ∀ x y, tailOf B x = .line y → y ≠ "back" ∧ y ≠ "round"
  first : firstOf B ∈ namesOf B
  names : ∀ x ∈ namesOf B, ∀ y ∈ (tailOf B x).names, y ∈ namesOf B
/-- what endOf promises -/
structure EndOk (B : List Menu) (S : List Str) (τ : Tab) (x : Str) (q : Str × Tab) : Prop where
  good : Good B S q.2
  val : q.1 ≠ "round" → ev (tailOf B) (firstOf B) ((namesOf B).length - unk B q.2 - S.length) x = some q.1 ∧ ∀ y, q.2 y = some "round" → τ y = some "round"
  rnd : q.1 = "round" → Rel (tailOf B) (firstOf B) S x
structure ByOk (B : List Menu) (S : List Str) (τ : Tab) (x : Str) (a : Act) (q : Str × Tab) : Prop where
  good : Good B S q.2
  val : q.1 ≠ "round" → evb (tailOf B) (firstOf B) ((namesOf B).length - unk B q.2 - S.length) x a = some q.1 ∧ ∀ y, q.2 y = some "round" → τ y = some "round"
  rnd : q.1 = "round" → ∀ n, evb (tailOf B) (firstOf B) n x a ≠ none → ∃ s ∈ S, ∃ m, m ≤ n ∧ ev (tailOf B) (firstOf B) m s ≠ none
theorem cond_ne {r : Str} (h : (if r = "back" then ("out" : Str) else r) ≠ "round") : r ≠ "round" := fun e => by
  rw [e, if_neg (show ("round" : Str) ≠ "back" by decide +kernel)] at h
  exact h rfl
theorem by_ok {B : List Menu} (P : Plain B) {n : Nat} (A : ∀ (S : List Str) (τ : Tab) (x : Str), Good B S τ → x ∈ namesOf B → unk B τ ≤ n → EndOk B S τ x (endOf B n τ x)) {S : List Str} {τ : Tab} {x : Str} {a : Act} (hx : x ∈ S) (g : Good B S τ)
    (hl : ∀ y, a = .line y → y ≠ "round") (hn : ∀ y ∈ a.names, y ∈ namesOf B) (hu : unk B τ ≤ n) : ByOk B S τ x a (endBy B n τ a) := by
  have r1 : ("out" : Str) ≠ "round" := by decide +kernel
  have r2 : ("back" : Str) ≠ "round" := by decide +kernel
  have r3 : ("round" : Str) ≠ "back" := by decide +kernel
  cases a with
  | line y => rw [by_line]; exact ⟨g, fun _ => ⟨rfl, fun _ h => h⟩, fun h => absurd h (hl y rfl)⟩
  | out => rw [by_out]; exact ⟨g, fun _ => ⟨rfl, fun _ h => h⟩, fun h => absurd h r1⟩
  | back => rw [by_back]; exact ⟨g, fun _ => ⟨rfl, fun _ h => h⟩, fun h => absurd h r2⟩
  | again => rw [by_again]; exact ⟨g, fun h => absurd rfl h, fun _ m hm => ⟨x, hx, m, Nat.le_refl _, hm⟩⟩
  | go m =>
    rw [by_go]
    have q := A S τ m g (hn m (by simp [Act.names])) hu
    exact ⟨q.good, q.val, q.rnd⟩
  | main =>
    rw [by_main]
    have q := A S τ (firstOf B) g P.first hu
    refine ⟨q.good, fun h => ?_, fun h m hm => ?_⟩
    · obtain ⟨v1, v2⟩ := q.val (cond_ne h)
      refine ⟨?_, v2⟩
      show (match ev (tailOf B) (firstOf B) _ (firstOf B) with
        | none => none
        | some r => some (if r = "back" then ("out" : Str) else r)) = _
      rw [v1]
    · have e : (endOf B n τ (firstOf B)).1 = "round" := by
        by_cases b : (endOf B n τ (firstOf B)).1 = "back"
        · have h2 : (if (endOf B n τ (firstOf B)).1 = "back" then ("out" : Str) else (endOf B n τ (firstOf B)).1) = "round" := h
          rw [if_pos b] at h2
          exact absurd h2 r1
        · have h2 : (if (endOf B n τ (firstOf B)).1 = "back" then ("out" : Str) else (endOf B n τ (firstOf B)).1) = "round" := h
          rw [if_neg b] at h2
          exact h2
      refine q.rnd e m fun z => hm ?_
      show (match ev (tailOf B) (firstOf B) m (firstOf B) with
        | none => none
        | some r => some (if r = "back" then ("out" : Str) else r)) = none
      rw [z]
  | call m t =>
    rw [by_call]
    have q := A S τ m g (hn m (by simp [Act.names])) hu
    have le1 := (end_le B n).1 τ m
    by_cases b : (endOf B n τ m).1 = "back"
    · rw [if_pos b]
      have hu2 : unk B (endOf B n τ m).2 ≤ n := Nat.le_trans (unk_le le1) hu
      have q2 := A S (endOf B n τ m).2 t q.good (hn t (by simp [Act.names])) hu2
      have le2 := unk_le (B := B) ((end_le B n).1 (endOf B n τ m).2 t)
      obtain ⟨v1, v2⟩ := q.val (by rw [b]; exact r2)
      rw [b] at v1
      refine ⟨q2.good, fun h => ?_, fun h k hk => ?_⟩
      · obtain ⟨w1, w2⟩ := q2.val h
        refine ⟨?_, fun y hy => v2 y (w2 y hy)⟩
        show (match ev (tailOf B) (firstOf B) _ m with
          | none => none
          | some r => if r = "back" then ev (tailOf B) (firstOf B) _ t else some r) = _
        rw [ev_le v1 (by omega)]
        exact w1
      · refine q2.rnd h k fun z => hk ?_
        show (match ev (tailOf B) (firstOf B) k m with
          | none => none
          | some r => if r = "back" then ev (tailOf B) (firstOf B) k t else some r) = none
        cases w : ev (tailOf B) (firstOf B) k m with
        | none => rfl
        | some r =>
          have := ev_same w v1
          dsimp only
          rw [this, if_pos rfl]
          exact z
    · rw [if_neg b]
      refine ⟨q.good, fun h => ?_, fun h k hk => ?_⟩
      · obtain ⟨v1, v2⟩ := q.val h
        refine ⟨?_, v2⟩
        show (match ev (tailOf B) (firstOf B) _ m with
          | none => none
          | some r => if r = "back" then ev (tailOf B) (firstOf B) _ t else some r) = _
        rw [v1]
        exact if_neg b
      · refine q.rnd h k fun z => hk ?_
        show (match ev (tailOf B) (firstOf B) k m with
          | none => none
          | some r => if r = "back" then ev (tailOf B) (firstOf B) k t else some r) = none
        rw [z]
theorem end_ok {B : List Menu} (P : Plain B) : ∀ (n : Nat) (S : List Str) (τ : Tab) (x : Str), Good B S τ → x ∈ namesOf B → unk B τ ≤ n → EndOk B S τ x (endOf B n τ x) := by
  intro n
  have known : ∀ (n : Nat) (S : List Str) (τ : Tab) (x r : Str), Good B S τ → τ x = some r → EndOk B S τ x (endOf B n τ x) := fun n S τ x r g h => by
    rw [of_some h]
    exact ⟨g, fun e => ⟨g.val x r h e, fun _ z => z⟩, fun e => g.rnd x (by rw [h]; exact congrArg some e)⟩
  induction n with
  | zero =>
    intro S τ x g hx hu
    cases h : τ x with
    | some r => exact known 0 S τ x r g h
    | none =>
      have := unk_put (r := "round") hx h
      omega
  | succ n ih =>
    intro S τ x g hx hu
    cases h : τ x with
    | some r => exact known (n + 1) S τ x r g h
    | none =>
      rw [of_none h]
      have up := unk_put (r := "round") hx h
      have room := g.room
      have g1 : Good B (x :: S) (τ.put x "round") := by
        refine ⟨by rw [List.length_cons]; omega, fun y r e hr => ?_, fun y e => ?_⟩
        · unfold Tab.put at e
          by_cases ey : y = x
          · rw [if_pos ey] at e; exact absurd (Option.some.inj e).symm hr
          · rw [if_neg ey] at e
            exact ev_le (g.val y r e hr) (by rw [List.length_cons]; omega)
        · unfold Tab.put at e
          by_cases ey : y = x
          · exact fun m hm => ⟨x, List.mem_cons_self, m, Nat.le_refl _, by rw [ey] at hm; exact hm⟩
          · rw [if_neg ey] at e
            exact fun m hm => let ⟨s, hs, k, hk, z⟩ := g.rnd y e m hm; ⟨s, List.mem_cons_of_mem _ hs, k, hk, z⟩
      have b := by_ok P (n := n) ih (S := x :: S) (τ := τ.put x "round") (x := x) (a := tailOf B x) List.mem_cons_self g1 (fun y e => (P.line x y e).2) (P.names x hx) (by omega)
      generalize endBy B n (τ.put x "round") (tailOf B x) = q at b ⊢
      have room2 := b.good.room
      rw [List.length_cons] at room2
      have le3 := unk_le (B := B) (Tab.le_put q.2 x q.1)
      -- a round answer
      have relx : q.1 = "round" → Rel (tailOf B) (firstOf B) S x := fun e m => by
        induction m using Nat.strongRecOn with
        | ind m ihm =>
          intro hm
          match m, hm, ihm with
          | 0, hm, _ => exact absurd rfl hm
          | m + 1, hm, ihm =>
            rw [ev_evb] at hm
            obtain ⟨s, hs, k, hk, z⟩ := b.rnd e m hm
            rcases List.mem_cons.mp hs with rfl | hs
            · obtain ⟨s2, hs2, k2, hk2, z2⟩ := ihm k (by omega) z
              exact ⟨s2, hs2, k2, by omega, z2⟩
            · exact ⟨s, hs, k, by omega, z⟩
      have evx : q.1 ≠ "round" → ev (tailOf B) (firstOf B) ((namesOf B).length - unk B (q.2.put x q.1) - S.length) x = some q.1 := fun e => by
        have z := (b.val e).1
        rw [← ev_evb, List.length_cons] at z
        exact ev_le z (by omega)
      have rset : q.1 ≠ "round" → ∀ y, (q.2.put x q.1) y = some "round" → τ y = some "round" := fun e y hy => by
        unfold Tab.put at hy
        by_cases ey : y = x
        · rw [if_pos ey] at hy; exact absurd (Option.some.inj hy) e
        · rw [if_neg ey] at hy
          have := (b.val e).2 y hy
          unfold Tab.put at this
          rw [if_neg ey] at this
          exact this
      refine ⟨⟨by show unk B (q.2.put x q.1) + S.length ≤ _; omega, fun y r e hr => ?_, fun y e => ?_⟩, fun e => ⟨evx e, rset e⟩, relx⟩
      · have e2 : (q.2.put x q.1) y = some r := e
        unfold Tab.put at e2
        by_cases ey : y = x
        · rw [if_pos ey] at e2
          have e3 := Option.some.inj e2
          rw [ey, ← e3]
          exact evx (by rw [e3]; exact hr)
        · rw [if_neg ey] at e2
          refine ev_le (b.good.val y r e2 hr) ?_
          show _ ≤ (namesOf B).length - unk B (q.2.put x q.1) - S.length
          rw [List.length_cons]
          omega
      · by_cases eq : q.1 = "round"
        · have rx := relx eq
          have e2 : (q.2.put x q.1) y = some "round" := e
          unfold Tab.put at e2
          by_cases ey : y = x
          · rw [ey]; exact rx
          · rw [if_neg ey] at e2
            intro m hm
            obtain ⟨s, hs, k, hk, z⟩ := b.good.rnd y e2 m hm
            rcases List.mem_cons.mp hs with rfl | hs
            · obtain ⟨s2, hs2, k2, hk2, z2⟩ := rx k z
              exact ⟨s2, hs2, k2, by omega, z2⟩
            · exact ⟨s, hs, k, hk, z⟩
        · exact g.rnd y (rset eq y e)
theorem sil_sim {B : List Menu} (P : Plain B) {n : Nat} (hn : (namesOf B).length ≤ n) : ∀ (xs : List Str) (τ : Tab), xs ≠ [] → Good B [] τ → (∀ x ∈ xs, x ∈ namesOf B) → xs.length + (namesOf B).length ≤ 40 → ∀ k, xs.length * 2 ^ (namesOf B).length ≤ k →
    (sim (tailOf B) (firstOf B) k xs).getD "round" = silOf B n τ xs
  | [], _, h, _, _, _, _, _ => absurd rfl h
  | x :: rest, τ, _, g, hin, hl, k, hk => by
    have hu : unk B τ ≤ n := by have := g.room; simp at this; omega
    have q := end_ok P n [] τ x g (hin x List.mem_cons_self) hu
    rw [silOf]
    generalize endOf B n τ x = e at q ⊢
    have hT : ∀ x y, tailOf B x = .line y → y ≠ "back" := fun x y h => (P.line x y h).1
    by_cases r : e.1 = "round"
    · rw [if_neg (by rw [r]; decide +kernel), r]
      cases s : sim (tailOf B) (firstOf B) k (x :: rest) with
      | none => rfl
      | some y =>
        obtain ⟨m, v, hv⟩ := sim_ev hT k s
        obtain ⟨s, hs, _⟩ := q.rnd r m (by rw [hv]; exact Option.some_ne_none _)
        cases hs
    · obtain ⟨j, hj, s⟩ := ev_sim hT (ev_le (q.val r).1 (Nat.le_trans (Nat.sub_le _ _) (Nat.sub_le _ _)))
      rw [List.length_cons, Nat.add_mul, Nat.one_mul] at hk
      have z := s rest (k - j) (by rw [List.length_cons] at hl; omega)
      rw [show k - j + j = k by omega] at z
      rw [z]
      by_cases b : e.1 = "back"
      · rw [if_pos b, if_pos b]
        by_cases hr : rest = []
        · rw [if_pos hr, hr, silOf]; rfl
        · rw [if_neg hr]
          exact sil_sim P hn rest e.2 hr q.good (fun y hy => hin y (List.mem_cons_of_mem _ hy)) (by rw [List.length_cons] at hl; omega) _ (by omega)
      · rw [if_neg b, if_neg b]; rfl
theorem good0 (B : List Menu) : Good B [] tab0 := ⟨by have : unk B tab0 ≤ (namesOf B).length := List.length_filter_le _ _; simpa using this, fun y r h => (by cases h), fun y h => (by cases h)⟩
end MH
namespace MH
open PySem PySem.Spec PyProof.Rows L2
theorem tailOf_mem {B : List Menu} {x : Str} {a : Act} (h : tailOf B x = a) (ha : a ≠ .out) : ∃ m ∈ B, m.name = x ∧ m.tail = a := by
  unfold tailOf at h
  cases q : B.find? (fun m => decide (m.name = x)) with
  | none => rw [q] at h; exact absurd h.symm ha
  | some m =>
    rw [q] at h
    exact ⟨m, List.mem_of_find?_eq_some q, by simpa using List.find?_some q, h⟩
theorem back_barred : inV (.str "back") (barred.map V.str) = true := by decide +kernel
theorem plain_of {B : List Menu} (h : BoardOk B) : Plain B where
  line := fun x y e => by
    obtain ⟨m, hm, _, ht⟩ := tailOf_mem e (fun z => by cases z)
    have ok := (h.ok m hm).tail
    rw [ht] at ok
    have ok2 : okName y = true := ok
    refine ⟨fun z => ?_, fun z => ?_⟩
    · rw [z] at ok2
      exact absurd ok2 (by decide +kernel)
    · rw [z] at ok2
      exact absurd ok2 (by decide +kernel)
  first := first_mem h
  names := fun x hx y hy => by
    by_cases e : tailOf B x = .out
    · rw [e] at hy; cases hy
    · obtain ⟨m, hm, _, ht⟩ := tailOf_mem rfl e
      refine h.closed m hm y ?_
      rw [← ht] at hy
      unfold Menu.names Menu.acts
      exact List.mem_flatMap.mpr ⟨m.tail, List.mem_append_right _ (List.mem_singleton.mpr rfl), hy⟩
theorem tailOf_sorted (B : List Menu) : tailOf (B.map Menu.sorted) = tailOf B := by
  funext x
  unfold tailOf
  induction B with
  | nil => rfl
  | cons m B ih =>
    rw [List.map_cons, List.find?_cons, List.find?_cons]
    show (match (match decide (m.name = x) with | true => some m.sorted | false => _) with | some m => m.tail | none => Act.out) = _
    cases decide (m.name = x) with
    | true => rfl
    | false => exact ih
theorem firstOf_sorted (B : List Menu) : firstOf (B.map Menu.sorted) = firstOf B := by
  cases B <;> rfl
theorem sil_law {B : List Menu} (h : BoardOk B) (few : B.length ≤ 7) {xs : List Str} (hne : xs ≠ []) (hl : xs.length ≤ 8) (hin : ∀ x ∈ xs, x ∈ namesOf B) : silOf (B.map Menu.sorted) 7 tab0 xs = (sim (tailOf B) (firstOf B) 2000 xs).getD "round" := by
  have P := plain_of h.sorted
  have e := sorted_namesOf B
  have nl : (namesOf B).length ≤ 7 := by unfold namesOf; rw [List.length_map]; exact few
  have p : 2 ^ (namesOf B).length ≤ 2 ^ 7 := Nat.pow_le_pow_right (by decide) nl
  have z := sil_sim P (n := 7) (by rw [e]; exact nl) xs tab0 hne (good0 _) (fun x hx => by rw [e]; exact hin x hx) (by rw [e]; omega) 2000 (by
    rw [e]
    have : xs.length * 2 ^ (namesOf B).length ≤ 8 * 2 ^ 7 := Nat.mul_le_mul hl p
    omega)
  rw [tailOf_sorted, firstOf_sorted] at z
  exact z.symm
end MH
set_option Elab.async false
set_option linter.all false
set_option maxRecDepth 100000
set_option maxHeartbeats 4000000
namespace MH
open PySem PySem.Spec PyProof.Rows L2
/-! ### the law's own call -/
def eV : Option Str → V
  | none => .non
  | some y => .str y
def callKv (sl : Addr) (t : Int) (e : V) (pr : Int) (sd : Addr) (ls : Bool) : List (Key × V) :=
  [(Sum.inr "stack", .ref sl), (Sum.inr "tries", .int t), (Sum.inr "end", e), (Sum.inr "presses", .int pr), (Sum.inr "started", .ref sd), (Sum.inr "lost", .bl ls)]
section
variable {sl sd sl' sd' : Addr} {t pr t' : Int} {e e' : V} {ls ls' : Bool}
theorem put_stack : putK (callKv sl t e pr sd ls) (Sum.inr ("stack" : Str)) (.ref sl') = callKv sl' t e pr sd ls := by rfl
theorem put_tries : putK (callKv sl t e pr sd ls) (Sum.inr ("tries" : Str)) (.int t') = callKv sl t' e pr sd ls := by rfl
theorem put_end : putK (callKv sl t e pr sd ls) (Sum.inr ("end" : Str)) e' = callKv sl t e' pr sd ls := by rfl
theorem put_started : putK (callKv sl t e pr sd ls) (Sum.inr ("started" : Str)) (.ref sd') = callKv sl t e pr sd' ls := by rfl
theorem put_lost : putK (callKv sl t e pr sd ls) (Sum.inr ("lost" : Str)) (.bl ls') = callKv sl t e pr sd ls' := by rfl
theorem get_stack : valV (callKv sl t e pr sd ls) (Sum.inr ("stack" : Str)) = some (.ref sl) := by rfl
theorem get_end : valV (callKv sl t e pr sd ls) (Sum.inr ("end" : Str)) = some e := by rfl
theorem get_started : valV (callKv sl t e pr sd ls) (Sum.inr ("started" : Str)) = some (.ref sd) := by rfl
theorem get_lost : valV (callKv sl t e pr sd ls) (Sum.inr ("lost" : Str)) = some (.bl ls) := by rfl
end
section
variable {H : Hp} {d sl sd : Addr} {t pr : Int} {e : V} {ls : Bool} (h : H d = some (.dK (callKv sl t e pr sd ls)))
include h
theorem g_stack : DGet H d (.str "stack") (some (.ref sl)) := DGet.k (k := Sum.inr "stack") h
theorem g_end : DGet H d (.str "end") (some e) := DGet.k (k := Sum.inr "end") h
theorem g_started : DGet H d (.str "started") (some (.ref sd)) := DGet.k (k := Sum.inr "started") h
theorem g_lost : DGet H d (.str "lost") (some (.bl ls)) := DGet.k (k := Sum.inr "lost") h
theorem p_stack (sl' : Addr) : DPut H d (.str "stack") (.ref sl') (upd H d (.dK (callKv sl' t e pr sd ls))) := DPut.k (k := Sum.inr "stack") h (by show 6 < sizeLine; decide)
theorem p_tries (t' : Int) : DPut H d (.str "tries") (.int t') (upd H d (.dK (callKv sl t' e pr sd ls))) := DPut.k (k := Sum.inr "tries") h (by show 6 < sizeLine; decide)
theorem p_end (e' : V) : DPut H d (.str "end") e' (upd H d (.dK (callKv sl t e' pr sd ls))) := DPut.k (k := Sum.inr "end") h (by show 6 < sizeLine; decide)
theorem p_started (sd' : Addr) : DPut H d (.str "started") (.ref sd') (upd H d (.dK (callKv sl t e pr sd' ls))) := DPut.k (k := Sum.inr "started") h (by show 6 < sizeLine; decide)
theorem p_lost (ls' : Bool) : DPut H d (.str "lost") (.bl ls') (upd H d (.dK (callKv sl t e pr sd ls'))) := DPut.k (k := Sum.inr "lost") h (by show 6 < sizeLine; decide)
end
/-- the call at d -/
def CallAt (b : Nat) (H : Hp) (d : Addr) (stack : List Str) (e : Option Str) : Prop := ∃ sl t pr sd sts ls, H d = some (.dK (callKv sl t (eV e) pr sd ls)) ∧ H sl = some (.lst (stack.map V.str)) ∧ H sd = some (.lst sts) ∧ sts.length ≤ b
/-- an act of a stack -/
def actOf (f0 : Str) (stack : List Str) : Act → List Str × Option Str
  | .line y => ([], some y)
  | .out => ([], some "out")
  | .back => (stack.tail, if stack.tail = [] then some "out" else none)
  | .again => (stack, none)
  | .main => ([f0], none)
  | .go m => (m :: stack.tail, none)
  | .call m t => (m :: t :: stack.tail, none)
theorem But.keep {d b : Addr} {H H' : Hp} {kvs : List (Key × V)} {o : HO} (a : But d H H') (hd : H d = some (.dK kvs)) (hb : H b = some o) (n : ∀ k, o ≠ .dK k) : H' b = some o := a b o (fun e => by rw [e, hd] at hb; exact n _ (Option.some.inj hb).symm) hb
theorem LMenuV.butD {d : Addr} {H H' : Hp} {kvs : List (Key × V)} {x : V} {m : Menu} (a : But d H H') (hd : H d = some (.dK kvs)) (h : LMenuV H x m) : LMenuV H' x m := by
  obtain ⟨t, rl, rs, tv, i⟩ := h
  have fz : Fz (fun _ => False) H H' := a.fzD hd
  exact ⟨t, rl, rs, tv, i.eq, fz _ _ i.at_ trivial, a.keep hd i.rows (fun _ z => by cases z), paired_imp i.prows fun _ _ q => q.mono fz, i.tail.mono fz⟩
theorem SqL.butD {K : PySem.W.Frag} {d l : Addr} {H H' : Hp} {kvs : List (Key × V)} {xs : List V} (a : But d H H') (hd : H d = some (.dK kvs)) (h : SqL K H l xs) : SqL K H' l xs := by
  refine h.elim (fun h => .inl (h.elim (fun h => .inl (a.keep hd h (fun _ z => by cases z))) fun ⟨o, h⟩ => .inr ⟨o, a.keep hd h (fun _ z => by cases z)⟩)) .inr
end MH
namespace MH
open PySem PySem.Spec PyProof.Rows L2
theorem cut_tail (xs : List V) : cutV xs (some 1) none = xs.tail := by
  unfold cutV
  have e1 := HT.sIx_nat xs.length 0 1
  rw [show HT.sIx xs.length 0 (some 1) = min 1 xs.length from e1, HT.sIx_none]
  cases xs with
  | nil => rfl
  | cons x r => simp
theorem tail_in {P : Str → Prop} {xs : List Str} (h : ∀ x ∈ xs, P x) : ∀ x ∈ xs.tail, P x := fun x hx => h x (List.mem_of_mem_tail hx)
end MH
namespace MH
open PySem PySem.Spec PyProof.Rows L2
/-- one act of the law's walk, by sim -/
theorem act_sim {T : Str → Act} {f0 : Str} {k : Nat} {x : Str} {below : List Str} (hl : ¬ 40 < (x :: below).length) : sim T f0 (k + 1) (x :: below) = match (actOf f0 (x :: below) (T x)).2 with
    | some r => some r
    | none => sim T f0 k (actOf f0 (x :: below) (T x)).1 := by
  rw [sim, if_neg hl]
  cases T x with
  | line y => rfl
  | out => rfl
  | again => rfl
  | main => rfl
  | go m => rfl
  | call m t => rfl
  | back =>
    show (if below = [] then some ("out" : Str) else sim T f0 k below) = match (if below = [] then some ("out" : Str) else none) with
      | some r => some r
      | none => sim T f0 k below
    by_cases h : below = []
    · rw [if_pos h, if_pos h]
    · rw [if_neg h, if_neg h]
theorem act_mem {B : List Menu} (ok : BoardOk B) {st : List Str} {a : Act} (hs : ∀ x ∈ st, x ∈ namesOf B) (hn : ∀ x ∈ a.names, x ∈ namesOf B) : ∀ x ∈ (actOf (firstOf B) st a).1, x ∈ namesOf B := by
  intro x hx
  cases a with
  | line y => cases hx
  | out => cases hx
  | back => exact hs x (List.mem_of_mem_tail hx)
  | again => exact hs x hx
  | main => rw [List.mem_singleton.mp hx]; exact first_mem ok
  | go m => exact (List.mem_cons.mp hx).elim (fun z => z ▸ hn m (by simp [Act.names])) fun z => hs x (List.mem_of_mem_tail z)
  | call m t => exact (List.mem_cons.mp hx).elim (fun z => z ▸ hn m (by simp [Act.names])) fun z => (List.mem_cons.mp z).elim (fun z => z ▸ hn t (by simp [Act.names])) fun z => hs x (List.mem_of_mem_tail z)
theorem act_ne {f0 : Str} {st : List Str} {a : Act} (h : (actOf f0 st a).2 = none) (hs : st ≠ []) : (actOf f0 st a).1 ≠ [] := by
  cases a with
  | line y => cases h
  | out => cases h
  | back =>
    intro z
    have z' : st.tail = [] := z
    have h' : (if st.tail = [] then some ("out" : Str) else none) = none := h
    rw [if_pos z'] at h'
    cases h'
  | again => exact hs
  | main => exact List.cons_ne_nil _ _
  | go m => exact List.cons_ne_nil _ _
  | call m t => exact List.cons_ne_nil _ _
theorem act_len {f0 : Str} {st : List Str} {a : Act} (hs : st.length ≤ 40) : (actOf f0 st a).1.length ≤ 42 := by
  cases a with
  | line y => exact Nat.zero_le _
  | out => exact Nat.zero_le _
  | back => show st.tail.length ≤ 42; rw [List.length_tail]; omega
  | again => show st.length ≤ 42; omega
  | main => show 1 ≤ 42; omega
  | go m => show st.tail.length + 1 ≤ 42; rw [List.length_tail]; omega
  | call m t => show st.tail.length + 1 + 1 ≤ 42; rw [List.length_tail]; omega
theorem sim_high {T : Str → Act} {f0 : Str} {k : Nat} {st : List Str} (h : 40 < st.length) : sim T f0 k st = none := by
  cases k with
  | zero => rfl
  | succ k =>
    cases st with
    | nil => rfl
    | cons x r => rw [sim, if_pos h]
end MH
namespace MH
open PySem PySem.Spec PyProof.Rows L2
theorem CallAt.same {b : Nat} {H H' : Hp} {d : Addr} {st : List Str} {e : Option Str} (s : Same H H') (h : CallAt b H d st e) : CallAt b H' d st e := let ⟨sl, t, pr, sd, sts, ls, h1, h2, h3, h4⟩ := h; ⟨sl, t, pr, sd, sts, ls, s _ _ h1, s _ _ h2, s _ _ h3, h4⟩
theorem LMenuV.parts {H : Hp} {x : V} {m : Menu} (h : LMenuV H x m) : ∃ t rl tv, x = .ref t ∧ H t = some (.tup [.str m.name, .ref rl, tv, .int m.tries, .bl m.clears]) ∧ ActV H tv m.tail := let ⟨t, rl, rs, tv, i⟩ := h; ⟨t, rl, tv, i.eq, i.at_, i.tail⟩
theorem tail_names {B : List Menu} (ok : BoardOk B) {m : Menu} (hm : m ∈ B) : ∀ x ∈ m.tail.names, x ∈ namesOf B := fun x hx => ok.closed m hm x (by
  unfold Menu.names Menu.acts
  exact List.mem_flatMap.mpr ⟨m.tail, List.mem_append_right _ (List.mem_singleton.mpr rfl), hx⟩)
end MH
namespace MH
open PySem PySem.Spec PyProof.Rows L2
theorem hide_sub {p q : Addr} {H : Hp} : Same (hide p q H) H := fun _ _ h => hide_some h
theorem okTx_name {x : Str} (h : okName x = true) : okTx x = true := List.all_eq_true.mpr fun c hc => by
  have := let_low (okName_low h c hc)
  exact decide_eq_true (by omega)
theorem okTx_board {B : List Menu} (ok : BoardOk B) : ∀ x ∈ namesOf B, okTx x = true := fun x hx => by
  obtain ⟨m, hm, rfl⟩ := List.mem_map.mp hx
  exact okTx_name (ok.ok m hm).name
end MH
set_option Elab.async false
set_option linter.all false
set_option maxRecDepth 100000
set_option maxHeartbeats 4000000
namespace MH
open PySem PySem.Spec PyProof.Rows L2
/-! ### numbers of menus -/
def nV : Option Int → V
  | none => .non
  | some n => .int n
def lV : Option Str → V
  | none => .non
  | some x => .str x
def plusN : Option Int → Option Int → Option Int
  | some a, some b => some (a + b)
  | _, _ => none
def lesserN : Option Int → Option Int → Option Int
  | none, b => b
  | a, none => a
  | some a, some b => some (if b < a then b else a)
def belowN : Option Int → Option Int → Bool
  | none, _ => false
  | some _, none => true
  | some a, some b => decide (a < b)
abbrev Step : Type := Int × Str × Act
def rowStep (r : Str × Act) : Step := ((1 : Int), r.1, r.2)
def tailStep (a : Act) : Step := ((0 : Int), ("-" : Str), a)
def Menu.steps (m : Menu) : List Step := m.rows.map rowStep ++ [tailStep m.tail]
def StepV (H : Hp) (x : V) (s : Step) : Prop := ∃ t y, x = .ref t ∧ H t = some (.tup [.int s.1, .str s.2.1, y]) ∧ ActV H y s.2.2
theorem StepV.mono {Fr : Addr → Prop} {H H' : Hp} {x : V} {s : Step} (e : Fz Fr H H') (h : StepV H x s) : StepV H' x s := let ⟨t, y, p, q, r⟩ := h; ⟨t, y, p, e _ _ q trivial, r.mono e⟩
theorem steps_len {m : Menu} (h : m.Ok) : m.steps.length ≤ 21 := by
  unfold Menu.steps
  have := h.rows.2.2
  simp
  omega
theorem steps_ok {m : Menu} (h : m.Ok) : ∀ s ∈ m.steps, s.2.2.ok = true ∧ (s.1 = 0 ∨ s.1 = 1) := fun s hs => by
  unfold Menu.steps at hs
  rcases List.mem_append.mp hs with hs | hs
  · obtain ⟨r, hr, rfl⟩ := List.mem_map.mp hs
    exact ⟨(h.rows.1 r hr).2, .inr rfl⟩
  · rw [List.mem_singleton.mp hs]
    exact ⟨h.tail, .inl rfl⟩
theorem steps_names {B : List Menu} (ok : BoardOk B) {m : Menu} (hm : m ∈ B) : ∀ s ∈ m.steps, ∀ x ∈ s.2.2.names, x ∈ namesOf B := fun s hs x hx => ok.closed m hm x (by
  unfold Menu.names Menu.acts
  unfold Menu.steps at hs
  rcases List.mem_append.mp hs with hs | hs
  · obtain ⟨r, hr, rfl⟩ := List.mem_map.mp hs
    exact List.mem_flatMap.mpr ⟨r.2, List.mem_append_left _ (List.mem_map_of_mem hr), hx⟩
  · rw [List.mem_singleton.mp hs] at hx
    exact List.mem_flatMap.mpr ⟨m.tail, List.mem_append_right _ (List.mem_singleton.mpr rfl), hx⟩)
/-- a dict from the board's names to numbers -/
def NumAt (B : List Menu) (H : Hp) (d : Addr) (τ : Str → Option Int) : Prop := ∃ kvs : List (Key × V), H d = some (.dK kvs) ∧ (∀ x ∈ namesOf B, valV kvs (Sum.inr x) = some (nV (τ x))) ∧ kvs.length ≤ 1000
theorem NumAt.same {B : List Menu} {H H' : Hp} {d : Addr} {τ : Str → Option Int} (e : Same H H') (h : NumAt B H d τ) : NumAt B H' d τ := let ⟨kvs, a, b, c⟩ := h; ⟨kvs, e _ _ a, b, c⟩
theorem NumAt.get {B : List Menu} {H : Hp} {d : Addr} {τ : Str → Option Int} (h : NumAt B H d τ) {x : Str} (hx : x ∈ namesOf B) : DGet H d (.str x) (some (nV (τ x))) := by
  obtain ⟨kvs, hd, hv, _⟩ := h
  rw [← hv x hx]
  exact DGet.k (k := Sum.inr x) hd
def setN (τ : Str → Option Int) (x : Str) (n : Option Int) : Str → Option Int := fun y => if y = x then n else τ y
theorem NumAt.put {B : List Menu} {H : Hp} {d : Addr} {τ : Str → Option Int} (h : NumAt B H d τ) {x : Str} (hx : x ∈ namesOf B) (n : Option Int) : ∃ H', DPut H d (.str x) (nV n) H' ∧ But d H H' ∧ NumAt B H' d (setN τ x n) := by
  obtain ⟨kvs, hd, hv, hl⟩ := h
  refine ⟨_, DPut.k (k := Sum.inr x) hd (line_lt (by omega)), (But.refl d H).upd, _, upd_same, fun y hy => ?_, ?_⟩
  · rw [valV_put]
    unfold setN
    by_cases e : y = x
    · rw [if_pos (by rw [e]), if_pos e]
    · rw [if_neg (fun z => e (Sum.inr.inj z)), if_neg e]
      exact hv y hy
  · rw [put_len, hv x hx]
    exact hl
/-- what an action tells -/
def toldTo (f0 : Str) (x : Str) (to home : Str → Option Int) (line : Option Str) : Act → Option Int
  | .line y => if lV (some y) = lV line then some 0 else none
  | .again => to x
  | .main => to f0
  | .go m => to m
  | .call m t => lesserN (to m) (plusN (home m) (to t))
  | _ => none
def toldHome (x : Str) (home : Str → Option Int) : Act → Option Int
  | .back => some 0
  | .again => home x
  | .go m => home m
  | .call m t => plusN (home m) (home t)
  | _ => none
end MH
namespace MH
open PySem PySem.Spec PyProof.Rows L2
theorem words_at (a : Act) : atI (a.words.map V.str) 0 = some (.str a.head) := by
  obtain ⟨r, hw⟩ := a.words_head
  rw [hw]
  exact at0
end MH
set_option Elab.async false
set_option linter.all false
set_option maxRecDepth 100000
set_option maxHeartbeats 4000000
namespace MH
open PySem PySem.Spec PyProof.Rows L2
section
variable {P : Program} {w : World} {K : PySem.W.Frag} {mg : Str → Option Value} {base : Heap}
/-! ### plus, lesser, is_below -/
def sp_plus : Sp := fun vs H Q _ => ∃ a b : Option Int, vs = [nV a, nV b] ∧ Q (nV (plusN a b)) H
theorem sc_plus : FnScope ["one", "other"] ["one", "other"] (defScope s_plus) := ⟨rfl, rfl, rfl, by decide +kernel, rfl, by decide +kernel, by decide +kernel⟩
theorem ok_plus (G : Glo K mg "plus" s_plus) : CalX P w K mg base CX0 1 "plus" sp_plus := by
  refine mkCal G sc_plus (fun vs H Q E h => ?_) (fun _ _ _ _ _ _ us hl => match us, hl with | [_, _], _ => rfl) (fun f cdv A outer s H vs Q E hr h => ?_)
  · obtain ⟨a, b, rfl, _⟩ := h
    rfl
  · obtain ⟨a, b, rfl, k⟩ := h
    refine ⟨_, pss_one (ps_ret (pe_ifExp (PW.pt (pw_or (pt_cmpR op_isN (pv 0) pe_non (nomark _)) (pw_or1 (pt_cmpR op_isN (pv 1) pe_non (nomark _))))) pe_non (pe_op op_add (pv 0) (pv 1)))), ?_⟩
    cases a with
    | none => exact ⟨_, rfl, rfl, true, rfl, iteT (iteT k)⟩
    | some a =>
      cases b with
      | none => exact ⟨_, rfl, rfl, false, rfl, iteF ⟨_, rfl, rfl, true, rfl, iteT k⟩⟩
      | some b => exact ⟨_, rfl, rfl, false, rfl, iteF ⟨_, rfl, rfl, false, rfl, iteF ⟨_, rfl, _, rfl, _, _, rfl, rfl, k⟩⟩⟩
def sp_lesser : Sp := fun vs H Q _ => ∃ a b : Option Int, vs = [nV a, nV b] ∧ Q (nV (lesserN a b)) H
theorem sc_lesser : FnScope ["one", "other"] ["one", "other"] (defScope s_lesser) := ⟨rfl, rfl, rfl, by decide +kernel, rfl, by decide +kernel, by decide +kernel⟩
theorem ok_lesser (G : Glo K mg "lesser" s_lesser) (T : Blt mg) : CalX P w K mg base CX0 1 "lesser" sp_lesser := by
  refine mkCal G sc_lesser (fun vs H Q E h => ?_) (fun _ _ _ _ _ _ us hl => match us, hl with | [_, _], _ => rfl) (fun f cdv A outer s H vs Q E hr h => ?_)
  · obtain ⟨a, b, rfl, _⟩ := h
    rfl
  · obtain ⟨a, b, rfl, k⟩ := h
    refine ⟨_, pss_cons (ps_if (PW.pt (pw_or (pt_cmpR op_isN (pv 0) pe_non (nomark _)) (pw_or1 (pt_cmpR op_isN (pv 1) pe_non (nomark _))))) (pss_one (ps_ret (pe_ifExp (pt_cmpR op_isN (pv 0) pe_non (nomark _)) (pv 1) (pv 0)))) pss_nil)
      (pss_one (ps_ret (pe_callB (call_min2 rfl) (by rfl) T.min (by decide +kernel) (pa_cons (pe_callTy call_int1 (by rfl) T.int boot_int (pa_cons (pv 0) pa_nil)) (pa_cons (pe_callTy call_int1 (by rfl) T.int boot_int (pa_cons (pv 1) pa_nil)) pa_nil))))), ?_⟩
    cases a with
    | none => exact ⟨_, rfl, rfl, true, rfl, iteT (iteT ⟨_, rfl, rfl, true, rfl, iteT ⟨_, rfl, k⟩⟩)⟩
    | some a =>
      cases b with
      | none => exact ⟨_, rfl, rfl, false, rfl, iteF ⟨_, rfl, rfl, true, rfl, iteT ⟨_, rfl, rfl, false, rfl, iteF ⟨_, rfl, k⟩⟩⟩⟩
      | some b => exact ⟨_, rfl, rfl, false, rfl, iteF ⟨_, rfl, rfl, false, rfl, iteF ⟨_, rfl, .inl ⟨_, rfl, _, rfl, .inl ⟨_, rfl, _, _, rfl, k⟩⟩⟩⟩⟩
def sp_is_below : Sp := fun vs H Q _ => ∃ a b : Option Int, vs = [nV a, nV b] ∧ Q (.bl (belowN a b)) H
theorem sc_is_below : FnScope ["one", "other"] ["one", "other"] (defScope s_is_below) := ⟨rfl, rfl, rfl, by decide +kernel, rfl, by decide +kernel, by decide +kernel⟩
theorem ok_is_below (G : Glo K mg "is_below" s_is_below) : CalX P w K mg base CX0 1 "is_below" sp_is_below := by
  refine mkCal G sc_is_below (fun vs H Q E h => ?_) (fun _ _ _ _ _ _ us hl => match us, hl with | [_, _], _ => rfl) (fun f cdv A outer s H vs Q E hr h => ?_)
  · obtain ⟨a, b, rfl, _⟩ := h
    rfl
  · obtain ⟨a, b, rfl, k⟩ := h
    refine ⟨_, pss_one (ps_ret (pe_and (pe_cmpR op_notN (pv 0) pe_non (nomark _)) (pe_one (pe_or (pe_cmpR op_isN (pv 1) pe_non (nomark _)) (pe_one (pe_cmpR op_lt (pv 0) (pv 1) (nomark _))))))), ?_⟩
    cases a with
    | none => exact ⟨_, rfl, rfl, false, rfl, k⟩
    | some a =>
      cases b with
      | none => exact ⟨_, rfl, rfl, true, rfl, ⟨_, rfl, rfl, true, rfl, k⟩⟩
      | some b => exact ⟨_, rfl, rfl, true, rfl, ⟨_, rfl, rfl, false, rfl, ⟨_, rfl, _, rfl, _, _, rfl, rfl, k⟩⟩⟩
end
end MH
set_option Elab.async false
set_option linter.all false
set_option maxRecDepth 100000
set_option maxHeartbeats 4000000
namespace MH
open PySem PySem.Spec PyProof.Rows L2
section
variable {P : Program} {w : World} {K : PySem.W.Frag} {mg : Str → Option Value} {base : Heap}
/-! ### steps_of -/
def sp_steps_of (C : Addr) : Sp := fun vs H Q _ => ∃ (z : Addr) (m : Menu), vs = [.ref z] ∧ MenuAt C H z m ∧ m.Ok ∧ ∀ l xs H', Same H H' → H l = none → H' l = some (.lst xs) → Paired (StepV H') xs m.steps → Q (.ref l) H'
theorem sc_steps_of : FnScope ["menu", "found", "digit", "action"] ["menu"] (defScope s_steps_of) := ⟨rfl, rfl, rfl, by decide +kernel, rfl, by decide +kernel, by decide +kernel⟩
theorem ok_steps_of {C : Addr} (G : Glo K mg "steps_of" s_steps_of) (O : ObjC K C ["name", "rows", "tail", "tries", "clears", "deeds", "last"]) : CalX P w K mg base CX0 1 "steps_of" (sp_steps_of C) := by
  refine mkCal G sc_steps_of (fun vs H Q E h => ?_) (fun _ _ _ _ _ _ us hl => match us, hl with | [_], _ => rfl) (fun f cdv A outer s H vs Q E hr h => ?_)
  · obtain ⟨z, m, rfl, _⟩ := h
    rfl
  · obtain ⟨z, m, rfl, ⟨dx, rt, dt, la, xs, ds, h⟩, ok, k⟩ := h
    have nd := sc_steps_of.nd
    refine ⟨_, pss_cons (ps_setLc (i := 1) (te := tTup (tCons (tC (.int 1)) (tCons (tVar 2) (tCons (tVar 3) tNil)))) (own := [("digit", 2), ("action", 3)]) (g := gTup K 2 (gCons (gName 2) (gCons (gName 3) gNil))) (by rfl) nd rfl rfl (sw_true rfl rfl rfl (by decide +kernel)) (pi_tup (pe_fld (pv 0) (by rfl)))
            (blkOk_by (own := [("digit", 2), ("action", 3)]) (N := ["menu", "found", "digit", "action"]) (sc := defScope s_steps_of) (by decide +kernel))
            (fun _ _ _ _ _ => pg_tup rfl (pgs_cons (pg_name (i := 2) nd rfl (Or.inl rfl)) (pgs_cons (pg_name (i := 3) nd rfl (Or.inl rfl)) pgs_nil))) (fun _ _ _ _ _ => pts_nil) (fun _ _ _ _ _ => pe_tup (pa_cons pe_int (pa_cons (pv 2) (pa_cons (pv 3) pa_nil)))))
      (pss_cons (ps_expr (pe_bm PySem.F.plainAttrs_list PySem.F.slot_list_append PySem.F.type_list_append mt_append (pv 1) (pa_cons (pe_tup (pa_cons pe_int (pa_cons pe_str (pa_cons (pe_fld (pv 0) (by rfl)) pa_nil)))) pa_nil)))
      (pss_one (ps_ret (pv 1)))), ?_⟩
    have l3 : (3 : Nat) ≤ sizeLine := by decide
    refine ⟨_, rfl, z, C, dx, _, _, rfl, h.at_, O.cls, O.no _ (by simp), rfl, dt, rfl, ⟨_, sqT h.deeds⟩, fun L hL => ?_⟩
    have few := ok.rows.2.2
    have dl := Paired.length h.pdeeds
    refine lc_pure (Fr := fun _ => False) (walk_tup (K := K) (xs := ds)) hL (by omega) (fun i o Hq => ∃ r y, m.rows[i]? = some r ∧ o = some y ∧ StepV Hq y (rowStep r)) (fun _ _ _ _ e ⟨r, y, h1, h2, h3⟩ => ⟨r, y, h1, h2, h3.mono e⟩)
      (fun H4 s4 => sqT (s4 _ _ h.deeds)) (fun j x Ha Hb k1 k0 hj sa y q1 q0 => ?_) (fun Ha os sa hl4 hr4 hD4 => ?_)
    · obtain ⟨rfl, hx⟩ := y
      obtain ⟨r2, hr1, t, y, rfl, ht, hy⟩ := paired_getL h.pdeeds hx
      refine ⟨t, _, rfl, sqT (sa _ _ ht), rfl, _, _, rfl, _, _, rfl, rfl, rfl, _, rfl, _, rfl, l3, fun p hp => ?_⟩
      have sp : Same Hb (upd Hb p (.tup [.int 1, .str r2.1, y])) := Same.upd hp
      exact q1 _ _ sp ⟨r2, _, hr1, rfl, p, y, rfl, upd_same, (hy.mono (Fz.of (Fr := fun _ => False) sa)).mono (Fz.of (Fr := fun _ => False) sp)⟩
    · have pd := os_paired (os := os) (l := m.rows) (R := fun r y => StepV Ha y (rowStep r)) (by omega) fun i o r h1 h2 => by
        obtain ⟨r', y, h3, h4, h5⟩ := hr4 i o h1
        rw [h2] at h3
        cases h3
        exact ⟨y, h4, h5⟩
      generalize os.filterMap id = dl at hD4 pd
      have hz := sa _ _ h.at_
      have dl2 := Paired.length pd
      refine ⟨_, rfl, .inl ⟨rfl, _, sqL hD4⟩, _, rfl, z, C, dx, _, _, rfl, hz, O.cls, O.no _ (by simp), rfl, l3, fun p hp => ?_⟩
      have sp : Same Ha (upd Ha p (.tup [.int 0, .str "-", la])) := Same.upd hp
      refine ⟨L, dl, _, rfl, rfl, sp _ _ hD4, line_lt (by omega), _, rfl, ?_⟩
      have fz : Fz (fun _ => False) Ha (upd (upd Ha p (.tup [.int 0, .str "-", la])) L (.lst (dl ++ [.ref p]))) := (Fz.of sp).trans (Fz.set (sp _ _ hD4) fun z => z)
      have sL := same_put (o := .lst (dl ++ [.ref p])) (sa.trans sp) hL
      have np : p ≠ L := fun q => by rw [q] at hp; rw [hD4] at hp; cases hp
      refine k L _ _ sL hL upd_same ?_
      unfold Menu.steps
      exact paired_app (paired_mapR (paired_imp pd fun _ _ q => q.mono fz)) (.cons ⟨p, la, rfl, by rw [upd_ne np]; exact upd_same, h.last.mono (Fz.of (Fr := fun _ => False) sL)⟩ .nil)
/-! ### told_to, told_home -/
def sp_told_to (CB CM : Addr) : Sp := fun vs H Q _ => ∃ (z dt dh : Addr) (B : List Menu) (y : V) (a : Act) (x : Str) (to home : Str → Option Int) (line : Option Str), vs = [.ref z, y, .str x, .ref dt, .ref dh, lV line] ∧ BoardAt CB CM H z B ∧ BoardOk B ∧ ActV H y a ∧
  (∀ n ∈ a.names, n ∈ namesOf B) ∧ x ∈ namesOf B ∧ NumAt B H dt to ∧ NumAt B H dh home ∧ Q (nV (toldTo (firstOf B) x to home line a)) H
theorem sc_told_to : FnScope ["board", "action", "name", "to", "home", "line", "word"] ["board", "action", "name", "to", "home", "line"] (defScope s_told_to) := ⟨rfl, rfl, rfl, by decide +kernel, rfl, by decide +kernel, by decide +kernel⟩
theorem ok_told_to {CB CM : Addr} (G : Glo K mg "told_to" s_told_to) (O : ObjC K CB ["menus", "names", "first", "lines"]) (D1 : CalX P w K mg base CX0 1 "plus" sp_plus) (D2 : CalX P w K mg base CX0 1 "lesser" sp_lesser) : CalX P w K mg base CX0 2 "told_to" (sp_told_to CB CM) := by
  refine mkCal G sc_told_to (fun vs H Q E h => ?_) (fun _ _ _ _ _ _ us hl => match us, hl with | [_, _, _, _, _, _], _ => rfl) (fun f cdv A outer s H vs Q E hr h => ?_)
  · obtain ⟨z, dt, dh, B, y, a, x, to, home, line, rfl, _⟩ := h
    rfl
  · obtain ⟨z, dt, dh, B, y, a, x, to, home, line, rfl, ⟨dx, mt, nt, lt, ms, ys, hB⟩, ok, ⟨t, rfl, ht⟩, hn, hx, hto, hho, k⟩ := h
    have nd := sc_told_to.nd
    have hu := hu_of hr
    have fm := first_mem ok
    refine ⟨_, pss_cons (ps_set (i := 6) nd rfl (Or.inl rfl) (pe_ix ix_tup (pv 1) pe_int (fun _ _ => rfl)))
      (pss_cons (ps_if (pt_cmpR op_eq (pv 6) pe_str (nomark _)) (pss_one (ps_ret (pe_ifExp (pt_cmpR op_eq (pe_ix ix_tup (pv 1) pe_int (fun _ _ => rfl)) (pv 5) (nomark _)) pe_int pe_non))) pss_nil)
      (pss_cons (ps_if (pt_cmpR op_eq (pv 6) pe_str (nomark _)) (pss_one (ps_ret (pe_dget hu (pv 3) (pv 2) (fun _ _ => rfl)))) pss_nil)
      (pss_cons (ps_if (pt_cmpR op_eq (pv 6) pe_str (nomark _)) (pss_one (ps_ret (pe_dget hu (pv 3) (pe_fld (pv 0) (by rfl)) (fun _ _ => rfl)))) pss_nil)
      (pss_cons (ps_if (pt_cmpR op_eq (pv 6) pe_str (nomark _)) (pss_one (ps_ret (pe_dget hu (pv 3) (pe_ix ix_tup (pv 1) pe_int (fun _ _ => rfl)) (fun _ _ => rfl)))) pss_nil)
      (pss_cons (ps_if (pt_cmpR op_eq (pv 6) pe_str (nomark _)) (pss_one (ps_ret (pe_cal (j := 1) D2 hr (by decide) pass0 (pa_cons (pe_dget hu (pv 3) (pe_ix ix_tup (pv 1) pe_int (fun _ _ => rfl)) (fun _ _ => rfl))
          (pa_cons (pe_cal (j := 1) D1 hr (by decide) pass0 (pa_cons (pe_dget hu (pv 4) (pe_ix ix_tup (pv 1) pe_int (fun _ _ => rfl)) (fun _ _ => rfl)) (pa_cons (pe_dget hu (pv 3) (pe_ix ix_tup (pv 1) pe_int (fun _ _ => rfl)) (fun _ _ => rfl)) pa_nil))) pa_nil))))) pss_nil)
      (pss_one (ps_ret pe_non))))))), ?_⟩
    refine ⟨_, rfl, t, _, 0, .str a.head, rfl, rfl, sqT ht, words_at a, ?_⟩
    cases a with
    | line y =>
      have k' : Q (nV (if lV (some y) = lV line then some 0 else none)) H := k
      refine ⟨_, rfl, rfl, true, rfl, iteT ⟨_, rfl, t, _, 1, _, rfl, rfl, sqT ht, at1, _, rfl, by cases line <;> rfl, _, rfl, ite_dec (fun q => ?_) (fun q => ?_)⟩⟩
      · rw [if_pos (show lV (some y) = lV line from q)] at k'; exact k'
      · rw [if_neg (show ¬ lV (some y) = lV line from q)] at k'; exact k'
    | out => exact ⟨_, rfl, rfl, false, rfl, iteF ⟨_, rfl, rfl, false, rfl, iteF ⟨_, rfl, rfl, false, rfl, iteF ⟨_, rfl, rfl, false, rfl, iteF ⟨_, rfl, rfl, false, rfl, iteF k⟩⟩⟩⟩⟩
    | back => exact ⟨_, rfl, rfl, false, rfl, iteF ⟨_, rfl, rfl, false, rfl, iteF ⟨_, rfl, rfl, false, rfl, iteF ⟨_, rfl, rfl, false, rfl, iteF ⟨_, rfl, rfl, false, rfl, iteF k⟩⟩⟩⟩⟩
    | again => exact ⟨_, rfl, rfl, false, rfl, iteF ⟨_, rfl, rfl, true, rfl, iteT ⟨_, rfl, _, rfl, dt, _, rfl, hto.get hx, k⟩⟩⟩
    | main => exact ⟨_, rfl, rfl, false, rfl, iteF ⟨_, rfl, rfl, false, rfl, iteF ⟨_, rfl, rfl, true, rfl, iteT ⟨_, rfl, _, rfl, z, CB, dx, _, _, rfl, hB.at_, O.cls, O.no _ (by simp), rfl, dt, _, rfl, hto.get fm, k⟩⟩⟩⟩
    | go m => exact ⟨_, rfl, rfl, false, rfl, iteF ⟨_, rfl, rfl, false, rfl, iteF ⟨_, rfl, rfl, false, rfl, iteF ⟨_, rfl, rfl, true, rfl, iteT ⟨_, rfl, _, rfl, t, _, 1, _, rfl, rfl, sqT ht, at1, dt, _, rfl, hto.get (hn m (by simp [Act.names])), k⟩⟩⟩⟩⟩
    | call m n =>
      refine ⟨_, rfl, rfl, false, rfl, iteF ⟨_, rfl, rfl, false, rfl, iteF ⟨_, rfl, rfl, false, rfl, iteF ⟨_, rfl, rfl, false, rfl, iteF ⟨_, rfl, rfl, true, rfl, iteT ?_⟩⟩⟩⟩⟩
      exact ⟨_, rfl, _, rfl, t, _, 1, _, rfl, rfl, sqT ht, at1, dt, _, rfl, hto.get (hn m (by simp [Act.names])), _, rfl, _, rfl, t, _, 1, _, rfl, rfl, sqT ht, at1, dh, _, rfl, hho.get (hn m (by simp [Act.names])),
        _, rfl, _, rfl, t, _, 2, _, rfl, rfl, sqT ht, at2, dt, _, rfl, hto.get (hn n (by simp [Act.names])), _, _, rfl, _, _, rfl, k⟩
def sp_told_home : Sp := fun vs H Q _ => ∃ (dh : Addr) (B : List Menu) (y : V) (a : Act) (x : Str) (home : Str → Option Int), vs = [y, .str x, .ref dh] ∧ ActV H y a ∧ (∀ n ∈ a.names, n ∈ namesOf B) ∧ x ∈ namesOf B ∧ NumAt B H dh home ∧ Q (nV (toldHome x home a)) H
theorem sc_told_home : FnScope ["action", "name", "home", "word"] ["action", "name", "home"] (defScope s_told_home) := ⟨rfl, rfl, rfl, by decide +kernel, rfl, by decide +kernel, by decide +kernel⟩
theorem ok_told_home (G : Glo K mg "told_home" s_told_home) (D1 : CalX P w K mg base CX0 1 "plus" sp_plus) : CalX P w K mg base CX0 2 "told_home" sp_told_home := by
  refine mkCal G sc_told_home (fun vs H Q E h => ?_) (fun _ _ _ _ _ _ us hl => match us, hl with | [_, _, _], _ => rfl) (fun f cdv A outer s H vs Q E hr h => ?_)
  · obtain ⟨dh, B, y, a, x, home, rfl, _⟩ := h
    rfl
  · obtain ⟨dh, B, y, a, x, home, rfl, ⟨t, rfl, ht⟩, hn, hx, hho, k⟩ := h
    have nd := sc_told_home.nd
    have hu := hu_of hr
    refine ⟨_, pss_cons (ps_set (i := 3) nd rfl (Or.inl rfl) (pe_ix ix_tup (pv 0) pe_int (fun _ _ => rfl)))
      (pss_cons (ps_if (pt_cmpR op_eq (pv 3) pe_str (nomark _)) (pss_one (ps_ret pe_int)) pss_nil)
      (pss_cons (ps_if (pt_cmpR op_eq (pv 3) pe_str (nomark _)) (pss_one (ps_ret (pe_dget hu (pv 2) (pv 1) (fun _ _ => rfl)))) pss_nil)
      (pss_cons (ps_if (pt_cmpR op_eq (pv 3) pe_str (nomark _)) (pss_one (ps_ret (pe_dget hu (pv 2) (pe_ix ix_tup (pv 0) pe_int (fun _ _ => rfl)) (fun _ _ => rfl)))) pss_nil)
      (pss_cons (ps_if (pt_cmpR op_eq (pv 3) pe_str (nomark _)) (pss_one (ps_ret (pe_cal (j := 1) D1 hr (by decide) pass0 (pa_cons (pe_dget hu (pv 2) (pe_ix ix_tup (pv 0) pe_int (fun _ _ => rfl)) (fun _ _ => rfl)) (pa_cons (pe_dget hu (pv 2) (pe_ix ix_tup (pv 0) pe_int (fun _ _ => rfl)) (fun _ _ => rfl)) pa_nil))))) pss_nil)
      (pss_one (ps_ret pe_non)))))), ?_⟩
    refine ⟨_, rfl, t, _, 0, .str a.head, rfl, rfl, sqT ht, words_at a, ?_⟩
    cases a with
    | line y => exact ⟨_, rfl, rfl, false, rfl, iteF ⟨_, rfl, rfl, false, rfl, iteF ⟨_, rfl, rfl, false, rfl, iteF ⟨_, rfl, rfl, false, rfl, iteF k⟩⟩⟩⟩
    | out => exact ⟨_, rfl, rfl, false, rfl, iteF ⟨_, rfl, rfl, false, rfl, iteF ⟨_, rfl, rfl, false, rfl, iteF ⟨_, rfl, rfl, false, rfl, iteF k⟩⟩⟩⟩
    | main => exact ⟨_, rfl, rfl, false, rfl, iteF ⟨_, rfl, rfl, false, rfl, iteF ⟨_, rfl, rfl, false, rfl, iteF ⟨_, rfl, rfl, false, rfl, iteF k⟩⟩⟩⟩
    | back => exact ⟨_, rfl, rfl, true, rfl, iteT k⟩
    | again => exact ⟨_, rfl, rfl, false, rfl, iteF ⟨_, rfl, rfl, true, rfl, iteT ⟨_, rfl, _, rfl, dh, _, rfl, hho.get hx, k⟩⟩⟩
    | go m => exact ⟨_, rfl, rfl, false, rfl, iteF ⟨_, rfl, rfl, false, rfl, iteF ⟨_, rfl, rfl, true, rfl, iteT ⟨_, rfl, _, rfl, t, _, 1, _, rfl, rfl, sqT ht, at1, dh, _, rfl, hho.get (hn m (by simp [Act.names])), k⟩⟩⟩⟩
    | call m n =>
      exact ⟨_, rfl, rfl, false, rfl, iteF ⟨_, rfl, rfl, false, rfl, iteF ⟨_, rfl, rfl, false, rfl, iteF ⟨_, rfl, rfl, true, rfl, iteT ⟨_, rfl, _, rfl, t, _, 1, _, rfl, rfl, sqT ht, at1, dh, _, rfl, hho.get (hn m (by simp [Act.names])),
        _, rfl, _, rfl, t, _, 2, _, rfl, rfl, sqT ht, at2, dh, _, rfl, hho.get (hn n (by simp [Act.names])), _, _, rfl, k⟩⟩⟩⟩⟩
end
end MH
set_option Elab.async false
set_option linter.all false
set_option maxRecDepth 100000
set_option maxHeartbeats 4000000
namespace MH
open PySem PySem.Spec PyProof.Rows L2
/-! ### an instance of Sums -/
structure SState where
  to : Str → Option Int
  home : Str → Option Int
  bt : Str → Option (Step × Bool)
  bh : Str → Option Step
def WayV (H : Hp) (x : V) (q : Option Int × Bool) : Prop := ∃ t, x = .ref t ∧ H t = some (.tup [nV q.1, .bl q.2])
theorem WayV.mono {Fr : Addr → Prop} {H H' : Hp} {x : V} {q : Option Int × Bool} (e : Fz Fr H H') (h : WayV H x q) : WayV H' x q := let ⟨t, a, b⟩ := h; ⟨t, a, e _ _ b trivial⟩
def waysTo (f0 x : Str) (line : Option Str) (s : SState) : Act → List (Option Int × Bool)
  | .line y => match line with
    | none => [(some 0, false)]
    | some q => [(toldTo f0 x s.to s.home (some q) (.line y), false)]
  | .call m t => [(s.to m, false), (plusN (s.home m) (s.to t), true)]
  | a => [(toldTo f0 x s.to s.home line a, false)]
theorem ways_len {f0 x : Str} {line : Option Str} {s : SState} {a : Act} : (waysTo f0 x line s a).length ≤ 2 := by
  cases a with
  | line y => cases line <;> exact Nat.le_succ _
  | call m t => simp [waysTo]
  | out => simp [waysTo]
  | again => simp [waysTo]
  | main => simp [waysTo]
  | back => simp [waysTo]
  | go m => simp [waysTo]
/-- a dict to what is best -/
def unkB {γ : Type} (B : List Menu) (β : Str → Option γ) : Nat := ((namesOf B).filter fun x => (β x).isNone).length
structure BestIs {γ : Type} (R : Hp → V → γ → Prop) (B : List Menu) (H : Hp) (b : Addr) (β : Str → Option γ) (kvs : List (Key × V)) : Prop where
  at_ : H b = some (.dK kvs)
  no : ∀ x : Str, β x = none → valV kvs (Sum.inr x) = none
  yes : ∀ (x : Str) g, β x = some g → ∃ v, valV kvs (Sum.inr x) = some v ∧ R H v g
  len : kvs.length + unkB B β ≤ 20
def BestAt {γ : Type} (R : Hp → V → γ → Prop) (B : List Menu) (H : Hp) (b : Addr) (β : Str → Option γ) : Prop := ∃ kvs, BestIs R B H b β kvs
def setB {γ : Type} (β : Str → Option γ) (x : Str) (g : γ) : Str → Option γ := fun y => if y = x then some g else β y
def StepBV (H : Hp) (x : V) (g : Step × Bool) : Prop := ∃ t y, x = .ref t ∧ H t = some (.tup [y, .bl g.2]) ∧ StepV H y g.1
theorem StepBV.mono {Fr : Addr → Prop} {H H' : Hp} {x : V} {g : Step × Bool} (e : Fz Fr H H') (h : StepBV H x g) : StepBV H' x g := let ⟨t, y, a, b, c⟩ := h; ⟨t, y, a, e _ _ b trivial, c.mono e⟩
theorem BestAt.same {γ : Type} {R : Hp → V → γ → Prop} (mono : ∀ H H' v g, Fz (fun _ => False) H H' → R H v g → R H' v g) {B : List Menu} {H H' : Hp} {b : Addr} {β : Str → Option γ} (s : Same H H') (h : BestAt R B H b β) : BestAt R B H' b β := by
  obtain ⟨kvs, i⟩ := h
  exact ⟨kvs, s _ _ i.at_, i.no, fun x g e => let ⟨v, h1, h2⟩ := i.yes x g e; ⟨v, h1, mono _ _ _ _ (Fz.of s) h2⟩, i.len⟩
theorem BestAt.but {γ : Type} {R : Hp → V → γ → Prop} (mono : ∀ H H' v g, Fz (fun _ => False) H H' → R H v g → R H' v g) {B : List Menu} {H H' : Hp} {b d : Addr} {β : Str → Option γ} {kvs : List (Key × V)} (a : But d H H') (hd : H d = some (.dK kvs)) (n : b ≠ d) (h : BestAt R B H b β) : BestAt R B H' b β := by
  obtain ⟨kvs, i⟩ := h
  exact ⟨kvs, a _ _ n i.at_, i.no, fun x g e => let ⟨v, h1, h2⟩ := i.yes x g e; ⟨v, h1, mono _ _ _ _ (a.fzD hd) h2⟩, i.len⟩
theorem BestAt.put {γ : Type} {R : Hp → V → γ → Prop} (mono : ∀ H H' v g, Fz (fun _ => False) H H' → R H v g → R H' v g) {B : List Menu} {H : Hp} {b : Addr} {β : Str → Option γ} {x : Str} {v : V} {g : γ} (h : BestAt R B H b β) (hx : x ∈ namesOf B) (r : R H v g) :
    ∃ H', DPut H b (.str x) v H' ∧ But b H H' ∧ BestAt R B H' b (setB β x g) := by
  obtain ⟨kvs, i⟩ := h
  have fz : Fz (fun _ => False) H (upd H b (.dK (putK kvs (Sum.inr x) v))) := Fz.set i.at_ fun z => z
  have le := i.len
  refine ⟨_, DPut.k (k := Sum.inr x) i.at_ (line_lt (by omega)), (But.refl b H).upd, _, upd_same, fun y e => ?_, fun y g' e => ?_, ?_⟩
  · rw [valV_put]
    unfold setB at e
    by_cases ey : y = x
    · rw [if_pos ey] at e; cases e
    · rw [if_neg ey] at e
      rw [if_neg (fun z => ey (Sum.inr.inj z))]
      exact i.no y e
  · rw [valV_put]
    unfold setB at e
    by_cases ey : y = x
    · rw [if_pos ey] at e
      rw [if_pos (by rw [ey]), ← Option.some.inj e]
      exact ⟨v, rfl, mono _ _ _ _ fz r⟩
    · rw [if_neg ey] at e
      rw [if_neg (fun z => ey (Sum.inr.inj z))]
      obtain ⟨w, h1, h2⟩ := i.yes y g' e
      exact ⟨w, h1, mono _ _ _ _ fz h2⟩
  · rw [put_len]
    have mon : unkB B (setB β x g) ≤ unkB B β := filter_le fun y _ q => by
      unfold setB at q
      by_cases ey : y = x
      · rw [if_pos ey] at q; cases q
      · rw [if_neg ey] at q; exact q
    cases q : β x with
    | none =>
      rw [i.no x q]
      have lt : unkB B (setB β x g) + 1 ≤ unkB B β := filter_lt (x := x) (fun y _ z => by
        unfold setB at z
        by_cases ey : y = x
        · rw [if_pos ey] at z; cases z
        · rw [if_neg ey] at z; exact z) hx (by rw [q]; rfl) (by unfold setB; rw [if_pos rfl]; rfl)
      show kvs.length + 1 + _ ≤ 20
      omega
    | some g0 =>
      obtain ⟨w, h1, _⟩ := i.yes x g0 q
      rw [h1]
      show kvs.length + _ ≤ 20
      omega
theorem NumAt.but {B : List Menu} {H H' : Hp} {d e : Addr} {τ : Str → Option Int} (a : But e H H') (n : d ≠ e) (h : NumAt B H d τ) : NumAt B H' d τ := let ⟨kvs, p, q, r⟩ := h; ⟨kvs, a _ _ n p, q, r⟩
def sumsFs (zb : Addr) (line : Option Str) (dt dh bt bh : Addr) : List (Str × V) := [("plan", .ref zb), ("line", lV line), ("to", .ref dt), ("home", .ref dh), ("best_to", .ref bt), ("best_home", .ref bh)]
structure SumsIs (CS CB CM : Addr) (H : Hp) (z zb dt dh bt bh : Addr) (B : List Menu) (line : Option Str) (s : SState) : Prop where
  at_ : ∃ dx, H z = some (.ins CS dx (sumsFs zb line dt dh bt bh))
  board : BoardAt CB CM H zb B
  to : NumAt B H dt s.to
  home : NumAt B H dh s.home
  best : BestAt StepBV B H bt s.bt
  besh : BestAt StepV B H bh s.bh
  n1 : dt ≠ dh
  n2 : dt ≠ bt
  n3 : dt ≠ bh
  n4 : dh ≠ bt
  n5 : dh ≠ bh
  n6 : bt ≠ bh
end MH
namespace MH
open PySem PySem.Spec PyProof.Rows L2
/-- all but the four dicts -/
def But4 (dt dh bt bh : Addr) (H H' : Hp) : Prop := ∀ b o, b ≠ dt → b ≠ dh → b ≠ bt → b ≠ bh → H b = some o → H' b = some o
section
variable {CS CB CM : Addr} {H H' : Hp} {z zb dt dh bt bh : Addr} {B : List Menu} {line : Option Str} {s : SState}
theorem But4.of (e : Same H H') : But4 dt dh bt bh H H' := fun b o _ _ _ _ h => e b o h
theorem But4.refl : But4 dt dh bt bh H H := fun _ _ _ _ _ _ h => h
theorem But4.trans {H1 : Hp} (a : But4 dt dh bt bh H H1) (c : But4 dt dh bt bh H1 H') : But4 dt dh bt bh H H' := fun b o h1 h2 h3 h4 h => c b o h1 h2 h3 h4 (a b o h1 h2 h3 h4 h)
theorem But4.t (a : But dt H H') : But4 dt dh bt bh H H' := fun b o h1 _ _ _ h => a b o h1 h
theorem But4.h (a : But dh H H') : But4 dt dh bt bh H H' := fun b o _ h2 _ _ h => a b o h2 h
theorem But4.b (a : But bt H H') : But4 dt dh bt bh H H' := fun b o _ _ h3 _ h => a b o h3 h
theorem But4.c (a : But bh H H') : But4 dt dh bt bh H H' := fun b o _ _ _ h4 h => a b o h4 h
theorem stepV_mono : ∀ (H H' : Hp) (v : V) (g : Step), Fz (fun _ => False) H H' → StepV H v g → StepV H' v g := fun _ _ _ _ e h => h.mono e
theorem stepBV_mono : ∀ (H H' : Hp) (v : V) (g : Step × Bool), Fz (fun _ => False) H H' → StepBV H v g → StepBV H' v g := fun _ _ _ _ e h => h.mono e
theorem SumsIs.same (e : Same H H') (h : SumsIs CS CB CM H z zb dt dh bt bh B line s) : SumsIs CS CB CM H' z zb dt dh bt bh B line s :=
  ⟨let ⟨dx, a⟩ := h.at_; ⟨dx, e _ _ a⟩, h.board.same e, h.to.same e, h.home.same e, h.best.same stepBV_mono e, h.besh.same stepV_mono e, h.n1, h.n2, h.n3, h.n4, h.n5, h.n6⟩
theorem SumsIs.putTo {to' : Str → Option Int} (h : SumsIs CS CB CM H z zb dt dh bt bh B line s) (a : But dt H H') (t : NumAt B H' dt to') : SumsIs CS CB CM H' z zb dt dh bt bh B line { s with to := to' } := by
  obtain ⟨kvs, hd, _⟩ := h.to
  have fz : Fz (fun _ => True) H H' := a.fzD hd
  exact ⟨let ⟨dx, q⟩ := h.at_; ⟨dx, fz _ _ q trivial⟩, h.board.mono trivial trivial fz, t, h.home.but a h.n1.symm, h.best.but stepBV_mono a hd h.n2.symm, h.besh.but stepV_mono a hd h.n3.symm, h.n1, h.n2, h.n3, h.n4, h.n5, h.n6⟩
theorem SumsIs.putHome {home' : Str → Option Int} (h : SumsIs CS CB CM H z zb dt dh bt bh B line s) (a : But dh H H') (t : NumAt B H' dh home') : SumsIs CS CB CM H' z zb dt dh bt bh B line { s with home := home' } := by
  obtain ⟨kvs, hd, _⟩ := h.home
  have fz : Fz (fun _ => True) H H' := a.fzD hd
  exact ⟨let ⟨dx, q⟩ := h.at_; ⟨dx, fz _ _ q trivial⟩, h.board.mono trivial trivial fz, h.to.but a h.n1, t, h.best.but stepBV_mono a hd h.n4.symm, h.besh.but stepV_mono a hd h.n5.symm, h.n1, h.n2, h.n3, h.n4, h.n5, h.n6⟩
theorem SumsIs.putBt {bt' : Str → Option (Step × Bool)} (h : SumsIs CS CB CM H z zb dt dh bt bh B line s) (a : But bt H H') (t : BestAt StepBV B H' bt bt') : SumsIs CS CB CM H' z zb dt dh bt bh B line { s with bt := bt' } := by
  obtain ⟨kvs, i⟩ := h.best
  have fz : Fz (fun _ => True) H H' := a.fzD i.at_
  exact ⟨let ⟨dx, q⟩ := h.at_; ⟨dx, fz _ _ q trivial⟩, h.board.mono trivial trivial fz, h.to.but a h.n2, h.home.but a h.n4, t, h.besh.but stepV_mono a i.at_ h.n6.symm, h.n1, h.n2, h.n3, h.n4, h.n5, h.n6⟩
theorem SumsIs.putBh {bh' : Str → Option Step} (h : SumsIs CS CB CM H z zb dt dh bt bh B line s) (a : But bh H H') (t : BestAt StepV B H' bh bh') : SumsIs CS CB CM H' z zb dt dh bt bh B line { s with bh := bh' } := by
  obtain ⟨kvs, i⟩ := h.besh
  have fz : Fz (fun _ => True) H H' := a.fzD i.at_
  exact ⟨let ⟨dx, q⟩ := h.at_; ⟨dx, fz _ _ q trivial⟩, h.board.mono trivial trivial fz, h.to.but a h.n3, h.home.but a h.n5, h.best.but stepBV_mono a i.at_ h.n6, t, h.n1, h.n2, h.n3, h.n4, h.n5, h.n6⟩
theorem But4.keep {b : Addr} {o : HO} (a : But4 dt dh bt bh H H') (h : SumsIs CS CB CM H z zb dt dh bt bh B line s) (hb : H b = some o) (n : ∀ k, o ≠ .dK k) : H' b = some o := by
  obtain ⟨k1, e1, _⟩ := h.to
  obtain ⟨k2, e2, _⟩ := h.home
  obtain ⟨k3, i3⟩ := h.best
  obtain ⟨k4, i4⟩ := h.besh
  have ne : ∀ d k, H d = some (.dK k) → b ≠ d := fun d k e q => by rw [q, e] at hb; exact n _ (Option.some.inj hb).symm
  exact a b o (ne _ _ e1) (ne _ _ e2) (ne _ _ i3.at_) (ne _ _ i4.at_) hb
theorem But4.fz {Fr : Addr → Prop} (a : But4 dt dh bt bh H H') (h : SumsIs CS CB CM H z zb dt dh bt bh B line s) : Fz Fr H H' := fun _ _ e f => a.keep h e fun k q => by rw [q] at f; exact f
end
/-- a number of a menu falls by a way -/
def fallTo (x : Str) (st : Step) (r : SState × Bool) (q : Option Int × Bool) : SState × Bool :=
  if belowN (plusN (some st.1) q.1) (r.1.to x) = true then ({ r.1 with to := setN r.1.to x (plusN (some st.1) q.1), bt := setB r.1.bt x (st, q.2) }, true) else r
def fallHome (x : Str) (st : Step) (r : SState × Bool) : SState × Bool :=
  if belowN (plusN (some st.1) (toldHome x r.1.home st.2.2)) (r.1.home x) = true then ({ r.1 with home := setN r.1.home x (plusN (some st.1) (toldHome x r.1.home st.2.2)), bh := setB r.1.bh x st }, true) else r
def fallS (f0 : Str) (line : Option Str) (x : Str) (st : Step) (s : SState) : SState × Bool := fallHome x st ((waysTo f0 x line s st.2.2).foldl (fallTo x st) (s, false))
end MH
namespace MH
open PySem PySem.Spec PyProof.Rows L2
def goStep (f0 : Str) (line : Option Str) (x : Str) (r : SState × Bool) (st : Step) : SState × Bool := ((fallS f0 line x st r.1).1, if (fallS f0 line x st r.1).2 = true then true else r.2)
def goMenu (f0 : Str) (line : Option Str) (r : SState × Bool) (m : Menu) : SState × Bool := m.steps.foldl (goStep f0 line m.name) r
def goOver (line : Option Str) (B : List Menu) (s : SState) : SState × Bool := B.foldl (goMenu (firstOf B) line) (s, false)
theorem foldl_take {α β : Type} {f : β → α → β} {l : List α} {i : Nat} {a : α} {z : β} (h : l[i]? = some a) : (l.take (i + 1)).foldl f z = f ((l.take i).foldl f z) a := by
  rw [List.take_add_one, h, List.foldl_append]
  rfl
end MH
set_option Elab.async false
set_option linter.all false
set_option maxRecDepth 100000
set_option maxHeartbeats 4000000
namespace MH
open PySem PySem.Spec PyProof.Rows L2
section
variable {P : Program} {w : World} {K : PySem.W.Frag} {mg : Str → Option Value} {base : Heap}
/-! ### need_stack of a stack, Board.menu of a menu -/
def boardNames : List Str := ["menus", "names", "first", "lines", "menu"]
def sp_need_stack (K : PySem.W.Frag) (CB CM : Addr) : Sp := fun vs H Q _ => ∃ (z s : Addr) (B : List Menu) (xs : List Str), vs = [.ref z, .ref s] ∧ BoardAt CB CM H z B ∧ (SqL K H s (xs.map V.str) ∨ SqT K H s (xs.map V.str)) ∧ xs ≠ [] ∧ (∀ x ∈ xs, x ∈ namesOf B) ∧ ∀ H', Same H H' → Q .non H'
theorem sc_need_stack : FnScope ["board", "stack", "at", "name"] ["board", "stack"] (defScope s_need_stack) := ⟨rfl, rfl, rfl, by decide +kernel, rfl, by decide +kernel, by decide +kernel⟩
theorem ok_need_stack {CB CM : Addr} (G : Glo K mg "need_stack" s_need_stack) (T : Blt mg) (O : ObjC K CB ["menus", "names", "first", "lines"]) (D1 : CalX P w K mg base CX0 2 "is_sequence" (sp_is_sequence K)) : CalX P w K mg base CX0 3 "need_stack" (sp_need_stack K CB CM) := by
  refine mkCal G sc_need_stack (fun vs H Q E h => ?_) (fun _ _ _ _ _ _ us hl => match us, hl with | [_, _], _ => rfl) (fun f cdv A outer s H vs Q E hr h => ?_)
  · obtain ⟨z, s, B, xs, rfl, _⟩ := h
    rfl
  · obtain ⟨z, s, B, xs, rfl, ⟨dx, mt, nt, lt, ms, ys, hB⟩, hs, hne, hin, k⟩ := h
    have nd := sc_need_stack.nd
    refine ⟨_, pss_cons (ps_if (PW.pt (pw_or (pt_not (pt_val (pe_cal (j := 2) D1 hr (by decide) pass0 (pa_cons (pv 1) pa_nil)))) (pw_or1 (pt_cmpR op_eq (pe_callB call_len_seq (by rfl) T.len boot_len (pa_cons (pv 1) pa_nil)) pe_int (nomark _))))) (pss_one ps_never) pss_nil)
      (pss_one (ps_for (passes_of rfl) rfl (pi_enumA (by rfl) T.enumerate (pa_cons (pv 1) pa_nil)) (pg_tup rfl (pgs_cons (pg_name (i := 2) nd rfl (Or.inl rfl)) (pgs_cons (pg_name (i := 3) nd rfl (Or.inl rfl)) pgs_nil)))
        (pss_one (ps_if (PW.pt (pw_or (pt_not (pt_val (pe_callB call_isi (by rfl) T.isinstance boot_isinstance (pa_cons (pv 3) (pa_cons (pe_bltn (v := .ty "str") (by rfl) T.str boot_str rfl) pa_nil)))))
            (pw_or1 (pt_cmpR op_notIn_seq (pv 3) (pe_fld (pv 0) (by rfl)) (by rfl))))) (pss_one ps_never) pss_nil)))), ?_⟩
    have nl : (xs.map V.str).length ≠ 0 := by rw [List.length_map]; exact fun q => hne (List.length_eq_zero_iff.mp q)
    -- one turn
    have hrest : ∀ H1, Same H H1 → (SqL K H1 s (xs.map V.str) ∨ SqT K H1 s (xs.map V.str)) := fun H1 s1 => hs.elim (fun h => .inl (same_l s1 h)) fun h => .inr (same_t s1 h)
    have hin2 : ∀ (i : Nat) x, (xs.map V.str)[i]? = some x → ∃ y, x = .str y ∧ inV (.str y) ((namesOf B).map V.str) = true := fun i x e => by
      rw [List.getElem?_map] at e
      obtain ⟨y, hy, rfl⟩ := Option.map_eq_some_iff.mp e
      exact ⟨y, rfl, by rw [inV_strs]; exact List.contains_iff_mem.mpr (hin y (List.mem_of_getElem? hy))⟩
    have flat : ((namesOf B).map V.str).all flatV = true := by rw [List.all_map]; exact List.all_eq_true.mpr fun _ _ => rfl
    obtain ⟨ty, hty, hkit⟩ : ∃ ty, (∀ H', Same H H' → TyX K H' (.ref s) ty) ∧ PySem.W.kitAny K ty [.type "list", .type "tuple"] = some true := by
      rcases hs with hs | hs
      · exact ⟨_, fun H' sm => tyx_list (same_l sm hs), kit_seq_list K⟩
      · exact ⟨_, fun H' sm => tyx_tup (same_t sm hs), kit_seq_tup K⟩
    refine ⟨_, rfl, _, ty, true, rfl, hty, hkit, fun H1 s1 => ⟨_, rfl, iteF ?_⟩⟩
    refine ⟨_, rfl, s, _, rfl, hrest H1 s1, rfl, _, rfl, ite_no (fun q => nl (by have := V.int.inj q; omega)) ?_⟩
    have hB1 := hB.mono (Fr := fun _ => True) trivial trivial (Fz.of s1)
    refine ⟨_, rfl, s, xs.map V.str, rfl, ?_⟩
    rcases hrest H1 s1 with hs1 | hs1
    · refine .inl ⟨hs1, for_it (walk_enumL (K := K) (xs := xs.map V.str)) (fun i σ Hq => (∃ c d, σ = [some (.ref z), some (.ref s), c, d]) ∧ Same H1 Hq) ⟨⟨_, _, rfl⟩, Same.refl _⟩ (fun i σ Hq _ q => same_l q.2 hs1) (fun i x σ Hq0 Hq hi ⟨⟨c, d, hσ⟩, sq⟩ y => ?_) (fun σ Hq ⟨⟨c, d, hσ⟩, sq⟩ => k _ (s1.trans sq))⟩
      subst hσ
      obtain ⟨t, x, rfl, ht, rfl, hx⟩ := y
      obtain ⟨nm, rfl, hn⟩ := hin2 i x hx
      have st : Same Hq0 (upd Hq0 t (.tup [.int (i : Nat), .str nm])) := Same.upd ht
      have hB2 := hB1.mono (Fr := fun _ => True) trivial trivial (Fz.of (sq.trans st))
      refine ⟨t, _, rfl, sqT upd_same, rfl, _, _, rfl, _, _, rfl, rfl, ?_⟩
      refine ⟨_, rfl, _, _, _, _, true, rfl, .ty "str", .base (.str _), kit_ty (by decide +kernel), true, rfl, iteF ?_⟩
      refine ⟨_, rfl, _, rfl, z, CB, dx, _, _, rfl, hB2.at_, O.cls, O.no _ (by simp), rfl, nt, _, rfl, .inr (sqT hB2.names), rfl, flat, ?_⟩
      show ∃ b, V.bl (!inV (.str nm) ((namesOf B).map V.str)) = V.bl b ∧ _
      rw [hn]
      exact ⟨false, rfl, iteF ⟨⟨_, _, rfl⟩, sq.trans st⟩⟩
    · refine .inr ⟨hs1, for_it (walk_enumT (K := K) (xs := xs.map V.str)) (fun i σ Hq => (∃ c d, σ = [some (.ref z), some (.ref s), c, d]) ∧ Same H1 Hq) ⟨⟨_, _, rfl⟩, Same.refl _⟩ (fun i σ Hq _ q => same_t q.2 hs1) (fun i x σ Hq0 Hq hi ⟨⟨c, d, hσ⟩, sq⟩ y => ?_) (fun σ Hq ⟨⟨c, d, hσ⟩, sq⟩ => k _ (s1.trans sq))⟩
      subst hσ
      obtain ⟨t, x, rfl, ht, rfl, hx⟩ := y
      obtain ⟨nm, rfl, hn⟩ := hin2 i x hx
      have st : Same Hq0 (upd Hq0 t (.tup [.int (i : Nat), .str nm])) := Same.upd ht
      have hB2 := hB1.mono (Fr := fun _ => True) trivial trivial (Fz.of (sq.trans st))
      refine ⟨t, _, rfl, sqT upd_same, rfl, _, _, rfl, _, _, rfl, rfl, ?_⟩
      refine ⟨_, rfl, _, _, _, _, true, rfl, .ty "str", .base (.str _), kit_ty (by decide +kernel), true, rfl, iteF ?_⟩
      refine ⟨_, rfl, _, rfl, z, CB, dx, _, _, rfl, hB2.at_, O.cls, O.no _ (by simp), rfl, nt, _, rfl, .inr (sqT hB2.names), rfl, flat, ?_⟩
      show ∃ b, V.bl (!inV (.str nm) ((namesOf B).map V.str)) = V.bl b ∧ _
      rw [hn]
      exact ⟨false, rfl, iteF ⟨⟨_, _, rfl⟩, sq.trans st⟩⟩
end
end MH
namespace MH
open PySem PySem.Spec PyProof.Rows L2
section
variable {P : Program} {w : World} {K : PySem.W.Frag} {mg : Str → Option Value} {base : Heap}
/-- a method that keeps a promise -/
structure MetX (P : Program) (w : World) (K : PySem.W.Frag) (mg : Str → Option Value) (base : Heap) (CX : CXT) (k : Nat) (C : Addr) (m : Str) (sp : Sp) : Prop where
  ex : ∃ f fd ps, Meth K C m f ∧ FnOk P w K mg base CX k f fd ps sp ∧ Binds K fd ps []
theorem mkMet {CX : CXT} {C f : Addr} {fd : FuncData} {m qual : Str} {st : Stmt} {N ps : List Str} {k : Nat} {sp : Sp} (M : Meth K C m f) (F : FunD K m qual (defArgs st) (defBody st) (defScope st) [] [] f fd) (S : FnScope N ps (defScope st)) (len : ∀ vs H Q E, sp vs H Q E → vs.length = ps.length)
    (hb : ∀ (kV doc pm : Value) (an : Option Addr) (cdv ct : Value) (us : List Value), us.length = ps.length → bindArgs (PySem.W.fnOf m qual (defArgs st) (defBody st) (defScope st) .none kV doc pm an cdv ct) ⟨us, []⟩ = pure (ps.zip us))
    (hbody : ∀ (f : Addr) (cdv : Value) (A : Around) (outer : List Env) (s : Shared) (H : Hp) (vs : List V) (Q : VK) (E : XK), Room k (A.deeper (envOfC qual (defScope st) s.heap.objs.size f cdv)) → sp vs H Q E →
      ∃ t, PSs (cxOf CX P w K mg base N qual (defScope st) f cdv A outer s H E) (defBody st) t ∧ t { nx := fun _ H' => Q .non H', rt := Q } (start N vs) H) : MetX P w K mg base CX (k + 1) C m sp :=
  ⟨f, fd, ps, M, F.ok S len (hbody f), F.bindsN hb⟩
def sp_board_menu (CB CM : Addr) : Sp := fun vs H Q _ => ∃ (z : Addr) (B : List Menu) (nm : Str), vs = [.ref z, .str nm] ∧ BoardAt CB CM H z B ∧ nm ∈ namesOf B ∧ ∀ a m, m ∈ B → m.name = nm → MenuAt CM H a m → Q (.ref a) H
theorem sc_board_menu : FnScope ["self", "name", "menu"] ["self", "name"] (defScope s_Board_menu) := ⟨rfl, rfl, rfl, by decide +kernel, rfl, by decide +kernel, by decide +kernel⟩
theorem ok_board_menu {CB CM f : Addr} {fd : FuncData} (M : Meth K CB "menu" f) (F : FunD K "menu" "Board.menu" (defArgs s_Board_menu) (defBody s_Board_menu) (defScope s_Board_menu) [] [] f fd)
    (O : ObjC K CB ["menus", "names", "first", "lines"]) (OM : ObjC K CM ["name", "rows", "tail", "tries", "clears", "deeds", "last"]) : MetX P w K mg base CX0 1 CB "menu" (sp_board_menu CB CM) := by
  refine mkMet M F sc_board_menu (fun vs H Q E h => ?_) (fun _ _ _ _ _ _ us hl => match us, hl with | [_, _], _ => rfl) (fun f cdv A outer s H vs Q E hr h => ?_)
  · obtain ⟨z, B, nm, rfl, _⟩ := h
    rfl
  · obtain ⟨z, B, nm, rfl, ⟨dx, mt, nt, lt, ms, ys, hB⟩, hin, k⟩ := h
    have nd := sc_board_menu.nd
    refine ⟨_, pss_cons (ps_for (passes_of rfl) rfl (pi_tup (pe_fld (pv 0) (by rfl))) (pg_name (i := 2) nd rfl (Or.inl rfl)) (pss_one (ps_if (pt_cmpR op_eq (pe_fld (pv 2) (by rfl)) (pv 1) (nomark _)) (pss_one (ps_ret (pv 2))) pss_nil)))
      (pss_one ps_never), ?_⟩
    refine ⟨_, rfl, z, CB, dx, _, _, rfl, hB.at_, O.cls, O.no _ (by simp), rfl, mt, rfl, ⟨_, sqT hB.menus⟩, ?_⟩
    refine for_it (walk_tup (K := K) (xs := ms)) (fun i σ Hq => (∃ c, σ = [some (.ref z), some (.str nm), c]) ∧ Hq = H ∧ nm ∉ (namesOf B).take i) ⟨⟨_, rfl⟩, rfl, by simp⟩ (fun i σ Hq _ q => by rw [q.2.1]; exact sqT hB.menus) (fun i x σ Hq0 Hq hi ⟨⟨c, hσ⟩, hq, hno⟩ y => ?_) (fun σ Hq ⟨⟨c, hσ⟩, hq, hno⟩ => ?_)
    · subst hσ hq
      obtain ⟨rfl, hx⟩ := y
      obtain ⟨m, hm, a, rfl, ha⟩ := paired_getL hB.pmenus hx
      obtain ⟨dx2, rt, dt, la, xs2, ds, hM⟩ := id ha
      refine ⟨_, rfl, a, CM, dx2, _, _, rfl, hM.at_, OM.cls, OM.no _ (by simp), rfl, _, rfl, rfl, _, rfl, ite_dec (fun q => ?_) (fun q => ?_)⟩
      · exact ⟨_, rfl, k a m (List.mem_of_getElem? hm) (V.str.inj q) ha⟩
      · refine ⟨⟨_, rfl⟩, rfl, ?_⟩
        have e : (namesOf B)[i]? = some m.name := by unfold namesOf; rw [List.getElem?_map, hm]; rfl
        rw [List.take_add_one, e]
        intro z2
        rcases List.mem_append.mp z2 with z2 | z2
        · exact hno z2
        · exact q (congrArg V.str (List.mem_singleton.mp z2).symm)
    · have xl := Paired.length hB.pmenus
      have e : (namesOf B).take ms.length = namesOf B := by rw [xl]; unfold namesOf; rw [← List.length_map (f := (·.name)), List.take_length]
      rw [e] at hno
      exact absurd hin hno
end
end MH
set_option Elab.async false
set_option linter.all false
set_option maxRecDepth 100000
set_option maxHeartbeats 4000000
namespace MH
open PySem PySem.Spec PyProof.Rows L2
section
variable {P : Program} {w : World} {K : PySem.W.Frag} {mg : Str → Option Value} {base : Heap}
/-! ### Sums.ways_to -/
def sumsNames : List Str := ["plan", "line", "to", "home", "best_to", "best_home"]
def sp_ways_to (CS CB CM : Addr) : Sp := fun vs H Q _ => ∃ (z zb dt dh bt bh : Addr) (B : List Menu) (line : Option Str) (s : SState) (y : V) (a : Act) (x : Str), vs = [.ref z, y, .str x] ∧ SumsIs CS CB CM H z zb dt dh bt bh B line s ∧ BoardOk B ∧ ActV H y a ∧
  (∀ n ∈ a.names, n ∈ namesOf B) ∧ x ∈ namesOf B ∧ ∀ l xs H', Same H H' → H l = none → H' l = some (.lst xs) → Paired (WayV H') xs (waysTo (firstOf B) x line s a) → Q (.ref l) H'
theorem sc_ways_to : FnScope ["self", "action", "name"] ["self", "action", "name"] (defScope s_Sums_ways_to) := ⟨rfl, rfl, rfl, by decide +kernel, rfl, by decide +kernel, by decide +kernel⟩
theorem ok_ways_to {CS CB CM f : Addr} {fd : FuncData} (M : Meth K CS "ways_to" f) (F : FunD K "ways_to" "Sums.ways_to" (defArgs s_Sums_ways_to) (defBody s_Sums_ways_to) (defScope s_Sums_ways_to) [] [] f fd) (O : ObjC K CS sumsNames)
    (D1 : CalX P w K mg base CX0 1 "plus" sp_plus) (D2 : CalX P w K mg base CX0 2 "told_to" (sp_told_to CB CM)) : MetX P w K mg base CX0 3 CS "ways_to" (sp_ways_to CS CB CM) := by
  refine mkMet M F sc_ways_to (fun vs H Q E h => ?_) (fun _ _ _ _ _ _ us hl => match us, hl with | [_, _, _], _ => rfl) (fun f cdv A outer s0 H vs Q E hr h => ?_)
  · obtain ⟨z, zb, dt, dh, bt, bh, B, line, s, y, a, x, rfl, _⟩ := h
    rfl
  · obtain ⟨z, zb, dt, dh, bt, bh, B, line, s, y, a, x, rfl, hS, ok, ⟨t0, rfl, ht⟩, hn, hx, k⟩ := h
    obtain ⟨dx, hz⟩ := hS.at_
    have hu := hu_of hr
    have l1 : (1 : Nat) ≤ sizeLine := by decide
    have l2 : (2 : Nat) ≤ sizeLine := by decide
    -- one way
    have one : ∀ (n : Option Int) (t2 l : Addr), H t2 = none → (upd H t2 (.tup [nV n, .bl false])) l = none → waysTo (firstOf B) x line s a = [(n, false)] → Q (.ref l) (upd (upd H t2 (.tup [nV n, .bl false])) l (.lst [.ref t2])) := fun n t2 l h2 hl e => by
      have s1 : Same H (upd H t2 (.tup [nV n, .bl false])) := Same.upd h2
      refine k l [.ref t2] _ (same_put s1 (s1.free hl)) (s1.free hl) upd_same ?_
      rw [e]
      exact .cons ⟨t2, rfl, by rw [upd_ne fun q => by rw [← q, upd_same] at hl; cases hl]; exact upd_same⟩ .nil
    obtain ⟨tt, htt, fin⟩ : ∃ t, PSs (cxOf CX0 P w K mg base ["self", "action", "name"] "Sums.ways_to" (defScope s_Sums_ways_to) f cdv A outer s0 H E) ((defBody s_Sums_ways_to).drop 2) t ∧
        (waysTo (firstOf B) x line s a = [(toldTo (firstOf B) x s.to s.home line a, false)] → t { nx := fun _ H' => Q .non H', rt := Q } [some (.ref z), some (.ref t0), some (.str x)] H) := by
      refine ⟨_, (pss_one (ps_ret (pe_lst (pa_cons (pe_tup (pa_cons (pe_cal (j := 2) D2 hr (by decide) pass0 (pa_cons (pe_fld (pv 0) (by rfl)) (pa_cons (pv 1) (pa_cons (pv 2) (pa_cons (pe_fld (pv 0) (by rfl)) (pa_cons (pe_fld (pv 0) (by rfl)) (pa_cons (pe_fld (pv 0) (by rfl)) pa_nil))))))) (pa_cons pe_bl pa_nil))) pa_nil)))), fun e => ?_⟩
      refine ⟨_, rfl, z, CS, dx, _, _, rfl, hz, O.cls, O.no _ (by simp [sumsNames]), rfl, _, rfl, _, rfl, _, rfl, z, CS, dx, _, _, rfl, hz, O.cls, O.no _ (by simp [sumsNames]), rfl, _, rfl, z, CS, dx, _, _, rfl, hz, O.cls, O.no _ (by simp [sumsNames]), rfl, _, rfl, z, CS, dx, _, _, rfl, hz, O.cls, O.no _ (by simp [sumsNames]), rfl, zb, dt, dh, B, .ref t0, a, x, s.to, s.home, line, rfl, hS.board, ok, ⟨t0, rfl, ht⟩, hn, hx, hS.to, hS.home, l2, fun t2 h2 => ⟨l1, fun l hl => one _ t2 l h2 hl e⟩⟩
    refine ⟨_, pss_cons (ps_if (PW.pt (pw_and (pt_cmpR op_eq (pe_ix ix_tup (pv 1) pe_int (fun _ _ => rfl)) pe_str (nomark _)) (pw_and1 (pt_cmpR op_isN (pe_fld (pv 0) (by rfl)) pe_non (nomark _))))) (pss_one (ps_ret (pe_lst (pa_cons (pe_tup (pa_cons pe_int (pa_cons pe_bl pa_nil))) pa_nil)))) pss_nil)
      (pss_cons (ps_if (pt_cmpR op_eq (pe_ix ix_tup (pv 1) pe_int (fun _ _ => rfl)) pe_str (nomark _)) (pss_one (ps_ret (pe_lst (pa_cons (pe_tup (pa_cons (pe_dget hu (pe_fld (pv 0) (by rfl)) (pe_ix ix_tup (pv 1) pe_int (fun _ _ => rfl)) (fun _ _ => rfl)) (pa_cons pe_bl pa_nil)))
          (pa_cons (pe_tup (pa_cons (pe_cal (j := 2) D1 hr (by decide) pass0 (pa_cons (pe_dget hu (pe_fld (pv 0) (by rfl)) (pe_ix ix_tup (pv 1) pe_int (fun _ _ => rfl)) (fun _ _ => rfl)) (pa_cons (pe_dget hu (pe_fld (pv 0) (by rfl)) (pe_ix ix_tup (pv 1) pe_int (fun _ _ => rfl)) (fun _ _ => rfl)) pa_nil))) (pa_cons pe_bl pa_nil))) pa_nil))))) pss_nil)
      htt), ?_⟩
    have h0 := words_at a
    cases a with
    | line y =>
      refine ⟨_, rfl, t0, _, 0, _, rfl, rfl, sqT ht, at0, rfl, true, rfl, iteT ⟨_, rfl, z, CS, dx, _, _, rfl, hz, O.cls, O.no _ (by simp [sumsNames]), rfl, rfl, _, rfl, ?_⟩⟩
      cases line with
      | none => exact ite_yes rfl ⟨l2, fun t2 h2 => ⟨l1, fun l hl => one (some 0) t2 l h2 hl rfl⟩⟩
      | some q => exact ite_no (fun z => by cases z) ⟨_, rfl, t0, _, 0, _, rfl, rfl, sqT ht, at0, rfl, false, rfl, iteF (fin rfl)⟩
    | call m n =>
      refine ⟨_, rfl, t0, _, 0, _, rfl, rfl, sqT ht, at0, rfl, false, rfl, iteF (iteF ⟨_, rfl, t0, _, 0, _, rfl, rfl, sqT ht, at0, rfl, true, rfl, iteT ?_⟩)⟩
      have mi := hn m (by simp [Act.names])
      have ni := hn n (by simp [Act.names])
      refine ⟨_, rfl, z, CS, dx, _, _, rfl, hz, O.cls, O.no _ (by simp [sumsNames]), rfl, _, rfl, t0, _, 1, _, rfl, rfl, sqT ht, at1, dt, _, rfl, hS.to.get mi, l2, fun t2 h2 => ?_⟩
      have s1 : Same H (upd H t2 (.tup [nV (s.to m), .bl false])) := Same.upd h2
      have e1 : (upd H t2 (.tup [nV (s.to m), .bl false])) t2 = some (.tup [nV (s.to m), .bl false]) := upd_same
      generalize upd H t2 (.tup [nV (s.to m), .bl false]) = H1 at s1 e1 ⊢
      have hz1 := s1 _ _ hz
      have ht1 := s1 _ _ ht
      refine ⟨_, rfl, z, CS, dx, _, _, rfl, hz1, O.cls, O.no _ (by simp [sumsNames]), rfl, _, rfl, t0, _, 1, _, rfl, rfl, sqT ht1, at1, dh, _, rfl, (hS.home.same s1).get mi,
        _, rfl, z, CS, dx, _, _, rfl, hz1, O.cls, O.no _ (by simp [sumsNames]), rfl, _, rfl, t0, _, 2, _, rfl, rfl, sqT ht1, at2, dt, _, rfl, (hS.to.same s1).get ni, _, _, rfl, l2, fun t3 h3 => ⟨l2, fun l hl => ?_⟩⟩
      have s2 := same_put (o := .tup [nV (plusN (s.home m) (s.to n)), .bl true]) s1 (s1.free h3)
      have e13 : (upd H1 t3 (.tup [nV (plusN (s.home m) (s.to n)), .bl true])) t2 = some (.tup [nV (s.to m), .bl false]) := (Same.upd h3 : Same H1 _) _ _ e1
      have e3 : (upd H1 t3 (.tup [nV (plusN (s.home m) (s.to n)), .bl true])) t3 = some (.tup [nV (plusN (s.home m) (s.to n)), .bl true]) := upd_same
      generalize upd H1 t3 (.tup [nV (plusN (s.home m) (s.to n)), .bl true]) = H3 at s2 e13 e3 hl ⊢
      have s3 : Same H3 (upd H3 l (.lst [.ref t2, .ref t3])) := Same.upd hl
      exact k l [.ref t2, .ref t3] _ (s2.trans s3) (s2.free hl) upd_same (.cons ⟨t2, rfl, s3 _ _ e13⟩ (.cons ⟨t3, rfl, s3 _ _ e3⟩ .nil))
    | out => exact ⟨_, rfl, t0, _, 0, _, rfl, rfl, sqT ht, at0, rfl, false, rfl, iteF (iteF ⟨_, rfl, t0, _, 0, _, rfl, rfl, sqT ht, at0, rfl, false, rfl, iteF (fin rfl)⟩)⟩
    | again => exact ⟨_, rfl, t0, _, 0, _, rfl, rfl, sqT ht, at0, rfl, false, rfl, iteF (iteF ⟨_, rfl, t0, _, 0, _, rfl, rfl, sqT ht, at0, rfl, false, rfl, iteF (fin rfl)⟩)⟩
    | main => exact ⟨_, rfl, t0, _, 0, _, rfl, rfl, sqT ht, at0, rfl, false, rfl, iteF (iteF ⟨_, rfl, t0, _, 0, _, rfl, rfl, sqT ht, at0, rfl, false, rfl, iteF (fin rfl)⟩)⟩
    | back => exact ⟨_, rfl, t0, _, 0, _, rfl, rfl, sqT ht, at0, rfl, false, rfl, iteF (iteF ⟨_, rfl, t0, _, 0, _, rfl, rfl, sqT ht, at0, rfl, false, rfl, iteF (fin rfl)⟩)⟩
    | go m => exact ⟨_, rfl, t0, _, 0, _, rfl, rfl, sqT ht, at0, rfl, false, rfl, iteF (iteF ⟨_, rfl, t0, _, 0, _, rfl, rfl, sqT ht, at0, rfl, false, rfl, iteF (fin rfl)⟩)⟩
end
end MH
set_option Elab.async false
set_option linter.all false
set_option maxRecDepth 100000
set_option maxHeartbeats 4000000
namespace MH
open PySem PySem.Spec PyProof.Rows L2
section
variable {P : Program} {w : World} {K : PySem.W.Frag} {mg : Str → Option Value} {base : Heap}
/-! ### Sums.fall -/
def sp_fall (CS CB CM : Addr) : Sp := fun vs H Q _ => ∃ (z zb dt dh bt bh : Addr) (B : List Menu) (line : Option Str) (s : SState) (y : V) (st : Step) (x : Str), vs = [.ref z, .str x, y] ∧ SumsIs CS CB CM H z zb dt dh bt bh B line s ∧ BoardOk B ∧ StepV H y st ∧
  (∀ n ∈ st.2.2.names, n ∈ namesOf B) ∧ x ∈ namesOf B ∧ ∀ H', But4 dt dh bt bh H H' → SumsIs CS CB CM H' z zb dt dh bt bh B line (fallS (firstOf B) line x st s).1 → Q (.bl (fallS (firstOf B) line x st s).2) H'
theorem sc_fall : FnScope ["self", "name", "step", "cost", "key", "action", "is_new", "told", "is_behind", "to", "home"] ["self", "name", "step"] (defScope s_Sums_fall) := ⟨rfl, rfl, rfl, by decide +kernel, rfl, by decide +kernel, by decide +kernel⟩
theorem ok_fall {CS CB CM f : Addr} {fd : FuncData} (M : Meth K CS "fall" f) (F : FunD K "fall" "Sums.fall" (defArgs s_Sums_fall) (defBody s_Sums_fall) (defScope s_Sums_fall) [] [] f fd) (O : ObjC K CS sumsNames)
    (D1 : CalX P w K mg base CX0 1 "plus" sp_plus) (D2 : CalX P w K mg base CX0 1 "is_below" sp_is_below) (D3 : CalX P w K mg base CX0 2 "told_home" sp_told_home) (D4 : MetX P w K mg base CX0 3 CS "ways_to" (sp_ways_to CS CB CM)) : MetX P w K mg base CX0 4 CS "fall" (sp_fall CS CB CM) := by
  obtain ⟨f1, fd1, ps1, M1, F1, B1⟩ := D4.ex
  refine mkMet M F sc_fall (fun vs H Q E h => ?_) (fun _ _ _ _ _ _ us hl => match us, hl with | [_, _, _], _ => rfl) (fun f cdv A outer s0 H vs Q E hr h => ?_)
  · obtain ⟨z, zb, dt, dh, bt, bh, B, line, s, y, st, x, rfl, _⟩ := h
    rfl
  · obtain ⟨z, zb, dt, dh, bt, bh, B, line, s, y, st, x, rfl, hS, ok, ⟨t0, ya, rfl, ht, av⟩, hn, hx, k⟩ := h
    have nd := sc_fall.nd
    have hu := hu_of hr
    refine ⟨_, pss_cons (ps_asg (pv 2) (pg_tup rfl (pgs_cons (pg_name (i := 3) nd rfl (Or.inl rfl)) (pgs_cons (pg_name (i := 4) nd rfl (Or.inl rfl)) (pgs_cons (pg_name (i := 5) nd rfl (Or.inl rfl)) pgs_nil)))))
      (pss_cons (ps_set (i := 6) nd rfl (Or.inl rfl) pe_bl)
      (pss_cons (ps_for (passes_of rfl) rfl (pi_list (pe_meth (pv 0) O.cls M1 F1 hr B1 .nil pass0 (pa_cons (pv 5) (pa_cons (pv 1) pa_nil)))) (pg_tup rfl (pgs_cons (pg_name (i := 7) nd rfl (Or.inl rfl)) (pgs_cons (pg_name (i := 8) nd rfl (Or.inl rfl)) pgs_nil)))
        (pss_cons (ps_set (i := 9) nd rfl (Or.inl rfl) (pe_cal (j := 3) D1 hr (by decide) pass0 (pa_cons (pv 3) (pa_cons (pv 7) pa_nil))))
        (pss_one (ps_if (pt_val (pe_cal (j := 3) D2 hr (by decide) pass0 (pa_cons (pv 9) (pa_cons (pe_dget hu (pe_fld (pv 0) (by rfl)) (pv 1) (fun _ _ => rfl)) pa_nil))))
          (pss_one (ps_asg (pe_tup (pa_cons (pv 9) (pa_cons (pe_tup (pa_cons (pv 2) (pa_cons (pv 8) pa_nil))) (pa_cons pe_bl pa_nil)))) (pg_tup rfl (pgs_cons (pg_sub (pe_fld (pv 0) (by rfl)) (pv 1) (set_dict hu)) (pgs_cons (pg_sub (pe_fld (pv 0) (by rfl)) (pv 1) (set_dict hu)) (pgs_cons (pg_name (i := 6) nd rfl (Or.inl rfl)) pgs_nil)))))) pss_nil))))
      (pss_cons (ps_set (i := 10) nd rfl (Or.inl rfl) (pe_cal (j := 3) D1 hr (by decide) pass0 (pa_cons (pv 3) (pa_cons (pe_cal (j := 3) D3 hr (by decide) pass0 (pa_cons (pv 5) (pa_cons (pv 1) (pa_cons (pe_fld (pv 0) (by rfl)) pa_nil)))) pa_nil))))
      (pss_cons (ps_if (pt_val (pe_cal (j := 3) D2 hr (by decide) pass0 (pa_cons (pv 10) (pa_cons (pe_dget hu (pe_fld (pv 0) (by rfl)) (pv 1) (fun _ _ => rfl)) pa_nil))))
          (pss_one (ps_asg (pe_tup (pa_cons (pv 10) (pa_cons (pv 2) (pa_cons pe_bl pa_nil)))) (pg_tup rfl (pgs_cons (pg_sub (pe_fld (pv 0) (by rfl)) (pv 1) (set_dict hu)) (pgs_cons (pg_sub (pe_fld (pv 0) (by rfl)) (pv 1) (set_dict hu)) (pgs_cons (pg_name (i := 6) nd rfl (Or.inl rfl)) pgs_nil)))))) pss_nil)
      (pss_one (ps_ret (pv 6))))))), ?_⟩
    have l2 : (2 : Nat) ≤ sizeLine := by decide
    have l3 : (3 : Nat) ≤ sizeLine := by decide
    obtain ⟨dx, hz⟩ := hS.at_
    refine ⟨_, rfl, t0, _, rfl, sqT ht, rfl, _, _, rfl, _, _, rfl, _, _, rfl, rfl, ?_⟩
    refine ⟨_, rfl, z, dx, _, rfl, hz, rfl, _, rfl, _, rfl, z, zb, dt, dh, bt, bh, B, line, s, ya, st.2.2, x, rfl, hS, ok, av, hn, hx, fun l xs H1 s1 hl e1 p1 => ⟨l, rfl, ⟨_, sqL e1⟩, ?_⟩⟩
    have wl := ways_len (f0 := firstOf B) (x := x) (line := line) (s := s) (a := st.2.2)
    have hS1 := hS.same s1
    refine for_it (walk_list (K := K) (xs := xs)) (fun i σ Hq => ∃ r : SState × Bool, r = ((waysTo (firstOf B) x line s st.2.2).take i).foldl (fallTo x st) (s, false) ∧
        (∃ a b c d, σ = [some (.ref z), some (.str x), some (.ref t0), some (.int st.1), some (.str st.2.1), some ya, some (.bl r.2), a, b, c, d]) ∧ But4 dt dh bt bh H1 Hq ∧ SumsIs CS CB CM Hq z zb dt dh bt bh B line r.1)
      ⟨(s, false), rfl, ⟨_, _, _, _, rfl⟩, But4.refl, hS1⟩ (fun i σ Hq _ ⟨r, _, _, bq, _⟩ => sqL (bq.keep hS1 e1 (fun _ w => by cases w))) (fun i v σ Hq0 Hq hi ⟨r, hr2, ⟨a, b, c, d, hσ⟩, bq, hq⟩ y => ?_) (fun σ Hq ⟨r, hr2, ⟨a, b, c, d, hσ⟩, bq, hq⟩ => ?_)
    · subst hσ
      obtain ⟨rfl, hv⟩ := y
      obtain ⟨q, hq1, hw⟩ := paired_getL p1 hv
      have fz : Fz (fun _ => False) H1 Hq := bq.fz hS1
      obtain ⟨t2, rfl, ht2⟩ := hw.mono fz
      obtain ⟨dx2, hz2⟩ := hq.at_
      have step : ((waysTo (firstOf B) x line s st.2.2).take (i + 1)).foldl (fallTo x st) (s, false) = fallTo x st r q := by
        rw [List.take_add_one, hq1, List.foldl_append, ← hr2]
        rfl
      refine ⟨t2, _, rfl, sqT ht2, rfl, _, _, rfl, _, _, rfl, rfl, _, rfl, _, rfl, some st.1, q.1, rfl, ?_⟩
      refine ⟨_, rfl, _, rfl, z, CS, dx2, _, _, rfl, hz2, O.cls, O.no _ (by simp [sumsNames]), rfl, _, rfl, dt, _, rfl, hq.to.get hx, _, _, rfl, _, rfl, ite_b (fun hb => ?_) (fun hb => ?_)⟩
      · have e : fallTo x st r q = ({ r.1 with to := setN r.1.to x (plusN (some st.1) q.1), bt := setB r.1.bt x (st, q.2) }, true) := if_pos hb
        refine ⟨_, rfl, _, rfl, _, rfl, l2, fun tp htp => ⟨l3, fun tq htq => ?_⟩⟩
        have q1 : Same Hq (upd Hq tp (.tup [.ref t0, .bl q.2])) := Same.upd htp
        have q2 := same_put (o := .tup [nV (plusN (some st.1) q.1), .ref tp, .bl true]) q1 (q1.free htq)
        have etp : (upd (upd Hq tp (.tup [.ref t0, .bl q.2])) tq (.tup [nV (plusN (some st.1) q.1), .ref tp, .bl true])) tp = some (.tup [.ref t0, .bl q.2]) := by rw [upd_ne fun w => by rw [← w, upd_same] at htq; cases htq]; exact upd_same
        have etq : (upd (upd Hq tp (.tup [.ref t0, .bl q.2])) tq (.tup [nV (plusN (some st.1) q.1), .ref tp, .bl true])) tq = some (.tup [nV (plusN (some st.1) q.1), .ref tp, .bl true]) := upd_same
        generalize upd (upd Hq tp (.tup [.ref t0, .bl q.2])) tq (.tup [nV (plusN (some st.1) q.1), .ref tp, .bl true]) = H2 at q2 etp etq ⊢
        have hq2 := hq.same q2
        obtain ⟨dx3, hz3⟩ := hq2.at_
        obtain ⟨H3, put3, b3, n3⟩ := hq2.to.put hx (plusN (some st.1) q.1)
        have hq3 := hq2.putTo b3 n3
        obtain ⟨dx4, hz4⟩ := hq3.at_
        have fz3 : Fz (fun _ => False) H H3 := ((Fz.of s1).trans fz).trans ((Fz.of q2).trans (b3.fzD hq2.to.choose_spec.1))
        have fz23 : Fz (fun _ => False) H2 H3 := b3.fzD hq2.to.choose_spec.1
        obtain ⟨H4, put4, b4, n4⟩ := hq3.best.put stepBV_mono (x := x) (v := .ref tp) (g := (st, q.2)) hx ⟨tp, .ref t0, rfl, fz23 _ _ etp trivial, t0, ya, rfl, fz3 _ _ ht trivial, av.mono fz3⟩
        have hq4 := hq3.putBt b4 n4
        refine ⟨tq, _, rfl, sqT etq, rfl, _, _, rfl, _, rfl, z, CS, dx3, _, _, rfl, hz3, O.cls, O.no _ (by simp [sumsNames]), rfl, _, rfl, dt, H3, rfl, put3, _, _, rfl, _, rfl, z, CS, dx4, _, _, rfl, hz4, O.cls, O.no _ (by simp [sumsNames]), rfl, _, rfl, bt, H4, rfl, put4, _, _, rfl, rfl, ?_⟩
        exact ⟨_, by rw [step], ⟨_, _, _, _, by rw [e]; rfl⟩, bq.trans ((But4.of q2).trans ((But4.t b3).trans (But4.b b4))), by rw [e]; exact hq4⟩
      · have e : fallTo x st r q = r := if_neg (by rw [hb]; exact Bool.false_ne_true)
        exact ⟨_, by rw [step], ⟨_, _, _, _, by rw [e]; rfl⟩, bq, by rw [e]; exact hq⟩
    · subst hσ
      have xl := Paired.length p1
      rw [xl, List.take_length] at hr2
      have fz : Fz (fun _ => False) H Hq := (Fz.of s1).trans (bq.fz hS1)
      obtain ⟨dx2, hz2⟩ := hq.at_
      have b0 : But4 dt dh bt bh H Hq := (But4.of s1).trans bq
      refine ⟨_, rfl, _, rfl, _, rfl, _, rfl, z, CS, dx2, _, _, rfl, hz2, O.cls, O.no _ (by simp [sumsNames]), rfl, dh, B, ya, st.2.2, x, r.1.home, rfl, av.mono fz, hn, hx, hq.home, some st.1, _, rfl, ?_⟩
      refine ⟨_, rfl, _, rfl, z, CS, dx2, _, _, rfl, hz2, O.cls, O.no _ (by simp [sumsNames]), rfl, _, rfl, dh, _, rfl, hq.home.get hx, _, _, rfl, _, rfl, ite_b (fun hb => ?_) (fun hb => ?_)⟩
      · have e : fallS (firstOf B) line x st s = ({ r.1 with home := setN r.1.home x (plusN (some st.1) (toldHome x r.1.home st.2.2)), bh := setB r.1.bh x st }, true) := by
          unfold fallS
          rw [← hr2]
          exact if_pos hb
        refine ⟨_, rfl, _, rfl, l3, fun tq htq => ?_⟩
        have q2 : Same Hq (upd Hq tq (.tup [nV (plusN (some st.1) (toldHome x r.1.home st.2.2)), .ref t0, .bl true])) := Same.upd htq
        have etq : (upd Hq tq (.tup [nV (plusN (some st.1) (toldHome x r.1.home st.2.2)), .ref t0, .bl true])) tq = some (.tup [nV (plusN (some st.1) (toldHome x r.1.home st.2.2)), .ref t0, .bl true]) := upd_same
        generalize upd Hq tq (.tup [nV (plusN (some st.1) (toldHome x r.1.home st.2.2)), .ref t0, .bl true]) = H2 at q2 etq ⊢
        have hq2 := hq.same q2
        obtain ⟨dx3, hz3⟩ := hq2.at_
        obtain ⟨H3, put3, b3, n3⟩ := hq2.home.put hx (plusN (some st.1) (toldHome x r.1.home st.2.2))
        have hq3 := hq2.putHome b3 n3
        obtain ⟨dx4, hz4⟩ := hq3.at_
        have fz3 : Fz (fun _ => False) H H3 := fz.trans ((Fz.of q2).trans (b3.fzD hq2.home.choose_spec.1))
        obtain ⟨H4, put4, b4, n4⟩ := hq3.besh.put stepV_mono (x := x) (v := .ref t0) (g := st) hx ⟨t0, ya, rfl, fz3 _ _ ht trivial, av.mono fz3⟩
        have hq4 := hq3.putBh b4 n4
        refine ⟨tq, _, rfl, sqT etq, rfl, _, _, rfl, _, rfl, z, CS, dx3, _, _, rfl, hz3, O.cls, O.no _ (by simp [sumsNames]), rfl, _, rfl, dh, H3, rfl, put3, _, _, rfl, _, rfl, z, CS, dx4, _, _, rfl, hz4, O.cls, O.no _ (by simp [sumsNames]), rfl, _, rfl, bh, H4, rfl, put4, _, _, rfl, rfl, _, rfl, ?_⟩
        rw [e] at k
        exact k H4 (b0.trans ((But4.of q2).trans ((But4.h b3).trans (But4.c b4)))) hq4
      · have e : fallS (firstOf B) line x st s = r := by
          unfold fallS
          rw [← hr2]
          exact if_neg (by rw [hb]; exact Bool.false_ne_true)
        rw [e] at k
        exact ⟨_, rfl, k Hq b0 hq⟩
end
end MH
set_option Elab.async false
set_option linter.all false
set_option maxRecDepth 100000
set_option maxHeartbeats 4000000
namespace MH
open PySem PySem.Spec PyProof.Rows L2
section
variable {P : Program} {w : World} {K : PySem.W.Frag} {mg : Str → Option Value} {base : Heap}
/-! ### Sums.go_over -/
def sp_go_over (CS CB CM : Addr) : Sp := fun vs H Q _ => ∃ (z zb dt dh bt bh : Addr) (B : List Menu) (line : Option Str) (s : SState), vs = [.ref z] ∧ SumsIs CS CB CM H z zb dt dh bt bh B line s ∧ BoardOk B ∧
  ∀ H', But4 dt dh bt bh H H' → SumsIs CS CB CM H' z zb dt dh bt bh B line (goOver line B s).1 → Q (.bl (goOver line B s).2) H'
theorem sc_go_over : FnScope ["self", "is_new", "menu", "step"] ["self"] (defScope s_Sums_go_over) := ⟨rfl, rfl, rfl, by decide +kernel, rfl, by decide +kernel, by decide +kernel⟩
theorem ok_go_over {CS CB CM f : Addr} {fd : FuncData} (M : Meth K CS "go_over" f) (F : FunD K "go_over" "Sums.go_over" (defArgs s_Sums_go_over) (defBody s_Sums_go_over) (defScope s_Sums_go_over) [] [] f fd) (O : ObjC K CS sumsNames)
    (OB : ObjC K CB ["menus", "names", "first", "lines"]) (OM : ObjC K CM ["name", "rows", "tail", "tries", "clears", "deeds", "last"]) (D1 : CalX P w K mg base CX0 1 "steps_of" (sp_steps_of CM)) (D2 : MetX P w K mg base CX0 4 CS "fall" (sp_fall CS CB CM)) : MetX P w K mg base CX0 5 CS "go_over" (sp_go_over CS CB CM) := by
  obtain ⟨f1, fd1, ps1, M1, F1, B1⟩ := D2.ex
  refine mkMet M F sc_go_over (fun vs H Q E h => ?_) (fun _ _ _ _ _ _ us hl => match us, hl with | [_], _ => rfl) (fun f cdv A outer s0 H vs Q E hr h => ?_)
  · obtain ⟨z, zb, dt, dh, bt, bh, B, line, s, rfl, _⟩ := h
    rfl
  · obtain ⟨z, zb, dt, dh, bt, bh, B, line, s, rfl, hS, ok, k⟩ := h
    have nd := sc_go_over.nd
    refine ⟨_, pss_cons (ps_set (i := 1) nd rfl (Or.inl rfl) pe_bl)
      (pss_cons (ps_for (passes_of rfl) rfl (pi_tup (pe_fld (pe_fld (pv 0) (by rfl)) (by rfl))) (pg_name (i := 2) nd rfl (Or.inl rfl))
        (pss_one (ps_for (passes_of rfl) rfl (pi_list (pe_cal (j := 4) D1 hr (by decide) pass0 (pa_cons (pv 2) pa_nil))) (pg_name (i := 3) nd rfl (Or.inl rfl))
          (pss_one (ps_if (pt_val (pe_meth (pv 0) O.cls M1 F1 hr B1 .nil pass0 (pa_cons (pe_fld (pv 2) (by rfl)) (pa_cons (pv 3) pa_nil)))) (pss_one (ps_set (i := 1) nd rfl (Or.inl rfl) pe_bl)) pss_nil)))))
      (pss_one (ps_ret (pv 1)))), ?_⟩
    obtain ⟨dx, hz⟩ := hS.at_
    obtain ⟨dx2, mt, nt, lt, ms, ys, hB⟩ := id hS.board
    refine ⟨_, rfl, z, CS, dx, _, _, rfl, hz, O.cls, O.no _ (by simp [sumsNames]), rfl, zb, CB, dx2, _, _, rfl, hB.at_, OB.cls, OB.no _ (by simp), rfl, mt, rfl, ⟨_, sqT hB.menus⟩, ?_⟩
    refine for_it (walk_tup (K := K) (xs := ms)) (fun i σ Hq => ∃ r : SState × Bool, r = (B.take i).foldl (goMenu (firstOf B) line) (s, false) ∧ (∃ a b, σ = [some (.ref z), some (.bl r.2), a, b]) ∧ But4 dt dh bt bh H Hq ∧ SumsIs CS CB CM Hq z zb dt dh bt bh B line r.1)
      ⟨(s, false), rfl, ⟨_, _, rfl⟩, But4.refl, hS⟩ (fun i σ Hq _ ⟨r, _, _, bq, _⟩ => sqT (bq.keep hS hB.menus (fun _ w => by cases w))) (fun i v σ Hq0 Hq hi ⟨r, hr2, ⟨a, b, hσ⟩, bq, hq⟩ y => ?_) (fun σ Hq ⟨r, hr2, ⟨a, b, hσ⟩, bq, hq⟩ => ?_)
    · subst hσ
      obtain ⟨rfl, hv⟩ := y
      obtain ⟨m, hm, am, rfl, hMA⟩ := paired_getL hB.pmenus hv
      have hmB := List.mem_of_getElem? hm
      have okm := ok.ok m hmB
      have hMq : MenuAt CM Hq am m := hMA.mono (Fr := fun _ => True) trivial (bq.fz hS)
      have nmin : m.name ∈ namesOf B := List.mem_map_of_mem hmB
      refine ⟨_, rfl, am, m, rfl, hMq, okm, fun l xs H1 s1 hl e1 p1 => ⟨l, rfl, ⟨_, sqL e1⟩, ?_⟩⟩
      have hq1 := hq.same s1
      have hM1 := hMq.same s1
      have sl := steps_len okm
      refine for_it (walk_list (K := K) (xs := xs)) (fun j σ Hz => ∃ u : SState × Bool, u = (m.steps.take j).foldl (goStep (firstOf B) line m.name) r ∧ (∃ c, σ = [some (.ref z), some (.bl u.2), some (.ref am), c]) ∧ But4 dt dh bt bh H1 Hz ∧ SumsIs CS CB CM Hz z zb dt dh bt bh B line u.1)
        ⟨r, rfl, ⟨_, rfl⟩, But4.refl, hq1⟩ (fun j σ Hz _ ⟨u, _, _, bz, _⟩ => sqL (bz.keep hq1 e1 (fun _ w => by cases w))) (fun j v σ Hz0 Hz hj ⟨u, hu2, ⟨c, hσ⟩, bz, hz1⟩ y => ?_) (fun σ Hz ⟨u, hu2, ⟨c, hσ⟩, bz, hz1⟩ => ?_)
      · subst hσ
        obtain ⟨rfl, hv2⟩ := y
        obtain ⟨st, hst, sv⟩ := paired_getL p1 hv2
        have fz : Fz (fun _ => False) H1 Hz := bz.fz hq1
        obtain ⟨dx3, hz3⟩ := hz1.at_
        obtain ⟨dx4, rt, dtt, la, xs4, ds4, hM⟩ := hM1.mono (Fr := fun _ => True) trivial (bz.fz hq1)
        have hst2 := List.mem_of_getElem? hst
        refine ⟨_, rfl, z, dx3, _, rfl, hz3, rfl, _, rfl, am, CM, dx4, _, _, rfl, hM.at_, OM.cls, OM.no _ (by simp), rfl, _, rfl, z, zb, dt, dh, bt, bh, B, line, u.1, v, st, m.name, rfl, hz1, ok, sv.mono fz, steps_names ok hmB st hst2, nmin, fun H3 b3 h3 => ⟨_, rfl, ?_⟩⟩
        have step := foldl_take (f := goStep (firstOf B) line m.name) (z := r) hst
        rw [← hu2] at step
        cases hb : (fallS (firstOf B) line m.name st u.1).2 with
        | true =>
          have e : goStep (firstOf B) line m.name u st = ((fallS (firstOf B) line m.name st u.1).1, true) := by unfold goStep; rw [hb]; rfl
          exact iteT ⟨_, by rw [step], ⟨_, by rw [e]; rfl⟩, bz.trans b3, by rw [e]; exact h3⟩
        | false =>
          have e : goStep (firstOf B) line m.name u st = ((fallS (firstOf B) line m.name st u.1).1, u.2) := by unfold goStep; rw [hb]; rfl
          exact iteF ⟨_, by rw [step], ⟨_, by rw [e]; rfl⟩, bz.trans b3, by rw [e]; exact h3⟩
      · subst hσ
        have xl := Paired.length p1
        rw [xl, List.take_length] at hu2
        have step := foldl_take (f := goMenu (firstOf B) line) (z := (s, false)) hm
        rw [← hr2] at step
        have e : goMenu (firstOf B) line r m = u := hu2.symm
        exact ⟨u, by rw [step, e], ⟨_, _, rfl⟩, bq.trans ((But4.of s1).trans bz), hz1⟩
    · subst hσ
      have xl := Paired.length hB.pmenus
      rw [xl, List.take_length] at hr2
      have e : goOver line B s = r := hr2.symm
      rw [e] at k
      exact ⟨_, rfl, k Hq bq hq⟩
end
end MH
set_option Elab.async false
set_option linter.all false
set_option maxRecDepth 100000
set_option maxHeartbeats 4000000
namespace MH
open PySem PySem.Spec PyProof.Rows L2
/-! ### the numbers fall but so often -/
def finN (o : Option Int) : Nat := if o.isSome = true then 1 else 0
def gN : Option Int → Nat
  | none => 2 ^ 50
  | some v => v.toNat
def cntS (B : List Menu) (s : SState) : Nat := ((namesOf B).map fun x => finN (s.to x) + finN (s.home x)).sum
def muS (B : List Menu) (s : SState) : Nat := ((namesOf B).map fun x => gN (s.to x) + gN (s.home x)).sum
theorem sum_mono {α : Type} {f g : α → Nat} : ∀ {l : List α}, (∀ y ∈ l, f y ≤ g y) → (l.map f).sum ≤ (l.map g).sum
  | [], _ => Nat.le_refl _
  | a :: l, h => by
    have h1 := h a List.mem_cons_self
    have h2 := sum_mono (l := l) fun y hy => h y (List.mem_cons_of_mem _ hy)
    simp only [List.map_cons, List.sum_cons]
    omega
theorem sum_strict {α : Type} {f g : α → Nat} {x : α} : ∀ {l : List α}, (∀ y ∈ l, f y ≤ g y) → x ∈ l → f x < g x → (l.map f).sum + 1 ≤ (l.map g).sum
  | [], _, h, _ => by cases h
  | a :: l, h, hx, lt => by
    have h1 := h a List.mem_cons_self
    have h' := fun y hy => h y (List.mem_cons_of_mem a hy)
    simp only [List.map_cons, List.sum_cons]
    rcases List.mem_cons.mp hx with rfl | hx
    · have := sum_mono h'
      omega
    · have := sum_strict h' hx lt
      omega
theorem sum_bound {α : Type} {f : α → Nat} {b : Nat} : ∀ {l : List α}, (∀ y ∈ l, f y ≤ b) → (l.map f).sum ≤ b * l.length
  | [], _ => by simp
  | a :: l, h => by
    have h1 := h a List.mem_cons_self
    have h2 := sum_bound (l := l) fun y hy => h y (List.mem_cons_of_mem _ hy)
    simp only [List.map_cons, List.sum_cons, List.length_cons, Nat.mul_add]
    omega
theorem finN_le (o : Option Int) : finN o ≤ 1 := by unfold finN; split <;> omega
theorem cnt_le {B : List Menu} (ok : BoardOk B) (s : SState) : cntS B s ≤ 40 := by
  have h := sum_bound (f := fun x => finN (s.to x) + finN (s.home x)) (b := 2) (l := namesOf B) fun y _ => by
    have := finN_le (s.to y)
    have := finN_le (s.home y)
    show _ + _ ≤ 2
    omega
  have : (namesOf B).length ≤ 20 := by unfold namesOf; rw [List.length_map]; exact ok.few
  unfold cntS
  omega
/-- a number below 2 ^ k -/
def Low (k : Nat) (o : Option Int) : Prop := ∀ v, o = some v → 0 ≤ v ∧ v < (2 : Int) ^ k
theorem pow_le {a b : Nat} (h : a ≤ b) : (2 : Int) ^ a ≤ 2 ^ b := by
  have := Nat.pow_le_pow_right (n := 2) (by decide) h
  exact_mod_cast this
theorem Low.mono {a b : Nat} {o : Option Int} (h : Low a o) (l : a ≤ b) : Low b o := fun v e => by
  have := h v e
  have := pow_le l
  omega
structure Bnd (B : List Menu) (s : SState) : Prop where
  to : ∀ x ∈ namesOf B, Low (cntS B s) (s.to x)
  home : ∀ x ∈ namesOf B, Low (cntS B s) (s.home x)
theorem pow_succ' (k : Nat) : (2 : Int) ^ (k + 1) = 2 ^ k + 2 ^ k := by rw [Int.pow_succ]; omega
theorem low_plus {k : Nat} {a b : Option Int} (ha : Low k a) (hb : Low k b) : ∀ v, plusN a b = some v → 0 ≤ v ∧ v + 1 < (2 : Int) ^ (k + 1) := fun v e => by
  rw [pow_succ']
  cases a with
  | none => cases b <;> cases e
  | some a =>
    cases b with
    | none => cases e
    | some b =>
      have := ha a rfl
      have := hb b rfl
      have e2 : a + b = v := Option.some.inj e
      omega
theorem one_low (k : Nat) : (0 : Int) < 2 ^ k := by
  induction k with
  | zero => decide
  | succ k ih => rw [pow_succ']; omega
/-- what is told of numbers below 2 ^ k, a step more -/
def Told (k : Nat) (o : Option Int) : Prop := ∀ v, o = some v → 0 ≤ v ∧ v + 1 < (2 : Int) ^ (k + 1)
theorem Low.told {k : Nat} {o : Option Int} (h : Low k o) : Told k o := fun v e => by
  have := h v e
  rw [pow_succ']
  have := one_low k
  omega
theorem Told.none {k : Nat} : Told k none := fun v e => by cases e
theorem Told.zero {k : Nat} : Told k (some 0) := fun v e => by
  have := one_low k
  have e2 : (0 : Int) = v := Option.some.inj e
  rw [pow_succ']
  omega
theorem Told.lesser {k : Nat} {a b : Option Int} (ha : Told k a) (hb : Told k b) : Told k (lesserN a b) := by
  cases a with
  | none => exact hb
  | some a =>
    cases b with
    | none => exact ha
    | some b =>
      show Told k (some (if b < a then b else a))
      split
      · exact hb
      · exact ha
theorem told_to_low {B : List Menu} (ok : BoardOk B) {s : SState} (h : Bnd B s) {x : Str} (hx : x ∈ namesOf B) {line : Option Str} {a : Act} (hn : ∀ y ∈ a.names, y ∈ namesOf B) : Told (cntS B s) (toldTo (firstOf B) x s.to s.home line a) := by
  cases a with
  | line y =>
    show Told _ (if lV (some y) = lV line then some 0 else none)
    split
    · exact Told.zero
    · exact Told.none
  | out => exact Told.none
  | back => exact Told.none
  | again => exact (h.to x hx).told
  | main => exact (h.to _ (first_mem ok)).told
  | go m => exact (h.to m (hn m (by simp [Act.names]))).told
  | call m t => exact Told.lesser (h.to m (hn m (by simp [Act.names]))).told (low_plus (h.home m (hn m (by simp [Act.names]))) (h.to t (hn t (by simp [Act.names]))))
theorem told_home_low {B : List Menu} {s : SState} (h : Bnd B s) {x : Str} (hx : x ∈ namesOf B) {a : Act} (hn : ∀ y ∈ a.names, y ∈ namesOf B) : Told (cntS B s) (toldHome x s.home a) := by
  cases a with
  | line y => exact Told.none
  | out => exact Told.none
  | main => exact Told.none
  | back => exact Told.zero
  | again => exact (h.home x hx).told
  | go m => exact (h.home m (hn m (by simp [Act.names]))).told
  | call m t => exact low_plus (h.home m (hn m (by simp [Act.names]))) (h.home t (hn t (by simp [Act.names])))
theorem ways_low {B : List Menu} (ok : BoardOk B) {s : SState} (h : Bnd B s) {x : Str} (hx : x ∈ namesOf B) {line : Option Str} {a : Act} (hn : ∀ y ∈ a.names, y ∈ namesOf B) : ∀ q ∈ waysTo (firstOf B) x line s a, Told (cntS B s) q.1 := by
  intro q hq
  have one := told_to_low ok h hx (line := line) hn
  cases a with
  | line y =>
    cases line with
    | none => rw [List.mem_singleton.mp hq]; exact Told.zero
    | some z => rw [List.mem_singleton.mp hq]; exact one
  | call m t =>
    rcases List.mem_cons.mp hq with rfl | hq
    · exact (h.to m (hn m (by simp [Act.names]))).told
    · rw [List.mem_singleton.mp hq]
      exact low_plus (h.home m (hn m (by simp [Act.names]))) (h.to t (hn t (by simp [Act.names])))
  | out => rw [List.mem_singleton.mp hq]; exact one
  | again => rw [List.mem_singleton.mp hq]; exact one
  | main => rw [List.mem_singleton.mp hq]; exact one
  | back => rw [List.mem_singleton.mp hq]; exact one
  | go m => rw [List.mem_singleton.mp hq]; exact one
end MH
namespace MH
open PySem PySem.Spec PyProof.Rows L2
/-- r came of s by falls: bounded, not fewer finite ones, the numbers not above -/
structure Fell (B : List Menu) (s : SState) (r : SState) : Prop where
  bnd : Bnd B r
  cnt : cntS B s ≤ cntS B r
  mu : muS B r ≤ muS B s
theorem Fell.refl {B : List Menu} {s : SState} (h : Bnd B s) : Fell B s s := ⟨h, Nat.le_refl _, Nat.le_refl _⟩
theorem Fell.trans {B : List Menu} {s r u : SState} (a : Fell B s r) (b : Fell B r u) : Fell B s u := ⟨b.bnd, Nat.le_trans a.cnt b.cnt, Nat.le_trans b.mu a.mu⟩
theorem setN_self {τ : Str → Option Int} {x : Str} {n : Option Int} : setN τ x n x = n := if_pos rfl
theorem setN_ne {τ : Str → Option Int} {x y : Str} {n : Option Int} (h : y ≠ x) : setN τ x n y = τ y := if_neg h
theorem below_some {a b : Option Int} (h : belowN a b = true) : ∃ v, a = some v ∧ (b = none ∨ ∃ u, b = some u ∧ v < u) := by
  cases a with
  | none => cases h
  | some v =>
    cases b with
    | none => exact ⟨v, rfl, .inl rfl⟩
    | some u => exact ⟨v, rfl, .inr ⟨u, rfl, of_decide_eq_true h⟩⟩
/-- one number falls -/
theorem fall_one {old : Option Int} {v : Int} {k k' : Nat} (h0 : 0 ≤ v) (h1 : v < (2 : Int) ^ (k + 1)) (hk : k ≤ 40) (ho : Low k old) (hb : old = none ∨ ∃ u, old = some u ∧ v < u) (hc : (old = none → k + 1 ≤ k') ∧ k ≤ k') : Low k' (some v) ∧ gN (some v) < gN old ∧ finN old ≤ finN (some v) := by
  have p50 : v < (2 : Int) ^ 41 := by
    have := pow_le (a := k + 1) (b := 41) (by omega)
    omega
  rcases hb with rfl | ⟨u, rfl, lt⟩
  · refine ⟨fun w e => ?_, ?_, Nat.zero_le _⟩
    · have e2 : v = w := Option.some.inj e
      have := pow_le (hc.1 rfl)
      omega
    · show v.toNat < 2 ^ 50
      have e41 : (2 : Int) ^ 41 = 2199023255552 := by decide
      have e50 : (2 : Nat) ^ 50 = 1125899906842624 := by decide
      omega
  · have hu := ho u rfl
    refine ⟨fun w e => ?_, ?_, Nat.le_refl _⟩
    · have e2 : v = w := Option.some.inj e
      have := pow_le hc.2
      omega
    · show v.toNat < u.toNat
      omega
theorem fell_to {B : List Menu} (ok : BoardOk B) {s : SState} (h : Bnd B s) {x : Str} (hx : x ∈ namesOf B) {v : Int} {bt' : Str → Option (Step × Bool)} (h0 : 0 ≤ v) (h1 : v < (2 : Int) ^ (cntS B s + 1)) (hb : s.to x = none ∨ ∃ u, s.to x = some u ∧ v < u) :
    Fell B s { s with to := setN s.to x (some v), bt := bt' } ∧ muS B { s with to := setN s.to x (some v), bt := bt' } + 1 ≤ muS B s := by
  have k40 := cnt_le ok s
  have hcnt : cntS B s ≤ cntS B { s with to := setN s.to x (some v), bt := bt' } := sum_mono fun y _ => by
    show finN (s.to y) + finN (s.home y) ≤ finN (setN s.to x (some v) y) + finN (s.home y)
    by_cases e : y = x
    · rw [e, setN_self]
      have : finN (s.to x) ≤ 1 := finN_le _
      have : finN (some v) = 1 := rfl
      omega
    · rw [setN_ne e]; exact Nat.le_refl _
  have hcnt2 : s.to x = none → cntS B s + 1 ≤ cntS B { s with to := setN s.to x (some v), bt := bt' } := fun e0 => sum_strict (x := x) (fun y _ => by
    show finN (s.to y) + finN (s.home y) ≤ finN (setN s.to x (some v) y) + finN (s.home y)
    by_cases e : y = x
    · rw [e, setN_self]
      have : finN (s.to x) ≤ 1 := finN_le _
      have : finN (some v) = 1 := rfl
      omega
    · rw [setN_ne e]; exact Nat.le_refl _) hx (by
    show finN (s.to x) + finN (s.home x) < finN (setN s.to x (some v) x) + finN (s.home x)
    rw [setN_self, e0]
    have : finN (none : Option Int) = 0 := rfl
    have : finN (some v) = 1 := rfl
    omega)
  obtain ⟨low, g, _⟩ := fall_one (k' := cntS B { s with to := setN s.to x (some v), bt := bt' }) h0 h1 k40 (h.to x hx) hb ⟨hcnt2, hcnt⟩
  have hmu : muS B { s with to := setN s.to x (some v), bt := bt' } + 1 ≤ muS B s := sum_strict (x := x) (fun y _ => by
    show gN (setN s.to x (some v) y) + gN (s.home y) ≤ gN (s.to y) + gN (s.home y)
    by_cases e : y = x
    · rw [e, setN_self]; omega
    · rw [setN_ne e]; exact Nat.le_refl _) hx (by
    show gN (setN s.to x (some v) x) + gN (s.home x) < gN (s.to x) + gN (s.home x)
    rw [setN_self]; omega)
  refine ⟨⟨⟨fun y hy => ?_, fun y hy => (h.home y hy).mono hcnt⟩, hcnt, by omega⟩, hmu⟩
  show Low _ (setN s.to x (some v) y)
  by_cases e : y = x
  · rw [e, setN_self]; exact low
  · rw [setN_ne e]; exact (h.to y hy).mono hcnt
theorem fell_home {B : List Menu} (ok : BoardOk B) {s : SState} (h : Bnd B s) {x : Str} (hx : x ∈ namesOf B) {v : Int} {bh' : Str → Option Step} (h0 : 0 ≤ v) (h1 : v < (2 : Int) ^ (cntS B s + 1)) (hb : s.home x = none ∨ ∃ u, s.home x = some u ∧ v < u) :
    Fell B s { s with home := setN s.home x (some v), bh := bh' } ∧ muS B { s with home := setN s.home x (some v), bh := bh' } + 1 ≤ muS B s := by
  have k40 := cnt_le ok s
  have hcnt : cntS B s ≤ cntS B { s with home := setN s.home x (some v), bh := bh' } := sum_mono fun y _ => by
    show finN (s.to y) + finN (s.home y) ≤ finN (s.to y) + finN (setN s.home x (some v) y)
    by_cases e : y = x
    · rw [e, setN_self]
      have : finN (s.home x) ≤ 1 := finN_le _
      have : finN (some v) = 1 := rfl
      omega
    · rw [setN_ne e]; exact Nat.le_refl _
  have hcnt2 : s.home x = none → cntS B s + 1 ≤ cntS B { s with home := setN s.home x (some v), bh := bh' } := fun e0 => sum_strict (x := x) (fun y _ => by
    show finN (s.to y) + finN (s.home y) ≤ finN (s.to y) + finN (setN s.home x (some v) y)
    by_cases e : y = x
    · rw [e, setN_self]
      have : finN (s.home x) ≤ 1 := finN_le _
      have : finN (some v) = 1 := rfl
      omega
    · rw [setN_ne e]; exact Nat.le_refl _) hx (by
    show finN (s.to x) + finN (s.home x) < finN (s.to x) + finN (setN s.home x (some v) x)
    rw [setN_self, e0]
    have : finN (none : Option Int) = 0 := rfl
    have : finN (some v) = 1 := rfl
    omega)
  obtain ⟨low, g, _⟩ := fall_one (k' := cntS B { s with home := setN s.home x (some v), bh := bh' }) h0 h1 k40 (h.home x hx) hb ⟨hcnt2, hcnt⟩
  have hmu : muS B { s with home := setN s.home x (some v), bh := bh' } + 1 ≤ muS B s := sum_strict (x := x) (fun y _ => by
    show gN (s.to y) + gN (setN s.home x (some v) y) ≤ gN (s.to y) + gN (s.home y)
    by_cases e : y = x
    · rw [e, setN_self]; omega
    · rw [setN_ne e]; exact Nat.le_refl _) hx (by
    show gN (s.to x) + gN (setN s.home x (some v) x) < gN (s.to x) + gN (s.home x)
    rw [setN_self]; omega)
  refine ⟨⟨⟨fun y hy => (h.to y hy).mono hcnt, fun y hy => ?_⟩, hcnt, by omega⟩, hmu⟩
  show Low _ (setN s.home x (some v) y)
  by_cases e : y = x
  · rw [e, setN_self]; exact low
  · rw [setN_ne e]; exact (h.home y hy).mono hcnt
end MH
namespace MH
open PySem PySem.Spec PyProof.Rows L2
structure Go (B : List Menu) (s : SState) (r : SState × Bool) : Prop where
  fell : Fell B s r.1
  new : r.2 = true → muS B r.1 + 1 ≤ muS B s
theorem cost_low {k : Nat} {c : Int} {o : Option Int} (hc : c = 0 ∨ c = 1) (h : Told k o) {v : Int} (e : plusN (some c) o = some v) : 0 ≤ v ∧ v < (2 : Int) ^ (k + 1) := by
  cases o with
  | none => cases e
  | some w =>
    have := h w rfl
    have e2 : c + w = v := Option.some.inj e
    omega
theorem go_fallTo {B : List Menu} (ok : BoardOk B) {s : SState} {r : SState × Bool} {x : Str} {st : Step} {q : Option Int × Bool} (g : Go B s r) (hx : x ∈ namesOf B) (hc : st.1 = 0 ∨ st.1 = 1) (hq : Told (cntS B s) q.1) : Go B s (fallTo x st r q) := by
  unfold fallTo
  split
  · rename_i hb
    obtain ⟨v, e, hv⟩ := below_some hb
    obtain ⟨h0, h1⟩ := cost_low hc hq e
    have h1' : v < (2 : Int) ^ (cntS B r.1 + 1) := by
      have := pow_le (a := cntS B s + 1) (b := cntS B r.1 + 1) (by have := g.fell.cnt; omega)
      omega
    rw [e]
    obtain ⟨f, m⟩ := fell_to ok g.fell.bnd hx (bt' := setB r.1.bt x (st, q.2)) h0 h1' hv
    exact ⟨g.fell.trans f, fun _ => Nat.le_trans m g.fell.mu⟩
  · exact g
theorem go_foldl {α : Type} {B : List Menu} {s : SState} {f : SState × Bool → α → SState × Bool} : ∀ {l : List α} {r : SState × Bool}, (∀ r a, a ∈ l → Go B s r → Go B s (f r a)) → Go B s r → Go B s (l.foldl f r)
  | [], _, _, g => g
  | a :: l, _, h, g => go_foldl (l := l) (fun r b hb => h r b (List.mem_cons_of_mem _ hb)) (h _ a List.mem_cons_self g)
theorem go_fallS {B : List Menu} (ok : BoardOk B) {s : SState} (h : Bnd B s) {line : Option Str} {x : Str} {st : Step} (hx : x ∈ namesOf B) (hc : st.1 = 0 ∨ st.1 = 1) (hn : ∀ y ∈ st.2.2.names, y ∈ namesOf B) : Go B s (fallS (firstOf B) line x st s) := by
  have g0 : Go B s (s, false) := ⟨Fell.refl h, fun e => by cases e⟩
  have g1 := go_foldl (l := waysTo (firstOf B) x line s st.2.2) (f := fallTo x st) (fun r q hq g => go_fallTo ok g hx hc (ways_low ok h hx hn q hq)) g0
  unfold fallS
  generalize (waysTo (firstOf B) x line s st.2.2).foldl (fallTo x st) (s, false) = r at g1
  unfold fallHome
  split
  · rename_i hb
    obtain ⟨v, e, hv⟩ := below_some hb
    obtain ⟨h0, h1⟩ := cost_low hc (told_home_low g1.fell.bnd hx hn) e
    rw [e]
    obtain ⟨f, m⟩ := fell_home ok g1.fell.bnd hx (bh' := setB r.1.bh x st) h0 h1 hv
    exact ⟨g1.fell.trans f, fun _ => Nat.le_trans m g1.fell.mu⟩
  · exact g1
theorem go_over {B : List Menu} (ok : BoardOk B) {s : SState} (h : Bnd B s) {line : Option Str} : Go B s (goOver line B s) := by
  unfold goOver
  refine go_foldl (fun r m hm g => ?_) ⟨Fell.refl h, fun e => by cases e⟩
  unfold goMenu
  refine go_foldl (fun r st hst g => ?_) g
  have k := go_fallS ok g.fell.bnd (line := line) (x := m.name) (st := st) (List.mem_map_of_mem hm) ((steps_ok (ok.ok m hm) st hst).2) (steps_names ok hm st hst)
  unfold goStep
  refine ⟨g.fell.trans k.fell, fun e => ?_⟩
  have e2 : (if (fallS (firstOf B) line m.name st r.1).2 = true then true else r.2) = true := e
  by_cases q : (fallS (firstOf B) line m.name st r.1).2 = true
  · exact Nat.le_trans (k.new q) g.fell.mu
  · rw [if_neg q] at e2
    have := g.new e2
    have := k.fell.mu
    show muS B (fallS (firstOf B) line m.name st r.1).1 + 1 ≤ _
    omega
/-- nothing is told yet -/
def sums0 : SState := ⟨fun _ => none, fun _ => none, fun _ => none, fun _ => none⟩
theorem bnd0 (B : List Menu) : Bnd B sums0 := ⟨fun _ _ v e => (by cases e), fun _ _ v e => (by cases e)⟩
/-- the numbers when nothing falls any more -/
inductive Runs (line : Option Str) (B : List Menu) : SState → SState → Prop
  | done {s : SState} (h : (goOver line B s).2 = false) : Runs line B s (goOver line B s).1
  | more {s r : SState} (h : (goOver line B s).2 = true) (k : Runs line B (goOver line B s).1 r) : Runs line B s r
end MH
set_option Elab.async false
set_option linter.all false
set_option maxRecDepth 100000
set_option maxHeartbeats 4000000
namespace MH
open PySem PySem.Spec PyProof.Rows L2
section
variable {P : Program} {w : World} {K : PySem.W.Frag} {mg : Str → Option Value} {base : Heap}
/-! ### Sums.__init__ -/
def sp_sums_init (CS CB CM : Addr) : Sp := fun vs H Q _ => ∃ (z dx zb : Addr) (B : List Menu) (line : Option Str), vs = [.ref z, .ref zb, lV line] ∧ H z = some (.ins CS dx []) ∧ BoardAt CB CM H zb B ∧ BoardOk B ∧
  ∀ dt dh bt bh s H', But z H H' → SumsIs CS CB CM H' z zb dt dh bt bh B line s → Runs line B sums0 s → Q .non H'
theorem sc_sums_init : FnScope ["self", "board", "line", "is_new", "name"] ["self", "board", "line"] (defScope s_Sums_init) := ⟨rfl, rfl, rfl, by decide +kernel, rfl, by decide +kernel, by decide +kernel⟩
/-- what a dict of nothings leaves -/
theorem dc_nones {B : List Menu} (ok : BoardOk B) {H1 : Hp} {D nt : Addr} {σ : L2.St} {Q : Hp → Prop} (hD : H1 D = none) (hn : H1 nt = some (.tup ((namesOf B).map V.str)))
    (hd : ∀ H, Same H1 H → NumAt B H D (fun _ => none) → Q H) {K : PySem.W.Frag} (hσ : 4 < σ.length) :
    ∃ W : Nat → Nat → Hp → Prop, (∃ m, W 0 m (upd H1 D (.dK []))) ∧ ∀ i m H, W i m H → ((Itt K nt).stop i H ∧ Q H) ∨ ((Itt K nt).go i H ∧ ∃ Nx : Hp → Prop, (∀ H', Nx H' → ∃ m', m' < m ∧ W (i + 1) m' H') ∧ ∀ x H', (Itt K nt).yld i H x H' →
      gName 4 x (wipe σ [4]) H' fun σ2 H2 => wipe σ2 [4] = wipe σ [4] ∧ tYes σ2 H2 fun b H3 => if b = true then tVar 4 σ2 H3 fun y H4 => tC .non σ2 H4 fun z H5 => ∃ kvs k, y = kV k ∧ H5 D = some (.dK kvs) ∧ kvs.length < sizeLine ∧ Nx (upd H5 D (.dK (putK kvs k z))) else Nx H3) := by
  have nl : (namesOf B).length ≤ 20 := by unfold namesOf; rw [List.length_map]; exact ok.few
  refine loop_it (walk_tup (K := K) (xs := (namesOf B).map V.str)) (fun i H => Same H1 H ∧ ∃ kvs : List (Key × V), H D = some (.dK kvs) ∧ (∀ x ∈ (namesOf B).take i, valV kvs (Sum.inr x) = some .non) ∧ kvs.length ≤ i) ⟨Same.upd hD, [], upd_same, fun x hx => by simp at hx, Nat.le_refl _⟩
    (fun i H _ p => sqT (p.1 _ _ hn)) (fun i x H0 H hi ⟨sm, kvs, e, hv, hl⟩ y => ?_) (fun H ⟨sm, kvs, e, hv, hl⟩ => ?_)
  · obtain ⟨rfl, hx⟩ := y
    rw [List.getElem?_map] at hx
    obtain ⟨nm, hnm, rfl⟩ := Option.map_eq_some_iff.mp hx
    rw [List.length_map] at hi
    refine ⟨?_, ?_⟩
    · show (((σ.set 4 none).set 4 (some (.str nm))).set 4 none) = σ.set 4 none
      rw [List.set_set, List.set_set]
    · refine ⟨.str nm, ?_, kvs, Sum.inr nm, rfl, e, line_lt (by omega), same_put sm hD, _, upd_same, fun x hx => ?_, ?_⟩
      · show ((σ.set 4 none).set 4 (some (.str nm)))[4]? = _
        rw [List.set_set, List.getElem?_set_self (by omega)]
      · rw [valV_put]
        by_cases ex : x = nm
        · rw [if_pos (by rw [ex])]
        · rw [if_neg (fun z => ex (Sum.inr.inj z))]
          rw [List.take_add_one, hnm] at hx
          rcases List.mem_append.mp hx with hx | hx
          · exact hv x hx
          · exact absurd (List.mem_singleton.mp hx) ex
      · rw [put_len]
        split <;> omega
  · rw [List.length_map, List.take_length] at hv
    exact hd H sm ⟨kvs, e, fun x hx => hv x hx, by rw [List.length_map] at hl; omega⟩
theorem ok_sums_init {CS CB CM f : Addr} {fd : FuncData} (M : Mk K CS f) (hmC : mg "Sums" = some (.ref CS)) (O : ObjC K CS sumsNames) (OB : ObjC K CB ["menus", "names", "first", "lines"])
    (F : FunD K "__init__" "Sums.__init__" (defArgs s_Sums_init) (defBody s_Sums_init) (defScope s_Sums_init) [] [] f fd) (nB : CB ≠ CS) (nM : CM ≠ CS) (D : MetX P w K mg base CX0 5 CS "go_over" (sp_go_over CS CB CM)) : MakX P w K mg base CX0 6 "Sums" CS (sp_sums_init CS CB CM) := by
  obtain ⟨f1, fd1, ps1, M1, F1, B1⟩ := D.ex
  have Bi : Binds K fd ["self", "board", "line"] [] := F.bindsN fun _ _ _ _ _ _ us hl => match us, hl with | [_, _, _], _ => rfl
  refine ⟨f, fd, _, M, F.ok sc_sums_init (fun vs H Q E h => ?_) (fun cdv A outer s0 H vs Q E hr h => ?_), hmC, Bi⟩
  · obtain ⟨z, dx, zb, B, line, rfl, _⟩ := h
    rfl
  · obtain ⟨z, dx, zb, B, line, rfl, hz, hB, ok, k⟩ := h
    have nd := sc_sums_init.nd
    refine ⟨_, pss_cons (ps_fld (pv 0) (pv 1) (by rfl))
      (pss_cons (ps_fld (pv 0) (pv 2) (by rfl))
      (pss_cons (ps_fld (pv 0) (pe_dc (tk := tVar 4) (tv := tC .non) (own := [("name", 4)]) (g := gName 4) rfl nd (pi_tup (pe_fld (pv 1) (by rfl))) (blkOk_by (own := [("name", 4)]) (N := ["self", "board", "line", "is_new", "name"]) (sc := defScope s_Sums_init) (by decide +kernel)) (fun _ _ _ _ _ => pg_name (i := 4) nd rfl (Or.inl rfl)) (fun _ _ _ _ _ => pts_nil) (fun _ _ _ _ _ => pv 4) (fun _ _ _ _ _ => pe_non)) (by rfl))
      (pss_cons (ps_fld (pv 0) (pe_dc (tk := tVar 4) (tv := tC .non) (own := [("name", 4)]) (g := gName 4) rfl nd (pi_tup (pe_fld (pv 1) (by rfl))) (blkOk_by (own := [("name", 4)]) (N := ["self", "board", "line", "is_new", "name"]) (sc := defScope s_Sums_init) (by decide +kernel)) (fun _ _ _ _ _ => pg_name (i := 4) nd rfl (Or.inl rfl)) (fun _ _ _ _ _ => pts_nil) (fun _ _ _ _ _ => pv 4) (fun _ _ _ _ _ => pe_non)) (by rfl))
      (pss_cons (ps_fld (pv 0) pe_dnewK (by rfl))
      (pss_cons (ps_fld (pv 0) pe_dnewK (by rfl))
      (pss_cons (ps_set (i := 3) nd rfl (Or.inl rfl) pe_bl)
      (pss_one (ps_while (passes_of rfl) (pt_val (pv 3)) (pss_one (ps_set (i := 3) nd rfl (Or.inl rfl) (pe_meth0 (pv 0) O.cls M1 F1 hr B1 .nil pass0))))))))))), ?_⟩
    have z0 := hz
    have b0 : But z H H := But.refl z H
    -- self.plan, self.line
    refine ⟨_, rfl, _, rfl, z, CS, dx, _, rfl, z0, O.cls, O.no _ (by simp [sumsNames]), by simp, ?_⟩
    have e1 : But z H (upd H z (.ins CS dx (putF "plan" (.ref zb) []))) := (But.refl z H).upd
    have z1 : (upd H z (.ins CS dx (putF "plan" (.ref zb) []))) z = some (.ins CS dx [("plan", .ref zb)]) := upd_same
    generalize upd H z (.ins CS dx (putF "plan" (.ref zb) [])) = H1 at e1 z1 ⊢
    refine ⟨_, rfl, _, rfl, z, CS, dx, _, rfl, z1, O.cls, O.no _ (by simp [sumsNames]), by simp, ?_⟩
    have e2 : But z H1 (upd H1 z (.ins CS dx (putF "line" (lV line) [("plan", .ref zb)]))) := (But.refl z H1).upd
    have z2 : (upd H1 z (.ins CS dx (putF "line" (lV line) [("plan", .ref zb)]))) z = some (.ins CS dx [("plan", .ref zb), ("line", lV line)]) := upd_same
    generalize upd H1 z (.ins CS dx (putF "line" (lV line) [("plan", .ref zb)])) = H2 at e2 z2 ⊢
    have b2 : But z H H2 := e1.trans e2
    have f2 : Fz (fun C => C ≠ CS) H H2 := b2.fz hz fun q => q rfl
    have hB2 : BoardAt CB CM H2 zb B := hB.mono nB nM f2
    obtain ⟨dx2, mt, nt, lt, ms, ys, hBi⟩ := id hB2
    -- self.to
    refine ⟨_, rfl, zb, CB, dx2, _, _, rfl, hBi.at_, OB.cls, OB.no _ (by simp), rfl, nt, rfl, ⟨_, sqT hBi.names⟩, fun dt hdt => dc_nones ok hdt hBi.names (fun H3 s3 num3 => ?_) (Nat.lt_succ_self 4)⟩
    have z3 := s3 _ _ z2
    have tz : dt ≠ z := fun q => by rw [q, z2] at hdt; cases hdt
    refine ⟨_, rfl, z, CS, dx, _, rfl, z3, O.cls, O.no _ (by simp [sumsNames]), by simp, ?_⟩
    have e4 : But z H3 (upd H3 z (.ins CS dx (putF "to" (.ref dt) [("plan", .ref zb), ("line", lV line)]))) := (But.refl z H3).upd
    have z4 : (upd H3 z (.ins CS dx (putF "to" (.ref dt) [("plan", .ref zb), ("line", lV line)]))) z = some (.ins CS dx [("plan", .ref zb), ("line", lV line), ("to", .ref dt)]) := upd_same
    generalize upd H3 z (.ins CS dx (putF "to" (.ref dt) [("plan", .ref zb), ("line", lV line)])) = H4 at e4 z4 ⊢
    have num4 : NumAt B H4 dt (fun _ => none) := num3.but e4 tz
    have f4 : Fz (fun C => C ≠ CS) H2 H4 := (Fz.of s3).trans (e4.fz z3 fun q => q rfl)
    have n4 := f4 _ _ hBi.names trivial
    have a4 := f4 _ _ hBi.at_ nB
    -- self.home
    refine ⟨_, rfl, zb, CB, dx2, _, _, rfl, a4, OB.cls, OB.no _ (by simp), rfl, nt, rfl, ⟨_, sqT n4⟩, fun dh hdh => dc_nones ok hdh n4 (fun H5 s5 num5 => ?_) (Nat.lt_succ_self 4)⟩
    have z5 := s5 _ _ z4
    have hz2 : dh ≠ z := fun q => by rw [q, z4] at hdh; cases hdh
    have n1 : dt ≠ dh := fun q => by
      obtain ⟨kvs, e, _⟩ := num4
      rw [q, hdh] at e
      cases e
    refine ⟨_, rfl, z, CS, dx, _, rfl, z5, O.cls, O.no _ (by simp [sumsNames]), by simp, ?_⟩
    have e6 : But z H5 (upd H5 z (.ins CS dx (putF "home" (.ref dh) [("plan", .ref zb), ("line", lV line), ("to", .ref dt)]))) := (But.refl z H5).upd
    have z6 : (upd H5 z (.ins CS dx (putF "home" (.ref dh) [("plan", .ref zb), ("line", lV line), ("to", .ref dt)]))) z = some (.ins CS dx [("plan", .ref zb), ("line", lV line), ("to", .ref dt), ("home", .ref dh)]) := upd_same
    generalize upd H5 z (.ins CS dx (putF "home" (.ref dh) [("plan", .ref zb), ("line", lV line), ("to", .ref dt)])) = H6 at e6 z6 ⊢
    have num6t : NumAt B H6 dt (fun _ => none) := (num4.same s5).but e6 tz
    have num6h : NumAt B H6 dh (fun _ => none) := num5.but e6 hz2
    -- self.best_to
    refine fun bt hbt => ⟨_, rfl, z, CS, dx, _, rfl, (Same.upd hbt) _ _ z6, O.cls, O.no _ (by simp [sumsNames]), by simp, ?_⟩
    have s7 : Same H6 (upd H6 bt (.dK [])) := Same.upd hbt
    have t7 : (upd H6 bt (.dK [])) bt = some (.dK []) := upd_same
    generalize upd H6 bt (.dK []) = H7 at s7 t7 ⊢
    have z7 := s7 _ _ z6
    have bz : bt ≠ z := fun q => by rw [q, z6] at hbt; cases hbt
    have n2 : dt ≠ bt := fun q => by
      obtain ⟨kvs, e, _⟩ := num6t
      rw [q, hbt] at e
      cases e
    have n4' : dh ≠ bt := fun q => by
      obtain ⟨kvs, e, _⟩ := num6h
      rw [q, hbt] at e
      cases e
    have e8 : But z H7 (upd H7 z (.ins CS dx (putF "best_to" (.ref bt) [("plan", .ref zb), ("line", lV line), ("to", .ref dt), ("home", .ref dh)]))) := (But.refl z H7).upd
    have z8 : (upd H7 z (.ins CS dx (putF "best_to" (.ref bt) [("plan", .ref zb), ("line", lV line), ("to", .ref dt), ("home", .ref dh)]))) z = some (.ins CS dx [("plan", .ref zb), ("line", lV line), ("to", .ref dt), ("home", .ref dh), ("best_to", .ref bt)]) := upd_same
    generalize upd H7 z (.ins CS dx (putF "best_to" (.ref bt) [("plan", .ref zb), ("line", lV line), ("to", .ref dt), ("home", .ref dh)])) = H8 at e8 z8 ⊢
    have t8 : H8 bt = some (.dK []) := e8 _ _ bz t7
    have num8t : NumAt B H8 dt (fun _ => none) := (num6t.same s7).but e8 tz
    have num8h : NumAt B H8 dh (fun _ => none) := (num6h.same s7).but e8 hz2
    -- self.best_home
    refine fun bh hbh => ⟨_, rfl, z, CS, dx, _, rfl, (Same.upd hbh) _ _ z8, O.cls, O.no _ (by simp [sumsNames]), by simp, ?_⟩
    have s9 : Same H8 (upd H8 bh (.dK [])) := Same.upd hbh
    have t9 : (upd H8 bh (.dK [])) bh = some (.dK []) := upd_same
    generalize upd H8 bh (.dK []) = H9 at s9 t9 ⊢
    have z9 := s9 _ _ z8
    have hhz : bh ≠ z := fun q => by rw [q, z8] at hbh; cases hbh
    have n3 : dt ≠ bh := fun q => by
      obtain ⟨kvs, e, _⟩ := num8t
      rw [q, hbh] at e
      cases e
    have n5 : dh ≠ bh := fun q => by
      obtain ⟨kvs, e, _⟩ := num8h
      rw [q, hbh] at e
      cases e
    have n6 : bt ≠ bh := fun q => by
      rw [q, hbh] at t8
      cases t8
    have e10 : But z H9 (upd H9 z (.ins CS dx (putF "best_home" (.ref bh) [("plan", .ref zb), ("line", lV line), ("to", .ref dt), ("home", .ref dh), ("best_to", .ref bt)]))) := (But.refl z H9).upd
    have z10 : (upd H9 z (.ins CS dx (putF "best_home" (.ref bh) [("plan", .ref zb), ("line", lV line), ("to", .ref dt), ("home", .ref dh), ("best_to", .ref bt)]))) z = some (.ins CS dx [("plan", .ref zb), ("line", lV line), ("to", .ref dt), ("home", .ref dh), ("best_to", .ref bt), ("best_home", .ref bh)]) := upd_same
    generalize upd H9 z (.ins CS dx (putF "best_home" (.ref bh) [("plan", .ref zb), ("line", lV line), ("to", .ref dt), ("home", .ref dh), ("best_to", .ref bt)])) = H10 at e10 z10 ⊢
    have t10 : H10 bh = some (.dK []) := e10 _ _ hhz t9
    have u10 : H10 bt = some (.dK []) := e10 _ _ bz (s9 _ _ t8)
    have bb2 : But z H2 H10 := (But.of s3).trans (e4.trans ((But.of s5).trans (e6.trans ((But.of s7).trans (e8.trans ((But.of s9).trans e10))))))
    have b10 : But z H H10 := b2.trans bb2
    have hB10 : BoardAt CB CM H10 zb B := hB.mono (Fr := fun C => C ≠ CS) nB nM (b10.fz hz fun q => q rfl)
    have u0 : unkB B (fun _ => (none : Option (Step × Bool))) ≤ 20 := Nat.le_trans (List.length_filter_le _ _) (by unfold namesOf; rw [List.length_map]; exact ok.few)
    have v0 : unkB B (fun _ => (none : Option Step)) ≤ 20 := Nat.le_trans (List.length_filter_le _ _) (by unfold namesOf; rw [List.length_map]; exact ok.few)
    have S0 : SumsIs CS CB CM H10 z zb dt dh bt bh B line sums0 := ⟨⟨dx, z10⟩, hB10, (num8t.same s9).but e10 tz, (num8h.same s9).but e10 hz2, ⟨[], u10, fun _ _ => rfl, fun _ _ e => (by cases e), (Nat.zero_add _).symm ▸ u0⟩, ⟨[], t10, fun _ _ => rfl, fun _ _ e => (by cases e), (Nat.zero_add _).symm ▸ v0⟩, n1, n2, n3, n4', n5, n6⟩
    -- dicts made here are not of the entry
    have g4 : ∀ H', But4 dt dh bt bh H10 H' → But z H H' := fun H' q c o nz h => by
      have free : ∀ {d : Addr} {Hd : Hp}, d ≠ z → Hd d = none → But z H Hd → c ≠ d := fun dz hd bd e => by
        have := bd _ _ nz h
        rw [e, hd] at this
        cases this
      have p2 : But z H H2 := b2
      have p4 : But z H H4 := p2.trans ((But.of s3).trans e4)
      have p6 : But z H H6 := p4.trans ((But.of s5).trans e6)
      have p8 : But z H H8 := p6.trans ((But.of s7).trans e8)
      exact q c o (free tz hdt p2) (free hz2 hdh p4) (free bz hbt p6) (free hhz hbh p8) (b10 _ _ nz h)
    refine ⟨fun n σ Hq => ∃ s b, (∃ c, σ = [some (.ref z), some (.ref zb), some (lV line), some (.bl b), c]) ∧ But4 dt dh bt bh H10 Hq ∧ SumsIs CS CB CM Hq z zb dt dh bt bh B line s ∧ Bnd B s ∧ ((b = true ∧ n = muS B s + 1 ∧ ∀ r, Runs line B s r → Runs line B sums0 r) ∨ (b = false ∧ n = 0 ∧ Runs line B sums0 s)),
      ⟨_, sums0, true, ⟨_, rfl⟩, But4.refl, S0, bnd0 B, .inl ⟨rfl, rfl, fun _ q => q⟩⟩, fun n σ Hq ⟨s, b, ⟨c, hσ⟩, bq, hq, bn, m⟩ => ?_⟩
    subst hσ
    refine ⟨_, rfl, _, rfl, ?_⟩
    rcases m with ⟨rfl, rfl, m⟩ | ⟨rfl, rfl, m⟩
    · obtain ⟨dx3, hz3⟩ := hq.at_
      have g := go_over ok bn (line := line)
      refine iteT ⟨fun σ' H' => ∃ m', m' < muS B s + 1 ∧ ∃ s b, (∃ c, σ' = [some (.ref z), some (.ref zb), some (lV line), some (.bl b), c]) ∧ But4 dt dh bt bh H10 H' ∧ SumsIs CS CB CM H' z zb dt dh bt bh B line s ∧ Bnd B s ∧ ((b = true ∧ m' = muS B s + 1 ∧ ∀ r, Runs line B s r → Runs line B sums0 r) ∨ (b = false ∧ m' = 0 ∧ Runs line B sums0 s)), fun _ _ q => q, ?_⟩
      refine ⟨_, rfl, z, dx3, _, rfl, hz3, rfl, z, zb, dt, dh, bt, bh, B, line, s, rfl, hq, ok, fun H3 b3 h3 => ?_⟩
      cases hb : (goOver line B s).2 with
      | true => exact ⟨muS B (goOver line B s).1 + 1, Nat.lt_succ_of_le (g.new hb), _, true, ⟨_, by rfl⟩, bq.trans b3, h3, g.fell.bnd, .inl ⟨rfl, rfl, fun r q => m r (.more hb q)⟩⟩
      | false => exact ⟨0, Nat.succ_pos _, _, false, ⟨_, by rfl⟩, bq.trans b3, h3, g.fell.bnd, .inr ⟨rfl, rfl, m _ (.done hb)⟩⟩
    · exact iteF (k dt dh bt bh s Hq (g4 _ bq) hq m)
end
end MH
set_option Elab.async false
set_option linter.all false
set_option maxRecDepth 100000
namespace MH
open PySem PySem.Spec PyProof.Rows L2
/-! ### the plain law of the sums: runs to the end agree -/
/-- one number is at most another one; never is above all -/
def leN (a b : Option Int) : Prop := belowN b a = false
theorem leN_some {a b : Int} : leN (some a) (some b) ↔ a ≤ b := by unfold leN belowN; simp
theorem leN_none {a : Option Int} : leN a none := rfl
theorem none_leN {a : Option Int} (h : leN none a) : a = none := by
  cases a with
  | none => rfl
  | some b => cases h
theorem leN.refl (a : Option Int) : leN a a := by
  cases a with
  | none => rfl
  | some b => exact leN_some.mpr (Int.le_refl _)
theorem leN.trans {a b c : Option Int} (h : leN a b) (k : leN b c) : leN a c := by
  cases c with
  | none => rfl
  | some z => cases b with
    | none => cases k
    | some y => cases a with
      | none => cases h
      | some x => exact leN_some.mpr (Int.le_trans (leN_some.mp h) (leN_some.mp k))
theorem leN.anti {a b : Option Int} (h : leN a b) (k : leN b a) : a = b := by
  cases a with
  | none => exact (none_leN h).symm
  | some x => cases b with
    | none => exact none_leN k
    | some y => rw [Int.le_antisymm (leN_some.mp h) (leN_some.mp k)]
theorem leN_plus {a b c d : Option Int} (h : leN a b) (k : leN c d) : leN (plusN a c) (plusN b d) := by
  cases b with
  | none => exact leN_none
  | some y => cases d with
    | none => exact leN_none
    | some w => cases a with
      | none => cases h
      | some x => cases c with
        | none => cases k
        | some z => exact leN_some.mpr (Int.add_le_add (leN_some.mp h) (leN_some.mp k))
/-- the numbers of all menus are at most others -/
structure LeS (B : List Menu) (t s : SState) : Prop where
  to : ∀ x ∈ namesOf B, leN (t.to x) (s.to x)
  home : ∀ x ∈ namesOf B, leN (t.home x) (s.home x)
/-- no number of a menu is above what one of its actions tells -/
def StepOk (f0 : Str) (line : Option Str) (x : Str) (s : SState) (st : Step) : Prop := (∀ q ∈ waysTo f0 x line s st.2.2, leN (s.to x) (plusN (some st.1) q.1)) ∧ leN (s.home x) (plusN (some st.1) (toldHome x s.home st.2.2))
def Closed (line : Option Str) (B : List Menu) (s : SState) : Prop := ∀ m ∈ B, ∀ st ∈ m.steps, StepOk (firstOf B) line m.name s st
theorem still {α : Type} {f : SState × Bool → α → SState × Bool} {P : SState → α → Prop} (h : ∀ r a, (f r a).2 = false → f r a = r ∧ P r.1 a) : ∀ (l : List α) (r : SState × Bool), (l.foldl f r).2 = false → l.foldl f r = r ∧ ∀ a ∈ l, P r.1 a
  | [], r, _ => ⟨rfl, fun _ q => (by cases q)⟩
  | a :: l, r, e => by
    have i := still h l (f r a) e
    have e2 : (f r a).2 = false := by rw [← i.1]; exact e
    have k := h r a e2
    rw [k.1] at i
    refine ⟨by rw [List.foldl_cons, k.1]; exact i.1, fun b hb => ?_⟩
    rcases List.mem_cons.mp hb with rfl | hb
    · exact k.2
    · exact i.2 b hb
theorem still_to {x : Str} {st : Step} (r : SState × Bool) (q : Option Int × Bool) (e : (fallTo x st r q).2 = false) : fallTo x st r q = r ∧ leN (r.1.to x) (plusN (some st.1) q.1) := by
  unfold fallTo at e ⊢
  split at e
  · cases e
  · rename_i h
    exact ⟨if_neg h, eq_false_of_ne_true h⟩
theorem still_home {x : Str} {st : Step} (r : SState × Bool) (e : (fallHome x st r).2 = false) : fallHome x st r = r ∧ leN (r.1.home x) (plusN (some st.1) (toldHome x r.1.home st.2.2)) := by
  unfold fallHome at e ⊢
  split at e
  · cases e
  · rename_i h
    exact ⟨if_neg h, eq_false_of_ne_true h⟩
theorem still_S {f0 : Str} {line : Option Str} {x : Str} {st : Step} {s : SState} (e : (fallS f0 line x st s).2 = false) : fallS f0 line x st s = (s, false) ∧ StepOk f0 line x s st := by
  have h := still_home _ e
  have e2 : ((waysTo f0 x line s st.2.2).foldl (fallTo x st) (s, false)).2 = false := by rw [← h.1]; exact e
  have k := still (P := fun (s : SState) (q : Option Int × Bool) => leN (s.to x) (plusN (some st.1) q.1)) (fun r q => still_to r q) _ _ e2
  have h1 := h.1
  have h2 := h.2
  rw [k.1] at h1 h2
  refine ⟨?_, k.2, h2⟩
  unfold fallS
  rw [k.1]
  exact h1
theorem still_step {f0 : Str} {line : Option Str} {x : Str} (r : SState × Bool) (st : Step) (e : (goStep f0 line x r st).2 = false) : goStep f0 line x r st = r ∧ StepOk f0 line x r.1 st := by
  cases hb : (fallS f0 line x st r.1).2 with
  | true =>
    unfold goStep at e
    rw [hb] at e
    cases e
  | false =>
    have k := still_S hb
    refine ⟨?_, k.2⟩
    unfold goStep
    rw [k.1]
    rfl
theorem still_menu {f0 : Str} {line : Option Str} (r : SState × Bool) (m : Menu) (e : (goMenu f0 line r m).2 = false) : goMenu f0 line r m = r ∧ ∀ st ∈ m.steps, StepOk f0 line m.name r.1 st :=
  still (P := fun (s : SState) (st : Step) => StepOk f0 line m.name s st) (fun r st => still_step r st) _ _ e
/-- when nothing fell, the numbers stay and are closed -/
theorem still_over {line : Option Str} {B : List Menu} {s : SState} (e : (goOver line B s).2 = false) : goOver line B s = (s, false) ∧ Closed line B s :=
  still (P := fun (s : SState) (m : Menu) => ∀ st ∈ m.steps, StepOk (firstOf B) line m.name s st) (fun r m => still_menu r m) _ _ e
theorem Runs.closed {line : Option Str} {B : List Menu} {s r : SState} (h : Runs line B s r) : Closed line B r := by
  induction h with
  | done e =>
    have k := still_over e
    rw [k.1]
    exact k.2
  | more e k ih => exact ih
end MH
set_option Elab.async false
set_option linter.all false
set_option maxRecDepth 100000
namespace MH
open PySem PySem.Spec PyProof.Rows L2
/-! ### the sums stay above whatever is closed -/
theorem leN_lesser {a b c d : Option Int} (h : leN a b) (k : leN c d) : leN (lesserN a c) (lesserN b d) := by
  cases a <;> cases b <;> cases c <;> cases d <;> simp only [lesserN, leN, belowN] at * <;> first | rfl | (simp at *; (try split) <;> (try split) <;> omega) | simp_all
section
variable {line : Option Str} {B : List Menu} {t s : SState} {x : Str} {a : Act}
theorem le_toldTo (ok : BoardOk B) (h : LeS B t s) (hx : x ∈ namesOf B) (hn : ∀ y ∈ a.names, y ∈ namesOf B) : leN (toldTo (firstOf B) x t.to t.home line a) (toldTo (firstOf B) x s.to s.home line a) := by
  cases a with
  | line y => exact leN.refl _
  | out => exact leN.refl _
  | back => exact leN.refl _
  | again => exact h.to x hx
  | main => exact h.to _ (first_mem ok)
  | go m => exact h.to m (hn m (by simp [Act.names]))
  | call m q => exact leN_lesser (h.to m (hn m (by simp [Act.names]))) (leN_plus (h.home m (hn m (by simp [Act.names]))) (h.to q (hn q (by simp [Act.names]))))
theorem le_toldHome (h : LeS B t s) (hx : x ∈ namesOf B) (hn : ∀ y ∈ a.names, y ∈ namesOf B) : leN (toldHome x t.home a) (toldHome x s.home a) := by
  cases a with
  | line y => exact leN.refl _
  | out => exact leN.refl _
  | back => exact leN.refl _
  | again => exact h.home x hx
  | main => exact leN.refl _
  | go m => exact h.home m (hn m (by simp [Act.names]))
  | call m q => exact leN_plus (h.home m (hn m (by simp [Act.names]))) (h.home q (hn q (by simp [Act.names])))
theorem le_ways (ok : BoardOk B) (h : LeS B t s) (hx : x ∈ namesOf B) (hn : ∀ y ∈ a.names, y ∈ namesOf B) : ∀ q ∈ waysTo (firstOf B) x line s a, ∃ p ∈ waysTo (firstOf B) x line t a, leN p.1 q.1 := by
  intro q hq
  cases a with
  | line y => cases line with
    | none => exact ⟨q, hq, leN.refl _⟩
    | some z => exact ⟨q, hq, leN.refl _⟩
  | out => exact ⟨q, hq, leN.refl _⟩
  | back => exact ⟨q, hq, leN.refl _⟩
  | again =>
    cases List.mem_singleton.mp hq
    exact ⟨_, List.mem_singleton.mpr rfl, le_toldTo (a := .again) (line := line) ok h hx hn⟩
  | main =>
    cases List.mem_singleton.mp hq
    exact ⟨_, List.mem_singleton.mpr rfl, le_toldTo (a := .main) (line := line) ok h hx hn⟩
  | go m =>
    cases List.mem_singleton.mp hq
    exact ⟨_, List.mem_singleton.mpr rfl, le_toldTo (a := .go m) (line := line) ok h hx hn⟩
  | call m z =>
    have hm := hn m (by simp [Act.names])
    have hz := hn z (by simp [Act.names])
    rcases List.mem_cons.mp hq with rfl | hq
    · exact ⟨(t.to m, false), List.mem_cons_self, h.to m hm⟩
    · cases List.mem_singleton.mp hq
      exact ⟨(plusN (t.home m) (t.to z), true), List.mem_cons_of_mem _ List.mem_cons_self, leN_plus (h.home m hm) (h.to z hz)⟩
theorem le_fallTo {st : Step} {r : SState × Bool} {q : Option Int × Bool} (h : LeS B t r.1) (k : leN (t.to x) (plusN (some st.1) q.1)) : LeS B t (fallTo x st r q).1 := by
  unfold fallTo
  split
  · refine ⟨fun y hy => ?_, h.home⟩
    by_cases e : y = x
    · rw [e]
      show leN (t.to x) (setN r.1.to x _ x)
      rw [setN_self]
      exact k
    · show leN (t.to y) (setN r.1.to x _ y)
      rw [setN_ne e]
      exact h.to y hy
  · exact h
theorem le_fallHome {st : Step} {r : SState × Bool} (h : LeS B t r.1) (k : leN (t.home x) (plusN (some st.1) (toldHome x r.1.home st.2.2))) : LeS B t (fallHome x st r).1 := by
  unfold fallHome
  split
  · refine ⟨h.to, fun y hy => ?_⟩
    by_cases e : y = x
    · rw [e]
      show leN (t.home x) (setN r.1.home x _ x)
      rw [setN_self]
      exact k
    · show leN (t.home y) (setN r.1.home x _ y)
      rw [setN_ne e]
      exact h.home y hy
  · exact h
theorem le_foldl {α : Type} {f : SState × Bool → α → SState × Bool} {t : SState} : ∀ {l : List α} {r : SState × Bool}, (∀ r a, a ∈ l → LeS B t r.1 → LeS B t (f r a).1) → LeS B t r.1 → LeS B t (l.foldl f r).1
  | [], _, _, h => h
  | a :: l, r, hf, h => le_foldl (l := l) (fun r b hb => hf r b (List.mem_cons_of_mem _ hb)) (hf r a List.mem_cons_self h)
theorem le_fallS {st : Step} (ok : BoardOk B) (h : LeS B t s) (k : StepOk (firstOf B) line x t st) (hx : x ∈ namesOf B) (hn : ∀ y ∈ st.2.2.names, y ∈ namesOf B) : LeS B t (fallS (firstOf B) line x st s).1 := by
  have w := le_ways (line := line) ok h hx hn
  have r := le_foldl (B := B) (t := t) (f := fallTo x st) (l := waysTo (firstOf B) x line s st.2.2) (r := (s, false)) (fun r q hq hr => by
    obtain ⟨p, hp, l⟩ := w q hq
    exact le_fallTo hr ((k.1 p hp).trans (leN_plus (leN.refl _) l))) h
  exact le_fallHome r (k.2.trans (leN_plus (leN.refl _) (le_toldHome r hx hn)))
theorem le_over (ok : BoardOk B) (h : LeS B t s) (k : Closed line B t) : LeS B t (goOver line B s).1 :=
  le_foldl (l := B) (r := (s, false)) (fun r m hm hr => le_foldl (l := m.steps) (fun r st hst hr => le_fallS ok hr (k m hm st hst) (List.mem_map_of_mem hm) (steps_names ok hm st hst)) hr) h
theorem Runs.le {r : SState} (ok : BoardOk B) (k : Closed line B t) (h : Runs line B s r) : LeS B t s → LeS B t r := by
  induction h with
  | done e => exact fun q => le_over ok q k
  | more e _ ih => exact fun q => ih (le_over ok q k)
theorem le_sums0 : LeS B t sums0 := ⟨fun _ _ => leN_none, fun _ _ => leN_none⟩
/-- the sums are the greatest numbers that are closed -/
theorem Runs.greatest {r : SState} (ok : BoardOk B) (h : Runs line B sums0 r) (k : Closed line B t) : LeS B t r := h.le ok k le_sums0
end
end MH
set_option Elab.async false
set_option linter.all false
set_option maxRecDepth 100000
set_option maxHeartbeats 4000000
namespace MH
open PySem PySem.Spec PyProof.Rows L2
section
variable {P : Program} {w : World} {K : PySem.W.Frag} {mg : Str → Option Value} {base : Heap}
/-! ### need_line of a line -/
def sp_need_line (CB CM : Addr) : Sp := fun vs H Q _ => ∃ (z : Addr) (B : List Menu) (g : Str) (dx mt nt lt : Addr) (xs : List V) (ys : List Str), vs = [.ref z, .str g] ∧ BoardIs CB CM H z B dx mt nt lt xs ys ∧ g ∈ ys ∧ ∀ H', Same H H' → Q .non H'
theorem sc_need_line : FnScope ["board", "goal"] ["board", "goal"] (defScope s_need_line) := ⟨rfl, rfl, rfl, by decide +kernel, rfl, by decide +kernel, by decide +kernel⟩
theorem ok_need_line {CB CM : Addr} (G : Glo K mg "need_line" s_need_line) (T : Blt mg) (O : ObjC K CB ["menus", "names", "first", "lines"]) : CalX P w K mg base CX0 1 "need_line" (sp_need_line CB CM) := by
  refine mkCal G sc_need_line (fun vs H Q E h => ?_) (fun _ _ _ _ _ _ us hl => match us, hl with | [_, _], _ => rfl) (fun f cdv A outer s H vs Q E hr h => ?_)
  · obtain ⟨z, B, g, _, _, _, _, _, _, rfl, _⟩ := h
    rfl
  · obtain ⟨z, B, g, dx, mt, nt, lt, xs, ys, rfl, hB, hg, k⟩ := h
    have nd := sc_need_line.nd
    refine ⟨_, pss_one (ps_if (PW.pt (pw_or (pt_not (pt_val (pe_callB call_isi (by rfl) T.isinstance boot_isinstance (pa_cons (pv 1) (pa_cons (pe_bltn (v := .ty "str") (by rfl) T.str boot_str rfl) pa_nil)))))
            (pw_or1 (pt_cmpR op_notIn_seq (pv 1) (pe_fld (pv 0) (by rfl)) (by rfl))))) (pss_one ps_never) pss_nil), ?_⟩
    have flat : (ys.map V.str).all flatV = true := by rw [List.all_map]; exact List.all_eq_true.mpr fun _ _ => rfl
    have hin : inV (.str g) (ys.map V.str) = true := by rw [inV_strs]; exact List.contains_iff_mem.mpr hg
    refine ⟨_, rfl, _, _, _, _, true, rfl, .ty "str", .base (.str _), kit_ty (by decide +kernel), true, rfl, iteF ?_⟩
    refine ⟨_, rfl, _, rfl, z, CB, dx, _, _, rfl, hB.at_, O.cls, O.no _ (by simp), rfl, lt, _, rfl, .inr (sqT hB.lines), rfl, flat, ?_⟩
    show ∃ b, V.bl (!inV (.str g) (ys.map V.str)) = V.bl b ∧ _
    rw [hin]
    exact ⟨false, rfl, iteF (k H (Same.refl H))⟩
end
end MH
set_option Elab.async false
set_option linter.all false
set_option maxRecDepth 100000
set_option maxHeartbeats 4000000
namespace MH
open PySem PySem.Spec PyProof.Rows L2
section
variable {P : Program} {w : World} {K : PySem.W.Frag} {mg : Str → Option Value} {base : Heap}
/-! ### paper -/
def EntryV (s : SState) (H : Hp) (v : V) (x : Str) : Prop := ∃ t, v = .ref t ∧ H t = some (.tup [.str x, nV (s.to x), nV (s.home x)])
def sp_paper (CB CM : Addr) : Sp := fun vs H Q _ => ∃ (z : Addr) (B : List Menu) (g : Str) (dx mt nt lt : Addr) (xs : List V) (ys : List Str), vs = [.ref z, .str g] ∧ BoardIs CB CM H z B dx mt nt lt xs ys ∧ BoardOk B ∧ g ∈ ys ∧
  ∀ p es s H', Same H H' → H p = none → H' p = some (.tup es) → Paired (EntryV s H') es (namesOf B) → Runs (some g) B sums0 s → Q (.ref p) H'
theorem sc_paper : FnScope ["board", "goal", "sums", "name"] ["board", "goal"] (defScope s_paper) := ⟨rfl, rfl, rfl, by decide +kernel, rfl, by decide +kernel, by decide +kernel⟩
theorem ok_paper {CS CB CM : Addr} (G : Glo K mg "paper" s_paper) (T : Blt mg) (O : ObjC K CS sumsNames) (OB : ObjC K CB ["menus", "names", "first", "lines"]) (D1 : CalX P w K mg base CX0 1 "need_line" (sp_need_line CB CM)) (D2 : MakX P w K mg base CX0 6 "Sums" CS (sp_sums_init CS CB CM)) : CalX P w K mg base CX0 8 "paper" (sp_paper CB CM) := by
  obtain ⟨fS, fdS, psS, MS, FS, gS, bS⟩ := D2.ex
  refine mkCal G sc_paper (fun vs H Q E h => ?_) (fun _ _ _ _ _ _ us hl => match us, hl with | [_, _], _ => rfl) (fun f cdv A outer s0 H vs Q E hr h => ?_)
  · obtain ⟨z, B, g, _, _, _, _, _, _, rfl, _⟩ := h
    rfl
  · obtain ⟨z, B, g, dx, mt, nt, lt, xs, ys, rfl, hB, ok, hg, k⟩ := h
    have nd := sc_paper.nd
    have hu := hu_of hr
    refine ⟨_, pss_cons (ps_expr (pe_cal (j := 7) D1 hr (by decide) pass0 (pa_cons (pv 0) (pa_cons (pv 1) pa_nil))))
      (pss_cons (ps_set (i := 2) nd rfl (Or.inr rfl) (pe_make MS FS (hr.mono (by decide)) (by rfl) gS bS .nil pass0 (pa_cons (pv 0) (pa_cons (pv 1) pa_nil))))
      (pss_one (ps_ret (pe_callTy call_tuple_of (by rfl) T.tuple boot_tuple (pa_cons (pe_lc (te := tTup (tCons (tVar 3) (tCons (tDGet (tFld K (tVar 2) "to") (tVar 3)) (tCons (tDGet (tFld K (tVar 2) "home") (tVar 3)) tNil)))) (own := [("name", 3)]) (g := gName 3) rfl nd (pi_tup (pe_fld (pv 0) (by rfl)))
            (blkOk_by (own := [("name", 3)]) (N := ["board", "goal", "sums", "name"]) (sc := defScope s_paper) (by decide +kernel))
            (fun _ _ _ _ _ => pg_name (i := 3) nd rfl (Or.inl rfl)) (fun _ _ _ _ _ => pts_nil)
            (fun _ _ _ _ _ => pe_tup (pa_cons (pv 3) (pa_cons (pe_dget hu (pe_fld (pv 2) (by rfl)) (pv 3) (fun _ _ => rfl)) (pa_cons (pe_dget hu (pe_fld (pv 2) (by rfl)) (pv 3) (fun _ _ => rfl)) pa_nil))))) pa_nil))))), ?_⟩
    refine ⟨_, rfl, _, rfl, z, B, g, dx, mt, nt, lt, xs, ys, rfl, hB, hg, fun H1 s1 => ?_⟩
    have hB1 := hB.mono (Fr := fun _ => True) trivial trivial (Fz.of s1)
    refine ⟨_, rfl, _, rfl, fun sz sdx hsz hsdx hne2 => ⟨sz, sdx, z, B, some g, rfl, upd_same, BoardAt.same (made_same (C := CS) hsz hsdx) ⟨_, _, _, _, _, _, hB1⟩, ok, fun dt dh bt bh s H2 b2 hS run => ⟨rfl, ?_⟩⟩⟩
    have s2 : Same H H2 := s1.trans (But.made hsz hsdx b2)
    have hB2 := hB.mono (Fr := fun _ => True) trivial trivial (Fz.of s2)
    have nl : (namesOf B).length ≤ 20 := by unfold namesOf; rw [List.length_map]; exact ok.few
    refine ⟨_, rfl, z, CB, dx, _, _, rfl, hB2.at_, OB.cls, OB.no _ (by simp), rfl, nt, rfl, ⟨_, sqT hB2.names⟩, fun L hL => ?_⟩
    refine lc_pure (Fr := fun _ => False) (walk_tup (K := K) (xs := (namesOf B).map V.str)) hL (by rw [List.length_map]; omega) (fun i o Hq => ∃ x y, (namesOf B)[i]? = some x ∧ o = some y ∧ EntryV s Hq y x) (fun _ _ _ _ e ⟨x, y, h1, h2, t, h3, h4⟩ => ⟨x, y, h1, h2, t, h3, e _ _ h4 trivial⟩)
      (fun H4 s4 => sqT (s4 _ _ hB2.names)) (fun j x Ha Hb k1 k0 hj sa y q1 q0 => ?_) (fun Ha os sa hl4 hr4 hD4 => ?_)
    · obtain ⟨rfl, hx⟩ := y
      rw [List.getElem?_map] at hx
      obtain ⟨nm, hnm, rfl⟩ := Option.map_eq_some_iff.mp hx
      have hin := List.mem_of_getElem? hnm
      have hq := hS.same sa
      obtain ⟨dx2, hz2⟩ := hq.at_
      refine ⟨rfl, _, rfl, _, rfl, sz, CS, dx2, _, _, rfl, hz2, O.cls, O.no _ (by simp [sumsNames]), rfl, _, rfl, dt, _, rfl, hq.to.get hin, ?_⟩
      refine ⟨_, rfl, sz, CS, dx2, _, _, rfl, hz2, O.cls, O.no _ (by simp [sumsNames]), rfl, _, rfl, dh, _, rfl, hq.home.get hin, ⟨by show 3 ≤ sizeLine; decide, fun p2 hp2 => ?_⟩⟩
      exact q1 _ _ (Same.upd hp2) ⟨nm, _, hnm, rfl, p2, rfl, upd_same⟩
    · have pd := os_paired (os := os) (l := namesOf B) (R := fun x y => EntryV s Ha y x) (by rw [hl4, List.length_map]) fun i o r h1 h2 => by
        obtain ⟨r', y, h3, h4, h5⟩ := hr4 i o h1
        rw [h2] at h3
        cases h3
        exact ⟨y, h4, h5⟩
      generalize os.filterMap id = dl at hD4 pd
      refine ⟨L, dl, rfl, .inl ⟨sqL hD4, fun p hp => ?_⟩⟩
      have sd2 : Same Ha (upd Ha p (.tup dl)) := Same.upd hp
      exact k p dl s _ ((s2.trans sa).trans sd2) ((s2.trans sa).free hp) upd_same (paired_imp pd fun _ _ ⟨t, h1, h2⟩ => ⟨t, h1, sd2 _ _ h2⟩) run
end
end MH
set_option Elab.async false
set_option linter.all false
set_option maxRecDepth 100000
namespace MH
open PySem PySem.Spec PyProof.Rows L2
/-! ### what is closed is borne -/
theorem leN_plus_lesser {x : Option Int} {c : Int} {a b : Option Int} (h : leN x (plusN (some c) a)) (k : leN x (plusN (some c) b)) : leN x (plusN (some c) (lesserN a b)) := by
  cases a with
  | none => exact k
  | some a => cases b with
    | none => exact h
    | some b =>
      show leN x (plusN (some c) (some (if b < a then b else a)))
      split
      · exact k
      · exact h
theorem StepOk.borne {f0 : Str} {g x : Str} {s : SState} {st : Step} (h : StepOk f0 (some g) x s st) : belowN (plusN (some st.1) (toldTo f0 x s.to s.home (some g) st.2.2)) (s.to x) = false ∧ belowN (plusN (some st.1) (toldHome x s.home st.2.2)) (s.home x) = false := by
  refine ⟨?_, h.2⟩
  have w := h.1
  obtain ⟨c, d, a⟩ := st
  cases a with
  | line y => exact w _ (List.mem_singleton.mpr rfl)
  | out => exact w _ (List.mem_singleton.mpr rfl)
  | back => exact w _ (List.mem_singleton.mpr rfl)
  | again => exact w _ (List.mem_singleton.mpr rfl)
  | main => exact w _ (List.mem_singleton.mpr rfl)
  | go m => exact w _ (List.mem_singleton.mpr rfl)
  | call m t => exact leN_plus_lesser (w (s.to m, false) List.mem_cons_self) (w (plusN (s.home m) (s.to t), true) (List.mem_cons_of_mem _ List.mem_cons_self))
theorem Closed.borne {g : Str} {B : List Menu} {s : SState} (h : Closed (some g) B s) : ∀ m ∈ B, ∀ st ∈ m.steps, belowN (plusN (some st.1) (toldTo (firstOf B) m.name s.to s.home (some g) st.2.2)) (s.to m.name) = false ∧ belowN (plusN (some st.1) (toldHome m.name s.home st.2.2)) (s.home m.name) = false :=
  fun m hm st hst => (h m hm st hst).borne
end MH
set_option Elab.async false
set_option linter.all false
set_option maxRecDepth 100000
namespace MH
open PySem PySem.Spec PyProof.Rows L2
/-! ### the sums are numbers from 0 on -/
theorem Runs.bnd {line : Option Str} {B : List Menu} {s r : SState} (ok : BoardOk B) (h : Runs line B s r) : Bnd B s → Bnd B r := by
  induction h with
  | done e => exact fun b => (go_over ok b).fell.bnd
  | more e _ ih => exact fun b => ih (go_over ok b).fell.bnd
theorem Runs.bnd0 {line : Option Str} {B : List Menu} {r : SState} (ok : BoardOk B) (h : Runs line B sums0 r) : Bnd B r := h.bnd ok (MH.bnd0 B)
theorem Runs.pos {line : Option Str} {B : List Menu} {r : SState} (ok : BoardOk B) (h : Runs line B sums0 r) {x : Str} (hx : x ∈ namesOf B) : (∀ v, r.to x = some v → 0 ≤ v) ∧ (∀ v, r.home x = some v → 0 ≤ v) :=
  ⟨fun v e => ((h.bnd0 ok).to x hx v e).1, fun v e => ((h.bnd0 ok).home x hx v e).1⟩
end MH
set_option Elab.async false
set_option linter.all false
set_option maxRecDepth 100000
set_option maxHeartbeats 4000000
namespace MH
open PySem PySem.Spec PyProof.Rows L2
/-! ### dicts by texts that a comprehension makes -/
def dictOfS (es : List (Str × V)) : List (Key × V) := es.foldl (fun a p => putK a (Sum.inr p.1) p.2) []
theorem dictOfS_snoc (es : List (Str × V)) (p : Str × V) : dictOfS (es ++ [p]) = putK (dictOfS es) (Sum.inr p.1) p.2 := by
  unfold dictOfS
  rw [List.foldl_append]
  rfl
theorem snoc_ind {α : Type} {P : List α → Prop} (h0 : P []) (h1 : ∀ l x, P l → P (l ++ [x])) (l : List α) : P l := by
  have : ∀ n, ∀ l : List α, l.length = n → P l := by
    intro n
    induction n with
    | zero => intro l hl; rw [List.length_eq_zero_iff.mp hl]; exact h0
    | succ n ih =>
      intro l hl
      have ne : l ≠ [] := fun e => by rw [e] at hl; cases hl
      rw [← List.dropLast_concat_getLast ne]
      exact h1 _ _ (ih _ (by rw [List.length_dropLast]; omega))
  exact this _ l rfl
theorem dictOfS_none {x : Str} (es : List (Str × V)) : valV (dictOfS es) (Sum.inr x) = none ↔ x ∉ es.map (·.1) := by
  induction es using snoc_ind with
  | h0 => exact ⟨fun _ h => by simp at h, fun _ => rfl⟩
  | h1 l p ih =>
    rw [dictOfS_snoc, valV_put, List.map_append, List.mem_append]
    by_cases e : x = p.1
    · rw [if_pos (by rw [e])]
      refine Iff.intro (fun z => by cases z) (fun z => absurd (Or.inr ?_) z)
      rw [e]
      exact List.mem_singleton.mpr rfl
    · rw [if_neg (fun z => e (Sum.inr.inj z)), ih]
      exact ⟨fun z q => q.elim z fun q => e (List.mem_singleton.mp q), fun z q => z (.inl q)⟩
theorem dictOfS_len (es : List (Str × V)) : (dictOfS es).length ≤ es.length ∧ ((dictOfS es).length = es.length ↔ (es.map (·.1)).Nodup) := by
  induction es using snoc_ind with
  | h0 => exact ⟨Nat.le_refl _, ⟨fun _ => List.nodup_nil, fun _ => rfl⟩⟩
  | h1 l p ih =>
    obtain ⟨h1, h2⟩ := ih
    rw [dictOfS_snoc, put_len, List.length_append, List.map_append, List.nodup_append]
    have hn := dictOfS_none (x := p.1) l
    cases h : valV (dictOfS l) (Sum.inr p.1) with
    | none =>
      rw [if_neg (by simp)]
      have nin := hn.mp h
      refine ⟨by simp; omega, ⟨fun e => ⟨h2.mp (by simp at e; omega), by simp, fun a ha b hb e2 => ?_⟩, fun ⟨e, _⟩ => by have := h2.mpr e; simp; omega⟩⟩
      have : b = p.1 := by simpa using hb
      exact nin (by rw [← this, ← e2]; exact ha)
    | some v =>
      rw [if_pos (by simp)]
      have inn : p.1 ∈ l.map (·.1) := by
        refine Classical.byContradiction fun z => ?_
        rw [hn.mpr z] at h
        cases h
      refine ⟨by simp; omega, ⟨fun e => ?_, fun ⟨_, _, e⟩ => ?_⟩⟩
      · simp at e; omega
      · exact absurd rfl (e p.1 inn p.1 (by simp))
theorem dictOfS_get {x : Str} {v : V} (es : List (Str × V)) (nd : (es.map (·.1)).Nodup) (h : (x, v) ∈ es) : valV (dictOfS es) (Sum.inr x) = some v := by
  induction es using snoc_ind with
  | h0 => cases h
  | h1 l p ih =>
    rw [List.map_append, List.nodup_append] at nd
    rw [dictOfS_snoc, valV_put]
    rcases List.mem_append.mp h with h | h
    · have ne : x ≠ p.1 := fun e => nd.2.2 x (List.mem_map_of_mem (f := (·.1)) h) p.1 (by simp) e
      rw [if_neg (fun z => ne (Sum.inr.inj z))]
      exact ih nd.1 h
    · have e := List.mem_singleton.mp h
      rw [← e, if_pos rfl]
/-- a dict comprehension with texts as keys, whose turns change nothing that stood -/
theorem dc_pure {J : It} {n : Nat} {G : Hp → Prop} {Y : Nat → Hp → V → Hp → Prop} (w : Walk J n G Y) {g : TG} {tk tv : TE} {vs : List Nat} {σ : L2.St} {H1 : Hp} {D : Addr} {Qd : Hp → Prop} (hD : H1 D = none) (hn : n ≤ 100000)
    (es : List (Str × V)) (hl : es.length = n) (hG : ∀ H, Same H1 H → G H)
    (hs : ∀ i p x H H' (k1 : V → V → Hp → Prop) (k0 : Hp → Prop), es[i]? = some p → Same H1 H → Y i H x H' → (∀ H5, Same H H5 → k1 (.str p.1) p.2 H5) →
      g x (wipe σ vs) H' fun σ2 H2 => wipe σ2 vs = wipe σ vs ∧ tYes σ2 H2 fun b H3 => if b = true then tk σ2 H3 fun y H4 => tv σ2 H4 fun z H5 => k1 y z H5 else k0 H3)
    (hd : ∀ H, Same H1 H → H D = some (.dK (dictOfS es)) → Qd H) :
    ∃ W : Nat → Nat → Hp → Prop, (∃ m, W 0 m (upd H1 D (.dK []))) ∧ ∀ i m H, W i m H → (J.stop i H ∧ Qd H) ∨ (J.go i H ∧ ∃ Nx : Hp → Prop, (∀ H', Nx H' → ∃ m', m' < m ∧ W (i + 1) m' H') ∧ ∀ x H', J.yld i H x H' →
      g x (wipe σ vs) H' fun σ2 H2 => wipe σ2 vs = wipe σ vs ∧ tYes σ2 H2 fun b H3 => if b = true then tk σ2 H3 fun y H4 => tv σ2 H4 fun z H5 => ∃ kvs k, y = kV k ∧ H5 D = some (.dK kvs) ∧ kvs.length < sizeLine ∧ Nx (upd H5 D (.dK (putK kvs k z))) else Nx H3) := by
  refine loop_it w (fun i H => Same H1 H ∧ H D = some (.dK (dictOfS (es.take i)))) ⟨Same.upd hD, upd_same⟩ (fun i H _ p => hG H p.1) (fun i x H H' hi ⟨sm, e⟩ y => ?_) (fun H ⟨sm, e⟩ => ?_)
  · obtain ⟨p, hp⟩ : ∃ p, es[i]? = some p := ⟨es[i]'(by omega), List.getElem?_eq_getElem (by omega)⟩
    refine hs i p x H H' _ _ hp sm y fun H5 s5 => ⟨_, Sum.inr p.1, rfl, s5 _ _ e, ?_, ?_⟩
    · have := (dictOfS_len (es.take i)).1
      rw [List.length_take] at this
      exact line_lt (by omega)
    · refine ⟨same_put (sm.trans s5) hD, ?_⟩
      rw [upd_same, List.take_add_one, hp]
      exact congrArg some (congrArg HO.dK (dictOfS_snoc _ _).symm)
  · rw [← hl, List.take_length] at e
    exact hd H sm e
end MH
set_option Elab.async false
set_option linter.all false
set_option maxRecDepth 100000
set_option maxHeartbeats 4000000
namespace MH
open PySem PySem.Spec PyProof.Rows L2
/-! ### data of any kind -/
def tyD : PyData → String
  | .none => "NoneType"
  | .bool _ => "bool"
  | .int _ => "int"
  | .str _ => "str"
  | .list _ => "list"
  | .tuple _ => "tuple"
  | .dict _ => "dict"
def isIntD : PyData → Bool
  | .int _ => true
  | _ => false
def isTupD : PyData → Bool
  | .tuple _ => true
  | _ => false
def isStrD : PyData → Bool
  | .str _ => true
  | _ => false
def isNonD : PyData → Bool
  | .none => true
  | _ => false
def countD : PyData → Bool
  | .none => true
  | .int i => decide (0 ≤ i)
  | _ => false
def entry3 (names : List Str) (a b c : PyData) : Bool := match a with
  | .str x => names.contains x && (countD b && countD c)
  | _ => false
def entryD (names : List Str) : PyData → Bool
  | .tuple [a, b, c] => entry3 names a b c
  | _ => false
def nameD : PyData → Str
  | .tuple (.str x :: _) => x
  | _ => ""
def numD : PyData → Option Int
  | .int i => some i
  | _ => none
def toD : PyData → Option Int
  | .tuple [_, a, _] => numD a
  | _ => none
def homeD : PyData → Option Int
  | .tuple [_, _, a] => numD a
  | _ => none
def itemsD : PyData → List PyData
  | .tuple ds => ds
  | _ => []
def formedD (names : List Str) (d : PyData) : Bool := isTupD d && (decide ((itemsD d).length = names.length) && ((itemsD d).all (entryD names) && decide (((itemsD d).map nameD).Nodup)))
/-- the number that a paper tells -/
def paperTo (d : PyData) (x : Str) : Option Int := (((itemsD d).find? fun e => nameD e == x).map toD).getD none
def paperHome (d : PyData) (x : Str) : Option Int := (((itemsD d).find? fun e => nameD e == x).map homeD).getD none
section
variable {K : PySem.W.Frag} {H H' : Hp} {v : V} {d : PyData}
theorem dp_ty (h : Dp K H v d) : TyX K H v (.type (tyD d)) := by
  cases h with
  | non => exact .base .non
  | bl b => exact .base (.bl b)
  | int i => exact .base (.int i)
  | str x => exact .base (.str x)
  | lst h _ => exact tyx_list h
  | tup h _ => exact tyx_tup h
theorem dp_non (h : Dp K H v d) : decide (v = V.non) = isNonD d := by
  cases h <;> rfl
theorem kit_int (d : PyData) : kitB (tyD d) "int" = some (match d with | .int _ => true | .bool _ => true | _ => false) := by
  cases d with
  | none => exact (show kitB "NoneType" "int" = some false by decide +kernel)
  | bool _ => exact (show kitB "bool" "int" = some true by decide +kernel)
  | int _ => exact (show kitB "int" "int" = some true by decide +kernel)
  | str _ => exact (show kitB "str" "int" = some false by decide +kernel)
  | list _ => exact (show kitB "list" "int" = some false by decide +kernel)
  | tuple _ => exact (show kitB "tuple" "int" = some false by decide +kernel)
  | dict _ => exact (show kitB "dict" "int" = some false by decide +kernel)
theorem kit_bool (d : PyData) : kitB (tyD d) "bool" = some (match d with | .bool _ => true | _ => false) := by
  cases d with
  | none => exact (show kitB "NoneType" "bool" = some false by decide +kernel)
  | bool _ => exact (show kitB "bool" "bool" = some true by decide +kernel)
  | int _ => exact (show kitB "int" "bool" = some false by decide +kernel)
  | str _ => exact (show kitB "str" "bool" = some false by decide +kernel)
  | list _ => exact (show kitB "list" "bool" = some false by decide +kernel)
  | tuple _ => exact (show kitB "tuple" "bool" = some false by decide +kernel)
  | dict _ => exact (show kitB "dict" "bool" = some false by decide +kernel)
theorem kit_tuple (d : PyData) : kitB (tyD d) "tuple" = some (isTupD d) := by
  cases d with
  | none => exact (show kitB "NoneType" "tuple" = some false by decide +kernel)
  | bool _ => exact (show kitB "bool" "tuple" = some false by decide +kernel)
  | int _ => exact (show kitB "int" "tuple" = some false by decide +kernel)
  | str _ => exact (show kitB "str" "tuple" = some false by decide +kernel)
  | list _ => exact (show kitB "list" "tuple" = some false by decide +kernel)
  | tuple _ => exact (show kitB "tuple" "tuple" = some true by decide +kernel)
  | dict _ => exact (show kitB "dict" "tuple" = some false by decide +kernel)
theorem kit_str (d : PyData) : kitB (tyD d) "str" = some (isStrD d) := by
  cases d with
  | none => exact (show kitB "NoneType" "str" = some false by decide +kernel)
  | bool _ => exact (show kitB "bool" "str" = some false by decide +kernel)
  | int _ => exact (show kitB "int" "str" = some false by decide +kernel)
  | str _ => exact (show kitB "str" "str" = some true by decide +kernel)
  | list _ => exact (show kitB "list" "str" = some false by decide +kernel)
  | tuple _ => exact (show kitB "tuple" "str" = some false by decide +kernel)
  | dict _ => exact (show kitB "dict" "str" = some false by decide +kernel)
mutual
theorem dp_same (s : Same H H') : ∀ {d : PyData} {v : V}, Dp K H v d → Dp K H' v d
  | .none, _, h => by cases h; exact .non
  | .bool _, _, h => by cases h; exact .bl _
  | .int _, _, h => by cases h; exact .int _
  | .str _, _, h => by cases h; exact .str _
  | .list _, _, h => by
    cases h with
    | lst h1 h2 => exact .lst (same_l s h1) (dpAll_same s h2)
  | .tuple _, _, h => by
    cases h with
    | tup h1 h2 => exact .tup (same_t s h1) (dpAll_same s h2)
  | .dict _, _, h => by cases h
theorem dpAll_same (s : Same H H') : ∀ {ds : List PyData} {vs : List V}, DpAll K H vs ds → DpAll K H' vs ds
  | [], _, h => by cases h; exact .nil
  | _ :: _, _, h => by
    cases h with
    | cons h1 h2 => exact .cons (dp_same s h1) (dpAll_same s h2)
end
theorem dpAll_get : ∀ {vs : List V} {ds : List PyData} {i : Nat} {x : V}, DpAll K H vs ds → vs[i]? = some x → ∃ d, ds[i]? = some d ∧ Dp K H x d
  | _, _, _, _, .nil, h => by simp at h
  | _, _, 0, _, .cons h1 _, h => by
    rw [List.getElem?_cons_zero] at h ⊢
    cases h
    exact ⟨_, rfl, h1⟩
  | _, _, i + 1, _, .cons _ h2, h => by
    rw [List.getElem?_cons_succ] at h ⊢
    exact dpAll_get h2 h
end
theorem dpAll3 {K : PySem.W.Frag} {H : Hp} {xs : List V} {ds : List PyData} (h : DpAll K H xs ds) (hl : ds.length = 3) :
    ∃ x0 x1 x2 d0 d1 d2, xs = [x0, x1, x2] ∧ ds = [d0, d1, d2] ∧ Dp K H x0 d0 ∧ Dp K H x1 d1 ∧ Dp K H x2 d2 := by
  cases h with
  | nil => cases hl
  | cons p0 h =>
    cases h with
    | nil => cases hl
    | cons p1 h =>
      cases h with
      | nil => cases hl
      | cons p2 h =>
        cases h with
        | nil => exact ⟨_, _, _, _, _, _, rfl, rfl, p0, p1, p2⟩
        | cons p3 h =>
          simp only [List.length_cons] at hl
          omega
/-- the three parts of an entry -/
theorem entryD_parts {names : List Str} {K : PySem.W.Frag} {H : Hp} {v : V} {d : PyData} (h : Dp K H v d) (he : entryD names d = true) :
    ∃ (t : Addr) (x : Str) (a b : PyData) (va vb : V), v = .ref t ∧ d = .tuple [.str x, a, b] ∧ SqT K H t [.str x, va, vb] ∧ Dp K H va a ∧ Dp K H vb b ∧ x ∈ names ∧ countD a = true ∧ countD b = true := by
  unfold entryD at he
  split at he
  · rename_i d0 a b
    cases h with
    | @tup t xs _ h1 h2 =>
      obtain ⟨x0, x1, x2, _, _, _, rfl, e, p0, p1, p2⟩ := dpAll3 h2 rfl
      cases e
      unfold entry3 at he
      split at he
      · cases p0
        simp only [Bool.and_eq_true] at he
        exact ⟨t, _, a, b, _, _, rfl, rfl, h1, p1, p2, List.contains_iff_mem.mp he.1, he.2.1, he.2.2⟩
      · cases he
  · cases he
theorem entryD_no {names : List Str} {ds : List PyData} (h : ds.length ≠ 3) : entryD names (.tuple ds) = false := by
  unfold entryD
  split
  · rename_i e
    cases e
    exact absurd rfl h
  · rfl
theorem countD_num {K : PySem.W.Frag} {H : Hp} {v : V} {d : PyData} (h : Dp K H v d) (hc : countD d = true) : v = nV (numD d) := by
  cases h with
  | non => rfl
  | int i => rfl
  | bl b => cases hc
  | str x => cases hc
  | lst _ _ => cases hc
  | tup _ _ => cases hc
end MH
set_option Elab.async false
set_option linter.all false
set_option maxRecDepth 100000
set_option maxHeartbeats 4000000
namespace MH
open PySem PySem.Spec PyProof.Rows L2
section
variable {P : Program} {w : World} {K : PySem.W.Frag} {mg : Str → Option Value} {base : Heap}
/-! ### is_integer, is_count of any data -/
def sp_is_integerD (K : PySem.W.Frag) : Sp := fun vs H Q _ => ∃ (v : V) (d : PyData), vs = [v] ∧ Dp K H v d ∧ Q (.bl (isIntD d)) H
theorem ok_is_integerD (G : Glo K mg "is_integer" s_is_integer) (T : Blt mg) : CalX P w K mg base CX0 2 "is_integer" (sp_is_integerD K) := by
  refine mkCal G sc_is_integer (fun vs H Q E h => ?_) (fun _ _ _ _ _ _ us hl => match us, hl with | [_], _ => rfl) (fun f cdv A outer s H vs Q E hr h => ?_)
  · obtain ⟨v, d, rfl, _⟩ := h
    rfl
  · obtain ⟨v, d, rfl, hd, k⟩ := h
    refine ⟨_, pss_one (ps_ret (pe_and (pe_callB call_isi (by rfl) T.isinstance boot_isinstance (pa_cons (pv 0) (pa_cons (pe_bltn (v := .ty "int") (by rfl) T.int boot_int rfl) pa_nil)))
      (pe_one (pe_not (pe_callB call_isi (by rfl) T.isinstance boot_isinstance (pa_cons (pv 0) (pa_cons (pe_bltn (v := .ty "bool") (by rfl) T.bool boot_bool rfl) pa_nil))))))), ?_⟩
    refine ⟨_, rfl, _, _, _, _, _, rfl, .ty "int", (dp_ty hd), kit_ty (kit_int d), _, rfl, ?_⟩
    cases d with
    | int i => exact ⟨_, rfl, _, _, _, _, _, rfl, .ty "bool", (dp_ty hd), kit_ty (kit_bool (.int i)), _, rfl, k⟩
    | bool b => exact ⟨_, rfl, _, _, _, _, _, rfl, .ty "bool", (dp_ty hd), kit_ty (kit_bool (.bool b)), _, rfl, k⟩
    | none => exact k
    | str x => exact k
    | list l => exact k
    | tuple l => exact k
    | dict l => exact k
def sp_is_count (K : PySem.W.Frag) : Sp := fun vs H Q _ => ∃ (v : V) (d : PyData), vs = [v] ∧ Dp K H v d ∧ Q (.bl (countD d)) H
theorem sc_is_count : FnScope ["value"] ["value"] (defScope s_is_count) := ⟨rfl, rfl, rfl, by decide +kernel, rfl, by decide +kernel, by decide +kernel⟩
theorem ok_is_count (G : Glo K mg "is_count" s_is_count) (D1 : CalX P w K mg base CX0 2 "is_integer" (sp_is_integerD K)) : CalX P w K mg base CX0 3 "is_count" (sp_is_count K) := by
  refine mkCal G sc_is_count (fun vs H Q E h => ?_) (fun _ _ _ _ _ _ us hl => match us, hl with | [_], _ => rfl) (fun f cdv A outer s H vs Q E hr h => ?_)
  · obtain ⟨v, d, rfl, _⟩ := h
    rfl
  · obtain ⟨v, d, rfl, hd, k⟩ := h
    refine ⟨_, pss_one (ps_ret (pe_or (pe_cmpR op_isN (pv 0) pe_non (nomark _)) (pe_one (pe_and (pe_cal (j := 2) D1 hr (by decide) pass0 (pa_cons (pv 0) pa_nil)) (pe_one (pe_cmpR op_ge (pv 0) pe_int (nomark _))))))), ?_⟩
    refine ⟨_, rfl, rfl, ?_⟩
    rw [dp_non hd]
    cases d with
    | none => exact ⟨true, rfl, k⟩
    | int i =>
      cases hd
      exact ⟨false, rfl, ⟨_, rfl, _, _, rfl, .int i, true, rfl, ⟨_, rfl, _, _, rfl, rfl, k⟩⟩⟩
    | bool b => exact ⟨false, rfl, ⟨_, rfl, _, _, rfl, hd, false, rfl, k⟩⟩
    | str b => exact ⟨false, rfl, ⟨_, rfl, _, _, rfl, hd, false, rfl, k⟩⟩
    | list b => exact ⟨false, rfl, ⟨_, rfl, _, _, rfl, hd, false, rfl, k⟩⟩
    | tuple b => exact ⟨false, rfl, ⟨_, rfl, _, _, rfl, hd, false, rfl, k⟩⟩
    | dict b => cases hd
/-! ### is_entry of any data -/
def sp_is_entry (K : PySem.W.Frag) (CB CM : Addr) : Sp := fun vs H Q _ => ∃ (z : Addr) (B : List Menu) (v : V) (d : PyData), vs = [.ref z, v] ∧ BoardAt CB CM H z B ∧ Dp K H v d ∧ Q (.bl (entryD (namesOf B) d)) H
theorem sc_is_entry : FnScope ["board", "value"] ["board", "value"] (defScope s_is_entry) := ⟨rfl, rfl, rfl, by decide +kernel, rfl, by decide +kernel, by decide +kernel⟩
theorem ok_is_entry {CB CM : Addr} (G : Glo K mg "is_entry" s_is_entry) (T : Blt mg) (OB : ObjC K CB ["menus", "names", "first", "lines"]) (D1 : CalX P w K mg base CX0 3 "is_count" (sp_is_count K)) : CalX P w K mg base CX0 4 "is_entry" (sp_is_entry K CB CM) := by
  refine mkCal G sc_is_entry (fun vs H Q E h => ?_) (fun _ _ _ _ _ _ us hl => match us, hl with | [_, _], _ => rfl) (fun f cdv A outer s H vs Q E hr h => ?_)
  · obtain ⟨z, B, v, d, rfl, _⟩ := h
    rfl
  · obtain ⟨z, B, v, d, rfl, ⟨dx, mt, nt, lt, ms, ys, hB⟩, hd, k⟩ := h
    have nd := sc_is_entry.nd
    have flat : ((namesOf B).map V.str).all flatV = true := by rw [List.all_map]; exact List.all_eq_true.mpr fun _ _ => rfl
    refine ⟨_, pss_cons (ps_if (PW.pt (pw_or (pt_not (pt_val (pe_callB call_isi (by rfl) T.isinstance boot_isinstance (pa_cons (pv 1) (pa_cons (pe_bltn (v := .ty "tuple") (by rfl) T.tuple boot_tuple rfl) pa_nil)))))
          (pw_or (pt_cmpR op_ne (pe_callB call_len_seq (by rfl) T.len boot_len (pa_cons (pv 1) pa_nil)) pe_int (nomark _))
          (pw_or1 (pt_not (pt_val (pe_callB call_isi (by rfl) T.isinstance boot_isinstance (pa_cons (pe_ix ix_tup (pv 1) pe_int (fun _ _ => rfl)) (pa_cons (pe_bltn (v := .ty "str") (by rfl) T.str boot_str rfl) pa_nil))))))))) (pss_one (ps_ret pe_bl)) pss_nil)
      (pss_one (ps_ret (pe_and (pe_cmpR op_in_seq (pe_ix ix_tup (pv 1) pe_int (fun _ _ => rfl)) (pe_fld (pv 0) (by rfl)) (by rfl)) (pe_and (pe_cal (j := 3) D1 hr (by decide) pass0 (pa_cons (pe_ix ix_tup (pv 1) pe_int (fun _ _ => rfl)) pa_nil)) (pe_one (pe_cal (j := 3) D1 hr (by decide) pass0 (pa_cons (pe_ix ix_tup (pv 1) pe_int (fun _ _ => rfl)) pa_nil))))))), ?_⟩
    refine ⟨_, rfl, _, _, _, _, _, rfl, .ty "tuple", (dp_ty hd), kit_ty (kit_tuple d), _, rfl, ?_⟩
    cases hdd : isTupD d with
    | false =>
      have e : entryD (namesOf B) d = false := by cases d <;> first | exact (rfl : false = false) | cases hdd
      rw [e] at k
      exact iteT k
    | true =>
      cases d with
      | none => cases hdd
      | bool _ => cases hdd
      | int _ => cases hdd
      | str _ => cases hdd
      | list _ => cases hdd
      | dict _ => cases hdd
      | tuple ds =>
        cases hd with
        | @tup t xs _ ht hds =>
          have hl := dpAll_len hds
          refine iteF ⟨_, rfl, t, _, rfl, .inr ht, rfl, _, rfl, ?_⟩
          by_cases h3 : ds.length = 3
          · obtain ⟨x0, x1, x2, d0, d1, d2, rfl, rfl, p0, p1, p2⟩ := dpAll3 hds h3
            · clear hl h3 hds hdd
              refine iteF ⟨_, rfl, t, _, 0, _, rfl, rfl, ht, rfl, _, _, _, _, _, rfl, .ty "str", (dp_ty p0), kit_ty (kit_str d0), _, rfl, ?_⟩
              cases hs : isStrD d0 with
              | false =>
                have e : entryD (namesOf B) (.tuple [d0, d1, d2]) = false := by cases d0 <;> first | exact (rfl : false = false) | cases hs
                rw [e] at k
                exact iteT k
              | true =>
                cases d0 with
                | none => cases hs
                | bool _ => cases hs
                | int _ => cases hs
                | list _ => cases hs
                | dict _ => cases hs
                | tuple _ => cases hs
                | str x =>
                  cases p0
                  refine iteF ?_
                  refine ⟨_, rfl, t, _, 0, _, rfl, rfl, ht, rfl, _, rfl, z, CB, dx, _, _, rfl, hB.at_, OB.cls, OB.no _ (by simp), rfl, nt, _, rfl, .inr (sqT hB.names), rfl, flat, ?_⟩
                  show ∃ b, V.bl (inV (.str x) ((namesOf B).map V.str)) = V.bl b ∧ _
                  rw [inV_strs]
                  have k2 : Q (.bl ((namesOf B).contains x && (countD d1 && countD d2))) H := k
                  cases hc : (namesOf B).contains x with
                  | false =>
                    rw [hc] at k2
                    exact ⟨false, rfl, k2⟩
                  | true =>
                    rw [hc, Bool.true_and] at k2
                    refine ⟨true, rfl, ⟨_, rfl, t, _, 1, _, rfl, rfl, ht, rfl, _, _, rfl, p1, ?_⟩⟩
                    cases h1 : countD d1 with
                    | false =>
                      rw [h1] at k2
                      exact ⟨false, rfl, k2⟩
                    | true =>
                      rw [h1, Bool.true_and] at k2
                      exact ⟨true, rfl, ⟨_, rfl, t, _, 2, _, rfl, rfl, ht, rfl, _, _, rfl, p2, k2⟩⟩
          · rw [entryD_no h3] at k
            have e : decide (V.int ((xs.length : Nat) : Int) = V.int 3) = false := decide_eq_false fun q => h3 (by have := V.int.inj q; omega)
            rw [e]
            exact iteT k
end
end MH
set_option Elab.async false
set_option linter.all false
set_option maxRecDepth 100000
set_option maxHeartbeats 4000000
namespace MH
open PySem PySem.Spec PyProof.Rows L2
section
variable {P : Program} {w : World} {K : PySem.W.Frag} {mg : Str → Option Value} {base : Heap}
/-! ### is_borne -/
def borneStep (B : List Menu) (m : Menu) (line : Option Str) (to home : Str → Option Int) (st : Step) : Bool := !belowN (plusN (some st.1) (toldTo (firstOf B) m.name to home line st.2.2)) (to m.name) && !belowN (plusN (some st.1) (toldHome m.name home st.2.2)) (home m.name)
def borneB (B : List Menu) (line : Option Str) (m : Menu) (to home : Str → Option Int) : Bool := m.steps.all (borneStep B m line to home)
def sp_is_borne (CB CM : Addr) : Sp := fun vs H Q _ => ∃ (zb am dt dh : Addr) (B : List Menu) (m : Menu) (line : Option Str) (to home : Str → Option Int), vs = [.ref zb, lV line, .ref am, .ref dt, .ref dh] ∧ BoardAt CB CM H zb B ∧ BoardOk B ∧ m ∈ B ∧ MenuAt CM H am m ∧ NumAt B H dt to ∧ NumAt B H dh home ∧
  ∀ H', Same H H' → Q (.bl (borneB B line m to home)) H'
theorem sc_is_borne : FnScope ["board", "line", "menu", "to", "home", "cost", "key", "action"] ["board", "line", "menu", "to", "home"] (defScope s_is_borne) := ⟨rfl, rfl, rfl, by decide +kernel, rfl, by decide +kernel, by decide +kernel⟩
theorem ok_is_borne {CB CM : Addr} (G : Glo K mg "is_borne" s_is_borne) (OM : ObjC K CM ["name", "rows", "tail", "tries", "clears", "deeds", "last"]) (D1 : CalX P w K mg base CX0 1 "steps_of" (sp_steps_of CM)) (D2 : CalX P w K mg base CX0 1 "plus" sp_plus) (D3 : CalX P w K mg base CX0 1 "is_below" sp_is_below)
    (D4 : CalX P w K mg base CX0 2 "told_to" (sp_told_to CB CM)) (D5 : CalX P w K mg base CX0 2 "told_home" sp_told_home) : CalX P w K mg base CX0 3 "is_borne" (sp_is_borne CB CM) := by
  refine mkCal G sc_is_borne (fun vs H Q E h => ?_) (fun _ _ _ _ _ _ us hl => match us, hl with | [_, _, _, _, _], _ => rfl) (fun f cdv A outer s0 H vs Q E hr h => ?_)
  · obtain ⟨zb, am, dt, dh, B, m, line, to, home, rfl, _⟩ := h
    rfl
  · obtain ⟨zb, am, dt, dh, B, m, line, to, home, rfl, hB, ok, hm, hM, hto, hho, k⟩ := h
    have nd := sc_is_borne.nd
    have hu := hu_of hr
    refine ⟨_, pss_cons (ps_for (passes_of rfl) rfl (pi_list (pe_cal (j := 2) D1 hr (by decide) pass0 (pa_cons (pv 2) pa_nil))) (pg_tup rfl (pgs_cons (pg_name (i := 5) nd rfl (Or.inl rfl)) (pgs_cons (pg_name (i := 6) nd rfl (Or.inl rfl)) (pgs_cons (pg_name (i := 7) nd rfl (Or.inl rfl)) pgs_nil))))
        (pss_cons (ps_if (pt_val (pe_cal (j := 2) D3 hr (by decide) pass0 (pa_cons (pe_cal (j := 2) D2 hr (by decide) pass0 (pa_cons (pv 5) (pa_cons (pe_cal (j := 2) D4 hr (by decide) pass0 (pa_cons (pv 0) (pa_cons (pv 7) (pa_cons (pe_fld (pv 2) (by rfl)) (pa_cons (pv 3) (pa_cons (pv 4) (pa_cons (pv 1) pa_nil))))))) pa_nil))) (pa_cons (pe_dget hu (pv 3) (pe_fld (pv 2) (by rfl)) (fun _ _ => rfl)) pa_nil)))) (pss_one (ps_ret pe_bl)) pss_nil)
        (pss_one (ps_if (pt_val (pe_cal (j := 2) D3 hr (by decide) pass0 (pa_cons (pe_cal (j := 2) D2 hr (by decide) pass0 (pa_cons (pv 5) (pa_cons (pe_cal (j := 2) D5 hr (by decide) pass0 (pa_cons (pv 7) (pa_cons (pe_fld (pv 2) (by rfl)) (pa_cons (pv 4) pa_nil)))) pa_nil))) (pa_cons (pe_dget hu (pv 4) (pe_fld (pv 2) (by rfl)) (fun _ _ => rfl)) pa_nil)))) (pss_one (ps_ret pe_bl)) pss_nil))))
      (pss_one (ps_ret pe_bl)), ?_⟩
    have nmin : m.name ∈ namesOf B := List.mem_map_of_mem hm
    refine ⟨_, rfl, am, m, rfl, hM, ok.ok m hm, fun l xs H1 s1 hl e1 p1 => ⟨l, rfl, ⟨_, sqL e1⟩, ?_⟩⟩
    have hB1 := hB.same s1
    have hM1 := hM.same s1
    have t1 := hto.same s1
    have h1 := hho.same s1
    refine for_it (walk_list (K := K) (xs := xs)) (fun j σ Hz => (∃ a b c, σ = [some (.ref zb), some (lV line), some (.ref am), some (.ref dt), some (.ref dh), a, b, c]) ∧ Hz = H1 ∧ (m.steps.take j).all (borneStep B m line to home) = true)
      ⟨⟨_, _, _, rfl⟩, rfl, rfl⟩ (fun j σ Hz _ q => by rw [q.2.1]; exact sqL e1) (fun j v σ Hz0 Hz hj ⟨⟨a, b, c, hσ⟩, hz1, hall⟩ y => ?_) (fun σ Hz ⟨⟨a, b, c, hσ⟩, hz1, hall⟩ => ?_)
    · subst hσ
      obtain ⟨rfl, hv2⟩ := y
      subst hz1
      obtain ⟨st, hst, t, ya, rfl, ht, av⟩ := paired_getL p1 hv2
      have hst2 := List.mem_of_getElem? hst
      have hn := steps_names ok hm st hst2
      obtain ⟨dx4, rt, dtt, la, xs4, ds4, hMi⟩ := id hM1
      refine ⟨t, _, rfl, sqT ht, rfl, _, _, rfl, _, _, rfl, _, _, rfl, rfl, ?_⟩
      refine ⟨_, rfl, _, rfl, _, rfl, _, rfl, am, CM, dx4, _, _, rfl, hMi.at_, OM.cls, OM.no _ (by simp), rfl, _, rfl, _, rfl, _, rfl, zb, dt, dh, B, ya, st.2.2, m.name, to, home, line, rfl, hB1, ok, av, hn, nmin, t1, h1, some st.1, _, rfl, ?_⟩
      refine ⟨_, rfl, _, rfl, am, CM, dx4, _, _, rfl, hMi.at_, OM.cls, OM.no _ (by simp), rfl, dt, _, rfl, t1.get nmin, _, _, rfl, _, rfl, ?_⟩
      refine ite_b (fun b1 => ?_) (fun b1 => ?_)
      · have e : borneB B line m to home = false := by
          refine Bool.eq_false_iff.mpr fun q => ?_
          have := List.all_eq_true.mp q st hst2
          unfold borneStep at this
          rw [b1] at this
          cases this
        rw [← e]
        exact k _ s1
      refine ⟨_, rfl, _, rfl, _, rfl, am, CM, dx4, _, _, rfl, hMi.at_, OM.cls, OM.no _ (by simp), rfl, _, rfl, dh, B, ya, st.2.2, m.name, home, rfl, av, hn, nmin, h1, some st.1, _, rfl, ?_⟩
      refine ⟨_, rfl, _, rfl, am, CM, dx4, _, _, rfl, hMi.at_, OM.cls, OM.no _ (by simp), rfl, dh, _, rfl, h1.get nmin, _, _, rfl, _, rfl, ?_⟩
      refine ite_b (fun b2 => ?_) (fun b2 => ?_)
      · have e : borneB B line m to home = false := by
          refine Bool.eq_false_iff.mpr fun q => ?_
          have := List.all_eq_true.mp q st hst2
          unfold borneStep at this
          rw [b2, Bool.not_true, Bool.and_false] at this
          cases this
        rw [← e]
        exact k _ s1
      · refine ⟨⟨_, _, _, rfl⟩, rfl, ?_⟩
        rw [List.take_add_one, hst, List.all_append, hall]
        show (borneStep B m line to home st && true) = true
        unfold borneStep
        rw [b1, b2]
        rfl
    · rw [hz1]
      have e : borneB B line m to home = true := by
        unfold borneB
        rw [← hall, Paired.length p1, List.take_length]
      rw [← e]
      exact k H1 s1
end
end MH
set_option Elab.async false
set_option linter.all false
set_option maxRecDepth 100000
set_option maxHeartbeats 4000000
namespace MH
open PySem PySem.Spec PyProof.Rows L2
/-! ### len(x), x an instance of a class with an own __len__ -/
section
variable {prog : Program} {w : World} {A : Around} {E : Value → Shared → Prop} {s : Shared} {K : PySem.W.Frag} {x C f : Addr} {ox : Obj} {odd : Option Obj}
theorem len_ins {Q : Value → Shared → Prop} (X : K.In s.heap) (I : PySem.W.InstAt s.heap x ox C odd) (hs : PySem.W.findIn K (.ref C) "__len__" = some (some (.ref f))) (hf : PySem.W.isFn K (.ref f) = true)
    (h : wpAny (model prog w) A.in1 (call (.ref f) [.ref x]) (fun r s' => ∃ n u, r = Value.int n u ∧ 0 ≤ n ∧ n < 2 ^ 63 ∧ Q (.int n s'.toks) { s' with toks := s'.toks + 1 }) E s) : wpAny (model prog w) A (call (.builtin "len") [.ref x]) Q E s := by
  refine Calls.call_function_entry kind_len plain_len entry_len (args_len1 _) ?_
  unfold Builtin.«len»
  refine wpAny_bind (m := oneArg "len" _) (wpAny_pure ?_)
  refine wpAny_bind (m := callSpecial? (.ref x) (Str.ofString "__len__")) (PySem.W.special_fn X I hs (beq_iff_eq.mp hf) (wpAny_mono h (fun r s' hr => ?_) fun _ _ y => y))
  obtain ⟨n, u, rfl, h0, h1, hq⟩ := hr
  refine wpAny_bind (wpAny_holding (wpAny_pure ?_))
  refine wpAny_bind (wpAny_letGo ?_)
  show wpAny _ _ (if n < 0 then _ else _) _ _ _
  rw [if_neg (by omega)]
  show wpAny _ _ (if n ≥ 2 ^ 63 then _ else _) _ _ _
  rw [if_neg (by omega)]
  exact wpAny_bind (wpAny_mkInt (wpAny_pure ⟨_, rfl, hq⟩))
end
section
variable {X : Cx} {CX : CXT} {pins : List (Addr × Obj)} {σ : L2.St} {H : Hp} {s : Shared} {C g : Addr} {n : Nat} {sp : Sp} {E : XK}
def rLenOwn (C : Addr) (sp : Sp) (E : XK) : List V → Hp → VK → Prop := fun xs H Q => ∃ a dx fs, xs = [V.ref a] ∧ H a = some (.ins C dx fs) ∧ sp [.ref a] H (fun z H' => ∃ i : Int, z = .int i ∧ 0 ≤ i ∧ i < 2 ^ 63 ∧ Q z H') E
theorem call_lenOwn (M : Meth X.K C "__len__" g) (F : FnR X.prog X.w X.K X.mg X.base CX n g sp) (hr : Room (n + 1) X.A) (hx : Passes CX X E) : CallR X (.builtin "len") (rLenOwn C sp E) := by
  intro pins s σ H xs us Q I r h
  obtain ⟨a, dx, fs, rfl, ha, q⟩ := h
  obtain ⟨u, rfl, ru⟩ := r.one
  cases (show u = Value.ref a from ru)
  obtain ⟨mA, O, _⟩ := ins_get I.hok ha
  obtain ⟨od, J, _⟩ := O.look
  refine len_ins I.kIn J M.at_ M.fn (wpAny_mono (wpAny_call (SlX.run_at (us := [.ref a]) (ws := [.ref a]) F hr.in1 I.env0.in1 hx I (.cons rfl .nil) q)) (fun w s' z => ?_) fun _ _ x => x)
  obtain ⟨z', H', I', rz, i, ei, h0, h1, qz⟩ := z
  subst ei
  obtain ⟨t, e⟩ := (show ∃ t, w = Value.int i t from rz)
  cases e
  exact ⟨i, t, rfl, h0, h1, .int i, H', I'.tok _, ⟨_, rfl⟩, qz⟩
end
end MH
set_option Elab.async false
set_option linter.all false
set_option maxRecDepth 100000
set_option maxHeartbeats 4000000
namespace MH
open PySem PySem.Spec PyProof.Rows L2
section
variable {P : Program} {w : World} {K : PySem.W.Frag} {mg : Str → Option Value} {base : Heap}
/-! ### len(board) -/
def sp_board_len (CB CM : Addr) : Sp := fun vs H Q _ => ∃ (z : Addr) (B : List Menu), vs = [.ref z] ∧ BoardAt CB CM H z B ∧ Q (.int B.length) H
theorem sc_board_len : FnScope ["self"] ["self"] (defScope s_Board_len) := ⟨rfl, rfl, rfl, by decide +kernel, rfl, by decide +kernel, by decide +kernel⟩
theorem ok_board_len {CB CM f : Addr} {fd : FuncData} (M : Meth K CB "__len__" f) (F : FunD K "__len__" "Board.__len__" (defArgs s_Board_len) (defBody s_Board_len) (defScope s_Board_len) [] [] f fd) (T : Blt mg)
    (O : ObjC K CB ["menus", "names", "first", "lines"]) : MetX P w K mg base CX0 1 CB "__len__" (sp_board_len CB CM) := by
  refine mkMet M F sc_board_len (fun vs H Q E h => ?_) (fun _ _ _ _ _ _ us hl => match us, hl with | [_], _ => rfl) (fun f cdv A outer s H vs Q E hr h => ?_)
  · obtain ⟨z, B, rfl, _⟩ := h
    rfl
  · obtain ⟨z, B, rfl, ⟨dx, mt, nt, lt, ms, ys, hB⟩, k⟩ := h
    refine ⟨_, pss_one (ps_ret (pe_callB call_len_seq (by rfl) T.len boot_len (pa_cons (pe_fld (pv 0) (by rfl)) pa_nil))), ?_⟩
    refine ⟨_, rfl, z, CB, dx, _, _, rfl, hB.at_, O.cls, O.no _ (by simp), rfl, mt, _, rfl, .inr (sqT hB.menus), ?_⟩
    rw [Paired.length hB.pmenus]
    exact k
/-- its promise, however it is called -/
theorem MetX.raw {C : Addr} {m : Str} {k : Nat} {sp : Sp} (D : MetX P w K mg base CX0 k C m sp) : ∃ f, Meth K C m f ∧ FnR P w K mg base CX0 k f sp := by
  obtain ⟨f, fd, ps, M, F, b⟩ := D.ex
  exact ⟨f, M, (F.raw b .nil).imp fun vs H Q E h => by rw [List.append_nil]; exact h⟩
/-! ### is_formed of any data -/
def sp_is_formed (K : PySem.W.Frag) (CB CM : Addr) : Sp := fun vs H Q _ => ∃ (z : Addr) (B : List Menu) (v : V) (d : PyData), vs = [.ref z, v] ∧ BoardAt CB CM H z B ∧ BoardOk B ∧ Dp K H v d ∧ ∀ H', Same H H' → Q (.bl (formedD (namesOf B) d)) H'
theorem entryD_name {names : List Str} {d : PyData} (h : entryD names d = true) : ∃ x a b, d = .tuple [.str x, a, b] := by
  unfold entryD at h
  split at h
  · unfold entry3 at h
    split at h
    · exact ⟨_, _, _, rfl⟩
    · cases h
  · cases h
theorem sc_is_formed : FnScope ["board", "value", "entry"] ["board", "value"] (defScope s_is_formed) := ⟨rfl, rfl, rfl, by decide +kernel, rfl, by decide +kernel, by decide +kernel⟩
theorem ok_is_formed {CB CM : Addr} (G : Glo K mg "is_formed" s_is_formed) (T : Blt mg) (D1 : CalX P w K mg base CX0 4 "is_entry" (sp_is_entry K CB CM)) (D2 : MetX P w K mg base CX0 1 CB "__len__" (sp_board_len CB CM)) : CalX P w K mg base CX0 5 "is_formed" (sp_is_formed K CB CM) := by
  obtain ⟨fl, ML, FL⟩ := D2.raw
  refine mkCal G sc_is_formed (fun vs H Q E h => ?_) (fun _ _ _ _ _ _ us hl => match us, hl with | [_, _], _ => rfl) (fun f cdv A outer s H vs Q E hr h => ?_)
  · obtain ⟨z, B, v, d, rfl, _⟩ := h
    rfl
  · obtain ⟨z, B, v, d, rfl, hB, ok, hd, k⟩ := h
    have nd := sc_is_formed.nd
    have few := ok.few
    refine ⟨_, pss_cons (ps_if (PW.pt (pw_or (pt_not (pt_val (pe_callB call_isi (by rfl) T.isinstance boot_isinstance (pa_cons (pv 1) (pa_cons (pe_bltn (v := .ty "tuple") (by rfl) T.tuple boot_tuple rfl) pa_nil)))))
          (pw_or1 (pt_cmpR op_ne (pe_callB call_len_seq (by rfl) T.len boot_len (pa_cons (pv 1) pa_nil)) (pe_callB (call_lenOwn (C := CB) (sp := sp_board_len CB CM) (E := E0) ML FL (hr.mono (by decide)) pass0) (by rfl) T.len boot_len (pa_cons (pv 0) pa_nil)) (nomark _))))) (pss_one (ps_ret pe_bl)) pss_nil)
      (pss_cons (ps_if (pt_not (pt_val (pe_callB (cr_all rfl) (by rfl) T.all (by decide +kernel) (pa_cons (pe_lc (te := tCall (sp_is_entry K CB CM) [] E0 (tCons (tVar 0) (tCons (tVar 2) tNil))) (own := [("entry", 2)]) (g := gName 2) rfl nd (pi_tup (pv 1))
            (blkOk_by (own := [("entry", 2)]) (N := ["board", "value", "entry"]) (sc := defScope s_is_formed) (by decide +kernel)) (fun _ _ _ _ _ => pg_name (i := 2) nd rfl (Or.inl rfl)) (fun _ _ _ _ _ => pts_nil)
            (fun _ _ _ _ _ => pe_cal (j := 4) D1 (hr.mono (by decide)) (by decide) pass0 (pa_cons (pv 0) (pa_cons (pv 2) pa_nil)))) pa_nil)))) (pss_one (ps_ret pe_bl)) pss_nil)
      (pss_one (ps_ret (pe_cmpR op_eq (pe_callB call_lenD (by rfl) T.len boot_len (pa_cons (pe_dc (tk := tOp (rIxT K) (tVar 2) (tC (.int 0))) (tv := tC (.bl true)) (own := [("entry", 2)]) (g := gName 2) rfl nd (pi_tup (pv 1))
            (blkOk_by (own := [("entry", 2)]) (N := ["board", "value", "entry"]) (sc := defScope s_is_formed) (by decide +kernel)) (fun _ _ _ _ _ => pg_name (i := 2) nd rfl (Or.inl rfl)) (fun _ _ _ _ _ => pts_nil)
            (fun _ _ _ _ _ => pe_ix ix_tup (pv 2) pe_int (fun _ _ => rfl)) (fun _ _ _ _ _ => pe_bl)) pa_nil)) (pe_callB (call_lenOwn (C := CB) (sp := sp_board_len CB CM) (E := E0) ML FL (hr.mono (by decide)) pass0) (by rfl) T.len boot_len (pa_cons (pv 0) pa_nil)) (nomark _))))), ?_⟩
    obtain ⟨dx, mt, nt, lt, ms, ys, hBi⟩ := id hB
    have nl : (namesOf B).length = B.length := by unfold namesOf; rw [List.length_map]
    refine ⟨_, rfl, _, _, _, _, _, rfl, .ty "tuple", (dp_ty hd), kit_ty (kit_tuple d), _, rfl, ?_⟩
    cases hdd : isTupD d with
    | false =>
      have e : formedD (namesOf B) d = false := by
        unfold formedD
        rw [hdd]
        rfl
      have k0 := k H (Same.refl _)
      rw [e] at k0
      exact iteT k0
    | true =>
      have ht : ∃ ds, d = .tuple ds := by
        cases d <;> first | exact ⟨_, rfl⟩ | cases hdd
      obtain ⟨ds, rfl⟩ := ht
      cases hd with
      | @tup t xs _ ht hds =>
        have xl := dpAll_len hds
        refine iteF ⟨_, rfl, t, _, rfl, .inr ht, _, rfl, z, dx, _, rfl, hBi.at_, z, B, rfl, hB, _, rfl, by omega, by omega, rfl, _, rfl, ?_⟩
        refine ite_n (fun hne => ?_) (fun hne => ?_)
        · have e : formedD (namesOf B) (.tuple ds) = false := by
            have : ds.length ≠ (namesOf B).length := fun q => of_decide_eq_false hne (by rw [xl, q, nl])
            unfold formedD
            rw [show itemsD (.tuple ds) = ds from rfl, decide_eq_false this, Bool.false_and, Bool.and_false]
          have k0 := k H (Same.refl _)
          rw [e] at k0
          exact k0
        · have el : ds.length = B.length := by
            have := V.int.inj (of_decide_eq_true hne)
            omega
          refine ⟨_, rfl, t, rfl, ⟨_, ht⟩, fun L hL => ?_⟩
          refine lc_pure (Fr := fun _ => False) (walk_tup (K := K) (xs := xs)) hL (by omega) (fun i o _ => o = ((ds.map (entryD (namesOf B))).map V.bl)[i]?) (fun _ _ _ _ _ z => z)
            (fun H3 s3 => same_t s3 ht) (fun i x H3 H4 k1 k0 hi s3 y q1 q0 => ?_) (fun H2 os s2 hl2 hr2 hD2 => ?_)
          · obtain ⟨rfl, hx⟩ := y
            obtain ⟨e, hm1, hte⟩ := dpAll_get hds hx
            refine ⟨rfl, _, rfl, _, rfl, z, B, _, e, rfl, hB.same s3, dp_same s3 hte, q1 _ _ (Same.refl _) ?_⟩
            rw [List.getElem?_map, List.getElem?_map, hm1]
            rfl
          · have e3 : H2 L = some (.lst ((ds.map (entryD (namesOf B))).map V.bl)) := by
              rw [hD2, os_vals (by rw [hl2, List.length_map, List.length_map, xl]) hr2]
            refine ⟨L, _, rfl, sqL e3, _, rfl, ?_⟩
            have ea : (ds.map (entryD (namesOf B))).all id = ds.all (entryD (namesOf B)) := by rw [List.all_map]; rfl
            rw [ea]
            clear e3 hD2 hr2 hl2
            refine ite_n (fun hne2 => ?_) (fun hall => ?_)
            · have e : formedD (namesOf B) (.tuple ds) = false := by
                unfold formedD
                rw [show itemsD (.tuple ds) = ds from rfl, hne2, Bool.false_and, Bool.and_false, Bool.and_false]
              have k0 := k H2 s2
              rw [e] at k0
              exact k0
            · have ht2 := same_t s2 ht
              have hds2 := dpAll_same s2 hds
              refine ⟨_, rfl, t, rfl, ⟨_, ht2⟩, fun D hD => ?_⟩
              refine dc_pure (walk_tup (K := K) (xs := xs)) hD (by omega) (ds.map fun e => (nameD e, V.bl true)) (by rw [List.length_map, xl]) (fun H3 s3 => same_t s3 ht2) (fun i p x H3 H4 k1 k0 hi s3 y q1 => ?_) (fun H3 s3 e3 => ?_)
              · obtain ⟨rfl, hx⟩ := y
                obtain ⟨e, hm1, hte⟩ := dpAll_get hds2 hx
                rw [List.getElem?_map, hm1] at hi
                cases hi
                obtain ⟨te, nm, a, b, va, vb, rfl, rfl, hsq, _⟩ := entryD_parts hte (List.all_eq_true.mp hall e (List.mem_of_getElem? hm1))
                exact ⟨rfl, _, rfl, _, _, 0, _, rfl, rfl, same_t s3 hsq, rfl, q1 _ (Same.refl _)⟩
              · have s5 := s2.trans s3
                obtain ⟨dx5, mt5, nt5, lt5, ms5, ys5, hBi5⟩ := id (hB.same s5)
                refine ⟨_, _, rfl, e3, _, rfl, z, dx5, _, rfl, hBi5.at_, z, B, rfl, hB.same s5, _, rfl, by omega, by omega, rfl, ?_⟩
                have hl := (dictOfS_len (ds.map fun e => (nameD e, V.bl true))).2
                rw [List.length_map, List.map_map] at hl
                have e : (decide (V.int ((dictOfS (ds.map fun e => (nameD e, V.bl true))).length : Nat) = V.int (B.length : Nat))) = formedD (namesOf B) (.tuple ds) := by
                  unfold formedD
                  rw [show itemsD (.tuple ds) = ds from rfl, hall, decide_eq_true (show ds.length = (namesOf B).length by rw [el, nl]), Bool.true_and, Bool.true_and]
                  show _ = (true && _)
                  rw [Bool.true_and]
                  refine decide_eq_decide.mpr ⟨fun q => hl.mp ?_, fun q => ?_⟩
                  · have := V.int.inj q
                    omega
                  · rw [hl.mpr q, el]
                rw [e]
                exact k H3 s5
end
end MH
set_option Elab.async false
set_option linter.all false
set_option maxRecDepth 100000
set_option maxHeartbeats 4000000
namespace MH
open PySem PySem.Spec PyProof.Rows L2
theorem nodup_le : ∀ {l m : List Str}, l.Nodup → (∀ x ∈ l, x ∈ m) → l.length ≤ m.length
  | [], _, _, _ => Nat.zero_le _
  | a :: l, m, nd, h => by
    have ha := h a List.mem_cons_self
    have nd' := List.nodup_cons.mp nd
    have h2 : ∀ x ∈ l, x ∈ m.erase a := fun x hx => (List.mem_erase_of_ne (fun e => nd'.1 (by rw [← e]; exact hx))).mpr (h x (List.mem_cons_of_mem _ hx))
    have := nodup_le nd'.2 h2
    rw [List.length_erase_of_mem ha] at this
    have : 0 < m.length := List.length_pos_of_mem ha
    simp only [List.length_cons]
    omega
theorem nodup_surj {l m : List Str} (nd : l.Nodup) (h : ∀ x ∈ l, x ∈ m) (hl : l.length = m.length) {x : Str} (hx : x ∈ m) : x ∈ l := by
  refine Classical.byContradiction fun z => ?_
  have := nodup_le (l := x :: l) (m := m) (List.nodup_cons.mpr ⟨z, nd⟩) fun y hy => by
    rcases List.mem_cons.mp hy with rfl | hy
    · exact hx
    · exact h y hy
  simp only [List.length_cons] at this
  omega
theorem entryD_nameIn {names : List Str} {e : PyData} (h : entryD names e = true) : nameD e ∈ names := by
  unfold entryD at h
  split at h
  · unfold entry3 at h
    split at h
    · simp only [Bool.and_eq_true] at h
      exact List.contains_iff_mem.mp h.1
    · cases h
  · cases h
/-- a dict made of a paper's entries -/
theorem paper_get {names : List Str} {ds : List PyData} (f : PyData → Option Int) (hf : formedD names (.tuple ds) = true) {x : Str} (hx : x ∈ names) :
    valV (dictOfS (ds.map fun e => (nameD e, nV (f e)))) (Sum.inr x) = some (nV (((ds.find? fun e => nameD e == x).map f).getD none)) := by
  unfold formedD at hf
  simp only [Bool.and_eq_true, itemsD] at hf
  obtain ⟨_, hl, hall, nd⟩ := hf
  have hl := of_decide_eq_true hl
  have nd := of_decide_eq_true nd
  have sub : ∀ y ∈ ds.map nameD, y ∈ names := fun y hy => by
    obtain ⟨e, he, rfl⟩ := List.mem_map.mp hy
    exact entryD_nameIn (List.all_eq_true.mp hall e he)
  obtain ⟨e, he, hne⟩ := List.mem_map.mp (nodup_surj nd sub (by rw [List.length_map, hl]) hx)
  cases hfi : ds.find? fun e => nameD e == x with
  | none =>
    have := List.find?_eq_none.mp hfi e he
    rw [hne] at this
    exact absurd (beq_self_eq_true x) this
  | some e0 =>
    have h0 := List.mem_of_find?_eq_some hfi
    have hn0 : nameD e0 = x := beq_iff_eq.mp (List.find?_some (p := fun e => nameD e == x) hfi)
    refine dictOfS_get _ ?_ ?_
    · rw [List.map_map]
      exact nd
    · rw [← hn0]
      exact List.mem_map_of_mem (f := fun e => (nameD e, nV (f e))) h0
def holdsD (B : List Menu) (g : Str) (least : Option Int) (d : PyData) : Bool := formedD (namesOf B) d && (!belowN (paperTo d (firstOf B)) least && B.all fun m => borneB B (some g) m (paperTo d) (paperHome d))
theorem firstOf_in {B : List Menu} (ok : BoardOk B) : firstOf B ∈ namesOf B := by
  cases B with
  | nil => exact absurd rfl ok.ne
  | cons m B => exact List.mem_cons_self
section
variable {P : Program} {w : World} {K : PySem.W.Frag} {mg : Str → Option Value} {base : Heap}
/-! ### paper_holds of any data -/
def sp_paper_holds (K : PySem.W.Frag) (CB CM : Addr) : Sp := fun vs H Q _ => ∃ (z : Addr) (B : List Menu) (g : Str) (least : Option Int) (v : V) (d : PyData) (dx mt nt lt : Addr) (xs : List V) (ys : List Str), vs = [.ref z, .str g, nV least, v] ∧ BoardIs CB CM H z B dx mt nt lt xs ys ∧ BoardOk B ∧ g ∈ ys ∧ Dp K H v d ∧
  ∀ H', Same H H' → Q (.bl (holdsD B g least d)) H'
theorem sc_paper_holds : FnScope ["board", "goal", "least", "value", "to", "home", "name", "number", "other", "menu"] ["board", "goal", "least", "value"] (defScope s_paper_holds) := ⟨rfl, rfl, rfl, by decide +kernel, rfl, by decide +kernel, by decide +kernel⟩
theorem ok_paper_holds {CB CM : Addr} (G : Glo K mg "paper_holds" s_paper_holds) (T : Blt mg) (OB : ObjC K CB ["menus", "names", "first", "lines"]) (D1 : CalX P w K mg base CX0 1 "need_line" (sp_need_line CB CM)) (D2 : CalX P w K mg base CX0 5 "is_formed" (sp_is_formed K CB CM))
    (D3 : CalX P w K mg base CX0 1 "is_below" sp_is_below) (D4 : CalX P w K mg base CX0 3 "is_borne" (sp_is_borne CB CM)) : CalX P w K mg base CX0 6 "paper_holds" (sp_paper_holds K CB CM) := by
  refine mkCal G sc_paper_holds (fun vs H Q E h => ?_) (fun _ _ _ _ _ _ us hl => match us, hl with | [_, _, _, _], _ => rfl) (fun f cdv A outer s0 H vs Q E hr h => ?_)
  · obtain ⟨z, B, g, least, v, d, _, _, _, _, _, _, rfl, _⟩ := h
    rfl
  · obtain ⟨z, B, g, least, v, d, dx, mt, nt, lt, xs, ys, rfl, hB, ok, hg, hd, k⟩ := h
    have nd := sc_paper_holds.nd
    have hu := hu_of hr
    have few := ok.few
    have nl : (namesOf B).length = B.length := by unfold namesOf; rw [List.length_map]
    refine ⟨_, pss_cons (ps_expr (pe_cal (j := 5) D1 hr (by decide) pass0 (pa_cons (pv 0) (pa_cons (pv 1) pa_nil))))
      (pss_cons (ps_if (pt_not (pt_val (pe_cal (j := 5) D2 hr (by decide) pass0 (pa_cons (pv 0) (pa_cons (pv 3) pa_nil))))) (pss_one (ps_ret pe_bl)) pss_nil)
      (pss_cons (ps_set (i := 4) nd rfl (Or.inr rfl) (pe_dc (tk := tVar 6) (tv := tVar 7) (own := [("name", 6), ("number", 7), ("other", 8)]) (g := gTup K 3 (gCons (gName 6) (gCons (gName 7) (gCons (gName 8) gNil)))) rfl nd (pi_tup (pv 3))
            (blkOk_by (own := [("name", 6), ("number", 7), ("other", 8)]) (N := ["board", "goal", "least", "value", "to", "home", "name", "number", "other", "menu"]) (sc := defScope s_paper_holds) (by decide +kernel)) (fun _ _ _ _ _ => pg_tup rfl (pgs_cons (pg_name (i := 6) nd rfl (Or.inl rfl)) (pgs_cons (pg_name (i := 7) nd rfl (Or.inl rfl)) (pgs_cons (pg_name (i := 8) nd rfl (Or.inl rfl)) pgs_nil)))) (fun _ _ _ _ _ => pts_nil) (fun _ _ _ _ _ => pv 6) (fun _ _ _ _ _ => pv 7)))
      (pss_cons (ps_set (i := 5) nd rfl (Or.inr rfl) (pe_dc (tk := tVar 6) (tv := tVar 7) (own := [("name", 6), ("other", 8), ("number", 7)]) (g := gTup K 3 (gCons (gName 6) (gCons (gName 8) (gCons (gName 7) gNil)))) rfl nd (pi_tup (pv 3))
            (blkOk_by (own := [("name", 6), ("other", 8), ("number", 7)]) (N := ["board", "goal", "least", "value", "to", "home", "name", "number", "other", "menu"]) (sc := defScope s_paper_holds) (by decide +kernel)) (fun _ _ _ _ _ => pg_tup rfl (pgs_cons (pg_name (i := 6) nd rfl (Or.inl rfl)) (pgs_cons (pg_name (i := 8) nd rfl (Or.inl rfl)) (pgs_cons (pg_name (i := 7) nd rfl (Or.inl rfl)) pgs_nil)))) (fun _ _ _ _ _ => pts_nil) (fun _ _ _ _ _ => pv 6) (fun _ _ _ _ _ => pv 7)))
      (pss_cons (ps_if (pt_val (pe_cal (j := 5) D3 hr (by decide) pass0 (pa_cons (pe_dget hu (pv 4) (pe_fld (pv 0) (by rfl)) (fun _ _ => rfl)) (pa_cons (pv 2) pa_nil)))) (pss_one (ps_ret pe_bl)) pss_nil)
      (pss_one (ps_ret (pe_callB (cr_all rfl) (by rfl) T.all (by decide +kernel) (pa_cons (pe_lc (te := tCall (sp_is_borne CB CM) [] E0 (tCons (tVar 0) (tCons (tVar 1) (tCons (tVar 9) (tCons (tVar 4) (tCons (tVar 5) tNil)))))) (own := [("menu", 9)]) (g := gName 9) rfl nd (pi_tup (pe_fld (pv 0) (by rfl)))
            (blkOk_by (own := [("menu", 9)]) (N := ["board", "goal", "least", "value", "to", "home", "name", "number", "other", "menu"]) (sc := defScope s_paper_holds) (by decide +kernel)) (fun _ _ _ _ _ => pg_name (i := 9) nd rfl (Or.inl rfl)) (fun _ _ _ _ _ => pts_nil)
            (fun _ _ _ _ _ => pe_cal (j := 5) D4 (hr.mono (by decide)) (by decide) pass0 (pa_cons (pv 0) (pa_cons (pv 1) (pa_cons (pv 9) (pa_cons (pv 4) (pa_cons (pv 5) pa_nil))))))) pa_nil)))))))), ?_⟩
    refine ⟨_, rfl, _, rfl, z, B, g, dx, mt, nt, lt, xs, ys, rfl, hB, hg, fun H1 s1 => ?_⟩
    refine ⟨_, rfl, _, rfl, z, B, v, d, rfl, BoardAt.same s1 ⟨_, _, _, _, _, _, hB⟩, ok, dp_same s1 hd, fun H2 s2 => ⟨_, rfl, ite_n (fun hf => ?_) (fun hf => ?_)⟩⟩
    · have e : holdsD B g least d = false := by
        unfold holdsD
        rw [hf, Bool.false_and]
      have k0 := k H2 (s1.trans s2)
      rw [e] at k0
      exact k0
    · have s12 := s1.trans s2
      have hd2 := dp_same s12 hd
      have ht : ∃ ds, d = .tuple ds := by
        unfold formedD at hf
        cases d <;> first | exact ⟨_, rfl⟩ | cases hf
      obtain ⟨ds, rfl⟩ := ht
      have hf0 := hf
      unfold formedD at hf0
      simp only [Bool.and_eq_true, itemsD] at hf0
      obtain ⟨_, hl, hall, ndn⟩ := hf0
      have hl := of_decide_eq_true hl
      have ndn := of_decide_eq_true ndn
      cases hd2 with
      | @tup t es _ ht hds =>
        have xl := dpAll_len hds
        -- to
        refine ⟨_, rfl, t, rfl, ⟨_, ht⟩, fun D hD => ?_⟩
        refine dc_pure (walk_tup (K := K) (xs := es)) hD (by omega) (ds.map fun e => (nameD e, nV (toD e))) (by rw [List.length_map, xl]) (fun H3 s3 => same_t s3 ht) (fun i p x H3 H4 k1 k0 hi s3 y q1 => ?_) (fun H3 s3 e3 => ?_)
        · obtain ⟨rfl, hx⟩ := y
          obtain ⟨e, hm1, hte⟩ := dpAll_get hds hx
          rw [List.getElem?_map, hm1] at hi
          cases hi
          obtain ⟨te, nm, a, b, va, vb, rfl, rfl, hsq, pa, pb, _, ca, cb⟩ := entryD_parts hte (List.all_eq_true.mp hall e (List.mem_of_getElem? hm1))
          have ea := countD_num pa ca
          subst ea
          exact ⟨te, _, rfl, same_t s3 hsq, rfl, _, _, rfl, _, _, rfl, _, _, rfl, rfl, rfl, _, rfl, _, rfl, q1 _ (Same.refl _)⟩
        · have nt1 : NumAt B H3 D (paperTo (.tuple ds)) := ⟨_, e3, fun x hx => paper_get toD hf hx, by have := (dictOfS_len (ds.map fun e => (nameD e, nV (toD e)))).1; rw [List.length_map] at this; omega⟩
          have ht3 := same_t s3 ht
          have hds3 := dpAll_same s3 hds
          -- home
          refine ⟨_, rfl, t, rfl, ⟨_, ht3⟩, fun D2 hD2 => ?_⟩
          refine dc_pure (walk_tup (K := K) (xs := es)) hD2 (by omega) (ds.map fun e => (nameD e, nV (homeD e))) (by rw [List.length_map, xl]) (fun H5 s5 => same_t s5 ht3) (fun i p x H5 H6 k1 k0 hi s5 y q1 => ?_) (fun H5 s5 e5 => ?_)
          · obtain ⟨rfl, hx⟩ := y
            obtain ⟨e, hm1, hte⟩ := dpAll_get hds3 hx
            rw [List.getElem?_map, hm1] at hi
            cases hi
            obtain ⟨te, nm, a, b, va, vb, rfl, rfl, hsq, pa, pb, _, ca, cb⟩ := entryD_parts hte (List.all_eq_true.mp hall e (List.mem_of_getElem? hm1))
            have ea := countD_num pb cb
            subst ea
            exact ⟨te, _, rfl, same_t s5 hsq, rfl, _, _, rfl, _, _, rfl, _, _, rfl, rfl, rfl, _, rfl, _, rfl, q1 _ (Same.refl _)⟩
          · have nt2 : NumAt B H5 D2 (paperHome (.tuple ds)) := ⟨_, e5, fun x hx => paper_get homeD hf hx, by have := (dictOfS_len (ds.map fun e => (nameD e, nV (homeD e)))).1; rw [List.length_map] at this; omega⟩
            have nt1 := nt1.same s5
            have s6 := (s12.trans s3).trans s5
            have hB6 : BoardIs CB CM H5 z B dx mt nt lt xs ys := hB.mono (Fr := fun _ => True) trivial trivial (Fz.of s6)
            refine ⟨_, rfl, _, rfl, z, CB, dx, _, _, rfl, hB6.at_, OB.cls, OB.no _ (by simp), rfl, D, _, rfl, nt1.get (firstOf_in ok), _, rfl, _, _, rfl, _, rfl, ite_b (fun b1 => ?_) (fun b1 => ?_)⟩
            · have e : holdsD B g least (.tuple ds) = false := by
                unfold holdsD
                rw [b1, Bool.not_true, Bool.false_and, Bool.and_false]
              have k0 := k H5 s6
              rw [e] at k0
              exact k0
            · refine ⟨_, rfl, z, CB, dx, _, _, rfl, hB6.at_, OB.cls, OB.no _ (by simp), rfl, mt, rfl, ⟨_, sqT hB6.menus⟩, fun L hL => ?_⟩
              have ml := Paired.length hB6.pmenus
              refine lc_pure (Fr := fun _ => False) (walk_tup (K := K) (xs := xs)) hL (by omega) (fun i o _ => o = ((B.map fun m => borneB B (some g) m (paperTo (.tuple ds)) (paperHome (.tuple ds))).map V.bl)[i]?) (fun _ _ _ _ _ z => z)
                (fun H7 s7 => sqT (s7 _ _ hB6.menus)) (fun i x H7 H8 k1 k0 hi s7 y q1 q0 => ?_) (fun H7 os s7 hl7 hr7 hD7 => ?_)
              · obtain ⟨rfl, hx⟩ := y
                obtain ⟨m, hm1, am, rfl, hM⟩ := paired_getL hB6.pmenus hx
                refine ⟨rfl, _, rfl, _, rfl, _, rfl, _, rfl, _, rfl, z, am, D, D2, B, m, some g, _, _, rfl, BoardAt.same s7 ⟨_, _, _, _, _, _, hB6⟩, ok, List.mem_of_getElem? hm1, hM.same s7, nt1.same s7, nt2.same s7, fun H9 s9 => q1 _ _ s9 ?_⟩
                rw [List.getElem?_map, List.getElem?_map, hm1]
                rfl
              · have e7 : H7 L = some (.lst ((B.map fun m => borneB B (some g) m (paperTo (.tuple ds)) (paperHome (.tuple ds))).map V.bl)) := by
                  rw [hD7, os_vals (by rw [hl7, List.length_map, List.length_map, ml]) hr7]
                refine ⟨L, _, rfl, sqL e7, ?_⟩
                have ea : (B.map fun m => borneB B (some g) m (paperTo (.tuple ds)) (paperHome (.tuple ds))).all id = holdsD B g least (.tuple ds) := by
                  unfold holdsD
                  rw [hf, b1, List.all_map]
                  rfl
                rw [ea]
                exact k H7 (s6.trans s7)
end
end MH
set_option Elab.async false
set_option linter.all false
set_option maxRecDepth 100000
set_option maxHeartbeats 4000000
namespace MH
open PySem PySem.Spec PyProof.Rows L2
/-! ### the law's own sums: turn by turn -/
def lawStep (f0 : Str) (line : Option Str) (x : Str) (s : SState) (st : Step) : SState :=
  { s with to := setN s.to x (lesserN (s.to x) (plusN (some st.1) (toldTo f0 x s.to s.home line st.2.2))), home := setN s.home x (lesserN (s.home x) (plusN (some st.1) (toldHome x s.home st.2.2))) }
def lawMenu (f0 : Str) (line : Option Str) (s : SState) (m : Menu) : SState := m.steps.foldl (lawStep f0 line m.name) s
def lawTurn (line : Option Str) (B : List Menu) (s : SState) : SState := B.foldl (lawMenu (firstOf B) line) s
def lawIt (line : Option Str) (B : List Menu) : Nat → SState
  | 0 => sums0
  | n + 1 => lawTurn line B (lawIt line B n)
def pairsOf (B : List Menu) : List (Str × Step) := B.flatMap fun m => m.steps.map fun st => (m.name, st)
def pStep (f0 : Str) (line : Option Str) (s : SState) (p : Str × Step) : SState := lawStep f0 line p.1 s p.2
theorem foldl_flat {α β γ : Type} (f : α → List β) (g : γ → β → γ) : ∀ (l : List α) (z : γ), (l.flatMap f).foldl g z = l.foldl (fun z a => (f a).foldl g z) z
  | [], _ => rfl
  | a :: l, z => by
    rw [List.flatMap_cons, List.foldl_append, List.foldl_cons, foldl_flat f g l]
theorem turn_pairs (line : Option Str) (B : List Menu) (s : SState) : lawTurn line B s = (pairsOf B).foldl (pStep (firstOf B) line) s := by
  unfold pairsOf
  rw [foldl_flat]
  unfold lawTurn
  congr 1
  funext z m
  rw [List.foldl_map]
  rfl
def PairOk (B : List Menu) (line : Option Str) (s : SState) (p : Str × Step) : Prop := leN (s.to p.1) (plusN (some p.2.1) (toldTo (firstOf B) p.1 s.to s.home line p.2.2.2)) ∧ leN (s.home p.1) (plusN (some p.2.1) (toldHome p.1 s.home p.2.2.2))
def ClosedT (line : Option Str) (B : List Menu) (s : SState) : Prop := ∀ p ∈ pairsOf B, PairOk B line s p
theorem pair_in {B : List Menu} (ok : BoardOk B) {p : Str × Step} (h : p ∈ pairsOf B) : p.1 ∈ namesOf B ∧ ∀ y ∈ p.2.2.2.names, y ∈ namesOf B := by
  obtain ⟨m, hm, h2⟩ := List.mem_flatMap.mp h
  obtain ⟨st, hst, rfl⟩ := List.mem_map.mp h2
  exact ⟨List.mem_map_of_mem hm, steps_names ok hm st hst⟩
theorem lesser_le_l (a b : Option Int) : leN (lesserN a b) a := by
  cases a <;> cases b <;> simp only [lesserN, leN, belowN] <;> first | rfl | (simp; try split <;> omega)
theorem lesser_le_r (a b : Option Int) : leN (lesserN a b) b := by
  cases a <;> cases b <;> simp only [lesserN, leN, belowN] <;> first | rfl | (simp; try split <;> omega)
theorem le_lesser {x a b : Option Int} (h : leN x a) (k : leN x b) : leN x (lesserN a b) := by
  have := leN_lesser h k
  cases x <;> simpa [lesserN] using this
theorem LeS.refl (B : List Menu) (s : SState) : LeS B s s := ⟨fun _ _ => leN.refl _, fun _ _ => leN.refl _⟩
theorem LeS.trans {B : List Menu} {a b c : SState} (h : LeS B a b) (k : LeS B b c) : LeS B a c := ⟨fun x hx => (h.to x hx).trans (k.to x hx), fun x hx => (h.home x hx).trans (k.home x hx)⟩
section
variable {B : List Menu} {line : Option Str} {F s : SState}
theorem step_down (p : Str × Step) : LeS B (pStep (firstOf B) line s p) s := by
  refine ⟨fun x _ => ?_, fun x _ => ?_⟩
  · show leN (setN s.to p.1 _ x) (s.to x)
    by_cases e : x = p.1
    · rw [e, setN_self]; exact lesser_le_l _ _
    · rw [setN_ne e]; exact leN.refl _
  · show leN (setN s.home p.1 _ x) (s.home x)
    by_cases e : x = p.1
    · rw [e, setN_self]; exact lesser_le_l _ _
    · rw [setN_ne e]; exact leN.refl _
theorem step_up (ok : BoardOk B) (h : LeS B F s) {p : Str × Step} (hp : p ∈ pairsOf B) (c : PairOk B line F p) : LeS B F (pStep (firstOf B) line s p) := by
  obtain ⟨h1, h2⟩ := pair_in ok hp
  refine ⟨fun x hx => ?_, fun x hx => ?_⟩
  · show leN (F.to x) (setN s.to p.1 _ x)
    by_cases e : x = p.1
    · rw [e, setN_self]
      exact le_lesser (h.to _ h1) (c.1.trans (leN_plus (leN.refl _) (le_toldTo ok h h1 h2)))
    · rw [setN_ne e]; exact h.to x hx
  · show leN (F.home x) (setN s.home p.1 _ x)
    by_cases e : x = p.1
    · rw [e, setN_self]
      exact le_lesser (h.home _ h1) (c.2.trans (leN_plus (leN.refl _) (le_toldHome h h1 h2)))
    · rw [setN_ne e]; exact h.home x hx
theorem fold_down : ∀ (l : List (Str × Step)) (s : SState), LeS B (l.foldl (pStep (firstOf B) line) s) s
  | [], s => LeS.refl B s
  | p :: l, s => (fold_down l _).trans (step_down p)
theorem fold_up (ok : BoardOk B) (c : ClosedT line B F) : ∀ (l : List (Str × Step)) (s : SState), (∀ p ∈ l, p ∈ pairsOf B) → LeS B F s → LeS B F (l.foldl (pStep (firstOf B) line) s)
  | [], _, _, h => h
  | p :: l, s, hl, h => fold_up ok c l _ (fun q hq => hl q (List.mem_cons_of_mem _ hq)) (step_up ok h (hl p List.mem_cons_self) (c p (hl p List.mem_cons_self)))
theorem hit_to (ok : BoardOk B) (c : ClosedT line B F) {p : Str × Step} {x : Str} (hx : x ∈ namesOf B) : ∀ (l : List (Str × Step)) (z : SState), (∀ p ∈ l, p ∈ pairsOf B) → p ∈ l → LeS B F z → (∀ u, LeS B F u → LeS B u z → (pStep (firstOf B) line u p).to x = F.to x) → (l.foldl (pStep (firstOf B) line) z).to x = F.to x
  | [], _, _, hp, _, _ => by cases hp
  | q :: l, z, hl, hp, hz, hit => by
    have hz2 := step_up ok hz (hl q List.mem_cons_self) (c q (hl q List.mem_cons_self))
    have hl2 : ∀ p ∈ l, p ∈ pairsOf B := fun p hp => hl p (List.mem_cons_of_mem _ hp)
    rcases List.mem_cons.mp hp with rfl | hp
    · have e := hit z hz (LeS.refl B z)
      have d := (fold_down (line := line) l (pStep (firstOf B) line z p)).to x hx
      rw [e] at d
      exact d.anti ((fold_up ok c l _ hl2 hz2).to x hx)
    · exact hit_to ok c hx l _ hl2 hp hz2 fun u h1 h2 => hit u h1 (h2.trans (step_down q))
theorem hit_home (ok : BoardOk B) (c : ClosedT line B F) {p : Str × Step} {x : Str} (hx : x ∈ namesOf B) : ∀ (l : List (Str × Step)) (z : SState), (∀ p ∈ l, p ∈ pairsOf B) → p ∈ l → LeS B F z → (∀ u, LeS B F u → LeS B u z → (pStep (firstOf B) line u p).home x = F.home x) → (l.foldl (pStep (firstOf B) line) z).home x = F.home x
  | [], _, _, hp, _, _ => by cases hp
  | q :: l, z, hl, hp, hz, hit => by
    have hz2 := step_up ok hz (hl q List.mem_cons_self) (c q (hl q List.mem_cons_self))
    have hl2 : ∀ p ∈ l, p ∈ pairsOf B := fun p hp => hl p (List.mem_cons_of_mem _ hp)
    rcases List.mem_cons.mp hp with rfl | hp
    · have e := hit z hz (LeS.refl B z)
      have d := (fold_down (line := line) l (pStep (firstOf B) line z p)).home x hx
      rw [e] at d
      exact d.anti ((fold_up ok c l _ hl2 hz2).home x hx)
    · exact hit_home ok c hx l _ hl2 hp hz2 fun u h1 h2 => hit u h1 (h2.trans (step_down q))
end
/-! ### one number more is at its end -/
def bump (f s : Option Int) : Option Int := if s = f then f else f.map (· + 1)
theorem le_bump {f s : Option Int} : leN f (bump f s) := by
  unfold bump
  split
  · exact leN.refl _
  · cases f with
    | none => exact leN.refl _
    | some v => exact leN_some.mpr (show v ≤ v + 1 by omega)
/-- f: a number at its end; c: it, or one more; u: a number between -/
def RelN (f c u : Option Int) : Prop := (c = f ∧ u = f) ∨ ∃ v, f = some v ∧ c = some (v + 1)
theorem rel_of {f s u : Option Int} (h1 : leN f s) (h2 : leN f u) (h3 : leN u s) : RelN f (bump f s) u := by
  unfold bump
  by_cases e : s = f
  · rw [if_pos e]
    rw [e] at h3
    exact .inl ⟨rfl, h3.anti h2⟩
  · rw [if_neg e]
    cases f with
    | none => exact absurd (none_leN h1) e
    | some v => exact .inr ⟨v, rfl, rfl⟩
theorem rel_one {f c u : Option Int} {r : Int} (h : RelN f c u) (hc : c = some r) (hf : f = some r) : leN u (some r) := by
  rcases h with ⟨_, e⟩ | ⟨v, e1, e2⟩
  · rw [e, hf]; exact leN.refl _
  · have a1 := Option.some.inj (hf.symm.trans e1)
    have a2 := Option.some.inj (hc.symm.trans e2)
    omega
theorem rel_plus {f c u f2 c2 u2 : Option Int} {r : Int} (h : RelN f c u) (h2 : RelN f2 c2 u2) (hc : plusN c c2 = some r) (hf : plusN f f2 = some r) : leN (plusN u u2) (some r) := by
  rcases h with ⟨rfl, rfl⟩ | ⟨v, rfl, rfl⟩ <;> rcases h2 with ⟨rfl, rfl⟩ | ⟨v2, rfl, rfl⟩
  · rw [hc]; exact leN.refl _
  · cases u with
    | none => cases hc
    | some a =>
      simp only [plusN, Option.some.injEq] at hc hf
      omega
  · cases u2 with
    | none => cases hc
    | some a =>
      simp only [plusN, Option.some.injEq] at hc hf
      omega
  · simp only [plusN, Option.some.injEq] at hc hf
    omega
theorem rel_lesser {f c u f2 c2 u2 f3 c3 u3 : Option Int} {r : Int} (h : RelN f c u) (h2 : RelN f2 c2 u2) (h3 : RelN f3 c3 u3) (hc : lesserN c (plusN c2 c3) = some r) (hf : lesserN f (plusN f2 f3) = some r) : leN (lesserN u (plusN u2 u3)) (some r) := by
  have alt : (c = some r ∧ f = some r) ∨ (plusN c2 c3 = some r ∧ plusN f2 f3 = some r) := by
    have l1 := lesser_le_l f (plusN f2 f3)
    have l2 := lesser_le_r f (plusN f2 f3)
    rw [hf] at l1 l2
    have g1 : leN f c := by
      rcases h with ⟨rfl, _⟩ | ⟨v, rfl, rfl⟩
      · exact leN.refl _
      · exact leN_some.mpr (by omega)
    have g2 : leN f2 c2 := by
      rcases h2 with ⟨rfl, _⟩ | ⟨v, rfl, rfl⟩
      · exact leN.refl _
      · exact leN_some.mpr (by omega)
    have g3 : leN f3 c3 := by
      rcases h3 with ⟨rfl, _⟩ | ⟨v, rfl, rfl⟩
      · exact leN.refl _
      · exact leN_some.mpr (by omega)
    have g23 := leN_plus g2 g3
    have pick : c = some r ∨ plusN c2 c3 = some r := by
      cases c with
      | none => exact .inr hc
      | some a =>
        cases e : plusN c2 c3 with
        | none => rw [e] at hc; exact .inl hc
        | some b =>
          rw [e] at hc
          simp only [lesserN, Option.some.injEq] at hc
          split at hc
          · exact .inr (by rw [hc])
          · exact .inl (by rw [hc])
    rcases pick with e | e
    · exact .inl ⟨e, (by rw [e] at g1; exact g1.anti l1)⟩
    · exact .inr ⟨e, (by rw [e] at g23; exact g23.anti l2)⟩
  rcases alt with ⟨a, b⟩ | ⟨a, b⟩
  · exact (lesser_le_l _ _).trans (rel_one h a b)
  · exact (lesser_le_r _ _).trans (rel_plus h2 h3 a b)
def cOf (F s : SState) : SState := { sums0 with to := fun x => bump (F.to x) (s.to x), home := fun x => bump (F.home x) (s.home x) }
section
variable {B : List Menu} {line : Option Str} {F s u : SState}
theorem rel_toldTo (ok : BoardOk B) (h1 : LeS B F s) (h2 : LeS B F u) (h3 : LeS B u s) {x : Str} {a : Act} {r : Int} (hx : x ∈ namesOf B) (hn : ∀ y ∈ a.names, y ∈ namesOf B)
    (hc : toldTo (firstOf B) x (cOf F s).to (cOf F s).home line a = some r) (hf : toldTo (firstOf B) x F.to F.home line a = some r) : leN (toldTo (firstOf B) x u.to u.home line a) (some r) := by
  have rt : ∀ y ∈ namesOf B, RelN (F.to y) ((cOf F s).to y) (u.to y) := fun y hy => rel_of (h1.to y hy) (h2.to y hy) (h3.to y hy)
  have rh : ∀ y ∈ namesOf B, RelN (F.home y) ((cOf F s).home y) (u.home y) := fun y hy => rel_of (h1.home y hy) (h2.home y hy) (h3.home y hy)
  cases a with
  | line y =>
    have e : toldTo (firstOf B) x u.to u.home line (.line y) = some r := hf
    rw [e]; exact leN.refl _
  | out => cases hf
  | back => cases hf
  | again => exact rel_one (rt x hx) hc hf
  | main => exact rel_one (rt _ (first_mem ok)) hc hf
  | go m => exact rel_one (rt m (hn m (by simp [Act.names]))) hc hf
  | call m t => exact rel_lesser (rt m (hn m (by simp [Act.names]))) (rh m (hn m (by simp [Act.names]))) (rt t (hn t (by simp [Act.names]))) hc hf
theorem rel_toldHome (h1 : LeS B F s) (h2 : LeS B F u) (h3 : LeS B u s) {x : Str} {a : Act} {r : Int} (hx : x ∈ namesOf B) (hn : ∀ y ∈ a.names, y ∈ namesOf B)
    (hc : toldHome x (cOf F s).home a = some r) (hf : toldHome x F.home a = some r) : leN (toldHome x u.home a) (some r) := by
  have rh : ∀ y ∈ namesOf B, RelN (F.home y) ((cOf F s).home y) (u.home y) := fun y hy => rel_of (h1.home y hy) (h2.home y hy) (h3.home y hy)
  cases a with
  | line y => cases hf
  | out => cases hf
  | main => cases hf
  | back =>
    have e : toldHome x u.home Act.back = some r := hf
    rw [e]; exact leN.refl _
  | again => exact rel_one (rh x hx) hc hf
  | go m => exact rel_one (rh m (hn m (by simp [Act.names]))) hc hf
  | call m t => exact rel_plus (rh m (hn m (by simp [Act.names]))) (rh t (hn t (by simp [Act.names]))) hc hf
def AtEnd (B : List Menu) (F s : SState) : Prop := ∀ x ∈ namesOf B, s.to x = F.to x ∧ s.home x = F.home x
/-- what is told, where one more would be too much -/
theorem one_more {f s told tc : Option Int} {k : Int} (h1 : leN f s) (hf : leN f (plusN (some k) told)) (ht : leN told tc) (hb : belowN (plusN (some k) tc) (bump f s) = true) : s ≠ f ∧ ∃ r, tc = some r ∧ told = some r ∧ f = some (k + r) := by
  obtain ⟨w, e1, e2⟩ := below_some hb
  cases tc with
  | none => cases e1
  | some r =>
    have e1' : k + r = w := by simpa [plusN] using e1
    have l1 := hf.trans (leN_plus (leN.refl (some k)) ht)
    cases f with
    | none =>
      have := none_leN l1
      cases this
    | some v =>
      have l2 : v ≤ k + r := leN_some.mp l1
      unfold bump at e2
      by_cases e : s = some v
      · rw [if_pos e] at e2
        rcases e2 with e2 | ⟨z, e2, e3⟩
        · cases e2
        · cases e2; omega
      · rw [if_neg e] at e2
        rcases e2 with e2 | ⟨z, e2, e3⟩
        · cases e2
        · have e2' : v + 1 = z := by simpa using e2
          refine ⟨e, r, rfl, ?_, by congr 1; omega⟩
          cases told with
          | none =>
            have := none_leN ht
            cases this
          | some q =>
            have l3 : q ≤ r := leN_some.mp ht
            have l4 : v ≤ k + q := leN_some.mp hf
            congr 1
            omega
theorem lesser_end {f u t : Option Int} (h : leN f u) (h2 : leN f t) (h3 : leN t f) : lesserN u t = f := by
  have e := h3.anti h2
  rw [e]
  exact (lesser_le_r u f).anti (le_lesser h (leN.refl f))
theorem progress (ok : BoardOk B) (c : ClosedT line B F) (gr : ∀ t, ClosedT line B t → LeS B t F) (h : LeS B F s) : AtEnd B F s ∨ ∃ x ∈ namesOf B, (s.to x ≠ F.to x ∧ (lawTurn line B s).to x = F.to x) ∨ (s.home x ≠ F.home x ∧ (lawTurn line B s).home x = F.home x) := by
  have hc : LeS B F (cOf F s) := ⟨fun _ _ => le_bump, fun _ _ => le_bump⟩
  by_cases cl : ClosedT line B (cOf F s)
  · refine .inl fun x hx => ?_
    have l := gr _ cl
    have back : ∀ {f v : Option Int}, leN f v → leN (bump f v) f → v = f := fun {f v} h1 h2 => by
      refine Classical.byContradiction fun e => ?_
      unfold bump at h2
      rw [if_neg e] at h2
      cases f with
      | none => exact e (none_leN h1)
      | some a =>
        have : a + 1 ≤ a := leN_some.mp h2
        omega
    exact ⟨back (h.to x hx) (l.to x hx), back (h.home x hx) (l.home x hx)⟩
  · right
    have cl2 : ∃ p, p ∈ pairsOf B ∧ ¬ PairOk B line (cOf F s) p := Classical.byContradiction fun z => cl fun p hp => Classical.byContradiction fun w => z ⟨p, hp, w⟩
    obtain ⟨p, hp, hno⟩ := cl2
    obtain ⟨h1, h2⟩ := pair_in ok hp
    have sub : ∀ p ∈ pairsOf B, p ∈ pairsOf B := fun _ h => h
    by_cases ht : leN ((cOf F s).to p.1) (plusN (some p.2.1) (toldTo (firstOf B) p.1 (cOf F s).to (cOf F s).home line p.2.2.2))
    · have hh : ¬ leN ((cOf F s).home p.1) (plusN (some p.2.1) (toldHome p.1 (cOf F s).home p.2.2.2)) := fun z => hno ⟨ht, z⟩
      have hb : belowN (plusN (some p.2.1) (toldHome p.1 (cOf F s).home p.2.2.2)) (bump (F.home p.1) (s.home p.1)) = true := by
        cases e : belowN (plusN (some p.2.1) (toldHome p.1 (cOf F s).home p.2.2.2)) (bump (F.home p.1) (s.home p.1)) with
        | true => rfl
        | false => exact absurd e hh
      obtain ⟨ne, r, e1, e2, e3⟩ := one_more (h.home _ h1) (c p hp).2 (le_toldHome hc h1 h2) hb
      refine ⟨p.1, h1, .inr ⟨ne, ?_⟩⟩
      rw [turn_pairs]
      refine hit_home ok c h1 _ s sub hp h fun u hu1 hu2 => ?_
      show setN u.home p.1 _ p.1 = _
      rw [setN_self]
      refine lesser_end (hu1.home _ h1) ((c p hp).2.trans (leN_plus (leN.refl _) (le_toldHome hu1 h1 h2))) ?_
      rw [e3]
      exact leN_plus (leN.refl (some p.2.1)) (rel_toldHome h hu1 hu2 h1 h2 e1 e2)
    · have hb : belowN (plusN (some p.2.1) (toldTo (firstOf B) p.1 (cOf F s).to (cOf F s).home line p.2.2.2)) (bump (F.to p.1) (s.to p.1)) = true := by
        cases e : belowN (plusN (some p.2.1) (toldTo (firstOf B) p.1 (cOf F s).to (cOf F s).home line p.2.2.2)) (bump (F.to p.1) (s.to p.1)) with
        | true => rfl
        | false => exact absurd e ht
      obtain ⟨ne, r, e1, e2, e3⟩ := one_more (h.to _ h1) (c p hp).1 (le_toldTo ok hc h1 h2) hb
      refine ⟨p.1, h1, .inl ⟨ne, ?_⟩⟩
      rw [turn_pairs]
      refine hit_to ok c h1 _ s sub hp h fun u hu1 hu2 => ?_
      show setN u.to p.1 _ p.1 = _
      rw [setN_self]
      refine lesser_end (hu1.to _ h1) ((c p hp).1.trans (leN_plus (leN.refl _) (le_toldTo ok hu1 h1 h2))) ?_
      rw [e3]
      exact leN_plus (leN.refl (some p.2.1)) (rel_toldTo ok h hu1 hu2 h1 h2 e1 e2)
end
end MH
set_option Elab.async false
set_option linter.all false
set_option maxRecDepth 100000
set_option maxHeartbeats 4000000
namespace MH
open PySem PySem.Spec PyProof.Rows L2
/-! ### sixty turns are enough -/
theorem filt_le {α : Type} {p q : α → Bool} : ∀ {l : List α}, (∀ x ∈ l, p x = true → q x = true) → (l.filter p).length ≤ (l.filter q).length
  | [], _ => Nat.le_refl _
  | x :: l, h => by
    have t := filt_le (l := l) fun y hy => h y (List.mem_cons_of_mem _ hy)
    rw [List.filter_cons, List.filter_cons]
    cases e : p x with
    | true => rw [h x List.mem_cons_self e]; simp; exact t
    | false =>
      cases q x with
      | true => simp; omega
      | false => simpa using t
theorem filt_lt {α : Type} {p q : α → Bool} {a : α} : ∀ {l : List α}, (∀ x ∈ l, p x = true → q x = true) → a ∈ l → p a = false → q a = true → (l.filter p).length + 1 ≤ (l.filter q).length
  | [], _, h, _, _ => by cases h
  | x :: l, h, ha, hp, hq => by
    have h2 : ∀ y ∈ l, p y = true → q y = true := fun y hy => h y (List.mem_cons_of_mem _ hy)
    rw [List.filter_cons, List.filter_cons]
    rcases List.mem_cons.mp ha with rfl | ha
    · rw [hp, hq]
      have := filt_le h2
      simp
      omega
    · have t := filt_lt h2 ha hp hq
      cases e : p x with
      | true => rw [h x List.mem_cons_self e]; simp; omega
      | false =>
        cases q x with
        | true => simp; omega
        | false => simpa using t
section
variable {B : List Menu} {line : Option Str} {F s : SState}
/-- how many numbers are not at their end -/
def open_ (B : List Menu) (F s : SState) : Nat := ((namesOf B).filter fun x => !decide (s.to x = F.to x)).length + ((namesOf B).filter fun x => !decide (s.home x = F.home x)).length
theorem open_le (ok : BoardOk B) : open_ B F s ≤ 40 := by
  have h1 := List.length_filter_le (fun x => !decide (s.to x = F.to x)) (namesOf B)
  have h2 := List.length_filter_le (fun x => !decide (s.home x = F.home x)) (namesOf B)
  have := ok.few
  unfold open_
  have e : (namesOf B).length = B.length := by unfold namesOf; rw [List.length_map]
  omega
theorem turn_down (s : SState) : LeS B (lawTurn line B s) s := by
  rw [turn_pairs]
  exact fold_down _ _
theorem turn_up (ok : BoardOk B) (c : ClosedT line B F) (h : LeS B F s) : LeS B F (lawTurn line B s) := by
  rw [turn_pairs]
  exact fold_up ok c _ _ (fun _ h => h) h
theorem turn_open (ok : BoardOk B) (c : ClosedT line B F) (gr : ∀ t, ClosedT line B t → LeS B t F) (h : LeS B F s) : AtEnd B F s ∨ open_ B F (lawTurn line B s) + 1 ≤ open_ B F s := by
  rcases progress ok c gr h with e | ⟨x, hx, e⟩
  · exact .inl e
  · right
    have d := turn_down (B := B) (line := line) s
    have u := turn_up ok c h
    have kt : ∀ y ∈ namesOf B, (!decide ((lawTurn line B s).to y = F.to y)) = true → (!decide (s.to y = F.to y)) = true := fun y hy z => by
      by_cases e : s.to y = F.to y
      · have l := d.to y hy
        rw [e] at l
        rw [decide_eq_true (l.anti (u.to y hy))] at z
        cases z
      · rw [decide_eq_false e]; rfl
    have kh : ∀ y ∈ namesOf B, (!decide ((lawTurn line B s).home y = F.home y)) = true → (!decide (s.home y = F.home y)) = true := fun y hy z => by
      by_cases e : s.home y = F.home y
      · have l := d.home y hy
        rw [e] at l
        rw [decide_eq_true (l.anti (u.home y hy))] at z
        cases z
      · rw [decide_eq_false e]; rfl
    unfold open_
    rcases e with ⟨e1, e2⟩ | ⟨e1, e2⟩
    · have a := filt_lt kt hx (by rw [decide_eq_true e2]; rfl) (by rw [decide_eq_false e1]; rfl)
      have b := filt_le kh
      omega
    · have a := filt_le kt
      have b := filt_lt kh hx (by rw [decide_eq_true e2]; rfl) (by rw [decide_eq_false e1]; rfl)
      omega
theorem end_stays (ok : BoardOk B) (c : ClosedT line B F) (h : LeS B F s) (e : AtEnd B F s) : AtEnd B F (lawTurn line B s) := fun x hx => by
  have d := turn_down (B := B) (line := line) s
  have u := turn_up ok c h
  have l1 := d.to x hx
  have l2 := d.home x hx
  rw [(e x hx).1] at l1
  rw [(e x hx).2] at l2
  exact ⟨l1.anti (u.to x hx), l2.anti (u.home x hx)⟩
theorem it_le (ok : BoardOk B) (c : ClosedT line B F) : ∀ n, LeS B F (lawIt line B n)
  | 0 => ⟨fun _ _ => leN_none, fun _ _ => leN_none⟩
  | n + 1 => turn_up ok c (it_le ok c n)
theorem it_open (ok : BoardOk B) (c : ClosedT line B F) (gr : ∀ t, ClosedT line B t → LeS B t F) : ∀ n, AtEnd B F (lawIt line B n) ∨ open_ B F (lawIt line B n) + n ≤ 40
  | 0 => .inr (open_le ok)
  | n + 1 => by
    rcases it_open ok c gr n with e | e
    · exact .inl (end_stays ok c (it_le ok c n) e)
    · rcases turn_open ok c gr (it_le ok c n) with z | z
      · exact .inl (end_stays ok c (it_le ok c n) z)
      · right
        show open_ B F (lawTurn line B (lawIt line B n)) + (n + 1) ≤ 40
        omega
/-- what the law's sums are, behind its turns -/
def LawSum (line : Option Str) (B : List Menu) (r : SState) : Prop := (∃ n, r = lawIt line B (n + 1) ∧ ∀ x ∈ namesOf B, (lawIt line B n).to x = r.to x ∧ (lawIt line B n).home x = r.home x) ∨ r = lawIt line B 60
theorem LawSum.at_end {r : SState} (ok : BoardOk B) (c : ClosedT line B F) (gr : ∀ t, ClosedT line B t → LeS B t F) (h : LawSum line B r) : AtEnd B F r := by
  rcases h with ⟨n, rfl, same⟩ | rfl
  · rcases turn_open ok c gr (it_le ok c n) with z | z
    · exact end_stays ok c (it_le ok c n) z
    · exfalso
      have e : open_ B F (lawIt line B (n + 1)) = open_ B F (lawIt line B n) := by
        have k1 : ∀ y ∈ namesOf B, (!decide ((lawIt line B (n + 1)).to y = F.to y)) = (!decide ((lawIt line B n).to y = F.to y)) := fun y hy => by rw [(same y hy).1]
        have k2 : ∀ y ∈ namesOf B, (!decide ((lawIt line B (n + 1)).home y = F.home y)) = (!decide ((lawIt line B n).home y = F.home y)) := fun y hy => by rw [(same y hy).2]
        unfold open_
        rw [List.filter_congr k1, List.filter_congr k2]
      have : open_ B F (lawIt line B (n + 1)) + 1 ≤ open_ B F (lawIt line B n) := z
      omega
  · rcases it_open ok c gr 60 with z | z
    · exact z
    · omega
end
/-! ### closed either way -/
theorem le_of_lesser {x c : Option Int} {a b : Option Int} (h : leN x (plusN c (lesserN a b))) : leN x (plusN c a) ∧ leN x (plusN c b) := ⟨h.trans (leN_plus (leN.refl _) (lesser_le_l a b)), h.trans (leN_plus (leN.refl _) (lesser_le_r a b))⟩
theorem closedT_closed {B : List Menu} {g : Str} {s : SState} (h : ClosedT (some g) B s) : Closed (some g) B s := fun m hm st hst => by
  have hp : (m.name, st) ∈ pairsOf B := List.mem_flatMap.mpr ⟨m, hm, List.mem_map_of_mem hst⟩
  obtain ⟨h1, h2⟩ := h _ hp
  refine ⟨fun q hq => ?_, h2⟩
  cases e : st.2.2 with
  | call n t =>
    rw [e] at hq
    have h1' : leN (s.to m.name) (plusN (some st.1) (toldTo (firstOf B) m.name s.to s.home (some g) st.2.2)) := h1
    rw [e] at h1'
    obtain ⟨a, b⟩ := le_of_lesser h1'
    rcases List.mem_cons.mp hq with rfl | hq
    · exact a
    · rw [List.mem_singleton.mp hq]; exact b
  | line y => rw [e] at hq; rw [List.mem_singleton.mp hq, ← e]; exact h1
  | out => rw [e] at hq; rw [List.mem_singleton.mp hq, ← e]; exact h1
  | again => rw [e] at hq; rw [List.mem_singleton.mp hq, ← e]; exact h1
  | main => rw [e] at hq; rw [List.mem_singleton.mp hq, ← e]; exact h1
  | back => rw [e] at hq; rw [List.mem_singleton.mp hq, ← e]; exact h1
  | go n => rw [e] at hq; rw [List.mem_singleton.mp hq, ← e]; exact h1
theorem closed_closedT {B : List Menu} {g : Str} {s : SState} (h : Closed (some g) B s) : ClosedT (some g) B s := fun p hp => by
  obtain ⟨m, hm, h2⟩ := List.mem_flatMap.mp hp
  obtain ⟨st, hst, rfl⟩ := List.mem_map.mp h2
  exact h.borne m hm st hst
theorem firstOf_map (B : List Menu) : firstOf (B.map Menu.sorted) = firstOf B := by
  cases B <;> rfl
theorem steps_sorted {m : Menu} {st : Step} : st ∈ m.sorted.steps ↔ st ∈ m.steps := by
  unfold Menu.steps Menu.sorted
  rw [List.mem_append, List.mem_append, ((sortRows_perm m.rows).map rowStep).mem_iff]
theorem pairs_sorted {B : List Menu} {p : Str × Step} : p ∈ pairsOf (B.map Menu.sorted) ↔ p ∈ pairsOf B := by
  unfold pairsOf
  rw [List.mem_flatMap, List.mem_flatMap]
  constructor
  · rintro ⟨m, hm, h2⟩
    obtain ⟨m0, h0, rfl⟩ := List.mem_map.mp hm
    obtain ⟨st, hst, rfl⟩ := List.mem_map.mp h2
    exact ⟨m0, h0, List.mem_map.mpr ⟨st, steps_sorted.mp hst, rfl⟩⟩
  · rintro ⟨m, hm, h2⟩
    obtain ⟨st, hst, rfl⟩ := List.mem_map.mp h2
    exact ⟨m.sorted, List.mem_map_of_mem hm, List.mem_map.mpr ⟨st, steps_sorted.mpr hst, rfl⟩⟩
theorem closed_sorted {B : List Menu} {line : Option Str} {s : SState} : ClosedT line (B.map Menu.sorted) s ↔ ClosedT line B s := by
  unfold ClosedT PairOk
  rw [firstOf_map]
  exact ⟨fun h p hp => h p (pairs_sorted.mpr hp), fun h p hp => h p (pairs_sorted.mp hp)⟩
/-- the law's sums are the program's -/
theorem law_sums {B : List Menu} (ok : BoardOk B) {g : Str} {F r : SState} (run : Runs (some g) (B.map Menu.sorted) sums0 F) (h : LawSum (some g) B r) : AtEnd B F r := by
  refine h.at_end ok (closed_sorted.mp (closed_closedT run.closed)) fun t ht => ?_
  have l := run.greatest ok.sorted (closedT_closed (closed_sorted.mpr ht))
  refine ⟨fun x hx => l.to x ?_, fun x hx => l.home x ?_⟩
  · rw [sorted_namesOf]; exact hx
  · rw [sorted_namesOf]; exact hx
end MH
set_option Elab.async false
set_option linter.all false
set_option maxRecDepth 100000
set_option maxHeartbeats 4000000
namespace MH
open PySem PySem.Spec PyProof.Rows L2
/-! ### promises of defs where nothing is shown further out -/
/-- nothing is being shown (no repr runs) around this place -/
abbrev Gd (A : Around) : Prop := A.guards = some []
structure FnG (P : Program) (w : World) (K : PySem.W.Frag) (mg : Str → Option Value) (base : Heap) (k : Nat) (f : Addr) (fd : FuncData) (ps : List Str) (sp : Sp) : Prop where
  len : ∀ vs H Q E, sp vs H Q E → vs.length = ps.length
  run : ∀ (A : Around) (outer : List Env) (s : Shared) (H : Hp) (args : Args) (us : List Value) (vs : List V) (Q : VK) (E : XK), Gd A → Room k A → Env0 P w K mg base A outer s H → BindsTo s fd args (ps.zip us) → Vals vs us → sp vs H Q E →
    codeAny (model P w) A (.call (.ref f) args) (CR CX0 outer P w H s Q E) s
section
variable {P : Program} {w : World} {K : PySem.W.Frag} {mg : Str → Option Value} {base : Heap}
theorem fnG_of {k : Nat} {f : Addr} {fd : FuncData} {name qual : Str} {params : Arguments} {body : List Stmt} {scope : Scope} {N ps : List Str} {sp : Sp} (F : FunD K name qual params body scope [] [] f fd) (S : FnScope N ps scope) (hlen : ∀ vs H Q E, sp vs H Q E → vs.length = ps.length)
    (hb : ∀ (cdv : Value) (A : Around) (outer : List Env) (s : Shared) (H : Hp) (vs : List V) (Q : VK) (E : XK), Gd A → Room k (A.deeper (envOfC qual scope s.heap.objs.size f cdv)) → sp vs H Q E →
      ∃ t, PSs (cxOf CX0 P w K mg base N qual scope f cdv A outer s H E) body t ∧ t { nx := fun _ H' => Q .non H', rt := Q } (start N vs) H) : FnG P w K mg base (k + 1) f fd ps sp := by
  obtain ⟨oc, od, dV, kV, doc, pm, an, cdv, ct, osl, rfl, lk, hcd, _, _⟩ := F.ex
  refine ⟨hlen, ?_⟩
  intro A outer s H args us vs Q E gd room env bnd rel hs
  have vl := hlen _ _ _ _ hs
  have inH : K.In s.heap := env.mod.kin.keeps fun c u e => (env.bs c u e).1
  have nolim : s.heap.NoLimit := env.mod.nolimit.keeps fun c u e => (env.bs c u e).1
  have kinds : ∀ y ∈ ps.zip us, scope.names.lookup y.1 = some .local ∨ (scope.names.lookup y.1 = some .cell ∧ ((cellsFrom (s.heap.objs.size + 1) scope.names []).lookup y.1).isSome = true) := by
    rintro ⟨nm, val⟩ hy
    exact (S.par nm (List.of_mem_zip hy).1).imp id fun c => ⟨c, PySem.W.cellsFrom_some _ _ _ (.inl c)⟩
  obtain ⟨t, ht, hq⟩ := hb cdv A outer s H vs Q E gd (room.deeper _) hs
  refine codeAny_call_function room.depth (inH _ _ lk) rfl S.co S.gen rfl (PySem.W.codeRec_of inH hcd) (bnd _ _ _ _ (wpAny_newFunctionEnv_cells S.kind kinds ?_))
  rintro env' rfl s' inC
  refine ⟨nolim.keeps inC.toInCall.keep, codeAny_func (wpAny_mono (ht.run [] s' (start N vs) H _ (inv_start S room.hd env vl rel inC) hq) (fun flow s2 h2 => ?_) fun _ _ h2 => h2)⟩
  match flow, h2 with
  | .ret u, ⟨v, _, H2, J, rv, q⟩ => exact ⟨v, H2, J.os, J.bare, J.base, J.hok, rv, q⟩
  | .next, ⟨_, H2, J, q⟩ => exact ⟨V.non, H2, J.os, J.bare, J.base, J.hok, rfl, q⟩
  | .brk, ⟨_, _, _, q⟩ => exact q.elim
  | .cont, ⟨_, _, _, q⟩ => exact q.elim
/-- such a def, by its global name -/
structure CalG (P : Program) (w : World) (K : PySem.W.Frag) (mg : Str → Option Value) (base : Heap) (k : Nat) (x : Str) (sp : Sp) : Prop where
  ex : ∃ f fd ps, FnG P w K mg base k f fd ps sp ∧ mg x = some (.ref f) ∧ PySem.W.keepIn K (.ref f) = true ∧ Binds K fd ps []
theorem mkCalG {x : Str} {st : Stmt} {N ps : List Str} {k : Nat} {sp : Sp} (G : Glo K mg x st) (S : FnScope N ps (defScope st)) (len : ∀ vs H Q E, sp vs H Q E → vs.length = ps.length)
    (hb : ∀ (kV doc pm : Value) (an : Option Addr) (cdv ct : Value) (us : List Value), us.length = ps.length → bindArgs (PySem.W.fnOf x x (defArgs st) (defBody st) (defScope st) .none kV doc pm an cdv ct) ⟨us, []⟩ = pure (ps.zip us))
    (hbody : ∀ (f : Addr) (cdv : Value) (A : Around) (outer : List Env) (s : Shared) (H : Hp) (vs : List V) (Q : VK) (E : XK), Gd A → Room k (A.deeper (envOfC x (defScope st) s.heap.objs.size f cdv)) → sp vs H Q E →
      ∃ t, PSs (cxOf CX0 P w K mg base N x (defScope st) f cdv A outer s H E) (defBody st) t ∧ t { nx := fun _ H' => Q .non H', rt := Q } (start N vs) H) : CalG P w K mg base (k + 1) x sp := by
  obtain ⟨f, fd, F, hm⟩ := G.ex
  exact ⟨f, fd, ps, fnG_of F S len (hbody f), hm, F.kp, F.bindsN hb⟩
end
section
variable {X : Cx} {k j : Nat} {x : Str} {sp : Sp} {E : XK} {p pos : Pos} {e : Expr} {es : List Expr} {t : TA}
theorem pe_calG (c : CalG X.prog X.w X.K X.mg X.base k x sp) (gd : Gd X.A) (hr : Room j X.A) (hk : k ≤ j) (hx : Passes CX0 X E) (ha : PA X (e :: es) t) (hg : Gl X x := by rfl)
    (hdb : (x == ("__debug__" : Str)) = false := by decide) (he : starEach (e :: es) X.env = (false, eval e X.env) :: starEach es X.env := by rfl) (hpl : (backTo pos (starEach es X.env)).any (·.1) = false := by rfl) :
    PE X (.Call (.Name x p) (e :: es) [] pos) (tCall sp [] E t) := by
  obtain ⟨f, fd, ps, F, hm, kp, bd⟩ := c.ex
  refine ⟨fun pins s σ H Q inv want => wpAny_Call_Name_kw (ld_glob inv hg hm (PySem.W.callWith_K (h₀ := X.base) inv.ok.mod.kin kp (thn (ha.run pos pins s σ H _ inv want) ?_) he hpl) hdb)⟩
  rintro us s1 ⟨vs, H1, J, rel, ask⟩
  refine ⟨J.kIn, ?_⟩
  rw [List.append_nil] at ask
  have bl : us.length = ps.length := by rw [← rel.length]; exact F.len _ _ _ _ ask
  have bd1 := bd s1 us J.kIn (by rw [List.append_nil]; exact bl)
  rw [List.append_nil] at bd1
  refine wpAny_call (codeAny_mono (F.run X.A X.stack s1 H1 ⟨us, []⟩ us vs Q E gd (hr.mono hk) J.env0 bd1 rel ask) fun res s2 h2 => ?_)
  match res, h2 with
  | .error err, h2 => exact hx pins σ H1 s1 err s2 J h2
  | .ok (.ret u), h2 => exact J.after h2
  | .ok .next, h2 => exact h2.elim
  | .ok .brk, h2 => exact h2.elim
  | .ok .cont, h2 => exact h2.elim
end
/-! ### the law's own call -/
section
variable {P : Program} {w : World} {K : PySem.W.Frag} {mg mb : Str → Option Value} {k : Nat} {fa a : Addr} {fd : FuncData} {x : Str} {sp : Sp} {s1 : Shared} {vs : List Value} {ns : List Int}
/-- what is behind the law's call: True, and all that was laid stands as it was -/
def Past (s1 : Shared) (r : Result) (s' : Shared) : Prop := r = .ok (.ret (.bool true)) ∧ OldK s1.heap s'.heap ∧ s'.os = s1.os ∧ AllBare s'.gens
theorem past_of (H : Hp) (KX : K.In s1.heap) (hns : s1.heap.Ns mainGlobals mg) (hb : s1.heap.Ns builtinsNs mb) (hbb : ∀ x : Str, x ≠ "__name__" → mb x = bootBuiltins x) (hlim : s1.heap.NoLimit) (hg : s1.gens = #[])
    (ha : s1.heap.get? a = some { cls := .type "list", data := .seq vs.toArray }) (hr : Room k callerA) (F : ∀ base : Heap, K.In base → base.Ns mainGlobals mg → FnG P w K mg base k fa fd [x] sp) (hbind : ∀ (s : Shared) (u : Value), BindsTo s fd ⟨[u], []⟩ [(x, u)])
    (hO : Only H) (hS : sp [.ref a] H (fun v _ => v = .bl true) fun _ _ _ => False) (hok : HOk P w H s1.heap) (one : ∀ b, H b ≠ none → b = a ∧ K.lookup a = none) :
    codeAny (model P w) callerA (.call (.ref fa) ⟨[.ref a], []⟩) (Past s1) s1 := by
  have free : ∀ {b : Addr} {o : Obj}, s1.heap.get? b = some o → b ≠ a → (hidT s1.heap H).get? b = some o := fun {b o} e ne => hidT_get e (Classical.byContradiction fun z => ne (one b z).1)
  have isDict : ∀ {b : Addr} {m : Str → Option Value}, s1.heap.Ns b m → (hidT s1.heap H).Ns b m := by
    rintro b m ⟨o, es, ep, e, dt, rest⟩
    refine ⟨o, es, ep, free e ?_, dt, rest⟩
    rintro rfl
    rw [ha] at e
    cases e
    exact Data.noConfusion (show Data.seq vs.toArray _ = Data.dict es ep from dt)
  have inB : K.In (hidT s1.heap H) := by
    intro b o e
    refine hidT_get (KX b o e) (Classical.byContradiction fun z => ?_)
    obtain ⟨e1, e2⟩ := one b z
    rw [e1, e2] at e
    cases e
  obtain ⟨mc, lim1, lim2⟩ := hlim
  have env : Env0 P w K mg (hidT s1.heap H) callerA [] s1 H := by
    refine ⟨rfl, ⟨inB, isDict hns, ⟨mb, isDict hb, hbb⟩, ⟨mc, isDict lim1, lim2⟩⟩, fun b o e => of_hidT e, Nat.le_of_eq (hidT_size _ _), trivial, ?_, hok, .of_eq hg⟩
    intro b hbn
    cases hbn
  refine codeAny_mono ((F _ inB (isDict hns)).run callerA [] s1 H ⟨[.ref a], []⟩ [.ref a] [.ref a] _ _ rfl hr env (hbind s1 (.ref a)) (.cons rfl .nil) hS) fun r s' h => ?_
  match r, h with
  | .error err, h => exact h.elim
  | .ok .next, h => exact h.elim
  | .ok .brk, h => exact h.elim
  | .ok .cont, h => exact h.elim
  | .ok (.ret u), ⟨v, H2, os, bare, un, hok2, rv, hv⟩ =>
    have hv2 : v = .bl true := hv
    subst hv2
    obtain rfl : u = Value.bool true := rv
    refine ⟨rfl, OldK.of_keep fun b o e => ?_, os, bare⟩
    rcases hO b with hn | ⟨ob, xs, hf⟩
    · refine un.keep b o e hn ?_ (by simp)
      intro hbn
      cases hbn
    · have a1 := (hok b _ hf).1
      rw [e] at a1
      cases a1
      exact (hok2 b _ (un.frzs b _ _ hf)).1
theorem past_call (KX : K.In s1.heap) (hns : s1.heap.Ns mainGlobals mg) (hb : s1.heap.Ns builtinsNs mb) (hbb : ∀ x : Str, x ≠ "__name__" → mb x = bootBuiltins x) (hlim : s1.heap.NoLimit) (hg : s1.gens = #[])
    (ha : s1.heap.get? a = some { cls := .type "list", data := .seq vs.toArray }) (hi : IntsAre vs ns) (hl : ns.length ≤ sizeLine) (hr : Room k callerA) (F : ∀ base : Heap, K.In base → base.Ns mainGlobals mg → FnG P w K mg base k fa fd [x] sp) (hbind : ∀ (s : Shared) (u : Value), BindsTo s fd ⟨[u], []⟩ [(x, u)])
    (hsp : ∀ H : Hp, Only H → SqL K H a (ns.map V.int) → sp [.ref a] H (fun v _ => v = .bl true) fun _ _ _ => False) : codeAny (model P w) callerA (.call (.ref fa) ⟨[.ref a], []⟩) (Past s1) s1 := by
  have rel := vals_ints hi
  have vl : vs.length ≤ sizeLine := by rw [hi.length]; exact hl
  cases lk : K.lookup a with
  | some o =>
    have e0 := KX a o lk
    rw [ha] at e0
    cases e0
    have none1 : ∀ b, (fun _ => none : Hp) b = none ∨ ∃ o xs, (fun _ => none : Hp) b = some (.frz o (.lst xs)) := fun _ => .inl rfl
    refine past_of (fun _ => none) KX hns hb hbb hlim hg ha hr F hbind none1 (hsp _ none1 ?_) (fun b u z => ?_) (fun b z => absurd rfl z)
    · exact .inr ⟨_, vs.toArray, _, lk, rfl, rfl, rfl, by rw [List.size_toArray]; exact vl, by simpa using rel⟩
    · have z2 : (none : Option HO) = some u := z
      cases z2
  | none =>
    have at1 : ∀ b u, (if b = a then some (HO.frz { cls := .type "list", data := .seq vs.toArray } (.lst (ns.map V.int))) else none) = some u → b = a ∧ u = .frz { cls := .type "list", data := .seq vs.toArray } (.lst (ns.map V.int)) := by
      intro b u z
      by_cases e : b = a
      · rw [if_pos e] at z
        exact ⟨e, (Option.some.inj z).symm⟩
      · rw [if_neg e] at z
        cases z
    have only1 : Only fun b => if b = a then some (HO.frz { cls := .type "list", data := .seq vs.toArray } (.lst (ns.map V.int))) else none := by
      intro b
      by_cases e : b = a
      · exact .inr ⟨_, _, if_pos e⟩
      · exact .inl (if_neg e)
    refine past_of _ KX hns hb hbb hlim hg ha hr F hbind only1 (hsp _ only1 (.inl (.inr ⟨_, if_pos rfl⟩))) (fun b u z => ?_) (fun b z => ?_)
    · obtain ⟨rfl, rfl⟩ := at1 b u z
      exact ⟨ha, by rw [List.length_map]; exact hl, vs, _, rel, ha⟩
    · refine ⟨Classical.byContradiction fun e => z (if_neg e), lk⟩
end
/-- the goal that the head leaves -/
theorem walk_ofG {l : PySem.W.OpenLaw} {n k : Nat} {q : Program} {loose : List Str} {XP : (Str → Option Value) → Heap → Prop} {YP : World → Heap → Prop} {d : DefRec} {x : Str} (hn : l.most = some n) (hn2 : n ≤ sizeLine) (hdf : d.params.defaults = []) (hr : Room k callerA)
    (F : ∀ (w : World) (mg : Str → Option Value) (fa : Addr) (h : Heap), YP w h → h.Ns mainGlobals mg → mg d.name = some (.ref fa) → ∃ (K : PySem.W.Frag) (fd : FuncData) (sp : Sp), K.In h ∧ (∀ (s : Shared) (u : Value), BindsTo s fd ⟨[u], []⟩ [(x, u)]) ∧
        (∀ (H : Hp) (a : Addr) (ns : List Int), ns.length ≤ n → Only H → SqL K H a (ns.map V.int) → sp [.ref a] H (fun v _ => v = .bl true) fun _ _ _ => False) ∧ ∀ base : Heap, K.In base → base.Ns mainGlobals mg → FnG l.prog w K mg base k fa fd [x] sp) :
    PySem.W.WalkO q loose XP YP l.row.toRowW d [] (fun f vs => PySem.call f vs) := by
  refine Att.attach_call hn hdf ?_
  intro w s0 s1 mg mb fa o pm cd doc a vs ns G Y ho hd hcd hmg hobj hints hlen hgen
  obtain ⟨K, fd, sp, inK, bnd, want, FF⟩ := F w mg fa _ Y G.T.g hmg
  exact past_call inK G.T.g G.T.b G.T.builtins G.T.nolimit hgen hobj hints (Nat.le_trans hlen hn2) hr FF bnd fun H only sq => want H a ns hlen only sq
end MH
set_option Elab.async false
set_option linter.all false
set_option maxRecDepth 100000
set_option maxHeartbeats 4000000
namespace MH
open PySem PySem.Spec PyProof.Rows L2
/-! ### str of a dict of numbers, repr of a list of numbers -/
def nD : Option Int → PyData
  | none => .none
  | some i => .int i
def numsD (es : List (Str × Option Int)) : PyData := .dict (es.map fun e => (.str e.1, nD e.2))
def fitN : Option Int → Bool
  | none => true
  | some i => decide (i.natAbs.log2 < 1920)
theorem showable_nD (a : Option Int) : (nD a).showable = fitN a := by cases a <;> rfl
theorem nums_showable : ∀ {es : List (Str × Option Int)}, (∀ e ∈ es, fitN e.2 = true) → PyData.showableKv (es.map fun e => ((.str e.1 : PyData), nD e.2)) = true
  | [], _ => rfl
  | e :: es, h => by
    rw [List.map_cons, PyData.showableKv, showable_nD, h e List.mem_cons_self, nums_showable fun x hx => h x (List.mem_cons_of_mem _ hx)]
    rfl
theorem reads_nV {h : Heap} {a : Option Int} {u : Value} (r : RelV (nV a) u) : Reads h u (nD a) [] := by
  cases a with
  | none =>
    obtain rfl : u = Value.none := r
    exact .none
  | some i =>
    obtain ⟨t, rfl⟩ := (show ∃ t, u = Value.int i t from r)
    exact .int i t
theorem reads_nums {h : Heap} : ∀ {xs : List (Option Int)} {us : List Value}, Vals (xs.map nV) us → ReadsAll h us (xs.map nD) []
  | [], _, .nil => .nil
  | _ :: _, _, .cons r t => .cons (reads_nV r) (reads_nums t)
theorem reads_keys {prog : Program} {w : World} {h : Heap} : ∀ {es : List (Str × Option Int)} {L : List DictEntry} {vs : List (Key × Value)}, Pairs (mixKind prog w) L vs → KV (es.map fun e => ((Sum.inr e.1 : Key), nV e.2)) vs →
    ReadsAll h (L.map (·.key)) ((es.map fun e => ((.str e.1 : PyData), nD e.2)).map (·.1)) [] ∧ ReadsAll h (L.map (·.val)) ((es.map fun e => ((.str e.1 : PyData), nD e.2)).map (·.2)) []
  | [], L, _, p, q => by
    cases q
    cases p
    exact ⟨.nil, .nil⟩
  | e :: es, L, _, p, q => by
    cases q with
    | cons q1 q2 =>
      cases p with
      | @cons en _ _ _ p1 p2 p3 =>
        obtain ⟨r1, r2⟩ := reads_keys p3 q2
        obtain ⟨k1, v1⟩ := q1
        have p1' : keyIs (Sum.inr e.1) en.key = true := by
          have z := p1
          rw [← k1] at z
          exact z
        rcases keyIs_shape p1' with ⟨i, t, a, _⟩ | ⟨x, t, a, b⟩
        · cases a
        · cases a
          rw [← p2] at v1
          refine ⟨?_, .cons (reads_nV v1) r2⟩
          rw [List.map_cons, b]
          exact .cons (.str _ t) r1
theorem nums_depth : ∀ (es : List (Str × Option Int)), PyData.depthKv (es.map fun e => ((.str e.1 : PyData), nD e.2)) = 0
  | [] => rfl
  | e :: es => by
    rw [List.map_cons, PyData.depthKv, nums_depth es]
    cases e.2 <;> rfl
theorem list_depth : ∀ (ns : List (Option Int)), PyData.depthAll (ns.map nD) = 0
  | [] => rfl
  | e :: es => by
    rw [List.map_cons, PyData.depthAll, list_depth es]
    cases e <;> rfl
def rStrNum : List V → Hp → VK → Prop := fun xs H Q => ∃ (a : Addr) (es : List (Str × Option Int)), xs = [V.ref a] ∧ H a = some (.dK (es.map fun e => ((Sum.inr e.1 : Key), nV e.2))) ∧ (∀ e ∈ es, fitN e.2 = true) ∧ (numsD es).shown.length ≤ sizeLine ∧ Q (.str (numsD es).shown) H
section
variable {X : Cx}
theorem call_strNum (gd : Gd X.A) (hu : X.A.units + 200 < cLine) : CallR X (.type "str") rStrNum := by
  intro pins s σ H xs us Q I r h
  obtain ⟨a, es, rfl, ha, fit, hz, q⟩ := h
  obtain ⟨u, rfl, ru⟩ := r.one
  cases (show u = Value.ref a from ru)
  obtain ⟨_, hS, vs, kv, o, ents, ep, ho, ex, hd, _, prs, _⟩ := (show ObjOk X.prog X.w H s.heap a (.dK _) from I.hok a _ ha)
  obtain ⟨r1, r2⟩ := reads_keys (h := s.heap) prs kv
  have rd : Reads s.heap (.ref a) (numsD es) (a :: [] ++ []) := .dict ho ex.1 hd r1 r2
  have dep : (numsD es).depth = 1 := by
    unfold numsD
    rw [PyData.depth, nums_depth]
  refine str_of_reads rd (nums_showable fit) (fun _ z => ?_) gd (by rw [dep]; omega) (fun _ _ e => e) (fun h' u tk k => ?_) hz
  · have z2 : sysModules = a := by simpa using z
    rw [← z2] at hS
    exact absurd hS (by simp)
  · exact ⟨.str _, H, I.kept k, ⟨u, rfl⟩, q⟩
def rReprNums (K : PySem.W.Frag) : List V → Hp → VK → Prop := fun xs H Q => ∃ (a : Addr) (ns : List (Option Int)), xs = [V.ref a] ∧ SqL K H a (ns.map nV) ∧ (∀ n ∈ ns, fitN n = true) ∧ (PyData.list (ns.map nD)).shown.length ≤ sizeLine ∧ Q (.str (PyData.list (ns.map nD)).shown) H
theorem dp_nVs {K : PySem.W.Frag} {H : Hp} : ∀ (ns : List (Option Int)), DpAll K H (ns.map nV) (ns.map nD)
  | [] => .nil
  | n :: ns => by
    refine .cons ?_ (dp_nVs ns)
    cases n with
    | none => exact .non
    | some i => exact .int i
theorem nums_showableL : ∀ {ns : List (Option Int)}, (∀ n ∈ ns, fitN n = true) → PyData.showableAll (ns.map nD) = true
  | [], _ => rfl
  | n :: ns, h => by
    rw [List.map_cons, PyData.showableAll, showable_nD, h n List.mem_cons_self, nums_showableL fun x hx => h x (List.mem_cons_of_mem _ hx)]
    rfl
theorem nums_hasDict : ∀ (ns : List (Option Int)), PyData.hasDictAll (ns.map nD) = false
  | [] => rfl
  | n :: ns => by
    rw [List.map_cons, PyData.hasDictAll, nums_hasDict ns]
    cases n <;> rfl
theorem call_reprNums (gd : Gd X.A) (hu : X.A.units + 200 < cLine) : CallR X (.builtin "repr") (rReprNums X.K) := by
  intro pins s σ H xs us Q I r h
  obtain ⟨a, ns, rfl, ha, fit, hz, q⟩ := h
  obtain ⟨u, rfl, ru⟩ := r.one
  cases (show u = Value.ref a from ru)
  obtain ⟨as, rd⟩ := Dp.reads I (.list (ns.map nD)) (.ref a) (.ref a) (.lst ha (dp_nVs ns)) rfl
  have dep : (PyData.list (ns.map nD)).depth = 1 := by
    rw [PyData.depth, list_depth]
  have hsd : (PyData.list (ns.map nD)).hasDict = false := by
    rw [PyData.hasDict]
    exact nums_hasDict ns
  refine repr_of_reads' rd (by rw [PyData.showable]; exact nums_showableL fit) (PyData.noDict_hsm hsd) gd (by rw [dep]; omega) (fun _ _ e => e) (fun h' u tk k => ?_) hz
  exact ⟨.str _, H, I.kept k, ⟨u, rfl⟩, q⟩
end
end MH
set_option Elab.async false
set_option linter.all false
set_option maxRecDepth 100000
set_option maxHeartbeats 4000000
namespace MH
open PySem PySem.Spec PyProof.Rows L2
/-! ### the texts of numbers -/
def Small (a : Option Int) : Prop := ∀ v, a = some v → 0 ≤ v ∧ v < (2 : Int) ^ 40
theorem small_nat {a : Option Int} (h : Small a) : a = none ∨ ∃ m : Nat, a = some (m : Int) ∧ m < 2 ^ 40 := by
  cases a with
  | none => exact .inl rfl
  | some v =>
    obtain ⟨h0, h1⟩ := h v rfl
    obtain ⟨m, rfl⟩ := Int.eq_ofNat_of_zero_le h0
    refine .inr ⟨m, rfl, ?_⟩
    have e : ((2 : Int) ^ 40) = ((2 ^ 40 : Nat) : Int) := by decide +kernel
    rw [e] at h1
    exact Int.ofNat_lt.mp h1
theorem small_fit {a : Option Int} (h : Small a) : fitN a = true := by
  rcases small_nat h with rfl | ⟨m, rfl, hm⟩
  · rfl
  · refine decide_eq_true ?_
    show (m : Int).natAbs.log2 < 1920
    rw [Int.natAbs_natCast]
    by_cases e : m = 0
    · rw [e]; decide +kernel
    · refine (Nat.log2_lt e).mpr (Nat.lt_of_lt_of_le hm ?_)
      exact Nat.pow_le_pow_right (by decide) (by decide)
def numT (a : Option Int) : List Nat := cs (nD a).shown
theorem numT_nat (m : Nat) : numT (some (m : Int)) = TL.numL m := TL.tl_num m
theorem numT_none : numT none = [78, 111, 110, 101] := by decide +kernel
theorem numT_free {a : Option Int} (h : Small a) : 44 ∉ numT a ∧ 125 ∉ numT a := by
  rcases small_nat h with rfl | ⟨m, rfl, _⟩
  · rw [numT_none]; decide
  · rw [numT_nat]
    exact ⟨fun z => by have := TL.numL_digits m _ z; omega, fun z => by have := TL.numL_digits m _ z; omega⟩
theorem numT_inj {a b : Option Int} (ha : Small a) (hb : Small b) (h : numT a = numT b) : a = b := by
  rcases small_nat ha with rfl | ⟨m, rfl, _⟩ <;> rcases small_nat hb with rfl | ⟨n, rfl, _⟩
  · rfl
  · rw [numT_none, numT_nat] at h
    have := TL.numL_digits n 78 (by rw [← h]; exact List.mem_cons_self)
    omega
  · rw [numT_none, numT_nat] at h
    have := TL.numL_digits m 78 (by rw [h]; exact List.mem_cons_self)
    omega
  · rw [numT_nat, numT_nat] at h
    rw [TL.numL_inj h]
theorem small_short {a : Option Int} (h : Small a) : (nD a).leavesShort 20 = true := by
  rcases small_nat h with rfl | ⟨m, rfl, hm⟩
  · rfl
  · show PyData.leavesShort 20 (.int (m : Int)) = true
    simp only [PyData.leavesShort, decide_eq_true_eq]
    have e : (PyData.shown (.int (m : Int))).length = (TL.numL m).length := by
      rw [← numT_nat]
      exact len_cs _
    rw [e]
    exact TL.numL_len (by decide) (Nat.lt_trans hm (by decide +kernel))
theorem split_at {c : Nat} : ∀ {a b x y : List Nat}, c ∉ a → c ∉ b → a ++ c :: x = b ++ c :: y → a = b ∧ x = y
  | [], [], _, _, _, _, h => ⟨rfl, by simpa using h⟩
  | [], b :: bs, _, _, _, hb, h => by
    have e : c = b := by
      have := congrArg List.head? h
      simpa using this
    exact absurd (by rw [e]; exact List.mem_cons_self) hb
  | a :: as, [], _, _, ha, _, h => by
    have e : a = c := by
      have := congrArg List.head? h
      simpa using this
    exact absurd (by rw [e]; exact List.mem_cons_self) ha
  | a :: as, b :: bs, x, y, ha, hb, h => by
    rw [List.cons_append, List.cons_append] at h
    injection h with h1 h2
    obtain ⟨e1, e2⟩ := split_at (fun z => ha (List.mem_cons_of_mem _ z)) (fun z => hb (List.mem_cons_of_mem _ z)) h2
    exact ⟨by rw [h1, e1], e2⟩
def partS (e : Str × Option Int) : Str := reprText e.1 ++ ": " ++ (nD e.2).shown
theorem part_cs (e : Str × Option Int) : cs (partS e) = cs (reprText e.1 ++ ": ") ++ numT e.2 := cs_app _ _
theorem kv_parts : ∀ (es : List (Str × Option Int)), PyData.shownKv (es.map fun e => ((.str e.1 : PyData), nD e.2)) = es.map partS
  | [] => rfl
  | e :: es => by
    rw [List.map_cons, PyData.shownKv, kv_parts es]
    rfl
def joinL (es : List (Str × Option Int)) : List Nat := cs (Str.join ", " (es.map partS))
theorem joinL_one (e : Str × Option Int) : joinL [e] = cs (partS e) := rfl
theorem joinL_cons (e f : Str × Option Int) (es : List (Str × Option Int)) : joinL (e :: f :: es) = cs (partS e) ++ 44 :: 32 :: joinL (f :: es) := by
  show cs (partS e ++ ", " ++ Str.join ", " ((f :: es).map partS)) = _
  rw [cs_app, cs_app, List.append_assoc]
  rfl
theorem nums_cs (es : List (Str × Option Int)) : cs (numsD es).shown = 123 :: (joinL es ++ [125]) := by
  unfold numsD
  rw [PyData.shown, kv_parts]
  unfold dictText
  rw [cs_app, cs_app]
  rfl
theorem join_inj : ∀ {es fs : List (Str × Option Int)} {x y : List Nat}, es.map (·.1) = fs.map (·.1) → (∀ e ∈ es, Small e.2) → (∀ e ∈ fs, Small e.2) → joinL es ++ 125 :: x = joinL fs ++ 125 :: y → es = fs ∧ x = y
  | [], [], x, y, _, _, _, h => ⟨rfl, by simpa [joinL] using h⟩
  | [], _ :: _, _, _, hk, _, _, _ => by cases hk
  | _ :: _, [], _, _, hk, _, _, _ => by cases hk
  | (k, a) :: es, (k2, b) :: fs, x, y, hk, he, hf, h => by
    injection hk with hk1 hk2
    have hk1 : k = k2 := hk1
    subst hk1
    have sa : Small a := he (k, a) List.mem_cons_self
    have sb : Small b := hf (k, b) List.mem_cons_self
    obtain ⟨a44, a125⟩ := numT_free sa
    obtain ⟨b44, b125⟩ := numT_free sb
    cases es with
    | nil =>
      cases fs with
      | cons _ _ => cases hk2
      | nil =>
        rw [joinL_one, joinL_one, part_cs, part_cs, List.append_assoc, List.append_assoc] at h
        obtain ⟨e1, e2⟩ := split_at a125 b125 (List.append_cancel_left h)
        exact ⟨by rw [numT_inj sa sb e1], e2⟩
    | cons e es =>
      cases fs with
      | nil => cases hk2
      | cons f fs =>
        rw [joinL_cons, joinL_cons, part_cs, part_cs, List.append_assoc, List.append_assoc, List.append_assoc, List.append_assoc] at h
        obtain ⟨e1, e2⟩ := split_at a44 b44 (List.append_cancel_left h)
        have e3 : joinL (e :: es) ++ 125 :: x = joinL (f :: fs) ++ 125 :: y := by
          have := congrArg List.tail e2
          simpa using this
        obtain ⟨e4, e5⟩ := join_inj hk2 (fun z hz => he z (List.mem_cons_of_mem _ hz)) (fun z hz => hf z (List.mem_cons_of_mem _ hz)) e3
        exact ⟨by rw [numT_inj sa sb e1, e4], e5⟩
theorem nums_inj {es es2 fs fs2 : List (Str × Option Int)} (h1 : es.map (·.1) = es2.map (·.1)) (h2 : fs.map (·.1) = fs2.map (·.1)) (a : ∀ e ∈ es, Small e.2) (b : ∀ e ∈ es2, Small e.2) (c : ∀ e ∈ fs, Small e.2) (d : ∀ e ∈ fs2, Small e.2)
    (h : (numsD es).shown ++ (numsD fs).shown = (numsD es2).shown ++ (numsD fs2).shown) : es = es2 ∧ fs = fs2 := by
  have e := congrArg cs h
  rw [cs_app, cs_app, nums_cs, nums_cs, nums_cs, nums_cs] at e
  simp only [List.cons_append, List.append_assoc, List.cons.injEq, true_and, List.nil_append] at e
  obtain ⟨e1, e2⟩ := join_inj h1 a b e
  injection e2 with _ e3
  obtain ⟨e4, _⟩ := join_inj (x := []) (y := []) h2 c d e3
  exact ⟨e1, e4⟩
theorem nums_len {es : List (Str × Option Int)} (h : ∀ e ∈ es, Small e.2) (hn : ∀ e ∈ es, okTx e.1 = true ∧ e.1.length ≤ 4) (hl : es.length ≤ 20) : (numsD es).shown.length ≤ 10000 := by
  have short : ∀ {es : List (Str × Option Int)}, (∀ e ∈ es, Small e.2) → (∀ e ∈ es, okTx e.1 = true ∧ e.1.length ≤ 4) → PyData.leavesShortKv 20 (es.map fun e => ((.str e.1 : PyData), nD e.2)) = true ∧ PyData.bulkKv (es.map fun e => ((.str e.1 : PyData), nD e.2)) ≤ 6 * es.length := by
    intro es
    induction es with
    | nil => intro _ _; exact ⟨rfl, Nat.le_refl _⟩
    | cons e es ih =>
      intro h hn
      obtain ⟨i1, i2⟩ := ih (fun x hx => h x (List.mem_cons_of_mem _ hx)) fun x hx => hn x (List.mem_cons_of_mem _ hx)
      obtain ⟨n1, n2⟩ := hn e List.mem_cons_self
      have hs : PyData.leavesShort 20 (.str e.1) = true := by
        simp only [PyData.leavesShort, List.all_eq_true, decide_eq_true_eq]
        intro c hc
        have := of_decide_eq_true (List.all_eq_true.mp n1 c hc)
        exact Nat.lt_trans this (by decide)
      refine ⟨?_, ?_⟩
      · rw [List.map_cons, PyData.leavesShortKv, hs, small_short (h e List.mem_cons_self), i1]
        rfl
      · rw [List.map_cons, PyData.bulkKv, List.length_cons]
        have b1 : PyData.bulk (.str e.1) ≤ 4 := n2
        have b2 : PyData.bulk (nD e.2) = 0 := by cases e.2 <;> rfl
        omega
  obtain ⟨s1, s2⟩ := short h hn
  have := PyData.shown_le_bulk 20 (by decide) (numsD es) (by unfold numsD; rw [PyData.leavesShort]; exact s1)
  have e : (numsD es).bulk = PyData.bulkKv (es.map fun e => ((.str e.1 : PyData), nD e.2)) := rfl
  rw [e] at this
  omega
end MH
set_option Elab.async false
set_option linter.all false
set_option maxRecDepth 100000
set_option maxHeartbeats 4000000
namespace MH
open PySem PySem.Spec PyProof.Rows L2
/-! ### the written boards -/
def boardK (a b c d x : Str) : List Menu := [⟨a, [("1", .call b d)], .again, 1, false⟩, ⟨b, [("1", .call c c)], .again, 2, false⟩, ⟨c, [("7", .back)], .again, 3, false⟩, ⟨d, [("2", .line x), ("3", .go a)], .main, 1, false⟩]
def loneK (a b x y : Str) : List Menu := [⟨a, [("1", .line x)], .out, 1, false⟩, ⟨b, [], .line y, 1, false⟩]
theorem headS (n : Str) (r : List (Str × Act)) (t : Act) : (("menu " : Str) ++ n) ++ " tries 1" = (⟨n, r, t, 1, false⟩ : Menu).headText := str_ext (by
  unfold Menu.headText Menu.headWords
  rw [cs_app, cs_app, cs_join, List.append_assoc]
  rfl)
theorem headS2 (n : Str) (r : List (Str × Act)) (t : Act) : (("menu " : Str) ++ n) ++ " tries 2" = (⟨n, r, t, 2, false⟩ : Menu).headText := str_ext (by
  unfold Menu.headText Menu.headWords
  rw [cs_app, cs_app, cs_join, List.append_assoc]
  rfl)
theorem headS3 (n : Str) (r : List (Str × Act)) (t : Act) : (("menu " : Str) ++ n) ++ " tries 3" = (⟨n, r, t, 3, false⟩ : Menu).headText := str_ext (by
  unfold Menu.headText Menu.headWords
  rw [cs_app, cs_app, cs_join, List.append_assoc]
  rfl)
theorem callS (n t : Str) : ((("1 call " : Str) ++ n) ++ " ") ++ t = rowText ("1", .call n t) := str_ext (by
  unfold rowText Act.text
  simp only [cs_app, cs_join, List.append_assoc]
  rfl)
theorem line1S (x : Str) : ("1 line " : Str) ++ x = rowText ("1", .line x) := str_ext (by
  unfold rowText Act.text
  simp only [cs_app, cs_join, List.append_assoc]
  rfl)
theorem line2S (x : Str) : ("2 line " : Str) ++ x = rowText ("2", .line x) := str_ext (by
  unfold rowText Act.text
  simp only [cs_app, cs_join, List.append_assoc]
  rfl)
theorem go3S (x : Str) : ("3 go " : Str) ++ x = rowText ("3", .go x) := str_ext (by
  unfold rowText Act.text
  simp only [cs_app, cs_join, List.append_assoc]
  rfl)
theorem elseS (x : Str) : ("else line " : Str) ++ x = tailText (.line x) := str_ext (by
  unfold tailText Act.text
  simp only [cs_app, cs_join, List.append_assoc]
  rfl)
theorem againS : ("else again" : Str) = tailText .again := by decide +kernel
theorem mainS : ("else main" : Str) = tailText .main := by decide +kernel
theorem outS : ("else out" : Str) = tailText .out := by decide +kernel
theorem back7S : ("7 back" : Str) = rowText ("7", .back) := by decide +kernel
theorem linesK (a b c d x : Str) : [("menu " ++ a) ++ " tries 1", (("1 call " ++ b) ++ " ") ++ d, "else again", ("menu " ++ b) ++ " tries 2", (("1 call " ++ c) ++ " ") ++ c, "else again", ("menu " ++ c) ++ " tries 3", "7 back", "else again", ("menu " ++ d) ++ " tries 1", "2 line " ++ x, "3 go " ++ a, "else main"] = boardLines (boardK a b c d x) := by
  rw [headS a [("1", .call b d)] .again, headS2 b [("1", .call c c)] .again, headS3 c [("7", .back)] .again, headS d [("2", .line x), ("3", .go a)] .main, callS, callS, line2S, go3S, againS, mainS, back7S]
  rfl
theorem linesL (a b x y : Str) : [("menu " ++ a) ++ " tries 1", "1 line " ++ x, "else out", ("menu " ++ b) ++ " tries 1", "else line " ++ y] = boardLines (loneK a b x y) := by
  rw [headS a [("1", .line x)] .out, headS b [] (.line y), line1S, elseS, outS]
  rfl
structure Names4 (a b c d : Str) : Prop where
  nd : [a, b, c, d].Nodup
  oa : okName a = true
  ob : okName b = true
  oc : okName c = true
  od : okName d = true
theorem okK {a b c d x : Str} (n : Names4 a b c d) (hx : okName x = true) : BoardOk (boardK a b c d x) := by
  obtain ⟨nd, oa, ob, oc, od⟩ := n
  have d1 : okDigit "1" = true := by decide +kernel
  have d2 : okDigit "2" = true := by decide +kernel
  have d3 : okDigit "3" = true := by decide +kernel
  have d7 : okDigit "7" = true := by decide +kernel
  have n23 : (["2", "3"] : List Str).Nodup := by decide +kernel
  refine ⟨by simp [boardK], fun m hm => ?_, nd, fun m hm y hy => ?_, by simp [boardK]⟩
  · simp only [boardK, List.mem_cons, List.not_mem_nil, or_false] at hm
    rcases hm with rfl | rfl | rfl | rfl
    · exact ⟨oa, ⟨by simp [d1, Act.ok, ob, od], by simp, by simp⟩, rfl, by simp, by simp⟩
    · exact ⟨ob, ⟨by simp [d1, Act.ok, oc], by simp, by simp⟩, rfl, by simp, by simp⟩
    · exact ⟨oc, ⟨by simp [d7, Act.ok], by simp, by simp⟩, rfl, by simp, by simp⟩
    · exact ⟨od, ⟨by simp [d2, d3, Act.ok, hx, oa], n23, by simp⟩, rfl, by simp, by simp⟩
  · show y ∈ [a, b, c, d]
    simp only [boardK, List.mem_cons, List.not_mem_nil, or_false] at hm
    rcases hm with rfl | rfl | rfl | rfl <;> simp [Menu.names, Menu.acts, Act.names] at hy ⊢
    all_goals first | (rcases hy with h | h <;> simp [h]) | simp [hy]
theorem okL {a b x y : Str} (nd : [a, b].Nodup) (oa : okName a = true) (ob : okName b = true) (hx : okName x = true) (hy : okName y = true) : BoardOk (loneK a b x y) := by
  have d1 : okDigit "1" = true := by decide +kernel
  refine ⟨by simp [loneK], fun m hm => ?_, nd, fun m hm y hy => ?_, by simp [loneK]⟩
  · simp only [loneK, List.mem_cons, List.not_mem_nil, or_false] at hm
    rcases hm with rfl | rfl
    · exact ⟨oa, ⟨by simp [d1, Act.ok, hx], by simp, by simp⟩, rfl, by simp, by simp⟩
    · exact ⟨ob, ⟨by simp, by simp, by simp⟩, hy, by simp, by simp⟩
  · simp only [loneK, List.mem_cons, List.not_mem_nil, or_false] at hm
    rcases hm with rfl | rfl <;> simp [Menu.names, Menu.acts, Act.names] at hy
end MH
set_option Elab.async false
set_option linter.all false
set_option maxRecDepth 100000
set_option maxHeartbeats 400000
namespace MH
open PySem PySem.Spec PyProof.Rows L2
/-! ### repr, str of data; sorted(xs, key=str) -/
/-- data whose text can be told -/
def ShowD (d : PyData) : Prop := d.showable = true ∧ d.hasDict = false ∧ d.depth ≤ 60 ∧ d.shown.length ≤ sizeLine
def rReprD (K : PySem.W.Frag) : List V → Hp → VK → Prop := fun xs H Q => ∃ (a : Addr) (d : PyData), xs = [V.ref a] ∧ Dp K H (.ref a) d ∧ ShowD d ∧ Q (.str d.shown) H
noncomputable def sortVK (xs : List V) (ds : List PyData) : List V := ((xs.zip ds).mergeSort (PySem.W.dataLe false fun b : V × PyData => .str b.2.shown)).map (·.1)
noncomputable def sortDK (ds : List PyData) : List PyData := ds.mergeSort (PySem.W.dataLe false fun d : PyData => .str d.shown)
theorem sortDK_perm (ds : List PyData) : (sortDK ds).Perm ds := List.mergeSort_perm _ _
theorem sortVK_perm {xs : List V} {ds : List PyData} (h : xs.length = ds.length) : (sortVK xs ds).Perm xs := by
  unfold sortVK
  have := (List.mergeSort_perm (xs.zip ds) (PySem.W.dataLe false fun b : V × PyData => .str b.2.shown)).map (·.1)
  rwa [List.map_fst_zip (by omega)] at this
theorem dpAll_zip {K : PySem.W.Frag} {H : Hp} : ∀ {xs : List V} {ds : List PyData}, DpAll K H xs ds → ∀ p ∈ xs.zip ds, Dp K H p.1 p.2
  | _, _, .nil, p, h => by simp at h
  | _, _, .cons a t, p, h => by
    rw [List.zip_cons_cons] at h
    rcases List.mem_cons.mp h with rfl | h
    · exact a
    · exact dpAll_zip t p h
theorem dpAll_unzip {K : PySem.W.Frag} {H : Hp} : ∀ {z : List (V × PyData)}, (∀ p ∈ z, Dp K H p.1 p.2) → DpAll K H (z.map (·.1)) (z.map (·.2))
  | [], _ => .nil
  | p :: z, h => .cons (h p List.mem_cons_self) (dpAll_unzip fun q hq => h q (List.mem_cons_of_mem _ hq))
theorem sortVK_dp {K : PySem.W.Frag} {H : Hp} {xs : List V} {ds : List PyData} (h : DpAll K H xs ds) : DpAll K H (sortVK xs ds) (sortDK ds) := by
  have hl := dpAll_len h
  have e : sortDK ds = ((xs.zip ds).mergeSort (PySem.W.dataLe false fun b : V × PyData => .str b.2.shown)).map (·.2) := by
    unfold sortDK
    rw [List.map_mergeSort (f := fun p : V × PyData => p.2) (s := PySem.W.dataLe false fun d : PyData => .str d.shown) (r := PySem.W.dataLe false fun b : V × PyData => .str b.2.shown) (fun a _ b _ => rfl), List.map_snd_zip (by omega)]
  rw [e]
  exact dpAll_unzip fun p hp => dpAll_zip h p ((List.mergeSort_perm _ _).mem_iff.mp hp)
def rSortStr (K : PySem.W.Frag) : List V → List V → Hp → VK → Prop := fun vs zs H Q => ∃ (a : Addr) (xs : List V) (ds : List PyData), vs = [.ref a] ∧ zs = [.ty "str"] ∧ SqL K H a xs ∧ DpAll K H xs ds ∧ (∀ x ∈ xs, ∃ t, x = .ref t) ∧ (∀ d ∈ ds, ShowD d) ∧ xs.length ≤ 100000 ∧
  ∀ p, H p = none → Q (.ref p) (upd H p (.lst (sortVK xs ds)))
theorem alike_strs {β : Type} (k : β → Str) (bs : List β) : PySem.W.AllAlike (bs.map fun b => .str (k b)) := PySem.W.AllAlike.of (enc := fun b => .str (k b)) fun _ _ => rfl
section
variable {X : Cx}
theorem each_both {pins : List (Addr × Obj)} {σ : L2.St} {H : Hp} {s : Shared} (I : Inv X pins σ H s) : ∀ {xs : List V} {us : List Value} {ds : List PyData}, Vals xs us → DpAll X.K H xs ds →
    PySem.W.EachIs (fun (u : Value) (b : V × PyData) => RelV b.1 u ∧ ∃ as, Reads s.heap u b.2 as) us (xs.zip ds)
  | _, _, _, .nil, .nil => .nil
  | _, _, _, .cons r rt, .cons d dt => .cons ⟨r, Dp.reads I _ _ _ d r⟩ (each_both I rt dt)
theorem call_reprD (gd : Gd X.A) (hu : X.A.units + 200 < cLine) : CallR X (.builtin "repr") (rReprD X.K) := by
  intro pins s σ H xs us Q I r h
  obtain ⟨a, d, rfl, hd, ⟨s1, s2, s3, s4⟩, q⟩ := h
  obtain ⟨u, rfl, ru⟩ := r.one
  cases (show u = Value.ref a from ru)
  obtain ⟨as, rd⟩ := Dp.reads I d (.ref a) (.ref a) hd rfl
  refine repr_of_reads' rd s1 (PyData.noDict_hsm s2) gd (by omega) (fun _ _ e => e) (fun h' u tk k => ?_) s4
  exact ⟨.str _, H, I.kept k, ⟨u, rfl⟩, q⟩
theorem call_strD (gd : Gd X.A) (hu : X.A.units + 200 < cLine) : CallR X (.type "str") (rReprD X.K) := by
  intro pins s σ H xs us Q I r h
  obtain ⟨a, d, rfl, hd, ⟨s1, s2, s3, s4⟩, q⟩ := h
  obtain ⟨u, rfl, ru⟩ := r.one
  cases (show u = Value.ref a from ru)
  obtain ⟨as, rd⟩ := Dp.reads I d (.ref a) (.ref a) hd rfl
  refine str_of_reads rd s1 (PyData.noDict_hsm s2) gd (by omega) (fun _ _ e => e) (fun h' u tk k => ?_) s4
  exact ⟨.str _, H, I.kept k, ⟨u, rfl⟩, q⟩
/-- sorted(xs, key=str) -/
theorem cr_sortedStr (gd : Gd X.A) (hu : X.A.units + 200 < cLine) : CallRK X (.builtin "sorted") [Str.ofString "key"] (rSortStr X.K) := by
  intro pins s σ H vs zs us ws Q I r rz h
  obtain ⟨a, xs, ds, rfl, rfl, hs, hd, hx, hsd, hl, q⟩ := h
  obtain ⟨its, rv, hls, _⟩ := I.list hs
  rw [Vals.ref1 r]
  obtain ⟨w1, rfl, e1⟩ := vals1 rz
  obtain rfl : w1 = Value.type "str" := e1
  have hlen := dpAll_len hd
  obtain ⟨e1, e2⟩ := each_rel I rv hd
  have em : (xs.zip ds).map (fun b : V × PyData => b.2) = ds := List.map_snd_zip (by omega)
  have zl : (xs.zip ds).length = xs.length := by rw [List.length_zip]; omega
  have both := each_both I rv hd
  have turn : ∀ (u : Value) (b : V × PyData), (RelV b.1 u ∧ ∃ as, Reads s.heap u b.2 as) → b ∈ xs.zip ds → ∀ (h : Heap) (tk : Nat), (∀ b o, s.heap.get? b = some o → h.get? b = some o) →
      wpAny (model X.prog X.w) X.A.in1.in1 (call (.type "str") [u]) (PySem.W.KeyPure (.str b.2.shown) { s with heap := h, toks := tk }) (fun _ _ => False) { s with heap := h, toks := tk } := by
    rintro u b ⟨hr, as, rd⟩ hb h tk kp
    have hb1 : b.1 ∈ xs := (List.of_mem_zip hb).1
    have hb2 : b.2 ∈ ds := (List.of_mem_zip hb).2
    obtain ⟨t, ht⟩ := hx _ hb1
    obtain ⟨s1, s2, s3, s4⟩ := hsd _ hb2
    rw [ht] at hr
    cases (show u = Value.ref t from hr)
    have hun : X.A.in1.in1.units + (b.2.depth + 3) < cLine := by
      show X.A.units + 1 + 1 + (b.2.depth + 3) < cLine
      omega
    exact str_of_reads (h₀ := s.heap) rd s1 (PyData.noDict_hsm s2) gd hun kp (fun h' u tk k => ⟨h', tk, rfl, k, .str _ _⟩) s4
  have hal : PySem.W.AllAlike ((xs.zip ds).map fun b : V × PyData => .str b.2.shown) := alike_strs (fun b : V × PyData => b.2.shown) _
  have hsk : PySem.W.Sortable ((xs.zip ds).map fun b : V × PyData => .str b.2.shown) := PySem.W.Sortable.others (enc := fun b : V × PyData => .str b.2.shown) fun _ => ⟨fun z => (nomatch z), fun _ z => (nomatch z)⟩
  have hL : (xs.zip ds).length ≤ sizeLine := by rw [zl]; exact Nat.le_trans hl (by decide)
  have hu2 : ∀ b ∈ xs.zip ds, X.A.units + 2 + (PyData.str b.2.shown).depth < cLine := fun b _ => by
    have e : (PyData.str b.2.shown).depth = 0 := rfl
    rw [e]
    omega
  show wpAny _ _ (call (.builtin "sorted") [.ref a] [(Str.ofString "key", .type "str")]) _ _ _
  refine PySem.W.sorted_key_data (A := X.A) (f := .type "str") (kw := [(Str.ofString "key", .type "str")]) (R := fun (u : Value) (b : V × PyData) => RelV b.1 u ∧ ∃ as, Reads s.heap u b.2 as) (b := false) (fun b : V × PyData => .str b.2.shown) hls.isList both hal hsk hL hu2 (PyProof.Rows.ksk_s1 _ _) (fun _ => PyProof.Rows.ksk_l1 _ _) (fun x => (rfl : Builtin.«list.sort» ⟨[.ref x], [(Str.ofString "key", .type "str")]⟩ = PyProof.Rows.ksk_tree x (.type "str") false)) turn (fun out c h' tk kp _ hD ol oe => ?_)
  · have rv2 : Vals (((xs.zip ds).mergeSort (PySem.W.dataLe false fun b : V × PyData => .str b.2.shown)).map (·.1)) out := vals_each (oe.mono fun _ _ z => z.1)
    have hl2 : (sortVK xs ds).length ≤ sizeLine := by rw [(sortVK_perm hlen).length_eq]; exact Nat.le_trans hl (by decide)
    exact ⟨.ref _, upd H (s.heap.objs.size + 1) (.lst (sortVK xs ds)), I.laid (t' := tk) kp (Nat.le_succ _) ⟨hl2, out, c, rv2, by simpa using hD⟩, rfl, q _ (I.hok.fresh (Nat.le_succ _))⟩
end
end MH
set_option Elab.async false
set_option linter.all false
set_option maxRecDepth 100000
set_option maxHeartbeats 4000000
namespace MH
open PySem PySem.Spec PyProof.Rows L2
/-! ### plain data: usual texts, small numbers, no dicts -/
mutual
def simD : PyData → Bool
  | .none | .bool _ => true
  | .int i => decide (0 ≤ i ∧ i < 1000000)
  | .str x => okTx x
  | .list xs | .tuple xs => simAll xs
  | .dict _ => false
def simAll : List PyData → Bool
  | [] => true
  | x :: xs => simD x && simAll xs
end
mutual
theorem sim_facts : ∀ d : PyData, simD d = true → d.showable = true ∧ d.hasDict = false ∧ d.leavesShort 20 = true ∧ d.canLay0 = true
  | .none, _ => ⟨rfl, rfl, rfl, rfl⟩
  | .bool _, _ => ⟨rfl, rfl, rfl, rfl⟩
  | .int i, h => by
    have h2 : 0 ≤ i ∧ i < 1000000 := of_decide_eq_true (by rw [simD] at h; exact h)
    have sm : Small (some i) := fun v e => by
      cases e
      have z : (1000000 : Int) < 2 ^ 40 := by decide
      omega
    exact ⟨(showable_nD (some i)).trans (small_fit sm), rfl, small_short (a := some i) sm, rfl⟩
  | .str x, h => by
    have h2 : okTx x = true := by rw [simD] at h; exact h
    refine ⟨rfl, rfl, ?_, strOk_of h2⟩
    simp only [PyData.leavesShort, List.all_eq_true, decide_eq_true_eq]
    intro c hc
    have := of_decide_eq_true (List.all_eq_true.mp h2 c hc)
    exact Nat.lt_trans this (by decide)
  | .list xs, h => by
    obtain ⟨a, b, c, d⟩ := sim_factsAll xs (by rw [simD] at h; exact h)
    exact ⟨by rw [PyData.showable]; exact a, by rw [PyData.hasDict]; exact b, by rw [PyData.leavesShort]; exact c, by rw [PyData.canLay0]; exact d⟩
  | .tuple xs, h => by
    obtain ⟨a, b, c, d⟩ := sim_factsAll xs (by rw [simD] at h; exact h)
    exact ⟨by rw [PyData.showable]; exact a, by rw [PyData.hasDict]; exact b, by rw [PyData.leavesShort]; exact c, by rw [PyData.canLay0]; exact d⟩
  | .dict _, h => by rw [simD] at h; cases h
theorem sim_factsAll : ∀ ds : List PyData, simAll ds = true → PyData.showableAll ds = true ∧ PyData.hasDictAll ds = false ∧ PyData.leavesShortAll 20 ds = true ∧ PyData.canLayAll0 ds = true
  | [], _ => ⟨rfl, rfl, rfl, rfl⟩
  | d :: ds, h => by
    rw [simAll, Bool.and_eq_true] at h
    obtain ⟨a, b, c, e⟩ := sim_facts d h.1
    obtain ⟨a2, b2, c2, e2⟩ := sim_factsAll ds h.2
    exact ⟨by rw [PyData.showableAll, a, a2]; rfl, by rw [PyData.hasDictAll, b, b2]; rfl, by rw [PyData.leavesShortAll, c, c2]; rfl, by rw [PyData.canLayAll0, e, e2]; rfl⟩
end
theorem simAll_of {ds : List PyData} (h : ∀ d ∈ ds, simD d = true) : simAll ds = true := by
  induction ds with
  | nil => rfl
  | cons d ds ih => rw [simAll, h d List.mem_cons_self, ih fun x hx => h x (List.mem_cons_of_mem _ hx)]; rfl
theorem sim_show {d : PyData} (h : simD d = true) (hd : d.depth ≤ 60) (hb : d.bulk ≤ 4000) : ShowD d := by
  obtain ⟨a, b, c, _⟩ := sim_facts d h
  refine ⟨a, b, hd, line_of ?_⟩
  have := PyData.shown_le_bulk 20 (by decide) d c
  omega
theorem sim_shaped {d : PyData} (h : simD d = true) (hd : d.depth ≤ 60) : SeqAt.shaped d = true := by
  obtain ⟨_, _, _, e⟩ := sim_facts d h
  show (d.canLay0 && decide (d.depth ≤ 64)) = true
  rw [e, Bool.true_and]
  exact decide_eq_true (by omega)
theorem depthAll_le {n : Nat} {ds : List PyData} (h : ∀ d ∈ ds, d.depth ≤ n) : PyData.depthAll ds ≤ n := by
  induction ds with
  | nil => exact Nat.zero_le _
  | cons d ds ih =>
    have a := h d List.mem_cons_self
    have b := ih fun x hx => h x (List.mem_cons_of_mem _ hx)
    rw [PyData.depthAll]
    omega
theorem bulkAll_le {n : Nat} {ds : List PyData} (h : ∀ d ∈ ds, d.bulk ≤ n) : PyData.bulkAll ds ≤ (n + 1) * ds.length := by
  induction ds with
  | nil => exact Nat.zero_le _
  | cons d ds ih =>
    have a := h d List.mem_cons_self
    have b := ih fun x hx => h x (List.mem_cons_of_mem _ hx)
    rw [PyData.bulkAll, List.length_cons, Nat.mul_add]
    omega
/-! ### lists of numbers compared -/
theorem eqv_num (a b : Option Int) : PyData.eqv (nD a) (nD b) = decide (a = b) := by
  cases a with
  | none =>
    cases b with
    | none => rfl
    | some j => exact (decide_eq_false fun z => by cases z).symm
  | some i =>
    cases b with
    | none => exact (decide_eq_false fun z => by cases z).symm
    | some j =>
      show decide (i = j) = _
      exact decide_eq_decide.mpr ⟨fun e => by rw [e], fun e => Option.some.inj e⟩
theorem eqv_nums : ∀ (ns ms : List (Option Int)), PyData.eqv (.list (ns.map nD)) (.list (ms.map nD)) = decide (ns = ms)
  | [], [] => rfl
  | [], m :: ms => (decide_eq_false fun z => by cases z).symm
  | n :: ns, [] => (decide_eq_false fun z => by cases z).symm
  | n :: ns, m :: ms => by
    have ih := eqv_nums ns ms
    simp only [PyData.eqv, List.map_cons, PyData.eqvAll] at ih ⊢
    rw [ih, eqv_num]
    by_cases e : n = m
    · by_cases e2 : ns = ms
      · simp [e, e2]
      · simp [e, e2]
    · simp [e]
theorem nums_lay : ∀ ns : List (Option Int), PyData.canLayAll0 (ns.map nD) = true
  | [] => rfl
  | n :: ns => by
    rw [List.map_cons, PyData.canLayAll0, nums_lay ns]
    cases n <;> rfl
theorem nums_shaped (ns : List (Option Int)) : SeqAt.shaped (.list (ns.map nD)) = true := by
  show (PyData.canLay0 (.list (ns.map nD)) && decide ((PyData.list (ns.map nD)).depth ≤ 64)) = true
  rw [PyData.canLay0, nums_lay, PyData.depth, list_depth]
  rfl
/-! ### tuples of texts -/
def strsD (xs : List Str) : PyData := .tuple (xs.map PyData.str)
def StrsV (H : Hp) (x : V) (xs : List Str) : Prop := ∃ t, x = .ref t ∧ H t = some (.tup (xs.map V.str))
theorem StrsV.same {H H' : Hp} {x : V} {xs : List Str} (s : Same H H') (h : StrsV H x xs) : StrsV H' x xs := let ⟨t, a, b⟩ := h; ⟨t, a, s _ _ b⟩
theorem StrsV.fz {Fr : Addr → Prop} {H H' : Hp} {x : V} {xs : List Str} (s : Fz Fr H H') (h : StrsV H x xs) : StrsV H' x xs := let ⟨t, a, b⟩ := h; ⟨t, a, s _ _ b trivial⟩
theorem strs_dpl {K : PySem.W.Frag} {H : Hp} : ∀ (ys : List Str), DpAll K H (ys.map V.str) (ys.map PyData.str)
  | [] => .nil
  | y :: ys => .cons (.str y) (strs_dpl ys)
theorem StrsV.dp {K : PySem.W.Frag} {H : Hp} {x : V} {xs : List Str} (h : StrsV H x xs) : Dp K H x (strsD xs) := by
  obtain ⟨t, rfl, e⟩ := h
  exact .tup (sqT e) (strs_dpl xs)
theorem strsAll_dp {K : PySem.W.Frag} {H : Hp} : ∀ {vs : List V} {ps : List (List Str)}, Paired (StrsV H) vs ps → DpAll K H vs (ps.map strsD)
  | _, _, .nil => .nil
  | _, _, .cons h t => .cons h.dp (strsAll_dp t)
theorem strsD_sim {xs : List Str} (h : ∀ x ∈ xs, okTx x = true) : simD (strsD xs) = true := by
  unfold strsD
  rw [simD]
  exact simAll_of fun d hd => by
    obtain ⟨x, hx, rfl⟩ := List.mem_map.mp hd
    rw [simD]
    exact h x hx
theorem strsD_depth (xs : List Str) : (strsD xs).depth ≤ 1 := by
  unfold strsD
  rw [PyData.depth]
  have := depthAll_le (n := 0) (ds := xs.map PyData.str) fun d hd => by
    obtain ⟨x, hx, rfl⟩ := List.mem_map.mp hd
    exact Nat.le_refl _
  omega
theorem strsD_bulk {n : Nat} {xs : List Str} (h : ∀ x ∈ xs, x.length ≤ n) : (strsD xs).bulk ≤ (n + 1) * xs.length := by
  unfold strsD
  rw [PyData.bulk]
  have := bulkAll_le (n := n) (ds := xs.map PyData.str) fun d hd => by
    obtain ⟨x, hx, rfl⟩ := List.mem_map.mp hd
    exact h x hx
  rwa [List.length_map] at this
end MH
set_option Elab.async false
set_option linter.all false
set_option maxRecDepth 100000
set_option maxHeartbeats 4000000
namespace MH
open PySem PySem.Spec PyProof.Rows L2
/-! ### the numbers of the written boards -/
theorem leN_cases {a : Option Int} {n : Int} (h : leN a (some n)) : ∃ v, a = some v ∧ v ≤ n := by
  cases a with
  | none => exact absurd h (by simp [leN, belowN])
  | some v => exact ⟨v, rfl, leN_some.mp h⟩
theorem leN_lo {a : Option Int} {n : Int} (h : leN (some n) a) {v : Int} (e : a = some v) : n ≤ v := by
  rw [e] at h
  exact leN_some.mp h
theorem runK {a b c d x : Str} (n : Names4 a b c d) (hx : okName x = true) {s : SState} (run : Runs (some x) (boardK a b c d x) sums0 s) : s.to a = some 5 := by
  have ok := okK n hx
  have nd := n.nd
  simp only [List.nodup_cons, List.mem_cons, List.not_mem_nil, or_false, not_or] at nd
  obtain ⟨⟨ab, ac, ad⟩, ⟨bc, bd⟩, cd, -⟩ := nd
  have cl := run.closed
  have cC := (cl ⟨c, [("7", .back)], .again, 3, false⟩ (by simp [boardK]) (1, "7", .back) (by simp [Menu.steps, rowStep])).2
  have cB := (cl ⟨b, [("1", .call c c)], .again, 2, false⟩ (by simp [boardK]) (1, "1", .call c c) (by simp [Menu.steps, rowStep])).2
  have cA := (cl ⟨a, [("1", .call b d)], .again, 1, false⟩ (by simp [boardK]) (1, "1", .call b d) (by simp [Menu.steps, rowStep])).1 (plusN (s.home b) (s.to d), true) (by simp [waysTo])
  have cD := (cl ⟨d, [("2", .line x), ("3", .go a)], .main, 1, false⟩ (by simp [boardK]) (1, "2", .line x) (by simp [Menu.steps, rowStep])).1 (some 0, false) (by simp [waysTo, toldTo])
  have cC : leN (s.home c) (some 1) := cC
  have cB : leN (s.home b) (plusN (some 1) (plusN (s.home c) (s.home c))) := cB
  have cA : leN (s.to a) (plusN (some 1) (plusN (s.home b) (s.to d))) := cA
  have cD : leN (s.to d) (some 1) := cD
  obtain ⟨vc, ec, lc⟩ := leN_cases cC
  rw [ec] at cB
  obtain ⟨vb, eb, lb⟩ := leN_cases cB
  obtain ⟨vd, ed, ld⟩ := leN_cases cD
  rw [eb, ed] at cA
  obtain ⟨va, ea, la⟩ := leN_cases cA
  have lo := run.greatest ok (t := ⟨fun z => if z = a then some 5 else if z = d then some 1 else none, fun z => if z = b then some 3 else if z = c then some 1 else none, fun _ => none, fun _ => none⟩) (by
    intro m hm st hst
    simp only [boardK, List.mem_cons, List.not_mem_nil, or_false] at hm
    rcases hm with rfl | rfl | rfl | rfl <;> simp only [Menu.steps, rowStep, tailStep, List.map_cons, List.map_nil, List.cons_append, List.nil_append, List.mem_cons, List.not_mem_nil, or_false] at hst
    all_goals
      first
        | (rcases hst with rfl | rfl | rfl)
        | (rcases hst with rfl | rfl)
    all_goals
      simp [StepOk, waysTo, toldTo, toldHome, boardK, firstOf, plusN, leN, belowN, Ne.symm ab, Ne.symm ac, Ne.symm ad, Ne.symm bc, Ne.symm bd, Ne.symm cd, ab, ac, ad, bc, bd, cd])
  have lo2 : leN (some 5) (s.to a) := by
    have h := lo.to a (by simp [boardK, namesOf])
    simpa using h
  have la2 := leN_lo lo2 ea
  have e5 : va = 5 := by
    have h3 : va ≤ 1 + (vb + vd) := la
    have h4 : vb ≤ 1 + (vc + vc) := lb
    omega
  rw [ea, e5]
theorem runLx {a b x y : Str} (ne : x ≠ y) {s : SState} (run : Runs (some x) (loneK a b x y) sums0 s) : s.to a ≠ none := by
  have cl := run.closed
  have cA := (cl ⟨a, [("1", .line x)], .out, 1, false⟩ (by simp [loneK]) (1, "1", .line x) (by simp [Menu.steps, rowStep])).1 (some 0, false) (by simp [waysTo, toldTo])
  have cA : leN (s.to a) (some 1) := cA
  obtain ⟨v, e, _⟩ := leN_cases cA
  rw [e]
  exact fun z => by cases z
theorem runLy {a b x y : Str} (nd : [a, b].Nodup) (oa : okName a = true) (ob : okName b = true) (hx : okName x = true) (hy : okName y = true) (ne : x ≠ y) {s : SState} (run : Runs (some y) (loneK a b x y) sums0 s) : s.to a = none := by
  have ab : a ≠ b := by
    simp only [List.nodup_cons, List.mem_cons, List.not_mem_nil, or_false] at nd
    exact nd.1
  have lV : ¬ lV (some x) = lV (some y) := fun e => ne (V.str.inj e)
  have lo := run.greatest (okL nd oa ob hx hy) (t := ⟨fun z => if z = b then some 0 else none, fun _ => none, fun _ => none, fun _ => none⟩) (by
    intro m hm st hst
    simp only [loneK, List.mem_cons, List.not_mem_nil, or_false] at hm
    rcases hm with rfl | rfl <;> simp only [Menu.steps, rowStep, tailStep, List.map_cons, List.map_nil, List.cons_append, List.nil_append, List.mem_cons, List.not_mem_nil, or_false] at hst
    all_goals
      first
        | (rcases hst with rfl | rfl)
        | subst hst
    all_goals
      simp [StepOk, waysTo, toldTo, toldHome, loneK, firstOf, plusN, leN, belowN, lV, ab])
  have h := lo.to a (by simp [loneK, namesOf])
  have h2 : leN none (s.to a) := by simpa [ab] using h
  exact none_leN h2
/-! ### entries -/
def entE (n : Str) (p q : Option Int) : PyData := .tuple [.str n, nD p, nD q]
theorem find_perm {es : List PyData} (nd : (es.map nameD).Nodup) {e : PyData} (h : e ∈ es) : (es.find? fun z => nameD z == nameD e) = some e := by
  induction es with
  | nil => cases h
  | cons z es ih =>
    have nd2 := List.nodup_cons.mp (show (nameD z :: es.map nameD).Nodup from nd)
    rw [List.find?_cons]
    rcases List.mem_cons.mp h with rfl | h2
    · simp
    · have ne : (nameD z == nameD e) = false := beq_eq_false_iff_ne.mpr fun q => nd2.1 (by rw [q]; exact List.mem_map_of_mem h2)
      rw [ne]
      exact ih nd2.2 h2
theorem numD_nD (p : Option Int) : numD (nD p) = p := by cases p <;> rfl
theorem paperTo_ent {es : List PyData} (nd : (es.map nameD).Nodup) {n : Str} {p q : Option Int} (h : entE n p q ∈ es) : paperTo (.tuple es) n = p ∧ paperHome (.tuple es) n = q := by
  have f := find_perm nd h
  have f2 : ((itemsD (.tuple es)).find? fun e => nameD e == n) = some (entE n p q) := f
  unfold paperTo paperHome
  rw [f2]
  exact ⟨numD_nD p, numD_nD q⟩
/-- what paper_holds tells of four numbers and four more -/
def valsK (pa ha pb hb pc hc pd hd least : Option Int) : Bool :=
  !belowN pa least &&
  (((!belowN (plusN (some 1) (lesserN pb (plusN hb pd))) pa && !belowN (plusN (some 1) (plusN hb hd)) ha) && (!belowN (plusN (some 0) pa) pa && !belowN (plusN (some 0) ha) ha)) &&
  (((!belowN (plusN (some 1) (lesserN pc (plusN hc pc))) pb && !belowN (plusN (some 1) (plusN hc hc)) hb) && (!belowN (plusN (some 0) pb) pb && !belowN (plusN (some 0) hb) hb)) &&
  (((!belowN none pc && !belowN (some 1) hc) && (!belowN (plusN (some 0) pc) pc && !belowN (plusN (some 0) hc) hc)) &&
  ((!belowN (some 1) pd && !belowN none hd) && ((!belowN (plusN (some 1) pa) pd && !belowN (plusN (some 1) ha) hd) && (!belowN (plusN (some 0) pa) pd && !belowN none hd))))))
def posN : Option Int → Bool
  | none => true
  | some i => decide (0 ≤ i)
theorem countD_nD {p : Option Int} (h : posN p = true) : countD (nD p) = true := by
  cases p with
  | none => rfl
  | some i => simpa [posN, countD, nD] using h
theorem holdsK {a b c d x : Str} (n : Names4 a b c d) {pa ha pb hb pc hc pd hd least : Option Int} (pos : (posN pa && posN ha && posN pb && posN hb && posN pc && posN hc && posN pd && posN hd) = true) {es : List PyData} (pm : es.Perm [entE a pa ha, entE b pb hb, entE c pc hc, entE d pd hd]) :
    holdsD (boardK a b c d x) x least (.tuple es) = valsK pa ha pb hb pc hc pd hd least := by
  have nm : (es.map nameD).Perm [a, b, c, d] := pm.map nameD
  have nd : (es.map nameD).Nodup := nm.nodup_iff.mpr n.nd
  simp only [Bool.and_eq_true] at pos
  obtain ⟨⟨⟨⟨⟨⟨⟨p1, p2⟩, p3⟩, p4⟩, p5⟩, p6⟩, p7⟩, p8⟩ := pos
  obtain ⟨a1, a2⟩ := paperTo_ent nd (pm.mem_iff.mpr (show entE a pa ha ∈ _ by simp))
  obtain ⟨b1, b2⟩ := paperTo_ent nd (pm.mem_iff.mpr (show entE b pb hb ∈ _ by simp))
  obtain ⟨c1, c2⟩ := paperTo_ent nd (pm.mem_iff.mpr (show entE c pc hc ∈ _ by simp))
  obtain ⟨d1, d2⟩ := paperTo_ent nd (pm.mem_iff.mpr (show entE d pd hd ∈ _ by simp))
  have fm : formedD (namesOf (boardK a b c d x)) (.tuple es) = true := by
    have h1 : decide ((itemsD (.tuple es)).length = (namesOf (boardK a b c d x)).length) = true := decide_eq_true pm.length_eq
    have h3 : decide (((itemsD (.tuple es)).map nameD).Nodup) = true := decide_eq_true nd
    unfold formedD
    rw [h1, h3, Bool.and_true, Bool.true_and]
    show (true && _) = true
    rw [Bool.true_and]
    refine List.all_eq_true.mpr fun e he => ?_
    have he := pm.mem_iff.mp he
    simp only [List.mem_cons, List.not_mem_nil, or_false] at he
    rcases he with rfl | rfl | rfl | rfl <;> simp [entE, entryD, entry3, boardK, namesOf, countD_nD p1, countD_nD p2, countD_nD p3, countD_nD p4, countD_nD p5, countD_nD p6, countD_nD p7, countD_nD p8]
  unfold holdsD
  rw [fm, Bool.true_and]
  show (!belowN (paperTo (.tuple es) a) least && _) = _
  rw [a1]
  unfold valsK
  congr 1
  simp [boardK, borneB, borneStep, Menu.steps, rowStep, tailStep, toldTo, toldHome, firstOf, a1, a2, b1, b2, c1, c2, d1, d2, plusN, Bool.and_assoc]
end MH
set_option Elab.async false
set_option linter.all false
set_option maxRecDepth 100000
set_option maxHeartbeats 4000000
namespace MH
open PySem PySem.Spec PyProof.Rows L2
section
variable {P : Program} {w : World} {K : PySem.W.Frag} {mg : Str → Option Value} {base : Heap}
/-! ### fewest, from a stack of one menu to a line -/
def sp_fewest (K : PySem.W.Frag) (CB CM : Addr) : Sp := fun vs H Q _ => ∃ (z l : Addr) (B : List Menu) (x g : Str) (dx mt nt lt : Addr) (xs : List V) (ys : List Str), vs = [.ref z, .ref l, .str g] ∧ BoardIs CB CM H z B dx mt nt lt xs ys ∧ BoardOk B ∧ g ∈ ys ∧ g ≠ "back" ∧ SqL K H l [.str x] ∧ x ∈ namesOf B ∧
  ∀ s H', Same H H' → Runs (some g) B sums0 s → Q (nV (s.to x)) H'
theorem sc_fewest : FnScope ["board", "stack", "goal", "sums", "found", "name"] ["board", "stack", "goal"] (defScope s_fewest) := ⟨rfl, rfl, rfl, by decide +kernel, rfl, by decide +kernel, by decide +kernel⟩
theorem ok_fewest {CS CB CM : Addr} (G : Glo K mg "fewest" s_fewest) (T : Blt mg) (O : ObjC K CS sumsNames) (OB : ObjC K CB ["menus", "names", "first", "lines"]) (D1 : CalX P w K mg base CX0 3 "need_stack" (sp_need_stack K CB CM)) (D2 : MakX P w K mg base CX0 6 "Sums" CS (sp_sums_init CS CB CM))
    (D3 : CalX P w K mg base CX0 1 "plus" sp_plus) (D4 : CalX P w K mg base CX0 1 "lesser" sp_lesser) : CalX P w K mg base CX0 8 "fewest" (sp_fewest K CB CM) := by
  obtain ⟨fS, fdS, psS, MS, FS, gS, bS⟩ := D2.ex
  refine mkCal G sc_fewest (fun vs H Q E h => ?_) (fun _ _ _ _ _ _ us hl => match us, hl with | [_, _, _], _ => rfl) (fun f cdv A outer s0 H vs Q E hr h => ?_)
  · obtain ⟨z, l, B, x, g, _, _, _, _, _, _, rfl, _⟩ := h
    rfl
  · obtain ⟨z, l, B, x, g, dx, mt, nt, lt, xs, ys, rfl, hB, ok, hg, gb, hl, hx, k⟩ := h
    have nd := sc_fewest.nd
    have hu := hu_of hr
    have flat : (ys.map V.str).all flatV = true := by rw [List.all_map]; exact List.all_eq_true.mpr fun _ _ => rfl
    have hin : inV (.str g) (ys.map V.str) = true := by rw [inV_strs]; exact List.contains_iff_mem.mpr hg
    have gd : decide (V.str g = V.str "back") = false := decide_eq_false fun q => gb (V.str.inj q)
    refine ⟨_, pss_cons (ps_expr (pe_cal (j := 7) D1 hr (by decide) pass0 (pa_cons (pv 0) (pa_cons (pv 1) pa_nil))))
      (pss_cons (ps_if (PW.pt (pw_or (pt_not (pt_val (pe_callB call_isi (by rfl) T.isinstance boot_isinstance (pa_cons (pv 2) (pa_cons (pe_bltn (v := .ty "str") (by rfl) T.str boot_str rfl) pa_nil)))))
          (pw_or1 (PW.pt (pw_and (pt_cmpR op_ne (pv 2) pe_str (nomark _)) (pw_and1 (pt_cmpR op_notIn_seq (pv 2) (pe_fld (pv 0) (by rfl)) (by rfl)))))))) (pss_one ps_never) pss_nil)
      (pss_cons (ps_set (i := 3) nd rfl (Or.inl rfl) (pe_make MS FS (hr.mono (by decide)) (by rfl) gS bS .nil pass0 (pa_cons (pv 0) (pa_cons (pv 2) pa_nil))))
      (pss_cons (ps_set (i := 4) nd rfl (Or.inl rfl) (pe_ifExp (pt_cmpR op_eq (pv 2) pe_str (nomark _)) pe_int pe_non))
      (pss_cons (ps_for (passes_of rfl) rfl (pi_list (pe_revL (pe_callTy call_list_of (by rfl) T.list boot_list (pa_cons (pv 1) pa_nil)))) (pg_name (i := 5) nd rfl (Or.inl rfl))
        (pss_cons (ps_set (i := 4) nd rfl (Or.inl rfl) (pe_cal (j := 7) D3 hr (by decide) pass0 (pa_cons (pe_dget hu (pe_fld (pv 3) (by rfl)) (pv 5) (fun _ _ => rfl)) (pa_cons (pv 4) pa_nil))))
        (pss_one (ps_if (pt_cmpR op_ne (pv 2) pe_str (nomark _)) (pss_one (ps_set (i := 4) nd rfl (Or.inl rfl) (pe_cal (j := 7) D4 hr (by decide) pass0 (pa_cons (pe_dget hu (pe_fld (pv 3) (by rfl)) (pv 5) (fun _ _ => rfl)) (pa_cons (pv 4) pa_nil))))) pss_nil))))
      (pss_one (ps_ret (pv 4))))))), ?_⟩
    refine ⟨_, rfl, _, rfl, z, l, B, [x], rfl, ⟨_, _, _, _, _, _, hB⟩, .inl hl, (fun q => by cases q), (fun y hy => by rw [List.mem_singleton.mp hy]; exact hx), fun H1 s1 => ?_⟩
    have hB1 := hB.mono (Fr := fun _ => True) trivial trivial (Fz.of s1)
    refine ⟨_, rfl, _, _, _, _, true, rfl, .ty "str", .base (.str _), kit_ty (by decide +kernel), true, rfl, iteF ?_⟩
    refine ⟨_, rfl, rfl, _, rfl, ?_⟩
    rw [gd]
    refine iteT ⟨_, rfl, _, rfl, z, CB, dx, _, _, rfl, hB1.at_, OB.cls, OB.no _ (by simp), rfl, lt, _, rfl, .inr (sqT hB1.lines), rfl, flat, ?_⟩
    show ∃ b, V.bl (!inV (.str g) (ys.map V.str)) = V.bl b ∧ _
    rw [hin]
    refine ⟨false, rfl, iteF ?_⟩
    refine ⟨_, rfl, _, rfl, fun sz sdx hsz hsdx hne2 => ⟨sz, sdx, z, B, some g, rfl, upd_same, BoardAt.same (made_same (C := CS) hsz hsdx) ⟨_, _, _, _, _, _, hB1⟩, ok, fun dt dh bt bh s H2 b2 hS run => ⟨rfl, ?_⟩⟩⟩
    have s2 : Same H H2 := s1.trans (But.made hsz hsdx b2)
    refine ⟨_, rfl, rfl, _, rfl, ?_⟩
    rw [gd]
    refine iteF ?_
    refine ⟨_, rfl, l, _, rfl, .inl (same_l s2 hl), fun l2 hl2 => ⟨l2, _, rfl, sqL upd_same, fun l3 hl3 => ⟨l3, rfl, ⟨_, sqL upd_same⟩, ?_⟩⟩⟩
    have s3 := (Same.upd (o := .lst [.str x]) hl2).trans (Same.upd (o := .lst ([V.str x].reverse)) hl3)
    have e3 : (upd (upd H2 l2 (.lst [.str x])) l3 (.lst ([V.str x].reverse))) l3 = some (.lst [.str x]) := upd_same
    generalize upd (upd H2 l2 (.lst [.str x])) l3 (.lst ([V.str x].reverse)) = H3 at s3 e3 ⊢
    have hS3 := hS.same s3
    refine for_it (walk_list (K := K) (xs := [V.str x])) (fun j σ Hz => Hz = H3 ∧ ∃ b, σ = [some (.ref z), some (.ref l), some (.str g), some (.ref sz), some (if j = 0 then V.non else nV (s.to x)), b])
      ⟨rfl, _, rfl⟩ (fun j σ Hz _ q => by rw [q.1]; exact sqL e3) (fun j v σ Hz0 Hz hj ⟨hz, b, hσ⟩ y => ?_) (fun σ Hz ⟨hz, b, hσ⟩ => ?_)
    · subst hσ
      obtain ⟨rfl, hv⟩ := y
      subst hz
      have j0 : j = 0 := by simp at hj; omega
      subst j0
      have hv : v = .str x := by simpa using hv.symm
      subst hv
      obtain ⟨dx2, hz2⟩ := hS3.at_
      refine ⟨_, rfl, sz, CS, dx2, _, _, rfl, hz2, O.cls, O.no _ (by simp [sumsNames]), rfl, _, rfl, dh, _, rfl, hS3.home.get hx, _, rfl, s.home x, none, rfl, ?_⟩
      refine ⟨_, rfl, rfl, _, rfl, ?_⟩
      rw [gd]
      refine iteT ?_
      refine ⟨_, rfl, sz, CS, dx2, _, _, rfl, hz2, O.cls, O.no _ (by simp [sumsNames]), rfl, _, rfl, dt, _, rfl, hS3.to.get hx, _, rfl, s.to x, plusN (s.home x) none, rfl, ?_⟩
      have e : lesserN (s.to x) (plusN (s.home x) none) = s.to x := by
        cases s.home x <;> cases s.to x <;> rfl
      rw [e]
      exact ⟨rfl, some (.str x), rfl⟩
    · subst hσ
      rw [hz]
      exact ⟨_, rfl, k s H3 (s2.trans s3) run⟩
end
end MH
set_option Elab.async false
set_option linter.all false
set_option maxRecDepth 100000
set_option maxHeartbeats 4000000
namespace MH
open PySem PySem.Spec PyProof.Rows L2
/-! ### a class called, a method called, by their promises -/
section
variable {X : Cx} {CX : CXT} {k j : Nat} {x : Str} {C : Addr} {sp : Sp} {E : XK} {p pos apos : Pos} {o e : Expr} {es : List Expr} {t : TA} {ta : TE}
theorem pe_mak (c : MakX X.prog X.w X.K X.mg X.base CX k x C sp) (hr : Room j X.A) (hk : k + 1 ≤ j) (hx : Passes CX X E) (ha : PA X (e :: es) t) (hg : Gl X x := by rfl)
    (hdb : (x == ("__debug__" : Str)) = false := by decide) (he : starEach (e :: es) X.env = (false, eval e X.env) :: starEach es X.env := by rfl) (hpl : (backTo pos (starEach es X.env)).any (·.1) = false := by rfl) :
    PE X (.Call (.Name x p) (e :: es) [] pos) (tMake C sp [] E t) := by
  obtain ⟨f, fd, ps, M, F, hm, bd⟩ := c.ex
  exact pe_make M F (hr.mono hk) hg hm bd .nil hx ha hdb he hpl
theorem pe_met {m : Str} {pl : Sem Bool} (O : Cls X.K C) (c : MetX X.prog X.w X.K X.mg X.base CX k C m sp) (hr : Room j X.A) (hk : k ≤ j) (hx : Passes CX X E) (ho : PE X o ta) (ha : PA X (e :: es) t)
    (hst : starEach (e :: es) X.env = (false, eval e X.env) :: starEach es X.env := by rfl) (hpl : (backTo pos (starEach es X.env)).any (·.1) = false := by rfl)
    (ht : eval (.Call (.Attribute o m apos) (e :: es) [] pos) X.env = (do
      let ov ← eval o X.env
      standAt apos.atName
      let (f, first) ← holding [ov] (getMethod ov m pl)
      callWith pos f first (backTo pos (starEach (e :: es) X.env)) (backToKw pos (keywordEach [] X.env))) := by rfl) :
    PE X (.Call (.Attribute o m apos) (e :: es) [] pos) (tMeth C m sp [] E ta t) := by
  obtain ⟨f, fd, ps, M, F, bd⟩ := c.ex
  exact pe_meth ho O M F (hr.mono hk) bd .nil hx ha hst hpl ht
end
end MH
set_option Elab.async false
set_option linter.all false
set_option maxRecDepth 100000
set_option maxHeartbeats 4000000
namespace MH
open PySem PySem.Spec PyProof.Rows L2
theorem Runs.det {line : Option Str} {B : List Menu} {s r r' : SState} (h : Runs line B s r) (h' : Runs line B s r') : r = r' := by
  induction h with
  | done e =>
    cases h' with
    | done e' => rfl
    | more e' _ => rw [e] at e'; cases e'
  | more e k ih =>
    cases h' with
    | done e' => rw [e] at e'; cases e'
    | more e' k' => exact ih k'
/-- no way to the line from the board's first menu -/
noncomputable def neverB (B : List Menu) (g : Str) : Bool := @decide (∃ s, Runs (some g) B sums0 s ∧ s.to (firstOf B) = none) (Classical.propDecidable _)
theorem neverB_of {B : List Menu} {g : Str} {s : SState} (run : Runs (some g) B sums0 s) : neverB B g = (s.to (firstOf B)).isNone := by
  unfold neverB
  cases e : s.to (firstOf B) with
  | none => exact @decide_eq_true _ (Classical.propDecidable _) ⟨s, run, e⟩
  | some v => exact @decide_eq_false _ (Classical.propDecidable _) fun ⟨s', r', e'⟩ => by rw [run.det r', e'] at e; cases e
theorem strs_optsN {q : Str → Bool} : ∀ {os : List (Option V)} {xs : List Str}, os.length = xs.length → (∀ (i : Nat) (o : Option V), os[i]? = some o → ∃ x, xs[i]? = some x ∧ ((q x = false ∧ o = none) ∨ (q x = true ∧ o = some (.str x)))) → os.filterMap id = (xs.filter q).map V.str
  | [], [], _, _ => rfl
  | [], _ :: _, h, _ => by cases h
  | _ :: _, [], h, _ => by cases h
  | o :: os, x :: xs, hl, h => by
    have ih := strs_optsN (q := q) (os := os) (xs := xs) (by simpa using hl) fun i o' h' => by
      have := h (i + 1) o' (by simpa using h')
      simpa using this
    obtain ⟨x', h1, h2⟩ := h 0 o rfl
    cases h1
    rcases h2 with ⟨h3, rfl⟩ | ⟨h3, rfl⟩
    · rw [List.filter_cons_of_neg (by rw [h3]; decide)]
      exact ih
    · rw [List.filter_cons_of_pos h3, List.map_cons, ← ih]
      rfl
section
variable {P : Program} {w : World} {K : PySem.W.Frag} {mg : Str → Option Value} {base : Heap}
/-! ### never -/
def sp_never (CB CM : Addr) : Sp := fun vs H Q _ => ∃ (z : Addr) (B : List Menu) (dx mt nt lt : Addr) (xs : List V) (ys : List Str), vs = [.ref z] ∧ BoardIs CB CM H z B dx mt nt lt xs ys ∧ BoardOk B ∧ ys.length ≤ 1000 ∧
  ∀ p H', Same H H' → H' p = some (.tup ((ys.filter (neverB B)).map V.str)) → Q (.ref p) H'
theorem sc_never : FnScope ["board", "line"] ["board"] (defScope s_never) := ⟨rfl, rfl, rfl, by decide +kernel, rfl, by decide +kernel, by decide +kernel⟩
theorem ok_never {CS CB CM : Addr} (G : Glo K mg "never" s_never) (T : Blt mg) (O : ObjC K CS sumsNames) (OB : ObjC K CB ["menus", "names", "first", "lines"]) (DS : MakX P w K mg base CX0 6 "Sums" CS (sp_sums_init CS CB CM)) : CalX P w K mg base CX0 9 "never" (sp_never CB CM) := by
  refine mkCal G sc_never (fun vs H Q E h => ?_) (fun _ _ _ _ _ _ us hl => match us, hl with | [_], _ => rfl) (fun f cdv A outer s0 H vs Q E hr h => ?_)
  · obtain ⟨z, B, _, _, _, _, _, _, rfl, _⟩ := h
    rfl
  · obtain ⟨z, B, dx, mt, nt, lt, xs, ys, rfl, hB, ok, few, k⟩ := h
    have nd := sc_never.nd
    have hu := hu_of hr
    refine ⟨_, pss_one (ps_ret (pe_callTy call_tuple_of (by rfl) T.tuple boot_tuple (pa_cons (pe_lc (te := tVar 1) (tt := tTest (tOp (fun x y H Q => y = V.non ∧ Q (.bl (decide (x = .non))) H) (tDGet (tFld K (tMake CS (sp_sums_init CS CB CM) [] E0 (tCons (tVar 0) (tCons (tVar 1) tNil))) "to") (tFld K (tVar 0) "first")) (tC .non))) (own := [("line", 1)]) (g := gName 1) rfl nd (pi_tup (pe_fld (pv 0) (by rfl)))
            (blkOk_by (own := [("line", 1)]) (N := ["board", "line"]) (sc := defScope s_never) (by decide +kernel)) (fun _ _ _ _ _ => pg_name (i := 1) nd rfl (Or.inl rfl)) (fun _ _ _ _ _ => pts_one (pt_cmpR op_isN (pe_dget hu (pe_fld (pe_mak (j := 8) DS (hr.mono (by decide)) (by decide) pass0 (pa_cons (pv 0) (pa_cons (pv 1) pa_nil))) (by rfl)) (pe_fld (pv 0) (by rfl)) (fun _ _ => rfl)) pe_non (nomark _))) (fun _ _ _ _ _ => pv 1)) pa_nil))), ?_⟩
    have noB : ∀ n ∈ (["menus", "names", "first", "lines"] : List Str), NoAttr K CB n := OB.no
    have noS : ∀ n ∈ sumsNames, NoAttr K CS n := O.no
    refine ⟨_, rfl, z, CB, dx, _, _, rfl, hB.at_, OB.cls, noB "lines" (by simp), rfl, lt, rfl, ⟨_, sqT hB.lines⟩, fun L hL => ?_⟩
    refine lc_pure (Fr := fun _ => False) (walk_tup (K := K) (xs := ys.map V.str)) hL (by rw [List.length_map]; omega) (fun i o _ => ∃ x, ys[i]? = some x ∧ ((neverB B x = false ∧ o = none) ∨ (neverB B x = true ∧ o = some (.str x)))) (fun _ _ _ _ _ e => e) (fun Hz sz => sqT (sz _ _ hB.lines)) (fun j x Hz0 Hz k1 k0 hj sz y q1 q0 => ?_) (fun H2 os s2 hl2 hr2 hD2 => ?_)
    · obtain ⟨rfl, hx⟩ := y
      rw [List.getElem?_map] at hx
      obtain ⟨g, hg, rfl⟩ := Option.map_eq_some_iff.mp hx
      have hBz := hB.mono (Fr := fun _ => True) trivial trivial (Fz.of sz)
      refine ⟨rfl, _, rfl, _, rfl, fun zz sdx hzz hsdx hne2 => ⟨zz, sdx, z, B, some g, rfl, upd_same, BoardAt.same (made_same (C := CS) hzz hsdx) ⟨_, _, _, _, _, _, hBz⟩, ok, fun dt dh bt bh s H3 b2 hS run => ⟨rfl, ?_⟩⟩⟩
      have s3 : Same Hz H3 := But.made hzz hsdx b2
      have hB3 := hBz.mono (Fr := fun _ => True) trivial trivial (Fz.of s3)
      obtain ⟨dx2, hz2⟩ := hS.at_
      refine ⟨zz, CS, dx2, _, _, rfl, hz2, O.cls, noS "to" (by simp [sumsNames]), rfl, _, rfl, z, CB, dx, _, _, rfl, hB3.at_, OB.cls, noB "first" (by simp), rfl, dt, _, rfl, hS.to.get (firstOf_in ok), ?_⟩
      have nb := neverB_of run
      cases e : s.to (firstOf B) with
      | none =>
        rw [e] at nb
        exact ⟨rfl, _, rfl, iteT ⟨_, rfl, q1 _ _ s3 ⟨g, hg, .inr ⟨nb, rfl⟩⟩⟩⟩
      | some v =>
        rw [e] at nb
        exact ⟨rfl, _, rfl, iteF (q0 _ s3 ⟨g, hg, .inl ⟨nb, rfl⟩⟩)⟩
    · rw [strs_optsN (q := neverB B) (by rw [hl2, List.length_map]) hr2] at hD2
      refine ⟨L, _, rfl, .inl ⟨sqL hD2, fun p hp => ?_⟩⟩
      exact k p _ (s2.trans (Same.upd hp)) upd_same
end
end MH
set_option Elab.async false
set_option linter.all false
set_option maxRecDepth 100000
set_option maxHeartbeats 4000000
namespace MH
open PySem PySem.Spec PyProof.Rows L2
theorem risingS_pair : ∀ {x : Str} {r : List Str}, risingS x r = true → (x :: r).Pairwise fun a b => a.cps.toList ≤ b.cps.toList
  | _, [], _ => List.pairwise_singleton _ _
  | x, y :: r, h => by
    rw [risingS, Bool.and_eq_true] at h
    have ih := risingS_pair h.2
    have le : x.cps.toList ≤ y.cps.toList := by
      have h1 := h.1
      rw [Bool.not_eq_true'] at h1
      rw [ltCps_eq] at h1
      have h2 := of_decide_eq_false h1
      exact List.not_lt.mp h2
    refine List.pairwise_cons.mpr ⟨fun z hz => ?_, ih⟩
    rcases List.mem_cons.mp hz with rfl | hz
    · exact le
    · exact List.le_trans le (List.rel_of_pairwise_cons ih hz)
theorem sorted_self {m : Menu} (h : sortedS (m.rows.map (·.1)) = true) (nd : (m.rows.map (·.1)).Nodup) : m.sorted = m := by
  have e : sortRows m.rows = m.rows := by
    unfold sortRows
    refine List.mergeSort_of_pairwise ?_
    have h1 : (m.rows.map (·.1)).Pairwise fun a b => a.cps.toList ≤ b.cps.toList := by
      cases e : m.rows.map (·.1) with
      | nil => exact .nil
      | cons x r => rw [e] at h; exact risingS_pair h
    have h2 := List.pairwise_map.mp h1
    have h3 := List.pairwise_map.mp nd
    refine (h2.and h3).imp fun {a b} ⟨le, ne⟩ => ?_
    have e1 : PySem.W.dataLe false encRow a b = !PySem.W.dataLt (encRow b) (encRow a) := by rw [PySem.W.dataLe_eq]; rfl
    have e2 : PySem.W.dataLt (encRow b) (encRow a) = PySem.W.dataLt (.str b.1) (.str a.1) := by
      unfold encRow
      rw [PySem.W.dataLt_pair rfl rfl]
      have : PyData.eqv (.str b.1) (.str a.1) = false := by
        show decide (b.1 = a.1) = false
        exact decide_eq_false fun z => ne z.symm
      rw [this]
      rfl
    have e3 := congrFun (congrFun (PySem.W.dataLe_str (fun x : Str => x)) a.1) b.1
    rw [PySem.W.dataLe_eq] at e3
    have e4 : (!PySem.W.dataLt (.str b.1) (.str a.1)) = decide (a.1.cps.toList ≤ b.1.cps.toList) := e3
    rw [e1, e2, e4]
    exact decide_eq_true le
  show (⟨m.name, sortRows m.rows, m.tail, m.tries, m.clears⟩ : Menu) = m
  rw [e]
/-- the rows stand ascending -/
def Asc (m : Menu) : Prop := sortedS (m.rows.map (·.1)) = true
theorem asc_board {B : List Menu} (ok : BoardOk B) (h : ∀ m ∈ B, Asc m) : B.map Menu.sorted = B := by
  have e : B.map Menu.sorted = B.map id := List.map_congr_left fun m hm => sorted_self (h m hm) (ok.ok m hm).rows.2.1
  rw [e, List.map_id]
end MH
set_option Elab.async false
set_option linter.all false
set_option maxRecDepth 100000
set_option maxHeartbeats 4000000
namespace MH
open PySem PySem.Spec PyProof.Rows L2
/-! ### the sums run to an end; the law's numbers are the program's -/
theorem runs_from {line : Option Str} {B : List Menu} (ok : BoardOk B) : ∀ (n : Nat) (s : SState), Bnd B s → muS B s ≤ n → ∃ r, Runs line B s r
  | n, s, b, h => by
    have g := go_over ok b (line := line)
    cases e : (goOver line B s).2 with
    | false => exact ⟨_, .done e⟩
    | true =>
      have m := g.new e
      match n, h with
      | 0, h => omega
      | n + 1, h =>
        obtain ⟨r, hr⟩ := runs_from ok n _ g.fell.bnd (by omega)
        exact ⟨r, .more e hr⟩
theorem runs_ex {B : List Menu} (ok : BoardOk B) (line : Option Str) : ∃ r, Runs line B sums0 r := runs_from ok _ _ (bnd0 B) (Nat.le_refl _)
end MH
set_option Elab.async false
set_option linter.all false
set_option maxRecDepth 100000
set_option maxHeartbeats 4000000
namespace MH
open PySem PySem.Spec PyProof.Rows L2
section
variable {P : Program} {w : World} {K : PySem.W.Frag} {mg : Str → Option Value} {base : Heap}
/-! ### _law_draw -/
def sp_draw : Sp := fun vs H Q _ => ∃ (p q : Addr) (a : Int), vs = [.ref p, .int a] ∧ DealAt H p q ∧ 1 ≤ a ∧ a ≤ 1000000 ∧ ∀ (r : Int) H', 0 ≤ r → r < a → DealAt H' p q → Same (hide p q H) (hide p q H') → Q (.int r) H'
theorem sc_draw : FnScope ["_law_deal_here", "_law_many", "_law_left"] ["_law_deal_here", "_law_many"] (defScope s__law_draw) := ⟨rfl, rfl, rfl, by decide +kernel, rfl, by decide +kernel, by decide +kernel⟩
theorem ok_draw (G : Glo K mg "_law_draw" s__law_draw) (T : Blt mg) : CalX P w K mg base CX0 2 "_law_draw" sp_draw := by
  refine mkCal G sc_draw (fun vs H Q E h => ?_) (fun _ _ _ _ _ _ us hl => match us, hl with | [_, _], _ => rfl) (fun f cdv A outer s H vs Q E hr h => ?_)
  · obtain ⟨p, q, a, rfl, _⟩ := h
    rfl
  · obtain ⟨p, q, a, rfl, ⟨cs, b, d⟩, ha1, ha2, k⟩ := h
    have nd := sc_draw.nd
    refine ⟨_, pss_cons (ps_while (passes_of rfl) (PW.pt (pw_and (pt_cmpR (op_neD hr.units) (pe_ix ix_list (pv 0) pe_int (fun _ _ => rfl)) (pe_lst pa_nil) (nomark _))
          (pw_and1 (pt_cmpR op_eq (pe_ix ix_list (pe_ix ix_list (pv 0) pe_int (fun _ _ => rfl)) (pe_un un_neg pe_int) (fun _ _ => rfl)) pe_int (nomark _)))))
        (pss_one (ps_expr (pe_bm0 PySem.F.plainAttrs_list PySem.F.slot_list_pop PySem.F.type_list_pop mt_pop (pe_ix ix_list (pv 0) pe_int (fun _ _ => rfl))))))
      (pss_cons (ps_if (pt_cmpR (op_neD hr.units) (pe_ix ix_list (pv 0) pe_int (fun _ _ => rfl)) (pe_lst pa_nil) (nomark _))
        (pss_cons (ps_set (i := 2) nd rfl (Or.inl rfl) (pe_bm0 PySem.F.plainAttrs_list PySem.F.slot_list_pop PySem.F.type_list_pop mt_pop (pe_ix ix_list (pv 0) pe_int (fun _ _ => rfl))))
        (pss_cons (ps_expr (pe_bm PySem.F.plainAttrs_list PySem.F.slot_list_append PySem.F.type_list_append mt_append (pe_ix ix_list (pv 0) pe_int (fun _ _ => rfl)) (pa_cons (pe_op op_fdiv (pv 2) (pv 1)) pa_nil)))
        (pss_one (ps_ret (pe_op op_mod (pe_callTy call_int1 (by rfl) T.int boot_int (pa_cons (pv 2) pa_nil)) (pv 1)))))) pss_nil)
      (pss_cons (ps_asg (pe_op op_mod (pe_callTy call_int1 (by rfl) T.int boot_int (pa_cons (pe_op op_add (pe_op op_mul (pe_ix ix_list (pv 0) pe_int (fun _ _ => rfl)) pe_int) pe_int) pa_nil)) pe_int) (pg_sub (pv 0) pe_int set_list))
      (pss_one (ps_ret (pe_op op_mod (pe_callTy call_int1 (by rfl) T.int boot_int (pa_cons (pe_op op_fdiv (pe_ix ix_list (pv 0) pe_int (fun _ _ => rfl)) pe_int) pa_nil)) (pv 1)))))), ?_⟩
    have zero : (0 : Nat) ≤ sizeLine := Nat.zero_le _
    have test : ∀ (Hq : Hp) (cs : List Int) (b : Int) (e : Addr), DealIs Hq p q cs b → Same (hide p q H) (hide p q Hq) → Hq e = none → DealIs (upd Hq e (.lst [])) p q cs b ∧ Same (hide p q H) (hide p q (upd Hq e (.lst []))) := fun Hq cs b e d s he => by
      obtain ⟨h1, h2⟩ := (show DealAt Hq p q from ⟨cs, b, d⟩).new he
      refine ⟨d.same (Same.upd he), ?_⟩
      rw [hide_upd h1 h2]
      exact s.trans (Same.upd (hide_none he))
    refine ⟨fun n σ Hq => ∃ cs b, n = cs.length ∧ σ = [some (.ref p), some (.int a), none] ∧ DealIs Hq p q cs b ∧ Same (hide p q H) (hide p q Hq), ⟨_, cs, b, rfl, rfl, d, Same.refl _⟩, ?_⟩
    rintro n σ Hq ⟨cs, b, rfl, rfl, d, sq⟩
    refine ⟨_, rfl, p, _, 0, _, rfl, rfl, sqL d.top, at0, zero, fun e he => ?_⟩
    obtain ⟨d1, s1⟩ := test Hq cs b e d sq he
    refine ⟨.list (cs.map PyData.int), .list [], ints_list (sqL d1.cells), .lst (sqL upd_same) .nil, PySem.W.ke_shaped_ints cs, rfl, ?_⟩
    rw [eqv_nil]
    match cs, d1, d with
    | [], d1, _ =>
      refine ⟨false, rfl, iteF ?_⟩
      refine iteF ?_
      refine ⟨_, rfl, p, _, 0, _, rfl, rfl, sqL d1.top, at0, zero, fun e2 he2 => ?_⟩
      obtain ⟨d2, s2⟩ := test _ _ b e2 d1 s1 he2
      refine ⟨.list [], .list [], .lst (sqL d2.cells) .nil, .lst (sqL upd_same) .nil, rfl, rfl, false, rfl, iteF ?_⟩
      generalize upd (upd Hq e (.lst [])) e2 (.lst []) = H2 at d2 s2 ⊢
      have l0 := d2.lo
      have l1 := d2.hi
      refine ⟨_, rfl, p, _, 1, _, rfl, rfl, sqL d2.top, at1, _, _, rfl, rfl, .inl ⟨by omega, by omega⟩, _, _, rfl, rfl, .inl ⟨_, rfl, _, _, rfl, rfl, by show (0 : Int) < 2147483647; decide, ?_⟩⟩
      refine ⟨_, rfl, p, _, 1, 1, rfl, rfl, d2.top, rfl, ?_⟩
      refine ⟨_, rfl, p, _, 1, _, rfl, rfl, sqL upd_same, at1, _, _, rfl, rfl, ⟨by decide, by decide⟩, .inl ⟨_, rfl, _, rfl, _, _, rfl, rfl, by show (0 : Int) < a; omega, ?_⟩⟩
      refine k _ _ (Int.emod_nonneg _ (by omega)) (Int.emod_lt_of_pos _ (by omega)) ⟨[], (b * 48271 + 13) % 2147483647, upd_same, by rw [upd_ne d2.ne.symm]; exact d2.cells, d2.ne, fun _ h => by simp at h, Int.emod_nonneg _ (by decide), Int.emod_lt_of_pos _ (by decide), Nat.zero_le _⟩ ?_
      rw [hide_p]
      exact s2
    | c0 :: cr, d1, d =>
      refine ⟨true, rfl, iteT ?_⟩
      obtain ⟨y, hy⟩ : ∃ y, (c0 :: cr)[(c0 :: cr).length - 1]? = some y := ⟨_, List.getElem?_eq_getElem (by simp)⟩
      have hyV : ((c0 :: cr).map V.int)[((c0 :: cr).map V.int).length - 1]? = some (.int y) := by rw [List.length_map, List.getElem?_map, hy]; rfl
      refine ⟨_, rfl, p, _, 0, _, rfl, rfl, sqL d1.top, at0, _, rfl, q, _, -1, .int y, rfl, rfl, sqL d1.cells, atI_last' (by simp) hyV, rfl, _, rfl, ?_⟩
      have ymem : y ∈ c0 :: cr := List.mem_of_getElem? hy
      have drop : ((c0 :: cr).map V.int).dropLast = (c0 :: cr).dropLast.map V.int := (List.map_dropLast).symm
      refine ite_dec (fun hz => ?_) (fun hz => ?_)
      · refine ⟨_, fun σ' H' h => h, ?_⟩
        refine ⟨_, rfl, p, _, 0, _, rfl, rfl, sqL d1.top, at0, .inl ⟨rfl, _, sqL d1.cells⟩, q, _, _, rfl, rfl, d1.cells, hyV, ?_⟩
        refine ⟨_, by simp, (c0 :: cr).dropLast, b, rfl, rfl, ⟨by rw [upd_ne d1.ne]; exact d1.top, by rw [upd_same, drop], d1.ne, fun c hc => d1.nn c (List.dropLast_subset _ hc), d1.lo, d1.hi, by have := d1.few; simp at this ⊢; omega⟩, ?_⟩
        rw [hide_q]
        exact s1
      · refine ⟨_, rfl, p, _, 0, _, rfl, rfl, sqL d1.top, at0, zero, fun e2 he2 => ?_⟩
        obtain ⟨d2, s2⟩ := test _ _ b e2 d1 s1 he2
        refine ⟨.list ((c0 :: cr).map PyData.int), .list [], ints_list (sqL d2.cells), .lst (sqL upd_same) .nil, PySem.W.ke_shaped_ints _, rfl, true, ?_, iteT ?_⟩
        · rw [eqv_nil]; rfl
        generalize upd (upd Hq e (.lst [])) e2 (.lst []) = H2 at d2 s2 ⊢
        refine ⟨_, rfl, p, _, 0, _, rfl, rfl, sqL d2.top, at0, .inl ⟨rfl, _, sqL d2.cells⟩, q, _, _, rfl, rfl, d2.cells, hyV, ?_⟩
        rw [drop]
        have top3 : (upd H2 q (.lst ((c0 :: cr).dropLast.map V.int))) p = some (.lst [.ref q, .int b]) := by rw [upd_ne d2.ne]; exact d2.top
        refine ⟨_, rfl, p, _, 0, _, rfl, rfl, sqL top3, at0, .inl ⟨rfl, _, sqL upd_same⟩, _, rfl, _, rfl, _, _, rfl, rfl, ⟨by omega, by omega⟩, q, _, _, rfl, rfl, upd_same, ?_, ?_⟩
        · rw [List.length_map, List.length_dropLast]
          have := d2.few
          exact line_lt (by omega)
        refine ⟨_, rfl, .inl ⟨_, rfl, _, rfl, _, _, rfl, rfl, by show (0 : Int) < a; omega, ?_⟩⟩
        have yn := d2.nn y ymem
        refine k _ _ (Int.emod_nonneg _ (by omega)) (Int.emod_lt_of_pos _ (by omega)) ⟨(c0 :: cr).dropLast ++ [y / a], b, by rw [upd_ne d2.ne]; exact top3, by rw [upd_same, List.map_append]; rfl, d2.ne, fun c hc => ?_, d2.lo, d2.hi, by have := d2.few; simp at this ⊢; omega⟩ ?_
        · rcases List.mem_append.mp hc with hc | hc
          · exact d2.nn c (List.dropLast_subset _ hc)
          · rw [List.mem_singleton.mp hc]
            exact Int.ediv_nonneg yn (by omega)
        · rw [hide_q, hide_q]
          exact s2
end
end MH
set_option Elab.async false
set_option linter.all false
set_option maxRecDepth 100000
set_option maxHeartbeats 4000000
namespace MH
open PySem PySem.Spec PyProof.Rows L2
section
variable {P : Program} {w : World} {K : PySem.W.Frag} {mg : Str → Option Value} {base : Heap}
/-! ### _law_pick, _law_mixed -/
def sp_mixed (K : PySem.W.Frag) : Sp := fun vs H Q _ => ∃ (p q : Addr) (x : V) (xs : List Str), vs = [.ref p, x] ∧ DealAt H p q ∧ ((∃ l, x = .ref l ∧ SqL K (hide p q H) l (xs.map V.str)) ∨ ∃ z, x = .str z ∧ xs = (cs z).map ch) ∧ xs.length ≤ 1000 ∧ (∀ y ∈ xs, okTx y = true) ∧
  ∀ (ys : List Str) f H', ys.Perm xs → DealAt H' p q → Same (hide p q H) (hide p q H') → hide p q H' f = some (.lst (ys.map V.str)) → hide p q H f = none → Q (.ref f) H'
theorem sc_mixed : FnScope ["_law_deal_here", "_law_some", "_law_left", "_law_found"] ["_law_deal_here", "_law_some"] (defScope s__law_mixed) := ⟨rfl, rfl, rfl, by decide +kernel, rfl, by decide +kernel, by decide +kernel⟩
theorem ok_mixed (G : Glo K mg "_law_mixed" s__law_mixed) (T : Blt mg) (D : CalX P w K mg base CX0 2 "_law_draw" sp_draw) : CalX P w K mg base CX0 3 "_law_mixed" (sp_mixed K) := by
  refine mkCal G sc_mixed (fun vs H Q E h => ?_) (fun _ _ _ _ _ _ us hl => match us, hl with | [_, _], _ => rfl) (fun f cdv A outer s H vs Q E hr h => ?_)
  · obtain ⟨p, q, l, xs, rfl, _⟩ := h
    rfl
  · obtain ⟨p, q, x, xs, rfl, d, hx, hlen, htx, k⟩ := h
    have nd := sc_mixed.nd
    refine ⟨_, pss_cons (ps_par (i := 2) (j := 3) rfl nd rfl rfl (by decide) rfl rfl (pa_cons (pe_callTy (call_list_any rfl) (by rfl) T.list boot_list (pa_cons (pv 1) pa_nil)) (pa_cons (pe_lst pa_nil) pa_nil)) (by rfl))
      (pss_cons (ps_while (passes_of rfl) (pt_cmpR (op_neD hr.units) (pv 2) (pe_lst pa_nil) (nomark _))
        (pss_one (ps_expr (pe_bm PySem.F.plainAttrs_list PySem.F.slot_list_append PySem.F.type_list_append mt_append (pv 3)
          (pa_cons (pe_bm PySem.F.plainAttrs_list PySem.F.slot_list_pop PySem.F.type_list_pop mt_popAt (pv 2) (pa_cons (pe_cal (j := 2) D hr (by decide) pass0 (pa_cons (pv 0) (pa_cons (pe_callB call_len_seq (by rfl) T.len boot_len (pa_cons (pv 2) pa_nil)) pa_nil))) pa_nil)) pa_nil)))))
      (pss_one (ps_ret (pv 3)))), ?_⟩
    have zero : (0 : Nat) ≤ sizeLine := Nat.zero_le _
    refine ⟨_, rfl, ?_⟩
    refine or_list hx hlen fun l hl => ?_
    obtain ⟨d1, s1⟩ := d.put (o := .lst (xs.map V.str)) hl (Same.refl _)
    obtain ⟨lp, lq⟩ := d.new hl
    have el : hide p q (upd H l (.lst (xs.map V.str))) l = some (.lst (xs.map V.str)) := hide_of upd_same lp lq
    refine ⟨zero, fun f0 hf0 => ⟨_, _, rfl, ?_⟩⟩
    obtain ⟨fp, fq⟩ := d1.new hf0
    obtain ⟨d2, s2⟩ := d1.put (o := .lst []) hf0 s1
    have f00 : hide p q H f0 = none := s1.free (hide_none hf0)
    have l00 : hide p q H l = none := hide_none hl
    have fl : f0 ≠ l := fun z => by rw [z, upd_same] at hf0; cases hf0
    have el2 : hide p q (upd (upd H l (.lst (xs.map V.str))) f0 (.lst [])) l = some (.lst (xs.map V.str)) := by rw [hide_upd fp fq, upd_ne fl.symm]; exact el
    have ef2 : hide p q (upd (upd H l (.lst (xs.map V.str))) f0 (.lst [])) f0 = some (.lst []) := hide_of upd_same fp fq
    generalize upd (upd H l (.lst (xs.map V.str))) f0 (.lst []) = H2 at d2 s2 el2 ef2 ⊢
    refine ⟨fun n σ Hq => ∃ ys zs : List Str, n = ys.length ∧ σ = [some (.ref p), some x, some (.ref l), some (.ref f0)] ∧ (zs ++ ys).Perm xs ∧ DealAt Hq p q ∧ Same (hide p q H) (hide p q Hq) ∧ hide p q Hq l = some (.lst (ys.map V.str)) ∧ hide p q Hq f0 = some (.lst (zs.map V.str)),
      ⟨_, xs, [], rfl, rfl, List.Perm.refl _, d2, s2, el2, ef2⟩, ?_⟩
    rintro n σ Hq ⟨ys, zs, rfl, rfl, perm, dq, sq, lq', fq'⟩
    have tot : zs.length + ys.length ≤ 1000 := by rw [← List.length_append, perm.length_eq]; exact hlen
    have hty : ∀ y ∈ ys, okTx y = true := fun y hy => htx y (perm.mem_iff.mp (List.mem_append_right _ hy))
    refine ⟨_, rfl, zero, fun e he => ?_⟩
    obtain ⟨d3, s3⟩ := dq.put (o := .lst []) he (Same.refl _)
    have sl3 : Same Hq (upd Hq e (.lst [])) := Same.upd he
    refine ⟨.list (ys.map PyData.str), .list [], strs_list (sqL (sl3 _ _ (hide_some lq'))), .lst (sqL upd_same) .nil, shaped_strs hty, rfl, ?_⟩
    rw [eqv_nil]
    have l3 := s3 _ _ lq'
    have f3 := s3 _ _ fq'
    have sq3 := sq.trans s3
    generalize upd Hq e (.lst []) = H3 at d3 s3 l3 f3 sq3 ⊢
    match ys, l3 with
    | [], _ =>
      refine ⟨false, rfl, iteF ⟨_, rfl, ?_⟩⟩
      refine k zs f0 H3 (by rw [List.append_nil] at perm; exact perm) d3 sq3 f3 f00
    | y0 :: yr, l3 =>
      refine ⟨true, rfl, iteT ⟨_, fun σ' H' h => h, ?_⟩⟩
      refine ⟨_, rfl, .inl ⟨rfl, _, sqL (hide_some f3)⟩, _, rfl, .inl ⟨rfl, _, sqL (hide_some l3)⟩, _, rfl, _, rfl, l, _, rfl, .inl (sqL (hide_some l3)), p, q, _, rfl, d3, ?_, ?_, fun r H4 r0 r1 d4 s4 => ?_⟩
      · simp; omega
      · rw [List.length_map]; omega
      have l4 := s4 _ _ l3
      have f4 := s4 _ _ f3
      have hr2 : r.toNat < (y0 :: yr).length := by rw [List.length_map] at r1; omega
      have hg : (y0 :: yr)[r.toNat]? = some (y0 :: yr)[r.toNat] := List.getElem?_eq_getElem hr2
      generalize (y0 :: yr)[r.toNat] = y at hg
      have small : r < 1001 := by rw [List.length_map] at r1; omega
      refine ⟨l, _, r, r.toNat, .str y, rfl, rfl, hide_some l4, by omega, by omega, seqIndex_of r0 r1, by rw [List.getElem?_map, hg]; rfl, ?_⟩
      have er : ((y0 :: yr).map V.str).eraseIdx r.toNat = ((y0 :: yr).eraseIdx r.toNat).map V.str := eraseIdx_map' _ _ _
      rw [er]
      have f5 : (upd H4 l (.lst (((y0 :: yr).eraseIdx r.toNat).map V.str))) f0 = some (.lst (zs.map V.str)) := by rw [upd_ne fl]; exact hide_some f4
      refine ⟨f0, _, _, rfl, rfl, f5, by rw [List.length_map]; exact line_lt (by omega), ?_⟩
      have pe := erase_perm hg
      refine ⟨_, ?_, (y0 :: yr).eraseIdx r.toNat, zs ++ [y], rfl, rfl, ?_, ?_, ?_, ?_, ?_⟩
      · rw [List.length_eraseIdx_of_lt hr2]
        simp
      · rw [List.append_assoc]
        exact (pe.append_left zs).trans perm
      · exact (d4.upd lp lq).upd fp fq
      · rw [hide_upd fp fq, hide_upd lp lq]
        have sA : Same (hide p q H) (hide p q H4) := sq3.trans s4
        exact same_put (same_put sA l00) f00
      · rw [hide_upd fp fq, upd_ne fl.symm]
        exact hide_of upd_same lp lq
      · rw [hide_upd fp fq, upd_same, List.map_append]
        rfl
end
end MH
set_option Elab.async false
set_option linter.all false
set_option maxRecDepth 100000
set_option maxHeartbeats 4000000
namespace MH
open PySem PySem.Spec PyProof.Rows L2
section
variable {P : Program} {w : World} {K : PySem.W.Frag} {mg : Str → Option Value} {base : Heap}
/-! ### _law_deal -/
def sp_deal (K : PySem.W.Frag) : Sp := fun vs H Q _ => ∃ (a : Addr) (ns : List Int), vs = [.ref a] ∧ SqL K H a (ns.map V.int) ∧ ns.length ≤ 63 ∧ ∀ p q H', DealAt H' p q → Same H H' → H p = none → H q = none → Q (.ref p) H'
theorem sc_deal : FnScope ["_law_script", "_law_cell", "_law_cells", "_law_mixed_here"] ["_law_script"] (defScope s__law_deal) := ⟨rfl, rfl, rfl, by decide +kernel, rfl, by decide +kernel, by decide +kernel⟩
theorem ok_deal (G : Glo K mg "_law_deal" s__law_deal) (T : Blt mg) : CalX P w K mg base CX0 2 "_law_deal" (sp_deal K) := by
  refine mkCal G sc_deal (fun vs H Q E h => ?_) (fun _ _ _ _ _ _ us hl => match us, hl with | [_], _ => rfl) (fun f cdv A outer s H vs Q E hr h => ?_)
  · obtain ⟨a, ns, rfl, _⟩ := h
    rfl
  · obtain ⟨a, ns, rfl, hs, hlen, k⟩ := h
    have nd := sc_deal.nd
    refine ⟨_, pss_cons (ps_par (i := 2) (j := 3) rfl nd rfl rfl (by decide) rfl rfl (pa_cons (pe_lc (te := tCB (fun xs H Q => ∃ i, xs = [.int i] ∧ Q (.int (if i < 0 then -i else i)) H) (tCons (tVar 1) tNil)) (own := [("_law_cell", 1)]) (g := gName 1) rfl nd (pi_list (pe_slice sl_list (pv 0) po_none (po_some pe_int)))
            (blkOk_by (own := [("_law_cell", 1)]) (N := ["_law_script", "_law_cell", "_law_cells", "_law_mixed_here"]) (sc := defScope s__law_deal) (by decide +kernel)) (fun _ _ _ _ _ => pg_name (i := 1) nd rfl (Or.inl rfl)) (fun _ _ _ _ _ => pts_nil)
            (fun _ _ _ _ _ => pe_callB call_abs (by rfl) T.abs (by decide +kernel) (pa_cons (pv 1) pa_nil))) (pa_cons pe_int pa_nil)) (by rfl))
      (pss_cons (ps_for (passes_of rfl) rfl (pi_list (pv 2)) (pg_name (i := 1) nd rfl (Or.inl rfl))
          (pss_one (ps_set (i := 3) nd rfl (Or.inl rfl) (pe_op op_mod (pe_callTy call_int1 (by rfl) T.int boot_int (pa_cons (pe_op op_add (pe_op op_mul (pv 3) pe_int) (pe_op op_mod (pe_callTy call_int1 (by rfl) T.int boot_int (pa_cons (pv 1) pa_nil)) pe_int)) pa_nil)) pe_int))))
      (pss_one (ps_ret (pe_lst (pa_cons (pe_revL (pe_lc (te := tVar 1) (tt := tTest (tOp (rI0 fun i j => .bl (decide (j ≤ i))) (tVar 1) (tOp (rI CPow fun i j => .int (i ^ j.toNat)) (tC (.int 10)) (tC (.int 18))))) (own := [("_law_cell", 1)]) (g := gName 1) rfl nd (pi_list (pv 2))
            (blkOk_by (own := [("_law_cell", 1)]) (N := ["_law_script", "_law_cell", "_law_cells", "_law_mixed_here"]) (sc := defScope s__law_deal) (by decide +kernel)) (fun _ _ _ _ _ => pg_name (i := 1) nd rfl (Or.inl rfl))
            (fun _ _ _ _ _ => pts_one (pt_cmpR op_ge (pv 1) (pe_op op_pow pe_int pe_int) (nomark _))) (fun _ _ _ _ _ => pv 1))) (pa_cons (pv 3) pa_nil)))))), ?_⟩
    have l2 : (2 : Nat) ≤ sizeLine := by decide
    refine ⟨_, rfl, 60, rfl, a, _, rfl, hs, fun c hc => ?_⟩
    rw [cut_take _ _ (by decide), ← List.map_take]
    have hlen0 := hlen
    replace hlen : (ns.take (60 : Int).toNat).length ≤ 63 := by rw [List.length_take]; omega
    generalize ns.take (60 : Int).toNat = ns at hlen hc ⊢
    have s1 : Same H (upd H c (.lst (ns.map V.int))) := Same.upd hc
    have e1 : (upd H c (.lst (ns.map V.int))) c = some (.lst (ns.map V.int)) := upd_same
    generalize upd H c (.lst (ns.map V.int)) = H1 at s1 e1 ⊢
    refine ⟨c, rfl, ⟨_, sqL e1⟩, fun L hL => ?_⟩
    refine lc_pure (Fr := fun _ => False) (walk_list (K := K) (xs := ns.map V.int)) hL (by rw [List.length_map]; omega) (fun i o _ => o = (ns.map fun n => V.int (if n < 0 then -n else n))[i]?) (fun _ _ _ _ _ z => z)
      (fun H3 s3 => sqL (s3 _ _ e1)) (fun i z H3 H4 k1 k0 hi s3 y q1 q0 => ?_) (fun H2 os s2 hl2 hr2 hD2 => ?_)
    · obtain ⟨rfl, hz⟩ := y
      rw [List.getElem?_map] at hz
      obtain ⟨n, hn, rfl⟩ := Option.map_eq_some_iff.mp hz
      refine ⟨rfl, _, rfl, n, rfl, q1 _ _ (Same.refl _) ?_⟩
      rw [List.getElem?_map, hn]
      rfl
    rw [os_vals (vs := ns.map fun n => V.int (if n < 0 then -n else n)) (by rw [hl2]; simp) hr2] at hD2
    have sA := s1.trans s2
    refine ⟨_, _, rfl, ?_⟩
    refine ⟨_, rfl, L, rfl, ⟨_, sqL hD2⟩, ?_⟩
    refine for_it (walk_list (K := K) (xs := ns.map fun n => V.int (if n < 0 then -n else n))) (fun i σ Hq => (∃ (b : Int) (e : Option V), 0 ≤ b ∧ b < 2147483647 ∧ σ = [some (.ref a), e, some (.ref L), some (.int b)]) ∧ Hq = H2)
      ⟨⟨15487469, _, by decide, by decide, rfl⟩, rfl⟩ (fun i σ Hq _ z => by rw [z.2]; exact sqL hD2) (fun i x σ Hq0 Hq hi ⟨⟨b, e, b0, b1, hσ⟩, hq⟩ y => ?_) (fun σ Hq ⟨⟨b, e, b0, b1, hσ⟩, hq⟩ => ?_)
    · subst hσ
      obtain ⟨rfl, hx⟩ := y
      rw [List.getElem?_map] at hx
      obtain ⟨n, hn, rfl⟩ := Option.map_eq_some_iff.mp hx
      refine ⟨_, rfl, _, _, rfl, rfl, .inl ⟨by omega, by omega⟩, _, rfl, .inl ⟨_, rfl, _, _, rfl, rfl, by show (0 : Int) < 2147483629; decide, _, _, rfl, rfl, .inl ⟨_, rfl, _, _, rfl, rfl, by show (0 : Int) < 2147483647; decide, ⟨_, _, ?_, ?_, rfl⟩, hq⟩⟩⟩
      · exact Int.emod_nonneg _ (by decide)
      · exact Int.emod_lt_of_pos _ (by decide)
    · subst hσ hq
      refine ⟨_, rfl, L, rfl, ⟨_, sqL hD2⟩, fun L2 hL2 => ?_⟩
      refine lc_pure (Fr := fun _ => False) (walk_list (K := K) (xs := ns.map fun n => V.int (if n < 0 then -n else n))) hL2 (by rw [List.length_map]; omega) (fun i o _ => ∃ n : Int, 0 ≤ n ∧ (o = some (.int n) ∨ o = none)) (fun _ _ _ _ _ z => z)
        (fun H3 s3 => sqL (s3 _ _ hD2)) (fun i z H3 H4 k1 k0 hi s3 y q1 q0 => ?_) (fun H5 os s5 hl5 hr5 hD5 => ?_)
      · obtain ⟨rfl, hz⟩ := y
        rw [List.getElem?_map] at hz
        obtain ⟨n, hn, rfl⟩ := Option.map_eq_some_iff.mp hz
        have nn : 0 ≤ (if n < 0 then -n else n) := by split <;> omega
        refine ⟨rfl, _, rfl, 10, 18, rfl, rfl, ⟨by decide, by decide, by decide⟩, _, _, rfl, rfl, _, rfl, ?_⟩
        refine ite_dec (fun h => ?_) (fun h => ?_)
        · exact ⟨_, rfl, q1 _ _ (Same.refl _) ⟨_, nn, .inl rfl⟩⟩
        · exact q0 _ (Same.refl _) ⟨0, by omega, .inr rfl⟩
      obtain ⟨cs, ecs, cnn, clen⟩ := filter_ints hr5
      rw [ecs] at hD5
      rw [hl5, List.length_map] at clen
      refine ⟨L2, _, rfl, sqL hD5, fun q hq => ⟨_, rfl, l2, fun p hp => ?_⟩⟩
      rw [← List.map_reverse] at hp ⊢
      have sC := same_put (o := .lst (cs.reverse.map V.int)) s5 (s5.free hq)
      have pq : p ≠ q := fun z => by rw [z, upd_same] at hp; cases hp
      refine k p q _ ⟨cs.reverse, b, upd_same, by rw [upd_ne pq.symm]; exact upd_same, pq, fun x hx => cnn x (List.mem_reverse.mp hx), b0, b1, by rw [List.length_reverse]; omega⟩ (sA.trans (same_put sC (sC.free hp))) ((sA.trans sC).free hp) ((sA.trans s5).free hq)
end
end MH
set_option Elab.async false
set_option linter.all false
set_option maxRecDepth 100000
set_option maxHeartbeats 4000000
namespace MH
open PySem PySem.Spec PyProof.Rows L2
theorem sortK {a b c d x : Str} (n : Names4 a b c d) (hx : okName x = true) : (boardK a b c d x).map Menu.sorted = boardK a b c d x :=
  asc_board (okK n hx) fun m hm => by
    simp only [boardK, List.mem_cons, List.not_mem_nil, or_false] at hm
    rcases hm with rfl | rfl | rfl | rfl
    · rfl
    · rfl
    · rfl
    · show sortedS (["2", "3"] : List Str) = true
      decide +kernel
theorem sortL {a b x y : Str} (nd : [a, b].Nodup) (oa : okName a = true) (ob : okName b = true) (hx : okName x = true) (hy : okName y = true) : (loneK a b x y).map Menu.sorted = loneK a b x y :=
  asc_board (okL nd oa ob hx hy) fun m hm => by
    simp only [loneK, List.mem_cons, List.not_mem_nil, or_false] at hm
    rcases hm with rfl | rfl <;> rfl
theorem goalsL {a b x y : Str} (ne : x ≠ y) {ys : List Str} (g : IsGoals (loneK a b x y) ys) : (ys = [x, y] ∨ ys = [y, x]) ∧ x ∈ ys ∧ y ∈ ys := by
  have mem : ∀ z, z ∈ ys ↔ z = x ∨ z = y := fun z => by
    rw [g.mem]
    simp [goalsOf, loneK, Menu.acts, Act.goal]
  have pm : ys.Perm [x, y] := (List.perm_ext_iff_of_nodup g.nd (by simp [ne])).mpr fun z => by rw [mem]; simp
  have hx : x ∈ ys := (mem x).mpr (.inl rfl)
  have hy : y ∈ ys := (mem y).mpr (.inr rfl)
  refine ⟨?_, hx, hy⟩
  have l := pm.length_eq
  match ys, l, mem, g.nd with
  | [u, v], _, mem, nd =>
    have hu := (mem u).mp (by simp)
    have hv := (mem v).mp (by simp)
    have uv : u ≠ v := by simpa using nd
    rcases hu with rfl | rfl <;> rcases hv with rfl | rfl
    · exact absurd rfl uv
    · exact .inl rfl
    · exact .inr rfl
    · exact absurd rfl uv
theorem neverL {a b x y : Str} (nd : [a, b].Nodup) (oa : okName a = true) (ob : okName b = true) (hx : okName x = true) (hy : okName y = true) (ne : x ≠ y) {ys : List Str} (g : IsGoals (loneK a b x y) ys) : ys.filter (neverB (loneK a b x y)) = [y] := by
  have ok := okL nd oa ob hx hy
  obtain ⟨s1, r1⟩ := runs_ex ok (some x)
  obtain ⟨s2, r2⟩ := runs_ex ok (some y)
  have n1 : neverB (loneK a b x y) x = false := by
    rw [neverB_of r1]
    show (s1.to a).isNone = false
    have := runLx ne r1
    cases e : s1.to a with
    | none => exact absurd e this
    | some v => rfl
  have n2 : neverB (loneK a b x y) y = true := by
    rw [neverB_of r2]
    show (s2.to a).isNone = true
    rw [runLy nd oa ob hx hy ne r2]
    rfl
  rcases (goalsL ne g).1 with rfl | rfl
  · rw [List.filter_cons_of_neg (by rw [n1]; decide), List.filter_cons_of_pos n2]
    rfl
  · rw [List.filter_cons_of_pos n2, List.filter_cons_of_neg (by rw [n1]; decide)]
    rfl
theorem holdsL {a b x y : Str} (nd : [a, b].Nodup) (ne : x ≠ y) {pa : Option Int} {q : Int} {least : Option Int} (pos : posN pa = true) (q0 : 0 ≤ q) :
    holdsD (loneK a b x y) y least (.tuple [entE a pa none, entE b (some q) none]) = (!belowN pa least && (!belowN none pa && !belowN (some 0) (some q))) := by
  have ab : a ≠ b := by simpa using nd
  have lV : ¬ lV (some x) = lV (some y) := fun e => ne (V.str.inj e)
  have nds : (([entE a pa none, entE b (some q) none] : List PyData).map nameD).Nodup := nd
  obtain ⟨a1, a2⟩ := paperTo_ent nds (show entE a pa none ∈ _ by simp)
  obtain ⟨b1, b2⟩ := paperTo_ent nds (show entE b (some q) none ∈ _ by simp)
  have cq : countD (nD (some q)) = true := countD_nD (by simpa [posN] using q0)
  have fm : formedD (namesOf (loneK a b x y)) (.tuple [entE a pa none, entE b (some q) none]) = true := by
    have h3 : decide (((itemsD (.tuple [entE a pa none, entE b (some q) none])).map nameD).Nodup) = true := decide_eq_true nds
    unfold formedD
    rw [h3, Bool.and_true]
    show (true && (true && _)) = true
    rw [Bool.true_and, Bool.true_and]
    refine List.all_eq_true.mpr fun e he => ?_
    have he : e ∈ [entE a pa none, entE b (some q) none] := he
    simp only [List.mem_cons, List.not_mem_nil, or_false] at he
    have cn : countD (nD none) = true := rfl
    rcases he with rfl | rfl <;> simp [entE, entryD, entry3, loneK, namesOf, countD_nD pos, cq, cn]
  unfold holdsD
  rw [fm, Bool.true_and]
  show (!belowN (paperTo _ a) least && _) = _
  rw [a1]
  congr 1
  cases pa <;> simp [loneK, borneB, borneStep, Menu.steps, rowStep, tailStep, toldTo, toldHome, firstOf, a1, a2, b1, b2, plusN, lV, belowN]
end MH
set_option Elab.async false
set_option linter.all false
set_option maxRecDepth 100000
set_option maxHeartbeats 4000000
namespace MH
open PySem PySem.Spec PyProof.Rows L2
theorem dp_same2 {K : PySem.W.Frag} {H : Hp} {t t1 t2 : Addr} {n n2 : Str} {p q p2 q2 : Option Int} (h1 : H t1 = some (.tup [.str n, nV p, nV q])) (h2 : H t2 = some (.tup [.str n2, nV p2, nV q2])) (h : H t = some (.tup [.ref t1, .ref t2])) : Dp K H (.ref t) (.tuple [entE n p q, entE n2 p2 q2]) := by
  have e : ∀ {m : Str} {u v : Option Int} {a : Addr}, H a = some (.tup [.str m, nV u, nV v]) → Dp K H (.ref a) (entE m u v) := fun {m u v a} ha => by
    have dn : ∀ r : Option Int, Dp K H (nV r) (nD r) := fun r => by
      cases r with
      | none => exact .non
      | some i => exact .int i
    exact .tup (sqT ha) (.cons (.str _) (.cons (dn u) (.cons (dn v) .nil)))
  exact .tup (sqT h) (.cons (e h1) (.cons (e h2) .nil))
theorem lens5 : ("menu " : Str).length = 5 ∧ (" tries 1" : Str).length = 8 ∧ ("1 line " : Str).length = 7 ∧ ("else line " : Str).length = 10 := by decide +kernel
theorem okTx_nmH {x : Str} (h : okName x = true) : okTx x = true := List.all_eq_true.mpr fun c hc => decide_eq_true (by
  have := let_low (okName_low h c hc)
  omega)
theorem one_data {y : Str} (h : okName y = true) : SeqAt.shaped (.tuple [.str y]) = true ∧ PyData.eqv (.tuple [.str y]) (.tuple [.str y]) = true := by
  refine ⟨sim_shaped (d := strsD [y]) (strsD_sim fun x hx => ?_) (Nat.le_trans (strsD_depth [y]) (by decide)), ?_⟩
  · rw [List.mem_singleton.mp hx]
    exact okTx_nmH h
  · show (decide (y = y) && true) = true
    simp
section
variable {P : Program} {w : World} {K : PySem.W.Frag} {mg : Str → Option Value} {base : Heap}
/-- Board.read as a classmethod -/
structure ReadX (P : Program) (w : World) (K : PySem.W.Frag) (mg : Str → Option Value) (base : Heap) (k : Nat) (x m : Str) (C : Addr) (sp : Sp) : Prop where
  ex : ∃ mc p g, ClX.CRead K C mc ∧ ClX.CMet K C mc m p g ∧ FnR P w K mg base CX0 k g sp ∧ mg x = some (.ref C)
/-! ### _law_lone_right -/
def sp_lone : Sp := fun vs H Q _ => ∃ (a b x y : Str), vs = [.str a, .str b, .str x, .str y] ∧ [a, b].Nodup ∧ okName a = true ∧ okName b = true ∧ okName x = true ∧ okName y = true ∧ x ≠ y ∧ ∀ H', Same H H' → Q (.bl true) H'
theorem sc_lone : FnScope ["_law_a", "_law_b", "_law_x", "_law_y", "_law_lines", "_law_lone"] ["_law_a", "_law_b", "_law_x", "_law_y"] (defScope s__law_lone_right) := ⟨rfl, rfl, rfl, by decide +kernel, rfl, by decide +kernel, by decide +kernel⟩
theorem ok_lone {CB CM : Addr} (G : Glo K mg "_law_lone_right" s__law_lone_right) (D2 : ReadX P w K mg base 9 "Board" "read" CB (sp_board_read CB CM)) (DN : CalX P w K mg base CX0 9 "never" (sp_never CB CM)) (DP : CalX P w K mg base CX0 6 "paper_holds" (sp_paper_holds K CB CM)) : CalX P w K mg base CX0 10 "_law_lone_right" sp_lone := by
  obtain ⟨mc, p0, g0, R, C, F, gB⟩ := D2.ex
  refine mkCal G sc_lone (fun vs H Q E h => ?_) (fun _ _ _ _ _ _ us hl => match us, hl with | [_, _, _, _], _ => rfl) (fun f cdv A outer s0 H vs Q E hr h => ?_)
  · obtain ⟨a, b, x, y, rfl, _⟩ := h
    rfl
  · obtain ⟨a, b, x, y, rfl, ndab, oa, ob, hx, hy, ne, k⟩ := h
    have nd := sc_lone.nd
    refine ⟨_, pss_cons (ps_set (i := 4) nd rfl (Or.inl rfl) (pe_lst (pa_cons (pe_op op_add_str (pe_op op_add_str pe_str (pv 0)) pe_str) (pa_cons (pe_op op_add_str pe_str (pv 2)) (pa_cons pe_str (pa_cons (pe_op op_add_str (pe_op op_add_str pe_str (pv 1)) pe_str) (pa_cons (pe_op op_add_str pe_str (pv 3)) pa_nil)))))))
      (pss_cons (ps_set (i := 5) nd rfl (Or.inl rfl) (ClX.pe_cmeth (E := E0) (pe_glob (v := .ref CB) rfl gB rfl) R C F hr pass0 (pa_cons (pe_join pe_str (pv 4)) pa_nil)))
      (pss_cons (ps_if (PW.pt (pw_or (pt_cmpR (op_neD hr.units) (pe_cal (j := 9) DN hr (by decide) pass0 (pa_cons (pv 5) pa_nil)) (pe_tup (pa_cons (pv 3) pa_nil)) (nomark _)) (pw_or1 (pt_not (pt_val (pe_cal (j := 9) DP hr (by decide) pass0 (pa_cons (pv 5) (pa_cons (pv 3) (pa_cons pe_non (pa_cons (pe_tup (pa_cons (pe_tup (pa_cons (pv 0) (pa_cons pe_non (pa_cons pe_non pa_nil)))) (pa_cons (pe_tup (pa_cons (pv 1) (pa_cons pe_int (pa_cons pe_non pa_nil)))) pa_nil))) pa_nil))))))))))
        (pss_one (ps_ret pe_bl))
        pss_nil)
      (pss_cons (ps_if (pt_val (pe_cal (j := 9) DP hr (by decide) pass0 (pa_cons (pv 5) (pa_cons (pv 3) (pa_cons pe_non (pa_cons (pe_tup (pa_cons (pe_tup (pa_cons (pv 0) (pa_cons pe_int (pa_cons pe_non pa_nil)))) (pa_cons (pe_tup (pa_cons (pv 1) (pa_cons pe_int (pa_cons pe_non pa_nil)))) pa_nil))) pa_nil))))))
        (pss_one (ps_ret pe_bl))
        pss_nil)
      (pss_one (ps_ret (pe_not (pe_cal (j := 9) DP hr (by decide) pass0 (pa_cons (pv 5) (pa_cons (pv 3) (pa_cons pe_int (pa_cons (pe_tup (pa_cons (pe_tup (pa_cons (pv 0) (pa_cons pe_non (pa_cons pe_non pa_nil)))) (pa_cons (pe_tup (pa_cons (pv 1) (pa_cons pe_int (pa_cons pe_non pa_nil)))) pa_nil))) pa_nil))))))))))), ?_⟩
    have l1 : (1 : Nat) ≤ sizeLine := by decide
    have l2 : (2 : Nat) ≤ sizeLine := by decide
    have l3 : (3 : Nat) ≤ sizeLine := by decide
    have l5 : (5 : Nat) ≤ sizeLine := by decide
    obtain ⟨c1, c2, c3, c4⟩ := lens5
    have na := okName_len oa
    have nb := okName_len ob
    have nx := okName_len hx
    have ny := okName_len hy
    have ok := okL ndab oa ob hx hy
    refine ⟨_, rfl, _, _, rfl, rfl, line_of (by omega), _, _, rfl, rfl, line_of (by rw [app_len]; omega), _, rfl, _, _, rfl, rfl, line_of (by omega), _, rfl, _, _, rfl, rfl, line_of (by omega), _, _, rfl, rfl, line_of (by rw [app_len]; omega), _, rfl, _, _, rfl, rfl, line_of (by omega), l5, fun fl hfl => ?_⟩
    have el : ([.str ((("menu " : Str) ++ a) ++ " tries 1"), .str (("1 line " : Str) ++ x), .str "else out", .str ((("menu " : Str) ++ b) ++ " tries 1"), .str (("else line " : Str) ++ y)] : List V) = (boardLines (loneK a b x y)).map V.str := by
      rw [← linesL]
      rfl
    rw [el]
    have s1 := Same.upd (o := .lst ((boardLines (loneK a b x y)).map V.str)) hfl
    have e1 : (upd H fl (.lst ((boardLines (loneK a b x y)).map V.str))) fl = some (.lst ((boardLines (loneK a b x y)).map V.str)) := upd_same
    generalize upd H fl (.lst ((boardLines (loneK a b x y)).map V.str)) = H1 at s1 e1 ⊢
    refine ⟨rfl, ⟨_, rfl⟩, _, rfl, _, fl, boardLines (loneK a b x y), rfl, rfl, .inl (sqL e1), board_sum ok, loneK a b x y, rfl, ok, fun z H2 s2 hz b2 => ?_⟩
    rw [sortL ndab oa ob hx hy] at b2
    obtain ⟨dx, mt, nt, lt, xs, ys, hI⟩ := b2
    obtain ⟨ysE, gx, gy⟩ := goalsL ne hI.goals
    have yl : ys.length ≤ 1000 := by rcases ysE with rfl | rfl <;> simp
    refine ⟨_, rfl, z, _, dx, mt, nt, lt, xs, ys, rfl, hI, ok, yl, fun p H3 s3 e3 => ?_⟩
    rw [neverL ndab oa ob hx hy ne hI.goals] at e3
    refine ⟨_, rfl, l1, fun t ht => ?_⟩
    have s4 := Same.upd (o := .tup [.str y]) ht
    have e4 : (upd H3 t (.tup [.str y])) t = some (.tup [.str y]) := upd_same
    have e34 := s4 _ _ e3
    generalize upd H3 t (.tup [.str y]) = H4 at s4 e4 e34 ⊢
    obtain ⟨sh, eqv⟩ := one_data hy
    refine ⟨.tuple [.str y], .tuple [.str y], .tup (sqT e34) (.cons (.str _) .nil), .tup (sqT e4) (.cons (.str _) .nil), sh, sh, _, rfl, ?_⟩
    rw [eqv]
    refine iteF ?_
    have s24 := s3.trans s4
    -- the first paper
    refine ⟨_, rfl, _, rfl, _, rfl, l3, fun t1 h1 => ⟨_, rfl, l3, fun t2 h2 => ⟨l2, fun t3 h3 => ?_⟩⟩⟩
    have sa := (Same.upd (o := .tup [.str a, .non, .non]) h1)
    have sb := (Same.upd (o := .tup [.str b, .int 0, .non]) h2)
    have sc := (Same.upd (o := .tup [.ref t1, .ref t2]) h3)
    have f1 := (sb.trans sc) _ _ (show (upd H4 t1 (.tup [.str a, .non, .non])) t1 = some (.tup [.str a, .non, .non]) from upd_same)
    have f2 := sc _ _ (show (upd (upd H4 t1 (.tup [.str a, .non, .non])) t2 (.tup [.str b, .int 0, .non])) t2 = some (.tup [.str b, .int 0, .non]) from upd_same)
    have f3 : (upd (upd (upd H4 t1 (.tup [.str a, .non, .non])) t2 (.tup [.str b, .int 0, .non])) t3 (.tup [.ref t1, .ref t2])) t3 = some (.tup [.ref t1, .ref t2]) := upd_same
    have s25 := s24.trans ((sa.trans sb).trans sc)
    generalize upd (upd (upd H4 t1 (.tup [.str a, .non, .non])) t2 (.tup [.str b, .int 0, .non])) t3 (.tup [.ref t1, .ref t2]) = H5 at f1 f2 f3 s25 ⊢
    refine ⟨z, _, y, none, .ref t3, .tuple [entE a none none, entE b (some 0) none], dx, mt, nt, lt, xs, ys, rfl, hI.mono (Fr := fun _ => True) trivial trivial (Fz.of s25), ok, gy, dp_same2 (p := none) (q := none) (p2 := some 0) (q2 := none) f1 f2 f3, fun H6 s6 => ?_⟩
    rw [holdsL (least := none) ndab ne rfl (by decide)]
    refine ⟨_, rfl, iteF ?_⟩
    clear sa sb sc f1 f2 f3 h1 h2 h3
    have s26 := s25.trans s6
    -- the second
    refine ⟨_, rfl, _, rfl, _, rfl, l3, fun t1 h1 => ⟨_, rfl, l3, fun t2 h2 => ⟨l2, fun t3 h3 => ?_⟩⟩⟩
    have sa := (Same.upd (o := .tup [.str a, .int 3, .non]) h1)
    have sb := (Same.upd (o := .tup [.str b, .int 0, .non]) h2)
    have sc := (Same.upd (o := .tup [.ref t1, .ref t2]) h3)
    have f1 := (sb.trans sc) _ _ (show (upd H6 t1 (.tup [.str a, .int 3, .non])) t1 = some (.tup [.str a, .int 3, .non]) from upd_same)
    have f2 := sc _ _ (show (upd (upd H6 t1 (.tup [.str a, .int 3, .non])) t2 (.tup [.str b, .int 0, .non])) t2 = some (.tup [.str b, .int 0, .non]) from upd_same)
    have f3 : (upd (upd (upd H6 t1 (.tup [.str a, .int 3, .non])) t2 (.tup [.str b, .int 0, .non])) t3 (.tup [.ref t1, .ref t2])) t3 = some (.tup [.ref t1, .ref t2]) := upd_same
    have s27 := s26.trans ((sa.trans sb).trans sc)
    generalize upd (upd (upd H6 t1 (.tup [.str a, .int 3, .non])) t2 (.tup [.str b, .int 0, .non])) t3 (.tup [.ref t1, .ref t2]) = H7 at f1 f2 f3 s27 ⊢
    refine ⟨z, _, y, none, .ref t3, .tuple [entE a (some 3) none, entE b (some 0) none], dx, mt, nt, lt, xs, ys, rfl, hI.mono (Fr := fun _ => True) trivial trivial (Fz.of s27), ok, gy, dp_same2 (p := some 3) (q := none) (p2 := some 0) (q2 := none) f1 f2 f3, fun H8 s8 => ?_⟩
    rw [holdsL (least := none) ndab ne rfl (by decide)]
    refine ⟨_, rfl, iteF ?_⟩
    clear sa sb sc f1 f2 f3 h1 h2 h3
    have s28 := s27.trans s8
    -- the third
    refine ⟨_, rfl, _, rfl, _, rfl, l3, fun t1 h1 => ⟨_, rfl, l3, fun t2 h2 => ⟨l2, fun t3 h3 => ?_⟩⟩⟩
    have sa := (Same.upd (o := .tup [.str a, .non, .non]) h1)
    have sb := (Same.upd (o := .tup [.str b, .int 1, .non]) h2)
    have sc := (Same.upd (o := .tup [.ref t1, .ref t2]) h3)
    have f1 := (sb.trans sc) _ _ (show (upd H8 t1 (.tup [.str a, .non, .non])) t1 = some (.tup [.str a, .non, .non]) from upd_same)
    have f2 := sc _ _ (show (upd (upd H8 t1 (.tup [.str a, .non, .non])) t2 (.tup [.str b, .int 1, .non])) t2 = some (.tup [.str b, .int 1, .non]) from upd_same)
    have f3 : (upd (upd (upd H8 t1 (.tup [.str a, .non, .non])) t2 (.tup [.str b, .int 1, .non])) t3 (.tup [.ref t1, .ref t2])) t3 = some (.tup [.ref t1, .ref t2]) := upd_same
    have s29 := s28.trans ((sa.trans sb).trans sc)
    generalize upd (upd (upd H8 t1 (.tup [.str a, .non, .non])) t2 (.tup [.str b, .int 1, .non])) t3 (.tup [.ref t1, .ref t2]) = H9 at f1 f2 f3 s29 ⊢
    refine ⟨z, _, y, some 0, .ref t3, .tuple [entE a none none, entE b (some 1) none], dx, mt, nt, lt, xs, ys, rfl, hI.mono (Fr := fun _ => True) trivial trivial (Fz.of s29), ok, gy, dp_same2 (p := none) (q := none) (p2 := some 1) (q2 := none) f1 f2 f3, fun HA sA => ?_⟩
    rw [holdsL (least := some 0) ndab ne rfl (by decide)]
    exact ⟨_, rfl, k HA ((s1.trans s2).trans (s29.trans sA))⟩
end
end MH
set_option Elab.async false
set_option linter.all false
set_option maxRecDepth 100000
set_option maxHeartbeats 4000000
namespace MH
open PySem PySem.Spec PyProof.Rows L2
/-! ### the names and lines of the drawn boards -/
def bNames : List Str := ["top", "pay", "ask", "bye", "a", "b", "zz", "hub", "q", "x"]
def bGoals : List Str := ["cash", "desk", "fax", "x"]
theorem bNames_ok : (bNames.all okName && bGoals.all okName && bNames.all okTx && bGoals.all okTx) = true := by decide +kernel
theorem bNames_nd : bNames.Nodup := by decide +kernel
theorem bName_ok {x : Str} (h : x ∈ bNames) : okName x = true ∧ okTx x = true := by
  have z := bNames_ok
  simp only [Bool.and_eq_true] at z
  exact ⟨List.all_eq_true.mp z.1.1.1 x h, List.all_eq_true.mp z.1.2 x h⟩
theorem bGoal_ok {x : Str} (h : x ∈ bGoals) : okName x = true ∧ okTx x = true := by
  have z := bNames_ok
  simp only [Bool.and_eq_true] at z
  exact ⟨List.all_eq_true.mp z.1.1.2 x h, List.all_eq_true.mp z.2 x h⟩
def GoodB (called : List Str) (a : Act) : Prop := (∀ n ∈ a.names, n ∈ called) ∧ ∀ g ∈ a.goal, g ∈ bGoals
section
variable {P : Program} {w : World} {K : PySem.W.Frag} {mg : Str → Option Value} {base : Heap}
/-! ### _law_names -/
def sp_names : Sp := fun vs H Q _ => ∃ (p q : Addr) (many : Int), vs = [.ref p, .int many] ∧ DealAt H p q ∧ 1 ≤ many ∧ many ≤ 10 ∧
  ∀ l (called : List Str) H', DealAt H' p q → Same (hide p q H) (hide p q H') → hide p q H' l = some (.lst (called.map V.str)) → hide p q H l = none → called.Nodup → (∀ x ∈ called, x ∈ bNames) → (called.length : Int) = many → Q (.ref l) H'
theorem sc_names : FnScope ["_law_deal_here", "_law_many"] ["_law_deal_here", "_law_many"] (defScope s__law_names) := ⟨rfl, rfl, rfl, by decide +kernel, rfl, by decide +kernel, by decide +kernel⟩
theorem ok_names (G : Glo K mg "_law_names" s__law_names) (D2 : CalX P w K mg base CX0 3 "_law_mixed" (sp_mixed K)) : CalX P w K mg base CX0 4 "_law_names" sp_names := by
  refine mkCal G sc_names (fun vs H Q E h => ?_) (fun _ _ _ _ _ _ us hl => match us, hl with | [_, _], _ => rfl) (fun f cdv A outer s H vs Q E hr h => ?_)
  · obtain ⟨p, q, many, rfl, _⟩ := h
    rfl
  · obtain ⟨p, q, many, rfl, d, m1, m10, k⟩ := h
    refine ⟨_, pss_one (ps_ret (pe_slice sl_list (pe_cal (j := 3) D2 hr (by decide) pass0 (pa_cons (pv 0) (pa_cons (pe_lst (pa_cons pe_str (pa_cons pe_str (pa_cons pe_str (pa_cons pe_str (pa_cons pe_str (pa_cons pe_str (pa_cons pe_str (pa_cons pe_str (pa_cons pe_str (pa_cons pe_str pa_nil))))))))))) pa_nil))) po_none (po_some (pv 1)))), ?_⟩
    have l10 : (10 : Nat) ≤ sizeLine := by decide
    refine ⟨_, rfl, l10, fun ln hln => ?_⟩
    obtain ⟨d1, s1, e1⟩ := d.put' (.lst (bNames.map V.str)) hln
    refine ⟨p, q, _, bNames, rfl, d1, .inl ⟨ln, rfl, sqL e1⟩, by decide, fun y hy => (bName_ok hy).2, fun nm fm H2 pm d2 s2 em fm0 => ?_⟩
    refine ⟨_, rfl, many, rfl, fm, _, rfl, sqL (hide_some em), fun c hc => ?_⟩
    rw [cut_take _ _ (by omega), ← List.map_take]
    obtain ⟨d4, s4, e4⟩ := d2.put' (.lst ((nm.take many.toNat).map V.str)) hc
    have nml : nm.length = 10 := pm.length_eq
    have sA := (s1.trans s2).trans s4
    refine k c _ _ d4 sA e4 ((s1.trans s2).free (hide_none hc)) ((pm.nodup_iff.mpr bNames_nd).sublist (List.take_sublist _ _)) (fun x hx => pm.mem_iff.mp (List.mem_of_mem_take hx)) ?_
    rw [List.length_take]
    omega
end
end MH
set_option Elab.async false
set_option linter.all false
set_option maxRecDepth 100000
set_option maxHeartbeats 4000000
namespace MH
open PySem PySem.Spec PyProof.Rows L2
theorem eqv_nil2 (ds : List PyData) : PyData.eqv (.list ds) (.list []) = ds.isEmpty := eqv_nil ds
theorem lay_all : ∀ {ds : List PyData}, (∀ d ∈ ds, d.canLay0 = true ∧ d.depth ≤ 10) → PyData.canLayAll0 ds = true ∧ PyData.depthAll ds ≤ 10
  | [], _ => ⟨rfl, Nat.zero_le _⟩
  | d :: ds, h => by
    obtain ⟨h1, h2⟩ := lay_all (ds := ds) fun x hx => h x (List.mem_cons_of_mem _ hx)
    obtain ⟨h3, h4⟩ := h d List.mem_cons_self
    refine ⟨by simp only [PyData.canLayAll0, Bool.and_eq_true]; exact ⟨h3, h1⟩, ?_⟩
    simp only [PyData.depthAll]
    omega
theorem shaped_all {ds : List PyData} (h : ∀ d ∈ ds, d.canLay0 = true ∧ d.depth ≤ 10) : SeqAt.shaped (.list ds) = true := by
  obtain ⟨h1, h2⟩ := lay_all h
  unfold SeqAt.shaped
  simp only [PyData.canLay0, PyData.depth, Bool.and_eq_true]
  exact ⟨h1, decide_eq_true (by omega)⟩
theorem dpAll_zipM {K : PySem.W.Frag} {H : Hp} : ∀ {ys : List (V × PyData)}, (∀ p ∈ ys, Dp K H p.1 p.2) → DpAll K H (ys.map (·.1)) (ys.map (·.2))
  | [], _ => .nil
  | p :: ys, h => .cons (h p List.mem_cons_self) (dpAll_zipM fun q hq => h q (List.mem_cons_of_mem _ hq))
section
variable {P : Program} {w : World} {K : PySem.W.Frag} {mg : Str → Option Value} {base : Heap}
/-! ### _law_mixed, of a tuple of data -/
def sp_mixedL (K : PySem.W.Frag) : Sp := fun vs H Q _ => ∃ (p q t : Addr) (xs : List (V × PyData)), vs = [.ref p, .ref t] ∧ DealAt H p q ∧ SqL K (hide p q H) t (xs.map (·.1)) ∧ xs.length ≤ 1000 ∧ (∀ z ∈ xs, Dp K (hide p q H) z.1 z.2 ∧ z.2.canLay0 = true ∧ z.2.depth ≤ 10) ∧
  ∀ (ys : List (V × PyData)) f H', ys.Perm xs → DealAt H' p q → Same (hide p q H) (hide p q H') → hide p q H' f = some (.lst (ys.map (·.1))) → Q (.ref f) H'
theorem ok_mixedL (G : Glo K mg "_law_mixed" s__law_mixed) (T : Blt mg) (D : CalX P w K mg base CX0 2 "_law_draw" sp_draw) : CalX P w K mg base CX0 3 "_law_mixed" (sp_mixedL K) := by
  refine mkCal G sc_mixed (fun vs H Q E h => ?_) (fun _ _ _ _ _ _ us hl => match us, hl with | [_, _], _ => rfl) (fun f cdv A outer s H vs Q E hr h => ?_)
  · obtain ⟨p, q, t, xs, rfl, _⟩ := h
    rfl
  · obtain ⟨p, q, t0, xs, rfl, d, hx, hlen, hdp, k⟩ := h
    have nd := sc_mixed.nd
    refine ⟨_, pss_cons (ps_par (i := 2) (j := 3) rfl nd rfl rfl (by decide) rfl rfl (pa_cons (pe_callTy call_list_of (by rfl) T.list boot_list (pa_cons (pv 1) pa_nil)) (pa_cons (pe_lst pa_nil) pa_nil)) (by rfl))
      (pss_cons (ps_while (passes_of rfl) (pt_cmpR (op_neD hr.units) (pv 2) (pe_lst pa_nil) (nomark _))
        (pss_one (ps_expr (pe_bm PySem.F.plainAttrs_list PySem.F.slot_list_append PySem.F.type_list_append mt_append (pv 3)
          (pa_cons (pe_bm PySem.F.plainAttrs_list PySem.F.slot_list_pop PySem.F.type_list_pop mt_popAt (pv 2) (pa_cons (pe_cal (j := 2) D hr (by decide) pass0 (pa_cons (pv 0) (pa_cons (pe_callB call_len_seq (by rfl) T.len boot_len (pa_cons (pv 2) pa_nil)) pa_nil))) pa_nil)) pa_nil)))))
      (pss_one (ps_ret (pv 3)))), ?_⟩
    have zero : (0 : Nat) ≤ sizeLine := Nat.zero_le _
    have htT : SqL K H t0 (xs.map (·.1)) := hide_l hx
    refine ⟨_, rfl, t0, _, rfl, .inl htT, fun l hl => ?_⟩
    obtain ⟨d1, s1⟩ := d.put (o := .lst (xs.map (·.1))) hl (Same.refl _)
    obtain ⟨lp, lq⟩ := d.new hl
    have el : hide p q (upd H l (.lst (xs.map (·.1)))) l = some (.lst (xs.map (·.1))) := hide_of upd_same lp lq
    refine ⟨zero, fun f0 hf0 => ⟨_, _, rfl, ?_⟩⟩
    obtain ⟨fp, fq⟩ := d1.new hf0
    obtain ⟨d2, s2⟩ := d1.put (o := .lst []) hf0 s1
    have f00 : hide p q H f0 = none := s1.free (hide_none hf0)
    have l00 : hide p q H l = none := hide_none hl
    have fl : f0 ≠ l := fun z => by rw [z, upd_same] at hf0; cases hf0
    have el2 : hide p q (upd (upd H l (.lst (xs.map (·.1)))) f0 (.lst [])) l = some (.lst (xs.map (·.1))) := by rw [hide_upd fp fq, upd_ne fl.symm]; exact el
    have ef2 : hide p q (upd (upd H l (.lst (xs.map (·.1)))) f0 (.lst [])) f0 = some (.lst []) := hide_of upd_same fp fq
    generalize upd (upd H l (.lst (xs.map (·.1)))) f0 (.lst []) = H2 at d2 s2 el2 ef2 ⊢
    refine ⟨fun n σ Hq => ∃ ys zs : List (V × PyData), n = ys.length ∧ σ = [some (.ref p), some (.ref t0), some (.ref l), some (.ref f0)] ∧ (zs ++ ys).Perm xs ∧ DealAt Hq p q ∧ Same (hide p q H) (hide p q Hq) ∧ hide p q Hq l = some (.lst (ys.map (·.1))) ∧ hide p q Hq f0 = some (.lst (zs.map (·.1))),
      ⟨_, xs, [], rfl, rfl, List.Perm.refl _, d2, s2, el2, ef2⟩, ?_⟩
    rintro n σ Hq ⟨ys, zs, rfl, rfl, perm, dq, sq, lq', fq'⟩
    have tot : zs.length + ys.length ≤ 1000 := by rw [← List.length_append, perm.length_eq]; exact hlen
    have hty : ∀ y ∈ ys, Dp K (hide p q H) y.1 y.2 ∧ y.2.canLay0 = true ∧ y.2.depth ≤ 10 := fun y hy => hdp y (perm.mem_iff.mp (List.mem_append_right _ hy))
    refine ⟨_, rfl, zero, fun e he => ?_⟩
    obtain ⟨d3, s3⟩ := dq.put (o := .lst []) he (Same.refl _)
    have sl3 : Same Hq (upd Hq e (.lst [])) := Same.upd he
    have hdq : DpAll K (upd Hq e (.lst [])) (ys.map (·.1)) (ys.map (·.2)) := dpAll_zipM fun z hz => dp_same ((sq.trans (hide_same sl3)).trans hide_sub) (hty z hz).1
    refine ⟨.list (ys.map fun z : V × PyData => z.2), .list [], .lst (sqL (sl3 _ _ (hide_some lq'))) hdq, .lst (sqL upd_same) .nil, shaped_all (fun d hd => by obtain ⟨z, hz, rfl⟩ := List.mem_map.mp hd; exact (hty z hz).2), rfl, ?_⟩
    rw [eqv_nil]
    have l3 := s3 _ _ lq'
    have f3 := s3 _ _ fq'
    have sq3 := sq.trans s3
    generalize upd Hq e (.lst []) = H3 at d3 s3 l3 f3 sq3 ⊢
    cases ys with
    | nil =>
      refine ⟨false, rfl, iteF ⟨_, rfl, ?_⟩⟩
      refine k zs f0 H3 (by rw [List.append_nil] at perm; exact perm) d3 sq3 f3
    | cons y0 yr =>
      refine ⟨true, rfl, iteT ⟨_, fun σ' H' h => h, ?_⟩⟩
      refine ⟨_, rfl, .inl ⟨rfl, _, sqL (hide_some f3)⟩, _, rfl, .inl ⟨rfl, _, sqL (hide_some l3)⟩, _, rfl, _, rfl, l, _, rfl, .inl (sqL (hide_some l3)), p, q, _, rfl, d3, ?_, ?_, fun r H4 r0 r1 d4 s4 => ?_⟩
      · simp; omega
      · rw [List.length_map]; omega
      have l4 := s4 _ _ l3
      have f4 := s4 _ _ f3
      have hr2 : r.toNat < (y0 :: yr).length := by rw [List.length_map] at r1; omega
      have hg : (y0 :: yr)[r.toNat]? = some (y0 :: yr)[r.toNat] := List.getElem?_eq_getElem hr2
      generalize (y0 :: yr)[r.toNat] = y at hg
      have small : r < 1001 := by rw [List.length_map] at r1; omega
      refine ⟨l, _, r, r.toNat, y.1, rfl, rfl, hide_some l4, by omega, by omega, seqIndex_of r0 r1, by rw [List.getElem?_map, hg]; rfl, ?_⟩
      have er : ((y0 :: yr).map (·.1)).eraseIdx r.toNat = ((y0 :: yr).eraseIdx r.toNat).map (·.1) := eraseIdx_map' _ _ _
      rw [er]
      have f5 : (upd H4 l (.lst (((y0 :: yr).eraseIdx r.toNat).map (·.1)))) f0 = some (.lst (zs.map (·.1))) := by rw [upd_ne fl]; exact hide_some f4
      refine ⟨f0, _, _, rfl, rfl, f5, by rw [List.length_map]; exact line_lt (by omega), ?_⟩
      have pe := erase_perm hg
      refine ⟨_, ?_, (y0 :: yr).eraseIdx r.toNat, zs ++ [y], rfl, rfl, ?_, ?_, ?_, ?_, ?_⟩
      · rw [List.length_eraseIdx_of_lt hr2]
        simp
      · rw [List.append_assoc]
        exact (pe.append_left zs).trans perm
      · exact (d4.upd lp lq).upd fp fq
      · rw [hide_upd fp fq, hide_upd lp lq]
        have sA : Same (hide p q H) (hide p q H4) := sq3.trans s4
        exact same_put (same_put sA l00) f00
      · rw [hide_upd fp fq, upd_ne fl.symm]
        exact hide_of upd_same lp lq
      · rw [hide_upd fp fq, upd_same, List.map_append]
        rfl
end
end MH
set_option Elab.async false
set_option linter.all false
set_option maxRecDepth 100000
set_option maxHeartbeats 4000000
namespace MH
open PySem PySem.Spec PyProof.Rows L2
abbrev Ent : Type := Str × Option Int × Option Int
def entD3 (e : Ent) : PyData := entE e.1 e.2.1 e.2.2
def EntP (H : Hp) (v : V) (e : Ent) : Prop := ∃ t, v = .ref t ∧ H t = some (.tup [.str e.1, nV e.2.1, nV e.2.2])
theorem EntP.same {H H' : Hp} {v : V} {e : Ent} (s : Same H H') (h : EntP H v e) : EntP H' v e := let ⟨t, a, b⟩ := h; ⟨t, a, s _ _ b⟩
theorem EntP.dp {K : PySem.W.Frag} {H : Hp} {v : V} {e : Ent} (h : EntP H v e) : Dp K H v (entD3 e) := by
  obtain ⟨t, rfl, ht⟩ := h
  have dn : ∀ r : Option Int, Dp K H (nV r) (nD r) := fun r => by
    cases r with
    | none => exact .non
    | some i => exact .int i
  exact .tup (sqT ht) (.cons (.str _) (.cons (dn _) (.cons (dn _) .nil)))
theorem ents_dp {K : PySem.W.Frag} {H : Hp} : ∀ {vs : List V} {es : List Ent}, Paired (EntP H) vs es → DpAll K H vs (es.map entD3)
  | _, _, .nil => .nil
  | _, _, .cons h r => .cons h.dp (ents_dp r)
theorem ent_lay {e : Ent} (h : okName e.1 = true) (p : posN e.2.1 = true ∧ (∀ v, e.2.1 = some v → v < 1000000)) (q : posN e.2.2 = true ∧ (∀ v, e.2.2 = some v → v < 1000000)) : simD (entD3 e) = true := by
  have sn : ∀ r : Option Int, posN r = true → (∀ v, r = some v → v < 1000000) → simD (nD r) = true := fun r h1 h2 => by
    cases r with
    | none => rfl
    | some i =>
      show simD (.int i) = true
      rw [simD]
      have : 0 ≤ i := by simpa [posN] using h1
      exact decide_eq_true ⟨this, h2 i rfl⟩
  unfold entD3 entE
  rw [simD, simAll, simAll, simAll, simAll, simD, okTx_nmH h, sn _ p.1 p.2, sn _ q.1 q.2]
  rfl
/-- four pairs and their list -/
theorem four_put {p q : Addr} {H : Hp} (d : DealAt H p q) {t1 t2 t3 t4 l : Addr} {o1 o2 o3 o4 o5 : HO} (e1 e2 e3 e4 : Ent)
    (h1 : H t1 = none) (h2 : upd H t1 o1 t2 = none) (h3 : upd (upd H t1 o1) t2 o2 t3 = none) (h4 : upd (upd (upd H t1 o1) t2 o2) t3 o3 t4 = none) (h5 : upd (upd (upd (upd H t1 o1) t2 o2) t3 o3) t4 o4 l = none)
    (q1 : o1 = .tup [.str e1.1, nV e1.2.1, nV e1.2.2]) (q2 : o2 = .tup [.str e2.1, nV e2.2.1, nV e2.2.2]) (q3 : o3 = .tup [.str e3.1, nV e3.2.1, nV e3.2.2]) (q4 : o4 = .tup [.str e4.1, nV e4.2.1, nV e4.2.2]) (q5 : o5 = .lst [.ref t1, .ref t2, .ref t3, .ref t4]) :
    DealAt (upd (upd (upd (upd (upd H t1 o1) t2 o2) t3 o3) t4 o4) l o5) p q ∧ Same (hide p q H) (hide p q (upd (upd (upd (upd (upd H t1 o1) t2 o2) t3 o3) t4 o4) l o5)) ∧ Same H (upd (upd (upd (upd (upd H t1 o1) t2 o2) t3 o3) t4 o4) l o5) ∧
      ∃ vs, hide p q (upd (upd (upd (upd (upd H t1 o1) t2 o2) t3 o3) t4 o4) l o5) l = some (.lst vs) ∧ Paired (EntP (hide p q (upd (upd (upd (upd (upd H t1 o1) t2 o2) t3 o3) t4 o4) l o5))) vs [e1, e2, e3, e4] := by
  subst q1 q2 q3 q4 q5
  obtain ⟨d1, s1, f1⟩ := d.put' (.tup [.str e1.1, nV e1.2.1, nV e1.2.2]) h1
  obtain ⟨d2, s2, f2⟩ := d1.put' (.tup [.str e2.1, nV e2.2.1, nV e2.2.2]) h2
  obtain ⟨d3, s3, f3⟩ := d2.put' (.tup [.str e3.1, nV e3.2.1, nV e3.2.2]) h3
  obtain ⟨d4, s4, f4⟩ := d3.put' (.tup [.str e4.1, nV e4.2.1, nV e4.2.2]) h4
  obtain ⟨d5, s5, f5⟩ := d4.put' (.lst [.ref t1, .ref t2, .ref t3, .ref t4]) h5
  refine ⟨d5, (((s1.trans s2).trans s3).trans s4).trans s5, ((((Same.upd h1).trans (Same.upd h2)).trans (Same.upd h3)).trans (Same.upd h4)).trans (Same.upd h5), _, f5, ?_⟩
  exact .cons ⟨t1, rfl, ((s2.trans s3).trans (s4.trans s5)) _ _ f1⟩ (.cons ⟨t2, rfl, (s3.trans (s4.trans s5)) _ _ f2⟩ (.cons ⟨t3, rfl, (s4.trans s5) _ _ f3⟩ (.cons ⟨t4, rfl, s5 _ _ f4⟩ .nil)))
theorem pair_data {a : Str} (h : okName a = true) : SeqAt.shaped (.list [.tuple [.str a, .int 5]]) = true ∧ PyData.eqv (.list [.tuple [.str a, .int 5]]) (.list [.tuple [.str a, .int 5]]) = true := by
  have hx := okTx_nmH h
  refine ⟨sim_shaped ?_ (by simp [PyData.depth, PyData.depthAll]), ?_⟩
  · rw [simD, simAll, simAll, simD, simAll, simAll, simAll, simD, simD, hx]
    rfl
  · show ((decide (a = a) && (true && true)) && true) = true
    simp
theorem ent_depth (e : Ent) : (entD3 e).depth ≤ 10 := by
  have hd : ∀ r : Option Int, (nD r).depth = 0 := fun r => by cases r <;> simp [nD, PyData.depth]
  simp [entD3, entE, PyData.depth, PyData.depthAll, hd]
def goals4 : List Str := ["cash", "desk", "fax", "hub"]
theorem goals4_ok : (goals4.all fun x => okName x && okTx x) = true := by decide +kernel
theorem goals4_nd : goals4.Nodup := by decide +kernel
theorem goal4 {x : Str} (h : x ∈ goals4) : okName x = true := by
  have := List.all_eq_true.mp goals4_ok x h
  exact (Bool.and_eq_true_iff.mp this).1
theorem four_names {l : List Str} (hl : l.length = 4) (nd : l.Nodup) (h : ∀ x ∈ l, x ∈ bNames) : ∃ a b c d, l = [a, b, c, d] ∧ Names4 a b c d := by
  match l, hl with
  | [a, b, c, d], _ => exact ⟨a, b, c, d, rfl, nd, (bName_ok (h a (by simp))).1, (bName_ok (h b (by simp))).1, (bName_ok (h c (by simp))).1, (bName_ok (h d (by simp))).1⟩
theorem two_goals {l : List Str} (pm : l.Perm goals4) : ∃ x y r, l = x :: y :: r ∧ x ≠ y ∧ okName x = true ∧ okName y = true ∧ x ≠ "back" := by
  have hl := pm.length_eq
  match l, hl, pm with
  | x :: y :: r, _, pm =>
    have nd := pm.nodup_iff.mpr goals4_nd
    refine ⟨x, y, r, rfl, ?_, goal4 (pm.mem_iff.mp (by simp)), goal4 (pm.mem_iff.mp (by simp)), fun e => ?_⟩
    · have := (List.nodup_cons.mp nd).1
      exact fun e => this (by rw [e]; simp)
    · have hx : x ∈ goals4 := pm.mem_iff.mp (by simp)
      rw [e] at hx
      exact absurd hx (by decide +kernel)
def goodE (a b c d : Str) : List Ent := [(a, some 5, none), (b, some 5, some 3), (c, some 5, some 1), (d, some 1, none)]
def dueE (a b c d : Str) : List Ent := [(a, some 5, none), (b, none, some 3), (c, none, some 1), (d, some 1, none)]
def otherE (a b c d : Str) : List Ent := [(a, some 5, some 4), (b, none, some 3), (c, none, some 1), (d, some 1, some 0)]
def Good4 (a b c d x : Str) (es : List Ent) : Prop := es.length = 4 ∧ (∀ e ∈ es, simD (entD3 e) = true) ∧ ∀ ds : List PyData, ds.Perm (es.map entD3) → holdsD (boardK a b c d x) x (some 5) (.tuple ds) = true ∧ holdsD (boardK a b c d x) x (some 6) (.tuple ds) = false
theorem good4 {a b c d x : Str} (n : Names4 a b c d) : Good4 a b c d x (goodE a b c d) ∧ Good4 a b c d x (dueE a b c d) ∧ Good4 a b c d x (otherE a b c d) := by
  have lay : ∀ (es : List Ent), (∀ e ∈ es, okName e.1 = true ∧ posN e.2.1 = true ∧ (∀ v, e.2.1 = some v → v < 1000000) ∧ posN e.2.2 = true ∧ (∀ v, e.2.2 = some v → v < 1000000)) → ∀ e ∈ es, simD (entD3 e) = true := fun es h e he => by
    obtain ⟨h1, h2, h3, h4, h5⟩ := h e he
    exact ent_lay h1 ⟨h2, h3⟩ ⟨h4, h5⟩
  refine ⟨⟨rfl, lay _ (by simp [goodE, n.oa, n.ob, n.oc, n.od, posN]), fun ds pm => ?_⟩, ⟨rfl, lay _ (by simp [dueE, n.oa, n.ob, n.oc, n.od, posN]), fun ds pm => ?_⟩, ⟨rfl, lay _ (by simp [otherE, n.oa, n.ob, n.oc, n.od, posN]), fun ds pm => ?_⟩⟩
  · exact ⟨(holdsK n rfl pm).trans rfl, (holdsK n rfl pm).trans rfl⟩
  · exact ⟨(holdsK n rfl pm).trans rfl, (holdsK n rfl pm).trans rfl⟩
  · exact ⟨(holdsK n rfl pm).trans rfl, (holdsK n rfl pm).trans rfl⟩
theorem cut_drop (xs : List V) (r : Nat) (h : r ≤ xs.length) : cutV xs (some (r : Int)) none = xs.drop r := by
  unfold cutV
  rw [HT.sIx_nat, HT.sIx_none, Nat.min_eq_left h]
  exact List.take_of_length_le (by rw [List.length_drop]; omega)
theorem paired_takeH {α β : Type} {R : α → β → Prop} : ∀ {l : List α} {m : List β} (n : Nat), Paired R l m → Paired R (l.take n) (m.take n)
  | _, _, 0, _ => .nil
  | _, _, _ + 1, .nil => .nil
  | _, _, n + 1, .cons h r => .cons h (paired_takeH n r)
theorem paired_dropH {α β : Type} {R : α → β → Prop} : ∀ {l : List α} {m : List β} (n : Nat), Paired R l m → Paired R (l.drop n) (m.drop n)
  | _, _, 0, h => h
  | _, _, _ + 1, .nil => .nil
  | _, _, n + 1, .cons _ r => paired_dropH n r
def withTo (a b c d : Str) (i : Nat) (e : Ent) (v : Int) : List Ent := (dueE a b c d).take i ++ [(e.1, some v, e.2.2)] ++ (dueE a b c d).drop (i + 1)
def withHome (a b c d : Str) (i : Nat) (e : Ent) (v : Int) : List Ent := (dueE a b c d).take i ++ [(e.1, e.2.1, some v)] ++ (dueE a b c d).drop (i + 1)
theorem dueTo {a b c d x : Str} (n : Names4 a b c d) {i : Nat} (hi : i < 4) {e : Ent} (he : (dueE a b c d)[i]? = some e) {v : Int} (hv : ([6, 6, 2, 2] : List Int)[i]? = some v) :
    holdsD (boardK a b c d x) x (some 0) (.tuple ((withTo a b c d i e v).map entD3)) = decide (V.int (i : Nat) = V.int 1) := by
  match i, hi with
  | 0, _ => cases he; cases hv; exact (holdsK n rfl (List.Perm.refl _)).trans rfl
  | 1, _ => cases he; cases hv; exact (holdsK n rfl (List.Perm.refl _)).trans rfl
  | 2, _ => cases he; cases hv; exact (holdsK n rfl (List.Perm.refl _)).trans rfl
  | 3, _ => cases he; cases hv; exact (holdsK n rfl (List.Perm.refl _)).trans rfl
theorem dueHome {a b c d x : Str} (n : Names4 a b c d) {i : Nat} (hi : i < 4) {e : Ent} (he : (dueE a b c d)[i]? = some e) {v : Int} (hv : ([0, 4, 2, 0] : List Int)[i]? = some v) :
    holdsD (boardK a b c d x) x (some 0) (.tuple ((withHome a b c d i e v).map entD3)) = false := by
  match i, hi with
  | 0, _ => cases he; cases hv; exact (holdsK n rfl (List.Perm.refl _)).trans rfl
  | 1, _ => cases he; cases hv; exact (holdsK n rfl (List.Perm.refl _)).trans rfl
  | 2, _ => cases he; cases hv; exact (holdsK n rfl (List.Perm.refl _)).trans rfl
  | 3, _ => cases he; cases hv; exact (holdsK n rfl (List.Perm.refl _)).trans rfl
end MH
set_option Elab.async false
set_option linter.all false
set_option maxRecDepth 100000
set_option maxHeartbeats 8000000
namespace MH
open PySem PySem.Spec PyProof.Rows L2
theorem lens6 : ("menu " : Str).length = 5 ∧ (" tries 1" : Str).length = 8 ∧ (" tries 2" : Str).length = 8 ∧ (" tries 3" : Str).length = 8 ∧ ("1 call " : Str).length = 7 ∧ (" " : Str).length = 1 ∧ ("2 line " : Str).length = 7 ∧ ("3 go " : Str).length = 5 := by decide +kernel
section
variable {P : Program} {w : World} {K : PySem.W.Frag} {mg : Str → Option Value} {base : Heap}
/-! ### law -/
def sp_law (K : PySem.W.Frag) : Sp := fun vs H Q _ => ∃ (a : Addr) (ns : List Int), vs = [.ref a] ∧ SqL K H a (ns.map V.int) ∧ ns.length ≤ 63 ∧ ∀ H', Q (.bl true) H'
abbrev lawN : List Str := ["_law_script", "_law_deal_here", "_law_turn", "_law_a", "_law_b", "_law_c", "_law_d", "_law_x", "_law_y", "_law_lines", "_law_made", "_law_good", "_law_one", "_law_due", "_law_other", "_law_some", "_law_at", "_law_number", "_law_more"]
theorem sc_law : FnScope ["_law_script", "_law_deal_here", "_law_turn", "_law_a", "_law_b", "_law_c", "_law_d", "_law_x", "_law_y", "_law_lines", "_law_made", "_law_good", "_law_one", "_law_due", "_law_other", "_law_some", "_law_at", "_law_number", "_law_more"] ["_law_script"] (defScope s_law) := ⟨rfl, rfl, rfl, by decide +kernel, rfl, by decide +kernel, by decide +kernel⟩
theorem ok_law {CB CM f : Addr} {fd : FuncData} (F : FunD K "law" "law" (defArgs s_law) (defBody s_law) (defScope s_law) [] [] f fd) (T : Blt mg)
    (D1 : CalX P w K mg base CX0 2 "_law_deal" (sp_deal K)) (DX : CalX P w K mg base CX0 3 "_law_mixed" (sp_mixed K)) (DL : CalX P w K mg base CX0 3 "_law_mixed" (sp_mixedL K)) (DN : CalX P w K mg base CX0 4 "_law_names" sp_names)
    (D2 : ReadX P w K mg base 9 "Board" "read" CB (sp_board_read CB CM)) (DF : CalX P w K mg base CX0 8 "fewest" (sp_fewest K CB CM)) (DP : CalX P w K mg base CX0 8 "paper" (sp_paper CB CM)) (DH : CalX P w K mg base CX0 6 "paper_holds" (sp_paper_holds K CB CM)) (DO : CalX P w K mg base CX0 10 "_law_lone_right" sp_lone) :
    FnOk P w K mg base CX0 12 f fd ["_law_script"] (sp_law K) := by
  obtain ⟨mc, pm0, g0, R, C, FR, gB⟩ := D2.ex
  refine F.ok (k := 11) sc_law (fun vs H Q E h => ?_) (fun cdv A outer s0 H vs Q E hr h => ?_)
  · obtain ⟨a, ns, rfl, _⟩ := h
    rfl
  · obtain ⟨sa, ns, rfl, hs, hlen, k⟩ := h
    have nd := sc_law.nd
    have hu := hu_of hr
    refine ⟨_, pss_cons (ps_set (i := 1) nd rfl (Or.inl rfl) (pe_cal (j := 11) D1 hr (by decide) pass0 (pa_cons (pv 0) pa_nil)))
      (pss_cons (ps_for (passes_of rfl) rfl (pi_range1 (by rfl) T.range (pa_cons pe_int pa_nil)) (pg_name (i := 2) nd rfl (Or.inl rfl))
        (pss_cons (ps_asg (pe_cal (j := 11) DN hr (by decide) pass0 (pa_cons (pv 1) (pa_cons pe_int pa_nil))) (pg_lst rfl (pgs_cons (pg_name (i := 3) nd rfl (Or.inr rfl)) (pgs_cons (pg_name (i := 4) nd rfl (Or.inl rfl)) (pgs_cons (pg_name (i := 5) nd rfl (Or.inl rfl)) (pgs_cons (pg_name (i := 6) nd rfl (Or.inl rfl)) pgs_nil))))))
        (pss_cons (ps_asg (pe_slice sl_list (pe_cal (j := 11) DX hr (by decide) pass0 (pa_cons (pv 1) (pa_cons (pe_lst (pa_cons pe_str (pa_cons pe_str (pa_cons pe_str (pa_cons pe_str pa_nil))))) pa_nil))) po_none (po_some pe_int)) (pg_lst rfl (pgs_cons (pg_name (i := 7) nd rfl (Or.inl rfl)) (pgs_cons (pg_name (i := 8) nd rfl (Or.inl rfl)) pgs_nil))))
        (pss_cons (ps_set (i := 9) nd rfl (Or.inl rfl) (pe_lst (pa_cons (pe_op op_add_str (pe_op op_add_str pe_str (pv 3)) pe_str) (pa_cons (pe_op op_add_str (pe_op op_add_str (pe_op op_add_str pe_str (pv 4)) pe_str) (pv 6)) (pa_cons pe_str (pa_cons (pe_op op_add_str (pe_op op_add_str pe_str (pv 4)) pe_str) pa_nil))))))
        (pss_cons (ps_set (i := 9) nd rfl (Or.inl rfl) (pe_op op_cat (pv 9) (pe_lst (pa_cons (pe_op op_add_str (pe_op op_add_str (pe_op op_add_str pe_str (pv 5)) pe_str) (pv 5)) (pa_cons pe_str (pa_cons (pe_op op_add_str (pe_op op_add_str pe_str (pv 5)) pe_str) (pa_cons pe_str (pa_cons pe_str pa_nil))))))))
        (pss_cons (ps_set (i := 10) nd rfl (Or.inl rfl) (ClX.pe_cmeth (E := E0) (pe_glob (v := .ref CB) rfl gB rfl) R C FR (hr.mono (by decide)) pass0 (pa_cons (pe_join pe_str (pe_op op_cat (pv 9) (pe_lst (pa_cons (pe_op op_add_str (pe_op op_add_str pe_str (pv 6)) pe_str) (pa_cons (pe_op op_add_str pe_str (pv 7)) (pa_cons (pe_op op_add_str pe_str (pv 3)) (pa_cons pe_str pa_nil))))))) pa_nil)))
        (pss_cons (ps_set (i := 11) nd rfl (Or.inl rfl) (pe_lst (pa_cons (pe_tup (pa_cons (pv 3) (pa_cons pe_int (pa_cons pe_non pa_nil)))) (pa_cons (pe_tup (pa_cons (pv 4) (pa_cons pe_int (pa_cons pe_int pa_nil)))) (pa_cons (pe_tup (pa_cons (pv 5) (pa_cons pe_int (pa_cons pe_int pa_nil)))) (pa_cons (pe_tup (pa_cons (pv 6) (pa_cons pe_int (pa_cons pe_non pa_nil)))) pa_nil))))))
        (pss_cons (ps_if (PW.pt (pw_or (pt_cmpR op_ne (pe_cal (j := 11) DF hr (by decide) pass0 (pa_cons (pv 10) (pa_cons (pe_lst (pa_cons (pv 3) pa_nil)) (pa_cons (pv 7) pa_nil)))) pe_int (nomark _)) (pw_or1 (pt_cmpR (op_neD hr.units) (pe_lc (te := L2.tSl (rSlT K) (tVar 12) tNoPart (tPart (tC (.int 2)))) (tt := tTest (tOp rEq (tOp (rIxT K) (tVar 12) (tC (.int 0))) (tVar 3))) (own := [("_law_one", 12)]) (g := gName 12) rfl nd (pi_tup (pe_cal (j := 11) DP hr (by decide) pass0 (pa_cons (pv 10) (pa_cons (pv 7) pa_nil))))
            (blkOk_by (own := [("_law_one", 12)]) (N := lawN) (sc := defScope s_law) (by decide +kernel)) (fun _ _ _ _ _ => pg_name (i := 12) nd rfl (Or.inl rfl)) (fun _ _ _ _ _ => pts_one (pt_cmpR op_eq (pe_ix ix_tup (pv 12) pe_int (fun _ _ => rfl)) (pv 3) (nomark _))) (fun _ _ _ _ _ => pe_slice sl_tup (pv 12) po_none (po_some pe_int))) (pe_lst (pa_cons (pe_tup (pa_cons (pv 3) (pa_cons pe_int pa_nil))) pa_nil)) (nomark _)))))
          (pss_one (ps_ret pe_bl))
          pss_nil)
        (pss_cons (ps_set (i := 13) nd rfl (Or.inl rfl) (pe_lst (pa_cons (pe_tup (pa_cons (pv 3) (pa_cons pe_int (pa_cons pe_non pa_nil)))) (pa_cons (pe_tup (pa_cons (pv 4) (pa_cons pe_non (pa_cons pe_int pa_nil)))) (pa_cons (pe_tup (pa_cons (pv 5) (pa_cons pe_non (pa_cons pe_int pa_nil)))) (pa_cons (pe_tup (pa_cons (pv 6) (pa_cons pe_int (pa_cons pe_non pa_nil)))) pa_nil))))))
        (pss_cons (ps_set (i := 14) nd rfl (Or.inl rfl) (pe_lst (pa_cons (pe_tup (pa_cons (pv 3) (pa_cons pe_int (pa_cons pe_int pa_nil)))) (pa_cons (pe_tup (pa_cons (pv 4) (pa_cons pe_non (pa_cons pe_int pa_nil)))) (pa_cons (pe_tup (pa_cons (pv 5) (pa_cons pe_non (pa_cons pe_int pa_nil)))) (pa_cons (pe_tup (pa_cons (pv 6) (pa_cons pe_int (pa_cons pe_int pa_nil)))) pa_nil))))))
        (pss_cons (ps_for (passes_of rfl) rfl (pi_tup (pe_tup (pa_cons (pv 11) (pa_cons (pv 13) (pa_cons (pv 14) pa_nil))))) (pg_name (i := 15) nd rfl (Or.inl rfl))
          (pss_cons (ps_if (pt_cmpR op_isnot_bl (pe_cal (j := 11) DH hr (by decide) pass0 (pa_cons (pv 10) (pa_cons (pv 7) (pa_cons pe_int (pa_cons (pe_callTy call_tuple_of (by rfl) T.tuple boot_tuple (pa_cons (pe_cal (j := 11) DL hr (by decide) pass0 (pa_cons (pv 1) (pa_cons (pv 15) pa_nil))) pa_nil)) pa_nil))))) pe_bl (nomark _))
            (pss_one (ps_ret pe_bl))
            pss_nil)
          (pss_one (ps_if (pt_val (pe_cal (j := 11) DH hr (by decide) pass0 (pa_cons (pv 10) (pa_cons (pv 7) (pa_cons pe_int (pa_cons (pe_callTy call_tuple_of (by rfl) T.tuple boot_tuple (pa_cons (pv 15) pa_nil)) pa_nil))))))
            (pss_one (ps_ret pe_bl))
            pss_nil))))
        (pss_cons (ps_for (passes_of rfl) rfl (pi_enum (by rfl) T.enumerate (pa_cons (pe_lst (pa_cons pe_int (pa_cons pe_int (pa_cons pe_int (pa_cons pe_int pa_nil))))) pa_nil)) (pg_tup rfl (pgs_cons (pg_name (i := 16) nd rfl (Or.inl rfl)) (pgs_cons (pg_name (i := 17) nd rfl (Or.inl rfl)) pgs_nil)))
          (pss_cons (ps_set (i := 18) nd rfl (Or.inl rfl) (pe_op op_cat (pe_op op_cat (pe_slice sl_list (pv 13) po_none (po_some (pv 16))) (pe_lst (pa_cons (pe_tup (pa_cons (pe_ix ix_tup (pe_ix ix_list (pv 13) (pv 16) (fun _ _ => rfl)) pe_int (fun _ _ => rfl)) (pa_cons (pv 17) (pa_cons (pe_ix ix_tup (pe_ix ix_list (pv 13) (pv 16) (fun _ _ => rfl)) pe_int (fun _ _ => rfl)) pa_nil)))) pa_nil))) (pe_slice sl_list (pv 13) (po_some (pe_op op_add (pv 16) pe_int)) po_none)))
          (pss_one (ps_if (pt_cmpR op_ne (pe_cal (j := 11) DH hr (by decide) pass0 (pa_cons (pv 10) (pa_cons (pv 7) (pa_cons pe_int (pa_cons (pe_callTy call_tuple_of (by rfl) T.tuple boot_tuple (pa_cons (pv 18) pa_nil)) pa_nil))))) (pe_cmpR op_eq (pv 16) pe_int (nomark _)) (nomark _))
            (pss_one (ps_ret pe_bl))
            pss_nil))))
        (pss_cons (ps_for (passes_of rfl) rfl (pi_enum (by rfl) T.enumerate (pa_cons (pe_lst (pa_cons pe_int (pa_cons pe_int (pa_cons pe_int (pa_cons pe_int pa_nil))))) pa_nil)) (pg_tup rfl (pgs_cons (pg_name (i := 16) nd rfl (Or.inl rfl)) (pgs_cons (pg_name (i := 17) nd rfl (Or.inl rfl)) pgs_nil)))
          (pss_cons (ps_set (i := 18) nd rfl (Or.inl rfl) (pe_op op_cat (pe_op op_cat (pe_slice sl_list (pv 13) po_none (po_some (pv 16))) (pe_lst (pa_cons (pe_tup (pa_cons (pe_ix ix_tup (pe_ix ix_list (pv 13) (pv 16) (fun _ _ => rfl)) pe_int (fun _ _ => rfl)) (pa_cons (pe_ix ix_tup (pe_ix ix_list (pv 13) (pv 16) (fun _ _ => rfl)) pe_int (fun _ _ => rfl)) (pa_cons (pv 17) pa_nil)))) pa_nil))) (pe_slice sl_list (pv 13) (po_some (pe_op op_add (pv 16) pe_int)) po_none)))
          (pss_one (ps_if (pt_val (pe_cal (j := 11) DH hr (by decide) pass0 (pa_cons (pv 10) (pa_cons (pv 7) (pa_cons pe_int (pa_cons (pe_callTy call_tuple_of (by rfl) T.tuple boot_tuple (pa_cons (pv 18) pa_nil)) pa_nil))))))
            (pss_one (ps_ret pe_bl))
            pss_nil))))
        (pss_one (ps_if (pt_not (pt_val (pe_cal (j := 11) DO hr (by decide) pass0 (pa_cons (pv 3) (pa_cons (pv 4) (pa_cons (pv 7) (pa_cons (pv 8) pa_nil)))))))
          (pss_one (ps_ret pe_bl))
          pss_nil)))))))))))))))
      (pss_one (ps_ret pe_bl))), ?_⟩
    have l1 : (1 : Nat) ≤ sizeLine := by decide
    have l2 : (2 : Nat) ≤ sizeLine := by decide
    have l3 : (3 : Nat) ≤ sizeLine := by decide
    have l4 : (4 : Nat) ≤ sizeLine := by decide
    have l5 : (5 : Nat) ≤ sizeLine := by decide
    obtain ⟨c1, c2, c3, c4, c5, c6, c7, c8⟩ := lens6
    refine ⟨_, rfl, sa, ns, rfl, hs, hlen, fun p q H1 d1 s1 hp0 hq0 => ?_⟩
    refine ⟨4, rfl, by decide, by decide, ?_⟩
    refine for_it (walk_range (lo := 0) (n := 4)) (fun i σ Hq => (∃ x2 x3 x4 x5 x6 x7 x8 x9 x10 x11 x12 x13 x14 x15 x16 x17 x18, σ = [some (.ref sa), some (.ref p), x2, x3, x4, x5, x6, x7, x8, x9, x10, x11, x12, x13, x14, x15, x16, x17, x18]) ∧ DealAt Hq p q) ⟨⟨_, _, _, _, _, _, _, _, _, _, _, _, _, _, _, _, _, rfl⟩, d1⟩ (fun _ _ _ _ _ => trivial) (fun i xx σ Hq0 Hq hi ⟨⟨x2, x3, x4, x5, x6, x7, x8, x9, x10, x11, x12, x13, x14, x15, x16, x17, x18, hσ⟩, dq⟩ yy => ?_) (fun σ Hq _ => k Hq)
    subst hσ
    obtain ⟨rfl, hxx⟩ := yy
    -- the names
    refine ⟨_, rfl, p, q, 4, rfl, dq, by decide, by decide, fun ln called H2 d2 s2 e2 hln nd2 in2 len2 => ?_⟩
    obtain ⟨a, b, c, d, rfl, n4⟩ := four_names (by omega) nd2 in2
    refine ⟨ln, _, rfl, sqL (hide_some e2), rfl, _, _, rfl, _, _, rfl, _, _, rfl, _, _, rfl, rfl, ?_⟩
    -- the lines' names
    refine ⟨_, rfl, l4, fun lg hlg => ?_⟩
    obtain ⟨d3, s3, e3⟩ := d2.put' (.lst [.str "cash", .str "desk", .str "fax", .str "hub"]) hlg
    generalize upd H2 lg (.lst [.str "cash", .str "desk", .str "fax", .str "hub"]) = H3 at d3 s3 e3 ⊢
    refine ⟨p, q, .ref lg, goals4, rfl, d3, .inl ⟨lg, rfl, sqL e3⟩, by decide, (fun y hy => (Bool.and_eq_true_iff.mp (List.all_eq_true.mp goals4_ok y hy)).2), fun gs4 f H4 pm d4 s4 e4 hf => ?_⟩
    obtain ⟨x, y, rr, rfl, ne, okx, oky, xb⟩ := two_goals pm
    refine ⟨2, rfl, f, _, rfl, sqL (hide_some e4), fun l6 h6 => ?_⟩
    have e6 : (upd H4 l6 (.lst (cutV ((x :: y :: rr).map V.str) none (some 2)))) l6 = some (.lst [.str x, .str y]) := by
      rw [upd_same, cut_take _ _ (by decide)]
      rfl
    have d6 := d4.same (Same.upd (o := .lst (cutV ((x :: y :: rr).map V.str) none (some 2))) h6)
    generalize upd H4 l6 (.lst (cutV ((x :: y :: rr).map V.str) none (some 2))) = H6 at e6 d6 ⊢
    refine ⟨l6, _, rfl, sqL e6, rfl, _, _, rfl, _, _, rfl, rfl, ?_⟩
    have na := okName_len n4.oa
    have nb := okName_len n4.ob
    have nc := okName_len n4.oc
    have ndl := okName_len n4.od
    have nx := okName_len okx
    have ok := okK n4 okx
    -- the lines
    refine ⟨_, rfl, _, _, rfl, rfl, line_of (by omega), _, _, rfl, rfl, line_of (by rw [app_len]; omega), _, rfl, _, _, rfl, rfl, line_of (by omega), _, _, rfl, rfl, line_of (by rw [app_len]; omega), _, rfl, _, _, rfl, rfl, line_of (by rw [app_len, app_len]; omega), _, rfl, _, _, rfl, rfl, line_of (by omega), _, _, rfl, rfl, line_of (by rw [app_len]; omega), l4, fun la hla => ?_⟩
    have s7 := Same.upd (o := .lst [.str ((("menu " : Str) ++ a) ++ " tries 1"), .str (((("1 call " : Str) ++ b) ++ " ") ++ d), .str "else again", .str ((("menu " : Str) ++ b) ++ " tries 2")]) hla
    have e7 : (upd H6 la (.lst [.str ((("menu " : Str) ++ a) ++ " tries 1"), .str (((("1 call " : Str) ++ b) ++ " ") ++ d), .str "else again", .str ((("menu " : Str) ++ b) ++ " tries 2")])) la = some (.lst [.str ((("menu " : Str) ++ a) ++ " tries 1"), .str (((("1 call " : Str) ++ b) ++ " ") ++ d), .str "else again", .str ((("menu " : Str) ++ b) ++ " tries 2")]) := upd_same
    generalize upd H6 la (.lst [.str ((("menu " : Str) ++ a) ++ " tries 1"), .str (((("1 call " : Str) ++ b) ++ " ") ++ d), .str "else again", .str ((("menu " : Str) ++ b) ++ " tries 2")]) = H7 at s7 e7 ⊢
    refine ⟨_, rfl, _, rfl, _, _, rfl, rfl, line_of (by omega), _, _, rfl, rfl, line_of (by rw [app_len]; omega), _, rfl, _, _, rfl, rfl, line_of (by rw [app_len, app_len]; omega), _, rfl, _, _, rfl, rfl, line_of (by omega), _, _, rfl, rfl, line_of (by rw [app_len]; omega), l5, fun lb hlb => ?_⟩
    have s8 := Same.upd (o := .lst [.str (((("1 call " : Str) ++ c) ++ " ") ++ c), .str "else again", .str ((("menu " : Str) ++ c) ++ " tries 3"), .str "7 back", .str "else again"]) hlb
    have e8 : (upd H7 lb (.lst [.str (((("1 call " : Str) ++ c) ++ " ") ++ c), .str "else again", .str ((("menu " : Str) ++ c) ++ " tries 3"), .str "7 back", .str "else again"])) lb = some (.lst [.str (((("1 call " : Str) ++ c) ++ " ") ++ c), .str "else again", .str ((("menu " : Str) ++ c) ++ " tries 3"), .str "7 back", .str "else again"]) := upd_same
    generalize upd H7 lb (.lst [.str (((("1 call " : Str) ++ c) ++ " ") ++ c), .str "else again", .str ((("menu " : Str) ++ c) ++ " tries 3"), .str "7 back", .str "else again"]) = H8 at s8 e8 ⊢
    refine ⟨la, lb, _, _, rfl, rfl, s8 _ _ e7, e8, (show 9 ≤ sizeLine by decide), fun lc hlc => ?_⟩
    have s9 := Same.upd (o := .lst ([.str ((("menu " : Str) ++ a) ++ " tries 1"), .str (((("1 call " : Str) ++ b) ++ " ") ++ d), .str "else again", .str ((("menu " : Str) ++ b) ++ " tries 2")] ++ [.str (((("1 call " : Str) ++ c) ++ " ") ++ c), .str "else again", .str ((("menu " : Str) ++ c) ++ " tries 3"), .str "7 back", .str "else again"])) hlc
    have e9 : (upd H8 lc (.lst ([.str ((("menu " : Str) ++ a) ++ " tries 1"), .str (((("1 call " : Str) ++ b) ++ " ") ++ d), .str "else again", .str ((("menu " : Str) ++ b) ++ " tries 2")] ++ [.str (((("1 call " : Str) ++ c) ++ " ") ++ c), .str "else again", .str ((("menu " : Str) ++ c) ++ " tries 3"), .str "7 back", .str "else again"]))) lc = some (.lst ([.str ((("menu " : Str) ++ a) ++ " tries 1"), .str (((("1 call " : Str) ++ b) ++ " ") ++ d), .str "else again", .str ((("menu " : Str) ++ b) ++ " tries 2")] ++ [.str (((("1 call " : Str) ++ c) ++ " ") ++ c), .str "else again", .str ((("menu " : Str) ++ c) ++ " tries 3"), .str "7 back", .str "else again"])) := upd_same
    generalize upd H8 lc (.lst ([.str ((("menu " : Str) ++ a) ++ " tries 1"), .str (((("1 call " : Str) ++ b) ++ " ") ++ d), .str "else again", .str ((("menu " : Str) ++ b) ++ " tries 2")] ++ [.str (((("1 call " : Str) ++ c) ++ " ") ++ c), .str "else again", .str ((("menu " : Str) ++ c) ++ " tries 3"), .str "7 back", .str "else again"])) = H9 at s9 e9 ⊢
    refine ⟨rfl, ⟨_, rfl⟩, _, rfl, _, rfl, _, _, rfl, rfl, line_of (by omega), _, _, rfl, rfl, line_of (by rw [app_len]; omega), _, rfl, _, _, rfl, rfl, line_of (by omega), _, rfl, _, _, rfl, rfl, line_of (by omega), l4, fun ld hld => ?_⟩
    have sA := Same.upd (o := .lst [.str ((("menu " : Str) ++ d) ++ " tries 1"), .str (("2 line " : Str) ++ x), .str (("3 go " : Str) ++ a), .str "else main"]) hld
    have eA : (upd H9 ld (.lst [.str ((("menu " : Str) ++ d) ++ " tries 1"), .str (("2 line " : Str) ++ x), .str (("3 go " : Str) ++ a), .str "else main"])) ld = some (.lst [.str ((("menu " : Str) ++ d) ++ " tries 1"), .str (("2 line " : Str) ++ x), .str (("3 go " : Str) ++ a), .str "else main"]) := upd_same
    generalize upd H9 ld (.lst [.str ((("menu " : Str) ++ d) ++ " tries 1"), .str (("2 line " : Str) ++ x), .str (("3 go " : Str) ++ a), .str "else main"]) = HA at sA eA ⊢
    refine ⟨lc, ld, _, _, rfl, rfl, sA _ _ e9, eA, (show 13 ≤ sizeLine by decide), fun le hle => ?_⟩
    refine ⟨_, le, boardLines (boardK a b c d x), rfl, rfl, .inl (sqL (by rw [upd_same, ← linesK]; rfl)), board_sum ok, boardK a b c d x, rfl, ok, fun z HB sB hz bz => ?_⟩
    have dB := ((((d6.same s7).same s8).same s9).same sA).same ((Same.upd hle).trans sB)
    rw [sortK n4 okx] at bz
    obtain ⟨dx, mt, nt, lt, xs, gs, hI⟩ := bz
    have gx : x ∈ gs := (hI.goals.mem x).mpr (by simp [goalsOf, boardK, Menu.acts, Act.goal])
    clear e2 e3 e4 e6 e7 e8 e9 eA s3 s4 s7 s8 s9 sA sB hla hlb hlc hld hle h6 hlg d2 d3 d4 d6 hf hz
    -- the good paper
    refine ⟨_, rfl, l3, fun t1 h1 => ⟨_, rfl, l3, fun t2 h2 => ⟨_, rfl, l3, fun t3 h3 => ⟨_, rfl, l3, fun t4 h4 => ⟨l4, fun lG hG => ?_⟩⟩⟩⟩⟩
    obtain ⟨dC, shC, sC, vG, eG, pG⟩ := four_put (o5 := .lst [.ref t1, .ref t2, .ref t3, .ref t4]) dB (a, some 5, none) (b, some 5, some 3) (c, some 5, some 1) (d, some 1, none) h1 h2 h3 h4 hG rfl rfl rfl rfl rfl
    generalize upd (upd (upd (upd (upd HB t1 (.tup [.str a, .int 5, .non])) t2 (.tup [.str b, .int 5, .int 3])) t3 (.tup [.str c, .int 5, .int 1])) t4 (.tup [.str d, .int 1, .non])) lG (.lst [.ref t1, .ref t2, .ref t3, .ref t4]) = HC at dC shC sC eG pG ⊢
    have hIC := hI.mono (Fr := fun _ => True) trivial trivial (Fz.of sC)
    clear h1 h2 h3 h4 hG
    -- fewest
    refine ⟨_, rfl, _, rfl, l1, fun ls hls => ⟨_, rfl, ?_⟩⟩
    have sD := Same.upd (o := .lst [.str a]) hls
    refine ⟨z, ls, _, a, x, dx, mt, nt, lt, xs, gs, rfl, hIC.mono (Fr := fun _ => True) trivial trivial (Fz.of sD), ok, gx, xb, sqL upd_same, (by simp [boardK, namesOf]), fun s HE sE run => ?_⟩
    rw [runK n4 okx run]
    refine ⟨rfl, _, rfl, ite_ny rfl ?_⟩
    have sCE := sD.trans sE
    clear hls sD sE run
    -- paper
    refine ⟨_, rfl, _, rfl, z, _, x, dx, mt, nt, lt, xs, gs, rfl, hIC.mono (Fr := fun _ => True) trivial trivial (Fz.of sCE), ok, gx, fun pp es s2 HF sF hpp epp pes run => ?_⟩
    have sa5 := runK n4 okx run
    have nd4 := n4.nd
    simp only [List.nodup_cons, List.mem_cons, List.not_mem_nil, or_false, not_or] at nd4
    obtain ⟨⟨ab, ac, ad⟩, ⟨bc, bd⟩, cd, -⟩ := nd4
    have pes : Paired (EntryV s2 HF) es [a, b, c, d] := pes
    have esl := Paired.length pes
    have esl4 : es.length = 4 := esl
    refine ⟨pp, rfl, ⟨_, sqT epp⟩, fun L hL => ?_⟩
    refine lc_pure (Fr := fun _ => False) (walk_tup (K := K) (xs := es)) hL (by omega) (fun j o Hz => ∃ nm, ([a, b, c, d] : List Str)[j]? = some nm ∧ ((nm = a ∧ ∃ t, o = some (.ref t) ∧ Hz t = some (.tup [.str a, .int 5])) ∨ (nm ≠ a ∧ o = none)))
      (fun _ _ _ _ e ⟨nm, h1, h2⟩ => ⟨nm, h1, h2.imp (fun ⟨h3, t, h4, h5⟩ => ⟨h3, t, h4, e _ _ h5 trivial⟩) id⟩) (fun Hz sz => sqT (sz _ _ epp)) (fun j xx Hz0 Hz k1 k0 hj sz yy q1 q0 => ?_) (fun HG os sG hl2 hr2 hD2 => ?_)
    · obtain ⟨rfl, hx⟩ := yy
      obtain ⟨nm, hnm, t, rfl, ht⟩ := paired_getL pes hx
      refine ⟨rfl, _, rfl, t, _, 0, _, rfl, rfl, sqT (sz _ _ ht), rfl, _, rfl, rfl, _, rfl, ?_⟩
      have e0 : (V.str nm = V.str a) ↔ nm = a := ⟨V.str.inj, congrArg V.str⟩
      by_cases hq : nm = a
      · rw [decide_eq_true (e0.mpr hq)]
        subst hq
        rw [sa5] at ht
        refine iteT ⟨_, rfl, _, rfl, t, _, rfl, sqT (sz _ _ ht), (fun z => absurd (show HT.sIx 3 3 (some 2) = 3 from z.2) (by decide +kernel)), fun t8 ht8 => ?_⟩
        exact q1 _ _ (Same.upd ht8) ⟨nm, hnm, .inl ⟨rfl, t8, rfl, by rw [upd_same]; rfl⟩⟩
      · rw [decide_eq_false fun z => hq (e0.mp z)]
        exact iteF (q0 _ (Same.refl _) ⟨nm, hnm, .inr ⟨hq, rfl⟩⟩)
    obtain ⟨tA, htA, eL⟩ : ∃ tA, HG tA = some (.tup [.str a, .int 5]) ∧ HG L = some (.lst [.ref tA]) := by
      have l4' : os.length = 4 := by rw [hl2, esl4]
      match os, l4', hr2, hD2 with
      | [o0, o1, o2, o3], _, hr2, hD2 =>
        obtain ⟨n0, q0, r0⟩ := hr2 0 o0 rfl
        obtain ⟨n1, q1, r1⟩ := hr2 1 o1 rfl
        obtain ⟨n2, q2, r2⟩ := hr2 2 o2 rfl
        obtain ⟨n3, q3, r3⟩ := hr2 3 o3 rfl
        cases q0
        cases q1
        cases q2
        cases q3
        rcases r0 with ⟨-, t, rfl, ht⟩ | ⟨h, -⟩
        · rcases r1 with ⟨h, -⟩ | ⟨-, rfl⟩
          · exact absurd h.symm ab
          · rcases r2 with ⟨h, -⟩ | ⟨-, rfl⟩
            · exact absurd h.symm ac
            · rcases r3 with ⟨h, -⟩ | ⟨-, rfl⟩
              · exact absurd h.symm ad
              · exact ⟨t, ht, hD2⟩
        · exact absurd rfl h
    refine ⟨_, rfl, l2, fun t8 ht8 => ⟨l1, fun l9 hl9 => ?_⟩⟩
    have sH := (Same.upd (o := .tup [.str a, .int 5]) ht8).trans (Same.upd (o := .lst [.ref t8]) hl9)
    have e8 := (Same.upd (o := .lst [.ref t8]) hl9) _ _ (show (upd HG t8 (.tup [.str a, .int 5])) t8 = some (.tup [.str a, .int 5]) from upd_same)
    have e9 : (upd (upd HG t8 (.tup [.str a, .int 5])) l9 (.lst [.ref t8])) l9 = some (.lst [.ref t8]) := upd_same
    have eA := sH _ _ htA
    have eL := sH _ _ eL
    generalize upd (upd HG t8 (.tup [.str a, .int 5])) l9 (.lst [.ref t8]) = HH at sH e8 e9 eA eL ⊢
    obtain ⟨shp, eqv⟩ := pair_data n4.oa
    refine ⟨.list [.tuple [.str a, .int 5]], .list [.tuple [.str a, .int 5]], .lst (sqL eL) (.cons (.tup (sqT eA) (.cons (.str _) (.cons (.int _) .nil))) .nil), .lst (sqL e9) (.cons (.tup (sqT e8) (.cons (.str _) (.cons (.int _) .nil))) .nil), shp, shp, _, rfl, ?_⟩
    rw [eqv]
    refine iteF ?_
    have sCH := ((sCE.trans sF).trans sG).trans sH
    have dH := dC.same sCH
    have shH := hide_same (p := p) (q := q) sCH
    have eGH := shH _ _ eG
    have pGH := paired_imp pG fun _ _ z => z.same shH
    have hIH := hIC.mono (Fr := fun _ => True) trivial trivial (Fz.of sCH)
    clear eG pG shC sC sCE sF sG sH sCH e8 e9 eA eL htA hD2 hr2 hpp pes run epp shH hIC dC
    -- the due and the other paper
    refine ⟨_, rfl, l3, fun t1 h1 => ⟨_, rfl, l3, fun t2 h2 => ⟨_, rfl, l3, fun t3 h3 => ⟨_, rfl, l3, fun t4 h4 => ⟨l4, fun lD hD => ?_⟩⟩⟩⟩⟩
    obtain ⟨dI, shI, sI, vD, eD, pD⟩ := four_put (o5 := .lst [.ref t1, .ref t2, .ref t3, .ref t4]) dH (a, some 5, none) (b, none, some 3) (c, none, some 1) (d, some 1, none) h1 h2 h3 h4 hD rfl rfl rfl rfl rfl
    generalize upd (upd (upd (upd (upd HH t1 (.tup [.str a, .int 5, .non])) t2 (.tup [.str b, .non, .int 3])) t3 (.tup [.str c, .non, .int 1])) t4 (.tup [.str d, .int 1, .non])) lD (.lst [.ref t1, .ref t2, .ref t3, .ref t4]) = HI at dI shI sI eD pD ⊢
    clear h1 h2 h3 h4 hD
    refine ⟨_, rfl, l3, fun t1 h1 => ⟨_, rfl, l3, fun t2 h2 => ⟨_, rfl, l3, fun t3 h3 => ⟨_, rfl, l3, fun t4 h4 => ⟨l4, fun lO hO => ?_⟩⟩⟩⟩⟩
    obtain ⟨dJ, shJ, sJ, vO, eO, pO⟩ := four_put (o5 := .lst [.ref t1, .ref t2, .ref t3, .ref t4]) dI (a, some 5, some 4) (b, none, some 3) (c, none, some 1) (d, some 1, some 0) h1 h2 h3 h4 hO rfl rfl rfl rfl rfl
    generalize upd (upd (upd (upd (upd HI t1 (.tup [.str a, .int 5, .int 4])) t2 (.tup [.str b, .non, .int 3])) t3 (.tup [.str c, .non, .int 1])) t4 (.tup [.str d, .int 1, .int 0])) lO (.lst [.ref t1, .ref t2, .ref t3, .ref t4]) = HJ at dJ shJ sJ eO pO ⊢
    clear h1 h2 h3 h4 hO
    have eGJ := (shI.trans shJ) _ _ eGH
    have pGJ := paired_imp pGH fun _ _ z => z.same (shI.trans shJ)
    have eDJ := shJ _ _ eD
    have pDJ := paired_imp pD fun _ _ z => z.same shJ
    have hIJ := hIH.mono (Fr := fun _ => True) trivial trivial (Fz.of (sI.trans sJ))
    clear eGH pGH eD pD shI shJ sI sJ hIH dI dH
    -- three papers that hold
    refine ⟨_, rfl, _, rfl, _, rfl, l3, fun tt htt => ⟨tt, rfl, ⟨_, sqT upd_same⟩, ?_⟩⟩
    obtain ⟨dK, sK, eK⟩ := dJ.put' (.tup [.ref lG, .ref lD, .ref lO]) htt
    have sK2 := Same.upd (o := .tup [.ref lG, .ref lD, .ref lO]) htt
    generalize upd HJ tt (.tup [.ref lG, .ref lD, .ref lO]) = HK at dK sK eK sK2 ⊢
    have hIK := hIJ.mono (Fr := fun _ => True) trivial trivial (Fz.of sK2)
    obtain ⟨gG, gD, gO⟩ := good4 (x := x) n4
    have eGK := sK _ _ eGJ
    have pGK := paired_imp pGJ fun _ _ z => z.same sK
    have eDK := sK _ _ eDJ
    have pDK := paired_imp pDJ fun _ _ z => z.same sK
    have eOK := sK _ _ eO
    have pOK := paired_imp pO fun _ _ z => z.same sK
    clear eGJ pGJ eDJ pDJ eO pO hIJ sK sK2 htt dJ
    refine for_it (walk_tup (K := K) (xs := [.ref lG, .ref lD, .ref lO])) (fun i σ Hq => (∃ x2 x9 x12 x15 x16 x17 x18, σ = [some (.ref sa), some (.ref p), x2, some (.str a), some (.str b), some (.str c), some (.str d), some (.str x), some (.str y), x9, some (.ref z), some (.ref lG), x12, some (.ref lD), some (.ref lO), x15, x16, x17, x18]) ∧ DealAt Hq p q ∧ Same (hide p q HK) (hide p q Hq))
      ⟨⟨_, _, _, _, _, _, _, rfl⟩, dK, Same.refl _⟩ (fun i σ Hq _ w => sqT (hide_some (w.2.2 _ _ eK))) (fun i xx σ Hq0 Hq hi ⟨⟨x2, x9, x12, x15, x16, x17, x18, hσ⟩, dq, sq⟩ yy => ?_) (fun σ Hq ⟨⟨x2, x9, x12, x15, x16, x17, x18, hσ⟩, dq, sq⟩ => ?_)
    · obtain ⟨rfl, hx⟩ := yy
      subst hσ
      obtain ⟨l0, es, vs, rfl, el0, pl0, g4⟩ : ∃ (l0 : Addr) (es : List Ent) (vs : List V), xx = V.ref l0 ∧ hide p q HK l0 = some (.lst vs) ∧ Paired (EntP (hide p q HK)) vs es ∧ Good4 a b c d x es := by
        have := List.mem_of_getElem? hx
        simp only [List.mem_cons, List.not_mem_nil, or_false] at this
        rcases this with rfl | rfl | rfl
        · exact ⟨lG, _, vG, rfl, eGK, pGK, gG⟩
        · exact ⟨lD, _, vD, rfl, eDK, pDK, gD⟩
        · exact ⟨lO, _, vO, rfl, eOK, pOK, gO⟩
      have elq := sq _ _ el0
      have plq : Paired (EntP (hide p q Hq)) vs es := paired_imp pl0 fun _ _ w => w.same sq
      have vl := Paired.length plq
      have vl4 : vs.length = 4 := by rw [vl]; exact g4.1
      have fst : (vs.zip (es.map entD3)).map (·.1) = vs := List.map_fst_zip (by rw [List.length_map]; omega)
      have snd : (vs.zip (es.map entD3)).map (·.2) = es.map entD3 := List.map_snd_zip (by rw [List.length_map]; omega)
      have hIq := hIK.mono (Fr := fun _ => True) trivial trivial (dK.fz sq)
      have hz : ∀ w ∈ vs.zip (es.map entD3), Dp K (hide p q Hq) w.1 w.2 ∧ w.2.canLay0 = true ∧ w.2.depth ≤ 10 := fun w hw => by
        obtain ⟨e, he, h2⟩ := List.mem_map.mp (List.of_mem_zip hw).2
        refine ⟨MH.dpAll_zip (ents_dp plq) w hw, ?_, ?_⟩
        · rw [← h2]
          exact (sim_facts _ (g4.2.1 e he)).2.2.2
        · rw [← h2]
          exact ent_depth e
      refine ⟨_, rfl, _, rfl, _, rfl, _, rfl, p, q, l0, vs.zip (es.map entD3), rfl, dq, by rw [fst]; exact sqL elq, by rw [List.length_zip]; omega, hz, fun ys f H1' pm2 d1' s1' e1' => ⟨f, _, rfl, .inl ⟨sqL (hide_some e1'), fun tp htp => ?_⟩⟩⟩
      have su := Same.upd (o := .tup (ys.map (·.1))) htp
      have hI1 := hIq.mono (Fr := fun _ => True) trivial trivial ((dq.fz s1').trans (Fz.of su))
      have dpa : DpAll K (upd H1' tp (.tup (ys.map (·.1)))) (ys.map (·.1)) (ys.map (·.2)) := dpAll_zipM fun w hw => dp_same ((s1'.trans hide_sub).trans su) (hz w (pm2.mem_iff.mp hw)).1
      have pm3 : (ys.map (·.2)).Perm (es.map entD3) := by rw [← snd]; exact pm2.map _
      refine ⟨z, _, x, some 5, .ref tp, .tuple (ys.map (·.2)), dx, mt, nt, lt, xs, gs, rfl, hI1, ok, gx, .tup (sqT upd_same) dpa, fun H2' s2' => ⟨_, _, rfl, rfl, _, rfl, ?_⟩⟩
      rw [(g4.2.2 _ pm3).1]
      refine iteF ?_
      have d2' := (d1'.same su).same s2'
      have sq2 : Same (hide p q Hq) (hide p q H2') := s1'.trans (hide_same (su.trans s2'))
      have elq2 := sq2 _ _ elq
      have plq2 : Paired (EntP (hide p q H2')) vs es := paired_imp plq fun _ _ w => w.same sq2
      refine ⟨_, rfl, _, rfl, _, rfl, l0, _, rfl, .inl ⟨sqL (hide_some elq2), fun tp2 htp2 => ?_⟩⟩
      have su2 := Same.upd (o := .tup vs) htp2
      have hI3 := hIq.mono (Fr := fun _ => True) trivial trivial ((dq.fz sq2).trans (Fz.of su2))
      refine ⟨z, _, x, some 6, .ref tp2, .tuple (es.map entD3), dx, mt, nt, lt, xs, gs, rfl, hI3, ok, gx, .tup (sqT upd_same) (dpAll_same su2 (ents_dp (paired_imp plq2 fun _ _ w => w.same hide_sub))), fun H3' s3' => ⟨_, rfl, ?_⟩⟩
      rw [(g4.2.2 _ (List.Perm.refl _)).2]
      exact iteF ⟨⟨_, _, _, _, _, _, _, rfl⟩, (d2'.same su2).same s3', sq.trans (sq2.trans (hide_same (su2.trans s3')))⟩
    subst hσ
    have eDq := hide_some (sq _ _ eDK)
    have pDq : Paired (EntP Hq) vD (dueE a b c d) := paired_imp pDK fun _ _ w => (w.same sq).same hide_sub
    have hIq := hIK.mono (Fr := fun _ => True) trivial trivial (dK.fz sq)
    clear sq eDK pDK eGK pGK eOK pOK gG gD gO hIK dK eK
    -- to
    refine ⟨l4, fun ln4 hln4 => ⟨ln4, _, rfl, sqL upd_same, ?_⟩⟩
    have sn := Same.upd (o := .lst [.int 6, .int 6, .int 2, .int 2]) hln4
    have en : (upd Hq ln4 (.lst [.int 6, .int 6, .int 2, .int 2])) ln4 = some (.lst [.int 6, .int 6, .int 2, .int 2]) := upd_same
    have dq := dq.same sn
    have eDq := sn _ _ eDq
    have pDq := paired_imp pDq fun _ _ w => w.same sn
    have hIq := hIq.mono (Fr := fun _ => True) trivial trivial (Fz.of sn)
    generalize upd Hq ln4 (.lst [.int 6, .int 6, .int 2, .int 2]) = HN at sn en dq eDq pDq hIq ⊢
    clear sn hln4
    refine for_it (walk_enum (K := K) (xs := [.int 6, .int 6, .int 2, .int 2])) (fun i σ Hz => (∃ x2 x9 x12 x15 x16 x17 x18, σ = [some (.ref sa), some (.ref p), x2, some (.str a), some (.str b), some (.str c), some (.str d), some (.str x), some (.str y), x9, some (.ref z), some (.ref lG), x12, some (.ref lD), some (.ref lO), x15, x16, x17, x18]) ∧ Same HN Hz ∧ DealAt Hz p q)
      ⟨⟨_, _, _, _, _, _, _, rfl⟩, Same.refl _, dq⟩ (fun i σ Hz _ w => sqL (w.2.1 _ _ en)) (fun i xx σ Hz0 Hz hi ⟨⟨x2, x9, x12, x15, x16, x17, x18, hσ⟩, sq, dz⟩ yy => ?_) (fun σ Hz ⟨⟨x2, x9, x12, x15, x16, x17, x18, hσ⟩, sq, dz⟩ => ?_)
    · obtain ⟨TT, u, v, rfl, hTT, rfl, hu1, hv⟩ := yy
      subst hσ
      have hi4 : i < 4 := hi
      cases hu1
      have hv0 : ([6, 6, 2, 2] : List Int).map V.int = [.int 6, .int 6, .int 2, .int 2] := rfl
      have hv : ([.int 6, .int 6, .int 2, .int 2] : List V)[i]? = some v := hv
      rw [← hv0, List.getElem?_map] at hv
      obtain ⟨nn, hnn, rfl⟩ := Option.map_eq_some_iff.mp hv
      have sT := Same.upd (o := .tup [.int (i : Nat), .int nn]) hTT
      have vl4 : vD.length = 4 := Paired.length pDq
      obtain ⟨vi, hvi⟩ : ∃ vi, vD[i]? = some vi := ⟨_, List.getElem?_eq_getElem (by omega)⟩
      obtain ⟨e, hei, ti, rfl, hti⟩ := paired_getL pDq hvi
      refine ⟨TT, _, rfl, sqT upd_same, rfl, _, _, rfl, _, _, rfl, rfl, ?_⟩
      have sq3 : Same HN (upd Hz0 TT (.tup [.int (i : Nat), .int nn])) := sq.trans sT
      have dz := dz.same sT
      generalize upd Hz0 TT (.tup [.int (i : Nat), .int nn]) = HM at sT sq3 dz ⊢
      refine ⟨_, rfl, _, rfl, _, rfl, lD, _, rfl, sqL (sq3 _ _ eDq), fun c1 hc1 => ?_⟩
      rw [cut_take _ _ (by omega), Int.toNat_natCast]
      have sM := Same.upd (o := .lst (vD.take i)) hc1
      have e1 : (upd HM c1 (.lst (vD.take i))) c1 = some (.lst (vD.take i)) := upd_same
      generalize upd HM c1 (.lst (vD.take i)) = HO at sM e1 ⊢
      refine ⟨_, rfl, _, rfl, lD, _, (i : Nat), _, rfl, rfl, sqL (sM _ _ (sq3 _ _ eDq)), atI_nat hvi, ti, _, 0, _, rfl, rfl, sqT (sM _ _ (sq3 _ _ hti)), at0, _, rfl, _, rfl, _, rfl, lD, _, (i : Nat), _, rfl, rfl, sqL (sM _ _ (sq3 _ _ eDq)), atI_nat hvi, ti, _, 2, _, rfl, rfl, sqT (sM _ _ (sq3 _ _ hti)), at2, l3, fun tn htn => ⟨l1, fun ll hll => ?_⟩⟩
      have sN := (Same.upd (o := .tup [.str e.1, .int nn, nV e.2.2]) htn).trans (Same.upd (o := .lst [.ref tn]) hll)
      have e2 := (Same.upd (o := .lst [.ref tn]) hll) _ _ (show (upd HO tn (.tup [.str e.1, .int nn, nV e.2.2])) tn = some (.tup [.str e.1, .int nn, nV e.2.2]) from upd_same)
      have e3 : (upd (upd HO tn (.tup [.str e.1, .int nn, nV e.2.2])) ll (.lst [.ref tn])) ll = some (.lst [.ref tn]) := upd_same
      have e1 := sN _ _ e1
      generalize upd (upd HO tn (.tup [.str e.1, .int nn, nV e.2.2])) ll (.lst [.ref tn]) = HP at sN e1 e2 e3 ⊢
      refine ⟨c1, ll, _, _, rfl, rfl, e1, e3, line_of (by rw [List.length_take]; simp; omega), fun c2 hc2 => ?_⟩
      have sO := Same.upd (o := .lst (vD.take i ++ [.ref tn])) hc2
      have e4 : (upd HP c2 (.lst (vD.take i ++ [.ref tn]))) c2 = some (.lst (vD.take i ++ [.ref tn])) := upd_same
      have e2 := sO _ _ e2
      generalize upd HP c2 (.lst (vD.take i ++ [.ref tn])) = HR at sO e4 e2 ⊢
      have sX := (sM.trans sN).trans sO
      refine ⟨_, rfl, _, rfl, _, _, rfl, rfl, _, rfl, lD, _, rfl, sqL (sX _ _ (sq3 _ _ eDq)), fun c3 hc3 => ?_⟩
      have ec3 : cutV vD (some ((i : Nat) + 1 : Int)) none = vD.drop (i + 1) := cut_drop vD (i + 1) (by omega)
      rw [ec3]
      have sP := Same.upd (o := .lst (vD.drop (i + 1))) hc3
      have e5 : (upd HR c3 (.lst (vD.drop (i + 1)))) c3 = some (.lst (vD.drop (i + 1))) := upd_same
      have e4 := sP _ _ e4
      have e2 := sP _ _ e2
      generalize upd HR c3 (.lst (vD.drop (i + 1))) = HS at sP e5 e4 e2 ⊢
      refine ⟨c2, c3, _, _, rfl, rfl, e4, e5, line_of (by rw [List.length_append, List.length_take, List.length_drop]; simp; omega), fun c4 hc4 => ?_⟩
      have sR := Same.upd (o := .lst (vD.take i ++ [.ref tn] ++ vD.drop (i + 1))) hc4
      have e6 : (upd HS c4 (.lst (vD.take i ++ [.ref tn] ++ vD.drop (i + 1)))) c4 = some (.lst (vD.take i ++ [.ref tn] ++ vD.drop (i + 1))) := upd_same
      have e2 := sR _ _ e2
      generalize upd HS c4 (.lst (vD.take i ++ [.ref tn] ++ vD.drop (i + 1))) = HT' at sR e6 e2 ⊢
      have sY := (sX.trans sP).trans sR
      have pAll : Paired (EntP HT') (vD.take i ++ [.ref tn] ++ vD.drop (i + 1)) (withTo a b c d i e nn) := by
        have pq := paired_imp pDq fun _ _ w => w.same (sq3.trans sY)
        exact paired_app (paired_app (paired_takeH i pq) (.cons ⟨tn, rfl, e2⟩ .nil)) (paired_dropH (i + 1) pq)
      refine ⟨_, rfl, _, rfl, _, rfl, c4, _, rfl, .inl ⟨sqL e6, fun tp htp => ?_⟩⟩
      have sU := Same.upd (o := .tup (vD.take i ++ [.ref tn] ++ vD.drop (i + 1))) htp
      have sZ := sY.trans sU
      refine ⟨z, _, x, some 0, .ref tp, .tuple ((withTo a b c d i e nn).map entD3), dx, mt, nt, lt, xs, gs, rfl, hIq.mono (Fr := fun _ => True) trivial trivial (Fz.of (sq3.trans sZ)), ok, gx, .tup (sqT upd_same) (dpAll_same sU (ents_dp pAll)), fun H9' s9' => ?_⟩
      refine ⟨_, rfl, rfl, rfl, _, rfl, ?_⟩
      rw [dueTo n4 hi4 hei hnn]
      exact ite_ny rfl ⟨⟨_, _, _, _, _, _, _, rfl⟩, sq3.trans (sZ.trans s9'), dz.same (sZ.trans s9')⟩
    subst hσ
    have eDq := sq _ _ eDq
    have pDq := paired_imp pDq fun _ _ w => w.same sq
    have hIq := hIq.mono (Fr := fun _ => True) trivial trivial (Fz.of sq)
    have dq := dz
    clear sq en dz
    -- home
    refine ⟨l4, fun ln4 hln4 => ⟨ln4, _, rfl, sqL upd_same, ?_⟩⟩
    have sn := Same.upd (o := .lst [.int 0, .int 4, .int 2, .int 0]) hln4
    have en : (upd Hz ln4 (.lst [.int 0, .int 4, .int 2, .int 0])) ln4 = some (.lst [.int 0, .int 4, .int 2, .int 0]) := upd_same
    have dq := dq.same sn
    have eDq := sn _ _ eDq
    have pDq := paired_imp pDq fun _ _ w => w.same sn
    have hIq := hIq.mono (Fr := fun _ => True) trivial trivial (Fz.of sn)
    generalize upd Hz ln4 (.lst [.int 0, .int 4, .int 2, .int 0]) = HN at sn en dq eDq pDq hIq ⊢
    clear sn hln4
    refine for_it (walk_enum (K := K) (xs := [.int 0, .int 4, .int 2, .int 0])) (fun i σ Hz => (∃ x2 x9 x12 x15 x16 x17 x18, σ = [some (.ref sa), some (.ref p), x2, some (.str a), some (.str b), some (.str c), some (.str d), some (.str x), some (.str y), x9, some (.ref z), some (.ref lG), x12, some (.ref lD), some (.ref lO), x15, x16, x17, x18]) ∧ Same HN Hz ∧ DealAt Hz p q)
      ⟨⟨_, _, _, _, _, _, _, rfl⟩, Same.refl _, dq⟩ (fun i σ Hz _ w => sqL (w.2.1 _ _ en)) (fun i xx σ Hz0 Hz hi ⟨⟨x2, x9, x12, x15, x16, x17, x18, hσ⟩, sq, dz⟩ yy => ?_) (fun σ Hz ⟨⟨x2, x9, x12, x15, x16, x17, x18, hσ⟩, sq, dz⟩ => ?_)
    · obtain ⟨TT, u, v, rfl, hTT, rfl, hu1, hv⟩ := yy
      subst hσ
      have hi4 : i < 4 := hi
      cases hu1
      have hv0 : ([0, 4, 2, 0] : List Int).map V.int = [.int 0, .int 4, .int 2, .int 0] := rfl
      have hv : ([.int 0, .int 4, .int 2, .int 0] : List V)[i]? = some v := hv
      rw [← hv0, List.getElem?_map] at hv
      obtain ⟨nn, hnn, rfl⟩ := Option.map_eq_some_iff.mp hv
      have sT := Same.upd (o := .tup [.int (i : Nat), .int nn]) hTT
      have vl4 : vD.length = 4 := Paired.length pDq
      obtain ⟨vi, hvi⟩ : ∃ vi, vD[i]? = some vi := ⟨_, List.getElem?_eq_getElem (by omega)⟩
      obtain ⟨e, hei, ti, rfl, hti⟩ := paired_getL pDq hvi
      refine ⟨TT, _, rfl, sqT upd_same, rfl, _, _, rfl, _, _, rfl, rfl, ?_⟩
      have sq3 : Same HN (upd Hz0 TT (.tup [.int (i : Nat), .int nn])) := sq.trans sT
      have dz := dz.same sT
      generalize upd Hz0 TT (.tup [.int (i : Nat), .int nn]) = HM at sT sq3 dz ⊢
      refine ⟨_, rfl, _, rfl, _, rfl, lD, _, rfl, sqL (sq3 _ _ eDq), fun c1 hc1 => ?_⟩
      rw [cut_take _ _ (by omega), Int.toNat_natCast]
      have sM := Same.upd (o := .lst (vD.take i)) hc1
      have e1 : (upd HM c1 (.lst (vD.take i))) c1 = some (.lst (vD.take i)) := upd_same
      generalize upd HM c1 (.lst (vD.take i)) = HO at sM e1 ⊢
      refine ⟨_, rfl, _, rfl, lD, _, (i : Nat), _, rfl, rfl, sqL (sM _ _ (sq3 _ _ eDq)), atI_nat hvi, ti, _, 0, _, rfl, rfl, sqT (sM _ _ (sq3 _ _ hti)), at0, _, rfl, _, rfl, lD, _, (i : Nat), _, rfl, rfl, sqL (sM _ _ (sq3 _ _ eDq)), atI_nat hvi, ti, _, 1, _, rfl, rfl, sqT (sM _ _ (sq3 _ _ hti)), at1, _, rfl, l3, fun tn htn => ⟨l1, fun ll hll => ?_⟩⟩
      have sN := (Same.upd (o := .tup [.str e.1, nV e.2.1, .int nn]) htn).trans (Same.upd (o := .lst [.ref tn]) hll)
      have e2 := (Same.upd (o := .lst [.ref tn]) hll) _ _ (show (upd HO tn (.tup [.str e.1, nV e.2.1, .int nn])) tn = some (.tup [.str e.1, nV e.2.1, .int nn]) from upd_same)
      have e3 : (upd (upd HO tn (.tup [.str e.1, nV e.2.1, .int nn])) ll (.lst [.ref tn])) ll = some (.lst [.ref tn]) := upd_same
      have e1 := sN _ _ e1
      generalize upd (upd HO tn (.tup [.str e.1, nV e.2.1, .int nn])) ll (.lst [.ref tn]) = HP at sN e1 e2 e3 ⊢
      refine ⟨c1, ll, _, _, rfl, rfl, e1, e3, line_of (by rw [List.length_take]; simp; omega), fun c2 hc2 => ?_⟩
      have sO := Same.upd (o := .lst (vD.take i ++ [.ref tn])) hc2
      have e4 : (upd HP c2 (.lst (vD.take i ++ [.ref tn]))) c2 = some (.lst (vD.take i ++ [.ref tn])) := upd_same
      have e2 := sO _ _ e2
      generalize upd HP c2 (.lst (vD.take i ++ [.ref tn])) = HR at sO e4 e2 ⊢
      have sX := (sM.trans sN).trans sO
      refine ⟨_, rfl, _, rfl, _, _, rfl, rfl, _, rfl, lD, _, rfl, sqL (sX _ _ (sq3 _ _ eDq)), fun c3 hc3 => ?_⟩
      have ec3 : cutV vD (some ((i : Nat) + 1 : Int)) none = vD.drop (i + 1) := cut_drop vD (i + 1) (by omega)
      rw [ec3]
      have sP := Same.upd (o := .lst (vD.drop (i + 1))) hc3
      have e5 : (upd HR c3 (.lst (vD.drop (i + 1)))) c3 = some (.lst (vD.drop (i + 1))) := upd_same
      have e4 := sP _ _ e4
      have e2 := sP _ _ e2
      generalize upd HR c3 (.lst (vD.drop (i + 1))) = HS at sP e5 e4 e2 ⊢
      refine ⟨c2, c3, _, _, rfl, rfl, e4, e5, line_of (by rw [List.length_append, List.length_take, List.length_drop]; simp; omega), fun c4 hc4 => ?_⟩
      have sR := Same.upd (o := .lst (vD.take i ++ [.ref tn] ++ vD.drop (i + 1))) hc4
      have e6 : (upd HS c4 (.lst (vD.take i ++ [.ref tn] ++ vD.drop (i + 1)))) c4 = some (.lst (vD.take i ++ [.ref tn] ++ vD.drop (i + 1))) := upd_same
      have e2 := sR _ _ e2
      generalize upd HS c4 (.lst (vD.take i ++ [.ref tn] ++ vD.drop (i + 1))) = HT' at sR e6 e2 ⊢
      have sY := (sX.trans sP).trans sR
      have pAll : Paired (EntP HT') (vD.take i ++ [.ref tn] ++ vD.drop (i + 1)) (withHome a b c d i e nn) := by
        have pq := paired_imp pDq fun _ _ w => w.same (sq3.trans sY)
        exact paired_app (paired_app (paired_takeH i pq) (.cons ⟨tn, rfl, e2⟩ .nil)) (paired_dropH (i + 1) pq)
      refine ⟨_, rfl, _, rfl, _, rfl, c4, _, rfl, .inl ⟨sqL e6, fun tp htp => ?_⟩⟩
      have sU := Same.upd (o := .tup (vD.take i ++ [.ref tn] ++ vD.drop (i + 1))) htp
      have sZ := sY.trans sU
      refine ⟨z, _, x, some 0, .ref tp, .tuple ((withHome a b c d i e nn).map entD3), dx, mt, nt, lt, xs, gs, rfl, hIq.mono (Fr := fun _ => True) trivial trivial (Fz.of (sq3.trans sZ)), ok, gx, .tup (sqT upd_same) (dpAll_same sU (ents_dp pAll)), fun H9' s9' => ?_⟩
      refine ⟨_, rfl, ?_⟩
      rw [dueHome n4 hi4 hei hnn]
      exact iteF ⟨⟨_, _, _, _, _, _, _, rfl⟩, sq3.trans (sZ.trans s9'), dz.same (sZ.trans s9')⟩
    subst hσ
    have eDq := sq _ _ eDq
    have pDq := paired_imp pDq fun _ _ w => w.same sq
    have hIq := hIq.mono (Fr := fun _ => True) trivial trivial (Fz.of sq)
    have dq := dz
    clear sq en dz
    have ndab : [a, b].Nodup := by simp [ab]
    refine ⟨_, rfl, _, rfl, _, rfl, _, rfl, a, b, x, y, rfl, ndab, n4.oa, n4.ob, okx, oky, ne, fun H' s' => ⟨_, rfl, ?_⟩⟩
    exact iteF ⟨⟨_, _, _, _, _, _, _, _, _, _, _, _, _, _, _, _, _, rfl⟩, dq.same s'⟩
end
end MH
set_option Elab.async false
set_option linter.all false
set_option maxRecDepth 100000
set_option maxHeartbeats 4000000
namespace MH
open PySem PySem.Spec PyProof.Rows L2
/-! ### the head: facts, defs, tables -/
def obsM (fs : List (PySem.W.Frag → Bool)) (fn : List He5.DefA) (ts : List He.Tab) (K : PySem.W.Frag) : He.AlT := (((fs.all fun f => f K) && fn.all fun d => d.ok K, fn.map fun d => He5.fnA K (d.at_ K)), ts.map fun t => He.dicW K (t.1 K))
def valM (fn : List He5.DefA) (ts : List He.Tab) (w : World) : He.AlT := ((true, fn.map He5.DefA.val), ts.map fun t => some (He.keysIn w.params t.2))
def SaysM (fs : List (PySem.W.Frag → Bool)) (fn : List He5.DefA) (ts : List He.Tab) (w : World) (K : PySem.W.Frag) : Prop := obsM fs fn ts K = valM fn ts w
def obsMG (n : Nat) (fs : List (PySem.W.Frag → Bool)) (fn : List He5.DefA) (ts : List He.Tab) (g : Addr → Option Obj) : He.AlT := obsM fs fn ts (He.frG g (He5.asA g n))
def hookM (n : Nat) (fs : List (PySem.W.Frag → Bool)) (fn : List He5.DefA) (ts : List He.Tab) : PySem.W.Hook where
  α := He.AlT
  obs := fun s => obsMG n fs fn ts s.heap.get?
  val := fun w => valM fn ts w
  says := fun w h => ∃ K : PySem.W.Frag, K.In h ∧ SaysM fs fn ts w K
  of := fun _ _ e => ⟨_, He.frG_in, e⟩
  keeps := fun _ _ _ ⟨K, hK, c⟩ k => ⟨K, PySem.W.Frag.In.keeps hK k, c⟩
theorem obsMG_eq {n : Nat} {fs : List (PySem.W.Frag → Bool)} {fn : List He5.DefA} {ts : List He.Tab} {g : Addr → Option Obj} {s : Shared} (h : ∀ a, g a = s.heap.get? a) : obsMG n fs fn ts g = (hookM n fs fn ts).obs s := by
  have e : g = s.heap.get? := funext h
  rw [e] <;> rfl
section
variable {fs : List (PySem.W.Frag → Bool)} {fn : List He5.DefA} {ts : List He.Tab} {w : World} {K : PySem.W.Frag} {mg : Str → Option Value} {h : Heap}
theorem SaysM.fact (c : SaysM fs fn ts w K) (i : Nat) {f : PySem.W.Frag → Bool} (e : fs[i]? = some f := by rfl) : f K = true := by
  have c1 := (He.ba (show ((fs.all fun f => f K) && fn.all fun d => d.ok K) = true from congrArg (fun z : He.AlT => z.1.1) c)).1
  exact List.all_eq_true.mp c1 f (List.mem_of_getElem? e)
theorem SaysM.def_ (c : SaysM fs fn ts w K) (i : Nat) {d : He5.DefA} (e : fn[i]? = some d := by rfl) : ∃ fd, FunD K d.name d.qual d.params d.body d.scope (d.dvs K) (d.kws K) (d.at_ K) fd := by
  have c2 := (He.ba (show ((fs.all fun f => f K) && fn.all fun d => d.ok K) = true from congrArg (fun z : He.AlT => z.1.1) c)).2
  have e1 : fn.map (fun d => He5.fnA K (d.at_ K)) = fn.map He5.DefA.val := congrArg (fun z : He.AlT => z.1.2) c
  have e2 : (fn.map fun d => He5.fnA K (d.at_ K))[i]? = (fn.map He5.DefA.val)[i]? := by rw [e1]
  rw [List.getElem?_map, List.getElem?_map, e] at e2
  exact He5.DefA.funD (Option.some.inj e2) (List.all_eq_true.mp c2 d (List.mem_of_getElem? e))
theorem SaysM.tab (c : SaysM fs fn ts w K) (i : Nat) {t : He.Tab} (e : ts[i]? = some t := by rfl) : He.dicW K (t.1 K) = some (He.keysIn w.params t.2) := by
  have e1 : ts.map (fun t => He.dicW K (t.1 K)) = ts.map fun t => some (He.keysIn w.params t.2) := congrArg (fun z : He.AlT => z.2) c
  have e2 : (ts.map fun t => He.dicW K (t.1 K))[i]? = (ts.map fun t => some (He.keysIn w.params t.2))[i]? := by rw [e1]
  rw [List.getElem?_map, List.getElem?_map, e] at e2
  exact Option.some.inj e2
/-- an instance of a class, to isinstance -/
def isiB (x : Str) (K : PySem.W.Frag) : Bool := He.eqO (PySem.W.findIn K (.ref (He.ga K x)) "__class__") (some (some (.builtin "object.__class__"))) && (He.eqO (PySem.W.specialIn K (.builtin "object.__class__") "__get__") (some (some (.builtin "getset_descriptor.__get__"))) &&
  (decide (PySem.W.takesIn K (.builtin "object.__class__") = some true) && decide (PySem.W.mroIn K (He.ga K x) (.type "object") = some true)))
theorem isiB_ok {x : Str} (c : Cls K (He.ga K x)) (b : isiB x K = true) : IsiC K (He.ga K x) := by
  obtain ⟨b1, b⟩ := He.ba b
  obtain ⟨b2, b⟩ := He.ba b
  obtain ⟨b3, b4⟩ := He.ba b
  exact ⟨fun H a dx fs e => .base (.ins e c (He.eqO_ok b1) (He.eqO_ok b2) (of_decide_eq_true b3) (of_decide_eq_true b4))⟩
/-- a class's classmethod -/
def cmB (x m : Str) (K : PySem.W.Frag) : Bool := PySem.W.readsIn K (He.ga K x) (.type "type") && (He.eqO (PySem.W.specialIn K (.ref (He.ga K x)) "__getattribute__") (some (some (.builtin "type.__getattribute__"))) &&
  (He5.wrapB K (He.ga K x) "classmethod" "classmethod.__get__" m && PySem.W.fnIn K (He5.wf K (He.ga K x) "classmethod" m)))
theorem cmB_ok {x m : Str} (b : cmB x m K = true) : ClX.CRead K (He.ga K x) (.type "type") ∧ ClX.CMet K (He.ga K x) (.type "type") m (He.ma K (He.ga K x) m) (He5.wf K (He.ga K x) "classmethod" m) := by
  obtain ⟨b1, b⟩ := He.ba b
  obtain ⟨b2, b⟩ := He.ba b
  obtain ⟨b3, b4⟩ := He.ba b
  exact ⟨⟨b1, He.eqO_ok b2⟩, He5.cmet_of b3 b4⟩
/-- a class with its fields -/
def objB (x : Str) (fs : List Str) (K : PySem.W.Frag) : Bool := (He.Fa.cls x).ok K && fs.all fun f => (He.Fa.noat x f).ok K
theorem objB_ok {x : Str} {fs : List Str} (b : objB x fs K = true) : ObjC K (He.ga K x) fs := by
  obtain ⟨b1, b2⟩ := He.ba b
  exact ⟨He.cls_ok b1, fun f hf => He.noat_ok (List.all_eq_true.mp b2 f hf)⟩
/-- free names -/
def freeB (xs : List Str) (K : PySem.W.Frag) : Bool := xs.all fun x => (He.Fa.free x).ok K
theorem freeB_ok (X : K.In h) (G : h.Ns mainGlobals mg) {xs : List Str} (b : freeB xs K = true) {x : Str} (hx : x ∈ xs) : mg x = none := He.free_ok X G (List.all_eq_true.mp b x hx)
def bltNames : List Str := ["len", "isinstance", "str", "int", "bool", "list", "tuple", "set", "dict", "sorted", "all", "any", "range", "enumerate", "abs", "min", "repr", "zip"]
theorem blt_of (X : K.In h) (G : h.Ns mainGlobals mg) (b : freeB bltNames K = true) : Blt mg := by
  have f : ∀ x ∈ bltNames, mg x = none := fun x hx => freeB_ok X G b hx
  exact ⟨f _ (by simp [bltNames]), f _ (by simp [bltNames]), f _ (by simp [bltNames]), f _ (by simp [bltNames]), f _ (by simp [bltNames]), f _ (by simp [bltNames]), f _ (by simp [bltNames]), f _ (by simp [bltNames]), f _ (by simp [bltNames]),
    f _ (by simp [bltNames]), f _ (by simp [bltNames]), f _ (by simp [bltNames]), f _ (by simp [bltNames]), f _ (by simp [bltNames]), f _ (by simp [bltNames]), f _ (by simp [bltNames]), f _ (by simp [bltNames]), f _ (by simp [bltNames])⟩
/-- looking up in a table of texts -/
theorem nsIn_out {P : Params} {d : Addr} {ks : List Str} {x : Str} (t : He.dicW K d = some (He.keysIn P ks)) (hx : x ∉ ks) : PySem.W.nsIn K d x = some none := by
  unfold He.dicW at t
  unfold PySem.W.nsIn
  split at t
  · rename_i c es n sl q
    rw [q]
    dsimp only
    split at t
    · have e := Option.some.inj t
      have all : ∀ (l : List DictEntry) (ks : List Str), l.map He.keyOf = He.keysIn P ks → x ∉ ks → l.find? (·.key.isStr x) = none ∧ l.any (·.refKey) = false := by
        intro l
        induction l with
        | nil => intro ks _ _; exact ⟨rfl, rfl⟩
        | cons a l ih =>
          intro ks e hx
          cases ks with
          | nil => cases e
          | cons k ks =>
            have e1 : He.keyOf a :: l.map He.keyOf = some (k, PyData.keyHash P k) :: He.keysIn P ks := e
            injection e1 with e2 e3
            obtain ⟨h1, h2⟩ := ih ks e3 fun z => hx (List.mem_cons_of_mem _ z)
            unfold He.keyOf at e2
            split at e2
            · rename_i y tk q2
              have e4 := (Prod.mk.inj (Option.some.inj e2)).1
              have ne : y ≠ x := fun z => hx (by rw [← z, e4]; exact List.mem_cons_self)
              rw [List.find?_cons, List.any_cons, h1, h2, DictEntry.refKey, q2]
              refine ⟨?_, rfl⟩
              have e5 : (Value.str y tk).isStr x = false := by simp [Value.isStr, ne]
              rw [e5]
            · cases e2
      obtain ⟨h1, h2⟩ := all es.toList ks e hx
      rw [h1, h2]
      rfl
    · cases t
  · cases t
theorem cst_of (X : K.In h) (G : h.Ns mainGlobals mg) (b1 : (He.Fa.str "LETTERS" "abcdefghijklmnopqrstuvwxyz").ok K = true) (b2 : (He.Fa.str "SIGNS" "0123456789").ok K = true) (b3 : (He.Fa.int "MOST_LETTERS" 4).ok K = true)
    (g1 : (He.Fa.glo "BARRED").ok K = true) (b4 : He.tupB K "BARRED" (barred.map He.Dv.str) = true) (g2 : (He.Fa.glo "ALONE").ok K = true) (b5 : He.tupB K "ALONE" (alone.map He.Dv.str) = true)
    (g3 : (He.Fa.glo "MANY_NAMES").ok K = true) (t : He.dicW K (He.ga K "MANY_NAMES") = some (He.keysIn w.params ["line", "go", "call"])) (b6 : He.valsB K (He.ga K "MANY_NAMES") [("line", .int 1), ("go", .int 1), ("call", .int 2)] = true) : Cst K w mg where
  LETTERS := He.str_ok X G b1
  SIGNS := He.str_ok X G b2
  MOST := He.int_ok X G b3
  BARRED := ⟨_, He.glo_ok X G g1, fun H => He.tupB_ok b4 H⟩
  ALONE := ⟨_, He.glo_ok X G g2, fun H => He.tupB_ok b5 H⟩
  MANY := by
    obtain ⟨es, n, D⟩ := He.dicW_ok t
    refine ⟨He.ga K "MANY_NAMES", es, n, He.glo_ok X G g3, D, fun x => ?_⟩
    by_cases h1 : x = "line"
    · obtain ⟨u, e1, tk, e2⟩ := He.valsB_ok b6 (q := ("line", .int 1)) (by simp)
      exact ⟨_, by rw [h1]; exact e1, .inl ⟨.inl h1, tk, congrArg some e2⟩⟩
    · by_cases h2 : x = "go"
      · obtain ⟨u, e1, tk, e2⟩ := He.valsB_ok b6 (q := ("go", .int 1)) (by simp)
        exact ⟨_, by rw [h2]; exact e1, .inl ⟨.inr h2, tk, congrArg some e2⟩⟩
      · by_cases h3 : x = "call"
        · obtain ⟨u, e1, tk, e2⟩ := He.valsB_ok b6 (q := ("call", .int 2)) (by simp)
          exact ⟨_, by rw [h3]; exact e1, .inr (.inl ⟨h3, tk, congrArg some e2⟩)⟩
        · exact ⟨none, nsIn_out t (by simp [h1, h2, h3]), .inr (.inr ⟨fun z => z.elim h1 fun z => z.elim h2 h3, rfl⟩)⟩
/-- a def of the top -/
def gloD (x : Str) (st : Stmt) : He5.DefA := ⟨fun K => He.ga K x, x, x, defArgs st, defBody st, defScope st, [], []⟩
def metD (C m qual : Str) (st : Stmt) (dfl : List He.Dv) : He5.DefA := ⟨fun K => He.ma K (He.ga K C) m, m, qual, defArgs st, defBody st, defScope st, dfl, []⟩
def cmD (C m qual : Str) (st : Stmt) : He5.DefA := ⟨fun K => He5.wf K (He.ga K C) "classmethod" m, m, qual, defArgs st, defBody st, defScope st, [], []⟩
theorem glo_of (X : K.In h) (G : h.Ns mainGlobals mg) (c : SaysM fs fn ts w K) {x : Str} {st : Stmt} (i j : Nat) (e : fn[i]? = some (gloD x st) := by rfl) (e2 : fs[j]? = some (fun K => (He.Fa.glo x).ok K) := by rfl) : Glo K mg x st := by
  obtain ⟨fd, F⟩ := c.def_ i e
  exact ⟨_, fd, F, He.glo_ok X G (c.fact j e2)⟩
end
end MH
set_option Elab.async false
set_option linter.all false
set_option maxRecDepth 100000
set_option maxHeartbeats 4000000
namespace MH
open PySem PySem.Spec PyProof.Rows L2
/-! ### own exceptions: made without an argument; let out of a def that a global name tells -/
section
variable {X : Cx} {C : Addr} {bmB : List Value} {B newId initId : String}
/-- X() -/
theorem pmk_own0 {x : Str} {p pos : Pos} (F : ExcBaseFacts B newId initId bmB) (q : PySem.W.excIn X.K C bmB newId = true) (gC : X.mg x = some (.ref C)) (kC : PySem.W.keepIn X.K (.ref C) = true) (r : Raises X (.ref C)) (hg : Gl X x)
    (hdb : (x == ("__debug__" : Str)) = false := by decide) : PMk X (.Call (.Name x p) [] [] pos) (fun _ H Q => Q (.ref C) none H) := by
  intro pins s σ H Q I h
  refine wpAny_Call_Name_kw (ld_glob I hg gC ?_ hdb)
  refine PySem.W.callWith_K0 I.kIn kC ?_
  show wpAny _ _ (call (.ref C) []) _ _ _
  obtain ⟨bm, N, nm, qn, bs, hdct, sn, sub, ab, col, dd, k0, k1, k2, k3, k5, mN, hC, hN, hni, T⟩ := exc_obj I.kIn q
  obtain ⟨hp, g, dr, tk, os⟩ := s
  refine wpAny_call_exc_subT F T hC hN hni (fun h' e hm => ?_) (by show 0 ≤ sizeLine; exact Nat.zero_le _)
  exact mk_of I hm r h (I.hok.gone hm.new)
end
section
variable {X : Cx} {k j : Nat} {x : Str} {sp : Sp} {W : WX} {p pos : Pos} {e : Expr} {es : List Expr} {t : TA}
/-- a call that may let an exception out, by the def's global name -/
theorem pe_calS (c : CalX X.prog X.w X.K X.mg X.base (L2.CX X.prog X.w) k x sp) (hr : Room j X.A) (hk : k ≤ j) (tk : Takes X W) (ha : PA X (e :: es) t) (hg : Gl X x := by rfl)
    (hdb : (x == ("__debug__" : Str)) = false := by decide) (he : starEach (e :: es) X.env = (false, eval e X.env) :: starEach es X.env := by rfl) (hpl : (backTo pos (starEach es X.env)).any (·.1) = false := by rfl) :
    PE X (.Call (.Name x p) (e :: es) [] pos) (tCallS sp (WE W) t) := by
  obtain ⟨f, fd, ps, F, hm, kp, bd⟩ := c.ex
  exact pe_callS F (hr.mono hk) hg hm kp bd (fun σ => passAt tk σ) ha hdb he hpl
end
/-- what the top holds of an own exception class without __init__, made on a built-in base -/
structure ExcG (K : PySem.W.Frag) (mg : Str → Option Value) (x : Str) (C : Addr) : Prop where
  g : mg x = some (.ref C)
  q : PySem.W.excIn K C [.type "ValueError", .type "Exception", .type "BaseException", .type "object"] "ValueError.__new__" = true
  k : PySem.W.keepIn K (.ref C) = true
  s : PySem.W.subIn K (.ref C) (.type "BaseException") = some true
  t : PySem.W.typeIn K (.ref C) = some (.type "type")
/-- raise X(), out of a def -/
theorem ps_raise0 {X : Cx} {W : WX} {x : Str} {C : Addr} {p pos pos2 : Pos} (G : ExcG X.K X.mg x C) (hc : X.calm = true) (tk : Takes X W) (hg : Gl X x := by rfl) (hdb : (x == ("__debug__" : Str)) = false := by decide) :
    PS X (.Raise (some (.Call (.Name x p) [] [] pos)) none pos2) (fun _ σ H => W (.ref C) none σ H) := ps_raise (t := fun _ H Q => Q (.ref C) none H) hc tk (pmk_own0 PySem.F.excBase_ValueError G.q G.g G.k (raises_own G.s G.t) hg hdb)
end MH
set_option Elab.async false
set_option linter.all false
set_option maxRecDepth 100000
set_option maxHeartbeats 4000000
namespace MH
open PySem PySem.Spec PyProof.Rows L2
/-! ### the head: own exceptions -/
section
variable {K : PySem.W.Frag} {mg : Str → Option Value} {h : Heap}
def excCB (x : Str) (K : PySem.W.Frag) : Bool := He.eqO (PySem.W.findIn K (.ref (He.ga K x)) "__getattribute__") (some (some (.builtin "BaseException.__getattribute__"))) && (He.eqO (PySem.W.findIn K (.ref (He.ga K x)) "__getattr__") (some none) &&
  (decide (PySem.W.subIn K (.ref (He.ga K x)) (.type "BaseException") = some true) && (PySem.W.hasDictIn K (He.ga K x) && (He.eqO (PySem.W.findIn K (.ref (He.ga K x)) "__class__") (some (some (.builtin "object.__class__"))) &&
  (He.eqO (PySem.W.specialIn K (.builtin "object.__class__") "__get__") (some (some (.builtin "getset_descriptor.__get__"))) && (decide (PySem.W.takesIn K (.builtin "object.__class__") = some true) && decide (PySem.W.mroIn K (He.ga K x) (.type "object") = some true)))))))
theorem excCB_ok {x : Str} (b : excCB x K = true) : ExcC K (He.ga K x) := by
  obtain ⟨b1, b⟩ := He.ba b
  obtain ⟨b2, b⟩ := He.ba b
  obtain ⟨b3, b⟩ := He.ba b
  obtain ⟨b4, b⟩ := He.ba b
  obtain ⟨b5, b⟩ := He.ba b
  obtain ⟨b6, b⟩ := He.ba b
  obtain ⟨b7, b8⟩ := He.ba b
  exact ⟨He.eqO_ok b1, He.eqO_ok b2, of_decide_eq_true b3, b4, He.eqO_ok b5, He.eqO_ok b6, of_decide_eq_true b7, of_decide_eq_true b8⟩
/-- isinstance of an own class's instance, of another class -/
def kitCB (x y : Str) (r : Bool) (K : PySem.W.Frag) : Bool := decide (PySem.W.kitOne K (.ref (He.ga K x)) (.ref (He.ga K y)) = some r)
theorem kitCB_ok {x y : Str} {r : Bool} (b : kitCB x y r K = true) : PySem.W.kitOne K (.ref (He.ga K x)) (.ref (He.ga K y)) = some r := of_decide_eq_true b
def kitTB (x : Str) (t : String) (r : Bool) (K : PySem.W.Frag) : Bool := decide (PySem.W.kitOne K (.ref (He.ga K x)) (.type t) = some r)
theorem kitTB_ok {x : Str} {t : String} {r : Bool} (b : kitTB x t r K = true) : PySem.W.kitOne K (.ref (He.ga K x)) (.type t) = some r := of_decide_eq_true b
def excGB (x : Str) (K : PySem.W.Frag) : Bool := (He.Fa.glo x).ok K && (He.Fa.exc x).ok K
theorem excGB_ok (X : K.In h) (G : h.Ns mainGlobals mg) {x : Str} (b : excGB x K = true) : ExcG K mg x (He.ga K x) := by
  obtain ⟨b1, b2⟩ := He.ba b
  obtain ⟨c1, c2, c3, c4⟩ := He.exc_ok b2
  exact ⟨He.glo_ok X G b1, c1, c2, c3, c4⟩
def exmB (x y : Str) (r : Bool) (K : PySem.W.Frag) : Bool := (He.Fa.exm x y r).ok K
theorem exmB_ok {x y : Str} {r : Bool} (b : exmB x y r K = true) : PySem.W.exmOne K (.ref (He.ga K x)) (.ref (He.ga K y)) = some r := He.exm_ok b
end
end MH
set_option Elab.async false
set_option linter.all false
set_option maxRecDepth 100000
set_option maxHeartbeats 0
namespace MH
open PySem PySem.Spec PyProof.Rows L2
/-! ### the head of the law -/
def theFacts : List (PySem.W.Frag → Bool) := [
  freeB bltNames, 
  (fun K => (He.Fa.str "LETTERS" "abcdefghijklmnopqrstuvwxyz").ok K), 
  (fun K => (He.Fa.str "SIGNS" "0123456789").ok K), 
  (fun K => (He.Fa.int "MOST_LETTERS" 4).ok K), 
  (fun K => (He.Fa.glo "BARRED").ok K), 
  (fun K => He.tupB K "BARRED" (barred.map He.Dv.str)), 
  (fun K => (He.Fa.glo "ALONE").ok K), 
  (fun K => He.tupB K "ALONE" (alone.map He.Dv.str)), 
  (fun K => (He.Fa.glo "MANY_NAMES").ok K), 
  (fun K => He.valsB K (He.ga K "MANY_NAMES") [("line", .int 1), ("go", .int 1), ("call", .int 2)]), 
  (fun K => (He.Fa.glo "Menu").ok K), 
  (fun K => (He.Fa.mkr "Menu").ok K), 
  objB "Menu" ["name", "rows", "tail", "tries", "clears", "deeds", "last"], 
  (fun K => (He.Fa.glo "Board").ok K), 
  (fun K => (He.Fa.mkr "Board").ok K), 
  objB "Board" ["menus", "names", "first", "lines"], 
  (fun K => (He.Fa.glo "Sums").ok K), 
  (fun K => (He.Fa.mkr "Sums").ok K), 
  objB "Sums" sumsNames, 
  isiB "Menu", 
  cmB "Board" "read", 
  (fun K => (He.Fa.meth "Board" "__len__").ok K), 
  (fun K => (He.Fa.meth "Sums" "ways_to").ok K), 
  (fun K => (He.Fa.meth "Sums" "fall").ok K), 
  (fun K => (He.Fa.meth "Sums" "go_over").ok K), 
  (fun K => !decide (He.ga K "Board" = He.ga K "Sums")), 
  (fun K => !decide (He.ga K "Menu" = He.ga K "Sums")), 
  (fun K => (He.Fa.glo "law").ok K), 
  (fun K => (He.Fa.glo "is_digit").ok K), 
  (fun K => (He.Fa.glo "is_name").ok K), 
  (fun K => (He.Fa.glo "is_integer").ok K), 
  (fun K => (He.Fa.glo "is_sequence").ok K), 
  (fun K => (He.Fa.glo "are_unlike").ok K), 
  (fun K => (He.Fa.glo "number_in").ok K), 
  (fun K => (He.Fa.glo "action_in").ok K), 
  (fun K => (He.Fa.glo "is_row").ok K), 
  (fun K => (He.Fa.glo "are_rows").ok K), 
  (fun K => (He.Fa.glo "head_in").ok K), 
  (fun K => (He.Fa.glo "told_in").ok K), 
  (fun K => (He.Fa.glo "deeds_of").ok K), 
  (fun K => (He.Fa.glo "named_in").ok K), 
  (fun K => (He.Fa.glo "need_stack").ok K), 
  (fun K => (He.Fa.glo "need_line").ok K), 
  (fun K => (He.Fa.glo "plus").ok K), 
  (fun K => (He.Fa.glo "lesser").ok K), 
  (fun K => (He.Fa.glo "is_below").ok K), 
  (fun K => (He.Fa.glo "steps_of").ok K), 
  (fun K => (He.Fa.glo "told_to").ok K), 
  (fun K => (He.Fa.glo "told_home").ok K), 
  (fun K => (He.Fa.glo "paper").ok K), 
  (fun K => (He.Fa.glo "is_count").ok K), 
  (fun K => (He.Fa.glo "is_entry").ok K), 
  (fun K => (He.Fa.glo "is_formed").ok K), 
  (fun K => (He.Fa.glo "is_borne").ok K), 
  (fun K => (He.Fa.glo "paper_holds").ok K), 
  (fun K => (He.Fa.glo "fewest").ok K), 
  (fun K => (He.Fa.glo "never").ok K), 
  (fun K => (He.Fa.glo "_law_deal").ok K), 
  (fun K => (He.Fa.glo "_law_draw").ok K), 
  (fun K => (He.Fa.glo "_law_mixed").ok K), 
  (fun K => (He.Fa.glo "_law_names").ok K), 
  (fun K => (He.Fa.glo "_law_lone_right").ok K)]
def theDefs : List He5.DefA := [
  gloD "is_digit" s_is_digit, 
  gloD "is_name" s_is_name, 
  gloD "is_integer" s_is_integer, 
  gloD "is_sequence" s_is_sequence, 
  gloD "are_unlike" s_are_unlike, 
  gloD "number_in" s_number_in, 
  gloD "action_in" s_action_in, 
  gloD "is_row" s_is_row, 
  gloD "are_rows" s_are_rows, 
  gloD "head_in" s_head_in, 
  gloD "told_in" s_told_in, 
  gloD "deeds_of" s_deeds_of, 
  gloD "named_in" s_named_in, 
  gloD "need_stack" s_need_stack, 
  gloD "need_line" s_need_line, 
  gloD "plus" s_plus, 
  gloD "lesser" s_lesser, 
  gloD "is_below" s_is_below, 
  gloD "steps_of" s_steps_of, 
  gloD "told_to" s_told_to, 
  gloD "told_home" s_told_home, 
  gloD "paper" s_paper, 
  gloD "is_count" s_is_count, 
  gloD "is_entry" s_is_entry, 
  gloD "is_formed" s_is_formed, 
  gloD "is_borne" s_is_borne, 
  gloD "paper_holds" s_paper_holds, 
  gloD "fewest" s_fewest, 
  gloD "never" s_never, 
  gloD "_law_deal" s__law_deal, 
  gloD "_law_draw" s__law_draw, 
  gloD "_law_mixed" s__law_mixed, 
  gloD "_law_names" s__law_names, 
  gloD "_law_lone_right" s__law_lone_right, 
  metD "Menu" "__init__" "Menu.__init__" s_Menu_init [.int 1, .bl false], 
  metD "Board" "__init__" "Board.__init__" s_Board_init [], 
  cmD "Board" "read" "Board.read" s_Board_read, 
  metD "Board" "__len__" "Board.__len__" s_Board_len [], 
  metD "Sums" "__init__" "Sums.__init__" s_Sums_init [], 
  metD "Sums" "ways_to" "Sums.ways_to" s_Sums_ways_to [], 
  metD "Sums" "fall" "Sums.fall" s_Sums_fall [], 
  metD "Sums" "go_over" "Sums.go_over" s_Sums_go_over [], 
  gloD "law" s_law]
def theTabs : List He.Tab := [(fun K => He.ga K "MANY_NAMES", ["line", "go", "call"])]
theorem facts {P : Program} {w : World} {K : PySem.W.Frag} {h : Heap} {mg : Str → Option Value} {f : Addr} (X : K.In h) (G : h.Ns mainGlobals mg) (hfa : mg ("law" : Str) = some (.ref f)) (c : SaysM theFacts theDefs theTabs w K) :
    ∃ fd : FuncData, (∀ (s : Shared) (v : Value), BindsTo s fd ⟨[v], []⟩ [("_law_script", v)]) ∧ ∀ base : Heap, K.In base → base.Ns mainGlobals mg → FnOk P w K mg base CX0 12 f fd ["_law_script"] (sp_law K) := by
  have T : Blt mg := blt_of X G (c.fact 0)
  have B : Cst K w mg := cst_of X G (c.fact 1) (c.fact 2) (c.fact 3) (c.fact 4) (c.fact 5) (c.fact 6) (c.fact 7) (c.fact 8) (c.tab 0) (c.fact 9)
  have gM : mg "Menu" = some (.ref (He.ga K "Menu")) := He.glo_ok X G (c.fact 10)
  have mM := He.mkr_ok (x := "Menu") (c.fact 11)
  have oM := objB_ok (x := "Menu") (c.fact 12)
  have iM := isiB_ok (x := "Menu") oM.cls (c.fact 19)
  have gB : mg "Board" = some (.ref (He.ga K "Board")) := He.glo_ok X G (c.fact 13)
  have mB := He.mkr_ok (x := "Board") (c.fact 14)
  have oB := objB_ok (x := "Board") (c.fact 15)
  have cB := cmB_ok (x := "Board") (m := "read") (c.fact 20)
  have leB := He.meth_ok (x := "Board") (m := "__len__") (c.fact 21)
  have gS : mg "Sums" = some (.ref (He.ga K "Sums")) := He.glo_ok X G (c.fact 16)
  have mS := He.mkr_ok (x := "Sums") (c.fact 17)
  have oS := objB_ok (x := "Sums") (c.fact 18)
  have meW := He.meth_ok (x := "Sums") (m := "ways_to") (c.fact 22)
  have meF := He.meth_ok (x := "Sums") (m := "fall") (c.fact 23)
  have meG := He.meth_ok (x := "Sums") (m := "go_over") (c.fact 24)
  have nB : (He.ga K "Board") ≠ (He.ga K "Sums") := fun e => by
    have := (c.fact 25)
    rw [decide_eq_true e] at this
    cases this
  have nM : (He.ga K "Menu") ≠ (He.ga K "Sums") := fun e => by
    have := (c.fact 26)
    rw [decide_eq_true e] at this
    cases this
  have G_is_digit : Glo K mg "is_digit" s_is_digit := glo_of X G c 0 28
  have G_is_name : Glo K mg "is_name" s_is_name := glo_of X G c 1 29
  have G_is_integer : Glo K mg "is_integer" s_is_integer := glo_of X G c 2 30
  have G_is_sequence : Glo K mg "is_sequence" s_is_sequence := glo_of X G c 3 31
  have G_are_unlike : Glo K mg "are_unlike" s_are_unlike := glo_of X G c 4 32
  have G_number_in : Glo K mg "number_in" s_number_in := glo_of X G c 5 33
  have G_action_in : Glo K mg "action_in" s_action_in := glo_of X G c 6 34
  have G_is_row : Glo K mg "is_row" s_is_row := glo_of X G c 7 35
  have G_are_rows : Glo K mg "are_rows" s_are_rows := glo_of X G c 8 36
  have G_head_in : Glo K mg "head_in" s_head_in := glo_of X G c 9 37
  have G_told_in : Glo K mg "told_in" s_told_in := glo_of X G c 10 38
  have G_deeds_of : Glo K mg "deeds_of" s_deeds_of := glo_of X G c 11 39
  have G_named_in : Glo K mg "named_in" s_named_in := glo_of X G c 12 40
  have G_need_stack : Glo K mg "need_stack" s_need_stack := glo_of X G c 13 41
  have G_need_line : Glo K mg "need_line" s_need_line := glo_of X G c 14 42
  have G_plus : Glo K mg "plus" s_plus := glo_of X G c 15 43
  have G_lesser : Glo K mg "lesser" s_lesser := glo_of X G c 16 44
  have G_is_below : Glo K mg "is_below" s_is_below := glo_of X G c 17 45
  have G_steps_of : Glo K mg "steps_of" s_steps_of := glo_of X G c 18 46
  have G_told_to : Glo K mg "told_to" s_told_to := glo_of X G c 19 47
  have G_told_home : Glo K mg "told_home" s_told_home := glo_of X G c 20 48
  have G_paper : Glo K mg "paper" s_paper := glo_of X G c 21 49
  have G_is_count : Glo K mg "is_count" s_is_count := glo_of X G c 22 50
  have G_is_entry : Glo K mg "is_entry" s_is_entry := glo_of X G c 23 51
  have G_is_formed : Glo K mg "is_formed" s_is_formed := glo_of X G c 24 52
  have G_is_borne : Glo K mg "is_borne" s_is_borne := glo_of X G c 25 53
  have G_paper_holds : Glo K mg "paper_holds" s_paper_holds := glo_of X G c 26 54
  have G_fewest : Glo K mg "fewest" s_fewest := glo_of X G c 27 55
  have G_never : Glo K mg "never" s_never := glo_of X G c 28 56
  have G__law_deal : Glo K mg "_law_deal" s__law_deal := glo_of X G c 29 57
  have G__law_draw : Glo K mg "_law_draw" s__law_draw := glo_of X G c 30 58
  have G__law_mixed : Glo K mg "_law_mixed" s__law_mixed := glo_of X G c 31 59
  have G__law_names : Glo K mg "_law_names" s__law_names := glo_of X G c 32 60
  have G__law_lone_right : Glo K mg "_law_lone_right" s__law_lone_right := glo_of X G c 33 61
  obtain ⟨fdM, FM⟩ := c.def_ 34 rfl
  obtain ⟨fdB, FB⟩ := c.def_ 35 rfl
  obtain ⟨fdR, FR⟩ := c.def_ 36 rfl
  obtain ⟨fdE, FE⟩ := c.def_ 37 rfl
  obtain ⟨fdS, FS⟩ := c.def_ 38 rfl
  obtain ⟨fdW, FW⟩ := c.def_ 39 rfl
  obtain ⟨fdA, FA⟩ := c.def_ 40 rfl
  obtain ⟨fdG, FG⟩ := c.def_ 41 rfl
  obtain ⟨fd, FL⟩ := c.def_ 42 rfl
  have e := hfa.symm.trans (He.glo_ok X G (c.fact 27))
  cases e
  have b := FunD.bindsA (ps := ["_law_script"]) FL fun _ _ _ _ _ _ us hl => match us, hl with | [_], _ => rfl
  refine ⟨fd, fun s v => b s [v] rfl, fun base _ _ => ?_⟩
  have c_is_digit : CalX P w K mg base CX0 2 "is_digit" sp_is_digit := ok_is_digit G_is_digit T B
  have c_is_name : CalX P w K mg base CX0 2 "is_name" sp_is_name := ok_is_name G_is_name T B
  have c_is_integer : CalX P w K mg base CX0 2 "is_integer" sp_is_integer := ok_is_integer G_is_integer T
  have c_is_sequence : CalX P w K mg base CX0 2 "is_sequence" (sp_is_sequence K) := ok_is_sequence G_is_sequence T
  have c_are_unlike : CalX P w K mg base CX0 2 "are_unlike" (sp_are_unlike K) := ok_are_unlike G_are_unlike T
  have c_number_in : CalX P w K mg base CX0 4 "number_in" sp_number_in := ok_number_in G_number_in T c_is_digit
  have c_action_in : CalX P w K mg base CX0 4 "action_in" sp_action_in := ok_action_in G_action_in T B c_is_name
  have c_is_row : CalX P w K mg base CX0 5 "is_row" sp_is_row := ok_is_row G_is_row T c_is_digit c_action_in
  have c_are_rows : CalX P w K mg base CX0 6 "are_rows" (sp_are_rows K) := ok_are_rows G_are_rows T c_is_sequence c_is_row c_are_unlike
  have c_head_in : CalX P w K mg base CX0 5 "head_in" sp_head_in := ok_head_in G_head_in T c_number_in c_is_name
  have c_told_in : CalX P w K mg base CX0 6 "told_in" (sp_told_in K) := ok_told_in G_told_in T c_is_digit c_head_in c_action_in
  have k_Menu : MakX P w K mg base CX0 7 "Menu" (He.ga K "Menu") (sp_menu_init K (He.ga K "Menu")) := ok_menu_init mM gM oM FM rfl T c_is_name c_are_rows c_action_in c_is_integer
  have c_deeds_of : CalX P w K mg base CX0 2 "deeds_of" (sp_deeds_of (He.ga K "Menu")) := ok_deeds_of G_deeds_of oM
  have c_named_in : CalX P w K mg base CX0 3 "named_in" (sp_named_in (He.ga K "Menu")) := ok_named_in G_named_in c_deeds_of
  have k_Board : MakX P w K mg base CX0 5 "Board" (He.ga K "Board") (sp_board_init K (He.ga K "Board") (He.ga K "Menu")) := ok_board_init mB gB gM iM oB oM FB T c_is_sequence c_are_unlike c_named_in c_deeds_of
  have r_read : ReadX P w K mg base 9 "Board" "read" (He.ga K "Board") (sp_board_read (He.ga K "Board") (He.ga K "Menu")) := ⟨_, _, _, cB.1, cB.2, ok_board_read FR T c_told_in k_Menu k_Board, gB⟩
  have c_need_stack : CalX P w K mg base CX0 3 "need_stack" (sp_need_stack K (He.ga K "Board") (He.ga K "Menu")) := ok_need_stack G_need_stack T oB c_is_sequence
  have c_plus : CalX P w K mg base CX0 1 "plus" sp_plus := ok_plus G_plus
  have c_lesser : CalX P w K mg base CX0 1 "lesser" sp_lesser := ok_lesser G_lesser T
  have c_is_below : CalX P w K mg base CX0 1 "is_below" sp_is_below := ok_is_below G_is_below
  have c_steps_of : CalX P w K mg base CX0 1 "steps_of" (sp_steps_of (He.ga K "Menu")) := ok_steps_of G_steps_of oM
  have c_told_to : CalX P w K mg base CX0 2 "told_to" (sp_told_to (He.ga K "Board") (He.ga K "Menu")) := ok_told_to G_told_to oB c_plus c_lesser
  have c_told_home : CalX P w K mg base CX0 2 "told_home" sp_told_home := ok_told_home G_told_home c_plus
  have m_ways : MetX P w K mg base CX0 3 (He.ga K "Sums") "ways_to" (sp_ways_to (He.ga K "Sums") (He.ga K "Board") (He.ga K "Menu")) := ok_ways_to meW FW oS c_plus c_told_to
  have m_fall : MetX P w K mg base CX0 4 (He.ga K "Sums") "fall" (sp_fall (He.ga K "Sums") (He.ga K "Board") (He.ga K "Menu")) := ok_fall meF FA oS c_plus c_is_below c_told_home m_ways
  have m_go : MetX P w K mg base CX0 5 (He.ga K "Sums") "go_over" (sp_go_over (He.ga K "Sums") (He.ga K "Board") (He.ga K "Menu")) := ok_go_over meG FG oS oB oM c_steps_of m_fall
  have k_Sums : MakX P w K mg base CX0 6 "Sums" (He.ga K "Sums") (sp_sums_init (He.ga K "Sums") (He.ga K "Board") (He.ga K "Menu")) := ok_sums_init mS gS oS oB FS nB nM m_go
  have c_need_line : CalX P w K mg base CX0 1 "need_line" (sp_need_line (He.ga K "Board") (He.ga K "Menu")) := ok_need_line G_need_line T oB
  have c_paper : CalX P w K mg base CX0 8 "paper" (sp_paper (He.ga K "Board") (He.ga K "Menu")) := ok_paper G_paper T oS oB c_need_line k_Sums
  have c_is_integerD : CalX P w K mg base CX0 2 "is_integer" (sp_is_integerD K) := ok_is_integerD G_is_integer T
  have c_is_count : CalX P w K mg base CX0 3 "is_count" (sp_is_count K) := ok_is_count G_is_count c_is_integerD
  have c_is_entry : CalX P w K mg base CX0 4 "is_entry" (sp_is_entry K (He.ga K "Board") (He.ga K "Menu")) := ok_is_entry G_is_entry T oB c_is_count
  have m_len : MetX P w K mg base CX0 1 (He.ga K "Board") "__len__" (sp_board_len (He.ga K "Board") (He.ga K "Menu")) := ok_board_len leB FE T oB
  have c_is_formed : CalX P w K mg base CX0 5 "is_formed" (sp_is_formed K (He.ga K "Board") (He.ga K "Menu")) := ok_is_formed G_is_formed T c_is_entry m_len
  have c_is_borne : CalX P w K mg base CX0 3 "is_borne" (sp_is_borne (He.ga K "Board") (He.ga K "Menu")) := ok_is_borne G_is_borne oM c_steps_of c_plus c_is_below c_told_to c_told_home
  have c_paper_holds : CalX P w K mg base CX0 6 "paper_holds" (sp_paper_holds K (He.ga K "Board") (He.ga K "Menu")) := ok_paper_holds G_paper_holds T oB c_need_line c_is_formed c_is_below c_is_borne
  have c_deal : CalX P w K mg base CX0 2 "_law_deal" (sp_deal K) := ok_deal G__law_deal T
  have c_draw : CalX P w K mg base CX0 2 "_law_draw" sp_draw := ok_draw G__law_draw T
  have c_mixed : CalX P w K mg base CX0 3 "_law_mixed" (sp_mixed K) := ok_mixed G__law_mixed T c_draw
  have c_names : CalX P w K mg base CX0 4 "_law_names" sp_names := ok_names G__law_names c_mixed
  have c_fewest : CalX P w K mg base CX0 8 "fewest" (sp_fewest K (He.ga K "Board") (He.ga K "Menu")) := ok_fewest G_fewest T oS oB c_need_stack k_Sums c_plus c_lesser
  have c_never : CalX P w K mg base CX0 9 "never" (sp_never (He.ga K "Board") (He.ga K "Menu")) := ok_never G_never T oS oB k_Sums
  have c_mixedL : CalX P w K mg base CX0 3 "_law_mixed" (sp_mixedL K) := ok_mixedL G__law_mixed T c_draw
  have c_lone : CalX P w K mg base CX0 10 "_law_lone_right" sp_lone := ok_lone G__law_lone_right r_read c_never c_paper_holds
  exact ok_law FL T c_deal c_mixed c_mixedL c_names r_read c_fewest c_paper c_paper_holds c_lone
/-! ### the run -/
abbrev theRow : PySem.W.OpenRow := PySem.W.OpenLaw.row PySem.Challenge.rw_menuhome_k44_papers_known_by_hand
abbrev theHook : PySem.W.Hook := hookM 5 theFacts theDefs theTabs
def theOb (s : PySem.W.SharedT) : He.AlT := obsMG 5 theFacts theDefs theTabs (HandSHeadRun.getT s)
theorem theOb_eq (s : PySem.W.SharedT) : theOb s = theHook.obs s.abs := obsMG_eq (HandSHeadRun.getT_eq s)
def theNames : List PySem.Str := (["_wall", "__name__", "MenuError", "InvalidMenu", "InvalidBoard", "InvalidText", "InvalidStack", "InvalidGoal", "NoMenu", "LETTERS", "SIGNS", "BARRED", "ALONE", "MOST_LETTERS", "MANY_NAMES", "is_integer", "is_name", "is_digit", "is_sequence", "are_unlike", "number_in", "action_in", "is_row", "are_rows", "head_in", "told_in", "Menu", "deeds_of", "named_in", "Board"] : List PySem.Str) ++ (["need_stack", "need_line", "plus", "lesser", "is_below", "steps_of", "told_to", "told_home", "Sums", "paper", "is_count", "is_entry", "is_formed", "is_borne", "paper_holds", "fewest", "never", "_law_deal", "_law_draw", "_law_mixed", "_law_names", "_law_lone_right"] : List PySem.Str)
end MH
namespace MH
open PySem PySem.W PySem.Calls PyProof.Rows
theorem theRun1 (w : World) : HandSHeadRun.RunEq theRow (view theRow.prog [59]) theHook theOb 7000 theNames (w.withFollow "special-get-raises" false) := by
  intro os
  kernel_rfl
theorem theRun2 (w : World) : HandSHeadRun.RunEq theRow (view theRow.prog [59]) theHook theOb 7000 theNames (w.withFollow "special-get-raises" true) := by
  intro os
  kernel_rfl
theorem theRun (w : World) : HandSHeadRun.RunEq theRow (view theRow.prog [59]) theHook theOb 7000 theNames w := byRow2 "special-get-raises" (P := fun w => HandSHeadRun.RunEq theRow (view theRow.prog [59]) theHook theOb 7000 theNames w) theRun1 theRun2 w
end MH
open PySem PySem.W PySem.Calls PyProof.Rows
theorem PySem.Challenge.cw_menuhome_k44_papers_known_by_hand_holds : PySem.Challenge.rw_menuhome_k44_papers_known_by_hand.Holds := by
  w_on; o_law
  refine HandSHeadRun.head_any (r := OpenLaw.row PySem.Challenge.rw_menuhome_k44_papers_known_by_hand) (q := view (OpenLaw.row PySem.Challenge.rw_menuhome_k44_papers_known_by_hand).prog [59]) (H := MH.theHook) (ob := MH.theOb) (M := 7000) (loose := MH.theNames) (d := HandSHeadRun.topDef (OpenLaw.row PySem.Challenge.rw_menuhome_k44_papers_known_by_hand).prog 59) (kwd := []) MH.theOb_eq
    (by kernel_rfl) (fun s => by kernel_rfl) MH.theRun (by kernel_rfl) (by kernel_rfl) (by kernel_rfl) (by rfl) (by first | assumption | decide +kernel) (by decide +kernel) ⟨rfl, rfl, rfl, rfl, rfl, by decide +kernel⟩ ?hw ?hc
  case hw => w_witness2
  case hc =>
    refine L2.walk_ofE (l := PySem.Challenge.rw_menuhome_k44_papers_known_by_hand) (n := 63) (k := 12) (x := "_law_script") (CX := L2.CX0) rfl (by decide) (by kernel_rfl) ⟨rfl, by decide, by decide⟩ ?F (fun _ _ _ _ z => z)
    intro w mg fa h Y G hmg0
    obtain ⟨K, KX, c⟩ := Y
    have hmg : mg ("law" : PySem.Str) = some (.ref fa) := by
      have e : (HandSHeadRun.topDef (OpenLaw.row PySem.Challenge.rw_menuhome_k44_papers_known_by_hand).prog 59).name = ("law" : PySem.Str) := by kernel_rfl
      rw [← e]
      exact hmg0
    obtain ⟨fd, hb, hF⟩ := MH.facts (P := (PySem.Challenge.rw_menuhome_k44_papers_known_by_hand).prog) (w := w) KX G hmg c
    exact ⟨K, fd, MH.sp_law K, KX, hb, fun H a ns hl _ hS => ⟨a, ns, rfl, hS, hl, fun _ => rfl⟩, hF⟩
