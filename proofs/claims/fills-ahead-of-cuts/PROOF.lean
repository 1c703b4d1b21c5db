import PyProof.Rows.All
import Wide.All
import OpenK.AllK
import Wide.FinOn
import HandS.ForMost
import HandS.Star
import HandS.TupMul
import HandS.TupAny
import HandS.Property
import HandS.Walk
import KE.KDictKeyed
import KE.KDictDisplayH
import KE.KDictCopyH
import KE.SortData
import HandS.Zip
import HandS.IsInst
import KE.GoesEnum
import HandS.Evl
import HandS.Style
import HandS.TupSets
import HandS.More
import HandS.Sort
import HandS.Wide
import HandS.ReplaceLit
import HandS.ReplaceList
import PySem.Challenge.RW_wovenframes_k63_whole_fills_ahead_of_cut
section
set_option Elab.async false
set_option linter.all false
set_option maxRecDepth 100000
set_option maxHeartbeats 4000000
/-! own __len__, *text in a display, tuple * 1: rules of our own over the hand layer. -/
namespace Wx
open PySem PySem.Spec L2 PyProof.Rows

/-! ### len(o), o an instance whose class has __len__ -/
def rLenO (C : Addr) (sp : Sp) (E : XK) : List V → Hp → VK → Prop := fun vs H Q => ∃ a dx fs, vs = [.ref a] ∧ H a = some (.ins C dx fs) ∧ sp [.ref a] H (fun v H' => ∃ n : Nat, v = .int n ∧ n ≤ 1000 ∧ Q (.int n) H') E
theorem call_lenO {X : Cx} {CX : CXT} {k : Nat} {C g : Addr} {fd : FuncData} {ps : List Str} {sp : Sp} {E : XK} (c : Cls X.K C) (hs : PySem.W.findIn X.K (.ref C) "__len__" = some (some (.ref g))) (hf : PySem.W.isFn X.K (.ref g) = true)
    (F : FnOk X.prog X.w X.K X.mg X.base CX k g fd ps sp) (hr : Room (k + 1) X.A) (hb : Binds X.K fd ps []) (hx : Passes CX X E) : CallR X (.builtin "len") (rLenO C sp E) := by
  intro pins s σ H vs us Q I r h
  obtain ⟨a, dx, fs, rfl, ea, h⟩ := h
  obtain ⟨u, rfl, ru⟩ := vals1 r
  cases ru
  obtain ⟨_, inst, -⟩ := ins_get I.hok ea
  obtain ⟨od, J, -⟩ := inst.look
  obtain ⟨m, fr⟩ := I.fr
  have hl : ([Value.ref a] ++ ([] : List Value)).length = ps.length := F.len _ _ _ _ h
  refine PySem.W.len_K fr I.ok.mod.kin J hs hf (wpAny_call ?_)
  refine codeAny_mono (F.run X.A.in1 X.stack s H ⟨[.ref a], []⟩ [.ref a] [.ref a] _ E hr.in1 I.env0.in1 (by simpa using hb s [.ref a] I.kIn hl) (.cons rfl .nil) h) fun r s' hq => ?_
  cases r with
  | error er => exact hx pins σ H s er s' I hq
  | ok fl =>
    cases fl with
    | ret u =>
      obtain ⟨v, H', I3, rv, n, ev, hn, q⟩ := I.after hq
      subst ev
      obtain ⟨t, rfl⟩ := rv
      exact ⟨⟨by omega, by omega⟩, .int n, H', I3.tok _, ⟨_, rfl⟩, q⟩
    | next => exact hq.elim
    | brk => exact hq.elim
    | cont => exact hq.elim

/-! ### *s in a display, s a text -/
def signs (z : Str) : List V := z.cps.toList.map fun c => .str ⟨#[c]⟩
def tStarS (te : TE) (t : TA) : TA := fun σ H Q => te σ H fun x H1 => ∃ z, x = .str z ∧ z.length ≤ sizeLine ∧ t σ H1 fun ys H2 => Q (signs z ++ ys) H2
theorem vals_signs {z : Str} {acc : Array Value} (h : ItemsOf (SignAt z) acc z.cps.size) : Vals (signs z) acc.toList := by
  obtain ⟨hs, hi⟩ := h
  have key : ∀ (l : List Nat) (us : List Value), l.length = us.length → (∀ (j : Nat) v, us[j]? = some v → ∃ c t, l[j]? = some c ∧ v = .str ⟨#[c]⟩ t) → Vals (l.map fun c => V.str ⟨#[c]⟩) us := by
    intro l
    induction l with
    | nil =>
      intro us hl _
      cases us with
      | nil => exact .nil
      | cons a b => simp at hl
    | cons c l ih =>
      intro us hl h
      cases us with
      | nil => simp at hl
      | cons a b =>
        obtain ⟨c', t, e1, rfl⟩ := h 0 a rfl
        cases (Option.some.inj e1 : c = c')
        exact .cons ⟨t, rfl⟩ (ih b (by simpa using hl) fun j v hj => by
          obtain ⟨c', t, e1, e2⟩ := h (j + 1) v (by simpa using hj)
          exact ⟨c', t, by simpa using e1, e2⟩)
  refine key _ _ (by simp [hs]) fun j v hj => ?_
  obtain ⟨c, t, e1, e2⟩ := hi j v (by rw [← Array.getElem?_toList]; exact hj)
  exact ⟨c, t, by rw [Array.getElem?_toList]; exact e1, e2⟩
theorem pa_starS {X : Cx} {e : Expr} {es : List Expr} {te : TE} {t : TA} {p : Pos} (hc : X.calm = true) (he : PE X e te) (hr : PA X es t) (hs : starEach (.Starred e p :: es) X.env = (true, eval e X.env) :: starEach es X.env := by rfl) : PA X (.Starred e p :: es) (tStarS te t) := by
  refine ⟨fun pos pins s σ H Q I h => ?_⟩
  refine PySem.W.items_star (thn (he.run pins s σ H _ I h) fun v s1 ⟨y, H1, I1, ry, z, ey, hz, q⟩ => ?_) hs
  subst ey
  obtain ⟨tk, rfl⟩ := ry
  have zz : wpAny (model X.prog X.w) X.A (collect (.str z tk)) (fun here s2 => wpAny (model X.prog X.w) X.A (spliced (backTo pos (starEach es X.env))) (fun vs s3 => AP X pins σ Q (here ++ vs) s3) X.xe s2) X.xe s1 := by
    refine wpAny_collect_str (I1.ok.hd hc) z tk (fun s' acc hk hg hd ho hi => ?_) hz
    have I2 : Inv X pins σ H1 s' := by
      have J := I1.kept (t' := s'.toks) hk
      rwa [← hg, ← hd, ← ho] at J
    exact thn (hr.run pos pins _ σ H1 _ I2 q) fun ws s3 ⟨vs, H3, I3, r3, q3⟩ => ⟨signs z ++ vs, H3, I3, (vals_signs hi).append r3, q3⟩
  unfold PySem.W.StarOf
  unfold notIterableAtAll
  exact wpAny_bind (wpAny_specialOf (typeIs_str s1 z tk) PySem.F.slot_str_iter.lookup (wpAny_pure ⟨rfl, zz⟩))

/-! ### t * 1 is t -/
theorem tuple_mul1W (l : Addr) (items : Array Value) (n : Nat) (dd : Option Addr) (sl : Array (Option Value)) (u : Tok) :
    Meets (Builtin.«tuple.__mul__» ⟨[.ref l, .int 1 u], []⟩) (fun _ R s => s.heap.get? l = some { cls := .type "tuple", dict := dd, data := .seq items n, slots := sl } ∧ R (.ok (.ret (.ref l))) s) :=
  .of_wp fun P w A R s both => by
    rcases s with ⟨h, gs, dr, tk, os⟩
    rcases both with ⟨there, ret⟩
    have as_idx := AutoSeq1.idx_int
    have near : (decide ((1 : Int) < -(2 ^ 63)) || decide ((1 : Int) ≥ 2 ^ 63)) = false := by decide
    have self_ : (items.isEmpty || (1 : Int) == 1) = true := Bool.or_eq_true_iff.mpr (.inr rfl)
    wp_walk using AutoSeq1.wpAny_loadPart' there
    repeat (first
      | (refine wpAny_ite_false (decide_eq_false (by rw [near]; exact Bool.false_ne_true)) ?_; wp_walk using AutoSeq1.wpAny_loadPart' there)
      | (refine wpAny_ite_true (decide_eq_true self_) ?_; wp_walk using AutoSeq1.wpAny_loadPart' there))
    exact ⟨_, rfl, ret⟩
def rRep1 (K : PySem.W.Frag) : R2 := fun x y H Q => ∃ l xs, x = .ref l ∧ y = .int 1 ∧ SqT K H l xs ∧ Q (.ref l) H
theorem op_rep1 {X : Cx} : OpR X (binaryOp .Mult) (rRep1 X.K) := fun pins s σ H x y v u Q I rx ry ⟨l, xs, ex, ey, sq, q⟩ => by
  cases ex
  cases ey
  cases (show v = .ref l from rx)
  obtain ⟨t, rfl⟩ := ry
  obtain ⟨us, -, ⟨⟨kl, dd, data, sl⟩, there, is_, n, dat⟩, -⟩ := I.tuple sq
  obtain rfl : kl = .type "tuple" := is_
  obtain rfl : data = .seq us.toArray n := dat
  have own : s.TypeIs (.ref l) "tuple" := ⟨_, there, rfl⟩
  exact wpAny_binaryOp_repeat_ref (T := "tuple") (U := "int") (by decide) own (fun s' => typeIs_int s' 1 t) noFill_tuple_mul F.fills_int_mul F.slot_int_rmul repeat_tuple F.slot_int_index.lookup
    (call_meets F.slot_int_rmul (typeIs_int s 1 t) F.entry_int_rmul (F.args_int_rmul_2 _ _) (int_rmul_tuple 1 t l us.toArray n dd sl)
      ⟨there, rfl, own, call_meets F.slot_tuple_mul own F.entry_tuple_mul (F.args_tuple_mul_2 _ _) (tuple_mul1W l us.toArray n dd sl t) ⟨there, .ref l, H, I, rfl, q⟩⟩)
def rRepA (K : PySem.W.Frag) : R2 := fun x y H Q => rRep1 K x y H Q ∨ rRepT K x y H Q
theorem op_repA {X : Cx} : OpR X (binaryOp .Mult) (rRepA X.K) := OpR.or op_rep1 op_repT
end Wx
end
section
set_option Elab.async false
set_option linter.all false
set_option maxRecDepth 100000
set_option maxHeartbeats 4000000
/-! Dicts whose keys are nested tuples, over the hand layer. -/
namespace Wx
open PySem PySem.Spec L2 PyProof.Rows

abbrev NK := NestedKey
/-- the dict's own object, entry by entry -/
def rawO (d : Addr) (es : Array DictEntry) (ep : Nat) : HO := .ext fun h => h.DictRaw d es ep
theorem rawO_ok {P : Program} {w : World} {H : Hp} {h : Heap} {d : Addr} {es : Array DictEntry} {ep : Nat} (x : h.DictRaw d es ep) : ObjOk P w H h d (rawO d es ep) :=
  ⟨x, let ⟨o, ho, _⟩ := x; ⟨o, ho⟩, fun _ _ y k => y.at k⟩
theorem rawO_of {P : Program} {w : World} {H : Hp} {h : Heap} {d : Addr} {es : Array DictEntry} {ep : Nat} (ok : HOk P w H h) (e : Rd H d (rawO d es ep)) : h.DictRaw d es ep := by
  have := e.ok ok
  exact this.1
def entN (w : World) (x : NK × Addr × Value) : DictEntry := ⟨x.1.hash w, .ref x.2.1, x.2.2⟩
/-- what is known of each entry: the key's tuple stands in H -/
def KN (K : PySem.W.Frag) (H : Hp) : List (NK × V) → List (NK × Addr × Value) → Prop := Paired fun p x => p.1 = x.1 ∧ Dp K H (.ref x.2.1) p.1.data ∧ p.1.depth ≤ 8 ∧ RelV p.2 x.2.2
structure EntOk (w : World) (K : PySem.W.Frag) (H : Hp) (d : Addr) (kvs : List (NK × V)) (es : Array DictEntry) : Prop where
  lo : (d == sysModules) = false
  len : kvs.length ≤ 1000000
  ex : ∃ xs, KN K H kvs xs ∧ es.toList = xs.map (entN w) ∧ (xs.map (·.1)).Nodup
/-- at d stands a dict with these keys and values -/
def DN (w : World) (K : PySem.W.Frag) (H : Hp) (d : Addr) (kvs : List (NK × V)) : Prop := ∃ es ep, H d = some (rawO d es ep) ∧ EntOk w K H d kvs es
section
variable {K : PySem.W.Frag} {H H' : Hp}
/-- the tuples stand as they stood -/
def Tx (H H' : Hp) : Prop := ∀ a xs, Rd H a (.tup xs) → Rd H' a (.tup xs)
theorem Tx.refl (H : Hp) : Tx H H := fun _ _ h => h
theorem Tx.trans {H1 : Hp} (a : Tx H H1) (b : Tx H1 H') : Tx H H' := fun x xs h => b x xs (a x xs h)
theorem Tx.sqT {a : Addr} {xs : List V} (t : Tx H H') (h : SqT K H a xs) : SqT K H' a xs := h.elim (fun z => .inl (t a xs z)) .inr
mutual
theorem Dp.tx (t : Tx H H') : ∀ (k : NK) (v : V), Dp K H v k.data → Dp K H' v k.data
  | .none, _, h => by cases h; exact .non
  | .num _, _, h => by cases h; exact .int _
  | .text _, _, h => by cases h; exact .str _
  | .tup ks, _, h => by
    cases h with
    | tup hs ha => exact .tup (t.sqT hs) (DpAll.tx t ks _ ha)
theorem DpAll.tx (t : Tx H H') : ∀ (ks : List NK) (vs : List V), DpAll K H vs (NestedKey.datas ks) → DpAll K H' vs (NestedKey.datas ks)
  | [], _, h => by cases h; exact .nil
  | k :: ks, _, h => by
    cases h with
    | cons h1 h2 => exact .cons (Dp.tx t k _ h1) (DpAll.tx t ks _ h2)
end
theorem KN.tx (t : Tx H H') {kvs : List (NK × V)} {xs : List (NK × Addr × Value)} (r : KN K H kvs xs) : KN K H' kvs xs :=
  Paired.mapP r fun _ _ z => ⟨z.1, Dp.tx t _ _ z.2.1, z.2.2⟩
theorem DN.tx {w : World} {d : Addr} {kvs : List (NK × V)} (t : Tx H H') (hd : ∀ o, H d = some o → H' d = some o) (x : DN w K H d kvs) : DN w K H' d kvs := by
  obtain ⟨es, ep, e, lo, len, xs, r, h1, h2⟩ := x
  exact ⟨es, ep, hd _ e, lo, len, xs, r.tx t, h1, h2⟩
/-- asked for a key, the entries answer as the pairs do -/
theorem KN.val {kvs : List (NK × V)} {xs : List (NK × Addr × Value)} (r : KN K H kvs xs) (k : NK) : RelO (valV kvs k) ((atKey xs k).map (·.2)) := by
  unfold KN at r
  induction r with
  | nil => trivial
  | @cons p q ps qs known _ rest =>
    rcases p with ⟨pk, pv⟩
    rcases q with ⟨qk, qb, qv⟩
    obtain ⟨rfl, -, -, rel⟩ : pk = qk ∧ _ := known
    rcases Decidable.em (pk = k) with yes | no
    · rw [valV_pos yes, show atKey ((pk, qb, qv) :: qs) k = some (qb, qv) by simp [atKey, yes]]
      exact rel
    · rw [valV_neg no, show atKey ((pk, qb, qv) :: qs) k = atKey qs k by simp [atKey, no]]
      exact rest
theorem KN.has {kvs : List (NK × V)} {xs : List (NK × Addr × Value)} (r : KN K H kvs xs) (k : NK) : (valV kvs k).isSome = (atKey xs k).isSome :=
  (r.val k).isSome_eq.trans (Option.isSome_map ..)
/-- a value in the place of another -/
theorem KN.repl {kvs : List (NK × V)} {xs : List (NK × Addr × Value)} (r : KN K H kvs xs) (k : NK) {y : V} {u : Value} (ry : RelV y u) :
    KN K H (kvs.map fun kv => if kv.1 = k then (kv.1, y) else kv) (xs.map (putAt k u)) := by
  unfold KN at *
  induction r with
  | nil => exact .nil
  | @cons p q ps qs known _ rest =>
    rcases p with ⟨pk, pv⟩
    rcases q with ⟨qk, qb, qv⟩
    obtain ⟨rfl, dp, small, rel⟩ : pk = qk ∧ _ := known
    refine .cons ?_ rest
    dsimp only [putAt]
    split
    · exact ⟨rfl, dp, small, ry⟩
    · exact ⟨rfl, dp, small, rel⟩
theorem KN.put {kvs : List (NK × V)} {xs : List (NK × Addr × Value)} (r : KN K H kvs xs) (k : NK) {b : Addr} {y : V} {u : Value} (hb : Dp K H (.ref b) k.data) (hk : k.depth ≤ 8) (ry : RelV y u) :
    KN K H (putK kvs k y) (storedH xs k b u) := by
  unfold putK storedH
  simp only [show (kvs.any fun kv => decide (kv.1 = k)) = (atKey xs k).isSome from (valV_any ..).trans (r.has k)]
  split
  · exact r.repl k ry
  · exact Paired.snoc r ⟨rfl, hb, hk, ry⟩
end
section
variable {X : Cx} {pins : List (Addr × Obj)} {σ : L2.St} {H : Hp} {s : Shared}
mutual
theorem nested_of (I : Inv X pins σ H s) : ∀ (k : NK) (v : V) (u : Value), Dp X.K H v k.data → RelV v u → NestedIs s.heap k u
  | .none, _, _, h, r => by cases h; cases r; exact .none
  | .num _, _, _, h, r => by cases h; obtain ⟨t, rfl⟩ := r; exact .int _ t
  | .text _, _, _, h, r => by cases h; obtain ⟨t, rfl⟩ := r; exact .text _ t
  | .tup ks, _, _, h, r => by
    cases h with
    | tup hs ha =>
      cases r
      obtain ⟨us, rel, ⟨ob, there, kl, n, dat⟩, -⟩ := I.tuple hs
      exact .tup there kl dat (by simpa using nestedAll_of I ks _ us ha rel)
theorem nestedAll_of (I : Inv X pins σ H s) : ∀ (ks : List NK) (vs : List V) (us : List Value), DpAll X.K H vs (NestedKey.datas ks) → Vals vs us → NestedAll s.heap ks us
  | [], _, _, h, r => by cases h; cases r; exact .nil
  | k :: ks, _, _, h, r => by
    cases h with
    | cons h1 h2 =>
      cases r with
      | cons r1 r2 => exact .cons (nested_of I k _ _ h1 r1) (nestedAll_of I ks _ _ h2 r2)
end
theorem is_of (I : Inv X pins σ H s) {k : NK} {b : Addr} (h : Dp X.K H (.ref b) k.data) (hk : k.depth ≤ 8) : (nestedKind X.prog X.w).is s.heap k b := ⟨nested_of I k _ _ h rfl, hk⟩
theorem all_is (I : Inv X pins σ H s) {kvs : List (NK × V)} {xs : List (NK × Addr × Value)} (r : KN X.K H kvs xs) : ∀ x ∈ xs, (nestedKind X.prog X.w).is s.heap x.1 x.2.1 := by
  unfold KN at r
  induction r with
  | nil => simp
  | @cons p q ps qs known _ rest =>
    rw [List.forall_mem_cons]
    exact ⟨known.1 ▸ is_of I known.2.1 known.2.2.1, rest⟩
theorem ofH (I : Inv X pins σ H s) {d : Addr} {kvs : List (NK × V)} {es : Array DictEntry} {ep : Nat} (e : H d = some (rawO d es ep)) {xs : List (NK × Addr × Value)} (r : KN X.K H kvs xs) (h1 : es.toList = xs.map (entN X.w)) (h2 : (xs.map (·.1)).Nodup) :
    s.heap.DictOfH (nestedKind X.prog X.w) d xs := by
  obtain ⟨o, ho, hc, hd⟩ := rawO_of I.hok (.inl e)
  exact ⟨o, es, ep, ho, hc, hd, h1, all_is I r, h2⟩
theorem roomN {A : Around} (hu : A.units + 64 < cLine) : (nestedKind X.prog X.w).room A.in1 := by show A.units + 1 + 8 < cLine; omega

/-! ### reading -/
def rInN (w : World) (K : PySem.W.Frag) (neg : Bool) : R2 := fun x y H Q => ∃ b d kvs k, x = .ref b ∧ y = .ref d ∧ DN w K H d kvs ∧ Dp K H (.ref b) (NestedKey.data k) ∧ k.depth ≤ 8 ∧ Q (.bl (if neg then !(valV kvs k).isSome else (valV kvs k).isSome)) H
theorem op_inN (hu : X.A.units + 64 < cLine) : OpR X (compareOp .In) (rInN X.w X.K false) := by
  intro pins s σ H x y v u Q I rx ry h
  obtain ⟨b, d, kvs, k, rfl, rfl, ⟨es, ep, e, lo, len, xs, r, h1, h2⟩, hb, hk, q⟩ := h
  cases rx
  cases ry
  refine wpAny_in_heap (roomN hu) (is_of I hb hk) lo (ofH I e r h1 h2) ?_
  rw [← r.has k]
  exact ⟨.bl (valV kvs k).isSome, H, I.tok _, rfl, q⟩
theorem op_notInN (hu : X.A.units + 64 < cLine) : OpR X (compareOp .NotIn) (rInN X.w X.K true) := by
  intro pins s σ H x y v u Q I rx ry h
  obtain ⟨b, d, kvs, k, rfl, rfl, ⟨es, ep, e, lo, len, xs, r, h1, h2⟩, hb, hk, q⟩ := h
  cases rx
  cases ry
  refine wpAny_notIn_heap (roomN hu) (is_of I hb hk) lo (ofH I e r h1 h2) ?_
  rw [← r.has k]
  exact ⟨.bl (!(valV kvs k).isSome), H, I.tok _, rfl, q⟩
def rGetN (w : World) (K : PySem.W.Frag) : R2 := fun x y H Q => ∃ d b kvs k v, x = .ref d ∧ y = .ref b ∧ DN w K H d kvs ∧ Dp K H (.ref b) (NestedKey.data k) ∧ k.depth ≤ 8 ∧ valV kvs k = some v ∧ Q v H
theorem pe_ixN {o i : Expr} {pos : Pos} {td ty : TE} (hu : X.A.units + 64 < cLine) (ho : PE X o td) (hi : PE X i ty) (hs : NoSl i) : PE X (.Subscript o i pos) (tOp (rGetN X.w X.K) td ty) := by
  refine ⟨fun pins s σ H Q I h => ?_⟩
  refine subD_of PySem.F.slot_dict_getitem.lookup hs (thn (ho.run pins s σ H _ I h) fun u s1 ⟨x, H1, I1, rx, q1⟩ => thn (hi.run pins s1 σ H1 _ I1 q1) fun iv s2 ⟨y, H2, I2, ry, q2⟩ => ?_)
  obtain ⟨d, b, kvs, k, val, rfl, rfl, ⟨es, ep, e, lo, len, xs, r, h1, h2⟩, hb, hk, hv, q⟩ := q2
  cases rx
  cases ry
  have dd := ofH I2 e r h1 h2
  have found := r.val k
  rw [hv] at found
  cases at_ : atKey xs k with
  | none => rw [at_] at found; exact found.elim
  | some p =>
    rw [at_] at found
    exact ⟨dd.typeIs, wpAny_getItem_heap (roomN hu) (is_of I2 hb hk) dd at_ ⟨val, H2, I2.tok _, found, q⟩⟩
/-- d.get(k, x) -/
def tGetN (w : World) (K : PySem.W.Frag) (td ty tx : TE) : TE := fun σ H Q => td σ H fun x H1 => ∃ d, x = .ref d ∧ (∃ kvs, DN w K H1 d kvs) ∧ ty σ H1 fun y H2 => tx σ H2 fun z H3 => ∃ b kvs k, y = .ref b ∧ DN w K H3 d kvs ∧ Dp K H3 (.ref b) (NestedKey.data k) ∧ k.depth ≤ 8 ∧ Q ((valV kvs k).getD z) H3
theorem pe_getN {o e f : Expr} {apos cpos : Pos} {td ty tx : TE} (hu : X.A.units + 64 < cLine) (ho : PE X o td) (he : PE X e ty) (hf : PE X f tx) (m : M2 X o "get" apos e f cpos) : PE X (.Call (.Attribute o "get" apos) [e, f] [] cpos) (tGetN X.w X.K td ty tx) where
  run := fun pins s σ H Q I h => by
    refine wpAny_Call_method m.base m.few m.line PySem.F.plainAttrs_dict PySem.F.slot_dict_get PySem.F.type_dict_get (thn (ho.run pins s σ H _ I h) fun dv s1 ⟨x, H1, I1, rx, d, ex, ⟨_, _, _, at0, _⟩, on⟩ => ?_)
    cases ex
    cases (show dv = .ref d from rx)
    obtain ⟨ob, there, exact_, -⟩ := rawO_of I1.hok (.inl at0)
    refine ⟨⟨ob, there, exact_.1⟩, fun _ z => by cases z; exact ⟨ob, there, exact_.2.1⟩, ?_⟩
    rw [m.trees]
    have args : wpAny (model X.prog X.w) X.A (spliced [(false, eval e X.env), (false, eval f X.env)]) (fun us s' => ∃ b y, us = [.ref b, y] ∧ ∃ z kvs k H', Inv X pins σ H' s' ∧ RelV z y ∧ DN X.w X.K H' d kvs ∧ Dp X.K H' (.ref b) (NestedKey.data k) ∧ k.depth ≤ 8 ∧ Q ((valV kvs k).getD z) H') X.xe s1 :=
      Calls.spliced_cons (thn (he.run pins s1 σ H1 _ I1 on) fun kv s2 ⟨y, H2, I2, ry, on2⟩ => Calls.spliced_cons (thn (hf.run pins s2 σ H2 _ I2 on2) fun fv s3 ⟨z, H3, I3, rz, b, kvs, k, ey, dn, dp, small, fin⟩ => Calls.spliced_nil (by
        cases ey
        cases (show kv = .ref b from ry)
        exact ⟨b, fv, rfl, z, kvs, k, H3, I3, rz, dn, dp, small, fin⟩)))
    refine Calls.callWith_builtin rfl (Calls.evalArgs_plain (thn args fun us s3 ⟨b, fv, eu, z, kvs, k, H3, I3, rz, ⟨es, ep, at3, lo, _, xs, r, h1, h2⟩, dp, small, fin⟩ => ?_))
    cases eu
    have dd := ofH I3 at3 r h1 h2
    exact call_meetsIn PySem.F.slot_dict_get dd.typeIs PySem.F.entry_dict_get (PySem.F.args_dict_get_3 _ _ _) (meetsH_dict_get_default (nestedKind X.prog X.w) d b lo fv) ⟨roomN hu, k, xs, is_of I3 dp small, dd, ⟨_, H3, I3.tok _, (r.val k).getD rz, fin⟩⟩

/-! ### storing -/
theorem tx_upd {H : Hp} {d : Addr} {u : HO} (h : ∀ xs, ¬ Rd H d (.tup xs)) : Tx H (upd H d u) := fun a xs r => by
  have : a ≠ d := fun e => h xs (e ▸ r)
  rcases r with r | ⟨o, r⟩
  · exact .inl (by rw [upd_ne this]; exact r)
  · exact .inr ⟨o, by rw [upd_ne this]; exact r⟩
theorem not_tup {H : Hp} {d : Addr} {o : HO} (e : H d = some o) (h1 : ∀ xs, o ≠ .tup xs) (h2 : ∀ ob u, o ≠ .frz ob u) : ∀ xs, ¬ Rd H d (.tup xs) := fun xs r => by
  rcases r with r | ⟨ob, r⟩
  · rw [e] at r; exact h1 xs (Option.some.inj r)
  · rw [e] at r; exact h2 ob _ (Option.some.inj r)
theorem raw_not {H : Hp} {d : Addr} {es : Array DictEntry} {ep : Nat} (e : H d = some (rawO d es ep)) : ∀ xs, ¬ Rd H d (.tup xs) :=
  not_tup e (fun _ z => nomatch z) fun _ _ z => nomatch z
def rSetN (w : World) (K : PySem.W.Frag) : V → V → V → Hp → (Hp → Prop) → Prop := fun o i v H Q => ∃ d b kvs k, o = .ref d ∧ i = .ref b ∧ DN w K H d kvs ∧ Dp K H (.ref b) (NestedKey.data k) ∧ k.depth ≤ 8 ∧ kvs.length < 1000000 ∧
  ∀ u, DN w K (upd H d u) d (putK kvs k v) → Tx H (upd H d u) → Q (upd H d u)
theorem set_N (hu : X.A.units + 64 < cLine) : PSet X (rSetN X.w X.K) := by
  intro pins s σ H o i v ov iv uv Q I ro ri rv h
  obtain ⟨d, b, kvs, k, rfl, rfl, ⟨es, ep, e, lo, len, xs, r, h1, h2⟩, hb, hk, hl, q⟩ := h
  cases ro
  cases ri
  have dd := ofH I e r h1 h2
  have hz : xs.length ≤ sizeLine := by rw [← Paired.length r, sizeLine_eq]; omega
  refine wpAny_setItem_heap (hsz := hz) (roomN hu) (is_of I hb hk) dd fun h' dd' hs => ?_
  obtain ⟨ob, es', ep', hq, hc2, hd3, hd4, _, hd5⟩ := dd'
  have t : Tx H (upd H d (rawO d es' ep')) := tx_upd (raw_not e)
  refine ⟨_, I.write (t' := s.toks + k.draws) (x := d) (e := d) (by rw [e]; trivial) (.inl rfl) (fun c q hc z => (hs.2 c hc).trans z) ⟨_, hq⟩ (rawO_ok (es := es') (ep := ep') ⟨ob, hq, hc2, hd3⟩), q _ ?_ t⟩
  refine ⟨es', ep', upd_same, lo, ?_, storedH xs k b uv, (r.put k hb hk rv).tx t, hd4, hd5⟩
  have := length_putK kvs k v
  omega

/-! ### made -/
/-- {} -/
def tNewN (w : World) (K : PySem.W.Frag) : TE := fun _ H Q => ∀ p u, H p = none → DN w K (upd H p u) p [] → Q (.ref p) (upd H p u)
theorem pe_newN {pos : Pos} : PE X (.Dict [] [] pos) (tNewN X.w X.K) := ⟨fun pins s σ H Q I h => by
  have hr : (s.heap.push { cls := .type "dict", data := .dict #[] }).DictRaw s.heap.objs.size #[] 0 := ⟨_, Heap.get?_push_size _ rfl, ⟨rfl, rfl, rfl⟩, rfl⟩
  refine wpAny_Dict_empty ⟨.ref s.heap.objs.size, _, I.laid (a := s.heap.objs.size) (o := rawO s.heap.objs.size #[] 0) (t' := s.toks) (fun _ _ q => Heap.get?_push_of_some _ q) (Nat.le_refl _) (rawO_ok hr), rfl, h _ _ (I.hok.fresh (Nat.le_refl _)) ?_⟩
  exact ⟨#[], 0, upd_same, beq_eq_false_iff_ne.mpr (Ne.symm (Nat.ne_of_lt I.big)), Nat.zero_le _, [], .nil, rfl, List.nodup_nil⟩⟩
/-- {k: v} -/
def tDispN (w : World) (K : PySem.W.Frag) (tk tv : TE) : TE := fun σ H Q => ∀ p u, H p = none → tPairs [(tk, tv)] σ (upd H p u) fun ps H2 => ∃ x y, ps = [(x, y)] ∧ H2 p = some u ∧ ∃ b k, x = .ref b ∧ Dp K H2 (.ref b) (NestedKey.data k) ∧ k.depth ≤ 8 ∧
  ∀ u2, DN w K (upd H2 p u2) p [(k, y)] → Tx H2 (upd H2 p u2) → Q (.ref p) (upd H2 p u2)
abbrev emptyD : Obj := { cls := .type "dict", data := .dict #[] }
/-- a display of one pair: the pair's two parts, then the store -/
theorem one_shown {P : Program} {w : World} {A : Around} {E : Value → Shared → Prop} {env : Env} {ek ev : Expr} {pos : Pos} {Q : Value → Shared → Prop} (room : A.units + 64 < cLine)
    (on : wpAny (model P w) A (evalPairs (pairTrees [some ek] [ev] env pos)) (fun vs s1 => ∃ k b v, vs = [(.ref b, v)] ∧ (nestedKind P w).is s1.heap k b ∧ s1.heap.DictOfH (nestedKind P w) s.heap.objs.size [] ∧
      ∀ h' tk, h'.DictOfH (nestedKind P w) s.heap.objs.size [(k, b, v)] → Heap.SameBut s.heap.objs.size s1.heap h' → Q (.ref s.heap.objs.size) { s1 with heap := h', toks := tk }) E { s with heap := s.heap.push emptyD }) :
    wpAny (model P w) A (eval (.Dict [some ek] [ev] pos) env) Q E s := by
  have short : (pairTrees [some ek] [ev] env pos).length ≤ 15 := Nat.le_of_ble_eq_true rfl
  have made := wpAny_subDictH (knd := nestedKind P w) (Q := fun d s' => Q (.ref d) s') (by show A.units + 8 < cLine; omega) short (wpAny_mono on (fun vs s1 ⟨k, b, v, ev, is_, new, fin⟩ => by
    subst ev
    exact ⟨[(k, b, v)], ⟨rfl, rfl, is_, trivial⟩, new, fin⟩) fun _ _ e => e)
  rw [arm_eval_Dict]
  refine wpAny_bind (wpAny_standAt ?_)
  refine (dictDisplay_pairs (pairTrees [some ek] [ev] env pos) (fun z => nomatch z) (by omega)) ▸ (wpAny_bind (wpAny_mono made (fun _ _ q => wpAny_pure q) fun _ _ e => e) : wpAny _ _ _ _ _ _)
theorem pe_dispN {pos : Pos} {ek ev : Expr} {tk tv : TE} (hu : X.A.units + 64 < cLine) (hk : PE X ek tk) (hv : PE X ev tv) : PE X (.Dict [some ek] [ev] pos) (tDispN X.w X.K tk tv) where
  run := fun pins s σ H Q I h => by
    generalize new : s.heap.objs.size = N
    have raw : (s.heap.push emptyD).DictRaw N #[] 0 := ⟨_, new ▸ Heap.get?_push_size _ rfl, ⟨rfl, rfl, rfl⟩, rfl⟩
    have I1 : Inv X pins σ (upd H N (rawO N #[] 0)) { s with heap := s.heap.push emptyD } := I.laid (t' := s.toks) (fun _ _ q => Heap.get?_push_of_some _ q) (Nat.le_of_eq new) (rawO_ok raw)
    have apart : (N == sysModules) = false := beq_eq_false_iff_ne.mpr (new ▸ Ne.symm (Nat.ne_of_lt I.big))
    refine one_shown hu (new.symm ▸ thn ((pps_cons hk hv pps_nil).run pins _ σ _ (fun ps H3 => ∃ x y, ps = [(x, y)] ∧ H3 N = some (rawO N #[] 0) ∧ ∃ b k, x = .ref b ∧ Dp X.K H3 (.ref b) (NestedKey.data k) ∧ k.depth ≤ 8 ∧
      ∀ u2, DN X.w X.K (upd H3 N u2) N [(k, y)] → Tx H3 (upd H3 N u2) → Q (.ref N) (upd H3 N u2)) I1 (h _ _ (I.hok.fresh (Nat.le_of_eq new)))) fun vs s3 ⟨ps, H3, I3, rel, x, y, eps, at3, b, k, ex, dp, small, fin⟩ => ?_)
    cases eps
    cases ex
    cases rel with
    | @cons _ q _ _ both none_ =>
      cases none_
      obtain ⟨kv, vv⟩ := q
      cases (show kv = .ref b from both.1)
      obtain ⟨o, there, kl, dat⟩ := rawO_of I3.hok (.inl at3)
      refine ⟨k, b, vv, rfl, is_of I3 dp small, ⟨o, #[], 0, there, kl, dat, rfl, (fun _ z => by cases z), .nil⟩, fun h' tk2 ⟨o2, es2, ep2, there2, kl2, dat2, ents, _, nodup⟩ only => ?_⟩
      have tx : Tx H3 (upd H3 N (rawO N es2 ep2)) := tx_upd (raw_not at3)
      have I4 := I3.write (t' := tk2) (x := N) (e := N) (o := rawO N es2 ep2) (by rw [at3]; trivial) (.inl rfl) (fun c u ne z => (only.2 c ne).trans z) ⟨_, there2⟩ (rawO_ok ⟨o2, there2, kl2, dat2⟩)
      exact ⟨.ref N, _, I4, rfl, fin _ ⟨es2, ep2, upd_same, apart, by show 1 ≤ 1000000; decide, [(k, b, vv)], .cons ⟨rfl, Dp.tx tx _ _ dp, small, both.2⟩ .nil, ents, nodup⟩ tx⟩

/-! ### walked -/
def Itkn (d : Addr) (es : Array DictEntry) (ep : Nat) : It :=
  ⟨fun i H => Rd H d (rawO d es ep) ∧ ∃ en a, es[i]? = some en ∧ en.key = .ref a, fun i H x H' => H' = H ∧ ∃ en a, es[i]? = some en ∧ en.key = .ref a ∧ x = .ref a, fun i H => Rd H d (rawO d es ep) ∧ es.size ≤ i⟩
theorem turn_keysN {P : Program} {w : World} {K : PySem.W.Frag} {tg : Expr} {d : Addr} {es : Array DictEntry} {ep : Nat} (it : Addr) : Turn P w K tg (Itkn d es ep) [it] it (fun i h => h.IsKeyIter it d i es.size ep) where
  mem := List.mem_singleton_self it
  obj := fun _ _ ⟨o, there, _, dat⟩ b m => List.mem_singleton.mp m ▸ ⟨o, there, fun v z => nomatch dat.symm.trans z⟩
  keep := fun _ _ _ ⟨o, there, r⟩ k => ⟨o, k it (List.mem_singleton_self it) _ there, r⟩
  item := by
    rintro X rfl rfl rfl calm i pins s σ H E I foot st ⟨rd, en, a, at_i, key⟩
    obtain ⟨lt, same⟩ := Array.getElem?_eq_some_iff.mp at_i
    obtain ⟨p0, p1, -, p3, p4, p5⟩ := foot it (List.mem_singleton_self it)
    refine wpAny_pyNext_keys_item_raw st (rawO_of I.hok rd) lt fun h' st' only => ⟨_, rfl, ?_⟩
    obtain ⟨o, there, kl, dat⟩ := id st'
    exact go_of (s := { s with heap := h' }) (n := "dict_keyiterator") there kl dat (by decide) ⟨.ref a, H, I.turned (t' := s.toks) (fun b u ne e => (only.2 b ne).trans e) p0 p1 p3 p4 p5, by rw [same, key]; rfl, ⟨rfl, en, a, at_i, key, rfl⟩, st', fun b m => (foot b m).1⟩
  done := by
    rintro X rfl rfl rfl calm i pins s σ H E I foot st ⟨rd, past⟩
    obtain ⟨p0, p1, -, p3, p4, p5⟩ := foot it (List.mem_singleton_self it)
    exact wpAny_pyNext_keys_end_raw (I.ok.hd calm) st (rawO_of I.hok rd) past fun h' but => ⟨rfl, I.turned (t' := s.toks) (fun b u ne e => but b u ne e) p0 p1 p3 p4 p5⟩
  self := fun A i s Q E st q => have T := st.typeIs
    wpAny_pyIter_slot T PySem.F.slot_dict_keyiterator_iter (wpAny_call_entry PySem.F.slot_dict_keyiterator_iter T PySem.F.entry_dict_keyiterator_iter (wpAny_pure ⟨_, rfl, "dict_keyiterator", _, T, PySem.F.slot_dict_keyiterator_next.lookup, q⟩) (PySem.F.args_dict_keyiterator_iter_1 _))
def iKeysN (td : TE) : TI := fun σ H R => td σ H fun x H1 => ∃ d es ep, x = .ref d ∧ Rd H1 d (rawO d es ep) ∧ (d == sysModules) = false ∧ R (Itkn d es ep) H1
theorem pi_keysN {tg e : Expr} {td : TE} (he : PE X e td) : PI X tg e (iKeysN td) := by
  refine ⟨fun pins s σ H R I h => ?_⟩
  refine thn (he.run pins s σ H _ I h) fun v s1 ⟨x, H1, I1, r1, d, es, ep, ex, hr, lo, q⟩ => ?_
  subst ex
  cases r1
  exact wpAny_pyIter_dict_raw lo (rawO_of I1.hok hr) (pi_one (tk := s1.toks) I1 _ (turn_keysN _) ⟨_, Heap.get?_push_size _ rfl, rfl, rfl⟩ q)
theorem KN.get {K : PySem.W.Frag} {kvs : List (NK × V)} {xs : List (NK × Addr × Value)} (r : KN K H kvs xs) {i : Nat} {x : NK × Addr × Value} (h : xs[i]? = some x) : ∃ p, kvs[i]? = some p ∧ p.1 = x.1 ∧ Dp K H (.ref x.2.1) p.1.data := by
  unfold KN at r
  induction r generalizing i with
  | nil => simp at h
  | @cons p q ps qs hq t ih =>
    cases i with
    | zero =>
      have e : q = x := Option.some.inj h
      subst e
      exact ⟨p, rfl, hq.1, hq.2.1⟩
    | succ i =>
      obtain ⟨p', h1, h2⟩ := ih (i := i) (by simpa using h)
      exact ⟨p', by simpa using h1, h2⟩
/-- the walk over the keys: G says that the dict stands as it stood in H0, and the tuples -/
theorem walk_keysN {w : World} {K : PySem.W.Frag} {d : Addr} {kvs : List (NK × V)} {H0 : Hp} {es : Array DictEntry} {ep : Nat} (he : H0 d = some (rawO d es ep)) (ok : EntOk w K H0 d kvs es) :
    Walk (Itkn d es ep) kvs.length (fun H => H d = some (rawO d es ep) ∧ Tx H0 H) (fun i H x H' => H' = H ∧ ∃ k v, kvs[i]? = some (k, v) ∧ Dp K H x k.data) := by
  obtain ⟨lo, len, xs, r, h1, h2⟩ := ok
  have hl : xs.length = kvs.length := (Paired.length r).symm
  have hat : ∀ i, es[i]? = (xs[i]?).map (entN w) := fun i => by rw [← Array.getElem?_toList, h1, List.getElem?_map]
  have hsz : es.size = kvs.length := by rw [← Array.length_toList, h1, List.length_map, hl]
  refine ⟨fun i H hi g => ⟨.inl g.1, ?_⟩, fun H g => ⟨.inl g.1, by rw [hsz]; exact Nat.le_refl _⟩, fun i H x H' hi g y => ?_⟩
  · have hx : i < xs.length := by omega
    exact ⟨_, _, by rw [hat, List.getElem?_eq_getElem hx]; rfl, rfl⟩
  · obtain ⟨rfl, en, a, hen, hka, rfl⟩ := y
    refine ⟨rfl, ?_⟩
    rw [hat] at hen
    obtain ⟨x, hx, ex⟩ := Option.map_eq_some_iff.mp hen
    subst ex
    have ea : x.2.1 = a := by
      have : Value.ref x.2.1 = Value.ref a := hka
      injection this
    obtain ⟨p, hp, _, hd⟩ := r.get hx
    refine ⟨p.1, p.2, hp, ?_⟩
    rw [← ea]
    exact Dp.tx g.2 _ _ hd
end
end Wx
end
section
set_option Elab.async false
set_option linter.all false
set_option maxRecDepth 100000
set_option maxHeartbeats 4000000
/-! enumerate over whatever hands out items (Feed); a tuple and a text as such. -/
namespace Wx
open PySem PySem.Spec L2 PyProof.Rows

/-- a new enumerate over the iterator it -/
abbrev enumO (it : Addr) : Obj := { cls := .type "enumerate", data := .fields #[.none, .bool false, .ref it, rawInt 0, .none, .none] }
theorem enum_new {v : Value} {o : Obj} {T : Heap → Prop} (B : Begins v o T) : Meets (Builtin.«enumerate.__new__» ⟨[.type "enumerate", v], []⟩)
    (fun _ R s => T s.heap ∧ R (.ok (.ret (.ref (s.heap.push o).objs.size))) { s with heap := (s.heap.push o).push (enumO s.heap.objs.size) }) :=
  .of_wp fun P w A R s both => by
    rcases s with ⟨h, gs, dr, tk, os⟩
    rcases both with ⟨there, ret⟩
    have own := sub_enumerate
    have at_v : ∀ {A' : Around} {E Q : Value → Shared → Prop}, Q (.ref h.objs.size) ⟨h.push o, gs, dr, tk, os⟩ → wpAny (model P w) A' (pyIter v) Q E ⟨h, gs, dr, tk, os⟩ :=
      fun q => B.iter P w _ _ ⟨h, gs, dr, tk, os⟩ _ there q
    wp_walk using at_v
    refine wpAny_stack_any fun st => wpAny_pure ?_
    split
    case h_1 =>
      rename_i kl _ _ _ _ _
      cases kl == Value.type "enumerate" <;> (wp_walk using at_v; exact ⟨_, rfl, ret⟩)
    case h_2 => wp_walk using at_v; exact ⟨_, rfl, ret⟩
theorem enum_call {P : Program} {w : World} {A : Around} {E : Value → Shared → Prop} {s : Shared} {v : Value} {o : Obj} {T : Heap → Prop} {Q : Value → Shared → Prop} (B : Begins v o T) (there : T s.heap)
    (on : ∀ h', IsEnum h' (s.heap.objs.size + 1) s.heap.objs.size 0 .none → h'.get? s.heap.objs.size = some o → (∀ b u, s.heap.get? b = some u → h'.get? b = some u) → Q (.ref (s.heap.objs.size + 1)) { s with heap := h' }) :
    wpAny (model P w) A (call (.type "enumerate") [v]) Q E s := by
  have one : (s.heap.push o).objs.size = s.heap.objs.size + 1 := Heap.size_push _ _
  have placed : IsEnum ((s.heap.push o).push (enumO s.heap.objs.size)) (s.heap.objs.size + 1) s.heap.objs.size 0 .none :=
    one ▸ Heap.get?_push_size (s.heap.push o) (o := enumO s.heap.objs.size) rfl
  refine callType_new F.called_enumerate (by decide) (F.typeCall_enumerate_1 v) (F.newCall_enumerate_1 v) (fun _ => F.args_object_init_2 _ _) F.entry_enumerate_new (enum_new B) ⟨there, ?_⟩
  rw [one]
  exact ⟨⟨_, placed, rfl⟩, on _ placed (Heap.get?_push_of_some _ (Heap.get?_push_size _ B.free)) fun _ _ e => Heap.get?_push_of_some _ (Heap.get?_push_of_some _ e)⟩

/-- what hands out items, told turn by turn: at it stands an iterator (tn), what it reads stands at «away», the i-th item is as «itm» says -/
structure Feed (P : Program) (w : World) (K : PySem.W.Frag) (it : Addr) (away : List Addr) (go : Nat → Hp → Prop) (itm : Nat → Hp → V → Prop) (stop : Nat → Hp → Prop) (tn : Nat → Heap → Prop) : Prop where
  stands : ∀ i h, tn i h → ∃ o, h.get? it = some o ∧ ∀ v, o.data ≠ .cell v
  stays : ∀ i h h', tn i h → (∀ o, h.get? it = some o → h'.get? it = some o) → tn i h'
  next : ∀ (X : Cx), X.prog = P → X.w = w → X.K = K → X.calm = true → ∀ {pins : List (Addr × Obj)} {σ : L2.St} {H : Hp} {s : Shared} (i : Nat), Inv X pins σ H s → tn i s.heap → go i H →
    ∃ (fp : List Addr) (n : Nat) (Pv : Nat → Value → Prop) (at_ : Nat → Heap → Prop), Draws P w X.A.in1 it fp n Pv at_ ∧ at_ i s.heap ∧ i < n ∧ (∀ b ∈ fp, b = it ∨ b ∈ away) ∧ (∀ u, Pv i u → ∃ x, RelV x u ∧ itm i H x) ∧ ∀ h, at_ (i + 1) h → tn (i + 1) h
  last : ∀ (X : Cx), X.prog = P → X.w = w → X.K = K → X.calm = true → ∀ {pins : List (Addr × Obj)} {σ : L2.St} {H : Hp} {s : Shared} (i : Nat), Inv X pins σ H s → tn i s.heap → stop i H →
    ∃ (fp : List Addr) (Pv : Nat → Value → Prop) (at_ : Nat → Heap → Prop), Draws P w X.A.in1 it fp i Pv at_ ∧ at_ i s.heap
/-- each item in a new pair with its place -/
def ItP (go : Nat → Hp → Prop) (itm : Nat → Hp → V → Prop) (stop : Nat → Hp → Prop) : It :=
  ⟨go, fun i H v H' => ∃ T x, v = .ref T ∧ H T = none ∧ H' = upd H T (.tup [.int (i : Nat), x]) ∧ itm i H x, stop⟩
section
variable {P : Program} {w : World} {K : PySem.W.Frag} {elts : List Expr} {kk : Nat} {tpos : Pos} {it e : Addr} {go : Nat → Hp → Prop} {itm : Nat → Hp → V → Prop} {stop : Nat → Hp → Prop} {tn : Nat → Heap → Prop}
theorem two_of {b : Addr} (m : b ∈ [e, it]) : b = e ∨ b = it := (List.mem_cons.mp m).imp_right List.mem_singleton.mp
theorem turn_feed {away : List Addr} (F : Feed P w K it away go itm stop tn) (apart : e ≠ it) (clear : e ∉ away) : Turn P w K (.Tuple elts kk tpos) (ItP go itm stop) [e, it] e (fun i h => (∃ was, IsEnum h e it (Int.ofNat i) was) ∧ tn i h) where
  mem := List.mem_cons_self
  obj := fun i h st b m => (two_of m).elim (fun z => z ▸ st.1.elim fun _ q => ⟨_, q, fun _ n => nomatch n⟩) fun z => z ▸ F.stands i h st.2
  keep := fun i h h' st k => ⟨st.1.imp fun _ q => k e List.mem_cons_self _ q, F.stays i h h' st.2 (k it (by simp))⟩
  item := by
    rintro X rfl rfl rfl calm i pins s σ H E I foot ⟨⟨was, at_e⟩, at_it⟩ g
    obtain ⟨fp, n, Pv, St, D, now, lt, outs, gives, goes⟩ := F.next X rfl rfl rfl calm i I at_it g
    have far : e ∉ fp := fun m => (outs e m).elim apart clear
    have size : ∀ b, b ∈ [e, it] → b < s.heap.objs.size := fun b m => (two_of m).elim (fun z => z ▸ Heap.lt_size at_e) fun z => z ▸ (F.stands _ _ at_it).elim fun _ q => Heap.lt_size q.1
    generalize new : s.heap.objs.size = N at size
    have free : H N = none := I.hok.fresh (Nat.le_of_eq new)
    refine wpAny_pyNext_enum_itemC D at_e now lt apart far fun u h1 tk pu handed now1 pair _ same => ⟨_, rfl, wpAny_letOwnedTupleGo_enum (s := ⟨h1, s.gens, s.drawn, tk + 1, s.os⟩) handed fun h2 at_e2 only => ?_⟩
    obtain ⟨x, rel, good⟩ := gives u pu
    have pair2 := (only.2 N (Nat.ne_of_gt (size e List.mem_cons_self))).trans (new ▸ pair)
    have I2 : Inv X pins σ (upd H N (.tup [.int (i : Nat), x])) ⟨h2, s.gens, s.drawn, tk + 1, s.os⟩ :=
      I.turnedNew (ch := [e, it]) (fun b u out q => have ne : b ≠ e := fun z => out (z ▸ List.mem_cons_self)
        (only.2 b ne).trans (same b u ne (fun z => out (by simp [z])) q)) foot (Nat.le_of_eq new) ⟨by show 2 ≤ sizeLine; decide, [.int i tk, u], .cons ⟨tk, rfl⟩ (.cons rel .nil), ⟨_, pair2, rfl, _, rfl⟩⟩
    rw [new]
    exact ⟨.ref N, _, I2, rfl, ⟨N, x, rfl, free, rfl, good⟩, ⟨⟨u, at_e2⟩, F.stays _ _ _ (goes _ now1) fun o q => (only.2 it apart.symm).trans q⟩, fun b m => by
      rw [upd_ne (Nat.ne_of_lt (size b m)), (foot b m).1]⟩
  done := by
    rintro X rfl rfl rfl calm i pins s σ H E I foot ⟨⟨was, at_e⟩, at_it⟩ ends
    obtain ⟨fp, Pv, St, D, now⟩ := F.last X rfl rfl rfl calm i I at_it ends
    obtain ⟨p0, p1, -, p3, p4, p5⟩ := foot it (by simp)
    exact wpAny_pyNext_enum_endD D at_e now fun h1 but => ⟨rfl, I.turned (t' := s.toks) (fun b u ne q => but b u ne q) p0 p1 p3 p4 p5⟩
  self := fun A i s Q E st q => st.1.elim fun _ z => wpAny_pyIter_enum z q
end
/-- enumerate over a feed that has just begun -/
theorem start_feed {X : Cx} {pins : List (Addr × Obj)} {σ : L2.St} {H : Hp} {s : Shared} {elts : List Expr} {kk : Nat} {tpos : Pos} {go : Nat → Hp → Prop} {itm : Nat → Hp → V → Prop} {stop : Nat → Hp → Prop} {tn : Nat → Heap → Prop} {R : It → Hp → Prop}
    {v : Value} {o : Obj} {T : Heap → Prop} (I : Inv X pins σ H s) (B : Begins v o T) (there : T s.heap) {away : List Addr} (F : Feed X.prog X.w X.K s.heap.objs.size away go itm stop tn) (low : ∀ b ∈ away, b < s.heap.objs.size) (zero : ∀ h : Heap, h.get? s.heap.objs.size = some o → tn 0 h) (q : R (ItP go itm stop) H) :
    wpAny (model X.prog X.w) X.A (call (.type "enumerate") [v]) (fun u s1 => wpAny (model X.prog X.w) X.A (pyIter u) (PIE X pins σ (.Tuple elts kk tpos) R) X.xe s1) X.xe s := by
  refine enum_call B there fun h' at_e at_it kept => wpAny_pyIter_enum at_e ?_
  refine ⟨_, [s.heap.objs.size + 1, s.heap.objs.size], _, _, H, rfl, I.kept (t' := s.toks) kept, turn_feed F (Nat.succ_ne_self _) (fun m => Nat.not_succ_le_self _ (Nat.le_of_lt (low _ m))), ⟨⟨_, at_e⟩, zero _ at_it⟩, fun b m => ?_, q⟩
  have up : s.heap.objs.size ≤ b := (two_of m).elim (fun z => z ▸ Nat.le_succ _) fun z => Nat.le_of_eq z.symm
  exact I.fpOk up (I.hok.fresh up)

/-! ### a tuple, a text -/
abbrev goT (K : PySem.W.Frag) (a : Addr) (i : Nat) (H : Hp) : Prop := ∃ (xs : List V) (x : V), SqT K H a xs ∧ xs[i]? = some x
abbrev itT (K : PySem.W.Frag) (a : Addr) (i : Nat) (H : Hp) (x : V) : Prop := ∀ xs, SqT K H a xs → xs[i]? = some x
abbrev noT (K : PySem.W.Frag) (a : Addr) (i : Nat) (H : Hp) : Prop := ∃ xs : List V, SqT K H a xs ∧ xs.length = i
abbrev IteT (K : PySem.W.Frag) (a : Addr) : It := ItP (goT K a) (itT K a) (noT K a)
abbrev itS (z : Str) (i : Nat) (_ : Hp) (x : V) : Prop := ∃ c, x = .str ⟨#[c]⟩ ∧ z.cps[i]? = some c
abbrev IteS (z : Str) : It := ItP (fun i _ => i < z.cps.size) (itS z) (fun i _ => z.cps.size = i)
theorem feed_tup {P : Program} {w : World} {K : PySem.W.Frag} {a it : Addr} (ne : a ≠ it) : Feed P w K it [a] (goT K a) (itT K a) (noT K a) (fun i h => h.IsTupleIter it a i) where
  stands := fun i h ⟨o, q, _, d⟩ => ⟨o, q, fun v z => by rw [z] at d; cases d⟩
  stays := fun i h h' st k => st.at k
  next := by
    rintro X rfl rfl rfl calm pins σ H s i I at_it ⟨xs, x, sq, hx⟩
    obtain ⟨us, rv, here, -⟩ := I.tuple sq
    obtain ⟨u, hu, ru⟩ := rv.get hx
    have D := Draws.tuple (prog := X.prog) (w := X.w) (A := X.A.in1) (I.ok.hd calm) it a ne us.toArray
    refine ⟨_, _, _, _, D, ⟨at_it, here⟩, ?_, fun b m => List.mem_cons.mp m, fun u' e => ?_, fun _ z => z.1⟩
    · simpa using (List.getElem?_eq_some_iff.mp hu).1
    · have e : us[i]? = some u' := by simpa using e
      obtain rfl : u = u' := Option.some.inj (hu.symm.trans e)
      exact ⟨x, ru, fun ys sy => I.tuple_inj sy sq ▸ hx⟩
  last := by
    rintro X rfl rfl rfl calm pins σ H s i I at_it ⟨xs, sq, rfl⟩
    obtain ⟨us, rv, here, -⟩ := I.tuple sq
    have D := Draws.tuple (prog := X.prog) (w := X.w) (A := X.A.in1) (I.ok.hd calm) it a ne us.toArray
    rw [show us.toArray.size = xs.length from rv.length.symm] at D
    exact ⟨_, _, _, D, at_it, here⟩
theorem feed_str {P : Program} {w : World} {K : PySem.W.Frag} {z : Str} {t : Tok} {it : Addr} : Feed P w K it [] (fun i _ => i < z.cps.size) (itS z) (fun i _ => z.cps.size = i) (fun i h => h.IsStrIter it (strIterType z) z t i) where
  stands := fun i h ⟨o, q, _, d⟩ => ⟨o, q, fun v y => by rw [y] at d; cases d⟩
  stays := fun i h h' ⟨o, q, r⟩ k => ⟨o, k o q, r⟩
  next := by
    rintro X rfl rfl rfl calm pins σ H s i I at_it lt
    have D := Draws.text (prog := X.prog) (w := X.w) (A := X.A.in1) (I.ok.hd calm) it z t
    exact ⟨_, _, _, _, D, at_it, lt, fun b m => .inl (List.mem_singleton.mp m), fun u ⟨c, t', hc, eu⟩ => ⟨.str ⟨#[c]⟩, ⟨t', eu⟩, c, rfl, hc⟩, fun _ y => y⟩
  last := by
    rintro X rfl rfl rfl calm pins σ H s i I at_it rfl
    have D := Draws.text (prog := X.prog) (w := X.w) (A := X.A.in1) (I.ok.hd calm) it z t
    exact ⟨_, _, _, D, at_it⟩
/-- enumerate(e), e a tuple, a text -/
def iEnumT (K : PySem.W.Frag) (ta : TA) : TI := fun σ H R => ta σ H fun vs H1 => ∃ a xs, vs = [.ref a] ∧ SqT K H1 a xs ∧ R (IteT K a) H1
def iEnumS (ta : TA) : TI := fun σ H R => ta σ H fun vs H1 => ∃ z, vs = [.str z] ∧ R (IteS z) H1
section
variable {X : Cx} {e : Expr} {ta : TA} {p pos tpos : Pos} {elts : List Expr} {kk : Nat}
theorem pi_enumT (hg : Gl X "enumerate") (hm : X.mg "enumerate" = none) (ha : PA X [e] ta) (hs : starEach [e] X.env = [(false, eval e X.env)] := by rfl) :
    PI X (.Tuple elts kk tpos) (.Call (.Name "enumerate" p) [e] [] pos) (iEnumT X.K ta) where
  run := fun pins s σ H R I h => Call_ (ld_blt I hg hm boot_enumerate (PyProof.Rows.callWith_type1 (thn (ha.run pos pins s σ H _ I h) fun us s1 ⟨vs, H1, I1, r1, a, xs, ex, sq, q⟩ => by
    subst ex
    obtain ⟨u, rfl, ru⟩ := vals1 r1
    obtain rfl : u = .ref a := ru
    obtain ⟨us, -, here, -⟩ := I1.tuple sq
    have low : a < s1.heap.objs.size := here.elim fun _ y => Heap.lt_size y.1
    exact start_feed I1 (begins_tuple a _) here (feed_tup (Nat.ne_of_lt low)) (fun b m => List.mem_singleton.mp m ▸ low) (fun _ y => ⟨_, y, rfl, rfl⟩) q) hs rfl))
theorem pi_enumS (hg : Gl X "enumerate") (hm : X.mg "enumerate" = none) (ha : PA X [e] ta) (hs : starEach [e] X.env = [(false, eval e X.env)] := by rfl) :
    PI X (.Tuple elts kk tpos) (.Call (.Name "enumerate" p) [e] [] pos) (iEnumS ta) where
  run := fun pins s σ H R I h => Call_ (ld_blt I hg hm boot_enumerate (PyProof.Rows.callWith_type1 (thn (ha.run pos pins s σ H _ I h) fun us s1 ⟨vs, H1, I1, r1, z, ex, q⟩ => by
    subst ex
    obtain ⟨u, rfl, t, rfl⟩ := vals1 r1
    exact start_feed I1 (begins_text z t) trivial feed_str (fun _ m => nomatch m) (fun _ y => ⟨_, y, rfl, rfl⟩) q) hs rfl))
theorem walk_enumT {K : PySem.W.Frag} {a : Addr} {xs : List V} : Walk (IteT K a) xs.length (fun H => SqT K H a xs) (YPair (fun i => some (.int (i : Nat))) (fun i => xs[i]?)) :=
  ⟨fun i _ lt sq => ⟨xs, xs[i], sq, List.getElem?_eq_getElem lt⟩, fun _ sq => ⟨xs, sq, rfl⟩, fun i H v H' _ sq ⟨T, x, ev, fr, eh, each⟩ => ⟨T, .int (i : Nat), x, ev, fr, eh, rfl, each xs sq⟩⟩
theorem walk_enumS {z : Str} : Walk (IteS z) z.cps.size (fun _ => True) (YPair (fun i => some (.int (i : Nat))) (fun i => z.cps[i]?.map fun c => .str ⟨#[c]⟩)) :=
  ⟨fun _ _ lt _ => lt, fun _ _ => rfl, fun i H v H' _ _ ⟨T, x, ev, fr, eh, c, ex, hc⟩ => ⟨T, .int (i : Nat), x, ev, fr, eh, rfl, by show z.cps[i]?.map _ = _; rw [hc, ex]; rfl⟩⟩
end
end Wx
end
section
/-! Boards, steps, what leads to what: plain Lean. -/
namespace Wv
set_option linter.all false

abbrev Brd := List (List Nat)
def at2 (b : Brd) (r c : Nat) : Nat := (b.getD r []).getD c 0
def cols (b : Brd) : Nat := (b.getD 0 []).length
def many (b : Brd) : Nat := b.length + cols b
def isSign (s : Nat) : Prop := s = 46 ∨ s = 60 ∨ s = 62 ∨ s = 120
/-- a table of R lines of C signs -/
structure Rect (R C : Nat) (b : Brd) : Prop where
  rows : b.length = R
  line : ∀ r, r < R → (b.getD r []).length = C
  sign : ∀ r c, r < R → c < C → isSign (at2 b r c)

theorem Rect.cols {R C : Nat} {b : Brd} (h : Rect R C b) (hR : 0 < R) : cols b = C := h.line 0 hR
theorem Rect.many {R C : Nat} {b : Brd} (h : Rect R C b) (hR : 0 < R) : many b = R + C := by
  unfold Wv.many; rw [h.rows, h.cols hR]

theorem Rect.ext {R C : Nat} {a b : Brd} (ha : Rect R C a) (hb : Rect R C b) (h : ∀ r c, r < R → c < C → at2 a r c = at2 b r c) : a = b := by
  apply List.ext_getElem
  · rw [ha.rows, hb.rows]
  · intro r h1 h2
    have hr : r < R := by rw [← ha.rows]; exact h1
    have ea : a.getD r [] = a[r] := by simp [List.getD, List.getElem?_eq_getElem h1]
    have eb : b.getD r [] = b[r] := by simp [List.getD, List.getElem?_eq_getElem h2]
    have la := ha.line r hr
    have lb := hb.line r hr
    rw [ea] at la
    rw [eb] at lb
    apply List.ext_getElem
    · rw [la, lb]
    · intro c h3 h4
      have hc : c < C := by rw [← la]; exact h3
      have := h r c hr hc
      unfold at2 at this
      rw [ea, eb] at this
      simpa [List.getD, List.getElem?_eq_getElem h3, List.getElem?_eq_getElem h4] using this

/-- another sign in one cell -/
def put (b : Brd) (r c s : Nat) : Brd := b.set r ((b.getD r []).set c s)
theorem put_length (b : Brd) (r c s : Nat) : (put b r c s).length = b.length := by simp [put]
theorem put_row {b : Brd} {r c s : Nat} (hr : r < b.length) (r' : Nat) : (put b r c s).getD r' [] = if r' = r then (b.getD r []).set c s else b.getD r' [] := by
  unfold put
  simp only [List.getD_eq_getElem?_getD, List.getElem?_set]
  by_cases h : r = r'
  · subst h; simp [hr]
  · rw [if_neg h, if_neg (fun e => h e.symm)]
theorem put_at {R C : Nat} {b : Brd} {r c s : Nat} (h : Rect R C b) (hr : r < R) (hc : c < C) (r' c' : Nat) : at2 (put b r c s) r' c' = if r' = r ∧ c' = c then s else at2 b r' c' := by
  unfold at2
  rw [put_row (by rw [h.rows]; exact hr)]
  by_cases e : r' = r
  · subst e
    rw [if_pos rfl]
    simp only [List.getD_eq_getElem?_getD, List.getElem?_set]
    have hl := h.line r' hr
    simp only [List.getD_eq_getElem?_getD] at hl
    by_cases e2 : c = c'
    · subst e2
      simp [hl, hc]
    · rw [if_neg e2, if_neg (fun z => e2 z.2.symm)]
  · rw [if_neg e, if_neg (fun z => e z.1)]
theorem Rect.put {R C : Nat} {b : Brd} {r c s : Nat} (h : Rect R C b) (hr : r < R) (hc : c < C) (hs : isSign s) : Rect R C (put b r c s) := by
  refine ⟨by rw [put_length, h.rows], fun r' hr' => ?_, fun r' c' hr' hc' => ?_⟩
  · rw [put_row (by rw [h.rows]; exact hr)]
    by_cases e : r' = r
    · rw [if_pos e, List.length_set]; exact h.line r hr
    · rw [if_neg e]; exact h.line r' hr'
  · rw [put_at h hr hc]
    by_cases e : r' = r ∧ c' = c
    · rw [if_pos e]; exact hs
    · rw [if_neg e]; exact h.sign r' c' hr' hc'

/-! ### steps -/
def cellSteps (R r c s : Nat) : List (Nat × Nat) := (if s = 62 ∨ s = 120 then [(r, R + c)] else []) ++ (if s = 60 ∨ s = 120 then [(R + c, r)] else [])
def rowSteps (b : Brd) (r n : Nat) : List (Nat × Nat) := (List.range n).flatMap fun c => cellSteps b.length r c (at2 b r c)
def rawTo (b : Brd) (n : Nat) : List (Nat × Nat) := (List.range n).flatMap fun r => rowSteps b r (cols b)
def raw (b : Brd) : List (Nat × Nat) := rawTo b b.length
theorem rowSteps_succ (b : Brd) (r n : Nat) : rowSteps b r (n + 1) = rowSteps b r n ++ cellSteps b.length r n (at2 b r n) := by
  simp [rowSteps, List.range_succ]
theorem rawTo_succ (b : Brd) (n : Nat) : rawTo b (n + 1) = rawTo b n ++ rowSteps b n (cols b) := by
  simp [rawTo, List.range_succ]
theorem cellSteps_len (R r c s : Nat) : (cellSteps R r c s).length ≤ 2 := by
  unfold cellSteps; split <;> split <;> simp
theorem rowSteps_len (b : Brd) (r n : Nat) : (rowSteps b r n).length ≤ 2 * n := by
  induction n with
  | zero => simp [rowSteps]
  | succ n ih => rw [rowSteps_succ, List.length_append]; have := cellSteps_len b.length r n (at2 b r n); omega
theorem rawTo_len (b : Brd) (n : Nat) : (rawTo b n).length ≤ 2 * cols b * n := by
  induction n with
  | zero => simp [rawTo]
  | succ n ih => rw [rawTo_succ, List.length_append]; have := rowSteps_len b n (cols b); rw [Nat.mul_succ]; omega

/-- from the one thread to the other goes a step -/
def Stp (b : Brd) (x y : Nat) : Prop := (x, y) ∈ raw b
theorem stp_iff {R C : Nat} {b : Brd} (h : Rect R C b) (hR : 0 < R) {x y : Nat} : Stp b x y ↔ ∃ r c, r < R ∧ c < C ∧ (((at2 b r c = 62 ∨ at2 b r c = 120) ∧ x = r ∧ y = R + c) ∨ ((at2 b r c = 60 ∨ at2 b r c = 120) ∧ x = R + c ∧ y = r)) := by
  unfold Stp raw rawTo rowSteps
  rw [h.rows, h.cols hR]
  simp only [List.mem_flatMap, List.mem_range]
  constructor
  · rintro ⟨r, hr, c, hc, hm⟩
    refine ⟨r, c, hr, hc, ?_⟩
    unfold cellSteps at hm
    rcases List.mem_append.mp hm with q | q
    · split at q
      · rename_i hs
        simp only [List.mem_singleton, Prod.mk.injEq] at q
        exact .inl ⟨hs, q.1, q.2⟩
      · simp at q
    · split at q
      · rename_i hs
        simp only [List.mem_singleton, Prod.mk.injEq] at q
        exact .inr ⟨hs, q.1, q.2⟩
      · simp at q
  · rintro ⟨r, c, hr, hc, q⟩
    refine ⟨r, hr, c, hc, ?_⟩
    unfold cellSteps
    rcases q with ⟨hs, rfl, rfl⟩ | ⟨hs, rfl, rfl⟩
    · rw [if_pos hs]; simp
    · rw [if_pos hs]; simp
theorem stp_lt {R C : Nat} {b : Brd} (h : Rect R C b) (hR : 0 < R) {x y : Nat} (s : Stp b x y) : x < R + C ∧ y < R + C := by
  obtain ⟨r, c, hr, hc, q⟩ := (stp_iff h hR).mp s
  omega

inductive Reach (S : Nat → Nat → Prop) (a : Nat) : Nat → Prop where
  | refl : Reach S a a
  | tail {b c : Nat} : Reach S a b → S b c → Reach S a c
theorem Reach.mono {S T : Nat → Nat → Prop} (h : ∀ x y, S x y → T x y) {a b : Nat} (r : Reach S a b) : Reach T a b := by
  induction r with
  | refl => exact .refl
  | tail _ s ih => exact .tail ih (h _ _ s)
theorem Reach.trans {S : Nat → Nat → Prop} {a b c : Nat} (h1 : Reach S a b) (h2 : Reach S b c) : Reach S a c := by
  induction h2 with
  | refl => exact h1
  | tail _ s ih => exact .tail ih s
/-- a set closed under steps that has the start and holds only what is reached -/
theorem reach_closed {S : Nat → Nat → Prop} {a : Nat} {K : List Nat} (ha : a ∈ K) (hr : ∀ k ∈ K, Reach S a k) (hc : ∀ k ∈ K, ∀ y, S k y → y ∈ K) (y : Nat) : y ∈ K ↔ Reach S a y := by
  refine ⟨hr y, fun r => ?_⟩
  induction r with
  | refl => exact ha
  | tail _ s ih => exact hc _ ih _ s

def Holds (b : Brd) : Prop := ∀ s t, s < many b → t < many b → Reach (Stp b) s t
noncomputable instance instReach (b : Brd) (s t : Nat) : Decidable (Reach (Stp b) s t) := Classical.propDecidable _
noncomputable def leads (b : Brd) (s : Nat) : List Nat := (List.range (many b)).filter fun t => decide (Reach (Stp b) s t)
theorem mem_leads {b : Brd} {s t : Nat} : t ∈ leads b s ↔ t < many b ∧ Reach (Stp b) s t := by
  simp [leads, List.mem_filter]
theorem leads_nodup (b : Brd) (s : Nat) : (leads b s).Nodup := by
  unfold leads
  exact List.Pairwise.filter _ List.nodup_range
theorem leads_lt (b : Brd) (s : Nat) : (leads b s).Pairwise (· < ·) := by
  unfold leads
  exact List.Pairwise.filter _ List.pairwise_lt_range
theorem leads_len (b : Brd) (s : Nat) : (leads b s).length ≤ many b := by
  unfold leads
  exact Nat.le_trans (List.length_filter_le _ _) (by simp)

/-- a sorted list (of ints) with the members of another one -/
theorem sorted_leads {b : Brd} {s : Nat} {K : List Nat} {ns : List Int} (hp : ns.Perm (K.map Int.ofNat)) (hs : ns.Pairwise (· ≤ ·)) (hn : K.Nodup) (hm : ∀ y, y ∈ K ↔ y < many b ∧ Reach (Stp b) s y) :
    ns = (leads b s).map Int.ofNat := by
  have h1 : K.Perm (leads b s) := (List.perm_ext_iff_of_nodup hn (leads_nodup b s)).mpr fun y => by rw [hm, mem_leads]
  have h2 : ns.Perm ((leads b s).map Int.ofNat) := hp.trans (h1.map _)
  refine List.Perm.eq_of_pairwise (le := (· ≤ ·)) (fun a b _ _ h h' => Int.le_antisymm h h') hs ?_ h2
  rw [List.pairwise_map]
  exact (leads_lt b s).imp fun h => Int.ofNat_le.mpr (Nat.le_of_lt h)

theorem filter_all_len {α : Type} {p : α → Bool} : ∀ {l : List α}, (l.filter p).length = l.length → ∀ x ∈ l, p x = true
  | [], _, x, hx => by simp at hx
  | a :: l, h, x, hx => by
    by_cases hp : p a = true
    · rw [List.filter_cons_of_pos hp, List.length_cons, List.length_cons] at h
      rcases List.mem_cons.mp hx with rfl | hx
      · exact hp
      · exact filter_all_len (by omega) x hx
    · rw [List.filter_cons_of_neg hp, List.length_cons] at h
      have := List.length_filter_le p l
      omega
theorem holds_iff_len {b : Brd} : Holds b ↔ ∀ s, s < many b → ¬ (leads b s).length < many b := by
  constructor
  · intro h s hs hl
    have e : leads b s = List.range (many b) := by
      unfold leads
      rw [List.filter_eq_self]
      intro t ht
      exact decide_eq_true (h s t hs (List.mem_range.mp ht))
    rw [e, List.length_range] at hl
    omega
  · intro h s t hs ht
    have hl : (leads b s).length = many b := by have := leads_len b s; have := h s hs; omega
    unfold leads at hl
    have := filter_all_len (l := List.range (many b)) (by rw [hl, List.length_range]) t (List.mem_range.mpr ht)
    exact of_decide_eq_true this

/-! ### parts -/
/-- the threads of one part with s -/
noncomputable def part (b : Brd) (s : Nat) : List Nat := (leads b s).filter fun t => decide (s ∈ leads b t)
theorem mem_part {b : Brd} {s t : Nat} (hs : s < many b) : t ∈ part b s ↔ t < many b ∧ Reach (Stp b) s t ∧ Reach (Stp b) t s := by
  unfold part
  rw [List.mem_filter, mem_leads]
  simp only [decide_eq_true_eq, mem_leads]
  constructor
  · rintro ⟨⟨a, b⟩, _, c⟩; exact ⟨a, b, c⟩
  · rintro ⟨a, b, c⟩; exact ⟨⟨a, b⟩, hs, c⟩
/-- a list of unlike parts, all that there are: it is one just if the board holds -/
theorem holds_iff_parts {b : Brd} (h0 : 0 < many b) {K : List (List Nat)} (hn : K.Nodup) (hm : ∀ k, k ∈ K ↔ ∃ s, s < many b ∧ k = part b s) : K.length = 1 ↔ Holds b := by
  constructor
  · intro h1 s t hs ht
    obtain ⟨k, rfl⟩ : ∃ k, K = [k] := by
      match K, h1 with
      | [k], _ => exact ⟨k, rfl⟩
    have e1 : part b s = k := by simpa using (hm (part b s)).mpr ⟨s, hs, rfl⟩
    have e2 : part b t = k := by simpa using (hm (part b t)).mpr ⟨t, ht, rfl⟩
    have : t ∈ part b s := by rw [e1, ← e2]; exact (mem_part ht).mpr ⟨ht, .refl, .refl⟩
    exact ((mem_part hs).mp this).2.1
  · intro h
    have e : ∀ s, s < many b → part b s = part b 0 := by
      intro s hs
      have full : ∀ s, s < many b → part b s = List.range (many b) := by
        intro s hs
        unfold part leads
        rw [List.filter_filter, List.filter_eq_self]
        intro t ht
        have ht := List.mem_range.mp ht
        have q := h t s ht hs
        have q2 := h s t hs ht
        simp only [Bool.and_eq_true, decide_eq_true_eq]
        exact ⟨List.mem_filter.mpr ⟨List.mem_range.mpr hs, decide_eq_true q⟩, q2⟩
      rw [full s hs, full 0 h0]
    have h1 : ∀ k ∈ K, k = part b 0 := by
      intro k hk
      obtain ⟨s, hs, rfl⟩ := (hm k).mp hk
      exact e s hs
    have h2 : part b 0 ∈ K := (hm _).mpr ⟨0, h0, rfl⟩
    match K, hn, h1, h2 with
    | [k], _, _, _ => rfl
    | a :: c :: l, hn, h1, _ =>
      have e1 := h1 a (by simp)
      have e2 := h1 c (by simp)
      have := (List.nodup_cons.mp hn).1
      rw [e1, e2] at this
      simp at this
/-- more steps: it holds all the more -/
theorem Holds.mono {a b : Brd} (hm : many a = many b) (h : ∀ x y, Stp a x y → Stp b x y) (ha : Holds a) : Holds b := fun s t hs ht =>
  (ha s t (by rw [hm]; exact hs) (by rw [hm]; exact ht)).mono h
end Wv
end
section
set_option Elab.async false
set_option linter.all false
set_option maxRecDepth 100000
set_option maxHeartbeats 4000000
/-! What a reading gives, told as data: slots, values, tests, calls. -/
namespace Wx
open PySem L2 Wv
open Evl (Ex ex_rd ex_l ex_t sq_of st_of fresh_back)
abbrev St := L2.St

/-! ### data -/
def toS (l : List Nat) : Str := ⟨l.toArray⟩
theorem toS_len (l : List Nat) : (toS l).length = l.length := by show l.toArray.size = _; simp
theorem toS_cps (l : List Nat) : (toS l).cps.toList = l := by simp [toS]
theorem toS_inj {a b : List Nat} (h : toS a = toS b) : a = b := by
  have := congrArg (fun s : Str => s.cps.toList) h
  simpa [toS] using this
def txtK (l : List Nat) : NK := .text (toS l)
def brdK (b : Brd) : NK := .tup (b.map txtK)
def numK (n : Nat) : NK := .num (n : Int)
def numsK (p : List Nat) : NK := .tup (p.map numK)
def pairK (p : Nat × Nat) : NK := .tup [numK p.1, numK p.2]
theorem datas_map (ks : List NK) : NestedKey.datas ks = ks.map NestedKey.data := by
  induction ks with
  | nil => rfl
  | cons a b ih => rw [NestedKey.datas, ih]; rfl
/-- a list (of Python) of data -/
def lsD (ks : List NK) : PyData := .list (NestedKey.datas ks)

/-! ### a slot's word -/
inductive Sl where
  | un
  | val (v : V)
  | dat (k : NK)
  | old (H0 : Hp) (d : PyData)
  | brd (H0 : Hp) (b : Brd)
def BrdAt (K : PySem.W.Frag) (C : Addr) (H : Hp) (v : V) (b : Brd) : Prop := ∃ a dx t, v = .ref a ∧ H a = some (.ins C dx [("table", t)]) ∧ Dp K H t (brdK b).data
def VOk (K : PySem.W.Frag) (C : Addr) (H : Hp) (v : V) : Sl → Prop
  | .un => True
  | .val w => v = w
  | .dat k => Dp K H v k.data
  | .old H0 d => Dp K H0 v d
  | .brd H0 b => BrdAt K C H0 v b
def SOk (K : PySem.W.Frag) (C : Addr) (H : Hp) (o : Option V) : Sl → Prop
  | .un => True
  | .val w => o = some w
  | .dat k => ∃ v, o = some v ∧ Dp K H v k.data
  | .old H0 d => ∃ v, o = some v ∧ Dp K H0 v d
  | .brd H0 b => ∃ v, o = some v ∧ BrdAt K C H0 v b
structure SD (K : PySem.W.Frag) (C : Addr) (H : Hp) (σ : St) (e : List Sl) : Prop where
  p : Paired (SOk K C H) σ e

section
variable {K : PySem.W.Frag} {C : Addr} {H H' H1 : Hp} {σ : St} {e : List Sl}
theorem ex_tx (x : Ex H H') : Tx H H' := fun _ _ h => ex_rd x h
mutual
theorem Dp.ex (x : Ex H H') : ∀ (d : PyData) (v : V), Dp K H v d → Dp K H' v d
  | .none, _, h => by cases h; exact .non
  | .bool _, _, h => by cases h; exact .bl _
  | .int _, _, h => by cases h; exact .int _
  | .str _, _, h => by cases h; exact .str _
  | .list ds, _, h => by
    cases h with
    | lst hs ha => exact .lst (ex_l x hs) (DpAll.ex x ds _ ha)
  | .tuple ds, _, h => by
    cases h with
    | tup hs ha => exact .tup (ex_t x hs) (DpAll.ex x ds _ ha)
  | .dict _, _, h => by cases h
theorem DpAll.ex (x : Ex H H') : ∀ (ds : List PyData) (vs : List V), DpAll K H vs ds → DpAll K H' vs ds
  | [], _, h => by cases h; exact .nil
  | d :: ds, _, h => by
    cases h with
    | cons h1 h2 => exact .cons (Dp.ex x d _ h1) (DpAll.ex x ds _ h2)
end
theorem BrdAt.ex {v : V} {b : Brd} (x : Ex H H') (h : BrdAt K C H v b) : BrdAt K C H' v b := by
  obtain ⟨a, dx, t, h1, h2, h3⟩ := h
  exact ⟨a, dx, t, h1, x _ _ h2, Dp.ex x _ _ h3⟩
theorem VOk.tx {v : V} {s : Sl} (x : Tx H H') (h : VOk K C H v s) : VOk K C H' v s := by
  cases s with
  | dat k => exact Dp.tx x _ _ h
  | un => exact h
  | val w => exact h
  | old _ _ => exact h
  | brd _ _ => exact h
theorem VOk.ex {v : V} {s : Sl} (x : Ex H H') (h : VOk K C H v s) : VOk K C H' v s := h.tx (ex_tx x)
theorem VOk.s {v : V} {s : Sl} (h : VOk K C H v s) : SOk K C H (some v) s := by
  cases s with
  | un => exact h
  | val w => exact congrArg some h
  | dat k => exact ⟨v, rfl, h⟩
  | old _ _ => exact ⟨v, rfl, h⟩
  | brd _ _ => exact ⟨v, rfl, h⟩
theorem SOk.tx {o : Option V} {s : Sl} (x : Tx H H') (h : SOk K C H o s) : SOk K C H' o s := by
  cases s with
  | dat k => obtain ⟨v, e, h⟩ := h; exact ⟨v, e, Dp.tx x _ _ h⟩
  | un => exact h
  | val w => exact h
  | old _ _ => exact h
  | brd _ _ => exact h
theorem SD.tx (x : Tx H H') (h : SD K C H σ e) : SD K C H' σ e := ⟨Paired.mapP h.p fun _ _ z => z.tx x⟩
theorem SD.ex (x : Ex H H') (h : SD K C H σ e) : SD K C H' σ e := h.tx (ex_tx x)
theorem SD.set (h : SD K C H σ e) {i : Nat} {o : Option V} {s : Sl} (ho : SOk K C H o s) : SD K C H (σ.set i o) (e.set i s) := by
  obtain ⟨h⟩ := h
  refine ⟨?_⟩
  induction h generalizing i with
  | nil => exact .nil
  | cons a b ih =>
    cases i with
    | zero => exact .cons ho b
    | succ i => exact .cons a ih
theorem SD.get (h : SD K C H σ e) {i : Nat} {s : Sl} (hi : e[i]? = some s) : ∃ o, σ[i]? = some o ∧ SOk K C H o s := by
  obtain ⟨h⟩ := h
  induction h generalizing i with
  | nil => simp at hi
  | @cons a b as bs h1 h2 ih =>
    cases i with
    | zero => cases (Option.some.inj hi : b = s); exact ⟨a, rfl, h1⟩
    | succ i => exact ih (i := i) (by simpa using hi)
theorem SD.at (h : SD K C H σ e) {i : Nat} {s : Sl} (hi : e[i]? = some s) (hs : s ≠ .un) : ∃ v, σ[i]? = some (some v) ∧ VOk K C H v s := by
  obtain ⟨o, h1, h2⟩ := h.get hi
  cases s with
  | un => exact absurd rfl hs
  | val w =>
    have e : o = some w := h2
    subst e
    exact ⟨w, h1, rfl⟩
  | dat k => obtain ⟨v, e, h⟩ := h2; subst e; exact ⟨v, h1, h⟩
  | old _ _ => obtain ⟨v, e, h⟩ := h2; subst e; exact ⟨v, h1, h⟩
  | brd _ _ => obtain ⟨v, e, h⟩ := h2; subst e; exact ⟨v, h1, h⟩
def wipeE (e : List Sl) : List Nat → List Sl
  | [] => e
  | v :: vs => (wipeE e vs).set v .un
theorem SD.wipe (h : SD K C H σ e) : ∀ vs, SD K C H (wipe σ vs) (wipeE e vs)
  | [] => h
  | v :: vs => (SD.wipe h vs).set (o := none) trivial
theorem wipe_comm (σ : St) (j : Nat) (x : Option V) : ∀ vs : List Nat, j ∉ vs → wipe (σ.set j x) vs = (wipe σ vs).set j x
  | [], _ => rfl
  | v :: vs, h => by
    rw [List.mem_cons, not_or] at h
    show (wipe (σ.set j x) vs).set v none = ((wipe σ vs).set v none).set j x
    rw [wipe_comm σ j x vs h.2, List.set_comm _ _ h.1]
theorem wipe_set {σ : St} {j : Nat} {x : Option V} : ∀ {vs : List Nat}, j ∈ vs → wipe (σ.set j x) vs = wipe σ vs
  | v :: vs, h => by
    show (wipe (σ.set j x) vs).set v none = (wipe σ vs).set v none
    by_cases e : j = v
    · subst e
      by_cases m : j ∈ vs
      · rw [wipe_set m]
      · rw [wipe_comm σ j x vs m, List.set_set]
    · rw [wipe_set ((List.mem_cons.mp h).resolve_left e)]
theorem wipe_none (σ : St) : ∀ (vs : List Nat) (j : Nat), j ∈ vs → (wipe σ vs).set j none = wipe σ vs
  | v :: vs, j, h => by
    show ((wipe σ vs).set v none).set j none = (wipe σ vs).set v none
    by_cases e : j = v
    · subst e; rw [List.set_set]
    · rw [List.set_comm _ _ (fun z => e z.symm), wipe_none σ vs j ((List.mem_cons.mp h).resolve_left e)]
theorem wipe_sub (σ : St) (vs : List Nat) : ∀ ws : List Nat, (∀ j ∈ ws, j ∈ vs) → wipe (wipe σ vs) ws = wipe σ vs
  | [], _ => rfl
  | w :: ws, h => by
    show (wipe (wipe σ vs) ws).set w none = _
    rw [wipe_sub σ vs ws fun j hj => h j (by simp [hj]), wipe_none σ vs w (h w (by simp))]
theorem wipe_wipe (σ : St) (vs : List Nat) : wipe (wipe σ vs) vs = wipe σ vs := wipe_sub σ vs vs fun _ h => h
theorem wipe_one {σ : St} {j : Nat} {x : Option V} {vs : List Nat} (h : j ∈ vs) : wipe ((wipe σ vs).set j x) vs = wipe σ vs := by rw [wipe_set h, wipe_wipe]
theorem wipe_two {σ : St} {i j : Nat} {x y : Option V} {vs : List Nat} (hi : i ∈ vs) (hj : j ∈ vs) : wipe (((wipe σ vs).set i x).set j y) vs = wipe σ vs := by rw [wipe_set hj, wipe_set hi, wipe_wipe]
end

/-! ### what an expression gives -/
/-- te gives a value of which P holds, the heap grown at the most -/
def Ev1 (te : TE) (σ : St) (H : Hp) (P : V → Hp → Prop) : Prop := ∀ H1, Ex H H1 → ∀ Q : VK, (∀ v H2, Ex H1 H2 → P v H2 → Q v H2) → te σ H1 Q
abbrev EvK (K : PySem.W.Frag) (te : TE) (σ : St) (H : Hp) (k : NK) : Prop := Ev1 te σ H fun v H2 => Dp K H2 v k.data
abbrev EvV (te : TE) (σ : St) (H : Hp) (v : V) : Prop := Ev1 te σ H fun u _ => u = v
abbrev EvT (tt : TT) (σ : St) (H : Hp) (b : Bool) : Prop := Evl.EvT tt σ H b
/-- arguments -/
def EvA (K : PySem.W.Frag) (C : Addr) (ta : TA) (σ : St) (H : Hp) (as : List Sl) : Prop := ∀ H1, Ex H H1 → ∀ Q : List V → Hp → Prop, (∀ vs H2, Ex H1 H2 → Paired (VOk K C H2) vs as → Q vs H2) → ta σ H1 Q
/-- a relation of values: two-place operators -/
def RV2 (r : R2) (x y : V) (H : Hp) (P : V → Hp → Prop) : Prop := ∀ Q : VK, (∀ v H2, Ex H H2 → P v H2 → Q v H2) → r x y H Q
section
variable {K : PySem.W.Frag} {C : Addr} {H H' H0 : Hp} {σ : St} {e : List Sl} {ta tb te : TE} {t u : TT} {P Pa Pb : V → Hp → Prop} {v : V} {k : NK} {i j : Int} {b : Bool}
theorem Ev1.mono {P' : V → Hp → Prop} (h : Ev1 te σ H P) (m : ∀ v H2, Ex H H2 → P v H2 → P' v H2) : Ev1 te σ H P' := fun H1 x Q q => h H1 x Q fun v H2 x2 p => q v H2 x2 (m v H2 (x.trans x2) p)
theorem Ev1.ex (x : Ex H H') (h : Ev1 te σ H P) : Ev1 te σ H' P := fun H1 x1 => h H1 (x.trans x1)
theorem e1_var (sd : SD K C H σ e) {n : Nat} {s : Sl} (h : e[n]? = some s) (hs : s ≠ .un := by intro z; cases z) : Ev1 (tVar n) σ H fun v H2 => VOk K C H2 v s := fun H1 x Q q => by
  obtain ⟨v, h1, h2⟩ := sd.at h hs
  exact ⟨v, h1, q v H1 (Evl.Ex.refl _) (h2.ex x)⟩
theorem ek_var (sd : SD K C H σ e) {n : Nat} (h : e[n]? = some (.dat k)) : EvK K (tVar n) σ H k := e1_var sd h
theorem ev_var (sd : SD K C H σ e) {n : Nat} (h : e[n]? = some (.val v)) : EvV (tVar n) σ H v := e1_var sd h
theorem eo_var (sd : SD K C H σ e) {n : Nat} {d : PyData} (h : e[n]? = some (.old H0 d)) : Ev1 (tVar n) σ H fun v _ => Dp K H0 v d := e1_var sd h
theorem eb_var (sd : SD K C H σ e) {n : Nat} {b : Brd} (h : e[n]? = some (.brd H0 b)) : Ev1 (tVar n) σ H fun v _ => BrdAt K C H0 v b := e1_var sd h
theorem ev_c : EvV (tC v) σ H v := fun H1 _ _ q => q v H1 (Evl.Ex.refl _) rfl
theorem ek_int : EvK K (tC (.int i)) σ H (.num i) := fun H1 _ _ q => q _ H1 (Evl.Ex.refl _) (.int i)
theorem ek_str {x : Str} : EvK K (tC (.str x)) σ H (.text x) := fun H1 _ _ q => q _ H1 (Evl.Ex.refl _) (.str x)
theorem ek_non : EvK K (tC .non) σ H .none := fun H1 _ _ q => q _ H1 (Evl.Ex.refl _) .non
/-- numbers, texts: data or the value itself -/
theorem EvV.k_int (h : EvV te σ H (.int i)) : EvK K te σ H (.num i) := h.mono fun _ _ _ z => by subst z; exact .int i
theorem EvV.k_str {x : Str} (h : EvV te σ H (.str x)) : EvK K te σ H (.text x) := h.mono fun _ _ _ z => by subst z; exact .str x
theorem EvV.k_non (h : EvV te σ H .non) : EvK K te σ H .none := h.mono fun _ _ _ z => by subst z; exact .non
theorem dp_int {v : V} (h : Dp K H v (NestedKey.num i).data) : v = .int i := by cases h; rfl
theorem dp_str {v : V} {x : Str} (h : Dp K H v (NestedKey.text x).data) : v = .str x := by cases h; rfl
theorem dp_non {v : V} (h : Dp K H v NestedKey.none.data) : v = .non := by cases h; rfl
theorem EvK.v_int (h : EvK K te σ H (.num i)) : EvV te σ H (.int i) := h.mono fun _ _ _ z => dp_int z
theorem EvK.v_str {x : Str} (h : EvK K te σ H (.text x)) : EvV te σ H (.str x) := h.mono fun _ _ _ z => dp_str z
theorem EvK.v_non (h : EvK K te σ H .none) : EvV te σ H .non := h.mono fun _ _ _ z => dp_non z
theorem EvV.up (h : EvV te σ H v) : Evl.Ev te σ H v := fun H1 x Q q => h H1 x Q fun u H2 x2 z => by subst z; exact q H2 x2
theorem evv (h : Evl.Ev te σ H v) : EvV te σ H v := fun H1 x Q q => h H1 x Q fun H2 x2 => q _ H2 x2 rfl

/-! ### operators -/
theorem e1_op {r : R2} (ha : Ev1 ta σ H Pa) (hb : Ev1 tb σ H Pb) (hr : ∀ x y H1 H2, Ex H H1 → Ex H1 H2 → Pa x H1 → Pb y H2 → RV2 r x y H2 P) : Ev1 (tOp r ta tb) σ H P := fun H1 x Q q =>
  ha H1 x _ fun v H2 x2 p => hb H2 (x.trans x2) _ fun u H3 x3 p2 => hr v u H2 H3 (x.trans x2) x3 p p2 Q fun z H4 x4 p4 => q z H4 ((x2.trans x3).trans x4) p4
theorem ev_op {r : R2} {x y z : V} (ha : EvV ta σ H x) (hb : EvV tb σ H y) (hr : ∀ (H1 : Hp) (Q : VK), Q z H1 → r x y H1 Q) : EvV (tOp r ta tb) σ H z :=
  e1_op ha hb fun _ _ _ H2 _ _ p1 p2 Q q => by subst p1 p2; exact hr H2 Q (q z H2 (Evl.Ex.refl _) rfl)
theorem ek_ii {g : Int → Int → Int} (ha : EvK K ta σ H (.num i)) (hb : EvK K tb σ H (.num j)) : EvK K (tOp (rI0 fun i j => .int (g i j)) ta tb) σ H (.num (g i j)) :=
  EvV.k_int (ev_op ha.v_int hb.v_int fun _ _ q => ⟨i, j, rfl, rfl, q⟩)
theorem ek_iic {Cn : Int → Int → Prop} {g : Int → Int → Int} (ha : EvK K ta σ H (.num i)) (hb : EvK K tb σ H (.num j)) (hc : Cn i j) : EvK K (tOp (rI Cn fun i j => .int (g i j)) ta tb) σ H (.num (g i j)) :=
  EvV.k_int (ev_op ha.v_int hb.v_int fun _ _ q => ⟨i, j, rfl, rfl, hc, q⟩)
theorem eb_ii {g : Int → Int → Bool} (ha : EvK K ta σ H (.num i)) (hb : EvK K tb σ H (.num j)) : EvV (tOp (rI0 fun i j => .bl (g i j)) ta tb) σ H (.bl (g i j)) :=
  ev_op ha.v_int hb.v_int fun _ _ q => ⟨i, j, rfl, rfl, q⟩
theorem eb_eq {x y : V} (ha : EvV ta σ H x) (hb : EvV tb σ H y) (hs : scal x y = true) : EvV (tOp rEq ta tb) σ H (.bl (decide (x = y))) := ev_op ha hb fun _ _ q => ⟨hs, q⟩
theorem eb_ne {x y : V} (ha : EvV ta σ H x) (hb : EvV tb σ H y) (hs : scal x y = true) : EvV (tOp rNe ta tb) σ H (.bl (!decide (x = y))) := ev_op ha hb fun _ _ q => ⟨hs, q⟩
theorem eb_eqI (ha : EvK K ta σ H (.num i)) (hb : EvK K tb σ H (.num j)) : EvV (tOp rEq ta tb) σ H (.bl (decide (i = j))) := by
  have := eb_eq ha.v_int hb.v_int rfl
  have e : decide (V.int i = V.int j) = decide (i = j) := by
    by_cases h : i = j
    · subst h; simp
    · rw [decide_eq_false h, decide_eq_false fun z => h (V.int.inj z)]
  rw [e] at this
  exact this
theorem eb_eqS {x y : Str} (ha : EvK K ta σ H (.text x)) (hb : EvK K tb σ H (.text y)) : EvV (tOp rEq ta tb) σ H (.bl (decide (x = y))) := by
  have := eb_eq ha.v_str hb.v_str rfl
  have e : decide (V.str x = V.str y) = decide (x = y) := by
    by_cases h : x = y
    · subst h; simp
    · rw [decide_eq_false h, decide_eq_false fun z => h (V.str.inj z)]
  rw [e] at this
  exact this
theorem eb_neB {x y : Bool} (ha : EvV ta σ H (.bl x)) (hb : EvV tb σ H (.bl y)) : EvV (tOp rNe ta tb) σ H (.bl (x != y)) := by
  have := eb_ne ha hb rfl
  have e : (!decide (V.bl x = V.bl y)) = (x != y) := by cases x <;> cases y <;> decide
  rw [e] at this
  exact this
theorem eb_isN (ha : EvV ta σ H v) : EvV (tOp (fun x y H Q => y = .non ∧ Q (.bl (decide (x = .non))) H) ta (tC .non)) σ H (.bl (decide (v = .non))) := ev_op ha ev_c fun _ _ q => ⟨rfl, q⟩
theorem e1_isN (hn : Bool) (ha : Ev1 ta σ H P) (h : ∀ v H2, P v H2 → decide (v = .non) = hn) : EvV (tOp (fun x y H Q => y = .non ∧ Q (.bl (decide (x = .non))) H) ta (tC .non)) σ H (.bl hn) :=
  e1_op ha (ev_c (v := .non)) fun x y H1 H2 _ x2 p p2 Q q => ⟨p2, q _ H2 (Evl.Ex.refl _) (by rw [h x H1 p])⟩
theorem e1_notN (hn : Bool) (ha : Ev1 ta σ H P) (h : ∀ v H2, P v H2 → (!decide (v = .non)) = hn) : EvV (tOp (fun x y H Q => y = .non ∧ Q (.bl (!decide (x = .non))) H) ta (tC .non)) σ H (.bl hn) :=
  e1_op ha (ev_c (v := .non)) fun x y H1 H2 _ x2 p p2 Q q => ⟨p2, q _ H2 (Evl.Ex.refl _) (by rw [h x H1 p])⟩
/-- == and != of data -/
theorem eb_eqD {d d' : PyData} (ha : Ev1 ta σ H fun v H2 => Dp K H2 v d) (hb : Ev1 tb σ H fun v H2 => Dp K H2 v d') (h1 : SeqAt.shaped d = true) (h2 : SeqAt.shaped d' = true) : EvV (tOp (rEqD K) ta tb) σ H (.bl (PyData.eqv d d')) :=
  e1_op ha hb fun x y H1 H2 _ x2 p p2 Q q => ⟨d, d', Dp.ex x2 _ _ p, p2, h1, h2, q _ H2 (Evl.Ex.refl _) rfl⟩
theorem eb_neD {d d' : PyData} (ha : Ev1 ta σ H fun v H2 => Dp K H2 v d) (hb : Ev1 tb σ H fun v H2 => Dp K H2 v d') (h1 : SeqAt.shaped d = true) (h2 : SeqAt.shaped d' = true) : EvV (tOp (rNeD K) ta tb) σ H (.bl (!PyData.eqv d d')) :=
  e1_op ha hb fun x y H1 H2 _ x2 p p2 Q q => ⟨d, d', Dp.ex x2 _ _ p, p2, h1, h2, q _ H2 (Evl.Ex.refl _) rfl⟩

/-! ### subscripts, slices -/
theorem dpAll_get : ∀ {ks : List PyData} {vs : List V} {n : Nat} {d : PyData}, DpAll K H vs ks → ks[n]? = some d → ∃ v, vs[n]? = some v ∧ Dp K H v d
  | _, _, 0, _, .cons h _, e => by cases (Option.some.inj e); exact ⟨_, rfl, h⟩
  | _, _, n + 1, _, .cons _ t, e => by
    obtain ⟨v, h1, h2⟩ := dpAll_get (n := n) t (by simpa using e)
    exact ⟨v, by simpa using h1, h2⟩
  | _, _, n, _, .nil, e => nomatch n, e
theorem dpAll_len : ∀ {ks : List PyData} {vs : List V}, DpAll K H vs ks → vs.length = ks.length
  | _, _, .nil => rfl
  | _, _, .cons _ t => by rw [List.length_cons, List.length_cons, dpAll_len t]
theorem dpAll_app : ∀ {ks ks' : List PyData} {vs vs' : List V}, DpAll K H vs ks → DpAll K H vs' ks' → DpAll K H (vs ++ vs') (ks ++ ks')
  | _, _, _, _, .nil, h => h
  | _, _, _, _, .cons h t, h' => .cons h (dpAll_app t h')
theorem dpAll_take : ∀ {ks : List PyData} {vs : List V} (n : Nat), DpAll K H vs ks → DpAll K H (vs.take n) (ks.take n)
  | _, _, 0, _ => by rw [List.take_zero, List.take_zero]; exact .nil
  | _, _, n + 1, .nil => by rw [List.take_nil, List.take_nil]; exact .nil
  | _, _, n + 1, .cons h t => by rw [List.take_succ_cons, List.take_succ_cons]; exact .cons h (dpAll_take n t)
theorem dpAll_drop : ∀ {ks : List PyData} {vs : List V} (n : Nat), DpAll K H vs ks → DpAll K H (vs.drop n) (ks.drop n)
  | _, _, 0, h => h
  | _, _, n + 1, .nil => by rw [List.drop_nil, List.drop_nil]; exact .nil
  | _, _, n + 1, .cons _ t => dpAll_drop n t
theorem datas_len (ks : List NK) : (NestedKey.datas ks).length = ks.length := by rw [datas_map, List.length_map]
theorem datas_get {ks : List NK} {n : Nat} {k : NK} (h : ks[n]? = some k) : (NestedKey.datas ks)[n]? = some k.data := by rw [datas_map, List.getElem?_map, h]; rfl
theorem datas_app (a b : List NK) : NestedKey.datas (a ++ b) = NestedKey.datas a ++ NestedKey.datas b := by rw [datas_map, datas_map, datas_map, List.map_append]
theorem datas_take (a : List NK) (n : Nat) : NestedKey.datas (a.take n) = (NestedKey.datas a).take n := by rw [datas_map, datas_map, List.map_take]
theorem datas_drop (a : List NK) (n : Nat) : NestedKey.datas (a.drop n) = (NestedKey.datas a).drop n := by rw [datas_map, datas_map, List.map_drop]
theorem dp_tup {v : V} {ks : List NK} (h : Dp K H v (NestedKey.tup ks).data) : ∃ a xs, v = .ref a ∧ SqT K H a xs ∧ DpAll K H xs (NestedKey.datas ks) := by
  cases h with
  | tup hs ha => exact ⟨_, _, rfl, hs, ha⟩
/-- t[n] -/
theorem ek_ixT {ks : List NK} {n : Nat} (ha : EvK K ta σ H (.tup ks)) (hb : EvK K tb σ H (.num (n : Int))) (hn : ks[n]? = some k) : EvK K (tOp (rIxT K) ta tb) σ H k :=
  e1_op ha hb fun x y H1 H2 _ x2 p p2 Q q => by
    obtain ⟨a, xs, rfl, hs, hd⟩ := dp_tup p
    obtain ⟨v, hv, hk⟩ := dpAll_get hd (datas_get hn)
    exact ⟨a, xs, (n : Int), v, rfl, dp_int p2, ex_t x2 hs, atI_nat hv, q v H2 (Evl.Ex.refl _) (Dp.ex x2 _ _ hk)⟩
/-- a text's n-th sign -/
theorem ek_ixS {l : List Nat} {n c : Nat} (ha : EvK K ta σ H (txtK l)) (hb : EvK K tb σ H (.num (n : Int))) (hn : l[n]? = some c) (hl : l.length ≤ 1000) : EvK K (tOp rIxS ta tb) σ H (txtK [c]) :=
  EvV.k_str (ev_op (EvK.v_str ha) hb.v_int fun H1 Q q => ⟨toS l, (n : Int), c, rfl, rfl, by rw [toS_len, sizeLine_eq]; omega, atI_nat (by rw [toS_cps]; exact hn), q⟩)
/-- list[n], the list as it stood -/
theorem e1_ixL {ds : List PyData} {n : Nat} {d : PyData} (ha : Ev1 ta σ H fun v _ => Dp K H0 v (.list ds)) (hx : Ex H0 H) (hb : EvK K tb σ H (.num (n : Int))) (hn : ds[n]? = some d) : Ev1 (tOp (rIxL K) ta tb) σ H fun v _ => Dp K H0 v d :=
  e1_op ha hb fun x y H1 H2 x1 x2 p p2 Q q => by
    cases p with
    | @lst a xs _ hs hd =>
      obtain ⟨v, hv, hk⟩ := dpAll_get hd hn
      exact ⟨a, xs, (n : Int), v, rfl, dp_int p2, ex_l ((hx.trans x1).trans x2) hs, atI_nat hv, q v H2 (Evl.Ex.refl _) hk⟩
theorem EvO_none : Evl.EvO tNoPart σ H none := fun H1 _ _ q => q H1 (Evl.Ex.refl H1)
theorem EvO_some (h : EvK K te σ H (.num i)) : Evl.EvO (tPart te) σ H (some i) := fun H1 x _ q => h H1 x _ fun v H2 x2 p => ⟨i, dp_int p, q H2 x2⟩
def cutK {α : Type} (xs : List α) (lo hi : Option Int) : List α := (xs.drop (HT.sIx xs.length 0 lo)).take (HT.sIx xs.length xs.length hi - HT.sIx xs.length 0 lo)
theorem ek_slT {ks : List NK} {tl th : TO} {lo hi : Option Int} (ha : EvK K ta σ H (.tup ks)) (h1 : Evl.EvO tl σ H lo) (h2 : Evl.EvO th σ H hi) : EvK K (tSl (rSlA K) ta tl th) σ H (.tup (cutK ks lo hi)) := fun H1 x Q q =>
  ha H1 x _ fun v H2 x2 p => h1 H2 (x.trans x2) _ fun H3 x3 => h2 H3 ((x.trans x2).trans x3) _ fun H4 x4 => by
    obtain ⟨a, xs, rfl, hs, hd⟩ := dp_tup p
    have hl : xs.length = ks.length := by rw [dpAll_len hd, datas_len]
    have hs' := ex_t (x3.trans x4) hs
    have hd' := DpAll.ex (x3.trans x4) _ _ hd
    refine ⟨a, xs, rfl, hs', fun hw => ?_, fun hw p hp => ?_⟩
    · refine q _ H4 ((x2.trans x3).trans x4) (.tup hs' ?_)
      have : cutK ks lo hi = ks := by
        unfold cutK
        rw [hl] at hw
        rw [hw.1, hw.2, List.drop_zero, Nat.sub_zero, List.take_length]
      rw [this]; exact hd'
    · refine q _ _ (((x2.trans x3).trans x4).trans (Evl.Ex.new hp)) (.tup (SqT.of upd_same) ?_)
      show DpAll K _ (cutV xs lo hi) (NestedKey.datas (cutK ks lo hi))
      unfold cutV cutK
      rw [datas_take, datas_drop, hl]
      exact DpAll.ex (Evl.Ex.new hp) _ _ (dpAll_take _ (dpAll_drop _ hd'))
theorem ek_slS {l : List Nat} {tl th : TO} {lo hi : Option Int} (ha : EvK K ta σ H (txtK l)) (h1 : Evl.EvO tl σ H lo) (h2 : Evl.EvO th σ H hi) (hl : l.length ≤ 1000) : EvK K (tSl rSlS ta tl th) σ H (txtK (cutK l lo hi)) := fun H1 x Q q =>
  ha H1 x _ fun v H2 x2 p => h1 H2 (x.trans x2) _ fun H3 x3 => h2 H3 ((x.trans x2).trans x3) _ fun H4 x4 => by
    refine ⟨toS l, dp_str p, by rw [toS_len, sizeLine_eq]; omega, ?_⟩
    have e : cutS (toS l) lo hi = toS (cutK l lo hi) := by
      unfold cutS cutK
      rw [toS_cps, toS_len]; rfl
    rw [e]
    exact q _ H4 ((x2.trans x3).trans x4) (.str _)
theorem cut_to {α : Type} (xs : List α) (n : Nat) : cutK xs none (some (n : Int)) = xs.take n := by
  unfold cutK
  rw [HT.sIx_none, HT.sIx_nat, List.drop_zero, Nat.sub_zero]
  by_cases h : n ≤ xs.length
  · rw [Nat.min_eq_left h]
  · rw [Nat.min_eq_right (by omega), List.take_length, List.take_of_length_le (by omega)]
theorem cut_from {α : Type} (xs : List α) (n : Nat) : cutK xs (some (n : Int)) none = xs.drop n := by
  unfold cutK
  rw [HT.sIx_none, HT.sIx_nat]
  by_cases h : n ≤ xs.length
  · rw [Nat.min_eq_left h, List.take_of_length_le (by rw [List.length_drop]; omega)]
  · rw [Nat.min_eq_right (by omega), List.drop_of_length_le (Nat.le_refl _), List.drop_of_length_le (by omega), List.take_nil]

/-! ### displays, + -/
theorem ea_nil : EvA K C tNil σ H [] := fun H1 _ _ q => q [] H1 (Evl.Ex.refl _) .nil
theorem ea_cons {tr : TA} {s : Sl} {as : List Sl} (h : Ev1 te σ H fun v H2 => VOk K C H2 v s) (hr : EvA K C tr σ H as) : EvA K C (tCons te tr) σ H (s :: as) := fun H1 x Q q =>
  h H1 x _ fun v H2 x2 p => hr H2 (x.trans x2) _ fun vs H3 x3 ps => q (v :: vs) H3 (x2.trans x3) (.cons (p.ex x3) ps)
theorem EvK.sl (h : EvK K te σ H k) : Ev1 te σ H fun v H2 => VOk K C H2 v (.dat k) := h
theorem EvV.sl (h : EvV te σ H v) : Ev1 te σ H fun u H2 => VOk K C H2 u (.val v) := h
theorem pair_dats : ∀ {ks : List NK} {vs : List V}, Paired (VOk K C H) vs (ks.map .dat) → DpAll K H vs (NestedKey.datas ks)
  | [], _, h => by cases h; exact .nil
  | k :: ks, _, h => by
    cases h with
    | cons h1 h2 => exact .cons h1 (pair_dats h2)
theorem ek_tup {ta : TA} {ks : List NK} (h : EvA K C ta σ H (ks.map .dat)) (hl : ks.length ≤ 1000) : EvK K (tTup ta) σ H (.tup ks) := fun H1 x Q q =>
  h H1 x _ fun vs H2 x2 p => by
    have hd := pair_dats p
    have hv : vs.length = ks.length := by rw [dpAll_len hd, datas_len]
    refine ⟨by rw [hv, sizeLine_eq]; omega, fun p hp => q _ _ (x2.trans (Evl.Ex.new hp)) (.tup (SqT.of upd_same) (DpAll.ex (Evl.Ex.new hp) _ _ hd))⟩
/-- a new list -/
def EvN (te : TE) (σ : St) (H : Hp) (P : List V → Hp → Prop) : Prop := ∀ H1, Ex H H1 → ∀ Q : VK, (∀ p xs H2, H1 p = none → Ex H1 H2 → H2 p = some (.lst xs) → P xs H2 → Q (.ref p) H2) → te σ H1 Q
theorem EvN.mono {P P' : List V → Hp → Prop} (h : EvN te σ H P) (m : ∀ v H2, Ex H H2 → P v H2 → P' v H2) : EvN te σ H P' := fun H1 x Q q => h H1 x Q fun p xs H2 hp x2 e pp => q p xs H2 hp x2 e (m xs H2 (x.trans x2) pp)
theorem EvN.e1 {P : List V → Hp → Prop} (h : EvN te σ H P) : Ev1 te σ H fun v H2 => ∃ p xs, v = .ref p ∧ H2 p = some (.lst xs) ∧ P xs H2 := fun H1 x Q q => h H1 x Q fun p xs H2 _ x2 e pp => q _ H2 x2 ⟨p, xs, rfl, e, pp⟩
theorem en_lst {ta : TA} {as : List Sl} (h : EvA K C ta σ H as) (hl : as.length ≤ 1000) : EvN (tLst ta) σ H fun xs H2 => Paired (VOk K C H2) xs as := fun H1 x Q q =>
  h H1 x _ fun vs H2 x2 p => ⟨by rw [Paired.length p, sizeLine_eq]; omega, fun a ha => q a vs _ (fresh_back x2 ha) (x2.trans (Evl.Ex.new ha)) upd_same (Paired.mapP p fun _ _ z => z.ex (Evl.Ex.new ha))⟩
theorem en_nil : EvN (tLst tNil) σ H fun xs _ => xs = [] := fun H1 x Q q => ⟨Nat.zero_le _, fun a ha => q a [] _ ha (Evl.Ex.new ha) upd_same rfl⟩
theorem lsD_new {p : Addr} {xs : List V} {ks : List NK} (e : H p = some (.lst xs)) (h : DpAll K H xs (NestedKey.datas ks)) : Dp K H (.ref p) (lsD ks) := .lst (SqL.of e) h
theorem e1_nil : Ev1 (tLst tNil) σ H fun v H2 => Dp K H2 v (.list []) := en_nil.e1.mono fun v H2 _ ⟨p, xs, e1, e2, e3⟩ => by subst e1 e3; exact .lst (SqL.of e2) .nil
theorem ek_cat {a b : List NK} (ha : EvK K ta σ H (.tup a)) (hb : EvK K tb σ H (.tup b)) (hl : a.length + b.length ≤ 1000) : EvK K (tOp (rCatA K) ta tb) σ H (.tup (a ++ b)) :=
  e1_op ha hb fun x y H1 H2 x1 x2 p p2 Q q => by
    obtain ⟨p, xs, rfl, hs, hd⟩ := dp_tup p
    obtain ⟨p2, ys, rfl, hs2, hd2⟩ := dp_tup p2
    have hs' := ex_t x2 hs
    have hd' := DpAll.ex x2 _ _ hd
    have l1 : xs.length = a.length := by rw [dpAll_len hd, datas_len]
    have l2 : ys.length = b.length := by rw [dpAll_len hd2, datas_len]
    refine ⟨_, _, xs, ys, rfl, rfl, hs', hs2, by rw [l1, l2, sizeLine_eq]; omega, fun e => ?_, fun _ e => ?_, fun _ _ r hr => ?_⟩
    · have ea : a = [] := List.eq_nil_of_length_eq_zero (by rw [← l1, e]; rfl)
      subst ea
      exact q _ H2 (Evl.Ex.refl _) (.tup hs2 hd2)
    · have eb : b = [] := List.eq_nil_of_length_eq_zero (by rw [← l2, e]; rfl)
      subst eb
      rw [List.append_nil] at q
      exact q _ H2 (Evl.Ex.refl _) (.tup hs' hd')
    · refine q _ _ (Evl.Ex.new hr) (.tup (SqT.of upd_same) ?_)
      show DpAll K _ _ (NestedKey.datas (a ++ b))
      rw [datas_app]
      exact DpAll.ex (Evl.Ex.new hr) _ _ (dpAll_app hd' hd2)
theorem ek_catS {a b : List Nat} (ha : EvK K ta σ H (txtK a)) (hb : EvK K tb σ H (txtK b)) (hl : a.length + b.length ≤ 1000) :
    EvK K (tOp (fun x y H Q => ∃ i j, x = .str i ∧ y = .str j ∧ i.length + j.length ≤ sizeLine ∧ Q (.str (i ++ j)) H) ta tb) σ H (txtK (a ++ b)) := by
  have e : toS (a ++ b) = toS a ++ toS b := by
    show (⟨(a ++ b).toArray⟩ : Str) = ⟨a.toArray ++ b.toArray⟩
    simp
  unfold txtK
  rw [e]
  exact EvV.k_str (ev_op (EvK.v_str ha) (EvK.v_str hb) fun H1 Q q => ⟨toS a, toS b, rfl, rfl, by rw [toS_len, toS_len, sizeLine_eq]; omega, q⟩)
/-- len of a tuple, of a text -/
theorem ek_lenT {ks : List NK} (ha : EvK K ta σ H (.tup ks)) : EvK K (tCB (fun xs H Q => ∃ p ys, xs = [.ref p] ∧ (SqL K H p ys ∨ SqT K H p ys) ∧ Q (.int ys.length) H) (tCons ta tNil)) σ H (.num (ks.length : Int)) := fun H1 x Q q =>
  ha H1 x _ fun v H2 x2 p => by
    obtain ⟨a, xs, rfl, hs, hd⟩ := dp_tup p
    have l1 : xs.length = ks.length := by rw [dpAll_len hd, datas_len]
    refine ⟨a, xs, rfl, .inr hs, ?_⟩
    rw [l1]
    exact q _ H2 x2 (.int _)
theorem ek_lenS {l : List Nat} (ha : EvK K ta σ H (txtK l)) (hl : l.length ≤ 1000) : EvK K (tCB (fun xs H Q => ∃ z, xs = [.str z] ∧ z.length ≤ sizeLine ∧ Q (.int z.length) H) (tCons ta tNil)) σ H (.num (l.length : Int)) := fun H1 x Q q =>
  ha H1 x _ fun v H2 x2 p => by
    refine ⟨toS l, by rw [dp_str p], by rw [toS_len, sizeLine_eq]; omega, ?_⟩
    rw [toS_len]
    exact q _ H2 x2 (.int _)
theorem ek_lenL {ds : List PyData} (ha : Ev1 ta σ H fun v H2 => Dp K H2 v (.list ds)) : EvK K (tCB (fun xs H Q => ∃ p ys, xs = [.ref p] ∧ (SqL K H p ys ∨ SqT K H p ys) ∧ Q (.int ys.length) H) (tCons ta tNil)) σ H (.num (ds.length : Int)) := fun H1 x Q q =>
  ha H1 x _ fun v H2 x2 p => by
    cases p with
    | lst hs hd =>
      refine ⟨_, _, rfl, .inl hs, ?_⟩
      rw [dpAll_len hd]
      exact q _ H2 x2 (.int _)

/-! ### tests, choices -/
theorem et_test (h : EvV te σ H (.bl b)) : EvT (tTest te) σ H b := Evl.et_test h.up
theorem et_B (h : EvV te σ H (.bl b)) : EvT (tB te) σ H b := Evl.et_B h.up
theorem e1_if {c : Bool} (h : EvT t σ H c) (h1 : c = true → Ev1 ta σ H P) (h2 : c = false → Ev1 tb σ H P) : Ev1 (tIf t ta tb) σ H P := fun H1 x Q q => h H1 x _ fun H2 x2 => by
  cases c with
  | true =>
    show ta σ H2 Q
    exact h1 rfl H2 (x.trans x2) Q fun v H3 x3 p => q v H3 (x2.trans x3) p
  | false =>
    show tb σ H2 Q
    exact h2 rfl H2 (x.trans x2) Q fun v H3 x3 p => q v H3 (x2.trans x3) p
theorem eb_and {a : Bool} (h1 : EvV ta σ H (.bl a)) (h2 : a = true → EvV tb σ H (.bl b)) : EvV (tAndV ta tb) σ H (.bl (a && b)) := evv (Evl.ev_andV h1.up fun z => (h2 z).up)
theorem eb_or {a : Bool} (h1 : EvV ta σ H (.bl a)) (h2 : a = false → EvV tb σ H (.bl b)) : EvV (tOrV ta tb) σ H (.bl (a || b)) := evv (Evl.ev_orV h1.up fun z => (h2 z).up)
theorem eb_not {a : Bool} (h1 : EvV ta σ H (.bl a)) : EvV (tNotV ta) σ H (.bl (!a)) := evv (Evl.ev_notV h1.up)

/-! ### calls -/
theorem e1_call {sp : Sp} {E : XK} {ta : TA} {as : List Sl} (h : EvA K C ta σ H as) (hs : ∀ vs H1, Ex H H1 → Paired (VOk K C H1) vs as → ∀ Q : VK, (∀ v H2, Ex H1 H2 → P v H2 → Q v H2) → sp vs H1 Q E) : Ev1 (tCall sp [] E ta) σ H P := fun H1 x Q q =>
  h H1 x _ fun vs H2 x2 p => by
    show sp (vs ++ []) H2 Q E
    rw [List.append_nil]
    exact hs vs H2 (x.trans x2) p Q fun v H3 x3 pv => q v H3 (x2.trans x3) pv
theorem e1_cb {r : List V → Hp → VK → Prop} {ta : TA} {as : List Sl} (h : EvA K C ta σ H as) (hs : ∀ vs H1, Ex H H1 → Paired (VOk K C H1) vs as → ∀ Q : VK, (∀ v H2, Ex H1 H2 → P v H2 → Q v H2) → r vs H1 Q) : Ev1 (tCB r ta) σ H P := fun H1 x Q q =>
  h H1 x _ fun vs H2 x2 p => hs vs H2 (x.trans x2) p Q fun v H3 x3 pv => q v H3 (x2.trans x3) pv
theorem e1_prop {sp : Sp} {E : XK} {b : Brd} (h : Ev1 te σ H fun v _ => BrdAt K C H0 v b) (hx : Ex H0 H) (hs : ∀ v H1, Ex H H1 → BrdAt K C H1 v b → ∀ Q : VK, (∀ v H2, Ex H1 H2 → P v H2 → Q v H2) → sp [v] H1 Q E) : Ev1 (tProp C sp [] E te) σ H P := fun H1 x Q q =>
  h H1 x _ fun v H2 x2 p => by
    have p' := p.ex ((hx.trans x).trans x2)
    have hs' := hs v H2 (x.trans x2) p' Q fun u H3 x3 pu => q u H3 (x2.trans x3) pu
    obtain ⟨a, dx, tb, rfl, ha, hd⟩ := p'
    exact ⟨a, dx, _, rfl, ha, hs'⟩
end
end Wx
end
section
set_option Elab.async false
set_option linter.all false
set_option maxRecDepth 100000
set_option maxHeartbeats 4000000
/-! Statements, loops, comprehensions, told as data. -/
namespace Wx
open PySem L2 Wv
open Evl (Ex ex_rd ex_l ex_t sq_of st_of fresh_back)

section
variable {K : PySem.W.Frag} {C : Addr} {H H' H0 : Hp} {σ : St} {e : List Sl} {ta tb te tl : TE} {t u : TT} {P Pa Pb : V → Hp → Prop} {v : V} {k : NK} {i j : Nat} {b : Bool} {D : Ends} {tu tw tz : TS} {g : TG}
theorem q_of (h : tu { D with nx := tz D } σ H) : tSeq tu tz D σ H := h
theorem s_asg (h : Ev1 te σ H P) (q : ∀ v H1, Ex H H1 → P v H1 → D.nx (σ.set i (some v)) H1) : tAsg te (gName i) D σ H := h H (Evl.Ex.refl H) _ q
/-- x = e -/
theorem s_set {s : Sl} (sd : SD K C H σ e) (h : Ev1 te σ H fun v H2 => VOk K C H2 v s) (q : ∀ σ' H1, Ex H H1 → SD K C H1 σ' (e.set i s) → D.nx σ' H1) : tAsg te (gName i) D σ H :=
  s_asg h fun v H1 x p => q _ H1 x ((sd.ex x).set p.s)
theorem q_set {s : Sl} (sd : SD K C H σ e) (h : Ev1 te σ H fun v H2 => VOk K C H2 v s) (q : ∀ σ' H1, Ex H H1 → SD K C H1 σ' (e.set i s) → tz D σ' H1) : tSeq (tAsg te (gName i)) tz D σ H := q_of (s_set sd h q)
/-- x = e, data that may hold lists: as they stand then -/
theorem s_setO {d : PyData} (sd : SD K C H σ e) (h : Ev1 te σ H fun v H2 => Dp K H2 v d) (q : ∀ σ' H1, Ex H H1 → SD K C H1 σ' (e.set i (.old H1 d)) → D.nx σ' H1) : tAsg te (gName i) D σ H :=
  s_asg h fun v H1 x p => q _ H1 x ((sd.ex x).set ⟨v, rfl, p⟩)
theorem q_setO {d : PyData} (sd : SD K C H σ e) (h : Ev1 te σ H fun v H2 => Dp K H2 v d) (q : ∀ σ' H1, Ex H H1 → SD K C H1 σ' (e.set i (.old H1 d)) → tz D σ' H1) : tSeq (tAsg te (gName i)) tz D σ H := q_of (s_setO sd h q)
/-- x = a new list -/
theorem s_setN {Pn : List V → Hp → Prop} (sd : SD K C H σ e) (h : EvN te σ H Pn) (q : ∀ p xs σ' H1, H p = none → Ex H H1 → H1 p = some (.lst xs) → Pn xs H1 → SD K C H1 σ' (e.set i (.val (.ref p))) → D.nx σ' H1) : tAsg te (gName i) D σ H :=
  h H (Evl.Ex.refl H) _ fun p xs H1 hp x hl pn => q p xs _ H1 hp x hl pn ((sd.ex x).set rfl)
theorem q_setN {Pn : List V → Hp → Prop} (sd : SD K C H σ e) (h : EvN te σ H Pn) (q : ∀ p xs σ' H1, H p = none → Ex H H1 → H1 p = some (.lst xs) → Pn xs H1 → SD K C H1 σ' (e.set i (.val (.ref p))) → tz D σ' H1) : tSeq (tAsg te (gName i)) tz D σ H := q_of (s_setN sd h q)
theorem s_ret (h : Ev1 te σ H P) (q : ∀ v H1, Ex H H1 → P v H1 → D.rt v H1) : tRet te D σ H := h H (Evl.Ex.refl H) _ q
theorem s_drop (h : Ev1 te σ H P) (q : ∀ v H1, Ex H H1 → P v H1 → D.nx σ H1) : tDrop te D σ H := h H (Evl.Ex.refl H) _ q
/-- x += e -/
theorem s_aug {f : Int → Int → Int} {a c : Int} (sd : SD K C H σ e) (hx : e[i]? = some (.dat (.num a))) (h : EvK K te σ H (.num c)) (q : ∀ σ' H1, Ex H H1 → SD K C H1 σ' (e.set i (.dat (.num (f a c)))) → D.nx σ' H1) : tAug i te (rI0 fun i j => .int (f i j)) D σ H := by
  obtain ⟨v, h1, h2⟩ := sd.at hx (by intro z; cases z)
  have ev := dp_int h2
  subst ev
  exact ⟨.int a, h1, h H (Evl.Ex.refl H) _ fun w H1 x p => ⟨a, c, rfl, dp_int p, q _ H1 x ((sd.ex x).set ⟨_, rfl, .int _⟩)⟩⟩
/-- if -/
theorem s_if {c : Bool} (h : EvT t σ H c) (h1 : c = true → ∀ H1, Ex H H1 → tu D σ H1) (h2 : c = false → ∀ H1, Ex H H1 → tw D σ H1) : tIfS t tu tw D σ H := Evl.s_if h h1 h2
theorem q_if {c : Bool} (h : EvT t σ H c) (h1 : c = true → ∀ H1, Ex H H1 → tu { D with nx := tz D } σ H1) (h2 : c = false → ∀ H1, Ex H H1 → tw { D with nx := tz D } σ H1) : tSeq (tIfS t tu tw) tz D σ H := Evl.s_if (D := { D with nx := tz D }) h h1 h2
/-- an if whose body is not entered -/
theorem q_skip (h : EvT t σ H false) (h2 : ∀ H1, Ex H H1 → tz D σ H1) : tSeq (tIfS t tu tNext) tz D σ H := q_if h (fun z => nomatch z) fun _ => h2
/-- a, b = x, y -/
theorem s_par {t1 t2 : TE} {P2 : V → V → Hp → Prop} (h1 : Ev1 t1 σ H Pa) (h2 : ∀ v H1, Ex H H1 → Pa v H1 → Ev1 t2 σ H1 (P2 v)) (q : ∀ v w H1 H2, Ex H H1 → Ex H1 H2 → Pa v H1 → P2 v w H2 → D.nx ((σ.set i (some v)).set j (some w)) H2) : tPar i j (tCons t1 (tCons t2 tNil)) D σ H :=
  h1 H (Evl.Ex.refl H) _ fun v H1 x1 p1 => h2 v H1 x1 p1 H1 (Evl.Ex.refl H1) _ fun w H2 x2 p2 => ⟨v, w, rfl, q v w H1 H2 x1 x2 p1 p2⟩
/-- xs.append(v) -/
theorem s_app {l : Addr} {xs : List V} {tx : TE} (ho : EvV ta σ H (.ref l)) (hl : H l = some (.lst xs)) (h : Ev1 te σ H P) (hz : xs.length < 100000) (q : ∀ v H1, Ex H H1 → P v H1 → D.nx σ (upd H1 l (.lst (xs ++ [v])))) :
    tDrop (tBM K "list" rAppend ta (tCons te tNil)) D σ H :=
  ho H (Evl.Ex.refl H) _ fun u H1 x1 eu => by
    subst eu
    exact ⟨Or.inl ⟨rfl, xs, sq_of (x1 l _ hl)⟩, h H1 x1 _ fun v H2 x2 p => ⟨l, xs, v, rfl, rfl, (x1.trans x2) l _ hl, by rw [sizeLine_eq]; omega, q v H2 (x1.trans x2) p⟩⟩

/-! ### targets -/
theorem g_name (h : P v H) (q : ∀ v, P v H → tu D (σ.set j (some v)) H) : gName j v σ H fun σ2 H2 => tu D σ2 H2 := q v h
/-- (a, b) = a new pair -/
theorem g_new {T : Addr} {x y : V} {Kt : St → Hp → Prop} (hT : H T = none) (q : Kt ((σ.set i (some x)).set j (some y)) (upd H T (.tup [x, y]))) : gTup K 2 (gCons (gName i) (gCons (gName j) gNil)) (.ref T) σ (upd H T (.tup [x, y])) Kt :=
  ⟨T, [x, y], rfl, SqT.of upd_same, rfl, x, [y], rfl, y, [], rfl, rfl, q⟩
/-- (a, b) = data -/
theorem g_pair {d1 d2 : PyData} {Kt : St → Hp → Prop} (h : Dp K H0 v (.tuple [d1, d2])) (x : Ex H0 H) (q : ∀ x y, Dp K H0 x d1 → Dp K H0 y d2 → Kt ((σ.set i (some x)).set j (some y)) H) : gTup K 2 (gCons (gName i) (gCons (gName j) gNil)) v σ H Kt := by
  cases h with
  | tup hs hd =>
    cases hd with
    | cons h1 hd =>
      cases hd with
      | cons h2 hd =>
        cases hd
        exact ⟨_, _, rfl, ex_t x hs, rfl, _, _, rfl, _, _, rfl, rfl, q _ _ h1 h2⟩

/-! ### loops -/
/-- for x in a tuple -/
theorem s_forT {ks : List NK} (h : EvK K tl σ H (.tup ks)) (q : ∀ H1, Ex H H1 → ∃ Pv : Nat → St → Hp → Prop, Pv 0 σ H1 ∧ (∀ i σ' H', Pv i σ' H' → Tx H1 H') ∧
      (∀ i kk σ' H', ks[i]? = some kk → Pv i σ' H' → ∀ v, Dp K H' v kk.data → g v σ' H' fun σ2 H2 => tu { D with nx := Pv (i + 1), ct := Pv (i + 1), bk := D.nx } σ2 H2) ∧ (∀ σ' H', Pv ks.length σ' H' → D.nx σ' H')) :
    tFor (iTup K tl) g tu D σ H := h H (Evl.Ex.refl H) _ fun v H1 x1 p => by
  obtain ⟨a, xs, rfl, hs, hd⟩ := dp_tup p
  have hl : xs.length = ks.length := by rw [dpAll_len hd, datas_len]
  obtain ⟨Pv, h0, hG, ht, hq⟩ := q H1 x1
  refine ⟨a, rfl, ⟨xs, hs⟩, for_it (walk_tup (K := K) (a := a) (xs := xs)) Pv h0 (fun i σ' H' _ p => (hG i σ' H' p).sqT hs) (fun i x σ' H2 H3 hi p y => ?_) (fun σ' H' p => hq σ' H' (by rw [← hl]; exact p))⟩
  obtain ⟨rfl, hx⟩ := y
  have hi' : i < ks.length := by omega
  have hk := List.getElem?_eq_getElem hi'
  obtain ⟨w, hw, dw⟩ := dpAll_get hd (datas_get hk)
  rw [hx] at hw
  cases hw
  exact ht i _ σ' _ hk p x (Dp.tx (hG i σ' _ p) _ _ dw)
/-- for x in a list that stands as it stood in H0 -/
theorem s_forL {ds : List PyData} (h : Ev1 tl σ H fun v _ => Dp K H0 v (.list ds)) (hx0 : Ex H0 H) (q : ∀ H1, Ex H H1 → ∃ Pv : Nat → St → Hp → Prop, Pv 0 σ H1 ∧ (∀ i σ' H', Pv i σ' H' → Ex H0 H') ∧
      (∀ i d σ' H', ds[i]? = some d → Pv i σ' H' → ∀ v, Dp K H0 v d → g v σ' H' fun σ2 H2 => tu { D with nx := Pv (i + 1), ct := Pv (i + 1), bk := D.nx } σ2 H2) ∧ (∀ σ' H', Pv ds.length σ' H' → D.nx σ' H')) :
    tFor (iList K tl) g tu D σ H := h H (Evl.Ex.refl H) _ fun v H1 x1 p => by
  cases p with
  | @lst a xs _ hs hd =>
    have hl : xs.length = ds.length := dpAll_len hd
    obtain ⟨Pv, h0, hG, ht, hq⟩ := q H1 x1
    refine ⟨a, rfl, ⟨xs, ex_l (hx0.trans x1) hs⟩, for_it (walk_list (K := K) (a := a) (xs := xs)) Pv h0 (fun i σ' H' _ p => ex_l (hG i σ' H' p) hs) (fun i x σ' H2 H3 hi p y => ?_) (fun σ' H' p => hq σ' H' (by rw [← hl]; exact p))⟩
    obtain ⟨rfl, hx⟩ := y
    have hi' : i < ds.length := by omega
    have hk := List.getElem?_eq_getElem hi'
    obtain ⟨w, hw, dw⟩ := dpAll_get hd hk
    rw [hx] at hw
    cases hw
    exact ht i _ σ' _ hk p x dw
/-- for x in range(n) -/
theorem s_forR {n : Nat} (h : EvK K te σ H (.num (n : Int))) (hn : n ≤ 100000) (q : ∀ H1, Ex H H1 → ∃ Pv : Nat → St → Hp → Prop, Pv 0 σ H1 ∧
      (∀ i σ' H', i < n → Pv i σ' H' → g (.int (i : Int)) σ' H' fun σ2 H2 => tu { D with nx := Pv (i + 1), ct := Pv (i + 1), bk := D.nx } σ2 H2) ∧ (∀ σ' H', Pv n σ' H' → D.nx σ' H')) :
    tFor (iRng1 (tCons te tNil)) g tu D σ H := h H (Evl.Ex.refl H) _ fun v H1 x1 p => by
  obtain ⟨Pv, h0, ht, hq⟩ := q H1 x1
  refine ⟨(n : Int), by rw [dp_int p], by omega, by omega, for_it (walk_range (lo := 0) (n := (n : Int).toNat)) Pv h0 (fun _ _ _ _ _ => trivial) (fun i x σ' H2 H3 hi p y => ?_) (fun σ' H' p => hq σ' H' (by simpa using p))⟩
  obtain ⟨rfl, rfl⟩ := y
  have ez : (0 : Int) + (i : Int) = (i : Int) := Int.zero_add _
  show g (.int (0 + (i : Int))) σ' H3 _
  rw [ez]
  exact ht i σ' _ (by simpa using hi) p
/-- for i, x in enumerate(tuple) -/
theorem s_forET {ks : List NK} {c d : Nat} (h : EvK K te σ H (.tup ks)) (q : ∀ H1, Ex H H1 → ∃ Pv : Nat → St → Hp → Prop, Pv 0 σ H1 ∧ (∀ i σ' H', Pv i σ' H' → Tx H1 H') ∧
      (∀ i kk σ' H', ks[i]? = some kk → Pv i σ' H' → ∀ v H2, Ex H' H2 → Dp K H2 v kk.data → tu { D with nx := Pv (i + 1), ct := Pv (i + 1), bk := D.nx } ((σ'.set c (some (.int (i : Nat)))).set d (some v)) H2) ∧ (∀ σ' H', Pv ks.length σ' H' → D.nx σ' H')) :
    tFor (iEnumT K (tCons te tNil)) (gTup K 2 (gCons (gName c) (gCons (gName d) gNil))) tu D σ H := h H (Evl.Ex.refl H) _ fun v H1 x1 p => by
  obtain ⟨a, xs, rfl, hs, hd⟩ := dp_tup p
  have hl : xs.length = ks.length := by rw [dpAll_len hd, datas_len]
  obtain ⟨Pv, h0, hG, ht, hq⟩ := q H1 x1
  refine ⟨a, xs, rfl, hs, for_it (walk_enumT (K := K) (a := a) (xs := xs)) Pv h0 (fun i σ' H' _ p => (hG i σ' H' p).sqT hs) (fun i x σ' H2 H3 hi p y => ?_) (fun σ' H' p => hq σ' H' (by rw [← hl]; exact p))⟩
  obtain ⟨T, x1', y1', rfl, hT, rfl, e1, e2⟩ := y
  cases (Option.some.inj e1 : V.int (i : Nat) = x1')
  have hi' : i < ks.length := by omega
  have hk := List.getElem?_eq_getElem hi'
  obtain ⟨w, hw, dw⟩ := dpAll_get hd (datas_get hk)
  have e2 : xs[i]? = some y1' := e2
  rw [e2] at hw
  cases hw
  refine g_new hT (ht i _ σ' _ hk p _ _ (Evl.Ex.new hT) (Dp.ex (Evl.Ex.new hT) _ _ (Dp.tx (hG i σ' _ p) _ _ dw)))
/-- for i, c in enumerate(text) -/
theorem s_forES {l : List Nat} {c d : Nat} (h : EvK K te σ H (txtK l)) (q : ∀ H1, Ex H H1 → ∃ Pv : Nat → St → Hp → Prop, Pv 0 σ H1 ∧
      (∀ i s σ' H', l[i]? = some s → Pv i σ' H' → ∀ H2, Ex H' H2 → tu { D with nx := Pv (i + 1), ct := Pv (i + 1), bk := D.nx } ((σ'.set c (some (.int (i : Nat)))).set d (some (.str (toS [s])))) H2) ∧ (∀ σ' H', Pv l.length σ' H' → D.nx σ' H')) :
    tFor (iEnumS (tCons te tNil)) (gTup K 2 (gCons (gName c) (gCons (gName d) gNil))) tu D σ H := h H (Evl.Ex.refl H) _ fun v H1 x1 p => by
  obtain ⟨Pv, h0, ht, hq⟩ := q H1 x1
  have hz : (toS l).cps.size = l.length := by simp [toS]
  refine ⟨toS l, by rw [dp_str p], for_it (walk_enumS (z := toS l)) Pv h0 (fun _ _ _ _ _ => trivial) (fun i x σ' H2 H3 hi p y => ?_) (fun σ' H' p => hq σ' H' (by rw [← hz]; exact p))⟩
  obtain ⟨T, x1', y1', rfl, hT, rfl, e1, e2⟩ := y
  cases (Option.some.inj e1 : V.int (i : Nat) = x1')
  have hi' : i < l.length := by omega
  have hk := List.getElem?_eq_getElem hi'
  have e3 : (toS l).cps[i]? = some l[i] := by simp [toS, hi']
  have e2 : (toS l).cps[i]?.map (fun c => V.str ⟨#[c]⟩) = some y1' := e2
  rw [e3] at e2
  cases (Option.some.inj e2 : V.str ⟨#[l[i]]⟩ = y1')
  exact g_new hT (ht i _ σ' _ hk p _ (Evl.Ex.new hT))
/-- for i, x in enumerate(list) -/
theorem s_forEL {ds : List PyData} {c d : Nat} (h : Ev1 te σ H fun v _ => Dp K H0 v (.list ds)) (hx0 : Ex H0 H) (q : ∀ H1, Ex H H1 → ∃ Pv : Nat → St → Hp → Prop, Pv 0 σ H1 ∧ (∀ i σ' H', Pv i σ' H' → Ex H0 H') ∧
      (∀ i dd σ' H', ds[i]? = some dd → Pv i σ' H' → ∀ v H2, Ex H' H2 → Dp K H0 v dd → tu { D with nx := Pv (i + 1), ct := Pv (i + 1), bk := D.nx } ((σ'.set c (some (.int (i : Nat)))).set d (some v)) H2) ∧ (∀ σ' H', Pv ds.length σ' H' → D.nx σ' H')) :
    tFor (iEnum K (tCons te tNil)) (gTup K 2 (gCons (gName c) (gCons (gName d) gNil))) tu D σ H := h H (Evl.Ex.refl H) _ fun v H1 x1 p => by
  cases p with
  | @lst a xs _ hs hd =>
    have hl : xs.length = ds.length := dpAll_len hd
    obtain ⟨Pv, h0, hG, ht, hq⟩ := q H1 x1
    refine ⟨a, xs, rfl, ex_l (hx0.trans x1) hs, for_it (walk_enum (K := K) (a := a) (xs := xs)) Pv h0 (fun i σ' H' _ p => ex_l (hG i σ' H' p) hs) (fun i x σ' H2 H3 hi p y => ?_) (fun σ' H' p => hq σ' H' (by rw [← hl]; exact p))⟩
    obtain ⟨T, x1', y1', rfl, hT, rfl, e1, e2⟩ := y
    cases (Option.some.inj e1 : V.int (i : Nat) = x1')
    have hi' : i < ds.length := by omega
    have hk := List.getElem?_eq_getElem hi'
    obtain ⟨w, hw, dw⟩ := dpAll_get hd hk
    have e2 : xs[i]? = some y1' := e2
    rw [e2] at hw
    cases hw
    exact g_new hT (ht i _ σ' _ hk p _ _ (Evl.Ex.new hT) dw)
/-- for k in a dict with nested keys -/
theorem s_forD {w : World} {kvs : List (NK × V)} (h : Ev1 tl σ H fun v H2 => ∃ d, v = .ref d ∧ DN w K H2 d kvs) (q : ∀ d H1, Ex H H1 → DN w K H1 d kvs → ∃ Pv : Nat → St → Hp → Prop, Pv 0 σ H1 ∧ (∀ i σ' H', Pv i σ' H' → Tx H1 H' ∧ ∀ o, H1 d = some o → H' d = some o) ∧
      (∀ i kk vv σ' H', kvs[i]? = some (kk, vv) → Pv i σ' H' → ∀ v, Dp K H' v kk.data → g v σ' H' fun σ2 H2 => tu { D with nx := Pv (i + 1), ct := Pv (i + 1), bk := D.nx } σ2 H2) ∧ (∀ σ' H', Pv kvs.length σ' H' → D.nx σ' H')) :
    tFor (iKeysN tl) g tu D σ H := h H (Evl.Ex.refl H) _ fun v H1 x1 ⟨d, ev, dn⟩ => by
  subst ev
  obtain ⟨Pv, h0, hG, ht, hq⟩ := q d H1 x1 dn
  obtain ⟨es, ep, ed, ok⟩ := dn
  refine ⟨d, es, ep, rfl, .inl ed, ok.lo, for_it (walk_keysN ed ok) Pv h0 (fun i σ' H' _ p => ⟨(hG i σ' H' p).2 _ ed, (hG i σ' H' p).1⟩) (fun i x σ' H2 H3 hi p y => ?_) hq⟩
  obtain ⟨rfl, kk, vv, hk, hd⟩ := y
  exact ht i kk vv σ' _ hk p x hd

/-! ### comprehensions -/
theorem tx_lst {l : Addr} {xs : List V} {o : HO} (h : H l = some (.lst xs)) : Tx H (upd H l o) := tx_upd (not_tup h (fun _ z => nomatch z) fun _ _ z => nomatch z)
theorem lc_go {J : It} {n : Nat} {G : Hp → Prop} {Y : Nat → Hp → V → Hp → Prop} {vs : List Nat} {H2 : Hp} {Dl : Addr} {Q : VK} (f : Nat → Bool) (E : Nat → V → Hp → Prop) (wk : Walk J n G Y) (hn : n ≤ 100000) (hD : H2 Dl = none) (hG : ∀ H3, Ex H2 H3 → G H3)
    (hE : ∀ i y H H', Tx H H' → E i y H → E i y H')
    (turn : ∀ i H3 x H4 (Kt : St → Hp → Prop), i < n → Ex H2 H3 → Y i H3 x H4 → (∀ σ2 H5, Ex H3 H5 → wipe σ2 vs = wipe σ vs → EvT t σ2 H5 (f i) → (f i = true → Ev1 te σ2 H5 (E i)) → Kt σ2 H5) → g x (wipe σ vs) H4 Kt)
    (fin : ∀ xs H3, Ex H2 H3 → H3 Dl = some (.lst xs) → Paired (fun y i => E i y H3) xs ((List.range n).filter f) → Q (.ref Dl) H3) :
    ∃ W : Nat → Nat → Hp → Prop, (∃ m, W 0 m (upd H2 Dl (.lst []))) ∧ ∀ i m H, W i m H →
      (J.stop i H ∧ Q (.ref Dl) H) ∨ (J.go i H ∧ ∃ Nx : Hp → Prop, (∀ H', Nx H' → ∃ m', m' < m ∧ W (i + 1) m' H') ∧ ∀ x H', J.yld i H x H' → g x (wipe σ vs) H' fun σ2 H2 => wipe σ2 vs = wipe σ vs ∧ t σ2 H2 fun b H3 =>
        if b = true then te σ2 H3 fun y H4 => ∃ acc, H4 Dl = some (.lst acc) ∧ acc.length < sizeLine ∧ Nx (upd H4 Dl (.lst (acc ++ [y]))) else Nx H3) := by
  refine lc_it (Qd := fun H => Q (.ref Dl) H) wk (fun i H3 => Ex H2 H3 ∧ ∃ acc, H3 Dl = some (.lst acc) ∧ Paired (fun y i => E i y H3) acc ((List.range i).filter f)) ⟨Evl.Ex.new hD, [], upd_same, .nil⟩ (fun i H3 _ p => hG H3 p.1) (fun i x H3 H4 hi p y => ?_) (fun H3 p => by
    obtain ⟨x3, acc, e, pr⟩ := p
    exact fin acc H3 x3 e pr)
  obtain ⟨x3, acc, eD, pr⟩ := p
  refine turn i H3 x H4 _ hi x3 y fun σ2 H5 x5 ew et ee => ⟨ew, ?_⟩
  refine et H5 (Evl.Ex.refl H5) _ fun H6 x6 => ?_
  have er : (List.range (i + 1)).filter f = (List.range i).filter f ++ (if f i = true then [i] else []) := by
    rw [List.range_succ, List.filter_append, List.filter_cons]; rfl
  have hlen : acc.length ≤ i := by
    rw [Paired.length pr]
    exact Nat.le_trans (List.length_filter_le _ _) (by simp)
  cases hf : f i with
  | true =>
    rw [if_pos rfl]
    refine ee hf H6 x6 _ fun y H7 x7 py => ⟨acc, x7 _ _ (x6 _ _ (x5 _ _ eD)), by rw [sizeLine_eq]; omega, ?_⟩
    have e7 := x7 _ _ (x6 _ _ (x5 _ _ eD))
    have t7 : Tx H7 (upd H7 Dl (.lst (acc ++ [y]))) := tx_lst e7
    refine ⟨Evl.Ex.mut (((x3.trans x5).trans x6).trans x7) hD, acc ++ [y], upd_same, ?_⟩
    rw [er, if_pos hf]
    exact Paired.snoc (Paired.mapP pr fun a b z => hE b a _ _ ((ex_tx ((x5.trans x6).trans x7)).trans t7) z) (hE i y _ _ t7 py)
  | false =>
    rw [if_neg Bool.false_ne_true]
    refine ⟨(x3.trans x5).trans x6, acc, x6 _ _ (x5 _ _ eD), ?_⟩
    rw [er, if_neg (by rw [hf]; decide), List.append_nil]
    exact Paired.mapP pr fun a b z => hE b a _ _ (ex_tx (x5.trans x6)) z
/-- [e for x in a tuple if t] -/
theorem en_lcT {ks : List NK} {vs : List Nat} (f : Nat → Bool) (E : Nat → V → Hp → Prop) (sd : SD K C H σ e) (h : EvK K tl σ H (.tup ks)) (hn : ks.length ≤ 100000) (hj : j ∈ vs) (hE : ∀ i y H H', Tx H H' → E i y H → E i y H')
    (turn : ∀ i kk σ2 H1, ks[i]? = some kk → Ex H H1 → SD K C H1 σ2 ((wipeE e vs).set j (.dat kk)) → EvT t σ2 H1 (f i) ∧ (f i = true → Ev1 te σ2 H1 (E i))) :
    EvN (tLc (iTup K tl) (gName j) t te vs) σ H fun xs H2 => Paired (fun y i => E i y H2) xs ((List.range ks.length).filter f) := fun H1 x1 Q q => h H1 x1 _ fun v H2 x2 p => by
  obtain ⟨a, xs, rfl, hs, hd⟩ := dp_tup p
  have hl : xs.length = ks.length := by rw [dpAll_len hd, datas_len]
  refine ⟨a, rfl, ⟨xs, hs⟩, fun Dl hD => ?_⟩
  have wk := walk_tup (K := K) (a := a) (xs := xs)
  rw [hl] at wk
  refine lc_go f E wk hn hD (fun H3 x3 => ex_t x3 hs) hE (fun i H3 x H4 Kt hi x3 y kt => ?_) fun ys H3 x3 e3 pr => q Dl ys H3 (fresh_back x2 hD) (x2.trans x3) e3 pr
  obtain ⟨rfl, hx⟩ := y
  have hk := List.getElem?_eq_getElem hi
  obtain ⟨w, hw, dw⟩ := dpAll_get hd (datas_get hk)
  rw [hx] at hw
  cases hw
  have xx := (x1.trans x2).trans x3
  obtain ⟨t1, t2⟩ := turn i _ ((wipe σ vs).set j (some x)) H4 hk xx (((sd.ex xx).wipe vs).set ⟨x, rfl, Dp.ex x3 _ _ dw⟩)
  exact kt _ _ (Evl.Ex.refl _) (wipe_one hj) t1 t2
/-- [e for x in range(n) if t] -/
theorem en_lcR {n : Nat} {vs : List Nat} {tn : TE} (f : Nat → Bool) (E : Nat → V → Hp → Prop) (sd : SD K C H σ e) (h : EvK K tn σ H (.num (n : Int))) (hn : n ≤ 100000) (hj : j ∈ vs) (hE : ∀ i y H H', Tx H H' → E i y H → E i y H')
    (turn : ∀ i σ2 H1, i < n → Ex H H1 → SD K C H1 σ2 ((wipeE e vs).set j (.dat (.num (i : Int)))) → EvT t σ2 H1 (f i) ∧ (f i = true → Ev1 te σ2 H1 (E i))) :
    EvN (tLc (iRng1 (tCons tn tNil)) (gName j) t te vs) σ H fun xs H2 => Paired (fun y i => E i y H2) xs ((List.range n).filter f) := fun H1 x1 Q q => h H1 x1 _ fun v H2 x2 p => by
  refine ⟨(n : Int), by rw [dp_int p], by omega, by omega, fun Dl hD => ?_⟩
  have wk := walk_range (lo := 0) (n := (n : Int).toNat)
  rw [Int.toNat_natCast] at wk
  refine lc_go f E wk hn hD (fun H3 x3 => trivial) hE (fun i H3 x H4 Kt hi x3 y kt => ?_) fun ys H3 x3 e3 pr => q Dl ys H3 (fresh_back x2 hD) (x2.trans x3) e3 pr
  obtain ⟨rfl, rfl⟩ := y
  have xx := (x1.trans x2).trans x3
  have ez : (0 : Int) + (i : Int) = (i : Int) := Int.zero_add _
  show gName j (.int (0 + (i : Int))) _ _ _
  rw [ez]
  obtain ⟨t1, t2⟩ := turn i ((wipe σ vs).set j (some (.int (i : Int)))) H4 hi xx (((sd.ex xx).wipe vs).set ⟨_, rfl, .int _⟩)
  exact kt _ _ (Evl.Ex.refl _) (wipe_one hj) t1 t2
/-- [e for x in a list if t], the list as it stood in H0 -/
theorem en_lcL {ds : List PyData} {vs : List Nat} (f : Nat → Bool) (E : Nat → V → Hp → Prop) (sd : SD K C H σ e) (h : Ev1 tl σ H fun v H2 => Dp K H2 v (.list ds)) (hn : ds.length ≤ 100000) (hj : j ∈ vs) (hE : ∀ i y H H', Tx H H' → E i y H → E i y H')
    (turn : ∀ i dd σ2 H1 H2, ds[i]? = some dd → Ex H H1 → Ex H1 H2 → SD K C H2 σ2 ((wipeE e vs).set j (.old H1 dd)) → EvT t σ2 H2 (f i) ∧ (f i = true → Ev1 te σ2 H2 (E i))) :
    EvN (tLc (iList K tl) (gName j) t te vs) σ H fun xs H2 => Paired (fun y i => E i y H2) xs ((List.range ds.length).filter f) := fun H1 x1 Q q => h H1 x1 _ fun v H2 x2 p => by
  cases p with
  | @lst a xs _ hs hd =>
    have hl : xs.length = ds.length := dpAll_len hd
    refine ⟨a, rfl, ⟨xs, hs⟩, fun Dl hD => ?_⟩
    have wk := walk_list (K := K) (a := a) (xs := xs)
    rw [hl] at wk
    refine lc_go f E wk hn hD (fun H3 x3 => ex_l x3 hs) hE (fun i H3 x H4 Kt hi x3 y kt => ?_) fun ys H3 x3 e3 pr => q Dl ys H3 (fresh_back x2 hD) (x2.trans x3) e3 pr
    obtain ⟨rfl, hx⟩ := y
    have hk := List.getElem?_eq_getElem hi
    obtain ⟨w, hw, dw⟩ := dpAll_get hd hk
    rw [hx] at hw
    cases hw
    have xx := (x1.trans x2).trans x3
    obtain ⟨t1, t2⟩ := turn i _ ((wipe σ vs).set j (some x)) H2 H4 hk (x1.trans x2) x3 (((sd.ex xx).wipe vs).set ⟨x, rfl, dw⟩)
    exact kt _ _ (Evl.Ex.refl _) (wipe_one hj) t1 t2
/-- [e for c in a text if t] -/
theorem en_lcS {l : List Nat} {vs : List Nat} (f : Nat → Bool) (E : Nat → V → Hp → Prop) (sd : SD K C H σ e) (h : EvK K tl σ H (txtK l)) (hn : l.length ≤ 100000) (hj : j ∈ vs) (hE : ∀ i y H H', Tx H H' → E i y H → E i y H')
    (turn : ∀ i s σ2 H1, l[i]? = some s → Ex H H1 → SD K C H1 σ2 ((wipeE e vs).set j (.dat (txtK [s]))) → EvT t σ2 H1 (f i) ∧ (f i = true → Ev1 te σ2 H1 (E i))) :
    EvN (tLc (iStr tl) (gName j) t te vs) σ H fun xs H2 => Paired (fun y i => E i y H2) xs ((List.range l.length).filter f) := fun H1 x1 Q q => h H1 x1 _ fun v H2 x2 p => by
  have hz : (toS l).cps.size = l.length := by simp [toS]
  refine ⟨toS l, dp_str p, fun Dl hD => ?_⟩
  have wk := walk_str (z := toS l)
  rw [hz] at wk
  refine lc_go f E wk hn hD (fun H3 x3 => trivial) hE (fun i H3 x H4 Kt hi x3 y kt => ?_) fun ys H3 x3 e3 pr => q Dl ys H3 (fresh_back x2 hD) (x2.trans x3) e3 pr
  obtain ⟨rfl, c, hc, rfl⟩ := y
  have hk := List.getElem?_eq_getElem hi
  have e3 : (toS l).cps[i]? = some l[i] := by simp [toS, hi]
  rw [e3] at hc
  cases hc
  have xx := (x1.trans x2).trans x3
  obtain ⟨t1, t2⟩ := turn i _ ((wipe σ vs).set j (some (.str ⟨#[l[i]]⟩))) H4 hk xx (((sd.ex xx).wipe vs).set ⟨_, rfl, .str _⟩)
  exact kt _ _ (Evl.Ex.refl _) (wipe_one hj) t1 t2
/-- [e for a, b in zip(t, u)], two tuples -/
theorem en_lcZ {ks ms : List NK} {vs : List Nat} {c d : Nat} {t1 t2 : TE} (f : Nat → Bool) (E : Nat → V → Hp → Prop) (sd : SD K C H σ e) (h : EvK K t1 σ H (.tup ks)) (h2 : EvK K t2 σ H (.tup ms)) (hlen : ks.length = ms.length) (hn : ks.length ≤ 100000) (hc : c ∈ vs) (hd' : d ∈ vs) (hE : ∀ i y H H', Tx H H' → E i y H → E i y H')
    (turn : ∀ i k1 k2 σ2 H1, ks[i]? = some k1 → ms[i]? = some k2 → Ex H H1 → SD K C H1 σ2 (((wipeE e vs).set c (.dat k1)).set d (.dat k2)) → EvT t σ2 H1 (f i) ∧ (f i = true → Ev1 te σ2 H1 (E i))) :
    EvN (tLc (RZ.iZipA K (tCons t1 (tCons t2 tNil))) (gTup K 2 (gCons (gName c) (gCons (gName d) gNil))) t te vs) σ H fun xs H2 => Paired (fun y i => E i y H2) xs ((List.range ks.length).filter f) := fun H1 x1 Q q =>
  h H1 x1 _ fun v H2 x2 p => h2 H2 (x1.trans x2) _ fun v' H3 x3 p' => by
    obtain ⟨a, xs, rfl, hs, hd⟩ := dp_tup p
    obtain ⟨b, ys, rfl, hs2, hd2⟩ := dp_tup p'
    have hs' := ex_t x3 hs
    have hd1 := DpAll.ex x3 _ _ hd
    have hl : xs.length = ks.length := by rw [dpAll_len hd, datas_len]
    have hl2 : ys.length = ks.length := by rw [dpAll_len hd2, datas_len, hlen]
    refine ⟨a, b, xs, ys, rfl, .inr ⟨hs', hs2, fun Dl hD => ?_⟩⟩
    have wk : Walk (RZ.ItzT K a b) ks.length (fun H => SqT K H a xs ∧ SqT K H b ys) (YPair (fun i => xs[i]?) (fun i => ys[i]?)) :=
      ⟨fun i _ hi q => ⟨xs, ys, xs[i]'(hl ▸ hi), ys[i]'(hl2 ▸ hi), q.1, q.2, List.getElem?_eq_getElem _, List.getElem?_eq_getElem _⟩, fun _ q => ⟨xs, ys, q.1, q.2, .inl (Nat.le_of_eq hl)⟩,
        fun i H v H' _ q ⟨T, x, z, ev, fr, eh, ex, ez⟩ => ⟨T, x, z, ev, fr, eh, ex xs q.1, ez ys q.2⟩⟩
    refine lc_go f E wk hn hD (fun H4 x4 => ⟨ex_t x4 hs', ex_t x4 hs2⟩) hE (fun i H4 x H5 Kt hi x4 y kt => ?_) fun zs H4 x4 e4 pr => q Dl zs H4 (fresh_back (x2.trans x3) hD) ((x2.trans x3).trans x4) e4 pr
    obtain ⟨T, z1, z2, rfl, hT, rfl, e1, e2⟩ := y
    have hk := List.getElem?_eq_getElem hi
    have hk2 := List.getElem?_eq_getElem (show i < ms.length by omega)
    obtain ⟨w, hw, dw⟩ := dpAll_get hd1 (datas_get hk)
    obtain ⟨w2, hw2, dw2⟩ := dpAll_get hd2 (datas_get hk2)
    have e1 : xs[i]? = some z1 := e1
    have e2 : ys[i]? = some z2 := e2
    rw [e1] at hw
    cases hw
    rw [e2] at hw2
    cases hw2
    have x5 : Ex H4 (upd H4 T (.tup [z1, z2])) := Evl.Ex.new hT
    have xx := (((x1.trans x2).trans x3).trans x4).trans x5
    obtain ⟨a1, a2⟩ := turn i _ _ (((wipe σ vs).set c (some z1)).set d (some z2)) _ hk hk2 xx (SD.set (s := .dat ms[i]) (SD.set (s := .dat ks[i]) ((sd.ex xx).wipe vs) ⟨_, rfl, Dp.ex (x4.trans x5) _ _ dw⟩) ⟨_, rfl, Dp.ex (x4.trans x5) _ _ dw2⟩)
    exact g_new hT (kt _ _ x5 (wipe_two hc hd') a1 a2)
/-- [e for k in a dict with nested keys if t] -/
theorem en_lcD {w : World} {kvs : List (NK × V)} {vs : List Nat} (f : Nat → Bool) (E : Nat → V → Hp → Prop) (sd : SD K C H σ e) (h : Ev1 tl σ H fun v H2 => ∃ d, v = .ref d ∧ DN w K H2 d kvs) (hn : kvs.length ≤ 100000) (hj : j ∈ vs) (hE : ∀ i y H H', Tx H H' → E i y H → E i y H')
    (turn : ∀ i kk vv σ2 H1, kvs[i]? = some (kk, vv) → Ex H H1 → SD K C H1 σ2 ((wipeE e vs).set j (.dat kk)) → EvT t σ2 H1 (f i) ∧ (f i = true → Ev1 te σ2 H1 (E i))) :
    EvN (tLc (iKeysN tl) (gName j) t te vs) σ H fun xs H2 => Paired (fun y i => E i y H2) xs ((List.range kvs.length).filter f) := fun H1 x1 Q q => h H1 x1 _ fun v H2 x2 ⟨d, ev, dn⟩ => by
  subst ev
  obtain ⟨es, ep, ed, ok⟩ := dn
  refine ⟨d, es, ep, rfl, .inl ed, ok.lo, fun Dl hD => ?_⟩
  refine lc_go f E (walk_keysN ed ok) hn hD (fun H3 x3 => ⟨x3 _ _ ed, ex_tx x3⟩) hE (fun i H3 x H4 Kt hi x3 y kt => ?_) fun ys H3 x3 e3 pr => q Dl ys H3 (fresh_back x2 hD) (x2.trans x3) e3 pr
  obtain ⟨rfl, kk, vv, hk, hd⟩ := y
  have xx := (x1.trans x2).trans x3
  obtain ⟨t1, t2⟩ := turn i kk vv ((wipe σ vs).set j (some x)) H4 hk xx (((sd.ex xx).wipe vs).set ⟨_, rfl, hd⟩)
  exact kt _ _ (Evl.Ex.refl _) (wipe_one hj) t1 t2
theorem et_yes : EvT tYes σ H true := fun H1 _ _ q => q H1 (Evl.Ex.refl H1)
/-- what was gathered, told as data -/
theorem paired_dats {ks : Nat → NK} : ∀ {is : List Nat} {xs : List V}, Paired (fun y i => Dp K H y (ks i).data) xs is → DpAll K H xs (NestedKey.datas (is.map ks))
  | [], _, h => by cases h; exact .nil
  | i :: is, _, h => by
    cases h with
    | cons h1 h2 => exact .cons h1 (paired_dats h2)
theorem paired_vals {vs : Nat → V} : ∀ {is : List Nat} {xs : List V}, Paired (fun y i => y = vs i) xs is → xs = is.map vs
  | [], _, h => by cases h; rfl
  | i :: is, _, h => by
    cases h with
    | cons h1 h2 => rw [h1, paired_vals h2]; rfl
end
end Wx
end
section
/-! Deeds, builders, places: plain Lean. -/
namespace Wv
set_option linter.all false

structure Deed where
  fill : Bool
  r : Nat
  c : Nat
  s : Nat
deriving DecidableEq
abbrev Bld := List (List Deed)
abbrev Plc := List Nat
def Deed.ap (b : Brd) (d : Deed) : Brd := put b d.r d.c d.s
def apart (d e : Deed) : Prop := ¬ (d.r = e.r ∧ d.c = e.c)
structure DeedOk (R C : Nat) (b0 : Brd) (d : Deed) : Prop where
  r : d.r < R
  c : d.c < C
  fil : d.fill = true → at2 b0 d.r d.c = 46 ∧ (d.s = 60 ∨ d.s = 62 ∨ d.s = 120)
  cut : d.fill = false → at2 b0 d.r d.c ≠ 46 ∧ d.s = 46
theorem DeedOk.sg {R C : Nat} {b0 : Brd} {d : Deed} (h : DeedOk R C b0 d) : isSign d.s := by
  cases e : d.fill with
  | true => have := (h.fil e).2; unfold isSign; omega
  | false => have := (h.cut e).2; unfold isSign; omega
structure Good (R C : Nat) (b0 : Brd) (B : Bld) : Prop where
  rect : Rect R C b0
  R0 : 0 < R
  C0 : 0 < C
  ok : ∀ ds ∈ B, ∀ d ∈ ds, DeedOk R C b0 d
  uniq : B.flatten.Pairwise apart
  order : ∀ ds ∈ B, ∃ fs cs, ds = fs ++ cs ∧ (∀ d ∈ fs, d.fill = true) ∧ ∀ d ∈ cs, d.fill = false

/-- the deeds of the i-th builder -/
def dsAt (B : Bld) (i : Nat) : List Deed := B.getD i []
def sz (B : Bld) (i : Nat) : Nat := (dsAt B i).length
theorem dsAt_mem {B : Bld} {i : Nat} (h : i < B.length) : dsAt B i ∈ B := by
  unfold dsAt; simp [List.getD, List.getElem?_eq_getElem h]
theorem Good.okAt {R C : Nat} {b0 : Brd} {B : Bld} (g : Good R C b0 B) {i j : Nat} {d : Deed} (hi : i < B.length) (h : (dsAt B i)[j]? = some d) : DeedOk R C b0 d :=
  g.ok _ (dsAt_mem hi) d (List.mem_of_getElem? h)

/-- deeds at unlike places name unlike cells -/
theorem apart_at {B : Bld} (h : B.flatten.Pairwise apart) {i j i' j' : Nat} {d e : Deed} (hi : i < B.length) (hi' : i' < B.length) (hd : (dsAt B i)[j]? = some d) (he : (dsAt B i')[j']? = some e) (ne : ¬ (i = i' ∧ j = j')) : apart d e := by
  rw [List.pairwise_flatten] at h
  obtain ⟨h1, h2⟩ := h
  have sy : ∀ a b, apart a b → apart b a := fun a b x z => x ⟨z.1.symm, z.2.symm⟩
  have key : ∀ {i i' : Nat} (hi : i < B.length) (hi' : i' < B.length), i < i' → ∀ d ∈ dsAt B i, ∀ e ∈ dsAt B i', apart d e := by
    intro i i' hi hi' lt
    have := List.pairwise_iff_getElem.mp h2 i i' hi hi' lt
    intro d hd e he
    have e1 : dsAt B i = B[i] := by unfold dsAt; simp [List.getD, List.getElem?_eq_getElem hi]
    have e2 : dsAt B i' = B[i'] := by unfold dsAt; simp [List.getD, List.getElem?_eq_getElem hi']
    rw [e1] at hd
    rw [e2] at he
    exact this d hd e he
  have md := List.mem_of_getElem? hd
  have me := List.mem_of_getElem? he
  rcases Nat.lt_trichotomy i i' with lt | rfl | lt
  · exact key hi hi' lt d md e me
  · have hp := h1 _ (dsAt_mem hi)
    obtain ⟨hj, ed⟩ := List.getElem?_eq_some_iff.mp hd
    obtain ⟨hj', ee⟩ := List.getElem?_eq_some_iff.mp he
    rcases Nat.lt_trichotomy j j' with l | rfl | l
    · have := List.pairwise_iff_getElem.mp hp j j' hj hj' l
      rw [ed, ee] at this
      exact this
    · exact absurd ⟨rfl, rfl⟩ ne
    · have := List.pairwise_iff_getElem.mp hp j' j hj' hj l
      rw [ed, ee] at this
      exact sy _ _ this
  · exact sy _ _ (key hi' hi lt e me d md)

/-! ### places -/
def pl (p : Plc) (i : Nat) : Nat := p.getD i 0
def inc (p : Plc) (i : Nat) : Plc := p.set i (pl p i + 1)
theorem inc_length (p : Plc) (i : Nat) : (inc p i).length = p.length := by simp [inc]
theorem pl_inc {p : Plc} {i : Nat} (h : i < p.length) (k : Nat) : pl (inc p i) k = if k = i then pl p i + 1 else pl p k := by
  unfold pl inc
  simp only [List.getD_eq_getElem?_getD, List.getElem?_set]
  by_cases e : i = k
  · subst e; simp [h, pl]
  · rw [if_neg e, if_neg fun z => e z.symm]
structure Box (B : Bld) (p : Plc) : Prop where
  len : p.length = B.length
  le : ∀ i, i < B.length → pl p i ≤ sz B i
def zero (B : Bld) : Plc := List.replicate B.length 0
theorem pl_zero (B : Bld) (i : Nat) : pl (zero B) i = 0 := by
  unfold pl zero
  simp only [List.getD_eq_getElem?_getD, List.getElem?_replicate]
  split <;> rfl
theorem Box.zero (B : Bld) : Box B (zero B) := ⟨by simp [Wv.zero], fun i _ => by rw [pl_zero]; exact Nat.zero_le _⟩
theorem Box.inc {B : Bld} {p : Plc} {i : Nat} (h : Box B p) (hi : i < B.length) (hl : pl p i < sz B i) : Box B (inc p i) := by
  refine ⟨by rw [inc_length, h.len], fun k hk => ?_⟩
  rw [pl_inc (by rw [h.len]; exact hi)]
  split
  · rename_i e; subst e; exact hl
  · exact h.le k hk
def Full (B : Bld) (p : Plc) : Prop := ∀ i, i < B.length → pl p i = sz B i
def full (B : Bld) : Plc := B.map (·.length)
theorem pl_full {B : Bld} {i : Nat} (h : i < B.length) : pl (full B) i = sz B i := by
  unfold pl full sz dsAt
  simp [List.getD, List.getElem?_eq_getElem h]
theorem Box.full (B : Bld) : Box B (full B) := ⟨by simp [Wv.full], fun i hi => Nat.le_of_eq (pl_full hi)⟩
theorem plc_ext {p q : Plc} (hl : p.length = q.length) (h : ∀ i, i < p.length → pl p i = pl q i) : p = q := by
  apply List.ext_getElem hl
  intro i h1 h2
  have := h i h1
  unfold pl at this
  simpa [List.getD, List.getElem?_eq_getElem h1, List.getElem?_eq_getElem h2] using this
theorem full_eq {B : Bld} {p : Plc} (h : Box B p) (f : Full B p) : p = full B :=
  plc_ext (by rw [h.len]; simp [full]) fun i hi => by rw [h.len] at hi; rw [f i hi, pl_full hi]
theorem full_Full (B : Bld) : Full B (full B) := fun i hi => pl_full hi

theorem sum_set : ∀ (p : Plc) (i v : Nat), i < p.length → (p.set i v).sum + p.getD i 0 = p.sum + v
  | [], i, v, h => by simp at h
  | a :: p, 0, v, h => by simp; omega
  | a :: p, i + 1, v, h => by
    have := sum_set p i v (by simpa using h)
    simp only [List.set_cons_succ, List.sum_cons, List.getD_cons_succ]
    omega
theorem sum_inc {p : Plc} {i : Nat} (h : i < p.length) : (inc p i).sum = p.sum + 1 := by
  have := sum_set p i (pl p i + 1) h
  unfold inc
  unfold pl at *
  omega
theorem sum_le : ∀ (p q : Plc), p.length = q.length → (∀ i, i < p.length → pl p i ≤ pl q i) → p.sum ≤ q.sum
  | [], [], _, _ => Nat.le_refl _
  | a :: p, b :: q, hl, h => by
    have h0 : a ≤ b := h 0 (by simp)
    have := sum_le p q (by simpa using hl) fun i hi => h (i + 1) (by simpa using hi)
    simp only [List.sum_cons]; omega
theorem sum_eq : ∀ (p q : Plc), p.length = q.length → (∀ i, i < p.length → pl p i ≤ pl q i) → p.sum = q.sum → p = q
  | [], [], _, _, _ => rfl
  | a :: p, b :: q, hl, h, hs => by
    have h0 : a ≤ b := h 0 (by simp)
    have hl' : p.length = q.length := by simpa using hl
    have ht : ∀ i, i < p.length → pl p i ≤ pl q i := fun i hi => h (i + 1) (by simpa using hi)
    have := sum_le p q hl' ht
    simp only [List.sum_cons] at hs
    have e := sum_eq p q hl' ht (by omega)
    subst e
    have : a = b := by omega
    rw [this]
def total (B : Bld) : Nat := (full B).sum
theorem Box.sum_le {B : Bld} {p : Plc} (h : Box B p) : p.sum ≤ total B :=
  Wv.sum_le p (Wv.full B) (by rw [h.len]; simp [Wv.full]) fun i hi => by rw [h.len] at hi; rw [pl_full hi]; exact h.le i hi
theorem Box.sum_full {B : Bld} {p : Plc} (h : Box B p) (hs : p.sum = total B) : p = Wv.full B :=
  sum_eq p (Wv.full B) (by rw [h.len]; simp [Wv.full]) (fun i hi => by rw [h.len] at hi; rw [pl_full hi]; exact h.le i hi) hs
theorem zero_sum (B : Bld) : (zero B).sum = 0 := by simp [zero]
theorem sum_zero : ∀ (p : Plc), p.sum = 0 → p = List.replicate p.length 0
  | [], _ => rfl
  | a :: p, h => by
    simp only [List.sum_cons] at h
    have := sum_zero p (by omega)
    rw [List.length_cons, List.replicate_succ, ← this]
    have : a = 0 := by omega
    rw [this]
theorem Box.not_full {B : Bld} {p : Plc} (h : Box B p) (n : ¬ Full B p) : ∃ i, i < B.length ∧ pl p i < sz B i := by
  apply Classical.byContradiction
  intro c
  refine n fun i hi => ?_
  have := h.le i hi
  have : ¬ pl p i < sz B i := fun z => c ⟨i, hi, z⟩
  omega
noncomputable instance (B : Bld) (p : Plc) : Decidable (Full B p) := Classical.propDecidable _

/-! ### the cells behind some deeds -/
structure Bd (R C : Nat) (b0 : Brd) (D : Deed → Prop) (b : Brd) : Prop where
  rect : Rect R C b
  named : ∀ d, D d → at2 b d.r d.c = d.s
  other : ∀ r c, r < R → c < C → (∀ d, D d → ¬ (d.r = r ∧ d.c = c)) → at2 b r c = at2 b0 r c
theorem Bd.unique {R C : Nat} {b0 a b : Brd} {D E : Deed → Prop} (h : ∀ d, D d ↔ E d) (ha : Bd R C b0 D a) (hb : Bd R C b0 E b) : a = b := by
  refine Rect.ext ha.rect hb.rect fun r c hr hc => ?_
  by_cases q : ∃ d, D d ∧ d.r = r ∧ d.c = c
  · obtain ⟨d, hd, rfl, rfl⟩ := q
    rw [ha.named d hd, hb.named d ((h d).mp hd)]
  · rw [ha.other r c hr hc fun d hd z => q ⟨d, hd, z⟩, hb.other r c hr hc fun d hd z => q ⟨d, (h d).mpr hd, z⟩]
theorem Bd.nil {R C : Nat} {b0 : Brd} (h : Rect R C b0) : Bd R C b0 (fun _ => False) b0 := ⟨h, fun _ z => z.elim, fun _ _ _ _ _ => rfl⟩
theorem Bd.ap {R C : Nat} {b0 b : Brd} {D : Deed → Prop} (h : Bd R C b0 D b) {d : Deed} (hd : DeedOk R C b0 d) (hn : ∀ e, D e → apart e d) : Bd R C b0 (fun e => D e ∨ e = d) (d.ap b) := by
  refine ⟨h.rect.put hd.r hd.c hd.sg, fun e he => ?_, fun r c hr hc hx => ?_⟩
  · unfold Deed.ap
    rw [put_at h.rect hd.r hd.c]
    rcases he with he | rfl
    · rw [if_neg (hn e he)]; exact h.named e he
    · rw [if_pos ⟨rfl, rfl⟩]
  · unfold Deed.ap
    rw [put_at h.rect hd.r hd.c, if_neg fun z => hx d (.inr rfl) ⟨z.1.symm, z.2.symm⟩]
    exact h.other r c hr hc fun e he => hx e (.inl he)
theorem Bd.foldl {R C : Nat} {b0 : Brd} : ∀ (L : List Deed) (b : Brd) (D : Deed → Prop), Bd R C b0 D b → (∀ d ∈ L, DeedOk R C b0 d) → L.Pairwise apart → (∀ d ∈ L, ∀ e, D e → apart e d) → Bd R C b0 (fun e => D e ∨ e ∈ L) (L.foldl Deed.ap b)
  | [], b, D, h, _, _, _ => by
    have : (fun e => D e ∨ e ∈ ([] : List Deed)) = D := by funext e; simp
    rw [this]; exact h
  | d :: L, b, D, h, ho, hp, hn => by
    rw [List.pairwise_cons] at hp
    have := Bd.foldl L (d.ap b) _ (h.ap (ho d (by simp)) (hn d (by simp))) (fun e he => ho e (by simp [he])) hp.2 fun e he x hx => by
      rcases hx with hx | rfl
      · exact hn e (by simp [he]) x hx
      · exact hp.1 e he
    have e : (fun e => D e ∨ e ∈ d :: L) = (fun e => (D e ∨ e = d) ∨ e ∈ L) := by
      funext e
      simp only [List.mem_cons, eq_iff_iff]
      exact ⟨fun z => z.elim (fun a => .inl (.inl a)) fun z => z.elim (fun a => .inl (.inr a)) .inr, fun z => z.elim (fun z => z.elim .inl fun a => .inr (.inl a)) fun a => .inr (.inr a)⟩
    rw [e]
    exact this

def done (B : Bld) (p : Plc) : List Deed := (List.range B.length).flatMap fun i => (dsAt B i).take (pl p i)
theorem mem_done {B : Bld} {p : Plc} {d : Deed} : d ∈ done B p ↔ ∃ i j, i < B.length ∧ j < pl p i ∧ (dsAt B i)[j]? = some d := by
  unfold done
  simp only [List.mem_flatMap, List.mem_range]
  constructor
  · rintro ⟨i, hi, hm⟩
    obtain ⟨j, hj⟩ := List.mem_iff_getElem?.mp hm
    rw [List.getElem?_take] at hj
    by_cases c : j < pl p i
    · rw [if_pos c] at hj; exact ⟨i, j, hi, c, hj⟩
    · rw [if_neg c] at hj; simp at hj
  · rintro ⟨i, j, hi, hj, e⟩
    refine ⟨i, hi, List.mem_iff_getElem?.mpr ⟨j, ?_⟩⟩
    rw [List.getElem?_take, if_pos hj, e]
theorem done_pairwise {B : Bld} (h : B.flatten.Pairwise apart) (p : Plc) : (done B p).Pairwise apart := by
  unfold done
  rw [List.pairwise_flatMap]
  refine ⟨fun i hi => ?_, ?_⟩
  · rw [List.pairwise_iff_getElem]
    intro j k hj hk lt
    have hi := List.mem_range.mp hi
    refine apart_at h hi hi (j := j) (j' := k) ?_ ?_ (by omega)
    · have : ((dsAt B i).take (pl p i))[j]? = some ((dsAt B i).take (pl p i))[j] := List.getElem?_eq_getElem hj
      rw [List.getElem?_take] at this
      split at this
      · exact this
      · simp at this
    · have : ((dsAt B i).take (pl p i))[k]? = some ((dsAt B i).take (pl p i))[k] := List.getElem?_eq_getElem hk
      rw [List.getElem?_take] at this
      split at this
      · exact this
      · simp at this
  · rw [List.pairwise_iff_getElem]
    intro a b ha hb lt d hd e he
    simp only [List.length_range] at ha hb
    simp only [List.getElem_range] at hd he
    obtain ⟨j, ej⟩ := List.mem_iff_getElem?.mp (List.mem_of_mem_take hd)
    obtain ⟨k, ek⟩ := List.mem_iff_getElem?.mp (List.mem_of_mem_take he)
    exact apart_at h ha hb ej ek (by omega)
def cellsAt (b0 : Brd) (B : Bld) (p : Plc) : Brd := (done B p).foldl Deed.ap b0
section
variable {R C : Nat} {b0 : Brd} {B : Bld} {p : Plc} {i : Nat} {d : Deed}
theorem cells_bd (g : Good R C b0 B) (p : Plc) : Bd R C b0 (fun d => d ∈ done B p) (cellsAt b0 B p) := by
  have := Bd.foldl (done B p) b0 _ (Bd.nil g.rect) (fun d hd => by
    obtain ⟨i, j, hi, _, e⟩ := mem_done.mp hd
    exact g.okAt hi e) (done_pairwise g.uniq p) fun _ _ _ z => z.elim
  have e : (fun d => d ∈ done B p) = (fun d => False ∨ d ∈ done B p) := by funext d; simp
  rw [e]; exact this
theorem cells_rect (g : Good R C b0 B) (p : Plc) : Rect R C (cellsAt b0 B p) := (cells_bd g p).rect
theorem cells_zero : cellsAt b0 B (zero B) = b0 := by
  have : done B (zero B) = [] := by
    unfold done
    simp [pl_zero]
  unfold cellsAt
  rw [this]; rfl
/-- the deed that is next names a cell that is as at first -/
theorem next_apart (g : Good R C b0 B) (hi : i < B.length) (h : (dsAt B i)[pl p i]? = some d) : ∀ e, e ∈ done B p → apart e d := fun e he => by
  obtain ⟨i', j', hi', hj', ee⟩ := mem_done.mp he
  exact apart_at g.uniq hi' hi ee h fun z => by rw [z.1] at hj'; omega
theorem next_old (g : Good R C b0 B) (hi : i < B.length) (h : (dsAt B i)[pl p i]? = some d) : at2 (cellsAt b0 B p) d.r d.c = at2 b0 d.r d.c := by
  have ok := g.okAt hi h
  exact (cells_bd g p).other _ _ ok.r ok.c fun e he => next_apart g hi h e he
theorem next_cells (g : Good R C b0 B) (hb : p.length = B.length) (hi : i < B.length) (h : (dsAt B i)[pl p i]? = some d) : d.ap (cellsAt b0 B p) = cellsAt b0 B (inc p i) := by
  refine Bd.unique (fun e => ?_) ((cells_bd g p).ap (g.okAt hi h) (next_apart g hi h)) (cells_bd g (inc p i))
  rw [mem_done, mem_done]
  constructor
  · rintro (⟨i', j, hi', hj, e'⟩ | rfl)
    · refine ⟨i', j, hi', ?_, e'⟩
      rw [pl_inc (by omega)]
      split
      · rename_i z; subst z; omega
      · exact hj
    · exact ⟨i, pl p i, hi, by rw [pl_inc (by omega), if_pos rfl]; omega, h⟩
  · rintro ⟨i', j, hi', hj, e'⟩
    rw [pl_inc (by omega)] at hj
    split at hj
    · rename_i z
      subst z
      by_cases q : j = pl p i'
      · subst q
        rw [h] at e'
        exact .inr (Option.some.inj e').symm
      · exact .inl ⟨i', j, hi', by omega, e'⟩
    · exact .inl ⟨i', j, hi', hj, e'⟩
theorem next_some (h : pl p i < sz B i) : ∃ d, (dsAt B i)[pl p i]? = some d := ⟨_, List.getElem?_eq_getElem h⟩
end
noncomputable instance (b : Brd) : Decidable (Holds b) := Classical.propDecidable _
def hold (b0 : Brd) (B : Bld) (p : Plc) : Prop := Holds (cellsAt b0 B p)
noncomputable instance (b0 : Brd) (B : Bld) (p : Plc) : Decidable (hold b0 B p) := Classical.propDecidable _

/-! ### ends firm -/
inductive EF (b0 : Brd) (B : Bld) : Plc → Prop where
  | full {p : Plc} : hold b0 B p → Full B p → EF b0 B p
  | step {p : Plc} {i : Nat} : hold b0 B p → i < B.length → pl p i < sz B i → EF b0 B (inc p i) → EF b0 B p
noncomputable instance (b0 : Brd) (B : Bld) (p : Plc) : Decidable (EF b0 B p) := Classical.propDecidable _
theorem EF.hold {b0 : Brd} {B : Bld} {p : Plc} (h : EF b0 B p) : hold b0 B p := by cases h <;> assumption
theorem ef_iff {b0 : Brd} {B : Bld} {p : Plc} : EF b0 B p ↔ Wv.hold b0 B p ∧ (Full B p ∨ ∃ i, i < B.length ∧ pl p i < sz B i ∧ EF b0 B (inc p i)) := by
  constructor
  · intro h
    cases h with
    | full h f => exact ⟨h, .inl f⟩
    | step h hi hl e => exact ⟨h, .inr ⟨_, hi, hl, e⟩⟩
  · rintro ⟨h, f | ⟨i, hi, hl, e⟩⟩
    · exact .full h f
    · exact .step h hi hl e

/-! ### the fills ahead of the cuts -/
section
variable {R C : Nat} {b0 : Brd} {B : Bld} {p : Plc}
/-- the number of fills of a builder -/
def nf (B : Bld) (i : Nat) : Nat := ((dsAt B i).filter (·.fill)).length
theorem nf_le (i : Nat) : nf B i ≤ sz B i := List.length_filter_le _ _
theorem nf_fill (g : Good R C b0 B) {i j : Nat} {d : Deed} (hi : i < B.length) (h : (dsAt B i)[j]? = some d) : d.fill = true ↔ j < nf B i := by
  obtain ⟨fs, cs, e, h1, h2⟩ := g.order _ (dsAt_mem hi)
  have en : nf B i = fs.length := by
    unfold nf
    rw [e, List.filter_append, List.filter_eq_self.mpr h1, List.filter_eq_nil_iff.mpr (fun d hd => by rw [h2 d hd]; decide), List.append_nil]
  rw [e] at h
  rw [en]
  constructor
  · intro hf
    apply Classical.byContradiction
    intro c
    rw [List.getElem?_append_right (by omega)] at h
    have := h2 d (List.mem_of_getElem? h)
    rw [this] at hf; cases hf
  · intro lt
    rw [List.getElem?_append_left lt] at h
    exact h1 d (List.mem_of_getElem? h)
theorem stp_sub {a b : Brd} (ha : Rect R C a) (hb : Rect R C b) (hR : 0 < R) (h : ∀ r c, r < R → c < C → at2 a r c = 46 ∨ at2 a r c = at2 b r c) (x y : Nat) (s : Stp a x y) : Stp b x y := by
  obtain ⟨r, c, hr, hc, q⟩ := (stp_iff ha hR).mp s
  refine (stp_iff hb hR).mpr ⟨r, c, hr, hc, ?_⟩
  rcases h r c hr hc with e | e
  · rw [e] at q; omega
  · rw [← e]; exact q
/-- while only fills are done the steps at first are there -/
theorem hold_fills (g : Good R C b0 B) (h0 : Holds b0) (h : ∀ i, i < B.length → pl p i ≤ nf B i) : hold b0 B p := by
  have rp := cells_rect g p
  refine h0.mono (by rw [g.rect.many g.R0, rp.many g.R0]) (stp_sub g.rect rp g.R0 fun r c hr hc => ?_)
  by_cases q : ∃ d, d ∈ done B p ∧ d.r = r ∧ d.c = c
  · obtain ⟨d, hd, rfl, rfl⟩ := q
    obtain ⟨i, j, hi, hj, e⟩ := mem_done.mp hd
    have := h i hi
    exact .inl ((g.okAt hi e).fil ((nf_fill g hi e).mpr (by omega))).1
  · exact .inr ((cells_bd g p).other r c hr hc fun d hd z => q ⟨d, hd, z⟩).symm
/-- when all fills are done the steps at last are there -/
theorem hold_cuts (g : Good R C b0 B) (hp : Box B p) (h1 : hold b0 B (full B)) (h : ∀ i, i < B.length → nf B i ≤ pl p i) : hold b0 B p := by
  have rp := cells_rect g p
  have rf := cells_rect g (full B)
  refine Holds.mono (by rw [rf.many g.R0, rp.many g.R0]) (stp_sub rf rp g.R0 fun r c hr hc => ?_) h1
  by_cases q : ∃ d, d ∈ done B (full B) ∧ d.r = r ∧ d.c = c
  · obtain ⟨d, hd, rfl, rfl⟩ := q
    obtain ⟨i, j, hi, hj, e⟩ := mem_done.mp hd
    by_cases f : d.fill = true
    · have := (nf_fill g hi e).mp f
      have := h i hi
      refine .inr ?_
      rw [(cells_bd g (full B)).named d hd, (cells_bd g p).named d (mem_done.mpr ⟨i, j, hi, by omega, e⟩)]
    · refine .inl ?_
      rw [(cells_bd g (full B)).named d hd]
      exact ((g.okAt hi e).cut (by simpa using f)).2
  · refine .inr ?_
    rw [(cells_bd g (full B)).other r c hr hc fun d hd z => q ⟨d, hd, z⟩]
    refine ((cells_bd g p).other r c hr hc fun d hd z => q ⟨d, ?_, z⟩).symm
    obtain ⟨i, j, hi, hj, e⟩ := mem_done.mp hd
    refine mem_done.mpr ⟨i, j, hi, ?_, e⟩
    rw [pl_full hi]
    exact Nat.lt_of_lt_of_le hj (hp.le i hi)
theorem ef_cuts (g : Good R C b0 B) (h1 : hold b0 B (full B)) : ∀ (n : Nat) (p : Plc), Box B p → p.sum + n = total B → (∀ i, i < B.length → nf B i ≤ pl p i) → EF b0 B p
  | 0, p, hp, hs, h => by
    have e := hp.sum_full (by omega)
    subst e
    exact .full h1 (full_Full B)
  | n + 1, p, hp, hs, h => by
    obtain ⟨i, hi, hl⟩ := hp.not_full fun f => by
      have := full_eq hp f
      have : p.sum = total B := by rw [this]; rfl
      omega
    have hi' : i < p.length := by rw [hp.len]; exact hi
    refine .step (hold_cuts g hp h1 h) hi hl (ef_cuts g h1 n _ (hp.inc hi hl) (by rw [sum_inc hi']; omega) fun k hk => ?_)
    rw [pl_inc hi']
    split
    · rename_i e; subst e; have := h k hk; omega
    · exact h k hk
theorem ef_fills (g : Good R C b0 B) (h0 : Holds b0) (h1 : hold b0 B (full B)) : ∀ (n : Nat) (p : Plc), Box B p → p.sum + n = total B → (∀ i, i < B.length → pl p i ≤ nf B i) → EF b0 B p := by
  intro n
  induction n with
  | zero =>
    intro p hp hs h
    have e := hp.sum_full (by omega)
    subst e
    exact .full h1 (full_Full B)
  | succ n ih =>
    intro p hp hs h
    by_cases q : ∃ i, i < B.length ∧ pl p i < nf B i
    · obtain ⟨i, hi, hl⟩ := q
      have hi' : i < p.length := by rw [hp.len]; exact hi
      have hl' : pl p i < sz B i := Nat.lt_of_lt_of_le hl (nf_le i)
      refine .step (hold_fills g h0 h) hi hl' (ih _ (hp.inc hi hl') (by rw [sum_inc hi']; omega) fun k hk => ?_)
      rw [pl_inc hi']
      split
      · rename_i e; subst e; omega
      · exact h k hk
    · refine ef_cuts g h1 _ p hp hs fun i hi => ?_
      have : ¬ pl p i < nf B i := fun z => q ⟨i, hi, z⟩
      omega
theorem ef_last : ∀ {p : Plc}, Box B p → EF b0 B p → hold b0 B (full B) := by
  intro p hp h
  induction h with
  | full h f => rw [← full_eq hp f]; exact h
  | step _ hi hl _ ih => exact ih (hp.inc hi hl)
/-- THE LAW: there is a firm order just if the board holds ahead of all and behind all -/
theorem ef_zero (g : Good R C b0 B) : EF b0 B (zero B) ↔ Holds b0 ∧ Holds (cellsAt b0 B (full B)) := by
  constructor
  · intro h
    refine ⟨?_, ef_last (Box.zero B) h⟩
    have := h.hold
    unfold Wv.hold at this
    rw [cells_zero] at this
    exact this
  · rintro ⟨h0, h1⟩
    exact ef_fills g h0 h1 _ _ (Box.zero B) (Nat.add_sub_of_le (Box.zero B).sum_le) fun i _ => by rw [pl_zero]; exact Nat.zero_le _
end
end Wv
end
section
/-! Orders, layer by layer; how many there are: plain Lean. -/
namespace Wv
set_option linter.all false

/-! ### layers -/
def stepIn (B : Bld) (p : Plc) (acc : List Plc) (i : Nat) : List Plc := if pl p i < sz B i ∧ inc p i ∉ acc then acc ++ [inc p i] else acc
def rowIn (B : Bld) (acc : List Plc) (p : Plc) : List Plc := (List.range B.length).foldl (stepIn B p) acc
def nextL (B : Bld) (L : List Plc) : List Plc := L.foldl (rowIn B) []
def layerN (B : Bld) : Nat → List Plc
  | 0 => [zero B]
  | k + 1 => nextL B (layerN B k)
theorem mem_stepIn {B : Bld} {p q : Plc} {acc : List Plc} {i : Nat} : q ∈ stepIn B p acc i ↔ q ∈ acc ∨ (pl p i < sz B i ∧ q = inc p i) := by
  unfold stepIn
  split
  · rename_i h
    rw [List.mem_append, List.mem_singleton]
    exact ⟨fun z => z.elim .inl fun e => .inr ⟨h.1, e⟩, fun z => z.elim .inl fun e => .inr e.2⟩
  · rename_i h
    refine ⟨.inl, fun z => z.elim id fun e => ?_⟩
    apply Classical.byContradiction
    intro c
    exact h ⟨e.1, by rw [← e.2]; exact c⟩
theorem nodup_snoc {α : Type} {l : List α} {a : α} (h : l.Nodup) (n : a ∉ l) : (l ++ [a]).Nodup := by
  rw [List.nodup_append]
  exact ⟨h, by simp, fun x hx y hy e => by
    rw [List.mem_singleton] at hy
    subst hy; subst e; exact n hx⟩
theorem nodup_stepIn {B : Bld} {p : Plc} {acc : List Plc} {i : Nat} (h : acc.Nodup) : (stepIn B p acc i).Nodup := by
  unfold stepIn
  split
  · rename_i c; exact nodup_snoc h c.2
  · exact h
theorem mem_steps {B : Bld} {p q : Plc} {acc : List Plc} : ∀ {n : Nat}, q ∈ (List.range n).foldl (stepIn B p) acc ↔ q ∈ acc ∨ ∃ i, i < n ∧ pl p i < sz B i ∧ q = inc p i
  | 0 => by simp
  | n + 1 => by
    rw [List.range_succ, List.foldl_append, List.foldl_cons, List.foldl_nil, mem_stepIn, mem_steps]
    constructor
    · rintro ((h | ⟨i, h1, h2⟩) | h)
      · exact .inl h
      · exact .inr ⟨i, by omega, h2⟩
      · exact .inr ⟨n, by omega, h⟩
    · rintro (h | ⟨i, h1, h2⟩)
      · exact .inl (.inl h)
      · by_cases e : i = n
        · subst e; exact .inr h2
        · exact .inl (.inr ⟨i, by omega, h2⟩)
theorem nodup_steps {B : Bld} {p : Plc} {acc : List Plc} (h : acc.Nodup) : ∀ (n : Nat), ((List.range n).foldl (stepIn B p) acc).Nodup
  | 0 => h
  | n + 1 => by
    rw [List.range_succ, List.foldl_append]
    exact nodup_stepIn (nodup_steps h n)
theorem mem_rows {B : Bld} {q : Plc} : ∀ {L acc : List Plc}, q ∈ L.foldl (rowIn B) acc ↔ q ∈ acc ∨ ∃ p, p ∈ L ∧ ∃ i, i < B.length ∧ pl p i < sz B i ∧ q = inc p i
  | [], acc => by simp
  | p :: L, acc => by
    rw [List.foldl_cons, mem_rows]
    unfold rowIn
    rw [mem_steps]
    constructor
    · rintro ((h | h) | ⟨p', h1, h2⟩)
      · exact .inl h
      · exact .inr ⟨p, by simp, h⟩
      · exact .inr ⟨p', by simp [h1], h2⟩
    · rintro (h | ⟨p', h1, h2⟩)
      · exact .inl (.inl h)
      · rcases List.mem_cons.mp h1 with rfl | h1
        · exact .inl (.inr h2)
        · exact .inr ⟨p', h1, h2⟩
theorem nodup_rows {B : Bld} : ∀ {L acc : List Plc}, acc.Nodup → (L.foldl (rowIn B) acc).Nodup
  | [], _, h => h
  | p :: L, acc, h => by
    rw [List.foldl_cons]
    exact nodup_rows (nodup_steps h _)

/-! ### one back -/
def dec (p : Plc) (i : Nat) : Plc := p.set i (pl p i - 1)
theorem dec_length (p : Plc) (i : Nat) : (dec p i).length = p.length := by simp [dec]
theorem pl_dec {p : Plc} {i : Nat} (h : i < p.length) (k : Nat) : pl (dec p i) k = if k = i then pl p i - 1 else pl p k := by
  unfold pl dec
  simp only [List.getD_eq_getElem?_getD, List.getElem?_set]
  by_cases e : i = k
  · subst e; simp [h, pl]
  · rw [if_neg e, if_neg fun z => e z.symm]
theorem pl_out {p : Plc} {i : Nat} (h : p.length ≤ i) : pl p i = 0 := by
  unfold pl; simp [List.getD, List.getElem?_eq_none h]
theorem inc_dec {p : Plc} {i : Nat} (h : 0 < pl p i) : inc (dec p i) i = p := by
  have hi : i < p.length := by
    apply Classical.byContradiction
    intro c
    rw [pl_out (by omega)] at h; omega
  refine plc_ext (by rw [inc_length, dec_length]) fun k _ => ?_
  rw [pl_inc (by rw [dec_length]; exact hi), pl_dec hi, pl_dec hi]
  split
  · rename_i e; subst e; rw [if_pos rfl]; omega
  · rfl
theorem dec_inc {p : Plc} {i : Nat} (hi : i < p.length) : dec (inc p i) i = p := by
  refine plc_ext (by rw [dec_length, inc_length]) fun k _ => ?_
  rw [pl_dec (by rw [inc_length]; exact hi), pl_inc hi, pl_inc hi]
  split
  · rename_i e; subst e; rw [if_pos rfl]; omega
  · rfl
theorem inc_eq_iff {p q : Plc} {i : Nat} (hi : i < p.length) : q = inc p i ↔ 0 < pl q i ∧ dec q i = p := by
  constructor
  · rintro rfl
    exact ⟨by rw [pl_inc hi, if_pos rfl]; omega, dec_inc hi⟩
  · rintro ⟨h, rfl⟩
    exact (inc_dec h).symm
theorem sum_dec {p : Plc} {i : Nat} (h : 0 < pl p i) : (dec p i).sum + 1 = p.sum := by
  have hi : i < p.length := by
    apply Classical.byContradiction
    intro c
    rw [pl_out (by omega)] at h; omega
  have := sum_inc (p := dec p i) (i := i) (by rw [dec_length]; exact hi)
  rw [inc_dec h] at this
  omega
theorem Box.dec {B : Bld} {p : Plc} (h : Box B p) (i : Nat) : Box B (dec p i) := by
  refine ⟨by rw [dec_length, h.len], fun k hk => ?_⟩
  have := h.le k hk
  by_cases hi : i < p.length
  · rw [pl_dec hi]
    split
    · rename_i e; subst e; omega
    · exact this
  · unfold Wv.dec
    rw [List.set_eq_of_length_le (by omega)]
    exact this
theorem pos_of_sum : ∀ {p : Plc}, 0 < p.sum → ∃ i, i < p.length ∧ 0 < pl p i
  | [], h => by simp at h
  | a :: p, h => by
    by_cases ha : 0 < a
    · exact ⟨0, by simp, ha⟩
    · simp only [List.sum_cons] at h
      obtain ⟨i, hi, hp⟩ := pos_of_sum (p := p) (by omega)
      exact ⟨i + 1, by simpa using hi, hp⟩
theorem mem_layer {B : Bld} {q : Plc} : ∀ {k : Nat}, q ∈ layerN B k ↔ Box B q ∧ q.sum = k
  | 0 => by
    show q ∈ [zero B] ↔ _
    rw [List.mem_singleton]
    constructor
    · rintro rfl; exact ⟨Box.zero B, zero_sum B⟩
    · rintro ⟨h, e⟩
      rw [sum_zero q e, h.len]; rfl
  | k + 1 => by
    show q ∈ nextL B (layerN B k) ↔ _
    unfold nextL
    rw [mem_rows]
    constructor
    · rintro (h | ⟨p, hp, i, hi, hl, rfl⟩)
      · simp at h
      · obtain ⟨hb, hs⟩ := mem_layer.mp hp
        exact ⟨hb.inc hi hl, by rw [sum_inc (by rw [hb.len]; exact hi), hs]⟩
    · rintro ⟨hb, hs⟩
      obtain ⟨i, hi, hp⟩ := pos_of_sum (p := q) (by omega)
      have hi' : i < B.length := by rw [← hb.len]; exact hi
      refine .inr ⟨dec q i, mem_layer.mpr ⟨hb.dec i, by have := sum_dec hp; omega⟩, i, hi', ?_, (inc_dec hp).symm⟩
      rw [pl_dec hi, if_pos rfl]
      have := hb.le i hi'
      omega
theorem nodup_layer {B : Bld} : ∀ (k : Nat), (layerN B k).Nodup
  | 0 => by show [zero B].Nodup; simp
  | k + 1 => nodup_rows (by simp)
theorem layer_empty {B : Bld} {k : Nat} (h : layerN B k = []) : ∀ j, layerN B (k + j) = []
  | 0 => h
  | j + 1 => by show nextL B (layerN B (k + j)) = []; rw [layer_empty h j]; rfl
theorem layer_le {B : Bld} {k : Nat} (h : layerN B k ≠ []) : k ≤ total B := by
  obtain ⟨p, hp⟩ := List.exists_mem_of_ne_nil _ h
  obtain ⟨hb, hs⟩ := mem_layer.mp hp
  rw [← hs]; exact hb.sum_le
/-- the keys of all layers ahead of the k-th -/
def keysTo (B : Bld) (k : Nat) : List Plc := (List.range k).flatMap (layerN B)
theorem keysTo_succ (B : Bld) (k : Nat) : keysTo B (k + 1) = keysTo B k ++ layerN B k := by simp [keysTo, List.range_succ]
theorem mem_keysTo {B : Bld} {k : Nat} {q : Plc} : q ∈ keysTo B k ↔ Box B q ∧ q.sum < k := by
  unfold keysTo
  rw [List.mem_flatMap]
  constructor
  · rintro ⟨j, hj, hq⟩
    obtain ⟨hb, hs⟩ := mem_layer.mp hq
    have := List.mem_range.mp hj
    exact ⟨hb, by omega⟩
  · rintro ⟨hb, hs⟩
    exact ⟨q.sum, List.mem_range.mpr hs, mem_layer.mpr ⟨hb, rfl⟩⟩
structure OrdOk (B : Bld) (L : List Plc) : Prop where
  nodup : L.Nodup
  mem : ∀ p, p ∈ L ↔ Box B p
  sorted : L.Pairwise fun p q => p.sum ≤ q.sum
theorem nodup_keysTo (B : Bld) : ∀ k, (keysTo B k).Nodup
  | 0 => by simp [keysTo]
  | k + 1 => by
    rw [keysTo_succ, List.nodup_append]
    refine ⟨nodup_keysTo B k, nodup_layer k, fun a ha b hb e => ?_⟩
    subst e
    have := (mem_keysTo.mp ha).2
    have := (mem_layer.mp hb).2
    omega
theorem sorted_keysTo (B : Bld) : ∀ k, (keysTo B k).Pairwise fun p q => p.sum ≤ q.sum
  | 0 => by simp [keysTo]
  | k + 1 => by
    rw [keysTo_succ, List.pairwise_append]
    refine ⟨sorted_keysTo B k, ?_, fun a ha b hb => ?_⟩
    · rw [List.pairwise_iff_getElem]
      intro i j hi hj _
      have a := (mem_layer.mp (List.getElem_mem hi)).2
      have b := (mem_layer.mp (List.getElem_mem hj)).2
      omega
    · have := (mem_keysTo.mp ha).2
      have := (mem_layer.mp hb).2
      omega
theorem ordOk_end {B : Bld} {k : Nat} (h : layerN B k = []) : OrdOk B (keysTo B k) := by
  refine ⟨nodup_keysTo B k, fun p => ⟨fun hp => (mem_keysTo.mp hp).1, fun hb => mem_keysTo.mpr ⟨hb, ?_⟩⟩, sorted_keysTo B k⟩
  apply Classical.byContradiction
  intro c
  have e := layer_empty h (p.sum - k)
  have hp : p ∈ layerN B p.sum := mem_layer.mpr ⟨hb, rfl⟩
  rw [show k + (p.sum - k) = p.sum by omega] at e
  rw [e] at hp
  simp at hp

/-! ### how many keys -/
theorem nodup_lt_len : ∀ (n : Nat) (l : List Nat), l.Nodup → (∀ x ∈ l, x < n) → l.length ≤ n
  | 0, l, _, h => by
    cases l with
    | nil => simp
    | cons a r => exact absurd (h a (by simp)) (by omega)
  | n + 1, l, hn, h => by
    have h1 := nodup_lt_len n (l.filter (· ≠ n)) (List.Pairwise.filter _ hn) fun x hx => by
      rw [List.mem_filter] at hx
      have := h x hx.1
      have h3 : x ≠ n := by simpa using hx.2
      omega
    have h2 : l.length ≤ (l.filter (· ≠ n)).length + 1 := by
      clear h h1
      induction l with
      | nil => simp
      | cons a r ih =>
        rw [List.nodup_cons] at hn
        by_cases e : a = n
        · subst e
          have : r.filter (· ≠ a) = r := by
            rw [List.filter_eq_self]
            intro x hx
            have : x ≠ a := fun z => hn.1 (z ▸ hx)
            simpa using this
          rw [List.filter_cons_of_neg (by simp), this]
          simp
        · rw [List.filter_cons_of_pos (by simpa using e)]
          have := ih hn.2
          simp only [List.length_cons]
          omega
    omega
/-- a number for each place -/
def code : Plc → Nat
  | [] => 0
  | a :: p => a + 7 * code p
theorem code_inj : ∀ {p q : Plc}, p.length = q.length → (∀ i, pl p i ≤ 6) → (∀ i, pl q i ≤ 6) → code p = code q → p = q
  | [], [], _, _, _, _ => rfl
  | a :: p, b :: q, hl, hp, hq, h => by
    have a6 : a ≤ 6 := hp 0
    have b6 : b ≤ 6 := hq 0
    simp only [code] at h
    have := code_inj (p := p) (q := q) (by simpa using hl) (fun i => hp (i + 1)) (fun i => hq (i + 1)) (by omega)
    subst this
    rw [show a = b by omega]
theorem code_lt : ∀ {p : Plc}, (∀ i, pl p i ≤ 6) → code p < 7 ^ p.length
  | [], _ => by simp [code]
  | a :: p, h => by
    have a6 : a ≤ 6 := h 0
    have := code_lt (p := p) fun i => h (i + 1)
    simp only [code, List.length_cons, Nat.pow_succ]
    omega
structure Few (B : Bld) : Prop where
  pos : 0 < B.length
  most : B.length ≤ 3
  size : ∀ i, sz B i ≤ 6
theorem box_few {B : Bld} (f : Few B) {L : List Plc} (hn : L.Nodup) (h : ∀ p ∈ L, Box B p) : L.length ≤ 343 := by
  have le6 : ∀ p, Box B p → ∀ i, pl p i ≤ 6 := fun p hb i => by
    by_cases hi : i < B.length
    · exact Nat.le_trans (hb.le i hi) (f.size i)
    · rw [pl_out (by rw [hb.len]; omega)]; omega
  have hm : (L.map code).Nodup := by
    rw [List.nodup_iff_pairwise_ne, List.pairwise_map]
    refine List.Pairwise.imp_of_mem ?_ hn
    intro a b ha hb hne e
    exact hne (code_inj (by rw [(h a ha).len, (h b hb).len]) (le6 a (h a ha)) (le6 b (h b hb)) e)
  have := nodup_lt_len 343 (L.map code) hm fun x hx => by
    obtain ⟨p, hp, rfl⟩ := List.mem_map.mp hx
    have c := code_lt (le6 p (h p hp))
    have : 7 ^ p.length ≤ 7 ^ 3 := Nat.pow_le_pow_right (by omega) (by rw [(h p hp).len]; exact f.most)
    have e : (7 : Nat) ^ 3 = 343 := by decide
    omega
  simpa using this
theorem total_le {B : Bld} (f : Few B) : total B ≤ 18 := by
  unfold total
  have : ∀ (n : Nat) (l : List Nat), l.length ≤ n → (∀ x ∈ l, x ≤ 6) → l.sum ≤ 6 * n := by
    intro n
    induction n with
    | zero => intro l hl h; cases l with
      | nil => simp
      | cons a r => simp at hl
    | succ n ih =>
      intro l hl h
      cases l with
      | nil => simp
      | cons a r =>
        have h1 := h a (by simp)
        have h2 := ih r (by simpa using hl) fun x hx => h x (by simp [hx])
        simp only [List.sum_cons]; omega
  refine Nat.le_trans (this 3 (full B) (by simpa [full] using f.most) fun x hx => ?_) (by omega)
  unfold full at hx
  obtain ⟨ds, hds, rfl⟩ := List.mem_map.mp hx
  obtain ⟨i, hi, rfl⟩ := List.mem_iff_getElem.mp hds
  have := f.size i
  unfold sz dsAt at this
  simpa [List.getD, List.getElem?_eq_getElem hi] using this

/-! ### numbers of orders -/
def choose : Nat → Nat → Nat
  | _, 0 => 1
  | 0, _ + 1 => 0
  | n + 1, k + 1 => choose n k + choose n (k + 1)
theorem choose_zero (n : Nat) : choose n 0 = 1 := by cases n <;> rfl
theorem choose_succ (n k : Nat) : choose (n + 1) (k + 1) = choose n k + choose n (k + 1) := rfl
theorem choose_gt : ∀ {n k : Nat}, n < k → choose n k = 0
  | 0, k + 1, _ => rfl
  | n + 1, k + 1, h => by
    rw [choose_succ, choose_gt (by omega), choose_gt (by omega)]
theorem choose_self : ∀ (n : Nat), choose n n = 1
  | 0 => rfl
  | n + 1 => by rw [choose_succ, choose_self n, choose_gt (by omega)]
theorem choose_mul : ∀ (n k : Nat), (n + 1) * choose n k = choose (n + 1) (k + 1) * (k + 1)
  | 0, 0 => rfl
  | 0, k + 1 => by rw [choose_gt (by omega), choose_gt (by omega)]; simp
  | n + 1, 0 => by
    have := choose_mul n 0
    rw [choose_succ (n + 1) 0, choose_zero] at *
    simp only [Nat.mul_one, choose_zero] at *
    omega
  | n + 1, k + 1 => by
    have h1 := choose_mul n k
    have h2 := choose_mul n (k + 1)
    have eS := choose_succ n k
    have eT := choose_succ n (k + 1)
    rw [choose_succ (n + 1) (k + 1)]
    rw [← eT] at *
    generalize choose (n + 1) (k + 1 + 1) = T at *
    have e1 : (n + 1) * choose (n + 1) (k + 1) = (n + 1) * choose n k + (n + 1) * choose n (k + 1) := by rw [eS, Nat.mul_add]
    generalize choose (n + 1) (k + 1) = S at *
    rw [Nat.add_mul (n + 1) 1, e1, h1, h2, Nat.add_mul S T, Nat.mul_add S (k + 1) 1]
    omega
/-- how many orders: the rows of so many deeds each, ahead of them b -/
def ordN : Nat → List Nat → Nat
  | _, [] => 1
  | b, x :: xs => choose (b + x) x * ordN (b + x) xs
/-- one turn of the law's inner loop -/
theorem whole_step (f b t : Nat) : f * choose (b + t) t * (b + t + 1) / (t + 1) = f * choose (b + t + 1) (t + 1) := by
  have h := choose_mul (b + t) t
  have e : f * choose (b + t) t * (b + t + 1) = f * choose (b + t + 1) (t + 1) * (t + 1) := by
    rw [Nat.mul_assoc, Nat.mul_comm (choose (b + t) t), h, Nat.mul_assoc]
  rw [e, Nat.mul_div_cancel _ (by omega)]
/-- the sum over the ways one back -/
def backs (f : Plc → Nat) (p : Plc) : Nat := ((List.range p.length).map fun i => if 0 < pl p i then f (dec p i) else 0).sum
theorem backs_cons (f : Plc → Nat) (x : Nat) (xs : Plc) : backs f (x :: xs) = (if 0 < x then f ((x - 1) :: xs) else 0) + backs (fun q => f (x :: q)) xs := by
  unfold backs
  rw [List.length_cons, List.range_succ_eq_map, List.map_cons, List.sum_cons, List.map_map]
  congr 1
theorem backs_congr {f g : Plc → Nat} {p : Plc} (h : ∀ i, 0 < pl p i → f (dec p i) = g (dec p i)) : backs f p = backs g p := by
  unfold backs
  congr 1
  refine List.map_congr_left fun i _ => ?_
  split
  · rename_i hi; exact h i hi
  · rfl
theorem backs_mul (c : Nat) (f : Plc → Nat) (p : Plc) : backs (fun q => c * f q) p = c * backs f p := by
  unfold backs
  generalize List.range p.length = l
  induction l with
  | nil => simp
  | cons a l ih =>
    rw [List.map_cons, List.sum_cons, ih, List.map_cons, List.sum_cons, Nat.mul_add]
    split <;> simp
theorem sum_pos_backs {p : Plc} (f : Plc → Nat) (h : p.sum = 0) : backs f p = 0 := by
  rw [sum_zero p h]
  unfold backs
  generalize hn : p.length = n
  have : ∀ (l : List Nat), (l.map fun i => if 0 < pl (List.replicate n 0) i then f (dec (List.replicate n 0) i) else 0).sum = 0 := by
    intro l
    induction l with
    | nil => rfl
    | cons a l ih =>
      rw [List.map_cons, List.sum_cons, ih]
      have : pl (List.replicate n 0) a = 0 := by
        unfold pl
        simp only [List.getD_eq_getElem?_getD, List.getElem?_replicate]
        split <;> rfl
      rw [this]; simp
  exact this _
theorem ordN_rec : ∀ (xs : List Nat) (b : Nat), 0 < b + xs.sum → ordN b xs = (if 0 < b then ordN (b - 1) xs else 0) + backs (ordN b) xs
  | [], b, h => by
    have hb : 0 < b := by simpa using h
    rw [if_pos hb]; simp [ordN, backs]
  | x :: xs, b, h => by
    rw [backs_cons]
    show choose (b + x) x * ordN (b + x) xs = _ + (_ + backs (fun q => choose (b + x) x * ordN (b + x) q) xs)
    rw [backs_mul]
    by_cases h0 : b + x = 0
    · have b0 : b = 0 := by omega
      have x0 : x = 0 := by omega
      subst b0; subst x0
      have := ordN_rec xs 0 (by simpa using h)
      simp only [Nat.lt_irrefl, if_false, Nat.zero_add] at this ⊢
      rw [← this]
    · have ih := ordN_rec xs (b + x) (by omega)
      rw [if_pos (by omega)] at ih
      have e : choose (b + x) x * ordN (b + x) xs = choose (b + x) x * ordN (b + x - 1) xs + choose (b + x) x * backs (ordN (b + x)) xs := by
        rw [← Nat.mul_add]; congr 1
      rw [e]
      have key : choose (b + x) x * ordN (b + x - 1) xs = (if 0 < b then ordN (b - 1) (x :: xs) else 0) + (if 0 < x then ordN b ((x - 1) :: xs) else 0) := by
        by_cases hb : 0 < b
        · by_cases hx : 0 < x
          · rw [if_pos hb, if_pos hx]
            obtain ⟨b', rfl⟩ : ∃ b', b = b' + 1 := ⟨b - 1, by omega⟩
            obtain ⟨x', rfl⟩ : ∃ x', x = x' + 1 := ⟨x - 1, by omega⟩
            show _ = choose (b' + 1 - 1 + (x' + 1)) (x' + 1) * ordN (b' + 1 - 1 + (x' + 1)) xs + choose (b' + 1 + (x' + 1 - 1)) (x' + 1 - 1) * ordN (b' + 1 + (x' + 1 - 1)) xs
            have e1 : b' + 1 + (x' + 1) = (b' + x' + 1) + 1 := by omega
            have e2 : b' + 1 - 1 + (x' + 1) = b' + x' + 1 := by omega
            have e3 : b' + 1 + (x' + 1 - 1) = b' + x' + 1 := by omega
            have e4 : x' + 1 - 1 = x' := by omega
            rw [e2, e3, e4, e1, choose_succ, show b' + x' + 1 + 1 - 1 = b' + x' + 1 by omega, ← Nat.add_mul, Nat.add_comm]
          · have x0 : x = 0 := by omega
            subst x0
            rw [if_pos hb, if_neg (by omega)]
            show _ = choose (b - 1 + 0) 0 * ordN (b - 1 + 0) xs + 0
            simp [choose_zero]
        · have b0 : b = 0 := by omega
          subst b0
          rw [if_neg hb, if_pos (by omega)]
          show _ = 0 + choose (0 + (x - 1)) (x - 1) * ordN (0 + (x - 1)) xs
          simp only [Nat.zero_add, choose_self, Nat.one_mul]
      rw [key]
      omega
theorem ordN_pos : ∀ (xs : List Nat) (b : Nat), 0 < ordN b xs
  | [], _ => by simp [ordN]
  | x :: xs, b => by
    show 0 < choose (b + x) x * ordN (b + x) xs
    have : 0 < choose (b + x) x := by
      have : ∀ (x n : Nat), x ≤ n → 0 < choose n x := by
        intro x
        induction x with
        | zero => intro n _; rw [choose_zero]; omega
        | succ x ih =>
          intro n hn
          obtain ⟨m, rfl⟩ : ∃ m, n = m + 1 := ⟨n - 1, by omega⟩
          rw [choose_succ]
          have := ih m (by omega)
          omega
      exact this x (b + x) (by omega)
    exact Nat.mul_pos this (ordN_pos xs (b + x))

/-! ### the ways, as they are counted -/
abbrev Wy := Plc → Nat
def way0 (B : Bld) : Wy := fun q => if q = zero B then 1 else 0
/-- one more way over p to its next by i -/
def bump (B : Bld) (p : Plc) (w : Wy) (i : Nat) : Wy := if pl p i < sz B i then fun q => if q = inc p i then w q + w p else w q else w
def bumps (B : Bld) (p : Plc) (n : Nat) (w : Wy) : Wy := (List.range n).foldl (bump B p) w
def proc (B : Bld) (w : Wy) (p : Plc) : Wy := bumps B p B.length w
theorem bumps_succ (B : Bld) (p : Plc) (n : Nat) (w : Wy) : bumps B p (n + 1) w = bump B p (bumps B p n w) n := by
  simp [bumps, List.range_succ]
theorem bumps_self {B : Bld} {p : Plc} (hb : Box B p) (w : Wy) : ∀ {n : Nat}, n ≤ B.length → bumps B p n w p = w p
  | 0, _ => rfl
  | n + 1, h => by
    rw [bumps_succ]
    unfold bump
    split
    · show (if p = inc p n then _ else _) = _
      rw [if_neg, bumps_self hb w (by omega)]
      intro e
      have := sum_inc (p := p) (i := n) (by rw [hb.len]; omega)
      rw [← e] at this; omega
    · exact bumps_self hb w (by omega)
theorem bumps_at {B : Bld} {p q : Plc} (hb : Box B p) (w : Wy) : ∀ {n : Nat}, n ≤ B.length → bumps B p n w q = w q + ((List.range n).map fun i => if pl p i < sz B i ∧ q = inc p i then w p else 0).sum
  | 0, _ => by simp [bumps]
  | n + 1, h => by
    rw [bumps_succ, List.range_succ, List.map_append, List.sum_append, ← Nat.add_assoc, ← bumps_at hb w (by omega)]
    unfold bump
    simp only [List.map_cons, List.map_nil, List.sum_cons, List.sum_nil, Nat.add_zero]
    by_cases c : pl p n < sz B n
    · rw [if_pos c]
      show (if q = inc p n then _ else _) = _
      by_cases e : q = inc p n
      · rw [if_pos e, if_pos ⟨c, e⟩, bumps_self hb w (by omega)]
      · rw [if_neg e, if_neg (fun z => e z.2)]; rfl
    · rw [if_neg c, if_neg (fun z => c z.1)]; rfl
noncomputable instance (B : Bld) (p : Plc) : Decidable (Box B p) := Classical.propDecidable _
/-- what stands in the ways behind some states -/
def WayOk (B : Bld) (L : List Plc) (w : Wy) : Prop := ∀ q, w q = (if q = zero B then 1 else 0) + (if Box B q then ((List.range B.length).map fun i => if 0 < pl q i ∧ dec q i ∈ L then ordN 0 (dec q i) else 0).sum else 0)
theorem way_start (B : Bld) : WayOk B [] (way0 B) := fun q => by
  have : ∀ (l : List Nat), (l.map fun i => if 0 < pl q i ∧ dec q i ∈ ([] : List Plc) then ordN 0 (dec q i) else 0).sum = 0 := by
    intro l
    induction l with
    | nil => rfl
    | cons a l ih => rw [List.map_cons, List.sum_cons, ih, if_neg (by simp)]
  unfold way0
  rw [this]
  split <;> split <;> rfl
theorem map_sum_add (l : List Nat) (f g : Nat → Nat) : (l.map f).sum + (l.map g).sum = (l.map fun i => f i + g i).sum := by
  induction l with
  | nil => rfl
  | cons a l ih => simp only [List.map_cons, List.sum_cons]; omega
/-- at its turn a state's number of ways is whole -/
theorem way_at {B : Bld} {L1 L2 : List Plc} {p : Plc} {w : Wy} (o : OrdOk B (L1 ++ p :: L2)) (h : WayOk B L1 w) : w p = ordN 0 p := by
  have hb : Box B p := (o.mem p).mp (by simp)
  rw [h p, if_pos hb]
  by_cases hz : p.sum = 0
  · have e : p = zero B := by rw [sum_zero p hz, hb.len]; rfl
    rw [if_pos e]
    have : ((List.range B.length).map fun i => if 0 < pl p i ∧ dec p i ∈ L1 then ordN 0 (dec p i) else 0).sum = 0 := by
      generalize List.range B.length = l
      induction l with
      | nil => rfl
      | cons a l ih => rw [List.map_cons, List.sum_cons, ih, if_neg (by rw [e, pl_zero]; omega)]
    rw [this]
    have : ∀ (n b : Nat), ordN b (List.replicate n 0) = 1 := by
      intro n
      induction n with
      | zero => intro b; rfl
      | succ n ih => intro b; rw [List.replicate_succ]; show choose (b + 0) 0 * ordN (b + 0) _ = 1; rw [choose_zero, ih]
    rw [e]; exact (this _ _).symm
  · have ne : p ≠ zero B := fun e => hz (by rw [e, zero_sum])
    rw [if_neg ne, ordN_rec p 0 (by omega), if_neg (by omega)]
    congr 1
    unfold backs
    rw [hb.len]
    congr 1
    refine List.map_congr_left fun i _ => ?_
    by_cases c : 0 < pl p i
    · rw [if_pos c, if_pos]
      refine ⟨c, ?_⟩
      have hd : dec p i ∈ L1 ++ p :: L2 := (o.mem _).mpr (hb.dec i)
      rcases List.mem_append.mp hd with z | z
      · exact z
      · exfalso
        have hs := sum_dec c
        rcases List.mem_cons.mp z with z | z
        · rw [z] at hs; omega
        · have := (List.pairwise_append.mp o.sorted).2.1
          rw [List.pairwise_cons] at this
          have := this.1 _ z
          omega
    · rw [if_neg c, if_neg (fun z => c z.1)]
theorem way_next {B : Bld} {L1 L2 : List Plc} {p : Plc} {w : Wy} (o : OrdOk B (L1 ++ p :: L2)) (h : WayOk B L1 w) : WayOk B (L1 ++ [p]) (proc B w p) := fun q => by
  have hb : Box B p := (o.mem p).mp (by simp)
  have np : p ∉ L1 := fun z => by
    have := (List.nodup_append.mp o.nodup).2.2 p z p (by simp)
    exact this rfl
  unfold proc
  rw [bumps_at hb w (Nat.le_refl _), way_at o h, h q]
  by_cases hq : Box B q
  · rw [if_pos hq, if_pos hq, Nat.add_assoc, map_sum_add]
    congr 2
    refine List.map_congr_left fun i hi => ?_
    have hi := List.mem_range.mp hi
    have hi' : i < p.length := by rw [hb.len]; exact hi
    by_cases e : q = inc p i
    · have hd := (inc_eq_iff hi').mp e
      have hl : pl p i < sz B i := by
        have := hq.le i hi
        rw [e, pl_inc hi', if_pos rfl] at this
        omega
      rw [if_neg (by rw [hd.2]; exact fun z => np z.2), if_pos ⟨hl, e⟩, if_pos ⟨hd.1, by rw [hd.2]; simp⟩, hd.2]
      omega
    · rw [if_neg (show ¬ (pl p i < sz B i ∧ q = inc p i) from fun z => e z.2), Nat.add_zero]
      by_cases c : 0 < pl q i ∧ dec q i ∈ L1
      · rw [if_pos c, if_pos ⟨c.1, by simp [c.2]⟩]
      · rw [if_neg c, if_neg]
        rintro ⟨z1, z2⟩
        rcases List.mem_append.mp z2 with z | z
        · exact c ⟨z1, z⟩
        · exact e ((inc_eq_iff hi').mpr ⟨z1, by simpa using z⟩)
  · rw [if_neg hq, if_neg hq]
    have : ((List.range B.length).map fun i => if pl p i < sz B i ∧ q = inc p i then ordN 0 p else 0).sum = 0 := by
      have : ∀ (l : List Nat), (∀ i ∈ l, i < B.length) → (l.map fun i => if pl p i < sz B i ∧ q = inc p i then ordN 0 p else 0).sum = 0 := by
        intro l
        induction l with
        | nil => intro _; rfl
        | cons a l ih =>
          intro hl
          rw [List.map_cons, List.sum_cons, ih fun i hi => hl i (by simp [hi]), if_neg]
          rintro ⟨z1, rfl⟩
          exact hq (hb.inc (hl a (by simp)) z1)
      exact this _ fun i hi => List.mem_range.mp hi
    rw [this]
end Wv
end
section
/-! The least firm order: the law's greedy one, the program's layer by layer: plain Lean. -/
namespace Wv
set_option linter.all false

/-! ### the greedy order -/
/-- the builders whose next deed can be done with the rest firm -/
noncomputable def goods (b0 : Brd) (B : Bld) (p : Plc) (n : Nat) : List Nat := (List.range n).filter fun i => decide (pl p i < sz B i ∧ EF b0 B (inc p i))
theorem goods_succ (b0 : Brd) (B : Bld) (p : Plc) (n : Nat) : goods b0 B p (n + 1) = goods b0 B p n ++ (if pl p n < sz B n ∧ EF b0 B (inc p n) then [n] else []) := by
  unfold goods
  rw [List.range_succ, List.filter_append]
  congr 1
  by_cases h : pl p n < sz B n ∧ EF b0 B (inc p n)
  · rw [if_pos h, List.filter_cons_of_pos (by exact decide_eq_true h)]; rfl
  · rw [if_neg h, List.filter_cons_of_neg (by simpa using h)]; rfl
noncomputable def pick (b0 : Brd) (B : Bld) (p : Plc) : Nat := (goods b0 B p B.length).headD 0
noncomputable def gr (b0 : Brd) (B : Bld) : Nat → Plc × List Nat
  | 0 => (zero B, [])
  | k + 1 => (inc (gr b0 B k).1 (pick b0 B (gr b0 B k).1), (gr b0 B k).2 ++ [pick b0 B (gr b0 B k).1])
theorem pick_spec {b0 : Brd} {B : Bld} {p : Plc} (hb : Box B p) (h : EF b0 B p) (n : ¬ Full B p) :
    ∃ r, goods b0 B p B.length = pick b0 B p :: r ∧ pick b0 B p < B.length ∧ pl p (pick b0 B p) < sz B (pick b0 B p) ∧ EF b0 B (inc p (pick b0 B p)) ∧
      ∀ i, i < pick b0 B p → ¬ (pl p i < sz B i ∧ EF b0 B (inc p i)) := by
  obtain ⟨i, hi, hl, he⟩ := (ef_iff.mp h).2.resolve_left n
  have hm : i ∈ goods b0 B p B.length := by
    unfold goods
    exact List.mem_filter.mpr ⟨List.mem_range.mpr hi, decide_eq_true ⟨hl, he⟩⟩
  cases e : goods b0 B p B.length with
  | nil => rw [e] at hm; simp at hm
  | cons a r =>
    have ep : pick b0 B p = a := by unfold pick; rw [e]; rfl
    have ha : a ∈ goods b0 B p B.length := by rw [e]; simp
    have hs : (goods b0 B p B.length).Pairwise (· < ·) := by unfold goods; exact List.Pairwise.filter _ List.pairwise_lt_range
    unfold goods at ha
    rw [List.mem_filter] at ha
    have h1 := List.mem_range.mp ha.1
    have h2 := of_decide_eq_true ha.2
    rw [ep]
    refine ⟨r, rfl, h1, h2.1, h2.2, fun j hj c => ?_⟩
    have hjm : j ∈ goods b0 B p B.length := by
      unfold goods
      exact List.mem_filter.mpr ⟨List.mem_range.mpr (by omega), decide_eq_true c⟩
    rw [e] at hjm hs
    rw [List.pairwise_cons] at hs
    rcases List.mem_cons.mp hjm with rfl | z
    · omega
    · have := hs.1 j z; omega
theorem not_full_of_sum {B : Bld} {p : Plc} (hb : Box B p) (h : p.sum < total B) : ¬ Full B p := fun f => by
  have := full_eq hb f
  rw [this] at h
  exact absurd h (Nat.lt_irrefl _)
theorem gr_ok {b0 : Brd} {B : Bld} (h : EF b0 B (zero B)) : ∀ (k : Nat), k ≤ total B → Box B (gr b0 B k).1 ∧ (gr b0 B k).1.sum = k ∧ EF b0 B (gr b0 B k).1 ∧ (gr b0 B k).2.length = k ∧ ∀ i ∈ (gr b0 B k).2, i < B.length
  | 0, _ => ⟨Box.zero B, zero_sum B, h, rfl, fun i hi => by simp [gr] at hi⟩
  | k + 1, hk => by
    obtain ⟨hb, hs, he, hl, hi⟩ := gr_ok h k (by omega)
    obtain ⟨r, _, h1, h2, h3, _⟩ := pick_spec hb he (not_full_of_sum hb (by omega))
    refine ⟨hb.inc h1 h2, ?_, h3, ?_, ?_⟩
    · show (inc _ _).sum = _
      rw [sum_inc (by rw [hb.len]; exact h1), hs]
    · show ((gr b0 B k).2 ++ [_]).length = _
      rw [List.length_append, hl]; rfl
    · intro i hi'
      have hi' : i ∈ (gr b0 B k).2 ++ [pick b0 B (gr b0 B k).1] := hi'
      rcases List.mem_append.mp hi' with z | z
      · exact hi i z
      · rw [List.mem_singleton] at z; subst z; exact h1

/-! ### layer by layer -/
abbrev Ent := Plc × List Nat
noncomputable def stepF (b0 : Brd) (B : Bld) (e : Ent) (acc : List Ent) (i : Nat) : List Ent :=
  if pl e.1 i < sz B i ∧ inc e.1 i ∉ acc.map (·.1) ∧ hold b0 B (inc e.1 i) then acc ++ [(inc e.1 i, e.2 ++ [i])] else acc
noncomputable def rowF (b0 : Brd) (B : Bld) (acc : List Ent) (e : Ent) : List Ent := (List.range B.length).foldl (stepF b0 B e) acc
noncomputable def nextF (b0 : Brd) (B : Bld) (L : List Ent) : List Ent := L.foldl (rowF b0 B) []
noncomputable def layF (b0 : Brd) (B : Bld) : Nat → List Ent
  | 0 => if hold b0 B (zero B) then [(zero B, [])] else []
  | k + 1 => nextF b0 B (layF b0 B k)
/-- what is so of an entry at a level -/
structure EntOk (b0 : Brd) (B : Bld) (k : Nat) (e : Ent) : Prop where
  box : Box B e.1
  sum : e.1.sum = k
  hold : hold b0 B e.1
  len : e.2.length = k
  lt : ∀ i ∈ e.2, i < B.length
theorem stepF_ok {b0 : Brd} {B : Bld} {k : Nat} {e : Ent} {acc : List Ent} {i : Nat} (h : EntOk b0 B k e) (hi : i < B.length) (ha : ∀ a ∈ acc, EntOk b0 B (k + 1) a) : ∀ a ∈ stepF b0 B e acc i, EntOk b0 B (k + 1) a := by
  unfold stepF
  split
  · rename_i c
    intro a hm
    rcases List.mem_append.mp hm with z | z
    · exact ha a z
    · rw [List.mem_singleton] at z
      subst z
      refine ⟨h.box.inc hi c.1, ?_, c.2.2, ?_, fun j hj => ?_⟩
      · show (inc _ _).sum = _
        rw [sum_inc (by rw [h.box.len]; exact hi), h.sum]
      · show (e.2 ++ [i]).length = _
        rw [List.length_append, h.len]; rfl
      · rcases List.mem_append.mp hj with z | z
        · exact h.lt j z
        · rw [List.mem_singleton] at z; subst z; exact hi
  · exact ha
theorem stepsF_ok {b0 : Brd} {B : Bld} {k : Nat} {e : Ent} {acc : List Ent} (h : EntOk b0 B k e) (ha : ∀ a ∈ acc, EntOk b0 B (k + 1) a) : ∀ (n : Nat), n ≤ B.length → ∀ a ∈ (List.range n).foldl (stepF b0 B e) acc, EntOk b0 B (k + 1) a
  | 0, _ => ha
  | n + 1, hn => by
    rw [List.range_succ, List.foldl_append]
    exact stepF_ok h (by omega) (stepsF_ok h ha n (by omega))
theorem rowsF_ok {b0 : Brd} {B : Bld} {k : Nat} : ∀ {L acc : List Ent}, (∀ e ∈ L, EntOk b0 B k e) → (∀ a ∈ acc, EntOk b0 B (k + 1) a) → ∀ a ∈ L.foldl (rowF b0 B) acc, EntOk b0 B (k + 1) a
  | [], _, _, ha => ha
  | e :: L, acc, h, ha => by
    rw [List.foldl_cons]
    exact rowsF_ok (fun x hx => h x (by simp [hx])) (stepsF_ok (h e (by simp)) ha _ (Nat.le_refl _))
theorem layF_ok {b0 : Brd} {B : Bld} : ∀ (k : Nat), ∀ e ∈ layF b0 B k, EntOk b0 B k e
  | 0 => by
    intro e he
    unfold layF at he
    split at he
    · rename_i h
      rw [List.mem_singleton] at he
      subst he
      exact ⟨Box.zero B, zero_sum B, h, rfl, fun i hi => by simp at hi⟩
    · simp at he
  | k + 1 => rowsF_ok (layF_ok k) fun a ha => by simp at ha
/-- unlike entries stand at unlike places -/
theorem stepF_nodup {b0 : Brd} {B : Bld} {e : Ent} {acc : List Ent} {i : Nat} (h : (acc.map (·.1)).Nodup) : ((stepF b0 B e acc i).map (·.1)).Nodup := by
  unfold stepF
  split
  · rename_i c
    rw [List.map_append]
    exact nodup_snoc h c.2.1
  · exact h
theorem stepsF_nodup {b0 : Brd} {B : Bld} {e : Ent} {acc : List Ent} (h : (acc.map (·.1)).Nodup) : ∀ (n : Nat), (((List.range n).foldl (stepF b0 B e) acc).map (·.1)).Nodup
  | 0 => h
  | n + 1 => by
    rw [List.range_succ, List.foldl_append]
    exact stepF_nodup (stepsF_nodup h n)
theorem rowsF_nodup {b0 : Brd} {B : Bld} : ∀ {L acc : List Ent}, (acc.map (·.1)).Nodup → ((L.foldl (rowF b0 B) acc).map (·.1)).Nodup
  | [], _, h => h
  | e :: L, acc, h => by rw [List.foldl_cons]; exact rowsF_nodup (stepsF_nodup h _)
theorem layF_nodup {b0 : Brd} {B : Bld} : ∀ (k : Nat), ((layF b0 B k).map (·.1)).Nodup
  | 0 => by unfold layF; split <;> simp
  | k + 1 => rowsF_nodup (by simp)
/-- all that come are such that the rest can't be firm -/
def Bad (b0 : Brd) (B : Bld) (L : List Ent) : Prop := ∀ e ∈ L, ¬ EF b0 B e.1
theorem stepF_bad {b0 : Brd} {B : Bld} {e : Ent} {acc : List Ent} {i : Nat} (h : Bad b0 B acc) (hn : ¬ (pl e.1 i < sz B i ∧ EF b0 B (inc e.1 i))) : Bad b0 B (stepF b0 B e acc i) := by
  unfold stepF
  split
  · rename_i c
    intro a ha
    rcases List.mem_append.mp ha with z | z
    · exact h a z
    · rw [List.mem_singleton] at z
      subst z
      exact fun q => hn ⟨c.1, q⟩
  · exact h
theorem stepsF_bad {b0 : Brd} {B : Bld} {e : Ent} {acc : List Ent} (h : Bad b0 B acc) : ∀ (n : Nat), (∀ i, i < n → ¬ (pl e.1 i < sz B i ∧ EF b0 B (inc e.1 i))) → Bad b0 B ((List.range n).foldl (stepF b0 B e) acc)
  | 0, _ => h
  | n + 1, hn => by
    rw [List.range_succ, List.foldl_append]
    exact stepF_bad (stepsF_bad h n fun i hi => hn i (by omega)) (hn n (by omega))
theorem rowsF_bad {b0 : Brd} {B : Bld} : ∀ {L acc : List Ent}, (∀ e ∈ L, hold b0 B e.1) → Bad b0 B L → Bad b0 B acc → Bad b0 B (L.foldl (rowF b0 B) acc)
  | [], _, _, _, h => h
  | e :: L, acc, hh, hL, h => by
    rw [List.foldl_cons]
    refine rowsF_bad (fun x hx => hh x (by simp [hx])) (fun x hx => hL x (by simp [hx])) (stepsF_bad h _ fun i hi c => ?_)
    exact hL e (by simp) (.step (hh e (by simp)) hi c.1 c.2)
theorem layF_bad {b0 : Brd} {B : Bld} (h : ¬ EF b0 B (zero B)) : ∀ (k : Nat), Bad b0 B (layF b0 B k)
  | 0 => by
    intro e he
    unfold layF at he
    split at he
    · rw [List.mem_singleton] at he; subst he; exact h
    · simp at he
  | k + 1 => rowsF_bad (fun e he => (layF_ok k e he).hold) (layF_bad h k) fun a ha => by simp at ha
theorem stepF_keep {b0 : Brd} {B : Bld} {e : Ent} {acc : List Ent} {i : Nat} : ∃ r, stepF b0 B e acc i = acc ++ r := by
  unfold stepF
  split
  · exact ⟨_, rfl⟩
  · exact ⟨[], by simp⟩
theorem stepsF_keep {b0 : Brd} {B : Bld} {e : Ent} : ∀ (l : List Nat) (acc : List Ent), ∃ r, l.foldl (stepF b0 B e) acc = acc ++ r
  | [], acc => ⟨[], by simp⟩
  | i :: l, acc => by
    obtain ⟨r1, e1⟩ := stepF_keep (b0 := b0) (B := B) (e := e) (acc := acc) (i := i)
    obtain ⟨r2, e2⟩ := stepsF_keep l (stepF b0 B e acc i)
    exact ⟨r1 ++ r2, by rw [List.foldl_cons, e2, e1, List.append_assoc]⟩
theorem rowsF_keep {b0 : Brd} {B : Bld} : ∀ (L acc : List Ent), ∃ r, L.foldl (rowF b0 B) acc = acc ++ r
  | [], acc => ⟨[], by simp⟩
  | e :: L, acc => by
    obtain ⟨r1, e1⟩ := stepsF_keep (b0 := b0) (B := B) (e := e) (List.range B.length) acc
    obtain ⟨r2, e2⟩ := rowsF_keep (b0 := b0) (B := B) L (rowF b0 B acc e)
    exact ⟨r1 ++ r2, by rw [List.foldl_cons, e2]; unfold rowF; rw [e1, List.append_assoc]⟩
/-- THE INVARIANT: the greedy entry stands in each layer, and ahead of it only such as can't be firm to the end -/
theorem layF_greedy {b0 : Brd} {B : Bld} (h : EF b0 B (zero B)) : ∀ (k : Nat), k ≤ total B → ∃ pre post, layF b0 B k = pre ++ gr b0 B k :: post ∧ Bad b0 B pre
  | 0, _ => ⟨[], [], by unfold layF; rw [if_pos h.hold]; rfl, fun e he => by simp at he⟩
  | k + 1, hk => by
    obtain ⟨pre, post, e, hbad⟩ := layF_greedy h k (by omega)
    obtain ⟨hb, hs, he, hl, hi⟩ := gr_ok h k (by omega)
    obtain ⟨r, _, h1, h2, h3, h4⟩ := pick_spec hb he (not_full_of_sum hb (by omega))
    have ok := layF_ok (b0 := b0) (B := B) k
    rw [e] at ok
    have b1 : Bad b0 B (pre.foldl (rowF b0 B) []) := rowsF_bad (fun x hx => (ok x (by simp [hx])).hold) hbad fun a ha => by simp at ha
    have b2 : Bad b0 B ((List.range (pick b0 B (gr b0 B k).1)).foldl (stepF b0 B (gr b0 B k)) (pre.foldl (rowF b0 B) [])) := stepsF_bad b1 _ h4
    generalize hacc : (List.range (pick b0 B (gr b0 B k).1)).foldl (stepF b0 B (gr b0 B k)) (pre.foldl (rowF b0 B) []) = acc at b2
    have e3 : stepF b0 B (gr b0 B k) acc (pick b0 B (gr b0 B k).1) = acc ++ [gr b0 B (k + 1)] := by
      unfold stepF
      rw [if_pos]
      · rfl
      · refine ⟨h2, fun z => ?_, h3.hold⟩
        obtain ⟨a, ha, ea⟩ := List.mem_map.mp z
        exact b2 a ha (by rw [ea]; exact h3)
    obtain ⟨m, em⟩ : ∃ m, B.length = pick b0 B (gr b0 B k).1 + 1 + m := ⟨B.length - (pick b0 B (gr b0 B k).1 + 1), by omega⟩
    have er : ∃ l, List.range B.length = List.range (pick b0 B (gr b0 B k).1) ++ (pick b0 B (gr b0 B k).1) :: l := by
      rw [em, List.range_add, List.range_succ]
      exact ⟨_, by rw [List.append_assoc]; rfl⟩
    obtain ⟨l, el⟩ := er
    obtain ⟨r1, e4⟩ := stepsF_keep (b0 := b0) (B := B) (e := gr b0 B k) l (acc ++ [gr b0 B (k + 1)])
    obtain ⟨r2, e5⟩ := rowsF_keep (b0 := b0) (B := B) post (acc ++ [gr b0 B (k + 1)] ++ r1)
    refine ⟨acc, r1 ++ r2, ?_, b2⟩
    show nextF b0 B (layF b0 B k) = _
    unfold nextF
    rw [e, List.foldl_append, List.foldl_cons]
    have : rowF b0 B (pre.foldl (rowF b0 B) []) (gr b0 B k) = acc ++ [gr b0 B (k + 1)] ++ r1 := by
      show (List.range B.length).foldl (stepF b0 B (gr b0 B k)) (pre.foldl (rowF b0 B) []) = _
      rw [el, List.foldl_append, hacc, List.foldl_cons, e3, e4]
    rw [this, e5]
    simp
theorem layF_nil {b0 : Brd} {B : Bld} {k : Nat} (h : layF b0 B k = []) : ∀ j, layF b0 B (k + j) = []
  | 0 => h
  | j + 1 => by show nextF b0 B (layF b0 B (k + j)) = []; rw [layF_nil h j]; rfl
theorem layF_le {b0 : Brd} {B : Bld} {k : Nat} (h : layF b0 B k ≠ []) : k ≤ total B := by
  obtain ⟨e, he⟩ := List.exists_mem_of_ne_nil _ h
  have ok := layF_ok k e he
  rw [← ok.sum]; exact ok.box.sum_le
/-- what the program's loop gives -/
theorem firm_found {b0 : Brd} {B : Bld} {k : Nat} {e : Ent} (he : e ∈ layF b0 B k) (hf : Full B e.1) : EF b0 B (zero B) ∧ e.2 = (gr b0 B (total B)).2 := by
  have ok := layF_ok k e he
  have ek : k = total B := by rw [← ok.sum, full_eq ok.box hf]; rfl
  have hef : EF b0 B e.1 := .full ok.hold hf
  have hz : EF b0 B (zero B) := by
    apply Classical.byContradiction
    intro c
    exact layF_bad c k e he hef
  refine ⟨hz, ?_⟩
  subst ek
  obtain ⟨pre, post, el, hbad⟩ := layF_greedy hz (total B) (Nat.le_refl _)
  obtain ⟨hb, hs, _⟩ := gr_ok hz (total B) (Nat.le_refl _)
  have e1 : e.1 = (gr b0 B (total B)).1 := by rw [full_eq ok.box hf, hb.sum_full hs]
  have hn := layF_nodup (b0 := b0) (B := B) (total B)
  have hm : gr b0 B (total B) ∈ layF b0 B (total B) := by rw [el]; simp
  have : e = gr b0 B (total B) := by
    obtain ⟨i, hi, ei⟩ := List.mem_iff_getElem.mp he
    obtain ⟨j, hj, ej⟩ := List.mem_iff_getElem.mp hm
    have : i = j := by
      apply Classical.byContradiction
      intro c
      rw [List.nodup_iff_pairwise_ne, List.pairwise_map, List.pairwise_iff_getElem] at hn
      rcases Nat.lt_or_gt_of_ne c with q | q
      · exact hn i j hi hj q (by rw [ei, ej]; exact e1)
      · exact hn j i hj hi q (by rw [ei, ej]; exact e1.symm)
    subst this
    rw [← ei, ej]
  rw [this]
theorem firm_none {b0 : Brd} {B : Bld} {k : Nat} (h : layF b0 B k = []) (hn : ∀ j, j < k → ∀ e ∈ layF b0 B j, ¬ Full B e.1) : ¬ EF b0 B (zero B) := fun hz => by
  obtain ⟨pre, post, el, _⟩ := layF_greedy hz (total B) (Nat.le_refl _)
  have hm : gr b0 B (total B) ∈ layF b0 B (total B) := by rw [el]; simp
  obtain ⟨hb, hs, _⟩ := gr_ok hz (total B) (Nat.le_refl _)
  by_cases c : total B < k
  · refine hn _ c _ hm ?_
    rw [hb.sum_full hs]
    exact full_Full B
  · have := layF_nil h (total B - k)
    rw [show k + (total B - k) = total B by omega] at this
    rw [this] at hm
    simp at hm
end Wv
end
section
set_option Elab.async false
set_option linter.all false
set_option maxRecDepth 100000
set_option maxHeartbeats 4000000
/-! sorted of a dict with tuple keys; set of one tuple, sorted of it. -/
namespace Wx
open PySem PySem.Spec L2 PyProof.Rows

mutual
theorem reads_nil {h : Heap} : ∀ (k : NK) (v : Value) (as : List Addr), Reads h v k.data as → as = []
  | .none, _, _, r => by cases r; rfl
  | .num _, _, _, r => by cases r; rfl
  | .text _, _, _, r => by cases r; rfl
  | .tup ks, _, _, r => by
    cases r with
    | tuple _ _ _ ra => exact readsAll_nil ks _ _ ra
theorem readsAll_nil {h : Heap} : ∀ (ks : List NK) (vs : List Value) (as : List Addr), ReadsAll h vs (NestedKey.datas ks) as → as = []
  | [], _, _, r => by cases r; rfl
  | k :: ks, _, _, r => by
    cases r with
    | cons h1 h2 => rw [reads_nil k _ _ h1, readsAll_nil ks _ _ h2]; rfl
end
mutual
theorem depth_data : ∀ k : NK, k.data.depth ≤ k.depth
  | .none => Nat.le_refl _
  | .num _ => Nat.le_refl _
  | .text _ => Nat.le_refl _
  | .tup ks => by
    have := depths_data ks
    show (PyData.tuple (NestedKey.datas ks)).depth ≤ _
    unfold PyData.depth NestedKey.depth
    omega
theorem depths_data : ∀ ks : List NK, PyData.depthAll (NestedKey.datas ks) ≤ NestedKey.depthAll ks
  | [] => by unfold NestedKey.datas PyData.depthAll; exact Nat.zero_le _
  | k :: ks => by
    have := depth_data k
    have := depths_data ks
    unfold NestedKey.datas PyData.depthAll NestedKey.depthAll
    omega
end
section
variable {X : Cx} {pins : List (Addr × Obj)} {σ : L2.St} {H : Hp} {s : Shared}
theorem reads_of (I : Inv X pins σ H s) {k : NK} {v : V} {u : Value} (h : Dp X.K H v k.data) (r : RelV v u) : Reads s.heap u k.data [] := by
  obtain ⟨as, q⟩ := Dp.reads I _ _ _ h r
  have := reads_nil _ _ _ q
  subst this
  exact q
/-- what is in a list of addresses of keys -/
theorem each_of (I : Inv X pins σ H s) {vs : List Value} {ks : List NK} (hl : vs.length = ks.length) (h : ∀ (i : Nat) v, vs[i]? = some v → ∃ b k, v = .ref b ∧ ks[i]? = some k ∧ Dp X.K H (.ref b) k.data) :
    PySem.W.EachIs (fun v (k : NK) => ∃ b, v = Value.ref b ∧ Dp X.K H (.ref b) k.data) vs ks := by
  induction vs generalizing ks with
  | nil =>
    cases ks with
    | nil => exact .nil
    | cons a b => simp at hl
  | cons v vs ih =>
    cases ks with
    | nil => simp at hl
    | cons k ks =>
      obtain ⟨b, k', e1, e2, e3⟩ := h 0 v rfl
      have e2 : k = k' := Option.some.inj e2
      subst e2
      refine .cons ⟨b, e1, e3⟩ (ih (by simpa using hl) fun i v hv => ?_)
      obtain ⟨b, k', e1, e2, e3⟩ := h (i + 1) v (by simpa using hv)
      exact ⟨b, k', e1, by simpa using e2, e3⟩
theorem each_len {α β : Type} {R : α → β → Prop} : ∀ {as : List α} {bs : List β}, PySem.W.EachIs R as bs → as.length = bs.length
  | _, _, .nil => rfl
  | _, _, .cons _ t => by rw [List.length_cons, List.length_cons, each_len t]
theorem each_imp {α β : Type} {R S : α → β → Prop} (h : ∀ a b, R a b → S a b) : ∀ {as : List α} {bs : List β}, PySem.W.EachIs R as bs → PySem.W.EachIs S as bs
  | _, _, .nil => .nil
  | _, _, .cons r t => .cons (h _ _ r) (each_imp h t)
/-- the values of a list whose items are addresses -/
theorem vals_refs {K : PySem.W.Frag} : ∀ {vs : List Value} {ks : List NK}, PySem.W.EachIs (fun v (k : NK) => ∃ b, v = Value.ref b ∧ Dp K H (.ref b) k.data) vs ks → ∃ ys : List V, Vals ys vs ∧ DpAll K H ys (NestedKey.datas ks)
  | _, _, .nil => ⟨[], .nil, .nil⟩
  | _, _, .cons ⟨b, e, d⟩ t => by
    obtain ⟨ys, h1, h2⟩ := vals_refs t
    subst e
    exact ⟨.ref b :: ys, .cons rfl h1, .cons d h2⟩
/-- keys that can be put in order: tuples, not empty, alike place by place -/
structure CanSort (ks : List NK) : Prop where
  alike : PySem.W.AllAlike (ks.map NestedKey.data)
  tup : ∀ k ∈ ks, ∃ x r, k.data = .tuple (x :: r)
  dep : ∀ k ∈ ks, k.depth ≤ 8
/-- sorted(v): once v's items are gathered, they stand in a new list, in order -/
theorem sorted_of {v : Value} {Q : Value → Shared → Prop} (units : X.A.units + 64 < cLine)
    (got : wpAny (model X.prog X.w) X.A.in1 (collect v) (fun vs s1 => ∃ H1 ks, Inv X pins σ H1 s1 ∧ PySem.W.EachIs (fun v (k : NK) => ∃ b, v = Value.ref b ∧ Dp X.K H1 (.ref b) k.data) vs ks ∧ CanSort ks ∧ ks.length ≤ 1000000 ∧
      ∀ p ys ks' s', ks'.length = ks.length → (∀ k ∈ ks', k ∈ ks) → H1 p = none → DpAll X.K H1 ys (NestedKey.datas ks') → Inv X pins σ (upd H1 p (.lst ys)) s' → Q (.ref p) s') X.xe s) :
    wpAny (model X.prog X.w) X.A (call (.builtin "sorted") [v]) Q X.xe s :=
  Calls.call_function_entry PyProof.Rows.kind_sorted PyProof.Rows.plain_sorted PyProof.Rows.entry_sorted (PyProof.Rows.args_sorted1 v) (by
    unfold Builtin.«sorted»
    refine wpAny_bind (m := checkCount _ _ _ _) (wpAny_pure (wpAny_bind (thn got ?_)))
    rintro vs s1 ⟨H1, ks, I, each, can, few, fin⟩
    have same := each_len each
    have fits : vs.length ≤ sizeLine := by rw [sizeLine_eq]; omega
    generalize new : s1.heap.objs.size = N
    refine wpAny_bind (wpAny_newList ?_ fits)
    rw [new]
    have at_N : (s1.heap.push (seqObj "list" vs.toArray 0)).get? N = some (seqObj "list" vs.toArray 0) := new ▸ Heap.get?_push_size _ rfl
    have read : PySem.W.EachIs (fun v (k : NK) => ∃ as, Reads (s1.heap.push (seqObj "list" vs.toArray 0)) v k.data as ∧ N ∉ as) vs ks := each_imp (fun v k known => by
      obtain ⟨b, rfl, dp⟩ := known
      exact ⟨[], PyProof.Rows.Reads.keeps (fun _ _ => Heap.get?_push_of_some _) (reads_of I dp rfl), List.not_mem_nil⟩) each
    have shallow : ∀ k ∈ ks, k.data.depth ≤ 8 := fun k m => Nat.le_trans (depth_data k) (can.dep k m)
    have tups : ∀ d ∈ ks.map NestedKey.data, ∃ x r, d = .tuple (x :: r) := List.forall_mem_map.mpr can.tup
    have units2 : X.A.in1.units + 60 < cLine := by show X.A.units + 1 + 60 < cLine; omega
    refine wpAny_bind (wpAny_holding (PySem.W.list_sort_data (s := { s1 with heap := s1.heap.push (seqObj "list" vs.toArray 0) }) (enc := NestedKey.data) at_N each read can.alike (.inl tups) (by rw [sizeLine_eq]; omega) (fun k m => by have := shallow k m; omega) fun out len eo => ?_))
    obtain ⟨ep, stands⟩ := PyProof.Rows.sortedHeap_at (vs := vs) (out := out.toArray) at_N
    obtain ⟨ys, rel, dps⟩ := vals_refs eo
    have bound : ys.length ≤ sizeLine := by rw [rel.length, len]; exact same ▸ fits
    refine wpAny_pure ⟨_, rfl, fin N ys _ _ ((each_len eo).symm.trans len) (fun _ m => (List.mergeSort_perm _ _).mem_iff.mp m) (I.hok.fresh (Nat.le_of_eq new)) dps (I.laid (t' := s1.toks) (fun b u at_b => ?_) (Nat.le_of_eq new) ⟨bound, out, ep, rel, stands⟩)⟩
    have below : b < N := new ▸ Heap.lt_size at_b
    exact (PyProof.Rows.sortedHeap_old (Nat.ne_of_lt below) (by rw [Heap.size_push, new]; exact Nat.lt_succ_of_lt below)).trans (Heap.get?_push_of_some _ at_b))
/-- sorted(d), its keys tuples -/
def rSortedN (w : World) (K : PySem.W.Frag) : List V → Hp → VK → Prop := fun xs H Q => ∃ d kvs, xs = [.ref d] ∧ DN w K H d kvs ∧ CanSort (kvs.map (·.1)) ∧
  ∀ p ys ks', ks'.length = kvs.length → H p = none → DpAll K H ys (NestedKey.datas ks') → Q (.ref p) (upd H p (.lst ys))
theorem call_sortedN (hc : X.calm = true) (hu : X.A.units + 64 < cLine) : CallR X (.builtin "sorted") (rSortedN X.w X.K) := fun pins s σ H args us Q I rel ⟨d, kvs, ea, ⟨es, ep, at_d, lo, few, xs, known, ents, _⟩, can, fin⟩ => by
  subst ea
  obtain ⟨u, rfl, ru⟩ := vals1 rel
  cases (show u = .ref d from ru)
  have count : xs.length = kvs.length := (Paired.length known).symm
  have size : es.size = kvs.length := by rw [← Array.length_toList, ents, List.length_map, count]
  refine sorted_of (pins := pins) (σ := σ) hu (PySem.W.kdu_collect (KdlSrc.rawDict (prog := X.prog) (w := X.w) (es := es) (ep := ep) lo) (I.ok.hd hc) (rawO_of I.hok (.inl at_d)) (by rw [size, sizeLine_eq]; omega) fun h' tk acc keeps all => ?_)
  have J := I.kept (t' := tk) keeps
  refine ⟨H, kvs.map (·.1), J, each_of J (by simp [all.1, size]) fun i v hv => ?_, can, by simpa using few, fun p ys ks' s' len _ fr dps I2 => ⟨.ref p, _, I2, rfl, fin p ys ks' (by simpa using len) fr dps⟩⟩
  obtain ⟨lt, ev⟩ := all.2 i v (Array.getElem?_toList ▸ hv)
  have lt' : i < xs.length := by omega
  obtain ⟨p, at_p, -, dp⟩ := known.get (List.getElem?_eq_getElem lt')
  have ent : es[i] = entN X.w xs[i] := by
    have e := congrArg (·[i]?) ents
    simp only [Array.getElem?_toList, List.getElem?_map, Array.getElem?_eq_getElem lt, List.getElem?_eq_getElem lt', Option.map_some] at e
    exact Option.some.inj e
  exact ⟨_, p.1, ev.trans (by rw [ent]; rfl), by rw [List.getElem?_map, at_p]; rfl, dp⟩
end

/-! ### a set of one tuple of texts -/
def txts (zs : List Str) : NK := .tup (zs.map .text)
theorem data_txts (zs : List Str) : (txts zs).data = .tuple (zs.map .str) := by
  unfold txts NestedKey.data
  congr 1
  induction zs with
  | nil => rfl
  | cons a b ih => rw [List.map_cons, NestedKey.datas, ih]; rfl
section
variable {P : Program} {w : World} {A : Around} {E : Value → Shared → Prop} {s : Shared}
theorem hashBy_str (n : Nat) (x : Str) (t : Tok) : hashByValue n (.str x t) = pure false := by
  cases n <;> rfl
theorem texts_all {h : Heap} : ∀ {zs : List Str} {vs : List Value}, NestedAll h (zs.map .text) vs → ∀ v ∈ vs, ∃ x t, v = Value.str x t
  | [], _, .nil => by simp
  | _ :: _, _, .cons first rest => by
    rw [List.forall_mem_cons]
    exact ⟨by cases first; exact ⟨_, _, rfl⟩, texts_all rest⟩
/-- whether its hash goes by value: nothing is asked of the answer -/
theorem hashBy_txts {zs : List Str} {b : Addr} {Q : Bool → Shared → Prop} (key : NestedIs s.heap (txts zs) (.ref b)) (on : ∀ r, Q r s) : wpAny (model P w) A (hashByValue 8 (.ref b)) Q E s := by
  cases key with
  | @tup _ ob us n _ there kl dat each =>
    have members := texts_all each
    unfold hashByValue
    refine wpAny_bind (wpAny_specialOf ⟨ob, there, kl⟩ F.slot_tuple_hash.lookup ?_)
    refine wpAny_bind (m := seqItems? (.ref b)) (wpAny_seqItems there dat (wpAny_bind (m := forIn us _ _) ?_))
    rw [← Array.forIn_toList]
    generalize us.toList = each at members
    match each, members with
    | [], _ => exact wpAny_pure (Q := fun _ _ => _) (wpAny_pure (on true))
    | v :: vs, members =>
      obtain ⟨x, t, rfl⟩ := members v List.mem_cons_self
      rw [List.forIn_cons, hashBy_str]
      exact wpAny_bind (wpAny_bind (wpAny_pure (wpAny_pure (wpAny_pure (wpAny_pure (on false))))))
end
/-- a set with the one member v -/
structure One (w : World) (h : Heap) (a : Addr) (v : Value) : Prop where
  ex : ∃ (es : Array (Int × Value)) (ep : Nat) (t : SetTable), (∃ o, h.get? a = some o ∧ o.ExactSet ∧ o.data = .set es ep t) ∧ es.toList.map (·.2) = [v] ∧ t.fits es.size = true ∧ Ris t.place.toList ∧ (w.params.followText "set-order" = true ∨ t.led = true)
theorem One.at {w : World} {h h' : Heap} {a : Addr} {v : Value} (x : One w h a v) (k : ∀ o, h.get? a = some o → h'.get? a = some o) : One w h' a v := by
  have ⟨es, ep, t, ⟨o, ho, r⟩, q⟩ := x.ex
  exact ⟨es, ep, t, ⟨o, k o ho, r⟩, q⟩
def oneO (w : World) (a b : Addr) : HO := .ext fun h => One w h a (.ref b)
theorem oneO_ok {P : Program} {w : World} {H : Hp} {h : Heap} {a b : Addr} (x : One w h a (.ref b)) : ObjOk P w H h a (oneO w a b) := by
  have ⟨es, ep, t, ⟨o, ho, _⟩, _⟩ := x.ex
  exact ⟨x, ⟨o, ho⟩, fun _ _ y k => y.at k⟩
abbrev emptyS (w : World) : Obj := { cls := .type "set", dict := none, data := .set #[] 0 (.fresh 0 0 (!w.params.followText "set-order")) }
/-- a table with one place taken, made of t -/
structure Fst (t u : SetTable) : Prop where
  mask : u.mask = t.mask
  led : u.led = t.led
  fill : u.fill = 1
  size : u.place.size = 1
  ris : Ris u.place.toList
theorem Fst.dull {t u : SetTable} (F : Fst t u) (b : Bool) : Fst t (if b = true then u else { u with plain := false }) := by
  cases b
  · exact ⟨F.mask, F.led, F.fill, F.size, F.ris⟩
  · exact F
theorem tab_free {t : SetTable} (T : TabOk t []) (j : Nat) : j ∉ t.place.toList := by
  rw [List.eq_nil_of_length_eq_zero (l := t.place.toList) (by simpa using T.sz)]
  exact List.not_mem_nil
theorem tab_fst {t : SetTable} (T : TabOk t []) (h : Int) : (t.put (way t.mask h 0)).1.plain = t.plain ∧ Fst t (t.put (way t.mask h 0)).1 := by
  obtain ⟨-, -, T1, mask, led, plain, -, -, fill⟩ := T.put (h := h) (K := 0) (tab_free T _) (fun _ z => nomatch z)
  exact ⟨plain, mask, led, fill, by rw [T1.sz]; simp, T1.ris⟩
section
variable {P : Program} {w : World} {A : Around} {E : Value → Shared → Prop} {s : Shared} {t : SetTable} {ob : Obj}
/-- in a set without members the first place of the way is free -/
theorem none_found {a : Addr} {v : Value} {h : Int} (there : s.heap.get? a = some ob) (dat : ob.data = .set #[] 0 t) (T : TabOk t []) (fits : t.fits 0 = true) (keeps : ¬ t.gaveWay = true) {Q : SetFound → Shared → Prop} (on : Q (.free (way t.mask h 0) false) s) :
    wpAny (model P w) A (setSearch a v h true) Q E s := by
  have met : t.probe (fun i => ((#[] : Array (Int × Value))[i]?.map (·.1)).getD 0) h (t.probeStart h) = some (.empty (way t.mask h 0) none) := by
    rcases go_spec t T.ris T.dm (fun i => ((#[] : Array (Int × Value))[i]?.map (·.1)).getD 0) h (10 * SetTable.turns t.mask) 0 (t.probeStart h) rfl (by unfold SetTable.turns; omega) (fun _ z => nomatch z) (tab_free T _) with ⟨_, _, z, _⟩ | ⟨-, e⟩
    · exact nomatch z
    · exact e
  unfold setSearch
  rw [setSearchFrom_succ a v h true 99999]
  refine wpAny_bind (wpAny_setState_of there dat fits (wp_if_neg keeps ?_))
  simp only [Option.getD_none, met]
  exact wpAny_pure on
/-- the first member -/
theorem add_first {a x : Addr} {zs : List Str} {h : Int} (there : s.heap.get? a = some ob) (shape : ob.ExactSet) (dat : ob.data = .set #[] 0 t) (T : TabOk t []) (m7 : t.mask = 7) (pl : t.plain = true) (fits : t.fits 0 = true) (keeps : ¬ t.gaveWay = true)
    (led : w.params.followText "set-order" = true ∨ t.led = true) (key : NestedIs s.heap (txts zs) (.ref x)) {Q : Bool → Shared → Prop} (on : ∀ h', Heap.SameBut a s.heap h' → One w h' a (.ref x) → Q true { s with heap := h' }) :
    wpAny (model P w) A (setAddHashed a (.ref x) h) Q E s := by
  obtain ⟨pl1, F1⟩ := tab_fst T h
  unfold setAddHashed
  rw [setAddHashedIn_succ a (.ref x) h 99999]
  refine wpAny_holding (wpAny_bind (wpAny_setState_of there dat fits (wp_if_neg (fun z => nomatch z) (wpAny_bind (none_found there dat T fits keeps (wpAny_bind (wpAny_setState_of there dat fits ?_)))))))
  dsimp only
  generalize t.put (way t.mask h 0) = new at pl1 F1 ⊢
  obtain ⟨u, p⟩ := new
  dsimp only at pl1 F1 ⊢
  refine wp_if_pos (pl1.trans pl) (wpAny_bind (hashBy_txts key fun byv => ?_))
  have F2 := F1.dull byv
  generalize (if byv = true then u else { u with plain := false }) = u2 at F2 ⊢
  have members : (SetTable.insertAt (#[] : Array (Int × Value)) p (h, Value.ref x)).toList = [(h, Value.ref x)] := by simp [SetTable.toList_insertAt]
  generalize SetTable.insertAt (#[] : Array (Int × Value)) p (h, Value.ref x) = es at members ⊢
  have single : es.size = 1 := congrArg List.length members
  have roomy : u2.tooFull = false := by
    unfold SetTable.tooFull
    simp only [F2.fill, F2.mask, m7]
    decide
  refine wpAny_bind (wpAny_storeSet_of there dat ?_ (by rw [single]; decide))
  simp only [roomy, Bool.and_false, Bool.false_eq_true, if_false]
  refine wpAny_pure (on _ (Heap.SameBut.update ..) ⟨es, 1, u2, ⟨_, store_at there dat, ⟨shape.1, shape.2.1, shape.2.2⟩, rfl⟩, by rw [members]; rfl, ?_, F2.ris, F2.led ▸ led⟩)
  unfold SetTable.fits
  rw [single, F2.size, F2.fill, F2.mask, m7]
  decide
end
theorem depth_txts (zs : List Str) : (txts zs).depth ≤ 8 := by
  have flat : NestedKey.depthAll (zs.map .text) = 0 := by
    induction zs with
    | nil => rfl
    | cons a b ih => rw [List.map_cons, NestedKey.depthAll, ih]; rfl
  unfold txts NestedKey.depth
  omega
/-- what is no sequence may change: the key stands -/
theorem key_stands {h h' : Heap} {c : Addr} {ob : Obj} {k : NK} {v : Value} (there : h.get? c = some ob) (other : ∀ vs n, ob.data ≠ .seq vs n) (only : Heap.SameBut c h h') (key : NestedIs h k v) : NestedIs h' k v :=
  NestedIs.at (fun b o vs n q d => (only.2 b fun z => by subst z; rw [there] at q; exact other vs n (Option.some.inj q ▸ d)).trans q) _ _ key
section
variable {P : Program} {w : World} {A : Around} {E : Value → Shared → Prop} {s : Shared}
/-- set.update's loop over a list of one -/
theorem loop_single {S it l x : Addr} {zs : List Str} {items : Array Value} {R : Result → Shared → Prop} (calm : A.handled = none) (room : A.units + 40 < cLine) (ne : it ≠ S) (at_S : s.heap.get? S = some (emptyS w)) (at_it : s.heap.IsListIter it l 0) (at_l : s.heap.IsList l items) (items1 : items = #[.ref x])
    (key : NestedIs s.heap (txts zs) (.ref x)) (on : ∀ h' tk, One w h' S (.ref x) → (∀ b o, b ≠ S → b ≠ it → s.heap.get? b = some o → h'.get? b = some o) → R (.ok (.ret .none)) { s with heap := h', toks := tk }) :
    codeAny (model P w) A (.builtin "set.update.loop" ⟨[.ref S, .ref it], []⟩) R s := by
  subst items1
  obtain ⟨oi, it_, -, it_d⟩ := id at_it
  obtain ⟨ol, l_, l_k, n, l_d⟩ := id at_l
  have l_S : l ≠ S := fun z => by subst z; rw [at_S] at l_; cases l_; cases l_d
  have l_it : l ≠ it := fun z => by subst z; rw [it_] at l_; cases l_; rw [it_d] at l_d; cases l_d
  have step : ∀ {R' : Result → Shared → Prop} {s' : Shared}, wpAny (model P w) A.in1 (Builtin.«set.update.loop» ⟨[.ref S, .ref it], []⟩) (fun fin s2 => match fin with | .done f => R' (.ok f) s2 | .again c => c.quiet = true ∧ codeAny (model P w) A c R' s2) (fun e s2 => R' (.error e) s2) s' →
      codeAny (model P w) A (.builtin "set.update.loop" ⟨[.ref S, .ref it], []⟩) R' s' := fun q => codeAny_builtin F.entry_set_update_loop (by rwa [Around.under_plainId F.plain_set_update_loop])
  refine step (wpAny_bind (m := pyNext (.ref it)) (wpAny_pyNext_list_item at_it at_l (x := .ref x) rfl fun h1 it1 only1 => ?_))
  have S1 := (only1.2 S ne.symm).trans at_S
  have key1 : NestedIs h1 (txts zs) (.ref x) := key_stands it_ (fun vs n z => nomatch it_d.symm.trans z) only1 key
  have l1 : h1.IsList l #[.ref x] := ⟨ol, (only1.2 l l_it).trans l_, l_k, n, l_d⟩
  refine wpAny_bind (m := holding [Value.ref x] (setAdd S (.ref x))) (wpAny_holding ?_)
  unfold setAdd
  refine wpAny_holding (wpAny_bind (pyHash_key (w := w) _ _ _ _ _ key1 (by have := depth_txts zs; show A.units + 1 + _ < cLine; omega) ?_))
  have R0 := setTR_fresh (P := P) (w := w) S1
  refine add_first (s := ⟨h1, s.gens, s.drawn, s.toks + (txts zs).draws, s.os⟩) S1 ⟨rfl, rfl, rfl⟩ rfl R0.tab rfl R0.plain (SetTR.fits (s := ⟨h1, s.gens, s.drawn, s.toks, s.os⟩) R0) (SetTR.gw (s := ⟨h1, s.gens, s.drawn, s.toks, s.os⟩) R0) R0.led key1 fun h2 only2 one => ?_
  refine wpAny_pure ⟨plainId_quiet F.plain_set_update_loop _, step (wpAny_bind (m := pyNext (.ref it)) ?_)⟩
  have it2 : h2.IsListIter it l 1 := it1.elim fun o z => ⟨o, (only2.2 it ne).trans z.1, z.2⟩
  have l2 : h2.IsList l #[.ref x] := l1.elim fun o z => ⟨o, (only2.2 l l_S).trans z.1, z.2⟩
  refine wpAny_pyNext_list_end calm it2 l2 rfl fun h3 ext => wpAny_pure (on h3 _ (one.at fun o z => ext S o ne.symm z) fun b o bS bi z => ?_)
  exact ext b o bi ((only2.2 b bS).trans ((only1.2 b bi).trans z))

theorem wants_cases {Q E : Value → Shared → Prop} {r : Result} {s : Shared} (q : wants Q E r s) : (∃ e, r = .error e ∧ E e s) ∨ ∃ v, r = .ok (.ret v) ∧ Q v s := by
  rcases r with e | fl
  · exact .inl ⟨e, rfl, q⟩
  · cases fl with
    | ret v => exact .inr ⟨v, rfl, q⟩
    | _ => exact q.elim
set_option maxRecDepth 100000 in
set_option maxHeartbeats 8000000 in
/-- set([t]): made, then filled -/
theorem call_set_one {l x : Addr} {zs : List Str} {items : Array Value} {Q : Value → Shared → Prop} (hh : A.handled = none) (hl : s.heap.IsList l items) (hit : items.toList = [Value.ref x])
    (hx : NestedIs s.heap (txts zs) (.ref x)) (hu : A.units + 64 < cLine)
    (h : ∀ (h' : Heap) (tk : Nat), One w h' s.heap.objs.size (.ref x) → (∀ b o, s.heap.get? b = some o → h'.get? b = some o) → Q (.ref s.heap.objs.size) { s with heap := h', toks := tk }) :
    wpAny (model P w) A (call (.type "set") [.ref l]) Q E s := by
  have items1 : items = #[.ref x] := Array.toList_inj.mp hit
  generalize new : s.heap.objs.size = N at h
  have at_N : (s.heap.push (emptyS w)).get? N = some (emptyS w) := new ▸ Heap.get?_push_size _ rfl
  have kept : ∀ b o, s.heap.get? b = some o → (s.heap.push (emptyS w)).get? b = some o := fun _ _ z => Heap.get?_push_of_some _ z
  have low : ∀ b o, s.heap.get? b = some o → b < N := fun b o z => new ▸ Heap.lt_size z
  -- what __init__ does of the new set
  have fill : wpAny (model P w) A.in1.in1 (Builtin.«set.__init__» ⟨[.ref N, .ref l], []⟩) (fun fin s2 => fin = .done (.ret .none) ∧ ∃ h' tk, s2 = { s with heap := h', toks := tk } ∧ One w h' N (.ref x) ∧ ∀ b o, s.heap.get? b = some o → h'.get? b = some o) E { s with heap := s.heap.push (emptyS w) } := by
    have no_set := F.sub_list_set
    have no_frz := F.sub_list_frozenset
    have no_dict : (Value.type "list" == Value.type "dict") = false := by decide
    have at_l : (s.heap.push (emptyS w)).IsList l items := hl.push _
    obtain ⟨⟨lc, lx, ld, ls⟩, l_, lk, n, ldd⟩ := id at_l
    cases (show lc = .type "list" from lk)
    cases (show ld = .seq items n from ldd)
    unfold Builtin.«set.__init__» noKeywords Builtin.Frozenset.updateFrom
    generalize iter_ : pyIter = PI
    wp_walk
    subst iter_
    have pushed : (s.heap.push (emptyS w)).objs.size = N + 1 := by rw [Heap.size_push, new]
    refine wpAny_pyIter_list at_l (wpAny_bind (wpAny_runValue ?_))
    rw [pushed]
    refine loop_single (by simp [hh]) (by show A.units + 1 + 1 + 40 < cLine; omega) (Nat.succ_ne_self N) (Heap.get?_push_of_some _ at_N) ⟨_, pushed ▸ Heap.get?_push_size _ rfl, rfl, rfl⟩ (at_l.push _) items1
      (NestedIs.at (fun _ _ _ _ z _ => Heap.get?_push_of_some _ (kept _ _ z)) _ _ hx) fun h' tk one keeps => ?_
    exact wpAny_pure (wpAny_pure ⟨rfl, h', tk, rfl, one, fun b o z => keeps b o (Nat.ne_of_lt (low b o z)) (Nat.ne_of_lt (Nat.lt_succ_of_lt (low b o z))) (Heap.get?_push_of_some _ (kept _ _ z))⟩)
  have made := F.called_set.made
  have under := F.called_set.sub
  have no_type := F.called_set.notType
  have creates := F.called_set.canCreate
  have fits := F.typeCall_set_1 (.ref l)
  have init := F.called_set.init
  have look := init.lookup
  have bound := init.bind (.ref N)
  obtain ⟨c, rest, order⟩ := F.called_set.mro
  have is_set : Shared.TypeIs { s with heap := s.heap.push (emptyS w) } (.ref N) "set" := ⟨_, at_N, rfl⟩
  refine wpAny_call (codeAny_of_tree (?_ : wpAny _ _ (callAny (.type "set") _) _ _ _))
  refine wpAny_pure ⟨Code.quiet_builtin _ (by decide +kernel), codeAny_builtin F.entry_type_call ?_⟩
  rw [Around.under_plain (weight_type_call_type "set" _ _) rfl]
  repeat' (first | assumption | wp_step)
  refine codeAny_mono (code_set_led1 (.ref l) (E := E) (Q₁ := fun v s1 => v = .ref N ∧ s1 = { s with heap := s.heap.push (emptyS w) }) ⟨by rw [new], rfl⟩) fun r s1 got => ?_
  rcases wants_cases got with ⟨e, rfl, q⟩ | ⟨v, rfl, rfl, rfl⟩
  · exact q
  repeat' (first | assumption | wp_step)
  refine codeAny_mono (codeAny_call_builtin (R := wants (fun v s2 => v = .none ∧ ∃ h' tk, s2 = { s with heap := h', toks := tk } ∧ One w h' N (.ref x) ∧ ∀ b o, s.heap.get? b = some o → h'.get? b = some o) E) init.plain F.entry_set_init
    (check_set_init_1 is_set (wpAny_mono fill (fun fin s2 q => by obtain ⟨rfl, q⟩ := q; exact ⟨rfl, q⟩) fun _ _ q => q))) fun r s2 got => ?_
  rcases wants_cases got with ⟨e, rfl, q⟩ | ⟨v, rfl, rfl, h', tk, rfl, one, keeps⟩
  · exact q
  repeat' (first | assumption | wp_step)
  all_goals exact h h' tk one keeps
end
theorem alike_strs (zs : List Str) : PySem.W.alike (.tuple (zs.map .str)) (.tuple (zs.map .str)) = true := by
  show PySem.W.alikeAll (zs.map .str) (zs.map .str) = true
  induction zs with
  | nil => rfl
  | cons a b ih =>
    show (PySem.W.alike (.str a) (.str a) && PySem.W.alikeAll (b.map .str) (b.map .str)) = true
    rw [ih]; rfl
section
variable {X : Cx}
/-- set([t]), t a tuple of texts -/
def rSet1 (w : World) (K : PySem.W.Frag) : List V → Hp → VK → Prop := fun xs H Q => ∃ l b zs, xs = [.ref l] ∧ SqL K H l [.ref b] ∧ Dp K H (.ref b) (txts zs).data ∧ ∀ a, H a = none → Q (.ref a) (upd H a (oneO w a b))
theorem cr_set1 (hc : X.calm = true) (hu : X.A.units + 64 < cLine) : CallR X (.type "set") (rSet1 X.w X.K) := fun pins s σ H args us Q I rel ⟨l, b, zs, ea, sq, dp, fin⟩ => by
  subst ea
  obtain ⟨u, rfl, ru⟩ := vals1 rel
  cases (show u = .ref l from ru)
  obtain ⟨its, vs, there, -⟩ := I.list sq
  obtain ⟨u, rfl, ru⟩ := vals1 vs
  cases (show u = .ref b from ru)
  exact call_set_one (P := X.prog) (w := X.w) (I.ok.hd hc) there.isList rfl (nested_of I _ _ _ dp rfl) hu fun h' tk one keeps => ⟨.ref _, _, I.laid (t' := tk) keeps (Nat.le_refl _) (oneO_ok one), rfl, fin _ (I.hok.fresh (Nat.le_refl _))⟩
/-- sorted of such a set -/
def rSorted1 (w : World) (K : PySem.W.Frag) : List V → Hp → VK → Prop := fun xs H Q => ∃ a b z zs, xs = [.ref a] ∧ H a = some (oneO w a b) ∧ Dp K H (.ref b) (txts (z :: zs)).data ∧ ∀ p v, H p = none → Dp K H v (txts (z :: zs)).data → Q (.ref p) (upd H p (.lst [v]))
theorem can_txts (z : Str) (zs : List Str) : CanSort [txts (z :: zs)] where
  alike := fun d m d' m' => by
    simp only [List.map_cons, List.map_nil, List.mem_singleton] at m m'
    rw [m, m', data_txts]
    exact alike_strs _
  tup := fun k m => List.mem_singleton.mp m ▸ ⟨_, _, data_txts (z :: zs)⟩
  dep := fun k m => List.mem_singleton.mp m ▸ depth_txts _
theorem cr_sorted1 (hc : X.calm = true) (hu : X.A.units + 64 < cLine) : CallR X (.builtin "sorted") (rSorted1 X.w X.K) := fun pins s σ H args us Q I rel ⟨a, b, z, zs, ea, at_a, dp, fin⟩ => by
  subst ea
  obtain ⟨u, rfl, ru⟩ := vals1 rel
  cases (show u = .ref a from ru)
  have one : One X.w s.heap a (.ref b) := (I.hok a _ at_a).1
  obtain ⟨es, ep, t, ⟨o, there, shape, dat⟩, mem, fits, ris, led⟩ := one.ex
  have single : es.size = 1 := by simpa using congrArg List.length mem
  refine sorted_of (pins := pins) (σ := σ) hu (collect_set (P := X.prog) (w := X.w) (A := X.A.in1) (I.ok.hd hc) ⟨o, there, shape.1, dat⟩ fits (by rw [single]; unfold scanBound; decide) ris led fun s1 vs keeps _ gens os perm => ?_)
  obtain rfl : vs = [.ref b] := List.perm_singleton.mp (mem ▸ perm)
  have J : Inv X pins σ H s1 := by
    rcases s1 with ⟨h1, g1, d1, t1, o1⟩
    cases (show g1 = s.gens from gens)
    cases (show o1 = s.os from os)
    exact I.call (ch := []) (Un.kept keeps) (I.hok.kept keeps) I.bare fun _ m => nomatch m
  refine ⟨H, [txts (z :: zs)], J, .cons ⟨b, rfl, dp⟩ .nil, can_txts z zs, by show 1 ≤ 1000000; decide, fun p ys ks' s' len sub fr dps I2 => ?_⟩
  match ks', len, sub, dps with
  | [k], _, sub, .cons first .nil => exact ⟨.ref p, _, I2, rfl, fin p _ fr (List.mem_singleton.mp (sub k List.mem_cons_self) ▸ first)⟩
end
end Wx
end
section
set_option Elab.async false
set_option linter.all false
set_option maxRecDepth 100000
set_option maxHeartbeats 4000000
/-! The text by places; what the top has left; a called def in short. -/
namespace Wx
open PySem PySem.Spec PyProof.Rows L2 Wv
open Evl (Ex ex_rd ex_l ex_t sq_of st_of fresh_back)
def top (i : Nat) : Stmt := PySem.Challenge.pw_wovenframes_k63_whole_fills_ahead_of_cut.main.body.getD i (.Pass ⟨0, 0, 0, 0⟩)
abbrev s_is_from : Stmt := top 8
theorem sc_is_from : FnScope ["value", "low", "high"] ["value", "low", "high"] (defScope s_is_from) := ⟨rfl, rfl, rfl, by decide +kernel, rfl, by decide +kernel, by decide +kernel⟩
abbrev s_is_line : Stmt := top 9
theorem sc_is_line : FnScope ["value", "sign"] ["value"] (defScope s_is_line) := ⟨rfl, rfl, rfl, by decide +kernel, rfl, by decide +kernel, by decide +kernel⟩
abbrev s_Board_init : Stmt := inClass (top 10) 0
theorem sc_Board_init : FnScope ["self", "cells", "line"] ["self", "cells"] (defScope s_Board_init) := ⟨rfl, rfl, rfl, by decide +kernel, rfl, by decide +kernel, by decide +kernel⟩
abbrev s_Board_cells : Stmt := inClass (top 10) 1
theorem sc_Board_cells : FnScope ["self"] ["self"] (defScope s_Board_cells) := ⟨rfl, rfl, rfl, by decide +kernel, rfl, by decide +kernel, by decide +kernel⟩
abbrev s_Board_rows : Stmt := inClass (top 10) 2
theorem sc_Board_rows : FnScope ["self"] ["self"] (defScope s_Board_rows) := ⟨rfl, rfl, rfl, by decide +kernel, rfl, by decide +kernel, by decide +kernel⟩
abbrev s_Board_columns : Stmt := inClass (top 10) 3
theorem sc_Board_columns : FnScope ["self"] ["self"] (defScope s_Board_columns) := ⟨rfl, rfl, rfl, by decide +kernel, rfl, by decide +kernel, by decide +kernel⟩
abbrev s_Board_len : Stmt := inClass (top 10) 4
theorem sc_Board_len : FnScope ["self"] ["self"] (defScope s_Board_len) := ⟨rfl, rfl, rfl, by decide +kernel, rfl, by decide +kernel, by decide +kernel⟩
abbrev s_need_board : Stmt := top 11
theorem sc_need_board : FnScope ["board"] ["board"] (defScope s_need_board) := ⟨rfl, rfl, rfl, by decide +kernel, rfl, by decide +kernel, by decide +kernel⟩
abbrev s_all_steps : Stmt := top 13
theorem sc_all_steps : FnScope ["board", "found", "many", "at", "line", "place", "sign"] ["board"] (defScope s_all_steps) := ⟨rfl, rfl, rfl, by decide +kernel, rfl, by decide +kernel, by decide +kernel⟩
abbrev s_leads_of : Stmt := top 15
theorem sc_leads_of : FnScope ["board", "told", "found", "thread", "known", "waiting", "here", "one", "other"] ["board"] (defScope s_leads_of) := ⟨rfl, rfl, rfl, by decide +kernel, rfl, by decide +kernel, by decide +kernel⟩
abbrev s_is_cell_deed : Stmt := top 25
theorem sc_is_cell_deed : FnScope ["board", "value"] ["board", "value"] (defScope s_is_cell_deed) := ⟨rfl, rfl, rfl, by decide +kernel, rfl, by decide +kernel, by decide +kernel⟩
abbrev s_is_deed : Stmt := top 26
theorem sc_is_deed : FnScope ["board", "value"] ["board", "value"] (defScope s_is_deed) := ⟨rfl, rfl, rfl, by decide +kernel, rfl, by decide +kernel, by decide +kernel⟩
abbrev s_need_builders : Stmt := top 27
theorem sc_need_builders : FnScope ["board", "builders", "builder", "deeds", "place", "deed"] ["board", "builders"] (defScope s_need_builders) := ⟨rfl, rfl, rfl, by decide +kernel, rfl, by decide +kernel, by decide +kernel⟩
abbrev s_put_at : Stmt := top 28
theorem sc_put_at : FnScope ["things", "at", "thing"] ["things", "at", "thing"] (defScope s_put_at) := ⟨rfl, rfl, rfl, by decide +kernel, rfl, by decide +kernel, by decide +kernel⟩
abbrev s_put_sign : Stmt := top 29
theorem sc_put_sign : FnScope ["cells", "deed", "line", "column", "sign"] ["cells", "deed"] (defScope s_put_sign) := ⟨rfl, rfl, rfl, by decide +kernel, rfl, by decide +kernel, by decide +kernel⟩
abbrev s_stand_together : Stmt := top 30
theorem sc_stand_together : FnScope ["cells", "threads", "some", "told", "thread", "one", "other"] ["cells", "threads"] (defScope s_stand_together) := ⟨rfl, rfl, rfl, by decide +kernel, rfl, by decide +kernel, by decide +kernel⟩
abbrev s_deed_done : Stmt := top 31
theorem sc_deed_done : FnScope ["builders", "state", "builder", "cells", "places", "threads", "deed"] ["builders", "state", "builder"] (defScope s_deed_done) := ⟨rfl, rfl, rfl, by decide +kernel, rfl, by decide +kernel, by decide +kernel⟩
abbrev s_first_state : Stmt := top 32
theorem sc_first_state : FnScope ["board", "builders"] ["board", "builders"] (defScope s_first_state) := ⟨rfl, rfl, rfl, by decide +kernel, rfl, by decide +kernel, by decide +kernel⟩
abbrev s_all_movers : Stmt := top 33
theorem sc_all_movers : FnScope ["builders", "state", "one"] ["builders", "state"] (defScope s_all_movers) := ⟨rfl, rfl, rfl, by decide +kernel, rfl, by decide +kernel, by decide +kernel⟩
abbrev s_all_parts : Stmt := top 35
theorem sc_all_parts : FnScope ["board", "told", "found", "thread", "goals", "other"] ["board"] (defScope s_all_parts) := ⟨rfl, rfl, rfl, by decide +kernel, rfl, by decide +kernel, by decide +kernel⟩
abbrev s_holds : Stmt := top 36
theorem sc_holds : FnScope ["board"] ["board"] (defScope s_holds) := ⟨rfl, rfl, rfl, by decide +kernel, rfl, by decide +kernel, by decide +kernel⟩
abbrev s_orders_by : Stmt := top 38
theorem sc_orders_by : FnScope ["board", "builders", "begin", "found", "layer", "later", "state", "builder", "there"] ["board", "builders"] (defScope s_orders_by) := ⟨rfl, rfl, rfl, by decide +kernel, rfl, by decide +kernel, by decide +kernel⟩
abbrev s_is_whole : Stmt := top 39
theorem sc_is_whole : FnScope ["builders", "state", "place", "deeds"] ["builders", "state"] (defScope s_is_whole) := ⟨rfl, rfl, rfl, by decide +kernel, rfl, by decide +kernel, by decide +kernel⟩
abbrev s_ends : Stmt := top 40
theorem sc_ends : FnScope ["board", "builders", "state"] ["board", "builders"] (defScope s_ends) := ⟨rfl, rfl, rfl, by decide +kernel, rfl, by decide +kernel, by decide +kernel⟩
abbrev s_many_orders : Stmt := top 41
theorem sc_many_orders : FnScope ["board", "builders", "ways", "total", "state", "builder", "there"] ["board", "builders"] (defScope s_many_orders) := ⟨rfl, rfl, rfl, by decide +kernel, rfl, by decide +kernel, by decide +kernel⟩
abbrev s_first_stuck : Stmt := top 42
theorem sc_first_stuck : FnScope ["board", "builders", "told", "state"] ["board", "builders"] (defScope s_first_stuck) := ⟨rfl, rfl, rfl, by decide +kernel, rfl, by decide +kernel, by decide +kernel⟩
abbrev s_Firm_init : Stmt := inClass (top 44) 0
theorem sc_Firm_init : FnScope ["self"] ["self"] (defScope s_Firm_init) := ⟨rfl, rfl, rfl, by decide +kernel, rfl, by decide +kernel, by decide +kernel⟩
abbrev s_Firm_stands : Stmt := inClass (top 44) 1
theorem sc_Firm_stands : FnScope ["self", "cells"] ["self", "cells"] (defScope s_Firm_stands) := ⟨rfl, rfl, rfl, by decide +kernel, rfl, by decide +kernel, by decide +kernel⟩
abbrev s_firm_order : Stmt := top 45
theorem sc_firm_order : FnScope ["board", "builders", "firm", "begin", "layer", "met", "later", "state", "order", "builder", "there"] ["board", "builders"] (defScope s_firm_order) := ⟨rfl, rfl, rfl, by decide +kernel, rfl, by decide +kernel, by decide +kernel⟩
abbrev s__law_taken : Stmt := top 47
theorem sc__law_taken : FnScope ["_law_row", "_law_many_here", "_law_found", "_law_cell"] ["_law_row", "_law_many_here"] (defScope s__law_taken) := ⟨rfl, rfl, rfl, by decide +kernel, rfl, by decide +kernel, by decide +kernel⟩
abbrev s__law_cells : Stmt := top 49
theorem sc__law_cells : FnScope ["_law_row", "_law_most", "_law_some", "_law_rows", "_law_columns", "_law_lines", "_law_at", "_law_place"] ["_law_row", "_law_most"] (defScope s__law_cells) := ⟨rfl, rfl, rfl, by decide +kernel, rfl, by decide +kernel, by decide +kernel⟩
abbrev s__law_many : Stmt := top 50
theorem sc__law_many : FnScope ["_law_cells_here"] ["_law_cells_here"] (defScope s__law_many) := ⟨rfl, rfl, rfl, by decide +kernel, rfl, by decide +kernel, by decide +kernel⟩
abbrev s__law_steps : Stmt := top 51
theorem sc__law_steps : FnScope ["_law_cells_here", "_law_found", "_law_at", "_law_place"] ["_law_cells_here"] (defScope s__law_steps) := ⟨rfl, rfl, rfl, by decide +kernel, rfl, by decide +kernel, by decide +kernel⟩
abbrev s__law_leads : Stmt := top 52
theorem sc__law_leads : FnScope ["_law_cells_here", "_law_told", "_law_found", "_law_thread", "_law_known", "_law_line", "_law_here", "_law_one", "_law_other"] ["_law_cells_here"] (defScope s__law_leads) := ⟨rfl, rfl, rfl, by decide +kernel, rfl, by decide +kernel, by decide +kernel⟩
abbrev s__law_put : Stmt := top 54
theorem sc__law_put : FnScope ["_law_cells_here", "_law_at", "_law_place", "_law_sign", "_law_line"] ["_law_cells_here", "_law_at", "_law_place", "_law_sign"] (defScope s__law_put) := ⟨rfl, rfl, rfl, by decide +kernel, rfl, by decide +kernel, by decide +kernel⟩
abbrev s__law_holds : Stmt := top 55
theorem sc__law_holds : FnScope ["_law_cells_here", "_law_told"] ["_law_cells_here"] (defScope s__law_holds) := ⟨rfl, rfl, rfl, by decide +kernel, rfl, by decide +kernel, by decide +kernel⟩
abbrev s__law_parted : Stmt := top 56
theorem sc__law_parted : FnScope ["_law_row", "_law_cells_here", "_law_places", "_law_found", "_law_at", "_law_turn", "_law_fills", "_law_cuts", "_law_again", "_law_place"] ["_law_row", "_law_cells_here"] (defScope s__law_parted) := ⟨rfl, rfl, rfl, by decide +kernel, rfl, by decide +kernel, by decide +kernel⟩
abbrev s__law_next_cells : Stmt := top 57
theorem sc__law_next_cells : FnScope ["_law_cells_here", "_law_deed"] ["_law_cells_here", "_law_deed"] (defScope s__law_next_cells) := ⟨rfl, rfl, rfl, by decide +kernel, rfl, by decide +kernel, by decide +kernel⟩
abbrev s__law_ends_firm : Stmt := top 58
theorem sc__law_ends_firm : FnScope ["_law_cells_here", "_law_builders", "_law_places", "_law_known", "_law_rest", "_law_found", "_law_k", "_law_more", "_law_later"] ["_law_cells_here", "_law_builders", "_law_places", "_law_known"] (defScope s__law_ends_firm) := ⟨rfl, rfl, rfl, by decide +kernel, rfl, by decide +kernel, by decide +kernel⟩
abbrev s__law_least_firm : Stmt := top 59
theorem sc__law_least_firm : FnScope ["_law_cells_here", "_law_builders", "_law_known", "_law_order", "_law_places", "_law_turn", "_law_some", "_law_k", "_law_more", "_law_later", "_law_deeds"] ["_law_cells_here", "_law_builders"] (defScope s__law_least_firm) := ⟨rfl, rfl, rfl, by decide +kernel, rfl, by decide +kernel, by decide +kernel⟩
abbrev s__law_whole_orders : Stmt := top 60
theorem sc__law_whole_orders : FnScope ["_law_sizes", "_law_found", "_law_below", "_law_size", "_law_one"] ["_law_sizes"] (defScope s__law_whole_orders) := ⟨rfl, rfl, rfl, by decide +kernel, rfl, by decide +kernel, by decide +kernel⟩
abbrev s_law : Stmt := top 61
theorem sc_law : FnScope ["_law_script", "_law_row", "_law_cells_here", "_law_builders", "_law_board", "_law_lines", "_law_deeds", "_law_deed", "_law_found", "_law_first", "_law_last", "_law_order", "_law_line"] ["_law_script"] (defScope s_law) := ⟨rfl, rfl, rfl, by decide +kernel, rfl, by decide +kernel, by decide +kernel⟩
abbrev s__law_alike : Stmt := top 53
theorem sc__law_alike : FnScope ["_law_found", "_law_due", "_law_k"] ["_law_found", "_law_due"] (defScope s__law_alike) := ⟨rfl, rfl, rfl, by decide +kernel, rfl, by decide +kernel, by decide +kernel⟩
/-- what the top has left, names and classes -/
structure TX (K : PySem.W.Frag) (mg : Str → Option Value) (CB CF AF : Addr) : Prop where
  z_len : mg "len" = none
  z_range : mg "range" = none
  z_isinstance : mg "isinstance" = none
  z_all : mg "all" = none
  z_sum : mg "sum" = none
  z_sorted : mg "sorted" = none
  z_set : mg "set" = none
  z_tuple : mg "tuple" = none
  z_int : mg "int" = none
  z_bool : mg "bool" = none
  z_str : mg "str" = none
  z_list : mg "list" = none
  z_enumerate : mg "enumerate" = none
  z_zip : mg "zip" = none
  g_SIGNS : ∃ t, mg "SIGNS" = some (.str ".<>x" t)
  g_MOST_LINES : ∃ t, mg "MOST_LINES" = some (.int 5 t)
  g_MOST_BUILDERS : ∃ t, mg "MOST_BUILDERS" = some (.int 3 t)
  g_MOST_DEEDS : ∃ t, mg "MOST_DEEDS" = some (.int 6 t)
  g_EMPTY : ∃ t, mg "EMPTY" = some (.str "." t)
  g_FILL : ∃ t, mg "FILL" = some (.str "fill" t)
  g_CUT : ∃ t, mg "CUT" = some (.str "cut" t)
  g_STAND : ∃ t, mg "STAND" = some (.str "stand" t)
  g_LEAVE : ∃ t, mg "LEAVE" = some (.str "leave" t)
  g_FILLED : mg "FILLED" = some (.ref AF)
  filled : ∃ (o : Obj) (t1 t2 t3 : Tok) (n : Nat), K.lookup AF = some o ∧ o.cls = .type "tuple" ∧ o.data = .seq #[.str "<" t1, .str ">" t2, .str "x" t3] n
  g_Board : mg "Board" = some (.ref CB)
  g_Firm : mg "Firm" = some (.ref CF)
  cl : Cls K CB
  clF : Cls K CF
  nT : PySem.W.findIn K (.ref CB) "table" = some none
  nK : PySem.W.findIn K (.ref CF) "known" = some none
  ha : PySem.W.findIn K (.ref CB) "__class__" = some (some (.builtin "object.__class__"))
  (hn : PySem.W.specialIn K (.builtin "object.__class__") "__get__" = some (some (.builtin "getset_descriptor.__get__"))) (htk : PySem.W.takesIn K (.builtin "object.__class__") = some true)
  hm : PySem.W.mroIn K CB (.type "object") = some true
  me : PySem.W.kitOne K (.ref CB) (.ref CB) = some true
section
variable {X : Cx} {P : Program} {w : World} {K : PySem.W.Frag} {mg : Str → Option Value} {base : Heap} {k : Nat} {x : Str} {ps : List Str} {sp : Sp} {p pos : Pos} {e : Expr} {es : List Expr} {t : TA} {te : TE} {C : Addr}
theorem pe_gS {z : Str} (hg : Gl X x) (h : ∃ t, X.mg x = some (.str z t)) (hd : (x == ("__debug__" : Str)) = false := by decide) : PE X (.Name x pos) (tC (.str z)) := by
  obtain ⟨t, h⟩ := h
  exact pe_glob hg h ⟨_, rfl⟩ hd
theorem pe_gI {i : Int} (hg : Gl X x) (h : ∃ t, X.mg x = some (.int i t)) (hd : (x == ("__debug__" : Str)) = false := by decide) : PE X (.Name x pos) (tC (.int i)) := by
  obtain ⟨t, h⟩ := h
  exact pe_glob hg h ⟨_, rfl⟩ hd
theorem pe_gT {a : Addr} (hg : Gl X x) (h : X.mg x = some (.ref a)) (hd : (x == ("__debug__" : Str)) = false := by decide) : PE X (.Name x pos) (tC (.ref a)) := pe_glob hg h rfl hd
/-- a def of the top as it stands -/
def Kn (K : PySem.W.Frag) (mg : Str → Option Value) (x : Str) (st : Stmt) : Prop := ∃ f fd, Fun K x x st f fd ∧ mg x = some (.ref f)
/-- a def that keeps a promise, by its name -/
def Cal (P : Program) (w : World) (K : PySem.W.Frag) (mg : Str → Option Value) (base : Heap) (k : Nat) (x : Str) (ps : List Str) (sp : Sp) : Prop :=
  ∃ f fd, mg x = some (.ref f) ∧ PySem.W.keepIn K (.ref f) = true ∧ Binds K fd ps [] ∧ FnOk P w K mg base CX0 k f fd ps sp
theorem Cal.mk {st : Stmt} {N : List Str} (kn : Kn K mg x st) (S : FnScope N ps (defScope st))
    (hb : ∀ (kV doc pm : Value) (an : Option Addr) (cdv ct : Value) (us : List Value), us.length = ps.length → bindArgs (PySem.W.fnOf x x (defArgs st) (defBody st) (defScope st) .none kV doc pm an cdv ct) ⟨us, []⟩ = pure (ps.zip us))
    (len : ∀ vs H Q E, sp vs H Q E → vs.length = ps.length) (hbody : ∀ (f : Addr) (cdv : Value) (A : Around) (outer : List Env) (s : Shared) (H : Hp) (vs : List V) (Q : VK) (E : XK), Room k (A.deeper (envOfC x (defScope st) s.heap.objs.size f cdv)) → sp vs H Q E →
      ∃ t, PSs (cxOf CX0 P w K mg base N x (defScope st) f cdv A outer s H E).nox (defBody st) t ∧ t { nx := fun _ H' => Q .non H', rt := Q } (start N vs) H) : Cal P w K mg base (k + 1) x ps sp := by
  obtain ⟨f, fd, F, m⟩ := kn
  exact ⟨f, fd, m, F.kp, F.binds hb, F.ok S len (hbody f)⟩
theorem Cal.pe (c : Cal X.prog X.w X.K X.mg X.base k x ps sp) (hr : Room k X.A) (hg : Gl X x) (ha : PA X (e :: es) t) (hdb : (x == ("__debug__" : Str)) = false := by decide) (he : starEach (e :: es) X.env = (false, eval e X.env) :: starEach es X.env := by rfl)
    (hpl : (backTo pos (starEach es X.env)).any (·.1) = false := by rfl) : PE X (.Call (.Name x p) (e :: es) [] pos) (tCall sp [] E0 t) := by
  obtain ⟨f, fd, m, kp, b, F⟩ := c
  exact pe_call F hr hg m kp b .nil pass0 ha hdb he hpl
theorem Cal.mono {j : Nat} (c : Cal P w K mg base j x ps sp) (h : j ≤ k) : Cal P w K mg base k x ps sp := by
  obtain ⟨f, fd, m, kp, b, F⟩ := c
  exact ⟨f, fd, m, kp, b, F.mono h⟩
/-- a property -/
def Prp (P : Program) (w : World) (K : PySem.W.Frag) (mg : Str → Option Value) (base : Heap) (k : Nat) (C : Addr) (x : Str) (sp : Sp) : Prop :=
  ∃ p f fd, PropOf K C x p f ∧ Binds K fd ["self"] [] ∧ FnOk P w K mg base CX0 k f fd ["self"] sp
theorem Prp.pe (c : Prp X.prog X.w X.K X.mg X.base k C x sp) (he : PE X e te) (cl : Cls X.K C) (hr : Room (k + 1) X.A) (hab : attributeBase e x X.env (eval e X.env) = eval e X.env) : PE X (.Attribute e x pos) (tProp C sp [] E0 te) := by
  obtain ⟨p, f, fd, hp, b, F⟩ := c
  exact pe_prop he cl hp F hr b .nil pass0 hab
/-- an own len -/
def LenB (P : Program) (w : World) (K : PySem.W.Frag) (mg : Str → Option Value) (base : Heap) (k : Nat) (C : Addr) (sp : Sp) : Prop :=
  ∃ f fd, PySem.W.findIn K (.ref C) "__len__" = some (some (.ref f)) ∧ PySem.W.isFn K (.ref f) = true ∧ Binds K fd ["self"] [] ∧ FnOk P w K mg base CX0 k f fd ["self"] sp
theorem LenB.pe (c : LenB X.prog X.w X.K X.mg X.base k C sp) (cl : Cls X.K C) (hr : Room (k + 1) X.A) : CallR X (.builtin "len") (rLenO C sp E0) := by
  obtain ⟨f, fd, h1, h2, b, F⟩ := c
  exact call_lenO cl h1 h2 F hr b pass0
/-- the making of an instance -/
def Mak (P : Program) (w : World) (K : PySem.W.Frag) (mg : Str → Option Value) (base : Heap) (k : Nat) (C : Addr) (ps : List Str) (sp : Sp) : Prop :=
  ∃ f fd, Mk K C f ∧ Binds K fd ps [] ∧ FnOk P w K mg base CX0 k f fd ps sp
theorem Mak.pe (c : Mak X.prog X.w X.K X.mg X.base k C ps sp) (hr : Room (k + 1) X.A) (hg : Gl X x) (hm : X.mg x = some (.ref C)) (ha : PA X (e :: es) t) (hdb : (x == ("__debug__" : Str)) = false := by decide)
    (he : starEach (e :: es) X.env = (false, eval e X.env) :: starEach es X.env := by rfl) (hpl : (backTo pos (starEach es X.env)).any (·.1) = false := by rfl) : PE X (.Call (.Name x p) (e :: es) [] pos) (tMake C sp [] E0 t) := by
  obtain ⟨f, fd, M, b, F⟩ := c
  exact pe_make M F hr hg hm b .nil pass0 ha hdb he hpl
theorem Mak.pe0 (c : Mak X.prog X.w X.K X.mg X.base k C ps sp) (hr : Room (k + 1) X.A) (hg : Gl X x) (hm : X.mg x = some (.ref C)) (hdb : (x == ("__debug__" : Str)) = false := by decide) : PE X (.Call (.Name x p) [] [] pos) (tMake C sp [] E0 tNil) := by
  obtain ⟨f, fd, M, b, F⟩ := c
  exact pe_make0 M F hr hg hm b .nil pass0 hdb
/-- a method -/
def Mth (P : Program) (w : World) (K : PySem.W.Frag) (mg : Str → Option Value) (base : Heap) (k : Nat) (C : Addr) (m : Str) (ps : List Str) (sp : Sp) : Prop :=
  ∃ f fd, Meth K C m f ∧ Binds K fd ps [] ∧ FnOk P w K mg base CX0 k f fd ps sp
theorem Mth.pe {m : Str} {o : Expr} {ta : TE} {apos : Pos} {pl : Sem Bool} (c : Mth X.prog X.w X.K X.mg X.base k C m ps sp) (he : PE X o ta) (cl : Cls X.K C) (hr : Room k X.A) (ha : PA X (e :: es) t)
    (hst : starEach (e :: es) X.env = (false, eval e X.env) :: starEach es X.env := by rfl) (hpl : (backTo pos (starEach es X.env)).any (·.1) = false := by rfl)
    (ht : eval (.Call (.Attribute o m apos) (e :: es) [] pos) X.env = (do
      let ov ← eval o X.env
      standAt apos.atName
      let (f, first) ← holding [ov] (getMethod ov m pl)
      callWith pos f first (backTo pos (starEach (e :: es) X.env)) (backToKw pos (keywordEach [] X.env))) := by rfl) : PE X (.Call (.Attribute o m apos) (e :: es) [] pos) (tMeth C m sp [] E0 ta t) := by
  obtain ⟨f, fd, M, b, F⟩ := c
  exact pe_meth he cl M F hr b .nil pass0 ha hst hpl ht
end

/-! ### isinstance -/
section
variable {K : PySem.W.Frag} {C : Addr} {H H' H0 : Hp} {σ : St} {ta tb : TE} {i : Int} {k : NK}
theorem eb_isi {P : V → Hp → Prop} {c : V} {u t : Value} {b : Bool} (ha : Ev1 ta σ H P) (hk : ClsV c u) (ht : ∀ v H2, Ex H H2 → P v H2 → TyX K H2 v t) (e : PySem.W.kitOne K t u = some b) : EvV (tCB (rIsi K) (tCons ta (tCons (tC c) tNil))) σ H (.bl b) := fun H1 x1 Q q =>
  ha H1 x1 _ fun v H2 x2 p => ⟨v, c, t, u, b, rfl, hk, ht v H2 (x1.trans x2) p, e, q _ H2 x2 rfl⟩
theorem ty_tup {v : V} {d : List PyData} (h : Dp K H v (.tuple d)) : TyX K H v (.type "tuple") := by
  cases h with
  | tup hs hd =>
    rcases hs with (h | ⟨o, h⟩) | ⟨o, its, n, h1, h2, _⟩
    · exact .base (.tup h)
    · exact .fTuple h
    · exact .kTuple h1 h2
theorem ty_lst {v : V} {d : List PyData} (h : Dp K H v (.list d)) : TyX K H v (.type "list") := by
  cases h with
  | lst hs hd =>
    rcases hs with (h | ⟨o, h⟩) | ⟨o, its, n, h1, h2, _⟩
    · exact .base (.lst h)
    · exact .base (.frz h)
    · exact .kList h1 h2
theorem ty_brd {v : V} {mg : Str → Option Value} {CF AF : Addr} {b : Brd} (T : TX K mg C CF AF) (h : BrdAt K C H v b) : TyX K H v (.ref C) := by
  obtain ⟨a, dx, t, rfl, h1, _⟩ := h
  exact .base (.ins h1 T.cl T.ha T.hn T.htk T.hm)
/-- board.table -/
theorem ek_table {mg : Str → Option Value} {CF AF : Addr} {b : Brd} (T : TX K mg C CF AF) (ha : Ev1 ta σ H fun v _ => BrdAt K C H0 v b) (x0 : Ex H0 H) : EvK K (tFld K ta "table") σ H (brdK b) := fun H1 x1 Q q =>
  ha H1 x1 _ fun v H2 x2 p => by
    obtain ⟨a, dx, t, rfl, h1, h2⟩ := p.ex ((x0.trans x1).trans x2)
    exact ⟨a, C, dx, _, t, rfl, h1, T.cl, T.nT, by simp, q _ H2 x2 h2⟩
end
end Wx
end
section
set_option Elab.async false
set_option linter.all false
set_option maxRecDepth 100000
set_option maxHeartbeats 4000000
/-! Promises in one shape, more readings. -/
namespace Wx
open PySem PySem.Spec PyProof.Rows L2 Wv
open Evl (Ex ex_rd ex_l ex_t sq_of st_of fresh_back)

/-! ### promises -/
/-- the arguments as told, the answer as told, the heap grown -/
def Ans (K : PySem.W.Frag) (C : Addr) (as : List Sl) (P : V → Hp → Prop) : List V → Hp → VK → Prop := fun vs H Q => Paired (VOk K C H) vs as ∧ ∀ v H', Ex H H' → P v H' → Q v H'
section
variable {K : PySem.W.Frag} {C : Addr} {H H' H0 : Hp} {σ : St} {e as : List Sl} {ta tb tc te tl : TE} {t u : TT} {P Pa Pb : V → Hp → Prop} {v : V} {k : NK} {b : Bool} {D : Ends} {tu tw tz : TS} {g : TG}
theorem sd_start {N : List Str} {vs : List V} (p : Paired (VOk K C H) vs as) : SD K C H (L2.start N vs) (as ++ List.replicate (N.length - as.length) .un) := by
  refine ⟨?_⟩
  have hl := Paired.length p
  unfold L2.start
  rw [hl]
  have hr : ∀ n, Paired (SOk K C H) (List.replicate n none) (List.replicate n .un) := fun n => by
    induction n with
    | zero => exact .nil
    | succ n ih => exact .cons trivial ih
  clear hl
  revert p
  generalize N.length - as.length = n
  intro p
  induction p with
  | nil => exact hr n
  | cons h _ ih => exact .cons h.s ih
theorem e1_ans {sp : Sp} {E : XK} {ta : TA} {as : List Sl} (h : EvA K C ta σ H as) (hs : ∀ vs H1 Q, Ans K C as P vs H1 Q → sp vs H1 Q E) : Ev1 (tCall sp [] E ta) σ H P :=
  e1_call h fun vs H1 _ p Q q => hs vs H1 Q ⟨p, q⟩
theorem q_ret (h : Ev1 te σ H P) (q : ∀ v H1, Ex H H1 → P v H1 → D.rt v H1) : tSeq (tRet te) tz D σ H := q_of (s_ret (D := { D with nx := tz D }) h q)
theorem q_end (h : D.nx σ H) : tNext D σ H := h
theorem ea_one {s : Sl} (h : Ev1 te σ H fun v H2 => VOk K C H2 v s) : EvA K C (tCons te tNil) σ H [s] := ea_cons h ea_nil
theorem ea_two {s1 s2 : Sl} (h : Ev1 ta σ H fun v H2 => VOk K C H2 v s1) (h2 : Ev1 tb σ H fun v H2 => VOk K C H2 v s2) : EvA K C (tCons ta (tCons tb tNil)) σ H [s1, s2] := ea_cons h (ea_one h2)
theorem ea_three {s1 s2 s3 : Sl} (h : Ev1 ta σ H fun v H2 => VOk K C H2 v s1) (h2 : Ev1 tb σ H fun v H2 => VOk K C H2 v s2) (h3 : Ev1 tc σ H fun v H2 => VOk K C H2 v s3) : EvA K C (tCons ta (tCons tb (tCons tc tNil))) σ H [s1, s2, s3] := ea_cons h (ea_two h2 h3)

/-! ### chains, all, in -/
theorem eb_chI {f g : Int → Int → Bool} {i j l : Int} (ha : EvK K ta σ H (.num i)) (hb : EvK K tb σ H (.num j)) (hc : EvK K tc σ H (.num l)) : EvV (tChain (rI0 fun i j => .bl (f i j)) (rI0 fun i j => .bl (g i j)) ta tb tc) σ H (.bl (f i j && g j l)) := fun H1 x1 Q q =>
  ha.v_int H1 x1 _ fun v H2 x2 p2 => hb.v_int H2 (x1.trans x2) _ fun w H3 x3 p3 => by
    subst p2 p3
    refine ⟨i, j, rfl, rfl, f i j, rfl, ?_⟩
    cases hf : f i j with
    | true =>
      rw [if_pos rfl]
      refine hc.v_int H3 ((x1.trans x2).trans x3) _ fun z H4 x4 p4 => ?_
      subst p4
      exact ⟨j, l, rfl, rfl, q _ H4 ((x2.trans x3).trans x4) (by rw [hf]; rfl)⟩
    | false =>
      rw [if_neg Bool.false_ne_true]
      exact q _ H3 (x2.trans x3) (by rw [hf]; rfl)
theorem eb_all {te : TE} {f : Nat → Bool} {is : List Nat} (h : EvN te σ H fun xs _ => Paired (fun y i => y = .bl (f i)) xs is) : EvV (tCB (rAll K) (tCons te tNil)) σ H (.bl (is.all f)) := fun H1 x1 Q q =>
  h H1 x1 _ fun p xs H2 _ x2 e pr => by
    have ex : xs = (is.map f).map V.bl := by
      rw [paired_vals pr, List.map_map]; rfl
    refine ⟨p, is.map f, rfl, sq_of (by rw [e, ex]), ?_⟩
    have : (is.map f).all id = is.all f := by rw [List.all_map]; rfl
    rw [this]
    exact q _ H2 x2 rfl
theorem eb_allT {te : TE} {is : List Nat} (h : EvN te σ H fun xs _ => Paired (fun y _ => y = .bl true) xs is) : EvV (tCB (rAll K) (tCons te tNil)) σ H (.bl true) := by
  have := eb_all (K := K) (f := fun _ => true) h
  rwa [show (is.all fun _ => true) = true from List.all_eq_true.mpr fun _ _ => rfl] at this
theorem eb_inS {c : Nat} {z : Str} (ha : EvK K ta σ H (txtK [c])) (hb : EvV tb σ H (.str z)) : EvV (tOp (fun x y H Q => ∃ (c : Nat) (z : Str), x = .str ⟨#[c]⟩ ∧ y = .str z ∧ Q (.bl (decide (c ∈ z.cps.toList))) H) ta tb) σ H (.bl (decide (c ∈ z.cps.toList))) :=
  ev_op (EvK.v_str ha) hb fun _ _ q => ⟨c, z, rfl, rfl, q⟩
theorem sign_in {s : Nat} (h : isSign s) : decide (s ∈ (Str.ofString ".<>x").cps.toList) = true := by
  rcases h with h | h | h | h <;> subst h <;> decide +kernel
theorem filt_all (n : Nat) : (List.range n).filter (fun _ => true) = List.range n := by simp
theorem EvV.is {w : V} (h : EvV te σ H v) (e : v = w) : EvV te σ H w := by subst e; exact h
theorem EvK.is {k' : NK} (h : EvK K te σ H k) (e : k = k') : EvK K te σ H k' := by subst e; exact h
theorem bl_is {a b : Bool} (h : EvV te σ H (.bl a)) (e : a = b) : EvV te σ H (.bl b) := by subst e; exact h

/-! ### data of boards -/
theorem brdK_get {b : Brd} {i : Nat} (h : i < b.length) : (b.map txtK)[i]? = some (txtK (b.getD i [])) := by
  simp [List.getElem?_map, List.getElem?_eq_getElem h, List.getD_eq_getElem?_getD]
theorem Rect.brd_get {R W : Nat} {b : Brd} (r : Rect R W b) {i : Nat} (h : i < R) : (b.map txtK)[i]? = some (txtK (b.getD i [])) := brdK_get (by rw [r.rows]; exact h)
theorem Rect.line_get {R W : Nat} {b : Brd} (r : Rect R W b) {i j : Nat} (h : i < R) (h2 : j < W) : (b.getD i [])[j]? = some (at2 b i j) := by
  have hl := r.line i h
  rw [List.getElem?_eq_getElem (by omega)]
  unfold at2
  rw [List.getD_eq_getElem?_getD (l := b.getD i []), List.getElem?_eq_getElem (by omega)]
  rfl
theorem brd_mem {b : Brd} {i : Nat} {l : List Nat} (h : (b.map txtK)[i]? = some (txtK l)) : i < b.length ∧ b.getD i [] = l := by
  have hi : i < b.length := by
    have := (List.getElem?_eq_some_iff.mp h).1
    simpa using this
  refine ⟨hi, ?_⟩
  rw [brdK_get hi] at h
  have := Option.some.inj h
  exact toS_inj (NestedKey.text.inj this)
theorem map_get {α : Type} {f : α → NK} {xs : List α} {i : Nat} {kk : NK} (h : (xs.map f)[i]? = some kk) : ∃ a, xs[i]? = some a ∧ kk = f a := by
  rw [List.getElem?_map] at h
  cases e : xs[i]? with
  | none => rw [e] at h; cases h
  | some a => rw [e] at h; exact ⟨a, rfl, (Option.some.inj h).symm⟩
theorem num_nat (n m : Nat) : NestedKey.num ((n : Int) + (m : Int)) = numK (n + m) := by unfold numK; rw [Int.natCast_add]
end
end Wx
end
section
set_option Elab.async false
set_option linter.all false
set_option maxRecDepth 100000
set_option maxHeartbeats 4000000
/-! Shapes, lists of numbers, pairs. -/
namespace Wx
open PySem PySem.Spec PyProof.Rows L2 Wv
open Evl (Ex ex_rd ex_l ex_t sq_of st_of fresh_back)
/-- what may be held against other data -/
structure Shp (n : Nat) (d : PyData) : Prop where
  lay : d.canLay0 = true
  dep : d.depth ≤ n
theorem Shp.mono {n m : Nat} {d : PyData} (h : Shp n d) (e : n ≤ m) : Shp m d := ⟨h.lay, Nat.le_trans h.dep e⟩
theorem Shp.ok {n : Nat} {d : PyData} (h : Shp n d) (hn : n ≤ 64) : SeqAt.shaped d = true := by
  show (d.canLay0 && decide (d.depth ≤ 64)) = true
  rw [h.lay, Bool.true_and]
  exact decide_eq_true (Nat.le_trans h.dep hn)
theorem shp_int (i : Int) : Shp 0 (.int i) := ⟨rfl, Nat.le_refl 0⟩
theorem shp_non : Shp 0 .none := ⟨rfl, Nat.le_refl 0⟩
theorem shp_bl (b : Bool) : Shp 0 (.bool b) := ⟨rfl, Nat.le_refl 0⟩
theorem shp_all {n : Nat} : ∀ {ds : List PyData}, (∀ d ∈ ds, Shp n d) → PyData.canLayAll0 ds = true ∧ PyData.depthAll ds ≤ n
  | [], _ => ⟨rfl, Nat.zero_le _⟩
  | d :: ds, h => by
    have h1 := h d List.mem_cons_self
    have h2 := shp_all fun x hx => h x (List.mem_cons_of_mem d hx)
    refine ⟨?_, ?_⟩
    · show (d.canLay0 && PyData.canLayAll0 ds) = true
      rw [h1.lay, h2.1]; rfl
    · exact Nat.max_le.mpr ⟨h1.dep, h2.2⟩
theorem shp_lst {n : Nat} {ds : List PyData} (h : ∀ d ∈ ds, Shp n d) : Shp (n + 1) (.list ds) := ⟨(shp_all h).1, Nat.succ_le_succ (shp_all h).2⟩
theorem shp_tup {n : Nat} {ds : List PyData} (h : ∀ d ∈ ds, Shp n d) : Shp (n + 1) (.tuple ds) := ⟨(shp_all h).1, Nat.succ_le_succ (shp_all h).2⟩
theorem shp_nil : Shp 1 (.list []) := ⟨rfl, Nat.le_refl 1⟩
theorem shp_tnil : Shp 1 (.tuple []) := ⟨rfl, Nat.le_refl 1⟩
/-- a list of numbers -/
def intsD (l : List Nat) : List PyData := l.map fun n : Nat => .int (n : Int)
theorem intsD_len (l : List Nat) : (intsD l).length = l.length := List.length_map _
theorem shp_ints (l : List Nat) : Shp 1 (.list (intsD l)) := shp_lst fun d h => by
  obtain ⟨n, _, rfl⟩ := List.mem_map.mp h
  exact shp_int _
theorem eqv_lnil (ds : List PyData) : PyData.eqv (.list ds) (.list []) = ds.isEmpty := by
  cases ds with
  | nil => rfl
  | cons a b => show PyData.eqvAll (a :: b) [] = _; unfold PyData.eqvAll; rfl
theorem eqv_tnil (ds : List PyData) : PyData.eqv (.tuple ds) (.tuple []) = ds.isEmpty := by
  cases ds with
  | nil => rfl
  | cons a b => show PyData.eqvAll (a :: b) [] = _; unfold PyData.eqvAll; rfl
theorem intsD_empty (l : List Nat) : (intsD l).isEmpty = l.isEmpty := by cases l <;> rfl
theorem datas_nums (l : List Nat) : NestedKey.datas (l.map numK) = intsD l := by
  rw [datas_map, List.map_map]; rfl
section
variable {K : PySem.W.Frag} {C : Addr} {H H' H0 : Hp} {σ : St} {e as : List Sl} {ta tb tc te tl : TE} {P Pa Pb : V → Hp → Prop} {v : V}
theorem SD.drop (h : SD K C H σ e) (i : Nat) : SD K C H σ (e.set i .un) := by
  obtain ⟨h⟩ := h
  refine ⟨?_⟩
  induction h generalizing i with
  | nil => exact .nil
  | cons a b ih =>
    cases i with
    | zero => exact .cons trivial b
    | succ i => exact .cons a (ih i)
theorem e1_ls {ds : List PyData} (h : EvN te σ H fun xs H2 => DpAll K H2 xs ds) : Ev1 te σ H fun v H2 => Dp K H2 v (.list ds) := h.e1.mono fun v H2 _ ⟨p, xs, e1, e2, e3⟩ => by subst e1; exact .lst (SqL.of e2) e3
theorem dp_ints : ∀ l : List Nat, DpAll K H (l.map fun n : Nat => V.int (n : Int)) (intsD l)
  | [] => .nil
  | n :: l => .cons (.int _) (dp_ints l)
theorem ints_dp : ∀ {l : List Nat} {xs : List V}, DpAll K H xs (intsD l) → xs = l.map fun n : Nat => V.int (n : Int)
  | [], _, h => by cases h; rfl
  | n :: l, _, h => by
    cases h with
    | cons h1 h2 => cases h1; rw [ints_dp h2]; rfl
/-- a pair of numbers -/
def PrAt (H : Hp) (v : V) (p : Nat × Nat) : Prop := ∃ t, v = .ref t ∧ H t = some (.tup [.int (p.1 : Int), .int (p.2 : Int)])
theorem PrAt.ex {p : Nat × Nat} (x : Ex H H') (h : PrAt H v p) : PrAt H' v p := by
  obtain ⟨t, h1, h2⟩ := h
  exact ⟨t, h1, x _ _ h2⟩
theorem PrAt.mut {p : Nat × Nat} {l : Addr} {xs ys : List V} (e : H l = some (.lst xs)) (h : PrAt H v p) : PrAt (upd H l (.lst ys)) v p := by
  obtain ⟨t, h1, h2⟩ := h
  refine ⟨t, h1, ?_⟩
  have : t ≠ l := fun z => by subst z; rw [e] at h2; cases h2
  show (if t = l then _ else H t) = _
  rw [if_neg this]; exact h2
theorem e1_pair {a b : Nat} (ha : EvK K ta σ H (numK a)) (hb : EvK K tb σ H (numK b)) : Ev1 (tTup (tCons ta (tCons tb tNil))) σ H fun v H2 => PrAt H2 v (a, b) := fun H1 x Q q =>
  ha.v_int H1 x _ fun v H2 x2 p => hb.v_int H2 (x.trans x2) _ fun w H3 x3 p3 => by
    subst p p3
    refine ⟨by rw [sizeLine_eq, List.length_cons, List.length_singleton]; decide, fun r hr => q _ _ ((x2.trans x3).trans (Evl.Ex.new hr)) ⟨r, rfl, upd_same⟩⟩
theorem paired_perm {α β : Type} {R : α → β → Prop} {ys xs : List α} (h : ys.Perm xs) : ∀ {ps : List β}, Paired R xs ps → ∃ qs, qs.Perm ps ∧ Paired R ys qs := by
  induction h with
  | nil => intro ps hp; exact ⟨ps, .refl _, hp⟩
  | cons a _ ih =>
    intro ps hp
    cases hp with
    | cons h1 h2 =>
      obtain ⟨qs, e1, e2⟩ := ih h2
      exact ⟨_ :: qs, e1.cons _, .cons h1 e2⟩
  | swap a b l =>
    intro ps hp
    cases hp with
    | cons h1 h2 =>
      cases h2 with
      | cons h2 h3 => exact ⟨_ :: _ :: _, .swap _ _ _, .cons h2 (.cons h1 h3)⟩
  | trans _ _ ih1 ih2 =>
    intro ps hp
    obtain ⟨qs, e1, e2⟩ := ih2 hp
    obtain ⟨rs, e3, e4⟩ := ih1 e2
    exact ⟨rs, e3.trans e1, e4⟩
theorem PrAt.dp {p : Nat × Nat} (h : PrAt H v p) : Dp K H v (pairK p).data := by
  obtain ⟨t, rfl, h2⟩ := h
  exact .tup (SqT.of h2) (.cons (.int _) (.cons (.int _) .nil))
theorem prs_dats : ∀ {ps : List (Nat × Nat)} {xs : List V}, Paired (PrAt H) xs ps → DpAll K H xs (NestedKey.datas (ps.map pairK))
  | [], _, h => by cases h; exact .nil
  | p :: ps, _, h => by
    cases h with
    | cons h1 h2 => exact .cons h1.dp (prs_dats h2)
theorem paired_mem {α β : Type} {R : α → β → Prop} {xs : List α} {ps : List β} (h : Paired R xs ps) : ∀ x ∈ xs, ∃ p, R x p := by
  induction h with
  | nil => intro x hx; cases hx
  | cons h1 _ ih =>
    intro x hx
    rcases List.mem_cons.mp hx with e | e
    · subst e; exact ⟨_, h1⟩
    · exact ih x e
/-- sorted of a list of pairs -/
theorem e1_sortP {ps : List (Nat × Nat)} (h : Ev1 te σ H fun v H2 => ∃ l xs, v = .ref l ∧ H2 l = some (.lst xs) ∧ Paired (PrAt H2) xs ps) : Ev1 (tCB (rSortedP K) (tCons te tNil)) σ H fun v H2 => ∃ qs : List (Nat × Nat), qs.Perm ps ∧ Dp K H2 v (lsD (qs.map pairK)) := fun H1 x Q q =>
  h H1 x _ fun v H2 x2 ⟨l, xs, ev, el, pr⟩ => by
    subst ev
    refine ⟨l, xs, rfl, SqL.of el, fun y hy => ?_, fun ys p hp hn => ?_⟩
    · obtain ⟨z, t, e1, e2⟩ := paired_mem pr y hy
      exact ⟨t, _, _, e1, e2⟩
    · obtain ⟨qs, e1, e2⟩ := paired_perm hp pr
      refine q _ _ (x2.trans (Evl.Ex.new hn)) ⟨qs, e1, .lst (SqL.of upd_same) ?_⟩
      exact prs_dats (Paired.mapP e2 fun _ _ z => z.ex (Evl.Ex.new hn))
end
/-! ### within a comprehension: the row of a K that stands outside -/
section
variable {X : Cx} {K : PySem.W.Frag}
theorem ix_tupK (h : X.K = K) : IxR X (rIxT K) := h ▸ ix_tup
theorem ix_listK (h : X.K = K) : IxR X (rIxL K) := h ▸ ix_list
theorem op_inK (h : X.K = K) : OpR X (compareOp .In) (rIn K false) := h ▸ op_in_seq
theorem call_lenK (h : X.K = K) : CallR X (.builtin "len") (fun xs H Q => ∃ p ys, xs = [.ref p] ∧ (SqL K H p ys ∨ SqT K H p ys) ∧ Q (.int ys.length) H) := h ▸ call_len_seq
end
end Wx
end
section
set_option Elab.async false
set_option linter.all false
set_option maxRecDepth 100000
set_option maxHeartbeats 4000000
namespace Wx
open PySem PySem.Spec PyProof.Rows L2 Wv
open Evl (Ex ex_rd ex_l ex_t sq_of st_of fresh_back)

/-! ### is_from, is_line -/
def spFrom (K : PySem.W.Frag) (C : Addr) : Sp := fun vs H Q _ => ∃ i lo hi : Int, Ans K C [.dat (.num i), .dat (.num lo), .dat (.num hi)] (fun v _ => v = .bl (decide (lo ≤ i) && decide (i ≤ hi))) vs H Q
theorem ok_is_from {P : Program} {w : World} {K : PySem.W.Frag} {mg : Str → Option Value} {base : Heap} {CB CF AF : Addr} (kn : Kn K mg "is_from" s_is_from) (T : TX K mg CB CF AF)  : Cal P w K mg base 1 "is_from" ["value", "low", "high"] (spFrom K CB) := by
  have nd := sc_is_from.nd
  refine Cal.mk kn sc_is_from (fun _ _ _ _ _ _ us hl => match us, hl with | [_, _, _], _ => rfl) (fun vs H Q E h => ?_) (fun f cdv A outer s H vs Q E hr h => ⟨_, (pss_one (ps_ret (pe_and (pe_callB call_isi (by rfl) T.z_isinstance (by decide +kernel) (pa_cons (pv 0) (pa_cons (pe_bltn (v := .ty "int") (by rfl) T.z_int (by decide +kernel) rfl) pa_nil))) (pe_and (pe_not (pe_callB call_isi (by rfl) T.z_isinstance (by decide +kernel) (pa_cons (pv 0) (pa_cons (pe_bltn (v := .ty "bool") (by rfl) T.z_bool (by decide +kernel) rfl) pa_nil)))) (pe_one (pe_chain op_le op_le (pv 1) (pv 0) (pv 2))))))), ?_⟩)
  · obtain ⟨i, lo, hi, a⟩ := h
    exact (Paired.length a.1 :)
  obtain ⟨i, lo, hi, a⟩ := h
  obtain ⟨hp, q⟩ := a
  have sd := sd_start (N := ["value", "low", "high"]) hp
  try dsimp only [cxOf, Cx.nox]
  refine s_ret (eb_and (a := true) (eb_isi (ek_var sd rfl) (ClsV.ty _) (fun v H2 _ p => by rw [dp_int p]; exact .base (.int i)) (kit_ty (by decide +kernel))) fun _ =>
    eb_and (a := true) (eb_not (eb_isi (b := false) (ek_var sd rfl) (ClsV.ty _) (fun v H2 _ p => by rw [dp_int p]; exact .base (.int i)) (kit_ty (by decide +kernel)))) fun _ => eb_chI (ek_var sd rfl) (ek_var sd rfl) (ek_var sd rfl)) ?_
  exact fun v H1 x e => q v H1 x (by rw [e]; rfl)

def spLine (K : PySem.W.Frag) (C : Addr) : Sp := fun vs H Q _ => ∃ l : List Nat, 1 ≤ l.length ∧ l.length ≤ 5 ∧ (∀ s ∈ l, isSign s) ∧ Ans K C [.dat (txtK l)] (fun v _ => v = .bl true) vs H Q
theorem ok_is_line {P : Program} {w : World} {K : PySem.W.Frag} {mg : Str → Option Value} {base : Heap} {CB CF AF : Addr} (kn : Kn K mg "is_line" s_is_line) (T : TX K mg CB CF AF)  : Cal P w K mg base 1 "is_line" ["value"] (spLine K CB) := by
  have nd := sc_is_line.nd
  refine Cal.mk kn sc_is_line (fun _ _ _ _ _ _ us hl => match us, hl with | [_], _ => rfl) (fun vs H Q E h => ?_) (fun f cdv A outer s H vs Q E hr h => ⟨_, (pss_one (ps_ret (pe_and (pe_callB call_isi (by rfl) T.z_isinstance (by decide +kernel) (pa_cons (pv 0) (pa_cons (pe_bltn (v := .ty "str") (by rfl) T.z_str (by decide +kernel) rfl) pa_nil))) (pe_and (pe_chain op_le op_le pe_int (pe_callB call_len_str (by rfl) T.z_len PySem.boot_len (pa_cons (pv 0) pa_nil)) (pe_gI (by rfl) T.g_MOST_LINES)) (pe_one (pe_callB (cr_all rfl) (by rfl) T.z_all (by decide +kernel) (pa_cons (pe_lc (own := [("sign", 1)]) (by rfl) nd (pi_str (pv 0)) (blkOk_by (own := [("sign", 1)]) (N := ["value", "sign"]) (sc := defScope s_is_line) (by decide +kernel)) (fun _ _ _ _ _ => (pg_name (i := 1) nd rfl (by first | exact Or.inl rfl | exact Or.inr rfl))) (fun _ _ _ _ _ => pts_nil) (fun _ _ _ _ _ => (pe_cmpR op_in_sign (pv 1) (pe_gS (by rfl) T.g_SIGNS) (by with_unfolding_all rfl)))) pa_nil))))))), ?_⟩)
  · obtain ⟨l, h1, h5, hs, a⟩ := h
    exact (Paired.length a.1 :)
  obtain ⟨l, h1, h5, hs, a⟩ := h
  obtain ⟨hp, q⟩ := a
  have sd := sd_start (N := ["value", "sign"]) hp
  try dsimp only [cxOf, Cx.nox]
  refine s_ret (eb_and (a := true) (eb_isi (ek_var sd rfl) (ClsV.ty _) (fun v H2 _ p => by rw [dp_str p]; exact .base (.str _)) (kit_ty (by decide +kernel))) fun _ =>
    eb_and (a := true) (bl_is (eb_chI ek_int (ek_lenS (ek_var sd rfl) (by omega)) ek_int) ?_) fun _ => eb_allT (en_lcS (fun _ => true) (fun _ y _ => y = .bl true) sd (ek_var sd rfl) (by omega) (by simp) (fun _ _ _ _ _ z => z) ?_)) ?_
  · simp; omega
  · exact fun i s σ2 H1 hi x sd2 => ⟨et_yes, fun _ => bl_is (eb_inS (ek_var sd2 rfl) ev_c) (sign_in (hs s (List.mem_of_getElem? hi)))⟩
  · exact fun v H1 x e => q v H1 x e
end Wx
end
section
set_option Elab.async false
set_option linter.all false
set_option maxRecDepth 100000
set_option maxHeartbeats 4000000
namespace Wx
open PySem PySem.Spec PyProof.Rows L2 Wv
open Evl (Ex ex_rd ex_l ex_t sq_of st_of fresh_back)
/-- a board of at most five lines of at most five signs -/
structure Brd5 (R W : Nat) (b : Brd) : Prop where
  r : Rect R W b
  R1 : 1 ≤ R
  R5 : R ≤ 5
  W1 : 1 ≤ W
  W5 : W ≤ 5
section
variable {R W : Nat} {b : Brd} (h : Brd5 R W b)
include h
theorem Brd5.len : b.length = R := h.r.rows
theorem Brd5.lenK : (b.map txtK).length = R := by rw [List.length_map, h.r.rows]
theorem Brd5.cols : cols b = W := h.r.cols h.R1
theorem Brd5.many : many b = R + W := h.r.many h.R1
theorem Brd5.get {i : Nat} (hi : i < R) : (b.map txtK)[i]? = some (txtK (b.getD i [])) := Rect.brd_get h.r hi
theorem Brd5.at {i j : Nat} (hi : i < R) (hj : j < W) : (b.getD i [])[j]? = some (at2 b i j) := Rect.line_get h.r hi hj
theorem Brd5.signs {i s : Nat} (hi : i < R) (hs : s ∈ b.getD i []) : isSign s := by
  obtain ⟨j, hj, e⟩ := List.getElem_of_mem hs
  have hl := h.r.line i hi
  have := h.r.sign i j hi (by omega)
  have e2 := h.at hi (show j < W by omega)
  rw [List.getElem?_eq_getElem hj, e] at e2
  rw [Option.some.inj e2]; exact this
end

/-! ### Board.__init__ -/
def spInit (K : PySem.W.Frag) (C : Addr) : Sp := fun vs H Q _ => ∃ R W b x dx, Brd5 R W b ∧ H x = some (.ins C dx []) ∧ Paired (VOk K C H) vs [.val (.ref x), .dat (brdK b)] ∧ ∀ t H', Dp K H' t (brdK b).data → Ex H H' → Q .non (upd H' x (.ins C dx [("table", t)]))
theorem ok_Board_init {P : Program} {w : World} {K : PySem.W.Frag} {mg : Str → Option Value} {base : Heap} {CB CF AF : Addr} {f : Addr} {fd : FuncData} (F : Fun K "__init__" "Board.__init__" s_Board_init f fd) (T : TX K mg CB CF AF) (c_is_line : Cal P w K mg base 1 "is_line" ["value"] (spLine K CB)) : FnOk P w K mg base CX0 2 f fd ["self", "cells"] (spInit K CB) := by
  have nd := sc_Board_init.nd
  refine F.ok sc_Board_init (fun vs H Q E h => ?_) (fun cdv A outer s H vs Q E hr h => ⟨_, (pss_cons (ps_if (PW.pt (pw_or (pt_not (pt_val (pe_callB call_isi (by rfl) T.z_isinstance (by decide +kernel) (pa_cons (pv 1) (pa_cons (pe_bltn (v := .ty "tuple") (by rfl) T.z_tuple (by decide +kernel) rfl) pa_nil))))) (pw_or1 (pt_not (pt_chain op_le op_le pe_int (pe_callB call_len_seq (by rfl) T.z_len PySem.boot_len (pa_cons (pv 1) pa_nil)) (pe_gI (by rfl) T.g_MOST_LINES)))))) pss_never pss_nil)
  (pss_cons (ps_if (pt_not (pt_val (pe_callB (cr_all rfl) (by rfl) T.z_all (by decide +kernel) (pa_cons (pe_lc (own := [("line", 2)]) (by rfl) nd (pi_tup (pv 1)) (blkOk_by (own := [("line", 2)]) (N := ["self", "cells", "line"]) (sc := defScope s_Board_init) (by decide +kernel)) (fun _ _ _ _ _ => (pg_name (i := 2) nd rfl (by first | exact Or.inl rfl | exact Or.inr rfl))) (fun _ _ _ _ _ => pts_nil) (fun _ _ _ _ _ => (c_is_line.pe (hr.mono (by omega)) (by rfl) (pa_cons (pv 2) pa_nil)))) pa_nil)))) pss_never pss_nil)
  (pss_cons (ps_if (pt_not (pt_val (pe_callB (cr_all rfl) (by rfl) T.z_all (by decide +kernel) (pa_cons (pe_lc (own := [("line", 2)]) (by rfl) nd (pi_tup (pv 1)) (blkOk_by (own := [("line", 2)]) (N := ["self", "cells", "line"]) (sc := defScope s_Board_init) (by decide +kernel)) (fun _ _ _ _ _ => (pg_name (i := 2) nd rfl (by first | exact Or.inl rfl | exact Or.inr rfl))) (fun _ _ _ _ _ => pts_nil) (fun _ _ _ _ _ => (pe_cmpR op_eq (pe_callB call_len_str (by rfl) T.z_len PySem.boot_len (pa_cons (pv 2) pa_nil)) (pe_callB call_len_str (by rfl) T.z_len PySem.boot_len (pa_cons (pe_ix (ix_tupK (K := K) rfl) (pv 1) pe_int (fun _ _ => rfl)) pa_nil)) (nomark _)))) pa_nil)))) pss_never pss_nil)
  (pss_one (ps_fld (pv 0) (pv 1) (by rfl)))))), ?_⟩)
  · obtain ⟨R, W, b, x, dx, hb, hx, a⟩ := h
    exact (Paired.length a.1 :)
  obtain ⟨R, W, b, x, dx, hb, hx, a⟩ := h
  obtain ⟨hp, q⟩ := a
  have sd := sd_start (N := ["self", "cells", "line"]) hp
  try dsimp only [cxOf, Cx.nox]
  have l0 : (b.getD 0 []).length = W := hb.r.line 0 hb.R1
  refine q_skip (Evl.et_or (a := false) (b := false) (Evl.et_not (a := true) (et_B (eb_isi (ek_var sd rfl) (ClsV.ty _) (fun v H2 _ p => ty_tup p) (kit_ty (by decide +kernel))))) fun _ => Evl.et_not (a := true) ?_) fun H1 x1 => ?_
  · refine Evl.et_is (et_test (eb_chI ek_int (EvK.is (ek_lenT (ek_var sd rfl)) (congrArg (fun n : Nat => NestedKey.num (n : Int)) hb.lenK)) ek_int)) ?_
    simp only [Bool.and_eq_true, decide_eq_true_eq]
    have := hb.R1
    have := hb.R5
    omega
  have sd1 := sd.ex x1
  refine q_skip (Evl.et_not (a := true) (et_B (eb_allT (en_lcT (fun _ => true) (fun _ y _ => y = .bl true) sd1 (ek_var sd1 rfl) (by rw [hb.lenK]; have := hb.R5; omega) (by simp) (fun _ _ _ _ _ z => z) ?_)))) fun H2 x2 => ?_
  · intro i kk σ2 H2 hk x2 sd2
    refine ⟨et_yes, fun _ => ?_⟩
    obtain ⟨l, hl, rfl⟩ := map_get hk
    have e := brd_mem (b := b) (l := l) hk
    rw [hb.len] at e
    have ll := hb.r.line i e.1
    rw [e.2] at ll
    exact e1_ans (ea_one (s := .dat (txtK l)) (ek_var sd2 rfl)) fun vs H3 Q a => ⟨l, by have := hb.W1; omega, by have := hb.W5; omega, fun s hs => hb.signs e.1 (by rw [e.2]; exact hs), a⟩
  have sd2 := sd1.ex x2
  refine q_skip (Evl.et_not (a := true) (et_B (eb_allT (en_lcT (fun _ => true) (fun _ y _ => y = .bl true) sd2 (ek_var sd2 rfl) (by rw [hb.lenK]; have := hb.R5; omega) (by simp) (fun _ _ _ _ _ z => z) ?_)))) fun H3 x3 => ?_
  · intro i kk σ2 H3 hk x3 sd3
    refine ⟨et_yes, fun _ => ?_⟩
    obtain ⟨l, hl, rfl⟩ := map_get hk
    have e := brd_mem (b := b) (l := l) hk
    rw [hb.len] at e
    have ll := hb.r.line i e.1
    rw [e.2] at ll
    have := hb.W5
    refine bl_is (eb_eqI (ek_lenS (ek_var sd3 rfl) (by omega)) (ek_lenS (ek_ixT (ek_var sd3 rfl) ek_int (hb.get hb.R1)) (Nat.le_trans (Nat.le_of_eq l0) (by omega)))) ?_
    rw [ll, l0]; simp
  have sd3 := sd2.ex x3
  have x13 := (x1.trans x2).trans x3
  refine (ek_var (k := brdK b) sd3 rfl) H3 (Evl.Ex.refl _) _ fun v H4 x4 p => (ev_var sd3 rfl) H4 x4 _ fun u H5 x5 eu => ?_
  subst eu
  have ex := (x13.trans (x4.trans x5)) _ _ hx
  refine ⟨x, CB, dx, [], rfl, ex, T.cl, T.nT, by decide, ?_⟩
  exact q _ H5 (Dp.ex x5 _ _ p) (x13.trans (x4.trans x5))
theorem Mak.board {P : Program} {w : World} {K : PySem.W.Frag} {mg : Str → Option Value} {base : Heap} {CB CF AF : Addr} {f : Addr} {fd : FuncData} (M : Mk K CB f) (F : FnOk P w K mg base CX0 2 f fd ["self", "cells"] (spInit K CB)) (b : Binds K fd ["self", "cells"] []) : Mak P w K mg base 2 CB ["self", "cells"] (spInit K CB) := ⟨f, fd, M, b, F⟩

/-! ### Board.cells, rows, columns, len -/
def spCells (K : PySem.W.Frag) (C : Addr) : Sp := fun vs H Q _ => ∃ b, Ans K C [.brd H b] (fun v H' => Dp K H' v (brdK b).data) vs H Q
theorem ok_Board_cells {P : Program} {w : World} {K : PySem.W.Frag} {mg : Str → Option Value} {base : Heap} {CB CF AF : Addr} {f : Addr} {fd : FuncData} (F : Fun K "cells" "Board.cells" s_Board_cells f fd) (T : TX K mg CB CF AF)  : FnOk P w K mg base CX0 1 f fd ["self"] (spCells K CB) := by
  have nd := sc_Board_cells.nd
  refine F.ok sc_Board_cells (fun vs H Q E h => ?_) (fun cdv A outer s H vs Q E hr h => ⟨_, (pss_one (ps_ret (pe_fld (pv 0) rfl))), ?_⟩)
  · obtain ⟨b, a⟩ := h
    exact (Paired.length a.1 :)
  obtain ⟨b, a⟩ := h
  obtain ⟨hp, q⟩ := a
  have sd := sd_start (N := ["self"]) hp
  try dsimp only [cxOf, Cx.nox]
  exact s_ret (ek_table T (eb_var sd rfl) (Evl.Ex.refl _)) q
def spRows (K : PySem.W.Frag) (C : Addr) : Sp := fun vs H Q _ => ∃ R W b, Brd5 R W b ∧ Ans K C [.brd H b] (fun v H' => Dp K H' v (numK R).data) vs H Q
theorem ok_Board_rows {P : Program} {w : World} {K : PySem.W.Frag} {mg : Str → Option Value} {base : Heap} {CB CF AF : Addr} {f : Addr} {fd : FuncData} (F : Fun K "rows" "Board.rows" s_Board_rows f fd) (T : TX K mg CB CF AF)  : FnOk P w K mg base CX0 1 f fd ["self"] (spRows K CB) := by
  have nd := sc_Board_rows.nd
  refine F.ok sc_Board_rows (fun vs H Q E h => ?_) (fun cdv A outer s H vs Q E hr h => ⟨_, (pss_one (ps_ret (pe_callB call_len_seq (by rfl) T.z_len PySem.boot_len (pa_cons (pe_fld (pv 0) rfl) pa_nil)))), ?_⟩)
  · obtain ⟨R, W, b, hb, a⟩ := h
    exact (Paired.length a.1 :)
  obtain ⟨R, W, b, hb, a⟩ := h
  obtain ⟨hp, q⟩ := a
  have sd := sd_start (N := ["self"]) hp
  try dsimp only [cxOf, Cx.nox]
  refine s_ret (EvK.is (ek_lenT (ek_table T (eb_var sd rfl) (Evl.Ex.refl _))) ?_) q
  rw [hb.lenK]; rfl
def spCols (K : PySem.W.Frag) (C : Addr) : Sp := fun vs H Q _ => ∃ R W b, Brd5 R W b ∧ Ans K C [.brd H b] (fun v H' => Dp K H' v (numK W).data) vs H Q
theorem ok_Board_columns {P : Program} {w : World} {K : PySem.W.Frag} {mg : Str → Option Value} {base : Heap} {CB CF AF : Addr} {f : Addr} {fd : FuncData} (F : Fun K "columns" "Board.columns" s_Board_columns f fd) (T : TX K mg CB CF AF)  : FnOk P w K mg base CX0 1 f fd ["self"] (spCols K CB) := by
  have nd := sc_Board_columns.nd
  refine F.ok sc_Board_columns (fun vs H Q E h => ?_) (fun cdv A outer s H vs Q E hr h => ⟨_, (pss_one (ps_ret (pe_callB call_len_str (by rfl) T.z_len PySem.boot_len (pa_cons (pe_ix ix_tup (pe_fld (pv 0) rfl) pe_int (fun _ _ => rfl)) pa_nil)))), ?_⟩)
  · obtain ⟨R, W, b, hb, a⟩ := h
    exact (Paired.length a.1 :)
  obtain ⟨R, W, b, hb, a⟩ := h
  obtain ⟨hp, q⟩ := a
  have sd := sd_start (N := ["self"]) hp
  try dsimp only [cxOf, Cx.nox]
  have l0 : (b.getD 0 []).length = W := hb.r.line 0 hb.R1
  refine s_ret (EvK.is (ek_lenS (ek_ixT (ek_table T (eb_var sd rfl) (Evl.Ex.refl _)) ek_int (hb.get hb.R1)) (Nat.le_trans (Nat.le_of_eq l0) (by have := hb.W5; omega))) ?_) q
  rw [l0]; rfl
def spLen (K : PySem.W.Frag) (C : Addr) : Sp := fun vs H Q _ => ∃ R W b, Brd5 R W b ∧ Ans K C [.brd H b] (fun v H' => v = .int ((R + W : Nat) : Int)) vs H Q
theorem ok_Board_len {P : Program} {w : World} {K : PySem.W.Frag} {mg : Str → Option Value} {base : Heap} {CB CF AF : Addr} {f : Addr} {fd : FuncData} (F : Fun K "__len__" "Board.__len__" s_Board_len f fd) (T : TX K mg CB CF AF)  : FnOk P w K mg base CX0 1 f fd ["self"] (spLen K CB) := by
  have nd := sc_Board_len.nd
  refine F.ok sc_Board_len (fun vs H Q E h => ?_) (fun cdv A outer s H vs Q E hr h => ⟨_, (pss_one (ps_ret (pe_callB call_len_seq (by rfl) T.z_len PySem.boot_len (pa_cons (pe_lst (StX.pa_star (pe_fld (pv 0) rfl) (pa_starS rfl (pe_ix ix_tup (pe_fld (pv 0) rfl) pe_int (fun _ _ => rfl)) pa_nil))) pa_nil)))), ?_⟩)
  · obtain ⟨R, W, b, hb, a⟩ := h
    exact (Paired.length a.1 :)
  obtain ⟨R, W, b, hb, a⟩ := h
  obtain ⟨hp, q⟩ := a
  have sd := sd_start (N := ["self"]) hp
  try dsimp only [cxOf, Cx.nox]
  have l0 : (b.getD 0 []).length = W := hb.r.line 0 hb.R1
  refine s_ret (P := fun v _ => v = .int ((R + W : Nat) : Int)) (fun H1 x1 Q2 q2 => ?_) q
  dsimp only [tCB, tCons, tLst, tNil, StX.tStar, tStarS]
  refine (ek_table T (eb_var (n := 0) (H0 := H) (b := b) sd rfl) (Evl.Ex.refl _)) H1 x1 _ fun v H2 x2 p => ?_
  obtain ⟨a, xs, rfl, hs, hd⟩ := dp_tup p
  have hl : xs.length = R := by rw [dpAll_len hd, datas_len, hb.lenK]
  refine ⟨a, xs, rfl, .inl hs, (ek_ixT (ek_table T (eb_var (n := 0) (H0 := H) (b := b) sd rfl) (Evl.Ex.refl _)) ek_int (hb.get hb.R1)) H2 (x1.trans x2) _ fun v2 H3 x3 p3 => ?_⟩
  have := hb.R5
  have := hb.W5
  refine ⟨toS (b.getD 0 []), dp_str p3, by rw [toS_len, l0, sizeLine_eq]; omega, ?_⟩
  have hsg : (signs (toS (b.getD 0 []))).length = W := by
    unfold signs
    rw [List.length_map, toS_cps, l0]
  refine ⟨by rw [List.append_nil, List.length_append, hl, hsg, sizeLine_eq]; omega, fun p hp => ⟨p, _, rfl, .inl (SqL.of upd_same), ?_⟩⟩
  rw [List.append_nil, List.length_append, hl, hsg]
  exact q2 _ _ ((x2.trans x3).trans (Evl.Ex.new hp)) rfl

/-! ### what callers need -/
section
variable {K : PySem.W.Frag} {C : Addr} {H H' H0 : Hp} {σ : St} {e as : List Sl} {ta te : TE} {b : Brd} {R W : Nat} {E : XK}
theorem e1_cells (h : Ev1 te σ H fun v _ => BrdAt K C H0 v b) (hx : Ex H0 H) : EvK K (tProp C (spCells K C) [] E te) σ H (brdK b) :=
  e1_prop h hx fun v H1 x1 p Q q => ⟨b, .cons p .nil, q⟩
theorem e1_rows (hb : Brd5 R W b) (h : Ev1 te σ H fun v _ => BrdAt K C H0 v b) (hx : Ex H0 H) : EvK K (tProp C (spRows K C) [] E te) σ H (numK R) :=
  e1_prop h hx fun v H1 x1 p Q q => ⟨R, W, b, hb, .cons p .nil, q⟩
theorem e1_cols (hb : Brd5 R W b) (h : Ev1 te σ H fun v _ => BrdAt K C H0 v b) (hx : Ex H0 H) : EvK K (tProp C (spCols K C) [] E te) σ H (numK W) :=
  e1_prop h hx fun v H1 x1 p Q q => ⟨R, W, b, hb, .cons p .nil, q⟩
theorem e1_len (hb : Brd5 R W b) (h : Ev1 te σ H fun v _ => BrdAt K C H0 v b) (hx : Ex H0 H) : EvK K (tCB (rLenO C (spLen K C) E) (tCons te tNil)) σ H (numK (R + W)) := fun H1 x1 Q q =>
  h H1 x1 _ fun v H2 x2 p => by
    have p' := p.ex (hx.trans (x1.trans x2))
    obtain ⟨a, dx, t, rfl, h1, h2⟩ := id p'
    refine ⟨a, dx, _, rfl, h1, R, W, b, hb, .cons p' .nil, fun v H' x ev => ⟨R + W, ev, by have := hb.R5; have := hb.W5; omega, ?_⟩⟩
    exact q _ H' (x2.trans x) (.int _)
theorem e1_board (hb : Brd5 R W b) (h : EvK K te σ H (brdK b)) : Ev1 (tMake C (spInit K C) [] E (tCons te tNil)) σ H fun v H2 => BrdAt K C H2 v b := fun H1 x1 Q q =>
  h H1 x1 _ fun v H2 x2 p x dx hx hd hne => by
    have e1 : Ex H2 (upd (upd H2 dx (.own x)) x (.ins C dx [])) := (Evl.Ex.new hd).trans (Evl.Ex.new (by show (if x = dx then _ else H2 x) = none; rw [if_neg fun z => hne z.symm]; exact hx))
    refine ⟨R, W, b, x, dx, hb, upd_same, .cons rfl (.cons (Dp.ex e1 _ _ p) .nil), fun t H' dt xe => ⟨rfl, ?_⟩⟩
    have e2 : Ex H2 (upd H' x (.ins C dx [("table", t)])) := Evl.Ex.mut (e1.trans xe) hx
    refine q _ _ (x2.trans e2) ⟨x, dx, t, rfl, upd_same, ?_⟩
    exact Dp.tx (tx_upd (not_tup (xe _ _ upd_same) (fun _ z => nomatch z) fun _ _ z => nomatch z)) _ _ dt
end
end Wx
end
section
set_option Elab.async false
set_option linter.all false
set_option maxRecDepth 100000
set_option maxHeartbeats 4000000
namespace Wx
open PySem PySem.Spec PyProof.Rows L2 Wv
open Evl (Ex ex_rd ex_l ex_t sq_of st_of fresh_back)
section
variable {K : PySem.W.Frag} {C : Addr} {H H' H0 : Hp} {σ : St} {e as : List Sl} {ta tb tc te tl : TE} {t u : TT} {P Pa Pb : V → Hp → Prop} {v : V} {k : NK} {b : Bool} {D : Ends} {tu tw tz : TS} {g : TG} {i j : Nat}
theorem SD.drops (h : SD K C H σ e) : ∀ vs : List Nat, SD K C H σ (wipeE e vs)
  | [] => h
  | v :: vs => (SD.drops h vs).drop v
/-- a, b = a new list, e -/
theorem q_parN {t1 t2 : TE} {Pn : List V → Hp → Prop} {s : Sl} (sd : SD K C H σ e) (h1 : EvN t1 σ H Pn) (h2 : ∀ H1, Ex H H1 → Ev1 t2 σ H1 fun v H2 => VOk K C H2 v s) (q : ∀ l xs H1 H2 σ', H l = none → Ex H H1 → H1 l = some (.lst xs) → Pn xs H1 → Ex H1 H2 → SD K C H2 σ' ((e.set i (.val (.ref l))).set j s) → tz D σ' H2) : tSeq (tPar i j (tCons t1 (tCons t2 tNil))) tz D σ H :=
  h1 H (Ex.refl H) _ fun l xs H1 hl x1 el pn => h2 H1 x1 H1 (Ex.refl _) _ fun w H2 x2 p2 => ⟨_, w, rfl, q l xs H1 H2 _ hl x1 el pn x2 (((sd.ex (x1.trans x2)).set (o := some (.ref l)) (s := .val (.ref l)) rfl).set p2.s)⟩
/-- a, b = e, f -/
theorem q_par {t1 t2 : TE} {P2 : V → V → Hp → Prop} (h1 : Ev1 t1 σ H Pa) (h2 : ∀ v H1, Ex H H1 → Pa v H1 → Ev1 t2 σ H1 (P2 v)) (q : ∀ v w H1 H2, Ex H H1 → Ex H1 H2 → Pa v H1 → P2 v w H2 → tz D ((σ.set i (some v)).set j (some w)) H2) : tSeq (tPar i j (tCons t1 (tCons t2 tNil))) tz D σ H :=
  q_of (s_par (D := { D with nx := tz D }) h1 h2 q)
/-- if t: found.append(a pair) -/
theorem s_ifApp {c : Bool} {l : Addr} {xs : List V} {tx : TE} {p : Nat × Nat} {ps : List (Nat × Nat)} (ht : EvT t σ H c) (ho : EvV ta σ H (.ref l)) (hl : H l = some (.lst xs)) (h : Ev1 tx σ H fun v H2 => PrAt H2 v p) (hz : xs.length < 100000) (hp : Paired (PrAt H) xs ps)
    (q : ∀ H' ys, (∀ H0 : Hp, H0 l = none → Ex H0 H → Ex H0 H') → Tx H H' → H' l = some (.lst ys) → Paired (PrAt H') ys (ps ++ if c = true then [p] else []) → D.nx σ H') : tIfS t (tDrop (tBM K "list" rAppend ta (tCons tx tNil))) tNext D σ H := by
  refine s_if ht (fun hc H1 x1 => ?_) fun hc H1 x1 => ?_
  · refine s_app (tx := tx) (ho.ex x1) (x1 _ _ hl) (h.ex x1) hz fun v H2 x2 pv => ?_
    have e2 := x2 _ _ (x1 _ _ hl)
    refine q _ (xs ++ [v]) (fun H0 h0 xx => Ex.mut ((xx.trans x1).trans x2) h0) ((ex_tx (x1.trans x2)).trans (tx_lst e2)) upd_same ?_
    rw [if_pos hc]
    exact Paired.snoc (Paired.mapP hp fun _ _ z => (z.ex (x1.trans x2)).mut e2) (pv.mut e2)
  · refine q _ xs (fun H0 _ xx => xx.trans x1) (ex_tx x1) (x1 _ _ hl) ?_
    rw [if_neg (by rw [hc]; decide), List.append_nil]
    exact Paired.mapP hp fun _ _ z => z.ex x1
theorem q_ifApp {c : Bool} {l : Addr} {xs : List V} {tx : TE} {p : Nat × Nat} {ps : List (Nat × Nat)} (ht : EvT t σ H c) (ho : EvV ta σ H (.ref l)) (hl : H l = some (.lst xs)) (h : Ev1 tx σ H fun v H2 => PrAt H2 v p) (hz : xs.length < 100000) (hp : Paired (PrAt H) xs ps)
    (q : ∀ H' ys, (∀ H0 : Hp, H0 l = none → Ex H0 H → Ex H0 H') → Tx H H' → H' l = some (.lst ys) → Paired (PrAt H') ys (ps ++ if c = true then [p] else []) → tz D σ H') : tSeq (tIfS t (tDrop (tBM K "list" rAppend ta (tCons tx tNil))) tNext) tz D σ H := q_of (s_ifApp (D := { D with nx := tz D }) ht ho hl h hz hp q)
end
def spNeed (K : PySem.W.Frag) (C : Addr) : Sp := fun vs H Q _ => ∃ b, Ans K C [.brd H b] (fun v _ => v = .non) vs H Q
theorem ok_need_board {P : Program} {w : World} {K : PySem.W.Frag} {mg : Str → Option Value} {base : Heap} {CB CF AF : Addr} (kn : Kn K mg "need_board" s_need_board) (T : TX K mg CB CF AF)  : Cal P w K mg base 1 "need_board" ["board"] (spNeed K CB) := by
  have nd := sc_need_board.nd
  refine Cal.mk kn sc_need_board (fun _ _ _ _ _ _ us hl => match us, hl with | [_], _ => rfl) (fun vs H Q E h => ?_) (fun f cdv A outer s H vs Q E hr h => ⟨_, (pss_one (ps_if (pt_not (pt_val (pe_callB call_isi (by rfl) T.z_isinstance (by decide +kernel) (pa_cons (pv 0) (pa_cons (pe_gT (by rfl) T.g_Board) pa_nil))))) pss_never pss_nil)), ?_⟩)
  · obtain ⟨b, a⟩ := h
    exact (Paired.length a.1 :)
  obtain ⟨b, a⟩ := h
  obtain ⟨hp, q⟩ := a
  have sd := sd_start (N := ["board"]) hp
  try dsimp only [cxOf, Cx.nox]
  exact s_if (c := false) (Evl.et_not (a := true) (et_B (eb_isi (eb_var sd rfl) (ClsV.own CB) (fun v H2 x p => ty_brd T (p.ex x)) T.me))) (fun z => nomatch z) fun _ H1 x => q _ H1 x rfl

theorem in_gt (s : Nat) : decide (s ∈ (Str.ofString ">x").cps.toList) = decide (s = 62 ∨ s = 120) := by
  have : (Str.ofString ">x").cps.toList = [62, 120] := by decide +kernel
  rw [this]; simp
theorem in_lt (s : Nat) : decide (s ∈ (Str.ofString "<x").cps.toList) = decide (s = 60 ∨ s = 120) := by
  have : (Str.ofString "<x").cps.toList = [60, 120] := by decide +kernel
  rw [this]; simp
theorem cell_parts (R r c s : Nat) : cellSteps R r c s = (if decide (s = 62 ∨ s = 120) = true then [(r, R + c)] else []) ++ (if decide (s = 60 ∨ s = 120) = true then [(R + c, r)] else []) := by
  unfold cellSteps; simp only [decide_eq_true_eq]
def spSteps (K : PySem.W.Frag) (C : Addr) : Sp := fun vs H Q _ => ∃ R W b, Brd5 R W b ∧ Ans K C [.brd H b] (fun v H' => ∃ P : List (Nat × Nat), P.Perm (raw b) ∧ Dp K H' v (lsD (P.map pairK))) vs H Q
theorem ok_all_steps {P : Program} {w : World} {K : PySem.W.Frag} {mg : Str → Option Value} {base : Heap} {CB CF AF : Addr} (kn : Kn K mg "all_steps" s_all_steps) (T : TX K mg CB CF AF)  : Cal P w K mg base 1 "all_steps" ["board"] (spSteps K CB) := by
  have nd := sc_all_steps.nd
  refine Cal.mk kn sc_all_steps (fun _ _ _ _ _ _ us hl => match us, hl with | [_], _ => rfl) (fun vs H Q E h => ?_) (fun f cdv A outer s H vs Q E hr h => ⟨_, (pss_cons (ps_par (i := 1) (j := 2) (by rfl) nd rfl rfl (by decide) rfl rfl (pa_cons (pe_lst pa_nil) (pa_cons (pe_callB call_len_seq (by rfl) T.z_len PySem.boot_len (pa_cons (pe_fld (pv 0) rfl) pa_nil)) pa_nil)) (by rfl))
  (pss_cons (ps_for PassesOwn.never (by rfl) (pi_enumT (by rfl) T.z_enumerate (pa_cons (pe_fld (pv 0) rfl) pa_nil)) (pg_tup (by rfl) (pgs_cons (pg_name (i := 3) nd rfl (by first | exact Or.inl rfl | exact Or.inr rfl)) (pgs_cons (pg_name (i := 4) nd rfl (by first | exact Or.inl rfl | exact Or.inr rfl)) pgs_nil)))
  (pss_one (ps_for PassesOwn.never (by rfl) (pi_enumS (by rfl) T.z_enumerate (pa_cons (pv 4) pa_nil)) (pg_tup (by rfl) (pgs_cons (pg_name (i := 5) nd rfl (by first | exact Or.inl rfl | exact Or.inr rfl)) (pgs_cons (pg_name (i := 6) nd rfl (by first | exact Or.inl rfl | exact Or.inr rfl)) pgs_nil)))
  (pss_cons (ps_if (pt_cmpR op_in_sign (pv 6) pe_str (by with_unfolding_all rfl)) (pss_one (ps_expr (pe_bm PySem.F.plainAttrs_list PySem.F.slot_list_append PySem.F.type_list_append mt_append (pv 1) (pa_cons (pe_tup (pa_cons (pv 3) (pa_cons (pe_op op_add (pv 2) (pv 5)) pa_nil))) pa_nil)))) pss_nil)
  (pss_one (ps_if (pt_cmpR op_in_sign (pv 6) pe_str (by with_unfolding_all rfl)) (pss_one (ps_expr (pe_bm PySem.F.plainAttrs_list PySem.F.slot_list_append PySem.F.type_list_append mt_append (pv 1) (pa_cons (pe_tup (pa_cons (pe_op op_add (pv 2) (pv 5)) (pa_cons (pv 3) pa_nil))) pa_nil)))) pss_nil))))))
  (pss_one (ps_ret (pe_callB cr_sortedP (by rfl) T.z_sorted (by decide +kernel) (pa_cons (pv 1) pa_nil)))))), ?_⟩)
  · obtain ⟨R, W, b, hb, a⟩ := h
    exact (Paired.length a.1 :)
  obtain ⟨R, W, b, hb, a⟩ := h
  obtain ⟨hp, q⟩ := a
  have sd := sd_start (N := ["board", "found", "many", "at", "line", "place", "sign"]) hp
  try dsimp only [cxOf, Cx.nox]
  refine q_parN (s := .dat (numK R)) sd en_nil (fun H1 x1 => EvK.is (ek_lenT (ek_table T (eb_var (sd.ex x1) rfl) x1)) (by rw [hb.lenK]; rfl)) fun l xs H1 H2 σ1 hl x1 el e0 x2 sd1 => ?_
  subst e0
  refine q_of (s_forET (ks := b.map txtK) (ek_table T (eb_var sd1 rfl) (x1.trans x2)) fun H3 x3 => ⟨fun i σ' H' => SD K CB H' σ' [.brd H b, .val (.ref l), .dat (numK R), .un, .un, .un, .un] ∧ Ex H H' ∧ Tx H3 H' ∧ ∃ xs, H' l = some (.lst xs) ∧ Paired (PrAt H') xs (rawTo b i), ⟨sd1.ex x3, (x1.trans x2).trans x3, Tx.refl _, [], x3 _ _ (x2 _ _ el), .nil⟩, fun i σ' H' p => p.2.2.1, fun i kk σ' H' hk p v H4 x4 dv => ?_, fun σ' H' p => ?_⟩)
  · obtain ⟨s1, xh, tx, ys, hy, hp⟩ := p
    obtain ⟨ln, hln, rfl⟩ := map_get hk
    have em := brd_mem hk
    rw [hb.len] at em
    have hi := em.1
    have hll := hb.r.line i hi
    rw [em.2] at hll
    have s2 := ((s1.ex x4).set (i := 3) (s := .dat (numK i)) ⟨_, rfl, .int _⟩).set (i := 4) (s := .dat (txtK ln)) ⟨v, rfl, dv⟩
    refine s_forES (l := ln) (ek_var s2 rfl) fun H5 x5 => ⟨fun j σ' H' => SD K CB H' σ' [.brd H b, .val (.ref l), .dat (numK R), .dat (numK i), .dat (txtK ln), .un, .un] ∧ Ex H H' ∧ Tx H3 H' ∧ ∃ xs, H' l = some (.lst xs) ∧ Paired (PrAt H') xs (rawTo b i ++ rowSteps b i j), ⟨s2.ex x5, (xh.trans x4).trans x5, tx.trans (ex_tx (x4.trans x5)), ys, x5 _ _ (x4 _ _ hy), ?_⟩, fun j s σ'' H'' hj p2 H6 x6 => ?_, fun σ'' H'' p2 => ?_⟩
    · rw [show rowSteps b i 0 = [] from rfl, List.append_nil]
      exact Paired.mapP hp fun _ _ z => z.ex (x4.trans x5)
    · obtain ⟨s3, xh3, tx3, zs, hz, hp3⟩ := p2
      have s4 := ((s3.ex x6).set (i := 5) (s := .dat (numK j)) ⟨_, rfl, .int _⟩).set (i := 6) (s := .dat (txtK [s])) ⟨_, rfl, .str _⟩
      have hjW : j < W := by have := (List.getElem?_eq_some_iff.mp hj).1; omega
      have es : s = at2 b i j := by
        have := hb.at hi hjW
        rw [em.2, hj] at this
        exact Option.some.inj this
      have hz6 := x6 _ _ hz
      have zl : zs.length < 99999 := by
        have a1 := Paired.length hp3
        have a2 := rawTo_len b i
        have a3 := rowSteps_len b i j
        rw [List.length_append] at a1
        rw [hb.cols] at a2
        have := hb.R5
        have := hb.W5
        have : 2 * W * i ≤ 2 * 5 * 5 := Nat.mul_le_mul (by omega) (by omega)
        omega
      refine q_ifApp (c := decide (s = 62 ∨ s = 120)) (p := (i, R + j)) (Evl.et_is (et_test (eb_inS (ek_var s4 rfl) ev_c)) (in_gt s)) (ev_var s4 rfl) hz6 (e1_pair (ek_var s4 rfl) (EvK.is (ek_ii (ek_var s4 rfl) (ek_var s4 rfl)) (num_nat R j))) (by omega) (Paired.mapP hp3 fun _ _ z => z.ex x6) fun H7 us f7 t7 e7 p7 => ?_
      have ul : us.length < 100000 := by
        have a1 := Paired.length p7
        have a4 := Paired.length hp3
        rw [List.length_append] at a1
        have : (if decide (s = 62 ∨ s = 120) = true then [(i, R + j)] else []).length ≤ 1 := by split <;> simp
        omega
      have s5 := s4.tx t7
      refine s_ifApp (c := decide (s = 60 ∨ s = 120)) (p := (R + j, i)) (Evl.et_is (et_test (eb_inS (ek_var s5 rfl) ev_c)) (in_lt s)) (ev_var s5 rfl) e7 (e1_pair (EvK.is (ek_ii (ek_var s5 rfl) (ek_var s5 rfl)) (num_nat R j)) (ek_var s5 rfl)) ul p7 fun H8 ws f8 t8 e8 p8 => ?_
      refine ⟨(s5.tx t8).drops [5, 6], f8 _ hl (f7 _ hl (xh3.trans x6)), ((tx3.trans (ex_tx x6)).trans t7).trans t8, ws, e8, ?_⟩
      rw [rowSteps_succ, ← es, hb.len, cell_parts, ← List.append_assoc, ← List.append_assoc]
      exact p8
    · obtain ⟨s3, xh3, tx3, zs, hz, hp3⟩ := p2
      refine ⟨s3.drops [3, 4], xh3, tx3, zs, hz, ?_⟩
      rw [rawTo_succ, hb.cols, ← hll]; exact hp3
  · obtain ⟨s1, xh, tx, ys, hy, hp⟩ := p
    rw [hb.lenK] at hp
    refine s_ret (e1_sortP (ps := raw b) fun H1 x1 Q1 q1 => (ev_var s1 rfl) H1 x1 _ fun v H2 x2 ev => q1 v H2 x2 ⟨l, ys, ev, (x1.trans x2) _ _ hy, ?_⟩) fun v H1 x1 hv => q v H1 (xh.trans x1) hv
    unfold raw
    rw [hb.len]
    exact Paired.mapP hp fun _ _ z => z.ex (x1.trans x2)
end Wx
end
section
set_option Elab.async false
set_option linter.all false
set_option maxRecDepth 100000
set_option maxHeartbeats 4000000
namespace Wx
open PySem PySem.Spec PyProof.Rows L2 Wv
open Evl (Ex ex_rd ex_l ex_t sq_of st_of fresh_back)
/-! ### deeds as data -/
def word (d : Deed) : Str := if d.fill = true then "fill" else "cut"
def dKs (d : Deed) : List NK := if d.fill = true then [.text "fill", numK d.r, numK d.c, txtK [d.s]] else [.text "cut", numK d.r, numK d.c]
def dK (d : Deed) : NK := .tup (dKs d)
def dsK (ds : List Deed) : NK := .tup (ds.map dK)
def bldK (B : Bld) : NK := .tup (B.map dsK)
section
variable (d : Deed)
theorem dk0 : (dKs d)[0]? = some (.text (word d)) := by unfold dKs word; split <;> rfl
theorem dk1 : (dKs d)[1]? = some (numK d.r) := by unfold dKs; split <;> rfl
theorem dk2 : (dKs d)[2]? = some (numK d.c) := by unfold dKs; split <;> rfl
theorem dk3 {d : Deed} (h : d.fill = true) : (dKs d)[3]? = some (txtK [d.s]) := by unfold dKs; rw [if_pos h]; rfl
theorem dkl : (dKs d).length = if d.fill = true then 4 else 3 := by unfold dKs; split <;> rfl
theorem word_fill : decide (word d = "fill") = d.fill := by unfold word; cases d.fill <;> decide +kernel
theorem word_cut : decide (word d = "cut") = !d.fill := by unfold word; cases d.fill <;> decide +kernel
end
/-- a deed that may stand on a board -/
structure DeedIn (R W : Nat) (d : Deed) : Prop where
  r : d.r < R
  c : d.c < W
  fil : d.fill = true → d.s = 60 ∨ d.s = 62 ∨ d.s = 120
  cut : d.fill = false → d.s = 46
section
variable {K : PySem.W.Frag} {C : Addr} {H H' H0 : Hp} {σ : St} {e as : List Sl} {ta tb tc te tl : TE} {d : Deed}
theorem ek_word (h : EvK K te σ H (dK d)) : EvK K (tOp (rIxT K) te (tC (.int 0))) σ H (.text (word d)) := ek_ixT h ek_int (dk0 d)
theorem ek_dr (h : EvK K te σ H (dK d)) : EvK K (tOp (rIxT K) te (tC (.int 1))) σ H (numK d.r) := ek_ixT h ek_int (dk1 d)
theorem ek_dc (h : EvK K te σ H (dK d)) : EvK K (tOp (rIxT K) te (tC (.int 2))) σ H (numK d.c) := ek_ixT h ek_int (dk2 d)
theorem ek_ds (hf : d.fill = true) (h : EvK K te σ H (dK d)) : EvK K (tOp (rIxT K) te (tC (.int 3))) σ H (txtK [d.s]) := ek_ixT h ek_int (dk3 hf)
theorem eb_isF (h : EvK K te σ H (dK d)) : EvV (tOp rEq (tOp (rIxT K) te (tC (.int 0))) (tC (.str "fill"))) σ H (.bl d.fill) := bl_is (eb_eqS (ek_word h) ek_str) (word_fill d)
theorem eb_isC (h : EvK K te σ H (dK d)) : EvV (tOp rEq (tOp (rIxT K) te (tC (.int 0))) (tC (.str "cut"))) σ H (.bl (!d.fill)) := bl_is (eb_eqS (ek_word h) ek_str) (word_cut d)
end
section
variable {K : PySem.W.Frag} {C : Addr} {H H' H0 H1 : Hp} {σ : St} {e as : List Sl} {P : V → Hp → Prop} {vs : List V} {Q : VK} {b : Brd}
theorem Ans.brd (x : Ex H0 H) (a : Ans K C (.brd H0 b :: as) P vs H Q) : Ans K C (.brd H b :: as) P vs H Q := by
  obtain ⟨p, q⟩ := a
  cases p with
  | cons h t => exact ⟨.cons (BrdAt.ex x h) t, q⟩
theorem e1_ansX {sp : Sp} {E : XK} {ta : TA} (h : EvA K C ta σ H as) (hs : ∀ vs H1 Q, Ex H H1 → Ans K C as P vs H1 Q → sp vs H1 Q E) : Ev1 (tCall sp [] E ta) σ H P :=
  e1_call h fun vs H1 x p Q q => hs vs H1 Q x ⟨p, q⟩
end
theorem filled_in {K : PySem.W.Frag} {mg : Str → Option Value} {CB CF AF : Addr} (T : TX K mg CB CF AF) (H : Hp) : SqT K H AF [.str "<", .str ">", .str "x"] := by
  obtain ⟨o, t1, t2, t3, n, h1, h2, h3⟩ := T.filled
  refine .inr ⟨o, _, n, h1, h2, h3, by rw [sizeLine_eq]; show 3 ≤ _; omega, ?_⟩
  exact .cons ⟨t1, rfl⟩ (.cons ⟨t2, rfl⟩ (.cons ⟨t3, rfl⟩ .nil))

def spCell (K : PySem.W.Frag) (C : Addr) : Sp := fun vs H Q _ => ∃ R W b d, Brd5 R W b ∧ DeedIn R W d ∧ Ans K C [.brd H b, .dat (dK d)] (fun v _ => v = .bl true) vs H Q
theorem ok_is_cell_deed {P : Program} {w : World} {K : PySem.W.Frag} {mg : Str → Option Value} {base : Heap} {CB CF AF : Addr} (kn : Kn K mg "is_cell_deed" s_is_cell_deed) (T : TX K mg CB CF AF) (c_is_from : Cal P w K mg base 1 "is_from" ["value", "low", "high"] (spFrom K CB)) (c_rows : Prp P w K mg base 1 CB "rows" (spRows K CB)) (c_columns : Prp P w K mg base 1 CB "columns" (spCols K CB)) : Cal P w K mg base 3 "is_cell_deed" ["board", "value"] (spCell K CB) := by
  have nd := sc_is_cell_deed.nd
  refine Cal.mk kn sc_is_cell_deed (fun _ _ _ _ _ _ us hl => match us, hl with | [_, _], _ => rfl) (fun vs H Q E h => ?_) (fun f cdv A outer s H vs Q E hr h => ⟨_, (pss_cons (ps_if (PW.pt (pw_or (pt_not (pt_val (pe_callB call_isi (by rfl) T.z_isinstance (by decide +kernel) (pa_cons (pv 1) (pa_cons (pe_bltn (v := .ty "tuple") (by rfl) T.z_tuple (by decide +kernel) rfl) pa_nil))))) (pw_or (pt_cmpR op_lt (pe_callB call_len_seq (by rfl) T.z_len PySem.boot_len (pa_cons (pv 1) pa_nil)) pe_int (nomark _)) (pw_or1 (pt_not (pt_val (pe_callB call_isi (by rfl) T.z_isinstance (by decide +kernel) (pa_cons (pe_ix ix_tup (pv 1) pe_int (fun _ _ => rfl)) (pa_cons (pe_bltn (v := .ty "str") (by rfl) T.z_str (by decide +kernel) rfl) pa_nil))))))))) (pss_one (ps_ret pe_bl)) pss_nil)
  (pss_cons (ps_if (PW.pt (pw_or (pt_not (pt_val (c_is_from.pe (hr.mono (by omega)) (by rfl) (pa_cons (pe_ix ix_tup (pv 1) pe_int (fun _ _ => rfl)) (pa_cons pe_int (pa_cons (pe_op op_sub (c_rows.pe (pv 0) T.cl (hr.mono (by omega)) rfl) pe_int) pa_nil)))))) (pw_or1 (pt_not (pt_val (c_is_from.pe (hr.mono (by omega)) (by rfl) (pa_cons (pe_ix ix_tup (pv 1) pe_int (fun _ _ => rfl)) (pa_cons pe_int (pa_cons (pe_op op_sub (c_columns.pe (pv 0) T.cl (hr.mono (by omega)) rfl) pe_int) pa_nil))))))))) (pss_one (ps_ret pe_bl)) pss_nil)
  (pss_cons (ps_if (pt_cmpR op_eq (pe_ix ix_tup (pv 1) pe_int (fun _ _ => rfl)) (pe_gS (by rfl) T.g_CUT) (nomark _)) (pss_one (ps_ret (pe_cmpR op_eq (pe_callB call_len_seq (by rfl) T.z_len PySem.boot_len (pa_cons (pv 1) pa_nil)) pe_int (nomark _)))) pss_nil)
  (pss_one (ps_ret (pe_and (pe_cmpR op_eq (pe_ix ix_tup (pv 1) pe_int (fun _ _ => rfl)) (pe_gS (by rfl) T.g_FILL) (nomark _)) (pe_and (pe_cmpR op_eq (pe_callB call_len_seq (by rfl) T.z_len PySem.boot_len (pa_cons (pv 1) pa_nil)) pe_int (nomark _)) (pe_and (pe_callB call_isi (by rfl) T.z_isinstance (by decide +kernel) (pa_cons (pe_ix ix_tup (pv 1) pe_int (fun _ _ => rfl)) (pa_cons (pe_bltn (v := .ty "str") (by rfl) T.z_str (by decide +kernel) rfl) pa_nil))) (pe_one (pe_cmpR op_in_seq (pe_ix ix_tup (pv 1) pe_int (fun _ _ => rfl)) (pe_gT (by rfl) T.g_FILLED) (by with_unfolding_all rfl))))))))))), ?_⟩)
  · obtain ⟨R, W, b, d, hb, hd, a⟩ := h
    exact (Paired.length a.1 :)
  obtain ⟨R, W, b, d, hb, hd, a⟩ := h
  obtain ⟨hp, q⟩ := a
  have sd := sd_start (N := ["board", "value"]) hp
  try dsimp only [cxOf, Cx.nox]
  have dl := dkl d
  refine q_skip (Evl.et_or (a := false) (b := false) (Evl.et_not (a := true) (et_B (eb_isi (ek_var sd rfl) (ClsV.ty _) (fun v H2 _ p => ty_tup p) (kit_ty (by decide +kernel))))) fun _ => Evl.et_or (a := false) (b := false) (Evl.et_is (et_test (eb_ii (ek_lenT (ks := dKs d) (ek_var sd rfl)) ek_int)) ?_) fun _ => Evl.et_not (a := true) (et_B (eb_isi (ek_word (d := d) (ek_var sd rfl)) (ClsV.ty _) (fun v H2 _ p => by rw [dp_str p]; exact .base (.str _)) (kit_ty (by decide +kernel))))) fun H1 x1 => ?_
  · rw [dl]; split <;> decide
  have sd1 := sd.ex x1
  refine q_skip (Evl.et_or (a := false) (b := false) (Evl.et_not (a := true) (et_B (bl_is (e1_ans (ea_three (s1 := .dat (numK d.r)) (s2 := .dat (.num 0)) (s3 := .dat (.num ((R : Int) - 1))) (ek_dr (d := d) (ek_var sd1 rfl)) ek_int (ek_ii (e1_rows hb (eb_var sd1 rfl) x1) ek_int)) fun vs H1 Q a => ⟨_, _, _, a⟩) ?_))) fun _ => Evl.et_not (a := true) (et_B (bl_is (e1_ans (ea_three (s1 := .dat (numK d.c)) (s2 := .dat (.num 0)) (s3 := .dat (.num ((W : Int) - 1))) (ek_dc (d := d) (ek_var sd1 rfl)) ek_int (ek_ii (e1_cols hb (eb_var sd1 rfl) x1) ek_int)) fun vs H1 Q a => ⟨_, _, _, a⟩) ?_))) fun H2 x2 => ?_
  · have := hd.r; simp; omega
  · have := hd.c; simp; omega
  have sd2 := sd1.ex x2
  have x12 := x1.trans x2
  refine q_if (et_test (eb_isC (d := d) (ek_var sd2 rfl))) (fun hc H3 x3 => ?_) fun hc H3 x3 => ?_
  · have sd3 := sd2.ex x3
    have hc : d.fill = false := by simpa using hc
    refine s_ret (bl_is (b := true) (eb_eqI (ek_lenT (ks := dKs d) (ek_var sd3 rfl)) ek_int) ?_) fun v H4 x4 e => q v H4 ((x12.trans x3).trans x4) e
    rw [dl, hc]; decide
  · have sd3 := sd2.ex x3
    have hc : d.fill = true := by simpa using hc
    refine s_ret (P := fun v _ => v = .bl true) (bl_is (b := true) (eb_and (a := true) (bl_is (eb_isF (d := d) (ek_var sd3 rfl)) hc) fun _ => eb_and (a := true) (bl_is (eb_eqI (ek_lenT (ks := dKs d) (ek_var sd3 rfl)) ek_int) ?_) fun _ => eb_and (a := true) (b := true) (eb_isi (ek_ds (d := d) hc (ek_var sd3 rfl)) (ClsV.ty _) (fun v H2 _ p => by rw [dp_str p]; exact .base (.str _)) (kit_ty (by decide +kernel))) fun _ => ?_) rfl) fun v H4 x4 e => q v H4 ((x12.trans x3).trans x4) e
    · rw [dl, if_pos hc]; decide
    · refine bl_is (ev_op (z := .bl (inV (.str (toS [d.s])) [.str "<", .str ">", .str "x"])) (EvK.v_str (ek_ds (d := d) hc (ek_var sd3 rfl))) ev_c fun H1 Q q => ⟨AF, _, rfl, .inr (filled_in T H1), rfl, rfl, q⟩) ?_
      rcases hd.fil hc with h | h | h <;> rw [h] <;> decide +kernel

theorem ok_is_deed {P : Program} {w : World} {K : PySem.W.Frag} {mg : Str → Option Value} {base : Heap} {CB CF AF : Addr} (kn : Kn K mg "is_deed" s_is_deed) (T : TX K mg CB CF AF) (c_is_cell_deed : Cal P w K mg base 3 "is_cell_deed" ["board", "value"] (spCell K CB)) : Cal P w K mg base 4 "is_deed" ["board", "value"] (spCell K CB) := by
  have nd := sc_is_deed.nd
  refine Cal.mk kn sc_is_deed (fun _ _ _ _ _ _ us hl => match us, hl with | [_, _], _ => rfl) (fun vs H Q E h => ?_) (fun f cdv A outer s H vs Q E hr h => ⟨_, (pss_cons (ps_if (pt_val (c_is_cell_deed.pe (hr.mono (by omega)) (by rfl) (pa_cons (pv 0) (pa_cons (pv 1) pa_nil)))) (pss_one (ps_ret pe_bl)) pss_nil)
  pss_never), ?_⟩)
  · obtain ⟨R, W, b, d, hb, hd, a⟩ := h
    exact (Paired.length a.1 :)
  obtain ⟨R, W, b, d, hb, hd, a⟩ := h
  obtain ⟨hp, q⟩ := a
  have sd := sd_start (N := ["board", "value"]) hp
  try dsimp only [cxOf, Cx.nox]
  refine q_if (c := true) (et_B (e1_ansX (ea_two (s1 := .brd H b) (s2 := .dat (dK d)) (eb_var sd rfl) (ek_var sd rfl)) fun vs H1 Q x a => ⟨R, W, b, d, hb, hd, a.brd x⟩)) (fun _ H1 x1 => s_ret ev_c fun v H2 x2 e => q v H2 (x1.trans x2) e) fun z => nomatch z

/-! ### builders -/
structure Gd (R W : Nat) (b0 : Brd) (B : Bld) : Prop where
  b5 : Brd5 R W b0
  g : Good R W b0 B
  few : Few B
theorem DeedOk.into {R W : Nat} {b0 : Brd} {d : Deed} (h : DeedOk R W b0 d) : DeedIn R W d := ⟨h.r, h.c, fun e => (h.fil e).2, fun e => (h.cut e).2⟩
theorem ds_get {B : Bld} {i : Nat} (h : i < B.length) : (B.map dsK)[i]? = some (dsK (dsAt B i)) := by
  unfold dsAt
  simp [List.getElem?_map, List.getElem?_eq_getElem h, List.getD_eq_getElem?_getD]
theorem dd_get {ds : List Deed} {j : Nat} {d : Deed} (h : ds[j]? = some d) : (ds.map dK)[j]? = some (dK d) := by rw [List.getElem?_map, h]; rfl
def spNeedB (K : PySem.W.Frag) (C : Addr) : Sp := fun vs H Q _ => ∃ R W b B, Gd R W b B ∧ Ans K C [.brd H b, .dat (bldK B)] (fun v _ => v = .non) vs H Q
theorem ok_need_builders {P : Program} {w : World} {K : PySem.W.Frag} {mg : Str → Option Value} {base : Heap} {CB CF AF : Addr} (kn : Kn K mg "need_builders" s_need_builders) (T : TX K mg CB CF AF) (c_need_board : Cal P w K mg base 1 "need_board" ["board"] (spNeed K CB)) (c_is_deed : Cal P w K mg base 4 "is_deed" ["board", "value"] (spCell K CB)) : Cal P w K mg base 5 "need_builders" ["board", "builders"] (spNeedB K CB) := by
  have nd := sc_need_builders.nd
  refine Cal.mk kn sc_need_builders (fun _ _ _ _ _ _ us hl => match us, hl with | [_, _], _ => rfl) (fun vs H Q E h => ?_) (fun f cdv A outer s H vs Q E hr h => ⟨_, (pss_cons (ps_expr (c_need_board.pe (hr.mono (by omega)) (by rfl) (pa_cons (pv 0) pa_nil)))
  (pss_cons (ps_if (PW.pt (pw_or (pt_not (pt_val (pe_callB call_isi (by rfl) T.z_isinstance (by decide +kernel) (pa_cons (pv 1) (pa_cons (pe_bltn (v := .ty "tuple") (by rfl) T.z_tuple (by decide +kernel) rfl) pa_nil))))) (pw_or1 (pt_not (pt_chain op_le op_le pe_int (pe_callB call_len_seq (by rfl) T.z_len PySem.boot_len (pa_cons (pv 1) pa_nil)) (pe_gI (by rfl) T.g_MOST_BUILDERS)))))) pss_never pss_nil)
  (pss_one (ps_for PassesOwn.never (by rfl) (pi_enumT (by rfl) T.z_enumerate (pa_cons (pv 1) pa_nil)) (pg_tup (by rfl) (pgs_cons (pg_name (i := 2) nd rfl (by first | exact Or.inl rfl | exact Or.inr rfl)) (pgs_cons (pg_name (i := 3) nd rfl (by first | exact Or.inl rfl | exact Or.inr rfl)) pgs_nil)))
  (pss_cons (ps_if (PW.pt (pw_or (pt_not (pt_val (pe_callB call_isi (by rfl) T.z_isinstance (by decide +kernel) (pa_cons (pv 3) (pa_cons (pe_bltn (v := .ty "tuple") (by rfl) T.z_tuple (by decide +kernel) rfl) pa_nil))))) (pw_or1 (pt_cmpR op_gt (pe_callB call_len_seq (by rfl) T.z_len PySem.boot_len (pa_cons (pv 3) pa_nil)) (pe_gI (by rfl) T.g_MOST_DEEDS) (nomark _))))) pss_never pss_nil)
  (pss_one (ps_for PassesOwn.never (by rfl) (pi_enumT (by rfl) T.z_enumerate (pa_cons (pv 3) pa_nil)) (pg_tup (by rfl) (pgs_cons (pg_name (i := 4) nd rfl (by first | exact Or.inl rfl | exact Or.inr rfl)) (pgs_cons (pg_name (i := 5) nd rfl (by first | exact Or.inl rfl | exact Or.inr rfl)) pgs_nil)))
  (pss_one (ps_if (pt_not (pt_val (c_is_deed.pe (hr.mono (by omega)) (by rfl) (pa_cons (pv 0) (pa_cons (pv 5) pa_nil))))) pss_never pss_nil))))))))), ?_⟩)
  · obtain ⟨R, W, b, B, g, a⟩ := h
    exact (Paired.length a.1 :)
  obtain ⟨R, W, b, B, g, a⟩ := h
  obtain ⟨hp, q⟩ := a
  have sd := sd_start (N := ["board", "builders", "builder", "deeds", "place", "deed"]) hp
  try dsimp only [cxOf, Cx.nox]
  have hl : (B.map dsK).length = B.length := List.length_map _
  have m1 := g.few.pos
  have m2 := g.few.most
  refine q_of (s_drop (e1_ansX (ea_one (s := .brd H b) (eb_var sd rfl)) fun vs H1 Q x a => ⟨b, a.brd x⟩) fun v H1 x1 _ => ?_)
  have sd1 := sd.ex x1
  refine q_skip (Evl.et_or (a := false) (b := false) (Evl.et_not (a := true) (et_B (eb_isi (ek_var sd1 rfl) (ClsV.ty _) (fun v H2 _ p => ty_tup p) (kit_ty (by decide +kernel))))) fun _ => Evl.et_not (a := true) (Evl.et_is (et_test (eb_chI ek_int (ek_lenT (ks := B.map dsK) (ek_var sd1 rfl)) ek_int)) ?_)) fun H2 x2 => ?_
  · rw [hl]; simp; omega
  have sd2 := sd1.ex x2
  refine s_forET (ks := B.map dsK) (ek_var sd2 rfl) fun H3 x3 => ⟨fun i σ' H' => SD K CB H' σ' [.brd H b, .dat (bldK B), .un, .un, .un, .un] ∧ Ex H3 H', ⟨sd2.ex x3, Ex.refl _⟩, fun i σ' H' p => ex_tx p.2, fun i kk σ' H' hk p v H4 x4 dv => ?_, fun σ' H' p => q _ H' (((x1.trans x2).trans x3).trans p.2) rfl⟩
  obtain ⟨s1, x5⟩ := p
  obtain ⟨ds, hds, rfl⟩ := map_get hk
  have hi : i < B.length := (List.getElem?_eq_some_iff.mp hds).1
  have eds : dsAt B i = ds := by unfold dsAt; rw [List.getD_eq_getElem?_getD, hds]; rfl
  have sz6 := g.few.size i
  unfold sz at sz6
  rw [eds] at sz6
  have s2 := ((s1.ex x4).set (i := 2) (s := .dat (numK i)) ⟨_, rfl, .int _⟩).set (i := 3) (s := .dat (dsK ds)) ⟨v, rfl, dv⟩
  refine q_skip (Evl.et_or (a := false) (b := false) (Evl.et_not (a := true) (et_B (eb_isi (ek_var s2 rfl) (ClsV.ty _) (fun v H2 _ p => ty_tup p) (kit_ty (by decide +kernel))))) fun _ => Evl.et_is (et_test (eb_ii (ek_lenT (ks := ds.map dK) (ek_var s2 rfl)) ek_int)) ?_) fun H6 x6 => ?_
  · rw [List.length_map]; simp; omega
  have s3 := s2.ex x6
  refine s_forET (ks := ds.map dK) (ek_var s3 rfl) fun H7 x7 => ⟨fun j σ' H' => SD K CB H' σ' [.brd H b, .dat (bldK B), .un, .un, .un, .un] ∧ Ex H7 H', ⟨(s3.ex x7).drops [2, 3], Ex.refl _⟩, fun i σ' H' p => ex_tx p.2, fun j kk σ'' H'' hj p v2 H8 x8 dv2 => ?_, fun σ'' H'' p => ⟨p.1, (((x5.trans x4).trans x6).trans x7).trans p.2⟩⟩
  obtain ⟨s4, x9⟩ := p
  obtain ⟨d, hd, rfl⟩ := map_get hj
  have okd : DeedOk R W b d := g.g.okAt hi (by rw [eds]; exact hd)
  have s5 := ((s4.ex x8).set (i := 4) (s := .dat (numK j)) ⟨_, rfl, .int _⟩).set (i := 5) (s := .dat (dK d)) ⟨v2, rfl, dv2⟩
  have xH : Ex H H8 := ((((((x1.trans x2).trans x3).trans x5).trans x4).trans x6).trans x7).trans (x9.trans x8)
  exact s_if (c := false) (Evl.et_not (a := true) (et_B (e1_ansX (ea_two (s1 := .brd H b) (s2 := .dat (dK d)) (eb_var s5 rfl) (ek_var s5 rfl)) fun vs H1 Q x a => ⟨R, W, b, d, g.b5, DeedOk.into okd, a.brd (xH.trans x)⟩))) (fun z => nomatch z) fun _ H9 x9' => ⟨(s5.ex x9').drops [4, 5], (x9.trans x8).trans x9'⟩
end Wx
end
section
set_option Elab.async false
set_option linter.all false
set_option maxRecDepth 100000
set_option maxHeartbeats 4000000
namespace Wx
open PySem PySem.Spec PyProof.Rows L2 Wv
open Evl (Ex ex_rd ex_l ex_t sq_of st_of fresh_back)
theorem cut_put {α : Type} {xs : List α} {n : Nat} {x : α} (h : n < xs.length) : xs.take n ++ [x] ++ xs.drop (n + 1) = xs.set n x := by
  rw [List.set_eq_take_append_cons_drop, if_pos h, List.append_assoc]; rfl
section
variable {K : PySem.W.Frag} {C : Addr} {H H' H0 : Hp} {σ : St} {e as : List Sl} {ta tb tc te tl : TE} {d : Deed} {i j : Nat}
theorem ek_succ {n : Nat} (h : EvK K te σ H (numK n)) : EvK K (tOp (rI0 fun i j => .int (i + j)) te (tC (.int 1))) σ H (numK (n + 1)) := EvK.is (ek_ii h ek_int) (num_nat n 1)
/-- t[:n] + (x,) + t[n + 1:] -/
theorem ek_putT {ks : List NK} {k : NK} {n : Nat} {t1 t2 tx t3 t4 : TE} (h1 : EvK K t1 σ H (.tup ks)) (h2 : EvK K t2 σ H (numK n)) (hx : EvK K tx σ H k) (h3 : EvK K t3 σ H (.tup ks)) (h4 : EvK K t4 σ H (numK (n + 1))) (hn : n < ks.length) (hl : ks.length ≤ 400) :
    EvK K (tOp (rCatA K) (tOp (rCatA K) (tSl (rSlA K) t1 tNoPart (tPart t2)) (tTup (tCons tx tNil))) (tSl (rSlA K) t3 (tPart t4) tNoPart)) σ H (.tup (ks.set n k)) := by
  have a1 : EvK K _ σ H (.tup (ks.take n)) := EvK.is (ek_slT h1 EvO_none (EvO_some h2)) (by rw [cut_to])
  have a2 : EvK K _ σ H (.tup (ks.drop (n + 1))) := EvK.is (ek_slT h3 (EvO_some h4) EvO_none) (by rw [cut_from])
  have a3 : EvK K (tTup (tCons tx tNil)) σ H (.tup [k]) := ek_tup (C := 0) (ks := [k]) (ea_one (s := .dat k) hx) (by simp)
  refine EvK.is (ek_cat (ek_cat a1 a3 ?_) a2 ?_) (by rw [cut_put hn])
  · rw [List.length_take]; simp; omega
  · rw [List.length_append, List.length_take, List.length_drop]; simp; omega
/-- s[:n] + x + s[n + 1:] -/
theorem ek_putS {l : List Nat} {c : Nat} {n : Nat} {t1 t2 tx t3 t4 : TE} (h1 : EvK K t1 σ H (txtK l)) (h2 : EvK K t2 σ H (numK n)) (hx : EvK K tx σ H (txtK [c])) (h3 : EvK K t3 σ H (txtK l)) (h4 : EvK K t4 σ H (numK (n + 1))) (hn : n < l.length) (hl : l.length ≤ 400) :
    EvK K (tOp (fun x y H Q => ∃ i j, x = .str i ∧ y = .str j ∧ i.length + j.length ≤ sizeLine ∧ Q (.str (i ++ j)) H) (tOp (fun x y H Q => ∃ i j, x = .str i ∧ y = .str j ∧ i.length + j.length ≤ sizeLine ∧ Q (.str (i ++ j)) H) (tSl rSlS t1 tNoPart (tPart t2)) tx) (tSl rSlS t3 (tPart t4) tNoPart)) σ H (txtK (l.set n c)) := by
  have a1 : EvK K _ σ H (txtK (l.take n)) := EvK.is (ek_slS h1 EvO_none (EvO_some h2) (by omega)) (by rw [cut_to])
  have a2 : EvK K _ σ H (txtK (l.drop (n + 1))) := EvK.is (ek_slS h3 (EvO_some h4) EvO_none (by omega)) (by rw [cut_from])
  refine EvK.is (ek_catS (ek_catS a1 hx ?_) a2 ?_) (by rw [cut_put hn])
  · rw [List.length_take]; simp; omega
  · rw [List.length_append, List.length_take, List.length_drop]; simp; omega
end
def spPutAt (K : PySem.W.Frag) (C : Addr) : Sp := fun vs H Q _ => ∃ (ks : List NK) (n : Nat) (k : NK), n < ks.length ∧ ks.length ≤ 400 ∧ Ans K C [.dat (.tup ks), .dat (numK n), .dat k] (fun v H' => Dp K H' v (NestedKey.tup (ks.set n k)).data) vs H Q
theorem ok_put_at {P : Program} {w : World} {K : PySem.W.Frag} {mg : Str → Option Value} {base : Heap} {CB CF AF : Addr} (kn : Kn K mg "put_at" s_put_at) (T : TX K mg CB CF AF)  : Cal P w K mg base 1 "put_at" ["things", "at", "thing"] (spPutAt K CB) := by
  have nd := sc_put_at.nd
  refine Cal.mk kn sc_put_at (fun _ _ _ _ _ _ us hl => match us, hl with | [_, _, _], _ => rfl) (fun vs H Q E h => ?_) (fun f cdv A outer s H vs Q E hr h => ⟨_, (pss_one (ps_ret (pe_op op_catA (pe_op op_catA (pe_slice sl_tupA (pv 0) po_none (po_some (pv 1))) (pe_tup (pa_cons (pv 2) pa_nil))) (pe_slice sl_tupA (pv 0) (po_some (pe_op op_add (pv 1) pe_int)) po_none)))), ?_⟩)
  · obtain ⟨ks, n, k, hn, hl, a⟩ := h
    exact (Paired.length a.1 :)
  obtain ⟨ks, n, k, hn, hl, a⟩ := h
  obtain ⟨hp, q⟩ := a
  have sd := sd_start (N := ["things", "at", "thing"]) hp
  try dsimp only [cxOf, Cx.nox]
  exact s_ret (ek_putT (ek_var sd rfl) (ek_var sd rfl) (ek_var sd rfl) (ek_var sd rfl) (ek_succ (ek_var sd rfl)) hn hl) q

def spPutSign (K : PySem.W.Frag) (C : Addr) : Sp := fun vs H Q _ => ∃ R W b d, Brd5 R W b ∧ DeedIn R W d ∧ (at2 b d.r d.c = 46 ↔ d.fill = true) ∧ Ans K C [.dat (brdK b), .dat (dK d)] (fun v H' => Dp K H' v (brdK (d.ap b)).data) vs H Q
theorem toS46 : toS [46] = (Str.ofString ".") := by decide +kernel
theorem sign_dot (n : Nat) : decide (toS [n] = (Str.ofString ".")) = decide (n = 46) := by
  rw [← toS46]
  by_cases h : n = 46
  · subst h; simp
  · rw [decide_eq_false h, decide_eq_false fun z => h (by simpa using toS_inj z)]
theorem map_set {b : Brd} {r : Nat} {l : List Nat} : (b.map txtK).set r (txtK l) = (b.set r l).map txtK := by rw [List.map_set]
theorem ok_put_sign {P : Program} {w : World} {K : PySem.W.Frag} {mg : Str → Option Value} {base : Heap} {CB CF AF : Addr} (kn : Kn K mg "put_sign" s_put_sign) (T : TX K mg CB CF AF) (c_put_at : Cal P w K mg base 1 "put_at" ["things", "at", "thing"] (spPutAt K CB)) : Cal P w K mg base 2 "put_sign" ["cells", "deed"] (spPutSign K CB) := by
  have nd := sc_put_sign.nd
  refine Cal.mk kn sc_put_sign (fun _ _ _ _ _ _ us hl => match us, hl with | [_, _], _ => rfl) (fun vs H Q E h => ?_) (fun f cdv A outer s H vs Q E hr h => ⟨_, (pss_cons (ps_par (i := 2) (j := 3) (by rfl) nd rfl rfl (by decide) rfl rfl (pa_cons (pe_ix ix_tup (pv 0) (pe_ix ix_tup (pv 1) pe_int (fun _ _ => rfl)) (fun _ _ => rfl)) (pa_cons (pe_ix ix_tup (pv 1) pe_int (fun _ _ => rfl)) pa_nil)) (by rfl))
  (pss_cons (ps_if (pt_cmpR op_ne (pe_cmpR op_eq (pe_ix ix_str (pv 2) (pv 3) (fun _ _ => rfl)) (pe_gS (by rfl) T.g_EMPTY) (nomark _)) (pe_cmpR op_eq (pe_ix ix_tup (pv 1) pe_int (fun _ _ => rfl)) (pe_gS (by rfl) T.g_FILL) (nomark _)) (nomark _)) (pss_one (ps_ret pe_non)) pss_nil)
  (pss_cons (ps_set (i := 4) nd rfl (by first | exact Or.inl rfl | exact Or.inr rfl) (pe_ifExp (pt_cmpR op_eq (pe_ix ix_tup (pv 1) pe_int (fun _ _ => rfl)) (pe_gS (by rfl) T.g_FILL) (nomark _)) (pe_ix ix_tup (pv 1) pe_int (fun _ _ => rfl)) (pe_gS (by rfl) T.g_EMPTY)))
  (pss_one (ps_ret (c_put_at.pe (hr.mono (by omega)) (by rfl) (pa_cons (pv 0) (pa_cons (pe_ix ix_tup (pv 1) pe_int (fun _ _ => rfl)) (pa_cons (pe_op op_add_str (pe_op op_add_str (pe_slice sl_str (pv 2) po_none (po_some (pv 3))) (pv 4)) (pe_slice sl_str (pv 2) (po_some (pe_op op_add (pv 3) pe_int)) po_none)) pa_nil))))))))), ?_⟩)
  · obtain ⟨R, W, b, d, hb, hd, ho, a⟩ := h
    exact (Paired.length a.1 :)
  obtain ⟨R, W, b, d, hb, hd, ho, a⟩ := h
  obtain ⟨hp, q⟩ := a
  have sd := sd_start (N := ["cells", "deed", "line", "column", "sign"]) hp
  try dsimp only [cxOf, Cx.nox]
  have hll := hb.r.line d.r hd.r
  have w5 := hb.W5
  have hc := hd.c
  refine q_par (Pa := fun v H2 => VOk K CB H2 v (.dat (txtK (b.getD d.r [])))) (P2 := fun _ w H2 => VOk K CB H2 w (.dat (numK d.c))) (ek_ixT (ks := b.map txtK) (ek_var sd rfl) (ek_dr (d := d) (ek_var sd rfl)) (hb.get hd.r)) (fun v H1 x1 _ => ek_dc (d := d) (ek_var (sd.ex x1) rfl)) fun v w H1 H2 x1 x2 pv pw => ?_
  have x12 := x1.trans x2
  have sd1 := ((sd.ex x12).set (i := 2) (pv.ex x2).s).set (i := 3) pw.s
  refine q_skip (Evl.et_is (et_test (eb_neB (eb_eqS (EvK.is (ek_ixS (ek_var sd1 rfl) (ek_var sd1 rfl) (hb.at hd.r hd.c) (by omega)) rfl) ek_str) (eb_isF (d := d) (ek_var sd1 rfl)))) ?_) fun H3 x3 => ?_
  · rw [sign_dot]
    by_cases h : at2 b d.r d.c = 46
    · rw [decide_eq_true h, ho.mp h]; rfl
    · rw [decide_eq_false h]
      cases hf : d.fill with
      | true => exact absurd (ho.mpr hf) h
      | false => rfl
  have sd2 := sd1.ex x3
  refine q_set (s := .dat (txtK [d.s])) sd2 (e1_if (c := d.fill) (et_test (eb_isF (d := d) (ek_var sd2 rfl))) (fun hf => ek_ds hf (ek_var sd2 rfl)) fun hf => EvK.is ek_str (by rw [hd.cut hf]; exact congrArg NestedKey.text toS46.symm)) fun σ4 H4 x4 sd3 => ?_
  refine s_ret (e1_ans (ea_three (s1 := .dat (brdK b)) (s2 := .dat (numK d.r)) (s3 := .dat (txtK ((b.getD d.r []).set d.c d.s))) (ek_var sd3 rfl) (ek_dr (d := d) (ek_var sd3 rfl)) (ek_putS (ek_var sd3 rfl) (ek_var sd3 rfl) (ek_var sd3 rfl) (ek_var sd3 rfl) (ek_succ (ek_var sd3 rfl)) (by omega) (by omega))) fun vs H1 Q a => ⟨b.map txtK, d.r, _, by rw [hb.lenK]; exact hd.r, by rw [hb.lenK]; have := hb.R5; omega, a⟩) fun v H5 x5 dv => q v H5 ((x12.trans x3).trans (x4.trans x5)) ?_
  rw [map_set] at dv
  exact dv

/-! ### stand_together: the threads stand nowhere -/
theorem rep_get {n i : Nat} {kk : NK} (h : (List.replicate n NestedKey.none)[i]? = some kk) : kk = .none := (List.eq_of_mem_replicate (List.mem_of_getElem? h))
def spStand (K : PySem.W.Frag) (C : Addr) : Sp := fun vs H Q _ => ∃ (k : NK) (n : Nat), n ≤ 3 ∧ Ans K C [.dat k, .dat (.tup (List.replicate n .none))] (fun v _ => v = .bl true) vs H Q
theorem ok_stand_together {P : Program} {w : World} {K : PySem.W.Frag} {mg : Str → Option Value} {base : Heap} {CB CF AF : Addr} (kn : Kn K mg "stand_together" s_stand_together) (T : TX K mg CB CF AF)  : Cal P w K mg base 1 "stand_together" ["cells", "threads"] (spStand K CB) := by
  have nd := sc_stand_together.nd
  refine Cal.mk kn sc_stand_together (fun _ _ _ _ _ _ us hl => match us, hl with | [_, _], _ => rfl) (fun vs H Q E h => ?_) (fun f cdv A outer s H vs Q E hr h => ⟨_, (pss_cons (ps_set (i := 2) nd rfl (by first | exact Or.inl rfl | exact Or.inr rfl) (pe_lc (own := [("thread", 4)]) (by rfl) nd (pi_tup (pv 1)) (blkOk_by (own := [("thread", 4)]) (N := ["cells", "threads", "some", "told", "thread", "one", "other"]) (sc := defScope s_stand_together) (by decide +kernel)) (fun _ _ _ _ _ => (pg_name (i := 4) nd rfl (by first | exact Or.inl rfl | exact Or.inr rfl))) (fun _ _ _ _ _ => pts_one (pt_cmpR op_notN (pv 4) pe_non (nomark _))) (fun _ _ _ _ _ => (pv 4))))
  (pss_cons (ps_if (pt_cmpR op_lt (pe_callB call_len_seq (by rfl) T.z_len PySem.boot_len (pa_cons (pv 2) pa_nil)) pe_int (nomark _)) (pss_one (ps_ret pe_bl)) pss_nil)
  pss_never)), ?_⟩)
  · obtain ⟨k, n, hn, a⟩ := h
    exact (Paired.length a.1 :)
  obtain ⟨k, n, hn, a⟩ := h
  obtain ⟨hp, q⟩ := a
  have sd := sd_start (N := ["cells", "threads", "some", "told", "thread", "one", "other"]) hp
  try dsimp only [cxOf, Cx.nox]
  have hl : (List.replicate n NestedKey.none).length = n := List.length_replicate
  refine q_setO (d := .list []) sd (e1_ls ((en_lcT (ks := List.replicate n .none) (fun _ => false) (fun _ _ _ => True) sd (ek_var sd rfl) (by rw [hl]; omega) (by simp) (fun _ _ _ _ _ z => z) fun i kk σ2 H1 hk x1 sd2 => ⟨?_, fun z => nomatch z⟩).mono fun xs H2 _ pr => ?_)) fun σ1 H1 x1 sd1 => ?_
  · have e := rep_get hk
    subst e
    exact et_test (e1_notN false (ek_var sd2 rfl) fun v H2 p => by rw [dp_non p]; rfl)
  · rw [show (List.range (List.replicate n NestedKey.none).length).filter (fun _ => false) = [] from List.filter_eq_nil_iff.mpr fun _ _ z => nomatch z] at pr
    cases pr; exact .nil
  refine q_if (c := true) (Evl.et_is (et_test (eb_ii (ek_lenL (ds := []) ((eo_var sd1 rfl).mono fun v H2 x p => Dp.ex x _ _ p)) ek_int)) (by decide)) (fun _ H2 x2 => s_ret ev_c fun v H3 x3 e => q v H3 ((x1.trans x2).trans x3) e) fun z => nomatch z
end Wx
end
section
set_option Elab.async false
set_option linter.all false
set_option maxRecDepth 100000
set_option maxHeartbeats 4000000
namespace Wx
open PySem PySem.Spec PyProof.Rows L2 Wv
open Evl (Ex ex_rd ex_l ex_t sq_of st_of fresh_back)
/-! ### states -/
def nosK (n : Nat) : NK := .tup (List.replicate n .none)
def stK (b0 : Brd) (B : Bld) (p : Plc) : NK := .tup [brdK (cellsAt b0 B p), numsK p, nosK B.length]
def nxK (b0 : Brd) (B : Bld) (p : Plc) (i : Nat) : NK := if pl p i < sz B i then stK b0 B (inc p i) else .none
theorem nums_get {p : Plc} {i : Nat} (h : i < p.length) : (p.map numK)[i]? = some (numK (pl p i)) := by
  unfold pl
  simp [List.getElem?_map, List.getElem?_eq_getElem h, List.getD_eq_getElem?_getD]
theorem nums_inc {p : Plc} {i : Nat} : (p.map numK).set i (numK (pl p i + 1)) = (inc p i).map numK := by unfold inc; rw [List.map_set]
theorem Gd.b5At {R W : Nat} {b0 : Brd} {B : Bld} (g : Gd R W b0 B) (p : Plc) : Brd5 R W (cellsAt b0 B p) := ⟨cells_rect g.g p, g.b5.R1, g.b5.R5, g.b5.W1, g.b5.W5⟩
theorem Gd.full5 {R W : Nat} {b0 : Brd} {B : Bld} (g : Gd R W b0 B) : B.length ≤ 3 := g.few.most
section
variable {K : PySem.W.Frag} {C : Addr} {H H' H0 : Hp} {σ : St} {e as : List Sl} {ta tb tc te tl : TE} {d : Deed} {i j : Nat} {v : V}
/-- (a, b, c) = data -/
theorem g_three {k1 k2 k3 : NK} {i j l : Nat} {Kt : St → Hp → Prop} (h : Dp K H v (NestedKey.tup [k1, k2, k3]).data) (q : ∀ x y z, Dp K H x k1.data → Dp K H y k2.data → Dp K H z k3.data → Kt (((σ.set i (some x)).set j (some y)).set l (some z)) H) : gTup K 3 (gCons (gName i) (gCons (gName j) (gCons (gName l) gNil))) v σ H Kt := by
  cases h with
  | tup hs hd =>
    cases hd with
    | cons h1 hd =>
      cases hd with
      | cons h2 hd =>
        cases hd with
        | cons h3 hd =>
          cases hd
          exact ⟨_, _, rfl, hs, rfl, _, _, rfl, _, _, rfl, _, _, rfl, rfl, q _ _ _ h1 h2 h3⟩
theorem eb_inTup {x y z : Str} (h : EvK K te σ H (.text x)) : EvV (tOp (rIn K false) te (tTup (tCons (tC (.str y)) (tCons (tC (.str z)) tNil)))) σ H (.bl (inV (.str x) [.str y, .str z])) :=
  evv (Evl.ev_inU (EvV.up (EvK.v_str h)) (Evl.eu_tup (Evl.ea_cons Evl.ev_c (Evl.ea_cons Evl.ev_c Evl.ea_nil)) (by simp)) rfl rfl)
theorem word_in (d : Deed) : inV (.str (word d)) [.str "fill", .str "cut"] = true := by unfold word; cases d.fill <;> decide +kernel
theorem rep_flat {α : Type} (x : α) (n : Nat) : (List.replicate n [x]).flatten = List.replicate n x := by
  induction n with
  | zero => rfl
  | succ n ih => rw [List.replicate_succ, List.flatten_cons, ih, List.replicate_succ]; rfl
theorem dp_rep {k : NK} {x : V} (h : Dp K H x k.data) : ∀ n, DpAll K H (List.replicate n x) (NestedKey.datas (List.replicate n k))
  | 0 => .nil
  | n + 1 => .cons h (dp_rep h n)
theorem ek_rep {k : NK} {n : Nat} (ha : EvK K ta σ H (.tup [k])) (hb : EvK K tb σ H (.num (n : Int))) (h1 : 1 ≤ n) (h9 : n ≤ 900) : EvK K (tOp (rRepA K) ta tb) σ H (.tup (List.replicate n k)) :=
  e1_op ha hb fun x y H1 H2 x1 x2 p p2 Q q => by
    obtain ⟨l, xs, rfl, hs, hd⟩ := dp_tup p
    have e2 := dp_int p2
    subst e2
    have hs' := ex_t x2 hs
    have hd' := DpAll.ex x2 _ _ hd
    have hd0 := hd'
    cases hd' with
    | cons h t =>
      cases t
      by_cases hn : n = 1
      · subst hn
        exact .inl ⟨l, _, rfl, rfl, hs', q _ H2 (Ex.refl _) (.tup hs' hd0)⟩
      · refine .inr ⟨l, (n : Int), _, rfl, rfl, hs', by simp, by omega, by omega, by simp, fun p hp => q _ _ (Ex.new hp) (.tup (SqT.of upd_same) ?_)⟩
        rw [Int.toNat_natCast, rep_flat]
        exact dp_rep (Dp.ex (Ex.new hp) _ _ h) n
/-- tuple(a new list) -/
theorem ek_tupL {ks : List NK} (h : EvN te σ H fun xs H2 => DpAll K H2 xs (NestedKey.datas ks)) : EvK K (tCB (fun xs H Q => ∃ p ys, xs = [.ref p] ∧ ((SqL K H p ys ∧ ∀ l, H l = none → Q (.ref l) (upd H l (.tup ys))) ∨ (SqT K H p ys ∧ Q (.ref p) H))) (tCons te tNil)) σ H (.tup ks) := fun H1 x1 Q q =>
  h H1 x1 _ fun p xs H2 hp x2 e pr => ⟨p, xs, rfl, .inl ⟨SqL.of e, fun l hl => q _ _ (x2.trans (Ex.new hl)) (.tup (SqT.of upd_same) (DpAll.ex (Ex.new hl) _ _ pr))⟩⟩
end
def spDone (K : PySem.W.Frag) (C : Addr) : Sp := fun vs H Q _ => ∃ R W b0 B p i, Gd R W b0 B ∧ Box B p ∧ i < B.length ∧ Ans K C [.dat (bldK B), .dat (stK b0 B p), .dat (numK i)] (fun v H' => Dp K H' v (nxK b0 B p i).data) vs H Q
theorem ok_deed_done {P : Program} {w : World} {K : PySem.W.Frag} {mg : Str → Option Value} {base : Heap} {CB CF AF : Addr} (kn : Kn K mg "deed_done" s_deed_done) (T : TX K mg CB CF AF) (c_put_at : Cal P w K mg base 1 "put_at" ["things", "at", "thing"] (spPutAt K CB)) (c_put_sign : Cal P w K mg base 2 "put_sign" ["cells", "deed"] (spPutSign K CB)) (c_stand_together : Cal P w K mg base 1 "stand_together" ["cells", "threads"] (spStand K CB)) : Cal P w K mg base 3 "deed_done" ["builders", "state", "builder"] (spDone K CB) := by
  have nd := sc_deed_done.nd
  refine Cal.mk kn sc_deed_done (fun _ _ _ _ _ _ us hl => match us, hl with | [_, _, _], _ => rfl) (fun vs H Q E h => ?_) (fun f cdv A outer s H vs Q E hr h => ⟨_, (pss_cons (ps_asg (pv 1) (pg_tup (by rfl) (pgs_cons (pg_name (i := 3) nd rfl (by first | exact Or.inl rfl | exact Or.inr rfl)) (pgs_cons (pg_name (i := 4) nd rfl (by first | exact Or.inl rfl | exact Or.inr rfl)) (pgs_cons (pg_name (i := 5) nd rfl (by first | exact Or.inl rfl | exact Or.inr rfl)) pgs_nil)))))
  (pss_cons (ps_if (pt_cmpR op_eq (pe_ix ix_tup (pv 4) (pv 2) (fun _ _ => rfl)) (pe_callB call_len_seq (by rfl) T.z_len PySem.boot_len (pa_cons (pe_ix ix_tup (pv 0) (pv 2) (fun _ _ => rfl)) pa_nil)) (nomark _)) (pss_one (ps_ret pe_non)) pss_nil)
  (pss_cons (ps_set (i := 6) nd rfl (by first | exact Or.inl rfl | exact Or.inr rfl) (pe_ix ix_tup (pe_ix ix_tup (pv 0) (pv 2) (fun _ _ => rfl)) (pe_ix ix_tup (pv 4) (pv 2) (fun _ _ => rfl)) (fun _ _ => rfl)))
  (pss_cons (ps_if (pt_cmpR op_in_seq (pe_ix ix_tup (pv 6) pe_int (fun _ _ => rfl)) (pe_tup (pa_cons (pe_gS (by rfl) T.g_FILL) (pa_cons (pe_gS (by rfl) T.g_CUT) pa_nil))) (by with_unfolding_all rfl)) (pss_one (ps_set (i := 3) nd rfl (by first | exact Or.inl rfl | exact Or.inr rfl) (c_put_sign.pe (hr.mono (by omega)) (by rfl) (pa_cons (pv 3) (pa_cons (pv 6) pa_nil))))) (pss_one (ps_if (pt_cmpR op_ne (pe_cmpR op_isN (pe_ix ix_tup (pv 5) (pv 2) (fun _ _ => rfl)) pe_non (nomark _)) (pe_cmpR op_eq (pe_ix ix_tup (pv 6) pe_int (fun _ _ => rfl)) (pe_gS (by rfl) T.g_STAND) (nomark _)) (nomark _)) (pss_one (ps_ret pe_non)) (pss_one (ps_set (i := 5) nd rfl (by first | exact Or.inl rfl | exact Or.inr rfl) (c_put_at.pe (hr.mono (by omega)) (by rfl) (pa_cons (pv 5) (pa_cons (pv 2) (pa_cons (pe_ifExp (pt_cmpR op_eq (pe_ix ix_tup (pv 6) pe_int (fun _ _ => rfl)) (pe_gS (by rfl) T.g_STAND) (nomark _)) (pe_ix ix_tup (pv 6) pe_int (fun _ _ => rfl)) pe_non) pa_nil)))))))))
  (pss_cons (ps_if (PW.pt (pw_or (pt_cmpR op_isN (pv 3) pe_non (nomark _)) (pw_or1 (pt_not (pt_val (c_stand_together.pe (hr.mono (by omega)) (by rfl) (pa_cons (pv 3) (pa_cons (pv 5) pa_nil)))))))) (pss_one (ps_ret pe_non)) pss_nil)
  (pss_one (ps_ret (pe_tup (pa_cons (pv 3) (pa_cons (c_put_at.pe (hr.mono (by omega)) (by rfl) (pa_cons (pv 4) (pa_cons (pv 2) (pa_cons (pe_op op_add (pe_ix ix_tup (pv 4) (pv 2) (fun _ _ => rfl)) pe_int) pa_nil)))) (pa_cons (pv 5) pa_nil))))))))))), ?_⟩)
  · obtain ⟨R, W, b0, B, p, i, g, bx, hi, a⟩ := h
    exact (Paired.length a.1 :)
  obtain ⟨R, W, b0, B, p, i, g, bx, hi, a⟩ := h
  obtain ⟨hp, q⟩ := a
  have sd := sd_start (N := ["builders", "state", "builder", "cells", "places", "threads", "deed"]) hp
  try dsimp only [cxOf, Cx.nox]
  have hb := g.b5At p
  have m2 := g.few.most
  have hpl : i < p.length := by rw [bx.len]; exact hi
  refine q_of (ek_var (k := stK b0 B p) sd rfl H (Ex.refl _) _ fun v H1 x1 dv => g_three dv fun x y z dx dy dz => ?_)
  have sd1 := (((sd.ex x1).set (i := 3) (s := .dat (brdK (cellsAt b0 B p))) ⟨x, rfl, dx⟩).set (i := 4) (s := .dat (numsK p)) ⟨y, rfl, dy⟩).set (i := 5) (s := .dat (nosK B.length)) ⟨z, rfl, dz⟩
  refine q_if (c := decide (pl p i = sz B i)) (Evl.et_is (et_test (eb_eqI (ek_ixT (ks := p.map numK) (ek_var sd1 rfl) (ek_var sd1 rfl) (nums_get hpl)) (ek_lenT (ks := (dsAt B i).map dK) (ek_ixT (ks := B.map dsK) (ek_var sd1 rfl) (ek_var sd1 rfl) (ds_get hi))))) ?_) (fun hc H2 x2 => ?_) fun hc H2 x2 => ?_
  · rw [List.length_map]
    unfold sz
    simp [Int.natCast_inj]
  · refine s_ret (ek_non (K := K)) fun v H3 x3 dv => q v H3 ((x1.trans x2).trans x3) ?_
    have : pl p i = sz B i := by simpa using hc
    unfold nxK
    rw [if_neg (by omega)]; exact dv
  have hlt : pl p i < sz B i := by
    have h1 : pl p i ≠ sz B i := by simpa using hc
    have := bx.le i hi
    omega
  obtain ⟨d, hd⟩ := next_some hlt
  have okd := g.g.okAt hi hd
  have hold := next_old g.g hi hd (b0 := b0)
  have sd2 := sd1.ex x2
  refine q_set (s := .dat (dK d)) sd2 (ek_ixT (ks := (dsAt B i).map dK) (ek_ixT (ks := B.map dsK) (ek_var sd2 rfl) (ek_var sd2 rfl) (ds_get hi)) (ek_ixT (ks := p.map numK) (ek_var sd2 rfl) (ek_var sd2 rfl) (nums_get hpl)) (dd_get hd)) fun σ3 H3 x3 sd3 => ?_
  refine q_if (c := true) (Evl.et_is (et_test (eb_inTup (ek_word (d := d) (ek_var sd3 rfl)))) (word_in d)) (fun _ H4 x4 => ?_) fun z => nomatch z
  have sd4 := sd3.ex x4
  refine s_set (s := .dat (brdK (cellsAt b0 B (inc p i)))) sd4 (e1_ans (ea_two (s1 := .dat (brdK (cellsAt b0 B p))) (s2 := .dat (dK d)) (ek_var sd4 rfl) (ek_var sd4 rfl)) fun vs H1 Q a => ⟨R, W, cellsAt b0 B p, d, hb, DeedOk.into okd, ?_, by rw [next_cells g.g bx.len hi hd]; exact a⟩) fun σ5 H5 x5 sd5 => ?_
  · rw [hold]
    constructor
    · intro h
      cases hf : d.fill with
      | true => rfl
      | false => exact absurd h (okd.cut hf).1
    · exact fun h => (okd.fil h).1
  refine q_skip (Evl.et_or (a := false) (b := false) (et_test (e1_isN false (ek_var (k := brdK (cellsAt b0 B (inc p i))) sd5 rfl) fun v H2 dv => by cases dv; rfl)) fun _ => Evl.et_not (a := true) (et_B (e1_ans (ea_two (s1 := .dat (brdK (cellsAt b0 B (inc p i)))) (s2 := .dat (nosK B.length)) (ek_var sd5 rfl) (ek_var sd5 rfl)) fun vs H1 Q a => ⟨_, B.length, m2, a⟩))) fun H6 x6 => ?_
  have sd6 := sd5.ex x6
  refine s_ret (ek_tup (C := CB) (ks := [brdK (cellsAt b0 B (inc p i)), numsK (inc p i), nosK B.length]) (ea_three (s1 := .dat (brdK (cellsAt b0 B (inc p i)))) (s2 := .dat (numsK (inc p i))) (s3 := .dat (nosK B.length)) (ek_var sd6 rfl) (e1_ans (P := fun v H' => Dp K H' v (numsK (inc p i)).data) (ea_three (s1 := .dat (numsK p)) (s2 := .dat (numK i)) (s3 := .dat (numK (pl p i + 1))) (ek_var sd6 rfl) (ek_var sd6 rfl) (ek_succ (ek_ixT (ks := p.map numK) (ek_var sd6 rfl) (ek_var sd6 rfl) (nums_get hpl)))) fun vs H1 Q a => ⟨p.map numK, i, numK (pl p i + 1), by rw [List.length_map]; exact hpl, by rw [List.length_map, bx.len]; omega, by rw [nums_inc]; exact a⟩) (ek_var sd6 rfl)) (by simp)) fun v H7 x7 dv => q v H7 ((((x1.trans x2).trans x3).trans (x4.trans x5)).trans (x6.trans x7)) ?_
  unfold nxK
  rw [if_pos hlt]; exact dv

def spFirst (K : PySem.W.Frag) (C : Addr) : Sp := fun vs H Q _ => ∃ R W b0 B, Gd R W b0 B ∧ Ans K C [.brd H b0, .dat (bldK B)] (fun v H' => Dp K H' v (stK b0 B (zero B)).data) vs H Q
theorem zero_nums (B : Bld) : List.replicate B.length (NestedKey.num 0) = (zero B).map numK := by unfold zero; rw [List.map_replicate]; rfl
theorem ok_first_state {P : Program} {w : World} {K : PySem.W.Frag} {mg : Str → Option Value} {base : Heap} {CB CF AF : Addr} (kn : Kn K mg "first_state" s_first_state) (T : TX K mg CB CF AF) (c_cells : Prp P w K mg base 1 CB "cells" (spCells K CB)) : Cal P w K mg base 3 "first_state" ["board", "builders"] (spFirst K CB) := by
  have nd := sc_first_state.nd
  refine Cal.mk kn sc_first_state (fun _ _ _ _ _ _ us hl => match us, hl with | [_, _], _ => rfl) (fun vs H Q E h => ?_) (fun f cdv A outer s H vs Q E hr h => ⟨_, (pss_one (ps_ret (pe_tup (pa_cons (c_cells.pe (pv 0) T.cl (hr.mono (by omega)) rfl) (pa_cons (pe_op op_repA (pe_tup (pa_cons pe_int pa_nil)) (pe_callB call_len_seq (by rfl) T.z_len PySem.boot_len (pa_cons (pv 1) pa_nil))) (pa_cons (pe_op op_repA (pe_tup (pa_cons pe_non pa_nil)) (pe_callB call_len_seq (by rfl) T.z_len PySem.boot_len (pa_cons (pv 1) pa_nil))) pa_nil)))))), ?_⟩)
  · obtain ⟨R, W, b0, B, g, a⟩ := h
    exact (Paired.length a.1 :)
  obtain ⟨R, W, b0, B, g, a⟩ := h
  obtain ⟨hp, q⟩ := a
  have sd := sd_start (N := ["board", "builders"]) hp
  try dsimp only [cxOf, Cx.nox]
  have m1 := g.few.pos
  have m2 := g.few.most
  have hl : (B.map dsK).length = B.length := List.length_map _
  refine s_ret (ek_tup (C := CB) (ks := [brdK b0, numsK (zero B), nosK B.length]) (ea_three (s1 := .dat (brdK b0)) (s2 := .dat (numsK (zero B))) (s3 := .dat (nosK B.length)) (e1_cells (eb_var sd rfl) (Ex.refl _)) (EvK.is (ek_rep (k := .num 0) (n := B.length) (ek_tup (C := CB) (ks := [.num 0]) (ea_one (s := .dat (.num 0)) ek_int) (by simp)) (EvK.is (ek_lenT (ks := B.map dsK) (ek_var sd rfl)) (by rw [hl])) m1 (by omega)) (by rw [zero_nums]; rfl)) (ek_rep (k := .none) (n := B.length) (ek_tup (C := CB) (ks := [.none]) (ea_one (s := .dat .none) ek_non) (by simp)) (EvK.is (ek_lenT (ks := B.map dsK) (ek_var sd rfl)) (by rw [hl])) m1 (by omega))) (by simp)) fun v H1 x1 dv => q v H1 x1 ?_
  unfold stK
  rw [cells_zero]; exact dv

/-! ### movers -/
def mvs (B : Bld) (p : Plc) : List Nat := (List.range B.length).filter fun i => decide (pl p i < sz B i)
def spMov (K : PySem.W.Frag) (C : Addr) : Sp := fun vs H Q _ => ∃ R W b0 B p, Gd R W b0 B ∧ Box B p ∧ Ans K C [.dat (bldK B), .dat (stK b0 B p)] (fun v H' => Dp K H' v (numsK (mvs B p)).data) vs H Q
theorem nx_non {b0 : Brd} {B : Bld} {p : Plc} {i : Nat} {K : PySem.W.Frag} {H : Hp} {v : V} (h : Dp K H v (nxK b0 B p i).data) : (!decide (v = .non)) = decide (pl p i < sz B i) := by
  unfold nxK at h
  split at h
  · next hl => rw [decide_eq_true hl]; cases h; rfl
  · next hl => rw [decide_eq_false hl]; cases h; rfl
theorem ok_all_movers {P : Program} {w : World} {K : PySem.W.Frag} {mg : Str → Option Value} {base : Heap} {CB CF AF : Addr} (kn : Kn K mg "all_movers" s_all_movers) (T : TX K mg CB CF AF) (c_deed_done : Cal P w K mg base 3 "deed_done" ["builders", "state", "builder"] (spDone K CB)) : Cal P w K mg base 4 "all_movers" ["builders", "state"] (spMov K CB) := by
  have nd := sc_all_movers.nd
  refine Cal.mk kn sc_all_movers (fun _ _ _ _ _ _ us hl => match us, hl with | [_, _], _ => rfl) (fun vs H Q E h => ?_) (fun f cdv A outer s H vs Q E hr h => ⟨_, (pss_one (ps_ret (pe_callTy call_tuple_of (by rfl) T.z_tuple (by decide +kernel) (pa_cons (pe_lc (own := [("one", 2)]) (by rfl) nd (pi_range1 (by rfl) T.z_range (pa_cons (pe_callB call_len_seq (by rfl) T.z_len PySem.boot_len (pa_cons (pv 0) pa_nil)) pa_nil)) (blkOk_by (own := [("one", 2)]) (N := ["builders", "state", "one"]) (sc := defScope s_all_movers) (by decide +kernel)) (fun _ _ _ _ _ => (pg_name (i := 2) nd rfl (by first | exact Or.inl rfl | exact Or.inr rfl))) (fun _ _ _ _ _ => pts_one (pt_cmpR op_notN (c_deed_done.pe (hr.mono (by omega)) (by rfl) (pa_cons (pv 0) (pa_cons (pv 1) (pa_cons (pv 2) pa_nil)))) pe_non (nomark _))) (fun _ _ _ _ _ => (pv 2))) pa_nil)))), ?_⟩)
  · obtain ⟨R, W, b0, B, p, g, bx, a⟩ := h
    exact (Paired.length a.1 :)
  obtain ⟨R, W, b0, B, p, g, bx, a⟩ := h
  obtain ⟨hp, q⟩ := a
  have sd := sd_start (N := ["builders", "state", "one"]) hp
  try dsimp only [cxOf, Cx.nox]
  have m2 := g.few.most
  have hl : (B.map dsK).length = B.length := List.length_map _
  refine s_ret (ek_tupL (ks := (mvs B p).map numK) ((en_lcR (n := B.length) (fun i => decide (pl p i < sz B i)) (fun i y H => Dp K H y (numK i).data) sd (EvK.is (ek_lenT (ks := B.map dsK) (ek_var sd rfl)) (by rw [hl])) (by omega) (by simp) (fun i y H H' t z => Dp.tx t _ _ z) fun i σ2 H1 hi x1 sd2 => ⟨?_, fun _ => ek_var sd2 rfl⟩).mono fun xs H2 _ pr => paired_dats pr)) q
  exact et_test (e1_notN _ (e1_ans (ea_three (s1 := .dat (bldK B)) (s2 := .dat (stK b0 B p)) (s3 := .dat (numK i)) (ek_var sd2 rfl) (ek_var sd2 rfl) (ek_var sd2 rfl)) fun vs H1 Q a => ⟨R, W, b0, B, p, i, g, bx, hi, a⟩) fun v H2 dv => nx_non dv)

/-! ### whole -/
theorem pg_tupK {X : Cx} {K : PySem.W.Frag} {es : List Expr} {k : _} {t : TGs} {n : Nat} {pos : Pos} (e : X.K = K) (hc : X.calm = true) (h : PGs X es t)
    (hn : (assignEach es X.env).length = n := by rfl) (hst : (assignEach es X.env).findIdx? (·.1) = none := by rfl) : PG X (.Tuple es k pos) (gTup K n t) := e ▸ pg_tup hc h hn hst
def fullB (B : Bld) (p : Plc) : Bool := (List.range B.length).all fun i => decide (pl p i = sz B i)
theorem fullB_iff {B : Bld} {p : Plc} : fullB B p = true ↔ Full B p := by
  unfold fullB Full
  simp [List.all_eq_true]
def spWhole (K : PySem.W.Frag) (C : Addr) : Sp := fun vs H Q _ => ∃ R W b0 B p, Gd R W b0 B ∧ Box B p ∧ Ans K C [.dat (bldK B), .dat (stK b0 B p)] (fun v _ => v = .bl (fullB B p)) vs H Q
theorem ok_is_whole {P : Program} {w : World} {K : PySem.W.Frag} {mg : Str → Option Value} {base : Heap} {CB CF AF : Addr} (kn : Kn K mg "is_whole" s_is_whole) (T : TX K mg CB CF AF)  : Cal P w K mg base 1 "is_whole" ["builders", "state"] (spWhole K CB) := by
  have nd := sc_is_whole.nd
  refine Cal.mk kn sc_is_whole (fun _ _ _ _ _ _ us hl => match us, hl with | [_, _], _ => rfl) (fun vs H Q E h => ?_) (fun f cdv A outer s H vs Q E hr h => ⟨_, (pss_one (ps_ret (pe_callB (cr_all rfl) (by rfl) T.z_all (by decide +kernel) (pa_cons (pe_lc (own := [("place", 2), ("deeds", 3)]) (by rfl) nd (RZ.pi_zipA (by rfl) T.z_zip (pa_cons (pe_ix ix_tup (pv 1) pe_int (fun _ _ => rfl)) (pa_cons (pv 0) pa_nil))) (blkOk_by (own := [("place", 2), ("deeds", 3)]) (N := ["builders", "state", "place", "deeds"]) (sc := defScope s_is_whole) (by decide +kernel)) (fun _ _ _ _ _ => (pg_tupK (K := K) (n := 2) rfl (by rfl) (pgs_cons (pg_name (i := 2) nd rfl (by first | exact Or.inl rfl | exact Or.inr rfl)) (pgs_cons (pg_name (i := 3) nd rfl (by first | exact Or.inl rfl | exact Or.inr rfl)) pgs_nil)))) (fun _ _ _ _ _ => pts_nil) (fun _ _ _ _ _ => (pe_cmpR op_eq (pv 2) (pe_callB (call_lenK (K := K) rfl) (by rfl) T.z_len PySem.boot_len (pa_cons (pv 3) pa_nil)) (nomark _)))) pa_nil)))), ?_⟩)
  · obtain ⟨R, W, b0, B, p, g, bx, a⟩ := h
    exact (Paired.length a.1 :)
  obtain ⟨R, W, b0, B, p, g, bx, a⟩ := h
  obtain ⟨hp, q⟩ := a
  have sd := sd_start (N := ["builders", "state", "place", "deeds"]) hp
  try dsimp only [cxOf, Cx.nox]
  have m2 := g.few.most
  have hl : (B.map dsK).length = B.length := List.length_map _
  have hp : (p.map numK).length = B.length := by rw [List.length_map, bx.len]
  refine s_ret (eb_all (f := fun i => decide (pl p i = sz B i)) (is := List.range B.length) ((en_lcZ (ks := p.map numK) (ms := B.map dsK) (fun _ => true) (fun i y _ => y = .bl (decide (pl p i = sz B i))) sd (ek_ixT (ks := [brdK (cellsAt b0 B p), numsK p, nosK B.length]) (ek_var sd rfl) ek_int rfl) (ek_var sd rfl) (by rw [hl, hp]) (by omega) (by simp) (by simp) (fun _ _ _ _ _ z => z) fun i k1 k2 σ2 H1 h1 h2 x1 sd2 => ⟨et_yes, fun _ => ?_⟩).mono fun xs H2 _ pr => ?_)) fun v H1 x1 e => q v H1 x1 e
  · have hi : i < B.length := by have := (List.getElem?_eq_some_iff.mp h1).1; omega
    rw [nums_get (by rw [bx.len]; exact hi)] at h1
    rw [ds_get hi] at h2
    cases Option.some.inj h1
    cases Option.some.inj h2
    refine bl_is (eb_eqI (ek_var sd2 rfl) (ek_lenT (ks := (dsAt B i).map dK) (ek_var sd2 rfl))) ?_
    rw [List.length_map]
    unfold sz
    simp [Int.natCast_inj]
  · rw [filt_all, hp] at pr
    exact pr
end Wx
end
section
/-! Who is reached, by a walk with a waiting list: plain Lean. -/
namespace Wv
set_option linter.all false
structure BF (b : Brd) (i : Nat) (K ws : List Nat) : Prop where
  nd : K.Nodup
  st : i ∈ K
  ok : ∀ k ∈ K, k < many b ∧ Reach (Stp b) i k
  sub : ∀ k ∈ ws, k ∈ K
  clo : ∀ k ∈ K, k ∉ ws → ∀ y, Stp b k y → y ∈ K
structure BG (b : Brd) (i : Nat) (here : Nat) (P : List (Nat × Nat)) (j m : Nat) (K ws : List Nat) : Prop where
  nd : K.Nodup
  st : i ∈ K
  hr : here ∈ K
  ok : ∀ k ∈ K, k < many b ∧ Reach (Stp b) i k
  sub : ∀ k ∈ ws, k ∈ K
  clo : ∀ k ∈ K, k ∉ ws → k ≠ here → ∀ y, Stp b k y → y ∈ K
  dn : ∀ x y, P[x]? = some (here, y) → x < j → y ∈ K
  me : 2 * (many b - K.length) + ws.length ≤ m
theorem bf_start {b : Brd} {i : Nat} (h : i < many b) : BF b i [i] [i] := ⟨by simp, by simp, fun k hk => by simp at hk; subst hk; exact ⟨h, .refl⟩, fun k hk => hk, fun k hk hn => absurd hk hn⟩
theorem BF.len {b : Brd} {i : Nat} {K ws : List Nat} (h : BF b i K ws) : K.length ≤ many b := nodup_lt_len _ K h.nd fun k hk => (h.ok k hk).1
theorem BG.len {b : Brd} {i here j m : Nat} {P : List (Nat × Nat)} {K ws : List Nat} (h : BG b i here P j m K ws) : K.length ≤ many b := nodup_lt_len _ K h.nd fun k hk => (h.ok k hk).1
theorem bf_pop {b : Brd} {i here : Nat} {P : List (Nat × Nat)} {K ws : List Nat} (h : BF b i K (ws ++ [here])) : BG b i here P 0 (2 * (many b - K.length) + ws.length) K ws :=
  ⟨h.nd, h.st, h.sub _ (by simp), h.ok, fun k hk => h.sub k (by simp [hk]), fun k hk hn hh y s => h.clo k hk (by simp [hn, hh]) y s, fun _ _ _ z => absurd z (by omega), Nat.le_refl _⟩
theorem bg_stay {b : Brd} {i here j m : Nat} {P : List (Nat × Nat)} {K ws : List Nat} {p : Nat × Nat} (h : BG b i here P j m K ws) (hp : P[j]? = some p) (hn : ¬ (p.1 = here ∧ p.2 ∉ K)) : BG b i here P (j + 1) m K ws :=
  ⟨h.nd, h.st, h.hr, h.ok, h.sub, h.clo, fun x y hx hl => by
    by_cases e : x = j
    · subst e
      rw [hp] at hx
      cases hx
      by_cases hk : y ∈ K
      · exact hk
      · exact absurd ⟨rfl, hk⟩ hn
    · exact h.dn x y hx (by omega), h.me⟩
theorem bg_add {b : Brd} {R C : Nat} {i here j m y : Nat} {P : List (Nat × Nat)} {K ws : List Nat} (hR : Rect R C b) (h0 : 0 < R) (hP : P.Perm (raw b)) (h : BG b i here P j m K ws) (hp : P[j]? = some (here, y)) (hn : y ∉ K) : BG b i here P (j + 1) m (K ++ [y]) (ws ++ [y]) := by
  have hs : Stp b here y := hP.mem_iff.mp (List.mem_of_getElem? hp)
  have hy : y < many b := by rw [hR.many h0]; exact (stp_lt hR h0 hs).2
  have hrY : Reach (Stp b) i y := .tail (h.ok here h.hr).2 hs
  have nd' : (K ++ [y]).Nodup := nodup_snoc h.nd hn
  have ok' : ∀ k ∈ K ++ [y], k < many b ∧ Reach (Stp b) i k := fun k hk => by
    rcases List.mem_append.mp hk with z | z
    · exact h.ok k z
    · rw [List.mem_singleton] at z; subst z; exact ⟨hy, hrY⟩
  have hl := nodup_lt_len _ _ nd' fun k hk => (ok' k hk).1
  rw [List.length_append] at hl
  refine ⟨nd', by simp [h.st], by simp [h.hr], ok', fun k hk => ?_, fun k hk hw hh z s => ?_, fun x z hx hl => ?_, ?_⟩
  · rcases List.mem_append.mp hk with z | z
    · simp [h.sub k z]
    · simp at z; simp [z]
  · rcases List.mem_append.mp hk with q | q
    · have : z ∈ K := h.clo k q (fun w => hw (by simp [w])) hh z s
      simp [this]
    · exact absurd q (fun w => hw (List.mem_append_right ws w))
  · by_cases e : x = j
    · subst e
      rw [hp] at hx
      cases hx
      simp
    · have := h.dn x z hx (by omega)
      simp [this]
  · have := h.me
    rw [List.length_append, List.length_append]
    simp only [List.length_singleton] at hl ⊢
    omega
theorem bg_end {b : Brd} {i here m : Nat} {P : List (Nat × Nat)} {K ws : List Nat} (hP : P.Perm (raw b)) (h : BG b i here P P.length m K ws) : BF b i K ws :=
  ⟨h.nd, h.st, h.ok, h.sub, fun k hk hw y s => by
    by_cases e : k = here
    · subst e
      have : (k, y) ∈ P := hP.mem_iff.mpr s
      obtain ⟨x, hx, e⟩ := List.getElem_of_mem this
      exact h.dn x y (by rw [List.getElem?_eq_getElem hx, e]) hx
    · exact h.clo k hk hw e y s⟩
theorem bf_done {b : Brd} {i : Nat} {K : List Nat} (h : BF b i K []) (y : Nat) : y ∈ K ↔ y < many b ∧ Reach (Stp b) i y := by
  have := reach_closed (S := Stp b) h.st (fun k hk => (h.ok k hk).2) (fun k hk y s => h.clo k hk (by simp) y s) y
  constructor
  · exact fun hy => h.ok y hy
  · exact fun hy => this.mpr hy.2
end Wv
end
section
set_option Elab.async false
set_option linter.all false
set_option maxRecDepth 100000
set_option maxHeartbeats 4000000
/-! Dicts, pop, lists that stand while dicts change. -/
namespace Wx
open PySem PySem.Spec PyProof.Rows L2 Wv
open Evl (Ex ex_rd ex_l ex_t sq_of st_of fresh_back)
section
variable {K : PySem.W.Frag} {C : Addr} {H H' H0 : Hp} {σ : St} {e as : List Sl} {ta tb tc te tl tk tv td ty : TE} {t u : TT} {P Pa Pb : V → Hp → Prop} {v y : V} {k : NK} {b : Bool} {D : Ends} {tu tw tz : TS} {g : TG} {i j : Nat}
/-- a new object -/
def EvF (te : TE) (σ : St) (H : Hp) (P : Addr → Hp → Prop) : Prop := ∀ H1, Ex H H1 → ∀ Q : VK, (∀ p H2, H1 p = none → Ex H1 H2 → P p H2 → Q (.ref p) H2) → te σ H1 Q
theorem EvN.f {P : List V → Hp → Prop} (h : EvN te σ H P) : EvF te σ H fun p H2 => ∃ xs, H2 p = some (.lst xs) ∧ P xs H2 := fun H1 x Q q => h H1 x Q fun p xs H2 hp x2 e pp => q p H2 hp x2 ⟨xs, e, pp⟩
theorem EvF.e1 {P : Addr → Hp → Prop} {l : Addr} {o : HO} (h : EvF te σ H P) (hl : H l = some o) : Ev1 te σ H fun v H2 => ∃ p, v = .ref p ∧ p ≠ l ∧ P p H2 := fun H1 x Q q => h H1 x Q fun p H2 hp x2 pp => q _ H2 x2 ⟨p, rfl, (fun z => by subst z; rw [x _ _ hl] at hp; cases hp), pp⟩
theorem EvF.mono {P P' : Addr → Hp → Prop} (h : EvF te σ H P) (m : ∀ p H2, Ex H H2 → P p H2 → P' p H2) : EvF te σ H P' := fun H1 x Q q => h H1 x Q fun p H2 hp x2 pp => q p H2 hp x2 (m p H2 (x.trans x2) pp)
/-- a, b = e, a new one -/
theorem q_parEF {t1 t2 : TE} {Pg : V → Addr → Hp → Prop} (h1 : Ev1 t1 σ H Pa) (h2 : ∀ v H1, Ex H H1 → Pa v H1 → EvF t2 σ H1 (Pg v)) (q : ∀ v r H1 H2, Ex H H1 → Pa v H1 → H1 r = none → Ex H1 H2 → Pg v r H2 → tz D ((σ.set i (some v)).set j (some (.ref r))) H2) : tSeq (tPar i j (tCons t1 (tCons t2 tNil))) tz D σ H :=
  h1 H (Ex.refl H) _ fun v H1 x1 p1 => h2 v H1 x1 p1 H1 (Ex.refl H1) _ fun r H2 hr x2 p2 => ⟨_, _, rfl, q v r H1 H2 x1 p1 hr x2 p2⟩
theorem q_parFF {t1 t2 : TE} {Pf : Addr → Hp → Prop} {Pg : Addr → Addr → Hp → Prop} (h1 : EvF t1 σ H Pf) (h2 : ∀ p H1, H p = none → Ex H H1 → Pf p H1 → EvF t2 σ H1 (Pg p)) (q : ∀ p r H1 H2, H p = none → Ex H H1 → Pf p H1 → H1 r = none → Ex H1 H2 → Pg p r H2 → tz D ((σ.set i (some (.ref p))).set j (some (.ref r))) H2) : tSeq (tPar i j (tCons t1 (tCons t2 tNil))) tz D σ H :=
  h1 H (Ex.refl H) _ fun p H1 hp x1 p1 => h2 p H1 hp x1 p1 H1 (Ex.refl H1) _ fun r H2 hr x2 p2 => ⟨_, _, rfl, q p r H1 H2 hp x1 p1 hr x2 p2⟩
theorem q_parFE {t1 t2 : TE} {Pf : Addr → Hp → Prop} {Pg : Addr → V → Hp → Prop} (h1 : EvF t1 σ H Pf) (h2 : ∀ p H1, H p = none → Ex H H1 → Pf p H1 → Ev1 t2 σ H1 (Pg p)) (q : ∀ p r H1 H2, H p = none → Ex H H1 → Pf p H1 → Ex H1 H2 → Pg p r H2 → tz D ((σ.set i (some (.ref p))).set j (some r)) H2) : tSeq (tPar i j (tCons t1 (tCons t2 tNil))) tz D σ H :=
  h1 H (Ex.refl H) _ fun p H1 hp x1 p1 => h2 p H1 hp x1 p1 H1 (Ex.refl H1) _ fun r H2 x2 p2 => ⟨_, _, rfl, q p r H1 H2 hp x1 p1 x2 p2⟩
theorem tx_dK {d : Addr} {kvs : List (Key × V)} {o : HO} (h : H d = some (.dK kvs)) : Tx H (upd H d o) := tx_upd (not_tup h (fun _ z => nomatch z) fun _ _ z => nomatch z)
theorem upd_upd {p : Addr} {o u : HO} : upd (upd H p o) p u = upd H p u := by
  funext a; show (if a = p then _ else if a = p then _ else _) = if a = p then _ else _
  split <;> rfl
/-- {i: v} -/
theorem ef_disp {n : Int} (hk : EvK K tk σ H (.num n)) (hv : EvV tv σ H y) : EvF (tDisp [(tk, tv)]) σ H fun p H2 => H2 p = some (.dK [(Sum.inl n, y)]) := fun H1 x Q q p hp => by
  have x2 : Ex H1 (upd H1 p (.dK [])) := Ex.new hp
  refine hk _ (x.trans x2) _ fun a H2 x3 pa => hv H2 ((x.trans x2).trans x3) _ fun b H3 x4 pb => ?_
  have ea := dp_int pa
  subst ea pb
  refine ⟨x4 _ _ (x3 _ _ upd_same), [(Sum.inl n, b)], rfl, by simp, ?_⟩
  exact q p _ hp (Ex.mut ((x2.trans x3).trans x4) hp) upd_same
theorem eb_dnotin {n : Int} {d : Addr} {kvs : List (Key × V)} (hy : EvK K ty σ H (.num n)) (hd : EvV td σ H (.ref d)) (e : H d = some (.dK kvs)) : EvV (tDNotIn ty td) σ H (.bl (!(valV kvs (Sum.inl n)).isSome)) := fun H1 x Q q =>
  hy H1 x _ fun a H2 x2 pa => hd H2 (x.trans x2) _ fun b H3 x3 pb => by
    have ea := dp_int pa
    subst ea pb
    exact ⟨d, _, rfl, DGet.k (k := Sum.inl n) (x3 _ _ (x2 _ _ (x _ _ e))), q _ H3 (x2.trans x3) rfl⟩
theorem q_dput {n : Int} {d : Addr} {kvs : List (Key × V)} (hv : EvV tv σ H y) (hd : EvV td σ H (.ref d)) (hy : EvK K ty σ H (.num n)) (e : H d = some (.dK kvs)) (hl : kvs.length < 100000) (q : ∀ H1, Ex H H1 → tz D σ (upd H1 d (.dK (putK kvs (Sum.inl n) y)))) : tSeq (sDPut td ty tv) tz D σ H :=
  hv H (Ex.refl H) _ fun a H1 x1 pa => hd H1 x1 _ fun b H2 x2 pb => hy H2 (x1.trans x2) _ fun c H3 x3 pc => by
    have ec := dp_int pc
    subst pa pb ec
    have xx := (x1.trans x2).trans x3
    exact ⟨d, _, rfl, DPut.k (k := Sum.inl n) (xx _ _ e) (by rw [sizeLine_eq]; omega), q H3 xx⟩
/-- x = xs.pop() -/
theorem q_pop {l : Addr} {xs : List V} (ho : EvV ta σ H (.ref l)) (hl : H l = some (.lst (xs ++ [y]))) (q : ∀ H1, Ex H H1 → tz D (σ.set i (some y)) (upd H1 l (.lst xs))) : tSeq (tAsg (tBM0 K "list" rPop ta) (gName i)) tz D σ H :=
  ho H (Ex.refl H) _ fun a H1 x1 pa => by
    subst pa
    have e := x1 _ _ hl
    refine ⟨Or.inl ⟨rfl, _, sq_of e⟩, l, _, y, rfl, rfl, e, by simp, ?_⟩
    rw [List.dropLast_concat]
    exact q H1 x1
/-- the keys of a dict of numbers -/
def setD (Kn : List Nat) : List (Key × V) := Kn.map fun n : Nat => (Sum.inl (n : Int), V.bl true)
theorem setD_has (n : Nat) : ∀ Kn : List Nat, (valV (setD Kn) (Sum.inl (n : Int))).isSome = decide (n ∈ Kn)
  | [] => rfl
  | a :: r => by
    unfold setD
    rw [List.map_cons]
    by_cases h : a = n
    · subst h
      rw [valV_pos rfl]; simp
    · rw [valV_neg (by intro z; exact h (by have := Sum.inl.inj z; omega))]
      have := setD_has n r
      unfold setD at this
      rw [this]
      have : ¬ n = a := fun z => h z.symm
      simp [this]
theorem setD_put {n : Nat} {Kn : List Nat} (h : n ∉ Kn) : putK (setD Kn) (Sum.inl (n : Int)) (V.bl true) = setD (Kn ++ [n]) := by
  have e := setD_has n Kn
  rw [decide_eq_false h] at e
  rw [putK_new _ (Option.not_isSome_iff_eq_none.mp (by rw [e]; decide))]
  unfold setD
  rw [List.map_append]; rfl
/-- sorted of such a dict -/
theorem e1_sortDI {te : TE} {Kn : List Nat} {d : Addr} (h : EvV te σ H (.ref d)) (e : H d = some (.dK (setD Kn))) (hl : Kn.length < 64) : EvF (tCB (fun xs H Q => ∃ (a : Addr) (kvs : List (Key × V)) (ks : List Int), xs = [.ref a] ∧ Rd H a (.dK kvs) ∧ kvs.map (·.1) = ks.map Sum.inl ∧ ks.length < 64 ∧
    ∀ (ys : List Int) (p : Addr), ys.Perm ks → ys.Pairwise (· ≤ ·) → H p = none → Q (.ref p) (upd H p (.lst (ys.map V.int)))) (tCons te tNil)) σ H fun p H2 => ∃ ys : List Int, ys.Perm (Kn.map Int.ofNat) ∧ ys.Pairwise (· ≤ ·) ∧ H2 p = some (.lst (ys.map V.int)) := fun H1 x Q q =>
  h H1 x _ fun v H2 x2 ev => by
    subst ev
    refine ⟨d, setD Kn, Kn.map Int.ofNat, rfl, .inl (x2 _ _ (x _ _ e)), ?_, by simpa using hl, fun ys p hp hs hn => q p _ (fresh_back x2 hn) (x2.trans (Ex.new hn)) ⟨ys, hp, hs, upd_same⟩⟩
    unfold setD
    rw [List.map_map, List.map_map]; rfl
/-- for x in a list of data that stands while other things change -/
theorem s_forLK {ks : List NK} {l : Addr} {xs : List V} (h : EvV tl σ H (.ref l)) (hl : H l = some (.lst xs)) (hd : DpAll K H xs (NestedKey.datas ks)) (q : ∀ H1, Ex H H1 → ∃ Pv : Nat → St → Hp → Prop, Pv 0 σ H1 ∧ (∀ i σ' H', Pv i σ' H' → Tx H1 H' ∧ H' l = some (.lst xs)) ∧
      (∀ i kk σ' H', ks[i]? = some kk → Pv i σ' H' → ∀ v, Dp K H' v kk.data → g v σ' H' fun σ2 H2 => tu { D with nx := Pv (i + 1), ct := Pv (i + 1), bk := D.nx } σ2 H2) ∧ (∀ σ' H', Pv ks.length σ' H' → D.nx σ' H')) :
    tFor (iList K tl) g tu D σ H := h H (Ex.refl H) _ fun v H1 x1 ev => by
  subst ev
  have hn : xs.length = ks.length := by rw [dpAll_len hd, datas_len]
  obtain ⟨Pv, h0, hG, ht, hq⟩ := q H1 x1
  have hd1 := DpAll.tx (ex_tx x1) _ _ hd
  refine ⟨l, rfl, ⟨xs, sq_of (x1 _ _ hl)⟩, for_it (walk_list (K := K) (a := l) (xs := xs)) Pv h0 (fun i σ' H' _ p => sq_of (hG i σ' H' p).2) (fun i x σ' H2 H3 hi p y => ?_) (fun σ' H' p => hq σ' H' (by rw [← hn]; exact p))⟩
  obtain ⟨rfl, hx⟩ := y
  have hi' : i < ks.length := by omega
  have hk := List.getElem?_eq_getElem hi'
  obtain ⟨w, hw, dw⟩ := dpAll_get hd1 (datas_get hk)
  rw [hx] at hw
  cases hw
  exact ht i _ σ' _ hk p x (Dp.tx (hG i σ' _ p).1 _ _ dw)
/-! ### dicts whose keys are nested tuples -/
theorem DN.ex {w : World} {d : Addr} {kvs : List (NK × V)} (x : Ex H H') (h : DN w K H d kvs) : DN w K H' d kvs := h.tx (ex_tx x) fun o z => x _ _ z
theorem dp_ref {ks : List NK} {v : V} (h : Dp K H v (NestedKey.tup ks).data) : ∃ a, v = .ref a := by cases h; exact ⟨_, rfl⟩
theorem eb_notInN {w : World} {d : Addr} {kvs : List (NK × V)} {ks : List NK} (hy : EvK K ty σ H (.tup ks)) (hd : EvV td σ H (.ref d)) (dn : DN w K H d kvs) (h8 : (NestedKey.tup ks).depth ≤ 8) : EvV (tOp (rInN w K true) ty td) σ H (.bl (!(valV kvs (.tup ks)).isSome)) := fun H1 x Q q =>
  hy H1 x _ fun a H2 x2 pa => hd H2 (x.trans x2) _ fun b H3 x3 pb => by
    subst pb
    obtain ⟨p, rfl⟩ := dp_ref pa
    exact ⟨p, d, kvs, _, rfl, rfl, dn.ex ((x.trans x2).trans x3), Dp.ex x3 _ _ pa, h8, q _ H3 (x2.trans x3) rfl⟩
theorem e1_getN {w : World} {d : Addr} {kvs : List (NK × V)} {ks : List NK} (hd : EvV td σ H (.ref d)) (hy : EvK K ty σ H (.tup ks)) (dn : DN w K H d kvs) (h8 : (NestedKey.tup ks).depth ≤ 8) (hv : valV kvs (.tup ks) = some y) : EvV (tOp (rGetN w K) td ty) σ H y := fun H1 x Q q =>
  hd H1 x _ fun b H2 x2 pb => hy H2 (x.trans x2) _ fun a H3 x3 pa => by
    subst pb
    obtain ⟨p, rfl⟩ := dp_ref pa
    exact ⟨d, p, kvs, _, y, rfl, rfl, dn.ex ((x.trans x2).trans x3), pa, h8, hv, q _ H3 (x2.trans x3) rfl⟩
/-- d[k] = e -/
theorem s_putN {w : World} {d : Addr} {kvs : List (NK × V)} {ks : List NK} (hv : Ev1 tv σ H P) (hd : ∀ H1, Ex H H1 → EvV td σ H1 (.ref d)) (hy : EvK K ty σ H (.tup ks)) (dn : ∀ v H1, Ex H H1 → P v H1 → DN w K H1 d kvs) (h8 : (NestedKey.tup ks).depth ≤ 8) (hl : kvs.length < 100000)
    (q : ∀ v H1 H2 H3, Ex H H1 → P v H1 → Ex H1 H2 → (∃ u, H3 = upd H2 d u) → DN w K H3 d (putK kvs (.tup ks) v) → Tx H2 H3 → D.nx σ H3) : tAsg tv (gSub td ty (rSetN w K)) D σ H :=
  hv H (Ex.refl H) _ fun v H1 x1 pv => hd H1 x1 H1 (Ex.refl _) _ fun b H2 x2 pb => hy H2 (x1.trans x2) _ fun a H3 x3 pa => by
    subst pb
    obtain ⟨p, rfl⟩ := dp_ref pa
    exact ⟨d, p, kvs, _, rfl, rfl, (dn v H1 x1 pv).ex (x2.trans x3), pa, h8, by omega, fun u du tu => q v H1 H3 _ x1 pv (x2.trans x3) ⟨u, rfl⟩ du tu⟩
theorem q_putN {w : World} {d : Addr} {kvs : List (NK × V)} {ks : List NK} (hv : Ev1 tv σ H P) (hd : ∀ H1, Ex H H1 → EvV td σ H1 (.ref d)) (hy : EvK K ty σ H (.tup ks)) (dn : ∀ v H1, Ex H H1 → P v H1 → DN w K H1 d kvs) (h8 : (NestedKey.tup ks).depth ≤ 8) (hl : kvs.length < 100000)
    (q : ∀ v H1 H2 H3, Ex H H1 → P v H1 → Ex H1 H2 → (∃ u, H3 = upd H2 d u) → DN w K H3 d (putK kvs (.tup ks) v) → Tx H2 H3 → tz D σ H3) : tSeq (tAsg tv (gSub td ty (rSetN w K))) tz D σ H := q_of (s_putN (D := { D with nx := tz D }) hv hd hy dn h8 hl q)
/-- {k: v} -/
theorem ef_dispN {w : World} {ks : List NK} (hk : EvK K tk σ H (.tup ks)) (hv : Ev1 tv σ H P) (h8 : (NestedKey.tup ks).depth ≤ 8) (hP : ∀ v H1 H2, Tx H1 H2 → P v H1 → P v H2) : EvF (tDispN w K tk tv) σ H fun p H2 => ∃ v, DN w K H2 p [(.tup ks, v)] ∧ P v H2 := fun H1 x Q q p u hp => by
  have x2 : Ex H1 (upd H1 p u) := Ex.new hp
  refine hk _ (x.trans x2) _ fun a H2 x3 pa => hv H2 ((x.trans x2).trans x3) _ fun b H3 x4 pb => ?_
  obtain ⟨r, rfl⟩ := dp_ref pa
  refine ⟨_, _, rfl, x4 _ _ (x3 _ _ upd_same), r, _, rfl, Dp.ex x4 _ _ pa, h8, fun u2 dn t => ?_⟩
  exact q p _ hp (Ex.mut ((x2.trans x3).trans x4) hp) ⟨b, dn, hP _ _ _ t pb⟩
/-- {} -/
theorem ef_newN {w : World} : EvF (tNewN w K) σ H fun p H2 => DN w K H2 p [] := fun H1 x Q q p u hp dn => q p _ hp (Ex.new hp) dn
end
end Wx
end
section
set_option Elab.async false
set_option linter.all false
set_option maxRecDepth 100000
set_option maxHeartbeats 4000000
namespace Wx
open PySem PySem.Spec PyProof.Rows L2 Wv
open Evl (Ex ex_rd ex_l ex_t sq_of st_of fresh_back)
/-! ### leads_of -/
noncomputable def leadsD (b : Brd) : PyData := .list ((List.range (many b)).map fun i => .list (intsD (leads b i)))
def intsV (l : List Nat) : List V := l.map fun n : Nat => V.int (n : Int)
def ItemL (b : Brd) (l : Addr) (H : Hp) (x : V) (i : Nat) : Prop := ∃ p, x = .ref p ∧ p ≠ l ∧ H p = some (.lst (intsV (leads b i)))
theorem ItemL.go {b : Brd} {l : Addr} {H H2 : Hp} {x : V} {i : Nat} {o : HO} (e : Ex H H2) (h : ItemL b l H x i) : ItemL b l (upd H2 l o) x i := by
  obtain ⟨p, h1, h2, h3⟩ := h
  exact ⟨p, h1, h2, by rw [upd_ne h2]; exact e _ _ h3⟩
theorem ItemL.ex {b : Brd} {l : Addr} {H H2 : Hp} {x : V} {i : Nat} (e : Ex H H2) (h : ItemL b l H x i) : ItemL b l H2 x i := by
  obtain ⟨p, h1, h2, h3⟩ := h
  exact ⟨p, h1, h2, e _ _ h3⟩
theorem items_dp {K : PySem.W.Frag} {b : Brd} {l : Addr} {H : Hp} : ∀ {is : List Nat} {xs : List V}, Paired (ItemL b l H) xs is → DpAll K H xs (is.map fun i => .list (intsD (leads b i)))
  | [], _, h => by cases h; exact .nil
  | i :: is, _, h => by
    cases h with
    | cons h1 h2 =>
      obtain ⟨p, rfl, _, e⟩ := h1
      exact .cons (.lst (SqL.of e) (dp_ints _)) (items_dp h2)
def spLeads (K : PySem.W.Frag) (C : Addr) : Sp := fun vs H Q _ => ∃ R W b, Brd5 R W b ∧ Ans K C [.brd H b] (fun v H' => Dp K H' v (leadsD b)) vs H Q
theorem ok_leads_of {P : Program} {w : World} {K : PySem.W.Frag} {mg : Str → Option Value} {base : Heap} {CB CF AF : Addr} (kn : Kn K mg "leads_of" s_leads_of) (T : TX K mg CB CF AF) (c_all_steps : Cal P w K mg base 1 "all_steps" ["board"] (spSteps K CB)) (c_lenB : LenB P w K mg base 1 CB (spLen K CB)) : Cal P w K mg base 3 "leads_of" ["board"] (spLeads K CB) := by
  have nd := sc_leads_of.nd
  refine Cal.mk kn sc_leads_of (fun _ _ _ _ _ _ us hl => match us, hl with | [_], _ => rfl) (fun vs H Q E h => ?_) (fun f cdv A outer s H vs Q E hr h => ⟨_, (pss_cons (ps_par (i := 1) (j := 2) (by rfl) nd rfl rfl (by decide) rfl rfl (pa_cons (c_all_steps.pe (hr.mono (by omega)) (by rfl) (pa_cons (pv 0) pa_nil)) (pa_cons (pe_lst pa_nil) pa_nil)) (by rfl))
  (pss_cons (ps_for PassesOwn.never (by rfl) (pi_range1 (by rfl) T.z_range (pa_cons (pe_callB (c_lenB.pe T.cl (hr.mono (by omega))) (by rfl) T.z_len PySem.boot_len (pa_cons (pv 0) pa_nil)) pa_nil)) (pg_name (i := 3) nd rfl (by first | exact Or.inl rfl | exact Or.inr rfl))
  (pss_cons (ps_par (i := 4) (j := 5) (by rfl) nd rfl rfl (by decide) rfl rfl (pa_cons (pe_disp (pps_cons (pv 3) pe_bl pps_nil) (by rfl) (by rfl) (fun z => by cases z) (by decide)) (pa_cons (pe_lst (pa_cons (pv 3) pa_nil)) pa_nil)) (by rfl))
  (pss_cons (ps_while PassesOwn.never (pt_cmpR (op_neD hr.units) (pv 5) (pe_lst pa_nil) (nomark _))
  (pss_cons (ps_set (i := 6) nd rfl (by first | exact Or.inl rfl | exact Or.inr rfl) (pe_bm0 PySem.F.plainAttrs_list PySem.F.slot_list_pop PySem.F.type_list_pop mt_pop (pv 5)))
  (pss_one (ps_for PassesOwn.never (by rfl) (pi_list (pv 1)) (pg_tup (by rfl) (pgs_cons (pg_name (i := 7) nd rfl (by first | exact Or.inl rfl | exact Or.inr rfl)) (pgs_cons (pg_name (i := 8) nd rfl (by first | exact Or.inl rfl | exact Or.inr rfl)) pgs_nil)))
  (pss_one (ps_if (PW.pt (pw_and (pt_cmpR op_eq (pv 7) (pv 6) (nomark _)) (pw_and1 (pt_cmp (pc_dnotin (hu_of hr) (pv 8) (pv 4)) (by with_unfolding_all rfl))))) (pss_cons (ps_dput (hu_of hr) (pv 4) (pv 8) pe_bl rfl)
  (pss_one (ps_expr (pe_bm PySem.F.plainAttrs_list PySem.F.slot_list_append PySem.F.type_list_append mt_append (pv 5) (pa_cons (pv 8) pa_nil))))) pss_nil))))))
  (pss_one (ps_expr (pe_bm PySem.F.plainAttrs_list PySem.F.slot_list_append PySem.F.type_list_append mt_append (pv 2) (pa_cons (pe_callB (call_sortedDI rfl) (by rfl) T.z_sorted (by decide +kernel) (pa_cons (pv 4) pa_nil)) pa_nil)))))))
  (pss_one (ps_ret (pv 2))))), ?_⟩)
  · obtain ⟨R, W, b, hb, a⟩ := h
    exact (Paired.length a.1 :)
  obtain ⟨R, W, b, hb, a⟩ := h
  obtain ⟨hp, q⟩ := a
  have sd := sd_start (N := ["board", "told", "found", "thread", "known", "waiting", "here", "one", "other"]) hp
  try dsimp only [cxOf, Cx.nox]
  have hm := hb.many
  have r5 := hb.R5
  have w5 := hb.W5
  refine q_parEF (Pa := fun v H' => ∃ P : List (Nat × Nat), P.Perm (raw b) ∧ Dp K H' v (lsD (P.map pairK))) (Pg := fun _ p H' => H' p = some (.lst [])) (e1_ansX (ea_one (s := .brd H b) (eb_var sd rfl)) fun vs H1 Q x a => ⟨R, W, b, hb, a.brd x⟩) (fun v H1 x1 _ => en_nil.f.mono fun p H2 _ z => by obtain ⟨xs, e, rfl⟩ := z; exact e) fun v l H1 H2 x1 pv hl x2 el => ?_
  obtain ⟨P, hP, dv⟩ := pv
  have sd1 := ((sd.ex (x1.trans x2)).set (i := 1) (s := .old H1 (lsD (P.map pairK))) ⟨v, rfl, dv⟩).set (i := 2) (o := some (.ref l)) (s := .val (.ref l)) rfl
  refine q_of (s_forR (n := R + W) (e1_len hb (eb_var sd1 rfl) (x1.trans x2)) (by omega) fun H3 x3 => ⟨fun i σ' H' => SD K CB H' σ' [.brd H b, .old H1 (lsD (P.map pairK)), .val (.ref l), .un, .un, .un, .un, .un, .un] ∧ Ex H1 H' ∧ ∃ xs, H' l = some (.lst xs) ∧ Paired (ItemL b l H') xs (List.range i), ⟨sd1.ex x3, x2.trans x3, [], x3 _ _ el, .nil⟩, fun i σ' H' hi p => ?_, fun σ' H' p => ?_⟩)
  · obtain ⟨s1, xh, xs, hxs, hps⟩ := p
    have s2 := s1.set (i := 3) (o := some (.int (i : Int))) (s := .dat (numK i)) ⟨_, rfl, .int _⟩
    refine q_parFF (Pf := fun p H2 => H2 p = some (.dK (setD [i]))) (Pg := fun _ r H2 => ∃ xs, H2 r = some (.lst xs) ∧ Paired (VOk K CB H2) xs [.dat (numK i)]) (ef_disp (n := (i : Int)) (y := .bl true) (ek_var s2 rfl) ev_c) (fun p Ha hp xa ea => EvN.f (en_lst (ea_one (s := .dat (numK i)) (ek_var (s2.ex xa) rfl)) (by simp))) fun d w Ha Hb hd xa ea hw xb pw => ?_
    obtain ⟨ys, ew, pw⟩ := pw
    have eys : ys = intsV [i] := by
      cases pw with
      | cons h t => cases t; rw [dp_int h]; rfl
    have wfr : H' w = none := fresh_back xa hw
    have dw : d ≠ w := fun z => by subst z; rw [ea] at hw; cases hw
    have ld : l ≠ d := fun z => by subst z; rw [hxs] at hd; cases hd
    have lw : l ≠ w := fun z => by subst z; rw [hxs] at wfr; cases wfr
    have s3 := ((s2.ex (xa.trans xb)).set (i := 4) (o := some (.ref d)) (s := .val (.ref d)) rfl).set (i := 5) (o := some (.ref w)) (s := .val (.ref w)) rfl
    refine q_of (Evl.s_while (fun m σ'' H'' => ∃ Kn ws, SD K CB H'' σ'' [.brd H b, .old H1 (lsD (P.map pairK)), .val (.ref l), .dat (numK i), .val (.ref d), .val (.ref w), .un, .un, .un] ∧ Ex H' H'' ∧ H'' d = some (.dK (setD Kn)) ∧ H'' w = some (.lst (intsV ws)) ∧ BF b i Kn ws ∧ m = 2 * (many b - Kn.length) + ws.length ∧ m ≤ 100) _ ⟨[i], [i], s3, xa.trans xb, xb _ _ ea, eys ▸ ew, bf_start (by omega), rfl, by simp; omega⟩ fun m σ'' H'' hw => ?_)
    obtain ⟨Kn, ws, s4, x4, ed, ew, bf, em, m100⟩ := hw
    refine ⟨!ws.isEmpty, ?_, fun hne H5 x5 => ?_, fun hne H5 x5 => ?_⟩
    · refine Evl.et_is (et_test (eb_neD (d := .list (intsD ws)) (d' := .list []) ((ev_var s4 rfl).mono fun v H5 x5 e => by subst e; exact .lst (SqL.of (x5 _ _ ew)) (dp_ints ws)) e1_nil ((shp_ints ws).ok (by omega)) (shp_nil.ok (by omega)))) ?_
      rw [eqv_lnil, intsD_empty]
    · obtain ⟨ws', here, rfl⟩ : ∃ ws' here, ws = ws' ++ [here] := ⟨ws.dropLast, ws.getLast (by intro z; rw [z] at hne; cases hne), (List.dropLast_concat_getLast _).symm⟩
      refine ⟨_, fun _ _ z => z, ?_⟩
      have ew5 : H5 w = some (.lst (intsV ws' ++ [.int (here : Int)])) := by
        have := x5 _ _ ew
        unfold intsV at this ⊢
        rw [List.map_append] at this; exact this
      refine q_pop (ev_var (s4.ex x5) rfl) ew5 fun H6 x6 => ?_
      have t6 : Ex H' (upd H6 w (.lst (intsV ws'))) := Ex.mut ((x4.trans x5).trans x6) wfr
      have ed6 : (upd H6 w (.lst (intsV ws'))) d = some (.dK (setD Kn)) := by rw [upd_ne dw]; exact x6 _ _ (x5 _ _ ed)
      have s5 := ((s4.ex (x5.trans x6)).tx (tx_lst (o := .lst (intsV ws')) (x6 _ _ ew5))).set (i := 6) (o := some (.int (here : Int))) (s := .dat (numK here)) ⟨_, rfl, .int _⟩
      refine s_forL (ds := NestedKey.datas (P.map pairK)) (eo_var s5 rfl) (xh.trans t6) fun H7 x7 => ⟨fun j σ3 H8 => ∃ Kn2 ws2, SD K CB H8 σ3 [.brd H b, .old H1 (lsD (P.map pairK)), .val (.ref l), .dat (numK i), .val (.ref d), .val (.ref w), .dat (numK here), .un, .un] ∧ Ex H' H8 ∧ H8 d = some (.dK (setD Kn2)) ∧ H8 w = some (.lst (intsV ws2)) ∧ BG b i here P j (2 * (many b - Kn.length) + ws'.length) Kn2 ws2, ⟨Kn, ws', s5.ex x7, t6.trans x7, x7 _ _ ed6, x7 _ _ upd_same, bf_pop bf⟩, fun j σ3 H8 p => ?_, fun j dd σ3 H8 hj p v dv => ?_, fun σ3 H8 p => ?_⟩
      · obtain ⟨_, _, _, x8, _⟩ := p
        exact xh.trans x8
      · obtain ⟨Kn2, ws2, s6, x8, e1, e2, bg⟩ := p
        rw [datas_map, List.getElem?_map, List.getElem?_map] at hj
        cases hp : P[j]? with
        | none => rw [hp] at hj; cases hj
        | some p =>
          rw [hp] at hj
          have hj : (pairK p).data = dd := Option.some.inj hj
          subst hj
          refine g_pair (d1 := .int (p.1 : Int)) (d2 := .int (p.2 : Int)) dv (xh.trans x8) fun x y dx dy => ?_
          have dx := dp_int dx
          have dy := dp_int dy
          subst dx dy
          have s7 := (s6.set (i := 7) (o := some (.int (p.1 : Int))) (s := .dat (numK p.1)) ⟨_, rfl, .int _⟩).set (i := 8) (o := some (.int (p.2 : Int))) (s := .dat (numK p.2)) ⟨_, rfl, .int _⟩
          refine s_if (c := decide (p.1 = here) && decide (p.2 ∉ Kn2)) (Evl.et_is (Evl.et_and (et_test (eb_eqI (ek_var s7 rfl) (ek_var s7 rfl))) fun _ => et_B (eb_dnotin (ek_var s7 rfl) (ev_var s7 rfl) e1)) ?_) (fun hc H9 x9 => ?_) fun hc H9 x9 => ?_
          · rw [setD_has]; simp [Int.natCast_inj]
          · rw [Bool.and_eq_true, decide_eq_true_eq, decide_eq_true_eq] at hc
            have hp' : P[j]? = some (here, p.2) := by rw [hp, ← hc.1]
            have bg2 := bg_add hb.r hb.R1 hP bg hp' hc.2
            have ll := bg2.len
            rw [List.length_append, List.length_singleton] at ll
            have me := bg2.me
            rw [List.length_append, List.length_append, List.length_singleton] at me
            rw [List.length_append, List.length_singleton] at em
            have s8 := s7.ex x9
            have lK : (setD Kn2).length = Kn2.length := by unfold setD; rw [List.length_map]
            refine q_dput (n := (p.2 : Int)) (y := .bl true) ev_c (ev_var s8 rfl) (ek_var s8 rfl) (x9 _ _ e1) (by omega) fun Hc xc => ?_
            rw [setD_put hc.2]
            have ec := xc _ _ (x9 _ _ e1)
            have tc : Tx Hc (upd Hc d (.dK (setD (Kn2 ++ [p.2])))) := tx_dK ec
            have s9 := (s8.ex xc).tx tc
            have ewc : (upd Hc d (.dK (setD (Kn2 ++ [p.2])))) w = some (.lst (intsV ws2)) := by rw [upd_ne dw.symm]; exact xc _ _ (x9 _ _ e2)
            have lw2 : (intsV ws2).length = ws2.length := by unfold intsV; rw [List.length_map]
            refine s_app (tx := tVar 0) (ev_var s9 rfl) ewc (EvK.v_int (i := (p.2 : Int)) (ek_var s9 rfl)) (by omega) fun v Hd xd ev => ?_
            subst ev
            have ewd := xd _ _ ewc
            refine ⟨Kn2 ++ [p.2], ws2 ++ [p.2], ((s9.ex xd).tx (tx_lst ewd)).drops [7, 8], Ex.mut ((Ex.mut ((x8.trans x9).trans xc) hd).trans xd) wfr, ?_, ?_, bg2⟩
            · rw [upd_ne dw]; exact xd _ _ upd_same
            · rw [upd_same]; unfold intsV; rw [List.map_append]; rfl
          · have hn : ¬ (p.1 = here ∧ p.2 ∉ Kn2) := fun z => by
              rw [decide_eq_true z.1, decide_eq_true z.2] at hc; cases hc
            exact ⟨Kn2, ws2, (s7.ex x9).drops [7, 8], x8.trans x9, x9 _ _ e1, x9 _ _ e2, bg_stay bg hp hn⟩
      · obtain ⟨Kn2, ws2, s6, x8, e1, e2, bg⟩ := p
        rw [datas_len, List.length_map] at bg
        refine ⟨_, ?_, Kn2, ws2, s6.drops [6], x8, e1, e2, bg_end hP bg, rfl, ?_⟩
        · have := bg.me
          rw [em, List.length_append, List.length_singleton]
          omega
        · have := bg.me
          rw [List.length_append, List.length_singleton] at em
          omega
    · have e0 : ws = [] := by
        cases ws with
        | nil => rfl
        | cons a r => cases hne
      subst e0
      have s5 := s4.ex x5
      have el5 := (x4.trans x5) _ _ hxs
      have lK := bf.len
      refine s_app (tx := tVar 0) (ev_var s5 rfl) el5 ((e1_sortDI (Kn := Kn) (ev_var s5 rfl) (x5 _ _ ed) (by omega)).e1 el5) (by have := Paired.length hps; rw [List.length_range] at this; omega) fun v H6 x6 hv => ?_
      obtain ⟨p, rfl, pl, ns, hpm, hpw, ep⟩ := hv
      have en := sorted_leads hpm hpw bf.nd (bf_done bf)
      have e6 := x6 _ _ el5
      refine ⟨((s5.ex x6).tx (tx_lst e6)).drops [3, 4, 5], Ex.mut (((xh.trans x4).trans x5).trans x6) hl, _, upd_same, ?_⟩
      rw [List.range_succ]
      refine Paired.snoc (Paired.mapP hps fun _ _ z => z.go ((x4.trans x5).trans x6)) ⟨p, rfl, pl, ?_⟩
      rw [upd_ne pl, ep, en, List.map_map]; rfl
  · obtain ⟨s1, xh, xs, hxs, hps⟩ := p
    refine s_ret ((ev_var s1 rfl).mono (P' := fun v H2 => Dp K H2 v (leadsD b)) fun v H2 x2 e => ?_) fun v H2 x2 dv => q v H2 ((x1.trans xh).trans x2) dv
    subst e
    unfold leadsD
    rw [hm]
    exact .lst (SqL.of (x2 _ _ hxs)) (items_dp (Paired.mapP hps fun _ _ z => z.ex x2))
end Wx
end
section
set_option Elab.async false
set_option linter.all false
set_option maxRecDepth 100000
set_option maxHeartbeats 4000000
namespace Wx
open PySem PySem.Spec PyProof.Rows L2 Wv
open Evl (Ex ex_rd ex_l ex_t sq_of st_of fresh_back)
/-! ### all_parts, holds -/
theorem inV_ints (n : Nat) : ∀ l : List Nat, inV (.int (n : Int)) (intsV l) = decide (n ∈ l)
  | [] => rfl
  | a :: r => by
    have ih := inV_ints n r
    unfold inV intsV at ih ⊢
    rw [List.map_cons, List.any_cons, ih]
    have e : eqV (.int (a : Int)) (.int (n : Int)) = decide (n = a) := by
      show ((a : Int) == (n : Int)) = _
      by_cases h : n = a
      · subst h; simp
      · rw [decide_eq_false h]
        exact beq_eq_false_iff_ne.mpr fun z => h (by omega)
    rw [e]; simp
theorem flat_ints : ∀ l : List Nat, (intsV l).all flatV = true
  | [] => rfl
  | a :: r => by
    have ih := flat_ints r
    unfold intsV at ih ⊢
    rw [List.map_cons, List.all_cons, ih]; rfl
theorem filt_get {α : Type} (l : List α) (d : α) (p : α → Bool) : ((List.range l.length).filter fun m => p (l.getD m d)).map (fun m => l.getD m d) = l.filter p := by
  have key : ∀ (r : List α), ((List.range r.length).filter fun m => p (r.getD m d)).map (fun m => r.getD m d) = r.filter p := by
    intro r
    induction r with
    | nil => rfl
    | cons a r ih =>
      rw [List.length_cons, List.range_succ_eq_map, List.filter_cons, List.filter_cons]
      have e : ((List.map Nat.succ (List.range r.length)).filter fun m => p ((a :: r).getD m d)).map (fun m => (a :: r).getD m d) = r.filter p := by
        rw [List.filter_map, List.map_map, ← ih]; rfl
      show (if p a = true then _ else _ : List Nat).map _ = _
      split
      · rw [List.map_cons, e]; rfl
      · exact e
  exact key l
section
variable {K : PySem.W.Frag} {C : Addr} {H H' H0 : Hp} {σ : St} {e as : List Sl} {ta tb tc te tl tk tv td ty : TE} {P : V → Hp → Prop} {v y : V}
theorem eb_inL {l : List Nat} {n : Nat} (ha : EvK K ta σ H (numK n)) (hb : Ev1 tb σ H fun v _ => Dp K H0 v (.list (intsD l))) (hx : Ex H0 H) : EvV (tOp (rIn K false) ta tb) σ H (.bl (decide (n ∈ l))) := fun H1 x Q q =>
  ha H1 x _ fun a H2 x2 pa => hb H2 (x.trans x2) _ fun b H3 x3 pb => by
    have ea := dp_int pa
    subst ea
    cases pb with
    | @lst p xs _ hs hd =>
      have := ints_dp hd
      subst this
      exact ⟨p, _, rfl, .inl (ex_l (((hx.trans x).trans x2).trans x3) hs), rfl, flat_ints l, q _ H3 (x2.trans x3) (by rw [← inV_ints]; rfl)⟩
theorem e1_sortN {w : World} {d : Addr} {kvs : List (NK × V)} (h : EvV te σ H (.ref d)) (dn : DN w K H d kvs) (cs : CanSort (kvs.map (·.1))) : Ev1 (tCB (rSortedN w K) (tCons te tNil)) σ H fun v H2 => ∃ p xs, v = .ref p ∧ SqL K H2 p xs ∧ xs.length = kvs.length := fun H1 x1 Q q => h H1 x1 _ fun v H2 x2 ev => by
  subst ev
  exact ⟨d, kvs, rfl, DN.ex (x1.trans x2) dn, cs, fun p ys ks' hl hp hdp => q _ _ (x2.trans (Ex.new hp)) ⟨p, ys, rfl, SqL.of upd_same, by rw [dpAll_len hdp, datas_len, hl]⟩⟩
theorem e1_lenN {Pn : Nat → Prop} (h : Ev1 te σ H fun v H2 => ∃ p xs, v = .ref p ∧ SqL K H2 p xs ∧ Pn xs.length) : Ev1 (tCB (fun xs H Q => ∃ p ys, xs = [.ref p] ∧ (SqL K H p ys ∨ SqT K H p ys) ∧ Q (.int ys.length) H) (tCons te tNil)) σ H fun v _ => ∃ n : Nat, v = .int n ∧ Pn n := fun H1 x1 Q q => h H1 x1 _ fun v H2 x2 ⟨p, xs, ev, hs, hn⟩ => by
  subst ev
  exact ⟨p, xs, rfl, .inl hs, q _ H2 x2 ⟨_, rfl, hn⟩⟩
theorem eb_len1 {Pn : Prop} [Decidable Pn] (h : Ev1 te σ H fun v _ => ∃ n : Nat, v = .int n ∧ (n = 1 ↔ Pn)) : EvV (tOp rEq te (tC (.int 1))) σ H (.bl (decide Pn)) :=
  e1_op h (ev_c (v := .int 1)) fun x y H1 H2 _ x2 p p2 Q q => by
    obtain ⟨n, rfl, hn⟩ := p
    subst p2
    refine ⟨rfl, q _ H2 (Ex.refl _) ?_⟩
    congr 1
    by_cases h : Pn
    · rw [decide_eq_true h, hn.mpr h]; rfl
    · rw [decide_eq_false h]
      refine decide_eq_false fun z => h (hn.mp ?_)
      have := V.int.inj z
      omega
end
theorem nums_inj {a b : List Nat} (h : numsK a = numsK b) : a = b := by
  have h := NestedKey.tup.inj h
  induction a generalizing b with
  | nil =>
    cases b with
    | nil => rfl
    | cons x r => cases h
  | cons x r ih =>
    cases b with
    | nil => cases h
    | cons y s =>
      rw [List.map_cons, List.map_cons] at h
      have h1 := (List.cons.inj h).1
      have h2 := (List.cons.inj h).2
      rw [ih (congrArg NestedKey.tup h2) h2]
      have := NestedKey.num.inj h1
      rw [show x = y by omega]
def keysV (KL : List (List Nat)) : List (NK × V) := KL.map fun k => (numsK k, V.bl true)
theorem keysV_get (k : List Nat) : ∀ KL : List (List Nat), valV (keysV KL) (numsK k) = if k ∈ KL then some (.bl true) else none
  | [] => rfl
  | a :: r => by
    unfold keysV
    rw [List.map_cons]
    by_cases h : a = k
    · subst h
      rw [valV_pos rfl]; simp
    · rw [valV_neg (fun z => h (nums_inj z))]
      have := keysV_get k r
      unfold keysV at this
      rw [this]
      have : ¬ k = a := fun z => h z.symm
      simp [this]
theorem keysV_put (k : List Nat) (KL : List (List Nat)) : putK (keysV KL) (numsK k) (V.bl true) = keysV (if k ∈ KL then KL else KL ++ [k]) := by
  have e := keysV_get k KL
  split
  · next h =>
    rw [if_pos h] at e
    unfold putK
    rw [valV_any, e]
    show (if true = true then _ else _) = _
    rw [if_pos rfl]
    unfold keysV
    rw [List.map_map]
    refine List.map_congr_left fun a _ => ?_
    show (if _ then _ else _) = _
    split <;> rfl
  · next h =>
    rw [if_neg h] at e
    rw [putK_new _ e]
    unfold keysV
    rw [List.map_append]; rfl
theorem depth_nums (l : List Nat) : (numsK l).depth ≤ 8 := by
  have : NestedKey.depthAll (l.map numK) = 0 := by
    induction l with
    | nil => rfl
    | cons a b ih => rw [List.map_cons, NestedKey.depthAll, ih]; rfl
  unfold numsK NestedKey.depth
  omega
theorem data_nums (l : List Nat) : (numsK l).data = .tuple (intsD l) := by
  unfold numsK NestedKey.data
  rw [datas_nums]
theorem alike_ints : ∀ a b : List Nat, PySem.W.alikeAll (intsD a) (intsD b) = true
  | [], _ => by unfold intsD; rw [List.map_nil]; unfold PySem.W.alikeAll; rfl
  | _ :: _, [] => rfl
  | x :: a, y :: b => by
    show (PySem.W.alike (.int x) (.int y) && PySem.W.alikeAll (intsD a) (intsD b)) = true
    rw [alike_ints a b]; rfl
theorem canSort_nums {KL : List (List Nat)} (h : ∀ k ∈ KL, k ≠ []) : CanSort (KL.map numsK) := by
  refine ⟨fun d hd d' hd' => ?_, fun k hk => ?_, fun k hk => ?_⟩
  · rw [List.map_map] at hd hd'
    obtain ⟨a, _, rfl⟩ := List.mem_map.mp hd
    obtain ⟨c, _, rfl⟩ := List.mem_map.mp hd'
    show PySem.W.alike (numsK a).data (numsK c).data = true
    rw [data_nums, data_nums]
    exact alike_ints a c
  · obtain ⟨a, ha, rfl⟩ := List.mem_map.mp hk
    rw [data_nums]
    cases a with
    | nil => exact absurd rfl (h _ ha)
    | cons x r => exact ⟨_, _, rfl⟩
  · obtain ⟨a, _, rfl⟩ := List.mem_map.mp hk
    exact depth_nums a
theorem part_self {b : Brd} {s : Nat} (h : s < many b) : Wv.part b s ≠ [] := fun z => by
  have := (mem_part h (t := s)).mpr ⟨h, .refl, .refl⟩
  rw [z] at this; cases this
def spParts (K : PySem.W.Frag) (C : Addr) : Sp := fun vs H Q _ => ∃ R W b, Brd5 R W b ∧ Ans K C [.brd H b] (fun v H' => ∃ p xs, v = .ref p ∧ SqL K H' p xs ∧ (xs.length = 1 ↔ Holds b)) vs H Q
theorem ok_all_parts {P : Program} {w : World} {K : PySem.W.Frag} {mg : Str → Option Value} {base : Heap} {CB CF AF : Addr} (kn : Kn K mg "all_parts" s_all_parts) (T : TX K mg CB CF AF) (c_leads_of : Cal P w K mg base 3 "leads_of" ["board"] (spLeads K CB)) : Cal P w K mg base 4 "all_parts" ["board"] (spParts K CB) := by
  have nd := sc_all_parts.nd
  refine Cal.mk kn sc_all_parts (fun _ _ _ _ _ _ us hl => match us, hl with | [_], _ => rfl) (fun vs H Q E h => ?_) (fun f cdv A outer s H vs Q E hr h => ⟨_, (pss_cons (ps_asg (pe_tup (pa_cons (c_leads_of.pe (hr.mono (by omega)) (by rfl) (pa_cons (pv 0) pa_nil)) (pa_cons pe_newN pa_nil))) (pg_tup (by rfl) (pgs_cons (pg_name (i := 1) nd rfl (by first | exact Or.inl rfl | exact Or.inr rfl)) (pgs_cons (pg_name (i := 2) nd rfl (by first | exact Or.inl rfl | exact Or.inr rfl)) pgs_nil))))
  (pss_cons (ps_for PassesOwn.never (by rfl) (pi_enum (by rfl) T.z_enumerate (pa_cons (pv 1) pa_nil)) (pg_tup (by rfl) (pgs_cons (pg_name (i := 3) nd rfl (by first | exact Or.inl rfl | exact Or.inr rfl)) (pgs_cons (pg_name (i := 4) nd rfl (by first | exact Or.inl rfl | exact Or.inr rfl)) pgs_nil)))
  (pss_one (ps_asg pe_bl (pg_sub (pv 2) (pe_callTy call_tuple_of (by rfl) T.z_tuple (by decide +kernel) (pa_cons (pe_lc (own := [("other", 5)]) (by rfl) nd (pi_list (pv 4)) (blkOk_by (own := [("other", 5)]) (N := ["board", "told", "found", "thread", "goals", "other"]) (sc := defScope s_all_parts) (by decide +kernel)) (fun _ _ _ _ _ => (pg_name (i := 5) nd rfl (by first | exact Or.inl rfl | exact Or.inr rfl))) (fun _ _ _ _ _ => pts_one (pt_cmpR (op_inK (K := K) rfl) (pv 3) (pe_ix (ix_listK (K := K) rfl) (pv 1) (pv 5) (fun _ _ => rfl)) (by with_unfolding_all rfl))) (fun _ _ _ _ _ => (pv 5))) pa_nil)) (set_N hr.units)))))
  (pss_one (ps_ret (pe_callB (call_sortedN rfl hr.units) (by rfl) T.z_sorted (by decide +kernel) (pa_cons (pv 2) pa_nil)))))), ?_⟩)
  · obtain ⟨R, W, b, hb, a⟩ := h
    exact (Paired.length a.1 :)
  obtain ⟨R, W, b, hb, a⟩ := h
  obtain ⟨hp, q⟩ := a
  have sd := sd_start (N := ["board", "told", "found", "thread", "goals", "other"]) hp
  try dsimp only [cxOf, Cx.nox]
  have hm := hb.many
  have r5 := hb.R5
  have w5 := hb.W5
  refine q_of ((e1_ansX (P := fun v H' => Dp K H' v (leadsD b)) (ea_one (s := .brd H b) (eb_var sd rfl)) fun vs H1 Q x a => ⟨R, W, b, hb, a.brd x⟩) H (Ex.refl _) _ fun v H1 x1 dv => (ef_newN (w := w) (σ := start _ vs) (H := H1)) H1 (Ex.refl _) _ fun d H2 hd x2 dn => ⟨by show 2 ≤ sizeLine; decide, fun T' hT => g_new hT ?_⟩)
  have x3 : Ex H2 (upd H2 T' (.tup [v, .ref d])) := Ex.new hT
  have sd1 := ((sd.ex ((x1.trans x2).trans x3)).set (i := 1) (s := .old H1 (leadsD b)) ⟨v, rfl, dv⟩).set (i := 2) (o := some (.ref d)) (s := .val (.ref d)) rfl
  refine q_of (s_forEL (ds := (List.range (many b)).map fun i => .list (intsD (leads b i))) (eo_var sd1 rfl) (x2.trans x3) fun H4 x4 => ⟨fun i σ' H' => SD K CB H' σ' [.brd H b, .old H1 (leadsD b), .val (.ref d), .un, .un, .un] ∧ Ex H1 H' ∧ ∃ KL, DN w K H' d (keysV KL) ∧ KL.Nodup ∧ KL.length ≤ i ∧ ∀ k, k ∈ KL ↔ ∃ s, s < i ∧ k = Wv.part b s, ⟨sd1.ex x4, (x2.trans x3).trans x4, [], DN.ex (x3.trans x4) dn, List.nodup_nil, Nat.le_refl _, fun k => ?_⟩, fun i σ' H' p => p.2.1, fun i dd σ' H' hi p u H5 x5 du => ?_, fun σ' H' p => ?_⟩)
  · simp
  · obtain ⟨s1, xh, KL, dn1, nd1, ln1, mem1⟩ := p
    rw [List.getElem?_map] at hi
    have hiL : i < many b := by
      apply Classical.byContradiction
      intro c
      rw [List.getElem?_eq_none (by simpa using Nat.le_of_not_lt c)] at hi; cases hi
    rw [List.getElem?_eq_getElem (by simpa using hiL), List.getElem_range] at hi
    have hi : PyData.list (intsD (leads b i)) = dd := Option.some.inj hi
    subst hi
    have s2 := ((s1.ex x5).set (i := 3) (o := some (.int (i : Int))) (s := .dat (numK i)) ⟨_, rfl, .int _⟩).set (i := 4) (s := .old H1 (.list (intsD (leads b i)))) ⟨u, rfl, du⟩
    have xh5 := xh.trans x5
    have gl := leads_len b i
    refine s_putN (w := w) (ks := (Wv.part b i).map numK) (kvs := keysV KL) (P := fun v _ => v = .bl true) ev_c (fun H6 x6 => ev_var (s2.ex x6) rfl) ?_ (fun v H6 x6 _ => DN.ex (x5.trans x6) dn1) (depth_nums _) (by unfold keysV; rw [List.length_map]; omega) fun v H6 H7 H8 x6 ev x7 hu dn8 t8 => ?_
    · refine EvK.is (ek_tupL (ks := (((List.range (intsD (leads b i)).length).filter fun m => decide (i ∈ leads b ((leads b i).getD m 0)))).map fun m => numK ((leads b i).getD m 0)) ((en_lcL (ds := intsD (leads b i)) (fun m => decide (i ∈ leads b ((leads b i).getD m 0))) (fun m y H => Dp K H y (numK ((leads b i).getD m 0)).data) s2 ((eo_var s2 rfl).mono fun v H6 x6 z => Dp.ex (xh5.trans x6) _ _ z) (by rw [intsD_len]; omega) (by simp) (fun i y H H' t z => Dp.tx t _ _ z) fun m dd σ2 H6 H7 hm' x6 x7 sd2 => ?_).mono fun xs H6 _ pr => paired_dats pr)) ?_
      · unfold intsD at hm'
        rw [List.getElem?_map] at hm'
        cases em : (leads b i)[m]? with
        | none => rw [em] at hm'; cases hm'
        | some n =>
          rw [em] at hm'
          have hm' : PyData.int (n : Int) = dd := Option.some.inj hm'
          subst hm'
          have eg : (leads b i).getD m 0 = n := by rw [List.getD_eq_getElem?_getD, em]; rfl
          rw [eg]
          have kn : EvK K (tVar 5) σ2 H7 (numK n) := (eo_var sd2 rfl).mono fun v H _ z => by
            have z : Dp K H6 v (.int (n : Int)) := z
            cases z; exact .int _
          have hn : n < many b := (mem_leads.mp (List.mem_of_getElem? em)).1
          refine ⟨et_test (eb_inL (ek_var sd2 rfl) (e1_ixL (ds := (List.range (many b)).map fun i => .list (intsD (leads b i))) (d := .list (intsD (leads b n))) (eo_var sd2 rfl) ((xh5.trans x6).trans x7) kn ?_) ((xh5.trans x6).trans x7)), fun _ => kn⟩
          rw [List.getElem?_map, List.getElem?_eq_getElem (by simpa using hn), List.getElem_range]; rfl
      · rw [intsD_len]
        have := filt_get (leads b i) 0 (fun t => decide (i ∈ leads b t))
        have e2 : (Wv.part b i).map numK = ((((List.range (leads b i).length).filter fun m => decide (i ∈ leads b ((leads b i).getD m 0)))).map fun m => (leads b i).getD m 0).map numK := by rw [this]; rfl
        rw [e2, List.map_map]; rfl
    · subst ev
      obtain ⟨o, rfl⟩ := hu
      have e8 : putK (keysV KL) (.tup ((Wv.part b i).map numK)) (V.bl true) = keysV (if Wv.part b i ∈ KL then KL else KL ++ [Wv.part b i]) := keysV_put (Wv.part b i) KL
      rw [e8] at dn8
      refine ⟨(((s2.ex (x6.trans x7)).tx t8).drops [3, 4]), Ex.mut ((xh5.trans x6).trans x7) hd, _, dn8, ?_, ?_, fun k => ?_⟩
      · split
        · exact nd1
        · next h => exact nodup_snoc nd1 h
      · split
        · omega
        · rw [List.length_append]; simp; omega
      · have e1 : (k ∈ if Wv.part b i ∈ KL then KL else KL ++ [Wv.part b i]) ↔ k ∈ KL ∨ k = Wv.part b i := by
          split
          · next h => exact ⟨.inl, fun z => z.elim id fun z => z ▸ h⟩
          · simp
        rw [e1, mem1]
        constructor
        · rintro (⟨s, hs, rfl⟩ | rfl)
          · exact ⟨s, by omega, rfl⟩
          · exact ⟨i, by omega, rfl⟩
        · rintro ⟨s, hs, rfl⟩
          by_cases h : s = i
          · subst h; exact .inr rfl
          · exact .inl ⟨s, by omega, rfl⟩
  · obtain ⟨s1, xh, KL, dn1, nd1, ln1, mem1⟩ := p
    rw [List.length_map, List.length_range] at ln1 mem1
    have hk : (keysV KL).map (·.1) = KL.map numsK := by unfold keysV; rw [List.map_map]; rfl
    refine s_ret (e1_sortN (ev_var s1 rfl) dn1 ?_) fun v H5 x5 hv => q v H5 ((x1.trans xh).trans x5) ?_
    · rw [hk]
      refine canSort_nums fun k hk => ?_
      obtain ⟨s, hs, rfl⟩ := (mem1 k).mp hk
      exact part_self hs
    · obtain ⟨p, ys, e, hs, e1⟩ := hv
      refine ⟨p, ys, e, hs, ?_⟩
      have e2 : ys.length = KL.length := by rw [e1]; unfold keysV; rw [List.length_map]
      rw [e2]
      exact holds_iff_parts (by rw [hm]; have := hb.R1; omega) nd1 mem1
noncomputable def holdB (b : Brd) : Bool := decide (Holds b)
def spHolds (K : PySem.W.Frag) (C : Addr) : Sp := fun vs H Q _ => ∃ R W b, Brd5 R W b ∧ Ans K C [.brd H b] (fun v _ => v = .bl (decide (Holds b))) vs H Q
theorem ok_holds {P : Program} {w : World} {K : PySem.W.Frag} {mg : Str → Option Value} {base : Heap} {CB CF AF : Addr} (kn : Kn K mg "holds" s_holds) (T : TX K mg CB CF AF) (c_need_board : Cal P w K mg base 1 "need_board" ["board"] (spNeed K CB)) (c_all_parts : Cal P w K mg base 4 "all_parts" ["board"] (spParts K CB)) : Cal P w K mg base 5 "holds" ["board"] (spHolds K CB) := by
  have nd := sc_holds.nd
  refine Cal.mk kn sc_holds (fun _ _ _ _ _ _ us hl => match us, hl with | [_], _ => rfl) (fun vs H Q E h => ?_) (fun f cdv A outer s H vs Q E hr h => ⟨_, (pss_cons (ps_expr (c_need_board.pe (hr.mono (by omega)) (by rfl) (pa_cons (pv 0) pa_nil)))
  (pss_one (ps_ret (pe_cmpR op_eq (pe_callB call_len_seq (by rfl) T.z_len PySem.boot_len (pa_cons (c_all_parts.pe (hr.mono (by omega)) (by rfl) (pa_cons (pv 0) pa_nil)) pa_nil)) pe_int (nomark _))))), ?_⟩)
  · obtain ⟨R, W, b, hb, a⟩ := h
    exact (Paired.length a.1 :)
  obtain ⟨R, W, b, hb, a⟩ := h
  obtain ⟨hp, q⟩ := a
  have sd := sd_start (N := ["board"]) hp
  try dsimp only [cxOf, Cx.nox]
  refine q_of (s_drop (e1_ansX (P := fun v _ => v = .non) (ea_one (s := .brd H b) (eb_var sd rfl)) fun vs H1 Q x a => ⟨b, a.brd x⟩) fun v H1 x1 _ => ?_)
  have sd1 := sd.ex x1
  exact s_ret (eb_len1 (e1_lenN (Pn := fun n => n = 1 ↔ Holds b) (e1_ansX (P := fun v H' => ∃ p xs, v = .ref p ∧ SqL K H' p xs ∧ (xs.length = 1 ↔ Holds b)) (ea_one (s := .brd H b) (eb_var sd1 rfl)) fun vs H1 Q x a => ⟨R, W, b, hb, a.brd (x1.trans x)⟩))) fun v H2 x2 e => q v H2 (x1.trans x2) e
end Wx
end
section
set_option Elab.async false
set_option linter.all false
set_option maxRecDepth 100000
set_option maxHeartbeats 4000000
/-! Dicts by a key of data; shapes of keys. -/
namespace Wx
open PySem PySem.Spec PyProof.Rows L2 Wv
open Evl (Ex ex_rd ex_l ex_t sq_of st_of fresh_back)
theorem shp_txt {l : List Nat} (h : ∀ s ∈ l, s < 1114112) : Shp 0 (txtK l).data := by
  refine ⟨?_, Nat.le_refl 0⟩
  show PyData.strOk (toS l) = true
  unfold PyData.strOk
  rw [← Array.all_toList, toS_cps]
  exact List.all_eq_true.mpr fun s hs => decide_eq_true (h s hs)
theorem sign_lt {s : Nat} (h : isSign s) : s < 1114112 := by unfold isSign at h; omega
theorem shp_tupK {n : Nat} {ks : List NK} (h : ∀ k ∈ ks, Shp n k.data) : Shp (n + 1) (NestedKey.tup ks).data := shp_tup fun d hd => by
  rw [datas_map] at hd
  obtain ⟨k, hk, rfl⟩ := List.mem_map.mp hd
  exact h k hk
theorem shp_lstK {n : Nat} {ks : List NK} (h : ∀ k ∈ ks, Shp n k.data) : Shp (n + 1) (lsD ks) := shp_lst fun d hd => by
  rw [datas_map] at hd
  obtain ⟨k, hk, rfl⟩ := List.mem_map.mp hd
  exact h k hk
theorem shp_nums (l : List Nat) : Shp 1 (numsK l).data := shp_tupK fun k hk => by
  obtain ⟨n, _, rfl⟩ := List.mem_map.mp hk
  exact shp_int _
theorem shp_brd {R W : Nat} {b : Brd} (h : Brd5 R W b) : Shp 1 (brdK b).data := shp_tupK fun k hk => by
  obtain ⟨l, hl, rfl⟩ := List.mem_map.mp hk
  obtain ⟨i, hi, e⟩ := List.getElem_of_mem hl
  refine shp_txt fun s hs => sign_lt (h.signs (i := i) (by rw [← h.len]; exact hi) ?_)
  rw [List.getD_eq_getElem?_getD, List.getElem?_eq_getElem hi, e]; exact hs
theorem shp_nos (n : Nat) : Shp 1 (nosK n).data := shp_tupK fun k hk => by
  rw [List.eq_of_mem_replicate hk]
  exact shp_non
theorem shp_st {R W : Nat} {b0 : Brd} {B : Bld} (g : Gd R W b0 B) (p : Plc) : Shp 2 (stK b0 B p).data := shp_tupK fun k hk => by
  simp only [List.mem_cons, List.not_mem_nil, or_false] at hk
  rcases hk with rfl | rfl | rfl
  · exact shp_brd (g.b5At p)
  · exact shp_nums _
  · exact shp_nos _
theorem depthAll_le {ks : List NK} {n : Nat} (h : ∀ k ∈ ks, k.depth ≤ n) : NestedKey.depthAll ks ≤ n := by
  induction ks with
  | nil => exact Nat.zero_le _
  | cons a b ih =>
    unfold NestedKey.depthAll
    exact Nat.max_le.mpr ⟨h a (by simp), ih fun k hk => h k (by simp [hk])⟩
theorem depth_tup {ks : List NK} {n : Nat} (h : ∀ k ∈ ks, k.depth ≤ n) : (NestedKey.tup ks).depth ≤ n + 1 := by
  have := depthAll_le h
  unfold NestedKey.depth
  omega
theorem depth_nums1 (l : List Nat) : (numsK l).depth ≤ 1 := depth_tup fun k hk => by
  obtain ⟨n, _, rfl⟩ := List.mem_map.mp hk
  exact Nat.le_refl 0
theorem depth_brd1 (b : Brd) : (brdK b).depth ≤ 1 := depth_tup fun k hk => by
  obtain ⟨n, _, rfl⟩ := List.mem_map.mp hk
  exact Nat.le_refl 0
theorem depth_nos1 (n : Nat) : (nosK n).depth ≤ 1 := depth_tup fun k hk => by
  rw [List.eq_of_mem_replicate hk]
  exact Nat.le_refl 0
theorem depth_st (b0 : Brd) (B : Bld) (p : Plc) : (stK b0 B p).depth ≤ 2 := depth_tup fun k hk => by
  simp only [List.mem_cons, List.not_mem_nil, or_false] at hk
  rcases hk with rfl | rfl | rfl
  · exact depth_brd1 _
  · exact depth_nums1 _
  · exact depth_nos1 _
theorem st_inj {b0 : Brd} {B : Bld} {p q : Plc} (h : stK b0 B p = stK b0 B q) : p = q := by
  have h := NestedKey.tup.inj h
  exact nums_inj (List.cons.inj (List.cons.inj h).2).1
/-! ### dicts by keys -/
section
variable {α : Type} [DecidableEq α] (f : α → NK)
def kvF (E : List (α × V)) : List (NK × V) := E.map fun e => (f e.1, e.2)
theorem kvF_len (E : List (α × V)) : (kvF f E).length = E.length := List.length_map _
variable {f} (inj : ∀ a b, f a = f b → a = b)
include inj
theorem kvF_none {a : α} : ∀ {E : List (α × V)}, a ∉ E.map (·.1) → valV (kvF f E) (f a) = none
  | [], _ => rfl
  | e :: E, h => by
    rw [List.map_cons, List.mem_cons, not_or] at h
    unfold kvF
    rw [List.map_cons, valV_neg (fun z => h.1 (inj _ _ z).symm)]
    exact kvF_none h.2
theorem kvF_some {a : α} : ∀ {E : List (α × V)}, a ∈ E.map (·.1) → ∃ v, valV (kvF f E) (f a) = some v ∧ (a, v) ∈ E
  | e :: E, h => by
    by_cases c : e.1 = a
    · subst c
      exact ⟨e.2, by unfold kvF; rw [List.map_cons, valV_pos rfl], List.mem_cons_self⟩
    · rw [List.map_cons, List.mem_cons] at h
      obtain ⟨v, h1, h2⟩ := kvF_some (h.resolve_left fun z => c z.symm)
      refine ⟨v, ?_, List.mem_cons_of_mem _ h2⟩
      unfold kvF
      rw [List.map_cons, valV_neg (fun z => c (inj _ _ z))]
      exact h1
theorem kvF_has (a : α) (E : List (α × V)) : (valV (kvF f E) (f a)).isSome = decide (a ∈ E.map (·.1)) := by
  by_cases h : a ∈ E.map (·.1)
  · obtain ⟨v, h1, _⟩ := kvF_some inj h
    rw [h1, decide_eq_true h]; rfl
  · rw [kvF_none inj h, decide_eq_false h]; rfl
theorem kvF_new {a : α} {E : List (α × V)} (v : V) (h : a ∉ E.map (·.1)) : putK (kvF f E) (f a) v = kvF f (E ++ [(a, v)]) := by
  rw [putK_new _ (kvF_none inj h)]
  unfold kvF
  rw [List.map_append]; rfl
end
section
variable {K : PySem.W.Frag} {w : World} {H H' : Hp} {d l : Addr} {kvs : List (NK × V)}
theorem DN.ne {xs : List V} (h : DN w K H d kvs) (e : H l = some (.lst xs)) : l ≠ d := fun z => by
  subst z
  obtain ⟨es, ep, h1, _⟩ := h
  rw [h1] at e; cases e
theorem DN.lst {xs ys : List V} (h : DN w K H d kvs) (e : H l = some (.lst xs)) : DN w K (upd H l (.lst ys)) d kvs :=
  h.tx (tx_lst e) fun o z => by rw [upd_ne (h.ne e).symm]; exact z
theorem DN.nn (h : DN w K H d kvs) : H d ≠ none := fun z => by
  obtain ⟨es, ep, h1, _⟩ := h
  rw [h1] at z; cases z
end
end Wx
end
section
set_option Elab.async false
set_option linter.all false
set_option maxRecDepth 100000
set_option maxHeartbeats 4000000
namespace Wx
open PySem PySem.Spec PyProof.Rows L2 Wv
open Evl (Ex ex_rd ex_l ex_t sq_of st_of fresh_back)
/-! ### orders_by -/
/-- the dict of states, each with an order of its length -/
def OD (w : World) (K : PySem.W.Frag) (d : Addr) (b0 : Brd) (B : Bld) (H : Hp) (keys : List Plc) : Prop :=
  ∃ E : List (Plc × V), DN w K H d (kvF (stK b0 B) E) ∧ E.map (·.1) = keys ∧ ∀ e ∈ E, ∃ o : List Nat, o.length = e.1.sum ∧ Dp K H e.2 (numsK o).data
def LS (K : PySem.W.Frag) (b0 : Brd) (B : Bld) (l : Addr) (H : Hp) (acc : List Plc) : Prop := ∃ ys, H l = some (.lst ys) ∧ DpAll K H ys (NestedKey.datas (acc.map (stK b0 B)))
section
variable {w : World} {K : PySem.W.Frag} {d l r : Addr} {b0 : Brd} {B : Bld} {H H' Hs : Hp} {keys acc : List Plc} {xs : List V} {k : Nat}
theorem OD.ex (x : Ex H H') (h : OD w K d b0 B H keys) : OD w K d b0 B H' keys := by
  obtain ⟨E, h1, h2, h3⟩ := h
  refine ⟨E, h1.ex x, h2, fun e he => ?_⟩
  obtain ⟨o, h4, h5⟩ := h3 e he
  exact ⟨o, h4, Dp.ex x _ _ h5⟩
theorem LS.ex (x : Ex H H') (h : LS K b0 B l H acc) : LS K b0 B l H' acc := by
  obtain ⟨ys, h1, h2⟩ := h
  exact ⟨ys, x _ _ h1, DpAll.ex x _ _ h2⟩
structure OI (w : World) (K : PySem.W.Frag) (d l r : Addr) (b0 : Brd) (B : Bld) (xs : List V) (k : Nat) (H Hs : Hp) (acc : List Plc) (H' : Hp) : Prop where
  xh : Ex H H'
  tx : Tx Hs H'
  el : H' l = some (.lst xs)
  er : LS K b0 B r H' acc
  od : OD w K d b0 B H' (keysTo B (k + 1) ++ acc)
  nd : acc.Nodup
  bx : ∀ q ∈ acc, Box B q ∧ q.sum = k + 1
theorem OI.ex {H2 : Hp} (h : OI w K d l r b0 B xs k H Hs acc H') (x : Ex H' H2) : OI w K d l r b0 B xs k H Hs acc H2 :=
  ⟨h.xh.trans x, h.tx.trans (ex_tx x), x _ _ h.el, h.er.ex x, h.od.ex x, h.nd, h.bx⟩
end
def stL (b0 : Brd) (B : Bld) (p : Plc) : List NK := [brdK (cellsAt b0 B p), numsK p, nosK B.length]
theorem depth_stL (b0 : Brd) (B : Bld) (p : Plc) : (NestedKey.tup (stL b0 B p)).depth ≤ 8 := Nat.le_trans (depth_st b0 B p) (by omega)
def spOrders (w : World) (K : PySem.W.Frag) (C : Addr) : Sp := fun vs H Q _ => ∃ R W b0 B, Gd R W b0 B ∧ Ans K C [.brd H b0, .dat (bldK B)] (fun v H' => ∃ d L, v = .ref d ∧ H d = none ∧ OD w K d b0 B H' L ∧ OrdOk B L) vs H Q
theorem ok_orders_by {P : Program} {w : World} {K : PySem.W.Frag} {mg : Str → Option Value} {base : Heap} {CB CF AF : Addr} (kn : Kn K mg "orders_by" s_orders_by) (T : TX K mg CB CF AF) (c_first_state : Cal P w K mg base 3 "first_state" ["board", "builders"] (spFirst K CB)) (c_deed_done : Cal P w K mg base 3 "deed_done" ["builders", "state", "builder"] (spDone K CB)) : Cal P w K mg base 4 "orders_by" ["board", "builders"] (spOrders w K CB) := by
  have nd := sc_orders_by.nd
  refine Cal.mk kn sc_orders_by (fun _ _ _ _ _ _ us hl => match us, hl with | [_, _], _ => rfl) (fun vs H Q E h => ?_) (fun f cdv A outer s H vs Q E hr h => ⟨_, (pss_cons (ps_set (i := 2) nd rfl (by first | exact Or.inl rfl | exact Or.inr rfl) (c_first_state.pe (hr.mono (by omega)) (by rfl) (pa_cons (pv 0) (pa_cons (pv 1) pa_nil))))
  (pss_cons (ps_par (i := 3) (j := 4) (by rfl) nd rfl rfl (by decide) rfl rfl (pa_cons (pe_dispN hr.units (pv 2) (pe_tup pa_nil)) (pa_cons (pe_lst (pa_cons (pv 2) pa_nil)) pa_nil)) (by rfl))
  (pss_cons (ps_while PassesOwn.never (pt_cmpR (op_neD hr.units) (pv 4) (pe_lst pa_nil) (nomark _))
  (pss_cons (ps_set (i := 5) nd rfl (by first | exact Or.inl rfl | exact Or.inr rfl) (pe_lst pa_nil))
  (pss_cons (ps_for PassesOwn.never (by rfl) (pi_list (pv 4)) (pg_name (i := 6) nd rfl (by first | exact Or.inl rfl | exact Or.inr rfl))
  (pss_one (ps_for PassesOwn.never (by rfl) (pi_range1 (by rfl) T.z_range (pa_cons (pe_callB call_len_seq (by rfl) T.z_len PySem.boot_len (pa_cons (pv 1) pa_nil)) pa_nil)) (pg_name (i := 7) nd rfl (by first | exact Or.inl rfl | exact Or.inr rfl))
  (pss_cons (ps_set (i := 8) nd rfl (by first | exact Or.inl rfl | exact Or.inr rfl) (c_deed_done.pe (hr.mono (by omega)) (by rfl) (pa_cons (pv 1) (pa_cons (pv 6) (pa_cons (pv 7) pa_nil)))))
  (pss_one (ps_if (PW.pt (pw_and (pt_cmpR op_notN (pv 8) pe_non (nomark _)) (pw_and1 (pt_cmpR (op_notInN hr.units) (pv 8) (pv 3) (by with_unfolding_all rfl))))) (pss_cons (ps_asg (pe_op op_catA (pe_ixN hr.units (pv 3) (pv 6) (fun _ _ => rfl)) (pe_tup (pa_cons (pv 7) pa_nil))) (pg_sub (pv 3) (pv 8) (set_N hr.units)))
  (pss_one (ps_expr (pe_bm PySem.F.plainAttrs_list PySem.F.slot_list_append PySem.F.type_list_append mt_append (pv 5) (pa_cons (pv 8) pa_nil))))) pss_nil))))))
  (pss_one (ps_set (i := 4) nd rfl (by first | exact Or.inl rfl | exact Or.inr rfl) (pv 5))))))
  (pss_one (ps_ret (pv 3)))))), ?_⟩)
  · obtain ⟨R, W, b0, B, g, a⟩ := h
    exact (Paired.length a.1 :)
  obtain ⟨R, W, b0, B, g, a⟩ := h
  obtain ⟨hp, q⟩ := a
  have sd := sd_start (N := ["board", "builders", "begin", "found", "layer", "later", "state", "builder", "there"]) hp
  try dsimp only [cxOf, Cx.nox]
  have m2 := g.few.most
  have hlB : (B.map dsK).length = B.length := List.length_map _
  refine q_set (s := .dat (stK b0 B (zero B))) sd (e1_ansX (ea_two (s1 := .brd H b0) (s2 := .dat (bldK B)) (eb_var sd rfl) (ek_var sd rfl)) fun vs H1 Q x a => ⟨R, W, b0, B, g, a.brd x⟩) fun σ1 H1 x1 sd1 => ?_
  refine q_parFF (Pf := fun p H2 => OD w K p b0 B H2 [zero B]) (Pg := fun _ r H2 => LS K b0 B r H2 [zero B]) ((ef_dispN (w := w) (ks := stL b0 B (zero B)) (P := fun v H => Dp K H v (numsK []).data) (ek_var sd1 rfl) (ek_tup (C := CB) (ks := []) ea_nil (by simp)) (depth_stL _ _ _) fun v H1 H2 t z => Dp.tx t _ _ z).mono fun p H2 _ z => ?_)
    (fun p Ha hp xa _ => (en_lst (C := CB) (ea_one (s := .dat (stK b0 B (zero B))) (ek_var (sd1.ex xa) rfl)) (by simp)).f.mono fun r H2 _ z => ?_) fun d l H2 H3 hd x2 od hl x3 ls => ?_
  · obtain ⟨v, dn, dv⟩ := z
    refine ⟨[(zero B, v)], dn, rfl, fun e he => ?_⟩
    rw [List.mem_singleton] at he
    subst he
    exact ⟨[], (zero_sum B).symm, dv⟩
  · obtain ⟨xs, e, pr⟩ := z
    exact ⟨xs, e, pair_dats (ks := [stK b0 B (zero B)]) pr⟩
  have frd : H d = none := fresh_back x1 hd
  have sd2 := ((sd1.ex (x2.trans x3)).set (i := 3) (o := some (.ref d)) (s := .val (.ref d)) rfl).set (i := 4) (o := some (.ref l)) (s := .val (.ref l)) rfl
  have x13 := (x1.trans x2).trans x3
  refine q_of (Evl.s_while (fun m σ'' H'' => ∃ k l, m = total B + 1 - k ∧ SD K CB H'' σ'' [.brd H b0, .dat (bldK B), .dat (stK b0 B (zero B)), .val (.ref d), .val (.ref l), .un, .un, .un, .un] ∧ Ex H H'' ∧ LS K b0 B l H'' (layerN B k) ∧ OD w K d b0 B H'' (keysTo B (k + 1))) _ ⟨0, l, rfl, sd2, x13, ls, od.ex x3⟩ fun m σ4 H4 hw => ?_)
  obtain ⟨k, l, em, s4, x4, ls, od⟩ := hw
  obtain ⟨xs, el, dl⟩ := ls
  refine ⟨!(layerN B k).isEmpty, ?_, fun hne H5 x5 => ?_, fun hne H5 x5 => ?_⟩
  · refine Evl.et_is (et_test (eb_neD (d := lsD ((layerN B k).map (stK b0 B))) (d' := .list []) ((ev_var s4 rfl).mono fun v H5 x5 e => by subst e; exact .lst (SqL.of (x5 _ _ el)) (DpAll.ex x5 _ _ dl)) e1_nil ((shp_lstK (n := 2) fun k hk => by
      obtain ⟨p, _, rfl⟩ := List.mem_map.mp hk
      exact shp_st g p).ok (by omega)) (shp_nil.ok (by omega)))) ?_
    unfold lsD
    rw [eqv_lnil, datas_map]
    cases layerN B k <;> rfl
  · have hne' : layerN B k ≠ [] := fun z => by rw [z] at hne; cases hne
    have hk := layer_le hne'
    have h18 := total_le g.few
    refine ⟨_, fun _ _ z => z, ?_⟩
    refine q_setN (s4.ex x5) en_nil fun r ys σ6 H6 hr x6 er e0 s6 => ?_
    subst e0
    have frr : H r = none := fresh_back (x4.trans x5) hr
    have lr : l ≠ r := fun z => by rw [← z, x5 _ _ el] at hr; cases hr
    have x56 := x5.trans x6
    refine q_of (s_forLK (ks := (layerN B k).map (stK b0 B)) (ev_var s6 rfl) (x56 _ _ el) (DpAll.ex x56 _ _ dl) fun H7 x7 => ⟨fun j σ' H' => SD K CB H' σ' [.brd H b0, .dat (bldK B), .dat (stK b0 B (zero B)), .val (.ref d), .val (.ref l), .val (.ref r), .un, .un, .un] ∧ OI w K d l r b0 B xs k H H7 (((layerN B k).take j).foldl (rowIn B) []) H',
      ⟨s6.ex x7, (x4.trans x56).trans x7, Tx.refl _, (x56.trans x7) _ _ el, ⟨[], x7 _ _ er, .nil⟩, by rw [List.take_zero, List.foldl_nil, List.append_nil]; exact od.ex (x56.trans x7), by simp, by simp⟩, fun j σ' H' p => ⟨p.2.tx, p.2.el⟩, fun j kk σ' H' hj p v dv => ?_, fun σ' H' p => ?_⟩)
    · obtain ⟨s7, oi⟩ := p
      obtain ⟨p, hp, rfl⟩ := map_get hj
      have mp : p ∈ layerN B k := List.mem_of_getElem? hp
      obtain ⟨bx, hs⟩ := mem_layer.mp mp
      have s8 := s7.set (i := 6) (s := .dat (stK b0 B p)) ⟨v, rfl, dv⟩
      have ej : ((layerN B k).take (j + 1)).foldl (rowIn B) [] = (List.range B.length).foldl (stepIn B p) (((layerN B k).take j).foldl (rowIn B) []) := by
        rw [List.take_succ, hp, List.foldl_append]; rfl
      refine s_forR (n := B.length) (EvK.is (ek_lenT (ks := B.map dsK) (ek_var s8 rfl)) (by rw [hlB])) (by omega) fun H8 x8 => ⟨fun i σ'' H'' => SD K CB H'' σ'' [.brd H b0, .dat (bldK B), .dat (stK b0 B (zero B)), .val (.ref d), .val (.ref l), .val (.ref r), .dat (stK b0 B p), .un, .un] ∧ OI w K d l r b0 B xs k H H7 ((List.range i).foldl (stepIn B p) (((layerN B k).take j).foldl (rowIn B) [])) H'', ⟨s8.ex x8, oi.ex x8⟩, fun i σ'' H'' hi p2 => ?_, fun σ'' H'' p2 => ⟨p2.1.drops [6], by rw [ej]; exact p2.2⟩⟩
      obtain ⟨s9, oi9⟩ := p2
      have ei : (List.range (i + 1)).foldl (stepIn B p) (((layerN B k).take j).foldl (rowIn B) []) = stepIn B p ((List.range i).foldl (stepIn B p) (((layerN B k).take j).foldl (rowIn B) [])) i := by
        rw [List.range_succ, List.foldl_append]; rfl
      generalize (List.range i).foldl (stepIn B p) (((layerN B k).take j).foldl (rowIn B) []) = acc at oi9 ei
      have s10 := s9.set (i := 7) (o := some (.int (i : Int))) (s := .dat (numK i)) ⟨_, rfl, .int _⟩
      refine q_set (s := .dat (nxK b0 B p i)) s10 (e1_ans (ea_three (s1 := .dat (bldK B)) (s2 := .dat (stK b0 B p)) (s3 := .dat (numK i)) (ek_var s10 rfl) (ek_var s10 rfl) (ek_var s10 rfl)) fun vs H1 Q a => ⟨R, W, b0, B, p, i, g, bx, hi, a⟩) fun σ11 Hb xb s11 => ?_
      have oib := oi9.ex xb
      by_cases hlt : pl p i < sz B i
      · have e : nxK b0 B p i = stK b0 B (inc p i) := if_pos hlt
        rw [e] at s11
        obtain ⟨E, dn, ek, ev⟩ := oib.od
        have hi' : i < p.length := by rw [bx.len]; exact hi
        have si : (inc p i).sum = k + 1 := by rw [sum_inc hi', hs]
        have nk : inc p i ∉ keysTo B (k + 1) := fun z => by
          have := (mem_keysTo.mp z).2
          omega
        refine s_if (c := decide (inc p i ∉ acc)) (Evl.et_is (Evl.et_and (a := true) (et_test (e1_notN true (ek_var (k := stK b0 B (inc p i)) s11 rfl) fun v H2 dv => by cases dv; rfl)) fun _ => et_test (eb_notInN (w := w) (ks := stL b0 B (inc p i)) (ek_var s11 rfl) (ev_var s11 rfl) dn (depth_stL _ _ _))) ?_) (fun hc Hc xc => ?_) fun hc Hc xc => ?_
        · rw [show NestedKey.tup (stL b0 B (inc p i)) = stK b0 B (inc p i) from rfl, kvF_has (fun a b z => st_inj z), ek]
          simp [nk]
        · have hc : inc p i ∉ acc := of_decide_eq_true hc
          have s12 := s11.ex xc
          have oic := oib.ex xc
          have dnc := dn.ex xc
          have pk : p ∈ E.map (·.1) := by rw [ek]; exact List.mem_append_left _ (mem_keysTo.mpr ⟨bx, by omega⟩)
          obtain ⟨y, hy, my⟩ := kvF_some (f := stK b0 B) (fun a b z => st_inj z) pk
          obtain ⟨o, ol, dpo⟩ := ev _ my
          have ol : o.length = k := by rw [ol]; exact hs
          have ne : inc p i ∉ E.map (·.1) := by rw [ek]; simp [nk, hc]
          have eL : E.length ≤ 686 := by
            have h1 := congrArg List.length ek
            rw [List.length_map, List.length_append] at h1
            have h2 := box_few g.few oic.nd fun q hq => (oic.bx q hq).1
            have h3 := box_few g.few (nodup_keysTo B (k + 1)) fun q hq => (mem_keysTo.mp hq).1
            omega
          refine q_putN (w := w) (d := d) (kvs := kvF (stK b0 B) E) (ks := stL b0 B (inc p i)) (P := fun v H => Dp K H v (numsK (o ++ [i])).data) (EvK.is (ek_cat (a := o.map numK) (b := [numK i]) ((e1_getN (w := w) (ks := stL b0 B p) (ev_var s12 rfl) (ek_var s12 rfl) dnc (depth_stL _ _ _) hy).mono fun v H2 x e => by subst e; exact Dp.ex (xc.trans x) _ _ dpo) (ek_tup (C := CB) (ks := [numK i]) (ea_one (s := .dat (numK i)) (ek_var s12 rfl)) (by simp)) (by rw [List.length_map, List.length_singleton]; omega)) (by unfold numsK; rw [List.map_append]; rfl))
            (fun H2 x2 => ev_var (s12.ex x2) rfl) (ek_var s12 rfl) (fun v H2 x2 _ => dnc.ex x2) (depth_stL _ _ _) (by rw [kvF_len]; omega) fun v Hd He Hf xd pv xe hu dnf tf => ?_
          obtain ⟨u, rfl⟩ := hu
          have e2 : putK (kvF (stK b0 B) E) (.tup (stL b0 B (inc p i))) v = kvF (stK b0 B) (E ++ [(inc p i, v)]) := kvF_new (fun a b z => st_inj z) v ne
          rw [e2] at dnf
          obtain ⟨zs, ez, dz⟩ := oic.er
          have xde := xd.trans xe
          have rd : r ≠ d := dnc.ne ez
          have ld : l ≠ d := dnc.ne oic.el
          have ezf : (upd He d u) r = some (.lst zs) := by rw [upd_ne rd]; exact xde _ _ ez
          have s13 := (s12.ex xde).tx tf
          have zl : zs.length ≤ 343 := by
            rw [dpAll_len dz, datas_len, List.length_map]
            exact box_few g.few oic.nd fun q hq => (oic.bx q hq).1
          refine s_app (tx := tVar 0) (ev_var s13 rfl) ezf (ek_var (k := stK b0 B (inc p i)) s13 rfl) (by omega) fun v2 Hg xg dv2 => ?_
          have ezg := xg _ _ ezf
          have tg : Tx Hg (upd Hg r (.lst (zs ++ [v2]))) := tx_lst ezg
          have tall : Tx Hc (upd Hg r (.lst (zs ++ [v2]))) := (((ex_tx xde).trans tf).trans (ex_tx xg)).trans tg
          have ea : stepIn B p acc i = acc ++ [inc p i] := if_pos ⟨hlt, hc⟩
          refine ⟨((s13.ex xg).tx tg).drops [7, 8], ?_⟩
          rw [ei, ea]
          refine ⟨Ex.mut ((Ex.mut (oic.xh.trans xde) frd).trans xg) frr, oic.tx.trans tall, ?_, ⟨_, upd_same, ?_⟩, ⟨E ++ [(inc p i, v)], (dnf.ex xg).lst ezg, ?_, fun e he => ?_⟩, nodup_snoc oic.nd hc, fun q hq => ?_⟩
          · rw [upd_ne lr]
            exact xg _ _ (by rw [upd_ne ld]; exact xde _ _ oic.el)
          · rw [List.map_append, datas_app]
            exact dpAll_app (DpAll.tx tall _ _ dz) (.cons (Dp.tx tg _ _ dv2) .nil)
          · rw [List.map_append, ek, List.append_assoc]; rfl
          · rcases List.mem_append.mp he with he | he
            · obtain ⟨o2, h1, h2⟩ := ev e he
              exact ⟨o2, h1, Dp.tx tall _ _ (Dp.ex xc _ _ h2)⟩
            · rw [List.mem_singleton] at he
              subst he
              refine ⟨o ++ [i], by rw [List.length_append, ol, List.length_singleton]; exact si.symm, Dp.tx ((((ex_tx xe).trans tf).trans (ex_tx xg)).trans tg) _ _ pv⟩
          · rcases List.mem_append.mp hq with hq | hq
            · exact oic.bx q hq
            · rw [List.mem_singleton] at hq
              subst hq
              exact ⟨bx.inc hi hlt, si⟩
        · have hc : ¬ inc p i ∉ acc := of_decide_eq_false hc
          have ea : stepIn B p acc i = acc := if_neg fun z => hc z.2
          exact ⟨(s11.ex xc).drops [7, 8], by rw [ei, ea]; exact oib.ex xc⟩
      · have e : nxK b0 B p i = .none := if_neg hlt
        rw [e] at s11
        have ea : stepIn B p acc i = acc := if_neg fun z => hlt z.1
        refine s_if (c := false) (Evl.et_and (a := false) (b := false) (et_test (e1_notN false (ek_var (k := .none) s11 rfl) fun v H2 dv => by rw [dp_non dv]; rfl)) fun z => nomatch z) (fun z => nomatch z) fun hc Hc xc => ?_
        exact ⟨(s11.ex xc).drops [7, 8], by rw [ei, ea]; exact oib.ex xc⟩
    · obtain ⟨s7, oi⟩ := p
      rw [List.length_map, List.take_length] at oi
      refine s_set (s := .val (.ref r)) s7 (ev_var s7 rfl) fun σ8 H8 x8 s8 => ?_
      have oi8 := oi.ex x8
      refine ⟨total B + 1 - (k + 1), by omega, k + 1, r, rfl, s8.drops [5], oi8.xh, oi8.er, ?_⟩
      rw [keysTo_succ B (k + 1)]
      exact oi8.od
  · have e0 : layerN B k = [] := by
      cases h : layerN B k with
      | nil => rfl
      | cons a r => rw [h] at hne; cases hne
    have s5 := s4.ex x5
    refine s_ret (P := fun v H' => ∃ d L, v = .ref d ∧ H d = none ∧ OD w K d b0 B H' L ∧ OrdOk B L) ((ev_var s5 rfl).mono fun v H6 x6 e => ⟨d, keysTo B k, e, frd, ?_, ordOk_end e0⟩) fun v H6 x6 hv => q v H6 ((x4.trans x5).trans x6) hv
    rw [keysTo_succ, e0, List.append_nil] at od
    exact od.ex (x5.trans x6)
section
variable {K : PySem.W.Frag} {C : Addr} {H H0 : Hp} {σ : St} {ta : TA} {w : World} {E : XK} {R W : Nat} {b0 : Brd} {B : Bld}
theorem Ans.imp {as : List Sl} {P P' : V → Hp → Prop} {vs : List V} {Q : VK} (m : ∀ v H', P' v H' → P v H') (a : Ans K C as P vs H Q) : Ans K C as P' vs H Q := ⟨a.1, fun v H' x p => a.2 v H' x (m v H' p)⟩
theorem e1_orders (g : Gd R W b0 B) (h : EvA K C ta σ H [.brd H0 b0, .dat (bldK B)]) (x0 : Ex H0 H) : Ev1 (tCall (spOrders w K C) [] E ta) σ H fun v H' => ∃ d L, v = .ref d ∧ H d = none ∧ OD w K d b0 B H' L ∧ OrdOk B L :=
  e1_ansX h fun vs H1 Q x a => ⟨R, W, b0, B, g, (a.brd (x0.trans x)).imp fun v H' hv => by
    obtain ⟨d, L, e, hd, r⟩ := hv
    exact ⟨d, L, e, fresh_back x hd, r⟩⟩
end
end Wx
end
section
set_option Elab.async false
set_option linter.all false
set_option maxRecDepth 100000
set_option maxHeartbeats 4000000
namespace Wx
open PySem PySem.Spec PyProof.Rows L2 Wv
open Evl (Ex ex_rd ex_l ex_t sq_of st_of fresh_back)
section
variable {K : PySem.W.Frag} {C : Addr} {H H' H0 : Hp} {σ : St} {e as : List Sl} {ta tb tc te tl tk tv td ty : TE} {t : TT} {P : V → Hp → Prop} {v y : V} {j : Nat}
/-- [e for k in a dict with nested keys if t], the keys known behind the dict's making -/
theorem en_lcDX {α : Type} {w : World} {vs : List Nat} (Pk : α → List (NK × V) → Prop) (f : α → Nat → Bool) (E : α → Nat → V → Hp → Prop) (sd : SD K C H σ e) (h : Ev1 tl σ H fun v H2 => ∃ d kvs a, v = .ref d ∧ DN w K H2 d kvs ∧ Pk a kvs) (hn : ∀ a kvs, Pk a kvs → kvs.length ≤ 100000) (hj : j ∈ vs) (hE : ∀ a i y H H', Tx H H' → E a i y H → E a i y H')
    (turn : ∀ a kvs i kk vv σ2 H1, Pk a kvs → kvs[i]? = some (kk, vv) → Ex H H1 → SD K C H1 σ2 ((wipeE e vs).set j (.dat kk)) → EvT t σ2 H1 (f a i) ∧ (f a i = true → Ev1 te σ2 H1 (E a i))) :
    EvN (tLc (iKeysN tl) (gName j) t te vs) σ H fun xs H2 => ∃ a kvs, Pk a kvs ∧ Paired (fun y i => E a i y H2) xs ((List.range kvs.length).filter (f a)) := fun H1 x1 Q q => h H1 x1 _ fun v H2 x2 ⟨d, kvs, a, ev, dn, pk⟩ => by
  subst ev
  obtain ⟨es, ep, ed, ok⟩ := dn
  refine ⟨d, es, ep, rfl, .inl ed, ok.lo, fun Dl hD => ?_⟩
  refine lc_go (f a) (E a) (walk_keysN ed ok) (hn a kvs pk) hD (fun H3 x3 => ⟨x3 _ _ ed, ex_tx x3⟩) (hE a) (fun i H3 x H4 Kt hi x3 y kt => ?_) fun ys H3 x3 e3 pr => q Dl ys H3 (fresh_back x2 hD) (x2.trans x3) e3 ⟨a, kvs, pk, pr⟩
  obtain ⟨rfl, kk, vv, hk, hd⟩ := y
  have xx := (x1.trans x2).trans x3
  obtain ⟨t1, t2⟩ := turn a kvs i kk vv ((wipe σ vs).set j (some x)) H4 pk hk xx (((sd.ex xx).wipe vs).set ⟨x, rfl, hd⟩)
  exact kt _ _ (Ex.refl _) (wipe_one hj) t1 t2
/-- sorted(set([one tuple of texts])) -/
theorem e1_sort1 {w : World} {b : Brd} (hb : b ≠ []) (h : EvN te σ H fun xs H2 => ∃ y, xs = [y] ∧ Dp K H2 y (brdK b).data) : Ev1 (tCB (rSorted1 w K) (tCons (tCB (rSet1 w K) (tCons te tNil)) tNil)) σ H fun v H2 => Dp K H2 v (lsD [brdK b]) := fun H1 x1 Q q =>
  h H1 x1 _ fun p xs H2 hp x2 e ⟨y, exs, dy⟩ => by
    subst exs
    have eb : ∀ c : Brd, brdK c = txts (c.map toS) := fun c => by unfold brdK txts; rw [List.map_map]; rfl
    obtain ⟨r, rfl⟩ := dp_ref dy
    rw [eb b] at dy
    refine ⟨p, r, _, rfl, SqL.of e, dy, fun a ha => ?_⟩
    cases b with
    | nil => exact absurd rfl hb
    | cons z zs =>
      have xa : Ex H2 (upd H2 a (oneO w a r)) := Ex.new ha
      refine ⟨a, r, toS z, zs.map toS, rfl, upd_same, Dp.ex xa _ _ dy, fun s v hs dv => q _ _ ((x2.trans xa).trans (Ex.new hs)) ?_⟩
      refine .lst (SqL.of upd_same) (.cons ?_ .nil)
      rw [eb (z :: zs)]
      exact Dp.ex (Ex.new hs) (txts (toS z :: zs.map toS)).data v dv
end
theorem kvF_get {b0 : Brd} {B : Bld} {E : List (Plc × V)} {i : Nat} {kk : NK} {vv : V} (h : (kvF (stK b0 B) E)[i]? = some (kk, vv)) : ∃ p, (E.map (·.1))[i]? = some p ∧ kk = stK b0 B p := by
  unfold kvF at h
  rw [List.getElem?_map] at h
  cases e : E[i]? with
  | none => rw [e] at h; cases h
  | some x =>
    rw [e] at h
    have h := Option.some.inj h
    refine ⟨x.1, by rw [List.getElem?_map, e]; rfl, (Prod.mk.inj h).1.symm⟩
theorem ordOk_few {B : Bld} (f : Few B) {L : List Plc} (o : OrdOk B L) : L.length ≤ 343 := box_few f o.nodup fun p hp => (o.mem p).mp hp
theorem filter_full {B : Bld} {L : List Plc} (o : OrdOk B L) : L.filter (fullB B) = [full B] := by
  have h1 : ∀ x ∈ L.filter (fullB B), x = full B := fun x hx => by
    rw [List.mem_filter] at hx
    exact full_eq ((o.mem x).mp hx.1) (fullB_iff.mp hx.2)
  have h2 : full B ∈ L.filter (fullB B) := List.mem_filter.mpr ⟨(o.mem _).mpr (Box.full B), fullB_iff.mpr (full_Full B)⟩
  have h3 : (L.filter (fullB B)).Nodup := List.Pairwise.filter _ o.nodup
  match L.filter (fullB B), h1, h2, h3 with
  | [x], h1, _, _ => rw [h1 x (by simp)]
  | x :: y :: r, h1, _, h3 =>
    have e1 := h1 x (by simp)
    have e2 := h1 y (by simp)
    have := (List.nodup_cons.mp h3).1
    rw [e1, e2] at this
    simp at this
def spEnds (K : PySem.W.Frag) (C : Addr) : Sp := fun vs H Q _ => ∃ R W b0 B, Gd R W b0 B ∧ Ans K C [.brd H b0, .dat (bldK B)] (fun v H' => Dp K H' v (lsD [brdK (cellsAt b0 B (full B))])) vs H Q
theorem ok_ends {P : Program} {w : World} {K : PySem.W.Frag} {mg : Str → Option Value} {base : Heap} {CB CF AF : Addr} (kn : Kn K mg "ends" s_ends) (T : TX K mg CB CF AF) (c_need_builders : Cal P w K mg base 5 "need_builders" ["board", "builders"] (spNeedB K CB)) (c_orders_by : Cal P w K mg base 4 "orders_by" ["board", "builders"] (spOrders w K CB)) (c_is_whole : Cal P w K mg base 1 "is_whole" ["builders", "state"] (spWhole K CB)) : Cal P w K mg base 6 "ends" ["board", "builders"] (spEnds K CB) := by
  have nd := sc_ends.nd
  refine Cal.mk kn sc_ends (fun _ _ _ _ _ _ us hl => match us, hl with | [_, _], _ => rfl) (fun vs H Q E h => ?_) (fun f cdv A outer s H vs Q E hr h => ⟨_, (pss_cons (ps_expr (c_need_builders.pe (hr.mono (by omega)) (by rfl) (pa_cons (pv 0) (pa_cons (pv 1) pa_nil))))
  (pss_one (ps_ret (pe_callB (cr_sorted1 rfl hr.units) (by rfl) T.z_sorted (by decide +kernel) (pa_cons (pe_callTy (cr_set1 rfl hr.units) (by rfl) T.z_set (by decide +kernel) (pa_cons (pe_lc (own := [("state", 2)]) (by rfl) nd (pi_keysN (c_orders_by.pe (hr.mono (by omega)) (by rfl) (pa_cons (pv 0) (pa_cons (pv 1) pa_nil)))) (blkOk_by (own := [("state", 2)]) (N := ["board", "builders", "state"]) (sc := defScope s_ends) (by decide +kernel)) (fun _ _ _ _ _ => (pg_name (i := 2) nd rfl (by first | exact Or.inl rfl | exact Or.inr rfl))) (fun _ _ _ _ _ => pts_one (pt_val (c_is_whole.pe (hr.mono (by omega)) (by rfl) (pa_cons (pv 1) (pa_cons (pv 2) pa_nil))))) (fun _ _ _ _ _ => (pe_ix (ix_tupK (K := K) rfl) (pv 2) pe_int (fun _ _ => rfl)))) pa_nil)) pa_nil))))), ?_⟩)
  · obtain ⟨R, W, b0, B, g, a⟩ := h
    exact (Paired.length a.1 :)
  obtain ⟨R, W, b0, B, g, a⟩ := h
  obtain ⟨hp, q⟩ := a
  have sd := sd_start (N := ["board", "builders", "state"]) hp
  try dsimp only [cxOf, Cx.nox]
  refine q_of (s_drop (e1_ansX (P := fun v _ => v = .non) (ea_two (s1 := .brd H b0) (s2 := .dat (bldK B)) (eb_var sd rfl) (ek_var sd rfl)) fun vs H1 Q x a => ⟨R, W, b0, B, g, a.brd x⟩) fun v H1 x1 _ => ?_)
  have sd1 := sd.ex x1
  have hb := g.b5At (full B)
  refine s_ret (e1_sort1 (b := cellsAt b0 B (full B)) (fun z => by have := hb.len; have := hb.R1; rw [z] at *; simp at *; omega) ((en_lcDX (w := w) (α := List Plc) (fun L kvs => OrdOk B L ∧ ∃ E, kvs = kvF (stK b0 B) E ∧ E.map (·.1) = L) (fun L i => fullB B (L.getD i [])) (fun L i y H => Dp K H y (brdK (cellsAt b0 B (L.getD i []))).data) sd1 ((e1_orders g (ea_two (s1 := .brd H b0) (s2 := .dat (bldK B)) (eb_var sd1 rfl) (ek_var sd1 rfl)) x1).mono fun v H2 x2 hv => ?_) (fun L kvs pk => ?_) (by simp) (fun L i y H H' t z => Dp.tx t _ _ z) fun L kvs i kk vv σ2 H2 pk hi x2 sd2 => ?_).mono fun xs H2 x2 pr => ?_)) fun v H2 x2 dv => q v H2 (x1.trans x2) dv
  · obtain ⟨d, L, ev, _, ⟨E, dn, eL, _⟩, o⟩ := hv
    exact ⟨d, _, L, ev, dn, o, E, rfl, eL⟩
  · obtain ⟨o, E, rfl, eL⟩ := pk
    have h1 := congrArg List.length eL
    rw [List.length_map] at h1
    have := ordOk_few g.few o
    rw [kvF_len]; omega
  · obtain ⟨o, E, rfl, eL⟩ := pk
    obtain ⟨p, hp, rfl⟩ := kvF_get hi
    rw [eL] at hp
    have ep : L.getD i [] = p := by rw [List.getD_eq_getElem?_getD, hp]; rfl
    rw [ep]
    have bx : Box B p := (o.mem p).mp (List.mem_of_getElem? hp)
    refine ⟨et_B (e1_ans (ea_two (s1 := .dat (bldK B)) (s2 := .dat (stK b0 B p)) (ek_var sd2 rfl) (ek_var sd2 rfl)) fun vs H1 Q a => ⟨R, W, b0, B, p, g, bx, a⟩), fun _ => ek_ixT (ks := stL b0 B p) (ek_var sd2 rfl) ek_int rfl⟩
  · obtain ⟨L, kvs, ⟨o, E, rfl, eL⟩, pr⟩ := pr
    have h1 := congrArg List.length eL
    rw [List.length_map] at h1
    rw [kvF_len, h1] at pr
    have := filt_get L [] (fullB B)
    rw [filter_full o] at this
    generalize (List.range L.length).filter (fun m => fullB B (L.getD m [])) = is at this pr
    have hl := congrArg List.length this
    rw [List.length_map] at hl
    obtain ⟨m, rfl⟩ : ∃ m, is = [m] := by
      match is, hl with
      | [m], _ => exact ⟨m, rfl⟩
    have e : L.getD m [] = full B := by simpa using this
    cases pr with
    | cons h t =>
      cases t
      rw [e] at h
      exact ⟨_, rfl, h⟩

/-! ### first_stuck -/
def spStuck (K : PySem.W.Frag) (C : Addr) : Sp := fun vs H Q _ => ∃ R W b0 B, Gd R W b0 B ∧ Ans K C [.brd H b0, .dat (bldK B)] (fun v _ => v = .non) vs H Q
theorem mvs_nil {B : Bld} {p : Plc} (b : Box B p) (h : mvs B p = []) : fullB B p = true := by
  refine fullB_iff.mpr fun i hi => ?_
  have : ¬ pl p i < sz B i := fun z => by
    have : i ∈ mvs B p := List.mem_filter.mpr ⟨List.mem_range.mpr hi, decide_eq_true z⟩
    rw [h] at this; cases this
  have := b.le i hi
  omega
theorem ok_first_stuck {P : Program} {w : World} {K : PySem.W.Frag} {mg : Str → Option Value} {base : Heap} {CB CF AF : Addr} (kn : Kn K mg "first_stuck" s_first_stuck) (T : TX K mg CB CF AF) (c_need_builders : Cal P w K mg base 5 "need_builders" ["board", "builders"] (spNeedB K CB)) (c_orders_by : Cal P w K mg base 4 "orders_by" ["board", "builders"] (spOrders w K CB)) (c_is_whole : Cal P w K mg base 1 "is_whole" ["builders", "state"] (spWhole K CB)) (c_all_movers : Cal P w K mg base 4 "all_movers" ["builders", "state"] (spMov K CB)) : Cal P w K mg base 6 "first_stuck" ["board", "builders"] (spStuck K CB) := by
  have nd := sc_first_stuck.nd
  refine Cal.mk kn sc_first_stuck (fun _ _ _ _ _ _ us hl => match us, hl with | [_, _], _ => rfl) (fun vs H Q E h => ?_) (fun f cdv A outer s H vs Q E hr h => ⟨_, (pss_cons (ps_expr (c_need_builders.pe (hr.mono (by omega)) (by rfl) (pa_cons (pv 0) (pa_cons (pv 1) pa_nil))))
  (pss_cons (ps_set (i := 2) nd rfl (by first | exact Or.inl rfl | exact Or.inr rfl) (c_orders_by.pe (hr.mono (by omega)) (by rfl) (pa_cons (pv 0) (pa_cons (pv 1) pa_nil))))
  (pss_cons (ps_for PassesOwn.never (by rfl) (pi_keysN (pv 2)) (pg_name (i := 3) nd rfl (by first | exact Or.inl rfl | exact Or.inr rfl))
  (pss_one (ps_if (PW.pt (pw_and (pt_cmpR (op_eqD hr.units) (c_all_movers.pe (hr.mono (by omega)) (by rfl) (pa_cons (pv 1) (pa_cons (pv 3) pa_nil))) (pe_tup pa_nil) (nomark _)) (pw_and1 (pt_not (pt_val (c_is_whole.pe (hr.mono (by omega)) (by rfl) (pa_cons (pv 1) (pa_cons (pv 3) pa_nil)))))))) (pss_one (ps_ret (pe_ixN hr.units (pv 2) (pv 3) (fun _ _ => rfl)))) pss_nil)))
  (pss_one (ps_ret pe_non))))), ?_⟩)
  · obtain ⟨R, W, b0, B, g, a⟩ := h
    exact (Paired.length a.1 :)
  obtain ⟨R, W, b0, B, g, a⟩ := h
  obtain ⟨hp, q⟩ := a
  have sd := sd_start (N := ["board", "builders", "told", "state"]) hp
  try dsimp only [cxOf, Cx.nox]
  refine q_of (s_drop (e1_ansX (P := fun v _ => v = .non) (ea_two (s1 := .brd H b0) (s2 := .dat (bldK B)) (eb_var sd rfl) (ek_var sd rfl)) fun vs H1 Q x a => ⟨R, W, b0, B, g, a.brd x⟩) fun v H1 x1 _ => ?_)
  have sd1 := sd.ex x1
  refine q_of (s_asg (e1_orders g (ea_two (s1 := .brd H b0) (s2 := .dat (bldK B)) (eb_var sd1 rfl) (ek_var sd1 rfl)) x1) fun v H2 x2 hv => ?_)
  obtain ⟨d, L, rfl, _, ⟨E, dn, eL, _⟩, o⟩ := hv
  have sd2 := (sd1.ex x2).set (i := 2) (o := some (.ref d)) (s := .val (.ref d)) rfl
  refine q_of (s_forD (w := w) (kvs := kvF (stK b0 B) E) ((ev_var sd2 rfl).mono fun v H3 x3 e => ⟨d, e, dn.ex x3⟩) fun d' H3 x3 dn3 => ⟨fun j σ' H' => SD K CB H' σ' [.brd H b0, .dat (bldK B), .val (.ref d), .un] ∧ Ex H3 H', ⟨sd2.ex x3, Ex.refl _⟩, fun j σ' H' p => ⟨ex_tx p.2, fun o z => p.2 _ _ z⟩, fun j kk vv σ' H' hj p v dv => ?_, fun σ' H' p => ?_⟩)
  · obtain ⟨s1, x4⟩ := p
    obtain ⟨p, hp, rfl⟩ := kvF_get hj
    rw [eL] at hp
    have bx : Box B p := (o.mem p).mp (List.mem_of_getElem? hp)
    have s2 := s1.set (i := 3) (s := .dat (stK b0 B p)) ⟨v, rfl, dv⟩
    refine s_if (c := false) (Evl.et_is (Evl.et_and (a := (mvs B p).isEmpty) (b := !fullB B p) (Evl.et_is (et_test (eb_eqD (d := (numsK (mvs B p)).data) (d' := .tuple []) (e1_ans (ea_two (s1 := .dat (bldK B)) (s2 := .dat (stK b0 B p)) (ek_var s2 rfl) (ek_var s2 rfl)) fun vs H1 Q a => ⟨R, W, b0, B, p, g, bx, a⟩) (ek_tup (C := CB) (ks := []) ea_nil (by simp)) ((shp_nums _).ok (by omega)) (shp_tnil.ok (by omega)))) ?_) fun _ => Evl.et_not (et_B (e1_ans (ea_two (s1 := .dat (bldK B)) (s2 := .dat (stK b0 B p)) (ek_var s2 rfl) (ek_var s2 rfl)) fun vs H1 Q a => ⟨R, W, b0, B, p, g, bx, a⟩))) ?_) (fun z => nomatch z) fun _ H5 x5 => ⟨(s2.ex x5).drops [3], x4.trans x5⟩
    · rw [data_nums, eqv_tnil, intsD_empty]
    · cases e : (mvs B p) with
      | nil => rw [mvs_nil bx e]; rfl
      | cons a r => rfl
  · exact q .non _ (((x1.trans x2).trans x3).trans p.2) rfl
end Wx
end
section
set_option Elab.async false
set_option linter.all false
set_option maxRecDepth 100000
set_option maxHeartbeats 4000000
namespace Wx
open PySem PySem.Spec PyProof.Rows L2 Wv
open Evl (Ex ex_rd ex_l ex_t sq_of st_of fresh_back)
section
variable {K : PySem.W.Frag} {C : Addr} {H H' H0 : Hp} {σ : St} {e as : List Sl} {ta tb tc te tl tk tv td ty tx : TE} {t : TT} {P : V → Hp → Prop} {v y z : V} {i j : Nat} {D : Ends} {tu tw tz : TS} {g : TG}
theorem s_forDX {w : World} {Pk : Addr → List (NK × V) → Prop} (h : Ev1 tl σ H fun v H2 => ∃ d kvs, v = .ref d ∧ DN w K H2 d kvs ∧ Pk d kvs) (q : ∀ d kvs H1, Ex H H1 → DN w K H1 d kvs → Pk d kvs → ∃ Pv : Nat → St → Hp → Prop, Pv 0 σ H1 ∧ (∀ i σ' H', Pv i σ' H' → Tx H1 H' ∧ ∀ o, H1 d = some o → H' d = some o) ∧
      (∀ i kk vv σ' H', kvs[i]? = some (kk, vv) → Pv i σ' H' → ∀ v, Dp K H' v kk.data → g v σ' H' fun σ2 H2 => tu { D with nx := Pv (i + 1), ct := Pv (i + 1), bk := D.nx } σ2 H2) ∧ (∀ σ' H', Pv kvs.length σ' H' → D.nx σ' H')) :
    tFor (iKeysN tl) g tu D σ H := h H (Ex.refl H) _ fun v H1 x1 ⟨d, kvs, ev, dn, pk⟩ => by
  subst ev
  obtain ⟨Pv, h0, hG, ht, hq⟩ := q d kvs H1 x1 dn pk
  obtain ⟨es, ep, ed, ok⟩ := dn
  refine ⟨d, es, ep, rfl, .inl ed, ok.lo, for_it (walk_keysN ed ok) Pv h0 (fun i σ' H' _ p => ⟨(hG i σ' H' p).2 _ ed, (hG i σ' H' p).1⟩) (fun i x σ' H2 H3 hi p y => ?_) hq⟩
  obtain ⟨rfl, kk, vv, hk, hd⟩ := y
  exact ht i kk vv σ' _ hk p x hd
theorem set_self {α : Type} {l : List α} {i : Nat} {a : α} (h : l[i]? = some a) : l.set i a = l := by
  apply List.ext_getElem?
  intro k
  rw [List.getElem?_set]
  split
  · next e =>
    subst e
    rw [h, if_pos (List.getElem?_eq_some_iff.mp h).1]
  · rfl
/-- if t: x += e -/
theorem q_ifAug {c : Bool} {f : Int → Int → Int} {a b : Int} (sd : SD K C H σ e) (ht : EvT t σ H c) (hx : e[i]? = some (.dat (.num a))) (h : c = true → EvK K te σ H (.num b)) (q : ∀ σ' H1, Ex H H1 → SD K C H1 σ' (e.set i (.dat (.num (if c = true then f a b else a)))) → tz D σ' H1) :
    tSeq (tIfS t (tAug i te (rI0 fun i j => .int (f i j))) tNext) tz D σ H := by
  refine q_of (s_if ht (fun hc H1 x1 => ?_) fun hc H1 x1 => ?_)
  · refine s_aug (sd.ex x1) hx ((h hc).ex x1) fun σ' H2 x2 s2 => q σ' H2 (x1.trans x2) ?_
    rw [if_pos hc]; exact s2
  · refine q σ H1 x1 ?_
    rw [if_neg (by rw [hc]; decide), set_self hx]
    exact sd.ex x1
theorem ev_getDN {w : World} {d : Addr} {kvs : List (NK × V)} {ks : List NK} (hd : EvV td σ H (.ref d)) (hy : EvK K ty σ H (.tup ks)) (hx : EvV tx σ H z) (dn : DN w K H d kvs) (h8 : (NestedKey.tup ks).depth ≤ 8) : EvV (tGetN w K td ty tx) σ H ((valV kvs (.tup ks)).getD z) := fun H1 x Q q =>
  hd H1 x _ fun b H2 x2 pb => by
    subst pb
    refine ⟨d, rfl, ⟨kvs, dn.ex (x.trans x2)⟩, hy H2 (x.trans x2) _ fun a H3 x3 pa => hx H3 ((x.trans x2).trans x3) _ fun c H4 x4 pc => ?_⟩
    subst pc
    obtain ⟨p, rfl⟩ := dp_ref pa
    exact ⟨p, kvs, _, rfl, dn.ex (((x.trans x2).trans x3).trans x4), Dp.ex x4 _ _ pa, h8, q _ H4 ((x2.trans x3).trans x4) rfl⟩
end
theorem kvF_put {α : Type} [DecidableEq α] {f : α → NK} (inj : ∀ a b, f a = f b → a = b) (a : α) (v : V) (E : List (α × V)) : ∃ E', putK (kvF f E) (f a) v = kvF f E' ∧ E'.map (·.1) = if a ∈ E.map (·.1) then E.map (·.1) else E.map (·.1) ++ [a] := by
  by_cases h : a ∈ E.map (·.1)
  · rw [if_pos h]
    refine ⟨E.map fun e => if e.1 = a then (e.1, v) else e, ?_, ?_⟩
    · have q := kvF_has inj a E
      rw [decide_eq_true h] at q
      unfold putK
      rw [valV_any, q]
      show (if true = true then _ else _) = _
      rw [if_pos rfl]
      unfold kvF
      rw [List.map_map, List.map_map]
      refine List.map_congr_left fun e _ => ?_
      show (if f e.1 = f a then _ else _) = _
      by_cases c : e.1 = a
      · rw [if_pos (by rw [c])]; simp [c]
      · rw [if_neg (fun z => c (inj _ _ z))]; simp [c]
    · rw [List.map_map]
      refine List.map_congr_left fun e _ => ?_
      show (if e.1 = a then _ else _ : α × V).1 = _
      split <;> rfl
  · rw [if_neg h]
    refine ⟨E ++ [(a, v)], kvF_new inj v h, ?_⟩
    rw [List.map_append]; rfl

/-! ### many_orders -/
def WD (w : World) (K : PySem.W.Frag) (d : Addr) (b0 : Brd) (B : Bld) (H : Hp) (wy : Wy) : Prop :=
  ∃ E : List (Plc × V), DN w K H d (kvF (stK b0 B) E) ∧ (E.map (·.1)).Nodup ∧ (∀ q ∈ E.map (·.1), Box B q) ∧ ∀ q, (valV (kvF (stK b0 B) E) (stK b0 B q)).getD (.int 0) = .int (wy q : Int)
theorem WD.ex {w : World} {K : PySem.W.Frag} {d : Addr} {b0 : Brd} {B : Bld} {H H' : Hp} {wy : Wy} (x : Ex H H') (h : WD w K d b0 B H wy) : WD w K d b0 B H' wy := by
  obtain ⟨E, h1, h2⟩ := h
  exact ⟨E, h1.ex x, h2⟩
theorem proc_mvs (B : Bld) (wy : Wy) (p : Plc) : (mvs B p).foldl (Wv.bump B p) wy = proc B wy p := by
  unfold proc bumps mvs
  generalize List.range B.length = l
  induction l generalizing wy with
  | nil => rfl
  | cons a r ih =>
    rw [List.foldl_cons, ← ih, List.filter_cons]
    by_cases h : pl p a < sz B a
    · rw [if_pos (decide_eq_true h), List.foldl_cons]
    · rw [if_neg (by simpa using h)]
      unfold Wv.bump
      rw [if_neg h]
theorem way0_get (b0 : Brd) (B : Bld) (q : Plc) : (valV (kvF (stK b0 B) [(zero B, V.int 1)]) (stK b0 B q)).getD (.int 0) = .int (way0 B q : Int) := by
  unfold way0 kvF
  rw [List.map_cons, List.map_nil]
  by_cases h : q = zero B
  · subst h
    rw [valV_pos rfl, if_pos rfl]; rfl
  · rw [valV_neg (fun z => h (st_inj z).symm), if_neg h]; rfl
theorem mvs_bump {B : Bld} {p : Plc} (hb : Box B p) (wy : Wy) : ∀ (l : List Nat), (∀ m ∈ l, m < B.length) → (l.foldl (Wv.bump B p) wy) p = wy p
  | [], _ => rfl
  | m :: l, h => by
    rw [List.foldl_cons, mvs_bump hb _ l fun x hx => h x (by simp [hx])]
    unfold Wv.bump
    split
    · show (if p = inc p m then _ else _) = _
      rw [if_neg]
      intro e
      have := sum_inc (p := p) (i := m) (by rw [hb.len]; exact h m (by simp))
      rw [← e] at this; omega
    · rfl
def spMany (K : PySem.W.Frag) (C : Addr) : Sp := fun vs H Q _ => ∃ R W b0 B, Gd R W b0 B ∧ Ans K C [.brd H b0, .dat (bldK B)] (fun v _ => v = .int ((ordN 0 (full B) : Nat) : Int)) vs H Q
theorem ok_many_orders {P : Program} {w : World} {K : PySem.W.Frag} {mg : Str → Option Value} {base : Heap} {CB CF AF : Addr} (kn : Kn K mg "many_orders" s_many_orders) (T : TX K mg CB CF AF) (c_need_builders : Cal P w K mg base 5 "need_builders" ["board", "builders"] (spNeedB K CB)) (c_orders_by : Cal P w K mg base 4 "orders_by" ["board", "builders"] (spOrders w K CB)) (c_is_whole : Cal P w K mg base 1 "is_whole" ["builders", "state"] (spWhole K CB)) (c_all_movers : Cal P w K mg base 4 "all_movers" ["builders", "state"] (spMov K CB)) (c_first_state : Cal P w K mg base 3 "first_state" ["board", "builders"] (spFirst K CB)) (c_deed_done : Cal P w K mg base 3 "deed_done" ["builders", "state", "builder"] (spDone K CB)) : Cal P w K mg base 6 "many_orders" ["board", "builders"] (spMany K CB) := by
  have nd := sc_many_orders.nd
  refine Cal.mk kn sc_many_orders (fun _ _ _ _ _ _ us hl => match us, hl with | [_, _], _ => rfl) (fun vs H Q E h => ?_) (fun f cdv A outer s H vs Q E hr h => ⟨_, (pss_cons (ps_expr (c_need_builders.pe (hr.mono (by omega)) (by rfl) (pa_cons (pv 0) (pa_cons (pv 1) pa_nil))))
  (pss_cons (ps_par (i := 2) (j := 3) (by rfl) nd rfl rfl (by decide) rfl rfl (pa_cons (pe_dispN hr.units (c_first_state.pe (hr.mono (by omega)) (by rfl) (pa_cons (pv 0) (pa_cons (pv 1) pa_nil))) pe_int) (pa_cons pe_int pa_nil)) (by rfl))
  (pss_cons (ps_for PassesOwn.never (by rfl) (pi_keysN (c_orders_by.pe (hr.mono (by omega)) (by rfl) (pa_cons (pv 0) (pa_cons (pv 1) pa_nil)))) (pg_name (i := 4) nd rfl (by first | exact Or.inl rfl | exact Or.inr rfl))
  (pss_cons (ps_if (pt_val (c_is_whole.pe (hr.mono (by omega)) (by rfl) (pa_cons (pv 1) (pa_cons (pv 4) pa_nil)))) (pss_one (ps_aug (i := 3) nd rfl (Or.inl rfl) (pe_ixN hr.units (pv 2) (pv 4) (fun _ _ => rfl)) ip_add)) pss_nil)
  (pss_one (ps_for PassesOwn.never (by rfl) (pi_tup (c_all_movers.pe (hr.mono (by omega)) (by rfl) (pa_cons (pv 1) (pa_cons (pv 4) pa_nil)))) (pg_name (i := 5) nd rfl (by first | exact Or.inl rfl | exact Or.inr rfl))
  (pss_cons (ps_set (i := 6) nd rfl (by first | exact Or.inl rfl | exact Or.inr rfl) (c_deed_done.pe (hr.mono (by omega)) (by rfl) (pa_cons (pv 1) (pa_cons (pv 4) (pa_cons (pv 5) pa_nil)))))
  (pss_one (ps_asg (pe_op op_add (pe_getN hr.units (pv 2) (pv 6) pe_int ⟨by rfl, by rfl, by rfl, by rfl⟩) (pe_ixN hr.units (pv 2) (pv 4) (fun _ _ => rfl))) (pg_sub (pv 2) (pv 6) (set_N hr.units)))))))))
  (pss_one (ps_ret (pv 3)))))), ?_⟩)
  · obtain ⟨R, W, b0, B, g, a⟩ := h
    exact (Paired.length a.1 :)
  obtain ⟨R, W, b0, B, g, a⟩ := h
  obtain ⟨hp, q⟩ := a
  have sd := sd_start (N := ["board", "builders", "ways", "total", "state", "builder", "there"]) hp
  try dsimp only [cxOf, Cx.nox]
  refine q_of (s_drop (e1_ansX (P := fun v _ => v = .non) (ea_two (s1 := .brd H b0) (s2 := .dat (bldK B)) (eb_var sd rfl) (ek_var sd rfl)) fun vs H1 Q x a => ⟨R, W, b0, B, g, a.brd x⟩) fun v H1 x1 _ => ?_)
  have sd1 := sd.ex x1
  refine q_parFE (Pf := fun p H2 => WD w K p b0 B H2 (way0 B)) (Pg := fun _ v _ => v = .int 0) ((ef_dispN (w := w) (ks := stL b0 B (zero B)) (P := fun v _ => v = .int 1) (e1_ansX (P := fun v H' => Dp K H' v (stK b0 B (zero B)).data) (ea_two (s1 := .brd H b0) (s2 := .dat (bldK B)) (eb_var sd1 rfl) (ek_var sd1 rfl)) fun vs H1 Q x a => ⟨R, W, b0, B, g, a.brd (x1.trans x)⟩) ev_c (depth_stL _ _ _) fun v H1 H2 t z => z).mono fun p H2 _ z => ?_) (fun p H2 _ _ _ => ev_c) fun d v H2 H3 hd x2 wd x3 ev => ?_
  · obtain ⟨v, dn, rfl⟩ := z
    exact ⟨[(zero B, .int 1)], dn, by simp, fun q hq => by
      have : q = zero B := by simpa using hq
      rw [this]; exact Box.zero B, way0_get b0 B⟩
  subst ev
  have x13 := (x1.trans x2).trans x3
  have frd : H d = none := fresh_back x1 hd
  have sd3 := ((sd1.ex (x2.trans x3)).set (i := 2) (o := some (.ref d)) (s := .val (.ref d)) rfl).set (i := 3) (o := some (.int 0)) (s := .dat (.num 0)) ⟨_, rfl, .int _⟩
  have wd3 := wd.ex x3
  refine q_of (s_forDX (K := K) (w := w) (Pk := fun d' kvs => H3 d' = none ∧ ∃ L E, OrdOk B L ∧ kvs = kvF (stK b0 B) E ∧ E.map (·.1) = L) ((e1_orders g (ea_two (s1 := .brd H b0) (s2 := .dat (bldK B)) (eb_var sd3 rfl) (ek_var sd3 rfl)) x13).mono fun v H4 x4 hv => ?_) fun d' kvs H4 x4 dn4 pk => ?_)
  · obtain ⟨d', L, e, hd', ⟨E, dn, eL, _⟩, o⟩ := hv
    exact ⟨d', _, e, dn, hd', L, E, o, rfl, eL⟩
  obtain ⟨hd', L, E, o, rfl, eL⟩ := pk
  have dd : d' ≠ d := fun z => by subst z; obtain ⟨_, dn, _⟩ := wd3; exact dn.nn hd'
  refine ⟨fun j σ' H' => SD K CB H' σ' [.brd H b0, .dat (bldK B), .val (.ref d), .dat (numK (if full B ∈ L.take j then ordN 0 (full B) else 0)), .un, .un, .un] ∧ Ex H H' ∧ Tx H4 H' ∧ (∀ o, H4 d' = some o → H' d' = some o) ∧ ∃ wy, WayOk B (L.take j) wy ∧ WD w K d b0 B H' wy, ⟨sd3.ex x4, x13.trans x4, Tx.refl _, fun _ z => z, way0 B, way_start B, wd3.ex x4⟩, fun j σ' H' p => ⟨p.2.2.1, p.2.2.2.1⟩, fun j kk vv σ' H' hj p v dv => ?_, fun σ' H' p => ?_⟩
  · obtain ⟨s1, xh, tx, kd, wy, wok, wd⟩ := p
    obtain ⟨p, hp, rfl⟩ := kvF_get hj
    rw [eL] at hp
    have bx : Box B p := (o.mem p).mp (List.mem_of_getElem? hp)
    have hjl := (List.getElem?_eq_some_iff.mp hp).1
    have eLj : L = L.take j ++ p :: L.drop (j + 1) := by
      have := (List.getElem?_eq_some_iff.mp hp).2
      rw [← this, List.getElem_cons_drop, List.take_append_drop]
    have o' : OrdOk B (L.take j ++ p :: L.drop (j + 1)) := by rw [← eLj]; exact o
    have wp := way_at o' wok
    have wn := way_next o' wok
    have et : L.take (j + 1) = L.take j ++ [p] := by rw [List.take_succ, hp]; rfl
    have wpos : 0 < wy p := by rw [wp]; exact ordN_pos _ _
    have s2 := s1.set (i := 4) (s := .dat (stK b0 B p)) ⟨v, rfl, dv⟩
    obtain ⟨E2, dn2, nd2, bx2, vl2⟩ := id wd
    have vp : valV (kvF (stK b0 B) E2) (stK b0 B p) = some (.int (wy p : Int)) := by
      have := vl2 p
      cases h : valV (kvF (stK b0 B) E2) (stK b0 B p) with
      | none => rw [h] at this; have := V.int.inj this; omega
      | some y => rw [h] at this; exact congrArg some this
    refine q_ifAug (f := fun i j => i + j) (c := fullB B p) (b := ((wy p : Nat) : Int)) s2 (et_B (e1_ans (ea_two (s1 := .dat (bldK B)) (s2 := .dat (stK b0 B p)) (ek_var s2 rfl) (ek_var s2 rfl)) fun vs H1 Q a => ⟨R, W, b0, B, p, g, bx, a⟩)) rfl (fun _ => EvV.k_int (e1_getN (w := w) (ks := stL b0 B p) (ev_var s2 rfl) (ek_var s2 rfl) dn2 (depth_stL _ _ _) vp)) fun σ3 H5 x5 s3 => ?_
    have etot : (if fullB B p = true then ((if full B ∈ L.take j then ordN 0 (full B) else 0 : Nat) : Int) + ((wy p : Nat) : Int) else ((if full B ∈ L.take j then ordN 0 (full B) else 0 : Nat) : Int)) = ((if full B ∈ L.take (j + 1) then ordN 0 (full B) else 0 : Nat) : Int) := by
      rw [et]
      by_cases h : fullB B p = true
      · have ep : p = full B := full_eq bx (fullB_iff.mp h)
        have nm : full B ∉ L.take j := fun z => by
          have := (List.nodup_append.mp o'.nodup).2.2 _ z p (by simp)
          exact this ep.symm
        rw [if_pos h, if_neg nm, if_pos (by simp [ep]), wp, ep]
        simp
      · have ep : full B ≠ p := fun z => h (fullB_iff.mpr (by rw [← z]; exact full_Full B))
        rw [if_neg h]
        congr 1
        have : (full B ∈ L.take j ++ [p]) ↔ full B ∈ L.take j := by simp [ep]
        simp only [this]
    have s3 : SD K CB H5 σ3 [.brd H b0, .dat (bldK B), .val (.ref d), .dat (numK (if full B ∈ L.take (j + 1) then ordN 0 (full B) else 0)), .dat (stK b0 B p), .un, .un] := by
      unfold numK at s3 ⊢
      rw [← etot]; exact s3
    have hml : (List.map numK (mvs B p)).length = (mvs B p).length := List.length_map _
    refine s_forT (ks := (mvs B p).map numK) (e1_ans (P := fun v H' => Dp K H' v (numsK (mvs B p)).data) (ea_two (s1 := .dat (bldK B)) (s2 := .dat (stK b0 B p)) (ek_var s3 rfl) (ek_var s3 rfl)) fun vs H1 Q a => ⟨R, W, b0, B, p, g, bx, a⟩) fun H6 x6 => ⟨fun i σ'' H'' => SD K CB H'' σ'' [.brd H b0, .dat (bldK B), .val (.ref d), .dat (numK (if full B ∈ L.take (j + 1) then ordN 0 (full B) else 0)), .dat (stK b0 B p), .un, .un] ∧ Ex H H'' ∧ Tx H4 H'' ∧ Tx H6 H'' ∧ (∀ o, H4 d' = some o → H'' d' = some o) ∧ WD w K d b0 B H'' (((mvs B p).take i).foldl (Wv.bump B p) wy), ⟨s3.ex x6, (xh.trans x5).trans x6, tx.trans (ex_tx (x5.trans x6)), Tx.refl _, fun o z => (x5.trans x6) _ _ (kd o z), wd.ex (x5.trans x6)⟩, fun i σ'' H'' p => p.2.2.2.1, fun i kk σ'' H'' hi p2 u du => ?_, fun σ'' H'' p2 => ?_⟩
    · obtain ⟨s4, xh4, tx4, tx6, kd4, wd4⟩ := p2
      obtain ⟨m, hm, rfl⟩ := map_get hi
      have mm := List.mem_of_getElem? hm
      unfold mvs at mm
      rw [List.mem_filter] at mm
      have hmB := List.mem_range.mp mm.1
      have hlt : pl p m < sz B m := of_decide_eq_true mm.2
      have ei : ((mvs B p).take (i + 1)).foldl (Wv.bump B p) wy = Wv.bump B p (((mvs B p).take i).foldl (Wv.bump B p) wy) m := by
        rw [List.take_succ, hm, List.foldl_append]; rfl
      have wsame : (((mvs B p).take i).foldl (Wv.bump B p) wy) p = wy p := mvs_bump bx wy _ fun x hx => by
        have := List.mem_of_mem_take hx
        unfold mvs at this
        exact List.mem_range.mp (List.mem_filter.mp this).1
      generalize ((mvs B p).take i).foldl (Wv.bump B p) wy = wz at wd4 ei wsame
      have s5 := s4.set (i := 5) (s := .dat (numK m)) ⟨u, rfl, du⟩
      refine q_set (s := .dat (stK b0 B (inc p m))) s5 (e1_ans (ea_three (s1 := .dat (bldK B)) (s2 := .dat (stK b0 B p)) (s3 := .dat (numK m)) (ek_var s5 rfl) (ek_var s5 rfl) (ek_var s5 rfl)) fun vs H1 Q a => ⟨R, W, b0, B, p, m, g, bx, hmB, by unfold nxK; rw [if_pos hlt]; exact a⟩) fun σ6 H7 x7 s6 => ?_
      obtain ⟨E3, dn3, nd3, bx3, vl3⟩ := wd4.ex x7
      have vp3 : valV (kvF (stK b0 B) E3) (stK b0 B p) = some (.int (wz p : Int)) := by
        have := vl3 p
        cases h : valV (kvF (stK b0 B) E3) (stK b0 B p) with
        | none => rw [h] at this; have := V.int.inj this; omega
        | some y => rw [h] at this; exact congrArg some this
      have lE : E3.length ≤ 343 := by
        have := box_few g.few nd3 bx3
        rwa [List.length_map] at this
      refine s_putN (w := w) (d := d) (kvs := kvF (stK b0 B) E3) (ks := stL b0 B (inc p m)) (P := fun v _ => v = .int ((wz (inc p m) + wz p : Nat) : Int)) ?_ (fun H8 x8 => ev_var (s6.ex x8) rfl) (ek_var s6 rfl) (fun v H8 x8 _ => dn3.ex x8) (depth_stL _ _ _) (by rw [kvF_len]; omega) fun v H8 H9 H10 x8 ev x9 hu dn10 t10 => ?_
      · refine EvV.is (EvK.v_int (K := K) (ek_ii (i := ((wz (inc p m) : Nat) : Int)) (j := ((wz p : Nat) : Int)) (EvV.k_int (EvV.is (ev_getDN (w := w) (ks := stL b0 B (inc p m)) (z := .int 0) (ev_var s6 rfl) (ek_var s6 rfl) ev_c dn3 (depth_stL _ _ _)) (vl3 (inc p m)))) (EvV.k_int (e1_getN (w := w) (ks := stL b0 B p) (ev_var s6 rfl) (ek_var s6 rfl) dn3 (depth_stL _ _ _) vp3)))) ?_
        simp
      · subst ev
        obtain ⟨u2, rfl⟩ := hu
        have x79 := (x7.trans x8).trans x9
        obtain ⟨E4, e4, k4⟩ := kvF_put (f := stK b0 B) (fun a b z => st_inj z) (inc p m) (.int ((wz (inc p m) + wz p : Nat) : Int)) E3
        refine ⟨((s6.ex (x8.trans x9)).tx t10).drops [5, 6], Ex.mut (xh4.trans x79) frd, (tx4.trans (ex_tx x79)).trans t10, (tx6.trans (ex_tx x79)).trans t10, fun o z => by rw [upd_ne dd]; exact x79 _ _ (kd4 o z), ?_⟩
        rw [ei]
        refine ⟨E4, ?_, ?_, ?_, fun q => ?_⟩
        · have e5 : putK (kvF (stK b0 B) E3) (.tup (stL b0 B (inc p m))) (.int ((wz (inc p m) + wz p : Nat) : Int)) = kvF (stK b0 B) E4 := e4
          rw [e5] at dn10; exact dn10
        · rw [k4]
          split
          · exact nd3
          · next h => exact nodup_snoc nd3 h
        · rw [k4]
          intro q hq
          split at hq
          · exact bx3 q hq
          · rcases List.mem_append.mp hq with hq | hq
            · exact bx3 q hq
            · rw [List.mem_singleton] at hq
              subst hq; exact bx.inc hmB hlt
        · rw [← e4, valV_put]
          unfold Wv.bump
          rw [if_pos hlt]
          by_cases h : q = inc p m
          · subst h
            rw [if_pos rfl]
            show V.int _ = V.int ((if inc p m = inc p m then _ else _ : Nat) : Int)
            rw [if_pos rfl]
          · rw [if_neg (fun z => h (st_inj z)), vl3 q]
            show V.int _ = V.int ((if q = inc p m then _ else _ : Nat) : Int)
            rw [if_neg h]
    · obtain ⟨s4, xh4, tx4, tx6, kd4, wd4⟩ := p2
      rw [hml, List.take_length, proc_mvs] at wd4
      exact ⟨s4.drops [4], xh4, tx4, kd4, proc B wy p, by rw [et]; exact wn, wd4⟩
  · obtain ⟨s1, xh, tx, kd, wy, wok, wd⟩ := p
    have hl : (kvF (stK b0 B) E).length = L.length := by rw [kvF_len, ← eL, List.length_map]
    rw [hl, List.take_length, if_pos ((o.mem _).mpr (Box.full B))] at s1
    refine s_ret (EvK.v_int (i := ((ordN 0 (full B) : Nat) : Int)) (ek_var s1 rfl)) fun v H5 x5 e => q v H5 (xh.trans x5) e
end Wx
end
section
set_option Elab.async false
set_option linter.all false
set_option maxRecDepth 100000
set_option maxHeartbeats 4000000
namespace Wx
open PySem PySem.Spec PyProof.Rows L2 Wv
open Evl (Ex ex_rd ex_l ex_t sq_of st_of fresh_back)
/-! ### Firm -/
theorem brd_inj {a b : Brd} (h : brdK a = brdK b) : a = b := by
  have h := NestedKey.tup.inj h
  induction a generalizing b with
  | nil =>
    cases b with
    | nil => rfl
    | cons x r => cases h
  | cons x r ih =>
    cases b with
    | nil => cases h
    | cons y s =>
      rw [List.map_cons, List.map_cons] at h
      have h1 := (List.cons.inj h).1
      have h2 := (List.cons.inj h).2
      rw [ih (congrArg NestedKey.tup h2) h2, toS_inj (NestedKey.text.inj h1)]
def FirmI (CF : Addr) (a d : Addr) (H : Hp) : Prop := ∃ dx, H a = some (.ins CF dx [("known", .ref d)])
def KD (w : World) (K : PySem.W.Frag) (d : Addr) (b0 : Brd) (B : Bld) (H : Hp) : Prop :=
  ∃ E : List (Brd × V), DN w K H d (kvF brdK E) ∧ (E.map (·.1)).Nodup ∧ ∀ e ∈ E, (∃ p, Box B p ∧ e.1 = cellsAt b0 B p) ∧ e.2 = .bl (decide (Holds e.1))
/-- all stands but what is at d -/
def Xd (d : Addr) (H H' : Hp) : Prop := ∀ x o, x ≠ d → H x = some o → H' x = some o
section
variable {w : World} {K : PySem.W.Frag} {d a CF : Addr} {b0 : Brd} {B : Bld} {H H' H1 : Hp}
theorem KD.tx (t : Tx H H') (hd : ∀ o, H d = some o → H' d = some o) (h : KD w K d b0 B H) : KD w K d b0 B H' := by
  obtain ⟨E, h1, h2⟩ := h
  exact ⟨E, h1.tx t hd, h2⟩
theorem KD.ex (x : Ex H H') (h : KD w K d b0 B H) : KD w K d b0 B H' := h.tx (ex_tx x) fun o z => x _ _ z
theorem FirmI.ex (x : Ex H H') (h : FirmI CF a d H) : FirmI CF a d H' := by
  obtain ⟨dx, h⟩ := h
  exact ⟨dx, x _ _ h⟩
theorem Ex.xd (x : Ex H H') : Xd d H H' := fun a o _ h => x a o h
theorem Xd.trans (a : Xd d H H1) (b : Xd d H1 H') : Xd d H H' := fun x o n h => b x o n (a x o n h)
theorem Xd.back (x : Ex H H1) (b : Xd d H1 H') (hd : H d = none) : Ex H H' := fun a o h => b a o (fun z => by subst z; rw [hd] at h; cases h) (x a o h)
theorem KD.few (f : Few B) {E : List (Brd × V)} (h2 : (E.map (·.1)).Nodup) (h3 : ∀ e ∈ E, (∃ p, Box B p ∧ e.1 = cellsAt b0 B p)) : E.length ≤ 343 := by
  have key : ∀ l : List Brd, l.Nodup → (∀ b ∈ l, ∃ p, Box B p ∧ b = cellsAt b0 B p) → ∃ ps : List Plc, ps.Nodup ∧ (∀ p ∈ ps, Box B p) ∧ ps.length = l.length ∧ l = ps.map (cellsAt b0 B) := by
    intro l
    induction l with
    | nil => intro _ _; exact ⟨[], by simp, by simp, rfl, rfl⟩
    | cons b r ih =>
      intro hn hb
      rw [List.nodup_cons] at hn
      obtain ⟨ps, h1, h2, h3, h4⟩ := ih hn.2 fun x hx => hb x (by simp [hx])
      obtain ⟨p, hp, e⟩ := hb b (by simp)
      refine ⟨p :: ps, ?_, ?_, by simp [h3], by rw [List.map_cons, ← e, ← h4]⟩
      · rw [List.nodup_cons]
        refine ⟨fun z => hn.1 ?_, h1⟩
        rw [h4, e]
        exact List.mem_map.mpr ⟨p, z, rfl⟩
      · intro x hx
        rcases List.mem_cons.mp hx with z | z
        · subst z; exact hp
        · exact h2 x z
  obtain ⟨ps, h4, h5, h6, _⟩ := key _ h2 fun b hb => by
    obtain ⟨e, he, rfl⟩ := List.mem_map.mp hb
    exact h3 e he
  have := box_few f h4 h5
  rw [h6, List.length_map] at this
  exact this
end
def spFInit (w : World) (CF : Addr) (K : PySem.W.Frag) (C : Addr) : Sp := fun vs H Q _ => ∃ x dx, H x = some (.ins CF dx []) ∧ Paired (VOk K C H) vs [.val (.ref x)] ∧ ∀ d H', H d = none → DN w K H' d [] → H' x = some (.ins CF dx [("known", .ref d)]) → (∀ a o, a ≠ x → H a = some o → H' a = some o) → Q .non H'
theorem ok_Firm_init {P : Program} {w : World} {K : PySem.W.Frag} {mg : Str → Option Value} {base : Heap} {CB CF AF : Addr} {f : Addr} {fd : FuncData} (F : Fun K "__init__" "Firm.__init__" s_Firm_init f fd) (T : TX K mg CB CF AF)  : FnOk P w K mg base CX0 1 f fd ["self"] (spFInit w CF K CB) := by
  have nd := sc_Firm_init.nd
  refine F.ok sc_Firm_init (fun vs H Q E h => ?_) (fun cdv A outer s H vs Q E hr h => ⟨_, (pss_one (ps_fld (pv 0) pe_newN (by rfl))), ?_⟩)
  · obtain ⟨x, dx, hx, a⟩ := h
    exact (Paired.length a.1 :)
  obtain ⟨x, dx, hx, a⟩ := h
  obtain ⟨hp, q⟩ := a
  have sd := sd_start (N := ["self"]) hp
  try dsimp only [cxOf, Cx.nox]
  refine (ef_newN (w := w) (K := K) (σ := start _ _) (H := H)) H (Ex.refl _) _ fun d H1 hd x1 dn => ev_var sd rfl H1 x1 _ fun v H2 x2 ev => ?_
  subst ev
  have ex := (x1.trans x2) _ _ hx
  have dx' : x ≠ d := fun z => by subst z; rw [hx] at hd; cases hd
  refine ⟨x, CF, dx, [], rfl, ex, T.clF, T.nK, by decide, ?_⟩
  have nt : Tx H2 (upd H2 x (.ins CF dx [("known", .ref d)])) := tx_upd (not_tup ex (fun _ z => nomatch z) fun _ _ z => nomatch z)
  refine q d _ hd ((dn.ex x2).tx nt fun o z => by rw [upd_ne dx'.symm]; exact z) upd_same fun b o hb z => ?_
  show (upd H2 x _) b = some o
  rw [upd_ne hb]
  exact (x1.trans x2) _ _ z
section
variable {K : PySem.W.Frag} {C : Addr} {H H' H0 : Hp} {σ : St} {e as : List Sl} {ta tb tc te tl tk tv td ty tx : TE} {t t2 t3 : TT} {P : V → Hp → Prop} {v y z : V} {i j : Nat} {D : Ends} {tu tw tz : TS} {g : TG} {w : World} {CF AF : Addr} {mg : Str → Option Value} {E : XK}
theorem ef_firm (H1 : Hp) (Q : VK) (q : ∀ x d dx H2, H1 x = none → H1 d = none → x ≠ d → Ex H1 H2 → H2 x = some (.ins CF dx [("known", .ref d)]) → DN w K H2 d [] → Q (.ref x) H2) : tMake CF (spFInit w CF K C) [] E tNil σ H1 Q := fun x dx hx hdx hne => by
  have e1 : Ex H1 (upd (upd H1 dx (.own x)) x (.ins CF dx [])) := (Ex.new hdx).trans (Ex.new (by show (if x = dx then _ else H1 x) = none; rw [if_neg fun z => hne z.symm]; exact hx))
  refine ⟨x, dx, upd_same, .cons rfl .nil, fun d H' hd dn hf hk => ⟨rfl, q x d dx H' hx (fresh_back e1 hd) (fun z => by subst z; rw [upd_same] at hd; cases hd) ?_ hf dn⟩⟩
  intro b o hb
  exact hk b o (fun z => by subst z; rw [hx] at hb; cases hb) (e1 _ _ hb)
theorem ev_known {a d CB : Addr} (T : TX K mg CB CF AF) (h : EvV ta σ H (.ref a)) (e : FirmI CF a d H) : EvV (tFld K ta "known") σ H (.ref d) := fun H1 x Q q => h H1 x _ fun v H2 x2 ev => by
  subst ev
  obtain ⟨dx, e⟩ := e
  exact ⟨a, CF, dx, _, .ref d, rfl, x2 _ _ (x _ _ e), T.clF, T.nK, by simp, q _ H2 x2 rfl⟩
theorem e1_holdsB {R W : Nat} {b : Brd} (hb : Brd5 R W b) (h : Ev1 te σ H fun v H2 => BrdAt K C H2 v b) : EvV (tCall (spHolds K C) [] E (tCons te tNil)) σ H (.bl (decide (Holds b))) := fun H1 x Q q => h H1 x _ fun v H2 x2 p =>
  ⟨R, W, b, hb, .cons p .nil, fun v H' x e => q v H' (x2.trans x) e⟩
end
def spStands (w : World) (CF : Addr) (K : PySem.W.Frag) (C : Addr) : Sp := fun vs H Q _ => ∃ R W b0 B p a d, Gd R W b0 B ∧ Box B p ∧ FirmI CF a d H ∧ KD w K d b0 B H ∧ Paired (VOk K C H) vs [.val (.ref a), .dat (brdK (cellsAt b0 B p))] ∧
  ∀ H', Tx H H' → Xd d H H' → KD w K d b0 B H' → Q (.bl (decide (hold b0 B p))) H'
theorem ok_Firm_stands {P : Program} {w : World} {K : PySem.W.Frag} {mg : Str → Option Value} {base : Heap} {CB CF AF : Addr} {f : Addr} {fd : FuncData} (F : Fun K "stands" "Firm.stands" s_Firm_stands f fd) (T : TX K mg CB CF AF) (c_holds : Cal P w K mg base 5 "holds" ["board"] (spHolds K CB)) (c_Board : Mak P w K mg base 2 CB ["self", "cells"] (spInit K CB)) : FnOk P w K mg base CX0 6 f fd ["self", "cells"] (spStands w CF K CB) := by
  have nd := sc_Firm_stands.nd
  refine F.ok sc_Firm_stands (fun vs H Q E h => ?_) (fun cdv A outer s H vs Q E hr h => ⟨_, (pss_cons (ps_if (pt_cmpR (op_notInN hr.units) (pv 1) (pe_fld (pv 0) rfl) (by with_unfolding_all rfl)) (pss_one (ps_asg (c_holds.pe (hr.mono (by omega)) (by rfl) (pa_cons (c_Board.pe (hr.mono (by omega)) (by rfl) T.g_Board (pa_cons (pv 1) pa_nil)) pa_nil)) (pg_sub (pe_fld (pv 0) rfl) (pv 1) (set_N hr.units)))) pss_nil)
  (pss_one (ps_ret (pe_ixN hr.units (pe_fld (pv 0) rfl) (pv 1) (fun _ _ => rfl))))), ?_⟩)
  · obtain ⟨R, W, b0, B, p, fa, d, g, bx, fi, kd, a⟩ := h
    exact (Paired.length a.1 :)
  obtain ⟨R, W, b0, B, p, fa, d, g, bx, fi, kd, a⟩ := h
  obtain ⟨hp, q⟩ := a
  have sd := sd_start (N := ["self", "cells"]) hp
  try dsimp only [cxOf, Cx.nox]
  obtain ⟨E, dn, nd1, vals⟩ := id kd
  have lE := KD.few g.few nd1 fun e he => (vals e he).1
  have hb := g.b5At p
  have d8 : (brdK (cellsAt b0 B p)).depth ≤ 8 := Nat.le_trans (depth_brd1 _) (by omega)
  have ad : fa ≠ d := fun z => by
    subst z
    obtain ⟨dx, e⟩ := fi
    obtain ⟨es, ep, h1, _⟩ := dn
    rw [h1] at e; cases e
  have fin : ∀ E' : List (Brd × V), (∀ e ∈ E', e.2 = .bl (decide (Holds e.1))) → cellsAt b0 B p ∈ E'.map (·.1) → ∃ vv, valV (kvF brdK E') (brdK (cellsAt b0 B p)) = some vv ∧ vv = .bl (decide (hold b0 B p)) := fun E' h1 h2 => by
    obtain ⟨vv, h3, h4⟩ := kvF_some (f := brdK) (fun a b z => brd_inj z) h2
    exact ⟨vv, h3, h1 _ h4⟩
  refine q_if (c := decide (cellsAt b0 B p ∉ E.map (·.1))) (Evl.et_is (et_test (eb_notInN (w := w) (ks := (cellsAt b0 B p).map txtK) (ek_var sd rfl) (ev_known T (ev_var sd rfl) fi) dn d8)) ?_) (fun hc H1 x1 => ?_) fun hc H1 x1 => ?_
  · rw [show NestedKey.tup ((cellsAt b0 B p).map txtK) = brdK (cellsAt b0 B p) from rfl, kvF_has (fun a b z => brd_inj z)]; simp
  · have hc : cellsAt b0 B p ∉ E.map (·.1) := of_decide_eq_true hc
    have sd1 := sd.ex x1
    refine s_putN (w := w) (d := d) (kvs := kvF brdK E) (ks := (cellsAt b0 B p).map txtK) (P := fun v _ => v = .bl (decide (Holds (cellsAt b0 B p)))) (e1_holdsB hb (e1_board hb (ek_var sd1 rfl))) (fun H2 x2 => ev_known T (ev_var (sd1.ex x2) rfl) (fi.ex (x1.trans x2))) (ek_var sd1 rfl) (fun v H2 x2 _ => dn.ex (x1.trans x2)) d8 (by rw [kvF_len]; omega) fun v H2 H3 H4 x2 ev x3 hu dn4 t4 => ?_
    subst ev
    obtain ⟨u, rfl⟩ := hu
    have x23 := x2.trans x3
    have e2 : putK (kvF brdK E) (.tup ((cellsAt b0 B p).map txtK)) (.bl (decide (Holds (cellsAt b0 B p)))) = kvF brdK (E ++ [(cellsAt b0 B p, .bl (decide (Holds (cellsAt b0 B p))))]) := kvF_new (fun a b z => brd_inj z) _ hc
    rw [e2] at dn4
    have ek : (E ++ [(cellsAt b0 B p, V.bl (decide (Holds (cellsAt b0 B p))))]).map (·.1) = E.map (·.1) ++ [cellsAt b0 B p] := by rw [List.map_append]; rfl
    have v4 : ∀ e ∈ E ++ [(cellsAt b0 B p, V.bl (decide (Holds (cellsAt b0 B p))))], (∃ p, Box B p ∧ e.1 = cellsAt b0 B p) ∧ e.2 = .bl (decide (Holds e.1)) := fun e he => by
      rcases List.mem_append.mp he with he | he
      · exact vals e he
      · rw [List.mem_singleton] at he
        subst he
        exact ⟨⟨p, bx, rfl⟩, rfl⟩
    obtain ⟨vv, h1, h2⟩ := fin _ (fun e he => (v4 e he).2) (by rw [ek]; simp)
    have kd4 : KD w K d b0 B (upd H3 d u) := ⟨_, dn4, by rw [ek]; exact nodup_snoc nd1 hc, v4⟩
    have fi4 : FirmI CF fa d (upd H3 d u) := by
      obtain ⟨dx, e⟩ := (fi.ex (x1.trans x23))
      exact ⟨dx, by rw [upd_ne ad]; exact e⟩
    have sd4 := (sd1.ex x23).tx t4
    have xd4 : Xd d H (upd H3 d u) := fun b o nb z => by rw [upd_ne nb]; exact (x1.trans x23) _ _ z
    refine s_ret (e1_getN (w := w) (ks := (cellsAt b0 B p).map txtK) (ev_known T (ev_var sd4 rfl) fi4) (ek_var sd4 rfl) dn4 d8 h1) fun v H5 x5 e => ?_
    subst e
    rw [h2]
    exact q H5 (((ex_tx (x1.trans x23)).trans t4).trans (ex_tx x5)) (xd4.trans (Ex.xd x5)) (kd4.ex x5)
  · have hc : cellsAt b0 B p ∈ E.map (·.1) := by simpa using hc
    obtain ⟨vv, h1, h2⟩ := fin E (fun e he => (vals e he).2) hc
    have sd1 := sd.ex x1
    refine s_ret (D := { nx := fun _ H' => Q .non H', rt := Q }) (e1_getN (w := w) (ks := (cellsAt b0 B p).map txtK) (ev_known T (ev_var sd1 rfl) (fi.ex x1)) (ek_var sd1 rfl) (dn.ex x1) d8 h1) fun v H5 x5 e => ?_
    subst e
    show Q v H5
    rw [h2]
    exact q H5 (ex_tx (x1.trans x5)) (Ex.xd (x1.trans x5)) (kd.ex (x1.trans x5))
end Wx
end
section
set_option Elab.async false
set_option linter.all false
set_option maxRecDepth 100000
set_option maxHeartbeats 4000000
namespace Wx
open PySem PySem.Spec PyProof.Rows L2 Wv
open Evl (Ex ex_rd ex_l ex_t sq_of st_of fresh_back)
/-! ### firm_order -/
theorem g_pairK {K : PySem.W.Frag} {k1 k2 : NK} {i j : Nat} {σ : St} {H : Hp} {v : V} {Kt : St → Hp → Prop} (h : Dp K H v (NestedKey.tup [k1, k2]).data) (q : ∀ x y, Dp K H x k1.data → Dp K H y k2.data → Kt ((σ.set i (some x)).set j (some y)) H) : gTup K 2 (gCons (gName i) (gCons (gName j) gNil)) v σ H Kt := by
  cases h with
  | tup hs hd =>
    cases hd with
    | cons h1 hd =>
      cases hd with
      | cons h2 hd =>
        cases hd
        exact ⟨_, _, rfl, hs, rfl, _, _, rfl, _, _, rfl, rfl, q _ _ h1 h2⟩
def entK (b0 : Brd) (B : Bld) (e : Ent) : NK := .tup [stK b0 B e.1, numsK e.2]
def LE (K : PySem.W.Frag) (b0 : Brd) (B : Bld) (l : Addr) (H : Hp) (acc : List Ent) : Prop := ∃ ys, H l = some (.lst ys) ∧ DpAll K H ys (NestedKey.datas (acc.map (entK b0 B)))
structure FI (w : World) (K : PySem.W.Frag) (CF fa d mt : Addr) (b0 : Brd) (B : Bld) (H H' : Hp) (keys : List Plc) : Prop where
  xh : Ex H H'
  fi : FirmI CF fa d H'
  kd : KD w K d b0 B H'
  md : DN w K H' mt (kvF (stK b0 B) (keys.map fun q => (q, V.bl true)))
  nd : keys.Nodup
  bx : ∀ q ∈ keys, Box B q
section
variable {w : World} {K : PySem.W.Frag} {C d fa mt l CF : Addr} {R W : Nat} {b0 : Brd} {B : Bld} {H H' H1 H2 : Hp} {keys : List Plc} {acc : List Ent} {σ : St} {ta tc te tf : TE} {t t2 t3 : TT} {D : Ends} {tu tw : TS} {E : XK}
theorem FI.ex (h : FI w K CF fa d mt b0 B H H1 keys) (x : Ex H1 H2) : FI w K CF fa d mt b0 B H H2 keys := ⟨h.xh.trans x, h.fi.ex x, h.kd.ex x, h.md.ex x, h.nd, h.bx⟩
theorem LE.ex (x : Ex H H') (h : LE K b0 B l H acc) : LE K b0 B l H' acc := by
  obtain ⟨ys, h1, h2⟩ := h
  exact ⟨ys, x _ _ h1, DpAll.ex x _ _ h2⟩
theorem t_stands {p : Plc} (ho : EvV ta σ H (.ref fa)) (hc : EvK K tc σ H (brdK (cellsAt b0 B p))) (fi : FirmI CF fa d H) (kd : KD w K d b0 B H) (g : Gd R W b0 B) (bx : Box B p) (Q : Bool → Hp → Prop) (q : ∀ H', Tx H H' → Xd d H H' → KD w K d b0 B H' → Q (decide (hold b0 B p)) H') :
    tB (tMeth CF "stands" (spStands w CF K C) [] E ta (tCons tc tNil)) σ H Q := ho H (Ex.refl H) _ fun v H1 x1 ev => by
  subst ev
  obtain ⟨dx, ef⟩ := id fi
  refine ⟨fa, dx, _, rfl, x1 _ _ ef, rfl, hc H1 x1 _ fun c H2 x2 dc => ?_⟩
  have x12 := x1.trans x2
  exact ⟨R, W, b0, B, p, fa, d, g, bx, fi.ex x12, kd.ex x12, .cons rfl (.cons dc .nil), fun H' t xd kd' => ⟨_, rfl, q H' ((ex_tx x12).trans t) ((Ex.xd x12).trans xd) kd'⟩⟩
theorem q_parFirm {i j : Nat} {t2 : TE} {tz : TS} {P2 : Addr → V → Hp → Prop} (h2 : ∀ x H2, Ex H H2 → Ev1 t2 σ H2 (P2 x)) (q : ∀ x d dx v H2 H3, H x = none → H d = none → x ≠ d → Ex H H2 → H2 x = some (.ins CF dx [("known", .ref d)]) → DN w K H2 d [] → Ex H2 H3 → P2 x v H3 → tz D ((σ.set i (some (.ref x))).set j (some v)) H3) :
    tSeq (tPar i j (tCons (tMake CF (spFInit w CF K C) [] E tNil) (tCons t2 tNil))) tz D σ H := by
  show tMake CF (spFInit w CF K C) [] E tNil σ H (fun v H1 => t2 σ H1 fun u H2 => ∃ a b, [v, u] = [a, b] ∧ tz D ((σ.set i (some a)).set j (some b)) H2)
  exact ef_firm H _ fun x d dx H2 hx hd ne x2 e dn => h2 x H2 x2 H2 (Ex.refl _) _ fun v H3 x3 p => ⟨_, _, rfl, q x d dx v H2 H3 hx hd ne x2 e dn x3 p⟩
theorem q_parSt {i j : Nat} {t2 : TE} {tz : TS} {p : Plc} (ho : EvV ta σ H (.ref fa)) (hc : EvK K tc σ H (brdK (cellsAt b0 B p))) (fi : FirmI CF fa d H) (kd : KD w K d b0 B H) (g : Gd R W b0 B) (bx : Box B p) (q : ∀ H', Tx H H' → Xd d H H' → KD w K d b0 B H' →
      if decide (hold b0 B p) = true then te σ H' (fun v H1 => t2 σ H1 fun u H2 => ∃ a b, [v, u] = [a, b] ∧ tz D ((σ.set i (some a)).set j (some b)) H2) else tf σ H' (fun v H1 => t2 σ H1 fun u H2 => ∃ a b, [v, u] = [a, b] ∧ tz D ((σ.set i (some a)).set j (some b)) H2)) :
    tSeq (tPar i j (tCons (tIf (tB (tMeth CF "stands" (spStands w CF K C) [] E ta (tCons tc tNil))) te tf) (tCons t2 tNil))) tz D σ H := by
  show tB (tMeth CF "stands" (spStands w CF K C) [] E ta (tCons tc tNil)) σ H (fun c H1 => if c = true then te σ H1 (fun v H1 => t2 σ H1 fun u H2 => ∃ a b, [v, u] = [a, b] ∧ tz D ((σ.set i (some a)).set j (some b)) H2) else tf σ H1 (fun v H1 => t2 σ H1 fun u H2 => ∃ a b, [v, u] = [a, b] ∧ tz D ((σ.set i (some a)).set j (some b)) H2))
  exact t_stands ho hc fi kd g bx _ q
theorem ite_run {c : Bool} {Q : VK} {P : Addr → Hp → Prop} (h1 : c = true → EvF te σ H P) (h2 : c = false → EvF tf σ H P) (q : ∀ p H2, H p = none → Ex H H2 → P p H2 → Q (.ref p) H2) : if c = true then te σ H Q else tf σ H Q := by
  cases c with
  | true => rw [if_pos rfl]; exact h1 rfl H (Ex.refl H) Q q
  | false => rw [if_neg Bool.false_ne_true]; exact h2 rfl H (Ex.refl H) Q q
theorem s_ifAnd3 {a b : Bool} (h1 : EvT t σ H a) (h2 : a = true → EvT t2 σ H b) (no : (a && b) = false → ∀ H1, Ex H H1 → tw D σ H1) (yes : a = true → b = true → ∀ H1, Ex H H1 → t3 σ H1 (fun c H2 => if c = true then tu D σ H2 else tw D σ H2)) : tIfS (tAnd t (tAnd t2 t3)) tu tw D σ H := h1 H (Ex.refl H) _ fun H1 x1 => by
  cases a with
  | false =>
    rw [if_neg Bool.false_ne_true]
    show if false = true then _ else _
    rw [if_neg Bool.false_ne_true]; exact no rfl H1 x1
  | true =>
    rw [if_pos rfl]
    refine h2 rfl H1 x1 _ fun H2 x2 => ?_
    cases b with
    | false =>
      rw [if_neg Bool.false_ne_true]
      show if false = true then _ else _
      rw [if_neg Bool.false_ne_true]; exact no rfl H2 (x1.trans x2)
    | true =>
      rw [if_pos rfl]
      exact yes rfl rfl H2 (x1.trans x2)
end
structure OF (w : World) (K : PySem.W.Frag) (CF fa d mt l r : Addr) (b0 : Brd) (B : Bld) (xs : List V) (k : Nat) (H Hs H' : Hp) (acc : List Ent) : Prop where
  ex : ∃ keys, FI w K CF fa d mt b0 B H H' keys ∧ (∀ q, (q ∈ keys ∧ q.sum = k + 1) ↔ q ∈ acc.map (·.1)) ∧ ∀ q ∈ keys, q.sum ≤ k + 1
  tx : Tx Hs H'
  el : H' l = some (.lst xs)
  er : LE K b0 B r H' acc
  nd : (acc.map (·.1)).Nodup
theorem OF.ext {w : World} {K : PySem.W.Frag} {CF fa d mt l r : Addr} {b0 : Brd} {B : Bld} {xs : List V} {k : Nat} {H Hs H1 H2 : Hp} {acc : List Ent} (h : OF w K CF fa d mt l r b0 B xs k H Hs H1 acc) (x : Ex H1 H2) : OF w K CF fa d mt l r b0 B xs k H Hs H2 acc := by
  obtain ⟨keys, h1, h2⟩ := h.ex
  exact ⟨⟨keys, h1.ex x, h2⟩, h.tx.trans (ex_tx x), x _ _ h.el, h.er.ex x, h.nd⟩
noncomputable def foK (b0 : Brd) (B : Bld) : NK := if EF b0 B (zero B) then numsK (gr b0 B (total B)).2 else .none
theorem shp_ent {R W : Nat} {b0 : Brd} {B : Bld} (g : Gd R W b0 B) (e : Ent) : Shp 3 (entK b0 B e).data := shp_tupK fun k hk => by
  simp only [List.mem_cons, List.not_mem_nil, or_false] at hk
  rcases hk with rfl | rfl
  · exact shp_st g e.1
  · exact (shp_nums _).mono (by omega)
def spFirm (K : PySem.W.Frag) (C : Addr) : Sp := fun vs H Q _ => ∃ R W b0 B, Gd R W b0 B ∧ Ans K C [.brd H b0, .dat (bldK B)] (fun v H' => Dp K H' v (foK b0 B).data) vs H Q
theorem ok_firm_order {P : Program} {w : World} {K : PySem.W.Frag} {mg : Str → Option Value} {base : Heap} {CB CF AF : Addr} (kn : Kn K mg "firm_order" s_firm_order) (T : TX K mg CB CF AF) (c_need_builders : Cal P w K mg base 5 "need_builders" ["board", "builders"] (spNeedB K CB)) (c_first_state : Cal P w K mg base 3 "first_state" ["board", "builders"] (spFirst K CB)) (c_deed_done : Cal P w K mg base 3 "deed_done" ["builders", "state", "builder"] (spDone K CB)) (c_is_whole : Cal P w K mg base 1 "is_whole" ["builders", "state"] (spWhole K CB)) (c_Firm : Mak P w K mg base 1 CF ["self"] (spFInit w CF K CB)) (c_stands : Mth P w K mg base 6 CF "stands" ["self", "cells"] (spStands w CF K CB)) : Cal P w K mg base 7 "firm_order" ["board", "builders"] (spFirm K CB) := by
  have nd := sc_firm_order.nd
  refine Cal.mk kn sc_firm_order (fun _ _ _ _ _ _ us hl => match us, hl with | [_, _], _ => rfl) (fun vs H Q E h => ?_) (fun f cdv A outer s H vs Q E hr h => ⟨_, (pss_cons (ps_expr (c_need_builders.pe (hr.mono (by omega)) (by rfl) (pa_cons (pv 0) (pa_cons (pv 1) pa_nil))))
  (pss_cons (ps_par (i := 2) (j := 3) (by rfl) nd rfl rfl (by decide) rfl rfl (pa_cons (c_Firm.pe0 (hr.mono (by omega)) (by rfl) T.g_Firm) (pa_cons (c_first_state.pe (hr.mono (by omega)) (by rfl) (pa_cons (pv 0) (pa_cons (pv 1) pa_nil))) pa_nil)) (by rfl))
  (pss_cons (ps_par (i := 4) (j := 5) (by rfl) nd rfl rfl (by decide) rfl rfl (pa_cons (pe_ifExp (pt_val (c_stands.pe (pv 2) T.clF (hr.mono (by omega)) (pa_cons (pe_ix ix_tup (pv 3) pe_int (fun _ _ => rfl)) pa_nil))) (pe_lst (pa_cons (pe_tup (pa_cons (pv 3) (pa_cons (pe_tup pa_nil) pa_nil))) pa_nil)) (pe_lst pa_nil)) (pa_cons (pe_dispN hr.units (pv 3) pe_bl) pa_nil)) (by rfl))
  (pss_cons (ps_while PassesOwn.never (pt_cmpR (op_neD hr.units) (pv 4) (pe_lst pa_nil) (nomark _))
  (pss_cons (ps_set (i := 6) nd rfl (by first | exact Or.inl rfl | exact Or.inr rfl) (pe_lst pa_nil))
  (pss_cons (ps_for PassesOwn.never (by rfl) (pi_list (pv 4)) (pg_tup (by rfl) (pgs_cons (pg_name (i := 7) nd rfl (by first | exact Or.inl rfl | exact Or.inr rfl)) (pgs_cons (pg_name (i := 8) nd rfl (by first | exact Or.inl rfl | exact Or.inr rfl)) pgs_nil)))
  (pss_cons (ps_if (pt_val (c_is_whole.pe (hr.mono (by omega)) (by rfl) (pa_cons (pv 1) (pa_cons (pv 7) pa_nil)))) (pss_one (ps_ret (pv 8))) pss_nil)
  (pss_one (ps_for PassesOwn.never (by rfl) (pi_range1 (by rfl) T.z_range (pa_cons (pe_callB call_len_seq (by rfl) T.z_len PySem.boot_len (pa_cons (pv 1) pa_nil)) pa_nil)) (pg_name (i := 9) nd rfl (by first | exact Or.inl rfl | exact Or.inr rfl))
  (pss_cons (ps_set (i := 10) nd rfl (by first | exact Or.inl rfl | exact Or.inr rfl) (c_deed_done.pe (hr.mono (by omega)) (by rfl) (pa_cons (pv 1) (pa_cons (pv 7) (pa_cons (pv 9) pa_nil)))))
  (pss_one (ps_if (PW.pt (pw_and (pt_cmpR op_notN (pv 10) pe_non (nomark _)) (pw_and (pt_cmpR (op_notInN hr.units) (pv 10) (pv 5) (by with_unfolding_all rfl)) (pw_and1 (pt_val (c_stands.pe (pv 2) T.clF (hr.mono (by omega)) (pa_cons (pe_ix ix_tup (pv 10) pe_int (fun _ _ => rfl)) pa_nil))))))) (pss_cons (ps_asg pe_bl (pg_sub (pv 5) (pv 10) (set_N hr.units)))
  (pss_one (ps_expr (pe_bm PySem.F.plainAttrs_list PySem.F.slot_list_append PySem.F.type_list_append mt_append (pv 6) (pa_cons (pe_tup (pa_cons (pv 10) (pa_cons (pe_op op_catA (pv 8) (pe_tup (pa_cons (pv 9) pa_nil))) pa_nil))) pa_nil))))) pss_nil)))))))
  (pss_one (ps_set (i := 4) nd rfl (by first | exact Or.inl rfl | exact Or.inr rfl) (pv 6))))))
  (pss_one (ps_ret pe_non)))))), ?_⟩)
  · obtain ⟨R, W, b0, B, g, a⟩ := h
    exact (Paired.length a.1 :)
  obtain ⟨R, W, b0, B, g, a⟩ := h
  obtain ⟨hp, q⟩ := a
  have sd := sd_start (N := ["board", "builders", "firm", "begin", "layer", "met", "later", "state", "order", "builder", "there"]) hp
  try dsimp only [cxOf, Cx.nox]
  have m2 := g.few.most
  have hlB : (B.map dsK).length = B.length := List.length_map _
  refine q_of (s_drop (e1_ansX (P := fun v _ => v = .non) (ea_two (s1 := .brd H b0) (s2 := .dat (bldK B)) (eb_var sd rfl) (ek_var sd rfl)) fun vs H1 Q x a => ⟨R, W, b0, B, g, a.brd x⟩) fun v H1 x1 _ => ?_)
  have sd1 := sd.ex x1
  refine q_parFirm (P2 := fun _ v H' => Dp K H' v (stK b0 B (zero B)).data) (fun x H2 x2 => e1_ansX (ea_two (s1 := .brd H b0) (s2 := .dat (bldK B)) (eb_var (sd1.ex x2) rfl) (ek_var (sd1.ex x2) rfl)) fun vs H1' Q x a => ⟨R, W, b0, B, g, a.brd ((x1.trans x2).trans x)⟩) fun fa d dx v H2 H3 hfa hd nfd x2 efa dn0 x3 dv => ?_
  have frfa : H fa = none := fresh_back x1 hfa
  have frd : H d = none := fresh_back x1 hd
  have x13 := (x1.trans x2).trans x3
  have sd3 := ((sd1.ex (x2.trans x3)).set (i := 2) (o := some (.ref fa)) (s := .val (.ref fa)) rfl).set (i := 3) (s := .dat (stK b0 B (zero B))) ⟨v, rfl, dv⟩
  have fi3 : FirmI CF fa d H3 := ⟨dx, x3 _ _ efa⟩
  have kd3 : KD w K d b0 B H3 := ⟨[], dn0.ex x3, by simp, fun e he => by cases he⟩
  refine q_parSt (g := g) (p := zero B) (ev_var sd3 rfl) (ek_ixT (ks := stL b0 B (zero B)) (ek_var sd3 rfl) ek_int rfl) fi3 kd3 (bx := Box.zero B) fun H4 t4 xd4 kd4 => ?_
  have xh4 : Ex H H4 := Xd.back x13 xd4 frd
  have sd4 := sd3.tx t4
  have fi4 : FirmI CF fa d H4 := ⟨dx, xd4 _ _ nfd (x3 _ _ efa)⟩
  refine ite_run (P := fun l H5 => LE K b0 B l H5 (layF b0 B 0)) (fun hc => (en_lst (C := CB) (ea_one (s := .dat (entK b0 B (zero B, []))) (ek_tup (C := CB) (ks := [stK b0 B (zero B), numsK []]) (ea_two (s1 := .dat (stK b0 B (zero B))) (s2 := .dat (numsK [])) (ek_var sd4 rfl) (ek_tup (C := CB) (ks := []) ea_nil (by simp))) (by simp))) (by simp)).f.mono fun l H5 _ z => ?_) (fun hc => en_nil.f.mono fun l H5 _ z => ?_) fun l H5 hl x5 el => ?_
  · obtain ⟨xs, e, pr⟩ := z
    have : layF b0 B 0 = [(zero B, [])] := if_pos (of_decide_eq_true hc)
    rw [this]
    exact ⟨xs, e, pair_dats (ks := [entK b0 B (zero B, [])]) pr⟩
  · obtain ⟨xs, e, rfl⟩ := z
    have : layF b0 B 0 = [] := if_neg (of_decide_eq_false hc)
    rw [this]
    exact ⟨[], e, .nil⟩
  have sd5 := sd4.ex x5
  refine (ef_dispN (w := w) (ks := stL b0 B (zero B)) (P := fun v _ => v = .bl true) (ek_var sd5 rfl) ev_c (depth_stL _ _ _) fun v H1 H2 t z => z) H5 (Ex.refl _) _ fun mt H6 hmt x6 dn6 => ⟨_, _, rfl, ?_⟩
  obtain ⟨v6, dn6, ev6⟩ := dn6
  subst ev6
  have frmt : H mt = none := fresh_back (xh4.trans x5) hmt
  have dmt : d ≠ mt := fun z => by
    subst z
    obtain ⟨E, dnk, _⟩ := kd4.ex x5
    exact dnk.nn hmt
  have famt : fa ≠ mt := fun z => by
    subst z
    obtain ⟨dx', e⟩ := fi4.ex x5
    rw [e] at hmt; cases hmt
  have sd6 := ((sd5.ex x6).set (i := 4) (o := some (.ref l)) (s := .val (.ref l)) rfl).set (i := 5) (o := some (.ref mt)) (s := .val (.ref mt)) rfl
  have fi0 : FI w K CF fa d mt b0 B H H6 [zero B] := ⟨(xh4.trans x5).trans x6, fi4.ex (x5.trans x6), kd4.ex (x5.trans x6), dn6, by simp, fun q hq => by
    rw [List.mem_singleton] at hq
    subst hq; exact Box.zero B⟩
  refine q_of (Evl.s_while (fun m σ'' H'' => ∃ k l keys, m = total B + 1 - k ∧ SD K CB H'' σ'' [.brd H b0, .dat (bldK B), .val (.ref fa), .dat (stK b0 B (zero B)), .val (.ref l), .val (.ref mt), .un, .un, .un, .un, .un] ∧ LE K b0 B l H'' (layF b0 B k) ∧ FI w K CF fa d mt b0 B H H'' keys ∧ (∀ q ∈ keys, q.sum ≤ k) ∧ ∀ j, j < k → ∀ e ∈ layF b0 B j, ¬ Full B e.1) _ ⟨0, l, [zero B], rfl, sd6, el.ex x6, fi0, fun q hq => by
      rw [List.mem_singleton] at hq
      subst hq; rw [zero_sum]; exact Nat.le_refl 0, fun j hj => absurd hj (by omega)⟩ fun m σ7 H7 hw => ?_)
  clear sd6 sd5 sd4 sd3 sd1 sd fi0 el hl x5 x6 hmt dn6
  obtain ⟨k, l, keys, em, s7, le7, fi7, ks7, nf7⟩ := hw
  obtain ⟨xs, el, dl⟩ := le7
  refine ⟨!(layF b0 B k).isEmpty, ?_, fun hne H8 x8 => ?_, fun hne H8 x8 => ?_⟩
  · refine Evl.et_is (et_test (eb_neD (d := lsD ((layF b0 B k).map (entK b0 B))) (d' := .list []) ((ev_var s7 rfl).mono fun v H5 x5 e => by subst e; exact .lst (SqL.of (x5 _ _ el)) (DpAll.ex x5 _ _ dl)) e1_nil ((shp_lstK (n := 3) fun k hk => by
      obtain ⟨p, _, rfl⟩ := List.mem_map.mp hk
      exact shp_ent g p).ok (by omega)) (shp_nil.ok (by omega)))) ?_
    unfold lsD
    rw [eqv_lnil, datas_map]
    cases layF b0 B k <;> rfl
  · have hne' : layF b0 B k ≠ [] := fun z => by rw [z] at hne; cases hne
    have hk := layF_le hne'
    have h18 := total_le g.few
    refine ⟨_, fun _ _ z => z, ?_⟩
    refine q_setN (s7.ex x8) en_nil fun r ys σ9 H9 hr x9 er e0 s9 => ?_
    subst e0
    have frr : H r = none := fresh_back (fi7.xh.trans x8) hr
    have lr : l ≠ r := fun z => by rw [← z, x8 _ _ el] at hr; cases hr
    have x89 := x8.trans x9
    refine q_of (s_forLK (ks := (layF b0 B k).map (entK b0 B)) (ev_var s9 rfl) (x89 _ _ el) (DpAll.ex x89 _ _ dl) fun Ha xa => ⟨fun j σ' H' => SD K CB H' σ' [.brd H b0, .dat (bldK B), .val (.ref fa), .dat (stK b0 B (zero B)), .val (.ref l), .val (.ref mt), .val (.ref r), .un, .un, .un, .un] ∧ OF w K CF fa d mt l r b0 B xs k H Ha H' (((layF b0 B k).take j).foldl (rowF b0 B) []) ∧ ∀ e ∈ (layF b0 B k).take j, ¬ Full B e.1,
      ⟨s9.ex xa, ⟨⟨keys, fi7.ex (x89.trans xa), fun q => ⟨fun z => by have := ks7 q z.1; omega, fun z => by simp at z⟩, fun q hq => by have := ks7 q hq; omega⟩, Tx.refl _, (x89.trans xa) _ _ el, ⟨[], xa _ _ er, .nil⟩, by simp⟩, by simp⟩, fun j σ' H' p => ⟨p.2.1.tx, p.2.1.el⟩, fun j kk σ' H' hj p v dv => ?_, fun σ' H' p => ?_⟩)
    · obtain ⟨sa, oa, nfa⟩ := p
      obtain ⟨e, he, rfl⟩ := map_get hj
      have me : e ∈ layF b0 B k := List.mem_of_getElem? he
      have ok := layF_ok k e me
      have bx := ok.box
      refine g_pairK (k1 := stK b0 B e.1) (k2 := numsK e.2) dv fun x y dx dy => ?_
      have sb := (sa.set (i := 7) (s := .dat (stK b0 B e.1)) ⟨x, rfl, dx⟩).set (i := 8) (s := .dat (numsK e.2)) ⟨y, rfl, dy⟩
      have ej : ((layF b0 B k).take (j + 1)).foldl (rowF b0 B) [] = (List.range B.length).foldl (stepF b0 B e) (((layF b0 B k).take j).foldl (rowF b0 B) []) := by
        rw [List.take_succ, he, List.foldl_append]; rfl
      obtain ⟨_, fia, _⟩ := oa.ex
      refine q_if (c := fullB B e.1) (et_B (e1_ans (ea_two (s1 := .dat (bldK B)) (s2 := .dat (stK b0 B e.1)) (ek_var sb rfl) (ek_var sb rfl)) fun vs H1 Q a => ⟨R, W, b0, B, e.1, g, bx, a⟩)) (fun hf Hb xb => ?_) fun hf Hb xb => ?_
      · obtain ⟨h1, h2⟩ := firm_found me (fullB_iff.mp hf)
        refine (ek_var (k := numsK e.2) (sb.ex xb) rfl) Hb (Ex.refl _) _ fun v Hc xc dv => q v Hc ((fia.xh.trans xb).trans xc) ?_
        unfold foK
        rw [if_pos h1, ← h2]; exact dv
      have nfe : ¬ Full B e.1 := fun z => by rw [fullB_iff.mpr z] at hf; cases hf
      have sc := sb.ex xb
      have oc := oa.ext xb
      refine s_forR (n := B.length) (EvK.is (ek_lenT (ks := B.map dsK) (ek_var sc rfl)) (by rw [hlB])) (by omega) fun Hd xd => ⟨fun i σ'' H'' => SD K CB H'' σ'' [.brd H b0, .dat (bldK B), .val (.ref fa), .dat (stK b0 B (zero B)), .val (.ref l), .val (.ref mt), .val (.ref r), .dat (stK b0 B e.1), .dat (numsK e.2), .un, .un] ∧ OF w K CF fa d mt l r b0 B xs k H Ha H'' ((List.range i).foldl (stepF b0 B e) (((layF b0 B k).take j).foldl (rowF b0 B) [])), ⟨sc.ex xd, oc.ext xd⟩, fun i σ'' H'' hi p2 => ?_, fun σ'' H'' p2 => ⟨p2.1.drops [7, 8], by rw [ej]; exact p2.2, fun e' he' => ?_⟩⟩
      rotate_left
      · rw [List.take_succ, he] at he'
        rcases List.mem_append.mp he' with z | z
        · exact nfa e' z
        · simp at z; subst z; exact nfe
      obtain ⟨se, oe⟩ := p2
      have ei : (List.range (i + 1)).foldl (stepF b0 B e) (((layF b0 B k).take j).foldl (rowF b0 B) []) = stepF b0 B e ((List.range i).foldl (stepF b0 B e) (((layF b0 B k).take j).foldl (rowF b0 B) [])) i := by
        rw [List.range_succ, List.foldl_append]; rfl
      generalize (List.range i).foldl (stepF b0 B e) (((layF b0 B k).take j).foldl (rowF b0 B) []) = acc at oe ei
      have sf := se.set (i := 9) (o := some (.int (i : Int))) (s := .dat (numK i)) ⟨_, rfl, .int _⟩
      refine q_set (s := .dat (nxK b0 B e.1 i)) sf (e1_ans (ea_three (s1 := .dat (bldK B)) (s2 := .dat (stK b0 B e.1)) (s3 := .dat (numK i)) (ek_var sf rfl) (ek_var sf rfl) (ek_var sf rfl)) fun vs H1 Q a => ⟨R, W, b0, B, e.1, i, g, bx, hi, a⟩) fun σg Hg xg sg => ?_
      have og := oe.ext xg
      by_cases hlt : pl e.1 i < sz B i
      · have en : nxK b0 B e.1 i = stK b0 B (inc e.1 i) := if_pos hlt
        rw [en] at sg
        have hi' : i < e.1.length := by rw [bx.len]; exact hi
        have si : (inc e.1 i).sum = k + 1 := by rw [sum_inc hi', ok.sum]
        have bxi := bx.inc hi hlt
        obtain ⟨kys, fig, kacc, kle⟩ := og.ex
        have hmap : (kys.map fun q => (q, V.bl true)).map (·.1) = kys := by rw [List.map_map]; exact List.map_id _
        refine s_ifAnd3 (a := true) (b := decide (inc e.1 i ∉ kys)) (et_test (e1_notN true (ek_var (k := stK b0 B (inc e.1 i)) sg rfl) fun v H2 dv => by cases dv; rfl)) (fun _ => Evl.et_is (et_test (eb_notInN (w := w) (ks := stL b0 B (inc e.1 i)) (ek_var sg rfl) (ev_var sg rfl) fig.md (depth_stL _ _ _))) ?_) (fun hc Hh xh => ?_) fun _ hc Hh xh => ?_
        · rw [show NestedKey.tup (stL b0 B (inc e.1 i)) = stK b0 B (inc e.1 i) from rfl, kvF_has (fun a b z => st_inj z), hmap]; simp
        · have hc : inc e.1 i ∈ kys := by simpa using hc
          have ea : stepF b0 B e acc i = acc := if_neg fun z => z.2.1 ((kacc _).mp ⟨hc, si⟩)
          exact ⟨(sg.ex xh).drops [9, 10], by rw [ei, ea]; exact og.ext xh⟩
        · have hc : inc e.1 i ∉ kys := of_decide_eq_true hc
          have nacc : inc e.1 i ∉ acc.map (·.1) := fun z => hc ((kacc _).mpr z).1
          have sh := sg.ex xh
          have fih := fig.ex xh
          refine t_stands (g := g) (p := inc e.1 i) (ev_var sh rfl) (ek_ixT (ks := stL b0 B (inc e.1 i)) (ek_var sh rfl) ek_int rfl) fih.fi fih.kd (bx := bxi) _ fun Hi ti xdi kdi => ?_
          have oh := og.ext xh
          have xhi : Ex H Hi := Xd.back fih.xh xdi frd
          have nfa : fa ≠ d := nfd
          have fii : FirmI CF fa d Hi := by
            obtain ⟨dx', e⟩ := fih.fi
            exact ⟨dx', xdi _ _ nfa e⟩
          have mdi := fih.md.tx ti fun o z => xdi _ _ dmt.symm z
          obtain ⟨zs, ez, dz⟩ := oh.er
          have nd : ∀ {x : Addr} {us : List V}, Hh x = some (.lst us) → x ≠ d := fun ex => by
            obtain ⟨E, dnk, _⟩ := fih.kd
            exact dnk.ne ex
          have ezi := xdi _ _ (nd ez) ez
          have eli := xdi _ _ (nd oh.el) oh.el
          have dzi := DpAll.tx ti _ _ dz
          have fi2 : FI w K CF fa d mt b0 B H Hi kys := ⟨xhi, fii, kdi, mdi, fih.nd, fih.bx⟩
          have s_i := sh.tx ti
          by_cases hh : hold b0 B (inc e.1 i)
          · rw [decide_eq_true hh, if_pos rfl]
            have kl := box_few g.few fih.nd fih.bx
            refine q_putN (w := w) (d := mt) (kvs := kvF (stK b0 B) (kys.map fun q => (q, V.bl true))) (ks := stL b0 B (inc e.1 i)) (P := fun v _ => v = .bl true) ev_c (fun H2 x2 => ev_var (s_i.ex x2) rfl) (ek_var s_i rfl) (fun v H2 x2 _ => mdi.ex x2) (depth_stL _ _ _) (by rw [kvF_len, List.length_map]; omega) fun v Hj Hk Hl xj ev xk hu dnl tl => ?_
            subst ev
            obtain ⟨u, rfl⟩ := hu
            have xjk := xj.trans xk
            have e2 : putK (kvF (stK b0 B) (kys.map fun q => (q, V.bl true))) (.tup (stL b0 B (inc e.1 i))) (.bl true) = kvF (stK b0 B) ((kys ++ [inc e.1 i]).map fun q => (q, V.bl true)) := by
              rw [List.map_append]
              exact kvF_new (fun a b z => st_inj z) _ (by rw [hmap]; exact hc)
            rw [e2] at dnl
            have rmt : r ≠ mt := mdi.ne ezi
            have lmt : l ≠ mt := mdi.ne eli
            have ezl : (upd Hk mt u) r = some (.lst zs) := by rw [upd_ne rmt]; exact xjk _ _ ezi
            have s_l := (s_i.ex xjk).tx tl
            have zl : zs.length ≤ 343 := by
              rw [dpAll_len dz, datas_len, List.length_map]
              have := box_few g.few oh.nd fun q hq => fih.bx q ((kacc q).mpr hq).1
              rwa [List.length_map] at this
            refine s_app (tx := tVar 0) (ev_var s_l rfl) ezl (ek_tup (C := CB) (ks := [stK b0 B (inc e.1 i), numsK (e.2 ++ [i])]) (ea_two (s1 := .dat (stK b0 B (inc e.1 i))) (s2 := .dat (numsK (e.2 ++ [i]))) (ek_var s_l rfl) (EvK.is (ek_cat (a := e.2.map numK) (b := [numK i]) (ek_var s_l rfl) (ek_tup (C := CB) (ks := [numK i]) (ea_one (s := .dat (numK i)) (ek_var s_l rfl)) (by simp)) (by rw [List.length_map, ok.len, List.length_singleton]; omega)) (by unfold numsK; rw [List.map_append]; rfl))) (by simp)) (by omega) fun v2 Hm xm dv2 => ?_
            have ezm := xm _ _ ezl
            have tm : Tx Hm (upd Hm r (.lst (zs ++ [v2]))) := tx_lst ezm
            have tall : Tx Hi (upd Hm r (.lst (zs ++ [v2]))) := (((ex_tx xjk).trans tl).trans (ex_tx xm)).trans tm
            have ea : stepF b0 B e acc i = acc ++ [(inc e.1 i, e.2 ++ [i])] := if_pos ⟨hlt, nacc, hh⟩
            have keep : ∀ {x : Addr} {o : HO}, x ≠ mt → x ≠ r → Hi x = some o → (upd Hm r (.lst (zs ++ [v2]))) x = some o := fun h1 h2 h3 => by
              rw [upd_ne h2]
              exact xm _ _ (by rw [upd_ne h1]; exact xjk _ _ h3)
            have far : fa ≠ r := fun z => by
              subst z
              obtain ⟨dx', e⟩ := fii
              rw [e] at ezi; cases ezi
            refine ⟨((s_l.ex xm).tx tm).drops [9, 10], ?_⟩
            rw [ei, ea]
            refine ⟨⟨kys ++ [inc e.1 i], ⟨Ex.mut ((Ex.mut (xhi.trans xjk) frmt).trans xm) frr, ?_, ?_, (dnl.ex xm).lst ezm, nodup_snoc fih.nd hc, fun q hq => ?_⟩, fun q => ?_, fun q hq => ?_⟩, (oh.tx.trans ti).trans tall, keep lmt lr eli, ⟨_, upd_same, ?_⟩, ?_⟩
            · obtain ⟨dx', e⟩ := fii
              exact ⟨dx', keep famt far e⟩
            · exact kdi.tx tall fun o z => keep dmt (nd ez).symm z
            · rcases List.mem_append.mp hq with hq | hq
              · exact fih.bx q hq
              · rw [List.mem_singleton] at hq
                subst hq; exact bxi
            · rw [List.map_append, List.mem_append, List.mem_append, ← kacc]
              constructor
              · rintro ⟨h1 | h1, h2⟩
                · exact .inl ⟨h1, h2⟩
                · exact .inr (by simpa using h1)
              · rintro (h1 | h1)
                · exact ⟨.inl h1.1, h1.2⟩
                · have : q = inc e.1 i := by simpa using h1
                  subst this
                  exact ⟨.inr (by simp), si⟩
            · rcases List.mem_append.mp hq with hq | hq
              · exact kle q hq
              · rw [List.mem_singleton] at hq
                subst hq; omega
            · rw [List.map_append, datas_app]
              exact dpAll_app (DpAll.tx tall _ _ dzi) (.cons (Dp.tx tm (entK b0 B (inc e.1 i, e.2 ++ [i])) _ dv2) .nil)
            · rw [List.map_append]
              exact nodup_snoc oh.nd nacc
          · rw [decide_eq_false hh, if_neg Bool.false_ne_true]
            have ea : stepF b0 B e acc i = acc := if_neg fun z => hh z.2.2
            exact ⟨s_i.drops [9, 10], by rw [ei, ea]; exact ⟨⟨kys, fi2, kacc, kle⟩, oh.tx.trans ti, eli, ⟨zs, ezi, dzi⟩, oh.nd⟩⟩
      · have en : nxK b0 B e.1 i = .none := if_neg hlt
        rw [en] at sg
        have ea : stepF b0 B e acc i = acc := if_neg fun z => hlt z.1
        exact s_ifAnd3 (a := false) (b := false) (et_test (e1_notN false (ek_var (k := .none) sg rfl) fun v H2 dv => by rw [dp_non dv]; rfl)) (fun z => nomatch z) (fun _ Hh xh => ⟨(sg.ex xh).drops [9, 10], by rw [ei, ea]; exact og.ext xh⟩) fun z => nomatch z
    · obtain ⟨sa, oa, nfa⟩ := p
      rw [List.length_map, List.take_length] at oa nfa
      refine s_set (s := .val (.ref r)) sa (ev_var sa rfl) fun σb Hb xb sb => ?_
      have ob := oa.ext xb
      obtain ⟨kys, fib, kacc, kle⟩ := ob.ex
      exact ⟨total B + 1 - (k + 1), by omega, k + 1, r, kys, rfl, sb.drops [6], ob.er, fib, kle, fun j hj e he => by
        by_cases h : j = k
        · subst h; exact nfa e he
        · exact nf7 j (by omega) e he⟩
  · have e0 : layF b0 B k = [] := by
      cases h : layF b0 B k with
      | nil => rfl
      | cons a r => rw [h] at hne; cases hne
    have hn := firm_none e0 nf7
    refine q .non H8 (fi7.xh.trans x8) ?_
    unfold foK
    rw [if_neg hn]; exact .non
end Wx
end
section
set_option Elab.async false
set_option linter.all false
set_option maxRecDepth 100000
set_option maxHeartbeats 4000000
namespace Wx
open PySem PySem.Spec PyProof.Rows L2 Wv
open Evl (Ex ex_rd ex_l ex_t sq_of st_of fresh_back)
/-! ### the law's own: put, next_cells, many, steps -/
def spLPut (K : PySem.W.Frag) (C : Addr) : Sp := fun vs H Q _ => ∃ R W b r c s, Brd5 R W b ∧ r < R ∧ c < W ∧ Ans K C [.dat (brdK b), .dat (numK r), .dat (numK c), .dat (txtK [s])] (fun v H' => Dp K H' v (brdK (put b r c s)).data) vs H Q
theorem ok_l_put {P : Program} {w : World} {K : PySem.W.Frag} {mg : Str → Option Value} {base : Heap} {CB CF AF : Addr} (kn : Kn K mg "_law_put" s__law_put) (T : TX K mg CB CF AF)  : Cal P w K mg base 1 "_law_put" ["_law_cells_here", "_law_at", "_law_place", "_law_sign"] (spLPut K CB) := by
  have nd := sc__law_put.nd
  refine Cal.mk kn sc__law_put (fun _ _ _ _ _ _ us hl => match us, hl with | [_, _, _, _], _ => rfl) (fun vs H Q E h => ?_) (fun f cdv A outer s H vs Q E hr h => ⟨_, (pss_cons (ps_set (i := 4) nd rfl (by first | exact Or.inl rfl | exact Or.inr rfl) (pe_op op_add_str (pe_op op_add_str (pe_slice sl_str (pe_ix ix_tup (pv 0) (pv 1) (fun _ _ => rfl)) po_none (po_some (pv 2))) (pv 3)) (pe_slice sl_str (pe_ix ix_tup (pv 0) (pv 1) (fun _ _ => rfl)) (po_some (pe_op op_add (pv 2) pe_int)) po_none)))
  (pss_one (ps_ret (pe_op op_catA (pe_op op_catA (pe_slice sl_tupA (pv 0) po_none (po_some (pv 1))) (pe_tup (pa_cons (pv 4) pa_nil))) (pe_slice sl_tupA (pv 0) (po_some (pe_op op_add (pv 1) pe_int)) po_none))))), ?_⟩)
  · obtain ⟨R, W, b, r, c, s, hb, hr5, hc, a⟩ := h
    exact (Paired.length a.1 :)
  obtain ⟨R, W, b, r, c, s, hb, hr5, hc, a⟩ := h
  obtain ⟨hp, q⟩ := a
  have sd := sd_start (N := ["_law_cells_here", "_law_at", "_law_place", "_law_sign", "_law_line"]) hp
  try dsimp only [cxOf, Cx.nox]
  have hll := hb.r.line r hr5
  have w5 := hb.W5
  have r5 := hb.R5
  refine q_set (s := .dat (txtK ((b.getD r []).set c s))) sd (ek_putS (l := b.getD r []) (c := s) (n := c) (ek_ixT (ks := b.map txtK) (ek_var sd rfl) (ek_var sd rfl) (hb.get hr5)) (ek_var sd rfl) (ek_var sd rfl) (ek_ixT (ks := b.map txtK) (ek_var sd rfl) (ek_var sd rfl) (hb.get hr5)) (ek_succ (ek_var sd rfl)) (by omega) (by omega)) fun σ1 H1 x1 sd1 => ?_
  refine s_ret (EvK.is (ek_putT (ks := b.map txtK) (n := r) (ek_var sd1 rfl) (ek_var sd1 rfl) (ek_var sd1 rfl) (ek_var sd1 rfl) (ek_succ (ek_var sd1 rfl)) (by rw [hb.lenK]; exact hr5) (by rw [hb.lenK]; omega)) (by rw [map_set]; rfl)) fun v H2 x2 dv => q v H2 (x1.trans x2) dv
def spLNext (K : PySem.W.Frag) (C : Addr) : Sp := fun vs H Q _ => ∃ R W b d, Brd5 R W b ∧ DeedIn R W d ∧ Ans K C [.dat (brdK b), .dat (dK d)] (fun v H' => Dp K H' v (brdK (d.ap b)).data) vs H Q
theorem ok_l_next_cells {P : Program} {w : World} {K : PySem.W.Frag} {mg : Str → Option Value} {base : Heap} {CB CF AF : Addr} (kn : Kn K mg "_law_next_cells" s__law_next_cells) (T : TX K mg CB CF AF) (c_l_put : Cal P w K mg base 1 "_law_put" ["_law_cells_here", "_law_at", "_law_place", "_law_sign"] (spLPut K CB)) : Cal P w K mg base 2 "_law_next_cells" ["_law_cells_here", "_law_deed"] (spLNext K CB) := by
  have nd := sc__law_next_cells.nd
  refine Cal.mk kn sc__law_next_cells (fun _ _ _ _ _ _ us hl => match us, hl with | [_, _], _ => rfl) (fun vs H Q E h => ?_) (fun f cdv A outer s H vs Q E hr h => ⟨_, (pss_one (ps_ret (c_l_put.pe (hr.mono (by omega)) (by rfl) (pa_cons (pv 0) (pa_cons (pe_ix ix_tup (pv 1) pe_int (fun _ _ => rfl)) (pa_cons (pe_ix ix_tup (pv 1) pe_int (fun _ _ => rfl)) (pa_cons (pe_ifExp (pt_cmpR op_eq (pe_ix ix_tup (pv 1) pe_int (fun _ _ => rfl)) pe_str (nomark _)) (pe_ix ix_tup (pv 1) pe_int (fun _ _ => rfl)) pe_str) pa_nil))))))), ?_⟩)
  · obtain ⟨R, W, b, d, hb, hd, a⟩ := h
    exact (Paired.length a.1 :)
  obtain ⟨R, W, b, d, hb, hd, a⟩ := h
  obtain ⟨hp, q⟩ := a
  have sd := sd_start (N := ["_law_cells_here", "_law_deed"]) hp
  try dsimp only [cxOf, Cx.nox]
  refine s_ret (e1_ans (P := fun v H' => Dp K H' v (brdK (d.ap b)).data) (ea_cons (s := .dat (brdK b)) (ek_var sd rfl) (ea_three (s1 := .dat (numK d.r)) (s2 := .dat (numK d.c)) (s3 := .dat (txtK [d.s])) (ek_dr (d := d) (ek_var sd rfl)) (ek_dc (d := d) (ek_var sd rfl)) (e1_if (c := d.fill) (et_test (eb_isF (d := d) (ek_var sd rfl))) (fun hf => ek_ds hf (ek_var sd rfl)) fun hf => EvK.is ek_str (by rw [hd.cut hf]; exact congrArg NestedKey.text toS46.symm)))) fun vs H1 Q a => ⟨R, W, b, d.r, d.c, d.s, hb, hd.r, hd.c, a⟩) q
def spLMany (K : PySem.W.Frag) (C : Addr) : Sp := fun vs H Q _ => ∃ R W b, Brd5 R W b ∧ Ans K C [.dat (brdK b)] (fun v H' => Dp K H' v (numK (R + W)).data) vs H Q
section
variable {K : PySem.W.Frag} {H : Hp} {σ : St} {ta te : TE} {b : Brd} {R W : Nat}
theorem ek_lenB (hb : Brd5 R W b) (h : EvK K ta σ H (brdK b)) : EvK K (tCB (fun xs H Q => ∃ p ys, xs = [.ref p] ∧ (SqL K H p ys ∨ SqT K H p ys) ∧ Q (.int ys.length) H) (tCons ta tNil)) σ H (numK R) := EvK.is (ek_lenT (ks := b.map txtK) h) (by rw [hb.lenK]; rfl)
theorem ek_lenW (hb : Brd5 R W b) (h : EvK K ta σ H (brdK b)) : EvK K (tCB (fun xs H Q => ∃ z, xs = [.str z] ∧ z.length ≤ sizeLine ∧ Q (.int z.length) H) (tCons (tOp (rIxT K) ta (tC (.int 0))) tNil)) σ H (numK W) := by
  have l0 : (b.getD 0 []).length = W := hb.r.line 0 hb.R1
  refine EvK.is (ek_lenS (ek_ixT (ks := b.map txtK) h ek_int (hb.get hb.R1)) (Nat.le_trans (Nat.le_of_eq l0) (by have := hb.W5; omega))) ?_
  rw [l0]; rfl
/-- cells[r][c] -/
theorem ek_cell (hb : Brd5 R W b) {r c : Nat} {tr tc : TE} (h : EvK K ta σ H (brdK b)) (h1 : EvK K tr σ H (numK r)) (h2 : EvK K tc σ H (numK c)) (hr : r < R) (hc : c < W) : EvK K (tOp rIxS (tOp (rIxT K) ta tr) tc) σ H (txtK [at2 b r c]) :=
  ek_ixS (ek_ixT (ks := b.map txtK) h h1 (hb.get hr)) h2 (hb.at hr hc) (by rw [hb.r.line r hr]; have := hb.W5; omega)
theorem eb_inLst {s : Nat} {x y : Str} (h : EvK K te σ H (txtK [s])) : EvV (tOp (rIn K false) te (tLst (tCons (tC (.str x)) (tCons (tC (.str y)) tNil)))) σ H (.bl (inV (.str (toS [s])) [.str x, .str y])) :=
  evv (Evl.ev_opL (EvV.up (EvK.v_str h)) (Evl.el_lst (Evl.ea_cons Evl.ev_c (Evl.ea_cons Evl.ev_c Evl.ea_nil)) (by simp)) fun p H1 e _ => Evl.rv_isL (sq_of e) rfl rfl)
end
theorem toS62 : toS [62] = (Str.ofString ">") := by decide +kernel
theorem toS60 : toS [60] = (Str.ofString "<") := by decide +kernel
theorem toS120 : toS [120] = (Str.ofString "x") := by decide +kernel
theorem eqV_str (x y : Str) : eqV (.str x) (.str y) = decide (y = x) := by
  show (x == y) = _
  by_cases h : y = x
  · subst h; simp
  · rw [decide_eq_false h]
    exact beq_eq_false_iff_ne.mpr fun z => h z.symm
theorem toS_one {s n : Nat} : decide (toS [s] = toS [n]) = decide (s = n) := by
  by_cases h : s = n
  · subst h; simp
  · rw [decide_eq_false h, decide_eq_false fun z => h (by simpa using toS_inj z)]
theorem inV_gt (s : Nat) : inV (.str (toS [s])) [.str (Str.ofString ">"), .str (Str.ofString "x")] = decide (s = 62 ∨ s = 120) := by
  unfold inV
  rw [← toS62, ← toS120]
  simp only [List.any_cons, List.any_nil, eqV_str, toS_one, Bool.or_false]
  rw [Bool.decide_or]
theorem inV_lt (s : Nat) : inV (.str (toS [s])) [.str (Str.ofString "<"), .str (Str.ofString "x")] = decide (s = 60 ∨ s = 120) := by
  unfold inV
  rw [← toS60, ← toS120]
  simp only [List.any_cons, List.any_nil, eqV_str, toS_one, Bool.or_false]
  rw [Bool.decide_or]
theorem ok_l_many {P : Program} {w : World} {K : PySem.W.Frag} {mg : Str → Option Value} {base : Heap} {CB CF AF : Addr} (kn : Kn K mg "_law_many" s__law_many) (T : TX K mg CB CF AF)  : Cal P w K mg base 1 "_law_many" ["_law_cells_here"] (spLMany K CB) := by
  have nd := sc__law_many.nd
  refine Cal.mk kn sc__law_many (fun _ _ _ _ _ _ us hl => match us, hl with | [_], _ => rfl) (fun vs H Q E h => ?_) (fun f cdv A outer s H vs Q E hr h => ⟨_, (pss_one (ps_ret (pe_op op_add (pe_callB call_len_seq (by rfl) T.z_len PySem.boot_len (pa_cons (pv 0) pa_nil)) (pe_callB call_len_str (by rfl) T.z_len PySem.boot_len (pa_cons (pe_ix ix_tup (pv 0) pe_int (fun _ _ => rfl)) pa_nil))))), ?_⟩)
  · obtain ⟨R, W, b, hb, a⟩ := h
    exact (Paired.length a.1 :)
  obtain ⟨R, W, b, hb, a⟩ := h
  obtain ⟨hp, q⟩ := a
  have sd := sd_start (N := ["_law_cells_here"]) hp
  try dsimp only [cxOf, Cx.nox]
  exact s_ret (EvK.is (ek_ii (ek_lenB hb (ek_var sd rfl)) (ek_lenW hb (ek_var sd rfl))) (num_nat R W)) q
def spLSteps (K : PySem.W.Frag) (C : Addr) : Sp := fun vs H Q _ => ∃ R W b, Brd5 R W b ∧ Ans K C [.dat (brdK b)] (fun v H' => ∃ P : List (Nat × Nat), P.Perm (raw b) ∧ Dp K H' v (lsD (P.map pairK))) vs H Q
theorem ok_l_steps {P : Program} {w : World} {K : PySem.W.Frag} {mg : Str → Option Value} {base : Heap} {CB CF AF : Addr} (kn : Kn K mg "_law_steps" s__law_steps) (T : TX K mg CB CF AF)  : Cal P w K mg base 1 "_law_steps" ["_law_cells_here"] (spLSteps K CB) := by
  have nd := sc__law_steps.nd
  refine Cal.mk kn sc__law_steps (fun _ _ _ _ _ _ us hl => match us, hl with | [_], _ => rfl) (fun vs H Q E h => ?_) (fun f cdv A outer s H vs Q E hr h => ⟨_, (pss_cons (ps_set (i := 1) nd rfl (by first | exact Or.inl rfl | exact Or.inr rfl) (pe_lst pa_nil))
  (pss_cons (ps_for PassesOwn.never (by rfl) (pi_range1 (by rfl) T.z_range (pa_cons (pe_callB call_len_seq (by rfl) T.z_len PySem.boot_len (pa_cons (pv 0) pa_nil)) pa_nil)) (pg_name (i := 2) nd rfl (by first | exact Or.inl rfl | exact Or.inr rfl))
  (pss_one (ps_for PassesOwn.never (by rfl) (pi_range1 (by rfl) T.z_range (pa_cons (pe_callB call_len_str (by rfl) T.z_len PySem.boot_len (pa_cons (pe_ix ix_tup (pv 0) pe_int (fun _ _ => rfl)) pa_nil)) pa_nil)) (pg_name (i := 3) nd rfl (by first | exact Or.inl rfl | exact Or.inr rfl))
  (pss_cons (ps_if (pt_cmpR op_in_seq (pe_ix ix_str (pe_ix ix_tup (pv 0) (pv 2) (fun _ _ => rfl)) (pv 3) (fun _ _ => rfl)) (pe_lst (pa_cons pe_str (pa_cons pe_str pa_nil))) (by with_unfolding_all rfl)) (pss_one (ps_expr (pe_bm PySem.F.plainAttrs_list PySem.F.slot_list_append PySem.F.type_list_append mt_append (pv 1) (pa_cons (pe_tup (pa_cons (pv 2) (pa_cons (pe_op op_add (pe_callB call_len_seq (by rfl) T.z_len PySem.boot_len (pa_cons (pv 0) pa_nil)) (pv 3)) pa_nil))) pa_nil)))) pss_nil)
  (pss_one (ps_if (pt_cmpR op_in_seq (pe_ix ix_str (pe_ix ix_tup (pv 0) (pv 2) (fun _ _ => rfl)) (pv 3) (fun _ _ => rfl)) (pe_lst (pa_cons pe_str (pa_cons pe_str pa_nil))) (by with_unfolding_all rfl)) (pss_one (ps_expr (pe_bm PySem.F.plainAttrs_list PySem.F.slot_list_append PySem.F.type_list_append mt_append (pv 1) (pa_cons (pe_tup (pa_cons (pe_op op_add (pe_callB call_len_seq (by rfl) T.z_len PySem.boot_len (pa_cons (pv 0) pa_nil)) (pv 3)) (pa_cons (pv 2) pa_nil))) pa_nil)))) pss_nil))))))
  (pss_one (ps_ret (pe_callB cr_sortedP (by rfl) T.z_sorted (by decide +kernel) (pa_cons (pv 1) pa_nil)))))), ?_⟩)
  · obtain ⟨R, W, b, hb, a⟩ := h
    exact (Paired.length a.1 :)
  obtain ⟨R, W, b, hb, a⟩ := h
  obtain ⟨hp, q⟩ := a
  have sd := sd_start (N := ["_law_cells_here", "_law_found", "_law_at", "_law_place"]) hp
  try dsimp only [cxOf, Cx.nox]
  have r5 := hb.R5
  have w5 := hb.W5
  refine q_setN sd en_nil fun l xs σ1 H1 hl x1 el e0 sd1 => ?_
  subst e0
  refine q_of (s_forR (n := R) (ek_lenB hb (ek_var sd1 rfl)) (by omega) fun H3 x3 => ⟨fun i σ' H' => SD K CB H' σ' [.dat (brdK b), .val (.ref l), .un, .un] ∧ Ex H H' ∧ Tx H3 H' ∧ ∃ xs, H' l = some (.lst xs) ∧ Paired (PrAt H') xs (rawTo b i), ⟨sd1.ex x3, x1.trans x3, Tx.refl _, [], x3 _ _ el, .nil⟩, fun i σ' H' hi p => ?_, fun σ' H' p => ?_⟩)
  · obtain ⟨s1, xh, tx, ys, hy, hp⟩ := p
    have s2 := s1.set (i := 2) (o := some (.int (i : Int))) (s := .dat (numK i)) ⟨_, rfl, .int _⟩
    refine s_forR (n := W) (ek_lenW hb (ek_var s2 rfl)) (by omega) fun H5 x5 => ⟨fun j σ' H' => SD K CB H' σ' [.dat (brdK b), .val (.ref l), .dat (numK i), .un] ∧ Ex H H' ∧ Tx H3 H' ∧ ∃ xs, H' l = some (.lst xs) ∧ Paired (PrAt H') xs (rawTo b i ++ rowSteps b i j), ⟨s2.ex x5, xh.trans x5, tx.trans (ex_tx x5), ys, x5 _ _ hy, ?_⟩, fun j σ'' H'' hj p2 => ?_, fun σ'' H'' p2 => ?_⟩
    · rw [show rowSteps b i 0 = [] from rfl, List.append_nil]
      exact Paired.mapP hp fun _ _ z => z.ex x5
    · obtain ⟨s3, xh3, tx3, zs, hz, hp3⟩ := p2
      have s4 := s3.set (i := 3) (o := some (.int (j : Int))) (s := .dat (numK j)) ⟨_, rfl, .int _⟩
      have zl : zs.length < 99999 := by
        have a1 := Paired.length hp3
        have a2 := rawTo_len b i
        have a3 := rowSteps_len b i j
        rw [List.length_append] at a1
        rw [hb.cols] at a2
        have : 2 * W * i ≤ 2 * 5 * 5 := Nat.mul_le_mul (by omega) (by omega)
        omega
      refine q_ifApp (c := decide (at2 b i j = 62 ∨ at2 b i j = 120)) (p := (i, R + j)) (Evl.et_is (et_test (eb_inLst (ek_cell hb (ek_var s4 rfl) (ek_var s4 rfl) (ek_var s4 rfl) hi hj))) (inV_gt _)) (ev_var s4 rfl) hz (e1_pair (ek_var s4 rfl) (EvK.is (ek_ii (ek_lenB hb (ek_var s4 rfl)) (ek_var s4 rfl)) (num_nat R j))) (by omega) hp3 fun H7 us f7 t7 e7 p7 => ?_
      have ul : us.length < 100000 := by
        have a1 := Paired.length p7
        have a4 := Paired.length hp3
        rw [List.length_append] at a1
        have : (if decide (at2 b i j = 62 ∨ at2 b i j = 120) = true then [(i, R + j)] else []).length ≤ 1 := by split <;> simp
        omega
      have s5 := s4.tx t7
      refine s_ifApp (c := decide (at2 b i j = 60 ∨ at2 b i j = 120)) (p := (R + j, i)) (Evl.et_is (et_test (eb_inLst (ek_cell hb (ek_var s5 rfl) (ek_var s5 rfl) (ek_var s5 rfl) hi hj))) (inV_lt _)) (ev_var s5 rfl) e7 (e1_pair (EvK.is (ek_ii (ek_lenB hb (ek_var s5 rfl)) (ek_var s5 rfl)) (num_nat R j)) (ek_var s5 rfl)) ul p7 fun H8 ws f8 t8 e8 p8 => ?_
      refine ⟨(s5.tx t8).drops [3], f8 _ hl (f7 _ hl xh3), (tx3.trans t7).trans t8, ws, e8, ?_⟩
      rw [rowSteps_succ, hb.len, cell_parts, ← List.append_assoc, ← List.append_assoc]
      exact p8
    · obtain ⟨s3, xh3, tx3, zs, hz, hp3⟩ := p2
      refine ⟨s3.drops [2], xh3, tx3, zs, hz, ?_⟩
      rw [rawTo_succ, hb.cols]; exact hp3
  · obtain ⟨s1, xh, tx, ys, hy, hp⟩ := p
    refine s_ret (e1_sortP (ps := raw b) fun H1 x1 Q1 q1 => (ev_var s1 rfl) H1 x1 _ fun v H2 x2 ev => q1 v H2 x2 ⟨l, ys, ev, (x1.trans x2) _ _ hy, ?_⟩) fun v H1 x1 hv => q v H1 (xh.trans x1) hv
    unfold raw
    rw [hb.len]
    exact Paired.mapP hp fun _ _ z => z.ex (x1.trans x2)

/-! ### leads -/
section
variable {K : PySem.W.Frag} {H H' H0 : Hp} {σ : St} {ta tb te : TE}
theorem eb_notInL {l : List Nat} {n : Nat} {p : Addr} (ha : EvK K ta σ H (numK n)) (hb : EvV tb σ H (.ref p)) (e : H p = some (.lst (intsV l))) : EvV (tOp (rIn K true) ta tb) σ H (.bl (!decide (n ∈ l))) := fun H1 x Q q =>
  ha H1 x _ fun a H2 x2 pa => hb H2 (x.trans x2) _ fun b H3 x3 pb => by
    have ea := dp_int pa
    subst ea pb
    exact ⟨p, _, rfl, .inl (sq_of (((x.trans x2).trans x3) _ _ e)), rfl, flat_ints l, q _ H3 (x2.trans x3) (by rw [← inV_ints]; rfl)⟩
theorem ef_sortL {Kn : List Nat} {d : Addr} (h : EvV te σ H (.ref d)) (e : H d = some (.lst (intsV Kn))) (hl : Kn.length < 64) : EvF (tCB (rSorted K) (tCons te tNil)) σ H fun p H2 => ∃ ys : List Int, ys.Perm (Kn.map Int.ofNat) ∧ ys.Pairwise (· ≤ ·) ∧ H2 p = some (.lst (ys.map V.int)) := fun H1 x Q q =>
  h H1 x _ fun v H2 x2 ev => by
    subst ev
    refine ⟨d, Kn.map Int.ofNat, rfl, ?_, by simpa using hl, fun ys p hp hs hn => q p _ (fresh_back x2 hn) (x2.trans (Ex.new hn)) ⟨ys, hp, hs, upd_same⟩⟩
    rw [List.map_map]
    exact sq_of (x2 _ _ (x _ _ e))
end
def spLLeads (K : PySem.W.Frag) (C : Addr) : Sp := fun vs H Q _ => ∃ R W b, Brd5 R W b ∧ Ans K C [.dat (brdK b)] (fun v H' => Dp K H' v (leadsD b)) vs H Q
theorem ok_l_leads {P : Program} {w : World} {K : PySem.W.Frag} {mg : Str → Option Value} {base : Heap} {CB CF AF : Addr} (kn : Kn K mg "_law_leads" s__law_leads) (T : TX K mg CB CF AF) (c_l_steps : Cal P w K mg base 1 "_law_steps" ["_law_cells_here"] (spLSteps K CB)) (c_l_many : Cal P w K mg base 1 "_law_many" ["_law_cells_here"] (spLMany K CB)) : Cal P w K mg base 2 "_law_leads" ["_law_cells_here"] (spLLeads K CB) := by
  have nd := sc__law_leads.nd
  refine Cal.mk kn sc__law_leads (fun _ _ _ _ _ _ us hl => match us, hl with | [_], _ => rfl) (fun vs H Q E h => ?_) (fun f cdv A outer s H vs Q E hr h => ⟨_, (pss_cons (ps_par (i := 1) (j := 2) (by rfl) nd rfl rfl (by decide) rfl rfl (pa_cons (c_l_steps.pe (hr.mono (by omega)) (by rfl) (pa_cons (pv 0) pa_nil)) (pa_cons (pe_lst pa_nil) pa_nil)) (by rfl))
  (pss_cons (ps_for PassesOwn.never (by rfl) (pi_range1 (by rfl) T.z_range (pa_cons (c_l_many.pe (hr.mono (by omega)) (by rfl) (pa_cons (pv 0) pa_nil)) pa_nil)) (pg_name (i := 3) nd rfl (by first | exact Or.inl rfl | exact Or.inr rfl))
  (pss_cons (ps_par (i := 4) (j := 5) (by rfl) nd rfl rfl (by decide) rfl rfl (pa_cons (pe_lst (pa_cons (pv 3) pa_nil)) (pa_cons (pe_lst (pa_cons (pv 3) pa_nil)) pa_nil)) (by rfl))
  (pss_cons (ps_while PassesOwn.never (pt_cmpR (op_neD hr.units) (pv 5) (pe_lst pa_nil) (nomark _))
  (pss_cons (ps_set (i := 6) nd rfl (by first | exact Or.inl rfl | exact Or.inr rfl) (pe_bm0 PySem.F.plainAttrs_list PySem.F.slot_list_pop PySem.F.type_list_pop mt_pop (pv 5)))
  (pss_one (ps_for PassesOwn.never (by rfl) (pi_list (pv 1)) (pg_tup (by rfl) (pgs_cons (pg_name (i := 7) nd rfl (by first | exact Or.inl rfl | exact Or.inr rfl)) (pgs_cons (pg_name (i := 8) nd rfl (by first | exact Or.inl rfl | exact Or.inr rfl)) pgs_nil)))
  (pss_one (ps_if (PW.pt (pw_and (pt_cmpR op_eq (pv 7) (pv 6) (nomark _)) (pw_and1 (pt_cmpR op_notIn_seq (pv 8) (pv 4) (by with_unfolding_all rfl))))) (pss_cons (ps_expr (pe_bm PySem.F.plainAttrs_list PySem.F.slot_list_append PySem.F.type_list_append mt_append (pv 4) (pa_cons (pv 8) pa_nil)))
  (pss_one (ps_expr (pe_bm PySem.F.plainAttrs_list PySem.F.slot_list_append PySem.F.type_list_append mt_append (pv 5) (pa_cons (pv 8) pa_nil))))) pss_nil))))))
  (pss_one (ps_expr (pe_bm PySem.F.plainAttrs_list PySem.F.slot_list_append PySem.F.type_list_append mt_append (pv 2) (pa_cons (pe_callB cr_sorted (by rfl) T.z_sorted (by decide +kernel) (pa_cons (pv 4) pa_nil)) pa_nil)))))))
  (pss_one (ps_ret (pv 2))))), ?_⟩)
  · obtain ⟨R, W, b, hb, a⟩ := h
    exact (Paired.length a.1 :)
  obtain ⟨R, W, b, hb, a⟩ := h
  obtain ⟨hp, q⟩ := a
  have sd := sd_start (N := ["_law_cells_here", "_law_told", "_law_found", "_law_thread", "_law_known", "_law_line", "_law_here", "_law_one", "_law_other"]) hp
  try dsimp only [cxOf, Cx.nox]
  have hm := hb.many
  have r5 := hb.R5
  have w5 := hb.W5
  refine q_parEF (Pa := fun v H' => ∃ P : List (Nat × Nat), P.Perm (raw b) ∧ Dp K H' v (lsD (P.map pairK))) (Pg := fun _ p H' => H' p = some (.lst [])) (e1_ans (ea_one (s := .dat (brdK b)) (ek_var sd rfl)) fun vs H1 Q a => ⟨R, W, b, hb, a⟩) (fun v H1 x1 _ => en_nil.f.mono fun p H2 _ z => by obtain ⟨xs, e, rfl⟩ := z; exact e) fun v l H1 H2 x1 pv hl x2 el => ?_
  obtain ⟨P, hP, dv⟩ := pv
  have sd1 := ((sd.ex (x1.trans x2)).set (i := 1) (s := .old H1 (lsD (P.map pairK))) ⟨v, rfl, dv⟩).set (i := 2) (o := some (.ref l)) (s := .val (.ref l)) rfl
  refine q_of (s_forR (n := R + W) (e1_ans (P := fun v H' => Dp K H' v (numK (R + W)).data) (ea_one (s := .dat (brdK b)) (ek_var sd1 rfl)) fun vs H1 Q a => ⟨R, W, b, hb, a⟩) (by omega) fun H3 x3 => ⟨fun i σ' H' => SD K CB H' σ' [.dat (brdK b), .old H1 (lsD (P.map pairK)), .val (.ref l), .un, .un, .un, .un, .un, .un] ∧ Ex H1 H' ∧ ∃ xs, H' l = some (.lst xs) ∧ Paired (ItemL b l H') xs (List.range i), ⟨sd1.ex x3, x2.trans x3, [], x3 _ _ el, .nil⟩, fun i σ' H' hi p => ?_, fun σ' H' p => ?_⟩)
  · obtain ⟨s1, xh, xs, hxs, hps⟩ := p
    have s2 := s1.set (i := 3) (o := some (.int (i : Int))) (s := .dat (numK i)) ⟨_, rfl, .int _⟩
    have one : ∀ {H2 : Hp} {ys : List V}, Paired (VOk K CB H2) ys [.dat (numK i)] → ys = intsV [i] := fun pw => by
      cases pw with
      | cons h t => cases t; rw [dp_int h]; rfl
    refine q_parFF (Pf := fun p H2 => H2 p = some (.lst (intsV [i]))) (Pg := fun _ r H2 => H2 r = some (.lst (intsV [i]))) ((en_lst (C := CB) (ea_one (s := .dat (numK i)) (ek_var s2 rfl)) (by simp)).f.mono fun p H2 _ z => by obtain ⟨ys, e, pw⟩ := z; rw [one pw] at e; exact e) (fun p Ha hp xa ea => (en_lst (C := CB) (ea_one (s := .dat (numK i)) (ek_var (s2.ex xa) rfl)) (by simp)).f.mono fun p H2 _ z => by obtain ⟨ys, e, pw⟩ := z; rw [one pw] at e; exact e) fun d w Ha Hb hd xa ea hw xb ew => ?_
    have wfr : H' w = none := fresh_back xa hw
    have dw : d ≠ w := fun z => by subst z; rw [ea] at hw; cases hw
    have s3 := ((s2.ex (xa.trans xb)).set (i := 4) (o := some (.ref d)) (s := .val (.ref d)) rfl).set (i := 5) (o := some (.ref w)) (s := .val (.ref w)) rfl
    refine q_of (Evl.s_while (fun m σ'' H'' => ∃ Kn ws, SD K CB H'' σ'' [.dat (brdK b), .old H1 (lsD (P.map pairK)), .val (.ref l), .dat (numK i), .val (.ref d), .val (.ref w), .un, .un, .un] ∧ Ex H' H'' ∧ H'' d = some (.lst (intsV Kn)) ∧ H'' w = some (.lst (intsV ws)) ∧ BF b i Kn ws ∧ m = 2 * (many b - Kn.length) + ws.length ∧ m ≤ 100) _ ⟨[i], [i], s3, xa.trans xb, xb _ _ ea, ew, bf_start (by omega), rfl, by simp; omega⟩ fun m σ'' H'' hw => ?_)
    obtain ⟨Kn, ws, s4, x4, ed, ew, bf, em, m100⟩ := hw
    refine ⟨!ws.isEmpty, ?_, fun hne H5 x5 => ?_, fun hne H5 x5 => ?_⟩
    · refine Evl.et_is (et_test (eb_neD (d := .list (intsD ws)) (d' := .list []) ((ev_var s4 rfl).mono fun v H5 x5 e => by subst e; exact .lst (SqL.of (x5 _ _ ew)) (dp_ints ws)) e1_nil ((shp_ints ws).ok (by omega)) (shp_nil.ok (by omega)))) ?_
      rw [eqv_lnil, intsD_empty]
    · obtain ⟨ws', here, rfl⟩ : ∃ ws' here, ws = ws' ++ [here] := ⟨ws.dropLast, ws.getLast (by intro z; rw [z] at hne; cases hne), (List.dropLast_concat_getLast _).symm⟩
      refine ⟨_, fun _ _ z => z, ?_⟩
      have ew5 : H5 w = some (.lst (intsV ws' ++ [.int (here : Int)])) := by
        have := x5 _ _ ew
        unfold intsV at this ⊢
        rw [List.map_append] at this; exact this
      refine q_pop (ev_var (s4.ex x5) rfl) ew5 fun H6 x6 => ?_
      have t6 : Ex H' (upd H6 w (.lst (intsV ws'))) := Ex.mut ((x4.trans x5).trans x6) wfr
      have ed6 : (upd H6 w (.lst (intsV ws'))) d = some (.lst (intsV Kn)) := by rw [upd_ne dw]; exact x6 _ _ (x5 _ _ ed)
      have s5 := ((s4.ex (x5.trans x6)).tx (tx_lst (o := .lst (intsV ws')) (x6 _ _ ew5))).set (i := 6) (o := some (.int (here : Int))) (s := .dat (numK here)) ⟨_, rfl, .int _⟩
      refine s_forL (ds := NestedKey.datas (P.map pairK)) (eo_var s5 rfl) (xh.trans t6) fun H7 x7 => ⟨fun j σ3 H8 => ∃ Kn2 ws2, SD K CB H8 σ3 [.dat (brdK b), .old H1 (lsD (P.map pairK)), .val (.ref l), .dat (numK i), .val (.ref d), .val (.ref w), .dat (numK here), .un, .un] ∧ Ex H' H8 ∧ H8 d = some (.lst (intsV Kn2)) ∧ H8 w = some (.lst (intsV ws2)) ∧ BG b i here P j (2 * (many b - Kn.length) + ws'.length) Kn2 ws2, ⟨Kn, ws', s5.ex x7, t6.trans x7, x7 _ _ ed6, x7 _ _ upd_same, bf_pop bf⟩, fun j σ3 H8 p => ?_, fun j dd σ3 H8 hj p v dv => ?_, fun σ3 H8 p => ?_⟩
      · obtain ⟨_, _, _, x8, _⟩ := p
        exact xh.trans x8
      · obtain ⟨Kn2, ws2, s6, x8, e1, e2, bg⟩ := p
        rw [datas_map, List.getElem?_map, List.getElem?_map] at hj
        cases hp : P[j]? with
        | none => rw [hp] at hj; cases hj
        | some p =>
          rw [hp] at hj
          have hj : (pairK p).data = dd := Option.some.inj hj
          subst hj
          refine g_pair (d1 := .int (p.1 : Int)) (d2 := .int (p.2 : Int)) dv (xh.trans x8) fun x y dx dy => ?_
          have dx := dp_int dx
          have dy := dp_int dy
          subst dx dy
          have s7 := (s6.set (i := 7) (o := some (.int (p.1 : Int))) (s := .dat (numK p.1)) ⟨_, rfl, .int _⟩).set (i := 8) (o := some (.int (p.2 : Int))) (s := .dat (numK p.2)) ⟨_, rfl, .int _⟩
          refine s_if (c := decide (p.1 = here) && decide (p.2 ∉ Kn2)) (Evl.et_is (Evl.et_and (et_test (eb_eqI (ek_var s7 rfl) (ek_var s7 rfl))) fun _ => et_test (eb_notInL (ek_var s7 rfl) (ev_var s7 rfl) e1)) ?_) (fun hc H9 x9 => ?_) fun hc H9 x9 => ?_
          · simp [Int.natCast_inj]
          · rw [Bool.and_eq_true, decide_eq_true_eq, decide_eq_true_eq] at hc
            have hp' : P[j]? = some (here, p.2) := by rw [hp, ← hc.1]
            have bg2 := bg_add hb.r hb.R1 hP bg hp' hc.2
            have ll := bg2.len
            rw [List.length_append, List.length_singleton] at ll
            have me := bg2.me
            rw [List.length_append, List.length_append, List.length_singleton] at me
            rw [List.length_append, List.length_singleton] at em
            have s8 := s7.ex x9
            have lK : (intsV Kn2).length = Kn2.length := by unfold intsV; rw [List.length_map]
            refine q_of (s_app (tx := tVar 0) (ev_var s8 rfl) (x9 _ _ e1) (EvK.v_int (i := (p.2 : Int)) (ek_var s8 rfl)) (by omega) fun v Hc xc ev => ?_)
            subst ev
            have ec := xc _ _ (x9 _ _ e1)
            have tc : Tx Hc (upd Hc d (.lst (intsV Kn2 ++ [.int (p.2 : Int)]))) := tx_lst ec
            have s9 := (s8.ex xc).tx tc
            have ewc : (upd Hc d (.lst (intsV Kn2 ++ [.int (p.2 : Int)]))) w = some (.lst (intsV ws2)) := by rw [upd_ne dw.symm]; exact xc _ _ (x9 _ _ e2)
            have lw2 : (intsV ws2).length = ws2.length := by unfold intsV; rw [List.length_map]
            refine s_app (tx := tVar 0) (ev_var s9 rfl) ewc (EvK.v_int (i := (p.2 : Int)) (ek_var s9 rfl)) (by omega) fun v Hd xd ev => ?_
            subst ev
            have ewd := xd _ _ ewc
            refine ⟨Kn2 ++ [p.2], ws2 ++ [p.2], ((s9.ex xd).tx (tx_lst ewd)).drops [7, 8], Ex.mut ((Ex.mut ((x8.trans x9).trans xc) hd).trans xd) wfr, ?_, ?_, bg2⟩
            · rw [upd_ne dw, xd _ _ upd_same]; unfold intsV; rw [List.map_append]; rfl
            · rw [upd_same]; unfold intsV; rw [List.map_append]; rfl
          · have hn : ¬ (p.1 = here ∧ p.2 ∉ Kn2) := fun z => by
              rw [decide_eq_true z.1, decide_eq_true z.2] at hc; cases hc
            exact ⟨Kn2, ws2, (s7.ex x9).drops [7, 8], x8.trans x9, x9 _ _ e1, x9 _ _ e2, bg_stay bg hp hn⟩
      · obtain ⟨Kn2, ws2, s6, x8, e1, e2, bg⟩ := p
        rw [datas_len, List.length_map] at bg
        refine ⟨_, ?_, Kn2, ws2, s6.drops [6], x8, e1, e2, bg_end hP bg, rfl, ?_⟩
        · have := bg.me
          rw [em, List.length_append, List.length_singleton]
          omega
        · have := bg.me
          rw [List.length_append, List.length_singleton] at em
          omega
    · have e0 : ws = [] := by
        cases ws with
        | nil => rfl
        | cons a r => cases hne
      subst e0
      have s5 := s4.ex x5
      have el5 := (x4.trans x5) _ _ hxs
      have lK := bf.len
      refine s_app (tx := tVar 0) (ev_var s5 rfl) el5 ((ef_sortL (Kn := Kn) (ev_var s5 rfl) (x5 _ _ ed) (by omega)).e1 el5) (by have := Paired.length hps; rw [List.length_range] at this; omega) fun v H6 x6 hv => ?_
      obtain ⟨p, rfl, pl, ns, hpm, hpw, ep⟩ := hv
      have en := sorted_leads hpm hpw bf.nd (bf_done bf)
      have e6 := x6 _ _ el5
      refine ⟨((s5.ex x6).tx (tx_lst e6)).drops [3, 4, 5], Ex.mut (((xh.trans x4).trans x5).trans x6) hl, _, upd_same, ?_⟩
      rw [List.range_succ]
      refine Paired.snoc (Paired.mapP hps fun _ _ z => z.go ((x4.trans x5).trans x6)) ⟨p, rfl, pl, ?_⟩
      rw [upd_ne pl, ep, en, List.map_map]; rfl
  · obtain ⟨s1, xh, xs, hxs, hps⟩ := p
    refine s_ret ((ev_var s1 rfl).mono (P' := fun v H2 => Dp K H2 v (leadsD b)) fun v H2 x2 e => ?_) fun v H2 x2 dv => q v H2 ((x1.trans xh).trans x2) dv
    subst e
    unfold leadsD
    rw [hm]
    exact .lst (SqL.of (x2 _ _ hxs)) (items_dp (Paired.mapP hps fun _ _ z => z.ex x2))
end Wx
end
section
set_option Elab.async false
set_option linter.all false
set_option maxRecDepth 100000
set_option maxHeartbeats 4000000
namespace Wx
open PySem PySem.Spec PyProof.Rows L2 Wv
open Evl (Ex ex_rd ex_l ex_t sq_of st_of fresh_back)
section
variable {K : PySem.W.Frag} {C : Addr} {H H' H0 : Hp} {σ : St} {e as : List Sl} {ta tb tc te tl tk tv td ty : TE} {t : TT} {P : V → Hp → Prop} {v y : V} {j : Nat}
/-- (a, b) = (e, f), the pair made -/
theorem q_tup2 {i j : Nat} {t1 t2 : TE} {Pa Pb : V → Hp → Prop} {D : Ends} {tz : TS} (h1 : Ev1 t1 σ H Pa) (h2 : Ev1 t2 σ H Pb) (q : ∀ v w H1 H2, Ex H H1 → Ex H1 H2 → Pa v H1 → (∃ H3, Pb w H3 ∧ Ex H1 H3 ∧ Ex H3 H2) → tz D ((σ.set i (some v)).set j (some w)) H2) :
    tSeq (tAsg (tTup (tCons t1 (tCons t2 tNil))) (gTup K 2 (gCons (gName i) (gCons (gName j) gNil)))) tz D σ H :=
  h1 H (Ex.refl H) _ fun v H1 x1 p1 => h2 H1 x1 _ fun w H2 x2 p2 => ⟨by show 2 ≤ sizeLine; decide, fun T hT => g_new hT (q v w H1 _ x1 (x2.trans (Ex.new hT)) p1 ⟨H2, p2, x2, Ex.new hT⟩)⟩
theorem old_dps {ds : List PyData} : ∀ {is : List Nat} {xs : List V}, Paired (fun y i => Dp K H y (ds.getD i .none)) xs is → DpAll K H xs (is.map fun i => ds.getD i .none)
  | [], _, h => by cases h; exact .nil
  | i :: is, _, h => by
    cases h with
    | cons h1 h2 => exact .cons h1 (old_dps h2)
/-- [x for x in a list if t] -/
theorem e1_lcSame {ds : List PyData} {vs : List Nat} (f : Nat → Bool) (sd : SD K C H σ e) (h : Ev1 tl σ H fun v H2 => Dp K H2 v (.list ds)) (hn : ds.length ≤ 100000) (hj : j ∈ vs) (hq : ∀ s, ((wipeE e vs).set j s)[j]? = some s)
    (turn : ∀ i dd σ2 H1 H2, ds[i]? = some dd → Ex H H1 → Ex H1 H2 → SD K C H2 σ2 ((wipeE e vs).set j (.old H1 dd)) → EvT t σ2 H2 (f i)) :
    Ev1 (tLc (iList K tl) (gName j) t (tVar j) vs) σ H fun v H2 => Dp K H2 v (.list (((List.range ds.length).filter f).map fun i => ds.getD i .none)) := fun H1 x1 Q q => h H1 x1 _ fun v H2 x2 p => by
  cases p with
  | @lst a xs _ hs hd =>
    have hl : xs.length = ds.length := dpAll_len hd
    refine ⟨a, rfl, ⟨xs, hs⟩, fun Dl hD => ?_⟩
    have wk := walk_list (K := K) (a := a) (xs := xs)
    rw [hl] at wk
    refine lc_go f (fun i y _ => Dp K H2 y (ds.getD i .none)) wk hn hD (fun H3 x3 => ex_l x3 hs) (fun _ _ _ _ _ z => z) (fun i H3 x H4 Kt hi x3 y kt => ?_) fun ys H3 x3 e3 pr => q _ _ (x2.trans x3) (.lst (SqL.of e3) (DpAll.ex x3 _ _ (old_dps pr)))
    obtain ⟨rfl, hx⟩ := y
    have hk := List.getElem?_eq_getElem hi
    obtain ⟨w, hw, dw⟩ := dpAll_get hd hk
    rw [hx] at hw
    cases hw
    have xx := (x1.trans x2).trans x3
    have sd2 := ((sd.ex xx).wipe vs).set (i := j) (s := .old H2 ds[i]) ⟨x, rfl, dw⟩
    have t1 := turn i _ ((wipe σ vs).set j (some x)) H2 H4 hk (x1.trans x2) x3 sd2
    refine kt _ _ (Ex.refl _) (wipe_one hj) t1 fun _ => ?_
    have eg : ds.getD i .none = ds[i] := by rw [List.getD_eq_getElem?_getD, hk]; rfl
    rw [eg]
    exact eo_var sd2 (hq _)
end
def spLHolds (K : PySem.W.Frag) (C : Addr) : Sp := fun vs H Q _ => ∃ R W b, Brd5 R W b ∧ Ans K C [.dat (brdK b)] (fun v _ => v = .bl (decide (Holds b))) vs H Q
theorem shp_leads (b : Brd) (is : List Nat) : Shp 2 (.list (is.map fun i => ((List.range (many b)).map fun i => PyData.list (intsD (leads b i))).getD i .none)) := shp_lst fun d hd => by
  obtain ⟨i, _, rfl⟩ := List.mem_map.mp hd
  rw [List.getD_eq_getElem?_getD, List.getElem?_map]
  cases (List.range (many b))[i]? with
  | none => exact shp_non.mono (by omega)
  | some j => exact shp_ints _
theorem ok_l_holds {P : Program} {w : World} {K : PySem.W.Frag} {mg : Str → Option Value} {base : Heap} {CB CF AF : Addr} (kn : Kn K mg "_law_holds" s__law_holds) (T : TX K mg CB CF AF) (c_l_leads : Cal P w K mg base 2 "_law_leads" ["_law_cells_here"] (spLLeads K CB)) (c_l_many : Cal P w K mg base 1 "_law_many" ["_law_cells_here"] (spLMany K CB)) : Cal P w K mg base 3 "_law_holds" ["_law_cells_here"] (spLHolds K CB) := by
  have nd := sc__law_holds.nd
  refine Cal.mk kn sc__law_holds (fun _ _ _ _ _ _ us hl => match us, hl with | [_], _ => rfl) (fun vs H Q E h => ?_) (fun f cdv A outer s H vs Q E hr h => ⟨_, (pss_one (ps_ret (pe_cmpR (op_eqD hr.units) (pe_lc (own := [("_law_told", 1)]) (by rfl) nd (pi_list (c_l_leads.pe (hr.mono (by omega)) (by rfl) (pa_cons (pv 0) pa_nil))) (blkOk_by (own := [("_law_told", 1)]) (N := ["_law_cells_here", "_law_told"]) (sc := defScope s__law_holds) (by decide +kernel)) (fun _ _ _ _ _ => (pg_name (i := 1) nd rfl (by first | exact Or.inl rfl | exact Or.inr rfl))) (fun _ _ _ _ _ => pts_one (pt_cmpR op_lt (pe_callB (call_lenK (K := K) rfl) (by rfl) T.z_len PySem.boot_len (pa_cons (pv 1) pa_nil)) (c_l_many.pe (hr.mono (by omega)) (by rfl) (pa_cons (pv 0) pa_nil)) (nomark _))) (fun _ _ _ _ _ => (pv 1))) (pe_lst pa_nil) (nomark _)))), ?_⟩)
  · obtain ⟨R, W, b, hb, a⟩ := h
    exact (Paired.length a.1 :)
  obtain ⟨R, W, b, hb, a⟩ := h
  obtain ⟨hp, q⟩ := a
  have sd := sd_start (N := ["_law_cells_here", "_law_told"]) hp
  try dsimp only [cxOf, Cx.nox]
  have hm := hb.many
  have r5 := hb.R5
  have w5 := hb.W5
  refine s_ret (EvV.is (eb_eqD (e1_lcSame (ds := (List.range (many b)).map fun i => PyData.list (intsD (leads b i))) (fun i => decide ((leads b i).length < many b)) sd (e1_ans (P := fun v H' => Dp K H' v (leadsD b)) (ea_one (s := .dat (brdK b)) (ek_var sd rfl)) fun vs H1 Q a => ⟨R, W, b, hb, a⟩) (by rw [List.length_map, List.length_range]; omega) (by simp) (fun _ => rfl) fun i dd σ2 H1 H2 hi x1 x2 sd2 => ?_) e1_nil ((shp_leads b _).ok (by omega)) (shp_nil.ok (by omega))) ?_) q
  · have hiL : i < many b := by
      have := (List.getElem?_eq_some_iff.mp hi).1
      simpa using this
    rw [List.getElem?_map, List.getElem?_eq_getElem (by simpa using hiL), List.getElem_range] at hi
    have hi : PyData.list (intsD (leads b i)) = dd := Option.some.inj hi
    subst hi
    refine Evl.et_is (et_test (eb_ii (ek_lenL (ds := intsD (leads b i)) ((eo_var sd2 rfl).mono fun v H3 x3 z => Dp.ex (x2.trans x3) _ _ z)) (e1_ans (P := fun v H' => Dp K H' v (numK (R + W)).data) (ea_one (s := .dat (brdK b)) (ek_var sd2 rfl)) fun vs H1 Q a => ⟨R, W, b, hb, a⟩))) ?_
    rw [intsD_len, hm]
    simp
    omega
  · congr 1
    rw [eqv_lnil, List.length_map, List.length_range]
    by_cases h : Holds b
    · rw [decide_eq_true h]
      have h2 := holds_iff_len.mp h
      have : (List.range (many b)).filter (fun i => decide ((leads b i).length < many b)) = [] := List.filter_eq_nil_iff.mpr fun i hi z => h2 i (List.mem_range.mp hi) (of_decide_eq_true z)
      rw [this]; rfl
    · rw [decide_eq_false h]
      have h2 : ∃ s, s < many b ∧ (leads b s).length < many b := by
        apply Classical.byContradiction
        intro c
        exact h (holds_iff_len.mpr fun s hs hl => c ⟨s, hs, hl⟩)
      obtain ⟨s, hs, hl⟩ := h2
      have : s ∈ (List.range (many b)).filter (fun i => decide ((leads b i).length < many b)) := List.mem_filter.mpr ⟨List.mem_range.mpr hs, decide_eq_true hl⟩
      cases e : (List.range (many b)).filter (fun i => decide ((leads b i).length < many b)) with
      | nil => rw [e] at this; cases this
      | cons a r => rfl
/-! ### whole_orders -/
theorem choose_le : ∀ n k : Nat, choose n k ≤ 2 ^ n
  | n, 0 => by rw [choose_zero]; exact Nat.one_le_two_pow
  | 0, k + 1 => by rw [choose_gt (by omega)]; exact Nat.zero_le _
  | n + 1, k + 1 => by
    rw [choose_succ, Nat.pow_succ]
    have := choose_le n k
    have := choose_le n (k + 1)
    omega
theorem natAbs_nat {n m : Nat} (h : n < m) : ((n : Nat) : Int).natAbs < m := by rw [Int.natAbs_natCast]; exact h
def spLWhole (K : PySem.W.Frag) (C : Addr) : Sp := fun vs H Q _ => ∃ l : List Nat, l.length ≤ 3 ∧ (∀ x ∈ l, x ≤ 6) ∧ Paired (VOk K C H) vs [.old H (.list (intsD l))] ∧ ∀ v H', Ex H H' → v = .int ((ordN 0 l : Nat) : Int) → Q v H'
theorem ok_l_whole_orders {P : Program} {w : World} {K : PySem.W.Frag} {mg : Str → Option Value} {base : Heap} {CB CF AF : Addr} (kn : Kn K mg "_law_whole_orders" s__law_whole_orders) (T : TX K mg CB CF AF)  : Cal P w K mg base 1 "_law_whole_orders" ["_law_sizes"] (spLWhole K CB) := by
  have nd := sc__law_whole_orders.nd
  refine Cal.mk kn sc__law_whole_orders (fun _ _ _ _ _ _ us hl => match us, hl with | [_], _ => rfl) (fun vs H Q E h => ?_) (fun f cdv A outer s H vs Q E hr h => ⟨_, (pss_cons (ps_asg (pe_tup (pa_cons pe_int (pa_cons pe_int pa_nil))) (pg_tup (by rfl) (pgs_cons (pg_name (i := 1) nd rfl (by first | exact Or.inl rfl | exact Or.inr rfl)) (pgs_cons (pg_name (i := 2) nd rfl (by first | exact Or.inl rfl | exact Or.inr rfl)) pgs_nil))))
  (pss_cons (ps_for PassesOwn.never (by rfl) (pi_list (pv 0)) (pg_name (i := 3) nd rfl (by first | exact Or.inl rfl | exact Or.inr rfl))
  (pss_one (ps_for PassesOwn.never (by rfl) (pi_range1 (by rfl) T.z_range (pa_cons (pv 3) pa_nil)) (pg_name (i := 4) nd rfl (by first | exact Or.inl rfl | exact Or.inr rfl))
  (pss_cons (ps_set (i := 2) nd rfl (by first | exact Or.inl rfl | exact Or.inr rfl) (pe_op op_add (pv 2) pe_int))
  (pss_one (ps_set (i := 1) nd rfl (by first | exact Or.inl rfl | exact Or.inr rfl) (pe_op op_fdivW (pe_op op_mulW (pv 1) (pv 2)) (pe_op op_add (pv 4) pe_int))))))))
  (pss_one (ps_ret (pv 1))))), ?_⟩)
  · obtain ⟨l, l3, l6, a⟩ := h
    exact (Paired.length a.1 :)
  obtain ⟨l, l3, l6, a⟩ := h
  obtain ⟨hp, q⟩ := a
  have sd := sd_start (N := ["_law_sizes", "_law_found", "_law_below", "_law_size", "_law_one"]) hp
  try dsimp only [cxOf, Cx.nox]
  refine q_tup2 (Pa := fun v _ => v = .int 1) (Pb := fun v _ => v = .int 0) ev_c ev_c fun v w H1 H2 x1 x2 ev ew => ?_
  obtain ⟨_, ew, _⟩ := ew
  subst ev ew
  have sd1 := ((sd.ex (x1.trans x2)).set (i := 1) (o := some (.int 1)) (s := .dat (numK 1)) ⟨_, rfl, .int _⟩).set (i := 2) (o := some (.int 0)) (s := .dat (numK 0)) ⟨_, rfl, .int _⟩
  refine q_of (s_forL (ds := intsD l) (eo_var sd1 rfl) (x1.trans x2) fun H3 x3 => ⟨fun i σ' H' => ∃ F b, SD K CB H' σ' [.old H (.list (intsD l)), .dat (numK F), .dat (numK b), .un, .un] ∧ Ex H H' ∧ F * ordN b (l.drop i) = ordN 0 l ∧ F < 2 ^ (20 * i + 1) ∧ b ≤ 6 * i, ⟨1, 0, sd1.ex x3, (x1.trans x2).trans x3, by simp, by decide, by omega⟩, fun i σ' H' p => by obtain ⟨_, _, _, x, _⟩ := p; exact x, fun i dd σ' H' hi p v dv => ?_, fun σ' H' p => ?_⟩)
  · obtain ⟨F, b, s1, xh, hF, hF2, hb⟩ := p
    unfold intsD at hi
    rw [List.getElem?_map] at hi
    cases ex : l[i]? with
    | none => rw [ex] at hi; cases hi
    | some x =>
      rw [ex] at hi
      have hi : PyData.int (x : Int) = dd := Option.some.inj hi
      subst hi
      have dv := dp_int dv
      subst dv
      have x6 := l6 x (List.mem_of_getElem? ex)
      have i3 : i < 3 := by have := (List.getElem?_eq_some_iff.mp ex).1; omega
      have ed : l.drop i = x :: l.drop (i + 1) := by
        have h := List.getElem?_eq_some_iff.mp ex
        rw [List.drop_eq_getElem_cons h.1, h.2]
      rw [ed] at hF
      have hF : F * (Wv.choose (b + x) x * ordN (b + x) (l.drop (i + 1))) = ordN 0 l := hF
      have s2 := s1.set (i := 3) (o := some (.int (x : Int))) (s := .dat (numK x)) ⟨_, rfl, .int _⟩
      refine s_forR (n := x) (ek_var s2 rfl) (by omega) fun H4 x4 => ⟨fun t σ'' H'' => SD K CB H'' σ'' [.old H (.list (intsD l)), .dat (numK (F * Wv.choose (b + t) t)), .dat (numK (b + t)), .dat (numK x), .un] ∧ Ex H H'', ⟨by rw [choose_zero, Nat.mul_one]; exact s2.ex x4, xh.trans x4⟩, fun t σ'' H'' ht p2 => ?_, fun σ'' H'' p2 => ?_⟩
      · obtain ⟨s3, xh3⟩ := p2
        have s4 := s3.set (i := 4) (o := some (.int (t : Int))) (s := .dat (numK t)) ⟨_, rfl, .int _⟩
        refine q_set (s := .dat (numK (b + t + 1))) s4 (ek_succ (ek_var s4 rfl)) fun σ5 H5 x5 s5 => ?_
        have c1 := choose_le (b + t) t
        have c2 : 2 ^ (b + t) ≤ 2 ^ 18 := Nat.pow_le_pow_right (by omega) (by omega)
        have c3 : F < 2 ^ 60 := Nat.lt_of_lt_of_le hF2 (Nat.pow_le_pow_right (by omega) (by omega))
        have c4 : F * Wv.choose (b + t) t < 2 ^ 79 := by
          have : F * Wv.choose (b + t) t ≤ 2 ^ 60 * 2 ^ 18 := Nat.mul_le_mul (by omega) (by omega)
          have e : (2 : Nat) ^ 60 * 2 ^ 18 < 2 ^ 79 := by decide
          omega
        refine s_set (s := .dat (numK (F * Wv.choose (b + t + 1) (t + 1)))) s5 (EvK.is (ek_iic (g := fun i j => i / j) (ek_iic (g := fun i j => i * j) (ek_var s5 rfl) (ek_var s5 rfl) (wide_mul (a := 79) (b := 10) (natAbs_nat c4) (natAbs_nat (by omega)) (by omega) (by omega) (by omega))) (ek_succ (ek_var s5 rfl)) (wide_div (b := 10) (by omega) (natAbs_nat (by omega)) (by omega) (by omega))) ?_) fun σ6 H6 x6 s6 => ⟨s6.drops [4], (xh3.trans x5).trans x6⟩
        unfold numK
        congr 1
        rw [← whole_step F b t]
        simp only [Int.natCast_mul, Int.natCast_ediv, Int.natCast_add]
      · obtain ⟨s3, xh3⟩ := p2
        refine ⟨F * Wv.choose (b + x) x, b + x, s3.drops [3], xh3, by rw [← hF, Nat.mul_assoc], ?_, by omega⟩
        have c1 := choose_le (b + x) x
        have c2 : 2 ^ (b + x) ≤ 2 ^ 18 := Nat.pow_le_pow_right (by omega) (by omega)
        have : F * Wv.choose (b + x) x ≤ F * 2 ^ 18 := Nat.mul_le_mul (by omega) (by omega)
        have e : F * 2 ^ 18 < 2 ^ (20 * i + 1) * 2 ^ 20 := by
          have : F * 2 ^ 18 ≤ 2 ^ (20 * i + 1) * 2 ^ 18 := Nat.mul_le_mul (by omega) (by omega)
          have p : 0 < 2 ^ (20 * i + 1) := Nat.two_pow_pos _
          omega
        rw [show 20 * (i + 1) + 1 = (20 * i + 1) + 20 by omega, Nat.pow_add]
        omega
  · obtain ⟨F, b, s1, xh, hF, _, _⟩ := p
    rw [intsD_len, List.drop_length] at hF
    have hF : F * 1 = ordN 0 l := hF
    rw [Nat.mul_one] at hF
    refine s_ret (EvK.v_int (i := (F : Int)) (ek_var s1 rfl)) fun v H5 x5 e => q v H5 (xh.trans x5) (by rw [e, hF])
end Wx
end
section
set_option Elab.async false
set_option linter.all false
set_option maxRecDepth 100000
set_option maxHeartbeats 4000000
namespace Wx
open PySem PySem.Spec PyProof.Rows L2 Wv
open Evl (Ex ex_rd ex_l ex_t sq_of st_of fresh_back)
section
variable {K : PySem.W.Frag} {C : Addr} {H H' H0 : Hp} {σ : St} {e as : List Sl} {tl te t1 t2 t3 : TE} {ta : TA} {t : TT} {P P1 P2 P3 : V → Hp → Prop} {v y : V} {i j l : Nat} {D : Ends} {tu tw tz : TS} {g : TG} {E : XK} {sp : Sp} {Q : VK}
theorem s_forLX {ks : List NK} {xs : List V} (h : Ev1 tl σ H fun v H2 => ∃ l, v = .ref l ∧ H2 l = some (.lst xs) ∧ DpAll K H2 xs (NestedKey.datas ks)) (q : ∀ l H1, Ex H H1 → H1 l = some (.lst xs) → ∃ Pv : Nat → St → Hp → Prop, Pv 0 σ H1 ∧ (∀ i σ' H', Pv i σ' H' → Tx H1 H' ∧ H' l = some (.lst xs)) ∧
      (∀ i kk σ' H', ks[i]? = some kk → Pv i σ' H' → ∀ v, Dp K H' v kk.data → g v σ' H' fun σ2 H2 => tu { D with nx := Pv (i + 1), ct := Pv (i + 1), bk := D.nx } σ2 H2) ∧ (∀ σ' H', Pv ks.length σ' H' → D.nx σ' H')) :
    tFor (iList K tl) g tu D σ H := h H (Ex.refl H) _ fun v H1 x1 ⟨l, ev, hl, hd1⟩ => by
  subst ev
  have hn : xs.length = ks.length := by rw [dpAll_len hd1, datas_len]
  obtain ⟨Pv, h0, hG, ht, hq⟩ := q l H1 x1 hl
  refine ⟨l, rfl, ⟨xs, sq_of hl⟩, for_it (walk_list (K := K) (a := l) (xs := xs)) Pv h0 (fun i σ' H' _ p => sq_of (hG i σ' H' p).2) (fun i x σ' H2 H3 hi p y => ?_) (fun σ' H' p => hq σ' H' (by rw [← hn]; exact p))⟩
  obtain ⟨rfl, hx⟩ := y
  have hi' : i < ks.length := by omega
  have hk := List.getElem?_eq_getElem hi'
  obtain ⟨w, hw, dw⟩ := dpAll_get hd1 (datas_get hk)
  rw [hx] at hw
  cases hw
  exact ht i _ σ' _ hk p x (Dp.tx (hG i σ' _ p).1 _ _ dw)
theorem s_or {c : Bool} (h1 : EvV t1 σ H (.bl c)) (yes : c = true → ∀ H1, Ex H H1 → D.nx (σ.set i (some (.bl true))) H1) (no : c = false → ∀ H1, Ex H H1 → t2 σ H1 fun v H2 => D.nx (σ.set i (some v)) H2) : tAsg (tOrV t1 t2) (gName i) D σ H := h1 H (Ex.refl H) _ fun v H1 x1 ev => by
  subst ev
  refine ⟨c, rfl, ?_⟩
  cases c with
  | true => rw [if_pos rfl]; exact yes rfl H1 x1
  | false => rw [if_neg Bool.false_ne_true]; exact no rfl H1 x1
theorem run_call (h : EvA K C ta σ H as) (hs : ∀ vs H1, Ex H H1 → Paired (VOk K C H1) vs as → sp vs H1 Q E) : tCall sp [] E ta σ H Q := h H (Ex.refl H) _ fun vs H1 x1 p => by
  show sp (vs ++ []) H1 Q E
  rw [List.append_nil]
  exact hs vs H1 x1 p
theorem q_par3F {Pf : Addr → Hp → Prop} (h1 : EvF t1 σ H Pf) (h2 : Ev1 t2 σ H P2) (h3 : Ev1 t3 σ H P3) (q : ∀ p v w H1 H2 H3, H p = none → Ex H H1 → Pf p H1 → Ex H1 H2 → P2 v H2 → Ex H2 H3 → P3 w H3 → tz D (((σ.set i (some (.ref p))).set j (some v)).set l (some w)) H3) : tSeq (tPar3 i j l (tCons t1 (tCons t2 (tCons t3 tNil)))) tz D σ H :=
  h1 H (Ex.refl H) _ fun p H1 hp x1 p1 => h2 H1 x1 _ fun v H2 x2 p2 => h3 H2 (x1.trans x2) _ fun w H3 x3 p3 => ⟨_, _, _, rfl, q p v w H1 H2 H3 hp x1 p1 x2 p2 x3 p3⟩
theorem s_par3 (h1 : Ev1 t1 σ H P1) (h2 : Ev1 t2 σ H P2) (h3 : Ev1 t3 σ H P3) (q : ∀ u v w H1 H2 H3, Ex H H1 → P1 u H1 → Ex H1 H2 → P2 v H2 → Ex H2 H3 → P3 w H3 → D.nx (((σ.set i (some u)).set j (some v)).set l (some w)) H3) : tPar3 i j l (tCons t1 (tCons t2 (tCons t3 tNil))) D σ H :=
  h1 H (Ex.refl H) _ fun u H1 x1 p1 => h2 H1 x1 _ fun v H2 x2 p2 => h3 H2 (x1.trans x2) _ fun w H3 x3 p3 => ⟨_, _, _, rfl, q u v w H1 H2 H3 x1 p1 x2 p2 x3 p3⟩
theorem q_ifNotC (h : te σ H (fun v H1 => ∃ c : Bool, v = .bl c ∧ if (!c) = true then tu { D with nx := tz D } σ H1 else tw { D with nx := tz D } σ H1)) : tSeq (tIfS (tNot (tB te)) tu tw) tz D σ H := h
theorem s_ifC (h : te σ H (fun v H1 => ∃ c : Bool, v = .bl c ∧ if c = true then tu D σ H1 else tw D σ H1)) : tIfS (tB te) tu tw D σ H := h
theorem ek_ixLK {ks : List NK} {n : Nat} {r : Addr} {ys : List V} {k : NK} (h : EvV t1 σ H (.ref r)) (e : H r = some (.lst ys)) (d : DpAll K H ys (NestedKey.datas ks)) (h2 : EvK K t2 σ H (.num (n : Int))) (hn : ks[n]? = some k) : EvK K (tOp (rIxL K) t1 t2) σ H k := fun H1 x Q q =>
  h H1 x _ fun a H2 x2 ea => h2 H2 (x.trans x2) _ fun b H3 x3 pb => by
    subst ea
    have xx := (x.trans x2).trans x3
    obtain ⟨v, hv, hk⟩ := dpAll_get d (datas_get hn)
    exact ⟨r, ys, (n : Int), v, rfl, dp_int pb, sq_of (xx _ _ e), atI_nat hv, q v H3 (x2.trans x3) (Dp.ex xx _ _ hk)⟩
theorem ints_sum : ∀ l : List Nat, (l.map Int.ofNat).sum = ((l.sum : Nat) : Int)
  | [] => rfl
  | a :: l => by rw [List.map_cons, List.sum_cons, List.sum_cons, ints_sum l, Int.natCast_add]; rfl
theorem ek_sum {l : List Nat} (h : EvN te σ H fun xs _ => xs = intsV l) : EvK K (tCB (rSum K) (tCons te tNil)) σ H (numK l.sum) := fun H1 x Q q => h H1 x _ fun p xs H2 _ x2 e ex => by
  subst ex
  refine ⟨p, l.map Int.ofNat, rfl, ?_, ?_⟩
  · rw [List.map_map]; exact sq_of e
  · rw [ints_sum]; exact q _ H2 x2 (.int _)
end
/-! ### ends_firm -/
theorem kvF_inj {α : Type} {f : α → NK} (inj : ∀ a b, f a = f b → a = b) : ∀ {E E' : List (α × V)}, kvF f E = kvF f E' → E = E'
  | [], [], _ => rfl
  | [], _ :: _, h => by cases h
  | _ :: _, [], h => by cases h
  | a :: E, b :: E', h => by
    unfold kvF at h
    rw [List.map_cons, List.map_cons] at h
    obtain ⟨h1, h2⟩ := List.cons.inj h
    obtain ⟨h3, h4⟩ := Prod.mk.inj h1
    rw [kvF_inj inj h2]
    have : a = b := Prod.ext (inj _ _ h3) h4
    rw [this]
theorem kvF_putV {α : Type} [DecidableEq α] {f : α → NK} (inj : ∀ a b, f a = f b → a = b) {a : α} {v : V} {E E' : List (α × V)} (e : putK (kvF f E) (f a) v = kvF f E') (Pe : α × V → Prop) (h : ∀ x ∈ E, Pe x) (hv : ∀ x : α × V, x = (a, v) → Pe x) (nd : (E.map (·.1)).Nodup) (k : E'.map (·.1) = if a ∈ E.map (·.1) then E.map (·.1) else E.map (·.1) ++ [a]) : ∀ x ∈ E', Pe x := by
  by_cases m : a ∈ E.map (·.1)
  · have e2 : putK (kvF f E) (f a) v = kvF f (E.map fun x => if x.1 = a then (x.1, v) else x) := by
      have q := kvF_has inj a E
      rw [decide_eq_true m] at q
      unfold putK
      rw [valV_any, q]
      show (if true = true then _ else _) = _
      rw [if_pos rfl]
      unfold kvF
      rw [List.map_map, List.map_map]
      refine List.map_congr_left fun e _ => ?_
      show (if f e.1 = f a then _ else _) = _
      by_cases c : e.1 = a
      · rw [if_pos (by rw [c])]; simp [c]
      · rw [if_neg (fun z => c (inj _ _ z))]; simp [c]
    have e3 := kvF_inj inj (e.symm.trans e2)
    subst e3
    intro x hx
    obtain ⟨y, hy, rfl⟩ := List.mem_map.mp hx
    split
    · next c => exact hv _ (by rw [c])
    · exact h y hy
  · rw [kvF_new inj v m] at e
    have e3 := kvF_inj inj e.symm
    subst e3
    intro x hx
    rcases List.mem_append.mp hx with z | z
    · exact h x z
    · exact hv x (by simpa using z)
def KF (w : World) (K : PySem.W.Frag) (d : Addr) (b0 : Brd) (B : Bld) (H : Hp) : Prop :=
  ∃ E : List (Plc × V), DN w K H d (kvF numsK E) ∧ (E.map (·.1)).Nodup ∧ ∀ e ∈ E, Box B e.1 ∧ e.2 = .bl (decide (EF b0 B e.1))
section
variable {w : World} {K : PySem.W.Frag} {d : Addr} {b0 : Brd} {B : Bld} {H H' : Hp}
theorem KF.tx (t : Tx H H') (hd : ∀ o, H d = some o → H' d = some o) (h : KF w K d b0 B H) : KF w K d b0 B H' := by
  obtain ⟨E, h1, h2⟩ := h
  exact ⟨E, h1.tx t hd, h2⟩
theorem KF.ex (x : Ex H H') (h : KF w K d b0 B H) : KF w K d b0 B H' := h.tx (ex_tx x) fun o z => x _ _ z
theorem KF.ne {l : Addr} {xs : List V} (h : KF w K d b0 B H) (e : H l = some (.lst xs)) : l ≠ d := by
  obtain ⟨E, h1, _⟩ := h
  exact h1.ne e
end
def spEF (n : Nat) (w : World) (K : PySem.W.Frag) (C : Addr) : Sp := fun vs H Q _ => ∃ R W b0 B p d, Gd R W b0 B ∧ Box B p ∧ total B < p.sum + n ∧ KF w K d b0 B H ∧ Paired (VOk K C H) vs [.dat (brdK (cellsAt b0 B p)), .dat (bldK B), .dat (numsK p), .val (.ref d)] ∧
  ∀ H', Tx H H' → Xd d H H' → KF w K d b0 B H' → Q (.bl (decide (EF b0 B p))) H'
theorem ef_mvs {b0 : Brd} {B : Bld} {p : Plc} (bx : Box B p) : (decide (hold b0 B p) && ((mvs B p).isEmpty || ((if hold b0 B p then mvs B p else []).any fun k => decide (EF b0 B (inc p k))))) = decide (EF b0 B p) := by
  by_cases h : hold b0 B p
  · rw [decide_eq_true h, if_pos h, Bool.true_and]
    by_cases f : EF b0 B p
    · rw [decide_eq_true f]
      rcases (ef_iff.mp f).2 with z | ⟨i, hi, hl, he⟩
      · have : mvs B p = [] := List.filter_eq_nil_iff.mpr fun i hi c => by
          have := z i (List.mem_range.mp hi)
          have := of_decide_eq_true c
          omega
        rw [this]; rfl
      · have hm : i ∈ mvs B p := List.mem_filter.mpr ⟨List.mem_range.mpr hi, decide_eq_true hl⟩
        rw [show ((mvs B p).any fun k => decide (EF b0 B (inc p k))) = true from List.any_eq_true.mpr ⟨i, hm, decide_eq_true he⟩, Bool.or_true]
    · rw [decide_eq_false f]
      have h1 : (mvs B p).isEmpty = false := by
        cases e : mvs B p with
        | nil => exact absurd (EF.full h (fullB_iff.mp (mvs_nil bx e))) f
        | cons a r => rfl
      have h2 : ((mvs B p).any fun k => decide (EF b0 B (inc p k))) = false := List.any_eq_false.mpr fun k hk c => by
        unfold mvs at hk
        rw [List.mem_filter] at hk
        exact f (.step h (List.mem_range.mp hk.1) (of_decide_eq_true hk.2) (of_decide_eq_true c))
      rw [h1, h2]; rfl
  · rw [decide_eq_false h, decide_eq_false fun z => h z.hold, Bool.false_and]
theorem ek_more {K : PySem.W.Frag} {H : Hp} {σ : St} {p : Plc} {k : Nat} {t1 t2 t3 t4 t5 t6 : TE} (h1 : EvK K t1 σ H (numsK p)) (h2 : EvK K t2 σ H (numK k)) (h3 : EvK K t3 σ H (numsK p)) (h4 : EvK K t4 σ H (numK k)) (h5 : EvK K t5 σ H (numsK p)) (h6 : EvK K t6 σ H (numK k)) (hk : k < p.length) (hl : p.length ≤ 400) :
    EvK K (tOp (rCatA K) (tOp (rCatA K) (tSl (rSlA K) t1 tNoPart (tPart t2)) (tTup (tCons (tOp (rI0 fun i j => .int (i + j)) (tOp (rIxT K) t3 t4) (tC (.int 1))) tNil))) (tSl (rSlA K) t5 (tPart (tOp (rI0 fun i j => .int (i + j)) t6 (tC (.int 1)))) tNoPart)) σ H (numsK (inc p k)) :=
  EvK.is (ek_putT (ks := p.map numK) (n := k) (k := numK (pl p k + 1)) h1 h2 (ek_succ (ek_ixT (ks := p.map numK) h3 h4 (nums_get hk))) h5 (ek_succ h6) (by rw [List.length_map]; exact hk) (by rw [List.length_map]; exact hl)) (by rw [nums_inc]; rfl)
theorem ok_l_ends_firm {P : Program} {w : World} {K : PySem.W.Frag} {mg : Str → Option Value} {base : Heap} {CB CF AF : Addr} (kn : Kn K mg "_law_ends_firm" s__law_ends_firm) (T : TX K mg CB CF AF) {n : Nat} (c_l_holds : Cal P w K mg base 3 "_law_holds" ["_law_cells_here"] (spLHolds K CB)) (c_l_next_cells : Cal P w K mg base 2 "_law_next_cells" ["_law_cells_here", "_law_deed"] (spLNext K CB)) (c_l_ends_firm : Cal P w K mg base (4+n) "_law_ends_firm" ["_law_cells_here", "_law_builders", "_law_places", "_law_known"] (spEF n w K CB)) : Cal P w K mg base (4+n+1) "_law_ends_firm" ["_law_cells_here", "_law_builders", "_law_places", "_law_known"] (spEF (n+1) w K CB) := by
  have nd := sc__law_ends_firm.nd
  refine Cal.mk kn sc__law_ends_firm (fun _ _ _ _ _ _ us hl => match us, hl with | [_, _, _, _], _ => rfl) (fun vs H Q E h => ?_) (fun f cdv A outer s H vs Q E hr h => ⟨_, (pss_cons (ps_if (pt_cmpR (op_notInN hr.units) (pv 2) (pv 3) (by with_unfolding_all rfl)) (pss_cons (ps_par (i := 4) (j := 5) (by rfl) nd rfl rfl (by decide) rfl rfl (pa_cons (pe_lc (own := [("_law_k", 6)]) (by rfl) nd (pi_range1 (by rfl) T.z_range (pa_cons (pe_callB call_len_seq (by rfl) T.z_len PySem.boot_len (pa_cons (pv 1) pa_nil)) pa_nil)) (blkOk_by (own := [("_law_k", 6)]) (N := ["_law_cells_here", "_law_builders", "_law_places", "_law_known", "_law_rest", "_law_found", "_law_k", "_law_more", "_law_later"]) (sc := defScope s__law_ends_firm) (by decide +kernel)) (fun _ _ _ _ _ => (pg_name (i := 6) nd rfl (by first | exact Or.inl rfl | exact Or.inr rfl))) (fun _ _ _ _ _ => pts_one (pt_cmpR op_lt (pe_ix (ix_tupK (K := K) rfl) (pv 2) (pv 6) (fun _ _ => rfl)) (pe_callB (call_lenK (K := K) rfl) (by rfl) T.z_len PySem.boot_len (pa_cons (pe_ix (ix_tupK (K := K) rfl) (pv 1) (pv 6) (fun _ _ => rfl)) pa_nil)) (nomark _))) (fun _ _ _ _ _ => (pv 6))) (pa_cons pe_bl pa_nil)) (by rfl))
  (pss_cons (ps_for PassesOwn.never (by rfl) (pi_list (pe_ifExp (pt_val (c_l_holds.pe (hr.mono (by omega)) (by rfl) (pa_cons (pv 0) pa_nil))) (pv 4) (pe_lst pa_nil))) (pg_name (i := 6) nd rfl (by first | exact Or.inl rfl | exact Or.inr rfl))
  (pss_cons (ps_set (i := 7) nd rfl (by first | exact Or.inl rfl | exact Or.inr rfl) (pe_op op_catA (pe_op op_catA (pe_slice sl_tupA (pv 2) po_none (po_some (pv 6))) (pe_tup (pa_cons (pe_op op_add (pe_ix ix_tup (pv 2) (pv 6) (fun _ _ => rfl)) pe_int) pa_nil))) (pe_slice sl_tupA (pv 2) (po_some (pe_op op_add (pv 6) pe_int)) po_none)))
  (pss_cons (ps_set (i := 8) nd rfl (by first | exact Or.inl rfl | exact Or.inr rfl) (c_l_next_cells.pe (hr.mono (by omega)) (by rfl) (pa_cons (pv 0) (pa_cons (pe_ix ix_tup (pe_ix ix_tup (pv 1) (pv 6) (fun _ _ => rfl)) (pe_ix ix_tup (pv 2) (pv 6) (fun _ _ => rfl)) (fun _ _ => rfl)) pa_nil))))
  (pss_one (ps_set (i := 5) nd rfl (by first | exact Or.inl rfl | exact Or.inr rfl) (pe_or (pv 5) (pe_one (c_l_ends_firm.pe (hr.mono (by omega)) (by rfl) (pa_cons (pv 8) (pa_cons (pv 1) (pa_cons (pv 7) (pa_cons (pv 3) pa_nil))))))))))))
  (pss_one (ps_asg (pe_and (c_l_holds.pe (hr.mono (by omega)) (by rfl) (pa_cons (pv 0) pa_nil)) (pe_one (pe_or (pe_cmpR (op_eqD hr.units) (pv 4) (pe_lst pa_nil) (nomark _)) (pe_one (pv 5))))) (pg_sub (pv 3) (pv 2) (set_N hr.units)))))) pss_nil)
  (pss_one (ps_ret (pe_ixN hr.units (pv 3) (pv 2) (fun _ _ => rfl))))), ?_⟩)
  · obtain ⟨R, W, b0, B, p, d, g, bx, hn, kf, a⟩ := h
    exact (Paired.length a.1 :)
  obtain ⟨R, W, b0, B, p, d, g, bx, hn, kf, a⟩ := h
  obtain ⟨hp, q⟩ := a
  have sd := sd_start (N := ["_law_cells_here", "_law_builders", "_law_places", "_law_known", "_law_rest", "_law_found", "_law_k", "_law_more", "_law_later"]) hp
  try dsimp only [cxOf, Cx.nox]
  have m2 := g.few.most
  have hlB : (B.map dsK).length = B.length := List.length_map _
  have lp := bx.len
  have hb := g.b5At p
  obtain ⟨E, dn, nd1, vals⟩ := id kf
  have lE : E.length ≤ 343 := by
    have := box_few g.few nd1 fun q hq => by
      obtain ⟨e, he, rfl⟩ := List.mem_map.mp hq
      exact (vals e he).1
    rwa [List.length_map] at this
  refine q_if (c := decide (p ∉ E.map (·.1))) (Evl.et_is (et_test (eb_notInN (w := w) (ks := p.map numK) (ek_var sd rfl) (ev_var sd rfl) dn (depth_nums p))) ?_) (fun hc H1 x1 => ?_) fun hc H1 x1 => ?_
  · rw [show NestedKey.tup (p.map numK) = numsK p from rfl, kvF_has (fun a b z => nums_inj z)]; simp
  · have hc : p ∉ E.map (·.1) := of_decide_eq_true hc
    have sd1 := sd.ex x1
    refine q_parFE (Pf := fun rl H2 => H2 rl = some (.lst (intsV (mvs B p)))) (Pg := fun _ v _ => v = .bl false) ((en_lcR (n := B.length) (fun i => decide (pl p i < sz B i)) (fun i y _ => y = .int (i : Int)) sd1 (EvK.is (ek_lenT (ks := B.map dsK) (ek_var sd1 rfl)) (by rw [hlB])) (by omega) (by simp) (fun _ _ _ _ _ z => z) fun i σ2 H2 hi x2 sd2 => ⟨?_, fun _ => EvK.v_int (ek_var sd2 rfl)⟩).f.mono fun rl H2 _ z => ?_) (fun _ _ _ _ _ => ev_c) fun rl v H2 H3 hrl x2 erl x3 ev => ?_
    · refine Evl.et_is (et_test (eb_ii (ek_ixT (ks := p.map numK) (ek_var sd2 rfl) (ek_var sd2 rfl) (nums_get (by omega))) (ek_lenT (ks := (dsAt B i).map dK) (ek_ixT (ks := B.map dsK) (ek_var sd2 rfl) (ek_var sd2 rfl) (ds_get hi))))) ?_
      rw [List.length_map]
      unfold sz
      simp
    · obtain ⟨xs, e, pr⟩ := z
      rw [e, paired_vals pr]; rfl
    subst ev
    have x13 := (x1.trans x2).trans x3
    have erl3 := x3 _ _ erl
    have sd3 := ((sd1.ex (x2.trans x3)).set (i := 4) (o := some (.ref rl)) (s := .val (.ref rl)) rfl).set (i := 5) (o := some (.bl false)) (s := .val (.bl false)) rfl
    refine q_of (s_forLX (xs := intsV (if hold b0 B p then mvs B p else [])) (ks := (if hold b0 B p then mvs B p else []).map numK) (e1_if (c := decide (hold b0 B p)) (et_B (e1_ans (ea_one (s := .dat (brdK (cellsAt b0 B p))) (ek_var sd3 rfl)) fun vs H1 Q a => ⟨R, W, _, hb, a⟩)) (fun hh => (ev_var sd3 rfl).mono fun v H4 x4 e => ?_) fun hh => en_nil.e1.mono fun v H4 x4 z => ?_) fun l H4 x4 el => ?_)
    · rw [if_pos (of_decide_eq_true hh)]
      exact ⟨rl, e, x4 _ _ erl3, by rw [datas_nums]; exact dp_ints _⟩
    · obtain ⟨l, xs, e1, e2, e3⟩ := z
      subst e3
      rw [if_neg (of_decide_eq_false hh)]
      exact ⟨l, e1, e2, .nil⟩
    have x14 := x13.trans x4
    have kf4 := kf.ex x14
    have ld := kf4.ne el
    have erl4 := x4 _ _ erl3
    have rld := kf4.ne erl4
    refine ⟨fun i σ' H' => SD K CB H' σ' [.dat (brdK (cellsAt b0 B p)), .dat (bldK B), .dat (numsK p), .val (.ref d), .val (.ref rl), .val (.bl (((if hold b0 B p then mvs B p else []).take i).any fun k => decide (EF b0 B (inc p k)))), .un, .un, .un] ∧ Tx H4 H' ∧ Xd d H4 H' ∧ KF w K d b0 B H', ⟨sd3.ex x4, Tx.refl _, fun _ _ _ z => z, kf4⟩, fun i σ' H' z => ⟨z.2.1, z.2.2.1 _ _ ld el⟩, fun i kk σ' H' hi z v dv => ?_, fun σ' H' z => ?_⟩
    · obtain ⟨s1, t1, xd1, kf1⟩ := z
      obtain ⟨k, hk, rfl⟩ := map_get hi
      have mk := List.mem_of_getElem? hk
      have hh : hold b0 B p := by
        apply Classical.byContradiction
        intro c
        rw [if_neg c] at mk; cases mk
      rw [if_pos hh] at mk
      unfold mvs at mk
      rw [List.mem_filter] at mk
      have hkB := List.mem_range.mp mk.1
      have hlt : pl p k < sz B k := of_decide_eq_true mk.2
      have et : ((if hold b0 B p then mvs B p else []).take (i + 1)).any (fun k => decide (EF b0 B (inc p k))) = ((((if hold b0 B p then mvs B p else []).take i).any fun k => decide (EF b0 B (inc p k))) || decide (EF b0 B (inc p k))) := by
        rw [List.take_succ, hk, List.any_append]
        simp
      generalize ((if hold b0 B p then mvs B p else []).take i).any (fun k => decide (EF b0 B (inc p k))) = fd at s1 et
      have s2 := s1.set (i := 6) (s := .dat (numK k)) ⟨v, rfl, dv⟩
      have hkp : k < p.length := by omega
      refine q_set (s := .dat (numsK (inc p k))) s2 (ek_more (ek_var s2 rfl) (ek_var s2 rfl) (ek_var s2 rfl) (ek_var s2 rfl) (ek_var s2 rfl) (ek_var s2 rfl) hkp (by omega)) fun σ3 H5 x5 s3 => ?_
      obtain ⟨dd, hd⟩ := next_some hlt
      have okd := g.g.okAt hkB hd
      refine q_set (s := .dat (brdK (cellsAt b0 B (inc p k)))) s3 (e1_ans (ea_two (s1 := .dat (brdK (cellsAt b0 B p))) (s2 := .dat (dK dd)) (ek_var s3 rfl) (ek_ixT (ks := (dsAt B k).map dK) (ek_ixT (ks := B.map dsK) (ek_var s3 rfl) (ek_var s3 rfl) (ds_get hkB)) (ek_ixT (ks := p.map numK) (ek_var s3 rfl) (ek_var s3 rfl) (nums_get hkp)) (dd_get hd))) fun vs H1 Q a => ⟨R, W, cellsAt b0 B p, dd, hb, DeedOk.into okd, by rw [next_cells g.g bx.len hkB hd]; exact a⟩) fun σ4 H6 x6 s4 => ?_
      have x56 := x5.trans x6
      refine s_or (ev_var s4 rfl) (fun ef H7 x7 => ⟨?_, t1.trans (ex_tx (x56.trans x7)), xd1.trans (Ex.xd (x56.trans x7)), kf1.ex (x56.trans x7)⟩) fun ef H7 x7 => ?_
      · have s5 := ((s4.ex x7).set (i := 5) (o := some (.bl true)) (s := .val (.bl true)) rfl).drops [6, 7, 8]
        rw [et, ef]
        exact s5
      · have s5 := s4.ex x7
        have x57 := x56.trans x7
        refine run_call (ea_cons (s := .dat (brdK (cellsAt b0 B (inc p k)))) (ek_var s5 rfl) (ea_three (s1 := .dat (bldK B)) (s2 := .dat (numsK (inc p k))) (s3 := .val (.ref d)) (ek_var s5 rfl) (ek_var s5 rfl) (ev_var s5 rfl))) fun vs H8 x8 pv => ⟨R, W, b0, B, inc p k, d, g, bx.inc hkB hlt, by rw [sum_inc hkp]; omega, kf1.ex (x57.trans x8), pv, fun H9 t9 xd9 kf9 => ⟨?_, (t1.trans (ex_tx (x57.trans x8))).trans t9, (xd1.trans (Ex.xd (x57.trans x8))).trans xd9, kf9⟩⟩
        have s6 := (((s5.ex x8).tx t9).set (i := 5) (o := some (.bl (decide (EF b0 B (inc p k))))) (s := .val (.bl (decide (EF b0 B (inc p k))))) rfl).drops [6, 7, 8]
        rw [et, ef, Bool.false_or]
        exact s6
    · obtain ⟨s1, t1, xd1, kf1⟩ := z
      rw [List.length_map, List.take_length] at s1
      have erl5 := xd1 _ _ rld erl4
      obtain ⟨E2, dn2, nd2, vals2⟩ := id kf1
      have lE2 : E2.length ≤ 343 := by
        have := box_few g.few nd2 fun q hq => by
          obtain ⟨e, he, rfl⟩ := List.mem_map.mp hq
          exact (vals2 e he).1
        rwa [List.length_map] at this
      refine s_putN (w := w) (d := d) (kvs := kvF numsK E2) (ks := p.map numK) (P := fun v _ => v = .bl (decide (EF b0 B p))) (EvV.is (eb_and (e1_ans (ea_one (s := .dat (brdK (cellsAt b0 B p))) (ek_var s1 rfl)) fun vs H1 Q a => ⟨R, W, _, hb, a⟩) fun _ => eb_or (eb_eqD (d := .list (intsD (mvs B p))) (d' := .list []) ((ev_var s1 rfl).mono fun v H5 x5 e => by subst e; exact .lst (SqL.of (x5 _ _ erl5)) (dp_ints _)) e1_nil ((shp_ints _).ok (by omega)) (shp_nil.ok (by omega))) fun _ => ev_var s1 rfl) ?_) (fun H2 x2 => ev_var (s1.ex x2) rfl) (ek_var s1 rfl) (fun v H2 x2 _ => dn2.ex x2) (depth_nums p) (by rw [kvF_len]; omega) fun v H5 H6 H7 x5 ev x6 hu dn7 t7 => ?_
      · rw [eqv_lnil, intsD_empty]
        exact congrArg V.bl (ef_mvs bx)
      · subst ev
        obtain ⟨u, rfl⟩ := hu
        obtain ⟨E3, e3, k3⟩ := kvF_put (f := numsK) (fun a b z => nums_inj z) p (.bl (decide (EF b0 B p))) E2
        have e4 : putK (kvF numsK E2) (.tup (p.map numK)) (.bl (decide (EF b0 B p))) = kvF numsK E3 := e3
        rw [e4] at dn7
        have x56 := x5.trans x6
        have mp : p ∈ E3.map (·.1) := by
          rw [k3]
          split
          · next h => exact h
          · simp
        have v3 : ∀ e ∈ E3, Box B e.1 ∧ e.2 = .bl (decide (EF b0 B e.1)) := kvF_putV (f := numsK) (fun a b z => nums_inj z) e3 (fun e => Box B e.1 ∧ e.2 = .bl (decide (EF b0 B e.1))) vals2 (fun e1 h1 => by
          subst h1; exact ⟨bx, rfl⟩) nd2 k3
        have nd3 : (E3.map (·.1)).Nodup := by
          rw [k3]
          split
          · exact nd2
          · next h => exact nodup_snoc nd2 h
        obtain ⟨vv, hv, mv⟩ := kvF_some (f := numsK) (fun a b z => nums_inj z) mp
        have ev := (v3 _ mv).2
        have ev : vv = .bl (decide (EF b0 B p)) := ev
        have s7 := (s1.ex x56).tx t7
        refine s_ret (D := { nx := fun _ H' => Q .non H', rt := Q }) (e1_getN (w := w) (ks := p.map numK) (ev_var s7 rfl) (ek_var s7 rfl) dn7 (depth_nums p) hv) fun v H8 x8 e => ?_
        subst e
        show Q v H8
        rw [ev]
        refine q H8 (((ex_tx x14).trans t1).trans (((ex_tx x56).trans t7).trans (ex_tx x8))) ?_ (KF.ex x8 ⟨E3, dn7, nd3, v3⟩)
        intro b o nb hbo
        refine x8 _ _ ?_
        rw [upd_ne nb]
        exact x56 _ _ (xd1 _ _ nb (x14 _ _ hbo))
  · have hc : p ∈ E.map (·.1) := by simpa using hc
    obtain ⟨vv, h1, h2⟩ := kvF_some (f := numsK) (fun a b z => nums_inj z) hc
    have ev : vv = .bl (decide (EF b0 B p)) := (vals _ h2).2
    have sd1 := sd.ex x1
    refine s_ret (D := { nx := fun _ H' => Q .non H', rt := Q }) (e1_getN (w := w) (ks := p.map numK) (ev_var sd1 rfl) (ek_var sd1 rfl) (dn.ex x1) (depth_nums p) h1) fun v H5 x5 e => ?_
    subst e
    show Q v H5
    rw [ev]
    exact q H5 (ex_tx (x1.trans x5)) (Ex.xd (x1.trans x5)) (kf.ex (x1.trans x5))
end Wx
end
section
set_option Elab.async false
set_option linter.all false
set_option maxRecDepth 100000
set_option maxHeartbeats 4000000
namespace Wx
open PySem PySem.Spec PyProof.Rows L2 Wv
open Evl (Ex ex_rd ex_l ex_t sq_of st_of fresh_back)
theorem spEF_zero {w : World} {K : PySem.W.Frag} {C : Addr} {vs : List V} {H : Hp} {Q : VK} {E : XK} (h : spEF 0 w K C vs H Q E) : False := by
  obtain ⟨R, W, b0, B, p, d, g, bx, hn, _⟩ := h
  have := bx.sum_le
  omega
theorem ok_efirm {P : Program} {w : World} {K : PySem.W.Frag} {mg : Str → Option Value} {base : Heap} {CB CF AF : Addr} (kn : Kn K mg "_law_ends_firm" s__law_ends_firm) (T : TX K mg CB CF AF) (c_l_holds : Cal P w K mg base 3 "_law_holds" ["_law_cells_here"] (spLHolds K CB)) (c_l_next_cells : Cal P w K mg base 2 "_law_next_cells" ["_law_cells_here", "_law_deed"] (spLNext K CB)) :
    ∀ n, Cal P w K mg base (4+n) "_law_ends_firm" ["_law_cells_here", "_law_builders", "_law_places", "_law_known"] (spEF n w K CB)
  | 0 => by
    refine Cal.mk (k := 3) kn sc__law_ends_firm (fun _ _ _ _ _ _ us hl => match us, hl with | [_, _, _, _], _ => rfl) (fun vs H Q E h => (spEF_zero h).elim) (fun f cdv A outer s H vs Q E hr h => (spEF_zero h).elim)
  | n + 1 => ok_l_ends_firm kn T c_l_holds c_l_next_cells (ok_efirm kn T c_l_holds c_l_next_cells n)
/-! ### least_firm -/
def goodK (b0 : Brd) (B : Bld) (p : Plc) (k : Nat) : NK := .tup [numK k, numsK (inc p k), brdK (cellsAt b0 B (inc p k))]
theorem goods_few (b0 : Brd) (B : Bld) (p : Plc) (n : Nat) : (goods b0 B p n).length ≤ n := by
  unfold goods
  exact Nat.le_trans (List.length_filter_le _ _) (by simp)
def spLeast (w : World) (K : PySem.W.Frag) (C : Addr) : Sp := fun vs H Q _ => ∃ R W b0 B, Gd R W b0 B ∧ Ans K C [.dat (brdK b0), .dat (bldK B)] (fun v H' => Dp K H' v (foK b0 B).data) vs H Q
theorem full_sz (B : Bld) : (List.range B.length).map (fun i => V.int ((sz B i : Nat) : Int)) = intsV (full B) := by
  unfold intsV full
  rw [List.map_map]
  apply List.ext_getElem
  · simp
  · intro i h1 h2
    simp only [List.length_map, List.length_range] at h1
    simp [sz, dsAt, List.getD_eq_getElem?_getD, List.getElem?_eq_getElem h1]
theorem ok_l_least_firm {P : Program} {w : World} {K : PySem.W.Frag} {mg : Str → Option Value} {base : Heap} {CB CF AF : Addr} (kn : Kn K mg "_law_least_firm" s__law_least_firm) (T : TX K mg CB CF AF) (c_l_next_cells : Cal P w K mg base 2 "_law_next_cells" ["_law_cells_here", "_law_deed"] (spLNext K CB)) (c_l_ends_firm : Cal P w K mg base 23 "_law_ends_firm" ["_law_cells_here", "_law_builders", "_law_places", "_law_known"] (spEF 19 w K CB)) : Cal P w K mg base 24 "_law_least_firm" ["_law_cells_here", "_law_builders"] (spLeast w K CB) := by
  have nd := sc__law_least_firm.nd
  refine Cal.mk kn sc__law_least_firm (fun _ _ _ _ _ _ us hl => match us, hl with | [_, _], _ => rfl) (fun vs H Q E h => ?_) (fun f cdv A outer s H vs Q E hr h => ⟨_, (pss_cons (ps_par3 (i := 2) (j := 3) (l := 4) (by rfl) nd rfl rfl rfl (by decide) (by decide) (by decide) rfl rfl rfl (pa_cons pe_newN (pa_cons (pe_tup pa_nil) (pa_cons (pe_op op_repA (pe_tup (pa_cons pe_int pa_nil)) (pe_callB call_len_seq (by rfl) T.z_len PySem.boot_len (pa_cons (pv 1) pa_nil))) pa_nil))) (by rfl))
  (pss_cons (ps_if (pt_not (pt_val (c_l_ends_firm.pe (hr.mono (by omega)) (by rfl) (pa_cons (pv 0) (pa_cons (pv 1) (pa_cons (pv 4) (pa_cons (pv 2) pa_nil))))))) (pss_one (ps_ret pe_non)) pss_nil)
  (pss_cons (ps_for PassesOwn.never (by rfl) (pi_range1 (by rfl) T.z_range (pa_cons (pe_callB (cr_sum rfl) (by rfl) T.z_sum (by decide +kernel) (pa_cons (pe_lc (own := [("_law_deeds", 10)]) (by rfl) nd (pi_tup (pv 1)) (blkOk_by (own := [("_law_deeds", 10)]) (N := ["_law_cells_here", "_law_builders", "_law_known", "_law_order", "_law_places", "_law_turn", "_law_some", "_law_k", "_law_more", "_law_later", "_law_deeds"]) (sc := defScope s__law_least_firm) (by decide +kernel)) (fun _ _ _ _ _ => (pg_name (i := 10) nd rfl (by first | exact Or.inl rfl | exact Or.inr rfl))) (fun _ _ _ _ _ => pts_nil) (fun _ _ _ _ _ => (pe_callB (call_lenK (K := K) rfl) (by rfl) T.z_len PySem.boot_len (pa_cons (pv 10) pa_nil)))) pa_nil)) pa_nil)) (pg_name (i := 5) nd rfl (by first | exact Or.inl rfl | exact Or.inr rfl))
  (pss_cons (ps_set (i := 6) nd rfl (by first | exact Or.inl rfl | exact Or.inr rfl) (pe_lst pa_nil))
  (pss_cons (ps_for PassesOwn.never (by rfl) (pi_range1 (by rfl) T.z_range (pa_cons (pe_callB call_len_seq (by rfl) T.z_len PySem.boot_len (pa_cons (pv 1) pa_nil)) pa_nil)) (pg_name (i := 7) nd rfl (by first | exact Or.inl rfl | exact Or.inr rfl))
  (pss_one (ps_if (pt_cmpR op_lt (pe_ix ix_tup (pv 4) (pv 7) (fun _ _ => rfl)) (pe_callB call_len_seq (by rfl) T.z_len PySem.boot_len (pa_cons (pe_ix ix_tup (pv 1) (pv 7) (fun _ _ => rfl)) pa_nil)) (nomark _)) (pss_cons (ps_set (i := 8) nd rfl (by first | exact Or.inl rfl | exact Or.inr rfl) (pe_op op_catA (pe_op op_catA (pe_slice sl_tupA (pv 4) po_none (po_some (pv 7))) (pe_tup (pa_cons (pe_op op_add (pe_ix ix_tup (pv 4) (pv 7) (fun _ _ => rfl)) pe_int) pa_nil))) (pe_slice sl_tupA (pv 4) (po_some (pe_op op_add (pv 7) pe_int)) po_none)))
  (pss_cons (ps_set (i := 9) nd rfl (by first | exact Or.inl rfl | exact Or.inr rfl) (c_l_next_cells.pe (hr.mono (by omega)) (by rfl) (pa_cons (pv 0) (pa_cons (pe_ix ix_tup (pe_ix ix_tup (pv 1) (pv 7) (fun _ _ => rfl)) (pe_ix ix_tup (pv 4) (pv 7) (fun _ _ => rfl)) (fun _ _ => rfl)) pa_nil))))
  (pss_one (ps_if (pt_val (c_l_ends_firm.pe (hr.mono (by omega)) (by rfl) (pa_cons (pv 9) (pa_cons (pv 1) (pa_cons (pv 8) (pa_cons (pv 2) pa_nil)))))) (pss_one (ps_expr (pe_bm PySem.F.plainAttrs_list PySem.F.slot_list_append PySem.F.type_list_append mt_append (pv 6) (pa_cons (pe_tup (pa_cons (pv 7) (pa_cons (pv 8) (pa_cons (pv 9) pa_nil)))) pa_nil)))) pss_nil)))) pss_nil)))
  (pss_one (ps_par3 (i := 3) (j := 4) (l := 0) (by rfl) nd rfl rfl rfl (by decide) (by decide) (by decide) rfl rfl rfl (pa_cons (pe_op op_catA (pv 3) (pe_tup (pa_cons (pe_ix ix_tup (pe_ix ix_list (pv 6) pe_int (fun _ _ => rfl)) pe_int (fun _ _ => rfl)) pa_nil))) (pa_cons (pe_ix ix_tup (pe_ix ix_list (pv 6) pe_int (fun _ _ => rfl)) pe_int (fun _ _ => rfl)) (pa_cons (pe_ix ix_tup (pe_ix ix_list (pv 6) pe_int (fun _ _ => rfl)) pe_int (fun _ _ => rfl)) pa_nil))) (by rfl))))))
  (pss_one (ps_ret (pv 3)))))), ?_⟩)
  · obtain ⟨R, W, b0, B, g, a⟩ := h
    exact (Paired.length a.1 :)
  obtain ⟨R, W, b0, B, g, a⟩ := h
  obtain ⟨hp, q⟩ := a
  have sd := sd_start (N := ["_law_cells_here", "_law_builders", "_law_known", "_law_order", "_law_places", "_law_turn", "_law_some", "_law_k", "_law_more", "_law_later", "_law_deeds"]) hp
  try dsimp only [cxOf, Cx.nox]
  have m1 := g.few.pos
  have m2 := g.few.most
  have h18 := total_le g.few
  have hlB : (B.map dsK).length = B.length := List.length_map _
  refine q_par3F (Pf := fun d H2 => DN w K H2 d []) (P2 := fun v H2 => Dp K H2 v (numsK []).data) (P3 := fun v H2 => Dp K H2 v (numsK (zero B)).data) ef_newN (ek_tup (C := CB) (ks := []) ea_nil (by simp)) (EvK.is (ek_rep (k := .num 0) (n := B.length) (ek_tup (C := CB) (ks := [.num 0]) (ea_one (s := .dat (.num 0)) ek_int) (by simp)) (EvK.is (ek_lenT (ks := B.map dsK) (ek_var sd rfl)) (by rw [hlB])) m1 (by omega)) (by rw [zero_nums]; rfl)) fun d v u H1 H2 H3 hd x1 dn x2 dv x3 du => ?_
  have frd := hd
  have x13 := (x1.trans x2).trans x3
  have sd3 := (((sd.ex x13).set (i := 2) (o := some (.ref d)) (s := .val (.ref d)) rfl).set (i := 3) (s := .dat (numsK [])) ⟨v, rfl, Dp.ex x3 _ _ dv⟩).set (i := 4) (s := .dat (numsK (zero B))) ⟨u, rfl, du⟩
  have kf3 : KF w K d b0 B H3 := ⟨[], dn.ex (x2.trans x3), by simp, fun e he => by cases he⟩
  refine q_ifNotC (run_call (ea_cons (s := .dat (brdK b0)) (ek_var sd3 rfl) (ea_three (s1 := .dat (bldK B)) (s2 := .dat (numsK (zero B))) (s3 := .val (.ref d)) (ek_var sd3 rfl) (ek_var sd3 rfl) (ev_var sd3 rfl))) fun vs H4 x4 pv => ⟨R, W, b0, B, zero B, d, g, Box.zero B, by rw [zero_sum]; omega, kf3.ex x4, by rw [cells_zero]; exact pv, fun H5 t5 xd5 kf5 => ⟨_, rfl, ?_⟩⟩)
  have xh5 : Ex H H5 := Xd.back (x13.trans x4) xd5 frd
  have sd5 := (sd3.ex x4).tx t5
  by_cases hz : EF b0 B (zero B)
  rotate_left
  · rw [decide_eq_false hz]
    show Q .non H5
    refine q .non H5 xh5 ?_
    unfold foK
    rw [if_neg hz]; exact .non
  · rw [decide_eq_true hz]
    refine q_of (D := { nx := fun _ H' => Q .non H', rt := Q }) (s_forR (n := total B) (ek_sum (l := full B) ((en_lcT (ks := B.map dsK) (fun _ => true) (fun i y _ => y = .int ((sz B i : Nat) : Int)) sd5 (ek_var sd5 rfl) (by rw [hlB]; omega) (by simp) (fun _ _ _ _ _ z => z) fun i kk σ2 H6 hk x6 sd6 => ⟨et_yes, fun _ => ?_⟩).mono fun xs H6 _ pr => ?_)) (by omega) fun H6 x6 => ⟨fun i σ' H' => SD K CB H' σ' [.dat (brdK (cellsAt b0 B (gr b0 B i).1)), .dat (bldK B), .val (.ref d), .dat (numsK (gr b0 B i).2), .dat (numsK (gr b0 B i).1), .un, .un, .un, .un, .un, .un] ∧ Ex H H' ∧ KF w K d b0 B H', ⟨?_, xh5.trans x6, kf5.ex x6⟩, fun i σ' H' hi z => ?_, fun σ' H' z => ?_⟩)
    · obtain ⟨ds, hds, rfl⟩ := map_get hk
      refine (EvK.is (ek_lenT (ks := ds.map dK) (ek_var sd6 rfl)) ?_).v_int
      have : dsAt B i = ds := by unfold dsAt; rw [List.getD_eq_getElem?_getD, hds]; rfl
      unfold sz
      rw [this, List.length_map]
    · rw [filt_all, hlB] at pr
      rw [paired_vals pr, full_sz]
    · have := sd5.ex x6
      rw [← cells_zero (b0 := b0) (B := B)] at this
      exact this
    · obtain ⟨s1, xh1, kf1⟩ := z
      obtain ⟨bx, hs, he, hl, hlt⟩ := gr_ok hz i (by omega)
      obtain ⟨rr, ep, pk1, pk2, pk3, _⟩ := pick_spec bx he (not_full_of_sum bx (by omega))
      have egr : gr b0 B (i + 1) = (inc (gr b0 B i).1 (pick b0 B (gr b0 B i).1), (gr b0 B i).2 ++ [pick b0 B (gr b0 B i).1]) := rfl
      generalize (gr b0 B i).1 = p at *
      generalize (gr b0 B i).2 = o at *
      have lp := bx.len
      have hbp := g.b5At p
      have s2 := (s1.set (i := 5) (o := some (.int (i : Int))) (s := .un) trivial)
      refine q_setN s2 en_nil fun r ys σ3 H7 hr x7 er e0 s3 => ?_
      subst e0
      have frr : H r = none := fresh_back xh1 hr
      refine q_of (s_forR (n := B.length) (EvK.is (ek_lenT (ks := B.map dsK) (ek_var s3 rfl)) (by rw [hlB])) (by omega) fun H8 x8 => ⟨fun k σ' H' => SD K CB H' σ' [.dat (brdK (cellsAt b0 B p)), .dat (bldK B), .val (.ref d), .dat (numsK o), .dat (numsK p), .un, .val (.ref r), .un, .un, .un, .un] ∧ Ex H H' ∧ KF w K d b0 B H' ∧ ∃ ys, H' r = some (.lst ys) ∧ DpAll K H' ys (NestedKey.datas ((goods b0 B p k).map (goodK b0 B p))), ⟨s3.ex x8, (xh1.trans x7).trans x8, kf1.ex (x7.trans x8), [], x8 _ _ er, .nil⟩, fun k σ' H' hk z => ?_, fun σ' H' z => ?_⟩)
      · obtain ⟨s4, xh4, kf4, ys, ey, dy⟩ := z
        have hkp : k < p.length := by omega
        have s5 := s4.set (i := 7) (o := some (.int (k : Int))) (s := .dat (numK k)) ⟨_, rfl, .int _⟩
        refine s_if (c := decide (pl p k < sz B k)) (Evl.et_is (et_test (eb_ii (ek_ixT (ks := p.map numK) (ek_var s5 rfl) (ek_var s5 rfl) (nums_get hkp)) (ek_lenT (ks := (dsAt B k).map dK) (ek_ixT (ks := B.map dsK) (ek_var s5 rfl) (ek_var s5 rfl) (ds_get hk))))) ?_) (fun hc H9 x9 => ?_) fun hc H9 x9 => ?_
        · rw [List.length_map]
          unfold sz
          simp
        · have hlt : pl p k < sz B k := of_decide_eq_true hc
          have s6 := s5.ex x9
          refine q_set (s := .dat (numsK (inc p k))) s6 (ek_more (ek_var s6 rfl) (ek_var s6 rfl) (ek_var s6 rfl) (ek_var s6 rfl) (ek_var s6 rfl) (ek_var s6 rfl) hkp (by omega)) fun σ7 Ha xa s7 => ?_
          obtain ⟨dd, hd⟩ := next_some hlt
          have okd := g.g.okAt hk hd
          refine q_set (s := .dat (brdK (cellsAt b0 B (inc p k)))) s7 (e1_ans (ea_two (s1 := .dat (brdK (cellsAt b0 B p))) (s2 := .dat (dK dd)) (ek_var s7 rfl) (ek_ixT (ks := (dsAt B k).map dK) (ek_ixT (ks := B.map dsK) (ek_var s7 rfl) (ek_var s7 rfl) (ds_get hk)) (ek_ixT (ks := p.map numK) (ek_var s7 rfl) (ek_var s7 rfl) (nums_get hkp)) (dd_get hd))) fun vs H1 Q a => ⟨R, W, cellsAt b0 B p, dd, hbp, DeedOk.into okd, by rw [next_cells g.g bx.len hk hd]; exact a⟩) fun σ8 Hb xb s8 => ?_
          have x9b := (x9.trans xa).trans xb
          refine s_ifC (run_call (ea_cons (s := .dat (brdK (cellsAt b0 B (inc p k)))) (ek_var s8 rfl) (ea_three (s1 := .dat (bldK B)) (s2 := .dat (numsK (inc p k))) (s3 := .val (.ref d)) (ek_var s8 rfl) (ek_var s8 rfl) (ev_var s8 rfl))) fun vs Hc xc pv => ⟨R, W, b0, B, inc p k, d, g, bx.inc hk hlt, by omega, kf4.ex (x9b.trans xc), pv, fun Hd td xdd kfd => ⟨_, rfl, ?_⟩⟩)
          have s9 := (s8.ex xc).tx td
          have x9c := x9b.trans xc
          have rd : r ≠ d := (kf4.ex x9c).ne (x9c _ _ ey)
          have eyd := xdd _ _ rd (x9c _ _ ey)
          have dyd := DpAll.tx td _ _ (DpAll.ex x9c _ _ dy)
          have xhd : Ex H Hd := Xd.back (xh4.trans x9c) xdd frd
          by_cases hef : EF b0 B (inc p k)
          · rw [decide_eq_true hef, if_pos rfl]
            have yl : ys.length ≤ 3 := by
              rw [dpAll_len dy, datas_len, List.length_map]
              exact Nat.le_trans (goods_few b0 B p k) (by omega)
            refine s_app (tx := tVar 0) (ev_var s9 rfl) eyd (ek_tup (C := CB) (ks := [numK k, numsK (inc p k), brdK (cellsAt b0 B (inc p k))]) (ea_three (s1 := .dat (numK k)) (s2 := .dat (numsK (inc p k))) (s3 := .dat (brdK (cellsAt b0 B (inc p k)))) (ek_var s9 rfl) (ek_var s9 rfl) (ek_var s9 rfl)) (by simp)) (by omega) fun v He xe dv => ?_
            have eye := xe _ _ eyd
            have te : Tx He (upd He r (.lst (ys ++ [v]))) := tx_lst eye
            refine ⟨((s9.ex xe).tx te).drops [7, 8, 9], Ex.mut (xhd.trans xe) frr, (kfd.ex xe).tx te fun o z => by rw [upd_ne rd.symm]; exact z, _, upd_same, ?_⟩
            rw [goods_succ, if_pos ⟨hlt, hef⟩, List.map_append, datas_app]
            exact dpAll_app (DpAll.tx te _ _ (DpAll.ex xe _ _ dyd)) (.cons (Dp.tx te (goodK b0 B p k) _ dv) .nil)
          · rw [decide_eq_false hef, if_neg Bool.false_ne_true]
            refine ⟨s9.drops [7, 8, 9], xhd, kfd, ys, eyd, ?_⟩
            rw [goods_succ, if_neg (fun z => hef z.2), List.append_nil]
            exact dyd
        · have hlt : ¬ pl p k < sz B k := of_decide_eq_false hc
          refine ⟨(s5.ex x9).drops [7], xh4.trans x9, kf4.ex x9, ys, x9 _ _ ey, ?_⟩
          rw [goods_succ, if_neg (fun z => hlt z.1), List.append_nil]
          exact DpAll.ex x9 _ _ dy
      · obtain ⟨s4, xh4, kf4, ys, ey, dy⟩ := z
        rw [ep] at dy
        generalize hpk : pick b0 B p = k at *
        have pg : ∀ {i : Int} {n : Nat}, True := trivial
        have e0 : EvK K (tOp (rIxL K) (tVar 6) (tC (.int 0))) σ' H' (goodK b0 B p k) := ek_ixLK (ks := (k :: rr).map (goodK b0 B p)) (n := 0) (ev_var s4 rfl) ey dy ek_int rfl
        refine s_par3 (P1 := fun v H => Dp K H v (numsK (o ++ [k])).data) (P2 := fun v H => Dp K H v (numsK (inc p k)).data) (P3 := fun v H => Dp K H v (brdK (cellsAt b0 B (inc p k))).data) (EvK.is (ek_cat (a := o.map numK) (b := [numK k]) (ek_var s4 rfl) (ek_tup (C := CB) (ks := [numK k]) (ea_one (s := .dat (numK k)) (ek_ixT (ks := [numK k, numsK (inc p k), brdK (cellsAt b0 B (inc p k))]) e0 ek_int rfl)) (by simp)) (by rw [List.length_map, hl, List.length_singleton]; omega)) (by unfold numsK; rw [List.map_append]; rfl)) (ek_ixT (ks := [numK k, numsK (inc p k), brdK (cellsAt b0 B (inc p k))]) e0 ek_int rfl) (ek_ixT (ks := [numK k, numsK (inc p k), brdK (cellsAt b0 B (inc p k))]) e0 ek_int rfl) fun u v w Ha Hb Hc xa pu xb pv xc pw => ?_
        have xac := (xa.trans xb).trans xc
        refine ⟨?_, xh4.trans xac, kf4.ex xac⟩
        rw [egr]
        exact ((((s4.ex xac).set (i := 3) (s := .dat (numsK (o ++ [k]))) ⟨u, rfl, Dp.ex (xb.trans xc) _ _ pu⟩).set (i := 4) (s := .dat (numsK (inc p k))) ⟨v, rfl, Dp.ex xc _ _ pv⟩).set (i := 0) (s := .dat (brdK (cellsAt b0 B (inc p k)))) ⟨w, rfl, pw⟩).drops [6]
    · obtain ⟨s1, xh1, kf1⟩ := z
      refine s_ret (ek_var (k := numsK (gr b0 B (total B)).2) s1 rfl) fun v H7 x7 dv => q v H7 (xh1.trans x7) ?_
      unfold foK
      rw [if_pos hz]; exact dv
end Wx
end
section
set_option Elab.async false
set_option linter.all false
set_option maxRecDepth 100000
set_option maxHeartbeats 4000000
namespace Wx
open PySem PySem.Spec PyProof.Rows L2 Wv
open Evl (Ex ex_rd ex_l ex_t sq_of st_of fresh_back)
/-! ### the row of drawn numbers -/
structure RowOk (K : PySem.W.Frag) (s : Addr) (ns : List Int) (H : Hp) (rw : Addr) : Prop where
  ex : ∃ i j k : Int, H rw = some (.lst [.ref s, .int i, .int j, .int k]) ∧ 0 ≤ i ∧ 0 ≤ j ∧ j < 2147483647
  sq : SqL K H s (ns.map V.int)
  ne : s ≠ rw ∨ ∀ H', SqL K H' s (ns.map V.int)
section
variable {K : PySem.W.Frag} {C : Addr} {H H' H0 H1 H2 : Hp} {σ : St} {e as : List Sl} {ta tb tc te tl tk tv td ty : TE} {P Pa Pb : V → Hp → Prop} {v y : V} {j : Nat} {rw d : Addr}
theorem RowOk.ex1 {s : Addr} {ns : List Int} (x : Ex H H') (h : RowOk K s ns H rw) : RowOk K s ns H' rw := by
  obtain ⟨i, j, k, h1, h3⟩ := h.ex
  exact ⟨⟨i, j, k, x _ _ h1, h3⟩, ex_l x h.sq, h.ne⟩
theorem rd_xd {s : Addr} {u : HO} (x : Xd d H H') (n : s ≠ d) (h : Rd H s u) : Rd H' s u := by
  rcases h with h | ⟨o, h⟩
  · exact .inl (x _ _ n h)
  · exact .inr ⟨o, x _ _ n h⟩
theorem sqL_xd {s : Addr} {xs : List V} (x : Xd d H H') (n : s ≠ d ∨ ∀ H', SqL K H' s xs) (h : SqL K H s xs) : SqL K H' s xs := n.elim (fun n => h.elim (fun z => .inl (rd_xd x n z)) .inr) fun z => z H'
theorem ev_row {xs : List V} {k : Nat} (ho : EvV ta σ H (.ref rw)) (e : H rw = some (.lst xs)) (h : xs[k]? = some v) : EvV (tOp (rIxL K) ta (tC (.int (k : Int)))) σ H v := fun H1 x Q q => ho H1 x _ fun a H2 x2 ea => by
  subst ea
  exact ⟨rw, xs, (k : Int), v, rfl, rfl, sq_of (x2 _ _ (x _ _ e)), atI_nat h, q v H2 x2 rfl⟩
theorem ev_int1 {n : Int} (h : EvV te σ H (.int n)) : EvV (tCB (fun xs H Q => (∃ i, xs = [.int i] ∧ Q (.int i) H) ∨ ∃ k, xs = [.bl k] ∧ Q (.int (if k then 1 else 0)) H) (tCons te tNil)) σ H (.int n) := fun H1 x Q q => h H1 x _ fun a H2 x2 ea => by
  subst ea
  exact .inl ⟨n, rfl, q _ H2 x2 rfl⟩
theorem ev_iic {Cn : Int → Int → Prop} {g : Int → Int → Int} {i j : Int} (ha : EvV ta σ H (.int i)) (hb : EvV tb σ H (.int j)) (hc : Cn i j) : EvV (tOp (rI Cn fun i j => .int (g i j)) ta tb) σ H (.int (g i j)) := ev_op ha hb fun _ _ q => ⟨i, j, rfl, rfl, hc, q⟩
theorem ev_ii {g : Int → Int → Int} {i j : Int} (ha : EvV ta σ H (.int i)) (hb : EvV tb σ H (.int j)) : EvV (tOp (rI0 fun i j => .int (g i j)) ta tb) σ H (.int (g i j)) := ev_op ha hb fun _ _ q => ⟨i, j, rfl, rfl, q⟩
theorem ev_iib {g : Int → Int → Bool} {i j : Int} (ha : EvV ta σ H (.int i)) (hb : EvV tb σ H (.int j)) : EvV (tOp (rI0 fun i j => .bl (g i j)) ta tb) σ H (.bl (g i j)) := ev_op ha hb fun _ _ q => ⟨i, j, rfl, rfl, q⟩
theorem ev_lenL {s : Addr} {xs : List V} (ho : EvV ta σ H (.ref s)) (h : SqL K H s xs) : EvV (tCB (fun xs H Q => ∃ p ys, xs = [.ref p] ∧ (SqL K H p ys ∨ SqT K H p ys) ∧ Q (.int ys.length) H) (tCons ta tNil)) σ H (.int (xs.length : Int)) := fun H1 x Q q => ho H1 x _ fun a H2 x2 ea => by
  subst ea
  exact ⟨s, xs, rfl, .inl (ex_l (x.trans x2) h), q _ H2 x2 rfl⟩
theorem ev_ixS {s : Addr} {xs : List V} {m : Nat} {i : Int} (ho : EvV ta σ H (.ref s)) (h : SqL K H s xs) (hb : EvV tb σ H (.int i)) (ei : i = (m : Int)) (hm : xs[m]? = some v) : EvV (tOp (rIxL K) ta tb) σ H v := fun H1 x Q q => ho H1 x _ fun a H2 x2 ea => hb H2 (x.trans x2) _ fun b H3 x3 eb => by
  subst ea eb
  exact ⟨s, xs, i, v, rfl, rfl, ex_l ((x.trans x2).trans x3) h, by rw [ei]; exact atI_nat hm, q _ H3 (x2.trans x3) rfl⟩
theorem fmod_nat {x : Int} {n : Nat} (h : 1 ≤ n) : x.fmod (n : Int) = (((x.fmod (n : Int)).toNat : Nat) : Int) ∧ (x.fmod (n : Int)).toNat < n := by
  have h1 := Int.fmod_nonneg_of_pos x (show (0 : Int) < (n : Int) by omega)
  have h2 := Int.fmod_lt_of_pos x (show (0 : Int) < (n : Int) by omega)
  omega
end
def spTaken (K : PySem.W.Frag) (C : Addr) : Sp := fun vs H Q _ => ∃ rw s ns n, RowOk K s ns H rw ∧ 1 ≤ n ∧ n ≤ 1000 ∧ Paired (VOk K C H) vs [.val (.ref rw), .dat (numK n)] ∧ ∀ (t : Nat) H', t < n → RowOk K s ns H' rw → Xd rw H H' → Tx H H' → Q (.int (t : Int)) H'
theorem ok_l_taken {P : Program} {w : World} {K : PySem.W.Frag} {mg : Str → Option Value} {base : Heap} {CB CF AF : Addr} (kn : Kn K mg "_law_taken" s__law_taken) (T : TX K mg CB CF AF)  : Cal P w K mg base 1 "_law_taken" ["_law_row", "_law_many_here"] (spTaken K CB) := by
  have nd := sc__law_taken.nd
  refine Cal.mk kn sc__law_taken (fun _ _ _ _ _ _ us hl => match us, hl with | [_, _], _ => rfl) (fun vs H Q E h => ?_) (fun f cdv A outer s H vs Q E hr h => ⟨_, (pss_cons (ps_if (pt_cmpR op_gt (pe_ix ix_list (pv 0) pe_int (fun _ _ => rfl)) pe_int (nomark _)) (pss_cons (ps_set (i := 2) nd rfl (by first | exact Or.inl rfl | exact Or.inr rfl) (pe_op op_modN (pe_callTy call_int1 (by rfl) T.z_int (by decide +kernel) (pa_cons (pe_ix ix_list (pv 0) pe_int (fun _ _ => rfl)) pa_nil)) (pv 1)))
  (pss_cons (ps_asg (pe_op op_fdivW (pe_ix ix_list (pv 0) pe_int (fun _ _ => rfl)) (pv 1)) (pg_sub (pv 0) pe_int set_list))
  (pss_one (ps_ret (pv 2))))) pss_nil)
  (pss_cons (ps_asg (pe_op op_add (pe_ix ix_list (pv 0) pe_int (fun _ _ => rfl)) pe_int) (pg_sub (pv 0) pe_int set_list))
  (pss_cons (ps_if (pt_cmpR op_gt (pe_ix ix_list (pv 0) pe_int (fun _ _ => rfl)) (pe_callB call_len_seq (by rfl) T.z_len PySem.boot_len (pa_cons (pe_ix ix_list (pv 0) pe_int (fun _ _ => rfl)) pa_nil)) (nomark _)) (pss_cons (ps_asg (pe_op op_modN (pe_callTy call_int1 (by rfl) T.z_int (by decide +kernel) (pa_cons (pe_op op_add (pe_op op_mulW (pe_ix ix_list (pv 0) pe_int (fun _ _ => rfl)) pe_int) pe_int) pa_nil)) pe_int) (pg_sub (pv 0) pe_int set_list))
  (pss_one (ps_ret (pe_op op_modN (pe_callTy call_int1 (by rfl) T.z_int (by decide +kernel) (pa_cons (pe_op op_fdivW (pe_ix ix_list (pv 0) pe_int (fun _ _ => rfl)) pe_int) pa_nil)) (pv 1))))) pss_nil)
  (pss_cons (ps_set (i := 3) nd rfl (by first | exact Or.inl rfl | exact Or.inr rfl) (pe_ix ix_list (pe_ix ix_list (pv 0) pe_int (fun _ _ => rfl)) (pe_op op_sub (pe_ix ix_list (pv 0) pe_int (fun _ _ => rfl)) pe_int) (fun _ _ => rfl)))
  (pss_cons (ps_asg (pe_op op_modN (pe_callTy call_int1 (by rfl) T.z_int (by decide +kernel) (pa_cons (pe_op op_add (pe_op op_add (pe_op op_mulW (pe_ix ix_list (pv 0) pe_int (fun _ _ => rfl)) pe_int) (pv 3)) pe_int) pa_nil)) pe_int) (pg_sub (pv 0) pe_int set_list))
  (pss_cons (ps_if (pt_cmpR op_ge (pv 3) (pe_op op_pow pe_int pe_int) (nomark _)) (pss_one (ps_asg (pe_op op_fdivW (pv 3) (pv 1)) (pg_sub (pv 0) pe_int set_list))) pss_nil)
  (pss_one (ps_ret (pe_op op_modN (pe_callTy call_int1 (by rfl) T.z_int (by decide +kernel) (pa_cons (pv 3) pa_nil)) (pv 1)))))))))), ?_⟩)
  · obtain ⟨rw, s, ns, n, ro, n1, n1000, a⟩ := h
    exact (Paired.length a.1 :)
  obtain ⟨rw, s, ns, n, ro, n1, n1000, a⟩ := h
  obtain ⟨hp, q⟩ := a
  have sd := sd_start (N := ["_law_row", "_law_many_here", "_law_found", "_law_cell"]) hp
  try dsimp only [cxOf, Cx.nox]
  obtain ⟨i, j, k, er, i0, j0, j1⟩ := ro.ex
  have hs := ro.sq
  have nrw := ro.ne
  have hn : EvV (tVar 1) (start _ vs) H (.int (n : Int)) := EvK.v_int (i := (n : Int)) (ek_var sd rfl)
  have ho : EvV (tVar 0) (start _ vs) H (.ref rw) := ev_var sd rfl
  have nz : (n : Int) ≠ 0 := by omega
  have np : (0 : Int) < (n : Int) := by omega
  have upx : ∀ {H1 : Hp} {o : HO}, Xd rw H H1 → Xd rw H (upd H1 rw o) := fun x b o nb z => by rw [upd_ne nb]; exact x _ _ nb z
  have mkRow : ∀ {H1 : Hp} {i' j' k' : Int}, Xd rw H H1 → 0 ≤ i' → 0 ≤ j' → j' < 2147483647 → RowOk K s ns (upd H1 rw (.lst [.ref s, .int i', .int j', .int k'])) rw := fun x h1 h2 h3 => ⟨⟨_, _, _, upd_same, h1, h2, h3⟩, sqL_xd (upx x) nrw hs, nrw⟩
  have fin : ∀ (x : Int) H', RowOk K s ns H' rw → Xd rw H H' → Tx H H' → Q (.int (x.fmod (n : Int))) H' := fun x H' r xd tx => by
    obtain ⟨h1, h2⟩ := fmod_nat (x := x) n1
    rw [h1]
    exact q _ H' h2 r xd tx
  refine q_if (c := decide (k > 0)) (et_test (ev_iib (ev_row (k := 3) ho er rfl) ev_c)) (fun hc H1 x1 => ?_) fun hc H1 x1 => ?_
  · have sd1 := sd.ex x1
    have er1 := x1 _ _ er
    have ho1 : EvV (tVar 0) (start _ vs) H1 (.ref rw) := ev_var sd1 rfl
    refine q_set (s := .val (.int (k.fmod (n : Int)))) sd1 (ev_iic (ev_int1 (ev_row (k := 3) ho1 er1 rfl)) (EvK.v_int (i := (n : Int)) (ek_var sd1 rfl)) nz) fun σ2 H2 x2 sd2 => ?_
    have er2 := x2 _ _ er1
    refine Evl.q_setL (j := 3) er2 (ev_iic (ev_row (k := 3) (ev_var sd2 rfl) er2 rfl) (EvK.v_int (i := (n : Int)) (ek_var sd2 rfl)) (wide_div (b := 10) np (natAbs_nat (by omega)) (by omega) (by omega))).up (EvV.up (ev_var sd2 rfl)) Evl.ev_c (by simp) fun H3 x3 => ?_
    have er3 := x3 _ _ er2
    have t3 : Tx H3 (upd H3 rw (.lst [.ref s, .int i, .int j, .int (k / (n : Int))])) := tx_lst er3
    have sd3 := (sd2.ex x3).tx t3
    refine s_ret (ev_var sd3 rfl) fun v H4 x4 ev => ?_
    subst ev
    have xx := (x1.trans x2).trans x3
    exact fin k H4 ((mkRow (Ex.xd xx) i0 j0 j1).ex1 x4) ((upx (Ex.xd xx)).trans (Ex.xd x4)) (((ex_tx xx).trans t3).trans (ex_tx x4))
  · have sd1 := sd.ex x1
    have er1 := x1 _ _ er
    refine Evl.q_setL (j := 1) er1 (ev_ii (ev_row (k := 1) (ev_var sd1 rfl) er1 rfl) ev_c).up (EvV.up (ev_var sd1 rfl)) Evl.ev_c (by simp) fun H2 x2 => ?_
    have er2 := x2 _ _ er1
    have t2 : Tx H2 (upd H2 rw (.lst [.ref s, .int (i + 1), .int j, .int k])) := tx_lst er2
    have sd2 := (sd1.ex x2).tx t2
    have x12 := x1.trans x2
    have xd2 : Xd rw H (upd H2 rw (.lst [.ref s, .int (i + 1), .int j, .int k])) := upx (Ex.xd x12)
    have tx2 := (ex_tx x12).trans t2
    have e2 : (upd H2 rw (.lst [.ref s, .int (i + 1), .int j, .int k])) rw = some (.lst [.ref s, .int (i + 1), .int j, .int k]) := upd_same
    have hs2 := sqL_xd xd2 nrw hs
    refine q_if (c := decide (i + 1 > (((ns.map V.int).length : Nat) : Int))) (et_test (ev_iib (ev_row (k := 1) (ev_var sd2 rfl) e2 rfl) (ev_lenL (ev_row (k := 0) (ev_var sd2 rfl) e2 rfl) hs2))) (fun hc2 H3 x3 => ?_) fun hc2 H3 x3 => ?_
    · have sd3 := sd2.ex x3
      have e3 := x3 _ _ e2
      refine Evl.q_setL (j := 2) e3 (ev_iic (ev_int1 (ev_ii (ev_iic (ev_row (k := 2) (ev_var sd3 rfl) e3 rfl) ev_c (wide_mul (a := 31) (b := 17) (by omega) (by decide) (by omega) (by omega) (by omega))) ev_c)) ev_c (by decide)).up (EvV.up (ev_var sd3 rfl)) Evl.ev_c (by simp) fun H4 x4 => ?_
      have e4 := x4 _ _ e3
      have t4 : Tx H4 (upd H4 rw (.lst [.ref s, .int (i + 1), .int ((j * 48271 + 11).fmod 2147483647), .int k])) := tx_lst e4
      have sd4 := (sd3.ex x4).tx t4
      have xd4 : Xd rw H (upd H4 rw (.lst [.ref s, .int (i + 1), .int ((j * 48271 + 11).fmod 2147483647), .int k])) := upx (xd2.trans (Ex.xd (x3.trans x4)))
      have j4 : (j * 48271 + 11).fmod 2147483647 = (((j * 48271 + 11).fmod 2147483647).toNat : Int) ∧ ((j * 48271 + 11).fmod 2147483647).toNat < 2147483647 := fmod_nat (x := j * 48271 + 11) (n := 2147483647) (by omega)
      have r4 : RowOk K s ns (upd H4 rw (.lst [.ref s, .int (i + 1), .int ((j * 48271 + 11).fmod 2147483647), .int k])) rw := mkRow (xd2.trans (Ex.xd (x3.trans x4))) (by omega) (by omega) (by omega)
      refine s_ret (ev_iic (ev_int1 (ev_iic (ev_row (k := 2) (ev_var sd4 rfl) upd_same rfl) ev_c (wide_div (b := 10) (by decide) (by decide) (by omega) (by omega)))) (EvK.v_int (i := (n : Int)) (ek_var sd4 rfl)) nz) fun v H5 x5 ev => ?_
      subst ev
      exact fin _ H5 (r4.ex1 x5) (xd4.trans (Ex.xd x5)) (((tx2.trans (ex_tx (x3.trans x4))).trans t4).trans (ex_tx x5))
    · have sd3 := sd2.ex x3
      have e3 := x3 _ _ e2
      have hs3 := ex_l x3 hs2
      have hlt : i.toNat < ns.length := by
        have : ¬ (i + 1 > (((ns.map V.int).length : Nat) : Int)) := of_decide_eq_false hc2
        rw [List.length_map] at this
        omega
      have hc : (ns.map V.int)[i.toNat]? = some (.int ns[i.toNat]) := by rw [List.getElem?_map, List.getElem?_eq_getElem hlt]; rfl
      generalize ns[i.toNat] = cell at hc
      refine q_set (s := .val (.int cell)) sd3 (ev_ixS (m := i.toNat) (ev_row (k := 0) (ev_var sd3 rfl) e3 rfl) hs3 (ev_ii (ev_row (k := 1) (ev_var sd3 rfl) e3 rfl) ev_c) (by omega) hc) fun σ4 H4 x4 sd4 => ?_
      have e4 := x4 _ _ e3
      refine Evl.q_setL (j := 2) e4 (ev_iic (ev_int1 (ev_ii (ev_ii (ev_iic (ev_row (k := 2) (ev_var sd4 rfl) e4 rfl) ev_c (wide_mul (a := 31) (b := 17) (by omega) (by decide) (by omega) (by omega) (by omega))) (ev_var sd4 rfl)) ev_c)) ev_c (by decide)).up (EvV.up (ev_var sd4 rfl)) Evl.ev_c (by simp) fun H5 x5 => ?_
      have e5 := x5 _ _ e4
      have j5 := fmod_nat (x := j * 48271 + cell + 11) (n := 2147483647) (by omega)
      generalize (j * 48271 + cell + 11).fmod 2147483647 = jj at j5
      have t5 : Tx H5 (upd H5 rw (.lst [.ref s, .int (i + 1), .int jj, .int k])) := tx_lst e5
      have sd5 := (sd4.ex x5).tx t5
      have x35 := (x3.trans x4).trans x5
      have xd5 : Xd rw H (upd H5 rw (.lst [.ref s, .int (i + 1), .int jj, .int k])) := upx (xd2.trans (Ex.xd x35))
      have tx5 := (tx2.trans (ex_tx x35)).trans t5
      have r5 : RowOk K s ns (upd H5 rw (.lst [.ref s, .int (i + 1), .int jj, .int k])) rw := mkRow (xd2.trans (Ex.xd x35)) (by omega) (by omega) (by omega)
      have e5' : (upd H5 rw (.lst [.ref s, .int (i + 1), .int jj, .int k])) rw = some (.lst [.ref s, .int (i + 1), .int jj, .int k]) := upd_same
      refine q_if (c := decide (cell ≥ 10 ^ (18 : Int).toNat)) (et_test (ev_iib (ev_var sd5 rfl) (ev_iic ev_c ev_c ⟨by decide, by decide, by decide⟩))) (fun hc6 H6 x6 => ?_) fun hc6 H6 x6 => ?_
      · have sd6 := sd5.ex x6
        have e6 := x6 _ _ e5'
        refine Evl.s_setL (j := 3) e6 (ev_iic (ev_var sd6 rfl) (EvK.v_int (i := (n : Int)) (ek_var sd6 rfl)) (wide_div (b := 10) np (natAbs_nat (by omega)) (by omega) (by omega))).up (EvV.up (ev_var sd6 rfl)) Evl.ev_c (by simp) fun H7 x7 => ?_
        have e7 := x7 _ _ e6
        have t7 : Tx H7 (upd H7 rw (.lst [.ref s, .int (i + 1), .int jj, .int (cell / (n : Int))])) := tx_lst e7
        have sd7 := (sd6.ex x7).tx t7
        have xd7 := xd5.trans (Ex.xd (x6.trans x7))
        refine s_ret (ev_iic (ev_int1 (ev_var sd7 rfl)) (EvK.v_int (i := (n : Int)) (ek_var sd7 rfl)) nz) fun v H8 x8 ev => ?_
        subst ev
        exact fin _ H8 ((mkRow xd7 (by omega) (by omega) (by omega)).ex1 x8) ((upx xd7).trans (Ex.xd x8)) (((tx5.trans (ex_tx (x6.trans x7))).trans t7).trans (ex_tx x8))
      · have sd6 := sd5.ex x6
        refine s_ret (D := { nx := fun _ H' => Q .non H', rt := Q }) (ev_iic (ev_int1 (ev_var sd6 rfl)) (EvK.v_int (i := (n : Int)) (ek_var sd6 rfl)) nz) fun v H8 x8 ev => ?_
        subst ev
        exact fin _ H8 (r5.ex1 (x6.trans x8)) (xd5.trans (Ex.xd (x6.trans x8))) (tx5.trans (ex_tx (x6.trans x8)))
end Wx
end
section
set_option Elab.async false
set_option linter.all false
set_option maxRecDepth 100000
set_option maxHeartbeats 4000000
/-! Readings that draw numbers: the row changes, all else stands. -/
namespace Wx
open PySem PySem.Spec PyProof.Rows L2 Wv
open Evl (Ex ex_rd ex_l ex_t sq_of st_of fresh_back)
structure RR (K : PySem.W.Frag) (s : Addr) (ns : List Int) (rw : Addr) (H H' : Hp) : Prop where
  xd : Xd rw H H'
  tx : Tx H H'
  ok : RowOk K s ns H' rw
section
variable {K : PySem.W.Frag} {C : Addr} {s rw l : Addr} {ns : List Int} {H H' H0 H1 H2 : Hp} {σ : St} {e as : List Sl} {ta tb tc te tl tk tv td ty : TE} {P Pa Pb : V → Hp → Prop} {v y : V} {i j : Nat} {D : Ends} {tu tw tz : TS} {E : XK}
theorem RowOk.nn (r : RowOk K s ns H rw) : H rw ≠ none := fun z => by
  obtain ⟨_, _, _, h, _⟩ := r.ex
  rw [h] at z; cases z
theorem RowOk.ref (r : RowOk K s ns H rw) : RR K s ns rw H H := ⟨fun _ _ _ z => z, Tx.refl _, r⟩
theorem RR.trans (a : RR K s ns rw H H1) (b : RR K s ns rw H1 H2) : RR K s ns rw H H2 := ⟨a.xd.trans b.xd, a.tx.trans b.tx, b.ok⟩
theorem RowOk.rr (r : RowOk K s ns H rw) (x : Ex H H1) : RR K s ns rw H H1 := ⟨Ex.xd x, ex_tx x, r.ex1 x⟩
theorem RR.ex (a : RR K s ns rw H H1) (x : Ex H1 H2) : RR K s ns rw H H2 := a.trans (a.ok.rr x)
/-- what H does not know may change -/
theorem RR.mut {o : HO} (r : RowOk K s ns H rw) (a : RR K s ns rw H H1) (hl : H l = none) (t : Tx H1 (upd H1 l o)) : RR K s ns rw H (upd H1 l o) := by
  have nl : ∀ {x : Addr} {u : HO}, H x = some u → x ≠ l := fun e z => by subst z; rw [hl] at e; cases e
  have xd : Xd rw H (upd H1 l o) := fun x u n e => by rw [upd_ne (nl e)]; exact a.xd _ _ n e
  refine ⟨xd, a.tx.trans t, ?_, ?_, r.ne⟩
  · obtain ⟨i, j, k, h1, h2⟩ := a.ok.ex
    have n : rw ≠ l := fun z => by
      subst z
      exact r.nn hl
    exact ⟨i, j, k, by rw [upd_ne n]; exact h1, h2⟩
  · exact sqL_xd xd r.ne r.sq
def EvR (K : PySem.W.Frag) (s : Addr) (ns : List Int) (rw : Addr) (te : TE) (σ : St) (H : Hp) (P : V → Hp → Prop) : Prop := ∀ H1, RR K s ns rw H H1 → ∀ Q : VK, (∀ v H2, RR K s ns rw H1 H2 → P v H2 → Q v H2) → te σ H1 Q
theorem er_of (h : ∀ H1, RR K s ns rw H H1 → Ev1 te σ H1 P) : EvR K s ns rw te σ H P := fun H1 r Q q => h H1 r H1 (Ex.refl _) Q fun v H2 x p => q v H2 (r.ok.rr x) p
theorem EvR.mono {P' : V → Hp → Prop} (h : EvR K s ns rw te σ H P) (m : ∀ v H2, RR K s ns rw H H2 → P v H2 → P' v H2) : EvR K s ns rw te σ H P' := fun H1 r Q q => h H1 r Q fun v H2 r2 p => q v H2 r2 (m v H2 (r.trans r2) p)
theorem er_taken {n : Nat} (h1 : 1 ≤ n) (h9 : n ≤ 1000) (ho : ∀ H1, RR K s ns rw H H1 → EvV ta σ H1 (.ref rw)) (hn : ∀ H1, RR K s ns rw H H1 → EvK K tb σ H1 (numK n)) : EvR K s ns rw (tCall (spTaken K C) [] E (tCons ta (tCons tb tNil))) σ H fun v _ => ∃ t : Nat, t < n ∧ v = .int (t : Int) := fun H1 r Q q =>
  run_call (ea_two (s1 := .val (.ref rw)) (s2 := .dat (numK n)) (ho H1 r) (hn H1 r)) fun vs H2 x2 pv => ⟨rw, s, ns, n, r.ok.ex1 x2, h1, h9, pv, fun t H3 ht ro xd tx => q _ H3 ((r.ok.rr x2).trans ⟨xd, tx, ro⟩) ⟨t, ht, rfl⟩⟩
theorem er_op {r : R2} (ha : EvR K s ns rw ta σ H Pa) (hb : EvR K s ns rw tb σ H Pb) (hr : ∀ x y H1 H2, RR K s ns rw H H1 → RR K s ns rw H1 H2 → Pa x H1 → Pb y H2 → RV2 r x y H2 P) : EvR K s ns rw (tOp r ta tb) σ H P := fun H1 r1 Q q =>
  ha H1 r1 _ fun x H2 r2 p => hb H2 (r1.trans r2) _ fun y H3 r3 p3 => hr x y H2 H3 (r1.trans r2) r3 p p3 Q fun v H4 x4 pv => q v H4 ((r2.trans r3).ex x4) pv
/-- one of a written list -/
theorem er_pick {tl : TA} {xs : List V} {n : Nat} (hn : n = xs.length) (hl : ∀ H1, RR K s ns rw H H1 → EvN (tLst tl) σ H1 fun ys _ => ys = xs) (hk : EvR K s ns rw tk σ H fun v _ => ∃ t : Nat, t < n ∧ v = .int (t : Int)) : EvR K s ns rw (tOp (rIxL K) (tLst tl) tk) σ H fun v _ => v ∈ xs := fun H1 r Q q =>
  hl H1 r H1 (Ex.refl _) _ fun p ys H2 hp x2 e ey => hk H2 (r.ex x2) _ fun k H3 r3 ⟨t, ht, ek⟩ => by
    subst ey ek
    have np : p ≠ rw := fun z => by subst z; exact r.ok.nn hp
    have hx : ys[t]? = some ys[t] := List.getElem?_eq_getElem (by omega)
    exact ⟨p, ys, (t : Int), ys[t], rfl, rfl, sq_of (r3.xd _ _ np e), atI_nat hx, q _ H3 ((r.ok.rr x2).trans r3) (List.getElem_mem _)⟩
/-- one sign of a text -/
theorem er_sign {l : List Nat} {n : Nat} (hn : n = l.length) (h9 : l.length ≤ 1000) (hl : ∀ H1, RR K s ns rw H H1 → EvK K ta σ H1 (txtK l)) (hk : EvR K s ns rw tk σ H fun v _ => ∃ t : Nat, t < n ∧ v = .int (t : Int)) : EvR K s ns rw (tOp rIxS ta tk) σ H fun v _ => ∃ c ∈ l, v = .str (toS [c]) := fun H1 r Q q =>
  hl H1 r H1 (Ex.refl _) _ fun x H2 x2 dx => hk H2 (r.ex x2) _ fun k H3 r3 ⟨t, ht, ek⟩ => by
    subst ek
    have hx : l[t]? = some l[t] := List.getElem?_eq_getElem (by omega)
    exact ⟨toS l, (t : Int), l[t], dp_str dx, rfl, by rw [toS_len, sizeLine_eq]; omega, atI_nat (by rw [toS_cps]; exact hx), q _ H3 ((r.ok.rr x2).trans r3) ⟨_, List.getElem_mem _, rfl⟩⟩
theorem er_inc {n : Nat} (hk : EvR K s ns rw tk σ H fun v _ => ∃ t : Nat, t < n ∧ v = .int (t : Int)) : EvR K s ns rw (tOp (rI0 fun i j => .int (i + j)) (tC (.int 1)) tk) σ H fun v _ => ∃ t : Nat, 1 ≤ t ∧ t ≤ n ∧ v = .int (t : Int) :=
  er_op (er_of fun _ _ => ev_c) hk fun x y H1 H2 _ _ ex ey Q q => by
    obtain ⟨t, ht, rfl⟩ := ey
    subst ex
    refine ⟨1, t, rfl, rfl, q _ H2 (Ex.refl _) ⟨1 + t, by omega, by omega, ?_⟩⟩
    congr 1
theorem q_setR {P : V → Hp → Prop} (h : EvR K s ns rw te σ H P) (r : RowOk K s ns H rw) (q : ∀ v H1, RR K s ns rw H H1 → P v H1 → tz D (σ.set i (some v)) H1) : tSeq (tAsg te (gName i)) tz D σ H := h H r.ref _ fun v H1 r1 p => q v H1 r1 p
theorem q_tupR {t1 t2 : TE} (h1 : EvR K s ns rw t1 σ H Pa) (h2 : EvR K s ns rw t2 σ H Pb) (r : RowOk K s ns H rw) (q : ∀ v w H1 H2 H3, RR K s ns rw H H1 → Pa v H1 → RR K s ns rw H1 H2 → Pb w H2 → Ex H2 H3 → tz D ((σ.set i (some v)).set j (some w)) H3) :
    tSeq (tAsg (tTup (tCons t1 (tCons t2 tNil))) (gTup K 2 (gCons (gName i) (gCons (gName j) gNil)))) tz D σ H :=
  h1 H r.ref _ fun v H1 r1 p1 => h2 H1 r1 _ fun w H2 r2 p2 => ⟨by show 2 ≤ sizeLine; decide, fun T hT => g_new hT (q v w H1 H2 _ r1 p1 r2 p2 (Ex.new hT))⟩
theorem q_parR {t1 t2 : TE} (h1 : EvR K s ns rw t1 σ H Pa) (h2 : EvR K s ns rw t2 σ H Pb) (r : RowOk K s ns H rw) (q : ∀ v w H1 H2, RR K s ns rw H H1 → Pa v H1 → RR K s ns rw H1 H2 → Pb w H2 → tz D ((σ.set i (some v)).set j (some w)) H2) :
    tSeq (tPar i j (tCons t1 (tCons t2 tNil))) tz D σ H :=
  h1 H r.ref _ fun v H1 r1 p1 => h2 H1 r1 _ fun w H2 r2 p2 => ⟨_, _, rfl, q v w H1 H2 r1 p1 r2 p2⟩
theorem q_ifR (h : EvR K s ns rw te σ H fun v _ => ∃ c : Bool, v = .bl c) (r : RowOk K s ns H rw) (yes : ∀ H1, RR K s ns rw H H1 → tu { D with nx := tz D } σ H1) (no : ∀ H1, RR K s ns rw H H1 → tw { D with nx := tz D } σ H1) : tSeq (tIfS (tTest te) tu tw) tz D σ H := h H r.ref _ fun v H1 r1 ⟨c, ev⟩ => by
  subst ev
  refine ⟨c, rfl, ?_⟩
  cases c with
  | true => rw [if_pos rfl]; exact yes H1 r1
  | false => rw [if_neg Bool.false_ne_true]; exact no H1 r1
theorem er_is0 {n : Nat} (hk : EvR K s ns rw tk σ H fun v _ => ∃ t : Nat, t < n ∧ v = .int (t : Int)) : EvR K s ns rw (tOp rEq tk (tC (.int 0))) σ H fun v _ => ∃ c : Bool, v = .bl c :=
  er_op hk (er_of fun _ _ => ev_c) fun x y H1 H2 _ _ ex ey Q q => by
    obtain ⟨t, ht, rfl⟩ := ex
    subst ey
    exact ⟨rfl, q _ H2 (Ex.refl _) ⟨_, rfl⟩⟩
theorem pair_vals : ∀ {ws : List V} {xs : List V}, Paired (VOk K C H) xs (ws.map Sl.val) → xs = ws
  | [], _, h => by cases h; rfl
  | w :: ws, _, h => by
    cases h with
    | cons h1 h2 => rw [pair_vals h2]; congr 1
/-- [e for i in range(n)], a turn by hand -/
theorem lc_rng {n : Nat} {vs : List Nat} {tn : TE} {Q : VK} (h : EvK K tn σ H (numK n)) (hn : n ≤ 100000) (hj : j ∈ vs) (Pv : Addr → Nat → Hp → Prop) (h0 : ∀ Dl H1, Ex H H1 → H1 Dl = none → Pv Dl 0 (upd H1 Dl (.lst [])))
    (turn : ∀ Dl i H1, i < n → Pv Dl i H1 → te ((wipe σ vs).set j (some (.int (i : Int)))) H1 fun y H4 => ∃ acc, H4 Dl = some (.lst acc) ∧ acc.length < sizeLine ∧ Pv Dl (i + 1) (upd H4 Dl (.lst (acc ++ [y])))) (fin : ∀ Dl H1, Pv Dl n H1 → Q (.ref Dl) H1) :
    tLc (iRng1 (tCons tn tNil)) (gName j) tYes te vs σ H Q := h H (Ex.refl _) _ fun v H1 x1 dv => by
  have ev := dp_int dv
  subst ev
  refine ⟨(n : Int), rfl, by omega, by omega, fun Dl hD => ?_⟩
  have wk := walk_range (lo := 0) (n := (n : Int).toNat)
  rw [Int.toNat_natCast] at wk
  refine lc_it (Qd := fun H => Q (.ref Dl) H) wk (Pv Dl) (h0 Dl H1 x1 hD) (fun _ _ _ _ => trivial) (fun i x H2 H3 hi p y => ?_) (fin Dl)
  obtain ⟨rfl, rfl⟩ := y
  have ez : (0 : Int) + (i : Int) = (i : Int) := Int.zero_add _
  show gName j (.int (0 + (i : Int))) _ _ _
  rw [ez]
  exact ⟨wipe_one hj, turn Dl i _ hi p⟩
/-- xs.append(e), e by hand -/
theorem s_appRun {xs : List V} (ho : EvV ta σ H (.ref l)) (hl : H l = some (.lst xs)) (h : ∀ H1, Ex H H1 → te σ H1 fun v H2 => rAppend (.ref l) [v] H2 fun _ H3 => D.nx σ H3) : tDrop (tBM K "list" rAppend ta (tCons te tNil)) D σ H := ho H (Ex.refl H) _ fun u H1 x1 eu => by
  subst eu
  exact ⟨Or.inl ⟨rfl, xs, sq_of (x1 l _ hl)⟩, h H1 x1⟩
theorem run_m1 {a : Str} {Q : VK} {r : V → List V → Hp → VK → Prop} (h : te σ H fun y H2 => r (.str a) [y] H2 Q) : tM1 r (tC (.str a)) te σ H Q := ⟨⟨a, rfl⟩, h⟩
/-- xs[j] = e, e by hand -/
theorem s_setLR (h : EvR K s ns rw te σ H P) (r : RowOk K s ns H rw) (q : ∀ v H1, RR K s ns rw H H1 → P v H1 → ∃ xs j, EvV ta σ H1 (.ref l) ∧ EvK K tb σ H1 (numK j) ∧ H1 l = some (.lst xs) ∧ j < xs.length ∧ ∀ H2, Ex H1 H2 → D.nx σ (upd H2 l (.lst (xs.set j v)))) : tAsg te (gSub ta tb rSetL) D σ H := h H r.ref _ fun v H1 r1 p => by
  obtain ⟨xs, j, ho, hi, e, hj, k⟩ := q v H1 r1 p
  refine ho H1 (Ex.refl _) _ fun o H2 x2 eo => hi H2 x2 _ fun ii H3 x3 di => ?_
  subst eo
  have ei := dp_int di
  subst ei
  exact ⟨l, xs, (j : Int), j, rfl, rfl, (x2.trans x3) _ _ e, Evl.ixN_nat hj, k H3 (x2.trans x3)⟩
/-- tuple(a list) -/
theorem ek_tupV {ks : List NK} {ys : List V} (ho : EvV ta σ H (.ref l)) (e : H l = some (.lst ys)) (d : DpAll K H ys (NestedKey.datas ks)) : EvK K (tCB (fun xs H Q => ∃ p ys, xs = [.ref p] ∧ ((SqL K H p ys ∧ ∀ l, H l = none → Q (.ref l) (upd H l (.tup ys))) ∨ (SqT K H p ys ∧ Q (.ref p) H))) (tCons ta tNil)) σ H (.tup ks) := fun H1 x1 Q q => ho H1 x1 _ fun v H2 x2 ev => by
  subst ev
  have xx := x1.trans x2
  exact ⟨l, ys, rfl, .inl ⟨SqL.of (xx _ _ e), fun p hp => q _ _ (x2.trans (Ex.new hp)) (.tup (SqT.of upd_same) (DpAll.ex (xx.trans (Ex.new hp)) _ _ d))⟩⟩
end
theorem join_signs (ln : List Nat) : Txt.join (Str.ofString "") (ln.map fun c => toS [c]) = toS ln := by
  rw [TL.join_eq]
  have e0 : (Str.ofString "") = toS [] := by decide +kernel
  rw [e0]
  have app : ∀ a b : List Nat, toS a ++ toS b = toS (a ++ b) := fun a b => by
    show (⟨a.toArray ++ b.toArray⟩ : Str) = ⟨(a ++ b).toArray⟩
    simp
  have key : ∀ ln : List Nat, Str.join (toS []) (ln.map fun c => toS [c]) = toS ln := by
    intro ln
    induction ln with
    | nil => decide +kernel
    | cons a r ih =>
      cases r with
      | nil => rfl
      | cons b r =>
        show toS [a] ++ toS [] ++ Str.join (toS []) ((b :: r).map fun c => toS [c]) = _
        rw [ih, app, app]; rfl
  exact key ln
end Wx
end
section
set_option Elab.async false
set_option linter.all false
set_option maxRecDepth 100000
set_option maxHeartbeats 4000000
namespace Wx
open PySem PySem.Spec PyProof.Rows L2 Wv
open Evl (Ex ex_rd ex_l ex_t sq_of st_of fresh_back)
/-! ### the drawn board -/
def pal : List (List Nat) := [[46, 60, 62, 120], [46, 46, 46, 46, 60, 62, 120], [60, 62], [60, 62, 120], [46, 120], [62, 62, 62, 62, 62, 62, 60], [46, 46, 46, 46, 46, 60, 62], [46], [120], [62]]
theorem pal_eq : [V.str (Str.ofString ".<>x"), V.str (Str.ofString "....<>x"), V.str (Str.ofString "<>"), V.str (Str.ofString "<>x"), V.str (Str.ofString ".x"), V.str (Str.ofString ">>>>>><"), V.str (Str.ofString ".....<>"), V.str (Str.ofString "."), V.str (Str.ofString "x"), V.str (Str.ofString ">")] = pal.map fun l => V.str (toS l) := by
  have h : [Str.ofString ".<>x", Str.ofString "....<>x", Str.ofString "<>", Str.ofString "<>x", Str.ofString ".x", Str.ofString ">>>>>><", Str.ofString ".....<>", Str.ofString ".", Str.ofString "x", Str.ofString ">"] = pal.map toS := by decide +kernel
  have h2 := congrArg (List.map V.str) h
  rw [List.map_map] at h2
  exact h2
instance (s : Nat) : Decidable (isSign s) := by unfold isSign; infer_instance
theorem pal_ok : ∀ l ∈ pal, 1 ≤ l.length ∧ l.length ≤ 8 ∧ ∀ s ∈ l, isSign s := by decide +kernel
def linesV (b : Brd) : List V := b.map fun l => V.str (toS l)
theorem lines_dp {K : PySem.W.Frag} {H : Hp} : ∀ b : Brd, DpAll K H (linesV b) (NestedKey.datas (b.map txtK))
  | [] => .nil
  | l :: b => .cons (.str _) (lines_dp b)
/-- a list of W signs -/
def LineOk (W : Nat) (l : List Nat) : Prop := l.length = W ∧ ∀ s ∈ l, isSign s
theorem rect_of {R W : Nat} {b : Brd} (hr : b.length = R) (h : ∀ l ∈ b, LineOk W l) : Rect R W b := by
  have key : ∀ r, r < R → LineOk W (b.getD r []) := fun r hr' => by
    rw [List.getD_eq_getElem?_getD, List.getElem?_eq_getElem (by omega)]
    exact h _ (List.getElem_mem _)
  refine ⟨hr, fun r h1 => (key r h1).1, fun r c h1 h2 => ?_⟩
  obtain ⟨k1, k2⟩ := key r h1
  unfold at2
  rw [List.getD_eq_getElem?_getD (l := b.getD r []), List.getElem?_eq_getElem (by omega)]
  exact k2 _ (List.getElem_mem _)
def spLCells (K : PySem.W.Frag) (C : Addr) : Sp := fun vs H Q _ => ∃ rw s ns, RowOk K s ns H rw ∧ Paired (VOk K C H) vs [.val (.ref rw), .dat (numK 4)] ∧ ∀ v H' R W b, Brd5 R W b → R ≤ 4 → W ≤ 4 → Dp K H' v (brdK b).data → RR K s ns rw H H' → Q v H'
theorem SD.rr {K : PySem.W.Frag} {C s rw : Addr} {ns : List Int} {H H' : Hp} {σ : St} {e : List Sl} (sd : SD K C H σ e) (r : RR K s ns rw H H') : SD K C H' σ e := sd.tx r.tx
theorem ok_l_cells {P : Program} {w : World} {K : PySem.W.Frag} {mg : Str → Option Value} {base : Heap} {CB CF AF : Addr} (kn : Kn K mg "_law_cells" s__law_cells) (T : TX K mg CB CF AF) (c_l_taken : Cal P w K mg base 1 "_law_taken" ["_law_row", "_law_many_here"] (spTaken K CB)) : Cal P w K mg base 2 "_law_cells" ["_law_row", "_law_most"] (spLCells K CB) := by
  have nd := sc__law_cells.nd
  refine Cal.mk kn sc__law_cells (fun _ _ _ _ _ _ us hl => match us, hl with | [_, _], _ => rfl) (fun vs H Q E h => ?_) (fun f cdv A outer s H vs Q E hr h => ⟨_, (pss_cons (ps_set (i := 2) nd rfl (by first | exact Or.inl rfl | exact Or.inr rfl) (pe_ix ix_list (pe_lst (pa_cons pe_str (pa_cons pe_str (pa_cons pe_str (pa_cons pe_str (pa_cons pe_str (pa_cons pe_str (pa_cons pe_str (pa_cons pe_str (pa_cons pe_str (pa_cons pe_str pa_nil))))))))))) (c_l_taken.pe (hr.mono (by omega)) (by rfl) (pa_cons (pv 0) (pa_cons pe_int pa_nil))) (fun _ _ => rfl)))
  (pss_cons (ps_par (i := 3) (j := 4) (by rfl) nd rfl rfl (by decide) rfl rfl (pa_cons (pe_op op_add pe_int (c_l_taken.pe (hr.mono (by omega)) (by rfl) (pa_cons (pv 0) (pa_cons (pv 1) pa_nil)))) (pa_cons (pe_op op_add pe_int (c_l_taken.pe (hr.mono (by omega)) (by rfl) (pa_cons (pv 0) (pa_cons (pv 1) pa_nil)))) pa_nil)) (by rfl))
  (pss_cons (ps_set (i := 5) nd rfl (by first | exact Or.inl rfl | exact Or.inr rfl) (pe_lst pa_nil))
  (pss_cons (ps_for PassesOwn.never (by rfl) (pi_range1 (by rfl) T.z_range (pa_cons (pv 3) pa_nil)) (pg_name (i := 6) nd rfl (by first | exact Or.inl rfl | exact Or.inr rfl))
  (pss_one (ps_expr (pe_bm PySem.F.plainAttrs_list PySem.F.slot_list_append PySem.F.type_list_append mt_append (pv 5) (pa_cons (pe_join pe_str (pe_lc (own := [("_law_place", 7)]) (by rfl) nd (pi_range1 (by rfl) T.z_range (pa_cons (pv 4) pa_nil)) (blkOk_by (own := [("_law_place", 7)]) (N := ["_law_row", "_law_most", "_law_some", "_law_rows", "_law_columns", "_law_lines", "_law_at", "_law_place"]) (sc := defScope s__law_cells) (by decide +kernel)) (fun _ _ _ _ _ => (pg_name (i := 7) nd rfl (by first | exact Or.inl rfl | exact Or.inr rfl))) (fun _ _ _ _ _ => pts_nil) (fun _ _ _ _ _ => (pe_ix ix_str (pv 2) (c_l_taken.pe (hr.mono (by omega)) (by rfl) (pa_cons (pv 0) (pa_cons (pe_callB call_len_str (by rfl) T.z_len PySem.boot_len (pa_cons (pv 2) pa_nil)) pa_nil))) (fun _ _ => rfl))))) pa_nil)))))
  (pss_cons (ps_if (pt_cmpR op_eq (c_l_taken.pe (hr.mono (by omega)) (by rfl) (pa_cons (pv 0) (pa_cons pe_int pa_nil))) pe_int (nomark _)) (pss_cons (ps_par (i := 6) (j := 7) (by rfl) nd rfl rfl (by decide) rfl rfl (pa_cons (c_l_taken.pe (hr.mono (by omega)) (by rfl) (pa_cons (pv 0) (pa_cons (pv 3) pa_nil))) (pa_cons (c_l_taken.pe (hr.mono (by omega)) (by rfl) (pa_cons (pv 0) (pa_cons (pv 4) pa_nil))) pa_nil)) (by rfl))
  (pss_one (ps_asg (pe_op op_add_str (pe_op op_add_str (pe_slice sl_str (pe_ix ix_list (pv 5) (pv 6) (fun _ _ => rfl)) po_none (po_some (pv 7))) (pe_ix ix_str pe_str (c_l_taken.pe (hr.mono (by omega)) (by rfl) (pa_cons (pv 0) (pa_cons pe_int pa_nil))) (fun _ _ => rfl))) (pe_slice sl_str (pe_ix ix_list (pv 5) (pv 6) (fun _ _ => rfl)) (po_some (pe_op op_add (pv 7) pe_int)) po_none)) (pg_sub (pv 5) (pv 6) set_list)))) pss_nil)
  (pss_one (ps_ret (pe_callTy call_tuple_of (by rfl) T.z_tuple (by decide +kernel) (pa_cons (pv 5) pa_nil))))))))), ?_⟩)
  · obtain ⟨rw, s, ns, ro, a⟩ := h
    exact (Paired.length a.1 :)
  obtain ⟨rw, s, ns, ro, a⟩ := h
  obtain ⟨hp, q⟩ := a
  have sd := sd_start (N := ["_law_row", "_law_most", "_law_some", "_law_rows", "_law_columns", "_law_lines", "_law_at", "_law_place"]) hp
  try dsimp only [cxOf, Cx.nox]
  refine q_setR (er_pick (xs := pal.map fun l => V.str (toS l)) (n := 10) rfl (fun H1 r1 => (en_lst (K := K) (C := CB) (as := (pal.map fun l => V.str (toS l)).map Sl.val) (by
    rw [← pal_eq]
    exact ea_cons ev_c.sl (ea_cons ev_c.sl (ea_cons ev_c.sl (ea_cons ev_c.sl (ea_cons ev_c.sl (ea_cons ev_c.sl (ea_cons ev_c.sl (ea_cons ev_c.sl (ea_cons ev_c.sl (ea_cons ev_c.sl ea_nil)))))))))) (by decide)).mono fun ys _ _ z => pair_vals z) (er_taken (n := 10) (by omega) (by omega) (fun H1 r1 => ev_var (sd.rr r1) rfl) fun H1 r1 => ek_int)) ro fun v H1 r1 hv => ?_
  obtain ⟨sm, hsome, rfl⟩ := List.mem_map.mp hv
  obtain ⟨sl1, sl8, ssg⟩ := pal_ok sm hsome
  have sd1 := (sd.rr r1).set (i := 2) (o := some (.str (toS sm))) (s := .dat (txtK sm)) ⟨_, rfl, .str _⟩
  have ro1 := r1.ok
  refine q_parR (er_inc (er_taken (n := 4) (by omega) (by omega) (fun H1 r1 => ev_var (sd1.rr r1) rfl) fun H1 r1 => ek_var (sd1.rr r1) rfl)) (er_inc (er_taken (n := 4) (by omega) (by omega) (fun H1 r1 => ev_var (sd1.rr r1) rfl) fun H1 r1 => ek_var (sd1.rr r1) rfl)) ro1 fun v w H2 H4 r2 hv r3 hw => ?_
  obtain ⟨R, R1, R4, rfl⟩ := hv
  obtain ⟨W, W1, W4, rfl⟩ := hw
  have r14 := r2.trans r3
  have r04 := r1.trans r14
  have sd4 := ((sd1.rr r14).set (i := 3) (o := some (.int (R : Int))) (s := .dat (numK R)) ⟨_, rfl, .int _⟩).set (i := 4) (o := some (.int (W : Int))) (s := .dat (numK W)) ⟨_, rfl, .int _⟩
  refine q_setN sd4 en_nil fun l xs σ5 H5 hl x5 el e0 sd5 => ?_
  subst e0
  have r05 := r04.ex x5
  have ro5 := r05.ok
  have frl : H l = none := by
    cases h : H l with
    | none => rfl
    | some o =>
      by_cases c : l = rw
      · subst c
        exact absurd hl r04.ok.nn
      · rw [r04.xd _ _ c h] at hl; cases hl
  refine q_of (s_forR (n := R) (ek_var sd5 rfl) (by omega) fun H6 x6 => ⟨fun i σ' H' => ∃ b : Brd, SD K CB H' σ' [.val (.ref rw), .dat (numK 4), .dat (txtK sm), .dat (numK R), .dat (numK W), .val (.ref l), .un, .un] ∧ RR K s ns rw H H' ∧ H' l = some (.lst (linesV b)) ∧ b.length = i ∧ ∀ ln ∈ b, LineOk W ln, ⟨[], sd5.ex x6, r05.ex x6, x6 _ _ el, rfl, by simp⟩, fun i σ' H' hi z => ?_, fun σ' H' z => ?_⟩)
  · obtain ⟨b, s6, r6, eb, lb, okb⟩ := z
    have s7 := s6.set (i := 6) (o := some (.int (i : Int))) (s := .un) trivial
    have lnr : l ≠ rw := fun z => by
      subst z
      exact ro.nn frl
    refine s_appRun (ev_var s7 rfl) eb fun H8 x8 => run_m1 ?_
    have s9 := s7.ex x8
    have r8 := r6.ex x8
    have ro8 := r8.ok
    refine lc_rng (n := W) (j := 7) (ek_var s9 rfl) (by omega) (by simp) (fun Dl i H9 => RR K s ns rw H8 H9 ∧ H8 Dl = none ∧ ∃ ln : List Nat, H9 Dl = some (.lst (ln.map fun c => V.str (toS [c]))) ∧ ln.length = i ∧ ∀ c ∈ ln, isSign c) (fun Dl H9 x9 hD => ?_) (fun Dl i H9 hi z => ?_) fun Dl H9 z => ?_
    · have hD8 := fresh_back x9 hD
      refine ⟨(ro8.rr x9).mut ro8 hD8 (tx_upd fun xs z => ?_), hD8, [], upd_same, rfl, by simp⟩
      rcases z with z | ⟨o, z⟩ <;> rw [hD] at z <;> cases z
    · obtain ⟨r9, hD8, ln, eln, lln, okl⟩ := z
      have s10 := ((s9.rr r9).wipe [7]).set (i := 7) (o := some (.int (i : Int))) (s := .un) trivial
      refine (er_sign (n := sm.length) rfl (by omega) (fun H1 r1 => ek_var (s10.rr r1) rfl) (er_taken sl1 (by omega) (fun H1 r1 => ev_var (s10.rr r1) rfl) fun H1 r1 => ek_lenS (ek_var (s10.rr r1) rfl) (by omega)) : EvR K s ns rw _ _ H9 _) H9 r9.ok.ref _ fun v H10 r10 hv => ?_
      obtain ⟨c, hc, rfl⟩ := hv
      have nD : Dl ≠ rw := fun z => by subst z; exact ro8.nn hD8
      have e10 := r10.xd _ _ nD eln
      refine ⟨_, e10, by rw [List.length_map, sizeLine_eq]; omega, (r9.trans r10).mut ro8 hD8 (tx_lst e10), hD8, ln ++ [c], by rw [List.map_append]; exact upd_same, by rw [List.length_append, lln]; rfl, fun x hx => ?_⟩
      rcases List.mem_append.mp hx with z | z
      · exact okl x z
      · rw [List.mem_singleton] at z
        subst z; exact ssg _ hc
    · obtain ⟨r9, hD8, ln, eln, lln, okl⟩ := z
      refine ⟨Str.ofString "", Dl, ln.map fun c => toS [c], rfl, rfl, .inl (by rw [List.map_map]; exact sq_of eln), ?_, ?_⟩
      · have h0 : (Str.ofString "").length = 0 := by decide +kernel
        have : ((ln.map fun c => toS [c]).map (·.length)).sum = ln.length := by
          clear lln okl eln
          induction ln with
          | nil => rfl
          | cons a r ih => rw [List.map_cons, List.map_cons, List.sum_cons, ih, toS_len]; simp; omega
        rw [this, h0]
        omega
      rw [join_signs]
      have r19 := r8.trans r9
      have eb9 := (r9.xd _ _ lnr (x8 _ _ eb))
      have lb' : (linesV b).length = i := by unfold linesV; rw [List.length_map, lb]
      refine ⟨l, linesV b, V.str (toS ln), rfl, rfl, eb9, by rw [lb', sizeLine_eq]; omega, b ++ [ln], ?_, r19.mut ro frl (tx_lst eb9), ?_, by rw [List.length_append, lb]; rfl, fun x hx => ?_⟩
      · exact ((s9.rr r9).tx (tx_lst eb9)).drops [6]
      · rw [upd_same]
        unfold linesV
        rw [List.map_append]; rfl
      · rcases List.mem_append.mp hx with z | z
        · exact okb x z
        · rw [List.mem_singleton] at z
          subst z; exact ⟨lln, okl⟩
  · obtain ⟨b, s6, r6, eb, lb, okb⟩ := z
    have ro6 := r6.ok
    have lnr : l ≠ rw := fun z => by
      subst z
      exact ro.nn frl
    refine q_ifR (er_is0 (er_taken (n := 3) (by omega) (by omega) (fun H1 r1 => ev_var (s6.rr r1) rfl) fun H1 r1 => ek_int)) ro6 (fun H7 r7 => ?_) fun H7 r7 => ?_
    · have s7 := s6.rr r7
      have eb7 := r7.xd _ _ lnr eb
      refine q_parR (er_taken (n := R) R1 (by omega) (fun H1 r1 => ev_var (s7.rr r1) rfl) fun H1 r1 => ek_var (s7.rr r1) rfl) (er_taken (n := W) W1 (by omega) (fun H1 r1 => ev_var (s7.rr r1) rfl) fun H1 r1 => ek_var (s7.rr r1) rfl) r7.ok fun v u H8 H9 r8 hv r9 hu => ?_
      obtain ⟨r, hr, rfl⟩ := hv
      obtain ⟨c, hc, rfl⟩ := hu
      have r89 := r8.trans r9
      have s9 := ((s7.rr r89).set (i := 6) (o := some (.int (r : Int))) (s := .dat (numK r)) ⟨_, rfl, .int _⟩).set (i := 7) (o := some (.int (c : Int))) (s := .dat (numK c)) ⟨_, rfl, .int _⟩
      have eb9 := r89.xd _ _ lnr eb7
      have hb := rect_of lb okb
      have hll := hb.line r hr
      have okr : LineOk W (b.getD r []) := ⟨hll, fun x hx => by
        rw [List.getD_eq_getElem?_getD, List.getElem?_eq_getElem (by omega)] at hx
        exact (okb _ (List.getElem_mem _)).2 x hx⟩
      have getl : ∀ H1, RR K s ns rw H9 H1 → EvK K (tOp (rIxL K) (tVar 5) (tVar 6)) _ H1 (txtK (b.getD r [])) := fun H1 r1 =>
        ek_ixLK (ks := b.map txtK) (n := r) (ev_var (s9.rr r1) rfl) (r1.xd _ _ lnr eb9) (lines_dp b) (ek_var (s9.rr r1) rfl) (brdK_get (by omega))
      have er : EvR K s ns rw (tOp (fun x y H Q => ∃ i j, x = .str i ∧ y = .str j ∧ i.length + j.length ≤ sizeLine ∧ Q (.str (i ++ j)) H) (tOp (fun x y H Q => ∃ i j, x = .str i ∧ y = .str j ∧ i.length + j.length ≤ sizeLine ∧ Q (.str (i ++ j)) H) (tSl rSlS (tOp (rIxL K) (tVar 5) (tVar 6)) tNoPart (tPart (tVar 7))) (tOp rIxS (tC (.str (Str.ofString ".<>x"))) (tCall (spTaken K CB) [] E0 (tCons (tVar 0) (tCons (tC (.int 4)) tNil))))) (tSl rSlS (tOp (rIxL K) (tVar 5) (tVar 6)) (tPart (tOp (rI0 fun i j => .int (i + j)) (tVar 7) (tC (.int 1)))) tNoPart)) ((σ'.set 6 (some (.int (r : Int)))).set 7 (some (.int (c : Int)))) H9 fun v _ => ∃ sg, isSign sg ∧ v = .str (toS ((b.getD r []).set c sg)) := by
        have cat : ∀ {a b : List Nat} {H1 : Hp} {P : V → Hp → Prop}, a.length + b.length ≤ 1000 → P (.str (toS (a ++ b))) H1 → RV2 (fun x y H Q => ∃ i j, x = .str i ∧ y = .str j ∧ i.length + j.length ≤ sizeLine ∧ Q (.str (i ++ j)) H) (.str (toS a)) (.str (toS b)) H1 P := fun {a b H1 P} hl hp Q q => by
          refine ⟨toS a, toS b, rfl, rfl, by rw [toS_len, toS_len, sizeLine_eq]; omega, ?_⟩
          have e : toS a ++ toS b = toS (a ++ b) := by
            show (⟨a.toArray ++ b.toArray⟩ : Str) = ⟨(a ++ b).toArray⟩
            simp
          rw [e]
          exact q _ H1 (Ex.refl _) hp
        refine er_op (Pa := fun v _ => ∃ sg, isSign sg ∧ v = .str (toS ((b.getD r []).take c ++ [sg]))) (Pb := fun v _ => v = .str (toS ((b.getD r []).drop (c + 1)))) (er_op (Pa := fun v _ => v = .str (toS ((b.getD r []).take c))) (Pb := fun v _ => ∃ sg, isSign sg ∧ v = .str (toS [sg])) (er_of fun H1 r1 => EvK.v_str (EvK.is (ek_slS (getl H1 r1) EvO_none (EvO_some (i := (c : Int)) (ek_var (s9.rr r1) rfl)) (by omega)) (by rw [cut_to]; rfl))) ((er_sign (l := [46, 60, 62, 120]) (n := 4) rfl (by decide) (fun H1 r1 => EvK.is ek_str (congrArg NestedKey.text (by decide +kernel))) (er_taken (n := 4) (by omega) (by omega) (fun H1 r1 => ev_var (s9.rr r1) rfl) fun H1 r1 => ek_int)).mono fun v H2 _ hv => ?_) fun x y H1 H2 _ _ ex ey => ?_) (er_of fun H1 r1 => EvK.v_str (EvK.is (ek_slS (getl H1 r1) (EvO_some (i := ((c + 1 : Nat) : Int)) (ek_succ (ek_var (s9.rr r1) rfl))) EvO_none (by omega)) (by rw [cut_from]; rfl))) fun x y H1 H2 _ _ ex ey => ?_
        · obtain ⟨sg, hs, rfl⟩ := hv
          refine ⟨sg, ?_, rfl⟩
          have : ∀ x ∈ [46, 60, 62, 120], isSign x := by decide
          exact this sg hs
        · obtain ⟨sg, hs, rfl⟩ := ey
          subst ex
          exact cat (by rw [List.length_take, List.length_singleton]; omega) ⟨sg, hs, rfl⟩
        · obtain ⟨sg, hs, rfl⟩ := ex
          subst ey
          refine cat (by rw [List.length_append, List.length_take, List.length_drop, List.length_singleton]; omega) ⟨sg, hs, ?_⟩
          rw [cut_put (by omega)]
      have lb' : (linesV b).length = R := by unfold linesV; rw [List.length_map, lb]
      refine s_setLR (l := l) er r89.ok fun v H10 r10 hv => ⟨linesV b, r, ev_var (s9.rr r10) rfl, ek_var (s9.rr r10) rfl, r10.xd _ _ lnr eb9, by omega, fun H12 x112 => ?_⟩
      obtain ⟨sg, hsg, rfl⟩ := hv
      have s10 := s9.rr r10
      have eb12 := x112 _ _ (r10.xd _ _ lnr eb9)
      have r612 := ((r7.trans r89).trans r10).ex x112
      have eset : (linesV b).set r (V.str (toS ((b.getD r []).set c sg))) = linesV (b.set r ((b.getD r []).set c sg)) := by unfold linesV; rw [List.map_set]
      rw [eset]
      have s12 := (s10.ex x112).tx (tx_lst (o := .lst (linesV (b.set r ((b.getD r []).set c sg)))) eb12)
      refine s_ret (ek_tupV (ks := (b.set r ((b.getD r []).set c sg)).map txtK) (ev_var s12 rfl) upd_same (lines_dp _)) fun v H13 x13 dv => ?_
      refine q v H13 R W (b.set r ((b.getD r []).set c sg)) ⟨rect_of (by rw [List.length_set, lb]) fun ln hln => ?_, R1, by omega, W1, by omega⟩ R4 W4 dv (((r6.trans r612).mut ro frl (tx_lst eb12)).ex x13)
      rcases List.mem_or_eq_of_mem_set hln with z | z
      · exact okb ln z
      · subst z
        refine ⟨by rw [List.length_set]; exact hll, fun x hx => ?_⟩
        rcases List.mem_or_eq_of_mem_set hx with z | z
        · exact okr.2 x z
        · subst z; exact hsg
    · have s7 := s6.rr r7
      have eb7 := r7.xd _ _ lnr eb
      refine s_ret (D := { nx := fun _ H' => Q .non H', rt := Q }) (ek_tupV (ks := b.map txtK) (ev_var s7 rfl) eb7 (lines_dp b)) fun v H8 x8 dv => ?_
      exact q v H8 R W b ⟨rect_of lb okb, R1, by omega, W1, by omega⟩ R4 W4 dv ((r6.trans r7).ex x8)
end Wx
end
section
/-! Builders who fill, then cut, as they are drawn: plain Lean. -/
namespace Wv
set_option linter.all false
theorem apart_symm {d e : Deed} (h : apart d e) : apart e d := fun z => h ⟨z.1.symm, z.2.symm⟩
/-- what is drawn so far: PL the places left, B the builders made, fs and cs the one in the making -/
structure Pt (R C : Nat) (b : Brd) (PL : List (Nat × Nat)) (B : Bld) (fs cs : List Deed) : Prop where
  nd : PL.Nodup
  inn : ∀ p ∈ PL, p.1 < R ∧ p.2 < C
  pw : (B.flatten ++ (fs ++ cs)).Pairwise apart
  ok : ∀ d ∈ B.flatten ++ (fs ++ cs), DeedOk R C b d ∧ (d.r, d.c) ∉ PL
  fil : ∀ d ∈ fs, d.fill = true
  cut : ∀ d ∈ cs, d.fill = false
  ord : ∀ ds ∈ B, ∃ fs cs, ds = fs ++ cs ∧ (∀ d ∈ fs, d.fill = true) ∧ ∀ d ∈ cs, d.fill = false
section
variable {R C : Nat} {b : Brd} {PL : List (Nat × Nat)} {B : Bld} {fs cs : List Deed} {d : Deed} {k : Nat}
theorem pt_start (hn : PL.Nodup) (hi : ∀ p ∈ PL, p.1 < R ∧ p.2 < C) : Pt R C b PL [] [] [] := ⟨hn, hi, .nil, by simp, by simp, by simp, by simp⟩
theorem erase_mem {p : Nat × Nat} (hp : PL[k]? = some p) (hn : PL.Nodup) : p ∉ PL.eraseIdx k ∧ (PL.eraseIdx k).Nodup ∧ ∀ q ∈ PL.eraseIdx k, q ∈ PL := by
  have hk := (List.getElem?_eq_some_iff.mp hp).1
  have e : PL = PL.take k ++ p :: PL.drop (k + 1) := by
    have := (List.getElem?_eq_some_iff.mp hp).2
    rw [← this, List.getElem_cons_drop, List.take_append_drop]
  rw [List.eraseIdx_eq_take_drop_succ]
  rw [e] at hn
  rw [List.nodup_append, List.nodup_cons] at hn
  obtain ⟨h1, ⟨h2, h3⟩, h4⟩ := hn
  refine ⟨fun z => ?_, ?_, fun q hq => ?_⟩
  · rcases List.mem_append.mp z with z | z
    · exact h4 p z p (by simp) rfl
    · exact h2 z
  · rw [List.nodup_append]
    exact ⟨h1, h3, fun a ha c hc => h4 a ha c (by simp [hc])⟩
  · rcases List.mem_append.mp hq with z | z
    · exact List.mem_of_mem_take z
    · exact List.mem_of_mem_drop z
theorem pt_new {fs' cs' : List Deed} (h : Pt R C b PL B fs cs) (hp : PL[k]? = some (d.r, d.c)) (hd : DeedOk R C b d) (hperm : (fs' ++ cs').Perm (d :: (fs ++ cs))) (hf : ∀ d ∈ fs', d.fill = true) (hc : ∀ d ∈ cs', d.fill = false) : Pt R C b (PL.eraseIdx k) B fs' cs' := by
  obtain ⟨e1, e2, e3⟩ := erase_mem hp h.nd
  have mp := List.mem_of_getElem? hp
  have P : (B.flatten ++ (fs' ++ cs')).Perm (d :: (B.flatten ++ (fs ++ cs))) := (hperm.append_left _).trans List.perm_middle
  refine ⟨e2, fun p hq => h.inn p (e3 p hq), ?_, fun x hx => ?_, hf, hc, h.ord⟩
  · refine (P.pairwise_iff fun a => apart_symm a).mpr ?_
    rw [List.pairwise_cons]
    refine ⟨fun x hx z => ?_, h.pw⟩
    have := (h.ok x hx).2
    rw [← z.1, ← z.2] at this
    exact this mp
  · rcases List.mem_cons.mp (P.mem_iff.mp hx) with z | z
    · subst z; exact ⟨hd, e1⟩
    · exact ⟨(h.ok x z).1, fun w => (h.ok x z).2 (e3 _ w)⟩
theorem pt_fill (h : Pt R C b PL B fs cs) (hp : PL[k]? = some (d.r, d.c)) (hd : DeedOk R C b d) (hf : d.fill = true) : Pt R C b (PL.eraseIdx k) B (fs ++ [d]) cs :=
  pt_new h hp hd (by rw [List.append_assoc]; exact List.perm_middle) (fun x hx => by
    rcases List.mem_append.mp hx with z | z
    · exact h.fil x z
    · rw [List.mem_singleton] at z; subst z; exact hf) h.cut
theorem pt_cut (h : Pt R C b PL B fs cs) (hp : PL[k]? = some (d.r, d.c)) (hd : DeedOk R C b d) (hf : d.fill = false) : Pt R C b (PL.eraseIdx k) B fs (cs ++ [d]) :=
  pt_new h hp hd (by
    rw [← List.append_assoc]
    exact List.perm_append_comm) h.fil fun x hx => by
    rcases List.mem_append.mp hx with z | z
    · exact h.cut x z
    · rw [List.mem_singleton] at z; subst z; exact hf
theorem pt_push (h : Pt R C b PL B fs cs) : Pt R C b PL (B ++ [fs ++ cs]) [] [] := by
  have e : (B ++ [fs ++ cs]).flatten ++ ([] ++ []) = B.flatten ++ (fs ++ cs) := by simp
  refine ⟨h.nd, h.inn, by rw [e]; exact h.pw, by rw [e]; exact h.ok, by simp, by simp, fun ds hds => ?_⟩
  rcases List.mem_append.mp hds with z | z
  · exact h.ord ds z
  · rw [List.mem_singleton] at z
    subst z
    exact ⟨fs, cs, rfl, h.fil, h.cut⟩
theorem pt_good (h : Pt R C b PL B [] []) (r : Rect R C b) (R0 : 0 < R) (C0 : 0 < C) : Good R C b B := by
  have e : B.flatten ++ (([] : List Deed) ++ []) = B.flatten := by simp
  have pw := h.pw
  have ok := h.ok
  rw [e] at pw ok
  exact ⟨r, R0, C0, fun ds hds d hd => (ok d (List.mem_flatten.mpr ⟨ds, hds, hd⟩)).1, pw, h.ord⟩
end
theorem pairs_few {PL : List (Nat × Nat)} (hn : PL.Nodup) (h : ∀ p ∈ PL, p.1 < 5 ∧ p.2 < 5) : PL.length ≤ 25 := by
  have hm : (PL.map fun p => p.1 + 5 * p.2).Nodup := by
    rw [List.nodup_iff_pairwise_ne, List.pairwise_map]
    refine List.Pairwise.imp_of_mem ?_ hn
    intro a c ha hc hne e
    have h1 := h a ha
    have h2 := h c hc
    exact hne (Prod.ext (by omega) (by omega))
  have := nodup_lt_len 25 _ hm fun x hx => by
    obtain ⟨p, hp, rfl⟩ := List.mem_map.mp hx
    have := h p hp
    omega
  rwa [List.length_map] at this
/-- all places, row by row -/
def allP (n C : Nat) : List (Nat × Nat) := (List.range n).flatMap fun r => (List.range C).map fun c => (r, c)
theorem allP_succ (n C : Nat) : allP (n + 1) C = allP n C ++ (List.range C).map fun c => (n, c) := by simp [allP, List.range_succ]
theorem mem_allP {n C : Nat} {p : Nat × Nat} : p ∈ allP n C ↔ p.1 < n ∧ p.2 < C := by
  unfold allP
  rw [List.mem_flatMap]
  constructor
  · rintro ⟨r, hr, hp⟩
    obtain ⟨c, hc, rfl⟩ := List.mem_map.mp hp
    exact ⟨List.mem_range.mp hr, List.mem_range.mp hc⟩
  · rintro ⟨h1, h2⟩
    exact ⟨p.1, List.mem_range.mpr h1, List.mem_map.mpr ⟨p.2, List.mem_range.mpr h2, rfl⟩⟩
theorem nodup_allP (C : Nat) : ∀ n, (allP n C).Nodup
  | 0 => .nil
  | n + 1 => by
    rw [allP_succ, List.nodup_append]
    refine ⟨nodup_allP C n, ?_, fun a ha c hc e => ?_⟩
    · rw [List.nodup_iff_pairwise_ne, List.pairwise_map]
      exact List.nodup_range.imp fun h e => h (Prod.mk.inj e).2
    · obtain ⟨x, _, rfl⟩ := List.mem_map.mp hc
      have := (mem_allP.mp ha).1
      rw [e] at this
      exact absurd this (Nat.lt_irrefl _)
theorem len_allP (C : Nat) : ∀ n, (allP n C).length = n * C
  | 0 => by simp [allP]
  | n + 1 => by rw [allP_succ, List.length_append, len_allP C n]; simp [Nat.succ_mul]
end Wv
end
section
set_option Elab.async false
set_option linter.all false
set_option maxRecDepth 100000
set_option maxHeartbeats 4000000
/-! More readings that draw. -/
namespace Wx
open PySem PySem.Spec PyProof.Rows L2 Wv
open Evl (Ex ex_rd ex_l ex_t sq_of st_of fresh_back)
section
variable {K : PySem.W.Frag} {C : Addr} {s rw l : Addr} {ns : List Int} {H H' H0 H1 H2 : Hp} {σ : St} {e as : List Sl} {ta tb tc te tl tk tv td ty : TE} {P Pa Pb : V → Hp → Prop} {v y : V} {i j : Nat} {D : Ends} {tu tw tz : TS} {E : XK} {g : TG} {t : TT}
theorem s_forRR {Pn : Nat → Prop} (h : EvR K s ns rw te σ H fun v _ => ∃ n : Nat, Pn n ∧ v = .int (n : Int)) (r : RowOk K s ns H rw) (hN : ∀ n, Pn n → n ≤ 100000) (q : ∀ n H1, Pn n → RR K s ns rw H H1 → ∃ Pv : Nat → St → Hp → Prop, Pv 0 σ H1 ∧
      (∀ i σ' H', i < n → Pv i σ' H' → g (.int (i : Int)) σ' H' fun σ2 H2 => tu { D with nx := Pv (i + 1), ct := Pv (i + 1), bk := D.nx } σ2 H2) ∧ (∀ σ' H', Pv n σ' H' → D.nx σ' H')) :
    tFor (iRng1 (tCons te tNil)) g tu D σ H := h H r.ref _ fun v H1 r1 ⟨n, hn, ev⟩ => by
  obtain ⟨Pv, h0, ht, hq⟩ := q n H1 hn r1
  have := hN n hn
  refine ⟨(n : Int), by rw [ev], by omega, by omega, for_it (walk_range (lo := 0) (n := (n : Int).toNat)) Pv h0 (fun _ _ _ _ _ => trivial) (fun i x σ' H2 H3 hi p y => ?_) (fun σ' H' p => hq σ' H' (by simpa using p))⟩
  obtain ⟨rfl, rfl⟩ := y
  have ez : (0 : Int) + (i : Int) = (i : Int) := Int.zero_add _
  show g (.int (0 + (i : Int))) σ' H3 _
  rw [ez]
  exact ht i σ' _ (by simpa using hi) p
theorem s_setR {P : V → Hp → Prop} (h : EvR K s ns rw te σ H P) (r : RowOk K s ns H rw) (q : ∀ v H1, RR K s ns rw H H1 → P v H1 → D.nx (σ.set i (some v)) H1) : tAsg te (gName i) D σ H := h H r.ref _ fun v H1 r1 p => q v H1 r1 p
theorem er_taken2 {N : Nat} (h9 : N ≤ 1000) (ho : ∀ H1, RR K s ns rw H H1 → EvV ta σ H1 (.ref rw)) (hn : EvR K s ns rw tb σ H fun v _ => ∃ n : Nat, (1 ≤ n ∧ n ≤ N) ∧ v = .int (n : Int)) : EvR K s ns rw (tCall (spTaken K C) [] E (tCons ta (tCons tb tNil))) σ H fun v _ => ∃ t : Nat, t < N ∧ v = .int (t : Int) := fun H1 r Q q =>
  ho H1 r H1 (Ex.refl _) _ fun x H2 x2 ex => hn H2 (r.ex x2) _ fun y H3 r3 ⟨n, ⟨n1, n9⟩, ey⟩ => by
    subst ex ey
    show spTaken K C ([V.ref rw, V.int (n : Int)] ++ []) H3 Q E
    rw [List.append_nil]
    have r13 := (r.ok.rr x2).trans r3
    exact ⟨rw, s, ns, n, r3.ok, n1, by omega, .cons rfl (.cons (.int _) .nil), fun t H4 ht ro xd tx => q _ H4 (r13.trans ⟨xd, tx, ro⟩) ⟨t, by omega, rfl⟩⟩
theorem er_if {c : Bool} (ht : ∀ H1, RR K s ns rw H H1 → EvT t σ H1 c) (h1 : c = true → EvR K s ns rw ta σ H P) (h2 : c = false → EvR K s ns rw tb σ H P) : EvR K s ns rw (tIf t ta tb) σ H P := fun H1 r Q q => ht H1 r H1 (Ex.refl _) _ fun H2 x2 => by
  cases c with
  | true =>
    rw [if_pos rfl]
    exact h1 rfl H2 (r.ex x2) Q fun v H3 r3 p => q v H3 ((r.ok.rr x2).trans r3) p
  | false =>
    rw [if_neg Bool.false_ne_true]
    exact h2 rfl H2 (r.ex x2) Q fun v H3 r3 p => q v H3 ((r.ok.rr x2).trans r3) p
theorem q_popAt {xs : List V} (ho : ∀ H1, RR K s ns rw H H1 → EvV ta σ H1 (.ref l)) (hl : H l = some (.lst xs)) (ne : l ≠ rw) (hx : xs.length ≤ 1000) (r : RowOk K s ns H rw) (hk : EvR K s ns rw tk σ H fun v _ => ∃ t : Nat, t < xs.length ∧ v = .int (t : Int))
    (q : ∀ t y H1, xs[t]? = some y → RR K s ns rw H H1 → g y σ (upd H1 l (.lst (xs.eraseIdx t))) fun σ2 H2 => tz D σ2 H2) : tSeq (tAsg (tBM K "list" rPopAt ta (tCons tk tNil)) g) tz D σ H :=
  ho H r.ref H (Ex.refl _) _ fun u H1 x1 eu => by
    subst eu
    refine ⟨Or.inl ⟨rfl, xs, sq_of (x1 l _ hl)⟩, ?_⟩
    refine hk H1 (r.rr x1) _ fun v H2 r2 ⟨t, ht, ev⟩ => ?_
    subst ev
    have hy : xs[t]? = some xs[t] := List.getElem?_eq_getElem ht
    refine ⟨l, xs, (t : Int), t, xs[t], rfl, rfl, r2.xd _ _ ne (x1 _ _ hl), by omega, by omega, ?_, hy, q t _ H2 hy ((r.rr x1).trans r2)⟩
    rw [seqIndex_of (by omega) (by omega)]; rfl
theorem ef_cat {xs : List V} {Pn : List V → Hp → Prop} {m : Nat} (ha : EvV ta σ H (.ref l)) (e : H l = some (.lst xs)) (hb : EvN tb σ H fun zs H2 => zs.length ≤ m ∧ Pn zs H2) (hm : ∀ zs H1 H2, Ex H1 H2 → Pn zs H1 → Pn zs H2) (h9 : xs.length + m ≤ 100000) : EvF (tOp rCat ta tb) σ H fun p H2 => ∃ zs, H2 p = some (.lst (xs ++ zs)) ∧ Pn zs H2 := fun H1 x Q q =>
  ha H1 x _ fun u H2 x2 eu => hb H2 (x.trans x2) _ fun b zs H3 hb3 x3 eb ⟨hz, pz⟩ => by
    subst eu
    exact ⟨l, b, xs, zs, rfl, rfl, ((x.trans x2).trans x3) _ _ e, eb, by rw [sizeLine_eq]; omega, fun p hp => q p _ (fresh_back (x2.trans x3) hp) ((x2.trans x3).trans (Ex.new hp)) ⟨zs, upd_same, hm _ _ _ (Ex.new hp) pz⟩⟩
theorem s_setF {Pf : Addr → Hp → Prop} (sd : SD K C H σ e) (h : EvF te σ H Pf) (q : ∀ p σ' H1, H p = none → Ex H H1 → Pf p H1 → SD K C H1 σ' (e.set i (.val (.ref p))) → D.nx σ' H1) : tAsg te (gName i) D σ H :=
  h H (Ex.refl H) _ fun p H1 hp x pp => q p _ H1 hp x pp ((sd.ex x).set (o := some (.ref p)) (s := .val (.ref p)) rfl)
/-- (w, r, c, e), e drawn -/
theorem er_tup4 {w : Str} {r c : Nat} {t1 t2 t3 : TE} {P : Nat → Prop} (h1 : ∀ H1, RR K s ns rw H H1 → EvV t1 σ H1 (.str w)) (h2 : ∀ H1, RR K s ns rw H H1 → EvV t2 σ H1 (.int (r : Int))) (h3 : ∀ H1, RR K s ns rw H H1 → EvV t3 σ H1 (.int (c : Int))) (h4 : EvR K s ns rw te σ H fun v _ => ∃ sg, P sg ∧ v = .str (toS [sg])) :
    EvR K s ns rw (tTup (tCons (tTup (tCons t1 (tCons t2 (tCons t3 (tCons te tNil))))) tNil)) σ H fun v H2 => ∃ sg, P sg ∧ Dp K H2 v (NestedKey.tup [.tup [.text w, numK r, numK c, txtK [sg]]]).data := fun H1 r1 Q q =>
  h1 H1 r1 H1 (Ex.refl _) _ fun a H2 x2 ea => h2 H2 (r1.ex x2) H2 (Ex.refl _) _ fun b H3 x3 eb => h3 H3 ((r1.ex x2).ex x3) H3 (Ex.refl _) _ fun d H4 x4 ed => h4 H4 (((r1.ex x2).ex x3).ex x4) _ fun y H5 r5 ⟨sg, hs, ey⟩ => by
    subst ea eb ed ey
    refine ⟨by show 4 ≤ sizeLine; decide, fun p hp => ⟨by show 1 ≤ sizeLine; decide, fun p2 hp2 => ?_⟩⟩
    have x5 : Ex H5 (upd H5 p (.tup [.str w, .int (r : Int), .int (c : Int), .str (toS [sg])])) := Ex.new hp
    refine q _ _ ((((r1.ok.rr x2).ex x3).ex x4).trans ((r5.ex x5).ex (Ex.new hp2))) ⟨sg, hs, ?_⟩
    refine .tup (SqT.of upd_same) (.cons ?_ .nil)
    refine Dp.ex (Ex.new hp2) (NestedKey.tup [.text w, numK r, numK c, txtK [sg]]).data _ (.tup (SqT.of upd_same) (.cons (.str _) (.cons (.int _) (.cons (.int _) (.cons (.str _) .nil)))))
/-- a tuple and a drawn one -/
theorem er_cat {ks : List NK} {m : Nat} {Pk : List NK → Prop} (hl : ∀ ms, Pk ms → ks.length + ms.length ≤ 1000) (ha : ∀ H1, RR K s ns rw H H1 → EvK K ta σ H1 (.tup ks)) (hb : EvR K s ns rw tb σ H fun v H2 => ∃ ms, Pk ms ∧ Dp K H2 v (NestedKey.tup ms).data) : EvR K s ns rw (tOp (rCatA K) ta tb) σ H fun v H2 => ∃ ms, Pk ms ∧ Dp K H2 v (NestedKey.tup (ks ++ ms)).data := fun H1 r1 Q q =>
  ha H1 r1 H1 (Ex.refl _) _ fun x H2 x2 dx => hb H2 (r1.ex x2) _ fun y H3 r3 ⟨ms, pm, dy⟩ => by
    have r13 := (r1.ok.rr x2).trans r3
    have c1 : Ev1 (tC x) σ H3 fun v H => Dp K H v (NestedKey.tup ks).data := fun H4 x4 Q q => q _ H4 (Ex.refl _) (Dp.tx (r3.tx.trans (ex_tx x4)) (.tup ks) _ dx)
    have c2 : Ev1 (tC y) σ H3 fun v H => Dp K H v (NestedKey.tup ms).data := fun H4 x4 Q q => q _ H4 (Ex.refl _) (Dp.ex x4 _ _ dy)
    exact ek_cat c1 c2 (hl ms pm) H3 (Ex.refl _) Q fun v H4 x4 dv => q v H4 (r13.ex x4) ⟨ms, pm, dv⟩
end
end Wx
end
section
set_option Elab.async false
set_option linter.all false
set_option maxRecDepth 100000
set_option maxHeartbeats 4000000
namespace Wx
open PySem PySem.Spec PyProof.Rows L2 Wv
open Evl (Ex ex_rd ex_l ex_t sq_of st_of fresh_back)
/-! ### the drawn builders -/
def spParted (K : PySem.W.Frag) (C : Addr) : Sp := fun vs H Q _ => ∃ rw s ns R W b, Brd5 R W b ∧ RowOk K s ns H rw ∧ Paired (VOk K C H) vs [.val (.ref rw), .dat (brdK b)] ∧ ∀ v H' B, Gd R W b B → Dp K H' v (bldK B).data → RR K s ns rw H H' → Q v H'
def LsK (K : PySem.W.Frag) (H : Hp) (l : Addr) (ks : List NK) : Prop := ∃ xs, H l = some (.lst xs) ∧ DpAll K H xs (NestedKey.datas ks)
theorem LsK.ex {K : PySem.W.Frag} {H H' : Hp} {l : Addr} {ks : List NK} (x : Ex H H') (h : LsK K H l ks) : LsK K H' l ks := by
  obtain ⟨xs, h1, h2⟩ := h
  exact ⟨xs, x _ _ h1, DpAll.ex x _ _ h2⟩
theorem LsK.rr {K : PySem.W.Frag} {s rw : Addr} {ns : List Int} {H H' : Hp} {l : Addr} {ks : List NK} (x : RR K s ns rw H H') (n : l ≠ rw) (h : LsK K H l ks) : LsK K H' l ks := by
  obtain ⟨xs, h1, h2⟩ := h
  exact ⟨xs, x.xd _ _ n h1, DpAll.tx x.tx _ _ h2⟩
theorem LsK.upd {K : PySem.W.Frag} {H : Hp} {l m : Addr} {ks : List NK} {xs ys : List V} (e : H m = some (.lst xs)) (n : l ≠ m) (h : LsK K H l ks) : LsK K (L2.upd H m (.lst ys)) l ks := by
  obtain ⟨zs, h1, h2⟩ := h
  exact ⟨zs, by rw [upd_ne n]; exact h1, DpAll.tx (tx_lst e) _ _ h2⟩
theorem dpAll_erase {K : PySem.W.Frag} {H : Hp} : ∀ {ks : List PyData} {vs : List V} (n : Nat), DpAll K H vs ks → DpAll K H (vs.eraseIdx n) (ks.eraseIdx n)
  | _, _, _, .nil => .nil
  | _, _, 0, .cons _ t => t
  | _, _, n + 1, .cons h t => .cons h (dpAll_erase n t)
theorem datas_erase (a : List NK) (n : Nat) : NestedKey.datas (a.eraseIdx n) = (NestedKey.datas a).eraseIdx n := by
  rw [datas_map, datas_map]
  induction a generalizing n with
  | nil => rfl
  | cons x r ih =>
    cases n with
    | zero => rfl
    | succ n => rw [List.eraseIdx_cons_succ, List.map_cons, List.map_cons, List.eraseIdx_cons_succ, ih]
theorem map_erase {α β : Type} (f : α → β) : ∀ (a : List α) (n : Nat), (a.eraseIdx n).map f = (a.map f).eraseIdx n
  | [], _ => rfl
  | x :: r, 0 => rfl
  | x :: r, n + 1 => by rw [List.eraseIdx_cons_succ, List.map_cons, List.map_cons, List.eraseIdx_cons_succ, map_erase f r n]
theorem ok_l_parted {P : Program} {w : World} {K : PySem.W.Frag} {mg : Str → Option Value} {base : Heap} {CB CF AF : Addr} (kn : Kn K mg "_law_parted" s__law_parted) (T : TX K mg CB CF AF) (c_l_taken : Cal P w K mg base 1 "_law_taken" ["_law_row", "_law_many_here"] (spTaken K CB)) : Cal P w K mg base 2 "_law_parted" ["_law_row", "_law_cells_here"] (spParted K CB) := by
  have nd := sc__law_parted.nd
  refine Cal.mk kn sc__law_parted (fun _ _ _ _ _ _ us hl => match us, hl with | [_, _], _ => rfl) (fun vs H Q E h => ?_) (fun f cdv A outer s H vs Q E hr h => ⟨_, (pss_cons (ps_par (i := 2) (j := 3) (by rfl) nd rfl rfl (by decide) rfl rfl (pa_cons (pe_lst pa_nil) (pa_cons (pe_lst pa_nil) pa_nil)) (by rfl))
  (pss_cons (ps_for PassesOwn.never (by rfl) (pi_range1 (by rfl) T.z_range (pa_cons (pe_callB call_len_seq (by rfl) T.z_len PySem.boot_len (pa_cons (pv 1) pa_nil)) pa_nil)) (pg_name (i := 4) nd rfl (by first | exact Or.inl rfl | exact Or.inr rfl))
  (pss_one (ps_set (i := 2) nd rfl (by first | exact Or.inl rfl | exact Or.inr rfl) (pe_op op_cat (pv 2) (pe_lc (own := [("_law_place", 9)]) (by rfl) nd (pi_range1 (by rfl) T.z_range (pa_cons (pe_callB call_len_str (by rfl) T.z_len PySem.boot_len (pa_cons (pe_ix ix_tup (pv 1) pe_int (fun _ _ => rfl)) pa_nil)) pa_nil)) (blkOk_by (own := [("_law_place", 9)]) (N := ["_law_row", "_law_cells_here", "_law_places", "_law_found", "_law_at", "_law_turn", "_law_fills", "_law_cuts", "_law_again", "_law_place"]) (sc := defScope s__law_parted) (by decide +kernel)) (fun _ _ _ _ _ => (pg_name (i := 9) nd rfl (by first | exact Or.inl rfl | exact Or.inr rfl))) (fun _ _ _ _ _ => pts_nil) (fun _ _ _ _ _ => (pe_tup (pa_cons (pv 4) (pa_cons (pv 9) pa_nil)))))))))
  (pss_cons (ps_for PassesOwn.never (by rfl) (pi_range1 (by rfl) T.z_range (pa_cons (pe_op op_add pe_int (c_l_taken.pe (hr.mono (by omega)) (by rfl) (pa_cons (pv 0) (pa_cons pe_int pa_nil)))) pa_nil)) (pg_name (i := 5) nd rfl (by first | exact Or.inl rfl | exact Or.inr rfl))
  (pss_cons (ps_asg (pe_tup (pa_cons (pe_tup pa_nil) (pa_cons (pe_tup pa_nil) pa_nil))) (pg_tup (by rfl) (pgs_cons (pg_name (i := 6) nd rfl (by first | exact Or.inl rfl | exact Or.inr rfl)) (pgs_cons (pg_name (i := 7) nd rfl (by first | exact Or.inl rfl | exact Or.inr rfl)) pgs_nil))))
  (pss_cons (ps_for PassesOwn.never (by rfl) (pi_range1 (by rfl) T.z_range (pa_cons (pe_ifExp (pt_cmpR (op_neD hr.units) (pv 2) (pe_lst pa_nil) (nomark _)) (c_l_taken.pe (hr.mono (by omega)) (by rfl) (pa_cons (pv 0) (pa_cons (pe_ix ix_list (pe_lst (pa_cons pe_int (pa_cons pe_int pa_nil))) (c_l_taken.pe (hr.mono (by omega)) (by rfl) (pa_cons (pv 0) (pa_cons pe_int pa_nil))) (fun _ _ => rfl)) pa_nil))) pe_int) pa_nil)) (pg_name (i := 8) nd rfl (by first | exact Or.inl rfl | exact Or.inr rfl))
  (pss_one (ps_if (pt_cmpR (op_neD hr.units) (pv 2) (pe_lst pa_nil) (nomark _)) (pss_cons (ps_asg (pe_bm PySem.F.plainAttrs_list PySem.F.slot_list_pop PySem.F.type_list_pop mt_popAt (pv 2) (pa_cons (c_l_taken.pe (hr.mono (by omega)) (by rfl) (pa_cons (pv 0) (pa_cons (pe_callB call_len_seq (by rfl) T.z_len PySem.boot_len (pa_cons (pv 2) pa_nil)) pa_nil))) pa_nil)) (pg_tup (by rfl) (pgs_cons (pg_name (i := 4) nd rfl (by first | exact Or.inl rfl | exact Or.inr rfl)) (pgs_cons (pg_name (i := 9) nd rfl (by first | exact Or.inl rfl | exact Or.inr rfl)) pgs_nil))))
  (pss_one (ps_if (pt_cmpR op_eq (pe_ix ix_str (pe_ix ix_tup (pv 1) (pv 4) (fun _ _ => rfl)) (pv 9) (fun _ _ => rfl)) pe_str (nomark _)) (pss_one (ps_set (i := 6) nd rfl (by first | exact Or.inl rfl | exact Or.inr rfl) (pe_op op_catA (pv 6) (pe_tup (pa_cons (pe_tup (pa_cons pe_str (pa_cons (pv 4) (pa_cons (pv 9) (pa_cons (pe_ix ix_str pe_str (c_l_taken.pe (hr.mono (by omega)) (by rfl) (pa_cons (pv 0) (pa_cons pe_int pa_nil))) (fun _ _ => rfl)) pa_nil))))) pa_nil))))) (pss_one (ps_set (i := 7) nd rfl (by first | exact Or.inl rfl | exact Or.inr rfl) (pe_op op_catA (pv 7) (pe_tup (pa_cons (pe_tup (pa_cons pe_str (pa_cons (pv 4) (pa_cons (pv 9) pa_nil)))) pa_nil)))))))) pss_nil)))
  (pss_one (ps_expr (pe_bm PySem.F.plainAttrs_list PySem.F.slot_list_append PySem.F.type_list_append mt_append (pv 3) (pa_cons (pe_op op_catA (pv 6) (pv 7)) pa_nil)))))))
  (pss_one (ps_ret (pe_callTy call_tuple_of (by rfl) T.z_tuple (by decide +kernel) (pa_cons (pv 3) pa_nil))))))), ?_⟩)
  · obtain ⟨rw, s, ns, R, W, b, hb, ro, a⟩ := h
    exact (Paired.length a.1 :)
  obtain ⟨rw, s, ns, R, W, b, hb, ro, a⟩ := h
  obtain ⟨hp, q⟩ := a
  have sd := sd_start (N := ["_law_row", "_law_cells_here", "_law_places", "_law_found", "_law_at", "_law_turn", "_law_fills", "_law_cuts", "_law_again", "_law_place"]) hp
  try dsimp only [cxOf, Cx.nox]
  have r5 := hb.R5
  have w5 := hb.W5
  refine q_parFF (Pf := fun p H2 => H2 p = some (.lst [])) (Pg := fun _ p H2 => H2 p = some (.lst [])) (en_nil.f.mono fun p H2 _ z => by obtain ⟨xs, e, rfl⟩ := z; exact e) (fun p Ha _ xa _ => en_nil.f.mono fun p H2 _ z => by obtain ⟨xs, e, rfl⟩ := z; exact e) fun l0 lf H1 H2 hl0 x1 el0 hlf x2 elf => ?_
  have x12 := x1.trans x2
  have frf : H lf = none := fresh_back x1 hlf
  have l0f : l0 ≠ lf := fun z => by subst z; rw [el0] at hlf; cases hlf
  have sd2 := ((sd.ex x12).set (i := 2) (o := some (.ref l0)) (s := .val (.ref l0)) rfl).set (i := 3) (o := some (.ref lf)) (s := .val (.ref lf)) rfl
  refine q_of (s_forR (n := R) (ek_lenB hb (ek_var sd2 rfl)) (by omega) fun H3 x3 => ⟨fun i σ' H' => ∃ l, SD K CB H' σ' [.val (.ref rw), .dat (brdK b), .val (.ref l), .val (.ref lf), .un, .un, .un, .un, .un, .un] ∧ Ex H H' ∧ H l = none ∧ l ≠ lf ∧ LsK K H' l ((allP i W).map pairK) ∧ H' lf = some (.lst []), ⟨l0, sd2.ex x3, x12.trans x3, hl0, l0f, ⟨[], x3 _ _ (x2 _ _ el0), .nil⟩, x3 _ _ elf⟩, fun i σ' H' hi z => ?_, fun σ' H' z => ?_⟩)
  · obtain ⟨l, s4, xh, hl, llf, ⟨xs, ex, dx⟩, elf4⟩ := z
    have s5 := s4.set (i := 4) (o := some (.int (i : Int))) (s := .dat (numK i)) ⟨_, rfl, .int _⟩
    have lx : xs.length = i * W := by rw [dpAll_len dx, datas_len, List.length_map, len_allP]
    have iW : i * W ≤ 25 := Nat.le_trans (Nat.mul_le_mul (show i ≤ 5 by omega) (show W ≤ 5 by omega)) (by decide)
    refine s_setF s5 (ef_cat (m := W) (Pn := fun zs H2 => DpAll K H2 zs (NestedKey.datas (((List.range W).map fun c => (i, c)).map pairK))) (ev_var s5 rfl) ex ((en_lcR (n := W) (fun _ => true) (fun c y H => Dp K H y (pairK (i, c)).data) s5 (ek_lenW hb (ek_var s5 rfl)) (by omega) (by simp) (fun c y H H' t z => Dp.tx t _ _ z) fun c σ2 H5 hc x5 sd5 => ⟨et_yes, fun _ => ek_tup (C := CB) (ks := [numK i, numK c]) (ea_two (s1 := .dat (numK i)) (s2 := .dat (numK c)) (ek_var sd5 rfl) (ek_var sd5 rfl)) (by simp)⟩).mono fun zs H5 _ pr => ?_) (fun zs H1 H2 x z => DpAll.ex x _ _ z) (by omega)) fun p σ6 H6 hp x6 hz s6 => ?_
    · rw [filt_all] at pr
      have := paired_dats (ks := fun c => pairK (i, c)) pr
      refine ⟨by rw [Paired.length pr, List.length_range]; exact Nat.le_refl _, ?_⟩
      rw [List.map_map]
      exact this
    · obtain ⟨zs, ez, dz⟩ := hz
      have frp := fresh_back xh hp
      refine ⟨p, s6.drops [4], xh.trans x6, frp, (fun z => by subst z; rw [elf4] at hp; cases hp), ⟨_, ez, ?_⟩, x6 _ _ elf4⟩
      rw [allP_succ, List.map_append, datas_app]
      exact dpAll_app (DpAll.ex x6 _ _ dx) dz
  · obtain ⟨l, s4, xh, frl, llf, lsl, elf4⟩ := z
    have r4 := ro.rr xh
    have ro4 := r4.ok
    have lnr : l ≠ rw := fun z => by subst z; exact ro.nn frl
    have fnr : lf ≠ rw := fun z => by subst z; exact ro.nn frf
    have pt0 : Pt R W b (allP R W) [] [] [] := pt_start (nodup_allP W R) fun p hp => mem_allP.mp hp
    refine q_of (s_forRR (Pn := fun n => 1 ≤ n ∧ n ≤ 3) ((er_inc (er_taken (n := 3) (by omega) (by omega) (fun H1 r1 => ev_var (s4.rr r1) rfl) fun H1 r1 => ek_int)).mono fun v H5 _ z => by obtain ⟨t, h1, h3, e⟩ := z; exact ⟨t, ⟨h1, h3⟩, e⟩) ro4 (fun n h => by omega) fun n H5 hn r5' => ⟨fun i σ' H' => ∃ PL B, SD K CB H' σ' [.val (.ref rw), .dat (brdK b), .val (.ref l), .val (.ref lf), .un, .un, .un, .un, .un, .un] ∧ RR K s ns rw H H' ∧ LsK K H' l (PL.map pairK) ∧ LsK K H' lf (B.map dsK) ∧ Pt R W b PL B [] [] ∧ B.length = i ∧ ∀ ds ∈ B, ds.length ≤ 6,
      ⟨allP R W, [], s4.rr r5', r4.trans r5', lsl.rr r5' lnr, ⟨[], r5'.xd _ _ fnr elf4, .nil⟩, pt0, rfl, by simp⟩, fun i σ' H' hi z => ?_, fun σ' H' z => ?_⟩)
    · obtain ⟨PL, B, s6, r6, lsl6, lsf6, pt6, lB, B6⟩ := z
      have s7 := s6.set (i := 5) (o := some (.int (i : Int))) (s := .un) trivial
      refine q_tup2 (Pa := fun v H2 => Dp K H2 v (dsK []).data) (Pb := fun v H2 => Dp K H2 v (dsK []).data) (ek_tup (C := CB) (ks := []) ea_nil (by simp)) (ek_tup (C := CB) (ks := []) ea_nil (by simp)) fun v u H8 H9 x8 x9 dv du => ?_
      obtain ⟨H8', du, _, xdu⟩ := du
      have du := Dp.ex xdu _ _ du
      have x89 := x8.trans x9
      have s9 := ((s7.ex x89).set (i := 6) (s := .dat (dsK [])) ⟨v, rfl, Dp.ex x9 _ _ dv⟩).set (i := 7) (s := .dat (dsK [])) ⟨u, rfl, du⟩
      have r9 := r6.ex x89
      have ro9 := r9.ok
      have lsl9 := lsl6.ex x89
      have lsf9 := lsf6.ex x89
      obtain ⟨xs9, ex9, dx9⟩ := id lsl9
      have pne : ∀ {H1 : Hp} {PL : List (Nat × Nat)} {σ1 : St} {e1 : List Sl} {xs : List V}, SD K CB H1 σ1 e1 → e1[2]? = some (.val (.ref l)) → H1 l = some (.lst xs) → DpAll K H1 xs (NestedKey.datas (PL.map pairK)) → EvT (tTest (tOp (rNeD K) (tVar 2) (tLst tNil))) σ1 H1 (!PL.isEmpty) := fun {H1 PL σ1 e1 xs} sx hx ex dx => by
        refine Evl.et_is (et_test (eb_neD (d := lsD (PL.map pairK)) (d' := .list []) ((ev_var sx hx).mono fun v H5 x5 e => by subst e; exact .lst (SqL.of (x5 _ _ ex)) (DpAll.ex x5 _ _ dx)) e1_nil ((shp_lstK (n := 1) fun k hk => by
          obtain ⟨p, _, rfl⟩ := List.mem_map.mp hk
          exact shp_tupK fun k hk => by
            simp only [List.mem_cons, List.not_mem_nil, or_false] at hk
            rcases hk with rfl | rfl <;> exact shp_int _).ok (by omega)) (shp_nil.ok (by omega)))) ?_
        unfold lsD
        rw [eqv_lnil, datas_map]
        cases PL <;> rfl
      refine q_of (s_forRR (Pn := fun n => n ≤ 6) (er_if (c := !PL.isEmpty) (fun H1 r1 => ?_) (fun _ => (er_taken2 (N := 7) (by omega) (fun H1 r1 => ev_var (s9.rr r1) rfl) ((er_pick (xs := [V.int 4, V.int 7]) (n := 2) rfl (fun H1 r1 => (en_lst (K := K) (C := CB) (as := [.val (.int 4), .val (.int 7)]) (ea_cons ev_c.sl (ea_cons ev_c.sl ea_nil)) (by simp)).mono fun ys _ _ z => pair_vals (ws := [V.int 4, V.int 7]) z) (er_taken (n := 2) (by omega) (by omega) (fun H1 r1 => ev_var (s9.rr r1) rfl) fun H1 r1 => ek_int)).mono fun v H2 _ z => ?_)).mono fun v H2 _ z => by obtain ⟨t, h, e⟩ := z; exact ⟨t, by omega, e⟩) fun _ => er_of fun H1 r1 => ev_c.mono fun v H2 _ e => ⟨0, by omega, e⟩) ro9 (fun n h => by omega) fun n H10 hn6 r10 => ⟨fun j σ' H' => ∃ PL fs cs, SD K CB H' σ' [.val (.ref rw), .dat (brdK b), .val (.ref l), .val (.ref lf), .un, .un, .dat (dsK fs), .dat (dsK cs), .un, .un] ∧ RR K s ns rw H H' ∧ LsK K H' l (PL.map pairK) ∧ LsK K H' lf (B.map dsK) ∧ Pt R W b PL B fs cs ∧ fs.length + cs.length ≤ j,
        ⟨PL, [], [], s9.rr r10, r9.trans r10, lsl9.rr r10 lnr, lsf9.rr r10 fnr, pt6, Nat.le_refl 0⟩, fun j σ' H' hj z => ?_, fun σ' H' z => ?_⟩)
      · obtain ⟨ys, ey, dy⟩ := lsl9.rr r1 lnr
        exact pne (s9.rr r1) rfl ey dy
      · simp only [List.mem_cons, List.not_mem_nil, or_false] at z
        rcases z with z | z
        · exact ⟨4, by omega, z⟩
        · exact ⟨7, by omega, z⟩
      · obtain ⟨PL, fs, cs, sa, ra, lsla, lsfa, pta, lfc⟩ := z
        obtain ⟨xs, ex, dx⟩ := id lsla
        have sb := sa.set (i := 8) (o := some (.int (j : Int))) (s := .un) trivial
        refine s_if (c := !PL.isEmpty) (pne sb rfl ex dx) (fun hne Hb xb => ?_) fun hne Hb xb => ⟨PL, fs, cs, (sb.ex xb).drops [8], ra.ex xb, lsla.ex xb, lsfa.ex xb, pta, by omega⟩
        have sc := sb.ex xb
        have rc := ra.ex xb
        have roc := rc.ok
        have exc := xb _ _ ex
        have dxc := DpAll.ex xb _ _ dx
        have lx : xs.length = PL.length := by rw [dpAll_len dx, datas_len, List.length_map]
        have lP : PL.length ≤ 25 := by
          exact pairs_few pta.nd fun p hp => ⟨Nat.lt_of_lt_of_le (pta.inn p hp).1 r5, Nat.lt_of_lt_of_le (pta.inn p hp).2 w5⟩
        have pos : 1 ≤ PL.length := by
          cases PL with
          | nil => cases hne
          | cons a r => simp
        refine q_popAt (l := l) (fun H1 r1 => ev_var (sc.rr r1) rfl) exc lnr (by omega) roc (er_taken (n := xs.length) (by omega) (by omega) (fun H1 r1 => ev_var (sc.rr r1) rfl) fun H1 r1 => EvK.is (EvV.k_int (ev_lenL (xs := xs) (ev_var (sc.rr r1) rfl) (sq_of (r1.xd _ _ lnr exc)))) rfl) fun t y Hd hy rd => ?_
        have ht : t < PL.length := by have := (List.getElem?_eq_some_iff.mp hy).1; omega
        have hp : PL[t]? = some PL[t] := List.getElem?_eq_getElem ht
        generalize PL[t] = p at hp
        obtain ⟨pr, pc⟩ := p
        obtain ⟨y', hy', dy'⟩ := dpAll_get dxc (datas_get (n := t) (k := pairK (pr, pc)) (by rw [List.getElem?_map, hp]; rfl))
        rw [hy] at hy'
        cases hy'
        have exd := rd.xd _ _ lnr exc
        have te : Tx Hd (upd Hd l (.lst (xs.eraseIdx t))) := tx_lst exd
        have re : RR K s ns rw H (upd Hd l (.lst (xs.eraseIdx t))) := (rc.trans rd).mut ro frl te
        have dye := Dp.tx (rd.tx.trans te) _ _ dy'
        have lsle : LsK K (upd Hd l (.lst (xs.eraseIdx t))) l ((PL.eraseIdx t).map pairK) := ⟨_, upd_same, by rw [map_erase, datas_erase]; exact dpAll_erase t (DpAll.tx (rd.tx.trans te) _ _ dxc)⟩
        have lsfe : LsK K (upd Hd l (.lst (xs.eraseIdx t))) lf (B.map dsK) := ((lsfa.ex xb).rr rd fnr).upd exd llf.symm
        have inp := pta.inn _ (List.mem_of_getElem? hp)
        refine g_pairK (k1 := numK pr) (k2 := numK pc) dye fun x1' y1' dx1 dy1 => ?_
        have ex1 := dp_int dx1
        have ey1 := dp_int dy1
        subst ex1 ey1
        have sf := (((sc.rr rd).tx te).set (i := 4) (o := some (.int (pr : Int))) (s := .dat (numK pr)) ⟨_, rfl, .int _⟩).set (i := 9) (o := some (.int (pc : Int))) (s := .dat (numK pc)) ⟨_, rfl, .int _⟩
        generalize upd Hd l (.lst (xs.eraseIdx t)) = He at *
        refine s_if (c := decide (at2 b pr pc = 46)) (Evl.et_is (et_test (eb_eqS (ek_cell hb (ek_var sf rfl) (ek_var sf rfl) (ek_var sf rfl) inp.1 inp.2) ek_str)) (sign_dot _)) (fun h46 Hf xf => ?_) fun h46 Hf xf => ?_
        · have h46 : at2 b pr pc = 46 := of_decide_eq_true h46
          have sg := sf.ex xf
          have rg := re.ex xf
          refine s_setR (er_cat (ks := fs.map dK) (m := 1) (Pk := fun ms => ∃ c, (c = 60 ∨ c = 62 ∨ c = 120) ∧ ms = [dK (Deed.mk true pr pc c)]) (fun ms pm => by obtain ⟨c, _, rfl⟩ := pm; rw [List.length_map]; simp; omega) (fun H1 r1 => ek_var (sg.rr r1) rfl) ((er_tup4 (w := Str.ofString "fill") (r := pr) (c := pc) (P := fun c => c = 60 ∨ c = 62 ∨ c = 120) (fun H1 r1 => ev_c) (fun H1 r1 => EvK.v_int (i := (pr : Int)) (ek_var (sg.rr r1) rfl)) (fun H1 r1 => EvK.v_int (i := (pc : Int)) (ek_var (sg.rr r1) rfl)) ((er_sign (l := [60, 62, 120, 120]) (n := 4) rfl (by decide) (fun H1 r1 => EvK.is ek_str (congrArg NestedKey.text (by decide +kernel))) (er_taken (n := 4) (by omega) (by omega) (fun H1 r1 => ev_var (sg.rr r1) rfl) fun H1 r1 => ek_int)).mono fun v H2 _ hv => by
              obtain ⟨c, hc, e⟩ := hv
              exact ⟨c, by simp at hc; omega, e⟩)).mono fun v H2 _ hv => by
              obtain ⟨c, hc, dv⟩ := hv
              exact ⟨_, ⟨c, hc, rfl⟩, dv⟩)) rg.ok fun v Hg rg2 hv => ?_
          obtain ⟨ms, ⟨c, hc, rfl⟩, dv⟩ := hv
          have okd : DeedOk R W b (Deed.mk true pr pc c) := ⟨inp.1, inp.2, fun _ => ⟨h46, hc⟩, fun z => by cases z⟩
          refine ⟨PL.eraseIdx t, fs ++ [(Deed.mk true pr pc c)], cs, ?_, rg.trans rg2, (lsle.ex xf).rr rg2 lnr, (lsfe.ex xf).rr rg2 fnr, pt_fill pta hp okd rfl, by rw [List.length_append]; simp; omega⟩
          refine ((sg.rr rg2).set (i := 6) (o := some v) (s := .dat (dsK (fs ++ [(Deed.mk true pr pc c)]))) ⟨v, rfl, ?_⟩).drops [4, 8, 9]
          unfold dsK
          rw [List.map_append]; exact dv
        · have h46 : at2 b pr pc ≠ 46 := of_decide_eq_false h46
          have sg := sf.ex xf
          have rg := re.ex xf
          have okd : DeedOk R W b (Deed.mk false pr pc 46) := ⟨inp.1, inp.2, (fun z => nomatch z), fun _ => ⟨h46, rfl⟩⟩
          refine s_set (s := .dat (dsK (cs ++ [(Deed.mk false pr pc 46)]))) sg (EvK.is (ek_cat (a := cs.map dK) (b := [dK (Deed.mk false pr pc 46)]) (ek_var sg rfl) (ek_tup (C := CB) (ks := [dK (Deed.mk false pr pc 46)]) (ea_one (s := .dat (dK (Deed.mk false pr pc 46))) (ek_tup (C := CB) (ks := [.text (Str.ofString "cut"), numK pr, numK pc]) (ea_three (s1 := .dat (.text (Str.ofString "cut"))) (s2 := .dat (numK pr)) (s3 := .dat (numK pc)) ek_str (ek_var sg rfl) (ek_var sg rfl)) (by simp))) (by simp)) (by rw [List.length_map]; simp; omega)) (by unfold dsK; rw [List.map_append]; rfl)) fun σg Hg xg sh => ?_
          exact ⟨PL.eraseIdx t, fs, cs ++ [(Deed.mk false pr pc 46)], sh.drops [4, 8, 9], rg.ex xg, lsle.ex (xf.trans xg), lsfe.ex (xf.trans xg), pt_cut pta hp okd rfl, by rw [List.length_append]; simp; omega⟩
      · obtain ⟨PL, fs, cs, sa, ra, lsla, lsfa, pta, lfc⟩ := z
        obtain ⟨ys, ey, dy⟩ := lsfa
        have ly : ys.length ≤ 3 := by rw [dpAll_len dy, datas_len, List.length_map]; omega
        refine s_app (tx := tVar 0) (ev_var sa rfl) ey (ek_cat (a := fs.map dK) (b := cs.map dK) (ek_var sa rfl) (ek_var sa rfl) (by rw [List.length_map, List.length_map]; omega)) (by omega) fun v Hb xb dv => ?_
        have eyb := xb _ _ ey
        have tb : Tx Hb (upd Hb lf (.lst (ys ++ [v]))) := tx_lst eyb
        refine ⟨PL, B ++ [fs ++ cs], ((sa.ex xb).tx tb).drops [5, 6, 7], (ra.ex xb).mut ro frf tb, (lsla.ex xb).upd eyb llf, ⟨_, upd_same, ?_⟩, pt_push pta, by rw [List.length_append, lB]; rfl, fun ds hds => ?_⟩
        · rw [List.map_append, datas_app]
          refine dpAll_app (DpAll.tx tb _ _ (DpAll.ex xb _ _ dy)) (.cons ?_ .nil)
          have : dsK (fs ++ cs) = .tup (fs.map dK ++ cs.map dK) := by unfold dsK; rw [List.map_append]
          rw [this]
          exact Dp.tx tb _ _ dv
        · rcases List.mem_append.mp hds with z | z
          · exact B6 ds z
          · rw [List.mem_singleton] at z
            subst z
            rw [List.length_append]; omega
    · obtain ⟨PL, B, s6, r6, lsl6, lsf6, pt6, lB, B6⟩ := z
      obtain ⟨ys, ey, dy⟩ := lsf6
      refine s_ret (ek_tupV (ks := B.map dsK) (ev_var s6 rfl) ey dy) fun v H7 x7 dv => q v H7 B ⟨hb, pt_good pt6 hb.r hb.R1 hb.W1, by omega, by omega, fun i => ?_⟩ dv (r6.ex x7)
      unfold sz dsAt
      rw [List.getD_eq_getElem?_getD]
      cases h : B[i]? with
      | none => exact Nat.zero_le _
      | some ds => exact B6 ds (List.mem_of_getElem? h)
end Wx
end
section
set_option Elab.async false
set_option linter.all false
set_option maxRecDepth 100000
set_option maxHeartbeats 4000000
namespace Wx
open PySem PySem.Spec PyProof.Rows L2 Wv
open Evl (Ex ex_rd ex_l ex_t sq_of st_of fresh_back)
/-! ### alike: asked of two values of the same data -/
def rIxA (K : PySem.W.Frag) : R2 := fun x y H Q => rIxL K x y H Q ∨ rIxT K x y H Q
theorem ix_anyK {X : Cx} {K : PySem.W.Frag} (h : X.K = K) : IxR X (rIxA K) := h ▸ IxR.or ix_list ix_tup
def tyN : PyData → String
  | .none => "NoneType"
  | .bool _ => "bool"
  | .int _ => "int"
  | .str _ => "str"
  | .list _ => "list"
  | .tuple _ => "tuple"
  | .dict _ => "dict"
theorem ty_d {K : PySem.W.Frag} {H : Hp} {v : V} : ∀ {d : PyData}, Dp K H v d → TyX K H v (.type (tyN d))
  | .none, h => by cases h; exact .base .non
  | .bool _, h => by cases h; exact .base (.bl _)
  | .int _, h => by cases h; exact .base (.int _)
  | .str _, h => by cases h; exact .base (.str _)
  | .list _, h => ty_lst h
  | .tuple _, h => ty_tup h
  | .dict _, h => by cases h
section
variable {K : PySem.W.Frag} {C : Addr} {H H' H0 : Hp} {σ : St} {e as : List Sl} {ta tb te : TE} {v : V} {d : PyData}
theorem eb_isiD {n : String} {b : Bool} (ha : Ev1 ta σ H fun v _ => Dp K H0 v d) (hx : Ex H0 H) (e : kitB (tyN d) n = some b) : EvV (tCB (rIsi K) (tCons ta (tCons (tC (.ty n)) tNil))) σ H (.bl b) :=
  eb_isi ha (ClsV.ty _) (fun v H2 x p => ty_d (Dp.ex (hx.trans x) _ _ p)) (kit_ty e)
theorem eb_isiD2 {n m : String} {b : Bool} (ha : Ev1 ta σ H fun v _ => Dp K H0 v d) (hx : Ex H0 H) (e : PySem.W.kitAny K (.type (tyN d)) [.type n, .type m] = some b) : EvV (tCB (rIsiT K) (tCons ta (tCons (tTup (tCons (tC (.ty n)) (tCons (tC (.ty m)) tNil))) tNil))) σ H (.bl b) := fun H1 x1 Q q =>
  ha H1 x1 _ fun v H2 x2 p => ⟨by show 2 ≤ sizeLine; decide, fun r hr => ⟨v, r, [.ty n, .ty m], .type (tyN d), [.type n, .type m], b, rfl, upd_same, .cons (ClsV.ty _) (.cons (ClsV.ty _) .nil), ty_d (Dp.ex (((hx.trans x1).trans x2).trans (Ex.new hr)) _ _ p), e, q _ _ (x2.trans (Ex.new hr)) rfl⟩⟩
theorem eb_eqB {x y : Bool} (ha : EvV ta σ H (.bl x)) (hb : EvV tb σ H (.bl y)) : EvV (tOp rEq ta tb) σ H (.bl (x == y)) := by
  have := eb_eq ha hb rfl
  have e : decide (V.bl x = V.bl y) = (x == y) := by cases x <;> cases y <;> decide
  rw [e] at this
  exact this
theorem eqv_self : ∀ d : PyData, (match d with | .list _ => False | .tuple _ => False | .dict _ => False | _ => True) → PyData.eqv d d = true
  | .none, _ => rfl
  | .bool b, _ => by cases b <;> rfl
  | .int i, _ => by unfold PyData.eqv; simp
  | .str x, _ => by unfold PyData.eqv; simp
/-- x[i] of a list or tuple -/
theorem e1_ixA {ds : List PyData} {n : Nat} {dd : PyData} (hd : d = .list ds ∨ d = .tuple ds) (ha : Ev1 ta σ H fun v _ => Dp K H0 v d) (hx : Ex H0 H) (hb : EvK K tb σ H (.num (n : Int))) (hn : ds[n]? = some dd) : Ev1 (tOp (rIxA K) ta tb) σ H fun v _ => Dp K H0 v dd :=
  e1_op ha hb fun x y H1 H2 x1 x2 p p2 Q q => by
    have xx := (hx.trans x1).trans x2
    rcases hd with rfl | rfl
    · cases p with
      | @lst a xs _ hs hd =>
        obtain ⟨v, hv, hk⟩ := dpAll_get hd hn
        exact .inl ⟨a, xs, (n : Int), v, rfl, dp_int p2, ex_l xx hs, atI_nat hv, q v H2 (Ex.refl _) hk⟩
    · cases p with
      | tup hs hd =>
        obtain ⟨v, hv, hk⟩ := dpAll_get hd hn
        exact .inr ⟨_, _, (n : Int), v, rfl, dp_int p2, ex_t xx hs, atI_nat hv, q v H2 (Ex.refl _) hk⟩
theorem ek_lenA {ds : List PyData} (hd : d = .list ds ∨ d = .tuple ds) (ha : Ev1 ta σ H fun v _ => Dp K H0 v d) (hx : Ex H0 H) : EvV (tCB (fun xs H Q => ∃ p ys, xs = [.ref p] ∧ (SqL K H p ys ∨ SqT K H p ys) ∧ Q (.int ys.length) H) (tCons ta tNil)) σ H (.int (ds.length : Int)) := fun H1 x1 Q q =>
  ha H1 x1 _ fun v H2 x2 p => by
    have xx := (hx.trans x1).trans x2
    rcases hd with rfl | rfl
    · cases p with
      | lst hs hd => exact ⟨_, _, rfl, .inl (ex_l xx hs), q _ H2 x2 (by rw [dpAll_len hd])⟩
    · cases p with
      | tup hs hd => exact ⟨_, _, rfl, .inr (ex_t xx hs), q _ H2 x2 (by rw [dpAll_len hd])⟩
theorem Ans.old2 {d : PyData} {P : V → Hp → Prop} {vs : List V} {Q : VK} (x : Ex H0 H) (a : Ans K C [.old H0 d, .old H0 d] P vs H Q) : Ans K C [.old H d, .old H d] P vs H Q := by
  obtain ⟨p, q⟩ := a
  cases p with
  | cons h t =>
    cases t with
    | cons h2 t =>
      cases t
      exact ⟨.cons (Dp.ex x _ _ h) (.cons (Dp.ex x _ _ h2) .nil), q⟩
theorem s_skip {c : Bool} {D : Ends} {tu : TS} {t : TT} (h : EvT t σ H false) (h2 : ∀ H1, Ex H H1 → D.nx σ H1) : tIfS t tu tNext D σ H := s_if h (fun z => nomatch z) fun _ => h2
end
theorem depth_at {ds : List PyData} : ∀ {i : Nat} {dd : PyData}, ds[i]? = some dd → dd.depth ≤ PyData.depthAll ds ∧ (PyData.canLayAll0 ds = true → dd.canLay0 = true) := by
  induction ds with
  | nil => intro i dd h; simp at h
  | cons a r ih =>
    intro i dd h
    cases i with
    | zero =>
      cases (Option.some.inj h : a = dd)
      refine ⟨by unfold PyData.depthAll; exact Nat.le_max_left _ _, fun z => ?_⟩
      unfold PyData.canLayAll0 at z
      rw [Bool.and_eq_true] at z; exact z.1
    | succ i =>
      obtain ⟨h1, h2⟩ := ih (i := i) (dd := dd) (by simpa using h)
      refine ⟨Nat.le_trans h1 (by rw [PyData.depthAll]; exact Nat.le_max_right _ _), fun z => ?_⟩
      unfold PyData.canLayAll0 at z
      rw [Bool.and_eq_true] at z; exact h2 z.2
/-- all lists and tuples within are short -/
inductive DLen : PyData → Prop where
  | leaf {d : PyData} (h : ∀ ds, ¬ (d = .list ds ∨ d = .tuple ds)) : DLen d
  | node {d : PyData} {ds : List PyData} (h : d = .list ds ∨ d = .tuple ds) (l : ds.length ≤ 1000) (a : ∀ dd ∈ ds, DLen dd) : DLen d
theorem seq_one {d : PyData} {ds es : List PyData} (h : d = .list ds ∨ d = .tuple ds) (h2 : d = .list es ∨ d = .tuple es) : ds = es := by
  rcases h with rfl | rfl <;> rcases h2 with h | h <;> cases h <;> rfl
theorem DLen.len {d : PyData} {ds : List PyData} (h : DLen d) (e : d = .list ds ∨ d = .tuple ds) : ds.length ≤ 1000 := by
  cases h with
  | leaf h => exact absurd e (h ds)
  | node h l a => rw [seq_one e h]; exact l
theorem DLen.at {d : PyData} {ds : List PyData} {i : Nat} {dd : PyData} (h : DLen d) (e : d = .list ds ∨ d = .tuple ds) (hi : ds[i]? = some dd) : DLen dd := by
  cases h with
  | leaf h => exact absurd e (h ds)
  | node h l a => rw [seq_one e h] at hi; exact a dd (List.mem_of_getElem? hi)
def spAlike (n : Nat) (K : PySem.W.Frag) (C : Addr) : Sp := fun vs H Q _ => ∃ d : PyData, d.canLay0 = true ∧ d.depth < n ∧ n ≤ 60 ∧ DLen d ∧ Ans K C [.old H d, .old H d] (fun v _ => v = .bl true) vs H Q
theorem ok_l_alike {P : Program} {w : World} {K : PySem.W.Frag} {mg : Str → Option Value} {base : Heap} {CB CF AF : Addr} (kn : Kn K mg "_law_alike" s__law_alike) (T : TX K mg CB CF AF) {n : Nat} (c_l_alike : Cal P w K mg base (n+1) "_law_alike" ["_law_found", "_law_due"] (spAlike n K CB)) : Cal P w K mg base (n+2) "_law_alike" ["_law_found", "_law_due"] (spAlike (n+1) K CB) := by
  have nd := sc__law_alike.nd
  refine Cal.mk kn sc__law_alike (fun _ _ _ _ _ _ us hl => match us, hl with | [_, _], _ => rfl) (fun vs H Q E h => ?_) (fun f cdv A outer s H vs Q E hr h => ⟨_, (pss_cons (ps_if (pt_val (pe_callB call_isiT (by rfl) T.z_isinstance (by decide +kernel) (pa_cons (pv 1) (pa_cons (pe_tup (pa_cons (pe_bltn (v := .ty "tuple") (by rfl) T.z_tuple (by decide +kernel) rfl) (pa_cons (pe_bltn (v := .ty "list") (by rfl) T.z_list (by decide +kernel) rfl) pa_nil))) pa_nil)))) (pss_cons (ps_if (PW.pt (pw_or (pt_not (pt_val (pe_callB call_isiT (by rfl) T.z_isinstance (by decide +kernel) (pa_cons (pv 0) (pa_cons (pe_tup (pa_cons (pe_bltn (v := .ty "tuple") (by rfl) T.z_tuple (by decide +kernel) rfl) (pa_cons (pe_bltn (v := .ty "list") (by rfl) T.z_list (by decide +kernel) rfl) pa_nil))) pa_nil))))) (pw_or1 (pt_cmpR op_ne (pe_callB call_isi (by rfl) T.z_isinstance (by decide +kernel) (pa_cons (pv 0) (pa_cons (pe_bltn (v := .ty "list") (by rfl) T.z_list (by decide +kernel) rfl) pa_nil))) (pe_callB call_isi (by rfl) T.z_isinstance (by decide +kernel) (pa_cons (pv 1) (pa_cons (pe_bltn (v := .ty "list") (by rfl) T.z_list (by decide +kernel) rfl) pa_nil))) (nomark _))))) (pss_one (ps_ret pe_bl)) pss_nil)
  (pss_cons (ps_if (pt_cmpR op_ne (pe_callB call_len_seq (by rfl) T.z_len PySem.boot_len (pa_cons (pv 0) pa_nil)) (pe_callB call_len_seq (by rfl) T.z_len PySem.boot_len (pa_cons (pv 1) pa_nil)) (nomark _)) (pss_one (ps_ret pe_bl)) pss_nil)
  (pss_one (ps_ret (pe_cmpR (op_eqD hr.units) (pe_lc (own := [("_law_k", 2)]) (by rfl) nd (pi_range1 (by rfl) T.z_range (pa_cons (pe_callB call_len_seq (by rfl) T.z_len PySem.boot_len (pa_cons (pv 1) pa_nil)) pa_nil)) (blkOk_by (own := [("_law_k", 2)]) (N := ["_law_found", "_law_due", "_law_k"]) (sc := defScope s__law_alike) (by decide +kernel)) (fun _ _ _ _ _ => (pg_name (i := 2) nd rfl (by first | exact Or.inl rfl | exact Or.inr rfl))) (fun _ _ _ _ _ => pts_one (pt_not (pt_val (c_l_alike.pe (hr.mono (by omega)) (by rfl) (pa_cons (pe_ix (ix_anyK (K := K) rfl) (pv 0) (pv 2) (fun _ _ => rfl)) (pa_cons (pe_ix (ix_anyK (K := K) rfl) (pv 1) (pv 2) (fun _ _ => rfl)) pa_nil)))))) (fun _ _ _ _ _ => (pv 2))) (pe_lst pa_nil) (nomark _)))))) pss_nil)
  (pss_cons (ps_if (PW.pt (pw_or (pt_cmpR op_isN (pv 1) pe_non (nomark _)) (pw_or1 (pt_val (pe_callB call_isi (by rfl) T.z_isinstance (by decide +kernel) (pa_cons (pv 1) (pa_cons (pe_bltn (v := .ty "str") (by rfl) T.z_str (by decide +kernel) rfl) pa_nil))))))) (pss_one (ps_ret (pe_and (pe_cmpR (op_eqD hr.units) (pv 0) (pv 1) (nomark _)) (pe_one (pe_cmpR op_eq (pe_callB call_isi (by rfl) T.z_isinstance (by decide +kernel) (pa_cons (pv 0) (pa_cons (pe_bltn (v := .ty "str") (by rfl) T.z_str (by decide +kernel) rfl) pa_nil))) (pe_callB call_isi (by rfl) T.z_isinstance (by decide +kernel) (pa_cons (pv 1) (pa_cons (pe_bltn (v := .ty "str") (by rfl) T.z_str (by decide +kernel) rfl) pa_nil))) (nomark _)))))) pss_nil)
  (pss_one (ps_ret (pe_and (pe_callB call_isi (by rfl) T.z_isinstance (by decide +kernel) (pa_cons (pv 0) (pa_cons (pe_bltn (v := .ty "int") (by rfl) T.z_int (by decide +kernel) rfl) pa_nil))) (pe_and (pe_cmpR op_eq (pe_callB call_isi (by rfl) T.z_isinstance (by decide +kernel) (pa_cons (pv 0) (pa_cons (pe_bltn (v := .ty "bool") (by rfl) T.z_bool (by decide +kernel) rfl) pa_nil))) (pe_callB call_isi (by rfl) T.z_isinstance (by decide +kernel) (pa_cons (pv 1) (pa_cons (pe_bltn (v := .ty "bool") (by rfl) T.z_bool (by decide +kernel) rfl) pa_nil))) (nomark _)) (pe_one (pe_cmpR (op_eqD hr.units) (pv 0) (pv 1) (nomark _))))))))), ?_⟩)
  · obtain ⟨d, lay, dep, n60, dl, a⟩ := h
    exact (Paired.length a.1 :)
  obtain ⟨d, lay, dep, n60, dl, a⟩ := h
  obtain ⟨hp, q⟩ := a
  have sd := sd_start (N := ["_law_found", "_law_due", "_law_k"]) hp
  try dsimp only [cxOf, Cx.nox]
  have fnd : ∀ {H1}, Ex H H1 → ∀ {σ1 e1}, SD K CB H1 σ1 e1 → e1[0]? = some (.old H d) → Ev1 (tVar 0) σ1 H1 fun v _ => Dp K H v d := by intro _ _ _ _ s h; exact eo_var s h
  have due : ∀ {H1}, Ex H H1 → ∀ {σ1 e1}, SD K CB H1 σ1 e1 → e1[1]? = some (.old H d) → Ev1 (tVar 1) σ1 H1 fun v _ => Dp K H v d := by intro _ _ _ _ s h; exact eo_var s h
  have shd : SeqAt.shaped d = true := by
    show (d.canLay0 && decide (d.depth ≤ 64)) = true
    rw [lay, Bool.true_and]
    exact decide_eq_true (by omega)
  have seq : ∀ ds, (d = .list ds ∨ d = .tuple ds) → (tyN d = "list" ∨ tyN d = "tuple") := fun ds h => by
    rcases h with rfl | rfl
    · exact .inl rfl
    · exact .inr rfl
  by_cases hs : ∃ ds, d = .list ds ∨ d = .tuple ds
  · obtain ⟨ds, hd⟩ := hs
    have any : PySem.W.kitAny K (.type (tyN d)) [.type "tuple", .type "list"] = some true := by
      rcases hd with rfl | rfl
      · exact kitAny_cons (b := false) (kit_ty (by show kitB "list" "tuple" = some false; decide +kernel)) (fun _ => kitAny_cons (b := true) (kit_ty (by show kitB "list" "list" = some true; decide +kernel)) (fun z => nomatch z) fun _ => rfl) fun z => nomatch z
      · exact kitAny_cons (b := true) (kit_ty (by show kitB "tuple" "tuple" = some true; decide +kernel)) (fun z => nomatch z) fun _ => rfl
    have isl : ∃ bl, kitB (tyN d) "list" = some bl := by
      rcases hd with rfl | rfl
      · exact ⟨true, (by show kitB "list" "list" = some true; decide +kernel)⟩
      · exact ⟨false, (by show kitB "tuple" "list" = some false; decide +kernel)⟩
    obtain ⟨bl, isl⟩ := isl
    have len : ds.length ≤ 1000 := DLen.len dl hd
    have dp : PyData.depthAll ds < n := by
      rcases hd with rfl | rfl
      · have : PyData.depthAll ds + 1 < n + 1 := dep
        omega
      · have : PyData.depthAll ds + 1 < n + 1 := dep
        omega
    have ly : PyData.canLayAll0 ds = true := by
      rcases hd with rfl | rfl
      · exact lay
      · exact lay
    refine q_if (c := true) (et_B (eb_isiD2 (due (Ex.refl _) sd rfl) (Ex.refl _) any)) (fun _ H1 x1 => ?_) fun z => nomatch z
    have sd1 := sd.ex x1
    refine q_skip (Evl.et_or (a := false) (b := false) (Evl.et_not (a := true) (et_B (eb_isiD2 (fnd x1 sd1 rfl) x1 any))) fun _ => Evl.et_is (et_test (eb_neB (eb_isiD (fnd x1 sd1 rfl) x1 isl) (eb_isiD (due x1 sd1 rfl) x1 isl))) (by cases bl <;> rfl)) fun H2 x2 => ?_
    have sd2 := sd1.ex x2
    have x12 := x1.trans x2
    refine q_skip (Evl.et_is (et_test (eb_ne (ek_lenA hd (fnd x12 sd2 rfl) x12) (ek_lenA hd (due x12 sd2 rfl) x12) rfl)) (by simp)) fun H3 x3 => ?_
    have sd3 := sd2.ex x3
    have x13 := x12.trans x3
    refine s_ret (EvV.is (eb_eqD (d := .list []) (d' := .list []) ((en_lcR (n := ds.length) (fun _ => false) (fun _ _ _ => True) sd3 (EvV.k_int (ek_lenA hd (due x13 sd3 rfl) x13)) (by omega) (by simp) (fun _ _ _ _ _ z => z) fun i σ2 H4 hi x4 sd4 => ⟨Evl.et_not (a := true) (et_B ?_), fun z => nomatch z⟩).e1.mono fun v H4 x4 z => ?_) e1_nil (shp_nil.ok (by omega)) (shp_nil.ok (by omega))) rfl) fun v H4 x4 e => q v H4 (x13.trans x4) e
    · have x14 := x13.trans x4
      have hdd : ds[i]? = some ds[i] := List.getElem?_eq_getElem hi
      obtain ⟨e1, e2⟩ := depth_at hdd
      refine e1_ansX (P := fun v _ => v = .bl true) (ea_two (s1 := .old H ds[i]) (s2 := .old H ds[i]) (e1_ixA hd (fnd x14 sd4 rfl) x14 (ek_var sd4 rfl) hdd) (e1_ixA hd (due x14 sd4 rfl) x14 (ek_var sd4 rfl) hdd)) fun vs H5 Q x5 a => ⟨ds[i], e2 ly, by omega, by omega, DLen.at dl hd hdd, a.old2 (x14.trans x5)⟩
    · obtain ⟨p, xs, rfl, e1, pr⟩ := z
      rw [show (List.range ds.length).filter (fun _ => false) = [] from List.filter_eq_nil_iff.mpr fun _ _ z => nomatch z] at pr
      cases pr
      exact .lst (SqL.of e1) .nil
  · have any : PySem.W.kitAny K (.type (tyN d)) [.type "tuple", .type "list"] = some false := by
      have two : ∀ {t : String}, kitB t "tuple" = some false → kitB t "list" = some false → PySem.W.kitAny K (.type t) [.type "tuple", .type "list"] = some false := fun h1 h2 =>
        kitAny_cons (b := false) (kit_ty h1) (fun _ => kitAny_cons (b := false) (kit_ty h2) (fun _ => rfl) fun z => nomatch z) fun z => nomatch z
      cases d with
      | none => exact two (by show kitB "NoneType" "tuple" = some false; decide +kernel) (by show kitB "NoneType" "list" = some false; decide +kernel)
      | bool b => exact two (by show kitB "bool" "tuple" = some false; decide +kernel) (by show kitB "bool" "list" = some false; decide +kernel)
      | int i => exact two (by show kitB "int" "tuple" = some false; decide +kernel) (by show kitB "int" "list" = some false; decide +kernel)
      | str x => exact two (by show kitB "str" "tuple" = some false; decide +kernel) (by show kitB "str" "list" = some false; decide +kernel)
      | list ds => exact absurd ⟨ds, .inl rfl⟩ hs
      | tuple ds => exact absurd ⟨ds, .inr rfl⟩ hs
      | dict _ => cases lay
    have self : PyData.eqv d d = true := eqv_self d (by
      cases d with
      | list ds => exact absurd ⟨ds, .inl rfl⟩ hs
      | tuple ds => exact absurd ⟨ds, .inr rfl⟩ hs
      | dict _ => cases lay
      | _ => trivial)
    refine q_skip (et_B (eb_isiD2 (due (Ex.refl _) sd rfl) (Ex.refl _) any)) fun H1 x1 => ?_
    have sd1 := sd.ex x1
    by_cases hn : d = .none ∨ ∃ x, d = .str x
    · have isn : ∃ bn, ∀ v, Dp K H v d → decide (v = .non) = bn := by
        rcases hn with rfl | ⟨x, rfl⟩
        · exact ⟨true, fun v h => by cases h; rfl⟩
        · exact ⟨false, fun v h => by cases h; rfl⟩
      obtain ⟨bn, isn⟩ := isn
      have iss : ∃ bs, kitB (tyN d) "str" = some bs ∧ (bn || bs) = true := by
        rcases hn with rfl | ⟨x, rfl⟩
        · refine ⟨false, (by show kitB "NoneType" "str" = some false; decide +kernel), ?_⟩
          rw [← isn .non .non]; rfl
        · refine ⟨true, (by show kitB "str" "str" = some true; decide +kernel), by rw [Bool.or_true]⟩
      obtain ⟨bs, iss, ebs⟩ := iss
      refine q_if (c := true) (Evl.et_is (Evl.et_or (a := bn) (b := bs) (et_test (e1_isN bn (due x1 sd1 rfl) fun v H2 p => isn v p)) fun _ => et_B (eb_isiD (due x1 sd1 rfl) x1 iss)) ebs) (fun _ H2 x2 => ?_) fun z => nomatch z
      have sd2 := sd1.ex x2
      have x12 := x1.trans x2
      exact s_ret (EvV.is (eb_and (a := true) (bl_is (eb_eqD (d := d) (d' := d) ((fnd x12 sd2 rfl).mono fun v H3 x3 p => Dp.ex (x12.trans x3) _ _ p) ((due x12 sd2 rfl).mono fun v H3 x3 p => Dp.ex (x12.trans x3) _ _ p) shd shd) self) fun _ => eb_eqB (eb_isiD (fnd x12 sd2 rfl) x12 iss) (eb_isiD (due x12 sd2 rfl) x12 iss)) (by cases bs <;> rfl)) fun v H3 x3 e => q v H3 (x12.trans x3) e
    · have hi : (∃ b, d = .bool b) ∨ ∃ i, d = .int i := by
        cases d with
        | none => exact absurd (.inl rfl) hn
        | bool b => exact .inl ⟨b, rfl⟩
        | int i => exact .inr ⟨i, rfl⟩
        | str x => exact absurd (.inr ⟨x, rfl⟩) hn
        | list ds => exact absurd ⟨ds, .inl rfl⟩ hs
        | tuple ds => exact absurd ⟨ds, .inr rfl⟩ hs
        | dict _ => cases lay
      have isn : ∀ v, Dp K H v d → decide (v = .non) = false := fun v h => by
        rcases hi with ⟨b, rfl⟩ | ⟨i, rfl⟩ <;> cases h <;> rfl
      have iss : kitB (tyN d) "str" = some false := by
        rcases hi with ⟨b, rfl⟩ | ⟨i, rfl⟩
        · exact (by show kitB "bool" "str" = some false; decide +kernel)
        · exact (by show kitB "int" "str" = some false; decide +kernel)
      have isi : kitB (tyN d) "int" = some true := by
        rcases hi with ⟨b, rfl⟩ | ⟨i, rfl⟩
        · exact (by show kitB "bool" "int" = some true; decide +kernel)
        · exact (by show kitB "int" "int" = some true; decide +kernel)
      have isb : ∃ bb, kitB (tyN d) "bool" = some bb := by
        rcases hi with ⟨b, rfl⟩ | ⟨i, rfl⟩
        · exact ⟨true, (by show kitB "bool" "bool" = some true; decide +kernel)⟩
        · exact ⟨false, (by show kitB "int" "bool" = some false; decide +kernel)⟩
      obtain ⟨bb, isb⟩ := isb
      refine q_skip (Evl.et_or (a := false) (b := false) (et_test (e1_isN false (due x1 sd1 rfl) fun v H2 p => isn v p)) fun _ => et_B (eb_isiD (due x1 sd1 rfl) x1 iss)) fun H2 x2 => ?_
      have sd2 := sd1.ex x2
      have x12 := x1.trans x2
      exact s_ret (EvV.is (eb_and (a := true) (eb_isiD (fnd x12 sd2 rfl) x12 isi) fun _ => eb_and (eb_eqB (eb_isiD (fnd x12 sd2 rfl) x12 isb) (eb_isiD (due x12 sd2 rfl) x12 isb)) fun _ => eb_eqD (d := d) (d' := d) ((fnd x12 sd2 rfl).mono fun v H3 x3 p => Dp.ex (x12.trans x3) _ _ p) ((due x12 sd2 rfl).mono fun v H3 x3 p => Dp.ex (x12.trans x3) _ _ p) shd shd) (by rw [self]; cases bb <;> rfl)) fun v H3 x3 e => q v H3 (x12.trans x3) e
end Wx
end
section
set_option Elab.async false
set_option linter.all false
set_option maxRecDepth 100000
set_option maxHeartbeats 4000000
/-! Where a token is out: a comprehension over texts that are replaced. -/
namespace Wx
open PySem PySem.Spec PyProof.Rows L2 Wv
section
variable {P : Program} {w : World} {A : Around} {α : Type} {t : Sem α} {Q Q' : α → Shared → Prop} {E : Value → Shared → Prop} {s : Shared}
/-- then, and no fewer tokens are out -/
theorem thnK (h : wpAny (model P w) A t Q E s) (hQ : ∀ a s', s.toks ≤ s'.toks → Q a s' → Q' a s') : wpAny (model P w) A t Q' E s :=
  wpAny_mono (PySem.wpAny_toks h) (fun a s' q => hQ a s' q.1 q.2) fun _ _ q => q.2
theorem thnN (h : wpAny (model P w) A t Q (fun _ _ => False) s) (hQ : ∀ a s', s.toks ≤ s'.toks → Q a s' → Q' a s') : wpAny (model P w) A t Q' E s :=
  wpAny_mono (PySem.wpAny_toks h) (fun a s' q => hQ a s' q.1 q.2) fun _ _ q => q.2.elim
end
section
variable {X : Cx}
/-- a comprehension with no test, where a token is out: in its plan HandS.Comp's lc_core, the tokens counted along -/
theorem lc_tok {elt tg iter : Expr} {scope : Scope} {own : List (Str × Nat)} {pos : Pos} {wi : TI} {g : TG} {te : TE} (cm : X.calm = true) (nd : X.N.Nodup) (wk : PI X tg iter wi) (bo : BlkOk X.N X.env.scope scope own)
    (tgt : ∀ (s : Shared) (H : Hp) (C : Addr) (cl : List (Str × Addr)) (fp : List Addr), PG (X.blk s H scope (compEnvC scope cl C X.env) fp) tg g)
    (elm : ∀ (s : Shared) (H : Hp) (C : Addr) (cl : List (Str × Addr)) (fp : List Addr), PET (X.blk s H scope (compEnvC scope cl C X.env) fp) elt te) (fsi : ∀ x, foldedSetIterable iter X.env x = pure x := by intro _; rfl) :
    PET X (.ListComp elt [⟨tg, iter, [], 0⟩] scope pos) (tLc wi g tYes te (own.map (·.2))) := by
  intro pins s σ H Q tk J rd
  rw [eval_ListComp]
  have cap : ∀ y ∈ scope.names, y.2 = .free → ∃ c, X.env.cells.lookup y.1 = some c := fun y hy e => (bo.free y hy e).elim (fun k => J.ok.has _ (.inl k)) fun k => J.ok.has _ (.inr k)
  refine wpAny_comprehension_free (use := none) rfl fsi (closure_ok cap) bo.kind (fun y hy e => by rw [bo.uniq y hy, e]) (thnK (wk.run pins s σ H _ J rd) fun xv s1 t1 hx => thnK hx fun itv s2 t2 h2 => ?_)
  obtain ⟨it, fp, tn, Jt, H2, e, J2, T, st2, f2, q⟩ := h2
  subst e
  refine wpAny_newObj_type (newEnv_comp ?_) (Nat.zero_le _)
  generalize hD : s2.heap.objs.size = Dl
  have Dn : H2 Dl = none := J2.hok.fresh (Nat.le_of_eq hD)
  obtain ⟨Wm, ⟨m0, w0⟩, turn⟩ := q Dl Dn
  generalize es3 : ({ s2 with heap := s2.heap.push { cls := .type "list", data := .seq ([] : List Value).toArray } } : Shared) = s3
  have h3 : s3.heap = s2.heap.push { cls := .type "list", data := .seq ([] : List Value).toArray } := by rw [← es3]
  have tk3 : 1 ≤ s3.toks := by rw [← es3]; exact Nat.le_trans tk (Nat.le_trans t1 t2)
  have J3 : Inv X pins σ (upd H2 Dl (.lst [])) s3 := by
    rw [← es3]
    exact J2.laid (t' := s2.toks) (fun b o e => Heap.get?_push_of_some _ e) (Nat.le_of_eq hD) ⟨Nat.zero_le _, [], 0, .nil, by rw [← hD]; exact Heap.get?_push_size _ rfl⟩
  have low : ∀ b ∈ fp, b < s2.heap.objs.size := fun b hb => (T.obj _ _ st2 b hb).elim fun o z => Heap.lt_size z.1
  have f3 : ∀ b ∈ fp, FpOk X pins (upd H2 Dl (.lst [])) b ∧ b < s3.heap.objs.size := fun b hb =>
    ⟨⟨by rw [upd_ne (by rw [← hD]; exact Nat.ne_of_lt (low b hb))]; exact (f2 b hb).1, (f2 b hb).2⟩, by rw [h3, Heap.size_push]; exact Nat.lt_succ_of_lt (low b hb)⟩
  have J4 := block_start J3 bo nd f3
  have pg := tgt s3 (upd H2 Dl (.lst [])) s3.heap.objs.size (cellsFrom (s3.heap.objs.size + 1) scope.names (cloFrom X.env.cells scope.names [])) fp
  have pe := elm s3 (upd H2 Dl (.lst [])) s3.heap.objs.size (cellsFrom (s3.heap.objs.size + 1) scope.names (cloFrom X.env.cells scope.names [])) fp
  show codeAny _ _ (.compStart (.ListComp elt [⟨tg, iter, [], 0⟩] scope pos) 0 (.ref it) (.ref Dl) (compEnvC scope (cellsFrom (s3.heap.objs.size + 1) scope.names (cloFrom X.env.cells scope.names [])) s3.heap.objs.size X.env)) (compPost (model X.prog X.w) X.A X.xe none (EP X pins σ Q) (.ref Dl) s3.heap.objs.size) { s3 with heap := pushCells (s3.heap.push { cls := .type "dict", data := .dict #[] }) scope.names }
  have nfp : ∀ b ∈ fp, (upd H2 Dl (.lst [])) b = none := fun b hb => (f3 b hb).1.1
  generalize ece : compEnvC scope (cellsFrom (s3.heap.objs.size + 1) scope.names (cloFrom X.env.cells scope.names [])) s3.heap.objs.size X.env = ce at J4 pg pe ⊢
  have lo : ce.locals = s3.heap.objs.size := by rw [← ece]; rfl
  generalize eH3 : upd H2 Dl (.lst []) = H3 at J3 J4 pg pe w0 nfp f3
  generalize es4 : ({ s3 with heap := pushCells (s3.heap.push { cls := .type "dict", data := .dict #[] }) scope.names } : Shared) = s4 at J4 ⊢
  have tk4 : 1 ≤ s4.toks := by rw [← es4]; exact tk3
  have st4 : tn 0 s4.heap := T.keep _ _ _ st2 fun b _ o e => by
    rw [← es4]
    exact pushCells_keeps _ _ _ _ (Heap.get?_push_of_some _ (h3 ▸ Heap.get?_push_of_some _ e))
  have stays : ∀ {σ' : St} {H' : Hp} {s' : Shared}, Inv (X.blk s3 H3 scope ce fp) [] σ' H' s' → (∀ b ∈ fp, H' b = none) → ∀ b ∈ fp, FpOk (X.blk s3 H3 scope ce fp) [] H' b := fun {σ' H' s'} I' hn b hb =>
    ⟨hn b hb, (I'.ok.exf b hb).1, I'.ok.exfs b hb, .inl hb, fun x c e => (I'.ok.exf b hb).2 x c e, fun p hp => by cases (show p ∈ ([] : List (Addr × Obj)) ++ [] from hp)⟩
  have body : codeAny (model X.prog X.w) X.A (.compLoop (.ListComp elt [⟨tg, iter, [], 0⟩] scope pos) 0 (.ref it) (.ref Dl) ce) (compPost (model X.prog X.w) X.A X.xe none (EP X pins σ Q) (.ref Dl) s3.heap.objs.size) s4 := by
    refine compLoop_any (fun n s' => 1 ≤ s'.toks ∧ ∃ i H', Inv (X.blk s3 H3 scope ce fp) [] (wipe σ (own.map (·.2))) H' s' ∧ tn i s'.heap ∧ (∀ b ∈ fp, H' b = none) ∧ Wm i n H') ?_ m0 ⟨tk4, 0, H3, J4, st4, nfp, w0⟩
    rintro n s5 ⟨tk5, i, H5, J5, st5, n5, w5⟩
    obtain ⟨stop, qq⟩ | ⟨go, Nx, hNx, step⟩ := turn i n H5 w5
    · refine thnF (T.done (X.blk s3 H3 scope ce fp) rfl rfl rfl cm i [] s5 _ H5 (fun _ _ => False) J5 (stays J5 n5) st5 stop) fun r s6 ⟨er, J6⟩ => ?_
      subst er
      have J7 : Inv X pins σ H5 s6 := J3.call' (ch := fp) J6.os J6.base J6.hok J6.bare fun b hb => (f3 b hb).1.2 |> fun z => ⟨z.2.2.1, z.1, z.2.2.2.1, z.2.2.2.2⟩
      have nC : H5 s3.heap.objs.size = none := lo ▸ (show H5 ce.locals = none from J6.free)
      obtain ⟨m, hm, _⟩ := J6.loc
      have hm : s6.heap.Ns ce.locals m := hm
      rw [lo] at hm
      refine ⟨m, hm, fun h'' sb => ?_⟩
      obtain ⟨g0, g1, g2, g3, g4, g5⟩ := J3.fpOk (Nat.le_refl _) nC
      exact ⟨.ref Dl, H5, J7.turned (t' := s6.toks) (fun b o hb e => (sb.2 b hb).trans e) g0 g1 g3 g4 g5, rfl, qq⟩
    · refine thnN (T.item (X.blk s3 H3 scope ce fp) rfl rfl rfl cm i [] s5 _ H5 (fun _ _ => False) J5 (stays J5 n5) st5 go) fun r s6 t6 ⟨u, er, h6⟩ => ?_
      subst er
      refine thnN h6 fun _ s7 t7 ⟨x, H7, J7, r7, y7, st7, n7⟩ => ?_
      refine thnN (pg.run _ s7 _ H7 x u _ (J7.pinned (stays J7 n7) (T.obj _ _ st7)) r7 (step x H7 y7)) fun _ s8 t8 ⟨σ8, H8, J8, hw8, q8⟩ => ?_
      refine wpAny_tests_nil ?_
      have fin : ∀ {s' : Shared} {H' : Hp}, Inv (X.blk s3 H3 scope ce fp) ([] ++ pinsAt fp s7.heap) σ8 H' s' → Nx H' → ∃ m, m < n ∧ ∃ i H', Inv (X.blk s3 H3 scope ce fp) [] (wipe σ (own.map (·.2))) H' s' ∧ tn i s'.heap ∧ (∀ b ∈ fp, H' b = none) ∧ Wm i m H' := fun {s' H'} I' nx => by
        obtain ⟨m', lt, w'⟩ := hNx H' nx
        have held : ∀ b ∈ fp, ∀ o, s7.heap.get? b = some o → s'.heap.get? b = some o ∧ H' b = none := fun b hb o e =>
          (I'.pin (b, o) (List.mem_append_right _ (List.mem_append_right _ (mem_pinsAt hb e)))) |> fun z => ⟨z.1, z.2.1⟩
        exact ⟨m', lt, i + 1, H', (I'.unpinned (pins := [])).weak (by rw [← wipe_length σ8 (own.map (·.2)), hw8]) (fun j v e => (wipe_some (σ := σ8) (vs := own.map (·.2)) (by rw [hw8]; exact e)).1), T.keep _ _ _ st7 fun b hb o e => (held b hb o e).1, fun b hb => (T.obj _ _ st7 b hb).elim fun o z => (held b hb o z.1).2, w'⟩
      have q8' := q8
      simp only [tYes, if_true] at q8' ⊢
      have tk8 : 1 ≤ s8.toks := by omega
      refine thnN (pe _ s8 σ8 H8 _ tk8 J8 q8') fun z s10 t10 ⟨yv, H10, J10, r10, acc, eD, zl, nx⟩ => ?_
      refine thnN (app_ok (X := X.blk s3 H3 scope ce fp) (Q := fun _ s' => Inv (X.blk s3 H3 scope ce fp) ([] ++ pinsAt fp s7.heap) σ8 (upd H10 Dl (.lst (acc ++ [yv]))) s') J10 eD zl r10 fun s11 J11 => J11) fun _ s11 t11 J11 => ?_
      obtain ⟨m', lt, rest⟩ := fin J11 nx
      exact ⟨m', lt, by omega, rest⟩
  exact codeAny_compStart_list body (T.self X.A 0 _ _ _ st4 body)
/-- T(e), a token out -/
theorem pet_callT {T : String} {r : List V → Hp → VK → Prop} {x : Str} {e : Expr} {p pos : Pos} {te : TE} (hc : CallR X (.type T) r) (hg : Gl X x) (hm : X.mg x = none) (hv : bootBuiltins x = some (.type T)) (ha : PET X e te) (hn : x ≠ "__name__" := by decide) (hdb : (x == ("__debug__" : Str)) = false := by decide)
    (he : starEach [e] X.env = (false, eval e X.env) :: starEach [] X.env := by rfl) (hpl : (backTo pos (starEach [] X.env)).any (·.1) = false := by rfl) : PET X (.Call (.Name x p) [e] [] pos) (tCB r (tCons te tNil)) := fun pins s σ H Q tk J rd =>
  wpAny_Call_Name_kw (ld_blt J hg hm hv (PyProof.Rows.callWith_type1 (thn (pat_cons ha pat_nil he pos pins s σ H _ tk J rd) fun us s1 ⟨vs, H1, J1, r1, q1⟩ => hc pins s1 σ H1 vs us Q J1 r1 q1) he hpl) hn hdb)
theorem pst_setT {i : Nat} {x : Str} {e : Expr} {te : TE} {pos pos' : Pos} (nd : X.N.Nodup) (hi : X.N[i]? = some x) (hx : Loc X.env.scope x) (he : PET X e te) (hs : swapsWith e (some (.Name x pos')) pos.line X.env = pure false := by rfl) (hf : X.fn x = true ∨ X.env.scope.names.lookup x = some .local := by first | exact .inl rfl | exact .inr rfl | assumption) :
    PST X (.Assign [.Name x pos'] e pos) (tAsg te (gName i)) := fun pins s σ H D tk J rd =>
  wpAny_Assign_Name (thn (he pins s σ H _ tk J rd) fun v s1 ⟨y, H1, J1, r1, q1⟩ => store_ok J1 nd hi hx r1 (fun s2 J2 => ⟨_, H1, J2, q1⟩) hf) hs
/-- [a, 1, ..]: behind it a token is out -/
theorem pss_tokL {i : Nat} {x : Str} {a : Expr} {n : Int} {c : Nat} {es : List Expr} {ta : TE} {tr : TA} {u : TS} {rest : List Stmt} {p1 pos pos' lp : Pos} (nd : X.N.Nodup) (hi : X.N[i]? = some x) (hx : Loc X.env.scope x) (ha : PE X a ta) (hr : PA X es tr) (h2 : PSsT X rest u)
    (hst : starEach (a :: .Constant (.int n) c p1 :: es) X.env = (false, eval a X.env) :: (false, eval (.Constant (.int n) c p1) X.env) :: starEach es X.env := by rfl)
    (hs : swapsWith (.List (a :: .Constant (.int n) c p1 :: es) lp) (some (.Name x pos')) pos.line X.env = pure false := by rfl) (hf : X.fn x = true ∨ X.env.scope.names.lookup x = some .local := by first | exact .inl rfl | exact .inr rfl | assumption) :
    PSs X (.Assign [.Name x pos'] (.List (a :: .Constant (.int n) c p1 :: es) lp) pos :: rest) (tSeq (tAsg (tLst (tCons ta (tCons (tC (.int n)) tr))) (gName i)) u) := by
  refine ⟨fun pins s σ H D J rd => ?_⟩
  refine wpAny_execs_cons (wpAny_Assign_Name (wpAny_List_spliced ?_) hs)
  rw [hst]
  show wpAny _ _ (spliced ((false, eval a X.env) :: (false, eval (.Constant (.int n) c p1) X.env) :: backTo lp (starEach es X.env))) _ _ s
  refine Calls.spliced_cons (thn (ha.run pins s σ H _ J rd) fun av s1 ⟨y, H1, J1, r1, q1⟩ => ?_)
  refine Calls.spliced_cons (wpAny_Constant_int ?_)
  refine thnK (hr.run lp pins _ σ H1 _ (J1.tok (s1.toks + 1)) q1) fun us s2 t2 ⟨vs, H2, J2, r2, z, q2⟩ => ?_
  have tk2 : 1 ≤ s2.toks := Nat.le_trans (Nat.le_add_left 1 s1.toks) t2
  have rv : Vals (y :: .int n :: vs) (av :: .int n s1.toks :: us) := .cons r1 (.cons ⟨_, rfl⟩ r2)
  have fr : H2 s2.heap.objs.size = none := J2.hok.fresh (Nat.le_refl _)
  refine ⟨by rw [← rv.length]; exact z, ?_⟩
  refine thnK (store_ok (v := V.ref s2.heap.objs.size) (u := Value.ref s2.heap.objs.size) (Q := fun _ s3 => Inv X pins (σ.set i (some (V.ref s2.heap.objs.size))) (upd H2 s2.heap.objs.size (.lst (y :: .int n :: vs))) s3) (J2.laid (o := .lst (y :: .int n :: vs)) (t' := s2.toks) (fun b u e => Heap.get?_push_of_some _ e) (Nat.le_refl _) ⟨z, _, 0, rv, Heap.get?_push_size _ rfl⟩) nd hi hx rfl (fun _ J3 => J3) hf) fun _ s3 t3 J3 => ?_
  exact h2 pins s3 _ _ D (Nat.le_trans tk2 t3) J3 (q2 _ fr)
end
end Wx
end
section
set_option Elab.async false
set_option linter.all false
set_option maxRecDepth 100000
set_option maxHeartbeats 4000000
namespace Wx
open PySem PySem.Spec PyProof.Rows L2 Wv
open Evl (Ex ex_rd ex_l ex_t sq_of st_of fresh_back)
/-! ### the law -/
theorem replS_one (a b : Nat) : ∀ l : List Nat, StrLaws.replL [a] [b] l = l.map fun c => if c = a then b else c
  | [] => StrLaws.replL_nil
  | c :: r => by
    have ih := replS_one a b r
    unfold StrLaws.replL at ih ⊢
    rw [StrLaws.replS]
    rw [List.map_cons]
    by_cases h : c = a
    · subst h
      rw [if_pos rfl, if_pos (by rfl)]
      show [b] ++ StrLaws.replS [c] [b] 0 r = _
      rw [ih]; rfl
    · rw [if_neg h, if_neg (by
        intro z
        exact h (List.cons.inj z).1), ih]
theorem replace_toS (l : List Nat) (a b : Nat) : Txt.replace (toS l) (toS [a]) (toS [b]) = toS (l.map fun c => if c = a then b else c) := by
  have h := StrLaws.replace_list (x := toS l) (y := toS [a]) (z := toS [b]) (by rw [toS_len]; exact Nat.le_refl 1)
  rw [toS_cps, toS_cps, toS_cps, replS_one] at h
  have e : ∀ z : Str, z = toS z.cps.toList := fun z => by
    show z = (⟨z.cps.toList.toArray⟩ : Str)
    simp
  rw [e (Txt.replace (toS l) (toS [a]) (toS [b])), h]
/-- both wires become rods -/
def rodS (c : Nat) : Nat := if (if c = 60 then 120 else c) = 62 then 120 else if c = 60 then 120 else c
def rodB (b : Brd) : Brd := b.map fun l => l.map rodS
theorem rod_sign {c : Nat} (h : isSign c) : isSign (rodS c) := by
  rcases h with h | h | h | h <;> subst h <;> decide
theorem rod_5 {R W : Nat} {b : Brd} (h : Brd5 R W b) : Brd5 R W (rodB b) := by
  refine ⟨rect_of (by unfold rodB; rw [List.length_map, h.len]) fun l hl => ?_, h.R1, h.R5, h.W1, h.W5⟩
  obtain ⟨l0, hl0, rfl⟩ := List.mem_map.mp hl
  obtain ⟨i, hi, e⟩ := List.getElem_of_mem hl0
  have hiR : i < R := by rw [← h.len]; exact hi
  have eg : b.getD i [] = l0 := by rw [List.getD_eq_getElem?_getD, List.getElem?_eq_getElem hi, e]; rfl
  refine ⟨by rw [List.length_map, ← eg]; exact h.r.line i hiR, fun s hs => ?_⟩
  obtain ⟨c, hc, rfl⟩ := List.mem_map.mp hs
  exact rod_sign (h.signs hiR (by rw [eg]; exact hc))
section
variable {K : PySem.W.Frag} {C : Addr} {H H' H0 : Hp} {σ : St} {e : List Sl} {ta tb tc te t1 t2 t3 : TE} {v : V} {E : XK}
theorem ek_rod {l : List Nat} (h : EvK K te σ H (txtK l)) (hl : l.length ≤ 1000) : EvK K (CwR.tReplC (CwR.tReplC te (Str.ofString "<") (Str.ofString "x")) (Str.ofString ">") (Str.ofString "x")) σ H (txtK (l.map rodS)) := fun H1 x1 Q q => h H1 x1 _ fun v H2 x2 dv => by
  have ev := dp_str dv
  subst ev
  have l1 : (Str.ofString "x").length = 1 := by decide +kernel
  refine ⟨toS l, rfl, by rw [toS_len, l1]; omega, ?_⟩
  rw [← toS60, ← toS120, ← toS62, replace_toS]
  refine ⟨_, rfl, by rw [toS_len, toS_len, List.length_map]; simp; omega, ?_⟩
  rw [replace_toS, List.map_map]
  have e : ((fun c : Nat => if c = 62 then 120 else c) ∘ fun c : Nat => if c = 60 then 120 else c) = rodS := rfl
  rw [e]
  exact q _ H2 x2 (.str _)
theorem q_ifRset {s rw : Addr} {ns : List Int} {P : V → Hp → Prop} {i : Nat} {D : Ends} {tz : TS} (h : EvR K s ns rw te σ H fun v _ => ∃ c : Bool, v = .bl c) (r : RowOk K s ns H rw) (yes : ∀ H1, RR K s ns rw H H1 → Ev1 t2 σ H1 P) (q : ∀ σ' H2, (∃ v H1, RR K s ns rw H H1 ∧ Ex H1 H2 ∧ P v H2 ∧ σ' = σ.set i (some v)) ∨ (RR K s ns rw H H2 ∧ σ' = σ) → tz D σ' H2) : tSeq (tIfS (tTest te) (tAsg t2 (gName i)) tNext) tz D σ H :=
  q_ifR h r (fun H1 r1 => yes H1 r1 H1 (Ex.refl _) _ fun v H2 x2 p => q _ H2 (.inl ⟨v, H1, r1, x2, p, rfl⟩)) fun H1 r1 => q _ H1 (.inr ⟨r1, rfl⟩)
/-- a list of data -/
def EvDs (K : PySem.W.Frag) (ta : TA) (σ : St) (H : Hp) (ds : List PyData) : Prop := ∀ H1, Ex H H1 → ∀ Q : List V → Hp → Prop, (∀ vs H2, Ex H1 H2 → DpAll K H2 vs ds → Q vs H2) → ta σ H1 Q
theorem eds_nil : EvDs K tNil σ H [] := fun H1 _ Q q => q [] H1 (Ex.refl _) .nil
theorem eds_cons {d : PyData} {ds : List PyData} {tr : TA} (h : Ev1 te σ H fun v H2 => Dp K H2 v d) (hr : EvDs K tr σ H ds) : EvDs K (tCons te tr) σ H (d :: ds) := fun H1 x Q q => h H1 x _ fun v H2 x2 p => hr H2 (x.trans x2) _ fun vs H3 x3 ps => q (v :: vs) H3 (x2.trans x3) (.cons (Dp.ex x3 _ _ p) ps)
theorem e1_lstD {ds : List PyData} {tr : TA} (h : EvDs K tr σ H ds) (hl : ds.length ≤ 1000) : Ev1 (tLst tr) σ H fun v H2 => Dp K H2 v (.list ds) := fun H1 x Q q => h H1 x _ fun vs H2 x2 p => ⟨by rw [dpAll_len p, sizeLine_eq]; omega, fun a ha => q _ _ (x2.trans (Ex.new ha)) (.lst (SqL.of upd_same) (DpAll.ex (Ex.new ha) _ _ p))⟩
theorem e1_alike {n : Nat} {d : PyData} (lay : d.canLay0 = true) (dep : d.depth < n) (n60 : n ≤ 60) (dl : DLen d) (h1 : Ev1 t1 σ H fun v H2 => Dp K H2 v d) (h2 : Ev1 t2 σ H fun v H2 => Dp K H2 v d) : EvV (tCall (spAlike n K C) [] E (tCons t1 (tCons t2 tNil))) σ H (.bl true) := fun H1 x Q q =>
  h1 H1 x _ fun a H2 x2 da => h2 H2 (x.trans x2) _ fun b H3 x3 db => by
    show spAlike n K C ([a, b] ++ []) H3 Q E
    rw [List.append_nil]
    exact ⟨d, lay, dep, n60, dl, .cons (Dp.ex x3 _ _ da) (.cons db .nil), fun v H4 x4 ev => q v H4 ((x2.trans x3).trans x4) ev⟩
theorem e1_whole {l : List Nat} (l3 : l.length ≤ 3) (l6 : ∀ x ∈ l, x ≤ 6) (h : EvN te σ H fun xs _ => xs = intsV l) : EvV (tCall (spLWhole K C) [] E (tCons te tNil)) σ H (.int ((ordN 0 l : Nat) : Int)) := fun H1 x Q q => h H1 x _ fun p xs H2 _ x2 e ex => by
  subst ex
  show spLWhole K C ([V.ref p] ++ []) H2 Q E
  rw [List.append_nil]
  exact ⟨l, l3, l6, .cons (.lst (SqL.of e) (dp_ints l)) .nil, fun v H3 x3 ev => q v H3 (x2.trans x3) ev⟩
theorem EvV.bD {b : Bool} (h : EvV te σ H (.bl b)) : Ev1 te σ H fun v H2 => Dp K H2 v (.bool b) := h.mono fun v H2 _ e => by subst e; exact .bl b
theorem EvV.iD {i : Int} (h : EvV te σ H (.int i)) : Ev1 te σ H fun v H2 => Dp K H2 v (.int i) := h.mono fun v H2 _ e => by subst e; exact .int i
theorem EvV.nD (h : EvV te σ H .non) : Ev1 te σ H fun v H2 => Dp K H2 v .none := h.mono fun v H2 _ e => by subst e; exact .non
end
theorem dlen_leaf {d : PyData} (h : (match d with | .list _ => False | .tuple _ => False | _ => True)) : DLen d := .leaf fun ds z => by
  rcases z with rfl | rfl <;> exact h
theorem dlen_list {ds : List PyData} (l : ds.length ≤ 1000) (h : ∀ d ∈ ds, DLen d) : DLen (.list ds) := .node (.inl rfl) l h
theorem dlen_tup {ds : List PyData} (l : ds.length ≤ 1000) (h : ∀ d ∈ ds, DLen d) : DLen (.tuple ds) := .node (.inr rfl) l h
theorem dlen_nums {l : List Nat} (h : l.length ≤ 1000) : DLen (numsK l).data := by
  rw [data_nums]
  refine dlen_tup (by rw [intsD_len]; exact h) fun d hd => ?_
  unfold intsD at hd
  obtain ⟨n, _, rfl⟩ := List.mem_map.mp hd
  exact dlen_leaf trivial
theorem dlen_brd {R W : Nat} {b : Brd} (h : Brd5 R W b) : DLen (brdK b).data := by
  refine dlen_tup (ds := NestedKey.datas (b.map txtK)) (by rw [datas_len, h.lenK]; have := h.R5; omega) fun d hd => ?_
  rw [datas_map] at hd
  obtain ⟨k, hk, rfl⟩ := List.mem_map.mp hd
  obtain ⟨l, _, rfl⟩ := List.mem_map.mp hk
  exact dlen_leaf trivial
theorem done_full (B : Bld) : done B (full B) = B.flatten := by
  unfold done
  rw [List.flatten_eq_flatMap]
  have h1 : (List.range B.length).flatMap (fun i => (dsAt B i).take (pl (full B) i)) = (List.range B.length).flatMap (fun i => dsAt B i) := by
    rw [List.flatMap_def, List.flatMap_def]
    congr 1
    refine List.map_congr_left fun i hi => ?_
    rw [pl_full (List.mem_range.mp hi)]
    exact List.take_length
  rw [h1, List.flatMap_def, List.flatMap_def]
  congr 1
  apply List.ext_getElem
  · simp
  · intro i h2 h3
    simp only [List.length_map, List.length_range] at h2
    simp [dsAt, List.getD_eq_getElem?_getD, List.getElem?_eq_getElem h2]
def spLaw (K : PySem.W.Frag) (C : Addr) : Sp := fun vs H Q _ => ∃ (a : Addr) (ns : List Int), SqL K H a (ns.map V.int) ∧ Paired (VOk K C H) vs [.val (.ref a)] ∧ ∀ H', Q (.bl true) H'
theorem foK_non {b0 : Brd} {B : Bld} {K : PySem.W.Frag} {H : Hp} {v : V} (h : Dp K H v (foK b0 B).data) : (!decide (v = .non)) = decide (EF b0 B (zero B)) := by
  unfold foK at h
  split at h
  · next hl => rw [decide_eq_true hl]; cases h; rfl
  · next hl => rw [decide_eq_false hl]; cases h; rfl
theorem foK_ok {b0 : Brd} {B : Bld} (f : Few B) : (foK b0 B).data.canLay0 = true ∧ (foK b0 B).data.depth < 5 ∧ DLen (foK b0 B).data := by
  unfold foK
  split
  · next hz =>
    have h := shp_nums (gr b0 B (total B)).2
    obtain ⟨_, _, _, hl, _⟩ := gr_ok hz (total B) (Nat.le_refl _)
    have := total_le f
    exact ⟨h.lay, Nat.lt_of_le_of_lt h.dep (by omega), dlen_nums (by omega)⟩
  · exact ⟨rfl, by decide, dlen_leaf trivial⟩
theorem ok_law {P : Program} {w : World} {K : PySem.W.Frag} {mg : Str → Option Value} {base : Heap} {CB CF AF : Addr} {f : Addr} {fd : FuncData} (F : Fun K "law" "law" s_law f fd) (T : TX K mg CB CF AF) (c_l_cells : Cal P w K mg base 2 "_law_cells" ["_law_row", "_law_most"] (spLCells K CB)) (c_l_taken : Cal P w K mg base 1 "_law_taken" ["_law_row", "_law_many_here"] (spTaken K CB)) (c_l_parted : Cal P w K mg base 2 "_law_parted" ["_law_row", "_law_cells_here"] (spParted K CB)) (c_Board : Mak P w K mg base 2 CB ["self", "cells"] (spInit K CB)) (c_l_put : Cal P w K mg base 1 "_law_put" ["_law_cells_here", "_law_at", "_law_place", "_law_sign"] (spLPut K CB)) (c_ends : Cal P w K mg base 6 "ends" ["board", "builders"] (spEnds K CB)) (c_first_stuck : Cal P w K mg base 6 "first_stuck" ["board", "builders"] (spStuck K CB)) (c_many_orders : Cal P w K mg base 6 "many_orders" ["board", "builders"] (spMany K CB)) (c_l_alike : Cal P w K mg base 6 "_law_alike" ["_law_found", "_law_due"] (spAlike 5 K CB)) (c_l_whole_orders : Cal P w K mg base 1 "_law_whole_orders" ["_law_sizes"] (spLWhole K CB)) (c_l_holds : Cal P w K mg base 3 "_law_holds" ["_law_cells_here"] (spLHolds K CB)) (c_holds : Cal P w K mg base 5 "holds" ["board"] (spHolds K CB)) (c_firm_order : Cal P w K mg base 7 "firm_order" ["board", "builders"] (spFirm K CB)) (c_l_least_firm : Cal P w K mg base 24 "_law_least_firm" ["_law_cells_here", "_law_builders"] (spLeast w K CB)) : FnOk P w K mg base CX0 25 f fd ["_law_script"] (spLaw K CB) := by
  have nd := sc_law.nd
  refine F.ok sc_law (fun vs H Q E h => ?_) (fun cdv A outer s H vs Q E hr h => ⟨_, (pss_tokL (i := 1) nd rfl (by first | exact Or.inl rfl | exact Or.inr rfl) (pv 0) (pa_cons pe_int (pa_cons pe_int pa_nil)) (psst_cons (PST.of (ps_set (i := 2) nd rfl (by first | exact Or.inl rfl | exact Or.inr rfl) (c_l_cells.pe (hr.mono (by omega)) (by rfl) (pa_cons (pv 1) (pa_cons pe_int pa_nil))))) (psst_cons (CwR.pst_if (pt_cmpR op_eq (c_l_taken.pe (hr.mono (by omega)) (by rfl) (pa_cons (pv 1) (pa_cons pe_int pa_nil))) pe_int (nomark _)) (CwR.psst_one (pst_setT (i := 2) nd rfl (by first | exact Or.inl rfl | exact Or.inr rfl) (pet_callT call_tuple_of (by rfl) T.z_tuple (by decide +kernel) (lc_tok (own := [("_law_line", 12)]) (by rfl) nd (pi_tup (pv 2)) (blkOk_by (own := [("_law_line", 12)]) (N := ["_law_script", "_law_row", "_law_cells_here", "_law_builders", "_law_board", "_law_lines", "_law_deeds", "_law_deed", "_law_found", "_law_first", "_law_last", "_law_order", "_law_line"]) (sc := defScope s_law) (by decide +kernel)) (fun _ _ _ _ _ => (pg_name (i := 12) nd rfl (by first | exact Or.inl rfl | exact Or.inr rfl))) (fun _ _ _ _ _ => CwR.pet_replT (CwR.pet_replC (pv 12))))))) CwR.psst_nil) (PSsT.of (pss_cons (ps_set (i := 3) nd rfl (by first | exact Or.inl rfl | exact Or.inr rfl) (c_l_parted.pe (hr.mono (by omega)) (by rfl) (pa_cons (pv 1) (pa_cons (pv 2) pa_nil))))
  (pss_cons (ps_par (i := 4) (j := 5) (by rfl) nd rfl rfl (by decide) rfl rfl (pa_cons (c_Board.pe (hr.mono (by omega)) (by rfl) T.g_Board (pa_cons (pv 2) pa_nil)) (pa_cons (pv 2) pa_nil)) (by rfl))
  (pss_cons (ps_for PassesOwn.never (by rfl) (pi_tup (pv 3)) (pg_name (i := 6) nd rfl (by first | exact Or.inl rfl | exact Or.inr rfl))
  (pss_one (ps_for PassesOwn.never (by rfl) (pi_tup (pv 6)) (pg_name (i := 7) nd rfl (by first | exact Or.inl rfl | exact Or.inr rfl))
  (pss_one (ps_set (i := 5) nd rfl (by first | exact Or.inl rfl | exact Or.inr rfl) (c_l_put.pe (hr.mono (by omega)) (by rfl) (pa_cons (pv 5) (pa_cons (pe_ix ix_tup (pv 7) pe_int (fun _ _ => rfl)) (pa_cons (pe_ix ix_tup (pv 7) pe_int (fun _ _ => rfl)) (pa_cons (pe_ifExp (pt_cmpR op_eq (pe_ix ix_tup (pv 7) pe_int (fun _ _ => rfl)) pe_str (nomark _)) (pe_ix ix_tup (pv 7) pe_int (fun _ _ => rfl)) pe_str) pa_nil))))))))))
  (pss_cons (ps_set (i := 8) nd rfl (by first | exact Or.inl rfl | exact Or.inr rfl) (pe_lst (pa_cons (c_ends.pe (hr.mono (by omega)) (by rfl) (pa_cons (pv 4) (pa_cons (pv 3) pa_nil))) (pa_cons (c_first_stuck.pe (hr.mono (by omega)) (by rfl) (pa_cons (pv 4) (pa_cons (pv 3) pa_nil))) (pa_cons (c_many_orders.pe (hr.mono (by omega)) (by rfl) (pa_cons (pv 4) (pa_cons (pv 3) pa_nil))) pa_nil)))))
  (pss_cons (ps_if (pt_not (pt_val (c_l_alike.pe (hr.mono (by omega)) (by rfl) (pa_cons (pv 8) (pa_cons (pe_lst (pa_cons (pe_lst (pa_cons (pv 5) pa_nil)) (pa_cons pe_non (pa_cons (c_l_whole_orders.pe (hr.mono (by omega)) (by rfl) (pa_cons (pe_lc (own := [("_law_deeds", 6)]) (by rfl) nd (pi_tup (pv 3)) (blkOk_by (own := [("_law_deeds", 6)]) (N := ["_law_script", "_law_row", "_law_cells_here", "_law_builders", "_law_board", "_law_lines", "_law_deeds", "_law_deed", "_law_found", "_law_first", "_law_last", "_law_order", "_law_line"]) (sc := defScope s_law) (by decide +kernel)) (fun _ _ _ _ _ => (pg_name (i := 6) nd rfl (by first | exact Or.inl rfl | exact Or.inr rfl))) (fun _ _ _ _ _ => pts_nil) (fun _ _ _ _ _ => (pe_callB (call_lenK (K := K) rfl) (by rfl) T.z_len PySem.boot_len (pa_cons (pv 6) pa_nil)))) pa_nil)) pa_nil)))) pa_nil))))) (pss_one (ps_ret pe_bl)) pss_nil)
  (pss_cons (ps_par (i := 9) (j := 10) (by rfl) nd rfl rfl (by decide) rfl rfl (pa_cons (c_l_holds.pe (hr.mono (by omega)) (by rfl) (pa_cons (pv 2) pa_nil)) (pa_cons (c_l_holds.pe (hr.mono (by omega)) (by rfl) (pa_cons (pv 5) pa_nil)) pa_nil)) (by rfl))
  (pss_cons (ps_if (pt_not (pt_val (c_l_alike.pe (hr.mono (by omega)) (by rfl) (pa_cons (pe_lst (pa_cons (c_holds.pe (hr.mono (by omega)) (by rfl) (pa_cons (pv 4) pa_nil)) (pa_cons (c_holds.pe (hr.mono (by omega)) (by rfl) (pa_cons (c_Board.pe (hr.mono (by omega)) (by rfl) T.g_Board (pa_cons (pv 5) pa_nil)) pa_nil)) pa_nil))) (pa_cons (pe_lst (pa_cons (pv 9) (pa_cons (pv 10) pa_nil))) pa_nil))))) (pss_one (ps_ret pe_bl)) pss_nil)
  (pss_cons (ps_set (i := 11) nd rfl (by first | exact Or.inl rfl | exact Or.inr rfl) (c_firm_order.pe (hr.mono (by omega)) (by rfl) (pa_cons (pv 4) (pa_cons (pv 3) pa_nil))))
  (pss_cons (ps_if (pt_cmpR op_ne (pe_cmpR op_notN (pv 11) pe_non (nomark _)) (pe_and (pv 9) (pe_one (pv 10))) (nomark _)) (pss_one (ps_ret pe_bl)) pss_nil)
  (pss_one (ps_ret (c_l_alike.pe (hr.mono (by omega)) (by rfl) (pa_cons (pv 11) (pa_cons (c_l_least_firm.pe (hr.mono (by omega)) (by rfl) (pa_cons (pv 2) (pa_cons (pv 3) pa_nil))) pa_nil)))))))))))))))))), ?_⟩)
  · obtain ⟨a0, ns, hsq, a⟩ := h
    exact (Paired.length a.1 :)
  obtain ⟨a0, ns, hsq, a⟩ := h
  obtain ⟨hp, q⟩ := a
  have sd := sd_start (N := ["_law_script", "_law_row", "_law_cells_here", "_law_builders", "_law_board", "_law_lines", "_law_deeds", "_law_deed", "_law_found", "_law_first", "_law_last", "_law_order", "_law_line"]) hp
  try dsimp only [cxOf, Cx.nox]
  refine q_setN sd (en_lst (K := K) (C := CB) (as := [.val (.ref a0), .val (.int 0), .val (.int 1463), .val (.int 0)]) (ea_cons (ev_var sd rfl) (ea_cons ev_c.sl (ea_cons ev_c.sl (ea_cons ev_c.sl ea_nil)))) (by simp)) fun rw xs σ1 H1 hrw x1 er pr sd1 => ?_
  have exs := pair_vals (ws := [.ref a0, .int 0, .int 1463, .int 0]) pr
  subst exs
  have ro : RowOk K a0 ns H1 rw := ⟨⟨0, 1463, 0, er, by omega, by omega, by omega⟩, ex_l x1 hsq, by
    rcases hsq with (h | ⟨o, h⟩) | h
    · exact .inl fun z => by subst z; rw [h] at hrw; cases hrw
    · exact .inl fun z => by subst z; rw [h] at hrw; cases hrw
    · exact .inr fun H' => .inr h⟩
  refine q_of (run_call (ea_two (s1 := .val (.ref rw)) (s2 := .dat (numK 4)) (ev_var sd1 rfl) ek_int) fun vs H2 x2 pv => ⟨rw, a0, ns, ro.ex1 x2, pv, fun v H3 R W b hb R4 W4 dv r3 => ?_⟩)
  have ro3 := r3.ok
  have sd3 := ((sd1.ex x2).rr r3).set (i := 2) (s := .dat (brdK b)) ⟨v, rfl, dv⟩
  refine q_ifRset (P := fun v H => Dp K H v (brdK (rodB b)).data) (er_is0 (er_taken (n := 2) (by omega) (by omega) (fun H1 r1 => ev_var (sd3.rr r1) rfl) fun H1 r1 => ek_int)) ro3 (fun H4 r4 => ?_) fun σ5 H5 hz => ?_
  · have sd4 := sd3.rr r4
    refine ek_tupL (ks := (rodB b).map txtK) ((en_lcT (ks := b.map txtK) (fun _ => true) (fun i y H => Dp K H y (txtK ((b.getD i []).map rodS)).data) sd4 (ek_var sd4 rfl) (by rw [hb.lenK]; have := hb.R5; omega) (by simp) (fun i y H H' t z => Dp.tx t _ _ z) fun i kk σ2 H5 hk x5 sd5 => ⟨et_yes, fun _ => ?_⟩).mono fun xs H5 _ pr => ?_)
    · obtain ⟨l, hl, rfl⟩ := map_get hk
      have e := brd_mem (b := b) (l := l) hk
      have hll := hb.r.line i (by rw [← hb.len]; exact e.1)
      rw [e.2] at hll ⊢
      exact ek_rod (ek_var sd5 rfl) (by have := hb.W5; omega)
    · rw [filt_all, hb.lenK] at pr
      have := paired_dats (ks := fun i => txtK ((b.getD i []).map rodS)) pr
      have e : (rodB b).map txtK = (List.range R).map fun i => txtK ((b.getD i []).map rodS) := by
        unfold rodB
        rw [List.map_map]
        apply List.ext_getElem
        · simp [hb.len]
        · intro i h1 h2
          simp only [List.length_map] at h1
          simp [List.getD_eq_getElem?_getD, List.getElem?_eq_getElem h1]
      rw [e]; exact this
  obtain ⟨b, hb, sd5, ro5⟩ : ∃ b', Brd5 R W b' ∧ SD K CB H5 σ5 [.val (.ref a0), .val (.ref rw), .dat (brdK b'), .un, .un, .un, .un, .un, .un, .un, .un, .un, .un] ∧ RowOk K a0 ns H5 rw := by
    rcases hz with ⟨v, H4, r4, x4, dv, rfl⟩ | ⟨r4, rfl⟩
    · exact ⟨rodB b, rod_5 hb, ((sd3.rr r4).ex x4).set (s := .dat (brdK (rodB b))) ⟨v, rfl, dv⟩, r4.ok.ex1 x4⟩
    · exact ⟨b, hb, sd3.rr r4, r4.ok⟩
  clear sd3 ro3 hz dv r3 pv sd1
  refine q_of (run_call (ea_two (s1 := .val (.ref rw)) (s2 := .dat (brdK b)) (ev_var sd5 rfl) (ek_var sd5 rfl)) fun vs H6 x6 pv => ⟨rw, a0, ns, R, W, b, hb, ro5.ex1 x6, pv, fun v H7 B g dv r7 => ?_⟩)
  have sd7 := ((sd5.ex x6).rr r7).set (i := 3) (s := .dat (bldK B)) ⟨v, rfl, dv⟩
  have m1 := g.few.pos
  have m2 := g.few.most
  have hlB : (B.map dsK).length = B.length := List.length_map _
  refine q_par (Pa := fun v H2 => BrdAt K CB H2 v b) (P2 := fun _ w H2 => Dp K H2 w (brdK b).data) (e1_board hb (ek_var sd7 rfl)) (fun v H1 x1 _ => ek_var (sd7.ex x1) rfl) fun vb vl H8 H9 x8 x9 dvb dvl => ?_
  have sd9 := ((sd7.ex (x8.trans x9)).set (i := 4) (o := some vb) (s := .brd H9 b) ⟨vb, rfl, dvb.ex x9⟩).set (i := 5) (s := .dat (brdK b)) ⟨vl, rfl, dvl⟩
  refine q_of (s_forT (ks := B.map dsK) (ek_var sd9 rfl) fun Ha xa => ⟨fun i σ' H' => ∃ bb, SD K CB H' σ' [.val (.ref a0), .val (.ref rw), .dat (brdK b), .dat (bldK B), .brd H9 b, .dat (brdK bb), .un, .un, .un, .un, .un, .un, .un] ∧ Ex H9 H' ∧ Ex Ha H' ∧ Brd5 R W bb ∧ bb = ((B.take i).flatten).foldl Deed.ap b, ⟨b, sd9.ex xa, xa, Ex.refl _, hb, rfl⟩, fun i σ' H' z => by obtain ⟨_, _, _, x, _⟩ := z; exact ex_tx x, fun i kk σ' H' hk z v1 dv1 => ?_, fun σ' H' z => ?_⟩)
  · obtain ⟨bb, s1, xh, xh2, hbb, ebb⟩ := z
    obtain ⟨ds, hds, rfl⟩ := map_get hk
    have hi : i < B.length := (List.getElem?_eq_some_iff.mp hds).1
    have eds : dsAt B i = ds := by unfold dsAt; rw [List.getD_eq_getElem?_getD, hds]; rfl
    have et : (B.take (i + 1)).flatten = (B.take i).flatten ++ ds := by rw [List.take_succ, hds, List.flatten_append]; simp
    have s2 := s1.set (i := 6) (s := .dat (dsK ds)) ⟨v1, rfl, dv1⟩
    refine s_forT (ks := ds.map dK) (ek_var s2 rfl) fun Hb xb => ⟨fun j σ'' H'' => ∃ bb, SD K CB H'' σ'' [.val (.ref a0), .val (.ref rw), .dat (brdK b), .dat (bldK B), .brd H9 b, .dat (brdK bb), .dat (dsK ds), .un, .un, .un, .un, .un, .un] ∧ Ex Hb H'' ∧ Brd5 R W bb ∧ bb = ((B.take i).flatten ++ ds.take j).foldl Deed.ap b, ⟨bb, s2.ex xb, Ex.refl _, hbb, by rw [List.take_zero, List.append_nil]; exact ebb⟩, fun j σ'' H'' z => by obtain ⟨_, _, x, _⟩ := z; exact ex_tx x, fun j kk σ'' H'' hj z v2 dv2 => ?_, fun σ'' H'' z => ?_⟩
    · obtain ⟨b3, s3, xh3, hb3, eb3⟩ := z
      obtain ⟨d, hd, rfl⟩ := map_get hj
      have okd : DeedOk R W b d := g.g.okAt hi (by rw [eds]; exact hd)
      have ind := DeedOk.into okd
      have s4 := s3.set (i := 7) (s := .dat (dK d)) ⟨v2, rfl, dv2⟩
      refine s_set (s := .dat (brdK (d.ap b3))) s4 (e1_ans (P := fun v H' => Dp K H' v (brdK (d.ap b3)).data) (ea_cons (s := .dat (brdK b3)) (ek_var s4 rfl) (ea_three (s1 := .dat (numK d.r)) (s2 := .dat (numK d.c)) (s3 := .dat (txtK [d.s])) (ek_dr (d := d) (ek_var s4 rfl)) (ek_dc (d := d) (ek_var s4 rfl)) (e1_if (c := d.fill) (et_test (eb_isF (d := d) (ek_var s4 rfl))) (fun hf => ek_ds hf (ek_var s4 rfl)) fun hf => EvK.is ek_str (by rw [ind.cut hf]; exact congrArg NestedKey.text toS46.symm)))) fun vs H1 Q a => ⟨R, W, b3, d.r, d.c, d.s, hb3, ind.r, ind.c, a⟩) fun σ6 Hc xc s6 => ⟨d.ap b3, s6.drops [7], xh3.trans xc, ⟨hb3.r.put ind.r ind.c okd.sg, hb3.R1, hb3.R5, hb3.W1, hb3.W5⟩, ?_⟩
      rw [List.take_succ, hd, ← List.append_assoc, List.foldl_append, ← eb3]; rfl
    · obtain ⟨b3, s3, xh3, hb3, eb3⟩ := z
      rw [List.length_map, List.take_length] at eb3
      exact ⟨b3, s3.drops [6], (xh.trans xb).trans xh3, (xh2.trans xb).trans xh3, hb3, by rw [et]; exact eb3⟩
  obtain ⟨bl, s1, xh, _, hbl, ebl⟩ := z
  rw [hlB, List.take_length] at ebl
  have ebl : bl = cellsAt b B (full B) := by unfold cellsAt; rw [done_full]; exact ebl
  subst ebl
  have bd : ∀ {H1}, Ex H' H1 → ∀ {σ1 e1}, SD K CB H1 σ1 e1 → e1[4]? = some (.brd H9 b) → Ev1 (tVar 4) σ1 H1 fun v _ => BrdAt K CB H9 v b := by intro _ _ _ _ s h; exact eb_var s h
  have bld : ∀ {H1 σ1 e1}, SD K CB H1 σ1 e1 → Ex H9 H1 → e1[4]? = some (.brd H9 b) → e1[3]? = some (.dat (bldK B)) → EvA K CB (tCons (tVar 4) (tCons (tVar 3) tNil)) σ1 H1 [.brd H9 b, .dat (bldK B)] := by
    intro _ _ _ s _ h1 h2
    exact ea_two (s1 := .brd H9 b) (s2 := .dat (bldK B)) (eb_var s h1) (ek_var s h2)
  have dfound : ∀ n : Int, (PyData.list [lsD [brdK (cellsAt b B (full B))], .none, .int n]).canLay0 = true ∧ (PyData.list [lsD [brdK (cellsAt b B (full B))], .none, .int n]).depth < 5 ∧ DLen (.list [lsD [brdK (cellsAt b B (full B))], .none, .int n]) := fun n => by
    have h1 : Shp 2 (lsD [brdK (cellsAt b B (full B))]) := shp_lstK fun k hk => by
      rw [List.mem_singleton] at hk
      subst hk; exact shp_brd hbl
    have h : Shp 3 (.list [lsD [brdK (cellsAt b B (full B))], .none, .int n]) := shp_lst fun d hd => by
      simp only [List.mem_cons, List.not_mem_nil, or_false] at hd
      rcases hd with rfl | rfl | rfl
      · exact h1
      · exact shp_non.mono (by omega)
      · exact (shp_int _).mono (by omega)
    refine ⟨h.lay, Nat.lt_of_le_of_lt h.dep (by omega), dlen_list (by simp) fun d hd => ?_⟩
    simp only [List.mem_cons, List.not_mem_nil, or_false] at hd
    rcases hd with rfl | rfl | rfl
    · refine dlen_list (ds := NestedKey.datas [brdK (cellsAt b B (full B))]) (by rw [datas_len, List.length_singleton]; omega) fun d hd => ?_
      rw [datas_map] at hd
      have : d = (brdK (cellsAt b B (full B))).data := by simpa using hd
      subst this; exact dlen_brd hbl
    · exact dlen_leaf trivial
    · exact dlen_leaf trivial
  refine q_setO (d := .list [lsD [brdK (cellsAt b B (full B))], .none, .int ((ordN 0 (full B) : Nat) : Int)]) s1 (e1_lstD (eds_cons (e1_ansX (P := fun v H' => Dp K H' v (lsD [brdK (cellsAt b B (full B))])) (bld s1 xh rfl rfl) fun vs H1 Q x a => ⟨R, W, b, B, g, a.brd (xh.trans x)⟩) (eds_cons (EvV.nD (e1_ansX (P := fun v _ => v = .non) (bld s1 xh rfl rfl) fun vs H1 Q x a => ⟨R, W, b, B, g, a.brd (xh.trans x)⟩)) (eds_cons (EvV.iD (e1_ansX (P := fun v _ => v = .int ((ordN 0 (full B) : Nat) : Int)) (bld s1 xh rfl rfl) fun vs H1 Q x a => ⟨R, W, b, B, g, a.brd (xh.trans x)⟩)) eds_nil))) (by simp)) fun σb Hb xb sb => ?_
  obtain ⟨l1, l2, l3⟩ := dfound ((ordN 0 (full B) : Nat) : Int)
  have lf : (full B).length ≤ 3 := by unfold full; rw [List.length_map]; exact m2
  have l6 : ∀ x ∈ full B, x ≤ 6 := fun x hx => by
    unfold full at hx
    obtain ⟨ds, hds, rfl⟩ := List.mem_map.mp hx
    obtain ⟨i, hi, e⟩ := List.getElem_of_mem hds
    have := g.few.size i
    unfold sz dsAt at this
    rw [List.getD_eq_getElem?_getD, List.getElem?_eq_getElem hi, e] at this
    exact this
  refine q_skip (Evl.et_not (a := true) (et_B (e1_alike l1 l2 (by omega) l3 ((eo_var sb rfl).mono fun v H2 x z => Dp.ex x _ _ z) (e1_lstD (eds_cons (e1_lstD (eds_cons (ek_var (k := brdK (cellsAt b B (full B))) sb rfl) eds_nil) (by show 1 ≤ 1000; decide)) (eds_cons (EvV.nD ev_c) (eds_cons (EvV.iD (e1_whole lf l6 ((en_lcT (ks := B.map dsK) (fun _ => true) (fun i y _ => y = .int ((sz B i : Nat) : Int)) sb (ek_var sb rfl) (by rw [hlB]; omega) (by simp) (fun _ _ _ _ _ z => z) fun i kk σ2 H6 hk x6 sd6 => ⟨et_yes, fun _ => ?_⟩).mono fun xs H6 _ pr => ?_))) eds_nil))) (by simp))))) fun Hc xc => ?_
  · obtain ⟨ds, hds, rfl⟩ := map_get hk
    refine (EvK.is (ek_lenT (ks := ds.map dK) (ek_var sd6 rfl)) ?_).v_int
    have : dsAt B i = ds := by unfold dsAt; rw [List.getD_eq_getElem?_getD, hds]; rfl
    unfold sz
    rw [this, List.length_map]
  · rw [filt_all, hlB] at pr
    rw [paired_vals pr, full_sz]
  have sc := sb.ex xc
  have xhc := (xh.trans xb).trans xc
  refine q_par (Pa := fun v _ => v = .bl (decide (Holds b))) (P2 := fun _ v _ => v = .bl (decide (Holds (cellsAt b B (full B))))) (e1_ans (ea_one (s := .dat (brdK b)) (ek_var sc rfl)) fun vs H1 Q a => ⟨R, W, b, hb, a⟩) (fun v H1 x1 _ => e1_ans (ea_one (s := .dat (brdK (cellsAt b B (full B)))) (ek_var (sc.ex x1) rfl)) fun vs H1 Q a => ⟨R, W, _, hbl, a⟩) fun v1 v2 Hd He xd xe e1 e2 => ?_
  subst e1 e2
  have xde := xd.trans xe
  have se := ((sc.ex xde).set (i := 9) (o := some (.bl (decide (Holds b)))) (s := .val (.bl (decide (Holds b)))) rfl).set (i := 10) (o := some (.bl (decide (Holds (cellsAt b B (full B)))))) (s := .val (.bl (decide (Holds (cellsAt b B (full B)))))) rfl
  have xhe := xhc.trans xde
  have two : ∀ x y : Bool, (PyData.list [.bool x, .bool y]).canLay0 = true ∧ (PyData.list [.bool x, .bool y]).depth < 5 ∧ DLen (.list [.bool x, .bool y]) := fun x y => ⟨rfl, Nat.lt_of_le_of_lt (shp_lst (n := 0) fun d hd => by
    simp only [List.mem_cons, List.not_mem_nil, or_false] at hd
    rcases hd with rfl | rfl <;> exact shp_bl _).dep (by omega), dlen_list (by simp) fun d hd => by
    simp only [List.mem_cons, List.not_mem_nil, or_false] at hd
    rcases hd with rfl | rfl <;> exact dlen_leaf trivial⟩
  obtain ⟨k1, k2, k3⟩ := two (decide (Holds b)) (decide (Holds (cellsAt b B (full B))))
  refine q_skip (Evl.et_not (a := true) (et_B (e1_alike k1 k2 (by omega) k3 (e1_lstD (eds_cons (EvV.bD (e1_ansX (ea_one (s := .brd H9 b) (eb_var se rfl)) fun vs H1 Q x a => ⟨R, W, b, hb, a.brd (xhe.trans x)⟩)) (eds_cons (EvV.bD (e1_holdsB hbl (e1_board hbl (ek_var se rfl)))) eds_nil)) (by simp)) (e1_lstD (eds_cons (EvV.bD (ev_var se rfl)) (eds_cons (EvV.bD (ev_var se rfl)) eds_nil)) (by simp))))) fun Hf xf => ?_
  have sf := se.ex xf
  have xhf := xhe.trans xf
  refine q_set (s := .dat (foK b B)) sf (e1_ansX (P := fun v H' => Dp K H' v (foK b B).data) (bld sf xhf rfl rfl) fun vs H1 Q x a => ⟨R, W, b, B, g, a.brd (xhf.trans x)⟩) fun σg Hg xg sg => ?_
  have law := ef_zero g.g
  refine q_skip (Evl.et_is (et_test (eb_neB (e1_notN (decide (EF b B (zero B))) (ek_var (k := foK b B) sg rfl) fun v H2 dv => foK_non dv) (eb_and (ev_var sg rfl) fun _ => ev_var sg rfl))) ?_) fun Hh xh' => ?_
  · by_cases hz : EF b B (zero B)
    · obtain ⟨h1, h2⟩ := law.mp hz
      rw [decide_eq_true hz, decide_eq_true h1, decide_eq_true h2]; rfl
    · rw [decide_eq_false hz]
      have : ¬ (Holds b ∧ Holds (cellsAt b B (full B))) := fun z => hz (law.mpr z)
      by_cases h1 : Holds b
      · have h2 : ¬ Holds (cellsAt b B (full B)) := fun z => this ⟨h1, z⟩
        rw [decide_eq_true h1, decide_eq_false h2]; rfl
      · rw [decide_eq_false h1]; rfl
  have sh := sg.ex xh'
  obtain ⟨o1, o2, o3⟩ := foK_ok (b0 := b) g.few
  refine s_ret (e1_alike o1 o2 (by omega) o3 (ek_var (k := foK b B) sh rfl) (e1_ans (P := fun v H' => Dp K H' v (foK b B).data) (ea_two (s1 := .dat (brdK b)) (s2 := .dat (bldK B)) (ek_var sh rfl) (ek_var sh rfl)) fun vs H1 Q a => ⟨R, W, b, B, g, a⟩)) fun v Hi xi ev => by subst ev; exact q Hi
end Wx
end
section
set_option Elab.async false
set_option linter.all false
set_option maxRecDepth 100000
set_option maxHeartbeats 4000000
namespace Wx
open PySem PySem.Spec PyProof.Rows L2 Wv
/-! ### the end -/
theorem spAl_zero {K : PySem.W.Frag} {C : Addr} {vs : List V} {H : Hp} {Q : VK} {E : XK} (h : spAlike 0 K C vs H Q E) : False := by
  obtain ⟨d, _, h, _⟩ := h
  omega
theorem ok_al {P : Program} {w : World} {K : PySem.W.Frag} {mg : Str → Option Value} {base : Heap} {CB CF AF : Addr} (kn : Kn K mg "_law_alike" s__law_alike) (T : TX K mg CB CF AF) : ∀ n, Cal P w K mg base (n+1) "_law_alike" ["_law_found", "_law_due"] (spAlike n K CB)
  | 0 => Cal.mk (k := 0) kn sc__law_alike (fun _ _ _ _ _ _ us hl => match us, hl with | [_, _], _ => rfl) (fun vs H Q E h => (spAl_zero h).elim) (fun f cdv A outer s H vs Q E hr h => (spAl_zero h).elim)
  | n + 1 => ok_l_alike kn T (ok_al kn T n)
theorem kit_self {K : PySem.W.Frag} {C : Addr} : PySem.W.kitOne K (.ref C) (.ref C) = some true := by
  unfold PySem.W.kitOne
  rw [if_pos (beq_self_eq_true _)]
theorem spLaw_any {K : PySem.W.Frag} {C D : Addr} : spLaw K C = spLaw K D := by
  funext vs H Q E
  refine propext ⟨fun ⟨a, ns, h1, h2, h3⟩ => ⟨a, ns, h1, ?_, h3⟩, fun ⟨a, ns, h1, h2, h3⟩ => ⟨a, ns, h1, ?_, h3⟩⟩
  · cases h2 with
    | cons e t => cases t; exact .cons e .nil
  · cases h2 with
    | cons e t => cases t; exact .cons e .nil
theorem all_ok {P : Program} {w : World} {K : PySem.W.Frag} {h base : Heap} {mg : Str → Option Value} (X : K.In h) (G : h.Ns mainGlobals mg) {CB CF AF : Addr} {oAF : Obj} {tF1 tF2 tF3 : Tok} {nAF : Nat} {t_SIGNS : Tok} {t_MOST_LINES : Tok} {t_MOST_BUILDERS : Tok} {t_MOST_DEEDS : Tok} {t_EMPTY : Tok} {t_FILL : Tok} {t_CUT : Tok} {t_STAND : Tok} {t_LEAVE : Tok} {f_is_from : Addr} {oc_is_from dc_is_from pm_is_from kV_is_from cd_is_from ct_is_from : Value} {od_is_from an_is_from : Option Addr} {sl_is_from : Array (Option Value)} {f_is_line : Addr} {oc_is_line dc_is_line pm_is_line kV_is_line cd_is_line ct_is_line : Value} {od_is_line an_is_line : Option Addr} {sl_is_line : Array (Option Value)} {f_Board_init : Addr} {oc_Board_init dc_Board_init pm_Board_init kV_Board_init cd_Board_init ct_Board_init : Value} {od_Board_init an_Board_init : Option Addr} {sl_Board_init : Array (Option Value)} {p_Board_cells : Addr} {r_Board_cells : List Value} {f_Board_cells : Addr} {oc_Board_cells dc_Board_cells pm_Board_cells kV_Board_cells cd_Board_cells ct_Board_cells : Value} {od_Board_cells an_Board_cells : Option Addr} {sl_Board_cells : Array (Option Value)} {p_Board_rows : Addr} {r_Board_rows : List Value} {f_Board_rows : Addr} {oc_Board_rows dc_Board_rows pm_Board_rows kV_Board_rows cd_Board_rows ct_Board_rows : Value} {od_Board_rows an_Board_rows : Option Addr} {sl_Board_rows : Array (Option Value)} {p_Board_columns : Addr} {r_Board_columns : List Value} {f_Board_columns : Addr} {oc_Board_columns dc_Board_columns pm_Board_columns kV_Board_columns cd_Board_columns ct_Board_columns : Value} {od_Board_columns an_Board_columns : Option Addr} {sl_Board_columns : Array (Option Value)} {f_Board_len : Addr} {oc_Board_len dc_Board_len pm_Board_len kV_Board_len cd_Board_len ct_Board_len : Value} {od_Board_len an_Board_len : Option Addr} {sl_Board_len : Array (Option Value)} {f_need_board : Addr} {oc_need_board dc_need_board pm_need_board kV_need_board cd_need_board ct_need_board : Value} {od_need_board an_need_board : Option Addr} {sl_need_board : Array (Option Value)} {f_all_steps : Addr} {oc_all_steps dc_all_steps pm_all_steps kV_all_steps cd_all_steps ct_all_steps : Value} {od_all_steps an_all_steps : Option Addr} {sl_all_steps : Array (Option Value)} {f_is_cell_deed : Addr} {oc_is_cell_deed dc_is_cell_deed pm_is_cell_deed kV_is_cell_deed cd_is_cell_deed ct_is_cell_deed : Value} {od_is_cell_deed an_is_cell_deed : Option Addr} {sl_is_cell_deed : Array (Option Value)} {f_is_deed : Addr} {oc_is_deed dc_is_deed pm_is_deed kV_is_deed cd_is_deed ct_is_deed : Value} {od_is_deed an_is_deed : Option Addr} {sl_is_deed : Array (Option Value)} {f_need_builders : Addr} {oc_need_builders dc_need_builders pm_need_builders kV_need_builders cd_need_builders ct_need_builders : Value} {od_need_builders an_need_builders : Option Addr} {sl_need_builders : Array (Option Value)} {f_put_at : Addr} {oc_put_at dc_put_at pm_put_at kV_put_at cd_put_at ct_put_at : Value} {od_put_at an_put_at : Option Addr} {sl_put_at : Array (Option Value)} {f_put_sign : Addr} {oc_put_sign dc_put_sign pm_put_sign kV_put_sign cd_put_sign ct_put_sign : Value} {od_put_sign an_put_sign : Option Addr} {sl_put_sign : Array (Option Value)} {f_stand_together : Addr} {oc_stand_together dc_stand_together pm_stand_together kV_stand_together cd_stand_together ct_stand_together : Value} {od_stand_together an_stand_together : Option Addr} {sl_stand_together : Array (Option Value)} {f_deed_done : Addr} {oc_deed_done dc_deed_done pm_deed_done kV_deed_done cd_deed_done ct_deed_done : Value} {od_deed_done an_deed_done : Option Addr} {sl_deed_done : Array (Option Value)} {f_first_state : Addr} {oc_first_state dc_first_state pm_first_state kV_first_state cd_first_state ct_first_state : Value} {od_first_state an_first_state : Option Addr} {sl_first_state : Array (Option Value)} {f_all_movers : Addr} {oc_all_movers dc_all_movers pm_all_movers kV_all_movers cd_all_movers ct_all_movers : Value} {od_all_movers an_all_movers : Option Addr} {sl_all_movers : Array (Option Value)} {f_is_whole : Addr} {oc_is_whole dc_is_whole pm_is_whole kV_is_whole cd_is_whole ct_is_whole : Value} {od_is_whole an_is_whole : Option Addr} {sl_is_whole : Array (Option Value)} {f_leads_of : Addr} {oc_leads_of dc_leads_of pm_leads_of kV_leads_of cd_leads_of ct_leads_of : Value} {od_leads_of an_leads_of : Option Addr} {sl_leads_of : Array (Option Value)} {f_all_parts : Addr} {oc_all_parts dc_all_parts pm_all_parts kV_all_parts cd_all_parts ct_all_parts : Value} {od_all_parts an_all_parts : Option Addr} {sl_all_parts : Array (Option Value)} {f_holds : Addr} {oc_holds dc_holds pm_holds kV_holds cd_holds ct_holds : Value} {od_holds an_holds : Option Addr} {sl_holds : Array (Option Value)} {f_orders_by : Addr} {oc_orders_by dc_orders_by pm_orders_by kV_orders_by cd_orders_by ct_orders_by : Value} {od_orders_by an_orders_by : Option Addr} {sl_orders_by : Array (Option Value)} {f_ends : Addr} {oc_ends dc_ends pm_ends kV_ends cd_ends ct_ends : Value} {od_ends an_ends : Option Addr} {sl_ends : Array (Option Value)} {f_first_stuck : Addr} {oc_first_stuck dc_first_stuck pm_first_stuck kV_first_stuck cd_first_stuck ct_first_stuck : Value} {od_first_stuck an_first_stuck : Option Addr} {sl_first_stuck : Array (Option Value)} {f_many_orders : Addr} {oc_many_orders dc_many_orders pm_many_orders kV_many_orders cd_many_orders ct_many_orders : Value} {od_many_orders an_many_orders : Option Addr} {sl_many_orders : Array (Option Value)} {f_Firm_init : Addr} {oc_Firm_init dc_Firm_init pm_Firm_init kV_Firm_init cd_Firm_init ct_Firm_init : Value} {od_Firm_init an_Firm_init : Option Addr} {sl_Firm_init : Array (Option Value)} {f_Firm_stands : Addr} {oc_Firm_stands dc_Firm_stands pm_Firm_stands kV_Firm_stands cd_Firm_stands ct_Firm_stands : Value} {od_Firm_stands an_Firm_stands : Option Addr} {sl_Firm_stands : Array (Option Value)} {f_firm_order : Addr} {oc_firm_order dc_firm_order pm_firm_order kV_firm_order cd_firm_order ct_firm_order : Value} {od_firm_order an_firm_order : Option Addr} {sl_firm_order : Array (Option Value)} {f_l_put : Addr} {oc_l_put dc_l_put pm_l_put kV_l_put cd_l_put ct_l_put : Value} {od_l_put an_l_put : Option Addr} {sl_l_put : Array (Option Value)} {f_l_next_cells : Addr} {oc_l_next_cells dc_l_next_cells pm_l_next_cells kV_l_next_cells cd_l_next_cells ct_l_next_cells : Value} {od_l_next_cells an_l_next_cells : Option Addr} {sl_l_next_cells : Array (Option Value)} {f_l_many : Addr} {oc_l_many dc_l_many pm_l_many kV_l_many cd_l_many ct_l_many : Value} {od_l_many an_l_many : Option Addr} {sl_l_many : Array (Option Value)} {f_l_steps : Addr} {oc_l_steps dc_l_steps pm_l_steps kV_l_steps cd_l_steps ct_l_steps : Value} {od_l_steps an_l_steps : Option Addr} {sl_l_steps : Array (Option Value)} {f_l_leads : Addr} {oc_l_leads dc_l_leads pm_l_leads kV_l_leads cd_l_leads ct_l_leads : Value} {od_l_leads an_l_leads : Option Addr} {sl_l_leads : Array (Option Value)} {f_l_holds : Addr} {oc_l_holds dc_l_holds pm_l_holds kV_l_holds cd_l_holds ct_l_holds : Value} {od_l_holds an_l_holds : Option Addr} {sl_l_holds : Array (Option Value)} {f_l_whole_orders : Addr} {oc_l_whole_orders dc_l_whole_orders pm_l_whole_orders kV_l_whole_orders cd_l_whole_orders ct_l_whole_orders : Value} {od_l_whole_orders an_l_whole_orders : Option Addr} {sl_l_whole_orders : Array (Option Value)} {f_l_ends_firm : Addr} {oc_l_ends_firm dc_l_ends_firm pm_l_ends_firm kV_l_ends_firm cd_l_ends_firm ct_l_ends_firm : Value} {od_l_ends_firm an_l_ends_firm : Option Addr} {sl_l_ends_firm : Array (Option Value)} {f_l_least_firm : Addr} {oc_l_least_firm dc_l_least_firm pm_l_least_firm kV_l_least_firm cd_l_least_firm ct_l_least_firm : Value} {od_l_least_firm an_l_least_firm : Option Addr} {sl_l_least_firm : Array (Option Value)} {f_l_taken : Addr} {oc_l_taken dc_l_taken pm_l_taken kV_l_taken cd_l_taken ct_l_taken : Value} {od_l_taken an_l_taken : Option Addr} {sl_l_taken : Array (Option Value)} {f_l_cells : Addr} {oc_l_cells dc_l_cells pm_l_cells kV_l_cells cd_l_cells ct_l_cells : Value} {od_l_cells an_l_cells : Option Addr} {sl_l_cells : Array (Option Value)} {f_l_parted : Addr} {oc_l_parted dc_l_parted pm_l_parted kV_l_parted cd_l_parted ct_l_parted : Value} {od_l_parted an_l_parted : Option Addr} {sl_l_parted : Array (Option Value)} {f_l_alike : Addr} {oc_l_alike dc_l_alike pm_l_alike kV_l_alike cd_l_alike ct_l_alike : Value} {od_l_alike an_l_alike : Option Addr} {sl_l_alike : Array (Option Value)} {f_law : Addr} {oc_law dc_law pm_law kV_law cd_law ct_law : Value} {od_law an_law : Option Addr} {sl_law : Array (Option Value)}
    (z_len : PySem.W.nsIn K mainGlobals "len" = some none)
    (z_range : PySem.W.nsIn K mainGlobals "range" = some none)
    (z_isinstance : PySem.W.nsIn K mainGlobals "isinstance" = some none)
    (z_all : PySem.W.nsIn K mainGlobals "all" = some none)
    (z_sum : PySem.W.nsIn K mainGlobals "sum" = some none)
    (z_sorted : PySem.W.nsIn K mainGlobals "sorted" = some none)
    (z_set : PySem.W.nsIn K mainGlobals "set" = some none)
    (z_tuple : PySem.W.nsIn K mainGlobals "tuple" = some none)
    (z_int : PySem.W.nsIn K mainGlobals "int" = some none)
    (z_bool : PySem.W.nsIn K mainGlobals "bool" = some none)
    (z_str : PySem.W.nsIn K mainGlobals "str" = some none)
    (z_list : PySem.W.nsIn K mainGlobals "list" = some none)
    (z_enumerate : PySem.W.nsIn K mainGlobals "enumerate" = some none)
    (z_zip : PySem.W.nsIn K mainGlobals "zip" = some none)
    (g_SIGNS : PySem.W.nsIn K mainGlobals "SIGNS" = some (some (.str ".<>x" t_SIGNS)))
    (g_MOST_LINES : PySem.W.nsIn K mainGlobals "MOST_LINES" = some (some (.int 5 t_MOST_LINES)))
    (g_MOST_BUILDERS : PySem.W.nsIn K mainGlobals "MOST_BUILDERS" = some (some (.int 3 t_MOST_BUILDERS)))
    (g_MOST_DEEDS : PySem.W.nsIn K mainGlobals "MOST_DEEDS" = some (some (.int 6 t_MOST_DEEDS)))
    (g_EMPTY : PySem.W.nsIn K mainGlobals "EMPTY" = some (some (.str "." t_EMPTY)))
    (g_FILL : PySem.W.nsIn K mainGlobals "FILL" = some (some (.str "fill" t_FILL)))
    (g_CUT : PySem.W.nsIn K mainGlobals "CUT" = some (some (.str "cut" t_CUT)))
    (g_STAND : PySem.W.nsIn K mainGlobals "STAND" = some (some (.str "stand" t_STAND)))
    (g_LEAVE : PySem.W.nsIn K mainGlobals "LEAVE" = some (some (.str "leave" t_LEAVE)))
    (g_FILLED : PySem.W.nsIn K mainGlobals "FILLED" = some (some (.ref AF)))
    (lF : K.lookup AF = some oAF)
    (cF : oAF.cls = .type "tuple")
    (dF : oAF.data = .seq #[.str "<" tF1, .str ">" tF2, .str "x" tF3] nAF)
    (g_Board : PySem.W.nsIn K mainGlobals "Board" = some (some (.ref CB)))
    (pgB : PySem.W.plainGet K CB Str.empty = true)
    (hdB : PySem.W.hasDictIn K CB = true)
    (poB : PySem.W.plainOver K CB = true)
    (saB : PySem.W.findIn K (.ref CB) "__setattr__" = some (some (.builtin "object.__setattr__")))
    (mkB : PySem.W.makesIn K CB = true)
    (kcB : PySem.W.keepIn K (.ref CB) = true)
    (g_Firm : PySem.W.nsIn K mainGlobals "Firm" = some (some (.ref CF)))
    (pgF : PySem.W.plainGet K CF Str.empty = true)
    (hdF : PySem.W.hasDictIn K CF = true)
    (poF : PySem.W.plainOver K CF = true)
    (saF : PySem.W.findIn K (.ref CF) "__setattr__" = some (some (.builtin "object.__setattr__")))
    (mkF : PySem.W.makesIn K CF = true)
    (kcF : PySem.W.keepIn K (.ref CF) = true)
    (nT : PySem.W.findIn K (.ref CB) "table" = some none)
    (nK : PySem.W.findIn K (.ref CF) "known" = some none)
    (haB : PySem.W.findIn K (.ref CB) "__class__" = some (some (.builtin "object.__class__")))
    (hnB : PySem.W.specialIn K (.builtin "object.__class__") "__get__" = some (some (.builtin "getset_descriptor.__get__")))
    (htk : PySem.W.takesIn K (.builtin "object.__class__") = some true)
    (hmB : PySem.W.mroIn K CB (.type "object") = some true)
    (a_is_from : PySem.W.nsIn K mainGlobals "is_from" = some (some (.ref f_is_from)))
    (l_is_from : K.lookup f_is_from = some ⟨oc_is_from, od_is_from, .func (PySem.W.fnOf "is_from" "is_from" (defArgs s_is_from) (defBody s_is_from) (defScope s_is_from) .none kV_is_from dc_is_from pm_is_from an_is_from cd_is_from ct_is_from), sl_is_from⟩)
    (e_is_from : PySem.W.codeIn K cd_is_from "is_from" = true)
    (k_is_from : PySem.W.keepIn K (.ref f_is_from) = true)
    (a_is_line : PySem.W.nsIn K mainGlobals "is_line" = some (some (.ref f_is_line)))
    (l_is_line : K.lookup f_is_line = some ⟨oc_is_line, od_is_line, .func (PySem.W.fnOf "is_line" "is_line" (defArgs s_is_line) (defBody s_is_line) (defScope s_is_line) .none kV_is_line dc_is_line pm_is_line an_is_line cd_is_line ct_is_line), sl_is_line⟩)
    (e_is_line : PySem.W.codeIn K cd_is_line "is_line" = true)
    (k_is_line : PySem.W.keepIn K (.ref f_is_line) = true)
    (a_Board_init : PySem.W.findIn K (.ref CB) "__init__" = some (some (.ref f_Board_init)))
    (i_Board_init : PySem.W.isFn K (.ref f_Board_init) = true)
    (l_Board_init : K.lookup f_Board_init = some ⟨oc_Board_init, od_Board_init, .func (PySem.W.fnOf "__init__" "Board.__init__" (defArgs s_Board_init) (defBody s_Board_init) (defScope s_Board_init) .none kV_Board_init dc_Board_init pm_Board_init an_Board_init cd_Board_init ct_Board_init), sl_Board_init⟩)
    (e_Board_init : PySem.W.codeIn K cd_Board_init "Board.__init__" = true)
    (k_Board_init : PySem.W.keepIn K (.ref f_Board_init) = true)
    (a_Board_cells : PySem.W.findIn K (.ref CB) "cells" = some (some (.ref p_Board_cells)))
    (b_Board_cells : PySem.W.specialIn K (.ref p_Board_cells) "__get__" = some (some (.builtin "property.__get__")))
    (c_Board_cells : PySem.W.takesIn K (.ref p_Board_cells) = some true)
    (d_Board_cells : PySem.W.recIn K p_Board_cells "property" = some (.ref f_Board_cells :: r_Board_cells))
    (l_Board_cells : K.lookup f_Board_cells = some ⟨oc_Board_cells, od_Board_cells, .func (PySem.W.fnOf "cells" "Board.cells" (defArgs s_Board_cells) (defBody s_Board_cells) (defScope s_Board_cells) .none kV_Board_cells dc_Board_cells pm_Board_cells an_Board_cells cd_Board_cells ct_Board_cells), sl_Board_cells⟩)
    (e_Board_cells : PySem.W.codeIn K cd_Board_cells "Board.cells" = true)
    (k_Board_cells : PySem.W.keepIn K (.ref f_Board_cells) = true)
    (a_Board_rows : PySem.W.findIn K (.ref CB) "rows" = some (some (.ref p_Board_rows)))
    (b_Board_rows : PySem.W.specialIn K (.ref p_Board_rows) "__get__" = some (some (.builtin "property.__get__")))
    (c_Board_rows : PySem.W.takesIn K (.ref p_Board_rows) = some true)
    (d_Board_rows : PySem.W.recIn K p_Board_rows "property" = some (.ref f_Board_rows :: r_Board_rows))
    (l_Board_rows : K.lookup f_Board_rows = some ⟨oc_Board_rows, od_Board_rows, .func (PySem.W.fnOf "rows" "Board.rows" (defArgs s_Board_rows) (defBody s_Board_rows) (defScope s_Board_rows) .none kV_Board_rows dc_Board_rows pm_Board_rows an_Board_rows cd_Board_rows ct_Board_rows), sl_Board_rows⟩)
    (e_Board_rows : PySem.W.codeIn K cd_Board_rows "Board.rows" = true)
    (k_Board_rows : PySem.W.keepIn K (.ref f_Board_rows) = true)
    (a_Board_columns : PySem.W.findIn K (.ref CB) "columns" = some (some (.ref p_Board_columns)))
    (b_Board_columns : PySem.W.specialIn K (.ref p_Board_columns) "__get__" = some (some (.builtin "property.__get__")))
    (c_Board_columns : PySem.W.takesIn K (.ref p_Board_columns) = some true)
    (d_Board_columns : PySem.W.recIn K p_Board_columns "property" = some (.ref f_Board_columns :: r_Board_columns))
    (l_Board_columns : K.lookup f_Board_columns = some ⟨oc_Board_columns, od_Board_columns, .func (PySem.W.fnOf "columns" "Board.columns" (defArgs s_Board_columns) (defBody s_Board_columns) (defScope s_Board_columns) .none kV_Board_columns dc_Board_columns pm_Board_columns an_Board_columns cd_Board_columns ct_Board_columns), sl_Board_columns⟩)
    (e_Board_columns : PySem.W.codeIn K cd_Board_columns "Board.columns" = true)
    (k_Board_columns : PySem.W.keepIn K (.ref f_Board_columns) = true)
    (a_Board_len : PySem.W.findIn K (.ref CB) "__len__" = some (some (.ref f_Board_len)))
    (i_Board_len : PySem.W.isFn K (.ref f_Board_len) = true)
    (l_Board_len : K.lookup f_Board_len = some ⟨oc_Board_len, od_Board_len, .func (PySem.W.fnOf "__len__" "Board.__len__" (defArgs s_Board_len) (defBody s_Board_len) (defScope s_Board_len) .none kV_Board_len dc_Board_len pm_Board_len an_Board_len cd_Board_len ct_Board_len), sl_Board_len⟩)
    (e_Board_len : PySem.W.codeIn K cd_Board_len "Board.__len__" = true)
    (k_Board_len : PySem.W.keepIn K (.ref f_Board_len) = true)
    (a_need_board : PySem.W.nsIn K mainGlobals "need_board" = some (some (.ref f_need_board)))
    (l_need_board : K.lookup f_need_board = some ⟨oc_need_board, od_need_board, .func (PySem.W.fnOf "need_board" "need_board" (defArgs s_need_board) (defBody s_need_board) (defScope s_need_board) .none kV_need_board dc_need_board pm_need_board an_need_board cd_need_board ct_need_board), sl_need_board⟩)
    (e_need_board : PySem.W.codeIn K cd_need_board "need_board" = true)
    (k_need_board : PySem.W.keepIn K (.ref f_need_board) = true)
    (a_all_steps : PySem.W.nsIn K mainGlobals "all_steps" = some (some (.ref f_all_steps)))
    (l_all_steps : K.lookup f_all_steps = some ⟨oc_all_steps, od_all_steps, .func (PySem.W.fnOf "all_steps" "all_steps" (defArgs s_all_steps) (defBody s_all_steps) (defScope s_all_steps) .none kV_all_steps dc_all_steps pm_all_steps an_all_steps cd_all_steps ct_all_steps), sl_all_steps⟩)
    (e_all_steps : PySem.W.codeIn K cd_all_steps "all_steps" = true)
    (k_all_steps : PySem.W.keepIn K (.ref f_all_steps) = true)
    (a_is_cell_deed : PySem.W.nsIn K mainGlobals "is_cell_deed" = some (some (.ref f_is_cell_deed)))
    (l_is_cell_deed : K.lookup f_is_cell_deed = some ⟨oc_is_cell_deed, od_is_cell_deed, .func (PySem.W.fnOf "is_cell_deed" "is_cell_deed" (defArgs s_is_cell_deed) (defBody s_is_cell_deed) (defScope s_is_cell_deed) .none kV_is_cell_deed dc_is_cell_deed pm_is_cell_deed an_is_cell_deed cd_is_cell_deed ct_is_cell_deed), sl_is_cell_deed⟩)
    (e_is_cell_deed : PySem.W.codeIn K cd_is_cell_deed "is_cell_deed" = true)
    (k_is_cell_deed : PySem.W.keepIn K (.ref f_is_cell_deed) = true)
    (a_is_deed : PySem.W.nsIn K mainGlobals "is_deed" = some (some (.ref f_is_deed)))
    (l_is_deed : K.lookup f_is_deed = some ⟨oc_is_deed, od_is_deed, .func (PySem.W.fnOf "is_deed" "is_deed" (defArgs s_is_deed) (defBody s_is_deed) (defScope s_is_deed) .none kV_is_deed dc_is_deed pm_is_deed an_is_deed cd_is_deed ct_is_deed), sl_is_deed⟩)
    (e_is_deed : PySem.W.codeIn K cd_is_deed "is_deed" = true)
    (k_is_deed : PySem.W.keepIn K (.ref f_is_deed) = true)
    (a_need_builders : PySem.W.nsIn K mainGlobals "need_builders" = some (some (.ref f_need_builders)))
    (l_need_builders : K.lookup f_need_builders = some ⟨oc_need_builders, od_need_builders, .func (PySem.W.fnOf "need_builders" "need_builders" (defArgs s_need_builders) (defBody s_need_builders) (defScope s_need_builders) .none kV_need_builders dc_need_builders pm_need_builders an_need_builders cd_need_builders ct_need_builders), sl_need_builders⟩)
    (e_need_builders : PySem.W.codeIn K cd_need_builders "need_builders" = true)
    (k_need_builders : PySem.W.keepIn K (.ref f_need_builders) = true)
    (a_put_at : PySem.W.nsIn K mainGlobals "put_at" = some (some (.ref f_put_at)))
    (l_put_at : K.lookup f_put_at = some ⟨oc_put_at, od_put_at, .func (PySem.W.fnOf "put_at" "put_at" (defArgs s_put_at) (defBody s_put_at) (defScope s_put_at) .none kV_put_at dc_put_at pm_put_at an_put_at cd_put_at ct_put_at), sl_put_at⟩)
    (e_put_at : PySem.W.codeIn K cd_put_at "put_at" = true)
    (k_put_at : PySem.W.keepIn K (.ref f_put_at) = true)
    (a_put_sign : PySem.W.nsIn K mainGlobals "put_sign" = some (some (.ref f_put_sign)))
    (l_put_sign : K.lookup f_put_sign = some ⟨oc_put_sign, od_put_sign, .func (PySem.W.fnOf "put_sign" "put_sign" (defArgs s_put_sign) (defBody s_put_sign) (defScope s_put_sign) .none kV_put_sign dc_put_sign pm_put_sign an_put_sign cd_put_sign ct_put_sign), sl_put_sign⟩)
    (e_put_sign : PySem.W.codeIn K cd_put_sign "put_sign" = true)
    (k_put_sign : PySem.W.keepIn K (.ref f_put_sign) = true)
    (a_stand_together : PySem.W.nsIn K mainGlobals "stand_together" = some (some (.ref f_stand_together)))
    (l_stand_together : K.lookup f_stand_together = some ⟨oc_stand_together, od_stand_together, .func (PySem.W.fnOf "stand_together" "stand_together" (defArgs s_stand_together) (defBody s_stand_together) (defScope s_stand_together) .none kV_stand_together dc_stand_together pm_stand_together an_stand_together cd_stand_together ct_stand_together), sl_stand_together⟩)
    (e_stand_together : PySem.W.codeIn K cd_stand_together "stand_together" = true)
    (k_stand_together : PySem.W.keepIn K (.ref f_stand_together) = true)
    (a_deed_done : PySem.W.nsIn K mainGlobals "deed_done" = some (some (.ref f_deed_done)))
    (l_deed_done : K.lookup f_deed_done = some ⟨oc_deed_done, od_deed_done, .func (PySem.W.fnOf "deed_done" "deed_done" (defArgs s_deed_done) (defBody s_deed_done) (defScope s_deed_done) .none kV_deed_done dc_deed_done pm_deed_done an_deed_done cd_deed_done ct_deed_done), sl_deed_done⟩)
    (e_deed_done : PySem.W.codeIn K cd_deed_done "deed_done" = true)
    (k_deed_done : PySem.W.keepIn K (.ref f_deed_done) = true)
    (a_first_state : PySem.W.nsIn K mainGlobals "first_state" = some (some (.ref f_first_state)))
    (l_first_state : K.lookup f_first_state = some ⟨oc_first_state, od_first_state, .func (PySem.W.fnOf "first_state" "first_state" (defArgs s_first_state) (defBody s_first_state) (defScope s_first_state) .none kV_first_state dc_first_state pm_first_state an_first_state cd_first_state ct_first_state), sl_first_state⟩)
    (e_first_state : PySem.W.codeIn K cd_first_state "first_state" = true)
    (k_first_state : PySem.W.keepIn K (.ref f_first_state) = true)
    (a_all_movers : PySem.W.nsIn K mainGlobals "all_movers" = some (some (.ref f_all_movers)))
    (l_all_movers : K.lookup f_all_movers = some ⟨oc_all_movers, od_all_movers, .func (PySem.W.fnOf "all_movers" "all_movers" (defArgs s_all_movers) (defBody s_all_movers) (defScope s_all_movers) .none kV_all_movers dc_all_movers pm_all_movers an_all_movers cd_all_movers ct_all_movers), sl_all_movers⟩)
    (e_all_movers : PySem.W.codeIn K cd_all_movers "all_movers" = true)
    (k_all_movers : PySem.W.keepIn K (.ref f_all_movers) = true)
    (a_is_whole : PySem.W.nsIn K mainGlobals "is_whole" = some (some (.ref f_is_whole)))
    (l_is_whole : K.lookup f_is_whole = some ⟨oc_is_whole, od_is_whole, .func (PySem.W.fnOf "is_whole" "is_whole" (defArgs s_is_whole) (defBody s_is_whole) (defScope s_is_whole) .none kV_is_whole dc_is_whole pm_is_whole an_is_whole cd_is_whole ct_is_whole), sl_is_whole⟩)
    (e_is_whole : PySem.W.codeIn K cd_is_whole "is_whole" = true)
    (k_is_whole : PySem.W.keepIn K (.ref f_is_whole) = true)
    (a_leads_of : PySem.W.nsIn K mainGlobals "leads_of" = some (some (.ref f_leads_of)))
    (l_leads_of : K.lookup f_leads_of = some ⟨oc_leads_of, od_leads_of, .func (PySem.W.fnOf "leads_of" "leads_of" (defArgs s_leads_of) (defBody s_leads_of) (defScope s_leads_of) .none kV_leads_of dc_leads_of pm_leads_of an_leads_of cd_leads_of ct_leads_of), sl_leads_of⟩)
    (e_leads_of : PySem.W.codeIn K cd_leads_of "leads_of" = true)
    (k_leads_of : PySem.W.keepIn K (.ref f_leads_of) = true)
    (a_all_parts : PySem.W.nsIn K mainGlobals "all_parts" = some (some (.ref f_all_parts)))
    (l_all_parts : K.lookup f_all_parts = some ⟨oc_all_parts, od_all_parts, .func (PySem.W.fnOf "all_parts" "all_parts" (defArgs s_all_parts) (defBody s_all_parts) (defScope s_all_parts) .none kV_all_parts dc_all_parts pm_all_parts an_all_parts cd_all_parts ct_all_parts), sl_all_parts⟩)
    (e_all_parts : PySem.W.codeIn K cd_all_parts "all_parts" = true)
    (k_all_parts : PySem.W.keepIn K (.ref f_all_parts) = true)
    (a_holds : PySem.W.nsIn K mainGlobals "holds" = some (some (.ref f_holds)))
    (l_holds : K.lookup f_holds = some ⟨oc_holds, od_holds, .func (PySem.W.fnOf "holds" "holds" (defArgs s_holds) (defBody s_holds) (defScope s_holds) .none kV_holds dc_holds pm_holds an_holds cd_holds ct_holds), sl_holds⟩)
    (e_holds : PySem.W.codeIn K cd_holds "holds" = true)
    (k_holds : PySem.W.keepIn K (.ref f_holds) = true)
    (a_orders_by : PySem.W.nsIn K mainGlobals "orders_by" = some (some (.ref f_orders_by)))
    (l_orders_by : K.lookup f_orders_by = some ⟨oc_orders_by, od_orders_by, .func (PySem.W.fnOf "orders_by" "orders_by" (defArgs s_orders_by) (defBody s_orders_by) (defScope s_orders_by) .none kV_orders_by dc_orders_by pm_orders_by an_orders_by cd_orders_by ct_orders_by), sl_orders_by⟩)
    (e_orders_by : PySem.W.codeIn K cd_orders_by "orders_by" = true)
    (k_orders_by : PySem.W.keepIn K (.ref f_orders_by) = true)
    (a_ends : PySem.W.nsIn K mainGlobals "ends" = some (some (.ref f_ends)))
    (l_ends : K.lookup f_ends = some ⟨oc_ends, od_ends, .func (PySem.W.fnOf "ends" "ends" (defArgs s_ends) (defBody s_ends) (defScope s_ends) .none kV_ends dc_ends pm_ends an_ends cd_ends ct_ends), sl_ends⟩)
    (e_ends : PySem.W.codeIn K cd_ends "ends" = true)
    (k_ends : PySem.W.keepIn K (.ref f_ends) = true)
    (a_first_stuck : PySem.W.nsIn K mainGlobals "first_stuck" = some (some (.ref f_first_stuck)))
    (l_first_stuck : K.lookup f_first_stuck = some ⟨oc_first_stuck, od_first_stuck, .func (PySem.W.fnOf "first_stuck" "first_stuck" (defArgs s_first_stuck) (defBody s_first_stuck) (defScope s_first_stuck) .none kV_first_stuck dc_first_stuck pm_first_stuck an_first_stuck cd_first_stuck ct_first_stuck), sl_first_stuck⟩)
    (e_first_stuck : PySem.W.codeIn K cd_first_stuck "first_stuck" = true)
    (k_first_stuck : PySem.W.keepIn K (.ref f_first_stuck) = true)
    (a_many_orders : PySem.W.nsIn K mainGlobals "many_orders" = some (some (.ref f_many_orders)))
    (l_many_orders : K.lookup f_many_orders = some ⟨oc_many_orders, od_many_orders, .func (PySem.W.fnOf "many_orders" "many_orders" (defArgs s_many_orders) (defBody s_many_orders) (defScope s_many_orders) .none kV_many_orders dc_many_orders pm_many_orders an_many_orders cd_many_orders ct_many_orders), sl_many_orders⟩)
    (e_many_orders : PySem.W.codeIn K cd_many_orders "many_orders" = true)
    (k_many_orders : PySem.W.keepIn K (.ref f_many_orders) = true)
    (a_Firm_init : PySem.W.findIn K (.ref CF) "__init__" = some (some (.ref f_Firm_init)))
    (i_Firm_init : PySem.W.isFn K (.ref f_Firm_init) = true)
    (l_Firm_init : K.lookup f_Firm_init = some ⟨oc_Firm_init, od_Firm_init, .func (PySem.W.fnOf "__init__" "Firm.__init__" (defArgs s_Firm_init) (defBody s_Firm_init) (defScope s_Firm_init) .none kV_Firm_init dc_Firm_init pm_Firm_init an_Firm_init cd_Firm_init ct_Firm_init), sl_Firm_init⟩)
    (e_Firm_init : PySem.W.codeIn K cd_Firm_init "Firm.__init__" = true)
    (k_Firm_init : PySem.W.keepIn K (.ref f_Firm_init) = true)
    (a_Firm_stands : PySem.W.findIn K (.ref CF) "stands" = some (some (.ref f_Firm_stands)))
    (i_Firm_stands : PySem.W.isFn K (.ref f_Firm_stands) = true)
    (l_Firm_stands : K.lookup f_Firm_stands = some ⟨oc_Firm_stands, od_Firm_stands, .func (PySem.W.fnOf "stands" "Firm.stands" (defArgs s_Firm_stands) (defBody s_Firm_stands) (defScope s_Firm_stands) .none kV_Firm_stands dc_Firm_stands pm_Firm_stands an_Firm_stands cd_Firm_stands ct_Firm_stands), sl_Firm_stands⟩)
    (e_Firm_stands : PySem.W.codeIn K cd_Firm_stands "Firm.stands" = true)
    (k_Firm_stands : PySem.W.keepIn K (.ref f_Firm_stands) = true)
    (a_firm_order : PySem.W.nsIn K mainGlobals "firm_order" = some (some (.ref f_firm_order)))
    (l_firm_order : K.lookup f_firm_order = some ⟨oc_firm_order, od_firm_order, .func (PySem.W.fnOf "firm_order" "firm_order" (defArgs s_firm_order) (defBody s_firm_order) (defScope s_firm_order) .none kV_firm_order dc_firm_order pm_firm_order an_firm_order cd_firm_order ct_firm_order), sl_firm_order⟩)
    (e_firm_order : PySem.W.codeIn K cd_firm_order "firm_order" = true)
    (k_firm_order : PySem.W.keepIn K (.ref f_firm_order) = true)
    (a_l_put : PySem.W.nsIn K mainGlobals "_law_put" = some (some (.ref f_l_put)))
    (l_l_put : K.lookup f_l_put = some ⟨oc_l_put, od_l_put, .func (PySem.W.fnOf "_law_put" "_law_put" (defArgs s__law_put) (defBody s__law_put) (defScope s__law_put) .none kV_l_put dc_l_put pm_l_put an_l_put cd_l_put ct_l_put), sl_l_put⟩)
    (e_l_put : PySem.W.codeIn K cd_l_put "_law_put" = true)
    (k_l_put : PySem.W.keepIn K (.ref f_l_put) = true)
    (a_l_next_cells : PySem.W.nsIn K mainGlobals "_law_next_cells" = some (some (.ref f_l_next_cells)))
    (l_l_next_cells : K.lookup f_l_next_cells = some ⟨oc_l_next_cells, od_l_next_cells, .func (PySem.W.fnOf "_law_next_cells" "_law_next_cells" (defArgs s__law_next_cells) (defBody s__law_next_cells) (defScope s__law_next_cells) .none kV_l_next_cells dc_l_next_cells pm_l_next_cells an_l_next_cells cd_l_next_cells ct_l_next_cells), sl_l_next_cells⟩)
    (e_l_next_cells : PySem.W.codeIn K cd_l_next_cells "_law_next_cells" = true)
    (k_l_next_cells : PySem.W.keepIn K (.ref f_l_next_cells) = true)
    (a_l_many : PySem.W.nsIn K mainGlobals "_law_many" = some (some (.ref f_l_many)))
    (l_l_many : K.lookup f_l_many = some ⟨oc_l_many, od_l_many, .func (PySem.W.fnOf "_law_many" "_law_many" (defArgs s__law_many) (defBody s__law_many) (defScope s__law_many) .none kV_l_many dc_l_many pm_l_many an_l_many cd_l_many ct_l_many), sl_l_many⟩)
    (e_l_many : PySem.W.codeIn K cd_l_many "_law_many" = true)
    (k_l_many : PySem.W.keepIn K (.ref f_l_many) = true)
    (a_l_steps : PySem.W.nsIn K mainGlobals "_law_steps" = some (some (.ref f_l_steps)))
    (l_l_steps : K.lookup f_l_steps = some ⟨oc_l_steps, od_l_steps, .func (PySem.W.fnOf "_law_steps" "_law_steps" (defArgs s__law_steps) (defBody s__law_steps) (defScope s__law_steps) .none kV_l_steps dc_l_steps pm_l_steps an_l_steps cd_l_steps ct_l_steps), sl_l_steps⟩)
    (e_l_steps : PySem.W.codeIn K cd_l_steps "_law_steps" = true)
    (k_l_steps : PySem.W.keepIn K (.ref f_l_steps) = true)
    (a_l_leads : PySem.W.nsIn K mainGlobals "_law_leads" = some (some (.ref f_l_leads)))
    (l_l_leads : K.lookup f_l_leads = some ⟨oc_l_leads, od_l_leads, .func (PySem.W.fnOf "_law_leads" "_law_leads" (defArgs s__law_leads) (defBody s__law_leads) (defScope s__law_leads) .none kV_l_leads dc_l_leads pm_l_leads an_l_leads cd_l_leads ct_l_leads), sl_l_leads⟩)
    (e_l_leads : PySem.W.codeIn K cd_l_leads "_law_leads" = true)
    (k_l_leads : PySem.W.keepIn K (.ref f_l_leads) = true)
    (a_l_holds : PySem.W.nsIn K mainGlobals "_law_holds" = some (some (.ref f_l_holds)))
    (l_l_holds : K.lookup f_l_holds = some ⟨oc_l_holds, od_l_holds, .func (PySem.W.fnOf "_law_holds" "_law_holds" (defArgs s__law_holds) (defBody s__law_holds) (defScope s__law_holds) .none kV_l_holds dc_l_holds pm_l_holds an_l_holds cd_l_holds ct_l_holds), sl_l_holds⟩)
    (e_l_holds : PySem.W.codeIn K cd_l_holds "_law_holds" = true)
    (k_l_holds : PySem.W.keepIn K (.ref f_l_holds) = true)
    (a_l_whole_orders : PySem.W.nsIn K mainGlobals "_law_whole_orders" = some (some (.ref f_l_whole_orders)))
    (l_l_whole_orders : K.lookup f_l_whole_orders = some ⟨oc_l_whole_orders, od_l_whole_orders, .func (PySem.W.fnOf "_law_whole_orders" "_law_whole_orders" (defArgs s__law_whole_orders) (defBody s__law_whole_orders) (defScope s__law_whole_orders) .none kV_l_whole_orders dc_l_whole_orders pm_l_whole_orders an_l_whole_orders cd_l_whole_orders ct_l_whole_orders), sl_l_whole_orders⟩)
    (e_l_whole_orders : PySem.W.codeIn K cd_l_whole_orders "_law_whole_orders" = true)
    (k_l_whole_orders : PySem.W.keepIn K (.ref f_l_whole_orders) = true)
    (a_l_ends_firm : PySem.W.nsIn K mainGlobals "_law_ends_firm" = some (some (.ref f_l_ends_firm)))
    (l_l_ends_firm : K.lookup f_l_ends_firm = some ⟨oc_l_ends_firm, od_l_ends_firm, .func (PySem.W.fnOf "_law_ends_firm" "_law_ends_firm" (defArgs s__law_ends_firm) (defBody s__law_ends_firm) (defScope s__law_ends_firm) .none kV_l_ends_firm dc_l_ends_firm pm_l_ends_firm an_l_ends_firm cd_l_ends_firm ct_l_ends_firm), sl_l_ends_firm⟩)
    (e_l_ends_firm : PySem.W.codeIn K cd_l_ends_firm "_law_ends_firm" = true)
    (k_l_ends_firm : PySem.W.keepIn K (.ref f_l_ends_firm) = true)
    (a_l_least_firm : PySem.W.nsIn K mainGlobals "_law_least_firm" = some (some (.ref f_l_least_firm)))
    (l_l_least_firm : K.lookup f_l_least_firm = some ⟨oc_l_least_firm, od_l_least_firm, .func (PySem.W.fnOf "_law_least_firm" "_law_least_firm" (defArgs s__law_least_firm) (defBody s__law_least_firm) (defScope s__law_least_firm) .none kV_l_least_firm dc_l_least_firm pm_l_least_firm an_l_least_firm cd_l_least_firm ct_l_least_firm), sl_l_least_firm⟩)
    (e_l_least_firm : PySem.W.codeIn K cd_l_least_firm "_law_least_firm" = true)
    (k_l_least_firm : PySem.W.keepIn K (.ref f_l_least_firm) = true)
    (a_l_taken : PySem.W.nsIn K mainGlobals "_law_taken" = some (some (.ref f_l_taken)))
    (l_l_taken : K.lookup f_l_taken = some ⟨oc_l_taken, od_l_taken, .func (PySem.W.fnOf "_law_taken" "_law_taken" (defArgs s__law_taken) (defBody s__law_taken) (defScope s__law_taken) .none kV_l_taken dc_l_taken pm_l_taken an_l_taken cd_l_taken ct_l_taken), sl_l_taken⟩)
    (e_l_taken : PySem.W.codeIn K cd_l_taken "_law_taken" = true)
    (k_l_taken : PySem.W.keepIn K (.ref f_l_taken) = true)
    (a_l_cells : PySem.W.nsIn K mainGlobals "_law_cells" = some (some (.ref f_l_cells)))
    (l_l_cells : K.lookup f_l_cells = some ⟨oc_l_cells, od_l_cells, .func (PySem.W.fnOf "_law_cells" "_law_cells" (defArgs s__law_cells) (defBody s__law_cells) (defScope s__law_cells) .none kV_l_cells dc_l_cells pm_l_cells an_l_cells cd_l_cells ct_l_cells), sl_l_cells⟩)
    (e_l_cells : PySem.W.codeIn K cd_l_cells "_law_cells" = true)
    (k_l_cells : PySem.W.keepIn K (.ref f_l_cells) = true)
    (a_l_parted : PySem.W.nsIn K mainGlobals "_law_parted" = some (some (.ref f_l_parted)))
    (l_l_parted : K.lookup f_l_parted = some ⟨oc_l_parted, od_l_parted, .func (PySem.W.fnOf "_law_parted" "_law_parted" (defArgs s__law_parted) (defBody s__law_parted) (defScope s__law_parted) .none kV_l_parted dc_l_parted pm_l_parted an_l_parted cd_l_parted ct_l_parted), sl_l_parted⟩)
    (e_l_parted : PySem.W.codeIn K cd_l_parted "_law_parted" = true)
    (k_l_parted : PySem.W.keepIn K (.ref f_l_parted) = true)
    (a_l_alike : PySem.W.nsIn K mainGlobals "_law_alike" = some (some (.ref f_l_alike)))
    (l_l_alike : K.lookup f_l_alike = some ⟨oc_l_alike, od_l_alike, .func (PySem.W.fnOf "_law_alike" "_law_alike" (defArgs s__law_alike) (defBody s__law_alike) (defScope s__law_alike) .none kV_l_alike dc_l_alike pm_l_alike an_l_alike cd_l_alike ct_l_alike), sl_l_alike⟩)
    (e_l_alike : PySem.W.codeIn K cd_l_alike "_law_alike" = true)
    (k_l_alike : PySem.W.keepIn K (.ref f_l_alike) = true)
    (a_law : PySem.W.nsIn K mainGlobals "law" = some (some (.ref f_law)))
    (l_law : K.lookup f_law = some ⟨oc_law, od_law, .func (PySem.W.fnOf "law" "law" (defArgs s_law) (defBody s_law) (defScope s_law) .none kV_law dc_law pm_law an_law cd_law ct_law), sl_law⟩)
    (e_law : PySem.W.codeIn K cd_law "law" = true)
    (k_law : PySem.W.keepIn K (.ref f_law) = true)
    : FnOk P w K mg base CX0 25 f_law (PySem.W.fnOf "law" "law" (defArgs s_law) (defBody s_law) (defScope s_law) .none kV_law dc_law pm_law an_law cd_law ct_law) ["_law_script"] (spLaw K 0) := by
  rw [spLaw_any (D := CB)]
  have T : TX K mg CB CF AF := { z_len := PySem.W.mg_none_of X G z_len, z_range := PySem.W.mg_none_of X G z_range, z_isinstance := PySem.W.mg_none_of X G z_isinstance, z_all := PySem.W.mg_none_of X G z_all, z_sum := PySem.W.mg_none_of X G z_sum, z_sorted := PySem.W.mg_none_of X G z_sorted, z_set := PySem.W.mg_none_of X G z_set, z_tuple := PySem.W.mg_none_of X G z_tuple, z_int := PySem.W.mg_none_of X G z_int, z_bool := PySem.W.mg_none_of X G z_bool, z_str := PySem.W.mg_none_of X G z_str, z_list := PySem.W.mg_none_of X G z_list, z_enumerate := PySem.W.mg_none_of X G z_enumerate, z_zip := PySem.W.mg_none_of X G z_zip, g_SIGNS := ⟨_, PySem.W.mg_of X G g_SIGNS⟩, g_MOST_LINES := ⟨_, PySem.W.mg_of X G g_MOST_LINES⟩, g_MOST_BUILDERS := ⟨_, PySem.W.mg_of X G g_MOST_BUILDERS⟩, g_MOST_DEEDS := ⟨_, PySem.W.mg_of X G g_MOST_DEEDS⟩, g_EMPTY := ⟨_, PySem.W.mg_of X G g_EMPTY⟩, g_FILL := ⟨_, PySem.W.mg_of X G g_FILL⟩, g_CUT := ⟨_, PySem.W.mg_of X G g_CUT⟩, g_STAND := ⟨_, PySem.W.mg_of X G g_STAND⟩, g_LEAVE := ⟨_, PySem.W.mg_of X G g_LEAVE⟩, g_FILLED := PySem.W.mg_of X G g_FILLED, filled := ⟨oAF, _, _, _, _, lF, cF, dF⟩, g_Board := PySem.W.mg_of X G g_Board, g_Firm := PySem.W.mg_of X G g_Firm, cl := ⟨pgB, hdB, poB, saB⟩, clF := ⟨pgF, hdF, poF, saF⟩, nT := nT, nK := nK, ha := haB, hn := hnB, htk := htk, hm := hmB, me := kit_self }
  have n_is_from : Kn K mg "is_from" s_is_from := ⟨f_is_from, _, fun_mk l_is_from e_is_from k_is_from, PySem.W.mg_of X G a_is_from⟩
  have c_is_from := ok_is_from (P := P) (w := w) (base := base) n_is_from T 
  have n_is_line : Kn K mg "is_line" s_is_line := ⟨f_is_line, _, fun_mk l_is_line e_is_line k_is_line, PySem.W.mg_of X G a_is_line⟩
  have c_is_line := ok_is_line (P := P) (w := w) (base := base) n_is_line T 
  have F_Board_init := fun_mk (st := s_Board_init) l_Board_init e_Board_init k_Board_init
  have B_Board_init := F_Board_init.binds (ps := ["self", "cells"]) fun _ _ _ _ _ _ us hl => match us, hl with | [_, _], _ => rfl
  have o_Board_init := ok_Board_init (P := P) (w := w) (mg := mg) (base := base) F_Board_init T c_is_line
  have c_Board : Mak P w K mg base 2 CB ["self", "cells"] (spInit K CB) := ⟨_, _, ⟨mkB, a_Board_init, i_Board_init, kcB⟩, B_Board_init, o_Board_init⟩
  have F_Board_cells := fun_mk (st := s_Board_cells) l_Board_cells e_Board_cells k_Board_cells
  have B_Board_cells := F_Board_cells.binds (ps := ["self"]) fun _ _ _ _ _ _ us hl => match us, hl with | [_], _ => rfl
  have o_Board_cells := ok_Board_cells (P := P) (w := w) (mg := mg) (base := base) F_Board_cells T 
  have c_cells := (⟨_, _, _, ⟨a_Board_cells, b_Board_cells, c_Board_cells, _, d_Board_cells⟩, B_Board_cells, o_Board_cells⟩ : Prp P w K mg base 1 CB "cells" _)
  have F_Board_rows := fun_mk (st := s_Board_rows) l_Board_rows e_Board_rows k_Board_rows
  have B_Board_rows := F_Board_rows.binds (ps := ["self"]) fun _ _ _ _ _ _ us hl => match us, hl with | [_], _ => rfl
  have o_Board_rows := ok_Board_rows (P := P) (w := w) (mg := mg) (base := base) F_Board_rows T 
  have c_rows := (⟨_, _, _, ⟨a_Board_rows, b_Board_rows, c_Board_rows, _, d_Board_rows⟩, B_Board_rows, o_Board_rows⟩ : Prp P w K mg base 1 CB "rows" _)
  have F_Board_columns := fun_mk (st := s_Board_columns) l_Board_columns e_Board_columns k_Board_columns
  have B_Board_columns := F_Board_columns.binds (ps := ["self"]) fun _ _ _ _ _ _ us hl => match us, hl with | [_], _ => rfl
  have o_Board_columns := ok_Board_columns (P := P) (w := w) (mg := mg) (base := base) F_Board_columns T 
  have c_columns := (⟨_, _, _, ⟨a_Board_columns, b_Board_columns, c_Board_columns, _, d_Board_columns⟩, B_Board_columns, o_Board_columns⟩ : Prp P w K mg base 1 CB "columns" _)
  have F_Board_len := fun_mk (st := s_Board_len) l_Board_len e_Board_len k_Board_len
  have B_Board_len := F_Board_len.binds (ps := ["self"]) fun _ _ _ _ _ _ us hl => match us, hl with | [_], _ => rfl
  have o_Board_len := ok_Board_len (P := P) (w := w) (mg := mg) (base := base) F_Board_len T 
  have c_lenB : LenB P w K mg base 1 CB (spLen K CB) := ⟨_, _, a_Board_len, i_Board_len, B_Board_len, o_Board_len⟩
  have n_need_board : Kn K mg "need_board" s_need_board := ⟨f_need_board, _, fun_mk l_need_board e_need_board k_need_board, PySem.W.mg_of X G a_need_board⟩
  have c_need_board := ok_need_board (P := P) (w := w) (base := base) n_need_board T 
  have n_all_steps : Kn K mg "all_steps" s_all_steps := ⟨f_all_steps, _, fun_mk l_all_steps e_all_steps k_all_steps, PySem.W.mg_of X G a_all_steps⟩
  have c_all_steps := ok_all_steps (P := P) (w := w) (base := base) n_all_steps T 
  have n_is_cell_deed : Kn K mg "is_cell_deed" s_is_cell_deed := ⟨f_is_cell_deed, _, fun_mk l_is_cell_deed e_is_cell_deed k_is_cell_deed, PySem.W.mg_of X G a_is_cell_deed⟩
  have c_is_cell_deed := ok_is_cell_deed (P := P) (w := w) (base := base) n_is_cell_deed T c_is_from c_rows c_columns
  have n_is_deed : Kn K mg "is_deed" s_is_deed := ⟨f_is_deed, _, fun_mk l_is_deed e_is_deed k_is_deed, PySem.W.mg_of X G a_is_deed⟩
  have c_is_deed := ok_is_deed (P := P) (w := w) (base := base) n_is_deed T c_is_cell_deed
  have n_need_builders : Kn K mg "need_builders" s_need_builders := ⟨f_need_builders, _, fun_mk l_need_builders e_need_builders k_need_builders, PySem.W.mg_of X G a_need_builders⟩
  have c_need_builders := ok_need_builders (P := P) (w := w) (base := base) n_need_builders T c_need_board c_is_deed
  have n_put_at : Kn K mg "put_at" s_put_at := ⟨f_put_at, _, fun_mk l_put_at e_put_at k_put_at, PySem.W.mg_of X G a_put_at⟩
  have c_put_at := ok_put_at (P := P) (w := w) (base := base) n_put_at T 
  have n_put_sign : Kn K mg "put_sign" s_put_sign := ⟨f_put_sign, _, fun_mk l_put_sign e_put_sign k_put_sign, PySem.W.mg_of X G a_put_sign⟩
  have c_put_sign := ok_put_sign (P := P) (w := w) (base := base) n_put_sign T c_put_at
  have n_stand_together : Kn K mg "stand_together" s_stand_together := ⟨f_stand_together, _, fun_mk l_stand_together e_stand_together k_stand_together, PySem.W.mg_of X G a_stand_together⟩
  have c_stand_together := ok_stand_together (P := P) (w := w) (base := base) n_stand_together T 
  have n_deed_done : Kn K mg "deed_done" s_deed_done := ⟨f_deed_done, _, fun_mk l_deed_done e_deed_done k_deed_done, PySem.W.mg_of X G a_deed_done⟩
  have c_deed_done := ok_deed_done (P := P) (w := w) (base := base) n_deed_done T c_put_at c_put_sign c_stand_together
  have n_first_state : Kn K mg "first_state" s_first_state := ⟨f_first_state, _, fun_mk l_first_state e_first_state k_first_state, PySem.W.mg_of X G a_first_state⟩
  have c_first_state := ok_first_state (P := P) (w := w) (base := base) n_first_state T c_cells
  have n_all_movers : Kn K mg "all_movers" s_all_movers := ⟨f_all_movers, _, fun_mk l_all_movers e_all_movers k_all_movers, PySem.W.mg_of X G a_all_movers⟩
  have c_all_movers := ok_all_movers (P := P) (w := w) (base := base) n_all_movers T c_deed_done
  have n_is_whole : Kn K mg "is_whole" s_is_whole := ⟨f_is_whole, _, fun_mk l_is_whole e_is_whole k_is_whole, PySem.W.mg_of X G a_is_whole⟩
  have c_is_whole := ok_is_whole (P := P) (w := w) (base := base) n_is_whole T 
  have n_leads_of : Kn K mg "leads_of" s_leads_of := ⟨f_leads_of, _, fun_mk l_leads_of e_leads_of k_leads_of, PySem.W.mg_of X G a_leads_of⟩
  have c_leads_of := ok_leads_of (P := P) (w := w) (base := base) n_leads_of T c_all_steps c_lenB
  have n_all_parts : Kn K mg "all_parts" s_all_parts := ⟨f_all_parts, _, fun_mk l_all_parts e_all_parts k_all_parts, PySem.W.mg_of X G a_all_parts⟩
  have c_all_parts := ok_all_parts (P := P) (w := w) (base := base) n_all_parts T c_leads_of
  have n_holds : Kn K mg "holds" s_holds := ⟨f_holds, _, fun_mk l_holds e_holds k_holds, PySem.W.mg_of X G a_holds⟩
  have c_holds := ok_holds (P := P) (w := w) (base := base) n_holds T c_need_board c_all_parts
  have n_orders_by : Kn K mg "orders_by" s_orders_by := ⟨f_orders_by, _, fun_mk l_orders_by e_orders_by k_orders_by, PySem.W.mg_of X G a_orders_by⟩
  have c_orders_by := ok_orders_by (P := P) (w := w) (base := base) n_orders_by T c_first_state c_deed_done
  have n_ends : Kn K mg "ends" s_ends := ⟨f_ends, _, fun_mk l_ends e_ends k_ends, PySem.W.mg_of X G a_ends⟩
  have c_ends := ok_ends (P := P) (w := w) (base := base) n_ends T c_need_builders c_orders_by c_is_whole
  have n_first_stuck : Kn K mg "first_stuck" s_first_stuck := ⟨f_first_stuck, _, fun_mk l_first_stuck e_first_stuck k_first_stuck, PySem.W.mg_of X G a_first_stuck⟩
  have c_first_stuck := ok_first_stuck (P := P) (w := w) (base := base) n_first_stuck T c_need_builders c_orders_by c_is_whole c_all_movers
  have n_many_orders : Kn K mg "many_orders" s_many_orders := ⟨f_many_orders, _, fun_mk l_many_orders e_many_orders k_many_orders, PySem.W.mg_of X G a_many_orders⟩
  have c_many_orders := ok_many_orders (P := P) (w := w) (base := base) n_many_orders T c_need_builders c_orders_by c_is_whole c_all_movers c_first_state c_deed_done
  have F_Firm_init := fun_mk (st := s_Firm_init) l_Firm_init e_Firm_init k_Firm_init
  have B_Firm_init := F_Firm_init.binds (ps := ["self"]) fun _ _ _ _ _ _ us hl => match us, hl with | [_], _ => rfl
  have o_Firm_init := ok_Firm_init (P := P) (w := w) (mg := mg) (base := base) F_Firm_init T 
  have c_Firm : Mak P w K mg base 1 CF ["self"] (spFInit w CF K CB) := ⟨_, _, ⟨mkF, a_Firm_init, i_Firm_init, kcF⟩, B_Firm_init, o_Firm_init⟩
  have F_Firm_stands := fun_mk (st := s_Firm_stands) l_Firm_stands e_Firm_stands k_Firm_stands
  have B_Firm_stands := F_Firm_stands.binds (ps := ["self", "cells"]) fun _ _ _ _ _ _ us hl => match us, hl with | [_, _], _ => rfl
  have o_Firm_stands := ok_Firm_stands (P := P) (w := w) (mg := mg) (base := base) F_Firm_stands T c_holds c_Board
  have c_stands : Mth P w K mg base 6 CF "stands" ["self", "cells"] (spStands w CF K CB) := ⟨_, _, ⟨a_Firm_stands, i_Firm_stands, k_Firm_stands⟩, B_Firm_stands, o_Firm_stands⟩
  have n_firm_order : Kn K mg "firm_order" s_firm_order := ⟨f_firm_order, _, fun_mk l_firm_order e_firm_order k_firm_order, PySem.W.mg_of X G a_firm_order⟩
  have c_firm_order := ok_firm_order (P := P) (w := w) (base := base) n_firm_order T c_need_builders c_first_state c_deed_done c_is_whole c_Firm c_stands
  have n_l_put : Kn K mg "_law_put" s__law_put := ⟨f_l_put, _, fun_mk l_l_put e_l_put k_l_put, PySem.W.mg_of X G a_l_put⟩
  have c_l_put := ok_l_put (P := P) (w := w) (base := base) n_l_put T 
  have n_l_next_cells : Kn K mg "_law_next_cells" s__law_next_cells := ⟨f_l_next_cells, _, fun_mk l_l_next_cells e_l_next_cells k_l_next_cells, PySem.W.mg_of X G a_l_next_cells⟩
  have c_l_next_cells := ok_l_next_cells (P := P) (w := w) (base := base) n_l_next_cells T c_l_put
  have n_l_many : Kn K mg "_law_many" s__law_many := ⟨f_l_many, _, fun_mk l_l_many e_l_many k_l_many, PySem.W.mg_of X G a_l_many⟩
  have c_l_many := ok_l_many (P := P) (w := w) (base := base) n_l_many T 
  have n_l_steps : Kn K mg "_law_steps" s__law_steps := ⟨f_l_steps, _, fun_mk l_l_steps e_l_steps k_l_steps, PySem.W.mg_of X G a_l_steps⟩
  have c_l_steps := ok_l_steps (P := P) (w := w) (base := base) n_l_steps T 
  have n_l_leads : Kn K mg "_law_leads" s__law_leads := ⟨f_l_leads, _, fun_mk l_l_leads e_l_leads k_l_leads, PySem.W.mg_of X G a_l_leads⟩
  have c_l_leads := ok_l_leads (P := P) (w := w) (base := base) n_l_leads T c_l_steps c_l_many
  have n_l_holds : Kn K mg "_law_holds" s__law_holds := ⟨f_l_holds, _, fun_mk l_l_holds e_l_holds k_l_holds, PySem.W.mg_of X G a_l_holds⟩
  have c_l_holds := ok_l_holds (P := P) (w := w) (base := base) n_l_holds T c_l_leads c_l_many
  have n_l_whole_orders : Kn K mg "_law_whole_orders" s__law_whole_orders := ⟨f_l_whole_orders, _, fun_mk l_l_whole_orders e_l_whole_orders k_l_whole_orders, PySem.W.mg_of X G a_l_whole_orders⟩
  have c_l_whole_orders := ok_l_whole_orders (P := P) (w := w) (base := base) n_l_whole_orders T 
  have n_l_ends_firm : Kn K mg "_law_ends_firm" s__law_ends_firm := ⟨f_l_ends_firm, _, fun_mk l_l_ends_firm e_l_ends_firm k_l_ends_firm, PySem.W.mg_of X G a_l_ends_firm⟩
  have c_l_ends_firm : Cal P w K mg base 23 "_law_ends_firm" ["_law_cells_here", "_law_builders", "_law_places", "_law_known"] (spEF 19 w K CB) := ok_efirm n_l_ends_firm T c_l_holds c_l_next_cells 19
  have n_l_least_firm : Kn K mg "_law_least_firm" s__law_least_firm := ⟨f_l_least_firm, _, fun_mk l_l_least_firm e_l_least_firm k_l_least_firm, PySem.W.mg_of X G a_l_least_firm⟩
  have c_l_least_firm := ok_l_least_firm (P := P) (w := w) (base := base) n_l_least_firm T c_l_next_cells c_l_ends_firm
  have n_l_taken : Kn K mg "_law_taken" s__law_taken := ⟨f_l_taken, _, fun_mk l_l_taken e_l_taken k_l_taken, PySem.W.mg_of X G a_l_taken⟩
  have c_l_taken := ok_l_taken (P := P) (w := w) (base := base) n_l_taken T 
  have n_l_cells : Kn K mg "_law_cells" s__law_cells := ⟨f_l_cells, _, fun_mk l_l_cells e_l_cells k_l_cells, PySem.W.mg_of X G a_l_cells⟩
  have c_l_cells := ok_l_cells (P := P) (w := w) (base := base) n_l_cells T c_l_taken
  have n_l_parted : Kn K mg "_law_parted" s__law_parted := ⟨f_l_parted, _, fun_mk l_l_parted e_l_parted k_l_parted, PySem.W.mg_of X G a_l_parted⟩
  have c_l_parted := ok_l_parted (P := P) (w := w) (base := base) n_l_parted T c_l_taken
  have n_l_alike : Kn K mg "_law_alike" s__law_alike := ⟨f_l_alike, _, fun_mk l_l_alike e_l_alike k_l_alike, PySem.W.mg_of X G a_l_alike⟩
  have c_l_alike : Cal P w K mg base 6 "_law_alike" ["_law_found", "_law_due"] (spAlike 5 K CB) := ok_al n_l_alike T 5
  have F_law := fun_mk (st := s_law) l_law e_law k_law
  exact ok_law (P := P) (w := w) (mg := mg) (base := base) F_law T c_l_cells c_l_taken c_l_parted c_Board c_l_put c_ends c_first_stuck c_many_orders c_l_alike c_l_whole_orders c_l_holds c_holds c_firm_order c_l_least_firm
theorem all_mk {P : Program} {w : World} {K : PySem.W.Frag} {h : Heap} {mg : Str → Option Value} {fa : Addr} (X : K.In h) (G : h.Ns mainGlobals mg) (hfa : mg "law" = some (.ref fa)) {CB CF AF : Addr} {oAF : Obj} {tF1 tF2 tF3 : Tok} {nAF : Nat} {t_SIGNS : Tok} {t_MOST_LINES : Tok} {t_MOST_BUILDERS : Tok} {t_MOST_DEEDS : Tok} {t_EMPTY : Tok} {t_FILL : Tok} {t_CUT : Tok} {t_STAND : Tok} {t_LEAVE : Tok} {f_is_from : Addr} {oc_is_from dc_is_from pm_is_from kV_is_from cd_is_from ct_is_from : Value} {od_is_from an_is_from : Option Addr} {sl_is_from : Array (Option Value)} {f_is_line : Addr} {oc_is_line dc_is_line pm_is_line kV_is_line cd_is_line ct_is_line : Value} {od_is_line an_is_line : Option Addr} {sl_is_line : Array (Option Value)} {f_Board_init : Addr} {oc_Board_init dc_Board_init pm_Board_init kV_Board_init cd_Board_init ct_Board_init : Value} {od_Board_init an_Board_init : Option Addr} {sl_Board_init : Array (Option Value)} {p_Board_cells : Addr} {r_Board_cells : List Value} {f_Board_cells : Addr} {oc_Board_cells dc_Board_cells pm_Board_cells kV_Board_cells cd_Board_cells ct_Board_cells : Value} {od_Board_cells an_Board_cells : Option Addr} {sl_Board_cells : Array (Option Value)} {p_Board_rows : Addr} {r_Board_rows : List Value} {f_Board_rows : Addr} {oc_Board_rows dc_Board_rows pm_Board_rows kV_Board_rows cd_Board_rows ct_Board_rows : Value} {od_Board_rows an_Board_rows : Option Addr} {sl_Board_rows : Array (Option Value)} {p_Board_columns : Addr} {r_Board_columns : List Value} {f_Board_columns : Addr} {oc_Board_columns dc_Board_columns pm_Board_columns kV_Board_columns cd_Board_columns ct_Board_columns : Value} {od_Board_columns an_Board_columns : Option Addr} {sl_Board_columns : Array (Option Value)} {f_Board_len : Addr} {oc_Board_len dc_Board_len pm_Board_len kV_Board_len cd_Board_len ct_Board_len : Value} {od_Board_len an_Board_len : Option Addr} {sl_Board_len : Array (Option Value)} {f_need_board : Addr} {oc_need_board dc_need_board pm_need_board kV_need_board cd_need_board ct_need_board : Value} {od_need_board an_need_board : Option Addr} {sl_need_board : Array (Option Value)} {f_all_steps : Addr} {oc_all_steps dc_all_steps pm_all_steps kV_all_steps cd_all_steps ct_all_steps : Value} {od_all_steps an_all_steps : Option Addr} {sl_all_steps : Array (Option Value)} {f_is_cell_deed : Addr} {oc_is_cell_deed dc_is_cell_deed pm_is_cell_deed kV_is_cell_deed cd_is_cell_deed ct_is_cell_deed : Value} {od_is_cell_deed an_is_cell_deed : Option Addr} {sl_is_cell_deed : Array (Option Value)} {f_is_deed : Addr} {oc_is_deed dc_is_deed pm_is_deed kV_is_deed cd_is_deed ct_is_deed : Value} {od_is_deed an_is_deed : Option Addr} {sl_is_deed : Array (Option Value)} {f_need_builders : Addr} {oc_need_builders dc_need_builders pm_need_builders kV_need_builders cd_need_builders ct_need_builders : Value} {od_need_builders an_need_builders : Option Addr} {sl_need_builders : Array (Option Value)} {f_put_at : Addr} {oc_put_at dc_put_at pm_put_at kV_put_at cd_put_at ct_put_at : Value} {od_put_at an_put_at : Option Addr} {sl_put_at : Array (Option Value)} {f_put_sign : Addr} {oc_put_sign dc_put_sign pm_put_sign kV_put_sign cd_put_sign ct_put_sign : Value} {od_put_sign an_put_sign : Option Addr} {sl_put_sign : Array (Option Value)} {f_stand_together : Addr} {oc_stand_together dc_stand_together pm_stand_together kV_stand_together cd_stand_together ct_stand_together : Value} {od_stand_together an_stand_together : Option Addr} {sl_stand_together : Array (Option Value)} {f_deed_done : Addr} {oc_deed_done dc_deed_done pm_deed_done kV_deed_done cd_deed_done ct_deed_done : Value} {od_deed_done an_deed_done : Option Addr} {sl_deed_done : Array (Option Value)} {f_first_state : Addr} {oc_first_state dc_first_state pm_first_state kV_first_state cd_first_state ct_first_state : Value} {od_first_state an_first_state : Option Addr} {sl_first_state : Array (Option Value)} {f_all_movers : Addr} {oc_all_movers dc_all_movers pm_all_movers kV_all_movers cd_all_movers ct_all_movers : Value} {od_all_movers an_all_movers : Option Addr} {sl_all_movers : Array (Option Value)} {f_is_whole : Addr} {oc_is_whole dc_is_whole pm_is_whole kV_is_whole cd_is_whole ct_is_whole : Value} {od_is_whole an_is_whole : Option Addr} {sl_is_whole : Array (Option Value)} {f_leads_of : Addr} {oc_leads_of dc_leads_of pm_leads_of kV_leads_of cd_leads_of ct_leads_of : Value} {od_leads_of an_leads_of : Option Addr} {sl_leads_of : Array (Option Value)} {f_all_parts : Addr} {oc_all_parts dc_all_parts pm_all_parts kV_all_parts cd_all_parts ct_all_parts : Value} {od_all_parts an_all_parts : Option Addr} {sl_all_parts : Array (Option Value)} {f_holds : Addr} {oc_holds dc_holds pm_holds kV_holds cd_holds ct_holds : Value} {od_holds an_holds : Option Addr} {sl_holds : Array (Option Value)} {f_orders_by : Addr} {oc_orders_by dc_orders_by pm_orders_by kV_orders_by cd_orders_by ct_orders_by : Value} {od_orders_by an_orders_by : Option Addr} {sl_orders_by : Array (Option Value)} {f_ends : Addr} {oc_ends dc_ends pm_ends kV_ends cd_ends ct_ends : Value} {od_ends an_ends : Option Addr} {sl_ends : Array (Option Value)} {f_first_stuck : Addr} {oc_first_stuck dc_first_stuck pm_first_stuck kV_first_stuck cd_first_stuck ct_first_stuck : Value} {od_first_stuck an_first_stuck : Option Addr} {sl_first_stuck : Array (Option Value)} {f_many_orders : Addr} {oc_many_orders dc_many_orders pm_many_orders kV_many_orders cd_many_orders ct_many_orders : Value} {od_many_orders an_many_orders : Option Addr} {sl_many_orders : Array (Option Value)} {f_Firm_init : Addr} {oc_Firm_init dc_Firm_init pm_Firm_init kV_Firm_init cd_Firm_init ct_Firm_init : Value} {od_Firm_init an_Firm_init : Option Addr} {sl_Firm_init : Array (Option Value)} {f_Firm_stands : Addr} {oc_Firm_stands dc_Firm_stands pm_Firm_stands kV_Firm_stands cd_Firm_stands ct_Firm_stands : Value} {od_Firm_stands an_Firm_stands : Option Addr} {sl_Firm_stands : Array (Option Value)} {f_firm_order : Addr} {oc_firm_order dc_firm_order pm_firm_order kV_firm_order cd_firm_order ct_firm_order : Value} {od_firm_order an_firm_order : Option Addr} {sl_firm_order : Array (Option Value)} {f_l_put : Addr} {oc_l_put dc_l_put pm_l_put kV_l_put cd_l_put ct_l_put : Value} {od_l_put an_l_put : Option Addr} {sl_l_put : Array (Option Value)} {f_l_next_cells : Addr} {oc_l_next_cells dc_l_next_cells pm_l_next_cells kV_l_next_cells cd_l_next_cells ct_l_next_cells : Value} {od_l_next_cells an_l_next_cells : Option Addr} {sl_l_next_cells : Array (Option Value)} {f_l_many : Addr} {oc_l_many dc_l_many pm_l_many kV_l_many cd_l_many ct_l_many : Value} {od_l_many an_l_many : Option Addr} {sl_l_many : Array (Option Value)} {f_l_steps : Addr} {oc_l_steps dc_l_steps pm_l_steps kV_l_steps cd_l_steps ct_l_steps : Value} {od_l_steps an_l_steps : Option Addr} {sl_l_steps : Array (Option Value)} {f_l_leads : Addr} {oc_l_leads dc_l_leads pm_l_leads kV_l_leads cd_l_leads ct_l_leads : Value} {od_l_leads an_l_leads : Option Addr} {sl_l_leads : Array (Option Value)} {f_l_holds : Addr} {oc_l_holds dc_l_holds pm_l_holds kV_l_holds cd_l_holds ct_l_holds : Value} {od_l_holds an_l_holds : Option Addr} {sl_l_holds : Array (Option Value)} {f_l_whole_orders : Addr} {oc_l_whole_orders dc_l_whole_orders pm_l_whole_orders kV_l_whole_orders cd_l_whole_orders ct_l_whole_orders : Value} {od_l_whole_orders an_l_whole_orders : Option Addr} {sl_l_whole_orders : Array (Option Value)} {f_l_ends_firm : Addr} {oc_l_ends_firm dc_l_ends_firm pm_l_ends_firm kV_l_ends_firm cd_l_ends_firm ct_l_ends_firm : Value} {od_l_ends_firm an_l_ends_firm : Option Addr} {sl_l_ends_firm : Array (Option Value)} {f_l_least_firm : Addr} {oc_l_least_firm dc_l_least_firm pm_l_least_firm kV_l_least_firm cd_l_least_firm ct_l_least_firm : Value} {od_l_least_firm an_l_least_firm : Option Addr} {sl_l_least_firm : Array (Option Value)} {f_l_taken : Addr} {oc_l_taken dc_l_taken pm_l_taken kV_l_taken cd_l_taken ct_l_taken : Value} {od_l_taken an_l_taken : Option Addr} {sl_l_taken : Array (Option Value)} {f_l_cells : Addr} {oc_l_cells dc_l_cells pm_l_cells kV_l_cells cd_l_cells ct_l_cells : Value} {od_l_cells an_l_cells : Option Addr} {sl_l_cells : Array (Option Value)} {f_l_parted : Addr} {oc_l_parted dc_l_parted pm_l_parted kV_l_parted cd_l_parted ct_l_parted : Value} {od_l_parted an_l_parted : Option Addr} {sl_l_parted : Array (Option Value)} {f_l_alike : Addr} {oc_l_alike dc_l_alike pm_l_alike kV_l_alike cd_l_alike ct_l_alike : Value} {od_l_alike an_l_alike : Option Addr} {sl_l_alike : Array (Option Value)} {f_law : Addr} {oc_law dc_law pm_law kV_law cd_law ct_law : Value} {od_law an_law : Option Addr} {sl_law : Array (Option Value)}
    (z_len : PySem.W.nsIn K mainGlobals "len" = some none)
    (z_range : PySem.W.nsIn K mainGlobals "range" = some none)
    (z_isinstance : PySem.W.nsIn K mainGlobals "isinstance" = some none)
    (z_all : PySem.W.nsIn K mainGlobals "all" = some none)
    (z_sum : PySem.W.nsIn K mainGlobals "sum" = some none)
    (z_sorted : PySem.W.nsIn K mainGlobals "sorted" = some none)
    (z_set : PySem.W.nsIn K mainGlobals "set" = some none)
    (z_tuple : PySem.W.nsIn K mainGlobals "tuple" = some none)
    (z_int : PySem.W.nsIn K mainGlobals "int" = some none)
    (z_bool : PySem.W.nsIn K mainGlobals "bool" = some none)
    (z_str : PySem.W.nsIn K mainGlobals "str" = some none)
    (z_list : PySem.W.nsIn K mainGlobals "list" = some none)
    (z_enumerate : PySem.W.nsIn K mainGlobals "enumerate" = some none)
    (z_zip : PySem.W.nsIn K mainGlobals "zip" = some none)
    (g_SIGNS : PySem.W.nsIn K mainGlobals "SIGNS" = some (some (.str ".<>x" t_SIGNS)))
    (g_MOST_LINES : PySem.W.nsIn K mainGlobals "MOST_LINES" = some (some (.int 5 t_MOST_LINES)))
    (g_MOST_BUILDERS : PySem.W.nsIn K mainGlobals "MOST_BUILDERS" = some (some (.int 3 t_MOST_BUILDERS)))
    (g_MOST_DEEDS : PySem.W.nsIn K mainGlobals "MOST_DEEDS" = some (some (.int 6 t_MOST_DEEDS)))
    (g_EMPTY : PySem.W.nsIn K mainGlobals "EMPTY" = some (some (.str "." t_EMPTY)))
    (g_FILL : PySem.W.nsIn K mainGlobals "FILL" = some (some (.str "fill" t_FILL)))
    (g_CUT : PySem.W.nsIn K mainGlobals "CUT" = some (some (.str "cut" t_CUT)))
    (g_STAND : PySem.W.nsIn K mainGlobals "STAND" = some (some (.str "stand" t_STAND)))
    (g_LEAVE : PySem.W.nsIn K mainGlobals "LEAVE" = some (some (.str "leave" t_LEAVE)))
    (g_FILLED : PySem.W.nsIn K mainGlobals "FILLED" = some (some (.ref AF)))
    (lF : K.lookup AF = some oAF)
    (cF : oAF.cls = .type "tuple")
    (dF : oAF.data = .seq #[.str "<" tF1, .str ">" tF2, .str "x" tF3] nAF)
    (g_Board : PySem.W.nsIn K mainGlobals "Board" = some (some (.ref CB)))
    (pgB : PySem.W.plainGet K CB Str.empty = true)
    (hdB : PySem.W.hasDictIn K CB = true)
    (poB : PySem.W.plainOver K CB = true)
    (saB : PySem.W.findIn K (.ref CB) "__setattr__" = some (some (.builtin "object.__setattr__")))
    (mkB : PySem.W.makesIn K CB = true)
    (kcB : PySem.W.keepIn K (.ref CB) = true)
    (g_Firm : PySem.W.nsIn K mainGlobals "Firm" = some (some (.ref CF)))
    (pgF : PySem.W.plainGet K CF Str.empty = true)
    (hdF : PySem.W.hasDictIn K CF = true)
    (poF : PySem.W.plainOver K CF = true)
    (saF : PySem.W.findIn K (.ref CF) "__setattr__" = some (some (.builtin "object.__setattr__")))
    (mkF : PySem.W.makesIn K CF = true)
    (kcF : PySem.W.keepIn K (.ref CF) = true)
    (nT : PySem.W.findIn K (.ref CB) "table" = some none)
    (nK : PySem.W.findIn K (.ref CF) "known" = some none)
    (haB : PySem.W.findIn K (.ref CB) "__class__" = some (some (.builtin "object.__class__")))
    (hnB : PySem.W.specialIn K (.builtin "object.__class__") "__get__" = some (some (.builtin "getset_descriptor.__get__")))
    (htk : PySem.W.takesIn K (.builtin "object.__class__") = some true)
    (hmB : PySem.W.mroIn K CB (.type "object") = some true)
    (a_is_from : PySem.W.nsIn K mainGlobals "is_from" = some (some (.ref f_is_from)))
    (l_is_from : K.lookup f_is_from = some ⟨oc_is_from, od_is_from, .func (PySem.W.fnOf "is_from" "is_from" (defArgs s_is_from) (defBody s_is_from) (defScope s_is_from) .none kV_is_from dc_is_from pm_is_from an_is_from cd_is_from ct_is_from), sl_is_from⟩)
    (e_is_from : PySem.W.codeIn K cd_is_from "is_from" = true)
    (k_is_from : PySem.W.keepIn K (.ref f_is_from) = true)
    (a_is_line : PySem.W.nsIn K mainGlobals "is_line" = some (some (.ref f_is_line)))
    (l_is_line : K.lookup f_is_line = some ⟨oc_is_line, od_is_line, .func (PySem.W.fnOf "is_line" "is_line" (defArgs s_is_line) (defBody s_is_line) (defScope s_is_line) .none kV_is_line dc_is_line pm_is_line an_is_line cd_is_line ct_is_line), sl_is_line⟩)
    (e_is_line : PySem.W.codeIn K cd_is_line "is_line" = true)
    (k_is_line : PySem.W.keepIn K (.ref f_is_line) = true)
    (a_Board_init : PySem.W.findIn K (.ref CB) "__init__" = some (some (.ref f_Board_init)))
    (i_Board_init : PySem.W.isFn K (.ref f_Board_init) = true)
    (l_Board_init : K.lookup f_Board_init = some ⟨oc_Board_init, od_Board_init, .func (PySem.W.fnOf "__init__" "Board.__init__" (defArgs s_Board_init) (defBody s_Board_init) (defScope s_Board_init) .none kV_Board_init dc_Board_init pm_Board_init an_Board_init cd_Board_init ct_Board_init), sl_Board_init⟩)
    (e_Board_init : PySem.W.codeIn K cd_Board_init "Board.__init__" = true)
    (k_Board_init : PySem.W.keepIn K (.ref f_Board_init) = true)
    (a_Board_cells : PySem.W.findIn K (.ref CB) "cells" = some (some (.ref p_Board_cells)))
    (b_Board_cells : PySem.W.specialIn K (.ref p_Board_cells) "__get__" = some (some (.builtin "property.__get__")))
    (c_Board_cells : PySem.W.takesIn K (.ref p_Board_cells) = some true)
    (d_Board_cells : PySem.W.recIn K p_Board_cells "property" = some (.ref f_Board_cells :: r_Board_cells))
    (l_Board_cells : K.lookup f_Board_cells = some ⟨oc_Board_cells, od_Board_cells, .func (PySem.W.fnOf "cells" "Board.cells" (defArgs s_Board_cells) (defBody s_Board_cells) (defScope s_Board_cells) .none kV_Board_cells dc_Board_cells pm_Board_cells an_Board_cells cd_Board_cells ct_Board_cells), sl_Board_cells⟩)
    (e_Board_cells : PySem.W.codeIn K cd_Board_cells "Board.cells" = true)
    (k_Board_cells : PySem.W.keepIn K (.ref f_Board_cells) = true)
    (a_Board_rows : PySem.W.findIn K (.ref CB) "rows" = some (some (.ref p_Board_rows)))
    (b_Board_rows : PySem.W.specialIn K (.ref p_Board_rows) "__get__" = some (some (.builtin "property.__get__")))
    (c_Board_rows : PySem.W.takesIn K (.ref p_Board_rows) = some true)
    (d_Board_rows : PySem.W.recIn K p_Board_rows "property" = some (.ref f_Board_rows :: r_Board_rows))
    (l_Board_rows : K.lookup f_Board_rows = some ⟨oc_Board_rows, od_Board_rows, .func (PySem.W.fnOf "rows" "Board.rows" (defArgs s_Board_rows) (defBody s_Board_rows) (defScope s_Board_rows) .none kV_Board_rows dc_Board_rows pm_Board_rows an_Board_rows cd_Board_rows ct_Board_rows), sl_Board_rows⟩)
    (e_Board_rows : PySem.W.codeIn K cd_Board_rows "Board.rows" = true)
    (k_Board_rows : PySem.W.keepIn K (.ref f_Board_rows) = true)
    (a_Board_columns : PySem.W.findIn K (.ref CB) "columns" = some (some (.ref p_Board_columns)))
    (b_Board_columns : PySem.W.specialIn K (.ref p_Board_columns) "__get__" = some (some (.builtin "property.__get__")))
    (c_Board_columns : PySem.W.takesIn K (.ref p_Board_columns) = some true)
    (d_Board_columns : PySem.W.recIn K p_Board_columns "property" = some (.ref f_Board_columns :: r_Board_columns))
    (l_Board_columns : K.lookup f_Board_columns = some ⟨oc_Board_columns, od_Board_columns, .func (PySem.W.fnOf "columns" "Board.columns" (defArgs s_Board_columns) (defBody s_Board_columns) (defScope s_Board_columns) .none kV_Board_columns dc_Board_columns pm_Board_columns an_Board_columns cd_Board_columns ct_Board_columns), sl_Board_columns⟩)
    (e_Board_columns : PySem.W.codeIn K cd_Board_columns "Board.columns" = true)
    (k_Board_columns : PySem.W.keepIn K (.ref f_Board_columns) = true)
    (a_Board_len : PySem.W.findIn K (.ref CB) "__len__" = some (some (.ref f_Board_len)))
    (i_Board_len : PySem.W.isFn K (.ref f_Board_len) = true)
    (l_Board_len : K.lookup f_Board_len = some ⟨oc_Board_len, od_Board_len, .func (PySem.W.fnOf "__len__" "Board.__len__" (defArgs s_Board_len) (defBody s_Board_len) (defScope s_Board_len) .none kV_Board_len dc_Board_len pm_Board_len an_Board_len cd_Board_len ct_Board_len), sl_Board_len⟩)
    (e_Board_len : PySem.W.codeIn K cd_Board_len "Board.__len__" = true)
    (k_Board_len : PySem.W.keepIn K (.ref f_Board_len) = true)
    (a_need_board : PySem.W.nsIn K mainGlobals "need_board" = some (some (.ref f_need_board)))
    (l_need_board : K.lookup f_need_board = some ⟨oc_need_board, od_need_board, .func (PySem.W.fnOf "need_board" "need_board" (defArgs s_need_board) (defBody s_need_board) (defScope s_need_board) .none kV_need_board dc_need_board pm_need_board an_need_board cd_need_board ct_need_board), sl_need_board⟩)
    (e_need_board : PySem.W.codeIn K cd_need_board "need_board" = true)
    (k_need_board : PySem.W.keepIn K (.ref f_need_board) = true)
    (a_all_steps : PySem.W.nsIn K mainGlobals "all_steps" = some (some (.ref f_all_steps)))
    (l_all_steps : K.lookup f_all_steps = some ⟨oc_all_steps, od_all_steps, .func (PySem.W.fnOf "all_steps" "all_steps" (defArgs s_all_steps) (defBody s_all_steps) (defScope s_all_steps) .none kV_all_steps dc_all_steps pm_all_steps an_all_steps cd_all_steps ct_all_steps), sl_all_steps⟩)
    (e_all_steps : PySem.W.codeIn K cd_all_steps "all_steps" = true)
    (k_all_steps : PySem.W.keepIn K (.ref f_all_steps) = true)
    (a_is_cell_deed : PySem.W.nsIn K mainGlobals "is_cell_deed" = some (some (.ref f_is_cell_deed)))
    (l_is_cell_deed : K.lookup f_is_cell_deed = some ⟨oc_is_cell_deed, od_is_cell_deed, .func (PySem.W.fnOf "is_cell_deed" "is_cell_deed" (defArgs s_is_cell_deed) (defBody s_is_cell_deed) (defScope s_is_cell_deed) .none kV_is_cell_deed dc_is_cell_deed pm_is_cell_deed an_is_cell_deed cd_is_cell_deed ct_is_cell_deed), sl_is_cell_deed⟩)
    (e_is_cell_deed : PySem.W.codeIn K cd_is_cell_deed "is_cell_deed" = true)
    (k_is_cell_deed : PySem.W.keepIn K (.ref f_is_cell_deed) = true)
    (a_is_deed : PySem.W.nsIn K mainGlobals "is_deed" = some (some (.ref f_is_deed)))
    (l_is_deed : K.lookup f_is_deed = some ⟨oc_is_deed, od_is_deed, .func (PySem.W.fnOf "is_deed" "is_deed" (defArgs s_is_deed) (defBody s_is_deed) (defScope s_is_deed) .none kV_is_deed dc_is_deed pm_is_deed an_is_deed cd_is_deed ct_is_deed), sl_is_deed⟩)
    (e_is_deed : PySem.W.codeIn K cd_is_deed "is_deed" = true)
    (k_is_deed : PySem.W.keepIn K (.ref f_is_deed) = true)
    (a_need_builders : PySem.W.nsIn K mainGlobals "need_builders" = some (some (.ref f_need_builders)))
    (l_need_builders : K.lookup f_need_builders = some ⟨oc_need_builders, od_need_builders, .func (PySem.W.fnOf "need_builders" "need_builders" (defArgs s_need_builders) (defBody s_need_builders) (defScope s_need_builders) .none kV_need_builders dc_need_builders pm_need_builders an_need_builders cd_need_builders ct_need_builders), sl_need_builders⟩)
    (e_need_builders : PySem.W.codeIn K cd_need_builders "need_builders" = true)
    (k_need_builders : PySem.W.keepIn K (.ref f_need_builders) = true)
    (a_put_at : PySem.W.nsIn K mainGlobals "put_at" = some (some (.ref f_put_at)))
    (l_put_at : K.lookup f_put_at = some ⟨oc_put_at, od_put_at, .func (PySem.W.fnOf "put_at" "put_at" (defArgs s_put_at) (defBody s_put_at) (defScope s_put_at) .none kV_put_at dc_put_at pm_put_at an_put_at cd_put_at ct_put_at), sl_put_at⟩)
    (e_put_at : PySem.W.codeIn K cd_put_at "put_at" = true)
    (k_put_at : PySem.W.keepIn K (.ref f_put_at) = true)
    (a_put_sign : PySem.W.nsIn K mainGlobals "put_sign" = some (some (.ref f_put_sign)))
    (l_put_sign : K.lookup f_put_sign = some ⟨oc_put_sign, od_put_sign, .func (PySem.W.fnOf "put_sign" "put_sign" (defArgs s_put_sign) (defBody s_put_sign) (defScope s_put_sign) .none kV_put_sign dc_put_sign pm_put_sign an_put_sign cd_put_sign ct_put_sign), sl_put_sign⟩)
    (e_put_sign : PySem.W.codeIn K cd_put_sign "put_sign" = true)
    (k_put_sign : PySem.W.keepIn K (.ref f_put_sign) = true)
    (a_stand_together : PySem.W.nsIn K mainGlobals "stand_together" = some (some (.ref f_stand_together)))
    (l_stand_together : K.lookup f_stand_together = some ⟨oc_stand_together, od_stand_together, .func (PySem.W.fnOf "stand_together" "stand_together" (defArgs s_stand_together) (defBody s_stand_together) (defScope s_stand_together) .none kV_stand_together dc_stand_together pm_stand_together an_stand_together cd_stand_together ct_stand_together), sl_stand_together⟩)
    (e_stand_together : PySem.W.codeIn K cd_stand_together "stand_together" = true)
    (k_stand_together : PySem.W.keepIn K (.ref f_stand_together) = true)
    (a_deed_done : PySem.W.nsIn K mainGlobals "deed_done" = some (some (.ref f_deed_done)))
    (l_deed_done : K.lookup f_deed_done = some ⟨oc_deed_done, od_deed_done, .func (PySem.W.fnOf "deed_done" "deed_done" (defArgs s_deed_done) (defBody s_deed_done) (defScope s_deed_done) .none kV_deed_done dc_deed_done pm_deed_done an_deed_done cd_deed_done ct_deed_done), sl_deed_done⟩)
    (e_deed_done : PySem.W.codeIn K cd_deed_done "deed_done" = true)
    (k_deed_done : PySem.W.keepIn K (.ref f_deed_done) = true)
    (a_first_state : PySem.W.nsIn K mainGlobals "first_state" = some (some (.ref f_first_state)))
    (l_first_state : K.lookup f_first_state = some ⟨oc_first_state, od_first_state, .func (PySem.W.fnOf "first_state" "first_state" (defArgs s_first_state) (defBody s_first_state) (defScope s_first_state) .none kV_first_state dc_first_state pm_first_state an_first_state cd_first_state ct_first_state), sl_first_state⟩)
    (e_first_state : PySem.W.codeIn K cd_first_state "first_state" = true)
    (k_first_state : PySem.W.keepIn K (.ref f_first_state) = true)
    (a_all_movers : PySem.W.nsIn K mainGlobals "all_movers" = some (some (.ref f_all_movers)))
    (l_all_movers : K.lookup f_all_movers = some ⟨oc_all_movers, od_all_movers, .func (PySem.W.fnOf "all_movers" "all_movers" (defArgs s_all_movers) (defBody s_all_movers) (defScope s_all_movers) .none kV_all_movers dc_all_movers pm_all_movers an_all_movers cd_all_movers ct_all_movers), sl_all_movers⟩)
    (e_all_movers : PySem.W.codeIn K cd_all_movers "all_movers" = true)
    (k_all_movers : PySem.W.keepIn K (.ref f_all_movers) = true)
    (a_is_whole : PySem.W.nsIn K mainGlobals "is_whole" = some (some (.ref f_is_whole)))
    (l_is_whole : K.lookup f_is_whole = some ⟨oc_is_whole, od_is_whole, .func (PySem.W.fnOf "is_whole" "is_whole" (defArgs s_is_whole) (defBody s_is_whole) (defScope s_is_whole) .none kV_is_whole dc_is_whole pm_is_whole an_is_whole cd_is_whole ct_is_whole), sl_is_whole⟩)
    (e_is_whole : PySem.W.codeIn K cd_is_whole "is_whole" = true)
    (k_is_whole : PySem.W.keepIn K (.ref f_is_whole) = true)
    (a_leads_of : PySem.W.nsIn K mainGlobals "leads_of" = some (some (.ref f_leads_of)))
    (l_leads_of : K.lookup f_leads_of = some ⟨oc_leads_of, od_leads_of, .func (PySem.W.fnOf "leads_of" "leads_of" (defArgs s_leads_of) (defBody s_leads_of) (defScope s_leads_of) .none kV_leads_of dc_leads_of pm_leads_of an_leads_of cd_leads_of ct_leads_of), sl_leads_of⟩)
    (e_leads_of : PySem.W.codeIn K cd_leads_of "leads_of" = true)
    (k_leads_of : PySem.W.keepIn K (.ref f_leads_of) = true)
    (a_all_parts : PySem.W.nsIn K mainGlobals "all_parts" = some (some (.ref f_all_parts)))
    (l_all_parts : K.lookup f_all_parts = some ⟨oc_all_parts, od_all_parts, .func (PySem.W.fnOf "all_parts" "all_parts" (defArgs s_all_parts) (defBody s_all_parts) (defScope s_all_parts) .none kV_all_parts dc_all_parts pm_all_parts an_all_parts cd_all_parts ct_all_parts), sl_all_parts⟩)
    (e_all_parts : PySem.W.codeIn K cd_all_parts "all_parts" = true)
    (k_all_parts : PySem.W.keepIn K (.ref f_all_parts) = true)
    (a_holds : PySem.W.nsIn K mainGlobals "holds" = some (some (.ref f_holds)))
    (l_holds : K.lookup f_holds = some ⟨oc_holds, od_holds, .func (PySem.W.fnOf "holds" "holds" (defArgs s_holds) (defBody s_holds) (defScope s_holds) .none kV_holds dc_holds pm_holds an_holds cd_holds ct_holds), sl_holds⟩)
    (e_holds : PySem.W.codeIn K cd_holds "holds" = true)
    (k_holds : PySem.W.keepIn K (.ref f_holds) = true)
    (a_orders_by : PySem.W.nsIn K mainGlobals "orders_by" = some (some (.ref f_orders_by)))
    (l_orders_by : K.lookup f_orders_by = some ⟨oc_orders_by, od_orders_by, .func (PySem.W.fnOf "orders_by" "orders_by" (defArgs s_orders_by) (defBody s_orders_by) (defScope s_orders_by) .none kV_orders_by dc_orders_by pm_orders_by an_orders_by cd_orders_by ct_orders_by), sl_orders_by⟩)
    (e_orders_by : PySem.W.codeIn K cd_orders_by "orders_by" = true)
    (k_orders_by : PySem.W.keepIn K (.ref f_orders_by) = true)
    (a_ends : PySem.W.nsIn K mainGlobals "ends" = some (some (.ref f_ends)))
    (l_ends : K.lookup f_ends = some ⟨oc_ends, od_ends, .func (PySem.W.fnOf "ends" "ends" (defArgs s_ends) (defBody s_ends) (defScope s_ends) .none kV_ends dc_ends pm_ends an_ends cd_ends ct_ends), sl_ends⟩)
    (e_ends : PySem.W.codeIn K cd_ends "ends" = true)
    (k_ends : PySem.W.keepIn K (.ref f_ends) = true)
    (a_first_stuck : PySem.W.nsIn K mainGlobals "first_stuck" = some (some (.ref f_first_stuck)))
    (l_first_stuck : K.lookup f_first_stuck = some ⟨oc_first_stuck, od_first_stuck, .func (PySem.W.fnOf "first_stuck" "first_stuck" (defArgs s_first_stuck) (defBody s_first_stuck) (defScope s_first_stuck) .none kV_first_stuck dc_first_stuck pm_first_stuck an_first_stuck cd_first_stuck ct_first_stuck), sl_first_stuck⟩)
    (e_first_stuck : PySem.W.codeIn K cd_first_stuck "first_stuck" = true)
    (k_first_stuck : PySem.W.keepIn K (.ref f_first_stuck) = true)
    (a_many_orders : PySem.W.nsIn K mainGlobals "many_orders" = some (some (.ref f_many_orders)))
    (l_many_orders : K.lookup f_many_orders = some ⟨oc_many_orders, od_many_orders, .func (PySem.W.fnOf "many_orders" "many_orders" (defArgs s_many_orders) (defBody s_many_orders) (defScope s_many_orders) .none kV_many_orders dc_many_orders pm_many_orders an_many_orders cd_many_orders ct_many_orders), sl_many_orders⟩)
    (e_many_orders : PySem.W.codeIn K cd_many_orders "many_orders" = true)
    (k_many_orders : PySem.W.keepIn K (.ref f_many_orders) = true)
    (a_Firm_init : PySem.W.findIn K (.ref CF) "__init__" = some (some (.ref f_Firm_init)))
    (i_Firm_init : PySem.W.isFn K (.ref f_Firm_init) = true)
    (l_Firm_init : K.lookup f_Firm_init = some ⟨oc_Firm_init, od_Firm_init, .func (PySem.W.fnOf "__init__" "Firm.__init__" (defArgs s_Firm_init) (defBody s_Firm_init) (defScope s_Firm_init) .none kV_Firm_init dc_Firm_init pm_Firm_init an_Firm_init cd_Firm_init ct_Firm_init), sl_Firm_init⟩)
    (e_Firm_init : PySem.W.codeIn K cd_Firm_init "Firm.__init__" = true)
    (k_Firm_init : PySem.W.keepIn K (.ref f_Firm_init) = true)
    (a_Firm_stands : PySem.W.findIn K (.ref CF) "stands" = some (some (.ref f_Firm_stands)))
    (i_Firm_stands : PySem.W.isFn K (.ref f_Firm_stands) = true)
    (l_Firm_stands : K.lookup f_Firm_stands = some ⟨oc_Firm_stands, od_Firm_stands, .func (PySem.W.fnOf "stands" "Firm.stands" (defArgs s_Firm_stands) (defBody s_Firm_stands) (defScope s_Firm_stands) .none kV_Firm_stands dc_Firm_stands pm_Firm_stands an_Firm_stands cd_Firm_stands ct_Firm_stands), sl_Firm_stands⟩)
    (e_Firm_stands : PySem.W.codeIn K cd_Firm_stands "Firm.stands" = true)
    (k_Firm_stands : PySem.W.keepIn K (.ref f_Firm_stands) = true)
    (a_firm_order : PySem.W.nsIn K mainGlobals "firm_order" = some (some (.ref f_firm_order)))
    (l_firm_order : K.lookup f_firm_order = some ⟨oc_firm_order, od_firm_order, .func (PySem.W.fnOf "firm_order" "firm_order" (defArgs s_firm_order) (defBody s_firm_order) (defScope s_firm_order) .none kV_firm_order dc_firm_order pm_firm_order an_firm_order cd_firm_order ct_firm_order), sl_firm_order⟩)
    (e_firm_order : PySem.W.codeIn K cd_firm_order "firm_order" = true)
    (k_firm_order : PySem.W.keepIn K (.ref f_firm_order) = true)
    (a_l_put : PySem.W.nsIn K mainGlobals "_law_put" = some (some (.ref f_l_put)))
    (l_l_put : K.lookup f_l_put = some ⟨oc_l_put, od_l_put, .func (PySem.W.fnOf "_law_put" "_law_put" (defArgs s__law_put) (defBody s__law_put) (defScope s__law_put) .none kV_l_put dc_l_put pm_l_put an_l_put cd_l_put ct_l_put), sl_l_put⟩)
    (e_l_put : PySem.W.codeIn K cd_l_put "_law_put" = true)
    (k_l_put : PySem.W.keepIn K (.ref f_l_put) = true)
    (a_l_next_cells : PySem.W.nsIn K mainGlobals "_law_next_cells" = some (some (.ref f_l_next_cells)))
    (l_l_next_cells : K.lookup f_l_next_cells = some ⟨oc_l_next_cells, od_l_next_cells, .func (PySem.W.fnOf "_law_next_cells" "_law_next_cells" (defArgs s__law_next_cells) (defBody s__law_next_cells) (defScope s__law_next_cells) .none kV_l_next_cells dc_l_next_cells pm_l_next_cells an_l_next_cells cd_l_next_cells ct_l_next_cells), sl_l_next_cells⟩)
    (e_l_next_cells : PySem.W.codeIn K cd_l_next_cells "_law_next_cells" = true)
    (k_l_next_cells : PySem.W.keepIn K (.ref f_l_next_cells) = true)
    (a_l_many : PySem.W.nsIn K mainGlobals "_law_many" = some (some (.ref f_l_many)))
    (l_l_many : K.lookup f_l_many = some ⟨oc_l_many, od_l_many, .func (PySem.W.fnOf "_law_many" "_law_many" (defArgs s__law_many) (defBody s__law_many) (defScope s__law_many) .none kV_l_many dc_l_many pm_l_many an_l_many cd_l_many ct_l_many), sl_l_many⟩)
    (e_l_many : PySem.W.codeIn K cd_l_many "_law_many" = true)
    (k_l_many : PySem.W.keepIn K (.ref f_l_many) = true)
    (a_l_steps : PySem.W.nsIn K mainGlobals "_law_steps" = some (some (.ref f_l_steps)))
    (l_l_steps : K.lookup f_l_steps = some ⟨oc_l_steps, od_l_steps, .func (PySem.W.fnOf "_law_steps" "_law_steps" (defArgs s__law_steps) (defBody s__law_steps) (defScope s__law_steps) .none kV_l_steps dc_l_steps pm_l_steps an_l_steps cd_l_steps ct_l_steps), sl_l_steps⟩)
    (e_l_steps : PySem.W.codeIn K cd_l_steps "_law_steps" = true)
    (k_l_steps : PySem.W.keepIn K (.ref f_l_steps) = true)
    (a_l_leads : PySem.W.nsIn K mainGlobals "_law_leads" = some (some (.ref f_l_leads)))
    (l_l_leads : K.lookup f_l_leads = some ⟨oc_l_leads, od_l_leads, .func (PySem.W.fnOf "_law_leads" "_law_leads" (defArgs s__law_leads) (defBody s__law_leads) (defScope s__law_leads) .none kV_l_leads dc_l_leads pm_l_leads an_l_leads cd_l_leads ct_l_leads), sl_l_leads⟩)
    (e_l_leads : PySem.W.codeIn K cd_l_leads "_law_leads" = true)
    (k_l_leads : PySem.W.keepIn K (.ref f_l_leads) = true)
    (a_l_holds : PySem.W.nsIn K mainGlobals "_law_holds" = some (some (.ref f_l_holds)))
    (l_l_holds : K.lookup f_l_holds = some ⟨oc_l_holds, od_l_holds, .func (PySem.W.fnOf "_law_holds" "_law_holds" (defArgs s__law_holds) (defBody s__law_holds) (defScope s__law_holds) .none kV_l_holds dc_l_holds pm_l_holds an_l_holds cd_l_holds ct_l_holds), sl_l_holds⟩)
    (e_l_holds : PySem.W.codeIn K cd_l_holds "_law_holds" = true)
    (k_l_holds : PySem.W.keepIn K (.ref f_l_holds) = true)
    (a_l_whole_orders : PySem.W.nsIn K mainGlobals "_law_whole_orders" = some (some (.ref f_l_whole_orders)))
    (l_l_whole_orders : K.lookup f_l_whole_orders = some ⟨oc_l_whole_orders, od_l_whole_orders, .func (PySem.W.fnOf "_law_whole_orders" "_law_whole_orders" (defArgs s__law_whole_orders) (defBody s__law_whole_orders) (defScope s__law_whole_orders) .none kV_l_whole_orders dc_l_whole_orders pm_l_whole_orders an_l_whole_orders cd_l_whole_orders ct_l_whole_orders), sl_l_whole_orders⟩)
    (e_l_whole_orders : PySem.W.codeIn K cd_l_whole_orders "_law_whole_orders" = true)
    (k_l_whole_orders : PySem.W.keepIn K (.ref f_l_whole_orders) = true)
    (a_l_ends_firm : PySem.W.nsIn K mainGlobals "_law_ends_firm" = some (some (.ref f_l_ends_firm)))
    (l_l_ends_firm : K.lookup f_l_ends_firm = some ⟨oc_l_ends_firm, od_l_ends_firm, .func (PySem.W.fnOf "_law_ends_firm" "_law_ends_firm" (defArgs s__law_ends_firm) (defBody s__law_ends_firm) (defScope s__law_ends_firm) .none kV_l_ends_firm dc_l_ends_firm pm_l_ends_firm an_l_ends_firm cd_l_ends_firm ct_l_ends_firm), sl_l_ends_firm⟩)
    (e_l_ends_firm : PySem.W.codeIn K cd_l_ends_firm "_law_ends_firm" = true)
    (k_l_ends_firm : PySem.W.keepIn K (.ref f_l_ends_firm) = true)
    (a_l_least_firm : PySem.W.nsIn K mainGlobals "_law_least_firm" = some (some (.ref f_l_least_firm)))
    (l_l_least_firm : K.lookup f_l_least_firm = some ⟨oc_l_least_firm, od_l_least_firm, .func (PySem.W.fnOf "_law_least_firm" "_law_least_firm" (defArgs s__law_least_firm) (defBody s__law_least_firm) (defScope s__law_least_firm) .none kV_l_least_firm dc_l_least_firm pm_l_least_firm an_l_least_firm cd_l_least_firm ct_l_least_firm), sl_l_least_firm⟩)
    (e_l_least_firm : PySem.W.codeIn K cd_l_least_firm "_law_least_firm" = true)
    (k_l_least_firm : PySem.W.keepIn K (.ref f_l_least_firm) = true)
    (a_l_taken : PySem.W.nsIn K mainGlobals "_law_taken" = some (some (.ref f_l_taken)))
    (l_l_taken : K.lookup f_l_taken = some ⟨oc_l_taken, od_l_taken, .func (PySem.W.fnOf "_law_taken" "_law_taken" (defArgs s__law_taken) (defBody s__law_taken) (defScope s__law_taken) .none kV_l_taken dc_l_taken pm_l_taken an_l_taken cd_l_taken ct_l_taken), sl_l_taken⟩)
    (e_l_taken : PySem.W.codeIn K cd_l_taken "_law_taken" = true)
    (k_l_taken : PySem.W.keepIn K (.ref f_l_taken) = true)
    (a_l_cells : PySem.W.nsIn K mainGlobals "_law_cells" = some (some (.ref f_l_cells)))
    (l_l_cells : K.lookup f_l_cells = some ⟨oc_l_cells, od_l_cells, .func (PySem.W.fnOf "_law_cells" "_law_cells" (defArgs s__law_cells) (defBody s__law_cells) (defScope s__law_cells) .none kV_l_cells dc_l_cells pm_l_cells an_l_cells cd_l_cells ct_l_cells), sl_l_cells⟩)
    (e_l_cells : PySem.W.codeIn K cd_l_cells "_law_cells" = true)
    (k_l_cells : PySem.W.keepIn K (.ref f_l_cells) = true)
    (a_l_parted : PySem.W.nsIn K mainGlobals "_law_parted" = some (some (.ref f_l_parted)))
    (l_l_parted : K.lookup f_l_parted = some ⟨oc_l_parted, od_l_parted, .func (PySem.W.fnOf "_law_parted" "_law_parted" (defArgs s__law_parted) (defBody s__law_parted) (defScope s__law_parted) .none kV_l_parted dc_l_parted pm_l_parted an_l_parted cd_l_parted ct_l_parted), sl_l_parted⟩)
    (e_l_parted : PySem.W.codeIn K cd_l_parted "_law_parted" = true)
    (k_l_parted : PySem.W.keepIn K (.ref f_l_parted) = true)
    (a_l_alike : PySem.W.nsIn K mainGlobals "_law_alike" = some (some (.ref f_l_alike)))
    (l_l_alike : K.lookup f_l_alike = some ⟨oc_l_alike, od_l_alike, .func (PySem.W.fnOf "_law_alike" "_law_alike" (defArgs s__law_alike) (defBody s__law_alike) (defScope s__law_alike) .none kV_l_alike dc_l_alike pm_l_alike an_l_alike cd_l_alike ct_l_alike), sl_l_alike⟩)
    (e_l_alike : PySem.W.codeIn K cd_l_alike "_law_alike" = true)
    (k_l_alike : PySem.W.keepIn K (.ref f_l_alike) = true)
    (a_law : PySem.W.nsIn K mainGlobals "law" = some (some (.ref f_law)))
    (l_law : K.lookup f_law = some ⟨oc_law, od_law, .func (PySem.W.fnOf "law" "law" (defArgs s_law) (defBody s_law) (defScope s_law) .none kV_law dc_law pm_law an_law cd_law ct_law), sl_law⟩)
    (e_law : PySem.W.codeIn K cd_law "law" = true)
    (k_law : PySem.W.keepIn K (.ref f_law) = true)
    : ∃ fd : FuncData, (∀ (s : Shared) (v : Value), BindsTo s fd ⟨[v], []⟩ [("_law_script", v)]) ∧ ∀ base : Heap, K.In base → base.Ns mainGlobals mg → FnOk P w K mg base CX0 25 fa fd ["_law_script"] (spLaw K 0) := by
  have e := hfa.symm.trans (PySem.W.mg_of X G a_law)
  cases e
  exact ⟨PySem.W.fnOf "law" "law" (defArgs s_law) (defBody s_law) (defScope s_law) .none kV_law dc_law pm_law an_law cd_law ct_law, fun s v => .of_eq rfl, fun base _ _ => all_ok X G z_len z_range z_isinstance z_all z_sum z_sorted z_set z_tuple z_int z_bool z_str z_list z_enumerate z_zip g_SIGNS g_MOST_LINES g_MOST_BUILDERS g_MOST_DEEDS g_EMPTY g_FILL g_CUT g_STAND g_LEAVE g_FILLED lF cF dF g_Board pgB hdB poB saB mkB kcB g_Firm pgF hdF poF saF mkF kcF nT nK haB hnB htk hmB a_is_from l_is_from e_is_from k_is_from a_is_line l_is_line e_is_line k_is_line a_Board_init i_Board_init l_Board_init e_Board_init k_Board_init a_Board_cells b_Board_cells c_Board_cells d_Board_cells l_Board_cells e_Board_cells k_Board_cells a_Board_rows b_Board_rows c_Board_rows d_Board_rows l_Board_rows e_Board_rows k_Board_rows a_Board_columns b_Board_columns c_Board_columns d_Board_columns l_Board_columns e_Board_columns k_Board_columns a_Board_len i_Board_len l_Board_len e_Board_len k_Board_len a_need_board l_need_board e_need_board k_need_board a_all_steps l_all_steps e_all_steps k_all_steps a_is_cell_deed l_is_cell_deed e_is_cell_deed k_is_cell_deed a_is_deed l_is_deed e_is_deed k_is_deed a_need_builders l_need_builders e_need_builders k_need_builders a_put_at l_put_at e_put_at k_put_at a_put_sign l_put_sign e_put_sign k_put_sign a_stand_together l_stand_together e_stand_together k_stand_together a_deed_done l_deed_done e_deed_done k_deed_done a_first_state l_first_state e_first_state k_first_state a_all_movers l_all_movers e_all_movers k_all_movers a_is_whole l_is_whole e_is_whole k_is_whole a_leads_of l_leads_of e_leads_of k_leads_of a_all_parts l_all_parts e_all_parts k_all_parts a_holds l_holds e_holds k_holds a_orders_by l_orders_by e_orders_by k_orders_by a_ends l_ends e_ends k_ends a_first_stuck l_first_stuck e_first_stuck k_first_stuck a_many_orders l_many_orders e_many_orders k_many_orders a_Firm_init i_Firm_init l_Firm_init e_Firm_init k_Firm_init a_Firm_stands i_Firm_stands l_Firm_stands e_Firm_stands k_Firm_stands a_firm_order l_firm_order e_firm_order k_firm_order a_l_put l_l_put e_l_put k_l_put a_l_next_cells l_l_next_cells e_l_next_cells k_l_next_cells a_l_many l_l_many e_l_many k_l_many a_l_steps l_l_steps e_l_steps k_l_steps a_l_leads l_l_leads e_l_leads k_l_leads a_l_holds l_l_holds e_l_holds k_l_holds a_l_whole_orders l_l_whole_orders e_l_whole_orders k_l_whole_orders a_l_ends_firm l_l_ends_firm e_l_ends_firm k_l_ends_firm a_l_least_firm l_l_least_firm e_l_least_firm k_l_least_firm a_l_taken l_l_taken e_l_taken k_l_taken a_l_cells l_l_cells e_l_cells k_l_cells a_l_parted l_l_parted e_l_parted k_l_parted a_l_alike l_l_alike e_l_alike k_l_alike a_law l_law e_law k_law⟩
end Wx
end
open PySem PySem.W PyProof.Rows
set_option Elab.async false
set_option maxRecDepth 100000 in
set_option maxHeartbeats 0 in
theorem PySem.Challenge.cw_wovenframes_k63_whole_fills_ahead_of_cut_holds : PySem.Challenge.rw_wovenframes_k63_whole_fills_ahead_of_cut.Holds := by
  w_on; o_law; k_head; (case hw => w_witness2)
  k_fill
  refine L2.walk_of (l := PySem.Challenge.rw_wovenframes_k63_whole_fills_ahead_of_cut) (n := 63) (k := 25) (x := "_law_script") (CX := fun _ => L2.CX0) (sp := fun w => Wx.spLaw _ 0) rfl (by decide) rfl ⟨rfl, by decide, by decide⟩ (fun w h Y => PySem.W.kIn_of Y) ?F (fun _ _ a ns hl _ hS => ⟨a, ns, hS, .cons rfl .nil, fun _ => rfl⟩) fun _ _ _ _ _ z => z
  case F =>
    intro w mg fa h KX G hmg
    refine' Wx.all_mk KX G hmg ?z_len ?z_range ?z_isinstance ?z_all ?z_sum ?z_sorted ?z_set ?z_tuple ?z_int ?z_bool ?z_str ?z_list ?z_enumerate ?z_zip ?g_SIGNS ?g_MOST_LINES ?g_MOST_BUILDERS ?g_MOST_DEEDS ?g_EMPTY ?g_FILL ?g_CUT ?g_STAND ?g_LEAVE ?g_FILLED ?lF ?cF ?dF ?g_Board ?pgB ?hdB ?poB ?saB ?mkB ?kcB ?g_Firm ?pgF ?hdF ?poF ?saF ?mkF ?kcF ?nT ?nK ?haB ?hnB ?htk ?hmB ?a_is_from ?l_is_from ?e_is_from ?k_is_from ?a_is_line ?l_is_line ?e_is_line ?k_is_line ?a_Board_init ?i_Board_init ?l_Board_init ?e_Board_init ?k_Board_init ?a_Board_cells ?b_Board_cells ?c_Board_cells ?d_Board_cells ?l_Board_cells ?e_Board_cells ?k_Board_cells ?a_Board_rows ?b_Board_rows ?c_Board_rows ?d_Board_rows ?l_Board_rows ?e_Board_rows ?k_Board_rows ?a_Board_columns ?b_Board_columns ?c_Board_columns ?d_Board_columns ?l_Board_columns ?e_Board_columns ?k_Board_columns ?a_Board_len ?i_Board_len ?l_Board_len ?e_Board_len ?k_Board_len ?a_need_board ?l_need_board ?e_need_board ?k_need_board ?a_all_steps ?l_all_steps ?e_all_steps ?k_all_steps ?a_is_cell_deed ?l_is_cell_deed ?e_is_cell_deed ?k_is_cell_deed ?a_is_deed ?l_is_deed ?e_is_deed ?k_is_deed ?a_need_builders ?l_need_builders ?e_need_builders ?k_need_builders ?a_put_at ?l_put_at ?e_put_at ?k_put_at ?a_put_sign ?l_put_sign ?e_put_sign ?k_put_sign ?a_stand_together ?l_stand_together ?e_stand_together ?k_stand_together ?a_deed_done ?l_deed_done ?e_deed_done ?k_deed_done ?a_first_state ?l_first_state ?e_first_state ?k_first_state ?a_all_movers ?l_all_movers ?e_all_movers ?k_all_movers ?a_is_whole ?l_is_whole ?e_is_whole ?k_is_whole ?a_leads_of ?l_leads_of ?e_leads_of ?k_leads_of ?a_all_parts ?l_all_parts ?e_all_parts ?k_all_parts ?a_holds ?l_holds ?e_holds ?k_holds ?a_orders_by ?l_orders_by ?e_orders_by ?k_orders_by ?a_ends ?l_ends ?e_ends ?k_ends ?a_first_stuck ?l_first_stuck ?e_first_stuck ?k_first_stuck ?a_many_orders ?l_many_orders ?e_many_orders ?k_many_orders ?a_Firm_init ?i_Firm_init ?l_Firm_init ?e_Firm_init ?k_Firm_init ?a_Firm_stands ?i_Firm_stands ?l_Firm_stands ?e_Firm_stands ?k_Firm_stands ?a_firm_order ?l_firm_order ?e_firm_order ?k_firm_order ?a_l_put ?l_l_put ?e_l_put ?k_l_put ?a_l_next_cells ?l_l_next_cells ?e_l_next_cells ?k_l_next_cells ?a_l_many ?l_l_many ?e_l_many ?k_l_many ?a_l_steps ?l_l_steps ?e_l_steps ?k_l_steps ?a_l_leads ?l_l_leads ?e_l_leads ?k_l_leads ?a_l_holds ?l_l_holds ?e_l_holds ?k_l_holds ?a_l_whole_orders ?l_l_whole_orders ?e_l_whole_orders ?k_l_whole_orders ?a_l_ends_firm ?l_l_ends_firm ?e_l_ends_firm ?k_l_ends_firm ?a_l_least_firm ?l_l_least_firm ?e_l_least_firm ?k_l_least_firm ?a_l_taken ?l_l_taken ?e_l_taken ?k_l_taken ?a_l_cells ?l_l_cells ?e_l_cells ?k_l_cells ?a_l_parted ?l_l_parted ?e_l_parted ?k_l_parted ?a_l_alike ?l_l_alike ?e_l_alike ?k_l_alike ?a_law ?l_law ?e_law ?k_law
    (case z_len => k_is); (case z_range => k_is); (case z_isinstance => k_is); (case z_all => k_is); (case z_sum => k_is); (case z_sorted => k_is)
    (case z_set => k_is); (case z_tuple => k_is); (case z_int => k_is); (case z_bool => k_is); (case z_str => k_is); (case z_list => k_is)
    (case z_enumerate => k_is); (case z_zip => k_is); (case g_SIGNS => k_is); (case g_MOST_LINES => k_is); (case g_MOST_BUILDERS => k_is); (case g_MOST_DEEDS => k_is)
    (case g_EMPTY => k_is); (case g_FILL => k_is); (case g_CUT => k_is); (case g_STAND => k_is); (case g_LEAVE => k_is); (case g_FILLED => k_is)
    (case lF => k_is); (case cF => rfl); (case dF => rfl); (case g_Board => k_is); (case pgB => k_is); (case hdB => k_is)
    (case poB => k_is); (case saB => k_is); (case mkB => k_is); (case kcB => k_is); (case g_Firm => k_is); (case pgF => k_is)
    (case hdF => k_is); (case poF => k_is); (case saF => k_is); (case mkF => k_is); (case kcF => k_is); (case nT => k_is)
    (case nK => k_is); (case haB => k_is); (case hnB => k_is); (case htk => k_is); (case hmB => k_is); (case a_is_from => k_is)
    (case l_is_from => k_is); (case e_is_from => k_is); (case k_is_from => k_is); (case a_is_line => k_is); (case l_is_line => k_is); (case e_is_line => k_is)
    (case k_is_line => k_is); (case a_Board_init => k_is); (case i_Board_init => k_is); (case l_Board_init => k_is); (case e_Board_init => k_is); (case k_Board_init => k_is)
    (case a_Board_cells => k_is); (case b_Board_cells => k_is); (case c_Board_cells => k_is); (case d_Board_cells => k_is); (case l_Board_cells => k_is); (case e_Board_cells => k_is)
    (case k_Board_cells => k_is); (case a_Board_rows => k_is); (case b_Board_rows => k_is); (case c_Board_rows => k_is); (case d_Board_rows => k_is); (case l_Board_rows => k_is)
    (case e_Board_rows => k_is); (case k_Board_rows => k_is); (case a_Board_columns => k_is); (case b_Board_columns => k_is); (case c_Board_columns => k_is); (case d_Board_columns => k_is)
    (case l_Board_columns => k_is); (case e_Board_columns => k_is); (case k_Board_columns => k_is); (case a_Board_len => k_is); (case i_Board_len => k_is); (case l_Board_len => k_is)
    (case e_Board_len => k_is); (case k_Board_len => k_is); (case a_need_board => k_is); (case l_need_board => k_is); (case e_need_board => k_is); (case k_need_board => k_is)
    (case a_all_steps => k_is); (case l_all_steps => k_is); (case e_all_steps => k_is); (case k_all_steps => k_is); (case a_is_cell_deed => k_is); (case l_is_cell_deed => k_is)
    (case e_is_cell_deed => k_is); (case k_is_cell_deed => k_is); (case a_is_deed => k_is); (case l_is_deed => k_is); (case e_is_deed => k_is); (case k_is_deed => k_is)
    (case a_need_builders => k_is); (case l_need_builders => k_is); (case e_need_builders => k_is); (case k_need_builders => k_is); (case a_put_at => k_is); (case l_put_at => k_is)
    (case e_put_at => k_is); (case k_put_at => k_is); (case a_put_sign => k_is); (case l_put_sign => k_is); (case e_put_sign => k_is); (case k_put_sign => k_is)
    (case a_stand_together => k_is); (case l_stand_together => k_is); (case e_stand_together => k_is); (case k_stand_together => k_is); (case a_deed_done => k_is); (case l_deed_done => k_is)
    (case e_deed_done => k_is); (case k_deed_done => k_is); (case a_first_state => k_is); (case l_first_state => k_is); (case e_first_state => k_is); (case k_first_state => k_is)
    (case a_all_movers => k_is); (case l_all_movers => k_is); (case e_all_movers => k_is); (case k_all_movers => k_is); (case a_is_whole => k_is); (case l_is_whole => k_is)
    (case e_is_whole => k_is); (case k_is_whole => k_is); (case a_leads_of => k_is); (case l_leads_of => k_is); (case e_leads_of => k_is); (case k_leads_of => k_is)
    (case a_all_parts => k_is); (case l_all_parts => k_is); (case e_all_parts => k_is); (case k_all_parts => k_is); (case a_holds => k_is); (case l_holds => k_is)
    (case e_holds => k_is); (case k_holds => k_is); (case a_orders_by => k_is); (case l_orders_by => k_is); (case e_orders_by => k_is); (case k_orders_by => k_is)
    (case a_ends => k_is); (case l_ends => k_is); (case e_ends => k_is); (case k_ends => k_is); (case a_first_stuck => k_is); (case l_first_stuck => k_is)
    (case e_first_stuck => k_is); (case k_first_stuck => k_is); (case a_many_orders => k_is); (case l_many_orders => k_is); (case e_many_orders => k_is); (case k_many_orders => k_is)
    (case a_Firm_init => k_is); (case i_Firm_init => k_is); (case l_Firm_init => k_is); (case e_Firm_init => k_is); (case k_Firm_init => k_is); (case a_Firm_stands => k_is)
    (case i_Firm_stands => k_is); (case l_Firm_stands => k_is); (case e_Firm_stands => k_is); (case k_Firm_stands => k_is); (case a_firm_order => k_is); (case l_firm_order => k_is)
    (case e_firm_order => k_is); (case k_firm_order => k_is); (case a_l_put => k_is); (case l_l_put => k_is); (case e_l_put => k_is); (case k_l_put => k_is)
    (case a_l_next_cells => k_is); (case l_l_next_cells => k_is); (case e_l_next_cells => k_is); (case k_l_next_cells => k_is); (case a_l_many => k_is); (case l_l_many => k_is)
    (case e_l_many => k_is); (case k_l_many => k_is); (case a_l_steps => k_is); (case l_l_steps => k_is); (case e_l_steps => k_is); (case k_l_steps => k_is)
    (case a_l_leads => k_is); (case l_l_leads => k_is); (case e_l_leads => k_is); (case k_l_leads => k_is); (case a_l_holds => k_is); (case l_l_holds => k_is)
    (case e_l_holds => k_is); (case k_l_holds => k_is); (case a_l_whole_orders => k_is); (case l_l_whole_orders => k_is); (case e_l_whole_orders => k_is); (case k_l_whole_orders => k_is)
    (case a_l_ends_firm => k_is); (case l_l_ends_firm => k_is); (case e_l_ends_firm => k_is); (case k_l_ends_firm => k_is); (case a_l_least_firm => k_is); (case l_l_least_firm => k_is)
    (case e_l_least_firm => k_is); (case k_l_least_firm => k_is); (case a_l_taken => k_is); (case l_l_taken => k_is); (case e_l_taken => k_is); (case k_l_taken => k_is)
    (case a_l_cells => k_is); (case l_l_cells => k_is); (case e_l_cells => k_is); (case k_l_cells => k_is); (case a_l_parted => k_is); (case l_l_parted => k_is)
    (case e_l_parted => k_is); (case k_l_parted => k_is); (case a_l_alike => k_is); (case l_l_alike => k_is); (case e_l_alike => k_is); (case k_l_alike => k_is)
    (case a_law => k_is); (case l_law => k_is); (case e_law => k_is); (case k_law => k_is)
