import PyProof.Rows.All
import Wide.All
import OpenK.AllK
import Wide.FinOn
import HandS.ForMost
import HandS.ForExc
import HandS.ExcCtx
import HandS.AnyAll
import HandS.Style
import HandS.Flow
import HandS.GenList
import HandS.TupAny
import HandS.TupMul
import HandS.Conv
import HandS.RevTup
import HandS.Deep
import HandS.IsInst
import HandS.Wide
import HandS.More
import HandS.SetFor
import KE.DataFind
import HandS.HeadHook4
import HandS.HeadEnd
import HandS.HeadWalk
import HandS.Head2
import HandS.WordsExc
import HandS.Rev
import HandS.HotCalls
import HandS.ExcIs
import HandS.ExcOwn
import HandS.HeadHook1
import PyProof.ExcBaseAll.ValueError
import HandS.Gcd
import HandS.Text
import PyProof.StrOps2
import HandS.CallSlots
import HandS.Zip
import KE.KMathGC
import PySem.Challenge.RW_campslaid_k75_whole_gullies_and_all_thei
import HandS.Head3
set_option Elab.async false
set_option linter.all false
set_option maxRecDepth 100000
set_option maxHeartbeats 1000000
/-! Lt: new tuples, their objects told (they bear no dict). -/
namespace L3
open PySem PySem.Spec PyProof.Rows L2 HT
/-- a new tuple of xs -/
def NewT (xs : List V) (H : Hp) (Q : VK) : Prop := ∀ p o, H p = none → o.dict = none → Q (.ref p) (upd H p (.frz o (.tup xs)))
section
variable {X : Cx} {pins : List (Addr × Obj)} {σ : L2.St} {H : Hp} {s : Shared}
theorem laidT {xs : List V} {its : List Value} {t' : Nat} {Q : VK} (I : Inv X pins σ H s) (r : Vals xs its) (z : xs.length ≤ sizeLine) (q : NewT xs H Q) :
    EP X pins σ Q (.ref s.heap.objs.size) { s with heap := s.heap.push { cls := .type "tuple", data := .seq its.toArray }, toks := t' } :=
  ⟨.ref s.heap.objs.size, _, I.laid (o := .frz { cls := .type "tuple", data := .seq its.toArray } (.tup xs)) (fun b u e => Heap.get?_push_of_some _ e) (Nat.le_refl _) ⟨Heap.get?_push_size _ rfl, z, its, r, IsTup.new _ _⟩, rfl, q _ _ (I.hok.fresh (Nat.le_refl _)) rfl⟩
def tTupF (t : TA) : TE := fun σ H Q => t σ H fun xs H1 => xs.length ≤ sizeLine ∧ NewT xs H1 Q
theorem pe_tupF {es : List Expr} {t : TA} {x1} {pos : Pos} (h : PA X es t) : PE X (.Tuple es x1 pos) (tTupF t) := by
  refine ⟨fun pins s σ H Q I hq => ?_⟩
  refine wpAny_Tuple_spliced (thn (h.run pos pins s σ H _ I hq) fun us s1 ⟨xs, H1, I1, r, z, q⟩ => ⟨by rw [← r.length]; exact z, ?_⟩)
  exact laidT (t' := s1.toks) I1 r z q
def rCatF (K : PySem.W.Frag) : R2 := fun x y H Q => ∃ a b xs ys, x = .ref a ∧ y = .ref b ∧ SqT K H a xs ∧ SqT K H b ys ∧ xs.length + ys.length ≤ sizeLine ∧
  (xs = [] → Q (.ref b) H) ∧ (xs ≠ [] → ys = [] → Q (.ref a) H) ∧ (xs ≠ [] → ys ≠ [] → NewT (xs ++ ys) H Q)
theorem op_catF : OpR X (binaryOp .Add) (rCatF X.K) := by
  intro pins s σ H x y v u Q I rx ry h
  obtain ⟨a, b, xs, ys, rfl, rfl, ha, hb, hz, q0, q1, q2⟩ := h
  cases rx
  cases ry
  obtain ⟨its, r1, p1, _⟩ := I.tuple ha
  obtain ⟨its2, r2, p2, _⟩ := I.tuple hb
  by_cases hx : xs = []
  · subst hx
    cases r1
    exact cat_tup0 p1 p2 ⟨.ref b, H, I, rfl, q0 rfl⟩
  · refine HT.cat_tup p1 p2 (fun z => hx (r1.nil_iff.mp z)) (fun z => ⟨.ref a, H, I, rfl, q1 hx (r2.nil_iff.mp z)⟩) (fun z => ?_) (by rw [← r1.length, ← r2.length]; exact hz)
    exact laidT (t' := s.toks) I (r1.append r2) (by rw [List.length_append]; exact hz) (q2 hx fun w => z (r2.nil_iff.mpr w))
theorem tuple_mul1 (l : Addr) (items : Array Value) (n : Nat) (dd : Option Addr) (sl : Array (Option Value)) (x : Int) (u : Tok) (c0 : (decide (x < -(2 ^ 63)) || decide (x ≥ 2 ^ 63)) = false) (c1 : (items.isEmpty || x == 1) = true) :
    Meets (Builtin.«tuple.__mul__» ⟨[.ref l, .int x u], []⟩) (fun _ R s => s.heap.get? l = some { cls := .type "tuple", dict := dd, data := .seq items n, slots := sl } ∧ R (.ok (.ret (Value.ref l))) s) :=
  .of_wp fun prog w A R s h => by
    obtain ⟨hp, g, d, tk, os⟩ := s
    obtain ⟨hl, h⟩ := h
    have f1 := AutoSeq1.idx_int
    wp_walk using wpAny_loadPart' hl
    repeat (first
      | (refine wpAny_ite_false (decide_eq_false (by rw [c0]; exact Bool.false_ne_true)) ?_; wp_walk using wpAny_loadPart' hl)
      | (refine wpAny_ite_true (decide_eq_true c1) ?_; wp_walk using wpAny_loadPart' hl))
    exact ⟨_, rfl, h⟩
theorem tuple_mul0 (l : Addr) (items : Array Value) (n : Nat) (dd : Option Addr) (sl : Array (Option Value)) (x : Int) (u : Tok) (c0 : (decide (x < -(2 ^ 63)) || decide (x ≥ 2 ^ 63)) = false) (c1 : (items.isEmpty || x == 1) = false) (c2 : (decide (x ≤ 0) || items.isEmpty) = true) :
    Meets (Builtin.«tuple.__mul__» ⟨[.ref l, .int x u], []⟩) (fun _ R s => s.heap.get? l = some { cls := .type "tuple", dict := dd, data := .seq items n, slots := sl } ∧
      R (.ok (.ret (Value.ref s.heap.objs.size))) { s with heap := s.heap.push { cls := Value.type "tuple", data := Data.seq #[] }, toks := s.toks }) :=
  .of_wp fun prog w A R s h => by
    obtain ⟨hp, g, d, tk, os⟩ := s
    obtain ⟨hl, h⟩ := h
    have f1 := AutoSeq1.idx_int
    wp_walk using wpAny_loadPart' hl
    repeat (first
      | (refine wpAny_ite_false (decide_eq_false (by rw [c0]; exact Bool.false_ne_true)) ?_; wp_walk using wpAny_loadPart' hl)
      | (refine wpAny_ite_false (decide_eq_false (by rw [c1]; exact Bool.false_ne_true)) ?_; wp_walk using wpAny_loadPart' hl)
      | (refine wpAny_ite_true (decide_eq_true c2) ?_; wp_walk using wpAny_loadPart' hl))
    exact ⟨_, rfl, h⟩
/-- tuple * int -/
def rRepF (K : PySem.W.Frag) : R2 := fun x y H Q => ∃ l k xs, x = .ref l ∧ y = .int k ∧ SqT K H l xs ∧ -(2 ^ 63) ≤ k ∧ k ≤ 1000 ∧ xs.length ≤ 1000 ∧ ((xs = [] ∨ k = 1) → Q (.ref l) H) ∧ (xs ≠ [] → k ≠ 1 → NewT (List.replicate k.toNat xs).flatten H Q)
theorem op_repF : OpR X (binaryOp .Mult) (rRepF X.K) := by
  intro pins s σ H x y v u Q I rx ry h
  obtain ⟨l, k, xs, rfl, rfl, hT, h1, h2, hz, q1, q⟩ := h
  cases rx
  obtain ⟨t, rfl⟩ := ry
  obtain ⟨its, r, ⟨⟨cls, dd, data, sl⟩, ho, hc, n, hd⟩, hs⟩ := I.tuple hT
  simp only at hc hd
  subst hc hd
  have hle : its.length = xs.length := r.length.symm
  have hsz0 : its.toArray.size = xs.length := by rw [List.size_toArray, hle]
  have c0 : (decide (k < -(2 ^ 63)) || decide (k ≥ 2 ^ 63)) = false := by
    rw [decide_eq_false (by omega), decide_eq_false (by omega)] <;> rfl
  have go : ∀ {Rr : Value → Shared → Prop}, (Meets (Builtin.«tuple.__mul__» ⟨[.ref l, .int k t], []⟩) (fun _ R s' => s'.heap.get? l = some { cls := .type "tuple", dict := dd, data := .seq its.toArray n, slots := sl } ∧ (s' = s → Rr (.ref 0) s → True) ∧ True)) → True := fun _ => trivial
  by_cases hsame : xs = [] ∨ k = 1
  · have c1 : (its.toArray.isEmpty || k == 1) = true := by
      rcases hsame with z | z
      · have : its = [] := List.eq_nil_of_length_eq_zero (by rw [hle, z]; rfl)
        subst this; rfl
      · subst z; simp
    exact wpAny_binaryOp_repeat_ref (T := "tuple") (U := "int") (by decide) ⟨_, ho, rfl⟩ (fun s' => typeIs_int s' k t) noFill_tuple_mul F.fills_int_mul F.slot_int_rmul repeat_tuple F.slot_int_index.lookup
      (call_meets F.slot_int_rmul (typeIs_int s k t) F.entry_int_rmul (F.args_int_rmul_2 _ _) (int_rmul_tuple k t l its.toArray n dd sl)
        ⟨ho, rfl, ⟨_, ho, rfl⟩, call_meets F.slot_tuple_mul ⟨_, ho, rfl⟩ F.entry_tuple_mul (F.args_tuple_mul_2 _ _) (tuple_mul1 l its.toArray n dd sl k t c0 c1) ⟨ho, .ref l, H, I, rfl, q1 hsame⟩⟩)
  · have hne : xs ≠ [] := fun z => hsame (.inl z)
    have hk : k ≠ 1 := fun z => hsame (.inr z)
    have hn : its ≠ [] := fun e => hne (by
      rw [e] at hle
      exact List.eq_nil_of_length_eq_zero hle.symm)
    have hi : its.toArray.isEmpty = false := by
      cases its with
      | nil => exact absurd rfl hn
      | cons a b => rfl
    have c1 : (its.toArray.isEmpty || k == 1) = false := by
      rw [hi, Bool.false_or]
      exact beq_eq_false_iff_ne.mpr hk
    by_cases h0 : k ≤ 0
    · have c2 : (decide (k ≤ 0) || its.toArray.isEmpty) = true := by rw [decide_eq_true h0]; rfl
      have hz0 : k.toNat = 0 := by omega
      refine wpAny_binaryOp_repeat_ref (T := "tuple") (U := "int") (by decide) ⟨_, ho, rfl⟩ (fun s' => typeIs_int s' k t) noFill_tuple_mul F.fills_int_mul F.slot_int_rmul repeat_tuple F.slot_int_index.lookup
        (call_meets F.slot_int_rmul (typeIs_int s k t) F.entry_int_rmul (F.args_int_rmul_2 _ _) (int_rmul_tuple k t l its.toArray n dd sl)
          ⟨ho, rfl, ⟨_, ho, rfl⟩, call_meets F.slot_tuple_mul ⟨_, ho, rfl⟩ F.entry_tuple_mul (F.args_tuple_mul_2 _ _) (tuple_mul0 l its.toArray n dd sl k t c0 c1 c2) ⟨ho, ?_⟩⟩)
      have q := q hne hk
      rw [hz0] at q
      exact laidT (t' := s.toks) (its := []) I .nil (Nat.zero_le _) q
    · have hm : ((its.toArray.size : Nat) : Int) * k ≤ 1000000 := by
        rw [hsz0]
        have a1 : ((xs.length : Nat) : Int) * k ≤ 1000 * k := Int.mul_le_mul_of_nonneg_right (by omega) (by omega)
        omega
      have flen : (List.replicate k.toNat its).flatten.length ≤ sizeLine := by
        rw [PyProof.Rows.lm_len_rep_flat, hle, sizeLine_eq]
        have a1 : k.toNat * xs.length ≤ 1000 * 1000 := Nat.mul_le_mul (by omega) hz
        omega
      have c2 : (decide (k ≤ 0) || its.toArray.isEmpty) = false := by
        rw [hi, Bool.or_false]
        exact decide_eq_false (by omega)
      have c4 : Builtin.Tuple.tupleTooMany (((its.toArray.size : Nat) : Int) * k) = false := by
        unfold Builtin.Tuple.tupleTooMany
        rw [sizeLine_eq]
        exact decide_eq_false (by omega)
      refine wpAny_binaryOp_repeat_ref (T := "tuple") (U := "int") (by decide) ⟨_, ho, rfl⟩ (fun s' => typeIs_int s' k t) noFill_tuple_mul F.fills_int_mul F.slot_int_rmul repeat_tuple F.slot_int_index.lookup
        (call_meets F.slot_int_rmul (typeIs_int s k t) F.entry_int_rmul (F.args_int_rmul_2 _ _) (int_rmul_tuple k t l its.toArray n dd sl)
          ⟨ho, rfl, ⟨_, ho, rfl⟩, call_meets F.slot_tuple_mul ⟨_, ho, rfl⟩ F.entry_tuple_mul (F.args_tuple_mul_2 _ _) (tuple_mulW l its.toArray n dd sl k t c0 c1 c2 (by omega) c4 (by rw [size_rep, List.size_toArray]; exact flen)) ⟨ho, ?_⟩⟩)
      rw [size_rep]
      exact laidT (t' := s.toks) I (r.rep k.toNat) (by rw [PyProof.Rows.lm_len_rep_flat, sizeLine_eq]; have a1 : k.toNat * xs.length ≤ 1000 * 1000 := Nat.mul_le_mul (by omega) hz; omega) (q hne hk)
/-- t[lo:hi] -/
def rSlF (K : PySem.W.Frag) : V → Option Int → Option Int → Hp → VK → Prop := fun x lo hi H Q => ∃ a xs, x = .ref a ∧ SqT K H a xs ∧
  (HT.sIx xs.length 0 lo = 0 ∧ HT.sIx xs.length xs.length hi = xs.length → Q (.ref a) H) ∧ (¬ (HT.sIx xs.length 0 lo = 0 ∧ HT.sIx xs.length xs.length hi = xs.length) → NewT (cutV xs lo hi) H Q)
theorem sl_tupF : SlR X (rSlF X.K) := by
  intro pins s σ H x v vl vu lo hi sl Q I rx hs pl pu h
  obtain ⟨a, xs, rfl, hx, q1, q2⟩ := h
  cases rx
  obtain ⟨its, r, ht, hz⟩ := I.tuple hx
  have hlen : its.toArray.size = xs.length := by rw [List.size_toArray]; exact r.length.symm
  refine ⟨"tuple", _, PyProof.Rows.slot_tuple_getitem.lookup, ht.typeIs, ?_⟩
  by_cases hw : HT.sIx xs.length 0 lo = 0 ∧ HT.sIx xs.length xs.length hi = xs.length
  · exact getItem_tuple_whole ht hs pl pu (by rw [hlen]; exact hw) ⟨.ref a, H, I, rfl, q1 hw⟩
  · refine HT.getItem_tuple_cut ht hs pl pu (by rw [hlen]; exact hw) ?_ (by rw [hlen]; exact hz)
    rw [hlen]
    exact laidT (t' := s.toks) I ((r.drop (HT.sIx xs.length 0 lo)).take (HT.sIx xs.length xs.length hi - HT.sIx xs.length 0 lo)) (Nat.le_trans (cutV_length xs lo hi) hz) (q2 hw)
/-- tuple(x) -/
theorem call_tupF : CallR X (.type "tuple") (fun xs H Q => ∃ p ys, xs = [.ref p] ∧ ((SqL X.K H p ys ∧ NewT ys H Q) ∨ (SqT X.K H p ys ∧ Q (.ref p) H))) := by
  intro pins s σ H xs us Q I r h
  obtain ⟨p, ys, rfl, h⟩ := h
  obtain ⟨u, rfl, rx⟩ := vals1 r
  cases rx
  rcases h with ⟨hq, q⟩ | ⟨hq, q⟩
  · obtain ⟨its, r', pl, hz⟩ := I.list hq
    have hlen := r'.length
    refine call_tuple_list pl.isList (fun h' kp => ?_) (by simp only [List.size_toArray] <;> omega)
    have I1 : Inv X pins σ H { s with heap := h' } := I.kept (t' := s.toks) kp
    exact laidT (t' := s.toks) I1 r' hz q
  · obtain ⟨its, r', pl, hz⟩ := I.tuple hq
    exact call_tuple_same pl ⟨.ref p, H, I, rfl, q⟩
def tTupRgF (te : L2.St → Hp → (Int → Int → Hp → Prop) → Prop) : TE := fun σ H Q => te σ H fun a b H1 => RgOk a b ∧ NewT (rgV a b) H1 Q
theorem pe_tupRgF {e : Expr} {te : L2.St → Hp → (Int → Int → Hp → Prop) → Prop} {p pos : Pos} (hc : X.calm = true) (hg : Gl X "tuple") (hm : X.mg "tuple" = none) (he : PRg X e te) (na : starEach [e] X.env = (false, eval e X.env) :: starEach [] X.env := by rfl) : PE X (.Call (.Name "tuple" p) [e] [] pos) (tTupRgF te) := by
  refine ⟨fun pins s σ H Q I h => ?_⟩
  refine Call_ (ld_blt I hg hm boot_tuple (PyProof.Rows.callWith_type1 (args_cons (thn (he pins s σ H _ I h) fun x s1 ⟨r, a, b, t, u, v, H1, ex, hr, I1, ok, q⟩ => args_nil ?_) na) na))
  subst ex
  obtain ⟨b1, b2, b3, b4, b5⟩ := ok
  refine call_tuple_range (n := (b - a).toNat) (I1.ok.hd hc) hr (small_one b1 b2 b3 b4) (rangeSize_nat a b) b5 fun h' tk acc hk hi => ?_
  have I2 : Inv X pins σ H1 { s1 with heap := h', toks := tk } := I1.kept hk
  have := laidT (t' := tk) I2 (vals_rg hi) (by rw [rgV_length, sizeLine_eq]; omega) q
  rw [Array.toArray_toList] at this
  exact this
end
end L3

set_option Elab.async false
set_option linter.all false
set_option maxRecDepth 100000
/-! L3: pure data over the hand layer: what a value stands for, slots, results. -/
namespace L3
open PySem PySem.Spec PyProof.Rows L2
abbrev D := PyData
abbrev St := L2.St
/-! ### what a value stands for -/
mutual
inductive Rp (K : PySem.W.Frag) (S : Hp) : V → D → Prop
  | non : Rp K S .non .none
  | bl (b : Bool) : Rp K S (.bl b) (.bool b)
  | int (i : Int) : Rp K S (.int i) (.int i)
  | str (x : Str) : Rp K S (.str x) (.str x)
  | lst {a : Addr} {xs : List V} {ds : List D} : S a = some (.lst xs) → RpAll K S xs ds → Rp K S (.ref a) (.list ds)
  | tup {a : Addr} {xs : List V} {ds : List D} : SqT K S a xs → RpAll K S xs ds → Rp K S (.ref a) (.tuple ds)
  | dK {a : Addr} {kvs : List (Key × V)} {ds : List (D × D)} : S a = some (.dK kvs) → RpKv K S kvs ds → Rp K S (.ref a) (.dict ds)
  | dT {a : Addr} {kvs : List (List Key × V)} {ds : List (D × D)} : S a = some (.dT kvs) → RpTv K S kvs ds → Rp K S (.ref a) (.dict ds)
inductive RpAll (K : PySem.W.Frag) (S : Hp) : List V → List D → Prop
  | nil : RpAll K S [] []
  | cons {v : V} {vs : List V} {d : D} {ds : List D} : Rp K S v d → RpAll K S vs ds → RpAll K S (v :: vs) (d :: ds)
inductive RpKv (K : PySem.W.Frag) (S : Hp) : List (Key × V) → List (D × D) → Prop
  | nil : RpKv K S [] []
  | consI {i : Int} {v : V} {vs : List (Key × V)} {d : D} {ds : List (D × D)} : Rp K S v d → RpKv K S vs ds → RpKv K S ((.inl i, v) :: vs) ((.int i, d) :: ds)
  | consS {x : Str} {v : V} {vs : List (Key × V)} {d : D} {ds : List (D × D)} : Rp K S v d → RpKv K S vs ds → RpKv K S ((.inr x, v) :: vs) ((.str x, d) :: ds)
inductive RpTv (K : PySem.W.Frag) (S : Hp) : List (List Key × V) → List (D × D) → Prop
  | nil : RpTv K S [] []
  | cons {k : List Key} {v : V} {vs : List (List Key × V)} {d : D} {ds : List (D × D)} : Rp K S v d → RpTv K S vs ds → RpTv K S ((k, v) :: vs) ((.tuple (k.map fun | .inl i => .int i | .inr x => .str x), d) :: ds)
end
/-- all that S holds is held by H -/
def Ext (S H : Hp) : Prop := ∀ a o, S a = some o → H a = some o
theorem Ext.refl (S : Hp) : Ext S S := fun _ _ h => h
theorem Ext.trans {A B C : Hp} (h : Ext A B) (g : Ext B C) : Ext A C := fun a o e => g a o (h a o e)
theorem Ext.upd {S : Hp} {p : Addr} {o : HO} (h : S p = none) : Ext S (upd S p o) := fun a u e => by
  rw [upd_ne (ne_of_none e h)]
  exact e
theorem Ext.rd {S H : Hp} (e : Ext S H) {a : Addr} {u : HO} (h : Rd S a u) : Rd H a u := by
  rcases h with h | ⟨o, h⟩
  · exact .inl (e _ _ h)
  · exact .inr ⟨o, e _ _ h⟩
theorem Ext.sqL {K : PySem.W.Frag} {S H : Hp} (e : Ext S H) {a : Addr} {xs : List V} (h : SqL K S a xs) : SqL K H a xs := by
  rcases h with h | h
  · exact .inl (e.rd h)
  · exact .inr h
theorem Ext.sqT {K : PySem.W.Frag} {S H : Hp} (e : Ext S H) {a : Addr} {xs : List V} (h : SqT K S a xs) : SqT K H a xs := by
  rcases h with h | h
  · exact .inl (e.rd h)
  · exact .inr h
mutual
theorem Rp.mono {K : PySem.W.Frag} {S H : Hp} (e : Ext S H) : ∀ {v : V} {d : D}, Rp K S v d → Rp K H v d
  | _, _, .non => .non
  | _, _, .bl b => .bl b
  | _, _, .int i => .int i
  | _, _, .str x => .str x
  | _, _, .lst h r => .lst (e _ _ h) (RpAll.mono e r)
  | _, _, .tup h r => .tup (e.sqT h) (RpAll.mono e r)
  | _, _, .dK h r => .dK (e _ _ h) (RpKv.mono e r)
  | _, _, .dT h r => .dT (e _ _ h) (RpTv.mono e r)
theorem RpAll.mono {K : PySem.W.Frag} {S H : Hp} (e : Ext S H) : ∀ {vs : List V} {ds : List D}, RpAll K S vs ds → RpAll K H vs ds
  | _, _, .nil => .nil
  | _, _, .cons h r => .cons (Rp.mono e h) (RpAll.mono e r)
theorem RpKv.mono {K : PySem.W.Frag} {S H : Hp} (e : Ext S H) : ∀ {vs : List (Key × V)} {ds : List (D × D)}, RpKv K S vs ds → RpKv K H vs ds
  | _, _, .nil => .nil
  | _, _, .consI h r => .consI (Rp.mono e h) (RpKv.mono e r)
  | _, _, .consS h r => .consS (Rp.mono e h) (RpKv.mono e r)
theorem RpTv.mono {K : PySem.W.Frag} {S H : Hp} (e : Ext S H) : ∀ {vs : List (List Key × V)} {ds : List (D × D)}, RpTv K S vs ds → RpTv K H vs ds
  | _, _, .nil => .nil
  | _, _, .cons h r => .cons (Rp.mono e h) (RpTv.mono e r)
end
mutual
/-- no dict in it -/
def noDict : D → Bool
  | .none | .bool _ | .int _ | .str _ => true
  | .list xs | .tuple xs => noDictAll xs
  | .dict _ => false
def noDictAll : List D → Bool
  | [] => true
  | x :: xs => noDict x && noDictAll xs
end
mutual
/-- no list, no dict in it -/
def noList : D → Bool
  | .none | .bool _ | .int _ | .str _ => true
  | .tuple xs => noListAll xs
  | .list _ | .dict _ => false
def noListAll : List D → Bool
  | [] => true
  | x :: xs => noList x && noListAll xs
end
mutual
theorem Rp.dp {K : PySem.W.Frag} {S : Hp} : ∀ {v : V} {d : D}, Rp K S v d → noDict d = true → Dp K S v d
  | _, _, .non, _ => .non
  | _, _, .bl b, _ => .bl b
  | _, _, .int i, _ => .int i
  | _, _, .str x, _ => .str x
  | _, _, .lst h r, n => .lst (SqL.of h) (RpAll.dp r (by simpa [noDict] using n))
  | _, _, .tup h r, n => .tup h (RpAll.dp r (by simpa [noDict] using n))
  | _, _, .dK h r, n => by simp [noDict] at n
  | _, _, .dT h r, n => by simp [noDict] at n
theorem RpAll.dp {K : PySem.W.Frag} {S : Hp} : ∀ {vs : List V} {ds : List D}, RpAll K S vs ds → noDictAll ds = true → DpAll K S vs ds
  | _, _, .nil, _ => .nil
  | _, _, .cons h r, n => by
    simp only [noDictAll, Bool.and_eq_true] at n
    exact .cons (Rp.dp h n.1) (RpAll.dp r n.2)
end
theorem RpAll.length {K : PySem.W.Frag} {S : Hp} : ∀ {vs : List V} {ds : List D}, RpAll K S vs ds → vs.length = ds.length
  | _, _, .nil => rfl
  | _, _, .cons _ r => by rw [List.length_cons, List.length_cons, RpAll.length r]
theorem RpAll.get {K : PySem.W.Frag} {S : Hp} : ∀ {vs : List V} {ds : List D} {i : Nat} {d : D}, RpAll K S vs ds → ds[i]? = some d → ∃ v, vs[i]? = some v ∧ Rp K S v d
  | _, _, _, _, .nil, e => by simp at e
  | _, _, 0, _, .cons h _, e => by simp at e; subst e; exact ⟨_, rfl, h⟩
  | _, _, i + 1, d, .cons _ r, e => by
    obtain ⟨v, h1, h2⟩ := RpAll.get (i := i) (d := d) r (by simpa using e)
    exact ⟨v, by simpa using h1, h2⟩
theorem RpAll.getV {K : PySem.W.Frag} {S : Hp} : ∀ {vs : List V} {ds : List D} {i : Nat} {v : V}, RpAll K S vs ds → vs[i]? = some v → ∃ d, ds[i]? = some d ∧ Rp K S v d
  | _, _, _, _, .nil, e => by simp at e
  | _, _, 0, _, .cons h _, e => by simp at e; subst e; exact ⟨_, rfl, h⟩
  | _, _, i + 1, v, .cons _ r, e => by
    obtain ⟨d, h1, h2⟩ := RpAll.getV (i := i) (v := v) r (by simpa using e)
    exact ⟨d, by simpa using h1, h2⟩
theorem RpAll.append {K : PySem.W.Frag} {S : Hp} : ∀ {vs ws : List V} {ds es : List D}, RpAll K S vs ds → RpAll K S ws es → RpAll K S (vs ++ ws) (ds ++ es)
  | _, _, _, _, .nil, s => s
  | _, _, _, _, .cons h r, s => .cons h (RpAll.append r s)
theorem RpAll.drop {K : PySem.W.Frag} {S : Hp} : ∀ {vs : List V} {ds : List D} (n : Nat), RpAll K S vs ds → RpAll K S (vs.drop n) (ds.drop n)
  | _, _, 0, r => r
  | _, _, _ + 1, .nil => .nil
  | _, _, n + 1, .cons _ r => RpAll.drop n r
theorem RpAll.take {K : PySem.W.Frag} {S : Hp} : ∀ {vs : List V} {ds : List D} (n : Nat), RpAll K S vs ds → RpAll K S (vs.take n) (ds.take n)
  | _, _, 0, _ => .nil
  | _, _, _ + 1, .nil => .nil
  | _, _, n + 1, .cons h r => .cons h (RpAll.take n r)
theorem RpAll.set {K : PySem.W.Frag} {S : Hp} {v : V} {d : D} (h : Rp K S v d) : ∀ {vs : List V} {ds : List D} (i : Nat), RpAll K S vs ds → RpAll K S (vs.set i v) (ds.set i d)
  | _, _, _, .nil => .nil
  | _, _, 0, .cons _ r => .cons h r
  | _, _, i + 1, .cons q r => .cons q (RpAll.set h i r)
theorem RpAll.reverse {K : PySem.W.Frag} {S : Hp} : ∀ {vs : List V} {ds : List D}, RpAll K S vs ds → RpAll K S vs.reverse ds.reverse
  | _, _, .nil => .nil
  | _, _, .cons h r => by
    rw [List.reverse_cons, List.reverse_cons]
    exact (RpAll.reverse r).append (.cons h .nil)
theorem RpAll.ints {K : PySem.W.Frag} {S : Hp} : ∀ (ns : List Int), RpAll K S (ns.map V.int) (ns.map PyData.int)
  | [] => .nil
  | n :: ns => .cons (.int n) (RpAll.ints ns)

/-! ### owned objects, slots -/
inductive Ob
  | lst (ds : List D)
  | dic (kvs : List (D × D))
def Ob.toD : Ob → D
  | .lst ds => .list ds
  | .dic kvs => .dict kvs
inductive OR (K : PySem.W.Frag) (S : Hp) : HO → Ob → Prop
  | lst {vs : List V} {ds : List D} : RpAll K S vs ds → OR K S (.lst vs) (.lst ds)
  | dK {kvs : List (Key × V)} {ds : List (D × D)} : RpKv K S kvs ds → OR K S (.dK kvs) (.dic ds)
  | dT {kvs : List (List Key × V)} {ds : List (D × D)} : RpTv K S kvs ds → OR K S (.dT kvs) (.dic ds)
theorem OR.mono {K : PySem.W.Frag} {S H : Hp} (e : Ext S H) {u : HO} {o : Ob} (h : OR K S u o) : OR K H u o := by
  cases h with
  | lst r => exact .lst (r.mono e)
  | dK r => exact .dK (r.mono e)
  | dT r => exact .dT (r.mono e)
inductive Sl
  | un
  | sh (d : D)
  | ow (o : Ob)
  | bo (j : Nat) (o : Ob)
abbrev En := List Sl
/-- what a slot holds, to be read -/
def Sl.cont : Sl → Option D
  | .un => none
  | .sh d => some d
  | .ow o => some o.toD
  | .bo _ o => some o.toD
def Sl.isO : Sl → Bool
  | .ow _ => true
  | .bo _ _ => true
  | _ => false
inductive RV
  | val (d : D)
  | own (o : Ob)
def RV.toD : RV → D
  | .val d => d
  | .own o => o.toD
def RV.sl : RV → Sl
  | .val d => .sh d
  | .own o => .ow o

/-! ### results -/
inductive Res (α : Type) where
  | ok (a : α) (ρ : En)
  | err (k : Nat) (ρ : En)
  | no
abbrev P (α : Type) := En → Res α
@[reducible] def ret {α : Type} (a : α) : P α := fun ρ => .ok a ρ
def fail {α : Type} : P α := fun _ => .no
def Res.bind {α β : Type} (r : Res α) (g : α → P β) : Res β := match r with
  | .ok a ρ => g a ρ
  | .err k ρ => .err k ρ
  | .no => .no
@[reducible] def seq {α β : Type} (f : P α) (g : α → P β) : P β := fun ρ => (f ρ).bind g
def Res.post {α : Type} (r : Res α) (A : α → En → Prop) (B : Nat → En → Prop) : Prop := match r with
  | .ok a ρ => A a ρ
  | .err k ρ => B k ρ
  | .no => False
theorem Res.post_bind {α β : Type} {r : Res α} {g : α → P β} {A : β → En → Prop} {B : Nat → En → Prop} (h : (r.bind g).post A B) : r.post (fun a ρ => (g a ρ).post A B) B := by
  cases r <;> exact h
theorem Res.post_mono {α : Type} {r : Res α} {A A' : α → En → Prop} {B B' : Nat → En → Prop} (h : r.post A B) (hA : ∀ a ρ, A a ρ → A' a ρ) (hB : ∀ k ρ, B k ρ → B' k ρ) : r.post A' B' := by
  cases r with
  | ok a ρ => exact hA _ _ h
  | err k ρ => exact hB _ _ h
  | no => exact h
def opt {α : Type} (o : Option α) : P α := fun ρ => match o with
  | some a => .ok a ρ
  | none => .no

/-! ### the state -/
structure GC where
  K : PySem.W.Frag
  cls : Nat → Value
  T : List Addr
  td : Bool
structure FC where
  g : GC
  B : List Addr
  M0 : Hp
abbrev FC.K (F : FC) : PySem.W.Frag := F.g.K
def SlOk (F : FC) (S M : Hp) (v : Option V) : Sl → Prop
  | .un => True
  | .sh d => ∃ x, v = some x ∧ Rp F.K S x d
  | .ow o => ∃ p u, v = some (.ref p) ∧ M p = some u ∧ OR F.K S u o ∧ F.M0 p = none ∧ p ∉ F.B
  | .bo j o => ∃ p u, v = some (.ref p) ∧ F.B[j]? = some p ∧ M p = some u ∧ OR F.K S u o
def IsOb : HO → Prop
  | .lst _ => True
  | .dK _ => True
  | .dT _ => True
  | _ => False
theorem OR.isOb {K : PySem.W.Frag} {S : Hp} {u : HO} {o : Ob} (h : OR K S u o) : IsOb u := by
  cases h <;> trivial
/-- a tuple whose object bears no dict -/
def TdOk : Option HO → Prop
  | some (.tup _) => False
  | some (.frz o (.tup _)) => o.dict = none
  | _ => True
theorem IsOb.tdOk {u : HO} (h : IsOb u) : TdOk (some u) := by
  cases u <;> first | trivial | exact h.elim
structure SR (F : FC) (ρ : En) (σ : St) (S M H : Hp) : Prop where
  len : ρ.length = σ.length
  sub : Ext S H
  own : Ext M H
  dis : ∀ a, S a = none ∨ M a = none
  keep : ∀ a o, a ∉ F.B → F.M0 a = some o → M a = some o
  bth : ∀ a ∈ F.B, ∃ u, M a = some u
  tab : ∀ a ∈ F.g.T, GxR.TabG H a ∧ S a = none ∧ M a = none
  kind : (∀ a o, M a = some o → IsOb o) ∧ (F.g.td = true → ∀ a, TdOk (S a))
  slot : ∀ (i : Nat) sl v, ρ[i]? = some sl → σ[i]? = some v → SlOk F S M v sl
  sep : ∀ (i j : Nat) a b, i ≠ j → ρ[i]? = some a → ρ[j]? = some b → a.isO = true → b.isO = true → σ[i]? ≠ σ[j]?
end L3

set_option Elab.async false
set_option linter.all false
set_option maxRecDepth 100000
namespace L3
open PySem PySem.Spec PyProof.Rows L2

def RVok (F : FC) (ρ : En) (σ : St) (S M : Hp) (v : V) : RV → Prop
  | .val d => Rp F.K S v d
  | .own o => ∃ p u, v = .ref p ∧ M p = some u ∧ OR F.K S u o ∧ F.M0 p = none ∧ p ∉ F.B ∧ ∀ (i : Nat) sl, ρ[i]? = some sl → sl.isO = true → σ[i]? ≠ some (some (.ref p))
/-- a value that is read: held by S, or an owned object -/
def RpB (F : FC) (S M : Hp) (v : V) (d : D) : Prop := Rp F.K S v d ∨ ∃ p u o, v = .ref p ∧ M p = some u ∧ OR F.K S u o ∧ d = o.toD
def del (M : Hp) (p : Addr) : Hp := fun b => if b = p then none else M b
theorem del_same {M : Hp} {p : Addr} : del M p p = none := by unfold del; rw [if_pos rfl]
theorem del_ne {M : Hp} {p b : Addr} (h : b ≠ p) : del M p b = M b := by unfold del; rw [if_neg h]
theorem del_some {M : Hp} {p b : Addr} {o : HO} (h : del M p b = some o) : b ≠ p ∧ M b = some o := by
  by_cases e : b = p
  · subst e; rw [del_same] at h; cases h
  · rw [del_ne e] at h; exact ⟨e, h⟩
theorem tab_not_ob {H : Hp} {a : Addr} {o : HO} (t : GxR.TabG H a) (h : H a = some o) (k : IsOb o) : False := by
  obtain ⟨ps, e, _⟩ := t
  rw [h] at e
  cases e
  exact k

section
variable {F : FC} {ρ : En} {σ : St} {S M H : Hp}
theorem OR.rp {K : PySem.W.Frag} {S : Hp} {u : HO} {o : Ob} {p : Addr} (h : OR K S u o) (e : S p = some u) : Rp K S (.ref p) o.toD := by
  cases h with
  | lst r => exact .lst e r
  | dK r => exact .dK e r
  | dT r => exact .dT e r
theorem SR.slO (R : SR F ρ σ S M H) {i : Nat} {sl : Sl} {v : Option V} (h : ρ[i]? = some sl) (e : σ[i]? = some v) (o : sl.isO = true) : ∃ p, v = some (.ref p) ∧ ∃ u, M p = some u := by
  have q := R.slot i sl v h e
  cases sl with
  | un => cases o
  | sh d => cases o
  | ow x => obtain ⟨p, u, e1, e2, _⟩ := q; exact ⟨p, e1, u, e2⟩
  | bo j x => obtain ⟨p, u, e1, _, e2, _⟩ := q; exact ⟨p, e1, u, e2⟩
theorem SR.at (R : SR F ρ σ S M H) {i : Nat} {sl : Sl} (h : ρ[i]? = some sl) : ∃ v, σ[i]? = some v := by
  have hi : i < ρ.length := (List.getElem?_eq_some_iff.mp h).1
  rw [R.len] at hi
  exact ⟨σ[i], List.getElem?_eq_getElem hi⟩
theorem SlOk.mono {S' : Hp} {v : Option V} {sl : Sl} (e : Ext S S') (h : SlOk F S M v sl) : SlOk F S' M v sl := by
  cases sl with
  | un => trivial
  | sh d => obtain ⟨x, h1, h2⟩ := h; exact ⟨x, h1, h2.mono e⟩
  | ow o => obtain ⟨p, u, h1, h2, h3, h4⟩ := h; exact ⟨p, u, h1, h2, h3.mono e, h4⟩
  | bo j o => obtain ⟨p, u, h1, h2, h3, h4⟩ := h; exact ⟨p, u, h1, h2, h3, h4.mono e⟩
/-- the object at p, no slot's, is let go into S -/
theorem SR.freezeAt (R : SR F ρ σ S M H) {p : Addr} {u : HO} (hM : M p = some u) (h0 : F.M0 p = none) (hB : p ∉ F.B) (hs : ∀ (i : Nat) sl, ρ[i]? = some sl → sl.isO = true → σ[i]? ≠ some (some (.ref p))) :
    Ext S (upd S p u) ∧ SR F ρ σ (upd S p u) (del M p) H := by
  have hS : S p = none := by
    rcases R.dis p with h | h
    · exact h
    · rw [hM] at h; cases h
  have ex : Ext S (upd S p u) := Ext.upd hS
  refine ⟨ex, R.len, fun a o e => ?_, fun a o e => R.own a o (del_some e).2, fun a => ?_, fun a o ha e => ?_, fun a ha => by rw [del_ne fun z => hB (by rw [← z]; exact ha)]; exact R.bth a ha, fun a ha => ?_, ⟨fun a o e => R.kind.1 a o (del_some e).2, fun ht a => by
      by_cases ha : a = p
      · subst ha; rw [upd_same]; exact (R.kind.1 _ _ hM).tdOk
      · rw [upd_ne ha]; exact R.kind.2 ht a⟩, fun i sl v h e => ?_, R.sep⟩
  · by_cases ha : a = p
    · subst ha; rw [upd_same] at e; cases e; exact R.own _ _ hM
    · rw [upd_ne ha] at e; exact R.sub a o e
  · by_cases ha : a = p
    · subst ha; exact .inr del_same
    · rw [upd_ne ha, del_ne ha]; exact R.dis a
  · have : a ≠ p := fun z => by subst z; rw [h0] at e; cases e
    rw [del_ne this]; exact R.keep a o ha e
  · obtain ⟨t1, t2, t3⟩ := R.tab a ha
    have : a ≠ p := fun z => by subst z; rw [hM] at t3; cases t3
    exact ⟨t1, by rw [upd_ne this]; exact t2, by rw [del_ne this]; exact t3⟩
  · have q := R.slot i sl v h e
    have ne : sl.isO = true → v ≠ some (.ref p) := fun o z => hs i sl h o (by rw [e, z])
    cases sl with
    | un => trivial
    | sh d => exact q.mono ex
    | ow o =>
      obtain ⟨p', u', e1, e2, e3, e4⟩ := q
      have : p' ≠ p := fun z => ne rfl (by rw [e1, z])
      exact ⟨p', u', e1, by rw [del_ne this]; exact e2, e3.mono ex, e4⟩
    | bo j o =>
      obtain ⟨p', u', e1, e2, e3, e4⟩ := q
      have : p' ≠ p := fun z => ne rfl (by rw [e1, z])
      exact ⟨p', u', e1, e2, by rw [del_ne this]; exact e3, e4.mono ex⟩
theorem SR.freeze (R : SR F ρ σ S M H) {v : V} {rv : RV} (h : RVok F ρ σ S M v rv) : ∃ S' M', Ext S S' ∧ SR F ρ σ S' M' H ∧ Rp F.K S' v rv.toD := by
  cases rv with
  | val d => exact ⟨S, M, Ext.refl S, R, h⟩
  | own o =>
    obtain ⟨p, u, rfl, h1, h2, h3, h4, h5⟩ := h
    obtain ⟨ex, R'⟩ := R.freezeAt h1 h3 h4 h5
    exact ⟨_, _, ex, R', (h2.mono ex).rp upd_same⟩
/-- slot i holds v -/
theorem SR.set (R : SR F ρ σ S M H) {v : V} {rv : RV} (h : RVok F ρ σ S M v rv) (i : Nat) : SR F (ρ.set i rv.sl) (σ.set i (some v)) S M H := by
  refine ⟨by rw [List.length_set, List.length_set]; exact R.len, R.sub, R.own, R.dis, R.keep, R.bth, R.tab, R.kind, fun j sl w hj ej => ?_, fun j k a b hjk ha hb oa ob => ?_⟩
  · by_cases hij : i = j
    · subst hij
      have hl : i < ρ.length := by
        have := (List.getElem?_eq_some_iff.mp hj).1
        rwa [List.length_set] at this
      rw [List.getElem?_set_self hl] at hj
      rw [List.getElem?_set_self (by rw [← R.len]; exact hl)] at ej
      cases hj; cases ej
      cases rv with
      | val d => exact ⟨v, rfl, h⟩
      | own o =>
        obtain ⟨p, u, e, h1, h2, h3, h4, _⟩ := h
        exact ⟨p, u, by rw [e], h1, h2, h3, h4⟩
    · rw [List.getElem?_set_ne hij] at hj ej
      exact R.slot j sl w hj ej
  · have key : ∀ (j : Nat) (a : Sl), ρ[j]? = some a → a.isO = true → ∀ (rv : RV), RVok F ρ σ S M v rv → rv.sl.isO = true → σ[j]? ≠ some (some v) := fun j a ha oa rv hr ov => by
      cases rv with
      | val d => cases ov
      | own o =>
        obtain ⟨p, u, e, _, _, _, _, h5⟩ := hr
        rw [e]; exact h5 j a ha oa
    by_cases hij : i = j
    · subst hij
      have hik : i ≠ k := hjk
      have hl : i < ρ.length := by
        have := (List.getElem?_eq_some_iff.mp ha).1
        rwa [List.length_set] at this
      rw [List.getElem?_set_self hl] at ha
      cases ha
      rw [List.getElem?_set_ne hik] at hb
      rw [List.getElem?_set_self (by rw [← R.len]; exact hl), List.getElem?_set_ne hik]
      exact fun z => key k b hb ob rv h oa z.symm
    · rw [List.getElem?_set_ne hij] at ha
      rw [List.getElem?_set_ne hij]
      by_cases hik : i = k
      · subst hik
        have hl : i < ρ.length := by
          have := (List.getElem?_eq_some_iff.mp hb).1
          rwa [List.length_set] at this
        rw [List.getElem?_set_self hl] at hb
        cases hb
        rw [List.getElem?_set_self (by rw [← R.len]; exact hl)]
        exact key j a ha oa rv h ob
      · rw [List.getElem?_set_ne hik] at hb
        rw [List.getElem?_set_ne hik]
        exact R.sep j k a b hjk ha hb oa ob
/-- less is known -/
theorem SR.weak (R : SR F ρ σ S M H) {ρ' : En} (hl : ρ'.length = ρ.length) (h : ∀ (i : Nat) sl, ρ'[i]? = some sl → sl = .un ∨ ρ[i]? = some sl) : SR F ρ' σ S M H := by
  refine ⟨hl.trans R.len, R.sub, R.own, R.dis, R.keep, R.bth, R.tab, R.kind, fun i sl v e1 e2 => ?_, fun i j a b hij ha hb oa ob => ?_⟩
  · rcases h i sl e1 with e | e
    · subst e; trivial
    · exact R.slot i sl v e e2
  · rcases h i a ha with e | e
    · subst e; cases oa
    · rcases h j b hb with e' | e'
      · subst e'; cases ob
      · exact R.sep i j a b hij e e' oa ob
theorem set_look {α : Type} {l : List α} {i j : Nat} {x y : α} (h : (l.set i x)[j]? = some y) : (i = j ∧ y = x ∧ i < l.length) ∨ (i ≠ j ∧ l[j]? = some y) := by
  by_cases hij : i = j
  · subst hij
    have hl : i < l.length := by
      have := (List.getElem?_eq_some_iff.mp h).1
      rwa [List.length_set] at this
    rw [List.getElem?_set_self hl] at h
    cases h
    exact .inl ⟨rfl, rfl, hl⟩
  · rw [List.getElem?_set_ne hij] at h
    exact .inr ⟨hij, h⟩
theorem SR.forget (R : SR F ρ σ S M H) (i : Nat) : SR F (ρ.set i .un) σ S M H :=
  R.weak (List.length_set ..) fun j sl h => by
    rcases set_look h with ⟨_, e, _⟩ | ⟨_, e⟩
    · exact .inl e
    · exact .inr e
/-- an owned slot is shared from now on -/
theorem SR.share (R : SR F ρ σ S M H) {i : Nat} {o : Ob} (h : ρ[i]? = some (.ow o)) : ∃ v S' M', σ[i]? = some (some v) ∧ Ext S S' ∧ SR F (ρ.set i (.sh o.toD)) σ S' M' H ∧ Rp F.K S' v o.toD := by
  obtain ⟨w, hw⟩ := R.at h
  obtain ⟨p, u, rfl, h1, h2, h3, h4⟩ := R.slot i _ _ h hw
  have R1 := R.forget i
  have hs : ∀ (j : Nat) sl, (ρ.set i .un)[j]? = some sl → sl.isO = true → σ[j]? ≠ some (some (.ref p)) := fun j sl e o z => by
    rcases set_look e with ⟨_, e, _⟩ | ⟨hij, e⟩
    · subst e; cases o
    · exact R.sep i j _ sl hij h e rfl o (hw.trans z.symm)
  obtain ⟨ex, R2⟩ := R1.freezeAt h1 h3 h4 hs
  have rp : Rp F.K (upd S p u) (.ref p) o.toD := (h2.mono ex).rp upd_same
  refine ⟨.ref p, upd S p u, del M p, hw, ex, ?_, rp⟩
  have R3 := R2.set (v := .ref p) (rv := .val o.toD) rp i
  rw [List.set_set] at R3
  have e : σ.set i (some (.ref p)) = σ := by
    apply List.ext_getElem?
    intro j
    by_cases hij : i = j
    · subst hij
      rw [List.getElem?_set_self (List.getElem?_eq_some_iff.mp hw).1, hw]
    · rw [List.getElem?_set_ne hij]
  rw [e] at R3
  exact R3
/-- a temporary is held through what comes next -/
def FC.hold (F : FC) (p : Addr) (u : HO) : FC := { F with M0 := upd F.M0 p u }
theorem SR.hold (R : SR F ρ σ S M H) {p : Addr} {u : HO} (hM : M p = some u) (hs : ∀ (i : Nat) sl, ρ[i]? = some sl → sl.isO = true → σ[i]? ≠ some (some (.ref p))) : SR (F.hold p u) ρ σ S M H := by
  refine ⟨R.len, R.sub, R.own, R.dis, fun a o ha e => ?_, R.bth, R.tab, R.kind, fun i sl v h e => ?_, R.sep⟩
  · by_cases hp : a = p
    · subst hp
      have e : upd F.M0 a u a = some o := e
      rw [upd_same] at e; cases e; exact hM
    · have e : upd F.M0 p u a = some o := e
      rw [upd_ne hp] at e
      exact R.keep a o ha e
  · have q := R.slot i sl v h e
    cases sl with
    | un => trivial
    | sh d => exact q
    | bo j o => exact q
    | ow o =>
      obtain ⟨p', u', e1, e2, e3, e4, e5⟩ := q
      have ne : p' ≠ p := fun z => hs i _ h rfl (by rw [e, e1, z])
      exact ⟨p', u', e1, e2, e3, by show upd F.M0 p u p' = none; rw [upd_ne ne]; exact e4, e5⟩
theorem SR.unhold {p : Addr} {u : HO} (R : SR (F.hold p u) ρ σ S M H) (h0 : F.M0 p = none) (hB : p ∉ F.B) : SR F ρ σ S M H ∧ M p = some u ∧ ∀ (i : Nat) sl, ρ[i]? = some sl → sl.isO = true → σ[i]? ≠ some (some (.ref p)) := by
  have hp : M p = some u := R.keep p u hB upd_same
  refine ⟨⟨R.len, R.sub, R.own, R.dis, fun a o ha e => ?_, R.bth, R.tab, R.kind, fun i sl v h e => ?_, R.sep⟩, hp, fun i sl h o z => ?_⟩
  · have ne : a ≠ p := fun z => by subst z; rw [h0] at e; cases e
    exact R.keep a o ha (by show upd F.M0 p u a = some o; rw [upd_ne ne]; exact e)
  · have q := R.slot i sl v h e
    cases sl with
    | un => trivial
    | sh d => exact q
    | bo j o => exact q
    | ow o =>
      obtain ⟨p', u', e1, e2, e3, e4, e5⟩ := q
      have e4 : upd F.M0 p u p' = none := e4
      have ne : p' ≠ p := fun z => by rw [z, upd_same] at e4; cases e4
      rw [upd_ne ne] at e4
      exact ⟨p', u', e1, e2, e3, e4, e5⟩
  · obtain ⟨w, hw⟩ := R.at h
    rw [z] at hw; cases hw
    have q := R.slot i sl _ h z
    cases sl with
    | un => cases o
    | sh d => cases o
    | bo j x =>
      obtain ⟨p', u', e1, e2, _⟩ := q
      cases e1
      exact hB (List.mem_of_getElem? e2)
    | ow x =>
      obtain ⟨p', u', e1, e2, e3, e4, e5⟩ := q
      cases e1
      have e4 : upd F.M0 p u p = none := e4
      rw [upd_same] at e4; cases e4
/-- a new object, shared -/
theorem SR.newS (R : SR F ρ σ S M H) {p : Addr} (hp : H p = none) (o : HO) (hto : TdOk (some o)) : Ext S (upd S p o) ∧ SR F ρ σ (upd S p o) M (upd H p o) := by
  have hS : S p = none := by
    cases e : S p with
    | none => rfl
    | some u => have := R.sub p u e; rw [hp] at this; cases this
  have hM : M p = none := by
    cases e : M p with
    | none => rfl
    | some u => have := R.own p u e; rw [hp] at this; cases this
  have ex := Ext.upd (o := o) hS
  refine ⟨ex, R.len, fun a u e => ?_, fun a u e => ?_, fun a => ?_, R.keep, R.bth, fun a ha => ?_, ⟨R.kind.1, fun ht a => by
      by_cases ha : a = p
      · subst ha; rw [upd_same]; exact hto
      · rw [upd_ne ha]; exact R.kind.2 ht a⟩, fun i sl v h e => (R.slot i sl v h e).mono ex, R.sep⟩
  · by_cases ha : a = p
    · subst ha; rw [upd_same] at e ⊢; exact e
    · rw [upd_ne ha] at e ⊢; exact R.sub a u e
  · have : a ≠ p := fun z => by subst z; rw [hM] at e; cases e
    rw [upd_ne this]; exact R.own a u e
  · by_cases ha : a = p
    · subst ha; exact .inr hM
    · rw [upd_ne ha]; exact R.dis a
  · obtain ⟨⟨ps, t0, tt⟩, t2, t3⟩ := R.tab a ha
    have : a ≠ p := fun z => by subst z; rw [hp] at t0; cases t0
    exact ⟨⟨ps, by rw [upd_ne this]; exact t0, tt⟩, by rw [upd_ne this]; exact t2, t3⟩
/-- a new object, owned -/
theorem SR.newM (R : SR F ρ σ S M H) {p : Addr} {u : HO} {o : Ob} (hp : H p = none) (r : OR F.K S u o) : SR F ρ σ S (upd M p u) (upd H p u) ∧ RVok F ρ σ S (upd M p u) (.ref p) (.own o) := by
  have hS : S p = none := by
    cases e : S p with
    | none => rfl
    | some u => have := R.sub p u e; rw [hp] at this; cases this
  have hM : M p = none := by
    cases e : M p with
    | none => rfl
    | some u => have := R.own p u e; rw [hp] at this; cases this
  have hB : p ∉ F.B := fun z => by
    obtain ⟨u, e⟩ := R.bth p z
    rw [hM] at e; cases e
  have h0 : F.M0 p = none := by
    cases e : F.M0 p with
    | none => rfl
    | some u => have := R.keep p u hB e; rw [hM] at this; cases this
  refine ⟨⟨R.len, fun a x e => ?_, fun a x e => ?_, fun a => ?_, fun a x ha e => ?_, fun a ha => by rw [upd_ne fun z => hB (by rw [← z]; exact ha)]; exact R.bth a ha, fun a ha => ?_, ⟨fun a x e => ?_, R.kind.2⟩, fun i sl v h e => ?_, R.sep⟩, p, u, rfl, upd_same, r, h0, hB, fun i sl h o z => ?_⟩
  · have : a ≠ p := fun z => by subst z; rw [hS] at e; cases e
    rw [upd_ne this]; exact R.sub a x e
  · by_cases ha : a = p
    · subst ha; rw [upd_same] at e ⊢; exact e
    · rw [upd_ne ha] at e ⊢; exact R.own a x e
  · by_cases ha : a = p
    · subst ha; exact .inl hS
    · rw [upd_ne ha]; exact R.dis a
  · have : a ≠ p := fun z => by subst z; rw [h0] at e; cases e
    rw [upd_ne this]; exact R.keep a x ha e
  · obtain ⟨⟨ps, t0, tt⟩, t2, t3⟩ := R.tab a ha
    have : a ≠ p := fun z => by subst z; rw [hp] at t0; cases t0
    exact ⟨⟨ps, by rw [upd_ne this]; exact t0, tt⟩, t2, by rw [upd_ne this]; exact t3⟩
  · by_cases ha : a = p
    · subst ha; rw [upd_same] at e; cases e; exact r.isOb
    · rw [upd_ne ha] at e; exact R.kind.1 a x e
  · have q := R.slot i sl v h e
    cases sl with
    | un => trivial
    | sh d => exact q
    | ow x =>
      obtain ⟨p', u', e1, e2, e3⟩ := q
      have : p' ≠ p := fun z => by subst z; rw [hM] at e2; cases e2
      exact ⟨p', u', e1, by rw [upd_ne this]; exact e2, e3⟩
    | bo j x =>
      obtain ⟨p', u', e1, e2, e3, e4⟩ := q
      have : p' ≠ p := fun z => by subst z; rw [hM] at e3; cases e3
      exact ⟨p', u', e1, e2, by rw [upd_ne this]; exact e3, e4⟩
  · obtain ⟨p', e1, u', e2⟩ := R.slO h z o
    cases e1
    rw [hM] at e2; cases e2
def Sl.put (o : Ob) : Sl → Sl
  | .ow _ => .ow o
  | .bo j _ => .bo j o
  | s => s
/-- an owned slot's object: its address -/
theorem SR.ownAt (R : SR F ρ σ S M H) {i : Nat} {sl : Sl} {o : Ob} (h : ρ[i]? = some sl) (e : sl = .ow o ∨ ∃ j, sl = .bo j o) : ∃ p u, σ[i]? = some (some (.ref p)) ∧ M p = some u ∧ OR F.K S u o := by
  obtain ⟨w, hw⟩ := R.at h
  have q := R.slot i sl w h hw
  rcases e with rfl | ⟨j, rfl⟩
  · obtain ⟨p, u, e1, e2, e3, _⟩ := q
    exact ⟨p, u, by rw [hw, e1], e2, e3⟩
  · obtain ⟨p, u, e1, _, e2, e3⟩ := q
    exact ⟨p, u, by rw [hw, e1], e2, e3⟩
/-- an owned slot's object is written -/
theorem SR.write (R : SR F ρ σ S M H) {i : Nat} {sl : Sl} {p : Addr} {u' : HO} {o' : Ob} (h : ρ[i]? = some sl) (ho : sl.isO = true) (hp : σ[i]? = some (some (.ref p))) (r : OR F.K S u' o') : SR F (ρ.set i (sl.put o')) σ S (upd M p u') (upd H p u') := by
  obtain ⟨p', e1, u, e2⟩ := R.slO h hp ho
  cases e1
  have hS : S p = none := by
    rcases R.dis p with z | z
    · exact z
    · rw [e2] at z; cases z
  refine ⟨by rw [List.length_set]; exact R.len, fun a x e => ?_, fun a x e => ?_, fun a => ?_, fun a x ha e => ?_, fun a ha => by
      by_cases z : a = p
      · exact ⟨u', by rw [z, upd_same]⟩
      · rw [upd_ne z]; exact R.bth a ha, fun a ha => ?_, ⟨fun a x e => ?_, R.kind.2⟩, fun j sj v hj ej => ?_, fun j k a b hjk ha hb oa ob => ?_⟩
  · have : a ≠ p := fun z => by subst z; rw [hS] at e; cases e
    rw [upd_ne this]; exact R.sub a x e
  · by_cases ha : a = p
    · subst ha; rw [upd_same] at e ⊢; exact e
    · rw [upd_ne ha] at e ⊢; exact R.own a x e
  · by_cases ha : a = p
    · subst ha; exact .inl hS
    · rw [upd_ne ha]; exact R.dis a
  · have : a ≠ p := fun z => by
      subst z
      have q := R.slot i sl _ h hp
      cases sl with
      | un => cases ho
      | sh d => cases ho
      | ow o =>
        obtain ⟨p', u', e1, _, _, e4, _⟩ := q
        cases e1; rw [e4] at e; cases e
      | bo j o =>
        obtain ⟨p', u', e1, e4, _⟩ := q
        cases e1; exact ha (List.mem_of_getElem? e4)
    rw [upd_ne this]; exact R.keep a x ha e
  · obtain ⟨⟨ps, t0, tt⟩, t2, t3⟩ := R.tab a ha
    have : a ≠ p := fun z => by subst z; rw [e2] at t3; cases t3
    exact ⟨⟨ps, by rw [upd_ne this]; exact t0, tt⟩, t2, by rw [upd_ne this]; exact t3⟩
  · by_cases ha : a = p
    · subst ha; rw [upd_same] at e; cases e; exact r.isOb
    · rw [upd_ne ha] at e; exact R.kind.1 a x e
  · rcases set_look hj with ⟨hij, e, _⟩ | ⟨hij, e⟩
    · subst hij; subst e
      rw [hp] at ej; cases ej
      have q := R.slot i sl _ h hp
      cases sl with
      | un => cases ho
      | sh d => cases ho
      | ow o =>
        obtain ⟨p', u2, e1, _, _, e4, e5⟩ := q
        cases e1
        exact ⟨p, u', rfl, upd_same, r, e4, e5⟩
      | bo j o =>
        obtain ⟨p', u2, e1, e4, _⟩ := q
        cases e1
        exact ⟨p, u', rfl, e4, upd_same, r⟩
    · have q := R.slot j sj v e ej
      have ne : sj.isO = true → v ≠ some (.ref p) := fun o z => R.sep i j sl sj hij h e ho o (by rw [hp, ej, z])
      cases sj with
      | un => trivial
      | sh d => exact q
      | ow x =>
        obtain ⟨p', u', f1, f2, f3⟩ := q
        have : p' ≠ p := fun z => ne rfl (by rw [f1, z])
        exact ⟨p', u', f1, by rw [upd_ne this]; exact f2, f3⟩
      | bo j' x =>
        obtain ⟨p', u', f1, f2, f3, f4⟩ := q
        have : p' ≠ p := fun z => ne rfl (by rw [f1, z])
        exact ⟨p', u', f1, f2, by rw [upd_ne this]; exact f3, f4⟩
  · have isO : ∀ {s : Sl}, (s.put o').isO = s.isO := fun {s} => by cases s <;> rfl
    rcases set_look ha with ⟨h1, e, _⟩ | ⟨h1, e⟩ <;> rcases set_look hb with ⟨h2, e', _⟩ | ⟨h2, e'⟩
    · exact absurd (h1.symm.trans h2) hjk
    · subst h1
      exact R.sep i k sl b hjk h e' ho ob
    · subst h2
      exact R.sep j i a sl hjk e h oa ho
    · exact R.sep j k a b hjk e e' oa ob
/-- what a slot holds is read -/
theorem SR.read (R : SR F ρ σ S M H) {i : Nat} {sl : Sl} {d : D} (h : ρ[i]? = some sl) (hd : sl.cont = some d) : ∃ v, σ[i]? = some (some v) ∧ RpB F S M v d := by
  obtain ⟨w, hw⟩ := R.at h
  have q := R.slot i sl w h hw
  cases sl with
  | un => cases hd
  | sh x => cases hd; obtain ⟨v, e, r⟩ := q; exact ⟨v, by rw [hw, e], .inl r⟩
  | ow x => cases hd; obtain ⟨p, u, e, e2, r, _⟩ := q; exact ⟨.ref p, by rw [hw, e], .inr ⟨p, u, x, rfl, e2, r, rfl⟩⟩
  | bo j x => cases hd; obtain ⟨p, u, e, _, e2, r⟩ := q; exact ⟨.ref p, by rw [hw, e], .inr ⟨p, u, x, rfl, e2, r, rfl⟩⟩
end
end L3

set_option Elab.async false
set_option linter.all false
set_option maxRecDepth 100000
namespace L3
open PySem PySem.Spec PyProof.Rows L2

/-! ### contexts -/
structure Cxs {ι : Type} (P : Program) (w : World) (G : GC) (mg : Str → Option Value) (base : Heap) (k : Nat) (N : List Str) (W : WX) (X : ι → Cx) : Prop where
  prog : ∀ i, (X i).prog = P
  w : ∀ i, (X i).w = w
  K : ∀ i, (X i).K = G.K
  mg : ∀ i, (X i).mg = mg
  base : ∀ i, (X i).base = base
  calm : ∀ i, (X i).calm = true
  room : ∀ i, Room k (X i).A
  names : ∀ i, (X i).N = N
  nd : N.Nodup
  tk : ∀ i, L2N.Takes (X i) W

/-! ### expressions -/
def PR (F : FC) (W : WX) (σ : St) (S : Hp) (r : Res RV) (Q : VK) : Prop := r.post
  (fun rv ρ => ∀ v S' M' H', Ext S S' → SR F ρ σ S' M' H' → RVok F ρ σ S' M' v rv → Q v H')
  (fun k ρ => ∀ S' M' H', Ext S S' → SR F ρ σ S' M' H' → W (F.g.cls k) none σ H')
theorem PR.ext {F : FC} {W : WX} {σ : St} {S S1 : Hp} {r : Res RV} {Q : VK} (e : Ext S S1) (h : PR F W σ S r Q) : PR F W σ S1 r Q :=
  Res.post_mono h (fun _ _ q v S' M' H' e' => q v S' M' H' (e.trans e')) fun _ _ q S' M' H' e' => q S' M' H' (e.trans e')
def EvR (G : GC) (W : WX) (t : TE) (f : P RV) : Prop := ∀ (F : FC) (ρ : En) (σ : St) (S M H : Hp) (Q : VK), F.g = G → SR F ρ σ S M H → PR F W σ S (f ρ) Q → t σ H Q
/-- the expression e is worth f -/
def RX {ι : Type} (X : ι → Cx) (G : GC) (W : WX) (e : Expr) (f : P RV) : Prop := ∃ t, (∀ i, PE (X i) e t) ∧ EvR G W t f

/-! ### operands -/
inductive Opd
  | ex (f : P RV)
  | sl (i : Nat)
def look (ρ : En) (i : Nat) : Option D := (ρ[i]?).bind Sl.cont
def Opd.run : Opd → P (Option D)
  | .ex f => fun ρ => (f ρ).bind fun rv => ret (some rv.toD)
  | .sl i => fun ρ => match look ρ i with
    | some _ => .ok none ρ
    | none => .no
def Opd.get : Opd → Option D → P D
  | .ex _, some d => ret d
  | .ex _, none => fail
  | .sl i, _ => fun ρ => match look ρ i with
    | some d => .ok d ρ
    | none => .no
def runs : List Opd → P (List (Option D))
  | [] => ret []
  | q :: qs => seq q.run fun x => seq (runs qs) fun xs => ret (x :: xs)
def gets : List Opd → List (Option D) → P (List D)
  | [], [] => ret []
  | q :: qs, x :: xs => seq (q.get x) fun d => seq (gets qs xs) fun ds => ret (d :: ds)
  | _, _ => fail
def args {β : Type} (qs : List Opd) (h : List D → P β) : P β := seq (runs qs) fun xs => seq (gets qs xs) h
def EvO (G : GC) (W : WX) (t : TE) : Opd → Prop
  | .ex f => EvR G W t f
  | .sl i => t = tVar i
def OX {ι : Type} (X : ι → Cx) (G : GC) (W : WX) (e : Expr) (q : Opd) : Prop := ∃ t, (∀ i, PE (X i) e t) ∧ EvO G W t q
inductive EvOs (G : GC) (W : WX) : TA → List Opd → Prop
  | nil : EvOs G W tNil []
  | cons {t : TE} {ts : TA} {q : Opd} {qs : List Opd} : EvO G W t q → EvOs G W ts qs → EvOs G W (tCons t ts) (q :: qs)
inductive OpV (K : PySem.W.Frag) (S : Hp) (σ : St) : List Opd → List (Option D) → List V → Prop
  | nil : OpV K S σ [] [] []
  | ex {f : P RV} {d : D} {v : V} {qs : List Opd} {xs : List (Option D)} {vs : List V} : Rp K S v d → OpV K S σ qs xs vs → OpV K S σ (.ex f :: qs) (some d :: xs) (v :: vs)
  | sl {i : Nat} {v : V} {qs : List Opd} {xs : List (Option D)} {vs : List V} : σ[i]? = some (some v) → OpV K S σ qs xs vs → OpV K S σ (.sl i :: qs) (none :: xs) (v :: vs)
theorem OpV.mono {K : PySem.W.Frag} {S S' : Hp} {σ : St} (e : Ext S S') : ∀ {qs : List Opd} {xs : List (Option D)} {vs : List V}, OpV K S σ qs xs vs → OpV K S' σ qs xs vs
  | _, _, _, .nil => .nil
  | _, _, _, .ex h r => .ex (h.mono e) (OpV.mono e r)
  | _, _, _, .sl h r => .sl h (OpV.mono e r)
inductive RpBs (F : FC) (S M : Hp) : List V → List D → Prop
  | nil : RpBs F S M [] []
  | cons {v : V} {d : D} {vs : List V} {ds : List D} : RpB F S M v d → RpBs F S M vs ds → RpBs F S M (v :: vs) (d :: ds)
theorem look_cont {ρ : En} {i : Nat} {d : D} (h : look ρ i = some d) : ∃ sl, ρ[i]? = some sl ∧ sl.cont = some d := by
  unfold look at h
  cases e : ρ[i]? with
  | none => rw [e] at h; cases h
  | some sl => rw [e] at h; exact ⟨sl, rfl, h⟩

theorem ev_runs {G : GC} {W : WX} : ∀ {ts : TA} {qs : List Opd}, EvOs G W ts qs → ∀ (F : FC) (ρ : En) (σ : St) (S M H : Hp) (R : List V → Hp → Prop), F.g = G → SR F ρ σ S M H →
    (runs qs ρ).post (fun xs ρ' => ∀ vs S' M' H', Ext S S' → SR F ρ' σ S' M' H' → OpV F.K S' σ qs xs vs → R vs H') (fun k ρ' => ∀ S' M' H', Ext S S' → SR F ρ' σ S' M' H' → W (F.g.cls k) none σ H') → ts σ H R := by
  intro ts qs h
  induction h with
  | nil =>
    intro F ρ σ S M H R hg s p
    exact p [] S M H (Ext.refl S) s .nil
  | @cons t ts q qs ho hs ih =>
    intro F ρ σ S M H R hg s p
    have p := Res.post_bind (r := q.run ρ) (g := fun x => seq (runs qs) fun xs => ret (x :: xs)) p
    cases q with
    | ex f =>
      have p := Res.post_bind (r := f ρ) (g := fun rv => ret (some rv.toD)) p
      refine ho F ρ σ S M H _ hg s (Res.post_mono p (fun rv ρ1 q v S1 M1 H1 e1 s1 rv1 => ?_) fun k ρ1 q => q)
      obtain ⟨S2, M2, e2, s2, r2⟩ := s1.freeze rv1
      have q := Res.post_bind (r := runs qs ρ1) (g := fun xs => ret (some rv.toD :: xs)) q
      refine ih F ρ1 σ S2 M2 H1 _ hg s2 (Res.post_mono q (fun xs ρ2 q2 vs S3 M3 H3 e3 s3 o3 => ?_) fun k ρ2 q2 S3 M3 H3 e3 s3 => ?_)
      · exact q2 (v :: vs) S3 M3 H3 (e1.trans (e2.trans e3)) s3 (.ex (r2.mono e3) o3)
      · exact q2 S3 M3 H3 (e1.trans (e2.trans e3)) s3
    | sl i =>
      obtain rfl : t = tVar i := ho
      cases hl : look ρ i with
      | none =>
        have p' : ((match look ρ i with | some _ => Res.ok none ρ | none => Res.no : Res (Option D))).post _ _ := p
        rw [hl] at p'
        exact p'.elim
      | some d =>
        have p' : ((match look ρ i with | some _ => Res.ok none ρ | none => Res.no : Res (Option D))).post _ _ := p
        rw [hl] at p'
        obtain ⟨sl, h1, h2⟩ := look_cont hl
        obtain ⟨v, hv, _⟩ := s.read h1 h2
        refine ⟨v, hv, ?_⟩
        have q := Res.post_bind (r := runs qs ρ) (g := fun xs => ret (none :: xs)) p'
        exact ih F ρ σ S M H _ hg s (Res.post_mono q (fun xs ρ2 q2 vs S3 M3 H3 e3 s3 o3 => q2 (v :: vs) S3 M3 H3 e3 s3 (.sl hv o3)) fun k ρ2 q2 => q2)
theorem OpV.len {K : PySem.W.Frag} {S : Hp} {σ : St} : ∀ {qs : List Opd} {xs : List (Option D)} {vs : List V}, OpV K S σ qs xs vs → vs.length = qs.length
  | _, _, _, .nil => rfl
  | _, _, _, .ex _ r => congrArg Nat.succ (OpV.len r)
  | _, _, _, .sl _ r => congrArg Nat.succ (OpV.len r)
theorem gets_ok {F : FC} {ρ : En} {σ : St} {S M H : Hp} (s : SR F ρ σ S M H) : ∀ {qs : List Opd} {xs : List (Option D)} {vs : List V}, OpV F.K S σ qs xs vs → ∀ {A : List D → En → Prop} {B : Nat → En → Prop},
    (gets qs xs ρ).post A B → ∃ ds, RpBs F S M vs ds ∧ A ds ρ := by
  intro qs xs vs h
  induction h with
  | nil => intro A B p; exact ⟨[], .nil, p⟩
  | @ex f d v qs xs vs hr hs ih =>
    intro A B p
    have p := Res.post_bind (r := gets qs xs ρ) (g := fun ds => ret (d :: ds)) p
    obtain ⟨ds, h1, h2⟩ := ih p
    exact ⟨d :: ds, .cons (.inl hr) h1, h2⟩
  | @sl i v qs xs vs hr hs ih =>
    intro A B p
    have p := Res.post_bind (r := (match look ρ i with | some d => Res.ok d ρ | none => Res.no : Res D)) (g := fun d => seq (gets qs xs) fun ds => ret (d :: ds)) p
    cases hl : look ρ i with
    | none => rw [hl] at p; exact p.elim
    | some d =>
      rw [hl] at p
      obtain ⟨sl, h1, h2⟩ := look_cont hl
      obtain ⟨v', hv, rb⟩ := s.read h1 h2
      rw [hr] at hv; cases hv
      have p := Res.post_bind (r := gets qs xs ρ) (g := fun ds => ret (d :: ds)) p
      obtain ⟨ds, h3, h4⟩ := ih p
      exact ⟨d :: ds, .cons rb h3, h4⟩
/-- operands, then what is done with them -/
theorem ev_args {G : GC} {W : WX} {ts : TA} {qs : List Opd} (he : EvOs G W ts qs) {β : Type} {h : List D → P β} (F : FC) (ρ : En) (σ : St) (S M H : Hp) (R : List V → Hp → Prop) (hg : F.g = G) (s : SR F ρ σ S M H) {A : β → En → Prop} {B : Nat → En → Prop}
    (p : (args qs h ρ).post A B) (hB : ∀ k ρ', B k ρ' → ∀ S' M' H', Ext S S' → SR F ρ' σ S' M' H' → W (F.g.cls k) none σ H')
    (hop : ∀ vs ds ρ' S' M' H', Ext S S' → SR F ρ' σ S' M' H' → vs.length = qs.length → RpBs F S' M' vs ds → (h ds ρ').post A B → R vs H') : ts σ H R := by
  have p := Res.post_bind (r := runs qs ρ) (g := fun xs => seq (gets qs xs) h) p
  refine ev_runs he F ρ σ S M H R hg s (Res.post_mono p (fun xs ρ1 q vs S1 M1 H1 e1 s1 o1 => ?_) hB)
  obtain ⟨ds, h1, h2⟩ := gets_ok s1 o1 (Res.post_bind (r := gets qs xs ρ1) (g := h) q)
  exact hop vs ds ρ1 S1 M1 H1 e1 s1 o1.len h1 h2
theorem ev_op {G : GC} {W : WX} {ts : TA} {qs : List Opd} (he : EvOs G W ts qs) {r : List V → Hp → VK → Prop} {h : List D → P RV}
    (hop : ∀ (F : FC) (ρ : En) (σ : St) (S M H : Hp) (Q : VK) vs ds, F.g = G → SR F ρ σ S M H → vs.length = qs.length → RpBs F S M vs ds → PR F W σ S (h ds ρ) Q → r vs H Q) : EvR G W (fun σ H Q => ts σ H fun vs H' => r vs H' Q) (args qs h) := by
  intro F ρ σ S M H Q hg s p
  refine ev_args he F ρ σ S M H _ hg s p (fun k ρ' q => q) fun vs ds ρ' S' M' H' e s' hl rb q => ?_
  exact hop F ρ' σ S' M' H' Q vs ds hg s' hl rb (PR.ext e q)

/-! ### simple expressions -/
section
variable {ι : Type} {X : ι → Cx} {G : GC} {W : WX}
theorem PR.val {F : FC} {ρ : En} {σ : St} {S M H : Hp} {Q : VK} {v : V} {d : D} (s : SR F ρ σ S M H) (r : Rp F.K S v d) (p : PR F W σ S (.ok (.val d) ρ) Q) : Q v H := p v S M H (Ext.refl S) s r
def kst (d : D) : P RV := ret (.val d)
theorem rx_int {i j pos} : RX X G W (.Constant (.int i) j pos) (kst (.int i)) := ⟨_, fun _ => pe_int, fun _ _ _ _ _ _ _ _ s p => PR.val s (.int i) p⟩
theorem rx_bl {b j pos} : RX X G W (.Constant (.bool b) j pos) (kst (.bool b)) := ⟨_, fun _ => pe_bl, fun _ _ _ _ _ _ _ _ s p => PR.val s (.bl b) p⟩
theorem rx_non {j pos} : RX X G W (.Constant .none j pos) (kst .none) := ⟨_, fun _ => pe_non, fun _ _ _ _ _ _ _ _ s p => PR.val s .non p⟩
theorem rx_str {x j pos} : RX X G W (.Constant (.str x) j pos) (kst (.str x)) := ⟨_, fun _ => pe_str, fun _ _ _ _ _ _ _ _ s p => PR.val s (.str x) p⟩
/-- a name whose value is kept further -/
def shr (i : Nat) : P RV := fun ρ => match ρ[i]? with
  | some (.sh d) => .ok (.val d) ρ
  | some (.ow o) => .ok (.val o.toD) (ρ.set i (.sh o.toD))
  | _ => .no
/-- a name handed back -/
def mov (i : Nat) : P RV := fun ρ => match ρ[i]? with
  | some (.sh d) => .ok (.val d) ρ
  | some (.ow o) => .ok (.own o) (ρ.set i .un)
  | _ => .no
theorem ev_shr {i : Nat} : EvR G W (tVar i) (shr i) := by
  intro F ρ σ S M H Q hg s p
  unfold shr at p
  cases h : ρ[i]? with
  | none => rw [h] at p; exact p.elim
  | some sl =>
    rw [h] at p
    cases sl with
    | un => exact p.elim
    | bo j o => exact p.elim
    | sh d =>
      obtain ⟨v, hv, rb⟩ := s.read h rfl
      obtain ⟨w, hw⟩ := s.at h
      obtain ⟨x, e, r⟩ := s.slot i _ w h hw
      subst e
      exact ⟨x, hw, PR.val s r p⟩
    | ow o =>
      obtain ⟨v, S', M', hv, e, s', r⟩ := s.share h
      exact ⟨v, hv, p v S' M' H e s' r⟩
theorem ev_mov {i : Nat} : EvR G W (tVar i) (mov i) := by
  intro F ρ σ S M H Q hg s p
  unfold mov at p
  cases h : ρ[i]? with
  | none => rw [h] at p; exact p.elim
  | some sl =>
    rw [h] at p
    cases sl with
    | un => exact p.elim
    | bo j o => exact p.elim
    | sh d =>
      obtain ⟨w, hw⟩ := s.at h
      obtain ⟨x, e, r⟩ := s.slot i _ w h hw
      subst e
      exact ⟨x, hw, PR.val s r p⟩
    | ow o =>
      obtain ⟨w, hw⟩ := s.at h
      obtain ⟨pp, u, e, h1, h2, h3, h4⟩ := s.slot i _ w h hw
      subst e
      refine ⟨_, hw, p _ S M H (Ext.refl S) (s.forget i) ⟨pp, u, rfl, h1, h2, h3, h4, fun j sl hj o z => ?_⟩⟩
      rcases set_look hj with ⟨_, e, _⟩ | ⟨hij, e⟩
      · subst e; cases o
      · exact s.sep i j _ sl hij h e rfl o (hw.trans z.symm)
theorem pe_name {i : Nat} {x : Str} {pos : Pos} (hN : ∀ j, (X j).N[i]? = some x) (hv : ∀ j, Vis (X j).env.scope x) (hd : (x == ("__debug__" : Str)) = false) (hcd : (x == ("__classdict__" : Str)) = false) : ∀ j, PE (X j) (.Name x pos) (tVar i) :=
  fun j => pe_var (hN j) (hv j) hd hcd
theorem rx_shr (i : Nat) {x : Str} {pos : Pos} (hN : ∀ j, (X j).N[i]? = some x) (hv : ∀ j, Vis (X j).env.scope x) (hd : (x == ("__debug__" : Str)) = false := by decide) (hcd : (x == ("__classdict__" : Str)) = false := by decide) : RX X G W (.Name x pos) (shr i) :=
  ⟨_, pe_name hN hv hd hcd, ev_shr⟩
theorem rx_mov (i : Nat) {x : Str} {pos : Pos} (hN : ∀ j, (X j).N[i]? = some x) (hv : ∀ j, Vis (X j).env.scope x) (hd : (x == ("__debug__" : Str)) = false := by decide) (hcd : (x == ("__classdict__" : Str)) = false := by decide) : RX X G W (.Name x pos) (mov i) :=
  ⟨_, pe_name hN hv hd hcd, ev_mov⟩
theorem ox_ex {e : Expr} {f : P RV} (h : RX X G W e f) : OX X G W e (.ex f) := h
theorem ox_sl (i : Nat) {x : Str} {pos : Pos} (hN : ∀ j, (X j).N[i]? = some x) (hv : ∀ j, Vis (X j).env.scope x) (hd : (x == ("__debug__" : Str)) = false := by decide) (hcd : (x == ("__classdict__" : Str)) = false := by decide) : OX X G W (.Name x pos) (.sl i) :=
  ⟨_, pe_name hN hv hd hcd, rfl⟩
/-- a global constant -/
theorem rx_glob {x : Str} {v : V} {d : D} {u : Value} {pos : Pos} (hg : ∀ i, Gl (X i) x) (hm : ∀ i, (X i).mg x = some u) (r : RelV v u) (hr : ∀ S, Rp G.K S v d) (hd : (x == ("__debug__" : Str)) = false := by decide) : RX X G W (.Name x pos) (kst d) :=
  ⟨_, fun i => pe_glob (hg i) (hm i) r hd, fun F _ _ _ _ _ _ hg s p => PR.val s (by rw [show F.K = G.K from congrArg GC.K hg]; exact hr _) p⟩

/-! ### operators -/
def two (r : R2) : List V → Hp → VK → Prop := fun vs H Q => match vs with
  | [x, y] => r x y H Q
  | _ => False
/-- two operands -/
theorem rx_bin {a b e : Expr} {qa qb : Opd} {r : R2} {h : List D → P RV} (ha : OX X G W a qa) (hb : OX X G W b qb) (hp : ∀ i ta tb, PE (X i) a ta → PE (X i) b tb → PE (X i) e (tOp r ta tb))
    (hop : ∀ (F : FC) (ρ : En) (σ : St) (S M H : Hp) (Q : VK) v w x y, F.g = G → SR F ρ σ S M H → RpB F S M v x → RpB F S M w y → PR F W σ S (h [x, y] ρ) Q → r v w H Q) : RX X G W e (args [qa, qb] h) := by
  obtain ⟨ta, pa, ea⟩ := ha
  obtain ⟨tb, pb, eb⟩ := hb
  refine ⟨_, fun i => hp i ta tb (pa i) (pb i), ?_⟩
  have := ev_op (G := G) (W := W) (r := two r) (h := h) (.cons ea (.cons eb .nil)) fun F ρ σ S M H Q vs ds hg s hl rb p => by
    match vs, hl, rb with
    | [_, _], _, .cons r1 (.cons r2 .nil) => exact hop F ρ σ S M H Q _ _ _ _ hg s r1 r2 p
  exact this
/-- one operand -/
theorem rx_one {a e : Expr} {qa : Opd} {r : V → Hp → VK → Prop} {h : List D → P RV} (ha : OX X G W a qa) (hp : ∀ i ta, PE (X i) a ta → PE (X i) e (tUn r ta))
    (hop : ∀ (F : FC) (ρ : En) (σ : St) (S M H : Hp) (Q : VK) v x, F.g = G → SR F ρ σ S M H → RpB F S M v x → PR F W σ S (h [x] ρ) Q → r v H Q) : RX X G W e (args [qa] h) := by
  obtain ⟨ta, pa, ea⟩ := ha
  refine ⟨_, fun i => hp i ta (pa i), ?_⟩
  have := ev_op (G := G) (W := W) (r := fun vs H Q => match vs with | [x] => r x H Q | _ => False) (h := h) (.cons ea .nil) fun F ρ σ S M H Q vs ds hg s hl rb p => by
    match vs, hl, rb with
    | [_], _, .cons r1 .nil => exact hop F ρ σ S M H Q _ _ hg s r1 p
  exact this
end
end L3

set_option Elab.async false
set_option linter.all false
set_option maxRecDepth 100000
namespace L3
open PySem PySem.Spec PyProof.Rows L2

/-! ### what is known of a value by its datum -/
section
variable {F : FC} {ρ : En} {σ : St} {S M H : Hp} {v : V}
theorem RpB.rp (s : SR F ρ σ S M H) {d : D} (r : RpB F S M v d) : Rp F.K H v d := by
  rcases r with r | ⟨p, u, o, rfl, e, r, rfl⟩
  · exact r.mono s.sub
  · exact (r.mono s.sub).rp (s.own _ _ e)
theorem RpB.int {i : Int} (r : RpB F S M v (.int i)) : v = .int i := by
  rcases r with r | ⟨p, u, o, rfl, e, r, h⟩
  · cases r; rfl
  · cases o <;> cases h
theorem RpB.bl {b : Bool} (r : RpB F S M v (.bool b)) : v = .bl b := by
  rcases r with r | ⟨p, u, o, rfl, e, r, h⟩
  · cases r; rfl
  · cases o <;> cases h
theorem RpB.str {x : Str} (r : RpB F S M v (.str x)) : v = .str x := by
  rcases r with r | ⟨p, u, o, rfl, e, r, h⟩
  · cases r; rfl
  · cases o <;> cases h
theorem RpB.non (r : RpB F S M v .none) : v = .non := by
  rcases r with r | ⟨p, u, o, rfl, e, r, h⟩
  · cases r; rfl
  · cases o <;> cases h
theorem RpB.lst (s : SR F ρ σ S M H) {ds : List D} (r : RpB F S M v (.list ds)) : ∃ p vs, v = .ref p ∧ H p = some (.lst vs) ∧ RpAll F.K S vs ds := by
  rcases r with r | ⟨p, u, o, rfl, e, r, h⟩
  · cases r with
    | lst h r => exact ⟨_, _, rfl, s.sub _ _ h, r⟩
  · cases o with
    | dic kvs => cases h
    | lst es =>
      cases h
      cases r with
      | lst r => exact ⟨p, _, rfl, s.own _ _ e, r⟩
theorem RpB.tup (s : SR F ρ σ S M H) {ds : List D} (r : RpB F S M v (.tuple ds)) : ∃ p vs, v = .ref p ∧ SqT F.K S p vs ∧ SqT F.K H p vs ∧ RpAll F.K S vs ds := by
  rcases r with r | ⟨p, u, o, rfl, e, r, h⟩
  · cases r with
    | tup h r => exact ⟨_, _, rfl, h, s.sub.sqT h, r⟩
  · cases o <;> cases h
theorem RpAll.atI {K : PySem.W.Frag} {vs : List V} {ds : List D} {i : Int} {d : D} (r : RpAll K S vs ds) (h : L2.atI ds i = some d) : ∃ w, L2.atI vs i = some w ∧ Rp K S w d := by
  unfold L2.atI at h ⊢
  rw [r.length]
  cases e : L2.ixN ds.length i with
  | none => rw [e] at h; cases h
  | some j =>
    rw [e] at h
    exact r.get h
theorem SqT.ty {K : PySem.W.Frag} {a : Addr} {xs : List V} (h : SqT K H a xs) : TyX K H (.ref a) (.type "tuple") := by
  rcases h with (h | ⟨o, h⟩) | ⟨o, its, n, h, hc, _⟩
  · exact .base (.tup h)
  · exact .fTuple h
  · exact .kTuple h hc
end

/-! ### the types of data -/
def tyD : D → String
  | .none => "NoneType"
  | .bool _ => "bool"
  | .int _ => "int"
  | .str _ => "str"
  | .list _ => "list"
  | .tuple _ => "tuple"
  | .dict _ => "dict"
theorem RpB.ty {F : FC} {ρ : En} {σ : St} {S M H : Hp} {v : V} (s : SR F ρ σ S M H) {d : D} (r : RpB F S M v d) : TyX F.K H v (.type (tyD d)) := by
  have r := r.rp s
  cases r with
  | non => exact .base .non
  | bl b => exact .base (.bl b)
  | int i => exact .base (.int i)
  | str x => exact .base (.str x)
  | lst h _ => exact .base (.lst h)
  | tup h _ => exact SqT.ty h
  | dK h _ => exact .base (.dK h)
  | dT h _ => exact .base (.dT h)

/-! ### operators as functions -/
def line : Nat := 16777216
theorem line_eq : sizeLine = line := sizeLine_eq
def addD : D → D → Option RV
  | .int i, .int j => some (.val (.int (i + j)))
  | .list a, .list b => if a.length + b.length ≤ line then some (.own (.lst (a ++ b))) else none
  | .tuple a, .tuple b => if a.length + b.length ≤ line then some (.val (.tuple (a ++ b))) else none
  | .str x, .str y => if x.length + y.length ≤ line then some (.val (.str (x ++ y))) else none
  | _, _ => none
def subD : D → D → Option RV
  | .int i, .int j => some (.val (.int (i - j)))
  | _, _ => none
def mulOk (i j : Int) : Bool := decide (-(18446744073709551616) < i ∧ i < 18446744073709551616) || decide (-(18446744073709551616) < j ∧ j < 18446744073709551616) || decide (i.natAbs.log2 + j.natAbs.log2 < 1000000)
def mulD : D → D → Option RV
  | .int i, .int j => if mulOk i j then some (.val (.int (i * j))) else none
  | .list xs, .int k => if decide (-(9223372036854775808) ≤ k) && decide (k < 9223372036854775808) && decide (xs.length * k.toNat ≤ line) then some (.own (.lst (List.replicate k.toNat xs).flatten)) else none
  | .tuple xs, .int k => if decide (-(9223372036854775808) ≤ k) && decide (k ≤ 1000) && decide (xs.length ≤ 1000) then some (.val (.tuple (List.replicate k.toNat xs).flatten)) else none
  | _, _ => none
def divOk (j : Int) : Bool := decide (0 < j) && (decide (j < 1073741824) || decide (j.natAbs.log2 < 9000))
def fdivD : D → D → Option RV
  | .int i, .int j => if divOk j then some (.val (.int (i / j))) else none
  | _, _ => none
def modD : D → D → Option RV
  | .int i, .int j => if 0 < j then some (.val (.int (i % j))) else none
  | _, _ => none
def powD : D → D → Option RV
  | .int i, .int j => if decide (0 ≤ j) && decide (j ≤ 1000000) && decide (i.natAbs < 18446744073709551616) then some (.val (.int (i ^ j.toNat))) else none
  | _, _ => none
def negD : D → Option RV
  | .int i => some (.val (.int (-i)))
  | _ => none
def ordD (p : Int → Int → Bool) : D → D → Option RV
  | .int i, .int j => some (.val (.bool (p i j)))
  | _, _ => none
def ltI (i j : Int) : Bool := decide (i < j)
def leI (i j : Int) : Bool := decide (i ≤ j)
def gtI (i j : Int) : Bool := decide (j < i)
def geI (i j : Int) : Bool := decide (j ≤ i)
/-- data that == takes -/
def okD : Nat → D → Bool
  | _, .none => true
  | _, .bool _ => true
  | _, .int _ => true
  | _, .str x => PyData.strOk x
  | n + 1, .list xs => xs.all (okD n)
  | n + 1, .tuple xs => xs.all (okD n)
  | _, _ => false
def okE (d : D) : Bool := okD 16 d
theorem canLayAll0_of {p : D → Bool} (h : ∀ d, p d = true → PyData.canLay0 d = true) : ∀ {xs : List D}, xs.all p = true → PyData.canLayAll0 xs = true
  | [], _ => rfl
  | x :: xs, e => by
    simp only [List.all_cons, Bool.and_eq_true] at e
    simp only [PyData.canLayAll0, Bool.and_eq_true]
    exact ⟨h x e.1, canLayAll0_of h e.2⟩
theorem depthAll_of {p : D → Bool} {n : Nat} (h : ∀ d, p d = true → PyData.depth d ≤ n) : ∀ {xs : List D}, xs.all p = true → PyData.depthAll xs ≤ n
  | [], _ => Nat.zero_le _
  | x :: xs, e => by
    simp only [List.all_cons, Bool.and_eq_true] at e
    simp only [PyData.depthAll]
    exact Nat.max_le.mpr ⟨h x e.1, depthAll_of h e.2⟩
theorem noDictAll_of {p : D → Bool} (h : ∀ d, p d = true → noDict d = true) : ∀ {xs : List D}, xs.all p = true → noDictAll xs = true
  | [], _ => by simp [noDictAll]
  | x :: xs, e => by
    simp only [List.all_cons, Bool.and_eq_true] at e
    simp only [noDictAll, Bool.and_eq_true]
    exact ⟨h x e.1, noDictAll_of h e.2⟩
theorem okD_canLay : ∀ (n : Nat) (d : D), okD n d = true → PyData.canLay0 d = true
  | _, .none, _ => by simp [PyData.canLay0]
  | _, .bool _, _ => by simp [PyData.canLay0]
  | _, .int _, _ => by simp [PyData.canLay0]
  | n, .str x, h => by
    have h : PyData.strOk x = true := by cases n <;> simpa [okD] using h
    simpa [PyData.canLay0] using h
  | n + 1, .list xs, h => by
    have h : xs.all (okD n) = true := by simpa [okD] using h
    simpa [PyData.canLay0] using canLayAll0_of (okD_canLay n) h
  | n + 1, .tuple xs, h => by
    have h : xs.all (okD n) = true := by simpa [okD] using h
    simpa [PyData.canLay0] using canLayAll0_of (okD_canLay n) h
  | 0, .list _, h => by simp [okD] at h
  | 0, .tuple _, h => by simp [okD] at h
  | n, .dict _, h => by cases n <;> simp [okD] at h
theorem okD_noDict : ∀ (n : Nat) (d : D), okD n d = true → noDict d = true
  | _, .none, _ => by simp [noDict]
  | _, .bool _, _ => by simp [noDict]
  | _, .int _, _ => by simp [noDict]
  | n, .str x, h => by simp [noDict]
  | n + 1, .list xs, h => by
    have h : xs.all (okD n) = true := by simpa [okD] using h
    simpa [noDict] using noDictAll_of (okD_noDict n) h
  | n + 1, .tuple xs, h => by
    have h : xs.all (okD n) = true := by simpa [okD] using h
    simpa [noDict] using noDictAll_of (okD_noDict n) h
  | 0, .list _, h => by simp [okD] at h
  | 0, .tuple _, h => by simp [okD] at h
  | n, .dict _, h => by cases n <;> simp [okD] at h
theorem okD_depth : ∀ (n : Nat) (d : D), okD n d = true → PyData.depth d ≤ n + 1
  | _, .none, _ => by simp [PyData.depth]
  | _, .bool _, _ => by simp [PyData.depth]
  | _, .int _, _ => by simp [PyData.depth]
  | n, .str x, h => by simp [PyData.depth]
  | n + 1, .list xs, h => by
    have h : xs.all (okD n) = true := by simpa [okD] using h
    have := depthAll_of (okD_depth n) h
    simp only [PyData.depth]; omega
  | n + 1, .tuple xs, h => by
    have h : xs.all (okD n) = true := by simpa [okD] using h
    have := depthAll_of (okD_depth n) h
    simp only [PyData.depth]; omega
  | 0, .list _, h => by simp [okD] at h
  | 0, .tuple _, h => by simp [okD] at h
  | n, .dict _, h => by cases n <;> simp [okD] at h
theorem okE_shaped {d : D} (h : okE d = true) : SeqAt.shaped d = true := by
  unfold SeqAt.shaped
  rw [Bool.and_eq_true]
  refine ⟨okD_canLay _ _ h, decide_eq_true ?_⟩
  have := okD_depth _ _ h
  omega
theorem okE_dp {K : PySem.W.Frag} {H : Hp} {v : V} {d : D} (h : okE d = true) (r : Rp K H v d) : Dp K H v d := r.dp (okD_noDict _ _ h)
def eqD (x y : D) : Option RV := if okE x && okE y then some (.val (.bool (PyData.eqv x y))) else none
def neD (x y : D) : Option RV := if okE x && okE y then some (.val (.bool (!PyData.eqv x y))) else none
def hasD (x : D) (ds : List D) : Bool := ds.any fun z => PyData.eqv z x
def inD : D → D → Option RV
  | x, .list ds => if okE x && okE (.list ds) then some (.val (.bool (hasD x ds))) else none
  | x, .tuple ds => if okE x && okE (.tuple ds) then some (.val (.bool (hasD x ds))) else none
  | _, _ => none
def ninD : D → D → Option RV
  | x, .list ds => if okE x && okE (.list ds) then some (.val (.bool (!hasD x ds))) else none
  | x, .tuple ds => if okE x && okE (.tuple ds) then some (.val (.bool (!hasD x ds))) else none
  | _, _ => none
/-- is, is not: with None, True, False -/
def nonD : D → Bool
  | .none => true
  | _ => false
def isD : D → D → Option RV
  | x, .none => some (.val (.bool (nonD x)))
  | .bool a, .bool b => some (.val (.bool (a == b)))
  | _, _ => none
def notD : D → D → Option RV
  | x, .none => some (.val (.bool (!nonD x)))
  | .bool a, .bool b => some (.val (.bool (!(a == b))))
  | _, _ => none
def ixD : D → D → Option RV
  | .list ds, .int i => (L2.atI ds i).map .val
  | .tuple ds, .int i => (L2.atI ds i).map .val
  | _, _ => none
def lenD : D → Option RV
  | .list ds => some (.val (.int ds.length))
  | .tuple ds => some (.val (.int ds.length))
  | _ => none
def f2 (g : D → D → Option RV) : List D → P RV
  | [x, y] => opt (g x y)
  | _ => fail
def f1 (g : D → Option RV) : List D → P RV
  | [x] => opt (g x)
  | _ => fail

section
variable {ι : Type} {X : ι → Cx} {G : GC} {W : WX} {F : FC} {ρ : En} {σ : St} {S M H : Hp} {Q : VK}
theorem PR.own {u : HO} {o : Ob} (s : SR F ρ σ S M H) (p : PR F W σ S (.ok (.own o) ρ) Q) (r : OR F.K S u o) : ∀ a, H a = none → Q (.ref a) (upd H a u) := fun a ha => by
  obtain ⟨s', r'⟩ := s.newM ha r
  exact p _ S _ _ (Ext.refl S) s' r'
theorem PR.newT {vs : List V} {ds : List D} (s : SR F ρ σ S M H) (p : PR F W σ S (.ok (.val (.tuple ds)) ρ) Q) (r : RpAll F.K S vs ds) : NewT vs H Q := fun a o ha ho => by
  obtain ⟨ex, s'⟩ := s.newS ha (.frz o (.tup vs)) ho
  exact p _ _ _ _ ex s' (.tup (.inl (.inr ⟨o, upd_same⟩)) (r.mono ex))
theorem pr_opt {o : Option RV} (p : PR F W σ S (opt o ρ) Q) : ∃ rv, o = some rv ∧ PR F W σ S (.ok rv ρ) Q := by
  cases o with
  | none => exact p.elim
  | some rv => exact ⟨rv, rfl, p⟩
theorem OpR.orL {X : Cx} {f : Value → Value → Sem Value} {r r' : R2} (h : OpR X f r) (h' : OpR X f r') : OpR X f (fun x y H Q => r x y H Q ∨ r' x y H Q) := OpR.or h h'
variable {a b : Expr} {qa qb : Opd} {pos : Pos}
def rAddX (K : PySem.W.Frag) : R2 := fun x y H Q => ((∃ i j, x = .int i ∧ y = .int j ∧ Q (.int (i + j)) H) ∨ rCat x y H Q) ∨ rCatF K x y H Q ∨ ∃ i j, x = .str i ∧ y = .str j ∧ i.length + j.length ≤ sizeLine ∧ Q (.str (i ++ j)) H
theorem op_addX {X : Cx} : OpR X (binaryOp .Add) (rAddX X.K) := OpR.or (OpR.or op_add op_cat) (OpR.or op_catF op_add_str)
theorem RpAll.nil_iff {K : PySem.W.Frag} {vs : List V} {ds : List D} (r : RpAll K S vs ds) : vs = [] ↔ ds = [] := by
  cases r <;> simp
theorem rx_add (hK : ∀ i, (X i).K = G.K) (ha : OX X G W a qa) (hb : OX X G W b qb) : RX X G W (.BinOp a .Add b pos) (args [qa, qb] (f2 addD)) := by
  refine rx_bin (r := rAddX G.K) ha hb (fun i ta tb pa pb => pe_op (by rw [← hK i]; exact op_addX) pa pb) ?_
  intro F ρ σ S M H Q v w x y hg s rx ry p
  obtain ⟨rv, e, p⟩ := pr_opt (o := addD x y) p
  have hK' : F.K = G.K := congrArg GC.K hg
  unfold addD at e
  split at e
  · cases e
    exact .inl (.inl ⟨_, _, rx.int, ry.int, PR.val s (.int _) p⟩)
  · split at e
    · rename_i a b hl
      cases e
      obtain ⟨p1, vs, rfl, h1, r1⟩ := rx.lst s
      obtain ⟨p2, ws, rfl, h2, r2⟩ := ry.lst s
      exact .inl (.inr ⟨p1, p2, vs, ws, rfl, rfl, h1, h2, by rw [r1.length, r2.length, line_eq]; exact hl, PR.own s p (.lst (r1.append r2))⟩)
    · cases e
  · split at e
    · rename_i a b hl
      cases e
      obtain ⟨p1, vs, rfl, h0, h1, r1⟩ := rx.tup s
      obtain ⟨p2, ws, rfl, h0', h2, r2⟩ := ry.tup s
      refine .inr (.inl ⟨p1, p2, vs, ws, rfl, rfl, by rw [← hK']; exact h1, by rw [← hK']; exact h2, by rw [r1.length, r2.length, line_eq]; exact hl, fun z => ?_, fun _ z => ?_, fun _ _ => PR.newT s p (r1.append r2)⟩)
      · have z' := r1.nil_iff.mp z
        subst z'
        exact PR.val s (.tup h0' r2) p
      · have z' := r2.nil_iff.mp z
        subst z'
        rw [List.append_nil] at p
        exact PR.val s (.tup h0 r1) p
    · cases e
  · split at e
    · rename_i a b hl
      cases e
      exact .inr (.inr ⟨_, _, rx.str, ry.str, by rw [line_eq]; exact hl, PR.val s (.str _) p⟩)
    · cases e
  · cases e
theorem rx_sub (ha : OX X G W a qa) (hb : OX X G W b qb) : RX X G W (.BinOp a .Sub b pos) (args [qa, qb] (f2 subD)) := by
  refine rx_bin ha hb (fun i ta tb pa pb => pe_op op_sub pa pb) ?_
  intro F ρ σ S M H Q v w x y hg s rx ry p
  obtain ⟨rv, e, p⟩ := pr_opt (o := subD x y) p
  unfold subD at e
  split at e
  · cases e
    exact ⟨_, _, rx.int, ry.int, PR.val s (.int _) p⟩
  · cases e
def rMulX (K : PySem.W.Frag) : R2 := fun x y H Q => (rI CMul (fun i j => .int (i * j)) x y H Q ∨ rI CMulW (fun i j => .int (i * j)) x y H Q) ∨ rRep x y H Q ∨ rRepF K x y H Q
theorem op_mulX {X : Cx} : OpR X (binaryOp .Mult) (rMulX X.K) := OpR.or (OpR.or op_mul op_mulW) (OpR.or op_rep op_repF)
theorem RpAll.rep {K : PySem.W.Frag} {vs : List V} {ds : List D} (r : RpAll K S vs ds) : ∀ n : Nat, RpAll K S (List.replicate n vs).flatten (List.replicate n ds).flatten
  | 0 => .nil
  | n + 1 => by
    rw [List.replicate_succ, List.replicate_succ, List.flatten_cons, List.flatten_cons]
    exact r.append (RpAll.rep r n)
theorem rx_mul (hK : ∀ i, (X i).K = G.K) (ha : OX X G W a qa) (hb : OX X G W b qb) : RX X G W (.BinOp a .Mult b pos) (args [qa, qb] (f2 mulD)) := by
  refine rx_bin (r := rMulX G.K) ha hb (fun i ta tb pa pb => pe_op (by rw [← hK i]; exact op_mulX) pa pb) ?_
  intro F ρ σ S M H Q v w x y hg s rx ry p
  obtain ⟨rv, e, p⟩ := pr_opt (o := mulD x y) p
  have hK' : F.K = G.K := congrArg GC.K hg
  unfold mulD at e
  split at e
  · split at e
    · rename_i h
      cases e
      unfold mulOk at h
      simp only [Bool.or_eq_true, decide_eq_true_eq] at h
      rcases h with h | h
      · exact .inl (.inl ⟨_, _, rx.int, ry.int, h, PR.val s (.int _) p⟩)
      · exact .inl (.inr ⟨_, _, rx.int, ry.int, h, PR.val s (.int _) p⟩)
    · cases e
  · split at e
    · rename_i h
      cases e
      simp only [Bool.and_eq_true, decide_eq_true_eq] at h
      obtain ⟨p1, vs, rfl, h1, r1⟩ := rx.lst s
      exact .inr (.inl ⟨p1, _, vs, rfl, ry.int, h1, h.1.1, h.1.2, by rw [r1.length, line_eq]; exact h.2, PR.own s p (.lst (r1.rep _))⟩)
    · cases e
  · split at e
    · rename_i xs k h
      cases e
      simp only [Bool.and_eq_true, decide_eq_true_eq] at h
      obtain ⟨p1, vs, rfl, h0, h1, r1⟩ := rx.tup s
      refine .inr (.inr ⟨p1, _, vs, rfl, ry.int, by rw [← hK']; exact h1, h.1.1, h.1.2, by rw [r1.length]; exact h.2, fun z => ?_, fun _ _ => PR.newT s p (r1.rep _)⟩)
      have e : (List.replicate k.toNat xs).flatten = xs := by
        rcases z with z | z
        · have := r1.nil_iff.mp z
          subst this
          simp
        · subst z
          simp
      rw [e] at p
      exact PR.val s (.tup h0 r1) p
    · cases e
  · cases e
theorem rx_fdiv (ha : OX X G W a qa) (hb : OX X G W b qb) : RX X G W (.BinOp a .FloorDiv b pos) (args [qa, qb] (f2 fdivD)) := by
  refine rx_bin ha hb (fun i ta tb pa pb => pe_op (OpR.or op_fdiv op_fdivW) pa pb) ?_
  intro F ρ σ S M H Q v w x y hg s rx ry p
  obtain ⟨rv, e, p⟩ := pr_opt (o := fdivD x y) p
  unfold fdivD at e
  split at e
  · split at e
    · rename_i h
      cases e
      unfold divOk at h
      simp only [Bool.and_eq_true, Bool.or_eq_true, decide_eq_true_eq] at h
      rcases h with ⟨h0, h | h⟩
      · exact .inl ⟨_, _, rx.int, ry.int, ⟨h0, h⟩, PR.val s (.int _) p⟩
      · exact .inr ⟨_, _, rx.int, ry.int, ⟨h0, h⟩, PR.val s (.int _) p⟩
    · cases e
  · cases e
theorem rx_mod (ha : OX X G W a qa) (hb : OX X G W b qb) : RX X G W (.BinOp a .Mod b pos) (args [qa, qb] (f2 modD)) := by
  refine rx_bin ha hb (fun i ta tb pa pb => pe_op op_mod pa pb) ?_
  intro F ρ σ S M H Q v w x y hg s rx ry p
  obtain ⟨rv, e, p⟩ := pr_opt (o := modD x y) p
  unfold modD at e
  split at e
  · split at e
    · rename_i h
      cases e
      exact ⟨_, _, rx.int, ry.int, h, PR.val s (.int _) p⟩
    · cases e
  · cases e
theorem rx_pow (ha : OX X G W a qa) (hb : OX X G W b qb) : RX X G W (.BinOp a .Pow b pos) (args [qa, qb] (f2 powD)) := by
  refine rx_bin ha hb (fun i ta tb pa pb => pe_op op_pow pa pb) ?_
  intro F ρ σ S M H Q v w x y hg s rx ry p
  obtain ⟨rv, e, p⟩ := pr_opt (o := powD x y) p
  unfold powD at e
  split at e
  · split at e
    · rename_i h
      cases e
      simp only [Bool.and_eq_true, decide_eq_true_eq] at h
      exact ⟨_, _, rx.int, ry.int, ⟨h.1.1, h.1.2, h.2⟩, PR.val s (.int _) p⟩
    · cases e
  · cases e
theorem rx_neg (ha : OX X G W a qa) : RX X G W (.UnaryOp .USub a pos) (args [qa] (f1 negD)) := by
  refine rx_one ha (fun i ta pa => pe_un un_neg pa) ?_
  intro F ρ σ S M H Q v x hg s rx p
  obtain ⟨rv, e, p⟩ := pr_opt (o := negD x) p
  unfold negD at e
  split at e
  · cases e
    exact ⟨_, rx.int, PR.val s (.int _) p⟩
  · cases e

/-! ### comparisons -/
/-- a comparison, as a value or as a test -/
def QX {ι : Type} (X : ι → Cx) (G : GC) (W : WX) (op : CmpOp) (a b : Expr) (f : P RV) : Prop :=
  ∃ (r : R2) (ta tb : TE), (∀ i, OpR (X i) (compareOp op) r) ∧ (∀ i, PE (X i) a ta) ∧ (∀ i, PE (X i) b tb) ∧ behindInMarks op b = false ∧ EvR G W (tOp r ta tb) f
theorem qx_bin {op : CmpOp} {r : R2} {h : List D → P RV} (ho : ∀ i, OpR (X i) (compareOp op) r) (hm : behindInMarks op b = false) (ha : OX X G W a qa) (hb : OX X G W b qb)
    (hop : ∀ (F : FC) (ρ : En) (σ : St) (S M H : Hp) (Q : VK) v w x y, F.g = G → SR F ρ σ S M H → RpB F S M v x → RpB F S M w y → PR F W σ S (h [x, y] ρ) Q → r v w H Q) : QX X G W op a b (args [qa, qb] h) := by
  obtain ⟨ta, pa, ea⟩ := ha
  obtain ⟨tb, pb, eb⟩ := hb
  refine ⟨r, ta, tb, ho, pa, pb, hm, ?_⟩
  have := ev_op (G := G) (W := W) (r := two r) (h := h) (.cons ea (.cons eb .nil)) fun F ρ σ S M H Q vs ds hg s hl rb p => by
    match vs, hl, rb with
    | [_, _], _, .cons r1 (.cons r2 .nil) => exact hop F ρ σ S M H Q _ _ _ _ hg s r1 r2 p
  exact this
theorem rx_cmp {op : CmpOp} {f : P RV} (h : QX X G W op a b f) : RX X G W (.Compare a [op] [b] pos) f := by
  obtain ⟨r, ta, tb, ho, pa, pb, hm, e⟩ := h
  exact ⟨_, fun i => pe_cmpR (ho i) (pa i) (pb i) hm, e⟩
theorem qx_ord {op : CmpOp} {pp : Int → Int → Bool} (hop : ∀ i, OpR (X i) (compareOp op) (rI0 fun i j => .bl (pp i j))) (hm : behindInMarks op b = false) (ha : OX X G W a qa) (hb : OX X G W b qb) :
    QX X G W op a b (args [qa, qb] (f2 (ordD pp))) := by
  refine qx_bin hop hm ha hb ?_
  intro F ρ σ S M H Q v w x y hg s rx ry p
  obtain ⟨rv, e, p⟩ := pr_opt (o := ordD pp x y) p
  unfold ordD at e
  split at e
  · cases e
    exact ⟨_, _, rx.int, ry.int, PR.val s (.bl _) p⟩
  · cases e
theorem qx_lt (ha : OX X G W a qa) (hb : OX X G W b qb) : QX X G W .Lt a b (args [qa, qb] (f2 (ordD ltI))) := qx_ord (fun _ => op_lt) (nomark _) ha hb
theorem qx_le (ha : OX X G W a qa) (hb : OX X G W b qb) : QX X G W .LtE a b (args [qa, qb] (f2 (ordD leI))) := qx_ord (fun _ => op_le) (nomark _) ha hb
theorem qx_gt (ha : OX X G W a qa) (hb : OX X G W b qb) : QX X G W .Gt a b (args [qa, qb] (f2 (ordD gtI))) := qx_ord (fun _ => op_gt) (nomark _) ha hb
theorem qx_ge (ha : OX X G W a qa) (hb : OX X G W b qb) : QX X G W .GtE a b (args [qa, qb] (f2 (ordD geI))) := qx_ord (fun _ => op_ge) (nomark _) ha hb
theorem room64 {k : Nat} {A : Around} (r : Room k A) : A.units + 64 < cLine := r.units
theorem room65 {k : Nat} {A : Around} (r : Room k A) : A.units + 65 < cLine := by have := r.un; omega
theorem qx_eq {k : Nat} (hK : ∀ i, (X i).K = G.K) (hr : ∀ i, Room k (X i).A) (ha : OX X G W a qa) (hb : OX X G W b qb) : QX X G W .Eq a b (args [qa, qb] (f2 eqD)) := by
  refine qx_bin (r := rEqD G.K) (fun i => by rw [← hK i]; exact op_eqD (room64 (hr i))) (nomark _) ha hb ?_
  intro F ρ σ S M H Q v w x y hg s rx ry p
  obtain ⟨rv, e, p⟩ := pr_opt (o := eqD x y) p
  have hK' : F.K = G.K := congrArg GC.K hg
  unfold eqD at e
  split at e
  · rename_i h
    rw [Bool.and_eq_true] at h
    cases e
    exact ⟨x, y, by rw [← hK']; exact okE_dp h.1 (rx.rp s), by rw [← hK']; exact okE_dp h.2 (ry.rp s), okE_shaped h.1, okE_shaped h.2, PR.val s (.bl _) p⟩
  · cases e
theorem qx_ne {k : Nat} (hK : ∀ i, (X i).K = G.K) (hr : ∀ i, Room k (X i).A) (ha : OX X G W a qa) (hb : OX X G W b qb) : QX X G W .NotEq a b (args [qa, qb] (f2 neD)) := by
  refine qx_bin (r := rNeD G.K) (fun i => by rw [← hK i]; exact op_neD (room64 (hr i))) (nomark _) ha hb ?_
  intro F ρ σ S M H Q v w x y hg s rx ry p
  obtain ⟨rv, e, p⟩ := pr_opt (o := neD x y) p
  have hK' : F.K = G.K := congrArg GC.K hg
  unfold neD at e
  split at e
  · rename_i h
    rw [Bool.and_eq_true] at h
    cases e
    exact ⟨x, y, by rw [← hK']; exact okE_dp h.1 (rx.rp s), by rw [← hK']; exact okE_dp h.2 (ry.rp s), okE_shaped h.1, okE_shaped h.2, PR.val s (.bl _) p⟩
  · cases e
def rInX (K : PySem.W.Frag) (neg : Bool) : R2 := fun x y H Q => ∃ d c ds, Dp K H x d ∧ Dp K H y c ∧ (c = .list ds ∨ c = .tuple ds) ∧ SeqAt.shaped d = true ∧ SeqAt.shaped c = true ∧ Q (.bl (if neg then !hasD d ds else hasD d ds)) H
theorem shaped_tl {ds : List D} (h : SeqAt.shaped (.tuple ds) = true) : SeqAt.shaped (.list ds) = true := h
theorem op_inX {X : Cx} (hu : X.A.units + 65 < cLine) : OpR X (compareOp .In) (rInX X.K false) := by
  intro pins s σ H x y v u Q I rx ry h
  obtain ⟨d, c, ds, hd, he, hc, sd, se, q⟩ := h
  obtain ⟨as, r1⟩ := Dp.reads I d x v hd rx
  obtain ⟨bs, r2⟩ := Dp.reads I c y u he ry
  rcases hc with rfl | rfl
  · exact SeqAt.in_list_reads r2 r1 (SeqAt.canLay_of_shaped se) (SeqAt.canLay_of_shaped sd) (room_in_shaped sd hu) ⟨.bl _, H, I, rfl, q⟩
  · exact SeqAt.in_tuple_reads r2 r1 (SeqAt.canLay_of_shaped (shaped_tl se)) (SeqAt.canLay_of_shaped sd) (room_in_shaped sd hu) ⟨.bl _, H, I, rfl, q⟩
theorem op_ninX {X : Cx} (hu : X.A.units + 65 < cLine) : OpR X (compareOp .NotIn) (rInX X.K true) := by
  intro pins s σ H x y v u Q I rx ry h
  obtain ⟨d, c, ds, hd, he, hc, sd, se, q⟩ := h
  obtain ⟨as, r1⟩ := Dp.reads I d x v hd rx
  obtain ⟨bs, r2⟩ := Dp.reads I c y u he ry
  rcases hc with rfl | rfl
  · exact SeqAt.notIn_list_reads r2 r1 (SeqAt.canLay_of_shaped se) (SeqAt.canLay_of_shaped sd) (room_in_shaped sd hu) ⟨.bl _, H, I, rfl, q⟩
  · exact SeqAt.notIn_tuple_reads r2 r1 (SeqAt.canLay_of_shaped (shaped_tl se)) (SeqAt.canLay_of_shaped sd) (room_in_shaped sd hu) ⟨.bl _, H, I, rfl, q⟩
theorem qx_in {k : Nat} (hK : ∀ i, (X i).K = G.K) (hr : ∀ i, Room k (X i).A) (hm : behindInMarks .In b = false) (ha : OX X G W a qa) (hb : OX X G W b qb) : QX X G W .In a b (args [qa, qb] (f2 inD)) := by
  refine qx_bin (r := rInX G.K false) (fun i => by rw [← hK i]; exact op_inX (room65 (hr i))) hm ha hb ?_
  intro F ρ σ S M H Q v w x y hg s rx ry p
  obtain ⟨rv, e, p⟩ := pr_opt (o := inD x y) p
  have hK' : F.K = G.K := congrArg GC.K hg
  unfold inD at e
  split at e
  · split at e
    · rename_i h
      rw [Bool.and_eq_true] at h
      cases e
      exact ⟨x, _, _, by rw [← hK']; exact okE_dp h.1 (rx.rp s), by rw [← hK']; exact okE_dp h.2 (ry.rp s), .inl rfl, okE_shaped h.1, okE_shaped h.2, PR.val s (.bl _) p⟩
    · cases e
  · split at e
    · rename_i h
      rw [Bool.and_eq_true] at h
      cases e
      exact ⟨x, _, _, by rw [← hK']; exact okE_dp h.1 (rx.rp s), by rw [← hK']; exact okE_dp h.2 (ry.rp s), .inr rfl, okE_shaped h.1, okE_shaped h.2, PR.val s (.bl _) p⟩
    · cases e
  · cases e
theorem qx_nin {k : Nat} (hK : ∀ i, (X i).K = G.K) (hr : ∀ i, Room k (X i).A) (hm : behindInMarks .NotIn b = false) (ha : OX X G W a qa) (hb : OX X G W b qb) : QX X G W .NotIn a b (args [qa, qb] (f2 ninD)) := by
  refine qx_bin (r := rInX G.K true) (fun i => by rw [← hK i]; exact op_ninX (room65 (hr i))) hm ha hb ?_
  intro F ρ σ S M H Q v w x y hg s rx ry p
  obtain ⟨rv, e, p⟩ := pr_opt (o := ninD x y) p
  have hK' : F.K = G.K := congrArg GC.K hg
  unfold ninD at e
  split at e
  · split at e
    · rename_i h
      rw [Bool.and_eq_true] at h
      cases e
      exact ⟨x, _, _, by rw [← hK']; exact okE_dp h.1 (rx.rp s), by rw [← hK']; exact okE_dp h.2 (ry.rp s), .inl rfl, okE_shaped h.1, okE_shaped h.2, PR.val s (.bl _) p⟩
    · cases e
  · split at e
    · rename_i h
      rw [Bool.and_eq_true] at h
      cases e
      exact ⟨x, _, _, by rw [← hK']; exact okE_dp h.1 (rx.rp s), by rw [← hK']; exact okE_dp h.2 (ry.rp s), .inr rfl, okE_shaped h.1, okE_shaped h.2, PR.val s (.bl _) p⟩
    · cases e
  · cases e
end
end L3

set_option Elab.async false
set_option linter.all false
set_option maxRecDepth 100000
namespace L3
open PySem PySem.Spec PyProof.Rows L2

section
variable {ι : Type} {X : ι → Cx} {G : GC} {W : WX} {a b c e : Expr} {qa qb : Opd} {pos : Pos}
/-! ### is -/
def rIsX : R2 := fun x y H Q => (y = .non ∧ Q (.bl (decide (x = .non))) H) ∨ rIsB x y H Q
def rNotX : R2 := fun x y H Q => (y = .non ∧ Q (.bl (!decide (x = .non))) H) ∨ rNotB x y H Q
theorem RpB.isNon {F : FC} {S M : Hp} {v : V} {d : D} (r : RpB F S M v d) : decide (v = .non) = nonD d := by
  rcases r with r | ⟨p, u, o, rfl, e, r, rfl⟩
  · cases r <;> rfl
  · cases o <;> rfl
theorem qx_is (ha : OX X G W a qa) (hb : OX X G W b qb) : QX X G W .Is a b (args [qa, qb] (f2 isD)) := by
  refine qx_bin (r := rIsX) (fun i => OpR.or op_isN op_isBl) (nomark _) ha hb ?_
  intro F ρ σ S M H Q v w x y hg s rx ry p
  obtain ⟨rv, e, p⟩ := pr_opt (o := isD x y) p
  unfold isD at e
  split at e
  · cases e
    refine .inl ⟨ry.non, ?_⟩
    rw [rx.isNon]
    exact PR.val s (.bl _) p
  · cases e
    refine .inr ⟨_, _, rx.bl, ry.bl, ?_⟩
    rw [← Bool.beq_eq_decide_eq]
    exact PR.val s (.bl _) p
  · cases e
theorem qx_isnot (ha : OX X G W a qa) (hb : OX X G W b qb) : QX X G W .IsNot a b (args [qa, qb] (f2 notD)) := by
  refine qx_bin (r := rNotX) (fun i => OpR.or op_notN op_notBl) (nomark _) ha hb ?_
  intro F ρ σ S M H Q v w x y hg s rx ry p
  obtain ⟨rv, e, p⟩ := pr_opt (o := notD x y) p
  unfold notD at e
  split at e
  · cases e
    refine .inl ⟨ry.non, ?_⟩
    rw [rx.isNon]
    exact PR.val s (.bl _) p
  · cases e
    refine .inr ⟨_, _, rx.bl, ry.bl, ?_⟩
    rw [← Bool.beq_eq_decide_eq]
    exact PR.val s (.bl _) p
  · cases e

/-! ### places -/
theorem rx_ix (hK : ∀ i, (X i).K = G.K) (hs : PlainIx b) (ha : OX X G W a qa) (hb : OX X G W b qb) : RX X G W (.Subscript a b pos) (args [qa, qb] (f2 ixD)) := by
  refine rx_bin (r := rIx G.K) ha hb (fun i ta tb pa pb => pe_ix (by rw [← hK i]; exact ix_seq) pa pb hs) ?_
  intro F ρ σ S M H Q v w x y hg s rx ry p
  obtain ⟨rv, e, p⟩ := pr_opt (o := ixD x y) p
  have hK' : F.K = G.K := congrArg GC.K hg
  unfold ixD at e
  split at e
  · obtain ⟨d, hd, rfl⟩ := Option.map_eq_some_iff.mp e
    obtain ⟨p1, vs, rfl, h1, r1⟩ := rx.lst s
    obtain ⟨w', h2, r2⟩ := r1.atI hd
    exact .inl ⟨p1, vs, _, w', rfl, ry.int, SqL.of h1, h2, PR.val s r2 p⟩
  · obtain ⟨d, hd, rfl⟩ := Option.map_eq_some_iff.mp e
    obtain ⟨p1, vs, rfl, _, h1, r1⟩ := rx.tup s
    obtain ⟨w', h2, r2⟩ := r1.atI hd
    exact .inr (.inl ⟨p1, vs, _, w', rfl, ry.int, by rw [← hK']; exact h1, h2, PR.val s r2 p⟩)
  · cases e

/-! ### calls of built-ins -/
/-- arguments -/
def AX (X : ι → Cx) (G : GC) (W : WX) (es : List Expr) (qs : List Opd) : Prop := ∃ ts, (∀ i, PA (X i) es ts) ∧ EvOs G W ts qs
theorem ax_nil : AX X G W [] [] := ⟨_, fun _ => pa_nil, .nil⟩
theorem ax_cons {es : List Expr} {q : Opd} {qs : List Opd} (h : OX X G W e q) (r : AX X G W es qs) (hs : ∀ i, starEach (e :: es) (X i).env = (false, eval e (X i).env) :: starEach es (X i).env) : AX X G W (e :: es) (q :: qs) := by
  obtain ⟨t, pe, ev⟩ := h
  obtain ⟨ts, pa, evs⟩ := r
  exact ⟨_, fun i => pa_cons (pe i) (pa i) (hs i), .cons ev evs⟩
theorem ev_call {ts : TA} {qs : List Opd} {r : List V → Hp → VK → Prop} {h : List D → P RV} (he : EvOs G W ts qs)
    (hop : ∀ (F : FC) (ρ : En) (σ : St) (S M H : Hp) (Q : VK) vs ds, F.g = G → SR F ρ σ S M H → vs.length = qs.length → RpBs F S M vs ds → PR F W σ S (h ds ρ) Q → r vs H Q) : EvR G W (tCB r ts) (args qs h) := ev_op he hop
theorem rx_callB {id : String} {x : Str} {p : Pos} {es : List Expr} {qs : List Opd} {r : List V → Hp → VK → Prop} {h : List D → P RV} (hc : ∀ i, CallR (X i) (.builtin id) r) (hg : ∀ i, Gl (X i) x) (hm : ∀ i, (X i).mg x = none) (hv : bootBuiltins x = some (.builtin id)) (ha : AX X G W (e :: es) qs)
    (hop : ∀ (F : FC) (ρ : En) (σ : St) (S M H : Hp) (Q : VK) vs ds, F.g = G → SR F ρ σ S M H → vs.length = qs.length → RpBs F S M vs ds → PR F W σ S (h ds ρ) Q → r vs H Q)
    (hn : x ≠ "__name__") (hdb : (x == ("__debug__" : Str)) = false) (he : ∀ i, starEach (e :: es) (X i).env = (false, eval e (X i).env) :: starEach es (X i).env) (hpl : ∀ i, (backTo pos (starEach es (X i).env)).any (·.1) = false) :
    RX X G W (.Call (.Name x p) (e :: es) [] pos) (args qs h) := by
  obtain ⟨ts, pa, ev⟩ := ha
  exact ⟨_, fun i => pe_callB (hc i) (hg i) (hm i) hv (pa i) hn hdb (he i) (hpl i), ev_call ev hop⟩
theorem rx_callTy {T : String} {x : Str} {p : Pos} {es : List Expr} {qs : List Opd} {r : List V → Hp → VK → Prop} {h : List D → P RV} (hc : ∀ i, CallR (X i) (.type T) r) (hg : ∀ i, Gl (X i) x) (hm : ∀ i, (X i).mg x = none) (hv : bootBuiltins x = some (.type T)) (ha : AX X G W (e :: es) qs)
    (hop : ∀ (F : FC) (ρ : En) (σ : St) (S M H : Hp) (Q : VK) vs ds, F.g = G → SR F ρ σ S M H → vs.length = qs.length → RpBs F S M vs ds → PR F W σ S (h ds ρ) Q → r vs H Q)
    (hn : x ≠ "__name__") (hdb : (x == ("__debug__" : Str)) = false) (he : ∀ i, starEach (e :: es) (X i).env = (false, eval e (X i).env) :: starEach es (X i).env) (hpl : ∀ i, (backTo pos (starEach es (X i).env)).any (·.1) = false) :
    RX X G W (.Call (.Name x p) (e :: es) [] pos) (args qs h) := by
  obtain ⟨ts, pa, ev⟩ := ha
  exact ⟨_, fun i => pe_callTy (hc i) (hg i) (hm i) hv (pa i) hn hdb (he i) (hpl i), ev_call ev hop⟩
theorem rpBs1 {F : FC} {S M : Hp} {vs : List V} {ds : List D} (h : vs.length = 1) (r : RpBs F S M vs ds) : ∃ v d, vs = [v] ∧ ds = [d] ∧ RpB F S M v d := by
  match vs, h, r with
  | [_], _, .cons r1 .nil => exact ⟨_, _, rfl, rfl, r1⟩
theorem rpBs2 {F : FC} {S M : Hp} {vs : List V} {ds : List D} (h : vs.length = 2) (r : RpBs F S M vs ds) : ∃ v w d e, vs = [v, w] ∧ ds = [d, e] ∧ RpB F S M v d ∧ RpB F S M w e := by
  match vs, h, r with
  | [_, _], _, .cons r1 (.cons r2 .nil) => exact ⟨_, _, _, _, rfl, rfl, r1, r2⟩
theorem rx_len {p : Pos} (hK : ∀ i, (X i).K = G.K) (hg : ∀ i, Gl (X i) "len") (hm : ∀ i, (X i).mg "len" = none) (ha : AX X G W [e] [qa])
    (he : ∀ i, starEach [e] (X i).env = (false, eval e (X i).env) :: starEach [] (X i).env) (hpl : ∀ i, (backTo pos (starEach [] (X i).env)).any (·.1) = false) : RX X G W (.Call (.Name "len" p) [e] [] pos) (args [qa] (f1 lenD)) := by
  refine rx_callB (r := fun xs H Q => ∃ p ys, xs = [.ref p] ∧ (SqL G.K H p ys ∨ SqT G.K H p ys) ∧ Q (.int ys.length) H) (fun i => by rw [← hK i]; exact call_len_seq) hg hm boot_len ha ?_ (by decide) (by decide) he hpl
  intro F ρ σ S M H Q vs ds hg s hl rb p
  obtain ⟨v, d, rfl, rfl, r⟩ := rpBs1 hl rb
  obtain ⟨rv, e, p⟩ := pr_opt (o := lenD d) p
  have hK' : F.K = G.K := congrArg GC.K hg
  unfold lenD at e
  split at e
  · cases e
    obtain ⟨p1, vs, rfl, h1, r1⟩ := r.lst s
    refine ⟨p1, vs, rfl, .inl (SqL.of h1), ?_⟩
    rw [r1.length]
    exact PR.val s (.int _) p
  · cases e
    obtain ⟨p1, vs, rfl, _, h1, r1⟩ := r.tup s
    refine ⟨p1, vs, rfl, .inr (by rw [← hK']; exact h1), ?_⟩
    rw [r1.length]
    exact PR.val s (.int _) p
  · cases e

/-! ### tests -/
def PB (F : FC) (W : WX) (σ : St) (S : Hp) (r : Res Bool) (Q : Bool → Hp → Prop) : Prop := r.post
  (fun b ρ => ∀ S' M' H', Ext S S' → SR F ρ σ S' M' H' → Q b H')
  (fun k ρ => ∀ S' M' H', Ext S S' → SR F ρ σ S' M' H' → W (F.g.cls k) none σ H')
theorem PB.ext {F : FC} {σ : St} {S S1 : Hp} {r : Res Bool} {Q : Bool → Hp → Prop} (e : Ext S S1) (h : PB F W σ S r Q) : PB F W σ S1 r Q :=
  Res.post_mono h (fun _ _ q S' M' H' e' => q S' M' H' (e.trans e')) fun _ _ q S' M' H' e' => q S' M' H' (e.trans e')
def EvB (G : GC) (W : WX) (t : TT) (f : P Bool) : Prop := ∀ (F : FC) (ρ : En) (σ : St) (S M H : Hp) (Q : Bool → Hp → Prop), F.g = G → SR F ρ σ S M H → PB F W σ S (f ρ) Q → t σ H Q
def BX (X : ι → Cx) (G : GC) (W : WX) (e : Expr) (f : P Bool) : Prop := ∃ t, (∀ i, PT (X i) e t) ∧ EvB G W t f
def WBX (X : ι → Cx) (G : GC) (W : WX) (e : Expr) (f : P Bool) : Prop := ∃ t, (∀ i, PW (X i) e t) ∧ EvB G W t f
theorem bx_w {f : P Bool} (h : WBX X G W e f) : BX X G W e f := by
  obtain ⟨t, p, ev⟩ := h
  exact ⟨t, fun i => (p i).pt, ev⟩
def bD : D → Option Bool
  | .bool b => some b
  | _ => none
theorem bD_some {d : D} {b : Bool} (h : bD d = some b) : d = .bool b := by
  cases d <;> simp [bD] at h
  rw [h]
def toB (rv : RV) : P Bool := opt (bD rv.toD)
def truD : D → Option Bool
  | .none => some false
  | .bool b => some b
  | .int i => some (i != 0)
  | .list xs => some (!xs.isEmpty)
  | .tuple xs => some (!xs.isEmpty)
  | _ => none
def tru (rv : RV) : P Bool := opt (truD rv.toD)
theorem Rp.bool {K : PySem.W.Frag} {S : Hp} {v : V} {b : Bool} (r : Rp K S v (.bool b)) : v = .bl b := by
  cases r; rfl
theorem ev_toB {t : TE} {f : P RV} (h : EvR G W t f) : EvB G W (tTest t) (seq f toB) := by
  intro F ρ σ S M H Q hg s p
  have p := Res.post_bind (r := f ρ) (g := toB) p
  refine h F ρ σ S M H _ hg s (Res.post_mono p (fun rv ρ1 q v S1 M1 H1 e1 s1 r1 => ?_) fun k ρ1 q => q)
  obtain ⟨S2, M2, e2, s2, r2⟩ := s1.freeze r1
  cases hb : bD rv.toD with
  | none =>
    have q' : (opt (bD rv.toD) ρ1).post _ _ := q
    rw [hb] at q'
    exact q'.elim
  | some b =>
    have q' : (opt (bD rv.toD) ρ1).post _ _ := q
    rw [hb] at q'
    rw [bD_some hb] at r2
    exact ⟨b, r2.bool, q' S2 M2 H1 (e1.trans e2) s2⟩
theorem bx_cmp {op : CmpOp} {f : P RV} (h : QX X G W op a b f) : BX X G W (.Compare a [op] [b] pos) (seq f toB) := by
  obtain ⟨r, ta, tb, ho, pa, pb, hm, ev⟩ := h
  exact ⟨_, fun i => pt_cmpR (ho i) (pa i) (pb i) hm, ev_toB ev⟩
/-- a test of a value that is read -/
def truO (ds : List D) : P Bool := match ds with
  | [d] => opt (truD d)
  | _ => fail
theorem bx_tru {q : Opd} (hK : ∀ i, (X i).K = G.K) (h : OX X G W e q) (he : ∀ i whole, isTrue e (X i).env whole = (do let v ← whole; standAt e.pos; holding [v] (truthy v))) : BX X G W e (args [q] truO) := by
  obtain ⟨t, p, ev⟩ := h
  refine ⟨fun σ H Q => t σ H fun x H1 => ∃ k, TruV G.K x H1 k ∧ Q k H1, fun i => ?_, ?_⟩
  · have := pt_truth (p i) (he i)
    rw [hK i] at this
    exact this
  · intro F ρ σ S M H Q hg s p
    have := ev_args (G := G) (W := W) (.cons ev .nil) F ρ σ S M H (fun vs H' => match vs with | [x] => ∃ k, TruV G.K x H' k ∧ Q k H' | _ => False) hg s p (fun k ρ' q => q) fun vs ds ρ' S' M' H' e s' hl rb q => by
      obtain ⟨v, d, rfl, rfl, r⟩ := rpBs1 hl rb
      have hK' : F.K = G.K := congrArg GC.K hg
      cases hd : truD d with
      | none =>
        have q' : (opt (truD d) ρ').post _ _ := q
        rw [hd] at q'
        exact q'.elim
      | some k =>
        have q' : (opt (truD d) ρ').post _ _ := q
        rw [hd] at q'
        refine ⟨k, ?_, q' S' M' H' e s'⟩
        cases d with
        | none => cases hd; rw [r.non]; rfl
        | bool b => cases hd; rw [r.bl]; rfl
        | int i => cases hd; rw [r.int]; rfl
        | str x => cases hd
        | dict x => cases hd
        | list xs =>
          cases hd
          obtain ⟨p1, vs, rfl, h1, r1⟩ := r.lst s'
          exact .inl ⟨vs, SqL.of h1, by cases r1 <;> rfl⟩
        | tuple xs =>
          cases hd
          obtain ⟨p1, vs, rfl, _, h1, r1⟩ := r.tup s'
          exact .inr (.inl ⟨vs, by rw [← hK']; exact h1, by cases r1 <;> rfl⟩)
    exact this
def andP (f g : P Bool) : P Bool := seq f fun c => if c = true then g else ret false
def orP (f g : P Bool) : P Bool := seq f fun c => if c = true then ret true else g
def notP (f : P Bool) : P Bool := seq f fun c => ret (!c)
theorem EvB.use {t : TT} {f : P Bool} (h : EvB G W t f) {F : FC} {ρ : En} {σ : St} {S M H : Hp} (hg : F.g = G) (s : SR F ρ σ S M H) {β : Type} {g : Bool → P β} {A : β → En → Prop} {B : Nat → En → Prop} (p : ((f ρ).bind g).post A B)
    (hB : ∀ k ρ', B k ρ' → ∀ S' M' H', Ext S S' → SR F ρ' σ S' M' H' → W (F.g.cls k) none σ H') {R : Bool → Hp → Prop}
    (hR : ∀ b ρ' S' M' H', Ext S S' → SR F ρ' σ S' M' H' → (g b ρ').post A B → R b H') : t σ H R :=
  h F ρ σ S M H R hg s (Res.post_mono (Res.post_bind p) (fun b ρ' q S' M' H' e s' => hR b ρ' S' M' H' e s' q) hB)
theorem ev_and {t u : TT} {f g : P Bool} (h : EvB G W t f) (h' : EvB G W u g) : EvB G W (tAnd t u) (andP f g) := by
  intro F ρ σ S M H Q hg s p
  refine h.use hg s p (fun k ρ' q => q) fun c ρ1 S1 M1 H1 e1 s1 q => ?_
  cases c with
  | true =>
    show (if true = true then u σ H1 Q else Q false H1)
    rw [if_pos rfl]
    exact h' F ρ1 σ S1 M1 H1 Q hg s1 (PB.ext e1 q)
  | false => exact q S1 M1 H1 e1 s1
theorem ev_or {t u : TT} {f g : P Bool} (h : EvB G W t f) (h' : EvB G W u g) : EvB G W (tOr t u) (orP f g) := by
  intro F ρ σ S M H Q hg s p
  refine h.use hg s p (fun k ρ' q => q) fun c ρ1 S1 M1 H1 e1 s1 q => ?_
  cases c with
  | true => exact q S1 M1 H1 e1 s1
  | false =>
    show (if false = true then Q true H1 else u σ H1 Q)
    rw [if_neg Bool.false_ne_true]
    exact h' F ρ1 σ S1 M1 H1 Q hg s1 (PB.ext e1 q)
theorem wx_and1 {f : P Bool} (h : BX X G W a f) : WBX X G W (.BoolOp .And [a] pos) f := by
  obtain ⟨t, p, ev⟩ := h
  exact ⟨t, fun i => pw_and1 (p i), ev⟩
theorem wx_or1 {f : P Bool} (h : BX X G W a f) : WBX X G W (.BoolOp .Or [a] pos) f := by
  obtain ⟨t, p, ev⟩ := h
  exact ⟨t, fun i => pw_or1 (p i), ev⟩
theorem wx_and {f g : P Bool} {rest : List Expr} (h : BX X G W a f) (h' : WBX X G W (.BoolOp .And (b :: rest) pos) g) : WBX X G W (.BoolOp .And (a :: b :: rest) pos) (andP f g) := by
  obtain ⟨t, p, ev⟩ := h
  obtain ⟨u, p', ev'⟩ := h'
  exact ⟨_, fun i => pw_and (p i) (p' i), ev_and ev ev'⟩
theorem wx_or {f g : P Bool} {rest : List Expr} (h : BX X G W a f) (h' : WBX X G W (.BoolOp .Or (b :: rest) pos) g) : WBX X G W (.BoolOp .Or (a :: b :: rest) pos) (orP f g) := by
  obtain ⟨t, p, ev⟩ := h
  obtain ⟨u, p', ev'⟩ := h'
  exact ⟨_, fun i => pw_or (p i) (p' i), ev_or ev ev'⟩
theorem bx_not {f : P Bool} (h : BX X G W a f) : BX X G W (.UnaryOp .Not a pos) (notP f) := by
  obtain ⟨t, p, ev⟩ := h
  refine ⟨_, fun i => pt_not (p i), ?_⟩
  intro F ρ σ S M H Q hg s p
  exact ev.use (R := fun c H1 => Q (!c) H1) hg s p (fun k ρ' q => q) fun c ρ1 S1 M1 H1 e1 s1 q => q S1 M1 H1 e1 s1
/-- and, or, not as values, what is on the left being truth values -/
def andV (f g : P RV) : P RV := seq f fun rv => seq (toB rv) fun b => if b = true then g else ret (.val (.bool false))
def orV (f g : P RV) : P RV := seq f fun rv => seq (toB rv) fun b => if b = true then ret (.val (.bool true)) else g
def notV (f : P RV) : P RV := seq f fun rv => seq (toB rv) fun b => ret (.val (.bool (!b)))
theorem toB_post {β : Type} {rv : RV} {ρ : En} {g : Bool → P β} {A : β → En → Prop} {B : Nat → En → Prop} (p : ((toB rv ρ).bind g).post A B) : ∃ b, rv.toD = .bool b ∧ (g b ρ).post A B := by
  cases hb : bD rv.toD with
  | none =>
    have p' : ((opt (bD rv.toD) ρ).bind g).post A B := p
    rw [hb] at p'
    exact p'.elim
  | some b =>
    have p' : ((opt (bD rv.toD) ρ).bind g).post A B := p
    rw [hb] at p'
    exact ⟨b, bD_some hb, p'⟩
theorem EvR.use {t : TE} {f : P RV} (h : EvR G W t f) {F : FC} {ρ : En} {σ : St} {S M H : Hp} (hg : F.g = G) (s : SR F ρ σ S M H) {β : Type} {g : RV → P β} {A : β → En → Prop} {B : Nat → En → Prop} (p : ((f ρ).bind g).post A B)
    (hB : ∀ k ρ', B k ρ' → ∀ S' M' H', Ext S S' → SR F ρ' σ S' M' H' → W (F.g.cls k) none σ H') {R : VK}
    (hR : ∀ rv v ρ' S' M' H', Ext S S' → SR F ρ' σ S' M' H' → Rp F.K S' v rv.toD → (g rv ρ').post A B → R v H') : t σ H R :=
  h F ρ σ S M H R hg s (Res.post_mono (Res.post_bind p) (fun rv ρ' q v S' M' H' e s' r => by
    obtain ⟨S2, M2, e2, s2, r2⟩ := s'.freeze r
    exact hR rv v ρ' S2 M2 H' (e.trans e2) s2 r2 q) hB)
theorem rx_one1 {op} {f : P RV} (h : RX X G W a f) : RX X G W (.BoolOp op [a] pos) f := by
  obtain ⟨t, p, ev⟩ := h
  exact ⟨t, fun i => pe_one (p i), ev⟩
theorem rx_and {f g : P RV} {rest : List Expr} (h : RX X G W a f) (h' : RX X G W (.BoolOp .And (b :: rest) pos) g) : RX X G W (.BoolOp .And (a :: b :: rest) pos) (andV f g) := by
  obtain ⟨t, p, ev⟩ := h
  obtain ⟨u, p', ev'⟩ := h'
  refine ⟨_, fun i => pe_and (p i) (p' i), ?_⟩
  intro F ρ σ S M H Q hg s p
  refine ev.use hg s p (fun k ρ' q => q) fun rv v ρ1 S1 M1 H1 e1 s1 r1 q => ?_
  obtain ⟨b, hb, q⟩ := toB_post (A := _) (B := _) q
  rw [hb] at r1
  refine ⟨b, r1.bool, ?_⟩
  cases b with
  | true =>
    rw [if_pos rfl]
    exact ev' F ρ1 σ S1 M1 H1 Q hg s1 (PR.ext e1 q)
  | false =>
    rw [if_neg Bool.false_ne_true]
    exact q _ S1 M1 H1 e1 s1 (.bl _)
theorem rx_or {f g : P RV} {rest : List Expr} (h : RX X G W a f) (h' : RX X G W (.BoolOp .Or (b :: rest) pos) g) : RX X G W (.BoolOp .Or (a :: b :: rest) pos) (orV f g) := by
  obtain ⟨t, p, ev⟩ := h
  obtain ⟨u, p', ev'⟩ := h'
  refine ⟨_, fun i => pe_or (p i) (p' i), ?_⟩
  intro F ρ σ S M H Q hg s p
  refine ev.use hg s p (fun k ρ' q => q) fun rv v ρ1 S1 M1 H1 e1 s1 r1 q => ?_
  obtain ⟨b, hb, q⟩ := toB_post (A := _) (B := _) q
  rw [hb] at r1
  refine ⟨b, r1.bool, ?_⟩
  cases b with
  | true =>
    rw [if_pos rfl]
    exact q _ S1 M1 H1 e1 s1 (.bl _)
  | false =>
    rw [if_neg Bool.false_ne_true]
    exact ev' F ρ1 σ S1 M1 H1 Q hg s1 (PR.ext e1 q)
theorem rx_not {f : P RV} (h : RX X G W a f) : RX X G W (.UnaryOp .Not a pos) (notV f) := by
  obtain ⟨t, p, ev⟩ := h
  refine ⟨_, fun i => pe_not (p i), ?_⟩
  intro F ρ σ S M H Q hg s p
  refine ev.use hg s p (fun k ρ' q => q) fun rv v ρ1 S1 M1 H1 e1 s1 r1 q => ?_
  obtain ⟨b, hb, q⟩ := toB_post (A := _) (B := _) q
  rw [hb] at r1
  exact ⟨b, r1.bool, q _ S1 M1 H1 e1 s1 (.bl _)⟩
def ifP {α : Type} (c : P Bool) (f g : P α) : P α := seq c fun b => if b = true then f else g
theorem rx_if {fc : P Bool} {f g : P RV} (hc : BX X G W c fc) (ha : RX X G W a f) (hb : RX X G W b g) : RX X G W (.IfExp c a b pos) (ifP fc f g) := by
  obtain ⟨tc, pc, ec⟩ := hc
  obtain ⟨ta, pa, ea⟩ := ha
  obtain ⟨tb, pb, eb⟩ := hb
  refine ⟨_, fun i => pe_ifExp (pc i) (pa i) (pb i), ?_⟩
  intro F ρ σ S M H Q hg s p
  refine ec.use hg s p (fun k ρ' q => q) fun c ρ1 S1 M1 H1 e1 s1 q => ?_
  cases c with
  | true =>
    show (if true = true then ta σ H1 Q else tb σ H1 Q)
    rw [if_pos rfl]
    exact ea F ρ1 σ S1 M1 H1 Q hg s1 (PR.ext e1 q)
  | false =>
    show (if false = true then ta σ H1 Q else tb σ H1 Q)
    rw [if_neg Bool.false_ne_true]
    exact eb F ρ1 σ S1 M1 H1 Q hg s1 (PR.ext e1 q)

/-! ### displays -/
theorem RpBs.all {F : FC} {S M : Hp} : ∀ {vs : List V} {ds : List D}, RpBs F S M vs ds → (∀ v d, RpB F S M v d → Rp F.K S v d) → RpAll F.K S vs ds
  | _, _, .nil, _ => .nil
  | _, _, .cons r rs, h => .cons (h _ _ r) (RpBs.all rs h)
/-- all operands are values of their own -/
def allEx : List Opd → Prop
  | [] => True
  | .ex _ :: qs => allEx qs
  | .sl _ :: _ => False
theorem ev_vals {ts : TA} {qs : List Opd} (he : EvOs G W ts qs) (hx : allEx qs) {β : Type} {h : List D → P β} (F : FC) (ρ : En) (σ : St) (S M H : Hp) (R : List V → Hp → Prop) (hg : F.g = G) (s : SR F ρ σ S M H) {A : β → En → Prop} {B : Nat → En → Prop}
    (p : (args qs h ρ).post A B) (hB : ∀ k ρ', B k ρ' → ∀ S' M' H', Ext S S' → SR F ρ' σ S' M' H' → W (F.g.cls k) none σ H')
    (hop : ∀ vs ds ρ' S' M' H', Ext S S' → SR F ρ' σ S' M' H' → vs.length = qs.length → RpAll F.K S' vs ds → (h ds ρ').post A B → R vs H') : ts σ H R := by
  have p := Res.post_bind (r := runs qs ρ) (g := fun xs => seq (gets qs xs) h) p
  have key : ∀ {qs : List Opd} {xs : List (Option D)} {vs : List V} {S' : Hp} {ρ' : En}, allEx qs → OpV F.K S' σ qs xs vs → ∀ {A : β → En → Prop} {B : Nat → En → Prop} {k : List D → P β}, (((gets qs xs ρ').bind k).post A B) → ∃ ds, RpAll F.K S' vs ds ∧ (k ds ρ').post A B := by
    intro qs xs vs S' ρ' hx o
    induction o with
    | nil => intro A B k p; exact ⟨[], .nil, p⟩
    | @ex f d v qs xs vs hr hs ih =>
      intro A B k p
      have p : (((gets qs xs ρ').bind fun ds => ret (d :: ds)).bind k).post A B := p
      have e : (((gets qs xs ρ').bind fun ds => ret (d :: ds)).bind k) = (gets qs xs ρ').bind fun ds => k (d :: ds) := by
        cases gets qs xs ρ' <;> rfl
      rw [e] at p
      obtain ⟨ds, h1, h2⟩ := ih hx p
      exact ⟨d :: ds, .cons hr h1, h2⟩
    | sl _ _ _ => exact hx.elim
  refine ev_runs he F ρ σ S M H R hg s (Res.post_mono p (fun xs ρ1 q vs S1 M1 H1 e1 s1 o1 => ?_) hB)
  obtain ⟨ds, h1, h2⟩ := key hx o1 q
  exact hop vs ds ρ1 S1 M1 H1 e1 s1 o1.len h1 h2
def mkL (ds : List D) : P RV := ret (.own (.lst ds))
def mkT (ds : List D) : P RV := ret (.val (.tuple ds))
theorem rx_list {es : List Expr} {qs : List Opd} (h : AX X G W es qs) (hx : allEx qs) (hn : qs.length ≤ 1000) : RX X G W (.List es pos) (args qs mkL) := by
  obtain ⟨ts, pa, ev⟩ := h
  refine ⟨_, fun i => pe_lst (pa i), ?_⟩
  intro F ρ σ S M H Q hg s p
  refine ev_vals ev hx F ρ σ S M H _ hg s p (fun k ρ' q => q) fun vs ds ρ1 S1 M1 H1 e1 s1 hl r1 q => ?_
  exact ⟨by rw [hl]; exact Nat.le_of_lt (small1000 hn), PR.own s1 (PR.ext e1 q) (.lst r1)⟩
theorem rx_tup {es : List Expr} {qs : List Opd} {x1} (h : AX X G W es qs) (hx : allEx qs) (hn : qs.length ≤ 1000) : RX X G W (.Tuple es x1 pos) (args qs mkT) := by
  obtain ⟨ts, pa, ev⟩ := h
  refine ⟨_, fun i => pe_tupF (pa i), ?_⟩
  intro F ρ σ S M H Q hg s p
  refine ev_vals ev hx F ρ σ S M H _ hg s p (fun k ρ' q => q) fun vs ds ρ1 S1 M1 H1 e1 s1 hl r1 q => ?_
  exact ⟨by rw [hl]; exact Nat.le_of_lt (small1000 hn), PR.newT s1 (PR.ext e1 q) r1⟩
end
end L3

set_option Elab.async false
set_option linter.all false
set_option maxRecDepth 100000
namespace L3
open PySem PySem.Spec PyProof.Rows L2

/-! ### statements -/
inductive Fl
  | nx
  | rt (rv : RV)
  | bk
  | ct
def FlOk (F : FC) (D : Ends) (ρ : En) (σ : St) (S M H : Hp) : Fl → Prop
  | .nx => D.nx σ H
  | .bk => D.bk σ H
  | .ct => D.ct σ H
  | .rt rv => ∀ v, RVok F ρ σ S M v rv → D.rt v H
def PSt (F : FC) (W : WX) (S : Hp) (r : Res Fl) (D : Ends) : Prop := r.post
  (fun fl ρ => ∀ σ' S' M' H', Ext S S' → SR F ρ σ' S' M' H' → FlOk F D ρ σ' S' M' H' fl)
  (fun k ρ => ∀ σ' S' M' H', Ext S S' → SR F ρ σ' S' M' H' → W (F.g.cls k) none σ' H')
theorem PSt.ext {F : FC} {W : WX} {S S1 : Hp} {r : Res Fl} {D : Ends} (e : Ext S S1) (h : PSt F W S r D) : PSt F W S1 r D :=
  Res.post_mono h (fun _ _ q σ' S' M' H' e' => q σ' S' M' H' (e.trans e')) fun _ _ q σ' S' M' H' e' => q σ' S' M' H' (e.trans e')
def EvS (G : GC) (W : WX) (t : TS) (f : P Fl) : Prop := ∀ (F : FC) (ρ : En) (σ : St) (S M H : Hp) (D : Ends), F.g = G → SR F ρ σ S M H → PSt F W S (f ρ) D → t D σ H
section
variable {ι : Type} {X : ι → Cx} {G : GC} {W : WX} {pos pos' : Pos} {e c : Expr} {st : Stmt} {rest body orelse : List Stmt}
def SX (X : ι → Cx) (G : GC) (W : WX) (st : Stmt) (f : P Fl) : Prop := ∃ t, (∀ i, PS (X i) st t) ∧ EvS G W t f
def SXs (X : ι → Cx) (G : GC) (W : WX) (st : List Stmt) (f : P Fl) : Prop := ∃ t, (∀ i, PSs (X i) st t) ∧ EvS G W t f
def thenS (f g : P Fl) : P Fl := seq f fun fl => match fl with
  | .nx => g
  | fl => ret fl
theorem sxs_nil : SXs X G W [] (ret .nx) := ⟨_, fun _ => pss_nil, fun F ρ σ S M H D hg s p => p σ S M H (Ext.refl S) s⟩
theorem sxs_one {f : P Fl} (h : SX X G W st f) : SXs X G W [st] f := by
  obtain ⟨t, p, ev⟩ := h
  exact ⟨t, fun i => pss_one (p i), ev⟩
theorem sxs_cons {f g : P Fl} (h : SX X G W st f) (h' : SXs X G W rest g) : SXs X G W (st :: rest) (thenS f g) := by
  obtain ⟨t, p, ev⟩ := h
  obtain ⟨u, p', ev'⟩ := h'
  refine ⟨_, fun i => pss_cons (p i) (p' i), ?_⟩
  intro F ρ σ S M H D hg s q
  refine ev F ρ σ S M H _ hg s (Res.post_mono (Res.post_bind q) (fun fl ρ1 q1 σ1 S1 M1 H1 e1 s1 => ?_) fun k ρ1 q1 => q1)
  cases fl with
  | nx => exact ev' F ρ1 σ1 S1 M1 H1 D hg s1 (PSt.ext e1 q1)
  | bk => exact q1 σ1 S1 M1 H1 e1 s1
  | ct => exact q1 σ1 S1 M1 H1 e1 s1
  | rt rv => exact q1 σ1 S1 M1 H1 e1 s1
theorem sx_pass : SX X G W (.Pass pos) (ret .nx) := ⟨_, fun _ => ps_pass, fun F ρ σ S M H D hg s p => p σ S M H (Ext.refl S) s⟩
theorem sx_break : SX X G W (.Break pos) (ret .bk) := ⟨_, fun _ => ps_break, fun F ρ σ S M H D hg s p => p σ S M H (Ext.refl S) s⟩
theorem sx_continue : SX X G W (.Continue pos) (ret .ct) := ⟨_, fun _ => ps_continue, fun F ρ σ S M H D hg s p => p σ S M H (Ext.refl S) s⟩
theorem sx_ret {f : P RV} (h : RX X G W e f) : SX X G W (.Return (some e) pos) (seq f fun rv => ret (.rt rv)) := by
  obtain ⟨t, p, ev⟩ := h
  refine ⟨_, fun i => ps_ret (p i), ?_⟩
  intro F ρ σ S M H D hg s q
  exact ev F ρ σ S M H _ hg s (Res.post_mono (Res.post_bind q) (fun rv ρ1 q1 v S1 M1 H1 e1 s1 r1 => q1 σ S1 M1 H1 e1 s1 v r1) fun k ρ1 q1 S1 M1 H1 => q1 σ S1 M1 H1)
theorem sx_retN : SX X G W (.Return none pos) (ret (.rt (.val .none))) := ⟨_, fun _ => ps_retN, fun F ρ σ S M H D hg s p => p σ S M H (Ext.refl S) s _ .non⟩
/-- a value that is dropped -/
theorem sx_expr {f : P RV} (h : RX X G W e f) (hs : ∀ i, swapsWith e none pos.line (X i).env = pure false) : SX X G W (.Expr e pos) (seq f fun _ => ret .nx) := by
  obtain ⟨t, p, ev⟩ := h
  refine ⟨_, fun i => ps_expr (p i) (hs i), ?_⟩
  intro F ρ σ S M H D hg s q
  exact ev F ρ σ S M H _ hg s (Res.post_mono (Res.post_bind q) (fun rv ρ1 q1 v S1 M1 H1 e1 s1 r1 => q1 σ S1 M1 H1 e1 s1) fun k ρ1 q1 S1 M1 H1 => q1 σ S1 M1 H1)
def put (i : Nat) (rv : RV) : P Fl := fun ρ => .ok .nx (ρ.set i rv.sl)
theorem sx_set (i : Nat) {x : Str} {f : P RV} (hN : ∀ j, (X j).N.Nodup) (hi : ∀ j, (X j).N[i]? = some x) (hx : ∀ j, Loc (X j).env.scope x) (h : RX X G W e f) (hs : ∀ j, swapsWith e (some (.Name x pos')) pos.line (X j).env = pure false)
    (hf : ∀ j, (X j).fn x = true ∨ (X j).env.scope.names.lookup x = some .local) : SX X G W (.Assign [.Name x pos'] e pos) (seq f (put i)) := by
  obtain ⟨t, p, ev⟩ := h
  refine ⟨_, fun j => ps_set (hN j) (hi j) (hx j) (p j) (hs j) (hf j), ?_⟩
  intro F ρ σ S M H D hg s q
  exact ev F ρ σ S M H _ hg s (Res.post_mono (Res.post_bind q) (fun rv ρ1 q1 v S1 M1 H1 e1 s1 r1 => q1 _ S1 M1 H1 e1 (s1.set r1 i)) fun k ρ1 q1 S1 M1 H1 => q1 σ S1 M1 H1)
theorem EvB.useS {t : TT} {f : P Bool} (h : EvB G W t f) {F : FC} {ρ : En} {σ : St} {S M H : Hp} (hg : F.g = G) (s : SR F ρ σ S M H) {g : Bool → P Fl} {D : Ends} (p : PSt F W S ((f ρ).bind g) D) {R : Bool → Hp → Prop}
    (hR : ∀ b ρ' S' M' H', Ext S S' → SR F ρ' σ S' M' H' → PSt F W S' (g b ρ') D → R b H') : t σ H R :=
  h F ρ σ S M H R hg s (Res.post_mono (Res.post_bind p) (fun b ρ' q S' M' H' e s' => hR b ρ' S' M' H' e s' (PSt.ext e q)) fun k ρ' q S' M' H' => q σ S' M' H')
theorem sx_if {fc : P Bool} {f g : P Fl} (hc : BX X G W c fc) (ha : SXs X G W body f) (hb : SXs X G W orelse g) : SX X G W (.If c body orelse pos) (ifP fc f g) := by
  obtain ⟨tc, pc, ec⟩ := hc
  obtain ⟨ta, pa, ea⟩ := ha
  obtain ⟨tb, pb, eb⟩ := hb
  refine ⟨_, fun i => ps_if (pc i) (pa i) (pb i), ?_⟩
  intro F ρ σ S M H D hg s p
  refine ec.useS hg s p fun c ρ1 S1 M1 H1 e1 s1 q => ?_
  cases c with
  | true =>
    show (if true = true then ta D σ H1 else tb D σ H1)
    rw [if_pos rfl]
    exact ea F ρ1 σ S1 M1 H1 D hg s1 q
  | false =>
    show (if false = true then ta D σ H1 else tb D σ H1)
    rw [if_neg Bool.false_ne_true]
    exact eb F ρ1 σ S1 M1 H1 D hg s1 q

/-! ### while -/
/-- what a turn's end means to a loop -/
def turn (r : Res Fl) (again : P Fl) : Res Fl := match r with
  | .ok .nx ρ => again ρ
  | .ok .ct ρ => again ρ
  | .ok .bk ρ => .ok .nx ρ
  | r => r
def whileF : Nat → P Bool → P Fl → P Fl
  | 0, _, _ => fail
  | n + 1, c, b => seq c fun t => if t = true then (fun ρ => turn (b ρ) (whileF n c b)) else ret .nx
theorem turn_post {F : FC} {W : WX} {S : Hp} {r : Res Fl} {again : P Fl} {D : Ends} {N : St → Hp → Prop} (p : PSt F W S (turn r again) D)
    (hN : ∀ ρ σ' S' M' H', Ext S S' → SR F ρ σ' S' M' H' → PSt F W S' (again ρ) D → N σ' H') : PSt F W S r { D with nx := N, ct := N, bk := D.nx } := by
  cases r with
  | no => exact p
  | err k ρ => exact p
  | ok fl ρ =>
    cases fl with
    | nx => exact fun σ' S' M' H' e s => hN ρ σ' S' M' H' e s (PSt.ext e p)
    | ct => exact fun σ' S' M' H' e s => hN ρ σ' S' M' H' e s (PSt.ext e p)
    | bk => exact p
    | rt rv => exact p
theorem sx_while (n : Nat) {fc : P Bool} {f : P Fl} (hp : ∀ i, PassesOwn (model (X i).prog (X i).w) (X i).A (X i).env (X i).xe) (hc : BX X G W c fc) (hb : SXs X G W body f) : SX X G W (.While c body [] pos) (whileF n fc f) := by
  obtain ⟨tc, pc, ec⟩ := hc
  obtain ⟨tb, pb, eb⟩ := hb
  refine ⟨_, fun i => ps_while (hp i) (pc i) (pb i), ?_⟩
  intro F ρ σ S M H D hg s p
  refine ⟨fun m σ' H' => ∃ ρ' S' M', Ext S S' ∧ SR F ρ' σ' S' M' H' ∧ PSt F W S' (whileF m fc f ρ') D, ⟨n, ρ, S, M, Ext.refl S, s, p⟩, ?_⟩
  rintro m σ1 H1 ⟨ρ1, S1, M1, e1, s1, p1⟩
  cases m with
  | zero => exact p1.elim
  | succ m =>
    refine ec.useS hg s1 p1 fun c ρ2 S2 M2 H2 e2 s2 q => ?_
    cases c with
    | true =>
      rw [if_pos rfl]
      refine ⟨fun σ' H' => ∃ ρ' S' M', Ext S S' ∧ SR F ρ' σ' S' M' H' ∧ PSt F W S' (whileF m fc f ρ') D, fun σ' H' h => ⟨m, Nat.lt_succ_self m, h⟩, ?_⟩
      exact eb F ρ2 σ1 S2 M2 H2 _ hg s2 (turn_post q fun ρ3 σ3 S3 M3 H3 e3 s3 p3 => ⟨ρ3, S3, M3, (e1.trans e2).trans e3, s3, p3⟩)
    | false =>
      rw [if_neg Bool.false_ne_true]
      exact q σ1 S2 M2 H2 (Ext.refl S2) s2

/-! ### what is walked -/
inductive Sr
  | ls (ds : List D)
  | sl (j : Nat)
/-- J yields what sr tells, whenever -/
def ItOk (G : GC) (σ : St) (S : Hp) (J : It) : Sr → Prop
  | .ls ds => ∀ (F : FC) (i : Nat) (ρ1 : En) (σ1 : St) (S1 M1 H1 : Hp), F.g = G → Ext S S1 → SR F ρ1 σ1 S1 M1 H1 →
      (ds.length ≤ i → J.stop i H1) ∧ ∀ d, ds[i]? = some d → J.go i H1 ∧ ∀ x H', J.yld i H1 x H' → ∃ S' M', Ext S1 S' ∧ SR F ρ1 σ1 S' M' H' ∧ Rp F.K S' x d
  | .sl j => ∀ (F : FC) (i : Nat) (ρ1 : En) (σ1 : St) (S1 M1 H1 : Hp), F.g = G → Ext S S1 → SR F ρ1 σ1 S1 M1 H1 → σ1[j]? = σ[j]? → ∀ ds, look ρ1 j = some (.list ds) →
      (ds.length ≤ i → J.stop i H1) ∧ ∀ d, ds[i]? = some d → J.go i H1 ∧ ∀ x H', J.yld i H1 x H' → ∃ S' M', Ext S1 S' ∧ SR F ρ1 σ1 S' M' H' ∧ Rp F.K S' x d
def EvI (G : GC) (W : WX) (wi : TI) (f : P Sr) : Prop := ∀ (F : FC) (ρ : En) (σ : St) (S M H : Hp) (R : It → Hp → Prop), F.g = G → SR F ρ σ S M H →
  (f ρ).post (fun sr ρ' => ∀ J S' M' H', Ext S S' → SR F ρ' σ S' M' H' → ItOk G σ S' J sr → R J H') (fun k ρ' => ∀ S' M' H', Ext S S' → SR F ρ' σ S' M' H' → W (F.g.cls k) none σ H') → wi σ H R
def IX (X : ι → Cx) (G : GC) (W : WX) (tg iter : Expr) (f : P Sr) : Prop := ∃ wi, (∀ i, PI (X i) tg iter wi) ∧ EvI G W wi f
/-- a target -/
abbrev Tg := D → En → Option En
def EvG (G : GC) (vs : List Nat) (t : TG) (f : Tg) : Prop := ∀ (F : FC) (ρ ρ' : En) (σ : St) (S M H : Hp) (v : V) (d : D) (Q : St → Hp → Prop), F.g = G → SR F ρ σ S M H → Rp F.K S v d →
  f d ρ = some ρ' → (∀ σ' S' M' H', Ext S S' → SR F ρ' σ' S' M' H' → σ'.length = σ.length → (∀ j : Nat, j ∉ vs → σ'[j]? = σ[j]?) → Q σ' H') → t v σ H Q
def GX (X : ι → Cx) (G : GC) (tg : Expr) (vs : List Nat) (f : Tg) : Prop := ∃ t, (∀ i, PG (X i) tg t) ∧ EvG G vs t f
def putG (i : Nat) : Tg := fun d ρ => some (ρ.set i (.sh d))
theorem gx_name (i : Nat) {x : Str} (hN : ∀ j, (X j).N.Nodup) (hi : ∀ j, (X j).N[i]? = some x) (hx : ∀ j, Loc (X j).env.scope x) (hf : ∀ j, (X j).fn x = true ∨ (X j).env.scope.names.lookup x = some .local) : GX X G (.Name x pos) [i] (putG i) :=
  ⟨_, fun j => pg_name (hN j) (hi j) (hx j) (hf j), fun F ρ ρ' σ S M H v d Q hg s r e p => by
    cases e
    exact p _ S M H (Ext.refl S) (s.set (rv := .val d) r i) (List.length_set ..) fun j hj => List.getElem?_set_ne fun z => hj (by simp [z])⟩
def forL (tg : Tg) (b : P Fl) : List D → P Fl
  | [] => ret .nx
  | d :: ds => fun ρ => match tg d ρ with
    | some ρ' => turn (b ρ') (forL tg b ds)
    | none => .no
def forF (src : P Sr) (tg : Tg) (b : P Fl) : P Fl := seq src fun sr => match sr with
  | .ls ds => forL tg b ds
  | .sl _ => fail
theorem sx_for {tg iter : Expr} {vs : List Nat} {fs : P Sr} {fg : Tg} {f : P Fl} (hp : ∀ i, PassesOwn (model (X i).prog (X i).w) (X i).A (X i).env (X i).xe) (hc : ∀ i, (X i).calm = true) (hi : IX X G W tg iter fs) (hgx : GX X G tg vs fg) (hb : SXs X G W body f)
    (hs : ∀ i x, foldedSetIterable iter (X i).env x = pure x) : SX X G W (.For tg iter body [] pos) (forF fs fg f) := by
  obtain ⟨wi, pi, ei⟩ := hi
  obtain ⟨tg', pg, eg⟩ := hgx
  obtain ⟨tb, pb, eb⟩ := hb
  refine ⟨_, fun i => ps_for (hp i) (hc i) (pi i) (pg i) (pb i) (hs i), ?_⟩
  intro F ρ σ S M H D hg s p
  refine ei F ρ σ S M H _ hg s (Res.post_mono (Res.post_bind p) (fun sr ρ1 q J S1 M1 H1 e1 s1 hJ => ?_) fun k ρ1 q S1 M1 H1 => q σ S1 M1 H1)
  cases sr with
  | sl j => exact q.elim
  | ls ds =>
    refine ⟨fun i m σ' H' => i + m = ds.length ∧ ∃ ρ' S' M', Ext S1 S' ∧ SR F ρ' σ' S' M' H' ∧ PSt F W S' (forL fg f (ds.drop i) ρ') D, ⟨ds.length, Nat.zero_add _, ρ1, S1, M1, Ext.refl S1, s1, PSt.ext e1 q⟩, ?_⟩
    rintro i m σ2 H2 ⟨him, ρ2, S2, M2, e2, s2, p2⟩
    obtain ⟨h1, h2⟩ := hJ F i ρ2 σ2 S2 M2 H2 hg e2 s2
    by_cases hl : i < ds.length
    · obtain ⟨hgo, hy⟩ := h2 ds[i] (List.getElem?_eq_getElem hl)
      have ed : ds.drop i = ds[i] :: ds.drop (i + 1) := List.drop_eq_getElem_cons hl
      rw [ed] at p2
      refine .inr ⟨hgo, fun σ' H' => ∃ ρ' S' M', Ext S1 S' ∧ SR F ρ' σ' S' M' H' ∧ PSt F W S' (forL fg f (ds.drop (i + 1)) ρ') D, fun σ' H' h => ⟨m - 1, by omega, by omega, h⟩, fun x H3 hx => ?_⟩
      obtain ⟨S3, M3, e3, s3, r3⟩ := hy x H3 hx
      have p3 : PSt F W S3 (match fg ds[i] ρ2 with | some ρ' => turn (f ρ') (forL fg f (ds.drop (i + 1))) | none => .no) D := PSt.ext e3 p2
      cases hfg : fg ds[i] ρ2 with
      | none => rw [hfg] at p3; exact p3.elim
      | some ρ4 =>
        rw [hfg] at p3
        refine eg F ρ2 ρ4 σ2 S3 M3 H3 x ds[i] _ hg s3 r3 hfg ?_
        intro σ4 S4 M4 H4 e4 s4 _ _
        exact eb F ρ4 σ4 S4 M4 H4 _ hg s4 (turn_post (PSt.ext e4 p3) fun ρ5 σ5 S5 M5 H5 e5 s5 p5 => ⟨ρ5, S5, M5, ((e2.trans e3).trans e4).trans e5, s5, p5⟩)
    · have hd : ds.drop i = [] := List.drop_of_length_le (by omega)
      rw [hd] at p2
      exact .inl ⟨h1 (by omega), p2 σ2 S2 M2 H2 (Ext.refl S2) s2⟩
end
end L3

set_option Elab.async false
set_option linter.all false
set_option maxRecDepth 100000
namespace L3
open PySem PySem.Spec PyProof.Rows L2

section
variable {ι : Type} {X : ι → Cx} {G : GC} {W : WX} {pos pos' : Pos} {e c tg : Expr}
/-- what is walked, out of an operand -/
def seqD : D → Option (List D)
  | .list ds => some ds
  | .tuple ds => some ds
  | _ => none
theorem itOk_l {σ : St} {S : Hp} {a : Addr} {vs : List V} {ds : List D} (h : SqL G.K S a vs) (r : RpAll G.K S vs ds) : ItOk G σ S (Itl G.K a) (.ls ds) := by
  intro F i ρ1 σ1 S1 M1 H1 hg e s
  have h1 : SqL G.K H1 a vs := (e.trans s.sub).sqL h
  refine ⟨fun hl => ⟨vs, h1, by rw [r.length]; exact hl⟩, fun d hd => ?_⟩
  obtain ⟨v, hv, rv⟩ := r.get hd
  refine ⟨⟨vs, v, h1, hv⟩, fun x H' hy => ?_⟩
  obtain ⟨rfl, hx⟩ := hy
  have ex := hx vs h1
  rw [hv] at ex
  cases ex
  have hK : F.K = G.K := congrArg GC.K hg
  exact ⟨S1, M1, Ext.refl S1, s, by rw [hK]; exact rv.mono e⟩
theorem itOk_t {σ : St} {S : Hp} {a : Addr} {vs : List V} {ds : List D} (h : SqT G.K S a vs) (r : RpAll G.K S vs ds) : ItOk G σ S (Itt G.K a) (.ls ds) := by
  intro F i ρ1 σ1 S1 M1 H1 hg e s
  have h1 : SqT G.K H1 a vs := (e.trans s.sub).sqT h
  refine ⟨fun hl => ⟨vs, h1, by rw [r.length]; exact hl⟩, fun d hd => ?_⟩
  obtain ⟨v, hv, rv⟩ := r.get hd
  refine ⟨⟨vs, v, h1, hv⟩, fun x H' hy => ?_⟩
  obtain ⟨rfl, hx⟩ := hy
  have ex := hx vs h1
  rw [hv] at ex
  cases ex
  have hK : F.K = G.K := congrArg GC.K hg
  exact ⟨S1, M1, Ext.refl S1, s, by rw [hK]; exact rv.mono e⟩
def rngL (lo : Int) (n : Nat) : List D := (List.range n).map fun i => .int (lo + (i : Nat))
theorem itOk_r {σ : St} {S : Hp} {lo : Int} {n : Nat} : ItOk G σ S (Itr lo n) (.ls (rngL lo n)) := by
  intro F i ρ1 σ1 S1 M1 H1 hg e s
  refine ⟨fun hl => by
      show n ≤ i
      simpa [rngL] using hl, fun d hd => ?_⟩
  have hi : i < n := by
    have := (List.getElem?_eq_some_iff.mp hd).1
    simpa [rngL] using this
  have ed : d = .int (lo + (i : Nat)) := by
    simp [rngL, hi] at hd
    exact hd.symm
  subst ed
  refine ⟨hi, fun x H' hy => ?_⟩
  obtain ⟨rfl, rfl⟩ := hy
  exact ⟨S1, M1, Ext.refl S1, s, .int _⟩
/-- a list or a tuple, walked -/
def iSeq (K : PySem.W.Frag) (tl : TE) : TI := fun σ H R => tl σ H fun x H1 => ∃ a, x = .ref a ∧ (((∃ xs, SqL K H1 a xs) ∧ R (Itl K a) H1) ∨ ((∃ xs, SqT K H1 a xs) ∧ R (Itt K a) H1))
theorem pi_seq {X : Cx} {l : Expr} {tl : TE} (hl : PE X l tl) : PI X tg l (iSeq X.K tl) := by
  refine ⟨fun pins s σ H R I h => ?_⟩
  refine thn (hl.run pins s σ H _ I h) fun v s1 ⟨x, H1, I1, r1, q1⟩ => ?_
  obtain ⟨a, e, q | q⟩ := q1
  · obtain ⟨⟨xs, hq⟩, q⟩ := q
    subst e
    cases r1
    obtain ⟨its, rv, p, hz⟩ := I1.list hq
    refine wpAny_pyIter_list p.isList ?_
    refine ⟨s1.heap.objs.size, [s1.heap.objs.size], _, _, H1, rfl, I1.kept (t' := s1.toks) fun b o e => Heap.get?_push_of_some _ e, turn_list a _, ⟨_, Heap.get?_push_size _ rfl, rfl, rfl⟩, fun b hb => ?_, q⟩
    have e : b = s1.heap.objs.size := by simpa using hb
    subst e
    exact I1.fpOk (Nat.le_refl _) (I1.hok.fresh (Nat.le_refl _))
  · obtain ⟨⟨xs, hq⟩, q⟩ := q
    subst e
    cases r1
    obtain ⟨its, rv, p, hz⟩ := I1.tuple hq
    refine wpAny_pyIter_tuple (show s1.heap.IsTuple a its.toArray from p) ?_
    refine ⟨s1.heap.objs.size, [s1.heap.objs.size], _, _, H1, rfl, I1.kept (t' := s1.toks) fun b o e => Heap.get?_push_of_some _ e, turn_tuple a _, ⟨_, Heap.get?_push_size _ rfl, rfl, rfl⟩, fun b hb => ?_, q⟩
    have e : b = s1.heap.objs.size := by simpa using hb
    subst e
    exact I1.fpOk (Nat.le_refl _) (I1.hok.fresh (Nat.le_refl _))
def walk (f : P RV) : P Sr := seq f fun rv => seq (opt (seqD rv.toD)) fun ds => ret (.ls ds)
theorem opt_post {α β : Type} {o : Option α} {ρ : En} {g : α → P β} {A : β → En → Prop} {B : Nat → En → Prop} (p : ((opt o ρ).bind g).post A B) : ∃ a, o = some a ∧ (g a ρ).post A B := by
  cases o with
  | none => exact p.elim
  | some a => exact ⟨a, rfl, p⟩
theorem ix_walk {f : P RV} (hK : ∀ i, (X i).K = G.K) (h : RX X G W e f) : IX X G W tg e (walk f) := by
  obtain ⟨t, pe, ev⟩ := h
  refine ⟨iSeq G.K t, fun i => by rw [← hK i]; exact pi_seq (pe i), ?_⟩
  intro F ρ σ S M H R hg s p
  refine ev.use hg s p (fun k ρ' q => q) fun rv v ρ1 S1 M1 H1 e1 s1 r1 q => ?_
  obtain ⟨ds, hd, q⟩ := opt_post q
  have hK' : F.K = G.K := congrArg GC.K hg
  cases hD : rv.toD with
  | none => rw [hD] at hd; cases hd
  | bool b => rw [hD] at hd; cases hd
  | int b => rw [hD] at hd; cases hd
  | str b => rw [hD] at hd; cases hd
  | dict b => rw [hD] at hd; cases hd
  | list ds' =>
    rw [hD] at hd r1
    cases hd
    cases r1 with
    | lst h1 r1 =>
      rw [hK'] at r1
      exact ⟨_, rfl, .inl ⟨⟨_, SqL.of (s1.sub _ _ h1)⟩, q _ S1 M1 H1 e1 s1 (itOk_l (SqL.of h1) r1)⟩⟩
  | tuple ds' =>
    rw [hD] at hd r1
    cases hd
    cases r1 with
    | tup h1 r1 =>
      rw [hK'] at r1 h1
      exact ⟨_, rfl, .inr ⟨⟨_, s1.sub.sqT h1⟩, q _ S1 M1 H1 e1 s1 (itOk_t h1 r1)⟩⟩
/-- a name's list, as it stands at each turn -/
def walkS (i : Nat) : P Sr := fun ρ => match ρ[i]? with
  | some (.sh d) => match seqD d with
    | some ds => .ok (.ls ds) ρ
    | none => .no
  | some (.ow (.lst _)) => .ok (.sl i) ρ
  | some (.bo _ (.lst _)) => .ok (.sl i) ρ
  | _ => .no
theorem itOk_s {σ : St} {S : Hp} {a : Addr} {i : Nat} (h : σ[i]? = some (some (.ref a))) : ItOk G σ S (Itl G.K a) (.sl i) := by
  intro F n ρ1 σ1 S1 M1 H1 hg e s hσ ds hl
  obtain ⟨sl, h1, h2⟩ := look_cont hl
  obtain ⟨v, hv, rb⟩ := s.read h1 h2
  rw [hσ, h] at hv
  cases hv
  obtain ⟨p, vs, e1, h3, r⟩ := rb.lst s
  cases e1
  refine ⟨fun hl => ⟨vs, SqL.of h3, by rw [r.length]; exact hl⟩, fun d hd => ?_⟩
  obtain ⟨v, hv, rv⟩ := r.get hd
  refine ⟨⟨vs, v, SqL.of h3, hv⟩, fun x H' hy => ?_⟩
  obtain ⟨rfl, hx⟩ := hy
  have ex := hx vs (SqL.of h3)
  rw [hv] at ex
  cases ex
  exact ⟨S1, M1, Ext.refl S1, s, rv⟩
theorem ix_name (i : Nat) {x : Str} (hK : ∀ i, (X i).K = G.K) (hN : ∀ j, (X j).N[i]? = some x) (hv : ∀ j, Vis (X j).env.scope x) (hd : (x == ("__debug__" : Str)) = false := by decide) (hcd : (x == ("__classdict__" : Str)) = false := by decide) : IX X G W tg (.Name x pos) (walkS i) := by
  refine ⟨iSeq G.K (tVar i), fun j => by rw [← hK j]; exact pi_seq (pe_name hN hv hd hcd j), ?_⟩
  intro F ρ σ S M H R hg s p
  have hK' : F.K = G.K := congrArg GC.K hg
  unfold walkS at p
  cases h : ρ[i]? with
  | none => rw [h] at p; exact p.elim
  | some sl =>
    rw [h] at p
    obtain ⟨w, hw⟩ := s.at h
    cases sl with
    | un => exact p.elim
    | sh d =>
      obtain ⟨x, rfl, r⟩ := s.slot i _ w h hw
      refine ⟨x, hw, ?_⟩
      cases d with
      | none => exact p.elim
      | bool b => exact p.elim
      | int b => exact p.elim
      | str b => exact p.elim
      | dict b => exact p.elim
      | list ds =>
        cases r with
        | lst h1 r1 =>
          rw [hK'] at r1
          exact ⟨_, rfl, .inl ⟨⟨_, SqL.of (s.sub _ _ h1)⟩, p _ S M H (Ext.refl S) s (itOk_l (SqL.of h1) r1)⟩⟩
      | tuple ds =>
        cases r with
        | tup h1 r1 =>
          rw [hK'] at r1 h1
          exact ⟨_, rfl, .inr ⟨⟨_, s.sub.sqT h1⟩, p _ S M H (Ext.refl S) s (itOk_t h1 r1)⟩⟩
    | ow o =>
      cases o with
      | dic kvs => exact p.elim
      | lst ds =>
        obtain ⟨p1, u, rfl, h2, r, _⟩ := s.slot i _ w h hw
        cases r with
        | lst r => exact ⟨_, hw, _, rfl, .inl ⟨⟨_, SqL.of (s.own _ _ h2)⟩, p _ S M H (Ext.refl S) s (itOk_s hw)⟩⟩
    | bo j o =>
      cases o with
      | dic kvs => exact p.elim
      | lst ds =>
        obtain ⟨p1, u, rfl, _, h2, r⟩ := s.slot i _ w h hw
        cases r with
        | lst r => exact ⟨_, hw, _, rfl, .inl ⟨⟨_, SqL.of (s.own _ _ h2)⟩, p _ S M H (Ext.refl S) s (itOk_s hw)⟩⟩
/-- range -/
def rng1 : D → Option (List D)
  | .int j => if decide (-(4611686018427387904) ≤ j) && decide (j < 4611686018427387904) then some (rngL 0 j.toNat) else none
  | _ => none
def rng2 : D → D → Option (List D)
  | .int i, .int j => if decide (-(4611686018427387904) ≤ i) && decide (i < 4611686018427387904) && decide (-(4611686018427387904) ≤ j) && decide (j < 4611686018427387904) then some (rngL i (j - i).toNat) else none
  | _, _ => none
def walkR1 : List D → P Sr
  | [x] => seq (opt (rng1 x)) fun ds => ret (.ls ds)
  | _ => fail
def walkR2 : List D → P Sr
  | [x, y] => seq (opt (rng2 x y)) fun ds => ret (.ls ds)
  | _ => fail
theorem rng1_some {d : D} {ds : List D} (h : rng1 d = some ds) : ∃ j : Int, d = .int j ∧ -(2 ^ 62) ≤ j ∧ j < 2 ^ 62 ∧ ds = rngL 0 j.toNat := by
  unfold rng1 at h
  split at h
  · split at h
    · rename_i j hj
      simp only [Bool.and_eq_true, decide_eq_true_eq] at hj
      cases h
      exact ⟨_, rfl, hj.1, hj.2, rfl⟩
    · cases h
  · cases h
theorem rng2_some {d d2 : D} {ds : List D} (h : rng2 d d2 = some ds) : ∃ i j : Int, d = .int i ∧ d2 = .int j ∧ (-(2 ^ 62) ≤ i ∧ i < 2 ^ 62 ∧ -(2 ^ 62) ≤ j ∧ j < 2 ^ 62) ∧ ds = rngL i (j - i).toNat := by
  unfold rng2 at h
  split at h
  · split at h
    · rename_i i j hj
      simp only [Bool.and_eq_true, decide_eq_true_eq] at hj
      cases h
      exact ⟨_, _, rfl, rfl, ⟨hj.1.1.1, hj.1.1.2, hj.1.2, hj.2⟩, rfl⟩
    · cases h
  · cases h
theorem ix_range1 {p : Pos} {q : Opd} (hg : ∀ i, Gl (X i) "range") (hm : ∀ i, (X i).mg "range" = none) (ha : AX X G W [e] [q]) (hs : ∀ i, starEach [e] (X i).env = [(false, eval e (X i).env)]) : IX X G W tg (.Call (.Name "range" p) [e] [] pos) (args [q] walkR1) := by
  obtain ⟨ts, pa, ev⟩ := ha
  refine ⟨_, fun i => pi_range1 (hg i) (hm i) (pa i) (hs i), ?_⟩
  intro F ρ σ S M H R hgg s p
  refine ev_args ev F ρ σ S M H _ hgg s p (fun k ρ' q => q) fun vs ds ρ' S' M' H' e' s' hl rb q => ?_
  obtain ⟨v, d, rfl, rfl, r⟩ := rpBs1 hl rb
  obtain ⟨ds, hd, q⟩ := opt_post q
  obtain ⟨j, rfl, h1, h2, rfl⟩ := rng1_some hd
  rw [r.int]
  exact ⟨j, rfl, h1, h2, q _ S' M' H' e' s' itOk_r⟩
theorem ix_range2 {p : Pos} {e2 : Expr} {q q2 : Opd} (hg : ∀ i, Gl (X i) "range") (hm : ∀ i, (X i).mg "range" = none) (ha : AX X G W [e, e2] [q, q2]) (hs : ∀ i, starEach [e, e2] (X i).env = [(false, eval e (X i).env), (false, eval e2 (X i).env)]) (hs2 : ∀ i, starEach [e2] (X i).env = [(false, eval e2 (X i).env)]) :
    IX X G W tg (.Call (.Name "range" p) [e, e2] [] pos) (args [q, q2] walkR2) := by
  obtain ⟨ts, pa, ev⟩ := ha
  refine ⟨_, fun i => pi_range2 (hg i) (hm i) (pa i) (hs i) (hs2 i), ?_⟩
  intro F ρ σ S M H R hgg s p
  refine ev_args ev F ρ σ S M H _ hgg s p (fun k ρ' q => q) fun vs ds ρ' S' M' H' e' s' hl rb q => ?_
  obtain ⟨v, w, d, d2, rfl, rfl, r, r2⟩ := rpBs2 hl rb
  obtain ⟨ds, hd, q⟩ := opt_post q
  obtain ⟨i, j, rfl, rfl, h1, rfl⟩ := rng2_some hd
  rw [r.int, r2.int]
  exact ⟨i, j, rfl, h1, q _ S' M' H' e' s' itOk_r⟩
end
end L3

set_option Elab.async false
set_option linter.all false
set_option maxRecDepth 100000
namespace L3
open PySem PySem.Spec PyProof.Rows L2

def wipeE (ρ : En) : List Nat → En
  | [] => ρ
  | v :: vs => (wipeE ρ vs).set v .un
def keepSh : Option Sl → Sl
  | some (.sh d) => .sh d
  | _ => .un
def backE (ρ₀ ρ : En) : List Nat → En
  | [] => ρ
  | v :: vs => (backE ρ₀ ρ vs).set v (keepSh ρ₀[v]?)
theorem wipeE_len (ρ : En) : ∀ vs : List Nat, (wipeE ρ vs).length = ρ.length
  | [] => rfl
  | v :: vs => by unfold wipeE; rw [List.length_set, wipeE_len ρ vs]
theorem backE_len (ρ₀ ρ : En) : ∀ vs : List Nat, (backE ρ₀ ρ vs).length = ρ.length
  | [] => rfl
  | v :: vs => by unfold backE; rw [List.length_set, backE_len ρ₀ ρ vs]
theorem wipeE_get {ρ : En} {i : Nat} {sl : Sl} : ∀ {vs : List Nat}, (wipeE ρ vs)[i]? = some sl → sl = .un ∨ (ρ[i]? = some sl ∧ i ∉ vs)
  | [], h => .inr ⟨h, by simp⟩
  | v :: vs, h => by
    unfold wipeE at h
    rcases set_look h with ⟨_, e, _⟩ | ⟨hne, h⟩
    · exact .inl e
    · rcases wipeE_get h with e | ⟨e, hn⟩
      · exact .inl e
      · exact .inr ⟨e, by simp only [List.mem_cons, not_or]; exact ⟨fun z => hne z.symm, hn⟩⟩
theorem backE_get {ρ₀ ρ : En} {i : Nat} {sl : Sl} : ∀ {vs : List Nat}, (backE ρ₀ ρ vs)[i]? = some sl → (i ∈ vs ∧ sl = keepSh ρ₀[i]?) ∨ (i ∉ vs ∧ ρ[i]? = some sl)
  | [], h => .inr ⟨by simp, h⟩
  | v :: vs, h => by
    unfold backE at h
    rcases set_look h with ⟨e1, e, _⟩ | ⟨hne, h⟩
    · subst e1; exact .inl ⟨by simp, e⟩
    · rcases backE_get h with ⟨e, hn⟩ | ⟨hn, e⟩
      · exact .inl ⟨List.mem_cons_of_mem _ e, hn⟩
      · exact .inr ⟨by simp only [List.mem_cons, not_or]; exact ⟨fun z => hne z.symm, hn⟩, e⟩
theorem wipe_out (σ : St) {i : Nat} : ∀ {vs : List Nat}, i ∉ vs → (wipe σ vs)[i]? = σ[i]?
  | [], _ => rfl
  | v :: vs, h => by
    simp only [List.mem_cons, not_or] at h
    unfold wipe
    rw [List.getElem?_set_ne (Ne.symm h.1)]
    exact wipe_out σ h.2
theorem wipe_in (σ : St) {i : Nat} : ∀ {vs : List Nat}, i ∈ vs → (wipe σ vs)[i]? = (σ[i]?).map fun _ => none
  | [], h => by cases h
  | v :: vs, h => by
    unfold wipe
    by_cases hv : v = i
    · subst hv
      by_cases hl : v < σ.length
      · rw [List.getElem?_set_self (by rw [wipe_length]; exact hl), List.getElem?_eq_getElem hl]
        rfl
      · rw [List.getElem?_eq_none (by rw [List.length_set, wipe_length]; omega), List.getElem?_eq_none (by omega)]
        rfl
    · rw [List.getElem?_set_ne hv]
      rcases List.mem_cons.mp h with e | h
      · exact absurd e.symm hv
      · exact wipe_in σ h
theorem wipe_eq {σ σ' : St} {vs : List Nat} (hl : σ'.length = σ.length) (h : ∀ j : Nat, j ∉ vs → σ'[j]? = (wipe σ vs)[j]?) : wipe σ' vs = wipe σ vs := by
  apply List.ext_getElem?
  intro i
  by_cases hi : i ∈ vs
  · rw [wipe_in _ hi, wipe_in _ hi]
    by_cases h2 : i < σ.length
    · rw [List.getElem?_eq_getElem h2, List.getElem?_eq_getElem (by omega)]
      rfl
    · rw [List.getElem?_eq_none (by omega), List.getElem?_eq_none (by omega)]
  · rw [wipe_out _ hi, h i hi]
section
variable {F : FC} {ρ ρ₀ : En} {σ : St} {S M H : Hp}
theorem SR.wiped (s : SR F ρ σ S M H) (vs : List Nat) : SR F (wipeE ρ vs) (wipe σ vs) S M H := by
  refine ⟨by rw [wipeE_len, wipe_length]; exact s.len, s.sub, s.own, s.dis, s.keep, s.bth, s.tab, s.kind, fun i sl v h e => ?_, fun i j a b hij ha hb oa ob => ?_⟩
  · rcases wipeE_get h with rfl | ⟨h, hn⟩
    · trivial
    · rw [wipe_out σ hn] at e
      exact s.slot i sl v h e
  · rcases wipeE_get ha with rfl | ⟨ha, hn⟩
    · cases oa
    · rcases wipeE_get hb with rfl | ⟨hb, hn'⟩
      · cases ob
      · rw [wipe_out σ hn, wipe_out σ hn']
        exact s.sep i j a b hij ha hb oa ob
theorem SR.back {vs : List Nat} {S₀ M₀ H₀ : Hp} (s₀ : SR F ρ₀ σ S₀ M₀ H₀) (e : Ext S₀ S) (s : SR F ρ (wipe σ vs) S M H) : SR F (backE ρ₀ ρ vs) σ S M H := by
  refine ⟨by rw [backE_len, s.len, wipe_length], s.sub, s.own, s.dis, s.keep, s.bth, s.tab, s.kind, fun i sl v h ev => ?_, fun i j a b hij ha hb oa ob => ?_⟩
  · rcases backE_get h with ⟨hi, h⟩ | ⟨hi, h⟩
    · subst h
      cases h0 : ρ₀[i]? with
      | none => trivial
      | some sl =>
        cases sl with
        | sh d =>
          obtain ⟨x, h1, h2⟩ := s₀.slot i _ v h0 ev
          exact ⟨x, h1, h2.mono e⟩
        | un => trivial
        | ow o => trivial
        | bo j o => trivial
    · rw [← wipe_out σ hi] at ev
      exact s.slot i sl v h ev
  · have nk : ∀ o : Option Sl, (keepSh o).isO = false := fun o => by
      cases o with
      | none => rfl
      | some sl => cases sl <;> rfl
    rcases backE_get ha with ⟨_, h⟩ | ⟨hi, ha⟩
    · subst h; rw [nk] at oa; cases oa
    · rcases backE_get hb with ⟨_, h⟩ | ⟨hj, hb⟩
      · subst h; rw [nk] at ob; cases ob
      · rw [← wipe_out σ hi, ← wipe_out σ hj]
        exact s.sep i j a b hij ha hb oa ob
/-- an object of no slot is written -/
theorem SR.writeFree (s : SR F ρ σ S M H) {p : Addr} {u u' : HO} (hM : M p = some u) (h0 : F.M0 p = none) (hB : p ∉ F.B) (hk : IsOb u') (hs : ∀ (i : Nat) sl, ρ[i]? = some sl → sl.isO = true → σ[i]? ≠ some (some (.ref p))) :
    SR F ρ σ S (upd M p u') (upd H p u') := by
  have hS : S p = none := by
    rcases s.dis p with z | z
    · exact z
    · rw [hM] at z; cases z
  refine ⟨s.len, fun a x e => ?_, fun a x e => ?_, fun a => ?_, fun a x ha e => ?_, fun a ha => by rw [upd_ne fun z => hB (by rw [← z]; exact ha)]; exact s.bth a ha, fun a ha => ?_, ⟨fun a x e => ?_, s.kind.2⟩, fun i sl v h e => ?_, s.sep⟩
  · have : a ≠ p := fun z => by subst z; rw [hS] at e; cases e
    rw [upd_ne this]; exact s.sub a x e
  · by_cases ha : a = p
    · subst ha; rw [upd_same] at e ⊢; exact e
    · rw [upd_ne ha] at e ⊢; exact s.own a x e
  · by_cases ha : a = p
    · subst ha; exact .inl hS
    · rw [upd_ne ha]; exact s.dis a
  · have : a ≠ p := fun z => by subst z; rw [h0] at e; cases e
    rw [upd_ne this]; exact s.keep a x ha e
  · obtain ⟨⟨ps, t0, tt⟩, t2, t3⟩ := s.tab a ha
    have : a ≠ p := fun z => by subst z; rw [hM] at t3; cases t3
    exact ⟨⟨ps, by rw [upd_ne this]; exact t0, tt⟩, t2, by rw [upd_ne this]; exact t3⟩
  · by_cases ha : a = p
    · subst ha; rw [upd_same] at e; cases e; exact hk
    · rw [upd_ne ha] at e; exact s.kind.1 a x e
  · have q := s.slot i sl v h e
    have ne : sl.isO = true → v ≠ some (.ref p) := fun o z => hs i sl h o (by rw [e, z])
    cases sl with
    | un => trivial
    | sh d => exact q
    | ow x =>
      obtain ⟨p', u', f1, f2, f3⟩ := q
      have : p' ≠ p := fun z => ne rfl (by rw [f1, z])
      exact ⟨p', u', f1, by rw [upd_ne this]; exact f2, f3⟩
    | bo j' x =>
      obtain ⟨p', u', f1, f2, f3, f4⟩ := q
      have : p' ≠ p := fun z => ne rfl (by rw [f1, z])
      exact ⟨p', u', f1, f2, by rw [upd_ne this]; exact f3, f4⟩
end

/-! ### comprehensions -/
def noErr {α : Type} (f : P α) : P α := fun ρ => match f ρ with
  | .err _ _ => .no
  | r => r
theorem noErr_post {α : Type} {f : P α} {ρ : En} {A : α → En → Prop} {B B' : Nat → En → Prop} (p : (noErr f ρ).post A B) : (f ρ).post A B' := by
  unfold noErr at p
  cases h : f ρ with
  | ok a ρ' => rw [h] at p; exact p
  | err k ρ' => rw [h] at p; exact p.elim
  | no => rw [h] at p; exact p
/-- the item at turn i -/
def nxt (sr : Sr) (ρ : En) (i : Nat) : Option (Option D) := match sr with
  | .ls ds => some ds[i]?
  | .sl j => match look ρ j with
    | some (.list ds) => some ds[i]?
    | _ => none
/-- one turn, then what follows -/
def compT (vs : List Nat) (tg : Tg) (tt : P Bool) (te : P RV) (k : List D → P (List D)) (d : D) (acc : List D) : P (List D) := fun ρ => match tg d ρ with
  | none => .no
  | some ρ1 => (noErr tt ρ1).bind fun b => if b = true then seq (noErr te) (fun rv ρ2 => if acc.length < line then k (acc ++ [rv.toD]) (wipeE ρ2 vs) else .no) else fun ρ2 => k acc (wipeE ρ2 vs)
def compG (vs : List Nat) (tg : Tg) (tt : P Bool) (te : P RV) (sr : Sr) : Nat → Nat → List D → P (List D)
  | 0, _, _ => fail
  | n + 1, i, acc => fun ρ => match nxt sr ρ i with
    | none => .no
    | some none => .ok acc ρ
    | some (some d) => compT vs tg tt te (compG vs tg tt te sr n (i + 1)) d acc ρ
def compL (vs : List Nat) (tg : Tg) (tt : P Bool) (te : P RV) : List D → List D → P (List D)
  | [], acc => ret acc
  | d :: ds, acc => compT vs tg tt te (compL vs tg tt te ds) d acc
def compX (vs : List Nat) (tg : Tg) (tt : P Bool) (te : P RV) : Sr → P (List D)
  | .ls ds => compL vs tg tt te ds []
  | .sl j => compG vs tg tt te (.sl j) 100000 0 []
theorem compG_ls {vs : List Nat} {tg : Tg} {tt : P Bool} {te : P RV} {ds : List D} : ∀ (n i : Nat), i + n = ds.length + 1 → ∀ (acc : List D) (ρ : En), compG vs tg tt te (.ls ds) n i acc ρ = if i ≤ ds.length then compL vs tg tt te (ds.drop i) acc ρ else .no := by
  intro n
  induction n with
  | zero =>
    intro i hi acc ρ
    rw [if_neg (by omega)]
    rfl
  | succ n ih =>
    intro i hi acc ρ
    rw [if_pos (by omega)]
    show (match nxt (.ls ds) ρ i with | none => Res.no | some none => .ok acc ρ | some (some d) => compT vs tg tt te (compG vs tg tt te (.ls ds) n (i + 1)) d acc ρ) = _
    by_cases hl : i < ds.length
    · have e1 : nxt (.ls ds) ρ i = some (some ds[i]) := congrArg some (List.getElem?_eq_getElem hl)
      rw [e1, List.drop_eq_getElem_cons hl]
      show compT vs tg tt te (compG vs tg tt te (.ls ds) n (i + 1)) ds[i] acc ρ = compT vs tg tt te (compL vs tg tt te (ds.drop (i + 1))) ds[i] acc ρ
      have ek : compG vs tg tt te (.ls ds) n (i + 1) = compL vs tg tt te (ds.drop (i + 1)) := by
        funext acc ρ
        rw [ih (i + 1) (by omega) acc ρ, if_pos (by omega)]
      rw [ek]
    · have e1 : nxt (.ls ds) ρ i = some none := congrArg some (List.getElem?_eq_none (by omega))
      rw [e1, List.drop_of_length_le (by omega)]
      rfl
def lcF (vs : List Nat) (src : P Sr) (tg : Tg) (tt : P Bool) (te : P RV) : P RV := seq src fun sr ρ1 => (compX vs tg tt te sr (wipeE ρ1 vs)).bind fun ds ρ2 => .ok (.own (.lst ds)) (backE ρ1 ρ2 vs)
abbrev W0 : WX := fun _ _ _ _ => False
/-- a block's contexts -/
abbrev BIx (ι : Type) : Type := ι × Shared × Hp × Addr × List (Str × Addr) × List Addr
def blkX {ι : Type} (X : ι → Cx) (scope : Scope) : BIx ι → Cx := fun x => (X x.1).blk x.2.1 x.2.2.1 scope (compEnvC scope x.2.2.2.2.1 x.2.2.2.1 (X x.1).env) x.2.2.2.2.2
section
variable {ι : Type} {X : ι → Cx} {G : GC} {W : WX} {pos pos' : Pos} {elt iter tg : Expr} {ifs : List Expr} {scope : Scope} {own : List (Str × Nat)} {vs : List Nat} {src : P Sr} {fg : Tg} {tt : P Bool} {te : P RV}
def TX (X : ι → Cx) (G : GC) (W : WX) (ifs : List Expr) (f : P Bool) : Prop := ∃ t, (∀ i, PTs (X i) ifs t) ∧ EvB G W t f
theorem tx_nil : TX X G W [] (ret true) := ⟨_, fun _ => pts_nil, fun F ρ σ S M H Q hg s p => p S M H (Ext.refl S) s⟩
theorem tx_one {c : Expr} {f : P Bool} (h : BX X G W c f) : TX X G W [c] f := by
  obtain ⟨t, p, ev⟩ := h
  exact ⟨t, fun i => pts_one (p i), ev⟩
theorem ItOk.nxt {σ : St} {S : Hp} {J : It} {sr : Sr} (hJ : ItOk G σ S J sr) {F : FC} {i : Nat} {ρ1 : En} {σ1 : St} {S1 M1 H1 : Hp} {o : Option D} (hg : F.g = G) (e : Ext S S1) (s : SR F ρ1 σ1 S1 M1 H1) (hσ : ∀ (j : Nat) d, look ρ1 j = some d → σ1[j]? = σ[j]?) (hn : L3.nxt sr ρ1 i = some o) :
    (o = none → J.stop i H1) ∧ ∀ d, o = some d → J.go i H1 ∧ ∀ x H', J.yld i H1 x H' → ∃ S' M', Ext S1 S' ∧ SR F ρ1 σ1 S' M' H' ∧ Rp F.K S' x d := by
  cases sr with
  | ls ds =>
    obtain ⟨h1, h2⟩ := hJ F i ρ1 σ1 S1 M1 H1 hg e s
    have hn : ds[i]? = o := Option.some.inj hn
    exact ⟨fun z => h1 (List.getElem?_eq_none_iff.mp (hn.trans z)), fun d z => h2 d (hn.trans z)⟩
  | sl j =>
    cases hl : look ρ1 j with
    | none =>
      have hn : (match look ρ1 j with | some (.list ds) => some ds[i]? | _ => none) = some o := hn
      rw [hl] at hn; cases hn
    | some d =>
      have hn : (match look ρ1 j with | some (.list ds) => some ds[i]? | _ => none) = some o := hn
      rw [hl] at hn
      cases d with
      | list ds =>
        obtain ⟨h1, h2⟩ := hJ F i ρ1 σ1 S1 M1 H1 hg e s (hσ j _ hl) ds hl
        have hn : ds[i]? = o := Option.some.inj hn
        exact ⟨fun z => h1 (List.getElem?_eq_none_iff.mp (hn.trans z)), fun d z => h2 d (hn.trans z)⟩
      | none => cases hn
      | bool b => cases hn
      | int b => cases hn
      | str b => cases hn
      | tuple b => cases hn
      | dict b => cases hn
theorem look_wiped {ρ : En} {j : Nat} {d : D} (h : look (wipeE ρ vs) j = some d) : j ∉ vs := by
  obtain ⟨sl, h1, h2⟩ := look_cont h
  rcases wipeE_get h1 with rfl | ⟨_, hn⟩
  · cases h2
  · exact hn
/-- the reading of a comprehension -/
theorem ev_lc {wi : TI} {g : TG} {ttt : TT} {tte : TE} (ei : EvI G W wi src) (eg : EvG G vs g fg) (et : EvB G W0 ttt tt) (ee : EvR G W0 tte te) : EvR G W (tLc wi g ttt tte vs) (lcF vs src fg tt te) := by
  intro F ρ σ S M H Q hg s p
  refine ei F ρ σ S M H _ hg s (Res.post_mono (Res.post_bind p) (fun sr ρ1 q J S1 M1 H1 e1 s1 hJ => ?_) fun k ρ1 q => q)
  intro D hD
  obtain ⟨fuel, hf⟩ : ∃ fuel, compX vs fg tt te sr (wipeE ρ1 vs) = compG vs fg tt te sr fuel 0 [] (wipeE ρ1 vs) := by
    cases sr with
    | ls ds => exact ⟨ds.length + 1, by rw [compG_ls _ _ (Nat.zero_add _), if_pos (Nat.zero_le _)]; rfl⟩
    | sl j => exact ⟨_, rfl⟩
  have q : PR F W σ S ((compX vs fg tt te sr (wipeE ρ1 vs)).bind fun ds ρ2 => .ok (RV.own (.lst ds)) (backE ρ1 ρ2 vs)) Q := q
  rw [hf] at q
  have q := Res.post_bind q
  obtain ⟨sD, rD⟩ := (s1.wiped vs).newM (o := .lst []) hD (.lst .nil)
  obtain ⟨pD, uD, eD, hM, _, h0, hB, hs⟩ := rD
  cases eD
  rw [upd_same] at hM
  cases hM
  have sH := sD.hold upd_same hs
  refine ⟨fun i m H' => ∃ ρ' S' M' vacc dacc, Ext S1 S' ∧ SR (F.hold D (.lst vacc)) ρ' (wipe σ vs) S' M' H' ∧ RpAll F.K S' vacc dacc ∧ (∀ (j : Nat) d, look ρ' j = some d → j ∉ vs) ∧
    (compG vs fg tt te sr m i dacc ρ').post (fun ds ρ2 => PR F W σ S (.ok (.own (.lst ds)) (backE ρ1 ρ2 vs)) Q) (fun k ρ2 => ∀ S' M' H', Ext S S' → SR F ρ2 σ S' M' H' → W (F.g.cls k) none σ H'),
    ⟨fuel, _, S1, _, [], [], Ext.refl S1, sH, .nil, fun j d h => look_wiped h, q⟩, ?_⟩
  rintro i m H2 ⟨ρ2, S2, M2, vacc, dacc, e2, s2, ra, hw, p2⟩
  cases m with
  | zero => exact p2.elim
  | succ m =>
    have p2 : (match nxt sr ρ2 i with | none => Res.no | some none => .ok dacc ρ2 | some (some d) => compT vs fg tt te (compG vs fg tt te sr m (i + 1)) d dacc ρ2).post _ _ := p2
    cases hn : nxt sr ρ2 i with
    | none => rw [hn] at p2; exact p2.elim
    | some o =>
      rw [hn] at p2
      obtain ⟨h1, h2⟩ := hJ.nxt (F := F.hold D (.lst vacc)) hg e2 s2 (fun j d hl => wipe_out σ (hw j d hl)) hn
      cases o with
      | none =>
        refine .inl ⟨h1 rfl, ?_⟩
        obtain ⟨s3, hM3, hs3⟩ := s2.unhold h0 hB
        have p2 : PR F W σ S (.ok (.own (.lst dacc)) (backE ρ1 ρ2 vs)) Q := p2
        have s4 := SR.back s1 e2 s3
        refine p2 _ S2 M2 H2 (e1.trans e2) s4 ⟨D, _, rfl, hM3, .lst ra, h0, hB, fun j sl hj ho => ?_⟩
        rcases backE_get hj with ⟨_, h⟩ | ⟨hi, h⟩
        · subst h
          cases h0' : ρ1[j]? with
          | none => rw [h0'] at ho; cases ho
          | some sl => rw [h0'] at ho; cases sl <;> cases ho
        · rw [← wipe_out σ hi]
          exact hs3 j sl h ho
      | some d =>
        obtain ⟨hgo, hy⟩ := h2 d rfl
        refine .inr ⟨hgo, fun H' => ∃ ρ' S' M' vacc dacc, Ext S1 S' ∧ SR (F.hold D (.lst vacc)) ρ' (wipe σ vs) S' M' H' ∧ RpAll F.K S' vacc dacc ∧ (∀ (j : Nat) d, look ρ' j = some d → j ∉ vs) ∧
          (compG vs fg tt te sr m (i + 1) dacc ρ').post (fun ds ρ2 => PR F W σ S (.ok (.own (.lst ds)) (backE ρ1 ρ2 vs)) Q) (fun k ρ2 => ∀ S' M' H', Ext S S' → SR F ρ2 σ S' M' H' → W (F.g.cls k) none σ H'),
          fun H' h => ⟨m, Nat.lt_succ_self m, h⟩, fun x H3 hx => ?_⟩
        obtain ⟨S3, M3, e3, s3, r3⟩ := hy x H3 hx
        have p2 : (match fg d ρ2 with | none => Res.no | some ρ1 => (noErr tt ρ1).bind fun b => if b = true then seq (noErr te) (fun rv ρ2 => if dacc.length < line then compG vs fg tt te sr m (i + 1) (dacc ++ [rv.toD]) (wipeE ρ2 vs) else .no) else fun ρ2 => compG vs fg tt te sr m (i + 1) dacc (wipeE ρ2 vs)).post _ _ := p2
        cases hfg : fg d ρ2 with
        | none => rw [hfg] at p2; exact p2.elim
        | some ρ4 =>
          rw [hfg] at p2
          refine eg (F.hold D (.lst vacc)) ρ2 ρ4 _ S3 M3 H3 x d _ hg s3 r3 hfg fun σ4 S4 M4 H4 e4 s4 hl4 hv4 => ?_
          have hl4 : σ4.length = σ.length := by rw [hl4, wipe_length]
          have hwσ : wipe σ4 vs = wipe σ vs := wipe_eq hl4 hv4
          refine ⟨hwσ, ?_⟩
          have p3 := noErr_post (f := tt) (B' := fun k ρ' => ∀ S' M' H', Ext S4 S' → SR (F.hold D (.lst vacc)) ρ' σ4 S' M' H' → W0 ((F.hold D (.lst vacc)).g.cls k) none σ4 H') (Res.post_bind p2)
          refine et (F.hold D (.lst vacc)) ρ4 σ4 S4 M4 H4 _ hg s4 (Res.post_mono p3 (fun b ρ5 p5 S5 M5 H5 e5 s5 => ?_) fun k ρ5 p5 => p5)
          cases b with
          | false =>
            rw [if_neg Bool.false_ne_true] at p5 ⊢
            have s6 : SR (F.hold D (.lst vacc)) (wipeE ρ5 vs) (wipe σ vs) S5 M5 H5 := by rw [← hwσ]; exact s5.wiped vs
            exact ⟨_, S5, M5, vacc, dacc, ((e2.trans e3).trans e4).trans e5, s6, ra.mono (((e3.trans e4).trans e5)), fun j d h => look_wiped h, p5⟩
          | true =>
            rw [if_pos rfl] at p5 ⊢
            have p6 := noErr_post (f := te) (B' := fun k ρ' => ∀ S' M' H', Ext S5 S' → SR (F.hold D (.lst vacc)) ρ' σ4 S' M' H' → W0 ((F.hold D (.lst vacc)).g.cls k) none σ4 H') (Res.post_bind p5)
            refine ee (F.hold D (.lst vacc)) ρ5 σ4 S5 M5 H5 _ hg s5 (Res.post_mono p6 (fun rv ρ6 p7 v S6 M6 H6 e6 s6 r6 => ?_) fun k ρ6 p7 => p7)
            obtain ⟨S7, M7, e7, s7, r7⟩ := s6.freeze r6
            obtain ⟨s8, hM8, hs8⟩ := s7.unhold h0 hB
            have hlen : vacc.length = dacc.length := ra.length
            have p7 : ((if dacc.length < line then compG vs fg tt te sr m (i + 1) (dacc ++ [rv.toD]) (wipeE ρ6 vs) else .no : Res (List PyData))).post _ _ := p7
            by_cases hz : dacc.length < line
            · rw [if_pos hz] at p7
              refine ⟨vacc, s8.own _ _ hM8, by rw [hlen, line_eq]; exact hz, ?_⟩
              have s9 := s8.writeFree (u' := .lst (vacc ++ [v])) hM8 h0 hB trivial hs8
              have s10 := s9.hold (p := D) (u := .lst (vacc ++ [v])) upd_same hs8
              have s11 : SR (F.hold D (.lst (vacc ++ [v]))) (wipeE ρ6 vs) (wipe σ vs) S7 (upd M7 D (.lst (vacc ++ [v]))) (upd H6 D (.lst (vacc ++ [v]))) := by rw [← hwσ]; exact s10.wiped vs
              exact ⟨_, S7, _, vacc ++ [v], dacc ++ [rv.toD], (((((e2.trans e3).trans e4).trans e5).trans e6).trans e7), s11, (ra.mono ((((e3.trans e4).trans e5).trans e6).trans e7)).append (.cons r7 .nil), fun j d h => look_wiped h, p7⟩
            · rw [if_neg hz] at p7
              exact p7.elim
/-- a comprehension as a value -/
theorem rx_lc (hc : ∀ i, (X i).calm = true) (hN : ∀ i, (X i).N.Nodup) (hi : IX X G W tg iter src) (ok : ∀ i, BlkOk (X i).N (X i).env.scope scope own) (hg : GX (blkX X scope) G tg (own.map (·.2)) fg) (ht : TX (blkX X scope) G W0 ifs tt) (he : RX (blkX X scope) G W0 elt te)
    (hs : ∀ i x, foldedSetIterable iter (X i).env x = pure x) : RX X G W (.ListComp elt [⟨tg, iter, ifs, 0⟩] scope pos) (lcF (own.map (·.2)) src fg tt te) := by
  obtain ⟨wi, pi, ei⟩ := hi
  obtain ⟨g, pg, eg⟩ := hg
  obtain ⟨t, pt, et⟩ := ht
  obtain ⟨tt', pe, ee⟩ := he
  exact ⟨_, fun i => pe_lc (hc i) (hN i) (pi i) (ok i) (fun s H C cl fp => pg (i, s, H, C, cl, fp)) (fun s H C cl fp => pt (i, s, H, C, cl, fp)) (fun s H C cl fp => pe (i, s, H, C, cl, fp)) (hs i), ev_lc ei eg et ee⟩
/-- name = a comprehension -/
theorem sx_setLc (i : Nat) {y : Str} {py spos : Pos} (hc : ∀ j, (X j).calm = true) (hN : ∀ j, (X j).N.Nodup) (hy : ∀ j, (X j).N[i]? = some y) (hyl : ∀ j, (X j).env.scope.names.lookup y = some .local)
    (hsw : ∀ j, swapsWith (.ListComp elt [⟨tg, iter, ifs, 0⟩] scope pos) (some (.Name y py)) spos.line (X j).env = pure true) (hi : IX X G W tg iter src) (ok : ∀ i, BlkOk (X i).N (X i).env.scope scope own) (hg : GX (blkX X scope) G tg (own.map (·.2)) fg) (ht : TX (blkX X scope) G W0 ifs tt) (he : RX (blkX X scope) G W0 elt te)
    (hs : ∀ i x, foldedSetIterable iter (X i).env x = pure x) : SX X G W (.Assign [.Name y py] (.ListComp elt [⟨tg, iter, ifs, 0⟩] scope pos) spos) (seq (lcF (own.map (·.2)) src fg tt te) (put i)) := by
  obtain ⟨wi, pi, ei⟩ := hi
  obtain ⟨g, pg, eg⟩ := hg
  obtain ⟨t, pt, et⟩ := ht
  obtain ⟨tt', pe, ee⟩ := he
  refine ⟨_, fun j => ps_setLc (hc j) (hN j) (hy j) (hyl j) (hsw j) (pi j) (ok j) (fun s H C cl fp => pg (j, s, H, C, cl, fp)) (fun s H C cl fp => pt (j, s, H, C, cl, fp)) (fun s H C cl fp => pe (j, s, H, C, cl, fp)) (hs j), ?_⟩
  intro F ρ σ S M H D hgg s q
  exact ev_lc ei eg et ee F ρ σ S M H _ hgg s (Res.post_mono (Res.post_bind q) (fun rv ρ1 q1 v S1 M1 H1 e1 s1 r1 => q1 _ S1 M1 H1 e1 (s1.set r1 i)) fun k ρ1 q1 S1 M1 H1 => q1 σ S1 M1 H1)
end
end L3

set_option Elab.async false
set_option linter.all false
set_option maxRecDepth 100000
namespace L3
open PySem PySem.Spec PyProof.Rows L2

/-! ### calls of defs -/
inductive CA
  | ex (f : P RV)
  | ln (i : Nat)
  | mu (i : Nat)
def CA.opd : CA → Opd
  | .ex f => .ex f
  | .ln i => .sl i
  | .mu i => .sl i
def gather (ρ : En) : List CA → List (Option D) → Nat → Option (List Sl)
  | [], [], _ => some []
  | .ex _ :: cs, some d :: xs, j => (gather ρ cs xs j).map (.sh d :: ·)
  | .ln i :: cs, _ :: xs, j => (look ρ i).bind fun d => (gather ρ cs xs j).map (.sh d :: ·)
  | .mu i :: cs, _ :: xs, j => match ρ[i]? with
    | some (.ow o) => (gather ρ cs xs (j + 1)).map (.bo j o :: ·)
    | some (.bo _ o) => (gather ρ cs xs (j + 1)).map (.bo j o :: ·)
    | _ => none
  | _, _, _ => none
def upds (ρ : En) : List CA → List Sl → Option En
  | [], [] => some ρ
  | .mu i :: cs, .bo _ o :: as => (upds ρ cs as).map fun r => r.set i ((r[i]?.getD .un).put o)
  | .mu _ :: _, _ => none
  | .ex _ :: cs, _ :: as => upds ρ cs as
  | .ln _ :: cs, _ :: as => upds ρ cs as
  | _, _ => none
def isOw (ρ : En) (i : Nat) : Bool := match ρ[i]? with
  | some sl => sl.isO
  | none => false
def lents (ρ : En) : List CA → List Nat
  | [] => []
  | .ln i :: cs => if isOw ρ i then i :: lents ρ cs else lents ρ cs
  | _ :: cs => lents ρ cs
def mus : List CA → List Nat
  | [] => []
  | .mu i :: cs => i :: mus cs
  | _ :: cs => mus cs
def lns : List CA → List Nat
  | [] => []
  | .ln i :: cs => i :: lns cs
  | _ :: cs => lns cs
def caOk (cs : List CA) : Prop := (mus cs).Nodup ∧ ∀ i ∈ lns cs, i ∉ mus cs
def obNL : Ob → Bool
  | .lst ds => noListAll ds
  | .dic _ => false
def rvNL : RV → Bool
  | .val d => noList d
  | .own o => obNL o
def slNL : Sl → Bool
  | .bo _ o => obNL o
  | _ => true
def callF (m : List Sl → Res RV) (cs : List CA) : P RV := seq (runs (cs.map CA.opd)) fun xs ρ => match gather ρ cs xs 0 with
  | none => .no
  | some as => match m as with
    | .ok rv as' => if ((lents ρ cs).isEmpty || (rvNL rv && as'.all slNL)) = true then (match upds ρ cs as' with
        | some ρ' => .ok rv ρ'
        | none => .no) else .no
    | .err k as' => if ((lents ρ cs).isEmpty || as'.all slNL) = true then (match upds ρ cs as' with
        | some ρ' => .err k ρ'
        | none => .no) else .no
    | .no => .no

/-- what a def promises -/
def FSp (n : Nat) (G : GC) (m : List Sl → Res RV) : Sp := fun vs H Q E => vs.length = n ∧ ∃ (as : List Sl) (B : List Addr) (S M : Hp), SR ⟨G, B, M⟩ as (vs.map some) S M H ∧ (m as).post
  (fun rv as' => ∀ v S' M' H', Ext S S' → SR ⟨G, B, M⟩ as' (vs.map some) S' M' H' → RVok ⟨G, B, M⟩ as' (vs.map some) S' M' v rv → Q v H')
  (fun k as' => ∀ S' M' H', Ext S S' → SR ⟨G, B, M⟩ as' (vs.map some) S' M' H' → E (G.cls k) none H')

/-- what does not lean on lists stays without them -/
def Less (S S' : Hp) : Prop := ∀ a, S' a = S a ∨ ∃ o, S a = some o ∧ IsOb o
mutual
theorem Rp.less {K : PySem.W.Frag} {S S' : Hp} (e : Less S S') : ∀ {v : V} {d : D}, Rp K S v d → noList d = true → Rp K S' v d
  | _, _, .non, _ => .non
  | _, _, .bl b, _ => .bl b
  | _, _, .int i, _ => .int i
  | _, _, .str x, _ => .str x
  | _, _, .lst h r, n => by simp [noList] at n
  | _, _, @Rp.tup _ _ a xs ds h r, n => by
    refine .tup ?_ (RpAll.less e r (by simpa [noList] using n))
    rcases h with (h | ⟨o, h⟩) | h
    · rcases e a with q | ⟨o, q, z⟩
      · exact .inl (.inl (q.trans h))
      · rw [h] at q; cases q; exact z.elim
    · rcases e a with q | ⟨o', q, z⟩
      · exact .inl (.inr ⟨o, q.trans h⟩)
      · rw [h] at q; cases q; exact z.elim
    · exact .inr h
  | _, _, .dK h r, n => by simp [noList] at n
  | _, _, .dT h r, n => by simp [noList] at n
theorem RpAll.less {K : PySem.W.Frag} {S S' : Hp} (e : Less S S') : ∀ {vs : List V} {ds : List D}, RpAll K S vs ds → noListAll ds = true → RpAll K S' vs ds
  | _, _, .nil, _ => .nil
  | _, _, .cons h r, n => by
    simp only [noListAll, Bool.and_eq_true] at n
    exact .cons (Rp.less e h n.1) (RpAll.less e r n.2)
end
theorem OR.less {K : PySem.W.Frag} {S S' : Hp} (e : Less S S') {u : HO} {o : Ob} (h : OR K S u o) (n : obNL o = true) : OR K S' u o := by
  cases h with
  | lst r => exact .lst (r.less e n)
  | dK r => cases n
  | dT r => cases n

section
variable {F : FC} {ρ : En} {σ : St} {S M H : Hp}
inductive GA (K : PySem.W.Frag) (ρ : En) (σ : St) (S : Hp) : List CA → List V → List Sl → Nat → List Addr → Prop
  | nil {j : Nat} : GA K ρ σ S [] [] [] j []
  | ex {f : P RV} {v : V} {d : D} {cs : List CA} {vs : List V} {as : List Sl} {j : Nat} {B : List Addr} : Rp K S v d → GA K ρ σ S cs vs as j B → GA K ρ σ S (.ex f :: cs) (v :: vs) (.sh d :: as) j B
  | ln {i : Nat} {v : V} {d : D} {sl : Sl} {cs : List CA} {vs : List V} {as : List Sl} {j : Nat} {B : List Addr} : σ[i]? = some (some v) → ρ[i]? = some sl → sl.cont = some d → GA K ρ σ S cs vs as j B → GA K ρ σ S (.ln i :: cs) (v :: vs) (.sh d :: as) j B
  | mu {i : Nat} {p : Addr} {o : Ob} {sl : Sl} {cs : List CA} {vs : List V} {as : List Sl} {j : Nat} {B : List Addr} : σ[i]? = some (some (.ref p)) → ρ[i]? = some sl → (sl = .ow o ∨ ∃ j', sl = .bo j' o) → GA K ρ σ S cs vs as (j + 1) B → GA K ρ σ S (.mu i :: cs) (.ref p :: vs) (.bo j o :: as) j (p :: B)
theorem gather_ok (s : SR F ρ σ S M H) : ∀ (cs : List CA) {xs : List (Option D)} {vs : List V} {as : List Sl} {j : Nat}, OpV F.K S σ (cs.map CA.opd) xs vs → gather ρ cs xs j = some as → ∃ B, GA F.K ρ σ S cs vs as j B := by
  intro cs
  induction cs with
  | nil =>
    intro xs vs as j o h
    have o : OpV F.K S σ [] xs vs := o
    cases o
    cases h
    exact ⟨[], .nil⟩
  | cons c cs ih =>
    intro xs vs as j o h
    cases c with
    | ex f =>
      have o : OpV F.K S σ (.ex f :: cs.map CA.opd) xs vs := o
      cases o with
      | ex hr r =>
        obtain ⟨as', h', rfl⟩ := Option.map_eq_some_iff.mp h
        obtain ⟨B, g⟩ := ih r h'
        exact ⟨B, .ex hr g⟩
    | ln i =>
      have o : OpV F.K S σ (.sl i :: cs.map CA.opd) xs vs := o
      cases o with
      | sl hv r =>
        obtain ⟨d, hd, h⟩ := Option.bind_eq_some_iff.mp h
        obtain ⟨as', h', rfl⟩ := Option.map_eq_some_iff.mp h
        obtain ⟨B, g⟩ := ih r h'
        obtain ⟨sl, h1, h2⟩ := look_cont hd
        exact ⟨B, .ln hv h1 h2 g⟩
    | mu i =>
      have o : OpV F.K S σ (.sl i :: cs.map CA.opd) xs vs := o
      cases o with
      | @sl _ v qs xs vs hv r =>
        have h : (match ρ[i]? with | some (.ow o) => (gather ρ cs xs (j + 1)).map (Sl.bo j o :: ·) | some (.bo _ o) => (gather ρ cs xs (j + 1)).map (Sl.bo j o :: ·) | _ => none) = some as := h
        cases hs : ρ[i]? with
        | none => rw [hs] at h; cases h
        | some sl =>
          rw [hs] at h
          cases sl with
          | un => cases h
          | sh d => cases h
          | ow o =>
            obtain ⟨as', h', rfl⟩ := Option.map_eq_some_iff.mp h
            obtain ⟨B, g⟩ := ih r h'
            obtain ⟨p, u, e1, _, _⟩ := s.ownAt hs (.inl rfl)
            rw [hv] at e1
            cases e1
            exact ⟨p :: B, .mu hv hs (.inl rfl) g⟩
          | bo j' o =>
            obtain ⟨as', h', rfl⟩ := Option.map_eq_some_iff.mp h
            obtain ⟨B, g⟩ := ih r h'
            obtain ⟨p, u, e1, _, _⟩ := s.ownAt hs (.inr ⟨j', rfl⟩)
            rw [hv] at e1
            cases e1
            exact ⟨p :: B, .mu hv hs (.inr ⟨j', rfl⟩) g⟩
theorem GA.len {K : PySem.W.Frag} : ∀ {cs : List CA} {vs : List V} {as : List Sl} {j : Nat} {B : List Addr}, GA K ρ σ S cs vs as j B → as.length = vs.length
  | _, _, _, _, _, .nil => rfl
  | _, _, _, _, _, .ex _ g => congrArg Nat.succ g.len
  | _, _, _, _, _, .ln _ _ _ g => congrArg Nat.succ g.len
  | _, _, _, _, _, .mu _ _ _ g => congrArg Nat.succ g.len
/-- an owned argument is a slot of mus -/
theorem GA.own {K : PySem.W.Frag} : ∀ {cs : List CA} {vs : List V} {as : List Sl} {j : Nat} {B : List Addr}, GA K ρ σ S cs vs as j B → ∀ {pos : Nat} {sl : Sl}, as[pos]? = some sl → sl.isO = true → ∃ i ∈ mus cs, (∃ s', ρ[i]? = some s' ∧ s'.isO = true) ∧ σ[i]? = (vs.map some)[pos]?
  | _, _, _, _, _, .nil, pos, sl, h, o => by simp at h
  | _, _, _, _, _, .ex _ g, 0, sl, h, o => by simp at h; subst h; cases o
  | _, _, _, _, _, .ln _ _ _ g, 0, sl, h, o => by simp at h; subst h; cases o
  | _, _, _, _, _, @GA.mu _ _ _ _ i p ob s' cs vs as j B h1 h2 h3 g, 0, sl, h, o => by
    refine ⟨i, List.mem_cons_self, ⟨s', h2, ?_⟩, h1⟩
    rcases h3 with rfl | ⟨j', rfl⟩ <;> rfl
  | _, _, _, _, _, .ex _ g, pos + 1, sl, h, o => g.own (pos := pos) (by simpa using h) o
  | _, _, _, _, _, .ln _ _ _ g, pos + 1, sl, h, o => g.own (pos := pos) (by simpa using h) o
  | _, _, _, _, _, .mu _ _ _ g, pos + 1, sl, h, o => by
    obtain ⟨i, hi, r⟩ := g.own (pos := pos) (by simpa using h) o
    exact ⟨i, List.mem_cons_of_mem _ hi, r⟩
theorem GA.sep {K : PySem.W.Frag} (s : SR F ρ σ S M H) : ∀ {cs : List CA} {vs : List V} {as : List Sl} {j : Nat} {B : List Addr}, GA K ρ σ S cs vs as j B → (mus cs).Nodup →
    ∀ (i j : Nat) (a b : Sl), i < j → as[i]? = some a → as[j]? = some b → a.isO = true → b.isO = true → (vs.map some)[i]? ≠ (vs.map some)[j]?
  | _, _, _, _, _, .nil, nd, i, j, a, b, hij, ha, hb, oa, ob => by simp at ha
  | _, _, _, _, _, .ex _ g, nd, 0, j + 1, a, b, hij, ha, hb, oa, ob => by simp at ha; subst ha; cases oa
  | _, _, _, _, _, .ln _ _ _ g, nd, 0, j + 1, a, b, hij, ha, hb, oa, ob => by simp at ha; subst ha; cases oa
  | _, _, _, _, _, @GA.mu _ _ _ _ i p o s' cs vs as _ B h1 h2 h3 g, nd, 0, j + 1, a, b, hij, ha, hb, oa, ob => by
    obtain ⟨i', hi', ⟨s2, e2, o2⟩, e3⟩ := g.own (pos := j) (by simpa using hb) ob
    have hne : i ≠ i' := fun z => (List.nodup_cons.mp nd).1 (by rw [z]; exact hi')
    have os : s'.isO = true := by rcases h3 with rfl | ⟨j', rfl⟩ <;> rfl
    have q := s.sep i i' s' s2 hne h2 e2 os o2
    rw [h1, e3] at q
    exact q
  | _, _, _, _, _, .ex _ g, nd, i + 1, j + 1, a, b, hij, ha, hb, oa, ob => g.sep s nd i j a b (by omega) (by simpa using ha) (by simpa using hb) oa ob
  | _, _, _, _, _, .ln _ _ _ g, nd, i + 1, j + 1, a, b, hij, ha, hb, oa, ob => g.sep s nd i j a b (by omega) (by simpa using ha) (by simpa using hb) oa ob
  | _, _, _, _, _, .mu _ _ _ g, nd, i + 1, j + 1, a, b, hij, ha, hb, oa, ob => g.sep s (List.nodup_cons.mp nd).2 i j a b (by omega) (by simpa using ha) (by simpa using hb) oa ob
theorem GA.inB {K : PySem.W.Frag} : ∀ {cs : List CA} {vs : List V} {as : List Sl} {j : Nat} {B : List Addr}, GA K ρ σ S cs vs as j B → ∀ p ∈ B, ∃ i ∈ mus cs, (∃ s', ρ[i]? = some s' ∧ s'.isO = true) ∧ σ[i]? = some (some (.ref p))
  | _, _, _, _, _, .nil, p, h => by cases h
  | _, _, _, _, _, .ex _ g, p, h => g.inB p h
  | _, _, _, _, _, .ln _ _ _ g, p, h => g.inB p h
  | _, _, _, _, _, @GA.mu _ _ _ _ i p' o s' cs vs as _ B h1 h2 h3 g, p, h => by
    rcases List.mem_cons.mp h with rfl | h
    · refine ⟨i, List.mem_cons_self, ⟨s', h2, ?_⟩, h1⟩
      rcases h3 with rfl | ⟨j', rfl⟩ <;> rfl
    · obtain ⟨i, hi, r⟩ := g.inB p h
      exact ⟨i, List.mem_cons_of_mem _ hi, r⟩
/-- the lent part -/
def InL (ρ : En) (σ : St) (cs : List CA) (a : Addr) : Prop := ∃ i ∈ lents ρ cs, σ[i]? = some (some (.ref a))
open Classical in
noncomputable def lendS (ρ : En) (σ : St) (cs : List CA) (S M : Hp) : Hp := fun a => if InL ρ σ cs a then M a else S a
open Classical in
noncomputable def lendM (ρ : En) (σ : St) (cs : List CA) (M : Hp) : Hp := fun a => if InL ρ σ cs a then none else M a
theorem lents_own : ∀ {cs : List CA} {i : Nat}, i ∈ lents ρ cs → i ∈ lns cs ∧ ∃ sl, ρ[i]? = some sl ∧ sl.isO = true
  | [], i, h => by cases h
  | .ex f :: cs, i, h => lents_own (cs := cs) h
  | .mu k :: cs, i, h => lents_own (cs := cs) h
  | .ln k :: cs, i, h => by
    unfold lents at h
    split at h
    · rename_i hk
      rcases List.mem_cons.mp h with rfl | h
      · refine ⟨List.mem_cons_self, ?_⟩
        unfold isOw at hk
        cases e : ρ[i]? with
        | none => rw [e] at hk; cases hk
        | some sl => rw [e] at hk; exact ⟨sl, rfl, hk⟩
      · obtain ⟨h1, h2⟩ := lents_own (cs := cs) h
        exact ⟨List.mem_cons_of_mem _ h1, h2⟩
    · obtain ⟨h1, h2⟩ := lents_own (cs := cs) h
      exact ⟨List.mem_cons_of_mem _ h1, h2⟩
theorem mem_lents : ∀ {cs : List CA} {i : Nat} {sl : Sl}, i ∈ lns cs → ρ[i]? = some sl → sl.isO = true → i ∈ lents ρ cs
  | [], i, sl, h, _, _ => by cases h
  | .ex f :: cs, i, sl, h, e, o => mem_lents (cs := cs) h e o
  | .mu k :: cs, i, sl, h, e, o => mem_lents (cs := cs) h e o
  | .ln k :: cs, i, sl, h, e, o => by
    unfold lents
    have hw : isOw ρ i = true := by unfold isOw; rw [e]; exact o
    rcases List.mem_cons.mp h with rfl | h
    · rw [if_pos hw]; exact List.mem_cons_self
    · have := mem_lents (cs := cs) h e o
      split
      · exact List.mem_cons_of_mem _ this
      · exact this
theorem InL.inM (s : SR F ρ σ S M H) {cs : List CA} {a : Addr} (h : InL ρ σ cs a) : ∃ u, M a = some u := by
  obtain ⟨i, hi, e⟩ := h
  obtain ⟨_, sl, h1, h2⟩ := lents_own hi
  obtain ⟨p, e1, u, e2⟩ := s.slO h1 e h2
  cases e1
  exact ⟨u, e2⟩
theorem lendS_ext (s : SR F ρ σ S M H) (cs : List CA) : Ext S (lendS ρ σ cs S M) := fun a o e => by
  unfold lendS
  have : ¬ InL ρ σ cs a := fun z => by
    obtain ⟨u, hu⟩ := z.inM s
    rcases s.dis a with q | q
    · rw [e] at q; cases q
    · rw [hu] at q; cases q
  rw [if_neg this]; exact e
theorem mu_not_lent (s : SR F ρ σ S M H) {cs : List CA} (ok : caOk cs) {i : Nat} {sl : Sl} {p : Addr} (hi : i ∈ mus cs) (h : ρ[i]? = some sl) (o : sl.isO = true) (e : σ[i]? = some (some (.ref p))) : ¬ InL ρ σ cs p := fun ⟨i', hi', e'⟩ => by
  obtain ⟨h1, sl', h2, h3⟩ := lents_own hi'
  have hne : i ≠ i' := fun z => ok.2 i' h1 (by rw [← z]; exact hi)
  exact s.sep i i' sl sl' hne h h2 o h3 (e.trans e'.symm)
theorem GA.slots (s : SR F ρ σ S M H) {cs₀ : List CA} (ok : caOk cs₀) : ∀ {cs : List CA} {vs : List V} {as : List Sl} {j : Nat} {B : List Addr}, GA F.K ρ σ S cs vs as j B → (∀ i ∈ lns cs, i ∈ lns cs₀) → (∀ i ∈ mus cs, i ∈ mus cs₀) → ∀ (Bp : List Addr), Bp.length = j →
    ∀ (pos : Nat) (sl : Sl) (v : Option V), as[pos]? = some sl → (vs.map some)[pos]? = some v → SlOk ⟨F.g, Bp ++ B, lendM ρ σ cs₀ M⟩ (lendS ρ σ cs₀ S M) (lendM ρ σ cs₀ M) v sl
  | _, _, _, _, _, .nil, _, _, _, _, pos, sl, v, h, _ => by simp at h
  | _, _, _, _, _, .ex hr g, _, _, _, _, 0, sl, v, h, e => by
    simp at h e
    subst h; subst e
    exact ⟨_, rfl, hr.mono (lendS_ext s cs₀)⟩
  | _, _, _, _, _, @GA.ln _ _ _ _ i w d s' cs vs as j B h1 h2 h3 g, hl, _, _, _, 0, sl, v, h, e => by
    simp at h e
    subst h; subst e
    refine ⟨_, rfl, ?_⟩
    have q := s.slot i s' _ h2 h1
    have fin : ∀ p u o, w = .ref p → s'.isO = true → M p = some u → OR F.K S u o → Rp F.K (lendS ρ σ cs₀ S M) w o.toD := fun p u o ew os hM r => by
      subst ew
      refine (r.mono (lendS_ext s cs₀)).rp ?_
      unfold lendS
      rw [if_pos ⟨i, mem_lents (hl i List.mem_cons_self) h2 os, h1⟩]
      exact hM
    cases s' with
    | un => cases h3
    | sh d' =>
      cases h3
      obtain ⟨x, ex, r⟩ := q
      cases ex
      exact r.mono (lendS_ext s cs₀)
    | ow o =>
      cases h3
      obtain ⟨p, u, ep, e2, r, _⟩ := q
      cases ep
      exact fin p u o rfl rfl e2 r
    | bo k o =>
      cases h3
      obtain ⟨p, u, ep, _, e2, r⟩ := q
      cases ep
      exact fin p u o rfl rfl e2 r
  | _, _, _, _, _, @GA.mu _ _ _ _ i p o s' cs vs as j B h1 h2 h3 g, _, hm, Bp, hB, 0, sl, v, h, e => by
    simp at h e
    subst h; subst e
    have os : s'.isO = true := by rcases h3 with rfl | ⟨j', rfl⟩ <;> rfl
    obtain ⟨p', u, e1, e2, r⟩ := s.ownAt h2 h3
    rw [h1] at e1
    cases e1
    refine ⟨p, u, rfl, ?_, ?_, r.mono (lendS_ext s cs₀)⟩
    · show (Bp ++ p :: B)[j]? = some p
      rw [List.getElem?_append_right (by omega), hB, Nat.sub_self]
      rfl
    · unfold lendM
      rw [if_neg (mu_not_lent s ok (hm i List.mem_cons_self) h2 os h1)]
      exact e2
  | _, _, _, _, _, .ex hr g, hl, hm, Bp, hB, pos + 1, sl, v, h, e => g.slots s ok hl hm Bp hB pos sl v (by simpa using h) (by simpa using e)
  | _, _, _, _, _, .ln _ _ _ g, hl, hm, Bp, hB, pos + 1, sl, v, h, e => g.slots s ok (fun i hi => hl i (List.mem_cons_of_mem _ hi)) hm Bp hB pos sl v (by simpa using h) (by simpa using e)
  | _, _, _, _, _, @GA.mu _ _ _ _ i p o s' cs vs as j B h1 h2 h3 g, hl, hm, Bp, hB, pos + 1, sl, v, h, e => by
    have := g.slots s ok hl (fun i hi => hm i (List.mem_cons_of_mem _ hi)) (Bp ++ [p]) (by simp [hB]) pos sl v (by simpa using h) (by simpa using e)
    rw [List.append_assoc] at this
    exact this
/-- the state at the callee's entry -/
theorem call_in (s : SR F ρ σ S M H) {cs : List CA} {vs : List V} {as : List Sl} {B : List Addr} (ok : caOk cs) (g : GA F.K ρ σ S cs vs as 0 B) : SR ⟨F.g, B, lendM ρ σ cs M⟩ as (vs.map some) (lendS ρ σ cs S M) (lendM ρ σ cs M) H := by
  refine ⟨by rw [List.length_map]; exact g.len, fun a o e => ?_, fun a o e => ?_, fun a => ?_, fun a o _ e => e, fun a ha => ?_, fun a ha => ?_, ⟨fun a o e => ?_, fun ht a => ?_⟩, fun i sl v h e => g.slots s ok (fun _ h => h) (fun _ h => h) [] rfl i sl v h e, fun i j a b hij ha hb oa ob => ?_⟩
  · unfold lendS at e
    split at e
    · exact s.own a o e
    · exact s.sub a o e
  · unfold lendM at e
    split at e
    · cases e
    · exact s.own a o e
  · unfold lendS lendM
    by_cases h : InL ρ σ cs a
    · rw [if_pos h, if_pos h]; exact .inr rfl
    · rw [if_neg h, if_neg h]; exact s.dis a
  · obtain ⟨i, hi, ⟨s', h1, h2⟩, e⟩ := g.inB a ha
    obtain ⟨p, e1, u, e2⟩ := s.slO h1 e h2
    cases e1
    refine ⟨u, ?_⟩
    unfold lendM
    rw [if_neg (mu_not_lent s ok hi h1 h2 e)]
    exact e2
  · obtain ⟨t1, t2, t3⟩ := s.tab a ha
    have : ¬ InL ρ σ cs a := fun z => by
      obtain ⟨u, hu⟩ := z.inM s
      rw [t3] at hu; cases hu
    unfold lendS lendM
    rw [if_neg this, if_neg this]
    exact ⟨t1, t2, t3⟩
  · unfold lendM at e
    split at e
    · cases e
    · exact s.kind.1 a o e
  · unfold lendS
    by_cases h : InL ρ σ cs a
    · rw [if_pos h]
      obtain ⟨u, hu⟩ := h.inM s
      rw [hu]
      exact (s.kind.1 _ _ hu).tdOk
    · rw [if_neg h]
      exact s.kind.2 ht a
  · rcases Nat.lt_or_gt_of_ne hij with h | h
    · exact g.sep s ok.1 i j a b h ha hb oa ob
    · exact (g.sep s ok.1 j i b a h hb ha ob oa).symm
theorem upds_len : ∀ {cs : List CA} {as : List Sl} {ρ' : En}, upds ρ cs as = some ρ' → ρ'.length = ρ.length
  | [], [], _, h => by cases h; rfl
  | [], _ :: _, _, h => by cases h
  | .ex _ :: cs, [], _, h => by cases h
  | .ln _ :: cs, [], _, h => by cases h
  | .mu _ :: cs, [], _, h => by cases h
  | .ex _ :: cs, _ :: as, _, h => upds_len (cs := cs) (as := as) h
  | .ln _ :: cs, _ :: as, _, h => upds_len (cs := cs) (as := as) h
  | .mu i :: cs, .bo k o :: as, _, h => by
    obtain ⟨r, h1, rfl⟩ := Option.map_eq_some_iff.mp h
    rw [List.length_set]
    exact upds_len (cs := cs) (as := as) h1
  | .mu _ :: cs, .un :: as, _, h => by cases h
  | .mu _ :: cs, .sh _ :: as, _, h => by cases h
  | .mu _ :: cs, .ow _ :: as, _, h => by cases h
theorem upds_out {i : Nat} : ∀ {cs : List CA} {as : List Sl} {ρ' : En}, upds ρ cs as = some ρ' → i ∉ mus cs → ρ'[i]? = ρ[i]?
  | [], [], _, h, _ => by cases h; rfl
  | [], _ :: _, _, h, _ => by cases h
  | .ex _ :: cs, [], _, h, _ => by cases h
  | .ln _ :: cs, [], _, h, _ => by cases h
  | .mu _ :: cs, [], _, h, _ => by cases h
  | .ex _ :: cs, _ :: as, _, h, hi => upds_out (cs := cs) (as := as) h hi
  | .ln _ :: cs, _ :: as, _, h, hi => upds_out (cs := cs) (as := as) h hi
  | .mu j :: cs, .bo k o :: as, _, h, hi => by
    obtain ⟨r, h1, rfl⟩ := Option.map_eq_some_iff.mp h
    have hi : i ∉ j :: mus cs := hi
    simp only [List.mem_cons, not_or] at hi
    rw [List.getElem?_set_ne (Ne.symm hi.1)]
    exact upds_out (cs := cs) (as := as) h1 hi.2
  | .mu _ :: cs, .un :: as, _, h, _ => by cases h
  | .mu _ :: cs, .sh _ :: as, _, h, _ => by cases h
  | .mu _ :: cs, .ow _ :: as, _, h, _ => by cases h
theorem upds_in {i : Nat} : ∀ {cs : List CA} {as : List Sl} {ρ' : En}, upds ρ cs as = some ρ' → (mus cs).Nodup → i ∈ mus cs → ∃ (pos k : Nat) (o : Ob), as[pos]? = some (.bo k o) ∧ cs[pos]? = some (.mu i) ∧ (i < ρ.length → ρ'[i]? = some ((ρ[i]?.getD .un).put o))
  | [], _, _, _, _, h => by cases h
  | .ex _ :: cs, [], _, h, _, _ => by cases h
  | .ln _ :: cs, [], _, h, _, _ => by cases h
  | .mu _ :: cs, [], _, h, _, _ => by cases h
  | .ex _ :: cs, _ :: as, _, h, nd, hi => by
    obtain ⟨pos, k, o, h1, h2, h3⟩ := upds_in (cs := cs) (as := as) h nd hi
    exact ⟨pos + 1, k, o, by simpa using h1, by simpa using h2, h3⟩
  | .ln _ :: cs, _ :: as, _, h, nd, hi => by
    obtain ⟨pos, k, o, h1, h2, h3⟩ := upds_in (cs := cs) (as := as) h nd hi
    exact ⟨pos + 1, k, o, by simpa using h1, by simpa using h2, h3⟩
  | .mu j :: cs, .bo k o :: as, _, h, nd, hi => by
    obtain ⟨r, h1, rfl⟩ := Option.map_eq_some_iff.mp h
    have nd : (j :: mus cs).Nodup := nd
    rw [List.nodup_cons] at nd
    by_cases hij : i = j
    · subst hij
      refine ⟨0, k, o, rfl, rfl, fun hl => ?_⟩
      rw [List.getElem?_set_self (by rw [upds_len h1]; exact hl), upds_out h1 nd.1]
    · have hi : i ∈ mus cs := by
        rcases List.mem_cons.mp (show i ∈ j :: mus cs from hi) with z | z
        · exact absurd z hij
        · exact z
      obtain ⟨pos, k', o', h2, h3, h4⟩ := upds_in (cs := cs) (as := as) h1 nd.2 hi
      refine ⟨pos + 1, k', o', by simpa using h2, by simpa using h3, fun hl => ?_⟩
      rw [List.getElem?_set_ne (Ne.symm hij)]
      exact h4 hl
  | .mu _ :: cs, .un :: as, _, h, _, _ => by cases h
  | .mu _ :: cs, .sh _ :: as, _, h, _, _ => by cases h
  | .mu _ :: cs, .ow _ :: as, _, h, _, _ => by cases h
theorem GA.muAt {K : PySem.W.Frag} {i : Nat} : ∀ {cs : List CA} {vs : List V} {as : List Sl} {j : Nat} {B : List Addr}, GA K ρ σ S cs vs as j B → ∀ {pos : Nat}, cs[pos]? = some (.mu i) → (∃ s', ρ[i]? = some s' ∧ s'.isO = true) ∧ ∃ p, (vs.map some)[pos]? = some (some (.ref p)) ∧ σ[i]? = some (some (.ref p)) ∧ p ∈ B
  | _, _, _, _, _, .nil, pos, h => by simp at h
  | _, _, _, _, _, .ex _ g, 0, h => by simp at h
  | _, _, _, _, _, .ln _ _ _ g, 0, h => by simp at h
  | _, _, _, _, _, @GA.mu _ _ _ _ i' p o s' cs vs as j B h1 h2 h3 g, 0, h => by
    simp at h
    subst h
    refine ⟨⟨s', h2, ?_⟩, p, rfl, h1, List.mem_cons_self⟩
    rcases h3 with rfl | ⟨j', rfl⟩ <;> rfl
  | _, _, _, _, _, .ex _ g, pos + 1, h => g.muAt (pos := pos) (by simpa using h)
  | _, _, _, _, _, .ln _ _ _ g, pos + 1, h => g.muAt (pos := pos) (by simpa using h)
  | _, _, _, _, _, .mu _ _ _ g, pos + 1, h => by
    obtain ⟨h1, p, h2, h3, h4⟩ := g.muAt (pos := pos) (by simpa using h)
    exact ⟨h1, p, h2, h3, List.mem_cons_of_mem _ h4⟩
theorem put_isO {s : Sl} {o : Ob} : (s.put o).isO = s.isO := by cases s <;> rfl
open Classical in
/-- the state behind the call -/
theorem call_out (s : SR F ρ σ S M H) {cs : List CA} {vs : List V} {as as' : List Sl} {B : List Addr} (ok : caOk cs) (g : GA F.K ρ σ S cs vs as 0 B) {S' M' H' : Hp} (sc : SR ⟨F.g, B, lendM ρ σ cs M⟩ as' (vs.map some) S' M' H') (ex : Ext (lendS ρ σ cs S M) S')
    (hNL : lents ρ cs = [] ∨ as'.all slNL = true) {ρ' : En} (hu : upds ρ cs as' = some ρ') :
    ∃ S2 M2, Ext S S2 ∧ SR F ρ' σ S2 M2 H' ∧ ∀ rv v, RVok ⟨F.g, B, lendM ρ σ cs M⟩ as' (vs.map some) S' M' v rv → (lents ρ cs = [] ∨ rvNL rv = true) → RVok F ρ' σ S2 M2 v rv := by
  have noL : lents ρ cs = [] → ∀ a, ¬ InL ρ σ cs a := fun e a ⟨i, hi, _⟩ => by rw [e] at hi; cases hi
  have inS : ∀ a, InL ρ σ cs a → ∃ u, M a = some u ∧ S' a = some u ∧ M' a = none := fun a ha => by
    obtain ⟨u, hu⟩ := ha.inM s
    have e : S' a = some u := ex a u (by unfold lendS; rw [if_pos ha]; exact hu)
    refine ⟨u, hu, e, ?_⟩
    rcases sc.dis a with z | z
    · rw [e] at z; cases z
    · exact z
  have keepM : ∀ a u, a ∉ B → ¬ InL ρ σ cs a → M a = some u → M' a = some u := fun a u hB hL e => sc.keep a u hB (by
    show lendM ρ σ cs M a = some u
    unfold lendM
    rw [if_neg hL]; exact e)
  have notB : ∀ (i : Nat) sl p, i ∉ mus cs → ρ[i]? = some sl → sl.isO = true → σ[i]? = some (some (.ref p)) → p ∉ B := fun i sl p hi h o e hp => by
    obtain ⟨i', hi', ⟨s', h1, h2⟩, e'⟩ := g.inB p hp
    have hne : i ≠ i' := fun z => hi (by rw [z]; exact hi')
    exact s.sep i i' sl s' hne h h1 o h2 (e.trans e'.symm)
  -- the lent part is taken back
  refine ⟨fun a => if InL ρ σ cs a then none else S' a, fun a => if InL ρ σ cs a then M a else M' a, ?_, ?_⟩
  · intro a o e
    have h1 : ¬ InL ρ σ cs a := fun z => by
      obtain ⟨u, hu⟩ := z.inM s
      rcases s.dis a with q | q
      · rw [e] at q; cases q
      · rw [hu] at q; cases q
    show (if InL ρ σ cs a then none else S' a) = some o
    rw [if_neg h1]
    exact ex a o (lendS_ext s cs a o e)
  · have e2 : Ext S (fun a => if InL ρ σ cs a then none else S' a) := by
      intro a o e
      have h1 : ¬ InL ρ σ cs a := fun z => by
        obtain ⟨u, hu⟩ := z.inM s
        rcases s.dis a with q | q
        · rw [e] at q; cases q
        · rw [hu] at q; cases q
      show (if InL ρ σ cs a then none else S' a) = some o
      rw [if_neg h1]
      exact ex a o (lendS_ext s cs a o e)
    have lessS : Less S' (fun a => if InL ρ σ cs a then none else S' a) := fun a => by
      by_cases h : InL ρ σ cs a
      · obtain ⟨u, h1, h2, _⟩ := inS a h
        exact .inr ⟨u, h2, s.kind.1 a u h1⟩
      · exact .inl (if_neg h)
    have same : lents ρ cs = [] → Ext S' (fun a => if InL ρ σ cs a then none else S' a) := fun e a o q => by
      show (if InL ρ σ cs a then none else S' a) = some o
      rw [if_neg (noL e a)]; exact q
    have rpk : ∀ v d, Rp F.K S' v d → (lents ρ cs = [] ∨ noList d = true) → Rp F.K (fun a => if InL ρ σ cs a then none else S' a) v d := fun v d r h => by
      rcases h with h | h
      · exact r.mono (same h)
      · exact r.less lessS h
    have ork : ∀ u o, OR F.K S' u o → (lents ρ cs = [] ∨ obNL o = true) → OR F.K (fun a => if InL ρ σ cs a then none else S' a) u o := fun u o r h => by
      rcases h with h | h
      · exact r.mono (same h)
      · exact r.less lessS h
    have hlen : ρ'.length = ρ.length := upds_len hu
    -- an owned slot behind the call
    have ownSlot : ∀ (i : Nat) sl, ρ'[i]? = some sl → sl.isO = true → ∃ sl0, ρ[i]? = some sl0 ∧ sl0.isO = true := fun i sl h o => by
      by_cases hi : i ∈ mus cs
      · obtain ⟨pos, k, o', h1, h2, h3⟩ := upds_in hu ok.1 hi
        exact (g.muAt h2).1
      · rw [upds_out hu hi] at h
        exact ⟨sl, h, o⟩
    refine ⟨⟨hlen.trans s.len, fun a o e => ?_, fun a o e => ?_, fun a => ?_, fun a o ha e => ?_, fun a ha => ?_, fun a ha => ?_, ⟨fun a o e => ?_, fun ht a => ?_⟩, fun i sl v h ev => ?_, fun i j a b hij ha hb oa ob => ?_⟩, fun rv v r hrv => ?_⟩
    · have e : (if InL ρ σ cs a then none else S' a) = some o := e
      split at e
      · cases e
      · exact sc.sub a o e
    · have e : (if InL ρ σ cs a then M a else M' a) = some o := e
      split at e
      · rename_i hL
        obtain ⟨u, h1, h2, _⟩ := inS a hL
        rw [h1] at e
        cases e
        exact sc.sub a _ h2
      · exact sc.own a o e
    · show (if InL ρ σ cs a then none else S' a) = none ∨ (if InL ρ σ cs a then M a else M' a) = none
      by_cases h : InL ρ σ cs a
      · rw [if_pos h]; exact .inl rfl
      · rw [if_neg h, if_neg h]; exact sc.dis a
    · have e1 := s.keep a o ha e
      show (if InL ρ σ cs a then M a else M' a) = some o
      by_cases h : InL ρ σ cs a
      · rw [if_pos h]; exact e1
      · rw [if_neg h]
        refine keepM a o (fun hB => ?_) h e1
        obtain ⟨i, hi, ⟨s', h1, h2⟩, e'⟩ := g.inB a hB
        have q := s.slot i s' _ h1 e'
        cases s' with
        | un => cases h2
        | sh d => cases h2
        | ow x =>
          obtain ⟨p, u, ep, _, _, q0, _⟩ := q
          cases ep
          rw [q0] at e; cases e
        | bo k x =>
          obtain ⟨p, u, ep, q0, _⟩ := q
          cases ep
          exact ha (List.mem_of_getElem? q0)
    · obtain ⟨u, hu'⟩ := s.bth a ha
      show ∃ u, (if InL ρ σ cs a then M a else M' a) = some u
      by_cases h : InL ρ σ cs a
      · rw [if_pos h]; exact ⟨u, hu'⟩
      · rw [if_neg h]
        by_cases hB : a ∈ B
        · exact sc.bth a hB
        · exact ⟨u, keepM a u hB h hu'⟩
    · obtain ⟨t1, t2, t3⟩ := sc.tab a ha
      obtain ⟨_, _, t3'⟩ := s.tab a ha
      have h : ¬ InL ρ σ cs a := fun z => by
        obtain ⟨u, hu⟩ := z.inM s
        rw [t3'] at hu; cases hu
      refine ⟨t1, ?_, ?_⟩
      · show (if InL ρ σ cs a then none else S' a) = none
        rw [if_neg h]; exact t2
      · show (if InL ρ σ cs a then M a else M' a) = none
        rw [if_neg h]; exact t3
    · have e : (if InL ρ σ cs a then M a else M' a) = some o := e
      split at e
      · exact s.kind.1 a o e
      · exact sc.kind.1 a o e
    · show TdOk (if InL ρ σ cs a then none else S' a)
      by_cases h : InL ρ σ cs a
      · rw [if_pos h]; trivial
      · rw [if_neg h]; exact sc.kind.2 ht a
    · by_cases hi : i ∈ mus cs
      · obtain ⟨pos, k, o', h1, h2, h3⟩ := upds_in hu ok.1 hi
        obtain ⟨⟨s', hs', os'⟩, p, hv, hσ, hpB⟩ := g.muAt h2
        have hl : i < ρ.length := (List.getElem?_eq_some_iff.mp hs').1
        rw [h3 hl, hs'] at h
        cases h
        rw [hσ] at ev
        cases ev
        have q := sc.slot pos (.bo k o') _ h1 hv
        obtain ⟨p', u', ep, _, hM', hOR⟩ := q
        cases ep
        have hnl : ¬ InL ρ σ cs p := mu_not_lent s ok hi hs' os' hσ
        have hOR2 : OR F.K (fun a => if InL ρ σ cs a then none else S' a) u' o' := ork u' o' hOR (by
          rcases hNL with z | z
          · exact .inl z
          · have := List.all_eq_true.mp z _ (List.mem_of_getElem? h1)
            exact .inr this)
        have hM2 : (if InL ρ σ cs p then M p else M' p) = some u' := by rw [if_neg hnl]; exact hM'
        have q := s.slot i s' _ hs' hσ
        cases s' with
        | un => cases os'
        | sh d => cases os'
        | ow x =>
          obtain ⟨p2, u2, ep, _, _, q0, q1⟩ := q
          cases ep
          exact ⟨p, u', rfl, hM2, hOR2, q0, q1⟩
        | bo k2 x =>
          obtain ⟨p2, u2, ep, q0, _⟩ := q
          cases ep
          exact ⟨p, u', rfl, q0, hM2, hOR2⟩
      · rw [upds_out hu hi] at h
        have q := s.slot i sl v h ev
        have fin : ∀ p u, v = some (.ref p) → sl.isO = true → M p = some u → (if InL ρ σ cs p then M p else M' p) = some u := fun p u ep os hM => by
          subst ep
          by_cases hL : InL ρ σ cs p
          · rw [if_pos hL]; exact hM
          · rw [if_neg hL]; exact keepM p u (notB i sl p hi h os ev) hL hM
        cases sl with
        | un => trivial
        | sh d =>
          obtain ⟨x, ex', r⟩ := q
          exact ⟨x, ex', r.mono e2⟩
        | ow x =>
          obtain ⟨p, u, ep, hM, hO, q0, q1⟩ := q
          exact ⟨p, u, ep, fin p u ep rfl hM, hO.mono e2, q0, q1⟩
        | bo k x =>
          obtain ⟨p, u, ep, q0, hM, hO⟩ := q
          exact ⟨p, u, ep, q0, fin p u ep rfl hM, hO.mono e2⟩
    · obtain ⟨a0, ha0, oa0⟩ := ownSlot i a ha oa
      obtain ⟨b0, hb0, ob0⟩ := ownSlot j b hb ob
      exact s.sep i j a0 b0 hij ha0 hb0 oa0 ob0
    · cases rv with
      | val d =>
        exact rpk v d r (by
          rcases hrv with z | z
          · exact .inl z
          · exact .inr z)
      | own o =>
        obtain ⟨p, u, ep, hM', hO, h0, hB, hs⟩ := r
        have h0 : lendM ρ σ cs M p = none := h0
        have hL : ¬ InL ρ σ cs p := fun z => by
          obtain ⟨_, _, _, z3⟩ := inS p z
          rw [z3] at hM'; cases hM'
        have hMp : M p = none := by
          unfold lendM at h0
          rw [if_neg hL] at h0
          exact h0
        refine ⟨p, u, ep, ?_, ork u o hO (by
          rcases hrv with z | z
          · exact .inl z
          · exact .inr z), ?_, fun z => ?_, fun i sl h os e => ?_⟩
        · show (if InL ρ σ cs p then M p else M' p) = some u
          rw [if_neg hL]; exact hM'
        · cases q : F.M0 p with
          | none => rfl
          | some x =>
            by_cases hp : p ∈ F.B
            · obtain ⟨y, hy⟩ := s.bth p hp
              rw [hMp] at hy; cases hy
            · have := s.keep p x hp q
              rw [hMp] at this; cases this
        · obtain ⟨y, hy⟩ := s.bth p z
          rw [hMp] at hy; cases hy
        · obtain ⟨sl0, hs0, os0⟩ := ownSlot i sl h os
          obtain ⟨p', e1, y, hy⟩ := s.slO hs0 e os0
          cases e1
          rw [hMp] at hy; cases hy
end
/-! ### the call -/
section
variable {ι : Type} {X : ι → Cx} {G : GC} {W : WX} {pos : Pos} {e : Expr} {es : List Expr}
theorem ev_callF {ts : TA} {cs : List CA} {m : List Sl → Res RV} (he : EvOs G W ts (cs.map CA.opd)) (ok : caOk cs) : EvR G W (tCallS (FSp cs.length G m) (WE W) ts) (callF m cs) := by
  intro F ρ σ S M H Q hg s p
  have p := Res.post_bind p
  refine ev_runs he F ρ σ S M H _ hg s (Res.post_mono p (fun xs ρ1 q vs S1 M1 H1 e1 s1 o1 => ?_) fun k ρ1 q => q)
  cases hga : gather ρ1 cs xs 0 with
  | none =>
    have q : ((match gather ρ1 cs xs 0 with | none => Res.no | some as => _ : Res RV)).post _ _ := q
    rw [hga] at q
    exact q.elim
  | some as =>
    obtain ⟨B, g⟩ := gather_ok s1 cs o1 hga
    have hl : vs.length = cs.length := by rw [o1.len, List.length_map]
    refine ⟨hl, as, B, lendS ρ1 σ cs S1 M1, lendM ρ1 σ cs M1, by rw [← hg]; exact call_in s1 ok g, ?_⟩
    have q : ((match gather ρ1 cs xs 0 with | none => Res.no | some as => (match m as with
      | .ok rv as' => if ((lents ρ1 cs).isEmpty || (rvNL rv && as'.all slNL)) = true then (match upds ρ1 cs as' with
        | some ρ' => .ok rv ρ'
        | none => .no) else .no
      | .err k as' => if ((lents ρ1 cs).isEmpty || as'.all slNL) = true then (match upds ρ1 cs as' with
        | some ρ' => .err k ρ'
        | none => .no) else .no
      | .no => .no) : Res RV)).post _ _ := q
    rw [hga] at q
    have q : ((match m as with
      | .ok rv as' => if ((lents ρ1 cs).isEmpty || (rvNL rv && as'.all slNL)) = true then (match upds ρ1 cs as' with
        | some ρ' => .ok rv ρ'
        | none => .no) else .no
      | .err k as' => if ((lents ρ1 cs).isEmpty || as'.all slNL) = true then (match upds ρ1 cs as' with
        | some ρ' => .err k ρ'
        | none => .no) else .no
      | .no => .no : Res RV)).post _ _ := q
    cases hm : m as with
    | no => rw [hm] at q; exact q.elim
    | ok rv as' =>
      rw [hm] at q
      intro v S2 M2 H2 e2 s2 r2
      by_cases hc : ((lents ρ1 cs).isEmpty || (rvNL rv && as'.all slNL)) = true
      · have q : ((if ((lents ρ1 cs).isEmpty || (rvNL rv && as'.all slNL)) = true then (match upds ρ1 cs as' with | some ρ' => .ok rv ρ' | none => .no) else .no : Res RV)).post _ _ := q
        rw [if_pos hc] at q
        cases hu : upds ρ1 cs as' with
        | none => rw [hu] at q; exact q.elim
        | some ρ' =>
          rw [hu] at q
          have hc' : lents ρ1 cs = [] ∨ (rvNL rv = true ∧ as'.all slNL = true) := by
            rw [Bool.or_eq_true, Bool.and_eq_true] at hc
            rcases hc with z | z
            · exact .inl (List.isEmpty_iff.mp z)
            · exact .inr z
          obtain ⟨S3, M3, e3, s3, r3⟩ := call_out s1 ok g (by rw [hg]; exact s2) e2 (hc'.imp id (·.2)) hu
          exact q v S3 M3 H2 (e1.trans e3) s3 (r3 rv v (by rw [hg]; exact r2) (hc'.imp id (·.1)))
      · have q : ((if ((lents ρ1 cs).isEmpty || (rvNL rv && as'.all slNL)) = true then (match upds ρ1 cs as' with | some ρ' => .ok rv ρ' | none => .no) else .no : Res RV)).post _ _ := q
        rw [if_neg hc] at q
        exact q.elim
    | err k as' =>
      rw [hm] at q
      intro S2 M2 H2 e2 s2
      by_cases hc : ((lents ρ1 cs).isEmpty || as'.all slNL) = true
      · have q : ((if ((lents ρ1 cs).isEmpty || as'.all slNL) = true then (match upds ρ1 cs as' with | some ρ' => .err k ρ' | none => .no) else .no : Res RV)).post _ _ := q
        rw [if_pos hc] at q
        cases hu : upds ρ1 cs as' with
        | none => rw [hu] at q; exact q.elim
        | some ρ' =>
          rw [hu] at q
          have hc' : lents ρ1 cs = [] ∨ as'.all slNL = true := by
            rw [Bool.or_eq_true] at hc
            rcases hc with z | z
            · exact .inl (List.isEmpty_iff.mp z)
            · exact .inr z
          obtain ⟨S3, M3, e3, s3, _⟩ := call_out s1 ok g (by rw [hg]; exact s2) e2 hc' hu
          have := q S3 M3 H2 (e1.trans e3) s3
          rw [hg] at this
          exact this
      · have q : ((if ((lents ρ1 cs).isEmpty || as'.all slNL) = true then (match upds ρ1 cs as' with | some ρ' => .err k ρ' | none => .no) else .no : Res RV)).post _ _ := q
        rw [if_neg hc] at q
        exact q.elim
theorem rx_call {P : Program} {w : World} {mg : Str → Option Value} {base : Heap} {k k' : Nat} {N : List Str} {f : Addr} {fd : FuncData} {ps : List Str} {m : List Sl → Res RV} {cs : List CA} {x : Str} {p : Pos}
    (c : Cxs P w G mg base k N W X) (F : FnOk P w G.K mg base (L2N.CX P w) k' f fd ps (FSp cs.length G m)) (hk : k' ≤ k) (ok : caOk cs) (hg : ∀ i, Gl (X i) x) (hm : mg x = some (.ref f)) (kp : PySem.W.keepIn G.K (.ref f) = true) (hb : Binds G.K fd ps [])
    (ha : AX X G W (e :: es) (cs.map CA.opd)) (hdb : (x == ("__debug__" : Str)) = false) (he : ∀ i, starEach (e :: es) (X i).env = (false, eval e (X i).env) :: starEach es (X i).env) (hpl : ∀ i, (backTo pos (starEach es (X i).env)).any (·.1) = false) :
    RX X G W (.Call (.Name x p) (e :: es) [] pos) (callF m cs) := by
  obtain ⟨ts, pa, ev⟩ := ha
  refine ⟨_, fun i => ?_, ev_callF ev ok⟩
  refine pe_callS (CX := L2N.CX (X i).prog (X i).w) (k := k') (f := f) (fd := fd) (ps := ps) ?_ ((c.room i).mono hk) (hg i) (by rw [c.mg i]; exact hm) (by rw [c.K i]; exact kp) (by rw [c.K i]; exact hb) (fun σ => L2N.passAt (c.tk i) σ) (pa i) hdb (he i) (hpl i)
  rw [c.prog i, c.w i, c.K i, c.mg i, c.base i]
  exact F
end
/-! ### a def -/
/-- what has become of the arguments -/
def finA : List Sl → En → Option (List Sl)
  | [], _ => some []
  | .bo j _ :: as, .bo j' o :: ρ => if j = j' then (finA as ρ).map (.bo j o :: ·) else none
  | .bo _ _ :: _, _ => none
  | .un :: as, _ :: ρ => (finA as ρ).map (.un :: ·)
  | .sh _ :: as, _ :: ρ => (finA as ρ).map (.un :: ·)
  | .ow _ :: as, _ :: ρ => (finA as ρ).map (.un :: ·)
  | _ :: _, [] => none
/-- the body's answer as the def's -/
def bodyF (n N : Nat) (f : P Fl) : List Sl → Res RV := fun as => match f (as ++ List.replicate (N - n) .un) with
  | .ok (.rt rv) ρ => (match finA as ρ with
    | some as' => .ok rv as'
    | none => .no)
  | .ok .nx ρ => (match finA as ρ with
    | some as' => .ok (.val .none) as'
    | none => .no)
  | .err k ρ => (match finA as ρ with
    | some as' => .err k as'
    | none => .no)
  | _ => .no
abbrev DIx (N : List Str) (qual : Str) (st : Stmt) (f : Addr) (k : Nat) : Type := { x : Value × Around × List Env × Shared × Hp // Room k (x.2.1.deeper (envOfC qual (defScope st) x.2.2.2.1.heap.objs.size f x.1)) }
def defX (P : Program) (w : World) (K : PySem.W.Frag) (mg : Str → Option Value) (base : Heap) (N : List Str) (qual : Str) (st : Stmt) (f : Addr) (k : Nat) (E : XK) : DIx N qual st f k → Cx := fun x =>
  cxOf (L2N.CX P w) P w K mg base N qual (defScope st) f x.1.1 x.1.2.1 x.1.2.2.1 x.1.2.2.2.1 x.1.2.2.2.2 E
abbrev wE (E : XK) : WX := fun cls d _ H => E cls d H
theorem cxs_def {P : Program} {w : World} {G : GC} {mg : Str → Option Value} {base : Heap} {N ps : List Str} {qual : Str} {st : Stmt} {f : Addr} {k : Nat} (S : FnScope N ps (defScope st)) (E : XK) : Cxs P w G mg base k N (wE E) (defX P w G.K mg base N qual st f k E) where
  prog := fun _ => rfl
  w := fun _ => rfl
  K := fun _ => rfl
  mg := fun _ => rfl
  base := fun _ => rfl
  calm := fun _ => rfl
  room := fun i => i.2
  names := fun _ => rfl
  nd := S.nd
  tk := fun i => L2N.takes_of (X := defX P w G.K mg base N qual st f k E i) rfl rfl rfl rfl
theorem finA_ok {G : GC} {B : List Addr} {M0 : Hp} {ρ : En} {σ : St} {S M H : Hp} (s : SR ⟨G, B, M0⟩ ρ σ S M H) : ∀ {as as' : List Sl} {vs : List V} {ρ' : En} {σ' : St}, finA as ρ' = some as' →
    (∀ (i : Nat) sl v, as[i]? = some sl → (vs.map some)[i]? = some v → ∀ j o, sl = .bo j o → ∃ p, v = some (.ref p) ∧ B[j]? = some p) → (∀ (i : Nat) sl v, ρ'[i]? = some sl → σ'[i]? = some v → SlOk ⟨G, B, M0⟩ S M v sl) → ρ'.length ≤ σ'.length →
    as'.length = as.length ∧ ∀ (i : Nat) sl, as'[i]? = some sl → sl = .un ∨ ∃ j o, sl = .bo j o ∧ (∀ v, (vs.map some)[i]? = some v → SlOk ⟨G, B, M0⟩ S M v sl) ∧ ρ'[i]? = some sl ∧ ∀ v, (vs.map some)[i]? = some v → σ'[i]? = some v
  | [], as', vs, ρ', σ', h, _, _, _ => by
    cases h
    exact ⟨rfl, fun i sl h => by simp at h⟩
  | .bo j o :: as, as', vs, .bo j' o' :: ρ', σ', h, ha, hs, hl => by
    have h0 : (if j = j' then (finA as ρ').map (Sl.bo j o' :: ·) else none) = some as' := h
    clear h
    split at h0
    · rename_i hj
      subst hj
      have h := h0
      clear h0
      obtain ⟨as2, h2, rfl⟩ := Option.map_eq_some_iff.mp h
      cases σ' with
      | nil => simp at hl
      | cons v σ' =>
        have ih := fun ha => finA_ok s (vs := vs.tail) (σ' := σ') h2 ha (fun i sl v e1 e2 => hs (i + 1) sl v (by simpa using e1) (by simpa using e2)) (by simpa using hl)
        have ht : ∀ (i : Nat), (vs.tail.map some)[i]? = (vs.map some)[i + 1]? := fun i => by cases vs <;> simp
        obtain ⟨h3, h4⟩ := ih (fun i sl v e1 e2 => ha (i + 1) sl v (by simpa using e1) (by rw [← ht]; exact e2))
        refine ⟨by simp [h3], fun i sl e => ?_⟩
        cases i with
        | zero =>
          simp at e
          subst e
          have key : ∀ w, (vs.map some)[0]? = some w → w = v ∧ SlOk ⟨G, B, M0⟩ S M w (.bo j o') := fun w ew => by
            obtain ⟨p, e1, e2⟩ := ha 0 _ w rfl ew j o rfl
            obtain ⟨p', u, e3, e4, e5, e6⟩ := hs 0 _ v rfl rfl
            have e2 : B[j]? = some p := e2
            have e4 : B[j]? = some p' := e4
            rw [e2] at e4
            cases e4
            exact ⟨e1.trans e3.symm, p, u, e1, e2, e5, e6⟩
          exact .inr ⟨j, o', rfl, fun w ew => (key w ew).2, rfl, fun w ew => by rw [(key w ew).1]; rfl⟩
        | succ i =>
          rcases h4 i sl (by simpa using e) with q | ⟨j2, o2, q1, q2, q3, q4⟩
          · exact .inl q
          · exact .inr ⟨j2, o2, q1, fun v ev => q2 v (by rw [ht]; exact ev), by simpa using q3, fun v ev => by simpa using q4 v (by rw [ht]; exact ev)⟩
    · cases h0
  | .bo j o :: as, as', vs, [], σ', h, ha, hs, hl => by cases h
  | .bo j o :: as, as', vs, .un :: ρ', σ', h, ha, hs, hl => by cases h
  | .bo j o :: as, as', vs, .sh _ :: ρ', σ', h, ha, hs, hl => by cases h
  | .bo j o :: as, as', vs, .ow _ :: ρ', σ', h, ha, hs, hl => by cases h
  | .un :: as, as', vs, [], σ', h, ha, hs, hl => by cases h
  | .sh _ :: as, as', vs, [], σ', h, ha, hs, hl => by cases h
  | .ow _ :: as, as', vs, [], σ', h, ha, hs, hl => by cases h
  | .un :: as, as', vs, _ :: ρ', σ', h, ha, hs, hl => by
    obtain ⟨as2, h2, rfl⟩ := Option.map_eq_some_iff.mp h
    cases σ' with
    | nil => simp at hl
    | cons v σ' =>
      have ht : ∀ (i : Nat), (vs.tail.map some)[i]? = (vs.map some)[i + 1]? := fun i => by cases vs <;> simp
      obtain ⟨h3, h4⟩ := finA_ok s (vs := vs.tail) (σ' := σ') h2 (fun i sl v e1 e2 => ha (i + 1) sl v (by simpa using e1) (by rw [← ht]; exact e2)) (fun i sl v e1 e2 => hs (i + 1) sl v (by simpa using e1) (by simpa using e2)) (by simpa using hl)
      refine ⟨by simp [h3], fun i sl e => ?_⟩
      cases i with
      | zero => simp at e; exact .inl e.symm
      | succ i =>
        rcases h4 i sl (by simpa using e) with q | ⟨j2, o2, q1, q2, q3, q4⟩
        · exact .inl q
        · exact .inr ⟨j2, o2, q1, fun v ev => q2 v (by rw [ht]; exact ev), by simpa using q3, fun v ev => by simpa using q4 v (by rw [ht]; exact ev)⟩
  | .sh _ :: as, as', vs, _ :: ρ', σ', h, ha, hs, hl => by
    obtain ⟨as2, h2, rfl⟩ := Option.map_eq_some_iff.mp h
    cases σ' with
    | nil => simp at hl
    | cons v σ' =>
      have ht : ∀ (i : Nat), (vs.tail.map some)[i]? = (vs.map some)[i + 1]? := fun i => by cases vs <;> simp
      obtain ⟨h3, h4⟩ := finA_ok s (vs := vs.tail) (σ' := σ') h2 (fun i sl v e1 e2 => ha (i + 1) sl v (by simpa using e1) (by rw [← ht]; exact e2)) (fun i sl v e1 e2 => hs (i + 1) sl v (by simpa using e1) (by simpa using e2)) (by simpa using hl)
      refine ⟨by simp [h3], fun i sl e => ?_⟩
      cases i with
      | zero => simp at e; exact .inl e.symm
      | succ i =>
        rcases h4 i sl (by simpa using e) with q | ⟨j2, o2, q1, q2, q3, q4⟩
        · exact .inl q
        · exact .inr ⟨j2, o2, q1, fun v ev => q2 v (by rw [ht]; exact ev), by simpa using q3, fun v ev => by simpa using q4 v (by rw [ht]; exact ev)⟩
  | .ow _ :: as, as', vs, _ :: ρ', σ', h, ha, hs, hl => by
    obtain ⟨as2, h2, rfl⟩ := Option.map_eq_some_iff.mp h
    cases σ' with
    | nil => simp at hl
    | cons v σ' =>
      have ht : ∀ (i : Nat), (vs.tail.map some)[i]? = (vs.map some)[i + 1]? := fun i => by cases vs <;> simp
      obtain ⟨h3, h4⟩ := finA_ok s (vs := vs.tail) (σ' := σ') h2 (fun i sl v e1 e2 => ha (i + 1) sl v (by simpa using e1) (by rw [← ht]; exact e2)) (fun i sl v e1 e2 => hs (i + 1) sl v (by simpa using e1) (by simpa using e2)) (by simpa using hl)
      refine ⟨by simp [h3], fun i sl e => ?_⟩
      cases i with
      | zero => simp at e; exact .inl e.symm
      | succ i =>
        rcases h4 i sl (by simpa using e) with q | ⟨j2, o2, q1, q2, q3, q4⟩
        · exact .inl q
        · exact .inr ⟨j2, o2, q1, fun v ev => q2 v (by rw [ht]; exact ev), by simpa using q3, fun v ev => by simpa using q4 v (by rw [ht]; exact ev)⟩
/-- from the body's end to the def's end -/
theorem SR.fin {G : GC} {B : List Addr} {M0 : Hp} {ρ : En} {σ : St} {S M H S0 H0 Ma : Hp} {as as' : List Sl} {vs : List V} (s0 : SR ⟨G, B, M0⟩ as (vs.map some) S0 Ma H0) (s : SR ⟨G, B, M0⟩ ρ σ S M H) (h : finA as ρ = some as') :
    SR ⟨G, B, M0⟩ as' (vs.map some) S M H ∧ ∀ rv v, RVok ⟨G, B, M0⟩ ρ σ S M v rv → RVok ⟨G, B, M0⟩ as' (vs.map some) S M v rv := by
  obtain ⟨h1, h2⟩ := finA_ok s (vs := vs) (σ' := σ) h (fun i sl v e1 e2 j o e => by
    subst e
    obtain ⟨p, u, e3, e4, _⟩ := s0.slot i _ v e1 e2
    exact ⟨p, e3, e4⟩) s.slot (Nat.le_of_eq s.len)
  have hl : as'.length = (vs.map some).length := h1.trans s0.len
  have own : ∀ (i : Nat) sl, as'[i]? = some sl → sl.isO = true → ρ[i]? = some sl ∧ (vs.map some)[i]? = σ[i]? := fun i sl e o => by
    rcases h2 i sl e with q | ⟨j, ob, q1, q2, q3, q4⟩
    · subst q; cases o
    · have hi : i < (vs.map some).length := by rw [← hl]; exact (List.getElem?_eq_some_iff.mp e).1
      have := q4 _ (List.getElem?_eq_getElem hi)
      exact ⟨q3, by rw [this, List.getElem?_eq_getElem hi]⟩
  refine ⟨⟨hl, s.sub, s.own, s.dis, s.keep, s.bth, s.tab, s.kind, fun i sl v e1 e2 => ?_, fun i j a b hij ha hb oa ob => ?_⟩, fun rv v r => ?_⟩
  · rcases h2 i sl e1 with q | ⟨j, ob, q1, q2, q3, q4⟩
    · subst q; trivial
    · exact q2 v e2
  · obtain ⟨a1, a2⟩ := own i a ha oa
    obtain ⟨b1, b2⟩ := own j b hb ob
    rw [a2, b2]
    exact s.sep i j a b hij a1 b1 oa ob
  · cases rv with
    | val d => exact r
    | own o =>
      obtain ⟨p, u, q1, q2, q3, q4, q5, q6⟩ := r
      refine ⟨p, u, q1, q2, q3, q4, q5, fun i sl e os => ?_⟩
      obtain ⟨a1, a2⟩ := own i sl e os
      rw [a2]
      exact q6 i sl a1 os
/-- a block's contexts are contexts -/
theorem cxs_blk {ι : Type} {P : Program} {w : World} {G : GC} {mg : Str → Option Value} {base : Heap} {k : Nat} {N : List Str} {W : WX} {X : ι → Cx} (c : Cxs P w G mg base k N W X) (scope : Scope) : Cxs P w G mg base k N W0 (blkX X scope) where
  prog := fun i => c.prog i.1
  w := fun i => c.w i.1
  K := fun i => c.K i.1
  mg := fun i => c.mg i.1
  base := fun i => c.base i.1
  calm := fun i => c.calm i.1
  room := fun i => c.room i.1
  names := fun i => c.names i.1
  nd := c.nd
  tk := fun _ => fun _ _ ⟨_, _, _, _, _, _, _, _, _, _, _, _, _, _, _, _, z⟩ => z.elim
end L3

set_option Elab.async false
set_option linter.all false
set_option maxRecDepth 100000
set_option maxHeartbeats 1000000
namespace L3
open PySem PySem.Spec PyProof.Rows L2 GxR GenW

/-! ### generator expressions in any, all -/
/-- a generator expression's own scope -/
structure GenOk (sc scope : Scope) : Prop where
  kind : scope.kind = .function
  co : scope.isCoroutine = false
  cell : ∀ y ∈ scope.names, y.2 ≠ .cell
  dot : scope.names.lookup (".0" : Str) = some NameKind.local
  uniq : ∀ y ∈ scope.names, scope.names.lookup y.1 = some y.2
  free : ∀ y ∈ scope.names, y.2 = .free → sc.names.lookup y.1 = some .cell ∨ sc.names.lookup y.1 = some .free
abbrev genv (X : Cx) (scope : Scope) (C : Addr) (code : Value) : Env := genEnv scope (cloFrom X.env.cells scope.names []) C code builtinsNs X.env
abbrev Cx.gen (X : Cx) (scope : Scope) (Ng : List Str) (s : Shared) (H : Hp) (C : Addr) (code : Value) (A : Around) (fp : List Addr) (pn : List (Addr × Obj)) : Cx :=
  { X with A := A, N := Ng, s_0 := s, H_0 := H, env := genv X scope C code, outer := X.stack, stack := genv X scope C code :: X.stack, ex := fp, fn := fun _ => false, pn := pn, xe := fun _ _ => False }
theorem clo_mem {X : Cx} {pins : List (Addr × Obj)} {σ : St} {H : Hp} {s : Shared} {scope : Scope} (I : Inv X pins σ H s) (ok : GenOk X.env.scope scope) {y : Str} {c : Addr} (h : (cloFrom X.env.cells scope.names []).lookup y = some c) : X.env.cells.lookup y = some c := by
  rcases cloFrom_mem (PySem.mem_of_lookup h) with z | ⟨h1, h2⟩
  · cases z
  · obtain ⟨c', hc⟩ := I.ok.has y (ok.free _ h1 rfl)
    rw [hc] at h2
    have h2 : c = c' := h2
    rw [h2]; exact hc
theorem clo_has {X : Cx} {pins : List (Addr × Obj)} {σ : St} {H : Hp} {s : Shared} {scope : Scope} (I : Inv X pins σ H s) (ok : GenOk X.env.scope scope) {y : Str} (h : scope.names.lookup y = some .free) : ∃ c, X.env.cells.lookup y = some c ∧ (cloFrom X.env.cells scope.names []).lookup y = some c := by
  obtain ⟨c', e'⟩ := mem_lookup (cloFrom_has (cells := X.env.cells) (acc := []) (PySem.mem_of_lookup h))
  exact ⟨c', clo_mem I ok e', e'⟩
theorem gen_start {X : Cx} {pins : List (Addr × Obj)} {σ σg : St} {H : Hp} {s s5 : Shared} {scope : Scope} {Ng : List Str} {code : Value} {A' : Around} {fp : List Addr} {a : Addr} {go : Obj} {m : Str → Option Value} (I : Inv X pins σ H s) (ok : GenOk X.env.scope scope)
    (hfp : ∀ b ∈ fp, FpOk X pins H b ∧ b < s.heap.objs.size) (hhd : A'.handled = none) (hfr : A'.frames = some (genv X scope s.heap.objs.size code :: X.stack)) (hcd : X.calm = true)
    (hlen : σg.length = Ng.length) (hσ : ∀ (i : Nat) (x : Str) (v : V), Ng[i]? = some x → σg[i]? = some (some v) → ∃ j : Nat, X.N[j]? = some x ∧ σ[j]? = some (some v) ∧ scope.names.lookup x = some .free)
    (hos : s5.os = s.os) (hb : AllBare s5.gens) (hk : ∀ b o, s.heap.get? b = some o → s5.heap.get? b = some o) (hn : s5.heap.Ns s.heap.objs.size m) (ha : s.heap.objs.size < a) (hgo : s5.heap.get? a = some go) (hgd : ∀ v, go.data ≠ .cell v) :
    Inv (Cx.gen X scope Ng s H s.heap.objs.size code A' fp [(a, go)]) [] σg H s5 := by
  have cm := fun {y : Str} {c : Addr} (e : (cloFrom X.env.cells scope.names []).lookup y = some c) => clo_mem I ok e
  have clt : ∀ y c, X.env.cells.lookup y = some c → c < s.heap.objs.size := fun y c e => by
    obtain ⟨v, z⟩ := I.cell y c e
    exact z.lt
  have nst : ∀ b, s.heap.objs.size ≤ b → b ∉ frs X.stack := fun b hb z => by
    rcases List.mem_cons.mp (I.stkSub b z) with e | e
    · rw [e] at hb
      exact absurd (Nat.lt_of_lt_of_le I.lt hb) (Nat.lt_irrefl _)
    · exact I.nofs hb e
  have okG : (Cx.gen X scope Ng s H s.heap.objs.size code A' fp [(a, go)]).Ok := by
    refine ⟨I.ok.mod, ok.kind, I.ok.glob, rfl, Nat.le_refl _, fun y z c e1 e2 => I.ok.inj y z c (cm e1) (cm e2), fun y hy => ?_, fun y c z e => (by cases z), fun _ => hhd, hfr, .inr ⟨rfl, rfl⟩,
      fun b hb => ⟨Nat.ne_of_lt (hfp b hb).2, fun y c e => (hfp b hb).1.2.2.2.2.1 y c (cm e)⟩, I.bs, Nat.le_trans I.ok.bsz I.sz, fun b o e hb => ?_, fun b hb z => ?_, I.stack, I.stkFree⟩
    · have hy : scope.names.lookup y = some .cell ∨ scope.names.lookup y = some .free := hy
      rcases hy with hy | hy
      · exact absurd rfl (ok.cell _ (PySem.mem_of_lookup hy))
      · obtain ⟨c, _, h2⟩ := clo_has I ok hy
        exact ⟨c, h2⟩
    · rcases (hfp b hb).1.2.2.2.1 with z | z
      · exact I.ok.noex b o e z
      · exact absurd (Nat.lt_of_lt_of_le (Heap.lt_size e) (Nat.le_trans I.ok.bsz z)) (Nat.lt_irrefl _)
    · rcases List.mem_cons.mp (I.stkSub b z) with z | z
      · exact (hfp b hb).1.2.1 z
      · exact (hfp b hb).1.2.2.1 z
  refine ⟨okG, hos, hb, Un.kept hk, ⟨m, hn, fun i x v e1 e2 e3 => ?_⟩, fun y c e => ?_, ?_, fun y c e => I.freeC y c (cm e), fun p hp => ?_, I.hok.kept hk, hlen⟩
  · obtain ⟨j, h1, h2, h3⟩ := hσ i x v e1 e2
    obtain ⟨m', hn', hl⟩ := I.loc
    have hv : X.env.scope.names.lookup x = some .cell ∨ X.env.scope.names.lookup x = some .free := ok.free _ (PySem.mem_of_lookup h3) rfl
    have hvis : Vis X.env.scope x := .inr hv
    obtain ⟨w, r, q⟩ := hl j x v h1 h2 hvis
    refine ⟨w, r, .inr ⟨.inr h3, ?_⟩⟩
    obtain ⟨c, g1, g2⟩ := clo_has I ok h3
    rcases q with ⟨k, _⟩ | ⟨_, c', e', z⟩
    · have k : X.env.scope.names.lookup x = some .local := k
      rcases hv with k' | k' <;> rw [k'] at k <;> cases k
    · rw [g1] at e'; cases e'
      exact ⟨c, g2, z.keeps hk⟩
  · obtain ⟨v, z⟩ := I.cell y c (cm e)
    exact ⟨v, z.keeps hk⟩
  · exact I.hok.fresh (Nat.le_refl _)
  · have hp : p = (a, go) := by simpa using hp
    subst hp
    exact ⟨hgo, I.hok.fresh (Nat.le_of_lt ha), Nat.ne_of_gt ha, nst a (Nat.le_of_lt ha), hgd⟩
/-- the same objects, all of them kept; the generators' table may differ -/
theorem _root_.L2.Inv.gens {X : Cx} {pins : List (Addr × Obj)} {σ : St} {H : Hp} {s s' : Shared} (I : Inv X pins σ H s) (ho : s'.os = s.os) (hb : AllBare s'.gens) (hk : ∀ b o, s.heap.get? b = some o → s'.heap.get? b = some o) : Inv X pins σ H s' :=
  I.call' (ch := []) ho (Un.kept hk) (I.hok.kept hk) hb fun b hb => by cases hb

/-- while the generator sleeps -/
structure Woken (s s' : Shared) : Prop where
  os : s'.os = s.os
  bare : AllBare s'.gens
  keep : ∀ b o, s.heap.get? b = some o → s'.heap.get? b = some o
def YB (X : Cx) (b : Bool) (Q1 : Hp → Prop) : Protocol := fun n s₀ v s kap => ∃ y pins τ H', Inv X pins τ H' s ∧ RelV y v ∧ ∃ z, y = .bl z ∧ ((z = b → Q1 H') ∧ (z ≠ b → ∀ s', Woken s s' → kap (.send .none) s'))
def RF (X : Cx) (Q0 : Hp → Prop) : Nat → Shared → Shared → Prop := fun _ _ s₁ => ∃ pins τ H', Inv X pins τ H' s₁ ∧ Q0 H'
abbrev RB (X : Cx) (Q0 : Hp → Prop) : GenEnd := fun n s₀ r s₁ => ((r = .ok (.ret .none) ∨ r = .ok .next) ∧ RF X Q0 n s₀ s₁) ∨ ∃ e, r = .error e ∧ (fun (_ : Value) (_ : Shared) => False) e s₁

/-! ### the generator's run -/
section
variable {P : Program} {w : World}
def tAnyG (b : Bool) (Pt : Addr) (wi : TI) (cap : List Nat) (no : Nat) (g : TG) (tt : TT) (te : TE) : TE := fun σ H Q => wi σ H fun J H1 => TabG H1 Pt ∧ ∀ H2, Tabbed Pt H1 H2 → ∃ vs : List V, cap.map (fun i => σ[i]?) = vs.map (fun v => some (some v)) ∧
  ∃ W : Nat → Nat → St → Hp → Prop, (∃ m, W 0 m (vs.map some ++ List.replicate no none) H2) ∧ ∀ i m τ H, W i m τ H →
    (J.stop i H ∧ Q (.bl (!b)) H) ∨ (J.go i H ∧ ∃ Nx : St → Hp → Prop, (∀ τ' H', Nx τ' H' → ∃ m', m' < m ∧ W (i + 1) m' τ' H') ∧ ∀ x H', J.yld i H x H' → g x τ H' fun τ2 H2 => tt τ2 H2 fun c H3 =>
      if c = true then te τ2 H3 fun y H4 => ∃ z, y = .bl z ∧ if z = b then Q (.bl b) H4 else Nx τ2 H4 else Nx τ2 H3)

theorem seg_anyG {X : Cx} {A2 : Around} {elt tg iter : Expr} {ifs : List Expr} {scope : Scope} {pos : Pos} {it : Addr} {fp : List Addr} {tn : Nat → Heap → Prop} {J : It} {b : Bool} {Q0 Q1 : Hp → Prop} {g : TG} {tt : TT} {te : TE} {W : Nat → Nat → St → Hp → Prop}
    (hA : A2.over (.compLoop (.GeneratorExp elt [⟨tg, iter, ifs, 0⟩] scope pos) 0 (.ref it) .none X.env) [] = X.A) (hcalm : X.calm = true) (hex : X.ex = fp) (hco : X.env.scope.isCoroutine = false) (hpn : ∀ p ∈ X.pn, ∀ b ∈ fp, p.1 ≠ b)
    (T : Turn X.prog X.w X.K tg J fp it tn) (pg : PG X tg g) (pt : PTs X ifs tt) (pe : PE X elt te) (hxe : X.xe = fun _ _ => False)
    (turn : ∀ i m τ H, W i m τ H → (J.stop i H ∧ Q0 H) ∨ (J.go i H ∧ ∃ Nx : St → Hp → Prop, (∀ τ' H', Nx τ' H' → ∃ m', m' < m ∧ W (i + 1) m' τ' H') ∧ ∀ x H', J.yld i H x H' → g x τ H' fun τ2 H2 => tt τ2 H2 fun c H3 =>
      if c = true then te τ2 H3 fun y H4 => ∃ z, y = .bl z ∧ if z = b then Q1 H4 else Nx τ2 H4 else Nx τ2 H3)) :
    ∀ (m n i : Nat) (τ : St) (H : Hp) (s₀ s : Shared), m < n → W i m τ H → Inv X [] τ H s → tn i s.heap → (∀ b ∈ fp, H b = none) →
      Seg (model X.prog X.w) A2 (RB X Q0) (YB X b Q1) n s₀ (.compLoop (.GeneratorExp elt [⟨tg, iter, ifs, 0⟩] scope pos) 0 (.ref it) .none X.env)
        ((model X.prog X.w).den (.compLoop (.GeneratorExp elt [⟨tg, iter, ifs, 0⟩] scope pos) 0 (.ref it) .none X.env)) [] s := by
  have stat : ∀ {σ' : St} {H' : Hp} {s' : Shared}, Inv X [] σ' H' s' → (∀ b ∈ fp, H' b = none) → ∀ b ∈ fp, FpOk X [] H' b := fun {σ' H' s'} I' hn b hb => by
    have hb' : b ∈ X.ex := by rw [hex]; exact hb
    refine ⟨hn b hb, (I'.ok.exf b hb').1, I'.ok.exfs b hb', .inl hb', fun x c e => (I'.ok.exf b hb').2 x c e, fun p hp => hpn p (by simpa using hp) b hb⟩
  intro m
  induction m using Nat.strongRecOn with
  | ind m ih =>
    intro n i τ H s₀ s hmn hw I st hn
    show Seg _ A2 _ _ _ s₀ _ ((compTurn (.GeneratorExp elt [⟨tg, iter, ifs, 0⟩] scope pos) 0 (.ref it) .none X.env).onRaise (leaving X.env)) [] s
    rw [compTurn_gen, Sem.onRaise_eq_wrap]
    refine seg_bind_wrap (wpAny_standAt ?_)
    rcases turn i m τ H hw with ⟨stop, q0⟩ | ⟨hgo, Nx, hNx, step⟩
    · refine seg_bind_wrap ?_
      rw [hA]
      refine thnF (T.done X rfl rfl rfl hcalm i [] s τ H (fun _ _ => False) I (stat I hn) st stop) fun r s1 ⟨hr, I1⟩ => ?_
      subst hr
      exact seg_end (.ok .next) (.inl ⟨.inr rfl, [], τ, H, I1, q0⟩)
    · refine seg_bind_wrap ?_
      rw [hA]
      refine thnF (T.item X rfl rfl rfl hcalm i [] s τ H (fun _ _ => False) I (stat I hn) st hgo) fun r s1 ⟨u, hr, h1⟩ => ?_
      subst hr
      refine seg_bind_wrap ?_
      rw [hA]
      refine thnF h1 fun _ s2 ⟨x, H2, I2, r2, y2, st2, n2⟩ => ?_
      have I2' := I2.pinned (stat I2 n2) (T.obj _ _ st2)
      refine seg_bind_wrap ?_
      rw [hA]
      have pgr := pg.run ([] ++ pinsAt fp s2.heap) s2 τ H2 x u _ I2' r2 (step x H2 y2)
      rw [hxe] at pgr
      refine thnF pgr fun _ s3 ⟨τ3, H3, I3, q3⟩ => ?_
      refine seg_bind_wrap ?_
      rw [hA]
      have ptr := pt.run _ s3 τ3 H3 _ I3 q3
      rw [hxe] at ptr
      refine thnF ptr fun c s4 ⟨H4, I4, q4⟩ => ?_
      -- the turn's end
      have fin : ∀ {s' : Shared} {H' : Hp} {τ' : St}, Inv X ([] ++ pinsAt fp s2.heap) τ' H' s' → Nx τ' H' → ∀ (n' : Nat) (s₀' : Shared), m < n' + 1 → Seg (model X.prog X.w) A2 (RB X Q0) (YB X b Q1) n' s₀' (.compLoop (.GeneratorExp elt [⟨tg, iter, ifs, 0⟩] scope pos) 0 (.ref it) .none X.env)
          ((model X.prog X.w).den (.compLoop (.GeneratorExp elt [⟨tg, iter, ifs, 0⟩] scope pos) 0 (.ref it) .none X.env)) [] s' := fun {s' H' τ'} I' nx n' s₀' hle => by
        obtain ⟨m', hm, w'⟩ := hNx τ' H' nx
        have pin' : ∀ b ∈ fp, ∀ o, s2.heap.get? b = some o → s'.heap.get? b = some o ∧ H' b = none := fun b hb o e =>
          let z := I'.pin (b, o) (List.mem_append_right _ (List.mem_append_right _ (mem_pinsAt hb e)))
          ⟨z.1, z.2.1⟩
        refine ih m' hm n' (i + 1) τ' H' s₀' s' (by omega) w' (I'.unpinned (pins := [])) (T.keep _ _ _ st2 fun b hb o e => (pin' b hb o e).1) fun b hb => ?_
        obtain ⟨o, e, _⟩ := T.obj _ _ st2 b hb
        exact (pin' b hb o e).2
      cases c with
      | false =>
        simp only [Bool.false_eq_true, if_false] at q4 ⊢
        exact seg_again rfl (fin I4 q4 n s₀ (by omega))
      | true =>
        simp only [if_true] at q4 ⊢
        have hy : ∀ v, yieldOut X.env v = yieldValue v := fun v => by simp only [yieldOut, hco, Bool.false_eq_true, if_false]
        simp only [hy]
        rw [Sem.bind_eq_wrap', Sem.bind_eq_wrap', Sem.wrap_wrap, Sem.wrap_wrap]
        refine seg_wrap ?_
        rw [hA]
        have per := pe.run _ s4 τ3 H4 _ I4 q4
        rw [hxe] at per
        refine thnF per fun v s5 ⟨y, H5, I5, r5, z, hz, q5⟩ => ?_
        obtain ⟨n, rfl⟩ : ∃ n', n = n' + 1 := ⟨n - 1, by omega⟩
        refine seg_at (seg_yield rfl rfl rfl ⟨y, _, τ3, H5, I5, r5, z, hz, fun e => ?_, fun e s' hs' => ?_⟩)
        · rw [if_pos e] at q5; exact q5
        · rw [if_neg e] at q5
          exact seg_again rfl (fin (I5.gens hs'.os hs'.bare hs'.keep) q5 n s' (by omega))

theorem loop_any {A : Around} {X : Cx} {R : Result → Shared → Prop} {a : Addr} {g : Nat} {Q0 Q1 : Hp → Prop} {go : Obj} (hP : X.prog = P) (hw : X.w = w) (hh : A.handled = none) (hd : A.depth < recursionLimit) (hpn : (a, go) ∈ X.pn) (hgen : ∀ h : Heap, h.get? a = some go → h.IsGen a g)
    (hyes : ∀ pins τ H' s', Inv X pins τ H' s' → Q1 H' → R (.ok (.ret (.bool true))) s') (hno : ∀ pins τ H' s', Inv X pins τ H' s' → Q0 H' → R (.ok (.ret (.bool false))) s') :
    ∀ (m : Nat) (s : Shared), s.heap.IsGen a g → s.heap.NoLimit → (∃ gs, s.gens[g]? = some gs ∧ gs.Goes (model P w) A.in1.in1 (RB X Q0) (YB X true Q1) m (.send .none) (s.setGen g .running)) →
      codeAny (model P w) A (.builtin "any.loop" ⟨[.ref a], []⟩) R s := by
  subst hP
  subst hw
  have pinG : ∀ {pins : List (Addr × Obj)} {τ : St} {H' : Hp} {s' : Shared}, Inv X pins τ H' s' → s'.heap.IsGen a g := fun I => hgen _ (I.pin (a, go) (List.mem_append_left _ hpn)).1
  have main : ∀ (m : Nat), (∀ m', m' < m → ∀ (s : Shared), s.heap.IsGen a g → s.heap.NoLimit → (∃ gs, s.gens[g]? = some gs ∧ gs.Goes (model X.prog X.w) A.in1.in1 (RB X Q0) (YB X true Q1) m' (.send .none) (s.setGen g .running)) →
      codeAny (model X.prog X.w) A (.builtin "any.loop" ⟨[.ref a], []⟩) R s) → ∀ (s : Shared), s.heap.IsGen a g → s.heap.NoLimit → (∃ gs, s.gens[g]? = some gs ∧ gs.Goes (model X.prog X.w) A.in1.in1 (RB X Q0) (YB X true Q1) m (.send .none) (s.setGen g .running)) →
      codeAny (model X.prog X.w) A (.builtin "any.loop" ⟨[.ref a], []⟩) R s := by
    intro m ih s hg hl ⟨gs, hgs, hgo⟩
    have hgl : g < s.gens.size := (Array.getElem?_eq_some_iff.mp hgs).1
    refine codeAny_builtin F.entry_any_loop ?_
    rw [Around.under_plainId F.plain_any_loop _]
    show wpAny _ A.in1 (pyNext (.ref a) >>= _) _ _ s
    refine wpAny_bind (wpAny_gsz (n := g + 1) hgl (next_genG (A := A.in1) hh hl hd hg hgs hgo (fun v s₁ gs' hbare hv => ?_) (fun s₁ hp h' hk => ?_) fun e s₁ he => he.elim))
    · intro hsz
      obtain ⟨y, pins, τ, H', I, r, z, rfl, h1, h2⟩ := hv
      have hsz1 : g < s₁.gens.size := by
        have q : (s₁.setGen g gs').gens.size = s₁.gens.size := setGen_size _ _ _
        have hsz' : g + 1 ≤ (s₁.setGen g gs').gens.size := hsz
        omega
      have r : v = .bool z := r
      subst r
      have I2 : Inv X pins τ H' (s₁.setGen g gs') := I.gens rfl (allBare_setGen I.bare hbare) fun _ _ e => e
      refine wpAny_bind (wpAny_holding (wpAny_truthy_bool ?_))
      refine wpAny_bind (wpAny_letGo ?_)
      by_cases hz : z = true
      · subst hz
        simp only [if_true]
        refine wpAny_bind (wpAny_rule (wpAny_pure ?_))
        exact hyes pins τ H' _ I2 (h1 rfl)
      · have hz' : z = false := by cases z <;> simp_all
        subst hz'
        simp only [Bool.false_eq_true, if_false]
        have k := h2 hz ((s₁.setGen g gs').setGen g .running) ⟨rfl, allBare_setGen (allBare_setGen I.bare hbare) rfl, fun _ _ e => e⟩
        cases m with
        | zero => exact k.elim
        | succ m => exact wpAny_pure ⟨plainId_quiet F.plain_any_loop _, ih m (Nat.lt_succ_self m) (s₁.setGen g gs') (pinG I2) I2.nolimit ⟨gs', setGen_at hsz1, k⟩⟩
    · intro hsz
      obtain ⟨pins, τ, H', I, q0⟩ := hp
      refine wpAny_bind (wpAny_rule (wpAny_pure ?_))
      exact hno pins τ H' _ (I.gens rfl (allBare_setGen I.bare rfl) hk) q0
  intro m
  induction m using Nat.strongRecOn with
  | ind m ih => exact main m ih

theorem loop_all {A : Around} {X : Cx} {R : Result → Shared → Prop} {a : Addr} {g : Nat} {Q0 Q1 : Hp → Prop} {go : Obj} (hP : X.prog = P) (hw : X.w = w) (hh : A.handled = none) (hd : A.depth < recursionLimit) (hpn : (a, go) ∈ X.pn) (hgen : ∀ h : Heap, h.get? a = some go → h.IsGen a g)
    (hyes : ∀ pins τ H' s', Inv X pins τ H' s' → Q1 H' → R (.ok (.ret (.bool false))) s') (hno : ∀ pins τ H' s', Inv X pins τ H' s' → Q0 H' → R (.ok (.ret (.bool true))) s') :
    ∀ (m : Nat) (s : Shared), s.heap.IsGen a g → s.heap.NoLimit → (∃ gs, s.gens[g]? = some gs ∧ gs.Goes (model P w) A.in1.in1 (RB X Q0) (YB X false Q1) m (.send .none) (s.setGen g .running)) →
      codeAny (model P w) A (.builtin "all.loop" ⟨[.ref a], []⟩) R s := by
  subst hP
  subst hw
  have pinG : ∀ {pins : List (Addr × Obj)} {τ : St} {H' : Hp} {s' : Shared}, Inv X pins τ H' s' → s'.heap.IsGen a g := fun I => hgen _ (I.pin (a, go) (List.mem_append_left _ hpn)).1
  have main : ∀ (m : Nat), (∀ m', m' < m → ∀ (s : Shared), s.heap.IsGen a g → s.heap.NoLimit → (∃ gs, s.gens[g]? = some gs ∧ gs.Goes (model X.prog X.w) A.in1.in1 (RB X Q0) (YB X false Q1) m' (.send .none) (s.setGen g .running)) →
      codeAny (model X.prog X.w) A (.builtin "all.loop" ⟨[.ref a], []⟩) R s) → ∀ (s : Shared), s.heap.IsGen a g → s.heap.NoLimit → (∃ gs, s.gens[g]? = some gs ∧ gs.Goes (model X.prog X.w) A.in1.in1 (RB X Q0) (YB X false Q1) m (.send .none) (s.setGen g .running)) →
      codeAny (model X.prog X.w) A (.builtin "all.loop" ⟨[.ref a], []⟩) R s := by
    intro m ih s hg hl ⟨gs, hgs, hgo⟩
    have hgl : g < s.gens.size := (Array.getElem?_eq_some_iff.mp hgs).1
    refine codeAny_builtin F.entry_all_loop ?_
    rw [Around.under_plainId F.plain_all_loop _]
    show wpAny _ A.in1 (pyNext (.ref a) >>= _) _ _ s
    refine wpAny_bind (wpAny_gsz (n := g + 1) hgl (next_genG (A := A.in1) hh hl hd hg hgs hgo (fun v s₁ gs' hbare hv => ?_) (fun s₁ hp h' hk => ?_) fun e s₁ he => he.elim))
    · intro hsz
      obtain ⟨y, pins, τ, H', I, r, z, rfl, h1, h2⟩ := hv
      have hsz1 : g < s₁.gens.size := by
        have q : (s₁.setGen g gs').gens.size = s₁.gens.size := setGen_size _ _ _
        have hsz' : g + 1 ≤ (s₁.setGen g gs').gens.size := hsz
        omega
      have r : v = .bool z := r
      subst r
      have I2 : Inv X pins τ H' (s₁.setGen g gs') := I.gens rfl (allBare_setGen I.bare hbare) fun _ _ e => e
      refine wpAny_bind (wpAny_holding (wpAny_truthy_bool ?_))
      refine wpAny_bind (wpAny_letGo ?_)
      by_cases hz : z = false
      · subst hz
        simp only [Bool.false_eq_true, if_false]
        refine wpAny_bind (wpAny_rule (wpAny_pure ?_))
        exact hyes pins τ H' _ I2 (h1 rfl)
      · have hz' : z = true := by cases z <;> simp_all
        subst hz'
        simp only [if_true]
        have k := h2 hz ((s₁.setGen g gs').setGen g .running) ⟨rfl, allBare_setGen (allBare_setGen I.bare hbare) rfl, fun _ _ e => e⟩
        cases m with
        | zero => exact k.elim
        | succ m => exact wpAny_pure ⟨plainId_quiet F.plain_all_loop _, ih m (Nat.lt_succ_self m) (s₁.setGen g gs') (pinG I2) I2.nolimit ⟨gs', setGen_at hsz1, k⟩⟩
    · intro hsz
      obtain ⟨pins, τ, H', I, q0⟩ := hp
      refine wpAny_bind (wpAny_rule (wpAny_pure ?_))
      exact hno pins τ H' _ (I.gens rfl (allBare_setGen I.bare rfl) hk) q0
  intro m
  induction m using Nat.strongRecOn with
  | ind m ih => exact main m ih

/-- a generator has been made -/
structure Made (X : Cx) (pins : List (Addr × Obj)) (σ : St) (H2 : Hp) (scope : Scope) (elt tg iter : Expr) (ifs : List Expr) (gpos : Pos) (J : It) (it : Addr) (fp : List Addr) (tn : Nat → Heap → Prop) (s4 : Shared) (code : Value) (a : Addr) (go : Obj) (g : Nat) (s5 : Shared) : Prop where
  inv : Inv X pins σ H2 s4
  turn : Turn X.prog X.w X.K tg J fp it tn
  st : tn 0 s4.heap
  fp : ∀ b ∈ fp, FpOk X pins H2 b ∧ b < s4.heap.objs.size
  os : s5.os = s4.os
  bare : AllBare s5.gens
  keep : ∀ b o, s4.heap.get? b = some o → s5.heap.get? b = some o
  ns : ∃ m, s5.heap.Ns s4.heap.objs.size m
  lt : s4.heap.objs.size < a
  obj : s5.heap.get? a = some go
  nc : ∀ v, go.data ≠ .cell v
  gen : ∀ h : Heap, h.get? a = some go → h.IsGen a g
  fresh : s5.gens[g]? = some (.fresh (.compStart (.GeneratorExp elt [⟨tg, iter, ifs, 0⟩] scope gpos) 0 (.ref it) .none (genv X scope s4.heap.objs.size code)))

theorem gen_mk {X : Cx} {pins : List (Addr × Obj)} {σ : St} {H : Hp} {s : Shared} {c Pt : Addr} {elt tg iter : Expr} {ifs : List Expr} {gpos : Pos} {scope : Scope} {wi : TI} {k : Nat} {Q' : Value → Shared → Prop} {R : It → Hp → Prop}
    (hr : Room k X.A) (TB : TabB X.base X.mg c Pt) (hcode : X.env.code = .ref c) (ok : GenOk X.env.scope scope) (hi : PI X tg iter wi) (hs : ∀ v, genFold iter X.env v = pure v) (I : Inv X pins σ H s) (h : wi σ H fun J H1 => TabG H1 Pt ∧ R J H1)
    (hQ : ∀ J H1 H2 it fp tn s4 code a go g s5, R J H1 → Tabbed Pt H1 H2 → Made X pins σ H2 scope elt tg iter ifs gpos J it fp tn s4 code a go g s5 → Q' (.ref a) s5) :
    wpAny (model X.prog X.w) X.A (eval (.GeneratorExp elt [⟨tg, iter, ifs, 0⟩] scope gpos) X.env) Q' X.xe s := by
  have hfree : ∀ y ∈ scope.names, y.2 = .free → ∃ c, X.env.cells.lookup y.1 = some c := fun y hy e => I.ok.has _ (ok.free y hy e)
  refine wpAny_GeneratorExp_make ok.co (closure_ok hfree) ok.cell ok.dot ok.kind (by have := hr.dp; omega) ?_ hs
  refine thn (hi.run pins s σ H _ I h) fun xv s1 hx => thn hx fun itv s2 h2 => ?_
  obtain ⟨it, fp, tn, J, H1, rfl, I2, T, st2, f2, ⟨ps, hP, ht⟩, q⟩ := h2
  have sz : ∀ b ∈ fp, b < s2.heap.objs.size := fun b hb => by
    obtain ⟨o, e, _⟩ := T.obj _ _ st2 b hb
    exact Heap.lt_size e
  have hPs : s2.heap.get? Pt = some { cls := .none, data := .fields ps } := I2.hok Pt _ hP
  have cd : PySem.W.CodeHd s2.heap c Pt := TB.code.keeps fun b u e => I2.bk b u e
  have cont : ∀ (code : Value) (h3 : Heap) (tk : Nat) (ps' : Array Value), (∀ b o, b ≠ Pt → s2.heap.get? b = some o → h3.get? b = some o) → s2.heap.objs.size ≤ h3.objs.size → h3.get? Pt = some { cls := .none, data := .fields ps' } → (∃ more, ps' = ps ++ more) → TriplesOk ps'.toList →
      wpAny (model X.prog X.w) X.A (builtinsFor X.env.globals X.env.builtins) (fun bi s₄ =>
        ∀ h', h'.Ns s₄.heap.objs.size (fun y => if y = ".0" then some (Value.ref it) else none) → Heap.SameBut s₄.heap.objs.size (s₄.heap.push { cls := .type "frame", data := .dict #[] }) h' →
          Q' (.ref h'.objs.size) { s₄ with
            gens := s₄.gens.push (.fresh (.compStart (.GeneratorExp elt [⟨tg, iter, ifs, 0⟩] scope gpos) 0 (.ref it) .none (genEnv scope (cloFrom X.env.cells scope.names []) s₄.heap.objs.size code bi X.env))),
            toks := s₄.toks + 1 + 1 + 1,
            heap := h'.push { cls := .type "generator", data := .fields #[.int s₄.gens.size 0, .str "<genexpr>" (s₄.toks + 1), .str (X.env.qual ++ "<genexpr>") (s₄.toks + 1 + 1)] } }) X.xe { s2 with heap := h3, toks := tk } := by
    intro code h3 tk ps' hx hsz hP3 hmore ht3
    obtain ⟨bm, ob, e1, e2, e3, e4, e5, e6, e7, e8⟩ := TB.bm
    obtain ⟨more, em⟩ := hmore
    have I3 : Inv X pins σ (upd H1 Pt (.tbl (ps ++ more))) { s2 with heap := h3, toks := tk } := inv_tab (g' := s2.gens) (d' := s2.drawn) I2 hP hx (by rw [← em]; exact hP3) I2.bare
    have ng : ∀ b u, X.base.get? b = some u → h3.get? b = some u := fun b u e => I3.bk b u e
    refine wpAny_builtinsFor (m := X.mg) (by rw [I2.ok.glob]; exact I3.mod.glob.keeps ng) e1 e2 (ng _ _ e5) e6 e7 e8 ?_
    intro h' hn hsb
    have hsz' : h'.objs.size = h3.objs.size + 1 := by rw [hsb.1, Heap.size_push]
    have keep' : ∀ b o, h3.get? b = some o → h'.get? b = some o := fun b o e => hsb.extBut b o (Nat.ne_of_lt (Heap.lt_size e)) (Heap.get?_push_of_some _ e)
    have keep5 : ∀ b o, h3.get? b = some o → (h'.push { cls := .type "generator", data := .fields #[.int s2.gens.size 0, .str "<genexpr>" (tk + 1), .str (X.env.qual ++ "<genexpr>") (tk + 1 + 1)] }).get? b = some o := fun b o e => Heap.get?_push_of_some _ (keep' b o e)
    have nP : ∀ b ∈ fp, b ≠ Pt := fun b hb z => by
      have := (f2 b hb).1
      rw [z, hP] at this; cases this
    refine hQ J H1 (upd H1 Pt (.tbl (ps ++ more))) it fp tn { s2 with heap := h3, toks := tk } code h'.objs.size { cls := .type "generator", data := .fields #[.int s2.gens.size 0, .str "<genexpr>" (tk + 1), .str (X.env.qual ++ "<genexpr>") (tk + 1 + 1)] } s2.gens.size _ q ⟨⟨ps ++ more, upd_same, by rw [← em]; exact ht3⟩, fun b hb => upd_ne hb⟩
      ⟨I3, T, T.keep _ _ _ st2 fun b hb o e => hx b o (nP b hb) e, fun b hb => ⟨⟨by rw [upd_ne (nP b hb)]; exact (f2 b hb).1, (f2 b hb).2⟩, Nat.lt_of_lt_of_le (sz b hb) hsz⟩, rfl, I2.bare.push rfl, keep5, ⟨_, hn.push _⟩, (by show h3.objs.size < h'.objs.size; omega),
        Heap.get?_push_size _ rfl, (fun v z => by cases z), (fun h e => ⟨_, _, _, e, rfl, rfl, rfl⟩), Array.getElem?_push_size ..⟩
  refine ⟨I2.nolimit, ?_⟩
  cases hf : codeAmong gpos ps.toList with
  | none =>
    refine wpAny_genexprCodeX hcode (cd.code hPs ht) (cd.tab hPs) hf fun c' h' tk hx hge hlt hco' _ htab' _ => ?_
    obtain ⟨o1, vs, f1, tf, fl, tg', inF, tx, tt, op, _, _, _, _, _, _, _, _, _, htr, _⟩ := hco'
    exact cont _ h' tk _ (fun b o hb e => hx b o hb e) (Nat.le_trans hge (Nat.le_of_lt hlt)) htab'.2 ⟨_, rfl⟩ htr
  | some cv =>
    refine wpAny_genexprCode_hit hcode (cd.code hPs ht) hf ?_
    exact cont cv s2.heap s2.toks ps (fun _ _ _ e => e) (Nat.le_refl _) hPs ⟨#[], by simp⟩ ht

theorem pe_anyG {X : Cx} {c Pt : Addr} {elt tg iter : Expr} {ifs : List Expr} {gpos p pos : Pos} {scope : Scope} {wi : TI} {g : TG} {tt : TT} {te : TE} {cap : List (Str × Nat)} {own : List Str} {k : Nat}
    (hr : Room (k + 1) X.A) (hcalm : X.calm = true) (hg : Gl X "any") (hm : X.mg "any" = none) (TB : TabB X.base X.mg c Pt) (hcode : X.env.code = .ref c) (ok : GenOk X.env.scope scope) (hi : PI X tg iter wi) (hs : ∀ v, genFold iter X.env v = pure v)
    (hix : ∀ q ∈ cap, X.N[q.2]? = some q.1 ∧ scope.names.lookup q.1 = some .free)
    (pg : ∀ s H C code A fp pn, Room k A → PG (Cx.gen X scope (cap.map (·.1) ++ own) s H C code A fp pn) tg g) (pt : ∀ s H C code A fp pn, Room k A → PTs (Cx.gen X scope (cap.map (·.1) ++ own) s H C code A fp pn) ifs tt)
    (pe : ∀ s H C code A fp pn, Room k A → PE (Cx.gen X scope (cap.map (·.1) ++ own) s H C code A fp pn) elt te)
    (he : starEach [.GeneratorExp elt [⟨tg, iter, ifs, 0⟩] scope gpos] X.env = (false, eval (.GeneratorExp elt [⟨tg, iter, ifs, 0⟩] scope gpos) X.env) :: starEach [] X.env := by rfl) :
    PE X (.Call (.Name "any" p) [.GeneratorExp elt [⟨tg, iter, ifs, 0⟩] scope gpos] [] pos) (tAnyG true Pt wi (cap.map (·.2)) own.length g tt te) := by
  refine ⟨fun pins s σ H Q I h => ?_⟩
  refine wpAny_Call_Name_kw (ld_blt I hg hm boot_any ?_)
  refine PyProof.Rows.callWith_builtin1 ?_ he (by rfl)
  rw [he]
  show wpAny _ _ (spliced ((false, eval (.GeneratorExp elt [⟨tg, iter, ifs, 0⟩] scope gpos) X.env) :: backTo pos (starEach [] X.env))) _ _ s
  refine Calls.spliced_cons (gen_mk (R := fun J H1 => ∀ H2, Tabbed Pt H1 H2 → ∃ vs : List V, (cap.map (·.2)).map (fun i => σ[i]?) = vs.map (fun v => some (some v)) ∧
    ∃ W : Nat → Nat → St → Hp → Prop, (∃ m, W 0 m (vs.map some ++ List.replicate own.length none) H2) ∧ ∀ i m τ H, W i m τ H →
      (J.stop i H ∧ Q (.bl false) H) ∨ (J.go i H ∧ ∃ Nx : St → Hp → Prop, (∀ τ' H', Nx τ' H' → ∃ m', m' < m ∧ W (i + 1) m' τ' H') ∧ ∀ x H', J.yld i H x H' → g x τ H' fun τ2 H2 => tt τ2 H2 fun c H3 =>
        if c = true then te τ2 H3 fun y H4 => ∃ z, y = .bl z ∧ if z = true then Q (.bl true) H4 else Nx τ2 H4 else Nx τ2 H3)) (hr.mono (Nat.le_succ k)) TB hcode ok hi hs I h fun J H1 H2 it fp tn s4 code a go gi s5 hR hT hM => ?_)
  refine Calls.spliced_nil ?_
  obtain ⟨vs, hvs, W, ⟨m0, w0⟩, turn⟩ := hR H2 hT
  obtain ⟨m, hm⟩ := hM.ns
  have hlv : vs.length = cap.length := by
    have := congrArg List.length hvs
    simpa using this.symm
  -- the generator's context
  generalize hA2 : X.A.in1.in1 = A2
  have hover : A2.over (.compLoop (.GeneratorExp elt [⟨tg, iter, ifs, 0⟩] scope gpos) 0 (.ref it) .none (genv X scope s4.heap.objs.size code)) [] = A2.deeper (genv X scope s4.heap.objs.size code) := by
    obtain ⟨hd, d, fr, gs, u⟩ := A2
    simp [Around.over, Around.deeper, marksOver, frameCount, unitsOf, envsOf, guardsOf, pushEnvs, pushGuards, Code.envs, Code.env?, Code.isFrame, Code.guards, Code.isGuard, Code.weight, Code.frames, Code.isCreation, Code.isCaller, Code.cUnits]
  have hA2h : A2.handled = none := by rw [← hA2]; exact hr.hd
  have hRg : Room k (A2.deeper (genv X scope s4.heap.objs.size code)) := by
    rw [← hA2]
    exact ⟨hr.hd, by have := hr.dp; show X.A.depth + 1 + 3 * k + 5 < _; omega, by have := hr.un; show X.A.units + 1 + 1 + 3 + 16 * k + 200 < _; omega⟩
  have hfr : (A2.deeper (genv X scope s4.heap.objs.size code)).frames = some (genv X scope s4.heap.objs.size code :: X.stack) := Around.frames_deeper (by rw [← hA2]; exact hM.inv.ok.frames)
  have start : ∀ {s' : Shared}, Woken s5 s' → Inv (Cx.gen X scope (cap.map (·.1) ++ own) s4 H2 s4.heap.objs.size code (A2.deeper (genv X scope s4.heap.objs.size code)) fp [(a, go)]) [] (vs.map some ++ List.replicate own.length none) H2 s' := fun {s'} hw => by
    refine gen_start (m := m) hM.inv ok hM.fp hA2h hfr hcalm (by simp [hlv]) (fun i x v e1 e2 => ?_) (hw.os.trans hM.os) hw.bare (fun b o e => hw.keep b o (hM.keep b o e)) (hm.keeps hw.keep) hM.lt (hw.keep _ _ hM.obj) hM.nc
    have hi : i < (vs.map some).length := by
      by_cases hi : i < (vs.map some).length
      · exact hi
      · rw [List.getElem?_append_right (by omega), List.getElem?_replicate] at e2
        split at e2 <;> cases e2
    rw [List.getElem?_append_left hi] at e2
    have hi' : i < cap.length := by simpa [hlv] using hi
    rw [List.getElem?_append_left (by simpa using hi')] at e1
    rw [List.getElem?_map] at e1
    have ec : cap[i]? = some cap[i] := List.getElem?_eq_getElem hi'
    rw [ec] at e1
    have e1 : cap[i].1 = x := Option.some.inj e1
    obtain ⟨q1, q2⟩ := hix cap[i] (List.getElem_mem hi')
    refine ⟨cap[i].2, by rw [← e1]; exact q1, ?_, by rw [← e1]; exact q2⟩
    have e3 := congrArg (fun l => l[i]?) hvs
    simp only [List.getElem?_map, ec, Option.map_some] at e3
    rw [List.getElem?_map] at e2
    cases ev : vs[i]? with
    | none => rw [ev] at e2; cases e2
    | some v' =>
      rw [ev] at e2 e3
      cases e2
      exact Option.some.inj e3
  generalize hXg : Cx.gen X scope (cap.map (·.1) ++ own) s4 H2 s4.heap.objs.size code (A2.deeper (genv X scope s4.heap.objs.size code)) fp [(a, go)] = Xg at start
  have back : ∀ pins' τ H' s', Inv Xg pins' τ H' s' → Inv X pins σ H' s' := fun pins' τ H' s' I' => by
    subst hXg
    exact hM.inv.call' (ch := fp) I'.os I'.base I'.hok I'.bare fun b hb => ⟨(hM.fp b hb).1.2.2.2.1, (hM.fp b hb).1.2.1, (hM.fp b hb).1.2.2.2.2.1, (hM.fp b hb).1.2.2.2.2.2⟩
  have fin : ∀ (z : Bool) pins' τ H' s', Inv Xg pins' τ H' s' → Q (.bl z) H' → EP X pins σ Q (.bool z) s' := fun z pins' τ H' s' I' q => ⟨.bl z, H', back pins' τ H' s' I', rfl, q⟩
  have hne : ∀ b ∈ fp, a ≠ b := fun b hb z => by
    have h1 := (hM.fp b hb).2
    have h2 := hM.lt
    rw [z] at h2
    exact absurd (Nat.lt_trans h1 h2) (Nat.lt_irrefl _)
  refine call_function_tree F.kind_any F.plain_any F.entry_any (F.args_any1 _) ?_
  unfold Builtin.«any»
  refine wpAny_bind (m := oneArg "any" _) (wpAny_pure ?_)
  refine wpAny_bind (wpAny_pyIter_gen (hM.gen _ hM.obj) ?_)
  refine wpAny_pure ⟨plainId_quiet F.plain_any_loop _, ?_⟩
  refine loop_any (P := X.prog) (w := X.w) (X := Xg) (go := go) (g := gi) (Q0 := Q (.bl false)) (Q1 := Q (.bl true)) (by rw [← hXg]) (by rw [← hXg]) hr.hd (by have := hr.dp; omega) (by rw [← hXg]; exact List.mem_singleton.mpr rfl) hM.gen (fun pins' τ H' s' I' q => ?_) (fun pins' τ H' s' I' q => ?_) (m0 + 1) s5 (hM.gen _ hM.obj) (hM.inv.nolimit.keeps hM.keep) ⟨_, hM.fresh, ?_⟩
  · exact fin true pins' τ H' s' I' q
  · exact fin false pins' τ H' s' I' q
  rw [hA2]
  have hwk : Woken s5 (s5.setGen gi .running) := ⟨rfl, allBare_setGen hM.bare rfl, fun _ _ e => e⟩
  have I5 := start hwk
  have st5 : tn 0 (s5.setGen gi .running).heap := hM.turn.keep _ _ _ hM.st fun b _ o e => hM.keep b o e
  have loop := fun s₀ => seg_anyG (X := Xg) (A2 := A2) (elt := elt) (tg := tg) (iter := iter) (ifs := ifs) (scope := scope) (pos := gpos) (it := it) (fp := fp) (tn := tn) (J := J) (b := true) (Q0 := Q (.bl false)) (Q1 := Q (.bl true)) (g := g) (tt := tt) (te := te) (W := W)
    (by rw [← hXg]; exact hover) (by rw [← hXg]; exact hcalm) (by rw [← hXg]) (by rw [← hXg]; exact ok.co) (fun q hq b hb => by
      rw [← hXg] at hq
      have hq : q = (a, go) := by simpa using hq
      rw [hq]; exact hne b hb) (by rw [← hXg]; exact hM.turn) (by rw [← hXg]; exact pg _ _ _ _ _ _ _ hRg) (by rw [← hXg]; exact pt _ _ _ _ _ _ _ hRg) (by rw [← hXg]; exact pe _ _ _ _ _ _ _ hRg) (by rw [← hXg]) turn m0 (m0 + 1) 0 _ H2 s₀ (s5.setGen gi .running) (Nat.lt_succ_self _) w0 I5 st5 (fun b hb => (hM.fp b hb).1.1)
  have hP : Xg.prog = X.prog := by rw [← hXg]
  have hW : Xg.w = X.w := by rw [← hXg]
  have hE : Xg.env = genv X scope s4.heap.objs.size code := by rw [← hXg]
  rw [hP, hW, hE] at loop
  refine ⟨rfl, ?_⟩
  show Seg _ A2 _ _ _ _ _ ((compStart (.GeneratorExp elt [⟨tg, iter, ifs, 0⟩] scope gpos) 0 (.ref it) .none (genv X scope s4.heap.objs.size code)).onRaise (leaving (genv X scope s4.heap.objs.size code))) [] _
  unfold compStart
  rw [Sem.onRaise_eq_wrap]
  show Seg _ A2 _ _ _ _ _ ((ask >>= _).wrap _ _ _ _) [] _
  refine seg_bind_wrap (wpAny_askSetting ?_)
  split
  · exact seg_again rfl (loop _)
  · first
      | exact seg_bind_wrap (wpAny_rule (seg_bind_wrap (wpAny_standAt (seg_bind_wrap (hM.turn.self _ 0 _ _ _ st5 (seg_again rfl (loop _)))))))
      | (refine seg_bind_wrap (wpAny_rule ?_); show Seg _ A2 _ _ _ _ _ ((standAt iter.pos >>= _).wrap _ _ _ _) [] _; exact seg_bind_wrap (wpAny_standAt (seg_bind_wrap (hM.turn.self _ 0 _ _ _ st5 (seg_again rfl (loop _))))))

theorem pe_allG {X : Cx} {c Pt : Addr} {elt tg iter : Expr} {ifs : List Expr} {gpos p pos : Pos} {scope : Scope} {wi : TI} {g : TG} {tt : TT} {te : TE} {cap : List (Str × Nat)} {own : List Str} {k : Nat}
    (hr : Room (k + 1) X.A) (hcalm : X.calm = true) (hg : Gl X "all") (hm : X.mg "all" = none) (TB : TabB X.base X.mg c Pt) (hcode : X.env.code = .ref c) (ok : GenOk X.env.scope scope) (hi : PI X tg iter wi) (hs : ∀ v, genFold iter X.env v = pure v)
    (hix : ∀ q ∈ cap, X.N[q.2]? = some q.1 ∧ scope.names.lookup q.1 = some .free)
    (pg : ∀ s H C code A fp pn, Room k A → PG (Cx.gen X scope (cap.map (·.1) ++ own) s H C code A fp pn) tg g) (pt : ∀ s H C code A fp pn, Room k A → PTs (Cx.gen X scope (cap.map (·.1) ++ own) s H C code A fp pn) ifs tt)
    (pe : ∀ s H C code A fp pn, Room k A → PE (Cx.gen X scope (cap.map (·.1) ++ own) s H C code A fp pn) elt te)
    (he : starEach [.GeneratorExp elt [⟨tg, iter, ifs, 0⟩] scope gpos] X.env = (false, eval (.GeneratorExp elt [⟨tg, iter, ifs, 0⟩] scope gpos) X.env) :: starEach [] X.env := by rfl) :
    PE X (.Call (.Name "all" p) [.GeneratorExp elt [⟨tg, iter, ifs, 0⟩] scope gpos] [] pos) (tAnyG false Pt wi (cap.map (·.2)) own.length g tt te) := by
  refine ⟨fun pins s σ H Q I h => ?_⟩
  refine wpAny_Call_Name_kw (ld_blt I hg hm (by rfl) ?_)
  refine PyProof.Rows.callWith_builtin1 ?_ he (by rfl)
  rw [he]
  show wpAny _ _ (spliced ((false, eval (.GeneratorExp elt [⟨tg, iter, ifs, 0⟩] scope gpos) X.env) :: backTo pos (starEach [] X.env))) _ _ s
  refine Calls.spliced_cons (gen_mk (R := fun J H1 => ∀ H2, Tabbed Pt H1 H2 → ∃ vs : List V, (cap.map (·.2)).map (fun i => σ[i]?) = vs.map (fun v => some (some v)) ∧
    ∃ W : Nat → Nat → St → Hp → Prop, (∃ m, W 0 m (vs.map some ++ List.replicate own.length none) H2) ∧ ∀ i m τ H, W i m τ H →
      (J.stop i H ∧ Q (.bl true) H) ∨ (J.go i H ∧ ∃ Nx : St → Hp → Prop, (∀ τ' H', Nx τ' H' → ∃ m', m' < m ∧ W (i + 1) m' τ' H') ∧ ∀ x H', J.yld i H x H' → g x τ H' fun τ2 H2 => tt τ2 H2 fun c H3 =>
        if c = true then te τ2 H3 fun y H4 => ∃ z, y = .bl z ∧ if z = false then Q (.bl false) H4 else Nx τ2 H4 else Nx τ2 H3)) (hr.mono (Nat.le_succ k)) TB hcode ok hi hs I h fun J H1 H2 it fp tn s4 code a go gi s5 hR hT hM => ?_)
  refine Calls.spliced_nil ?_
  obtain ⟨vs, hvs, W, ⟨m0, w0⟩, turn⟩ := hR H2 hT
  obtain ⟨m, hm⟩ := hM.ns
  have hlv : vs.length = cap.length := by
    have := congrArg List.length hvs
    simpa using this.symm
  -- the generator's context
  generalize hA2 : X.A.in1.in1 = A2
  have hover : A2.over (.compLoop (.GeneratorExp elt [⟨tg, iter, ifs, 0⟩] scope gpos) 0 (.ref it) .none (genv X scope s4.heap.objs.size code)) [] = A2.deeper (genv X scope s4.heap.objs.size code) := by
    obtain ⟨hd, d, fr, gs, u⟩ := A2
    simp [Around.over, Around.deeper, marksOver, frameCount, unitsOf, envsOf, guardsOf, pushEnvs, pushGuards, Code.envs, Code.env?, Code.isFrame, Code.guards, Code.isGuard, Code.weight, Code.frames, Code.isCreation, Code.isCaller, Code.cUnits]
  have hA2h : A2.handled = none := by rw [← hA2]; exact hr.hd
  have hRg : Room k (A2.deeper (genv X scope s4.heap.objs.size code)) := by
    rw [← hA2]
    exact ⟨hr.hd, by have := hr.dp; show X.A.depth + 1 + 3 * k + 5 < _; omega, by have := hr.un; show X.A.units + 1 + 1 + 3 + 16 * k + 200 < _; omega⟩
  have hfr : (A2.deeper (genv X scope s4.heap.objs.size code)).frames = some (genv X scope s4.heap.objs.size code :: X.stack) := Around.frames_deeper (by rw [← hA2]; exact hM.inv.ok.frames)
  have start : ∀ {s' : Shared}, Woken s5 s' → Inv (Cx.gen X scope (cap.map (·.1) ++ own) s4 H2 s4.heap.objs.size code (A2.deeper (genv X scope s4.heap.objs.size code)) fp [(a, go)]) [] (vs.map some ++ List.replicate own.length none) H2 s' := fun {s'} hw => by
    refine gen_start (m := m) hM.inv ok hM.fp hA2h hfr hcalm (by simp [hlv]) (fun i x v e1 e2 => ?_) (hw.os.trans hM.os) hw.bare (fun b o e => hw.keep b o (hM.keep b o e)) (hm.keeps hw.keep) hM.lt (hw.keep _ _ hM.obj) hM.nc
    have hi : i < (vs.map some).length := by
      by_cases hi : i < (vs.map some).length
      · exact hi
      · rw [List.getElem?_append_right (by omega), List.getElem?_replicate] at e2
        split at e2 <;> cases e2
    rw [List.getElem?_append_left hi] at e2
    have hi' : i < cap.length := by simpa [hlv] using hi
    rw [List.getElem?_append_left (by simpa using hi')] at e1
    rw [List.getElem?_map] at e1
    have ec : cap[i]? = some cap[i] := List.getElem?_eq_getElem hi'
    rw [ec] at e1
    have e1 : cap[i].1 = x := Option.some.inj e1
    obtain ⟨q1, q2⟩ := hix cap[i] (List.getElem_mem hi')
    refine ⟨cap[i].2, by rw [← e1]; exact q1, ?_, by rw [← e1]; exact q2⟩
    have e3 := congrArg (fun l => l[i]?) hvs
    simp only [List.getElem?_map, ec, Option.map_some] at e3
    rw [List.getElem?_map] at e2
    cases ev : vs[i]? with
    | none => rw [ev] at e2; cases e2
    | some v' =>
      rw [ev] at e2 e3
      cases e2
      exact Option.some.inj e3
  generalize hXg : Cx.gen X scope (cap.map (·.1) ++ own) s4 H2 s4.heap.objs.size code (A2.deeper (genv X scope s4.heap.objs.size code)) fp [(a, go)] = Xg at start
  have back : ∀ pins' τ H' s', Inv Xg pins' τ H' s' → Inv X pins σ H' s' := fun pins' τ H' s' I' => by
    subst hXg
    exact hM.inv.call' (ch := fp) I'.os I'.base I'.hok I'.bare fun b hb => ⟨(hM.fp b hb).1.2.2.2.1, (hM.fp b hb).1.2.1, (hM.fp b hb).1.2.2.2.2.1, (hM.fp b hb).1.2.2.2.2.2⟩
  have fin : ∀ (z : Bool) pins' τ H' s', Inv Xg pins' τ H' s' → Q (.bl z) H' → EP X pins σ Q (.bool z) s' := fun z pins' τ H' s' I' q => ⟨.bl z, H', back pins' τ H' s' I', rfl, q⟩
  have hne : ∀ b ∈ fp, a ≠ b := fun b hb z => by
    have h1 := (hM.fp b hb).2
    have h2 := hM.lt
    rw [z] at h2
    exact absurd (Nat.lt_trans h1 h2) (Nat.lt_irrefl _)
  refine call_function_tree F.kind_all F.plain_all F.entry_all (F.args_all1 _) ?_
  unfold Builtin.«all»
  refine wpAny_bind (m := oneArg "all" _) (wpAny_pure ?_)
  refine wpAny_bind (wpAny_pyIter_gen (hM.gen _ hM.obj) ?_)
  refine wpAny_pure ⟨plainId_quiet F.plain_all_loop _, ?_⟩
  refine loop_all (P := X.prog) (w := X.w) (X := Xg) (go := go) (g := gi) (Q0 := Q (.bl true)) (Q1 := Q (.bl false)) (by rw [← hXg]) (by rw [← hXg]) hr.hd (by have := hr.dp; omega) (by rw [← hXg]; exact List.mem_singleton.mpr rfl) hM.gen (fun pins' τ H' s' I' q => ?_) (fun pins' τ H' s' I' q => ?_) (m0 + 1) s5 (hM.gen _ hM.obj) (hM.inv.nolimit.keeps hM.keep) ⟨_, hM.fresh, ?_⟩
  · exact fin false pins' τ H' s' I' q
  · exact fin true pins' τ H' s' I' q
  rw [hA2]
  have hwk : Woken s5 (s5.setGen gi .running) := ⟨rfl, allBare_setGen hM.bare rfl, fun _ _ e => e⟩
  have I5 := start hwk
  have st5 : tn 0 (s5.setGen gi .running).heap := hM.turn.keep _ _ _ hM.st fun b _ o e => hM.keep b o e
  have loop := fun s₀ => seg_anyG (X := Xg) (A2 := A2) (elt := elt) (tg := tg) (iter := iter) (ifs := ifs) (scope := scope) (pos := gpos) (it := it) (fp := fp) (tn := tn) (J := J) (b := false) (Q0 := Q (.bl true)) (Q1 := Q (.bl false)) (g := g) (tt := tt) (te := te) (W := W)
    (by rw [← hXg]; exact hover) (by rw [← hXg]; exact hcalm) (by rw [← hXg]) (by rw [← hXg]; exact ok.co) (fun q hq b hb => by
      rw [← hXg] at hq
      have hq : q = (a, go) := by simpa using hq
      rw [hq]; exact hne b hb) (by rw [← hXg]; exact hM.turn) (by rw [← hXg]; exact pg _ _ _ _ _ _ _ hRg) (by rw [← hXg]; exact pt _ _ _ _ _ _ _ hRg) (by rw [← hXg]; exact pe _ _ _ _ _ _ _ hRg) (by rw [← hXg]) turn m0 (m0 + 1) 0 _ H2 s₀ (s5.setGen gi .running) (Nat.lt_succ_self _) w0 I5 st5 (fun b hb => (hM.fp b hb).1.1)
  have hP : Xg.prog = X.prog := by rw [← hXg]
  have hW : Xg.w = X.w := by rw [← hXg]
  have hE : Xg.env = genv X scope s4.heap.objs.size code := by rw [← hXg]
  rw [hP, hW, hE] at loop
  refine ⟨rfl, ?_⟩
  show Seg _ A2 _ _ _ _ _ ((compStart (.GeneratorExp elt [⟨tg, iter, ifs, 0⟩] scope gpos) 0 (.ref it) .none (genv X scope s4.heap.objs.size code)).onRaise (leaving (genv X scope s4.heap.objs.size code))) [] _
  unfold compStart
  rw [Sem.onRaise_eq_wrap]
  show Seg _ A2 _ _ _ _ _ ((ask >>= _).wrap _ _ _ _) [] _
  refine seg_bind_wrap (wpAny_askSetting ?_)
  split
  · exact seg_again rfl (loop _)
  · first
      | exact seg_bind_wrap (wpAny_rule (seg_bind_wrap (wpAny_standAt (seg_bind_wrap (hM.turn.self _ 0 _ _ _ st5 (seg_again rfl (loop _)))))))
      | (refine seg_bind_wrap (wpAny_rule ?_); show Seg _ A2 _ _ _ _ _ ((standAt iter.pos >>= _).wrap _ _ _ _) [] _; exact seg_bind_wrap (wpAny_standAt (seg_bind_wrap (hM.turn.self _ 0 _ _ _ st5 (seg_again rfl (loop _))))))
end
end L3

set_option Elab.async false
set_option linter.all false
set_option maxRecDepth 100000
set_option maxHeartbeats 1000000
namespace L3
open PySem PySem.Spec PyProof.Rows L2 GxR

/-! ### any, all of a generator expression -/
def gLoop (b : Bool) (tg : Tg) (tt : P Bool) (te : P RV) : List D → P Bool
  | [] => ret (!b)
  | d :: ds => fun ρ => match tg d ρ with
    | none => .no
    | some ρ1 => (noErr tt ρ1).bind fun c => if c = true then seq (noErr te) (fun rv => match rv.toD with
      | .bool z => if z = b then ret b else gLoop b tg tt te ds
      | _ => fail) else gLoop b tg tt te ds
def gF (b : Bool) (cap : List Nat) (no : Nat) (src : P Sr) (tg : Tg) (tt : P Bool) (te : P RV) : P RV := seq src fun sr ρ => match sr with
  | .sl _ => .no
  | .ls ds => match gather ρ (cap.map CA.ln) (cap.map fun _ => none) 0 with
    | none => .no
    | some as => match gLoop b tg tt te ds (as ++ List.replicate no .un) with
      | .ok z _ => .ok (.val (.bool z)) ρ
      | _ => .no
abbrev GIx (ι : Type) (k : Nat) : Type := { x : ι × Shared × Hp × Addr × Value × Around × List Addr × List (Addr × Obj) // Room k x.2.2.2.2.2.1 }
def genX {ι : Type} (X : ι → Cx) (scope : Scope) (Ng : List Str) (k : Nat) : GIx ι k → Cx := fun x => Cx.gen (X x.1.1) scope Ng x.1.2.1 x.1.2.2.1 x.1.2.2.2.1 x.1.2.2.2.2.1 x.1.2.2.2.2.2.1 x.1.2.2.2.2.2.2.1 x.1.2.2.2.2.2.2.2
theorem cxs_gen {ι : Type} {P : Program} {w : World} {G : GC} {mg : Str → Option Value} {base : Heap} {k k' : Nat} {N : List Str} {W : WX} {X : ι → Cx} (c : Cxs P w G mg base k' N W X) (scope : Scope) {Ng : List Str} (hN : Ng.Nodup) : Cxs P w G mg base k Ng W0 (genX X scope Ng k) where
  prog := fun i => c.prog i.1.1
  w := fun i => c.w i.1.1
  K := fun i => c.K i.1.1
  mg := fun i => c.mg i.1.1
  base := fun i => c.base i.1.1
  calm := fun i => c.calm i.1.1
  room := fun i => i.2
  names := fun _ => rfl
  nd := hN
  tk := fun _ => fun _ _ ⟨_, _, _, _, _, _, _, _, _, _, _, _, _, _, _, _, z⟩ => z.elim
section
variable {F : FC} {ρ : En} {σ : St} {S M H : Hp}
theorem SR.tabbed (s : SR F ρ σ S M H) {Pt : Addr} {H2 : Hp} (hP : Pt ∈ F.g.T) (t : Tabbed Pt H H2) : SR F ρ σ S M H2 := by
  obtain ⟨_, q2, q3⟩ := s.tab Pt hP
  refine ⟨s.len, fun a o e => ?_, fun a o e => ?_, s.dis, s.keep, s.bth, fun a ha => ?_, s.kind, s.slot, s.sep⟩
  · rw [t.2 a fun z => by rw [z, q2] at e; cases e]; exact s.sub a o e
  · rw [t.2 a fun z => by rw [z, q3] at e; cases e]; exact s.own a o e
  · obtain ⟨h1, h2, h3⟩ := s.tab a ha
    refine ⟨?_, h2, h3⟩
    by_cases z : a = Pt
    · rw [z]; exact t.1
    · obtain ⟨ps, e, r⟩ := h1
      exact ⟨ps, (t.2 a z).trans e, r⟩
/-- more slots, all unset -/
theorem SR.pad (s : SR F ρ σ S M H) (n : Nat) : SR F (ρ ++ List.replicate n .un) (σ ++ List.replicate n none) S M H := by
  have hla : ρ.length = σ.length := s.len
  have inA : ∀ (i : Nat) sl, (ρ ++ List.replicate n Sl.un)[i]? = some sl → sl = .un ∨ (ρ[i]? = some sl ∧ i < ρ.length) := fun i sl e => by
    by_cases hi : i < ρ.length
    · rw [List.getElem?_append_left hi] at e
      exact .inr ⟨e, hi⟩
    · rw [List.getElem?_append_right (by omega), List.getElem?_replicate] at e
      split at e
      · cases e; exact .inl rfl
      · cases e
  refine ⟨by simp [hla], s.sub, s.own, s.dis, s.keep, s.bth, s.tab, s.kind, fun i sl v h e => ?_, fun i j a b hij ha hb oa ob => ?_⟩
  · rcases inA i sl h with rfl | ⟨h, hi⟩
    · trivial
    · rw [List.getElem?_append_left (by omega)] at e
      exact s.slot i sl v h e
  · rcases inA i a ha with rfl | ⟨h1, hi⟩
    · cases oa
    · rcases inA j b hb with rfl | ⟨h2, hj⟩
      · cases ob
      · rw [List.getElem?_append_left (by omega), List.getElem?_append_left (by omega)]
        exact s.sep i j a b hij h1 h2 oa ob
/-- all slots forgotten -/
theorem SR.blank (s : SR F ρ σ S M H) (τ : St) : SR F (List.replicate τ.length .un) τ S M H := by
  have un : ∀ (i : Nat) sl, (List.replicate τ.length Sl.un)[i]? = some sl → sl = .un := fun i sl e => by
    rw [List.getElem?_replicate] at e
    split at e
    · cases e; rfl
    · cases e
  refine ⟨by simp, s.sub, s.own, s.dis, s.keep, s.bth, s.tab, s.kind, fun i sl v h e => ?_, fun i j a b hij ha hb oa ob => ?_⟩
  · rw [un i sl h]; trivial
  · rw [un i a ha] at oa; cases oa
end
theorem mus_ln : ∀ cap : List Nat, mus (cap.map CA.ln) = []
  | [] => rfl
  | _ :: r => mus_ln r
theorem caOk_ln (cap : List Nat) : caOk (cap.map CA.ln) := ⟨by rw [mus_ln]; exact .nil, fun i _ => by rw [mus_ln]; simp⟩
theorem upds_ln {ρ : En} : ∀ (cap : List Nat) (as : List Sl), as.length = cap.length → upds ρ (cap.map CA.ln) as = some ρ
  | [], [], _ => rfl
  | _ :: r, _ :: as, h => upds_ln r as (by simpa using h)
  | [], _ :: _, h => by simp at h
  | _ :: _, [], h => by simp at h
/-- the captured names' values -/
theorem cap_vs {F : FC} {ρ : En} {σ : St} {S M H : Hp} (s : SR F ρ σ S M H) : ∀ (cap : List Nat) {as : List Sl} {j : Nat}, gather ρ (cap.map CA.ln) (cap.map fun _ => none) j = some as → ∃ vs : List V, cap.map (fun i => σ[i]?) = vs.map (fun v => some (some v)) ∧ GA F.K ρ σ S (cap.map CA.ln) vs as j []
  | [], as, j, h => by
    cases h
    exact ⟨[], rfl, .nil⟩
  | i :: r, as, j, h => by
    obtain ⟨d, hd, h⟩ := Option.bind_eq_some_iff.mp h
    obtain ⟨as', h', rfl⟩ := Option.map_eq_some_iff.mp h
    obtain ⟨vs, h1, g⟩ := cap_vs s r h'
    obtain ⟨sl, e1, e2⟩ := look_cont hd
    obtain ⟨v, hv, _⟩ := s.read e1 e2
    exact ⟨v :: vs, by simp [hv, h1], .ln hv e1 e2 g⟩
section
variable {ι : Type} {X : ι → Cx} {G : GC} {W : WX} {vs : List Nat} {src : P Sr} {fg : Tg} {tt : P Bool} {te : P RV}
theorem ev_gen {b : Bool} {Pt : Addr} {cap : List Nat} {no : Nat} {wi : TI} {g : TG} {ttt : TT} {tte : TE} (hT : Pt ∈ G.T) (ei : EvI G W wi src) (eg : EvG G vs g fg) (et : EvB G W0 ttt tt) (ee : EvR G W0 tte te) : EvR G W (tAnyG b Pt wi cap no g ttt tte) (gF b cap no src fg tt te) := by
  intro F ρ σ S M H Q hg s p
  refine ei F ρ σ S M H _ hg s (Res.post_mono (Res.post_bind p) (fun sr ρ1 q J S1 M1 H1 e1 s1 hJ => ?_) fun k ρ1 q => q)
  have hTF : Pt ∈ F.g.T := by rw [hg]; exact hT
  refine ⟨(s1.tab Pt hTF).1, fun H2 hT2 => ?_⟩
  have s2 := s1.tabbed hTF hT2
  cases sr with
  | sl j => exact q.elim
  | ls ds =>
    have q : (match gather ρ1 (cap.map CA.ln) (cap.map fun _ => none) 0 with
      | none => Res.no
      | some as => match gLoop b fg tt te ds (as ++ List.replicate no Sl.un) with
        | .ok z _ => Res.ok (RV.val (.bool z)) ρ1
        | _ => .no).post _ _ := q
    cases hga : gather ρ1 (cap.map CA.ln) (cap.map fun _ => none) 0 with
    | none => rw [hga] at q; exact q.elim
    | some as =>
      rw [hga] at q
      have q : (match gLoop b fg tt te ds (as ++ List.replicate no Sl.un) with
        | .ok z _ => Res.ok (RV.val (.bool z)) ρ1
        | _ => .no).post _ _ := q
      obtain ⟨us, hus, ga⟩ := cap_vs s2 cap hga
      refine ⟨us, hus, ?_⟩
      have sI := call_in s2 (caOk_ln cap) ga
      have sP := sI.pad no
      have hlen : us.length = cap.length := by
        have := congrArg List.length hus
        simpa using this.symm
      have hla : as.length = us.length := ga.len
      -- what is wanted of the answer
      have ans : ∀ z : Bool, (∃ ρ', gLoop b fg tt te ds (as ++ List.replicate no .un) = .ok z ρ') → ∀ ρ' τ S' M' H', Ext (lendS ρ1 σ (cap.map CA.ln) S1 M1) S' → SR ⟨F.g, [], lendM ρ1 σ (cap.map CA.ln) M1⟩ ρ' τ S' M' H' → Q (.bl z) H' := fun z ⟨ρz, hz⟩ ρ' τ S' M' H' e' s' => by
        rw [hz] at q
        have q : PR F W σ S (.ok (.val (.bool z)) ρ1) Q := q
        have sB := s'.blank (us.map some)
        have hl2 : (us.map some).length = cap.length := by simp [hlen]
        obtain ⟨S3, M3, e3, s3, r3⟩ := call_out (as' := List.replicate (us.map some).length .un) s2 (caOk_ln cap) ga sB e' (.inr (by
          rw [List.all_eq_true]
          intro x hx
          rw [List.eq_of_mem_replicate hx]
          rfl)) (upds_ln cap _ (by rw [List.length_replicate, hl2]))
        exact q _ S3 M3 H' (e1.trans e3) s3 (.bl z)
      have good : ∃ z ρz, gLoop b fg tt te ds (as ++ List.replicate no .un) = .ok z ρz := by
        cases hz : gLoop b fg tt te ds (as ++ List.replicate no .un) with
        | ok z ρz => exact ⟨z, ρz, rfl⟩
        | err k ρz => rw [hz] at q; exact q.elim
        | no => rw [hz] at q; exact q.elim
      obtain ⟨z0, ρz0, hz0⟩ := good
      refine ⟨fun i m τ H' => i + m = ds.length ∧ ∃ ρ' S' M', Ext (lendS ρ1 σ (cap.map CA.ln) S1 M1) S' ∧ SR ⟨F.g, [], lendM ρ1 σ (cap.map CA.ln) M1⟩ ρ' τ S' M' H' ∧ ∃ ρz, gLoop b fg tt te (ds.drop i) ρ' = .ok z0 ρz,
        ⟨ds.length, Nat.zero_add _, _, _, _, Ext.refl _, sP, ρz0, hz0⟩, ?_⟩
      rintro i m τ H3 ⟨him, ρ3, S3, M3, e3, s3, ρz, hz⟩
      have hj := hJ ⟨F.g, [], lendM ρ1 σ (cap.map CA.ln) M1⟩ i ρ3 τ S3 M3 H3 hg ((lendS_ext s2 (cap.map CA.ln)).trans e3) s3
      by_cases hi : ds.length ≤ i
      · refine .inl ⟨hj.1 hi, ?_⟩
        rw [List.drop_of_length_le hi] at hz
        have ez : z0 = !b := by
          have hz : (Res.ok (!b) ρ3 : Res Bool) = .ok z0 ρz := hz
          injection hz with h1 h2
          exact h1.symm
        rw [← ez]
        exact ans z0 ⟨ρz0, hz0⟩ ρ3 τ S3 M3 H3 e3 s3
      · have hi : i < ds.length := by omega
        rw [List.drop_eq_getElem_cons hi] at hz
        obtain ⟨hgo, hy⟩ := hj.2 ds[i] (List.getElem?_eq_getElem hi)
        refine .inr ⟨hgo, fun τ' H' => ∃ ρ' S' M', Ext (lendS ρ1 σ (cap.map CA.ln) S1 M1) S' ∧ SR ⟨F.g, [], lendM ρ1 σ (cap.map CA.ln) M1⟩ ρ' τ' S' M' H' ∧ ∃ ρz, gLoop b fg tt te (ds.drop (i + 1)) ρ' = .ok z0 ρz,
          fun τ' H' h => ⟨m - 1, by omega, by omega, h⟩, fun x H4 hx => ?_⟩
        obtain ⟨S4, M4, e4, s4, r4⟩ := hy x H4 hx
        have hz : (match fg ds[i] ρ3 with
          | none => Res.no
          | some ρ1 => (noErr tt ρ1).bind fun c => if c = true then seq (noErr te) (fun rv => match rv.toD with
            | .bool z => if z = b then ret b else gLoop b fg tt te (ds.drop (i + 1))
            | _ => fail) else gLoop b fg tt te (ds.drop (i + 1))) = Res.ok z0 ρz := hz
        cases hfg : fg ds[i] ρ3 with
        | none => rw [hfg] at hz; cases hz
        | some ρ5 =>
          rw [hfg] at hz
          refine eg ⟨F.g, [], lendM ρ1 σ (cap.map CA.ln) M1⟩ ρ3 ρ5 τ S4 M4 H4 x ds[i] _ hg s4 r4 hfg fun τ5 S5 M5 H5 e5 s5 hl5 hv5 => ?_
          have hz : (noErr tt ρ5).bind (fun c => if c = true then seq (noErr te) (fun rv => match rv.toD with
            | .bool z => if z = b then ret b else gLoop b fg tt te (ds.drop (i + 1))
            | _ => fail) else gLoop b fg tt te (ds.drop (i + 1))) = Res.ok z0 ρz := hz
          cases ht : tt ρ5 with
          | no => unfold noErr at hz; rw [ht] at hz; cases hz
          | err k ρ6 => unfold noErr at hz; rw [ht] at hz; cases hz
          | ok c ρ6 =>
            unfold noErr at hz
            rw [ht] at hz
            refine et ⟨F.g, [], lendM ρ1 σ (cap.map CA.ln) M1⟩ ρ5 τ5 S5 M5 H5 _ hg s5 ?_
            rw [ht]
            intro S6 M6 H6 e6 s6
            have e36 : Ext (lendS ρ1 σ (cap.map CA.ln) S1 M1) S6 := ((e3.trans e4).trans e5).trans e6
            cases c with
            | false =>
              rw [if_neg Bool.false_ne_true]
              exact ⟨ρ6, S6, M6, e36, s6, ρz, hz⟩
            | true =>
              rw [if_pos rfl]
              have hz : (noErr te ρ6).bind (fun rv => match rv.toD with
                | .bool z => if z = b then ret b else gLoop b fg tt te (ds.drop (i + 1))
                | _ => fail) = Res.ok z0 ρz := hz
              cases hte : te ρ6 with
              | no => unfold noErr at hz; rw [hte] at hz; cases hz
              | err k ρ7 => unfold noErr at hz; rw [hte] at hz; cases hz
              | ok rv ρ7 =>
                unfold noErr at hz
                rw [hte] at hz
                refine ee ⟨F.g, [], lendM ρ1 σ (cap.map CA.ln) M1⟩ ρ6 τ5 S6 M6 H6 _ hg s6 ?_
                rw [hte]
                intro v S7 M7 H7 e7 s7 r7
                have hz : (match rv.toD with
                  | .bool z => if z = b then ret b else gLoop b fg tt te (ds.drop (i + 1))
                  | _ => fail) ρ7 = Res.ok z0 ρz := hz
                cases rv with
                | own o => cases o <;> cases hz
                | val d =>
                  cases d with
                  | bool z =>
                    have r7 : Rp _ S7 v (.bool z) := r7
                    cases r7
                    refine ⟨z, rfl, ?_⟩
                    have hz : (if z = b then ret b else gLoop b fg tt te (ds.drop (i + 1))) ρ7 = Res.ok z0 ρz := hz
                    by_cases hzb : z = b
                    · rw [if_pos hzb] at hz ⊢
                      have hz : (Res.ok b ρ7 : Res Bool) = .ok z0 ρz := hz
                      injection hz with h1 h2
                      subst h1
                      exact ans b ⟨ρz0, hz0⟩ ρ7 τ5 S7 M7 H7 (e36.trans e7) s7
                    · rw [if_neg hzb] at hz ⊢
                      exact ⟨ρ7, S7, M7, e36.trans e7, s7, ρz, hz⟩
                  | _ => cases hz
theorem rx_any {P : Program} {w : World} {mg : Str → Option Value} {base : Heap} {k : Nat} {N : List Str} {c Pt : Addr} {elt tg iter : Expr} {ifs : List Expr} {gpos p pos : Pos} {scope : Scope} {cap : List (Str × Nat)} {own : List Str}
    (cx : Cxs P w G mg base (k + 1) N W X) (hg : ∀ i, Gl (X i) "any") (hm : mg "any" = none) (TB : TabB base mg c Pt) (hT : Pt ∈ G.T) (hcode : ∀ i, (X i).env.code = .ref c) (ok : ∀ i, GenOk (X i).env.scope scope) (hi : IX X G W tg iter src) (hs : ∀ i v, genFold iter (X i).env v = pure v)
    (hix : ∀ q ∈ cap, N[q.2]? = some q.1 ∧ scope.names.lookup q.1 = some .free) (hgg : GX (genX X scope (cap.map (·.1) ++ own) k) G tg vs fg) (ht : TX (genX X scope (cap.map (·.1) ++ own) k) G W0 ifs tt) (he : RX (genX X scope (cap.map (·.1) ++ own) k) G W0 elt te)
    (hstar : ∀ i, starEach [.GeneratorExp elt [⟨tg, iter, ifs, 0⟩] scope gpos] (X i).env = (false, eval (.GeneratorExp elt [⟨tg, iter, ifs, 0⟩] scope gpos) (X i).env) :: starEach [] (X i).env) :
    RX X G W (.Call (.Name "any" p) [.GeneratorExp elt [⟨tg, iter, ifs, 0⟩] scope gpos] [] pos) (gF true (cap.map (·.2)) own.length src fg tt te) := by
  obtain ⟨wi, pi, ei⟩ := hi
  obtain ⟨g, pg, eg⟩ := hgg
  obtain ⟨t, pt, et⟩ := ht
  obtain ⟨tt', pe, ee⟩ := he
  refine ⟨_, fun i => pe_anyG (k := k) (cx.room i) (cx.calm i) (hg i) (by rw [cx.mg i]; exact hm) (by rw [cx.base i, cx.mg i]; exact TB) (hcode i) (ok i) (pi i) (hs i) (fun q hq => by rw [cx.names i]; exact hix q hq)
    (fun s H C code A fp pn hr => pg ⟨(i, s, H, C, code, A, fp, pn), hr⟩) (fun s H C code A fp pn hr => pt ⟨(i, s, H, C, code, A, fp, pn), hr⟩) (fun s H C code A fp pn hr => pe ⟨(i, s, H, C, code, A, fp, pn), hr⟩) (hstar i), ev_gen hT ei eg et ee⟩
theorem rx_all {P : Program} {w : World} {mg : Str → Option Value} {base : Heap} {k : Nat} {N : List Str} {c Pt : Addr} {elt tg iter : Expr} {ifs : List Expr} {gpos p pos : Pos} {scope : Scope} {cap : List (Str × Nat)} {own : List Str}
    (cx : Cxs P w G mg base (k + 1) N W X) (hg : ∀ i, Gl (X i) "all") (hm : mg "all" = none) (TB : TabB base mg c Pt) (hT : Pt ∈ G.T) (hcode : ∀ i, (X i).env.code = .ref c) (ok : ∀ i, GenOk (X i).env.scope scope) (hi : IX X G W tg iter src) (hs : ∀ i v, genFold iter (X i).env v = pure v)
    (hix : ∀ q ∈ cap, N[q.2]? = some q.1 ∧ scope.names.lookup q.1 = some .free) (hgg : GX (genX X scope (cap.map (·.1) ++ own) k) G tg vs fg) (ht : TX (genX X scope (cap.map (·.1) ++ own) k) G W0 ifs tt) (he : RX (genX X scope (cap.map (·.1) ++ own) k) G W0 elt te)
    (hstar : ∀ i, starEach [.GeneratorExp elt [⟨tg, iter, ifs, 0⟩] scope gpos] (X i).env = (false, eval (.GeneratorExp elt [⟨tg, iter, ifs, 0⟩] scope gpos) (X i).env) :: starEach [] (X i).env) :
    RX X G W (.Call (.Name "all" p) [.GeneratorExp elt [⟨tg, iter, ifs, 0⟩] scope gpos] [] pos) (gF false (cap.map (·.2)) own.length src fg tt te) := by
  obtain ⟨wi, pi, ei⟩ := hi
  obtain ⟨g, pg, eg⟩ := hgg
  obtain ⟨t, pt, et⟩ := ht
  obtain ⟨tt', pe, ee⟩ := he
  refine ⟨_, fun i => pe_allG (k := k) (cx.room i) (cx.calm i) (hg i) (by rw [cx.mg i]; exact hm) (by rw [cx.base i, cx.mg i]; exact TB) (hcode i) (ok i) (pi i) (hs i) (fun q hq => by rw [cx.names i]; exact hix q hq)
    (fun s H C code A fp pn hr => pg ⟨(i, s, H, C, code, A, fp, pn), hr⟩) (fun s H C code A fp pn hr => pt ⟨(i, s, H, C, code, A, fp, pn), hr⟩) (fun s H C code A fp pn hr => pe ⟨(i, s, H, C, code, A, fp, pn), hr⟩) (hstar i), ev_gen hT ei eg et ee⟩
end
end L3

set_option Elab.async false
set_option linter.all false
set_option maxRecDepth 100000
set_option maxHeartbeats 1000000
namespace L3
open PySem PySem.Spec PyProof.Rows L2

section
variable {ι : Type} {X : ι → Cx} {G : GC} {W : WX} {pos pos' : Pos} {a b c e o tg : Expr} {es : List Expr} {qa qb : Opd}
/-! ### several names at once -/
inductive EvRs (G : GC) (W : WX) : TA → List (P RV) → Prop
  | nil : EvRs G W tNil []
  | cons {t : TE} {ts : TA} {f : P RV} {fs : List (P RV)} : EvR G W t f → EvRs G W ts fs → EvRs G W (tCons t ts) (f :: fs)
def parR : List (P RV) → P (List RV)
  | [] => ret []
  | f :: fs => seq f fun rv => seq (parR fs) fun rvs => ret (rv :: rvs)
inductive RVs (F : FC) (ρ : En) (σ : St) (S M : Hp) : List V → List RV → Prop
  | nil : RVs F ρ σ S M [] []
  | cons {v : V} {rv : RV} {vs : List V} {rvs : List RV} : RVok F ρ σ S M v rv → (∀ o, rv = .own o → ∀ (i : Nat) o', rvs[i]? = some (.own o') → vs[i]? ≠ some v) → RVs F ρ σ S M vs rvs → RVs F ρ σ S M (v :: vs) (rv :: rvs)
theorem RVok.unhold {F : FC} {ρ : En} {σ : St} {S M : Hp} {p : Addr} {u : HO} {v : V} {rv : RV} (h : RVok (F.hold p u) ρ σ S M v rv) : RVok F ρ σ S M v rv ∧ ∀ o, rv = .own o → v ≠ .ref p := by
  cases rv with
  | val d => exact ⟨h, fun o e => by cases e⟩
  | own o =>
    obtain ⟨p', u', e1, e2, e3, e4, e5, e6⟩ := h
    have e4 : upd F.M0 p u p' = none := e4
    have ne : p' ≠ p := fun z => by rw [z, upd_same] at e4; cases e4
    rw [upd_ne ne] at e4
    refine ⟨⟨p', u', e1, e2, e3, e4, e5, e6⟩, fun _ _ z => ne ?_⟩
    rw [e1] at z
    injection z
theorem RVs.unhold {F : FC} {ρ : En} {σ : St} {S M : Hp} {p : Addr} {u : HO} : ∀ {vs : List V} {rvs : List RV}, RVs (F.hold p u) ρ σ S M vs rvs → RVs F ρ σ S M vs rvs ∧ ∀ (i : Nat) o', rvs[i]? = some (.own o') → vs[i]? ≠ some (.ref p)
  | _, _, .nil => ⟨.nil, fun i o' h => by simp at h⟩
  | _, _, .cons h d r => by
    obtain ⟨h1, h2⟩ := RVok.unhold h
    obtain ⟨r1, r2⟩ := RVs.unhold r
    refine ⟨.cons h1 d r1, fun i o' e => ?_⟩
    cases i with
    | zero =>
      have e : some _ = some (RV.own o') := e
      cases e
      exact fun z => h2 o' rfl (Option.some.inj z)
    | succ i => exact r2 i o' (by simpa using e)
theorem RVs.len {F : FC} {ρ : En} {σ : St} {S M : Hp} : ∀ {vs : List V} {rvs : List RV}, RVs F ρ σ S M vs rvs → vs.length = rvs.length
  | _, _, .nil => rfl
  | _, _, .cons _ _ r => congrArg Nat.succ r.len
theorem RVok.ext {F : FC} {ρ : En} {σ : St} {S S' M : Hp} {v : V} {rv : RV} (e : Ext S S') (h : RVok F ρ σ S M v rv) : RVok F ρ σ S' M v rv := by
  cases rv with
  | val d => exact Rp.mono e h
  | own o =>
    obtain ⟨p', u', e1, e2, e3, e4⟩ := h
    exact ⟨p', u', e1, e2, e3.mono e, e4⟩
theorem RVs.ext {F : FC} {ρ : En} {σ : St} {S S' M : Hp} (e : Ext S S') : ∀ {vs : List V} {rvs : List RV}, RVs F ρ σ S M vs rvs → RVs F ρ σ S' M vs rvs
  | _, _, .nil => .nil
  | _, _, .cons h d r => .cons (RVok.ext e h) d (RVs.ext e r)
theorem ev_par : ∀ {ts : TA} {fs : List (P RV)}, EvRs G W ts fs → ∀ (F : FC) (ρ : En) (σ : St) (S M H : Hp) (R : List V → Hp → Prop), F.g = G → SR F ρ σ S M H →
    (parR fs ρ).post (fun rvs ρ' => ∀ vs S' M' H', vs.length = fs.length → Ext S S' → SR F ρ' σ S' M' H' → RVs F ρ' σ S' M' vs rvs → R vs H') (fun k ρ' => ∀ S' M' H', Ext S S' → SR F ρ' σ S' M' H' → W (F.g.cls k) none σ H') → ts σ H R := by
  intro ts fs h
  induction h with
  | nil =>
    intro F ρ σ S M H R hg s p
    exact p [] S M H rfl (Ext.refl S) s .nil
  | @cons t ts f fs ev _ ih =>
    intro F ρ σ S M H R hg s p
    have p : ((f ρ).bind fun rv => seq (parR fs) fun rvs => ret (rv :: rvs)).post _ _ := p
    refine ev F ρ σ S M H _ hg s (Res.post_mono (Res.post_bind p) (fun rv ρ1 q v S1 M1 H1 e1 s1 r1 => ?_) fun k ρ1 q => q)
    have q : ((parR fs ρ1).bind fun rvs => ret (rv :: rvs)).post _ _ := q
    have q := Res.post_bind q
    cases rv with
    | val d =>
      refine ih F ρ1 σ S1 M1 H1 _ hg s1 (Res.post_mono q (fun rvs ρ2 q2 vs S2 M2 H2 hl e2 s2 r2 => ?_) fun k ρ2 q2 S2 M2 H2 e2 s2 => q2 S2 M2 H2 (e1.trans e2) s2)
      exact q2 (v :: vs) S2 M2 H2 (by simp [hl]) (e1.trans e2) s2 (.cons (RVok.ext (rv := .val d) (M := M2) (F := F) (ρ := ρ2) (σ := σ) e2 r1) (fun o e => by cases e) r2)
    | own o =>
      obtain ⟨p0, u, rfl, hM, hO, h0, hB, hs⟩ := r1
      have sH := s1.hold hM hs
      refine ih (F.hold p0 u) ρ1 σ S1 M1 H1 _ hg sH (Res.post_mono q (fun rvs ρ2 q2 vs S2 M2 H2 hl e2 s2 r2 => ?_) fun k ρ2 q2 S2 M2 H2 e2 s2 => ?_)
      · obtain ⟨s3, hM3, hs3⟩ := s2.unhold h0 hB
        obtain ⟨r3, d3⟩ := r2.unhold
        exact q2 (.ref p0 :: vs) S2 M2 H2 (by simp [hl]) (e1.trans e2) s3 (.cons ⟨p0, u, rfl, hM3, hO.mono e2, h0, hB, hs3⟩ (fun o' _ i o'' e => d3 i o'' e) r3)
      · obtain ⟨s3, _, _⟩ := s2.unhold h0 hB
        exact q2 S2 M2 H2 (e1.trans e2) s3
def putsL : List Nat → List RV → En → En
  | i :: is, rv :: rvs, ρ => putsL is rvs (ρ.set i rv.sl)
  | _, _, ρ => ρ
def setsL : List Nat → List V → St → St
  | i :: is, v :: vs, σ => setsL is vs (σ.set i (some v))
  | _, _, σ => σ
theorem RVok.setOther {F : FC} {ρ : En} {σ : St} {S M : Hp} {v w : V} {rv rw : RV} {i : Nat} (h : RVok F ρ σ S M v rv) (hw : RVok F ρ σ S M w rw) (hd : ∀ o o', rv = .own o → rw = .own o' → v ≠ w) : RVok F (ρ.set i rw.sl) (σ.set i (some w)) S M v rv := by
  cases rv with
  | val d => exact h
  | own o =>
    obtain ⟨p', u', e1, e2, e3, e4, e5, e6⟩ := h
    refine ⟨p', u', e1, e2, e3, e4, e5, fun j sl hj ho z => ?_⟩
    rcases set_look hj with ⟨e, e7, hl⟩ | ⟨hne, hj⟩
    · subst e
      subst e7
      cases rw with
      | val d => cases ho
      | own o' =>
        have hz : (σ.set i (some w))[i]? = some (some (.ref p')) := z
        have hlt : i < σ.length := by
          have := (List.getElem?_eq_some_iff.mp hz).1
          simpa using this
        rw [List.getElem?_set_self hlt] at hz
        cases hz
        exact hd o o' rfl rfl e1
    · rw [List.getElem?_set_ne hne] at z
      exact e6 j sl hj ho z
theorem SR.puts {F : FC} : ∀ {is : List Nat} {rvs : List RV} {vs : List V} {ρ : En} {σ : St} {S M H : Hp}, SR F ρ σ S M H → RVs F ρ σ S M vs rvs → SR F (putsL is rvs ρ) (setsL is vs σ) S M H
  | [], _, _, _, _, _, _, _, s, _ => s
  | _ :: _, _, _, _, _, _, _, _, s, .nil => s
  | i :: is, rv :: rvs, v :: vs, ρ, σ, S, M, H, s, .cons h d r => by
    refine SR.puts (is := is) (s.set h i) ?_
    have go : ∀ {vs : List V} {rvs : List RV}, RVs F ρ σ S M vs rvs → (∀ o, rv = .own o → ∀ (i : Nat) o', rvs[i]? = some (.own o') → vs[i]? ≠ some v) → RVs F (ρ.set i rv.sl) (σ.set i (some v)) S M vs rvs := by
      intro vs rvs r
      induction r with
      | nil => intro _; exact .nil
      | cons h1 d1 r1 ih =>
        intro d
        refine .cons (h1.setOther h fun o o' e e' z => d o' e' 0 o (by simp [e]) (by simp [z])) d1 (ih fun o e i o' e' => ?_)
        have := d o e (i + 1) o' (by simpa using e')
        simpa using this
    exact go r d
/-- the names at is get the values of fs -/
def parF (is : List Nat) (fs : List (P RV)) : P Fl := seq (parR fs) fun rvs ρ => .ok .nx (putsL is rvs ρ)
def RXs (X : ι → Cx) (G : GC) (W : WX) (es : List Expr) (fs : List (P RV)) : Prop := ∃ ts, (∀ i, PA (X i) es ts) ∧ EvRs G W ts fs
theorem rxs_nil : RXs X G W [] [] := ⟨_, fun _ => pa_nil, .nil⟩
theorem rxs_cons {f : P RV} {fs : List (P RV)} (h : RX X G W e f) (r : RXs X G W es fs) (hs : ∀ i, starEach (e :: es) (X i).env = (false, eval e (X i).env) :: starEach es (X i).env) : RXs X G W (e :: es) (f :: fs) := by
  obtain ⟨t, pe, ev⟩ := h
  obtain ⟨ts, pa, evs⟩ := r
  exact ⟨_, fun i => pa_cons (pe i) (pa i) (hs i), .cons ev evs⟩
theorem par_end {D : Ends} {F : FC} {S : Hp} {is : List Nat} {fs : List (P RV)} {ρ : En} {A : List RV → En → Prop} (p : PSt F W S (parF is fs ρ) D)
    (hA : ∀ rvs ρ', (∀ σ' S' M' H', Ext S S' → SR F (putsL is rvs ρ') σ' S' M' H' → D.nx σ' H') → A rvs ρ') :
    (parR fs ρ).post A (fun k ρ' => ∀ σ' S' M' H', Ext S S' → SR F ρ' σ' S' M' H' → W (F.g.cls k) none σ' H') :=
  Res.post_mono (Res.post_bind p) (fun rvs ρ' q => hA rvs ρ' q) fun _ _ q => q
theorem sx_par2 (i j : Nat) {x y : Str} {px py pt : Pos} {kt k2 pt2} {f g : P RV} (hc : ∀ l, (X l).calm = true) (hN : ∀ l, (X l).N.Nodup) (hi : ∀ l, (X l).N[i]? = some x) (hj : ∀ l, (X l).N[j]? = some y) (hij : i ≠ j)
    (hx : ∀ l, (X l).env.scope.names.lookup x = some .local) (hy : ∀ l, (X l).env.scope.names.lookup y = some .local) (h : RXs X G W [a, b] [f, g])
    (hw : ∀ l, swappedStores [.Tuple [.Name x px, .Name y py] kt pt] (.Tuple [a, b] k2 pt2) (X l).env = pure (some [x, y])) (hs : ∀ l, swapsWithSole [.Tuple [.Name x px, .Name y py] kt pt] (.Tuple [a, b] k2 pt2) pos.line (X l).env = pure false) :
    SX X G W (.Assign [.Tuple [.Name x px, .Name y py] kt pt] (.Tuple [a, b] k2 pt2) pos) (parF [i, j] [f, g]) := by
  obtain ⟨ts, pa, ev⟩ := h
  refine ⟨_, fun l => ps_par (hc l) (hN l) (hi l) (hj l) hij (hx l) (hy l) (pa l) (hw l) (hs l), ?_⟩
  intro F ρ σ S M H D hg s p
  refine ev_par ev F ρ σ S M H _ hg s (Res.post_mono (par_end p fun rvs ρ1 q => q) (fun rvs ρ1 q vs S1 M1 H1 hl e1 s1 r1 => ?_) fun k ρ1 q S1 M1 H1 => q σ S1 M1 H1)
  match vs, hl, r1 with
  | [v, w], _, r1 => exact ⟨v, w, rfl, q _ S1 M1 H1 e1 (s1.puts (is := [i, j]) r1)⟩
theorem sx_par3 (i j l : Nat) {x y z : Str} {px py pz pt : Pos} {kt k2 pt2} {f g h : P RV} (hc : ∀ m, (X m).calm = true) (hN : ∀ m, (X m).N.Nodup) (hi : ∀ m, (X m).N[i]? = some x) (hj : ∀ m, (X m).N[j]? = some y) (hl : ∀ m, (X m).N[l]? = some z) (hij : i ≠ j) (hil : i ≠ l) (hjl : j ≠ l)
    (hx : ∀ m, (X m).env.scope.names.lookup x = some .local) (hy : ∀ m, (X m).env.scope.names.lookup y = some .local) (hz : ∀ m, (X m).env.scope.names.lookup z = some .local) (hh : RXs X G W [a, b, c] [f, g, h])
    (hw : ∀ m, swappedStores [.Tuple [.Name x px, .Name y py, .Name z pz] kt pt] (.Tuple [a, b, c] k2 pt2) (X m).env = pure (some [x, y, z])) (hs : ∀ m, swapsWithSole [.Tuple [.Name x px, .Name y py, .Name z pz] kt pt] (.Tuple [a, b, c] k2 pt2) pos.line (X m).env = pure false) :
    SX X G W (.Assign [.Tuple [.Name x px, .Name y py, .Name z pz] kt pt] (.Tuple [a, b, c] k2 pt2) pos) (parF [i, j, l] [f, g, h]) := by
  obtain ⟨ts, pa, ev⟩ := hh
  refine ⟨_, fun m => ps_par3 (hc m) (hN m) (hi m) (hj m) (hl m) hij hil hjl (hx m) (hy m) (hz m) (pa m) (hw m) (hs m), ?_⟩
  intro F ρ σ S M H D hg s p
  refine ev_par ev F ρ σ S M H _ hg s (Res.post_mono (par_end p fun rvs ρ1 q => q) (fun rvs ρ1 q vs S1 M1 H1 hl e1 s1 r1 => ?_) fun k ρ1 q S1 M1 H1 => q σ S1 M1 H1)
  match vs, hl, r1 with
  | [u, v, w], _, r1 => exact ⟨u, v, w, rfl, q _ S1 M1 H1 e1 (s1.puts (is := [i, j, l]) r1)⟩
/-- a row of targets, names all -/
inductive TNs (X : ι → Cx) : List Expr → List Nat → Prop
  | nil : TNs X [] []
  | cons {x : Str} {p : Pos} {i : Nat} {es : List Expr} {is : List Nat} : (∀ l, (X l).N.Nodup) → (∀ l, (X l).N[i]? = some x) → (∀ l, Loc (X l).env.scope x) → (∀ l, (X l).fn x = true ∨ (X l).env.scope.names.lookup x = some .local) →
      (∀ l, (assignEach (.Name x p :: es) (X l).env).map (·.2) = assign (.Name x p) (X l).env :: (assignEach es (X l).env).map (·.2)) → TNs X es is → TNs X (.Name x p :: es) (i :: is)
def gNames : List Nat → TGs
  | [] => gNil
  | i :: is => gCons (gName i) (gNames is)
theorem TNs.pgs : ∀ {es : List Expr} {is : List Nat}, TNs X es is → ∀ l, PGs (X l) es (gNames is)
  | _, _, .nil, _ => pgs_nil
  | _, _, .cons h1 h2 h3 h4 h5 r, l => pgs_cons (pg_name (h1 l) (h2 l) (h3 l) (h4 l)) (r.pgs l) (h5 l)
theorem gNames_ok {Q : St → Hp → Prop} {H : Hp} : ∀ {is : List Nat} {vs : List V} {σ : St}, vs.length = is.length → Q (setsL is vs σ) H → gNames is vs σ H Q
  | [], [], _, _, q => ⟨rfl, q⟩
  | i :: is, v :: vs, σ, h, q => ⟨v, vs, rfl, gNames_ok (is := is) (σ := σ.set i (some v)) (by simpa using h) q⟩
/-- .. through a tuple that is built -/
theorem sx_parT {is : List Nat} {ts es : List Expr} {kt k2 pt pt2} {fs : List (P RV)} (hK : ∀ l, (X l).K = G.K) (hc : ∀ l, (X l).calm = true) (ht : TNs X ts is) (h : RXs X G W es fs) (hn : fs.length = is.length) (hz : is.length ≤ 1000)
    (hs : ∀ l, swapsWithSole [.Tuple ts kt pt] (.Tuple es k2 pt2) pos.line (X l).env = pure false) (hw : ∀ l, swappedStores [.Tuple ts kt pt] (.Tuple es k2 pt2) (X l).env = pure none)
    (h1 : ∀ l, (assignEach [.Tuple ts kt pt] (X l).env).map (·.2) = [assign (.Tuple ts kt pt) (X l).env]) (h2 : ∀ l, (assignEach ts (X l).env).length = is.length) (h3 : ∀ l, (assignEach ts (X l).env).findIdx? (·.1) = none) :
    SX X G W (.Assign [.Tuple ts kt pt] (.Tuple es k2 pt2) pos) (parF is fs) := by
  obtain ⟨ta, pa, ev⟩ := h
  refine ⟨tAsg (tTupF ta) (gTup G.K is.length (gNames is)), fun l => ps_asg (pe_tupF (pa l)) (by rw [← hK l]; exact pg_tup (hc l) (ht.pgs l) (h2 l) (h3 l)) (hs l) (hw l) (h1 l), ?_⟩
  intro F ρ σ S M H D hg s p
  refine ev_par ev F ρ σ S M H _ hg s (Res.post_mono (par_end p fun rvs ρ1 q => q) (fun rvs ρ1 q vs S1 M1 H1 hl e1 s1 r1 => ?_) fun k ρ1 q S1 M1 H1 => q σ S1 M1 H1)
  refine ⟨by rw [hl, hn, sizeLine_eq]; omega, fun a o ha ho => ?_⟩
  obtain ⟨e2, s2⟩ := s1.newS ha (.frz o (.tup vs)) ho
  refine ⟨a, vs, rfl, .inl (.inr ⟨o, upd_same⟩), by rw [hl, hn], ?_⟩
  exact gNames_ok (by rw [hl, hn]) (q _ _ _ _ (e1.trans e2) (s2.puts (is := is) (r1.ext e2)))
/-! ### targets -/
def putsD : List Nat → List D → En → En
  | i :: is, d :: ds, ρ => putsD is ds (ρ.set i (.sh d))
  | _, _, ρ => ρ
def tgT (is : List Nat) : Tg := fun d ρ => match d with
  | .tuple ds => if ds.length = is.length then some (putsD is ds ρ) else none
  | _ => none
theorem SR.putsD {F : FC} : ∀ {is : List Nat} {ds : List D} {vs : List V} {ρ : En} {σ : St} {S M H : Hp}, SR F ρ σ S M H → RpAll F.K S vs ds → SR F (L3.putsD is ds ρ) (setsL is vs σ) S M H
  | [], _, _, _, _, _, _, _, s, _ => s
  | _ :: _, _, _, _, _, _, _, _, s, .nil => s
  | i :: is, d :: ds, v :: vs, ρ, σ, S, M, H, s, .cons h r => SR.putsD (is := is) (s.set (rv := .val d) h i) r
theorem setsL_len : ∀ {is : List Nat} {vs : List V} {σ : St}, (setsL is vs σ).length = σ.length
  | [], _, _ => rfl
  | _ :: _, [], _ => rfl
  | i :: is, v :: vs, σ => by
    unfold setsL
    rw [setsL_len (is := is), List.length_set]
theorem setsL_out {j : Nat} : ∀ {is : List Nat} {vs : List V} {σ : St}, j ∉ is → (setsL is vs σ)[j]? = σ[j]?
  | [], _, _, _ => rfl
  | _ :: _, [], _, _ => rfl
  | i :: is, v :: vs, σ, h => by
    simp only [List.mem_cons, not_or] at h
    unfold setsL
    rw [setsL_out (is := is) h.2, List.getElem?_set_ne (Ne.symm h.1)]
theorem gx_tup {is : List Nat} {ts : List Expr} {k : Nat} (hK : ∀ l, (X l).K = G.K) (hc : ∀ l, (X l).calm = true) (ht : TNs X ts is) (h2 : ∀ l, (assignEach ts (X l).env).length = is.length) (h3 : ∀ l, (assignEach ts (X l).env).findIdx? (·.1) = none) : GX X G (.Tuple ts k pos) is (tgT is) := by
  refine ⟨gTup G.K is.length (gNames is), fun l => by rw [← hK l]; exact pg_tup (hc l) (ht.pgs l) (h2 l) (h3 l), ?_⟩
  intro F ρ ρ' σ S M H v d Q hg s r e p
  have hK' : F.K = G.K := congrArg GC.K hg
  cases d with
  | tuple ds =>
    have e : (if ds.length = is.length then some (L3.putsD is ds ρ) else none) = some ρ' := e
    by_cases hl : ds.length = is.length
    · rw [if_pos hl] at e
      cases e
      cases r with
      | tup h1 r1 =>
        refine ⟨_, _, rfl, by rw [← hK']; exact s.sub.sqT h1, by rw [r1.length]; exact hl, gNames_ok (by rw [r1.length]; exact hl) ?_⟩
        exact p _ S M H (Ext.refl S) (s.putsD r1) setsL_len fun j hj => setsL_out hj
    · rw [if_neg hl] at e; cases e
  | _ => cases e
/-- target = value, the target a row of names -/
def unpF (is : List Nat) (f : P RV) : P Fl := seq f fun rv ρ => match tgT is rv.toD ρ with
  | some ρ' => .ok .nx ρ'
  | none => .no
theorem sx_unp {is : List Nat} {ts : List Expr} {kt pt} {f : P RV} (hg : GX X G (.Tuple ts kt pt) is (tgT is)) (h : RX X G W e f)
    (hs : ∀ l, swapsWithSole [.Tuple ts kt pt] e pos.line (X l).env = pure false) (hw : ∀ l, swappedStores [.Tuple ts kt pt] e (X l).env = pure none)
    (h1 : ∀ l, (assignEach [.Tuple ts kt pt] (X l).env).map (·.2) = [assign (.Tuple ts kt pt) (X l).env]) : SX X G W (.Assign [.Tuple ts kt pt] e pos) (unpF is f) := by
  obtain ⟨g, pg, eg⟩ := hg
  obtain ⟨t, pe, ev⟩ := h
  refine ⟨_, fun l => ps_asg (pe l) (pg l) (hs l) (hw l) (h1 l), ?_⟩
  intro F ρ σ S M H D hgg s p
  have p : ((f ρ).bind fun rv ρ => match tgT is rv.toD ρ with | some ρ' => Res.ok Fl.nx ρ' | none => .no).post _ _ := p
  refine ev F ρ σ S M H _ hgg s (Res.post_mono (Res.post_bind p) (fun rv ρ1 q v S1 M1 H1 e1 s1 r1 => ?_) fun k ρ1 q S1 M1 H1 => q σ S1 M1 H1)
  obtain ⟨S2, M2, e2, s2, r2⟩ := s1.freeze r1
  have q : (match tgT is rv.toD ρ1 with | some ρ' => Res.ok Fl.nx ρ' | none => .no : Res Fl).post _ _ := q
  cases ht : tgT is rv.toD ρ1 with
  | none => rw [ht] at q; exact q.elim
  | some ρ2 =>
    rw [ht] at q
    exact eg F ρ1 ρ2 σ S2 M2 H1 v rv.toD _ hgg s2 r2 ht fun σ3 S3 M3 H3 e3 s3 _ _ => q σ3 S3 M3 H3 ((e1.trans e2).trans e3) s3
end
end L3

set_option Elab.async false
set_option linter.all false
set_option maxRecDepth 100000
set_option maxHeartbeats 1000000
namespace L3
open PySem PySem.Spec PyProof.Rows L2

section
variable {ι : Type} {X : ι → Cx} {G : GC} {W : WX} {pos pos' : Pos} {a b c e o tg : Expr} {es : List Expr} {qa qb : Opd}
/-! ### chains of ints -/
def chainF (p p' : Int → Int → Bool) (f g h : P RV) : P RV := seq f fun x => seq g fun y => seq (opt (ordD p x.toD y.toD)) fun z => match z with
  | .val (.bool true) => seq h fun w => opt (ordD p' y.toD w.toD)
  | .val (.bool false) => ret (.val (.bool false))
  | _ => fail
def rOrd (p : Int → Int → Bool) : R2 := fun x y H Q => ∃ i j, x = .int i ∧ y = .int j ∧ Q (.bl (p i j)) H
structure OrdOp (op : CmpOp) (p : Int → Int → Bool) : Prop where
  ok : ∀ X : Cx, OpR X (compareOp op) (rOrd p)
theorem oo_lt : OrdOp .Lt ltI := ⟨fun X => op_lt⟩
theorem oo_le : OrdOp .LtE leI := ⟨fun X => op_le⟩
theorem oo_gt : OrdOp .Gt gtI := ⟨fun X => op_gt⟩
theorem oo_ge : OrdOp .GtE geI := ⟨fun X => op_ge⟩
theorem ordD_some {p : Int → Int → Bool} {x y : D} {z : RV} (h : ordD p x y = some z) : ∃ i j, x = .int i ∧ y = .int j ∧ z = .val (.bool (p i j)) := by
  unfold ordD at h
  split at h
  · cases h; exact ⟨_, _, rfl, rfl, rfl⟩
  · cases h
theorem ev_chain {p p' : Int → Int → Bool} {ta tb tc : TE} {f g h : P RV} (ea : EvR G W ta f) (eb : EvR G W tb g) (ec : EvR G W tc h) : EvR G W (tChain (rOrd p) (rOrd p') ta tb tc) (chainF p p' f g h) := by
  intro F ρ σ S M H Q hg s pp
  refine ea.use hg s pp (fun k ρ' q => q) fun x v ρ1 S1 M1 H1 e1 s1 r1 q => ?_
  refine eb.use hg s1 q (fun k ρ' q S' M' H' e' => q S' M' H' (e1.trans e')) fun y u ρ2 S2 M2 H2 e2 s2 r2 q => ?_
  obtain ⟨z, hz, q⟩ := opt_post q
  obtain ⟨i, j, h1, h2, rfl⟩ := ordD_some hz
  rw [h1] at r1
  have hv : v = .int i := by cases r1; rfl
  have hu : u = .int j := by rw [h2] at r2; cases r2; rfl
  refine ⟨i, j, hv, hu, _, rfl, ?_⟩
  cases hp : p i j with
  | false =>
    rw [hp] at q
    rw [if_neg Bool.false_ne_true]
    exact q _ S2 M2 H2 (e1.trans e2) s2 (.bl false)
  | true =>
    rw [hp] at q
    rw [if_pos rfl]
    refine ec.use hg s2 q (fun k ρ' q S' M' H' e' => q S' M' H' ((e1.trans e2).trans e')) fun w t ρ3 S3 M3 H3 e3 s3 r3 q => ?_
    obtain ⟨rv, hr, q⟩ := pr_opt (F := F) (W := W) (σ := σ) (S := S) (Q := Q) q
    obtain ⟨i', j', h3, h4, rfl⟩ := ordD_some hr
    rw [h2] at h3
    cases h3
    have ht : t = .int j' := by rw [h4] at r3; cases r3; rfl
    exact ⟨j, j', hu, ht, q _ S3 M3 H3 ((e1.trans e2).trans e3) s3 (.bl _)⟩
theorem rx_chain {op op' : CmpOp} {p p' : Int → Int → Bool} {f g h : P RV} (o1 : OrdOp op p) (o2 : OrdOp op' p') (ha : RX X G W a f) (hb : RX X G W b g) (hc : RX X G W c h) (hm : lastMarks [op, op'] [b, c] = false) : RX X G W (.Compare a [op, op'] [b, c] pos) (chainF p p' f g h) := by
  obtain ⟨ta, pa, ea⟩ := ha
  obtain ⟨tb, pb, eb⟩ := hb
  obtain ⟨tc, pc, ec⟩ := hc
  exact ⟨_, fun i => pe_chain (o1.ok _) (o2.ok _) (pa i) (pb i) (pc i) hm, ev_chain ea eb ec⟩
theorem bx_chain {op op' : CmpOp} {p p' : Int → Int → Bool} {f g h : P RV} (o1 : OrdOp op p) (o2 : OrdOp op' p') (ha : RX X G W a f) (hb : RX X G W b g) (hc : RX X G W c h) (hm : lastMarks [op, op'] [b, c] = false) : BX X G W (.Compare a [op, op'] [b, c] pos) (seq (chainF p p' f g h) toB) := by
  obtain ⟨ta, pa, ea⟩ := ha
  obtain ⟨tb, pb, eb⟩ := hb
  obtain ⟨tc, pc, ec⟩ := hc
  refine ⟨_, fun i => pt_chain (o1.ok _) (o2.ok _) (pa i) (pb i) (pc i) hm, ?_⟩
  intro F ρ σ S M H Q hg s pp
  refine (ev_chain ea eb ec).use hg s pp (fun k ρ' q => q) fun rv v ρ1 S1 M1 H1 e1 s1 r1 q => ?_
  unfold toB at q
  cases hb : bD rv.toD with
  | none => rw [hb] at q; exact q.elim
  | some b =>
    rw [hb] at q
    rw [bD_some hb] at r1
    exact ⟨b, r1.bool, q S1 M1 H1 e1 s1⟩

/-! ### name op= e -/
def augF (i : Nat) (f : P RV) (g : D → D → Option RV) : P Fl := fun ρ => match ρ[i]? with
  | some (.sh x) => ((f ρ).bind fun rv => seq (opt (g x rv.toD)) (put i))
  | _ => .no
structure AugOp (op : Operator) (g : D → D → Option RV) : Prop where
  ok : ∃ t : TIp, (∀ X : Cx, PIp X op t) ∧ ∀ x y z, g x y = some z → ∃ w : D, z = .val w ∧ ∀ (K : PySem.W.Frag) (S H : Hp) (v u : V) (Q : VK), Rp K S v x → Rp K S u y → (∀ r, Rp K S r w → Q r H) → t v u H Q
theorem rp_int {K : PySem.W.Frag} {S : Hp} {v : V} {i : Int} (r : Rp K S v (.int i)) : v = .int i := by cases r; rfl
theorem ao_add : AugOp .Add (fun x y => match x, y with | .int i, .int j => some (.val (.int (i + j))) | _, _ => none) := ⟨_, fun X => iop_add, fun x y z h => by
  split at h
  · cases h
    exact ⟨_, rfl, fun K S H v u Q r1 r2 q => ⟨_, _, rp_int r1, rp_int r2, q _ (.int _)⟩⟩
  · cases h⟩
theorem ao_sub : AugOp .Sub subD := ⟨_, fun X => iop_sub, fun x y z h => by
  unfold subD at h
  split at h
  · cases h
    exact ⟨_, rfl, fun K S H v u Q r1 r2 q => ⟨_, _, rp_int r1, rp_int r2, q _ (.int _)⟩⟩
  · cases h⟩
theorem ao_mul : AugOp .Mult (fun x y => match x, y with | .int i, .int j => if decide (-(18446744073709551616) < i ∧ i < 18446744073709551616) || decide (-(18446744073709551616) < j ∧ j < 18446744073709551616) then some (.val (.int (i * j))) else none | _, _ => none) := ⟨_, fun X => iop_mul, fun x y z h => by
  split at h
  · split at h
    · rename_i hc
      cases h
      simp only [Bool.or_eq_true, decide_eq_true_eq] at hc
      exact ⟨_, rfl, fun K S H v u Q r1 r2 q => ⟨_, _, rp_int r1, rp_int r2, hc, q _ (.int _)⟩⟩
    · cases h
  · cases h⟩
def addI : D → D → Option RV := fun x y => match x, y with | .int i, .int j => some (.val (.int (i + j))) | _, _ => none
def mulI : D → D → Option RV := fun x y => match x, y with | .int i, .int j => if decide (-(18446744073709551616) < i ∧ i < 18446744073709551616) || decide (-(18446744073709551616) < j ∧ j < 18446744073709551616) then some (.val (.int (i * j))) else none | _, _ => none
theorem ev_aug {op : Operator} {g : D → D → Option RV} {te : TE} {f : P RV} {i : Nat} {t : TIp} (ht : ∀ x y z, g x y = some z → ∃ w : D, z = .val w ∧ ∀ (K : PySem.W.Frag) (S H : Hp) (v u : V) (Q : VK), Rp K S v x → Rp K S u y → (∀ r, Rp K S r w → Q r H) → t v u H Q)
    (ev : EvR G W te f) : EvS G W (tAug i te t) (augF i f g) := by
  intro F ρ σ S M H D hg s p
  unfold augF at p
  cases h : ρ[i]? with
  | none => rw [h] at p; exact p.elim
  | some sl =>
    rw [h] at p
    cases sl with
    | un => exact p.elim
    | ow o => exact p.elim
    | bo j o => exact p.elim
    | sh x =>
      obtain ⟨w, hw⟩ := s.at h
      obtain ⟨v, ev', r0⟩ := s.slot i _ w h hw
      subst ev'
      refine ⟨v, hw, ?_⟩
      have p : PSt F W S ((f ρ).bind fun rv => seq (opt (g x rv.toD)) (put i)) D := p
      refine ev F ρ σ S M H _ hg s (Res.post_mono (Res.post_bind p) (fun rv ρ1 q u S1 M1 H1 e1 s1 r1 => ?_) fun k ρ1 q S1 M1 H1 => q σ S1 M1 H1)
      obtain ⟨S2, M2, e2, s2, r2⟩ := s1.freeze r1
      obtain ⟨z, hz, q⟩ := opt_post q
      obtain ⟨w', rfl, hop⟩ := ht _ _ _ hz
      refine hop F.K S2 H1 v u _ (r0.mono (e1.trans e2)) r2 fun r rr => ?_
      exact q _ S2 M2 H1 (e1.trans e2) (s2.set (rv := .val w') rr i)
theorem sx_aug (i : Nat) {x : Str} {op : Operator} {g : D → D → Option RV} {f : P RV} (hN : ∀ j, (X j).N.Nodup) (hi : ∀ j, (X j).N[i]? = some x) (hx : ∀ j, Loc (X j).env.scope x) (ho : AugOp op g) (h : RX X G W e f) (hf : ∀ j, (X j).fn x = true ∨ (X j).env.scope.names.lookup x = some .local) :
    SX X G W (.AugAssign (.Name x pos') op e pos) (augF i f g) := by
  obtain ⟨te, pe, ev⟩ := h
  obtain ⟨t, pt, ht⟩ := ho.ok
  exact ⟨_, fun j => ps_aug (hN j) (hi j) (hx j) (pe j) (pt _) (hf j), ev_aug (op := op) ht ev⟩

/-! ### for .. else -/
def forLE (tg : Tg) (b g : P Fl) : List D → P Fl
  | [] => g
  | d :: ds => fun ρ => match tg d ρ with
    | some ρ' => L3.turn (b ρ') (forLE tg b g ds)
    | none => .no
def forFE (src : P Sr) (tg : Tg) (b g : P Fl) : P Fl := seq src fun sr => match sr with
  | .ls ds => forLE tg b g ds
  | .sl _ => fail
theorem sx_forE {iter : Expr} {body orelse : List Stmt} {src : P Sr} {fg : Tg} {f g : P Fl} {vs : List Nat} (hp : ∀ i, PassesOwn (model (X i).prog (X i).w) (X i).A (X i).env (X i).xe) (hc : ∀ i, (X i).calm = true) (hi : IX X G W tg iter src) (hgg : GX X G tg vs fg) (hb : SXs X G W body f) (ho : SXs X G W orelse g)
    (hs : ∀ i x, foldedSetIterable iter (X i).env x = pure x) : SX X G W (.For tg iter body orelse pos) (forFE src fg f g) := by
  obtain ⟨wi, pi, ei⟩ := hi
  obtain ⟨tgt, pg, eg⟩ := hgg
  obtain ⟨tb, pb, eb⟩ := hb
  obtain ⟨te, pe, ee⟩ := ho
  refine ⟨_, fun i => ps_forE (hp i) (hc i) (pi i) (pg i) (pb i) (pe i) (hs i), ?_⟩
  intro F ρ σ S M H D hg s p
  refine ei F ρ σ S M H _ hg s (Res.post_mono (Res.post_bind p) (fun sr ρ1 q J S1 M1 H1 e1 s1 hJ => ?_) fun k ρ1 q S1 M1 H1 => q σ S1 M1 H1)
  cases sr with
  | sl j => exact q.elim
  | ls ds =>
    have q : PSt F W S (forLE fg f g ds ρ1) D := q
    refine ⟨fun i m σ' H' => i + m = ds.length ∧ ∃ ρ' S' M', Ext S1 S' ∧ SR F ρ' σ' S' M' H' ∧ PSt F W S' (forLE fg f g (ds.drop i) ρ') D, ⟨ds.length, Nat.zero_add _, ρ1, S1, M1, Ext.refl S1, s1, PSt.ext e1 q⟩, ?_⟩
    rintro i m σ2 H2 ⟨him, ρ2, S2, M2, e2, s2, p2⟩
    obtain ⟨h1, h2⟩ := hJ F i ρ2 σ2 S2 M2 H2 hg e2 s2
    by_cases hi : ds.length ≤ i
    · rw [List.drop_of_length_le hi] at p2
      exact .inl ⟨h1 hi, ee F ρ2 σ2 S2 M2 H2 D hg s2 p2⟩
    · have hi : i < ds.length := by omega
      rw [List.drop_eq_getElem_cons hi] at p2
      obtain ⟨hgo, hy⟩ := h2 ds[i] (List.getElem?_eq_getElem hi)
      refine .inr ⟨hgo, fun σ' H' => ∃ ρ' S' M', Ext S1 S' ∧ SR F ρ' σ' S' M' H' ∧ PSt F W S' (forLE fg f g (ds.drop (i + 1)) ρ') D, fun σ' H' h => ⟨m - 1, by omega, by omega, h⟩, fun x H3 hx => ?_⟩
      obtain ⟨S3, M3, e3, s3, r3⟩ := hy x H3 hx
      have p2 : PSt F W S2 (match fg ds[i] ρ2 with | some ρ' => L3.turn (f ρ') (forLE fg f g (ds.drop (i + 1))) | none => .no) D := p2
      cases hfg : fg ds[i] ρ2 with
      | none => rw [hfg] at p2; exact p2.elim
      | some ρ4 =>
        rw [hfg] at p2
        refine eg F ρ2 ρ4 σ2 S3 M3 H3 x ds[i] _ hg s3 r3 hfg fun σ4 S4 M4 H4 e4 s4 _ _ => ?_
        exact eb F ρ4 σ4 S4 M4 H4 _ hg s4 (turn_post (PSt.ext (e3.trans e4) p2) fun ρ5 σ5 S5 M5 H5 e5 s5 p5 => ⟨ρ5, S5, M5, (((e2.trans e3).trans e4).trans e5), s5, p5⟩)
end
end L3

set_option Elab.async false
set_option linter.all false
set_option maxRecDepth 100000
set_option maxHeartbeats 1000000
namespace L3
open PySem PySem.Spec PyProof.Rows L2

section
variable {ι : Type} {X : ι → Cx} {G : GC} {W : WX} {pos pos' : Pos} {a b c e o tg : Expr} {es : List Expr} {qa qb : Opd}
/-! ### isinstance of a built-in type -/
/-- the built-in types that are asked for -/
inductive Bt
  | int | bool | str | list | tuple | dict
def Bt.nm : Bt → String
  | .int => "int"
  | .bool => "bool"
  | .str => "str"
  | .list => "list"
  | .tuple => "tuple"
  | .dict => "dict"
def isT : Bt → D → Bool
  | .int, .int _ => true
  | .int, .bool _ => true
  | .bool, .bool _ => true
  | .str, .str _ => true
  | .list, .list _ => true
  | .tuple, .tuple _ => true
  | .dict, .dict _ => true
  | _, _ => false
theorem kit_bt (T : Bt) (d : D) : kitB (tyD d) T.nm = some (isT T d) := by
  have key : ∀ T : Bt, kitB "NoneType" T.nm = some (isT T .none) ∧ kitB "bool" T.nm = some (isT T (.bool true)) ∧ kitB "int" T.nm = some (isT T (.int 0)) ∧ kitB "str" T.nm = some (isT T (.str ⟨#[]⟩)) ∧ kitB "list" T.nm = some (isT T (.list [])) ∧ kitB "tuple" T.nm = some (isT T (.tuple [])) ∧ kitB "dict" T.nm = some (isT T (.dict [])) := fun T => by
    cases T <;> refine ⟨?_, ?_, ?_, ?_, ?_, ?_, ?_⟩ <;> decide +kernel
  obtain ⟨h1, h2, h3, h4, h5, h6, h7⟩ := key T
  cases d with
  | none => exact h1
  | bool b => exact h2.trans (by cases T <;> rfl)
  | int b => exact h3.trans (by cases T <;> rfl)
  | str b => exact h4.trans (by cases T <;> rfl)
  | list b => exact h5.trans (by cases T <;> rfl)
  | tuple b => exact h6.trans (by cases T <;> rfl)
  | dict b => exact h7.trans (by cases T <;> rfl)
def isiF (T : Bt) : List D → P RV
  | [d] => ret (.val (.bool (isT T d)))
  | _ => fail
theorem rx_isi (T : Bt) {x : Str} {p p2 : Pos} (hK : ∀ i, (X i).K = G.K) (hx : bootBuiltins x = some (.type T.nm)) (hg : ∀ i, Gl (X i) "isinstance") (hm : ∀ i, (X i).mg "isinstance" = none) (hgx : ∀ i, Gl (X i) x) (hmx : ∀ i, (X i).mg x = none) (ha : OX X G W e qa)
    (hn : x ≠ "__name__") (hdb : (x == ("__debug__" : Str)) = false) (h1 : ∀ i, starEach [e, .Name x p2] (X i).env = (false, eval e (X i).env) :: starEach [.Name x p2] (X i).env) (h2 : ∀ i, starEach [.Name x p2] (X i).env = (false, eval (.Name x p2) (X i).env) :: starEach [] (X i).env)
    (hpl : ∀ i, (backTo pos (starEach [.Name x p2] (X i).env)).any (·.1) = false) : RX X G W (.Call (.Name "isinstance" p) [e, .Name x p2] [] pos) (args [qa] (isiF T)) := by
  obtain ⟨t, pe, ev⟩ := ha
  refine ⟨tCB (rIsi G.K) (tCons t (tCons (tC (.ty T.nm)) tNil)), fun i => pe_callB (by rw [← hK i]; exact call_isi) (hg i) (hm i) boot_isinstance (pa_cons (pe i) (pa_cons (pe_bltn (hgx i) (hmx i) hx rfl hn hdb) pa_nil (h2 i)) (h1 i)) (by decide) (by decide) (h1 i) (hpl i), ?_⟩
  intro F ρ σ S M H Q hgg s pp
  have := ev_args (G := G) (W := W) (.cons ev .nil) F ρ σ S M H (fun vs H' => rIsi G.K (vs ++ [.ty T.nm]) H' Q) hgg s pp (fun k ρ' q => q) fun vs ds ρ' S' M' H' e' s' hl rb q => by
    obtain ⟨v, d, rfl, rfl, r⟩ := rpBs1 hl rb
    have hK' : F.K = G.K := congrArg GC.K hgg
    exact ⟨v, .ty T.nm, _, _, _, rfl, .ty T.nm, by rw [← hK']; exact r.ty s', kit_ty (kit_bt T d), q _ S' M' H' e' s' (.bl _)⟩
  exact this

/-! ### int, abs, the greater, the lesser of two -/
def intD : D → Option RV
  | .int i => some (.val (.int i))
  | .bool b => some (.val (.int (if b then 1 else 0)))
  | _ => none
theorem rx_toint {p : Pos} (hg : ∀ i, Gl (X i) "int") (hm : ∀ i, (X i).mg "int" = none) (ha : AX X G W [e] [qa])
    (he : ∀ i, starEach [e] (X i).env = (false, eval e (X i).env) :: starEach [] (X i).env) (hpl : ∀ i, (backTo pos (starEach [] (X i).env)).any (·.1) = false) : RX X G W (.Call (.Name "int" p) [e] [] pos) (args [qa] (f1 intD)) := by
  refine rx_callTy (fun i => call_int1) hg hm boot_int ha ?_ (by decide) (by decide) he hpl
  intro F ρ σ S M H Q vs ds hgg s hl rb p
  obtain ⟨v, d, rfl, rfl, r⟩ := rpBs1 hl rb
  obtain ⟨rv, e, p⟩ := pr_opt (o := intD d) p
  unfold intD at e
  split at e
  · cases e; exact .inl ⟨_, by rw [r.int], PR.val s (.int _) p⟩
  · cases e; exact .inr ⟨_, by rw [r.bl], PR.val s (.int _) p⟩
  · cases e
def absD : D → Option RV
  | .int i => some (.val (.int (if i < 0 then -i else i)))
  | _ => none
theorem rx_abs {p : Pos} (hg : ∀ i, Gl (X i) "abs") (hm : ∀ i, (X i).mg "abs" = none) (ha : AX X G W [e] [qa])
    (he : ∀ i, starEach [e] (X i).env = (false, eval e (X i).env) :: starEach [] (X i).env) (hpl : ∀ i, (backTo pos (starEach [] (X i).env)).any (·.1) = false) : RX X G W (.Call (.Name "abs" p) [e] [] pos) (args [qa] (f1 absD)) := by
  refine rx_callB (fun i => call_abs) hg hm boot_abs ha ?_ (by decide) (by decide) he hpl
  intro F ρ σ S M H Q vs ds hgg s hl rb p
  obtain ⟨v, d, rfl, rfl, r⟩ := rpBs1 hl rb
  obtain ⟨rv, e, p⟩ := pr_opt (o := absD d) p
  unfold absD at e
  split at e
  · cases e; exact ⟨_, by rw [r.int], PR.val s (.int _) p⟩
  · cases e
def max2D : D → D → Option RV
  | .int i, .int j => some (.val (.int (if j > i then j else i)))
  | _, _ => none
def min2D : D → D → Option RV
  | .int i, .int j => some (.val (.int (if j < i then j else i)))
  | _, _ => none
theorem rx_max2 {p : Pos} (hc : ∀ i, (X i).calm = true) (hg : ∀ i, Gl (X i) "max") (hm : ∀ i, (X i).mg "max" = none) (ha : AX X G W [a, b] [qa, qb])
    (he : ∀ i, starEach [a, b] (X i).env = (false, eval a (X i).env) :: starEach [b] (X i).env) (hpl : ∀ i, (backTo pos (starEach [b] (X i).env)).any (·.1) = false) : RX X G W (.Call (.Name "max" p) [a, b] [] pos) (args [qa, qb] (f2 max2D)) := by
  refine rx_callB (fun i => call_max2 (hc i)) hg hm boot_max ha ?_ (by decide) (by decide) he hpl
  intro F ρ σ S M H Q vs ds hgg s hl rb p
  obtain ⟨v, w, d, d2, rfl, rfl, r, r2⟩ := rpBs2 hl rb
  obtain ⟨rv, e, p⟩ := pr_opt (o := max2D d d2) p
  unfold max2D at e
  split at e
  · cases e; exact ⟨_, _, by rw [r.int, r2.int], PR.val s (.int _) p⟩
  · cases e
theorem rx_min2 {p : Pos} (hc : ∀ i, (X i).calm = true) (hg : ∀ i, Gl (X i) "min") (hm : ∀ i, (X i).mg "min" = none) (ha : AX X G W [a, b] [qa, qb])
    (he : ∀ i, starEach [a, b] (X i).env = (false, eval a (X i).env) :: starEach [b] (X i).env) (hpl : ∀ i, (backTo pos (starEach [b] (X i).env)).any (·.1) = false) : RX X G W (.Call (.Name "min" p) [a, b] [] pos) (args [qa, qb] (f2 min2D)) := by
  refine rx_callB (fun i => call_min2 (hc i)) hg hm boot_min ha ?_ (by decide) (by decide) he hpl
  intro F ρ σ S M H Q vs ds hgg s hl rb p
  obtain ⟨v, w, d, d2, rfl, rfl, r, r2⟩ := rpBs2 hl rb
  obtain ⟨rv, e, p⟩ := pr_opt (o := min2D d d2) p
  unfold min2D at e
  split at e
  · cases e; exact ⟨_, _, by rw [r.int, r2.int], PR.val s (.int _) p⟩
  · cases e

/-! ### list(x), tuple(x) -/
def listD : D → Option RV
  | .list ds => some (.own (.lst ds))
  | .tuple ds => some (.own (.lst ds))
  | _ => none
def tupD : D → Option RV
  | .list ds => some (.val (.tuple ds))
  | .tuple ds => some (.val (.tuple ds))
  | _ => none
theorem RpB.lstAll {F : FC} {ρ : En} {σ : St} {S M H : Hp} {v : V} (s : SR F ρ σ S M H) {ds : List D} (r : RpB F S M v (.list ds)) : ∃ p vs, v = .ref p ∧ H p = some (.lst vs) ∧ RpAll F.K S vs ds := r.lst s
theorem rx_tolist {p : Pos} (hK : ∀ i, (X i).K = G.K) (hg : ∀ i, Gl (X i) "list") (hm : ∀ i, (X i).mg "list" = none) (ha : AX X G W [e] [qa])
    (he : ∀ i, starEach [e] (X i).env = (false, eval e (X i).env) :: starEach [] (X i).env) (hpl : ∀ i, (backTo pos (starEach [] (X i).env)).any (·.1) = false) : RX X G W (.Call (.Name "list" p) [e] [] pos) (args [qa] (f1 listD)) := by
  refine rx_callTy (r := fun xs H Q => ∃ p ys, xs = [.ref p] ∧ (SqL G.K H p ys ∨ SqT G.K H p ys) ∧ ∀ l, H l = none → Q (.ref l) (upd H l (.lst ys))) (fun i => by rw [← hK i]; exact call_list_of) hg hm boot_list ha ?_ (by decide) (by decide) he hpl
  intro F ρ σ S M H Q vs ds hgg s hl rb p
  obtain ⟨v, d, rfl, rfl, r⟩ := rpBs1 hl rb
  obtain ⟨rv, e, p⟩ := pr_opt (o := listD d) p
  have hK' : F.K = G.K := congrArg GC.K hgg
  unfold listD at e
  split at e
  · cases e
    obtain ⟨p1, vs, rfl, h1, r1⟩ := r.lst s
    exact ⟨p1, vs, rfl, .inl (SqL.of h1), PR.own s p (.lst r1)⟩
  · cases e
    obtain ⟨p1, vs, rfl, _, h1, r1⟩ := r.tup s
    exact ⟨p1, vs, rfl, .inr (by rw [← hK']; exact h1), PR.own s p (.lst r1)⟩
  · cases e
theorem rx_totup {p : Pos} (hK : ∀ i, (X i).K = G.K) (hg : ∀ i, Gl (X i) "tuple") (hm : ∀ i, (X i).mg "tuple" = none) (ha : AX X G W [e] [qa])
    (he : ∀ i, starEach [e] (X i).env = (false, eval e (X i).env) :: starEach [] (X i).env) (hpl : ∀ i, (backTo pos (starEach [] (X i).env)).any (·.1) = false) : RX X G W (.Call (.Name "tuple" p) [e] [] pos) (args [qa] (f1 tupD)) := by
  refine rx_callTy (r := fun xs H Q => ∃ p ys, xs = [.ref p] ∧ ((SqL G.K H p ys ∧ NewT ys H Q) ∨ (SqT G.K H p ys ∧ Q (.ref p) H))) (fun i => by rw [← hK i]; exact call_tupF) hg hm boot_tuple ha ?_ (by decide) (by decide) he hpl
  intro F ρ σ S M H Q vs ds hgg s hl rb p
  obtain ⟨v, d, rfl, rfl, r⟩ := rpBs1 hl rb
  obtain ⟨rv, e, p⟩ := pr_opt (o := tupD d) p
  have hK' : F.K = G.K := congrArg GC.K hgg
  unfold tupD at e
  split at e
  · cases e
    obtain ⟨p1, vs, rfl, h1, r1⟩ := r.lst s
    exact ⟨p1, vs, rfl, .inl ⟨SqL.of h1, PR.newT s p r1⟩⟩
  · cases e
    obtain ⟨p1, vs, rfl, h0, h1, r1⟩ := r.tup s
    exact ⟨p1, vs, rfl, .inr ⟨by rw [← hK']; exact h1, PR.val s (.tup h0 r1) p⟩⟩
  · cases e

/-! ### range as an argument -/
def rgOkB (a b : Int) : Bool := decide (-(4611686018427387904) ≤ a) && decide (a < 4611686018427387904) && decide (-(4611686018427387904) ≤ b) && decide (b < 4611686018427387904) && decide ((b - a).toNat ≤ 16777216)
theorem rgOkB_ok {a b : Int} (h : rgOkB a b = true) : RgOk a b := by
  unfold rgOkB at h
  simp only [Bool.and_eq_true, decide_eq_true_eq] at h
  exact ⟨h.1.1.1.1, h.1.1.1.2, h.1.1.2, h.1.2, h.2⟩
/-- the ends of a range -/
inductive EvG2 (G : GC) (W : WX) : (St → Hp → (Int → Int → Hp → Prop) → Prop) → P (Int × Int) → Prop
  | mk {t : St → Hp → (Int → Int → Hp → Prop) → Prop} {f : P (Int × Int)} : (∀ (F : FC) (ρ : En) (σ : St) (S M H : Hp) (R : Int → Int → Hp → Prop), F.g = G → SR F ρ σ S M H →
      (f ρ).post (fun z ρ' => ∀ S' M' H', Ext S S' → SR F ρ' σ S' M' H' → R z.1 z.2 H') (fun k ρ' => ∀ S' M' H', Ext S S' → SR F ρ' σ S' M' H' → W (F.g.cls k) none σ H') → t σ H R) → EvG2 G W t f
def GX2 (X : ι → Cx) (G : GC) (W : WX) (e : Expr) (f : P (Int × Int)) : Prop := ∃ t, (∀ i, PRg (X i) e t) ∧ EvG2 G W t f
def intOf : D → Option Int
  | .int i => some i
  | _ => none
theorem intOf_some {d : D} {i : Int} (h : intOf d = some i) : d = .int i := by cases d <;> first | (cases h; rfl) | cases h
def rng1F (f : P RV) : P (Int × Int) := seq f fun rv => seq (opt (intOf rv.toD)) fun n => ret (0, n)
def rng2F (f g : P RV) : P (Int × Int) := seq f fun rv => seq g fun rw => seq (opt (intOf rv.toD)) fun i => seq (opt (intOf rw.toD)) fun j => ret (i, j)
theorem gx2_1 {f : P RV} {p : Pos} (hg : ∀ i, Gl (X i) "range") (hm : ∀ i, (X i).mg "range" = none) (ha : RX X G W a f) (na : ∀ i, starEach [a] (X i).env = (false, eval a (X i).env) :: starEach [] (X i).env) : GX2 X G W (.Call (.Name "range" p) [a] [] pos) (rng1F f) := by
  obtain ⟨t, pe, ev⟩ := ha
  refine ⟨_, fun i => prg_1 (hg i) (hm i) (pe i) (na i), ⟨fun F ρ σ S M H R hgg s pp => ?_⟩⟩
  refine ev.use hgg s pp (fun k ρ' q => q) fun rv v ρ1 S1 M1 H1 e1 s1 r1 q => ?_
  obtain ⟨n, hn, q⟩ := opt_post q
  rw [intOf_some hn] at r1
  exact ⟨n, by cases r1; rfl, q S1 M1 H1 e1 s1⟩
theorem gx2_2 {f g : P RV} {p : Pos} (hg : ∀ i, Gl (X i) "range") (hm : ∀ i, (X i).mg "range" = none) (ha : RX X G W a f) (hb : RX X G W b g) (na : ∀ i, starEach [a, b] (X i).env = (false, eval a (X i).env) :: starEach [b] (X i).env)
    (nb : ∀ i, starEach [b] (X i).env = (false, eval b (X i).env) :: starEach [] (X i).env) (hp : ∀ i, (backTo pos (starEach [b] (X i).env)).any (·.1) = false) : GX2 X G W (.Call (.Name "range" p) [a, b] [] pos) (rng2F f g) := by
  obtain ⟨t, pe, ev⟩ := ha
  obtain ⟨u, pb, evb⟩ := hb
  refine ⟨_, fun i => prg_2 (hg i) (hm i) (pe i) (pb i) (na i) (nb i) (hp i), ⟨fun F ρ σ S M H R hgg s pp => ?_⟩⟩
  refine ev.use hgg s pp (fun k ρ' q => q) fun rv v ρ1 S1 M1 H1 e1 s1 r1 q => ?_
  refine evb.use hgg s1 q (fun k ρ' q S' M' H' e' => q S' M' H' (e1.trans e')) fun rw' u ρ2 S2 M2 H2 e2 s2 r2 q => ?_
  obtain ⟨i, hi, q⟩ := opt_post q
  obtain ⟨j, hj, q⟩ := opt_post q
  rw [intOf_some hi] at r1
  rw [intOf_some hj] at r2
  exact ⟨i, j, by cases r1; rfl, by cases r2; rfl, q S2 M2 H2 (e1.trans e2) s2⟩
def rgD (a b : Int) : List D := (List.range (b - a).toNat).map fun i => .int (a + (i : Nat))
theorem rgD_rp {K : PySem.W.Frag} {S : Hp} (a b : Int) : RpAll K S (rgV a b) (rgD a b) := by
  unfold rgV rgD
  generalize List.range (b - a).toNat = l
  induction l with
  | nil => exact .nil
  | cons x l ih => exact .cons (.int _) ih
def lstRg (f : P (Int × Int)) : P RV := seq f fun z => if rgOkB z.1 z.2 = true then ret (.own (.lst (rgD z.1 z.2))) else fail
def tupRg (f : P (Int × Int)) : P RV := seq f fun z => if rgOkB z.1 z.2 = true then ret (.val (.tuple (rgD z.1 z.2))) else fail
theorem rx_listRg {f : P (Int × Int)} {p : Pos} (hc : ∀ i, (X i).calm = true) (hg : ∀ i, Gl (X i) "list") (hm : ∀ i, (X i).mg "list" = none) (h : GX2 X G W e f) (na : ∀ i, starEach [e] (X i).env = (false, eval e (X i).env) :: starEach [] (X i).env) : RX X G W (.Call (.Name "list" p) [e] [] pos) (lstRg f) := by
  obtain ⟨t, pe, ev⟩ := h
  cases ev with
  | mk ev =>
    refine ⟨_, fun i => pe_listRg (hc i) (hg i) (hm i) (pe i) (na i), ?_⟩
    intro F ρ σ S M H Q hgg s pp
    refine ev F ρ σ S M H _ hgg s (Res.post_mono (Res.post_bind pp) (fun z ρ1 q S1 M1 H1 e1 s1 => ?_) fun k ρ1 q => q)
    by_cases hz : rgOkB z.1 z.2 = true
    · rw [if_pos hz] at q
      exact ⟨rgOkB_ok hz, PR.own s1 (PR.ext e1 q) (.lst (rgD_rp _ _))⟩
    · rw [if_neg hz] at q; exact q.elim
theorem rx_tupRg {f : P (Int × Int)} {p : Pos} (hc : ∀ i, (X i).calm = true) (hg : ∀ i, Gl (X i) "tuple") (hm : ∀ i, (X i).mg "tuple" = none) (h : GX2 X G W e f) (na : ∀ i, starEach [e] (X i).env = (false, eval e (X i).env) :: starEach [] (X i).env) : RX X G W (.Call (.Name "tuple" p) [e] [] pos) (tupRg f) := by
  obtain ⟨t, pe, ev⟩ := h
  cases ev with
  | mk ev =>
    refine ⟨_, fun i => pe_tupRgF (hc i) (hg i) (hm i) (pe i) (na i), ?_⟩
    intro F ρ σ S M H Q hgg s pp
    refine ev F ρ σ S M H _ hgg s (Res.post_mono (Res.post_bind pp) (fun z ρ1 q S1 M1 H1 e1 s1 => ?_) fun k ρ1 q => q)
    by_cases hz : rgOkB z.1 z.2 = true
    · rw [if_pos hz] at q
      exact ⟨rgOkB_ok hz, PR.newT s1 (PR.ext e1 q) (rgD_rp _ _)⟩
    · rw [if_neg hz] at q; exact q.elim

/-! ### slices -/
def cutD (ds : List D) (lo hi : Option Int) : List D := (ds.drop (HT.sIx ds.length 0 lo)).take (HT.sIx ds.length ds.length hi - HT.sIx ds.length 0 lo)
def slD (lo hi : Option Int) : D → Option RV
  | .list ds => some (.own (.lst (cutD ds lo hi)))
  | .tuple ds => some (.val (.tuple (cutD ds lo hi)))
  | _ => none
/-- an end of a slice -/
inductive Pt
  | no
  | ex (f : P RV)
def Pt.run : Pt → P (Option Int)
  | .no => ret none
  | .ex f => seq f fun rv => seq (opt (intOf rv.toD)) fun i => ret (some i)
def EvP (G : GC) (W : WX) (t : TO) : Pt → Prop
  | .no => t = tNoPart
  | .ex f => ∃ u, t = tPart u ∧ EvR G W u f
def OP (X : ι → Cx) (G : GC) (W : WX) (e : Option Expr) (q : Pt) : Prop := ∃ t, (∀ i, PO (X i) e t) ∧ EvP G W t q
theorem op_no : OP X G W none .no := ⟨_, fun _ => po_none, rfl⟩
theorem op_ex {f : P RV} (h : RX X G W e f) : OP X G W (some e) (.ex f) := by
  obtain ⟨t, pe, ev⟩ := h
  exact ⟨_, fun i => po_some (pe i), t, rfl, ev⟩
theorem EvP.use {t : TO} {q : Pt} (h : EvP G W t q) {F : FC} {ρ : En} {σ : St} {S M H : Hp} (hg : F.g = G) (s : SR F ρ σ S M H) {β : Type} {g : Option Int → P β} {A : β → En → Prop} {B : Nat → En → Prop} (p : ((q.run ρ).bind g).post A B)
    (hB : ∀ k ρ', B k ρ' → ∀ S' M' H', Ext S S' → SR F ρ' σ S' M' H' → W (F.g.cls k) none σ H') {R : Option Int → Hp → Prop}
    (hR : ∀ o ρ' S' M' H', Ext S S' → SR F ρ' σ S' M' H' → (g o ρ').post A B → R o H') : t σ H R := by
  cases q with
  | no =>
    have h : t = tNoPart := h
    subst h
    exact hR none ρ S M H (Ext.refl S) s p
  | ex f =>
    obtain ⟨u, rfl, ev⟩ := h
    have p : ((f ρ).bind fun rv ρ1 => ((opt (intOf rv.toD) ρ1).bind fun i => ret (some i)).bind g).post A B := by
      have e : ((seq f fun rv => seq (opt (intOf rv.toD)) fun i => ret (some i)) ρ).bind g = (f ρ).bind fun rv ρ1 => ((opt (intOf rv.toD) ρ1).bind fun i => ret (some i)).bind g := by
        show ((f ρ).bind fun rv => seq (opt (intOf rv.toD)) fun i => ret (some i)).bind g = _
        cases f ρ <;> rfl
      rw [← e]; exact p
    refine ev.use hg s p hB fun rv v ρ1 S1 M1 H1 e1 s1 r1 q => ?_
    cases hi : intOf rv.toD with
    | none => rw [hi] at q; exact q.elim
    | some i =>
      rw [hi] at q
      rw [intOf_some hi] at r1
      exact ⟨i, by cases r1; rfl, hR (some i) ρ1 S1 M1 H1 e1 s1 q⟩
def sliceF (qo : Opd) (ql qh : Pt) : P RV := seq qo.run fun x => seq ql.run fun lo => seq qh.run fun hi => seq (qo.get x) fun d => opt (slD lo hi d)
theorem rx_slice {lo hi : Option Expr} {p2 : Pos} {qo : Opd} {ql qh : Pt} (hK : ∀ i, (X i).K = G.K) (ho : OX X G W e qo) (hl : OP X G W lo ql) (hh : OP X G W hi qh) : RX X G W (.Subscript e (.Slice lo hi none p2) pos) (sliceF qo ql qh) := by
  obtain ⟨t, pe, ev⟩ := ho
  obtain ⟨tl, pl, el⟩ := hl
  obtain ⟨th, ph, eh⟩ := hh
  refine ⟨tSl (fun x lo hi H Q => rSlL G.K x lo hi H Q ∨ rSlF G.K x lo hi H Q) t tl th, fun i => pe_slice (by rw [← hK i]; exact SlR.or sl_list sl_tupF) (pe i) (pl i) (ph i), ?_⟩
  intro F ρ σ S M H Q hgg s pp
  have hK' : F.K = G.K := congrArg GC.K hgg
  -- the end, the object at hand
  have fin : ∀ (v : V) (lo hi : Option Int) (d : D) (ρ' : En) (S' M' H' : Hp), Ext S S' → SR F ρ' σ S' M' H' → RpB F S' M' v d → PR F W σ S (opt (slD lo hi d) ρ') Q → rSlL G.K v lo hi H' Q ∨ rSlF G.K v lo hi H' Q := fun v lo hi d ρ' S' M' H' e' s' rb q => by
    obtain ⟨rv, hrv, q⟩ := pr_opt q
    have q := PR.ext e' q
    unfold slD at hrv
    split at hrv
    · cases hrv
      obtain ⟨p1, vs, rfl, h1, r1⟩ := rb.lst s'
      refine .inl ⟨p1, vs, rfl, SqL.of h1, PR.own s' q (.lst ?_)⟩
      unfold cutV cutD
      rw [r1.length]
      exact (r1.drop _).take _
    · rename_i ds
      cases hrv
      obtain ⟨p1, vs, rfl, h0, h1, r1⟩ := rb.tup s'
      have hcut : RpAll F.K S' (cutV vs lo hi) (cutD ds lo hi) := by
        unfold cutV cutD
        rw [r1.length]
        exact (r1.drop _).take _
      refine .inr ⟨p1, vs, rfl, by rw [← hK']; exact h1, fun z => ?_, fun _ => PR.newT s' q hcut⟩
      have e1 : cutV vs lo hi = vs := by
        unfold cutV
        rw [z.1, z.2]
        simp
      rw [e1] at hcut
      exact PR.val s' (.tup h0 hcut) q
    · cases hrv
  have pp : ((qo.run ρ).bind fun x => seq ql.run fun lo => seq qh.run fun hi => seq (qo.get x) fun d => opt (slD lo hi d)).post _ _ := pp
  cases qo with
  | ex f =>
    have ev : EvR G W t f := ev
    have e : ((Opd.ex f).run ρ).bind (fun x => seq ql.run fun lo => seq qh.run fun hi => seq ((Opd.ex f).get x) fun d => opt (slD lo hi d)) = (f ρ).bind fun rv => seq ql.run fun lo => seq qh.run fun hi => opt (slD lo hi rv.toD) := by
      show ((f ρ).bind fun rv => ret (some rv.toD)).bind _ = _
      cases f ρ <;> rfl
    rw [e] at pp
    refine ev.use hgg s pp (fun k ρ' q => q) fun rv v ρ1 S1 M1 H1 e1 s1 r1 q => ?_
    refine el.use hgg s1 q (fun k ρ' q S' M' H' e' => q S' M' H' (e1.trans e')) fun lo ρ2 S2 M2 H2 e2 s2 q => ?_
    refine eh.use hgg s2 q (fun k ρ' q S' M' H' e' => q S' M' H' ((e1.trans e2).trans e')) fun hi ρ3 S3 M3 H3 e3 s3 q => ?_
    exact fin v lo hi rv.toD ρ3 S3 M3 H3 ((e1.trans e2).trans e3) s3 (.inl (r1.mono (e2.trans e3))) q
  | sl i =>
    have ev : t = tVar i := ev
    subst ev
    have pp : ((match look ρ i with | some _ => Res.ok none ρ | none => .no : Res (Option D)).bind fun x => seq ql.run fun lo => seq qh.run fun hi => seq ((Opd.sl i).get x) fun d => opt (slD lo hi d)).post _ _ := pp
    cases hlk : look ρ i with
    | none => rw [hlk] at pp; exact pp.elim
    | some d0 =>
      rw [hlk] at pp
      obtain ⟨sl, h1, h2⟩ := look_cont hlk
      obtain ⟨v, hv, _⟩ := s.read h1 h2
      refine ⟨v, hv, ?_⟩
      refine el.use hgg s pp (fun k ρ' q => q) fun lo ρ2 S2 M2 H2 e2 s2 q => ?_
      refine eh.use hgg s2 q (fun k ρ' q S' M' H' e' => q S' M' H' (e2.trans e')) fun hi ρ3 S3 M3 H3 e3 s3 q => ?_
      have q : ((match look ρ3 i with | some d => Res.ok d ρ3 | none => .no : Res D).bind fun d => opt (slD lo hi d)).post _ _ := q
      cases hl3 : look ρ3 i with
      | none => rw [hl3] at q; exact q.elim
      | some d =>
        rw [hl3] at q
        obtain ⟨sl3, g1, g2⟩ := look_cont hl3
        obtain ⟨v3, hv3, rb⟩ := s3.read g1 g2
        rw [hv] at hv3
        cases hv3
        exact fin v lo hi d ρ3 S3 M3 H3 (e2.trans e3) s3 rb q
end
end L3

set_option Elab.async false
set_option linter.all false
set_option maxRecDepth 100000
set_option maxHeartbeats 1000000
namespace L3
open PySem PySem.Spec PyProof.Rows L2

/-! ### the type of a method's object -/
def TyM (K : PySem.W.Frag) (T : String) (x : V) (H : Hp) : Prop := tyV K T x H ∨ (T = "tuple" ∧ ∃ p o xs, x = .ref p ∧ H p = some (.frz o (.tup xs)) ∧ o.dict = none)
theorem tyM_is {X : Cx} {pins : List (Addr × Obj)} {σ : St} {H : Hp} {s : Shared} {T : String} {x : V} {v : Value} (I : Inv X pins σ H s) (r : RelV x v) (ty : TyM X.K T x H) : s.TypeIs v T ∧ ∀ a, v = .ref a → ∃ ob, s.heap.get? a = some ob ∧ ob.dict = none := by
  rcases ty with ty | ⟨rfl, p, o, xs, rfl, h, hd⟩
  · exact tyV_is I r ty
  · cases r
    obtain ⟨e, z, its, rv, ht⟩ := I.hok p _ h
    refine ⟨ht.typeIs, fun a e' => ?_⟩
    cases e'
    exact ⟨o, e, hd⟩
section
variable {X : Cx} {o e : Expr} {es : List Expr} {to : TE} {t : TA} {name : Str} {apos cpos : Pos}
/-- a method by its object's type, one of two -/
structure Mth (name : Str) (T id : String) : Prop where
  pa : PlainAttrs T
  slot : Slot T name id
  hty : typeOf (.builtin id) = pure (.type "method_descriptor")
def tMth (K : PySem.W.Frag) (rs : List (String × (V → List V → Hp → VK → Prop))) (to : TE) (t : TA) : TE := fun σ H Q => to σ H fun x H1 => ∃ T r, (T, r) ∈ rs ∧ TyM K T x H1 ∧ t σ H1 fun xs H2 => r x xs H2 Q
theorem pe_mth {rs : List (String × (V → List V → Hp → VK → Prop))} (hm : ∀ T r, (T, r) ∈ rs → ∃ id, Mth name T id ∧ MtR X id r) (ho : PE X o to) (ha : PA X (e :: es) t)
    (hbase : attributeBase o name X.env (eval o X.env) = eval o X.env)
    (hfew : ((backTo cpos (starEach (e :: es) X.env)).all (fun x => !x.1) && (backToKw cpos (keywordEach [] X.env)).all (fun x => x.1.isSome)
      && decide ((e :: es).length + ([] : List Keyword).length + (if ([] : List Keyword).isEmpty then 0 else 1) < 30)) = true)
    (hline : (apos.endLine == cpos.line) = true) (hs : starEach (e :: es) X.env = (false, eval e X.env) :: starEach es X.env) (hplain : (backTo cpos (starEach es X.env)).any (·.1) = false) :
    PE X (.Call (.Attribute o name apos) (e :: es) [] cpos) (tMth X.K rs to t) := by
  refine ⟨fun pins s σ H Q I h => ?_⟩
  refine wpAny_Call_method_late hbase hfew hline rfl (thn (ho.run pins s σ H _ I h) fun v s1 ⟨x, H1, I1, r1, T, r, hmem, ty, q1⟩ => ?_)
  obtain ⟨id, mt, hr⟩ := hm T r hmem
  obtain ⟨h1, h2⟩ := tyM_is I1 r1 ty
  refine ⟨T, id, mt.pa, mt.slot, mt.hty, h1, h2, ?_⟩
  have hA := ha.run cpos pins s1 σ H1 _ I1 q1
  rw [hs] at hA ⊢
  refine Calls.callWith_builtin (by show (false || (backTo cpos (starEach es X.env)).any (·.1)) = false; rw [hplain] <;> rfl) (Calls.evalArgs_plain ?_)
  exact thn hA fun us s2 ⟨vs, H2, I2, r2, q2⟩ => hr pins s2 σ H2 x vs v us Q I2 r1 r2 q2
def tMth0 (K : PySem.W.Frag) (rs : List (String × (V → List V → Hp → VK → Prop))) (to : TE) : TE := fun σ H Q => to σ H fun x H1 => ∃ T r, (T, r) ∈ rs ∧ TyM K T x H1 ∧ r x [] H1 Q
theorem pe_mth0 {rs : List (String × (V → List V → Hp → VK → Prop))} (hm : ∀ T r, (T, r) ∈ rs → ∃ id, Mth name T id ∧ MtR X id r) (ho : PE X o to)
    (hbase : attributeBase o name X.env (eval o X.env) = eval o X.env) (hline : (apos.endLine == cpos.line) = true) : PE X (.Call (.Attribute o name apos) [] [] cpos) (tMth0 X.K rs to) := by
  refine ⟨fun pins s σ H Q I h => ?_⟩
  refine wpAny_Call_method0_late hbase hline (thn (ho.run pins s σ H _ I h) fun v s1 ⟨x, H1, I1, r1, T, r, hmem, ty, q1⟩ => ?_)
  obtain ⟨id, mt, hr⟩ := hm T r hmem
  obtain ⟨h1, h2⟩ := tyM_is I1 r1 ty
  exact ⟨T, id, mt.pa, mt.slot, mt.hty, h1, h2, Calls.callWith_builtin rfl (PySem.evalArgs_none (hr pins s1 σ H1 x [] v [] Q I1 r1 .nil q1))⟩
end
/-! ### methods that change a list -/
/-- what a method does to a list -/
abbrev MtD := List D → List D → Option (List D × D)
def MutOp (h : MtD) (r : PySem.W.Frag → V → List V → Hp → VK → Prop) : Prop := ∀ ds as ds' d, h ds as = some (ds', d) → ∀ (K : PySem.W.Frag) (S H : Hp) (l : Addr) (xs vs : List V) (Q : VK), Ext S H → H l = some (.lst xs) → RpAll K S xs ds → RpAll K S vs as →
    (∀ ys y, RpAll K S ys ds' → Rp K S y d → Q y (upd H l (.lst ys))) → r K (.ref l) vs H Q
/-- the layer's rule r, by data -/
structure MutR (id : String) (h : MtD) : Prop where
  ok : ∃ r : PySem.W.Frag → V → List V → Hp → VK → Prop, (∀ X : Cx, X.A.units + 65 < cLine → MtR X id (r X.K)) ∧ MutOp h r
def appendD : MtD
  | ds, [d] => if ds.length < line then some (ds ++ [d], .none) else none
  | _, _ => none
theorem mu_append : MutR "list.append" appendD := ⟨fun _ => rAppend, fun X _ => mt_append, fun ds as ds' d h K S H l xs vs Q eS hH rx rv q => by
  match as, rv with
  | [], _ => cases h
  | _ :: _ :: _, _ => cases h
  | [d0], .cons rv .nil =>
    have h : (if ds.length < line then some (ds ++ [d0], (PyData.none : D)) else none) = some (ds', d) := h
    by_cases hl : ds.length < line
    · rw [if_pos hl] at h
      cases h
      exact ⟨l, xs, _, rfl, rfl, hH, by rw [rx.length, line_eq]; exact hl, q _ _ (rx.append (.cons rv .nil)) .non⟩
    · rw [if_neg hl] at h; cases h⟩
def popD : MtD
  | ds, [] => (ds[ds.length - 1]?).map fun d => (ds.dropLast, d)
  | _, _ => none
theorem RpAll.dropLast {K : PySem.W.Frag} {S : Hp} {vs : List V} {ds : List D} (h : RpAll K S vs ds) : RpAll K S vs.dropLast ds.dropLast := by
  rw [List.dropLast_eq_take, List.dropLast_eq_take, h.length]
  exact h.take _
theorem mu_pop : MutR "list.pop" popD := ⟨fun _ => rPop, fun X _ => mt_pop, fun ds as ds' d h K S H l xs vs Q eS hH rx rv q => by
  match as, rv with
  | _ :: _, _ => cases h
  | [], .nil =>
    obtain ⟨d0, hd, e⟩ := Option.map_eq_some_iff.mp h
    cases e
    obtain ⟨v, hv, r⟩ := rx.get hd
    exact ⟨l, xs, v, rfl, rfl, hH, by rw [rx.length]; exact hv, q _ _ rx.dropLast r⟩⟩
def popAtD : MtD
  | ds, [.int i] => if decide (-(9223372036854775808) ≤ i) && decide (i < 9223372036854775808) then (seqIndex? i ds.length).bind fun k => (ds[k]?).map fun d => (ds.eraseIdx k, d) else none
  | _, _ => none
theorem RpAll.eraseIdx {K : PySem.W.Frag} {S : Hp} : ∀ {vs : List V} {ds : List D} (n : Nat), RpAll K S vs ds → RpAll K S (vs.eraseIdx n) (ds.eraseIdx n)
  | _, _, _, .nil => .nil
  | _, _, 0, .cons _ r => r
  | _, _, n + 1, .cons h r => .cons h (RpAll.eraseIdx n r)
theorem mu_popAt : MutR "list.pop" popAtD := ⟨fun _ => rPopAt, fun X _ => mt_popAt, fun ds as ds' d h K S H l xs vs Q eS hH rx rv q => by
  unfold popAtD at h
  split at h
  · rename_i i
    split at h
    · rename_i hi
      simp only [Bool.and_eq_true, decide_eq_true_eq] at hi
      obtain ⟨k, hk, h⟩ := Option.bind_eq_some_iff.mp h
      obtain ⟨d0, hd, e⟩ := Option.map_eq_some_iff.mp h
      cases e
      cases rv with
      | cons r1 rr =>
        cases rr
        cases r1
        obtain ⟨v, hv, r⟩ := rx.get hd
        exact ⟨l, xs, i, k, v, rfl, rfl, hH, hi.1, hi.2, by rw [rx.length]; exact hk, hv, q _ _ (rx.eraseIdx k) r⟩
    · cases h
  · cases h⟩
def extendD : MtD
  | ds, [.list es] => if ds.length + es.length ≤ line then some (ds ++ es, .none) else none
  | _, _ => none
theorem mu_extend : MutR "list.extend" extendD := ⟨fun _ => rExtend, fun X _ => mt_extend, fun ds as ds' d h K S H l xs vs Q eS hH rx rv q => by
  unfold extendD at h
  split at h
  · rename_i es
    split at h
    · rename_i hl
      cases h
      cases rv with
      | cons r1 rr =>
        cases rr
        cases r1 with
        | lst hb r2 => exact ⟨l, _, xs, _, rfl, rfl, hH, eS _ _ hb, by rw [rx.length, r2.length, line_eq]; exact hl, q _ _ (rx.append r2) .non⟩
    · cases h
  · cases h⟩
def reverseD : MtD
  | ds, [] => some (ds.reverse, .none)
  | _, _ => none
theorem mu_reverse : MutR "list.reverse" reverseD := ⟨fun _ => rReverse, fun X _ => mt_reverse, fun ds as ds' d h K S H l xs vs Q eS hH rx rv q => by
  match as, rv with
  | _ :: _, _ => cases h
  | [], .nil =>
    cases h
    exact ⟨l, xs, rfl, rfl, hH, q _ _ rx.reverse .non⟩⟩
def insertD : MtD
  | ds, [.int i, d] => if decide (ds.length < line) && decide (0 ≤ i) && decide (i < 9223372036854775808) then some (ds.take i.toNat ++ [d] ++ ds.drop i.toNat, .none) else none
  | _, _ => none
def rInsert : V → List V → Hp → VK → Prop := fun x vs H Q => ∃ (l : Addr) (xs : List V) (i : Int) (y : V), x = .ref l ∧ vs = [.int i, y] ∧ H l = some (.lst xs) ∧ xs.length < sizeLine ∧ 0 ≤ i ∧ i < 2 ^ 63 ∧
    Q .non (upd H l (.lst (xs.take i.toNat ++ [y] ++ xs.drop i.toNat)))
theorem mu_insert : MutR "list.insert" insertD := ⟨fun _ => rInsert, fun X _ => mt_insert, fun ds as ds' d h K S H l xs vs Q eS hH rx rv q => by
  unfold insertD at h
  split at h
  · rename_i i d0
    split at h
    · rename_i hc
      simp only [Bool.and_eq_true, decide_eq_true_eq] at hc
      cases h
      cases rv with
      | cons r1 rr =>
        cases rr with
        | cons r2 rr =>
          cases rr
          cases r1
          exact ⟨l, xs, i, _, rfl, rfl, hH, by rw [rx.length, line_eq]; exact hc.1.1, hc.1.2, hc.2, q _ _ (((rx.take _).append (.cons r2 .nil)).append (rx.drop _)) .non⟩
    · cases h
  · cases h⟩
/-- remove, count by == of data -/
def plD (ds : List D) (d : D) : Option Nat := ds.findIdx? fun y => PyData.eqv y d
def removeD : MtD
  | ds, [d] => if okE d && okE (.list ds) then (plD ds d).map fun j => (ds.eraseIdx j, .none) else none
  | _, _ => none
theorem okE_plain {d : D} (h : okE d = true) : d.plain = true := PyData.plain_of_canLay0 _ (okD_canLay _ _ h)
theorem okE_plainL {ds : List D} (h : okE (.list ds) = true) : PyData.plainAll ds = true := by
  have := okE_plain h
  simpa [PyData.plain] using this
theorem okE_plainT {ds : List D} (h : okE (.tuple ds) = true) : PyData.plainAll ds = true := by
  have := okE_plain h
  simpa [PyData.plain] using this
def rRemD (K : PySem.W.Frag) : V → List V → Hp → VK → Prop := fun x xs H Q => ∃ l zs y ds d j, x = .ref l ∧ xs = [y] ∧ H l = some (.lst zs) ∧ DpAll K H zs ds ∧ Dp K H y d ∧ okE d = true ∧ okE (.list ds) = true ∧ plD ds d = some j ∧ Q .non (upd H l (.lst (zs.eraseIdx j)))
theorem mt_removeD {X : Cx} (hu : X.A.units + 65 < cLine) : MtR X "list.remove" (rRemD X.K) := by
  intro pins s σ H x xs v us Q I rx rxs h
  obtain ⟨l, zs, y, ds, d, j, rfl, rfl, hH, hz, hy, od, ol, hj, q⟩ := h
  cases rx
  obtain ⟨u, rfl, ru⟩ := rxs.one
  obtain ⟨z, its, n, r, hl, e⟩ := I.lstM hH
  obtain ⟨as, ra⟩ := Dp.readsAll I ds zs its hz r
  obtain ⟨bs, rb⟩ := Dp.reads I d y u hy ru
  have hdp := okD_depth _ _ od
  refine SeqAt.remove_list_data (vs := its.toArray) ⟨_, e, rfl, n, rfl⟩ (by simpa using ra) rb (okE_plainL ol) (okE_plain od) (by have := Nat.min_le_right (PyData.depthAll ds) d.depth; omega) hj (by rw [List.size_toArray]; omega) ?_
  refine ⟨.non, _, I.lset (its' := its.eraseIdx j) (t' := s.toks) hH e ?_ (r.eraseIdx j) ?_, rfl, q⟩
  · show its.toArray.eraseIdxIfInBounds j = (its.eraseIdx j).toArray
    rw [List.eraseIdxIfInBounds_toArray]
  · have z2 := len_erase zs j
    omega
theorem mu_remove : MutR "list.remove" removeD := ⟨rRemD, fun X hu => mt_removeD hu, fun ds as ds' d h K S H l xs vs Q eS hH rx rv q => by
  match as, rv with
  | [], _ => cases h
  | _ :: _ :: _, _ => cases h
  | [d0], .cons rv .nil =>
    have h : (if (okE d0 && okE (.list ds)) = true then (plD ds d0).map fun j => (ds.eraseIdx j, (PyData.none : D)) else none) = some (ds', d) := h
    by_cases ho : (okE d0 && okE (.list ds)) = true
    · rw [if_pos ho] at h
      rw [Bool.and_eq_true] at ho
      obtain ⟨j, hj, e⟩ := Option.map_eq_some_iff.mp h
      cases e
      refine ⟨l, xs, _, ds, d0, j, rfl, rfl, hH, ?_, okE_dp ho.1 (rv.mono eS), ho.1, ho.2, hj, q _ _ (rx.eraseIdx j) .non⟩
      have hn : noDictAll ds = true := by
        have := okD_noDict _ _ ho.2
        simpa [noDict] using this
      exact (rx.mono eS).dp hn
    · rw [if_neg ho] at h; cases h⟩
def mutF (i : Nat) (qs : List Opd) (h : MtD) : P RV := fun ρ => match ρ[i]? with
  | some (.ow (.lst _)) => args qs (fun as ρ' => match ρ'[i]? with
    | some (.ow (.lst ds)) => match h ds as with
      | some (ds', d) => .ok (.val d) (ρ'.set i (.ow (.lst ds')))
      | none => .no
    | _ => .no) ρ
  | some (.bo j (.lst _)) => args qs (fun as ρ' => match ρ'[i]? with
    | some (.bo j (.lst ds)) => match h ds as with
      | some (ds', d) => .ok (.val d) (ρ'.set i (.bo j (.lst ds')))
      | none => .no
    | _ => .no) ρ
  | _ => .no
section
variable {ι : Type} {X : ι → Cx} {G : GC} {W : WX} {pos pos' : Pos} {a b c e o tg : Expr} {es : List Expr} {qa qb : Opd}
theorem mut_end {F : FC} {ρ : En} {σ : St} {S M H : Hp} {i : Nat} {sl : Sl} {p : Addr} {ds ds' : List D} {d : D} {as : List D} {vs : List V} {h : MtD} {Q : VK} {r : PySem.W.Frag → V → List V → Hp → VK → Prop} (s : SR F ρ σ S M H)
    (hop : MutOp h r)
    (hsl : ρ[i]? = some sl) (ho : sl = .ow (.lst ds) ∨ ∃ j, sl = .bo j (.lst ds)) (hv : σ[i]? = some (some (.ref p))) (rv : RpAll F.K S vs as) (hh : h ds as = some (ds', d)) {S0 : Hp} (e0 : Ext S0 S) (q : PR F W σ S0 (.ok (.val d) (ρ.set i (sl.put (.lst ds')))) Q) : r F.K (.ref p) vs H Q := by
  obtain ⟨p', u, e1, hM, hO⟩ := s.ownAt hsl ho
  rw [hv] at e1
  cases e1
  cases hO with
  | lst rx =>
    refine hop ds as ds' d hh F.K S H p _ vs Q s.sub (s.own _ _ hM) rx rv fun ys y ry rd => ?_
    have s2 := s.write (u' := .lst ys) (o' := .lst ds') hsl (by rcases ho with rfl | ⟨j, rfl⟩ <;> rfl) hv (.lst ry)
    exact q y S _ _ e0 s2 rd
theorem tyM_list {K : PySem.W.Frag} {F : FC} {ρ : En} {σ : St} {S M H : Hp} {i : Nat} {sl : Sl} {ds : List D} (hK : F.K = K) (s : SR F ρ σ S M H) (hsl : ρ[i]? = some sl) (ho : sl = .ow (.lst ds) ∨ ∃ j, sl = .bo j (.lst ds)) : ∃ p, σ[i]? = some (some (.ref p)) ∧ TyM K "list" (.ref p) H := by
  obtain ⟨p, u, e1, hM, hO⟩ := s.ownAt hsl ho
  cases hO with
  | lst rx => exact ⟨p, e1, .inl (.inl ⟨rfl, _, SqL.of (s.own _ _ hM)⟩)⟩
theorem ev_mut {i : Nat} {qs : List Opd} {h : MtD} {ts : TA} {r : PySem.W.Frag → V → List V → Hp → VK → Prop} (he : EvOs G W ts qs) (hx : allEx qs)
    (hop : MutOp h r) :
    EvR G W (tMth G.K [("list", r G.K)] (tVar i) ts) (mutF i qs h) := by
  intro F ρ σ S M H Q hg s pp
  have hK' : F.K = G.K := congrArg GC.K hg
  unfold mutF at pp
  cases hsl : ρ[i]? with
  | none => rw [hsl] at pp; exact pp.elim
  | some sl =>
    rw [hsl] at pp
    cases sl with
    | un => exact pp.elim
    | sh d => exact pp.elim
    | ow o =>
      cases o with
      | dic kvs => exact pp.elim
      | lst ds0 =>
        obtain ⟨p, hv, ty⟩ := tyM_list (K := G.K) hK' s hsl (.inl rfl)
        refine ⟨.ref p, hv, "list", r G.K, List.mem_singleton.mpr rfl, ty, ?_⟩
        rw [← hK']
        refine ev_vals he hx F ρ σ S M H _ hg s pp (fun k ρ' q => q) fun vs as ρ1 S1 M1 H1 e1 s1 hl rv q => ?_
        cases hsl1 : ρ1[i]? with
        | none => rw [hsl1] at q; exact q.elim
        | some sl1 =>
          rw [hsl1] at q
          cases sl1 with
          | un => exact q.elim
          | sh d => exact q.elim
          | bo j o => exact q.elim
          | ow o1 =>
            cases o1 with
            | dic kvs => exact q.elim
            | lst ds =>
              have q : (match h ds as with | some (ds', d) => Res.ok (RV.val d) (ρ1.set i (.ow (.lst ds'))) | none => .no).post _ _ := q
              cases hh : h ds as with
              | none => rw [hh] at q; exact q.elim
              | some z =>
                obtain ⟨ds', d⟩ := z
                rw [hh] at q
                exact mut_end s1 hop hsl1 (.inl rfl) hv rv hh e1 q
    | bo j0 o =>
      cases o with
      | dic kvs => exact pp.elim
      | lst ds0 =>
        obtain ⟨p, hv, ty⟩ := tyM_list (K := G.K) hK' s hsl (.inr ⟨j0, rfl⟩)
        refine ⟨.ref p, hv, "list", r G.K, List.mem_singleton.mpr rfl, ty, ?_⟩
        rw [← hK']
        refine ev_vals he hx F ρ σ S M H _ hg s pp (fun k ρ' q => q) fun vs as ρ1 S1 M1 H1 e1 s1 hl rv q => ?_
        cases hsl1 : ρ1[i]? with
        | none => rw [hsl1] at q; exact q.elim
        | some sl1 =>
          rw [hsl1] at q
          cases sl1 with
          | un => exact q.elim
          | sh d => exact q.elim
          | ow o => exact q.elim
          | bo j o1 =>
            cases o1 with
            | dic kvs => exact q.elim
            | lst ds =>
              have q : (match h ds as with | some (ds', d) => Res.ok (RV.val d) (ρ1.set i (.bo j (.lst ds'))) | none => .no).post _ _ := q
              cases hh : h ds as with
              | none => rw [hh] at q; exact q.elim
              | some z =>
                obtain ⟨ds', d⟩ := z
                rw [hh] at q
                exact mut_end s1 hop hsl1 (.inr ⟨j, rfl⟩) hv rv hh e1 q
theorem mth_append : Mth "append" "list" "list.append" := ⟨PySem.F.plainAttrs_list, PySem.F.slot_list_append, PySem.F.type_list_append⟩
theorem mth_pop : Mth "pop" "list" "list.pop" := ⟨PySem.F.plainAttrs_list, PySem.F.slot_list_pop, PySem.F.type_list_pop⟩
theorem mth_reverse : Mth "reverse" "list" "list.reverse" := ⟨PySem.F.plainAttrs_list, PySem.F.slot_list_reverse, PySem.F.type_list_reverse⟩
theorem mth_extend : Mth "extend" "list" "list.extend" := ⟨PySem.F.plainAttrs_list, PySem.F.slot_list_extend, PySem.F.type_list_extend⟩
theorem mth_insert : Mth "insert" "list" "list.insert" := ⟨PySem.F.plainAttrs_list, PySem.F.slot_list_insert, PySem.F.type_list_insert⟩
theorem mth_remove : Mth "remove" "list" "list.remove" := ⟨PySem.F.plainAttrs_list, PySem.F.slot_list_remove, PySem.F.type_list_remove⟩
theorem mth_count : Mth "count" "list" "list.count" := ⟨PySem.F.plainAttrs_list, PySem.F.slot_list_count, PySem.F.type_list_count⟩
theorem mth_index : Mth "index" "list" "list.index" := ⟨PySem.F.plainAttrs_list, PySem.F.slot_list_index, PySem.F.type_list_index⟩
theorem mth_countT : Mth "count" "tuple" "tuple.count" := ⟨PySem.F.plainAttrs_tuple, PySem.F.slot_tuple_count, PySem.F.type_tuple_count⟩
theorem rx_mut (i : Nat) {x name : Str} {id : String} {h : MtD} {qs : List Opd} {apos np : Pos} (hu : ∀ j, (X j).A.units + 65 < cLine) (hK : ∀ j, (X j).K = G.K) (m : Mth name "list" id) (mu : MutR id h) (hN : ∀ j, (X j).N[i]? = some x) (hv : ∀ j, Vis (X j).env.scope x) (ha : AX X G W (e :: es) qs) (hx : allEx qs)
    (hbase : ∀ j, attributeBase (.Name x np) name (X j).env (eval (.Name x np) (X j).env) = eval (.Name x np) (X j).env)
    (hfew : ∀ j, ((backTo pos (starEach (e :: es) (X j).env)).all (fun x => !x.1) && (backToKw pos (keywordEach [] (X j).env)).all (fun x => x.1.isSome)
      && decide ((e :: es).length + ([] : List Keyword).length + (if ([] : List Keyword).isEmpty then 0 else 1) < 30)) = true)
    (hline : (apos.endLine == pos.line) = true) (hs : ∀ j, starEach (e :: es) (X j).env = (false, eval e (X j).env) :: starEach es (X j).env) (hplain : ∀ j, (backTo pos (starEach es (X j).env)).any (·.1) = false) (hd : (x == ("__debug__" : Str)) = false := by decide) (hcd : (x == ("__classdict__" : Str)) = false := by decide) :
    RX X G W (.Call (.Attribute (.Name x np) name apos) (e :: es) [] pos) (mutF i qs h) := by
  obtain ⟨ts, pa, ev⟩ := ha
  obtain ⟨r, hr, hop⟩ := mu.ok
  refine ⟨_, fun j => ?_, ev_mut ev hx hop⟩
  rw [← hK j]
  exact pe_mth (fun T r' hm => by
    have hm := List.mem_singleton.mp hm
    cases hm
    exact ⟨id, m, hr _ (hu j)⟩) (pe_name hN hv hd hcd j) (pa j) (hbase j) (hfew j) hline (hs j) (hplain j)
/-- .. without arguments -/
theorem rx_mut0 (i : Nat) {x name : Str} {id : String} {h : MtD} {apos np : Pos} (hu : ∀ j, (X j).A.units + 65 < cLine) (hK : ∀ j, (X j).K = G.K) (m : Mth name "list" id) (mu : MutR id h) (hN : ∀ j, (X j).N[i]? = some x) (hv : ∀ j, Vis (X j).env.scope x)
    (hbase : ∀ j, attributeBase (.Name x np) name (X j).env (eval (.Name x np) (X j).env) = eval (.Name x np) (X j).env) (hline : (apos.endLine == pos.line) = true) (hd : (x == ("__debug__" : Str)) = false := by decide) (hcd : (x == ("__classdict__" : Str)) = false := by decide) :
    RX X G W (.Call (.Attribute (.Name x np) name apos) [] [] pos) (mutF i [] h) := by
  obtain ⟨r, hr, hop⟩ := mu.ok
  have ev := ev_mut (G := G) (W := W) (i := i) (qs := []) (h := h) .nil trivial hop
  refine ⟨_, fun j => ?_, ev⟩
  have := pe_mth0 (X := X j) (apos := apos) (cpos := pos) (name := name) (rs := [("list", r (X j).K)]) (fun T r' hm => by
    have hm := List.mem_singleton.mp hm
    cases hm
    exact ⟨id, m, hr _ (hu j)⟩) (pe_name hN hv hd hcd j (i := i)) (hbase j) hline
  rw [hK j] at this
  exact this

/-! ### count -/
def rCntL (K : PySem.W.Frag) : V → List V → Hp → VK → Prop := fun x xs H Q => ∃ a y zs ds d, x = .ref a ∧ xs = [y] ∧ SqL K H a zs ∧ DpAll K H zs ds ∧ Dp K H y d ∧ okE d = true ∧ okE (.list ds) = true ∧ Q (.int ((ds.countP fun z => PyData.eqv z d : Nat) : Int)) H
def rCntT (K : PySem.W.Frag) : V → List V → Hp → VK → Prop := fun x xs H Q => ∃ a y zs ds d, x = .ref a ∧ xs = [y] ∧ SqT K H a zs ∧ DpAll K H zs ds ∧ Dp K H y d ∧ okE d = true ∧ okE (.tuple ds) = true ∧ Q (.int ((ds.countP fun z => PyData.eqv z d : Nat) : Int)) H
theorem mt_cntL {X : Cx} (hu : X.A.units + 65 < cLine) : MtR X "list.count" (rCntL X.K) := by
  intro pins s σ H x xs v us Q I rx rxs h
  obtain ⟨a, y, zs, ds, d, rfl, rfl, hs, hz, hy, od, ol, q⟩ := h
  cases rx
  obtain ⟨u, rfl, ru⟩ := rxs.one
  obtain ⟨its, r, pl, hlen⟩ := I.list hs
  obtain ⟨as, ra⟩ := Dp.readsAll I ds zs its hz r
  obtain ⟨bs, rb⟩ := Dp.reads I d y u hy ru
  have hdp := okD_depth _ _ od
  refine SeqAt.count_list_data (vs := its.toArray) pl.isList (by simpa using ra) rb (okE_plainL ol) (okE_plain od) (by have := Nat.min_le_right (PyData.depthAll ds) d.depth; omega) ?_
  exact ⟨.int _, H, I.tok _, ⟨_, rfl⟩, q⟩
theorem mt_cntT {X : Cx} (hu : X.A.units + 65 < cLine) : MtR X "tuple.count" (rCntT X.K) := by
  intro pins s σ H x xs v us Q I rx rxs h
  obtain ⟨a, y, zs, ds, d, rfl, rfl, hs, hz, hy, od, ol, q⟩ := h
  cases rx
  obtain ⟨u, rfl, ru⟩ := rxs.one
  obtain ⟨its, r, pl, hlen⟩ := I.tuple hs
  obtain ⟨as, ra⟩ := Dp.readsAll I ds zs its hz r
  obtain ⟨bs, rb⟩ := Dp.reads I d y u hy ru
  have hdp := okD_depth _ _ od
  refine SeqAt.count_tuple_data (vs := its.toArray) (show s.heap.IsTuple a its.toArray from pl) (by simpa using ra) rb (okE_plainT ol) (okE_plain od) (by have := Nat.min_le_right (PyData.depthAll ds) d.depth; omega) ?_
  exact ⟨.int _, H, I.tok _, ⟨_, rfl⟩, q⟩
def cntD (x : D) : D → Option RV
  | .list ds => if okE x && okE (.list ds) then some (.val (.int ((ds.countP fun z => PyData.eqv z x : Nat) : Int))) else none
  | .tuple ds => if okE x && okE (.tuple ds) then some (.val (.int ((ds.countP fun z => PyData.eqv z x : Nat) : Int))) else none
  | _ => none
def tagD : D → Option Bool
  | .list _ => some false
  | .tuple _ => some true
  | _ => none
def Opd.tag : Opd → Option D → P Bool
  | .ex _, some d => opt (tagD d)
  | .ex _, none => fail
  | .sl i, _ => fun ρ => match look ρ i with
    | some d => opt (tagD d) ρ
    | none => .no
/-- a reading method of a list or a tuple, one argument -/
def methF (qo : Opd) (f : P RV) (h : D → D → Option RV) : P RV := seq qo.run fun x => seq (qo.tag x) fun b => seq f fun rv => seq (qo.get x) fun d => if tagD d = some b then opt (h rv.toD d) else fail
/-- all tuples bear no dict -/
structure Td (G : GC) : Prop where
  on : G.td = true
  lit : ∀ a o, G.K.lookup a = some o → o.cls = .type "tuple" → o.dict = none
theorem tyM_of {F : FC} {ρ : En} {σ : St} {S M H : Hp} {v : V} {d : D} {b : Bool} (td : Td F.g) (s : SR F ρ σ S M H) (r : RpB F S M v d) (ht : tagD d = some b) : TyM F.K (if b then "tuple" else "list") v H := by
  cases d with
  | list ds =>
    cases ht
    obtain ⟨p, vs, rfl, h, _⟩ := r.lst s
    exact .inl (.inl ⟨rfl, _, SqL.of h⟩)
  | tuple ds =>
    cases ht
    obtain ⟨p, vs, rfl, h, _, _⟩ := r.tup s
    have hk := s.kind.2 td.on
    rcases h with (h | ⟨o, h⟩) | ⟨o, its, n, h1, h2, _⟩
    · have := hk p
      rw [h] at this
      exact this.elim
    · have := hk p
      rw [h] at this
      exact .inr ⟨rfl, p, o, vs, rfl, s.sub _ _ h, this⟩
    · exact .inl (.inr (.inl ⟨rfl, o, h1, h2, td.lit p o h1 h2⟩))
  | _ => cases ht
theorem ev_meth {to t : TE} {qo : Opd} {f : P RV} {h : D → D → Option RV} {rL rT : PySem.W.Frag → V → List V → Hp → VK → Prop} (td : Td G) (eo : EvO G W to qo) (ef : EvR G W t f)
    (hL : ∀ (F : FC) (ρ : En) (σ : St) (S M H : Hp) v w x ds z Q, F.g = G → SR F ρ σ S M H → RpB F S M v (.list ds) → Rp F.K S w x → h x (.list ds) = some z → (∀ ρ, PR F W σ S (.ok z ρ) Q → True) → (∀ u d, z = .val d → Rp F.K S u d → Q u H) → (∃ d, z = .val d) → rL G.K v [w] H Q)
    (hT : ∀ (F : FC) (ρ : En) (σ : St) (S M H : Hp) v w x ds z Q, F.g = G → SR F ρ σ S M H → RpB F S M v (.tuple ds) → Rp F.K S w x → h x (.tuple ds) = some z → (∀ ρ, PR F W σ S (.ok z ρ) Q → True) → (∀ u d, z = .val d → Rp F.K S u d → Q u H) → (∃ d, z = .val d) → rT G.K v [w] H Q)
    (hv : ∀ x d z, h x d = some z → ∃ w, z = .val w) :
    EvR G W (tMth G.K [("list", rL G.K), ("tuple", rT G.K)] to (tCons t tNil)) (methF qo f h) := by
  intro F ρ σ S M H Q hg s pp
  have hK' : F.K = G.K := congrArg GC.K hg
  have tdF : Td F.g := by rw [hg]; exact td
  -- once the object stands
  have go : ∀ (v : V) (b : Bool) (ρ1 : En) (S1 M1 H1 : Hp) (gt : P D), Ext S S1 → SR F ρ1 σ S1 M1 H1 → (∃ d, RpB F S1 M1 v d ∧ tagD d = some b) →
      (∀ ρ2 S2 M2 H2, Ext S1 S2 → SR F ρ2 σ S2 M2 H2 → ∀ {A : RV → En → Prop} {B : Nat → En → Prop} {k : D → P RV}, ((gt ρ2).bind k).post A B → ∃ d, RpB F S2 M2 v d ∧ (k d ρ2).post A B) →
      PR F W σ S ((f ρ1).bind fun rv => seq gt fun d => if tagD d = some b then opt (h rv.toD d) else fail) Q →
      ∃ T r, (T, r) ∈ [("list", rL G.K), ("tuple", rT G.K)] ∧ TyM G.K T v H1 ∧ (tCons t tNil) σ H1 fun xs H2 => r v xs H2 Q := fun v b ρ1 S1 M1 H1 gt e1 s1 ⟨d0, rb0, ht0⟩ hgt q => by
    have ty := tyM_of tdF s1 rb0 ht0
    rw [hK'] at ty
    refine ⟨if b then "tuple" else "list", if b then rT G.K else rL G.K, by cases b <;> simp, ty, ?_⟩
    refine ef.use hg s1 q (fun k ρ' q S' M' H' e' => q S' M' H' (e1.trans e')) fun rv w ρ2 S2 M2 H2 e2 s2 r2 q => ?_
    obtain ⟨d, rb, q⟩ := hgt ρ2 S2 M2 H2 e2 s2 q
    by_cases htd : tagD d = some b
    · rw [if_pos htd] at q
      obtain ⟨z, hz, q⟩ := pr_opt (F := F) (W := W) (σ := σ) (S := S) (Q := Q) q
      obtain ⟨zd, rfl⟩ := hv _ _ _ hz
      have fin : ∀ u d, RV.val zd = .val d → Rp F.K S2 u d → Q u H2 := fun u d e r => by
        cases e
        exact q u S2 M2 H2 (e1.trans e2) s2 r
      cases d with
      | list ds =>
        cases htd
        exact hL F ρ2 σ S2 M2 H2 v w rv.toD ds _ Q hg s2 rb r2 hz (fun _ _ => trivial) fin ⟨_, rfl⟩
      | tuple ds =>
        cases htd
        exact hT F ρ2 σ S2 M2 H2 v w rv.toD ds _ Q hg s2 rb r2 hz (fun _ _ => trivial) fin ⟨_, rfl⟩
      | _ => cases htd
    · rw [if_neg htd] at q; exact q.elim
  have pp : PR F W σ S ((qo.run ρ).bind fun x => seq (qo.tag x) fun b => seq f fun rv => seq (qo.get x) fun d => if tagD d = some b then opt (h rv.toD d) else fail) Q := pp
  cases qo with
  | ex g =>
    have eo : EvR G W to g := eo
    have e : ((Opd.ex g).run ρ).bind (fun x => seq ((Opd.ex g).tag x) fun b => seq f fun rv => seq ((Opd.ex g).get x) fun d => if tagD d = some b then opt (h rv.toD d) else fail) =
        (g ρ).bind fun rx => seq (opt (tagD rx.toD)) fun b => seq f fun rv => seq (ret rx.toD) fun d => if tagD d = some b then opt (h rv.toD d) else fail := by
      show ((g ρ).bind fun rv => ret (some rv.toD)).bind _ = _
      cases g ρ <;> rfl
    rw [e] at pp
    refine eo.use hg s pp (fun k ρ' q => q) fun rx v ρ1 S1 M1 H1 e1 s1 r1 q => ?_
    obtain ⟨b, hb, q⟩ := opt_post q
    refine go v b ρ1 S1 M1 H1 (ret rx.toD) e1 s1 ⟨_, .inl r1, hb⟩ (fun ρ2 S2 M2 H2 e2 s2 A B k p => ⟨rx.toD, .inl (r1.mono e2), p⟩) q
  | sl i =>
    have eo : to = tVar i := eo
    subst eo
    have pp : ((match look ρ i with | some _ => Res.ok none ρ | none => .no : Res (Option D)).bind fun x => seq ((Opd.sl i).tag x) fun b => seq f fun rv => seq ((Opd.sl i).get x) fun d => if tagD d = some b then opt (h rv.toD d) else fail).post _ _ := pp
    cases hlk : look ρ i with
    | none => rw [hlk] at pp; exact pp.elim
    | some d0 =>
      rw [hlk] at pp
      obtain ⟨sl, h1, h2⟩ := look_cont hlk
      obtain ⟨v, hv', rb⟩ := s.read h1 h2
      refine ⟨v, hv', ?_⟩
      have pp : ((match look ρ i with | some d => opt (tagD d) ρ | none => .no : Res Bool).bind fun b => seq f fun rv => seq ((Opd.sl i).get none) fun d => if tagD d = some b then opt (h rv.toD d) else fail).post _ _ := pp
      rw [hlk] at pp
      obtain ⟨b, hb, pp⟩ := opt_post pp
      refine go v b ρ S M H ((Opd.sl i).get none) (Ext.refl S) s ⟨d0, rb, hb⟩ (fun ρ2 S2 M2 H2 e2 s2 A B k p => ?_) pp
      have p : ((match look ρ2 i with | some d => Res.ok d ρ2 | none => .no : Res D).bind k).post A B := p
      cases hl2 : look ρ2 i with
      | none => rw [hl2] at p; exact p.elim
      | some d =>
        rw [hl2] at p
        obtain ⟨sl2, g1, g2⟩ := look_cont hl2
        obtain ⟨v2, hv2, rb2⟩ := s2.read g1 g2
        rw [hv'] at hv2
        cases hv2
        exact ⟨d, rb2, p⟩
theorem rx_count {qo : Opd} {f : P RV} {apos : Pos} (td : Td G) (hu : ∀ j, (X j).A.units + 65 < cLine) (hK : ∀ j, (X j).K = G.K) (ho : OX X G W o qo) (ha : RX X G W e f)
    (hbase : ∀ j, attributeBase o "count" (X j).env (eval o (X j).env) = eval o (X j).env)
    (hfew : ∀ j, ((backTo pos (starEach [e] (X j).env)).all (fun x => !x.1) && (backToKw pos (keywordEach [] (X j).env)).all (fun x => x.1.isSome)
      && decide (([e] : List Expr).length + ([] : List Keyword).length + (if ([] : List Keyword).isEmpty then 0 else 1) < 30)) = true)
    (hline : (apos.endLine == pos.line) = true) (hs : ∀ j, starEach [e] (X j).env = (false, eval e (X j).env) :: starEach [] (X j).env) (hplain : ∀ j, (backTo pos (starEach [] (X j).env)).any (·.1) = false) :
    RX X G W (.Call (.Attribute o "count" apos) [e] [] pos) (methF qo f cntD) := by
  obtain ⟨to, po, eo⟩ := ho
  obtain ⟨t, pe, ev⟩ := ha
  refine ⟨tMth G.K [("list", rCntL G.K), ("tuple", rCntT G.K)] to (tCons t tNil), fun j => ?_, ev_meth (rL := rCntL) (rT := rCntT) td eo ev ?_ ?_ ?_⟩
  · rw [← hK j]
    exact pe_mth (fun T r hm => by
      rcases List.mem_cons.mp hm with hm | hm
      · cases hm; exact ⟨_, mth_count, mt_cntL (hu j)⟩
      · rcases List.mem_cons.mp hm with hm | hm
        · cases hm; exact ⟨_, mth_countT, mt_cntT (hu j)⟩
        · cases hm) (po j) (pa_cons (pe j) pa_nil (hs j)) (hbase j) (hfew j) hline (hs j) (hplain j)
  · intro F ρ σ S M H v w x ds z Q hg s rb rw' hz _ fin _
    have hK' : F.K = G.K := congrArg GC.K hg
    have hz : (if (okE x && okE (.list ds)) = true then some (RV.val (.int ((ds.countP fun z => PyData.eqv z x : Nat) : Int))) else none) = some z := hz
    by_cases ho : (okE x && okE (.list ds)) = true
    · rw [if_pos ho] at hz
      cases hz
      rw [Bool.and_eq_true] at ho
      obtain ⟨p, vs, rfl, h, r⟩ := rb.lst s
      have hn : noDictAll ds = true := by
        have := okD_noDict _ _ ho.2
        simpa [noDict] using this
      exact ⟨p, w, vs, ds, x, rfl, rfl, SqL.of h, by rw [← hK']; exact (r.mono s.sub).dp hn, by rw [← hK']; exact okE_dp ho.1 (rw'.mono s.sub), ho.1, ho.2, fin _ _ rfl (.int _)⟩
    · rw [if_neg ho] at hz; cases hz
  · intro F ρ σ S M H v w x ds z Q hg s rb rw' hz _ fin _
    have hK' : F.K = G.K := congrArg GC.K hg
    have hz : (if (okE x && okE (.tuple ds)) = true then some (RV.val (.int ((ds.countP fun z => PyData.eqv z x : Nat) : Int))) else none) = some z := hz
    by_cases ho : (okE x && okE (.tuple ds)) = true
    · rw [if_pos ho] at hz
      cases hz
      rw [Bool.and_eq_true] at ho
      obtain ⟨p, vs, rfl, _, h, r⟩ := rb.tup s
      have hn : noDictAll ds = true := by
        have := okD_noDict _ _ ho.2
        simpa [noDict] using this
      exact ⟨p, w, vs, ds, x, rfl, rfl, by rw [← hK']; exact h, by rw [← hK']; exact (r.mono s.sub).dp hn, by rw [← hK']; exact okE_dp ho.1 (rw'.mono s.sub), ho.1, ho.2, fin _ _ rfl (.int _)⟩
    · rw [if_neg ho] at hz; cases hz
  · intro x d z hz
    unfold cntD at hz
    split at hz
    · split at hz
      · cases hz; exact ⟨_, rfl⟩
      · cases hz
    · split at hz
      · cases hz; exact ⟨_, rfl⟩
      · cases hz
    · cases hz
end
end L3

set_option Elab.async false
set_option linter.all false
set_option maxRecDepth 100000
set_option maxHeartbeats 1000000
namespace L3
open PySem PySem.Spec PyProof.Rows L2

/-! ### defs by the head's facts -/
abbrev Dn (K : PySem.W.Frag) (x : Str) (st : Stmt) (fd : FuncData) : Prop := FunD K x x (defArgs st) (defBody st) (defScope st) [] [] (He.fAd K (x, none)) fd
abbrev DIxC (N : List Str) (qual : Str) (st : Stmt) (f c : Addr) (k : Nat) : Type := { x : Around × List Env × Shared × Hp // Room k (x.1.deeper (envOfC qual (defScope st) x.2.2.1.heap.objs.size f (.ref c))) }
def defC (P : Program) (w : World) (K : PySem.W.Frag) (mg : Str → Option Value) (base : Heap) (N : List Str) (qual : Str) (st : Stmt) (f c : Addr) (k : Nat) (E : XK) : DIxC N qual st f c k → Cx := fun x =>
  cxOf (L2N.CX P w) P w K mg base N qual (defScope st) f (.ref c) x.1.1 x.1.2.1 x.1.2.2.1 x.1.2.2.2 E
theorem cxs_defC {P : Program} {w : World} {G : GC} {mg : Str → Option Value} {base : Heap} {N ps : List Str} {qual : Str} {st : Stmt} {f c : Addr} {k : Nat} (S : FnScope N ps (defScope st)) (E : XK) : Cxs P w G mg base k N (wE E) (defC P w G.K mg base N qual st f c k E) where
  prog := fun _ => rfl
  w := fun _ => rfl
  K := fun _ => rfl
  mg := fun _ => rfl
  base := fun _ => rfl
  calm := fun _ => rfl
  room := fun i => i.2
  names := fun _ => rfl
  nd := S.nd
  tk := fun i => L2N.takes_of (X := defC P w G.K mg base N qual st f c k E i) rfl rfl rfl rfl
theorem owns_defC {P : Program} {w : World} {K : PySem.W.Frag} {mg : Str → Option Value} {base : Heap} {N : List Str} {qual : Str} {st : Stmt} {f c : Addr} {k : Nat} {E : XK} (i : DIxC N qual st f c k) :
    PassesOwn (model (defC P w K mg base N qual st f c k E i).prog (defC P w K mg base N qual st f c k E i).w) (defC P w K mg base N qual st f c k E i).A (defC P w K mg base N qual st f c k E i).env (defC P w K mg base N qual st f c k E i).xe := passes_of (X := defC P w K mg base N qual st f c k E i) rfl
/-- a def by its body: the body is read, then asked -/
theorem okC {Pg : Program} {w : World} {K : PySem.W.Frag} {mg : Str → Option Value} {base : Heap} {N ps : List Str} {x : Str} {st : Stmt} {fd : FuncData} {k : Nat} {sp : Sp} (F : Dn K x st fd) (Sc : FnScope N ps (defScope st)) (len : ∀ vs H Q E, sp vs H Q E → vs.length = ps.length)
    (hb : ∀ E : XK, ∃ t : TS, (∀ i, PSs (defC Pg w K mg base N x st (He.fAd K (x, none)) (He.codeOf K (x, none)) k E i) (defBody st) t) ∧ ∀ vs H Q, sp vs H Q E → t { nx := fun _ H' => Q .non H', rt := Q } (start N vs) H) : FnOk Pg w K mg base (L2N.CX Pg w) (k + 1) (He.fAd K (x, none)) fd ps sp := by
  obtain ⟨oc, od, dV, kV, doc, pm, an, cdv, ct, osl, rfl, lk, hcd, _, _⟩ := F.ex
  obtain ⟨c, rfl⟩ := He.codeIn_ref hcd
  have hc : He.codeOf K (x, none) = c := He.codeOf_eq lk rfl
  refine fn_of lk hcd Sc len fun A outer s H vs Q E hr hsp => ?_
  obtain ⟨t, pt, ev⟩ := hb E
  rw [hc] at pt
  exact ⟨t, pt ⟨(A, outer, s, H), hr⟩, ev vs H Q hsp⟩
theorem start_pad {N : List Str} {vs : List V} {n : Nat} (hl : vs.length = n) : L2.start N vs = vs.map some ++ List.replicate (N.length - n) none := by unfold L2.start; rw [hl]
theorem ok_defC {Pg : Program} {w : World} {G : GC} {mg : Str → Option Value} {base : Heap} {N ps : List Str} {x : Str} {st : Stmt} {fd : FuncData} {k n : Nat} {fl : P Fl} (F : Dn G.K x st fd) (Sc : FnScope N ps (defScope st)) (hn : ps.length = n)
    (hb : ∀ E : XK, SXs (defC Pg w G.K mg base N x st (He.fAd G.K (x, none)) (He.codeOf G.K (x, none)) k E) G (wE E) (defBody st) fl) : FnOk Pg w G.K mg base (L2N.CX Pg w) (k + 1) (He.fAd G.K (x, none)) fd ps (FSp n G (bodyF n N.length fl)) := by
  refine okC F Sc (fun vs H Q E h => h.1.trans hn.symm) fun E => ?_
  obtain ⟨t, ps', ev⟩ := hb E
  refine ⟨t, ps', fun vs H Q h => ?_⟩
  obtain ⟨hl, as, B, S, M, sr, p⟩ := h
  have s1 : SR ⟨G, B, M⟩ (as ++ List.replicate (N.length - n) .un) (L2.start N vs) S M H := by
    rw [start_pad hl]
    exact sr.pad _
  refine ev ⟨G, B, M⟩ _ _ S M H _ rfl s1 ?_
  have p : ((match fl (as ++ List.replicate (N.length - n) .un) with
    | .ok (.rt rv) ρ => (match finA as ρ with
      | some as' => Res.ok rv as'
      | none => .no)
    | .ok .nx ρ => (match finA as ρ with
      | some as' => Res.ok (.val .none) as'
      | none => .no)
    | .err k ρ => (match finA as ρ with
      | some as' => .err k as'
      | none => .no)
    | _ => .no : Res RV)).post _ _ := p
  cases hf : fl (as ++ List.replicate (N.length - n) .un) with
  | no => rw [hf] at p; exact p.elim
  | err k' ρ =>
    rw [hf] at p
    cases hA : finA as ρ with
    | none =>
      have p : ((match finA as ρ with | some as' => .err k' as' | none => .no : Res RV)).post _ _ := p
      rw [hA] at p; exact p.elim
    | some as' =>
      have p : ((match finA as ρ with | some as' => .err k' as' | none => .no : Res RV)).post _ _ := p
      rw [hA] at p
      exact fun σ' S' M' H' e s' => p S' M' H' e (SR.fin sr s' hA).1
  | ok fl' ρ =>
    rw [hf] at p
    cases fl' with
    | bk => exact p.elim
    | ct => exact p.elim
    | nx =>
      cases hA : finA as ρ with
      | none =>
        have p : ((match finA as ρ with | some as' => .ok (.val .none) as' | none => .no : Res RV)).post _ _ := p
        rw [hA] at p; exact p.elim
      | some as' =>
        have p : ((match finA as ρ with | some as' => .ok (.val .none) as' | none => .no : Res RV)).post _ _ := p
        rw [hA] at p
        exact fun σ' S' M' H' e s' => p .non S' M' H' e (SR.fin sr s' hA).1 .non
    | rt rv =>
      cases hA : finA as ρ with
      | none =>
        have p : ((match finA as ρ with | some as' => .ok rv as' | none => .no : Res RV)).post _ _ := p
        rw [hA] at p; exact p.elim
      | some as' =>
        have p : ((match finA as ρ with | some as' => .ok rv as' | none => .no : Res RV)).post _ _ := p
        rw [hA] at p
        exact fun σ' S' M' H' e s' v r => p v S' M' H' e (SR.fin sr s' hA).1 ((SR.fin sr s' hA).2 rv v r)
/-- a def whose mirror is nowhere defined -/
theorem fnOk_no {Pg : Program} {w : World} {G : GC} {mg : Str → Option Value} {base : Heap} {k n : Nat} {f : Addr} {fd : FuncData} {ps : List Str} (hn : ps.length = n) : FnOk Pg w G.K mg base (L2N.CX Pg w) k f fd ps (FSp n G fun _ => .no) :=
  ⟨fun vs H Q E h => h.1.trans hn.symm, fun A outer s H args us vs Q E _ _ _ _ h => by
    obtain ⟨_, _, _, _, _, _, p⟩ := h
    exact p.elim⟩

/-! ### the law -/
/-- what _law_draws promises: a new list of ints -/
def spDraws (K : PySem.W.Frag) : Sp := fun vs H Q E => ∃ (a : Addr) (ns : List Int), vs = [.ref a] ∧ SqL K H a (ns.map V.int) ∧ ns.length ≤ 63 ∧ (∀ z ∈ ns, Builtin.Int.intBits z ≤ 1048576) ∧ ∀ (L : List Int) (H1 : Hp) p, L.length ≤ 65000 → (∀ b o, H b = some o → H1 b = some o) → H1 p = none → Q (.ref p) (upd H1 p (.lst (L.map V.int)))
def spLaw (G : GC) : Sp := fun vs H Q E => ∃ (a : Addr) (ns : List Int), vs = [.ref a] ∧ SqL G.K H a (ns.map V.int) ∧ ns.length ≤ 63 ∧ (∀ z ∈ ns, Builtin.Int.intBits z ≤ 1048576) ∧ (∀ P ∈ G.T, H P = some (.tbl #[])) ∧ ∀ H', Q (.bl true) H'
def lawEn (n : Nat) (L : List Int) : En := .un :: .ow (.lst (L.map PyData.int)) :: List.replicate n .un
theorem sr_start {G : GC} {H : Hp} {a p : Addr} {L : List Int} {n : Nat} (hp : H p = none) (hT : ∀ P ∈ G.T, H P = some (.tbl #[])) : SR ⟨G, [], fun _ => none⟩ (lawEn n L) (some (.ref a) :: some (.ref p) :: List.replicate n none) (fun _ => none) (fun b => if b = p then some (.lst (L.map V.int)) else none) (upd H p (.lst (L.map V.int))) := by
  have un : ∀ (i : Nat) sl, (lawEn n L)[i]? = some sl → (i = 1 ∧ sl = .ow (.lst (L.map PyData.int))) ∨ sl = .un := fun i sl e => by
    match i with
    | 0 => exact .inr (Option.some.inj e).symm
    | 1 => exact .inl ⟨rfl, (Option.some.inj e).symm⟩
    | i + 2 =>
      have e : (List.replicate n Sl.un)[i]? = some sl := e
      rw [List.getElem?_replicate] at e
      split at e
      · cases e; exact .inr rfl
      · cases e
  refine ⟨by simp [lawEn], fun b o e => (by cases e), fun b o e => ?_, fun b => .inl rfl, fun b o _ e => (by cases e), fun b hb => (by cases hb), fun b hb => ?_, ⟨fun b o e => ?_, fun _ _ => trivial⟩, fun i sl v h e => ?_, fun i j x y hij hx hy ox oy => ?_⟩
  · have e : (if b = p then some (HO.lst (L.map V.int)) else none) = some o := e
    by_cases hb : b = p
    · subst hb
      rw [if_pos rfl] at e
      rw [upd_same]; exact e
    · rw [if_neg hb] at e; cases e
  · have hne : b ≠ p := fun z => by
      have := hT b hb
      rw [z, hp] at this; cases this
    refine ⟨⟨#[], ?_, trivial⟩, rfl, if_neg hne⟩
    rw [upd_ne hne]
    exact hT b hb
  · have e : (if b = p then some (HO.lst (L.map V.int)) else none) = some o := e
    split at e
    · cases e; trivial
    · cases e
  · rcases un i sl h with ⟨rfl, rfl⟩ | rfl
    · cases e
      exact ⟨p, _, rfl, if_pos rfl, .lst (RpAll.ints L), rfl, by simp⟩
    · trivial
  · rcases un i x hx with ⟨rfl, rfl⟩ | rfl
    · rcases un j y hy with ⟨rfl, rfl⟩ | rfl
      · exact absurd rfl hij
      · cases oy
    · cases ox
theorem ok_law {Pg : Program} {w : World} {G : GC} {mg : Str → Option Value} {base : Heap} {N : List Str} {n : Nat} {st : Stmt} {fd fdd : FuncData} {k : Nat} {fl : P Fl} {rest : List Stmt} {p1 p2 p3 p4 p5 : Pos} {kd : Nat} (F : Dn G.K "law" st fd) (Sc : FnScope N ["script"] (defScope st)) (hN : N = ("script" : Str) :: ("draws" : Str) :: N.drop 2) (hl : N.length = n + 2)
    (FD : FnOk Pg w G.K mg base (L2N.CX Pg w) kd (He.fAd G.K ("_law_draws", none)) fdd ["script"] (spDraws G.K)) (hk : kd ≤ k) (hm : mg "_law_draws" = some (.ref (He.fAd G.K ("_law_draws", none)))) (kp : PySem.W.keepIn G.K (.ref (He.fAd G.K ("_law_draws", none))) = true) (hbd : Binds G.K fdd ["script"] [])
    (hg : (defScope st).names.lookup ("_law_draws" : Str) = some .globalImplicit) (hs : Vis (defScope st) "script") (hd : Loc (defScope st) "draws") (hbody : defBody st = .Assign [.Name "draws" p1] (.Call (.Name "_law_draws" p2) [.Name "script" p3] [] p4) p5 :: rest)
    (hb : ∀ E : XK, SXs (defC Pg w G.K mg base N "law" st (He.fAd G.K ("law", none)) (He.codeOf G.K ("law", none)) k E) G (wE E) rest fl)
    (law : ∀ L : List Int, L.length ≤ 65000 → (fl (lawEn n L)).post (fun r _ => r = .rt (.val (.bool true))) (fun _ _ => False)) :
    FnOk Pg w G.K mg base (L2N.CX Pg w) (k + 1) (He.fAd G.K ("law", none)) fd ["script"] (spLaw G) := by
  refine okC F Sc (fun vs H Q E h => by obtain ⟨a, ns, rfl, _⟩ := h; rfl) fun E => ?_
  obtain ⟨t, pt, ev⟩ := hb E
  have cx := cxs_defC (P := Pg) (w := w) (G := G) (mg := mg) (base := base) (qual := "law") (f := He.fAd G.K ("law", none)) (c := He.codeOf G.K ("law", none)) (k := k) Sc E
  have n0 : N[0]? = some ("script" : Str) := by rw [hN]; rfl
  have n1 : N[1]? = some ("draws" : Str) := by rw [hN]; rfl
  refine ⟨tSeq (tAsg (tCallS (spDraws G.K) (WE (wE E)) (tCons (tVar 0) tNil)) (gName 1)) t, fun i => ?_, fun vs H Q h => ?_⟩
  · rw [hbody]
    refine pss_cons (ps_set (i := 1) Sc.nd n1 hd ?_ (by rfl) (.inl rfl)) (pt i)
    exact pe_callS (CX := L2N.CX Pg w) (k := kd) (f := He.fAd G.K ("_law_draws", none)) (fd := fdd) (ps := ["script"]) FD ((cx.room i).mono hk) hg hm kp hbd (fun σ => L2N.passAt (cx.tk i) σ) (pa_cons (pe_var n0 hs) pa_nil)
  · obtain ⟨a, ns, rfl, hsq, hz, hbits, hT, q⟩ := h
    have hst : L2.start N [V.ref a] = some (.ref a) :: none :: List.replicate n none := by
      unfold L2.start
      rw [hl]
      rfl
    refine ⟨.ref a, by rw [hst]; rfl, a, ns, rfl, hsq, hz, hbits, fun L H1 p hL hk hp => ?_⟩
    show t _ ((L2.start N [V.ref a]).set 1 (some (.ref p))) (upd H1 p (.lst (L.map V.int)))
    rw [hst]
    refine ev ⟨G, [], fun _ => none⟩ (lawEn n L) _ (fun _ => none) _ _ _ rfl (sr_start (n := n) (a := a) hp fun P hP => hk _ _ (hT P hP)) (Res.post_mono (law L hL) (fun r ρ' hr σ' S' M' H' _ _ => ?_) fun _ _ z => z.elim)
    subst hr
    intro v r
    have hv : v = .bl true := by
      have r : Rp _ S' v (.bool true) := r
      cases r; rfl
    rw [hv]
    exact q H'
/-- the code tables of the defs at tf -/
def tabs (K : PySem.W.Frag) (tf : List He.Defn) : List Addr := tf.map fun p => (He.cT K p).2
end L3

set_option Elab.async false
set_option linter.all false
set_option maxRecDepth 100000
set_option maxHeartbeats 1000000
namespace L3
open PySem PySem.Spec PyProof.Rows L2
/-! ### list(reversed(x)) -/
section
variable {prog : Program} {w : World} {A : Around} {E : Value → Shared → Prop} {s : Shared}
theorem call_list_rev {it l : Addr} {items : Array Value} {Q : Value → Shared → Prop} (hh : A.handled = none) (hit : s.heap.IsRevIter it l ((items.size : Int) - 1)) (hl : s.heap.IsList l items) (hne : l ≠ it) (hn : items.size ≤ sizeLine)
    (hQ : ∀ (h' : Heap) (tk : Nat) (acc : Array Value) (c' : Nat), (∀ b o, b ≠ it → s.heap.get? b = some o → h'.get? b = some o) → h'.get? s.heap.objs.size = some { cls := .type "list", dict := none, data := .seq acc c', slots := #[] } → ItemsOf (fun i v => items[items.size - 1 - i]? = some v) acc items.size →
      Q (.ref s.heap.objs.size) { s with heap := h', toks := tk }) :
    wpAny (model prog w) A (call (.type "list") [.ref it]) Q E s := by
  refine callType_codes (Q₁ := fun obj s₁ => obj = .ref s.heap.objs.size ∧ s₁ = { s with heap := s.heap.push { cls := .type "list", data := .seq #[] } }) F.called_list (F.typeCall_list_1 _) F.entry_list_init
    (code_list_new _ ⟨rfl, rfl⟩) fun obj s₁ h₁ => ?_
  obtain ⟨rfl, rfl⟩ := h₁
  have W := (Walks.listRev (prog := prog) (w := w) (A := A.in1.in1) hh it l hne items).toS
  obtain ⟨oi, hoi, _⟩ := id hit
  obtain ⟨ol, hol, _⟩ := id hl
  have hSi : s.heap.objs.size ≠ it := Nat.ne_of_gt (Heap.lt_size hoi)
  have hSl : s.heap.objs.size ≠ l := Nat.ne_of_gt (Heap.lt_size hol)
  have hSf : s.heap.objs.size ∉ [it, l] := by simp only [List.mem_cons, List.not_mem_nil, or_false, not_or]; exact ⟨hSi, hSl⟩
  have hS : (s.heap.push { cls := .type "list", data := .seq #[] }).get? s.heap.objs.size = some { cls := .type "list", data := .seq #[] } := Heap.get?_push_size _ rfl
  refine ⟨⟨_, hS, rfl⟩, F.args_list_init_2 _ _, ?_⟩
  show wpAny _ _ (do let old ← Builtin.List.listItems (.ref s.heap.objs.size); Builtin.List.listUpdate (.ref s.heap.objs.size) (fun _ => #[]); letGo old.toList.reverse; Builtin.List.listExtendWith (.ref s.heap.objs.size) (.ref it) .none) _ _ _
  refine wpAny_bind ?_
  unfold Builtin.List.listItems
  refine wpAny_bind (wpAny_seqItems hS rfl (wpAny_pure ?_))
  show wpAny _ _ (updateSeq s.heap.objs.size (fun _ => #[]) >>= fun _ => letGo (#[] : Array Value).toList.reverse >>= fun _ => Builtin.List.listExtendWith (.ref s.heap.objs.size) (.ref it) .none) _ _ _
  refine wpAny_bind (wpAny_updateSeq hS rfl ?_)
  have hS₂ := Heap.get?_update_self (Obj.mapSeq (fun _ => (#[] : Array Value))) hS rfl
  have oth : ∀ b o, b ≠ s.heap.objs.size → (s.heap.push { cls := .type "list", data := .seq #[] }).get? b = some o → ((s.heap.push { cls := .type "list", data := .seq #[] }).update s.heap.objs.size (Obj.mapSeq (fun _ => (#[] : Array Value)))).get? b = some o :=
    fun b o hb e => (Heap.get?_update_other _ _ (Ne.symm hb)).trans e
  refine wpAny_bind (wpAny_letGo ?_)
  generalize hh2 : (s.heap.push { cls := .type "list", data := .seq #[] }).update s.heap.objs.size (Obj.mapSeq (fun _ => (#[] : Array Value))) = h2 at hS₂ oth
  have old2 : ∀ b o, s.heap.get? b = some o → h2.get? b = some o := fun b o e => oth b o (Nat.ne_of_lt (Heap.lt_size e)) (Heap.get?_push_of_some _ e)
  have hit1 : h2.IsRevIter it l ((items.size : Int) - 1) := hit.at fun o e => old2 _ o e
  have hl1 : h2.IsList l items := let ⟨o, e, r⟩ := hl; ⟨o, old2 _ _ e, r⟩
  have hT : ({ s with heap := h2 } : Shared).TypeIs (.ref it) "list_reverseiterator" := Heap.IsRevIter.typeIs (s := { s with heap := h2 }) hit1
  have h1 : Builtin.List.listSameRef (.ref s.heap.objs.size) (.ref it) = false := by simp [Builtin.List.listSameRef, hSi]
  unfold Builtin.List.listExtendWith
  refine wpAny_bind (wpAny_typeOf hT ?_)
  rw [if_neg (by rw [h1]; decide)]
  refine wpAny_bind (wpAny_pyIter_revIter (s := { s with heap := h2 }) hit1 ?_)
  refine wpAny_bind (wpAny_holding ?_)
  unfold Builtin.List.listLengthHint
  refine wpAny_bind (wpAny_specialOf hT RT.nolen_lri ?_)
  show wpAny _ _ (specialOf (Value.ref it) (Str.ofString "__length_hint__") >>= _) _ _ _
  refine wpAny_bind (wpAny_specialOf hT RT.hint_lri ?_)
  generalize hid : ("list_reverseiterator.__length_hint__" : String) = id0
  wp_delta
  rw [show splitId id0 = some ("list_reverseiterator", "__length_hint__") from by subst hid; decide +kernel]
  subst hid
  refine wpAny_bind (wpAny_isInstance (b := true) hT (by rw [isSubtype_type]; kernel_rfl) ?_)
  refine wpAny_pure ?_
  have e0 : ((items.size : Nat) : Int) - 1 - ((0 : Nat) : Int) = (items.size : Int) - 1 := by omega
  have key : ∀ (h3 : Heap) (c1 tk : Nat), h3.IsRevIter it l ((items.size : Int) - 1) → h3.IsList l items → h3.get? s.heap.objs.size = some { cls := .type "list", data := .seq #[] c1 } → (∀ b o, s.heap.get? b = some o → h3.get? b = some o) →
      codeAny (model prog w) A.in1 (.builtin "list.extend.loop" ⟨[.ref s.heap.objs.size, .ref it, .none], []⟩) (wants (fun r s₂ => r = Value.none ∧ Q (.ref s.heap.objs.size) s₂) E) { s with heap := h3, toks := tk } := fun h3 c1 tk hi3 hl3 hS3 hk3 => by
    refine codeAny_extend_loopS W hn _ hSf _ items.size 0 _ #[] c1 rfl (Nat.zero_le _) ⟨Nat.zero_le _, by rw [e0]; exact hi3, hl3⟩ hS3 (ItemsOf.nil _) fun s' acc' c' hm hS' hacc => ?_
    rw [Moved.eq_with hm]
    refine ⟨rfl, hQ s'.heap s'.toks acc' c' (fun b o hb e => hm.heap b o (fun hmem => ?_) (hk3 b o e)) hS' hacc⟩
    rcases List.mem_cons.mp hmem with e' | hmem
    · exact absurd (Heap.lt_size e) (by rw [e']; exact Nat.lt_irrefl _)
    · exact hb (List.mem_singleton.mp hmem)
  refine wpAny_ite_split (fun _ => ?_) (fun _ => wpAny_pure ⟨plainId_quiet F.plain_extend_loop _, key h2 _ _ hit1 hl1 hS₂ old2⟩)
  refine wpAny_bind (wpAny_rule ?_)
  refine wpAny_bind ?_
  show wpAny _ _ (updateSeq s.heap.objs.size (·.push .none) >>= fun _ => updateSeq s.heap.objs.size (·.pop)) _ _ _
  refine wpAny_bind (wpAny_updateSeq hS₂ rfl ?_)
  have hS₃ := Heap.get?_update_self (Obj.mapSeq (·.push Value.none)) hS₂ rfl
  refine wpAny_updateSeq (hz := by seq_fits) hS₃ rfl ?_
  have hS₄ := Heap.get?_update_self (Obj.mapSeq (·.pop)) hS₃ rfl
  have up : ∀ b o, b ≠ s.heap.objs.size → h2.get? b = some o → ((h2.update s.heap.objs.size (Obj.mapSeq (·.push Value.none))).update s.heap.objs.size (Obj.mapSeq (·.pop))).get? b = some o := fun b o hb e =>
    (Heap.get?_update_other _ _ (Ne.symm hb)).trans ((Heap.get?_update_other _ _ (Ne.symm hb)).trans e)
  exact wpAny_pure ⟨plainId_quiet F.plain_extend_loop _, key _ _ _ (hit1.at fun o e => up _ o (Ne.symm hSi) e) (let ⟨o, e, r⟩ := hl1; ⟨o, up _ _ (Ne.symm hSl) e, r⟩) hS₄ fun b o e => up b o (Nat.ne_of_lt (Heap.lt_size e)) (old2 b o e)⟩
end
section
variable {X : Cx}
def tLstRev (K : PySem.W.Frag) (te : TE) : TE := fun σ H Q => te σ H fun v H1 => ∃ (a : Addr) (xs : List V), v = .ref a ∧ SqL K H1 a xs ∧ ∀ q, H1 q = none → Q (.ref q) (upd H1 q (.lst xs.reverse))
theorem pe_lstRev {e : Expr} {te : TE} {p p2 pos pos2 : Pos} (hc : X.calm = true) (hg : Gl X "list") (hm : X.mg "list" = none) (hg2 : Gl X "reversed") (hm2 : X.mg "reversed" = none) (he : PE X e te)
    (hs : starEach [e] X.env = (false, eval e X.env) :: starEach [] X.env)
    (hs2 : starEach [.Call (.Name "reversed" p2) [e] [] pos2] X.env = (false, eval (.Call (.Name "reversed" p2) [e] [] pos2) X.env) :: starEach [] X.env) :
    PE X (.Call (.Name "list" p) [.Call (.Name "reversed" p2) [e] [] pos2] [] pos) (tLstRev X.K te) := by
  refine ⟨fun pins s σ H Q I h => ?_⟩
  refine Call_ (ld_blt I hg hm boot_list (PyProof.Rows.callWith_type1 (args_cons (Call_ (ld_blt I hg2 hm2 PyProof.Rows.boot_reversed (PyProof.Rows.callWith_type1 (args_cons (thn (he.run pins s σ H _ I h) fun u s1 ⟨v, H1, I1, r1, q1⟩ => args_nil ?_) hs) hs rfl))) hs2) hs2 rfl))
  obtain ⟨a, xs, ev, hq, q⟩ := q1
  subst ev
  obtain rfl : u = Value.ref a := r1
  obtain ⟨its, rv, p', hz⟩ := I1.list hq
  refine call_reversed_list p'.isList (args_nil ?_)
  have k0 : ∀ b o, s1.heap.get? b = some o → (s1.heap.push (revObj a ((its.toArray.size : Int) - 1))).get? b = some o := fun b o e => Heap.get?_push_of_some _ e
  have I2 : Inv X pins σ H1 { s1 with heap := s1.heap.push (revObj a ((its.toArray.size : Int) - 1)) } := I1.kept (t' := s1.toks) k0
  have f := I1.fpOk (H' := H1) (b := s1.heap.objs.size) (Nat.le_refl _) (I1.hok.fresh (Nat.le_refl _))
  obtain ⟨f0, f1, f2, f3, f4, f5⟩ := f
  have hl := p'.isList
  obtain ⟨ol, hol, _⟩ := id hl
  have hne : a ≠ s1.heap.objs.size := Nat.ne_of_lt (Heap.lt_size hol)
  have hn : its.toArray.size ≤ sizeLine := by rw [List.size_toArray, ← rv.length]; exact hz
  refine call_list_rev (s := { s1 with heap := s1.heap.push (revObj a ((its.toArray.size : Int) - 1)) }) (I1.ok.hd hc) ⟨_, Heap.get?_push_size _ rfl, rfl, rfl⟩ (hl.push _) hne hn fun h' tk acc c' hk e' hi => ?_
  have sz : (s1.heap.push (revObj a ((its.toArray.size : Int) - 1))).objs.size = s1.heap.objs.size + 1 := Heap.size_push ..
  have hnew : H1 (s1.heap.push (revObj a ((its.toArray.size : Int) - 1))).objs.size = none := I2.hok.fresh (Nat.le_refl _)
  -- the state with the new list, the iterator turned
  have hne2 : s1.heap.objs.size ≠ (s1.heap.push (revObj a ((its.toArray.size : Int) - 1))).objs.size := by rw [sz]; exact Nat.ne_of_lt (Nat.lt_succ_self _)
  refine ⟨.ref (s1.heap.push (revObj a ((its.toArray.size : Int) - 1))).objs.size, upd H1 (s1.heap.push (revObj a ((its.toArray.size : Int) - 1))).objs.size (.lst xs.reverse), ?_, rfl, q _ hnew⟩
  have nit : ∀ b u, H1 b = some u → b ≠ s1.heap.objs.size := fun b u e z => by rw [z, f0] at e; cases e
  refine I2.step (g' := s1.gens) (d' := s1.drawn) (t' := tk) (h' := h') (ch := [s1.heap.objs.size]) (fun b hb => ?_) (fun b o _ _ hb e _ => hk b o (fun z => hb (by simp [z])) e) (fun b o _ _ hb e _ => ⟨o.slots, hk b o (fun z => hb (by simp [z])) e⟩) (fun b o hb e n => ?_)
    (fun b o hb e => ⟨o, hk b o (fun z => hb (by simp [z])) e⟩) (fun b ys e => by rw [upd_ne (ne_of_none e hnew)]; exact e) (fun b o u e => by rw [upd_ne (ne_of_none e hnew)]; exact e) (fun b ps e => ⟨#[], by rw [upd_ne (ne_of_none e hnew), e]; simp⟩) (fun m hm => ?_) (fun b u e => ?_) I2.bare
  · have e : b = s1.heap.objs.size := by simpa using hb
    subst e
    exact ⟨f3, f1, f4, f5⟩
  · rw [upd_ne (Nat.ne_of_lt (Heap.lt_size e))]
    exact n
  · obtain ⟨o, es, ep, ho, r⟩ := hm
    exact ⟨o, es, ep, hk _ o (Ne.symm f1) ho, r⟩
  · by_cases hb : b = (s1.heap.push (revObj a ((its.toArray.size : Int) - 1))).objs.size
    · subst hb
      rw [upd_same] at e
      cases e
      exact ⟨by rw [List.length_reverse]; exact hz, acc.toList, c', RT.vals_rev rv hi, by rw [Array.toArray_toList]; exact e'⟩
    · rw [upd_ne hb] at e
      refine (I2.hok b u e).stay (fun c v hc q => hk c v ?_ q) (fun c q => by rw [upd_ne (ne_of_none q hnew)]; exact q) fun c ys q => by rw [upd_ne (ne_of_none q hnew)]; exact q
      rcases hc with z | z
      · rw [z]; exact nit b u e
      · exact nit c _ z
end
end L3

set_option Elab.async false
set_option linter.all false
set_option maxRecDepth 100000
set_option maxHeartbeats 1000000
namespace L3
open PySem PySem.Spec PyProof.Rows L2
/-! ### _law_draws, read -/
abbrev rdAdd : R2 := rI0 fun i j => .int (i + j)
abbrev rdMul : R2 := rI CMul fun i j => .int (i * j)
abbrev rdMod : R2 := rI (fun _ j => 0 < j) fun i j => .int (i % j)
abbrev rdDiv : R2 := rI CDiv fun i j => .int (i / j)
abbrev rdPow : R2 := rI CPow fun i j => .int (i ^ j.toNat)
abbrev rdLt : R2 := rI0 fun i j => .bl (decide (i < j))
abbrev rdGt : R2 := rI0 fun i j => .bl (decide (j < i))
abbrev tdInt (te : TE) : TE := tCB (fun xs H Q => (∃ i, xs = [.int i] ∧ Q (.int i) H) ∨ ∃ k, xs = [.bl k] ∧ Q (.int (if k then 1 else 0)) H) (tCons te tNil)
abbrev tdAbs (te : TE) : TE := tCB (fun xs H Q => ∃ i, xs = [.int i] ∧ Q (.int (if i < 0 then -i else i)) H) (tCons te tNil)
abbrev tdApp (K : PySem.W.Frag) (te : TE) : TS := tDrop (tBM K "list" rAppend (tVar 1) (tCons te tNil))
abbrev tk (i : Int) : TE := tC (.int i)
def tdIn1 (K : PySem.W.Frag) : TS := tSeq (tAsg (tOp rdMod (tdInt (tOp rdAdd (tOp rdMul (tVar 3) (tk 48271)) (tk 11))) (tk 2147483647)) (gName 4))
  (tSeq (tdApp K (tOp rdMod (tdInt (tOp rdAdd (tOp rdMul (tVar 4) (tk 69621)) (tVar 3))) (tk 2147483629)))
  (tSeq (tdApp K (tOp rdMod (tdInt (tOp rdAdd (tVar 4) (tOp rdDiv (tVar 3) (tk 7)))) (tk 1000003))) (tAsg (tk 0) (gName 3))))
def tdIn2 (K : PySem.W.Frag) : TS := tIfS (tTest (tOp rdGt (tVar 3) (tk 0))) (tSeq (tdApp K (tOp rdMod (tdInt (tVar 3)) (tk 997))) (tAsg (tOp rdDiv (tVar 3) (tk 997)) (gName 3))) tNext
def tdCell (K : PySem.W.Frag) : TS := tSeq (tAsg (tdAbs (tVar 2)) (gName 3)) (tSeq (tIfS (tTest (tOp rdLt (tVar 3) (tOp rdPow (tk 10) (tk 18)))) (tdIn1 K) tNext) (tFor (iRng1 (tCons (tk 60) tNil)) (gName 5) (tdIn2 K)))
def tdSeed (K : PySem.W.Frag) : TS := tSeq (tAsg (tOp rdMod (tdInt (tOp rdAdd (tOp rdMul (tVar 6) (tk 48271)) (tk 69621))) (tk 2147483647)) (gName 6)) (tdApp K (tOp rdDiv (tVar 6) (tk 5)))
abbrev tdLen (K : PySem.W.Frag) : TE := tCB (fun xs H Q => ∃ x n, xs = [x] ∧ LenV K x H n ∧ Q (.int n) H) (tCons (tVar 0) tNil)
def tdIf (K : PySem.W.Frag) : TS := tIfS (tTest (tOp rdGt (tdLen K) (tk 0))) (tAsg (tOp rdAdd (tk 1) (tdAbs (tOp (rIx K) (tVar 0) (tk 0)))) (gName 6)) tNext
def tDraws (K : PySem.W.Frag) : TS := tSeq (tAsg (tLst tNil) (gName 1)) (tSeq (tFor (iList K (tVar 0)) (gName 2) (tdCell K)) (tSeq (tAsg (tk 1) (gName 6)) (tSeq (tdIf K) (tSeq (tFor (iRng1 (tCons (tk 900) tNil)) (gName 5) (tdSeed K)) (tRet (tLstRev K (tVar 1)))))))
/-- an expression that is worth the int z -/
def EI (te : TE) (σ : L2.St) (H : Hp) (z : Int) : Prop := ∀ Q : VK, Q (.int z) H → te σ H Q
section
variable {K : PySem.W.Frag} {H H0 : Hp} {σ : L2.St} {ta tb te : TE} {x y z : Int} {a p : Addr}
theorem ei_var {i : Nat} (h : σ[i]? = some (some (.int z))) : EI (tVar i) σ H z := fun Q q => ⟨_, h, q⟩
theorem ei_k : EI (tk z) σ H z := fun Q q => q
theorem ei_add (h1 : EI ta σ H x) (h2 : EI tb σ H y) : EI (tOp rdAdd ta tb) σ H (x + y) := fun Q q => h1 _ (h2 _ ⟨_, _, rfl, rfl, q⟩)
theorem ei_mul (h1 : EI ta σ H x) (h2 : EI tb σ H y) (hc : CMul x y) : EI (tOp rdMul ta tb) σ H (x * y) := fun Q q => h1 _ (h2 _ ⟨_, _, rfl, rfl, hc, q⟩)
theorem ei_mod (h1 : EI ta σ H x) (h2 : EI tb σ H y) (hc : 0 < y) : EI (tOp rdMod ta tb) σ H (x % y) := fun Q q => h1 _ (h2 _ ⟨_, _, rfl, rfl, hc, q⟩)
theorem ei_div (h1 : EI ta σ H x) (h2 : EI tb σ H y) (hc : CDiv x y) : EI (tOp rdDiv ta tb) σ H (x / y) := fun Q q => h1 _ (h2 _ ⟨_, _, rfl, rfl, hc, q⟩)
theorem ei_pow (h1 : EI ta σ H x) (h2 : EI tb σ H y) (hc : CPow x y) : EI (tOp rdPow ta tb) σ H (x ^ y.toNat) := fun Q q => h1 _ (h2 _ ⟨_, _, rfl, rfl, hc, q⟩)
theorem ei_int (h1 : EI ta σ H x) : EI (tdInt ta) σ H x := fun Q q => h1 _ (.inl ⟨_, rfl, q⟩)
theorem ei_abs (h1 : EI ta σ H x) : EI (tdAbs ta) σ H (if x < 0 then -x else x) := fun Q q => h1 _ ⟨_, rfl, q⟩
theorem ts_lt (h1 : EI ta σ H x) (h2 : EI tb σ H y) {Q : Bool → Hp → Prop} (q : Q (decide (x < y)) H) : tTest (tOp rdLt ta tb) σ H Q := h1 _ (h2 _ ⟨_, _, rfl, rfl, _, rfl, q⟩)
theorem ts_gt (h1 : EI ta σ H x) (h2 : EI tb σ H y) {Q : Bool → Hp → Prop} (q : Q (decide (y < x)) H) : tTest (tOp rdGt ta tb) σ H Q := h1 _ (h2 _ ⟨_, _, rfl, rfl, _, rfl, q⟩)
/-- the list at p holds L -/
abbrev Hd (H0 : Hp) (p : Addr) (L : List Int) : Hp := upd H0 p (.lst (L.map V.int))
theorem td_app {D : Ends} {L : List Int} (h1 : σ[1]? = some (some (.ref p))) (hl : L.length < 65000) (he : EI te σ (Hd H0 p L) z) (q : D.nx σ (Hd H0 p (L ++ [z]))) : tdApp K te D σ (Hd H0 p L) := by
  refine ⟨_, h1, .inl ⟨rfl, _, SqL.of upd_same⟩, he _ ⟨p, _, .int z, rfl, rfl, upd_same, by rw [List.length_map, sizeLine_eq]; omega, ?_⟩⟩
  have e : upd (Hd H0 p L) p (.lst (L.map V.int ++ [V.int z])) = Hd H0 p (L ++ [z]) := by
    show upd (upd H0 p _) p _ = upd H0 p _
    rw [upd_upd, List.map_append]
    rfl
  rw [e]
  exact q
theorem td_set {D : Ends} {i : Nat} (he : EI te σ H z) (q : D.nx (σ.set i (some (.int z))) H) : tAsg te (gName i) D σ H := he _ q
/-- where the def stands -/
def DI (a p : Addr) (H0 : Hp) (n : Nat) (σ : L2.St) (H : Hp) : Prop := ∃ c m f k s L, σ = [some (.ref a), some (.ref p), c, some (.int m), f, k, s] ∧ H = Hd H0 p L ∧ L.length ≤ n
/-- .. when the seed is an int -/
def DS (a p : Addr) (H0 : Hp) (n : Nat) (σ : L2.St) (H : Hp) : Prop := ∃ c m f k s L, σ = [some (.ref a), some (.ref p), c, m, f, k, some (.int s)] ∧ H = Hd H0 p L ∧ L.length ≤ n
theorem td_in1 {n : Nat} {D : Ends} (hn : n + 2 < 65000) (h : DI a p H0 n σ H) (q : ∀ σ' H', DI a p H0 (n + 2) σ' H' → D.nx σ' H') : tdIn1 K D σ H := by
  obtain ⟨c, m, f, k, s, L, rfl, rfl, hl⟩ := h
  refine td_set (ei_mod (ei_int (ei_add (ei_mul (ei_var rfl) ei_k (.inr (by decide))) ei_k)) ei_k (by decide)) ?_
  refine td_app rfl (by omega) (ei_mod (ei_int (ei_add (ei_mul (ei_var rfl) ei_k (.inr (by decide))) (ei_var rfl))) ei_k (by decide)) ?_
  refine td_app rfl (by rw [List.length_append]; simp; omega) (ei_mod (ei_int (ei_add (ei_var rfl) (ei_div (ei_var rfl) ei_k ⟨by decide, by decide⟩))) ei_k (by decide)) ?_
  refine td_set ei_k (q _ _ ⟨_, _, _, _, _, _, rfl, rfl, by simp; omega⟩)
theorem td_in2 {n : Nat} {D : Ends} (hn : n + 1 < 65000) (h : DI a p H0 n σ H) (q : ∀ σ' H', DI a p H0 (n + 1) σ' H' → D.nx σ' H') : tdIn2 K D σ H := by
  obtain ⟨c, m, f, k, s, L, rfl, rfl, hl⟩ := h
  refine ts_gt (ei_var rfl) ei_k ?_
  by_cases hm : (0 : Int) < m
  · rw [if_pos (decide_eq_true hm)]
    refine td_app rfl (by omega) (ei_mod (ei_int (ei_var rfl)) ei_k (by decide)) ?_
    exact td_set (ei_div (ei_var rfl) ei_k ⟨by decide, by decide⟩) (q _ _ ⟨_, _, _, _, _, _, rfl, rfl, by simp; omega⟩)
  · rw [if_neg (by simpa using hm)]
    exact q _ _ ⟨_, _, _, _, _, _, rfl, rfl, by omega⟩
theorem td_cell {n : Nat} {D : Ends} {ci : Int} (hn : n + 62 < 65000) (hc : σ[2]? = some (some (.int ci))) (h : ∃ c m f k s L, σ = [some (.ref a), some (.ref p), c, m, f, k, s] ∧ H = Hd H0 p L ∧ L.length ≤ n) (q : ∀ σ' H', DI a p H0 (n + 62) σ' H' → D.nx σ' H') : tdCell K D σ H := by
  obtain ⟨c, m, f, k, s, L, rfl, rfl, hl⟩ := h
  have loop : ∀ σ' H', DI a p H0 (n + 2) σ' H' → tFor (iRng1 (tCons (tk 60) tNil)) (gName 5) (tdIn2 K) D σ' H' := fun σ' H' h' => by
    refine ⟨60, rfl, by decide, by decide, ?_⟩
    refine for_range (lo := 0) (n := 60) (fun i σ H => DI a p H0 (n + 2 + i) σ H) h' (fun i σ1 H1 hi h1 => ?_) fun σ1 H1 h1 => q _ _ ?_
    · obtain ⟨c, m, f, k, s, L, rfl, rfl, hl⟩ := h1
      refine td_in2 (n := n + 2 + i) (p := p) (H0 := H0) (a := a) (by omega) ⟨c, m, f, _, s, L, rfl, rfl, hl⟩ fun σ2 H2 h2 => h2
    · obtain ⟨c, m, f, k, s, L, e1, e2, hl⟩ := h1
      exact ⟨c, m, f, k, s, L, e1, e2, by omega⟩
  refine td_set (ei_abs (ei_var hc)) ?_
  refine ts_lt (ei_var rfl) (ei_pow ei_k ei_k ⟨by decide, by decide, by decide⟩) ?_
  generalize (if ci < 0 then -ci else ci) = z
  split
  · exact td_in1 (D := { D with nx := tFor (iRng1 (tCons (tk 60) tNil)) (gName 5) (tdIn2 K) D }) (n := n) (p := p) (H0 := H0) (a := a) (by omega) ⟨_, _, _, _, _, _, rfl, rfl, hl⟩ loop
  · exact loop _ _ ⟨_, _, _, _, _, L, rfl, rfl, by omega⟩
theorem td_seed {n : Nat} {D : Ends} (hn : n + 1 < 65000) (h : DS a p H0 n σ H) (q : ∀ σ' H', DS a p H0 (n + 1) σ' H' → D.nx σ' H') : tdSeed K D σ H := by
  obtain ⟨c, m, f, k, s, L, rfl, rfl, hl⟩ := h
  refine td_set (ei_mod (ei_int (ei_add (ei_mul (ei_var rfl) ei_k (.inr (by decide))) ei_k)) ei_k (by decide)) ?_
  refine td_app rfl (by omega) (ei_div (ei_var rfl) ei_k ⟨by decide, by decide⟩) (q _ _ ⟨_, _, _, _, _, _, rfl, rfl, by simp; omega⟩)
theorem sqL_upd {o : HO} {xs : List V} (hp : H0 p = none) (h : SqL K H0 a xs) : SqL K (upd H0 p o) a xs := by
  rcases h with (h | ⟨u, h⟩) | h
  · exact .inl (.inl (by rw [upd_ne (ne_of_none h hp)]; exact h))
  · exact .inl (.inr ⟨u, by rw [upd_ne (ne_of_none h hp)]; exact h⟩)
  · exact .inr h
theorem draws_ok {vs : List V} {Q : VK} {E : XK} (h : spDraws K vs H Q E) : tDraws K { nx := fun _ H' => Q .non H', rt := Q } (L2.start [("script" : Str), "draws", "cell", "number", "first", "k", "seed"] vs) H := by
  obtain ⟨a, ns, rfl, hsq, hz, hbits, q⟩ := h
  refine ⟨Nat.zero_le _, fun p hp => ?_⟩
  have hd : ∀ L, SqL K (Hd H p L) a (ns.map V.int) := fun L => sqL_upd hp hsq
  show tSeq _ _ _ [some (.ref a), some (.ref p), none, none, none, none, none] (Hd H p [])
  refine ⟨.ref a, rfl, a, rfl, ⟨_, hd []⟩, ?_⟩
  refine for_list (K := K) (a := a) (xs := ns.map V.int) (fun i σ H' => ∃ c m f k s L, σ = [some (.ref a), some (.ref p), c, m, f, k, s] ∧ H' = Hd H p L ∧ L.length ≤ i * 62) ⟨_, _, _, _, _, [], rfl, rfl, Nat.zero_le _⟩ (fun i σ H' _ h' => ?_) (fun i x σ1 H1 hx h' => ?_) (fun σ1 H1 h' => ?_)
  · obtain ⟨c, m, f, k, s, L, _, rfl, _⟩ := h'
    exact hd L
  · obtain ⟨c, m, f, k, s, L, rfl, rfl, hl⟩ := h'
    rw [List.getElem?_map] at hx
    cases hn : ns[i]? with
    | none => rw [hn] at hx; cases hx
    | some z =>
      rw [hn] at hx
      cases hx
      have hi : i < ns.length := (List.getElem?_eq_some_iff.mp hn).1
      refine td_cell (n := i * 62) (p := p) (H0 := H) (a := a) (ci := z) (by omega) rfl ⟨_, m, f, k, s, L, rfl, rfl, hl⟩ fun σ2 H2 h2 => ?_
      obtain ⟨c, m, f, k, s, L, e1, e2, hl⟩ := h2
      exact ⟨c, _, f, k, s, L, e1, e2, by omega⟩
  · obtain ⟨c, m, f, k, s, L, rfl, rfl, hl⟩ := h'
    rw [List.length_map] at hl
    have rest : ∀ s, tSeq (tFor (iRng1 (tCons (tk 900) tNil)) (gName 5) (tdSeed K)) (tRet (tLstRev K (tVar 1))) { nx := fun _ H' => Q .non H', rt := Q } [some (.ref a), some (.ref p), c, m, f, k, some (.int s)] (Hd H p L) := fun s => by
      refine ⟨900, rfl, by decide, by decide, ?_⟩
      refine for_range (lo := 0) (n := 900) (fun i σ H' => DS a p H (4000 + i) σ H') ⟨_, _, _, _, _, L, rfl, rfl, by omega⟩ (fun i σ1 H1 hi h1 => ?_) fun σ1 H1 h1 => ?_
      · obtain ⟨c, m, f, k, s, L, rfl, rfl, hl⟩ := h1
        exact td_seed (n := 4000 + i) (p := p) (H0 := H) (a := a) (by omega) ⟨c, m, f, _, s, L, rfl, rfl, hl⟩ fun σ2 H2 h2 => h2
      · obtain ⟨c, m, f, k, s, L, rfl, rfl, hl⟩ := h1
        refine ⟨.ref p, rfl, p, _, rfl, SqL.of upd_same, fun r hr => ?_⟩
        have e : (L.map V.int).reverse = L.reverse.map V.int := by rw [List.map_reverse]
        rw [e]
        refine q L.reverse (Hd H p L) r (by rw [List.length_reverse]; omega) (fun b o e => ?_) hr
        show upd H p _ b = some o
        rw [upd_ne (ne_of_none e hp)]; exact e
    show tSeq (tAsg (tk 1) (gName 6)) (tSeq (tdIf K) (tSeq (tFor (iRng1 (tCons (tk 900) tNil)) (gName 5) (tdSeed K)) (tRet (tLstRev K (tVar 1))))) { nx := fun _ H' => Q .non H', rt := Q } [some (.ref a), some (.ref p), c, m, f, k, s] (Hd H p L)
    refine td_set ei_k ?_
    refine ⟨.ref a, rfl, _, _, rfl, .inl ⟨_, hd L, rfl⟩, ?_⟩
    refine ⟨_, _, rfl, rfl, _, rfl, ?_⟩
    by_cases h0 : (0 : Int) < (((ns.map V.int).length : Nat) : Int)
    · rw [decide_eq_true h0]
      rw [List.length_map] at h0
      have h0' : 0 < ns.length := by omega
      show tAsg (tOp rdAdd (tk 1) (tdAbs (tOp (rIx K) (tVar 0) (tk 0)))) (gName 6) _ _ _
      have he : EI (tOp (rIx K) (tVar 0) (tk 0)) [some (.ref a), some (.ref p), c, m, f, k, some (.int 1)] (Hd H p L) ns[0] := fun Q q => by
        refine ⟨.ref a, rfl, .inl ⟨a, _, 0, .int ns[0], rfl, rfl, hd L, ?_, q⟩⟩
        unfold L2.atI L2.ixN
        rw [if_pos (Int.le_refl 0), if_pos (by rw [List.length_map]; omega)]
        simp [h0']
      exact td_set (ei_add ei_k (ei_abs he)) (rest _)
    · rw [decide_eq_false h0]
      exact rest 1
end
end L3

set_option Elab.async false
set_option linter.all false
set_option maxRecDepth 100000
set_option maxHeartbeats 1000000
namespace L3
open PySem PySem.Spec PyProof.Rows L2
/-! ### what a law's text leans on -/
structure Df (G : GC) (mg : Str → Option Value) (x : Str) (st : Stmt) (ps : List Str) (fd : FuncData) : Prop where
  dn : Dn G.K x st fd
  bd : Binds G.K fd ps []
  gl : mg x = some (.ref (He.fAd G.K (x, none)))
  kp : PySem.W.keepIn G.K (.ref (He.fAd G.K (x, none))) = true
def Ok1 (P : Program) (w : World) (G : GC) (mg : Str → Option Value) (base : Heap) (k : Nat) (x : Str) (st : Stmt) (ps : List Str) (n : Nat) (m : List Sl → Res RV) : Prop :=
  ∃ fd, Df G mg x st ps fd ∧ FnOk P w G.K mg base (L2N.CX P w) k (He.fAd G.K (x, none)) fd ps (FSp n G m)
def TbC (G : GC) (mg : Str → Option Value) (base : Heap) (x : Str) : Prop := (He.cT G.K (x, none)).2 ∈ G.T ∧ GxR.TabB base mg (He.codeOf G.K (x, none)) (He.cT G.K (x, none)).2
theorem u65 {k : Nat} {A : Around} (r : Room k A) : A.units + 65 < cLine := by have := r.un; omega
section
variable {ι : Type} {X : ι → Cx} {G : GC} {W : WX} {pos : Pos} {e : Expr} {es : List Expr}
theorem rx_callD {P : Program} {w : World} {mg : Str → Option Value} {base : Heap} {k k' : Nat} {N : List Str} {st : Stmt} {ps : List Str} {m : List Sl → Res RV} {cs : List CA} {x : Str} {p : Pos}
    (c : Cxs P w G mg base k N W X) (o : Ok1 P w G mg base k' x st ps cs.length m) (hk : k' ≤ k) (ok : caOk cs) (hg : ∀ i, Gl (X i) x)
    (ha : AX X G W (e :: es) (cs.map CA.opd)) (he : ∀ i, starEach (e :: es) (X i).env = (false, eval e (X i).env) :: starEach es (X i).env) (hpl : ∀ i, (backTo pos (starEach es (X i).env)).any (·.1) = false) (hdb : (x == ("__debug__" : Str)) = false := by decide) :
    RX X G W (.Call (.Name x p) (e :: es) [] pos) (callF m cs) := by
  obtain ⟨fd, D, F⟩ := o
  exact rx_call c F hk ok hg D.gl D.kp D.bd ha hdb he hpl
theorem rx_gint {P : Program} {w : World} {mg : Str → Option Value} {base : Heap} {k : Nat} {N : List Str} {z : Int} {x : Str} (c : Cxs P w G mg base k N W X) (hg : ∀ i, Gl (X i) x) (hm : ∃ t, mg x = some (.int z t)) (hd : (x == ("__debug__" : Str)) = false := by decide) : RX X G W (.Name x pos) (kst (.int z)) := by
  obtain ⟨t, hm⟩ := hm
  exact rx_glob hg (fun i => by rw [c.mg i]; exact hm) (v := .int z) ⟨t, rfl⟩ (fun _ => .int z) hd
end
end L3

set_option Elab.async false
set_option linter.all false
set_option maxRecDepth 100000
set_option maxHeartbeats 1000000
namespace L3
open PySem PySem.Spec PyProof.Rows L2
/-! ### mirrors, run by simp -/
@[simp] theorem bind_ok {α β : Type} {a : α} {ρ : En} {g : α → P β} : (Res.ok a ρ).bind g = g a ρ := (rfl)
@[simp] theorem bind_err {α β : Type} {k : Nat} {ρ : En} {g : α → P β} : (Res.err k ρ : Res α).bind g = .err k ρ := (rfl)
@[simp] theorem bind_no {α β : Type} {g : α → P β} : (Res.no : Res α).bind g = .no := (rfl)
@[simp] theorem post_ok {α : Type} {a : α} {ρ : En} {A : α → En → Prop} {B : Nat → En → Prop} : (Res.ok a ρ).post A B = A a ρ := (rfl)
theorem bind_assoc {α β γ : Type} {r : Res α} {g : α → P β} {h : β → P γ} : (r.bind g).bind h = r.bind fun a ρ => (g a ρ).bind h := by cases r <;> rfl
theorem post_bind' {α β : Type} {r : Res α} {g : α → P β} {A : β → En → Prop} {B : Nat → En → Prop} : (r.bind g).post A B = r.post (fun a ρ => (g a ρ).post A B) B := by cases r <;> rfl
theorem bind_congr {α β : Type} {r r' : Res α} {g : α → P β} (h : r = r') : r.bind g = r'.bind g := by rw [h]
theorem post_congr {α : Type} {r r' : Res α} {A : α → En → Prop} {B : Nat → En → Prop} (h : r = r') : r.post A B = r'.post A B := by rw [h]
@[simp] theorem seq_ap {α β : Type} {f : P α} {g : α → P β} {ρ : En} : seq f g ρ = (f ρ).bind g := (rfl)
@[simp] theorem ret_ap {α : Type} {a : α} {ρ : En} : ret a ρ = .ok a ρ := (rfl)
@[simp] theorem opt_some {α : Type} {a : α} {ρ : En} : opt (some a) ρ = .ok a ρ := (rfl)
@[simp] theorem thenS_ap {f g : P Fl} {ρ : En} : thenS f g ρ = (f ρ).bind fun fl => match fl with | .nx => g | fl => ret fl := (rfl)
@[simp] theorem ifP_ap {α : Type} {c : P Bool} {f g : P α} {ρ : En} : ifP c f g ρ = (c ρ).bind fun b => if b = true then f else g := (rfl)
@[simp] theorem args_ap {β : Type} {qs : List Opd} {h : List D → P β} {ρ : En} : args qs h ρ = (runs qs ρ).bind fun xs => seq (gets qs xs) h := (rfl)
@[simp] theorem runs_nil {ρ : En} : runs [] ρ = .ok [] ρ := (rfl)
@[simp] theorem runs_cons {q : Opd} {qs : List Opd} {ρ : En} : runs (q :: qs) ρ = (q.run ρ).bind fun x => seq (runs qs) fun xs => ret (x :: xs) := (rfl)
@[simp] theorem gets_nil {ρ : En} : gets [] [] ρ = .ok [] ρ := (rfl)
@[simp] theorem gets_cons {q : Opd} {qs : List Opd} {x : Option D} {xs : List (Option D)} {ρ : En} : gets (q :: qs) (x :: xs) ρ = (q.get x ρ).bind fun d => seq (gets qs xs) fun ds => ret (d :: ds) := (rfl)
@[simp] theorem run_ex {f : P RV} {ρ : En} : (Opd.ex f).run ρ = (f ρ).bind fun rv => ret (some rv.toD) := (rfl)
@[simp] theorem run_sl {i : Nat} {ρ : En} : (Opd.sl i).run ρ = match look ρ i with | some _ => .ok none ρ | none => .no := (rfl)
@[simp] theorem get_ex {f : P RV} {d : D} {ρ : En} : (Opd.ex f).get (some d) ρ = .ok d ρ := (rfl)
@[simp] theorem get_sl {i : Nat} {x : Option D} {ρ : En} : (Opd.sl i).get x ρ = match look ρ i with | some d => .ok d ρ | none => .no := by cases x <;> rfl
@[simp] theorem kst_ap {d : D} {ρ : En} : kst d ρ = .ok (.val d) ρ := (rfl)
@[simp] theorem put_ap {i : Nat} {rv : RV} {ρ : En} : put i rv ρ = .ok .nx (ρ.set i rv.sl) := (rfl)
@[simp] theorem f1_ap {g : D → Option RV} {x : D} {ρ : En} : f1 g [x] ρ = opt (g x) ρ := (rfl)
@[simp] theorem f2_ap {g : D → D → Option RV} {x y : D} {ρ : En} : f2 g [x, y] ρ = opt (g x y) ρ := (rfl)
@[simp] theorem mkL_ap {ds : List D} {ρ : En} : mkL ds ρ = .ok (.own (.lst ds)) ρ := (rfl)
@[simp] theorem mkT_ap {ds : List D} {ρ : En} : mkT ds ρ = .ok (.val (.tuple ds)) ρ := (rfl)
@[simp] theorem toB_ap {b : Bool} {ρ : En} : toB (.val (.bool b)) ρ = .ok b ρ := (rfl)
@[simp] theorem truO_ap {b : Bool} {ρ : En} : truO [.bool b] ρ = .ok b ρ := (rfl)
@[simp] theorem isiF_ap {T : Bt} {d : D} {ρ : En} : isiF T [d] ρ = .ok (.val (.bool (isT T d))) ρ := (rfl)
@[simp] theorem toD_val {d : D} : (RV.val d).toD = d := (rfl)
@[simp] theorem toD_own {o : Ob} : (RV.own o).toD = o.toD := (rfl)
@[simp] theorem toD_lst {ds : List D} : (Ob.lst ds).toD = .list ds := (rfl)
@[simp] theorem sl_val {d : D} : (RV.val d).sl = .sh d := (rfl)
@[simp] theorem sl_own {o : Ob} : (RV.own o).sl = .ow o := (rfl)
@[simp] theorem look_0 {s : Sl} {ρ : En} : look (s :: ρ) 0 = s.cont := (rfl)
@[simp] theorem look_s {s : Sl} {ρ : En} {i : Nat} : look (s :: ρ) (i + 1) = look ρ i := (rfl)
@[simp] theorem cont_sh {d : D} : (Sl.sh d).cont = some d := (rfl)
@[simp] theorem cont_ow {o : Ob} : (Sl.ow o).cont = some o.toD := (rfl)
@[simp] theorem cont_bo {j : Nat} {o : Ob} : (Sl.bo j o).cont = some o.toD := (rfl)
@[simp] theorem andP_ap {f g : P Bool} {ρ : En} : andP f g ρ = (f ρ).bind fun c => if c = true then g else ret false := (rfl)
@[simp] theorem orP_ap {f g : P Bool} {ρ : En} : orP f g ρ = (f ρ).bind fun c => if c = true then ret true else g := (rfl)
@[simp] theorem notP_ap {f : P Bool} {ρ : En} : notP f ρ = (f ρ).bind fun c => ret (!c) := (rfl)
@[simp] theorem andV_ap {f g : P RV} {ρ : En} : andV f g ρ = (f ρ).bind fun rv => seq (toB rv) fun b => if b = true then g else ret (.val (.bool false)) := (rfl)
@[simp] theorem orV_ap {f g : P RV} {ρ : En} : orV f g ρ = (f ρ).bind fun rv => seq (toB rv) fun b => if b = true then ret (.val (.bool true)) else g := (rfl)
@[simp] theorem notV_ap {f : P RV} {ρ : En} : notV f ρ = (f ρ).bind fun rv => seq (toB rv) fun b => ret (.val (.bool (!b))) := (rfl)
@[simp] theorem forF_ap {src : P Sr} {tg : Tg} {b : P Fl} {ρ : En} : forF src tg b ρ = (src ρ).bind fun sr => match sr with | .ls ds => forL tg b ds | .sl _ => fail := (rfl)
@[simp] theorem walkR1_ap {x : D} {ρ : En} : walkR1 [x] ρ = (opt (rng1 x) ρ).bind fun ds => ret (.ls ds) := (rfl)
@[simp] theorem walkR2_ap {x y : D} {ρ : En} : walkR2 [x, y] ρ = (opt (rng2 x y) ρ).bind fun ds => ret (.ls ds) := (rfl)
@[simp] theorem walk_ap {f : P RV} {ρ : En} : walk f ρ = (f ρ).bind fun rv => seq (opt (seqD rv.toD)) fun ds => ret (.ls ds) := (rfl)
theorem lcF_ap {vs : List Nat} {src : P Sr} {tg : Tg} {tt : P Bool} {te : P RV} {ρ : En} : lcF vs src tg tt te ρ = (src ρ).bind fun sr ρ1 => (compX vs tg tt te sr (wipeE ρ1 vs)).bind fun ds ρ2 => .ok (.own (.lst ds)) (backE ρ1 ρ2 vs) := rfl
theorem compX_ls {vs : List Nat} {tg : Tg} {tt : P Bool} {te : P RV} {ds : List D} : compX vs tg tt te (.ls ds) = compL vs tg tt te ds [] := rfl
theorem lcF_ls {vs : List Nat} {src : P Sr} {tg : Tg} {tt : P Bool} {te : P RV} {ρ ρ1 ρ2 ρ3 ρ4 : En} {ds out : List D} (hs : src ρ = .ok (.ls ds) ρ1) (hw : wipeE ρ1 vs = ρ2) (hc : compL vs tg tt te ds [] ρ2 = .ok out ρ3) (hb : backE ρ1 ρ3 vs = ρ4) : lcF vs src tg tt te ρ = .ok (.own (.lst out)) ρ4 := by
  rw [lcF_ap, hs]
  show (compX vs tg tt te (.ls ds) (wipeE ρ1 vs)).bind _ = _
  rw [hw, compX_ls, hc, ← hb]
  rfl
theorem lcF_sl {vs : List Nat} {src : P Sr} {tg : Tg} {tt : P Bool} {te : P RV} {ρ ρ1 ρ2 ρ3 ρ4 : En} {j : Nat} {out : List D} (hs : src ρ = .ok (.sl j) ρ1) (hw : wipeE ρ1 vs = ρ2) (hc : compX vs tg tt te (.sl j) ρ2 = .ok out ρ3) (hb : backE ρ1 ρ3 vs = ρ4) : lcF vs src tg tt te ρ = .ok (.own (.lst out)) ρ4 := by
  rw [lcF_ap, hs]
  show (compX vs tg tt te (.sl j) (wipeE ρ1 vs)).bind _ = _
  rw [hw, hc, ← hb]
  rfl
@[simp] theorem parF_ap {is : List Nat} {fs : List (P RV)} {ρ : En} : parF is fs ρ = (parR fs ρ).bind fun rvs ρ => .ok .nx (putsL is rvs ρ) := (rfl)
@[simp] theorem parR_nil {ρ : En} : parR [] ρ = .ok [] ρ := (rfl)
@[simp] theorem parR_cons {f : P RV} {fs : List (P RV)} {ρ : En} : parR (f :: fs) ρ = (f ρ).bind fun rv => seq (parR fs) fun rvs => ret (rv :: rvs) := (rfl)
@[simp] theorem putsL_cons {i : Nat} {is : List Nat} {rv : RV} {rvs : List RV} {ρ : En} : putsL (i :: is) (rv :: rvs) ρ = putsL is rvs (ρ.set i rv.sl) := (rfl)
@[simp] theorem putsL_nil {rvs : List RV} {ρ : En} : putsL [] rvs ρ = ρ := by cases rvs <;> rfl
@[simp] theorem putG_ap {i : Nat} {d : D} {ρ : En} : putG i d ρ = some (ρ.set i (.sh d)) := (rfl)
@[simp] theorem ord_ap {p : Int → Int → Bool} {i j : Int} : ordD p (.int i) (.int j) = some (.val (.bool (p i j))) := (rfl)
@[simp] theorem add_ii {i j : Int} : addD (.int i) (.int j) = some (.val (.int (i + j))) := (rfl)
@[simp] theorem sub_ii {i j : Int} : subD (.int i) (.int j) = some (.val (.int (i - j))) := (rfl)
@[simp] theorem neg_i {i : Int} : negD (.int i) = some (.val (.int (-i))) := (rfl)
@[simp] theorem len_l {ds : List D} : lenD (.list ds) = some (.val (.int ds.length)) := (rfl)
@[simp] theorem len_t {ds : List D} : lenD (.tuple ds) = some (.val (.int ds.length)) := (rfl)
@[simp] theorem int_i {i : Int} : intD (.int i) = some (.val (.int i)) := (rfl)
@[simp] theorem int_b {b : Bool} : intD (.bool b) = some (.val (.int (if b then 1 else 0))) := (rfl)
@[simp] theorem tup_l {ds : List D} : tupD (.list ds) = some (.val (.tuple ds)) := (rfl)
@[simp] theorem tup_t {ds : List D} : tupD (.tuple ds) = some (.val (.tuple ds)) := (rfl)
@[simp] theorem ix_l {ds : List D} {i : Int} : ixD (.list ds) (.int i) = (L2.atI ds i).map .val := (rfl)
@[simp] theorem ix_t {ds : List D} {i : Int} : ixD (.tuple ds) (.int i) = (L2.atI ds i).map .val := (rfl)
@[simp] theorem seqD_l {ds : List D} : seqD (.list ds) = some ds := (rfl)
@[simp] theorem seqD_t {ds : List D} : seqD (.tuple ds) = some ds := (rfl)
theorem eq_ok {x y : D} (hx : okE x = true) (hy : okE y = true) : eqD x y = some (.val (.bool (PyData.eqv x y))) := by unfold eqD; rw [hx, hy]; rfl
theorem ne_ok {x y : D} (hx : okE x = true) (hy : okE y = true) : neD x y = some (.val (.bool (!PyData.eqv x y))) := by unfold neD; rw [hx, hy]; rfl
@[simp] theorem eq_ii {i j : Int} : eqD (.int i) (.int j) = some (.val (.bool (i == j))) := by rw [eq_ok rfl rfl]; simp only [PyData.eqv]
@[simp] theorem ne_ii {i j : Int} : neD (.int i) (.int j) = some (.val (.bool (!(i == j)))) := by rw [ne_ok rfl rfl]; simp only [PyData.eqv]
@[simp] theorem eq_bb {i j : Bool} : eqD (.bool i) (.bool j) = some (.val (.bool (i == j))) := by rw [eq_ok rfl rfl]; simp only [PyData.eqv]
@[simp] theorem ne_bb {i j : Bool} : neD (.bool i) (.bool j) = some (.val (.bool (!(i == j)))) := by rw [ne_ok rfl rfl]; simp only [PyData.eqv]
@[simp] theorem is_n {x : D} : isD x .none = some (.val (.bool (nonD x))) := by cases x <;> rfl
@[simp] theorem not_n {x : D} : notD x .none = some (.val (.bool (!nonD x))) := by cases x <;> rfl
@[simp] theorem is_bb {i j : Bool} : isD (.bool i) (.bool j) = some (.val (.bool (i == j))) := (rfl)
@[simp] theorem not_bb {i j : Bool} : notD (.bool i) (.bool j) = some (.val (.bool (!(i == j)))) := (rfl)
theorem eqvAll_nil {ds : List D} : PyData.eqvAll ds [] = ds.isEmpty := by cases ds <;> simp [PyData.eqvAll]
theorem okE_list {ds : List D} (h : ds.all (okD 15) = true) : okE (.list ds) = true := h
theorem eq_nil {ds : List D} (h : ds.all (okD 15) = true) : eqD (.list ds) (.list []) = some (.val (.bool ds.isEmpty)) := by rw [eq_ok (okE_list h) rfl]; simp only [PyData.eqv, eqvAll_nil]
theorem ne_nil {ds : List D} (h : ds.all (okD 15) = true) : neD (.list ds) (.list []) = some (.val (.bool (!ds.isEmpty))) := by rw [ne_ok (okE_list h) rfl]; simp only [PyData.eqv, eqvAll_nil]
theorem okD_ints {k : Nat} : ∀ {is : List Int}, (is.map PyData.int).all (okD k) = true
  | [] => rfl
  | i :: is => by rw [List.map_cons, List.all_cons, okD_ints (is := is)]; cases k <;> rfl
theorem okD_bools {k : Nat} : ∀ {is : List Bool}, (is.map PyData.bool).all (okD k) = true
  | [] => rfl
  | i :: is => by rw [List.map_cons, List.all_cons, okD_bools (is := is)]; cases k <;> rfl
theorem atI_nat {α : Type} {xs : List α} {n : Nat} (h : n < xs.length) : L2.atI xs (n : Int) = xs[n]? := by
  unfold L2.atI L2.ixN
  rw [if_pos (by omega), if_pos (by omega)]
  simp
theorem atI_last {α : Type} {xs : List α} (h : 0 < xs.length) : L2.atI xs (-1) = xs[xs.length - 1]? := by
  unfold L2.atI L2.ixN
  rw [if_neg (by decide), if_pos (by omega)]
  have e : (-1 + (xs.length : Int)).toNat = xs.length - 1 := by omega
  show xs[(-1 + (xs.length : Int)).toNat]? = _
  rw [e]
theorem rng1_nat {n : Nat} (h : n < 4611686018427387904) : rng1 (.int (n : Int)) = some (rngL 0 n) := by
  show (if (decide (-4611686018427387904 ≤ (n : Int)) && decide ((n : Int) < 4611686018427387904)) = true then some (rngL 0 (n : Int).toNat) else none) = _
  rw [if_pos (by simp; omega)]
  simp
theorem rngL_len {lo : Int} {n : Nat} : (rngL lo n).length = n := by simp [rngL]
theorem mem_rngL {lo : Int} {n : Nat} {d : D} (h : d ∈ rngL lo n) : ∃ i : Nat, i < n ∧ d = .int (lo + i) := by
  simp only [rngL, List.mem_map, List.mem_range] at h
  obtain ⟨i, hi, rfl⟩ := h
  exact ⟨i, hi, rfl⟩
/-- a comprehension that changes nothing -/
theorem compL_pure {vs : List Nat} {tg : Tg} {tt : P Bool} {te : P RV} {ρ : En} {p : D → Bool} {f : D → D} : ∀ (ds : List D) {acc : List D}, acc.length + ds.length ≤ line →
    (∀ d ∈ ds, ∃ ρ1, tg d ρ = some ρ1 ∧ ∃ ρ2, tt ρ1 = .ok (p d) ρ2 ∧ (p d = false → wipeE ρ2 vs = ρ) ∧ (p d = true → ∃ rv ρ3, te ρ2 = .ok rv ρ3 ∧ rv.toD = f d ∧ wipeE ρ3 vs = ρ)) →
    compL vs tg tt te ds acc ρ = .ok (acc ++ (ds.filter p).map f) ρ := by
  intro ds
  induction ds with
  | nil => intro acc _ _; simp [compL]
  | cons d ds ih =>
    intro acc hl h
    obtain ⟨ρ1, e1, ρ2, e2, hF, hT⟩ := h d List.mem_cons_self
    have hl' : acc.length + (ds.length + 1) ≤ line := by simpa using hl
    show compT vs tg tt te (compL vs tg tt te ds) d acc ρ = _
    unfold compT
    rw [e1]
    show ((noErr tt ρ1).bind _) = _
    have en : noErr tt ρ1 = .ok (p d) ρ2 := by unfold noErr; rw [e2]
    rw [en, bind_ok]
    cases hp : p d with
    | false =>
      rw [if_neg (by decide), hF hp, ih (by omega) fun d' hd' => h d' (List.mem_cons_of_mem _ hd'), List.filter_cons_of_neg (by simp [hp])]
    | true =>
      rw [if_pos rfl]
      obtain ⟨rv, ρ3, e3, er, ew⟩ := hT hp
      have en3 : noErr te ρ2 = .ok rv ρ3 := by unfold noErr; rw [e3]
      show ((noErr te ρ2).bind _) = _
      rw [en3, bind_ok, if_pos (by omega), ew, er, ih (by rw [List.length_append]; simp; omega) fun d' hd' => h d' (List.mem_cons_of_mem _ hd'), List.filter_cons_of_pos (by simp [hp])]
      simp
theorem compL_post {vs : List Nat} {tg : Tg} {tt : P Bool} {te : P RV} {I : List D → List D → En → Prop} {A : List D → En → Prop} {B : Nat → En → Prop} : ∀ (ds : List D) {acc : List D} {ρ : En}, I ds acc ρ →
    (∀ d ds acc ρ, I (d :: ds) acc ρ → ∃ ρ1, tg d ρ = some ρ1 ∧ (noErr tt ρ1).post (fun b ρ2 => (b = false → I ds acc (wipeE ρ2 vs)) ∧ (b = true → (noErr te ρ2).post (fun rv ρ3 => acc.length < line ∧ I ds (acc ++ [rv.toD]) (wipeE ρ3 vs)) fun _ _ => False)) fun _ _ => False) →
    (∀ acc ρ, I [] acc ρ → A acc ρ) → (compL vs tg tt te ds acc ρ).post A B := by
  intro ds
  induction ds with
  | nil => intro acc ρ h _ hA; exact hA acc ρ h
  | cons d ds ih =>
    intro acc ρ h hs hA
    obtain ⟨ρ1, e1, hp⟩ := hs d ds acc ρ h
    show (compT vs tg tt te (compL vs tg tt te ds) d acc ρ).post A B
    unfold compT
    rw [e1]
    show ((noErr tt ρ1).bind _).post A B
    rw [post_bind']
    refine Res.post_mono hp (fun b ρ2 hb => ?_) fun _ _ z => z.elim
    cases b with
    | false => exact ih (hb.1 rfl) hs hA
    | true =>
      show ((noErr te ρ2).bind _).post A B
      rw [post_bind']
      refine Res.post_mono (hb.2 rfl) (fun rv ρ3 hc => ?_) fun _ _ z => z.elim
      show (if acc.length < line then compL vs tg tt te ds (acc ++ [rv.toD]) (wipeE ρ3 vs) else Res.no).post A B
      rw [if_pos hc.1]
      exact ih hc.2 hs hA
/-- a loop by what holds at its head -/
theorem forL_post {tg : Tg} {b : P Fl} {I : List D → En → Prop} {A : Fl → En → Prop} {B : Nat → En → Prop} : ∀ (ds : List D) {ρ : En}, I ds ρ →
    (∀ d ds ρ, I (d :: ds) ρ → ∃ ρ1, tg d ρ = some ρ1 ∧ (b ρ1).post (fun fl ρ2 => match fl with | .nx => I ds ρ2 | .ct => I ds ρ2 | .bk => A .nx ρ2 | .rt rv => A (.rt rv) ρ2) B) →
    (∀ ρ, I [] ρ → A .nx ρ) → (forL tg b ds ρ).post A B := by
  intro ds
  induction ds with
  | nil => intro ρ h _ hA; exact hA ρ h
  | cons d ds ih =>
    intro ρ h hs hA
    obtain ⟨ρ1, e1, hp⟩ := hs d ds ρ h
    show (match tg d ρ with | some ρ' => turn (b ρ') (forL tg b ds) | none => .no : Res Fl).post A B
    rw [e1]
    show (turn (b ρ1) (forL tg b ds)).post A B
    cases hb : b ρ1 with
    | no => rw [hb] at hp; exact hp.elim
    | err k ρ2 => rw [hb] at hp; exact hp
    | ok fl ρ2 =>
      rw [hb] at hp
      cases fl with
      | nx => exact ih hp hs hA
      | ct => exact ih hp hs hA
      | bk => exact hp
      | rt rv => exact hp
/-! ### the common functions -/
theorem bodyF_rt {n N : Nat} {f : P Fl} {as as' : List Sl} {rv : RV} {ρ : En} (h : f (as ++ List.replicate (N - n) .un) = .ok (.rt rv) ρ) (g : finA as ρ = some as') : bodyF n N f as = .ok rv as' := by
  unfold bodyF
  rw [h]
  show (match finA as ρ with | some as' => (Res.ok rv as' : Res RV) | none => .no) = _
  rw [g]
theorem bodyF_nx {n N : Nat} {f : P Fl} {as as' : List Sl} {ρ : En} (h : f (as ++ List.replicate (N - n) .un) = .ok .nx ρ) (g : finA as ρ = some as') : bodyF n N f as = .ok (.val .none) as' := by
  unfold bodyF
  rw [h]
  show (match finA as ρ with | some as' => (Res.ok (.val .none) as' : Res RV) | none => .no) = _
  rw [g]
def takeF : P Fl := (thenS (ifP (seq (args [(.ex (args [(.sl 0)] (f1 lenD))), (.ex (kst (.int 0)))] (f2 (eqD))) toB) (seq (kst (.int 0)) fun rv => ret (.rt rv)) (ret .nx))
  (seq (args [(.ex (args [(.ex (mutF 0 [] popD))] (f1 intD))), (.sl 1)] (f2 modD)) fun rv => ret (.rt rv)))
def takeM : List Sl → Res RV := bodyF 2 2 takeF
abbrev dr (L : List Int) : Ob := .lst (L.map PyData.int)
theorem take_ok {L : List Int} {b : Int} {j : Nat} (hb : 0 < b) : ∃ (r : Int) (L' : List Int), 0 ≤ r ∧ r < b ∧ takeM [.bo j (dr L), .sh (.int b)] = .ok (.val (.int r)) [.bo j (dr L'), .un] := by
  cases hL : L.reverse with
  | nil =>
    have : L = [] := by simpa using hL
    subst this
    refine ⟨0, [], Int.le_refl _, hb, ?_⟩
    have h1 : takeF [.bo j (dr []), .sh (.int b)] = .ok (.rt (.val (.int 0))) [.bo j (dr []), .sh (.int b)] := by
      simp [takeF]
    exact bodyF_rt (n := 2) (N := 2) h1 (by simp [finA])
  | cons x xs =>
    have e : L = xs.reverse ++ [x] := by
      have := congrArg List.reverse hL
      simpa using this
    subst e
    refine ⟨x % b, xs.reverse, Int.emod_nonneg _ (by omega), Int.emod_lt_of_pos _ hb, ?_⟩
    have h1 : takeF [.bo j (dr (xs.reverse ++ [x])), .sh (.int b)] = .ok (.rt (.val (.int (x % b)))) [.bo j (dr xs.reverse), .sh (.int b)] := by
      have hp : popD ((xs.reverse ++ [x]).map PyData.int) [] = some (xs.reverse.map PyData.int, .int x) := by
        unfold popD
        simp
      have hm : modD (.int x) (.int b) = some (.val (.int (x % b))) := by
        show (if 0 < b then _ else _ : Option RV) = _
        rw [if_pos hb]
      have ht : mutF 0 [] popD [.bo j (dr (xs.reverse ++ [x])), .sh (.int b)] = .ok (.val (.int x)) [.bo j (dr xs.reverse), .sh (.int b)] := by
        show (match popD ((xs.reverse ++ [x]).map PyData.int) [] with | some (ds', d) => (Res.ok (RV.val d) _ : Res RV) | none => .no) = _
        rw [hp]
        rfl
      have hz : (((((xs.reverse ++ [x]).map PyData.int).length : Nat) : Int) == 0) = false := by simp; omega
      have hc : (seq (args [(.ex (args [(.sl 0)] (f1 lenD))), (.ex (kst (.int 0)))] (f2 (eqD))) toB) [.bo j (dr (xs.reverse ++ [x])), .sh (.int b)] = .ok false [.bo j (dr (xs.reverse ++ [x])), .sh (.int b)] := by
        show (opt (eqD (.int _) (.int 0)) _).bind toB = _
        rw [eq_ii, hz]
        rfl
      have h2 : (args [(.ex (args [(.ex (mutF 0 [] popD))] (f1 intD))), (.sl 1)] (f2 modD)) [.bo j (dr (xs.reverse ++ [x])), .sh (.int b)] = .ok (.val (.int (x % b))) [.bo j (dr xs.reverse), .sh (.int b)] := by
        simp [ht, hm]
      unfold takeF
      simp only [thenS_ap, ifP_ap, seq, hc, bind_ok]
      show (Res.bind (args _ _ _) _) = _
      rw [h2]
      rfl
    exact bodyF_rt (n := 2) (N := 2) h1 (by simp [finA])
/-- a draw, in a def that owns the draws -/
theorem take_ow {L : List Int} {b : Int} {i : Nat} {f : P RV} {ρ : En} (hi : ρ[i]? = some (.ow (dr L))) (hf : f ρ = .ok (.val (.int b)) ρ) (hb : 0 < b) : ∃ (r : Int) (L' : List Int), 0 ≤ r ∧ r < b ∧ callF takeM [.mu i, .ex f] ρ = .ok (.val (.int r)) (ρ.set i (.ow (dr L'))) := by
  obtain ⟨r, L', h0, h1, e⟩ := take_ok (L := L) (j := 0) hb
  refine ⟨r, L', h0, h1, ?_⟩
  have hl : look ρ i = some (.list (L.map PyData.int)) := by unfold look; rw [hi]; rfl
  have hr : runs ([CA.mu i, CA.ex f].map CA.opd) ρ = .ok [none, some (.int b)] ρ := by
    show (Res.bind _ _) = _
    simp [CA.opd, hl, hf]
  show (Res.bind (runs ([CA.mu i, CA.ex f].map CA.opd) ρ) _) = _
  rw [hr, bind_ok]
  have hg : gather ρ [CA.mu i, CA.ex f] [none, some (.int b)] 0 = some [.bo 0 (dr L), .sh (.int b)] := by
    unfold gather
    rw [hi]
    rfl
  have hlt : i < ρ.length := (List.getElem?_eq_some_iff.mp hi).1
  have hg0 : ρ[i] = .ow (dr L) := (List.getElem?_eq_some_iff.mp hi).2
  show (match gather ρ [CA.mu i, CA.ex f] [none, some (.int b)] 0 with | none => _ | some as => _ : Res RV) = _
  rw [hg]
  show (match takeM [.bo 0 (dr L), .sh (.int b)] with | .ok rv as' => _ | .err k as' => _ | .no => _ : Res RV) = _
  rw [e]
  show (if _ then _ else _ : Res RV) = _
  rw [if_pos (by rfl)]
  simp [upds, hi, Sl.put]
theorem take_bo {L : List Int} {b : Int} {i j : Nat} {f : P RV} {ρ : En} (hi : ρ[i]? = some (.bo j (dr L))) (hf : f ρ = .ok (.val (.int b)) ρ) (hb : 0 < b) : ∃ (r : Int) (L' : List Int), 0 ≤ r ∧ r < b ∧ callF takeM [.mu i, .ex f] ρ = .ok (.val (.int r)) (ρ.set i (.bo j (dr L'))) := by
  obtain ⟨r, L', h0, h1, e⟩ := take_ok (L := L) (j := 0) hb
  refine ⟨r, L', h0, h1, ?_⟩
  have hl : look ρ i = some (.list (L.map PyData.int)) := by unfold look; rw [hi]; rfl
  have hr : runs ([CA.mu i, CA.ex f].map CA.opd) ρ = .ok [none, some (.int b)] ρ := by
    show (Res.bind _ _) = _
    simp [CA.opd, hl, hf]
  show (Res.bind (runs ([CA.mu i, CA.ex f].map CA.opd) ρ) _) = _
  rw [hr, bind_ok]
  have hg : gather ρ [CA.mu i, CA.ex f] [none, some (.int b)] 0 = some [.bo 0 (dr L), .sh (.int b)] := by
    unfold gather
    rw [hi]
    rfl
  have hlt : i < ρ.length := (List.getElem?_eq_some_iff.mp hi).1
  show (match gather ρ [CA.mu i, CA.ex f] [none, some (.int b)] 0 with | none => _ | some as => _ : Res RV) = _
  rw [hg]
  show (match takeM [.bo 0 (dr L), .sh (.int b)] with | .ok rv as' => _ | .err k as' => _ | .no => _ : Res RV) = _
  rw [e]
  show (if _ then _ else _ : Res RV) = _
  rw [if_pos (by rfl)]
  simp [upds, hi, Sl.put]
end L3

set_option Elab.async false
set_option linter.all false
set_option maxRecDepth 100000
set_option maxHeartbeats 1000000
namespace L3
open PySem PySem.Spec PyProof.Rows L2
@[simp] theorem shr_sh0 {d : D} {ρ : En} : shr 0 (.sh d :: ρ) = .ok (.val d) (.sh d :: ρ) := (rfl)
theorem shr_at {i : Nat} {d : D} {ρ : En} (h : ρ[i]? = some (.sh d)) : shr i ρ = .ok (.val d) ρ := by unfold shr; rw [h]
theorem compG_pure {vs : List Nat} {tg : Tg} {tt : P Bool} {te : P RV} {ρ : En} {p : D → Bool} {f : D → D} {j : Nat} {ds : List D} (hj : look ρ j = some (.list ds))
    (h : ∀ d ∈ ds, ∃ ρ1, tg d ρ = some ρ1 ∧ ∃ ρ2, tt ρ1 = .ok (p d) ρ2 ∧ (p d = false → wipeE ρ2 vs = ρ) ∧ (p d = true → ∃ rv ρ3, te ρ2 = .ok rv ρ3 ∧ rv.toD = f d ∧ wipeE ρ3 vs = ρ)) : ∀ (n i : Nat) (acc : List D), i + n = ds.length → acc.length + n ≤ line → ∀ m, n < m →
    compG vs tg tt te (.sl j) m i acc ρ = .ok (acc ++ ((ds.drop i).filter p).map f) ρ := by
  intro n
  induction n with
  | zero =>
    intro i acc hi hl m hm
    obtain ⟨m, rfl⟩ : ∃ k, m = k + 1 := ⟨m - 1, by omega⟩
    have hd : ds[i]? = none := by simp; omega
    have hn : nxt (.sl j) ρ i = some none := by unfold nxt; simp only [hj, hd]
    unfold compG
    simp only [hn]
    rw [List.drop_eq_nil_of_le (by omega)]
    simp
  | succ n ih =>
    intro i acc hi hl m hm
    obtain ⟨m, rfl⟩ : ∃ k, m = k + 1 := ⟨m - 1, by omega⟩
    have hlt : i < ds.length := by omega
    have hd : ds[i]? = some ds[i] := by simp [hlt]
    have hn : nxt (.sl j) ρ i = some (some ds[i]) := by unfold nxt; simp only [hj, hd]
    have hdr : ds.drop i = ds[i] :: ds.drop (i + 1) := by rw [List.drop_eq_getElem_cons hlt]
    obtain ⟨ρ1, e1, ρ2, e2, hF, hT⟩ := h ds[i] (List.getElem_mem hlt)
    unfold compG
    simp only [hn]
    unfold compT
    rw [e1]
    show ((noErr tt ρ1).bind _) = _
    have en : noErr tt ρ1 = .ok (p ds[i]) ρ2 := by unfold noErr; rw [e2]
    rw [en, bind_ok]
    cases hp : p ds[i] with
    | false =>
      rw [if_neg (by decide), hF hp, ih (i + 1) acc (by omega) (by omega) m (by omega), hdr, List.filter_cons_of_neg (by simp [hp])]
    | true =>
      rw [if_pos rfl]
      obtain ⟨rv, ρ3, e3, er, ew⟩ := hT hp
      have en3 : noErr te ρ2 = .ok rv ρ3 := by unfold noErr; rw [e3]
      show ((noErr te ρ2).bind _) = _
      rw [en3, bind_ok, if_pos (by omega), ew, er, ih (i + 1) _ (by omega) (by rw [List.length_append]; simp; omega) m (by omega), hdr, List.filter_cons_of_pos (by simp [hp])]
      simp
theorem compX_own {vs : List Nat} {tg : Tg} {tt : P Bool} {te : P RV} {ρ : En} {p : D → Bool} {f : D → D} {j : Nat} {ds : List D} (hj : look ρ j = some (.list ds)) (hl : ds.length < 100000)
    (h : ∀ d ∈ ds, ∃ ρ1, tg d ρ = some ρ1 ∧ ∃ ρ2, tt ρ1 = .ok (p d) ρ2 ∧ (p d = false → wipeE ρ2 vs = ρ) ∧ (p d = true → ∃ rv ρ3, te ρ2 = .ok rv ρ3 ∧ rv.toD = f d ∧ wipeE ρ3 vs = ρ)) :
    compX vs tg tt te (.sl j) ρ = .ok ((ds.filter p).map f) ρ := by
  have := compG_pure hj h ds.length 0 [] (by omega) (by simp [line]; omega) 100000 hl
  show compG vs tg tt te (.sl j) 100000 0 [] ρ = _
  simpa using this
theorem gLoop_pure {b : Bool} {tg : Tg} {tt : P Bool} {te : P RV} {C : En → Prop} {q : D → Bool} : ∀ (ds : List D) {ρ : En}, C ρ →
    (∀ d ∈ ds, ∀ ρ, C ρ → ∃ ρ1, tg d ρ = some ρ1 ∧ ∃ ρ2, tt ρ1 = .ok true ρ2 ∧ ∃ ρ3, te ρ2 = .ok (.val (.bool (q d))) ρ3 ∧ C ρ3) →
    ∃ ρ', gLoop b tg tt te ds ρ = .ok (if b then ds.any q else ds.all q) ρ' := by
  intro ds
  induction ds with
  | nil => intro ρ _ _; exact ⟨ρ, by cases b <;> rfl⟩
  | cons d ds ih =>
    intro ρ hC h
    obtain ⟨ρ1, e1, ρ2, e2, ρ3, e3, c3⟩ := h d List.mem_cons_self ρ hC
    obtain ⟨ρ', e'⟩ := ih c3 fun d' hd' => h d' (List.mem_cons_of_mem _ hd')
    have en : noErr tt ρ1 = .ok true ρ2 := by unfold noErr; rw [e2]
    have en3 : noErr te ρ2 = .ok (.val (.bool (q d))) ρ3 := by unfold noErr; rw [e3]
    have e : gLoop b tg tt te (d :: ds) ρ = (if q d = b then ret b else gLoop b tg tt te ds) ρ3 := by
      show (match tg d ρ with | none => .no | some ρ1 => (noErr tt ρ1).bind _ : Res Bool) = _
      rw [e1]
      show (noErr tt ρ1).bind _ = _
      rw [en, bind_ok, if_pos rfl]
      show (noErr te ρ2).bind _ = _
      rw [en3, bind_ok]
      rfl
    rw [e]
    by_cases hq : q d = b
    · rw [if_pos hq]
      refine ⟨ρ3, ?_⟩
      cases b <;> simp [hq]
    · rw [if_neg hq, e']
      refine ⟨ρ', ?_⟩
      cases b <;> cases hz : q d <;> simp_all
theorem gF_ls {b : Bool} {cap : List Nat} {no : Nat} {src : P Sr} {tg : Tg} {tt : P Bool} {te : P RV} {ρ ρ1 ρ' : En} {ds : List D} {as : List Sl} {z : Bool} (hs : src ρ = .ok (.ls ds) ρ1) (hg : gather ρ1 (cap.map CA.ln) (cap.map fun _ => none) 0 = some as) (hl : gLoop b tg tt te ds (as ++ List.replicate no .un) = .ok z ρ') : gF b cap no src tg tt te ρ = .ok (.val (.bool z)) ρ1 := by
  unfold gF
  show (src ρ).bind _ = _
  rw [hs, bind_ok]
  simp only [hg, hl]
theorem mutF_ow1 {i : Nat} {f : P RV} {h : MtD} {ρ ρ1 : En} {ds0 ds ds' : List D} {rv : RV} {d : D} (hi : ρ[i]? = some (.ow (.lst ds0))) (hf : f ρ = .ok rv ρ1) (hi1 : ρ1[i]? = some (.ow (.lst ds))) (hh : h ds [rv.toD] = some (ds', d)) : mutF i [.ex f] h ρ = .ok (.val d) (ρ1.set i (.ow (.lst ds'))) := by
  unfold mutF
  rw [hi]
  show args _ _ _ = _
  rw [args_ap, runs_cons, run_ex, hf]
  show (match ρ1[i]? with | some (.ow (.lst ds)) => (match h ds [rv.toD] with | some (ds', d) => .ok (.val d) (ρ1.set i (.ow (.lst ds'))) | none => .no) | _ => .no : Res RV) = _
  rw [hi1]
  show (match h ds [rv.toD] with | some (ds', d) => .ok (.val d) (ρ1.set i (.ow (.lst ds'))) | none => .no : Res RV) = _
  rw [hh]
theorem mutF_ow0 {i : Nat} {h : MtD} {ρ : En} {ds ds' : List D} {d : D} (hi : ρ[i]? = some (.ow (.lst ds))) (hh : h ds [] = some (ds', d)) : mutF i [] h ρ = .ok (.val d) (ρ.set i (.ow (.lst ds'))) := by
  unfold mutF
  rw [hi]
  show (match ρ[i]? with | some (.ow (.lst ds)) => (match h ds [] with | some (ds', d) => .ok (.val d) (ρ.set i (.ow (.lst ds'))) | none => .no) | _ => .no : Res RV) = _
  rw [hi]
  show (match h ds [] with | some (ds', d) => .ok (.val d) (ρ.set i (.ow (.lst ds'))) | none => .no : Res RV) = _
  rw [hh]
theorem eraseIdx_map {α β : Type} {f : α → β} : ∀ (l : List α) (j : Nat), (l.map f).eraseIdx j = (l.eraseIdx j).map f
  | [], _ => rfl
  | x :: l, 0 => rfl
  | x :: l, j + 1 => by simp [eraseIdx_map l j]
theorem args_ex2 {f g : P RV} {h : D → D → Option RV} {ρ ρ1 ρ2 : En} {a b : RV} (hf : f ρ = .ok a ρ1) (hg : g ρ1 = .ok b ρ2) : args [.ex f, .ex g] (f2 h) ρ = opt (h a.toD b.toD) ρ2 := by
  simp only [args_ap, runs_cons, run_ex, hf, hg, bind_ok, seq_ap, ret_ap, runs_nil, gets_cons, get_ex, gets_nil, f2_ap]
theorem args_ex1 {β : Type} {f : P RV} {h : List D → P β} {ρ ρ1 : En} {a : RV} (hf : f ρ = .ok a ρ1) : args [.ex f] h ρ = h [a.toD] ρ1 := by
  simp only [args_ap, runs_cons, run_ex, hf, bind_ok, seq_ap, ret_ap, runs_nil, gets_cons, get_ex, gets_nil]
theorem args_sx2 {i : Nat} {g : P RV} {h : D → D → Option RV} {ρ ρ2 : En} {d d' : D} {b : RV} (hf : look ρ i = some d') (hg : g ρ = .ok b ρ2) (hd : look ρ2 i = some d) : args [.sl i, .ex g] (f2 h) ρ = opt (h d b.toD) ρ2 := by
  simp only [args_ap, runs_cons, run_ex, run_sl, get_sl, hf, hg, hd, bind_ok, seq_ap, ret_ap, runs_nil, gets_cons, get_ex, gets_nil, f2_ap]
theorem args_xs2 {i : Nat} {g : P RV} {h : D → D → Option RV} {ρ ρ2 : En} {d : D} {b : RV} (hg : g ρ = .ok b ρ2) (hd : look ρ2 i = some d) : args [.ex g, .sl i] (f2 h) ρ = opt (h b.toD d) ρ2 := by
  simp only [args_ap, runs_cons, run_ex, run_sl, get_sl, hg, hd, bind_ok, seq_ap, ret_ap, runs_nil, gets_cons, get_ex, gets_nil, f2_ap]
theorem compL_step {vs : List Nat} {tg : Tg} {tt : P Bool} {te : P RV} {d : D} {ds acc : List D} {ρ ρ1 ρ2 ρ3 : En} {rv : RV} (h1 : tg d ρ = some ρ1) (h2 : tt ρ1 = .ok true ρ2) (h3 : te ρ2 = .ok rv ρ3) (hl : acc.length < line) : compL vs tg tt te (d :: ds) acc ρ = compL vs tg tt te ds (acc ++ [rv.toD]) (wipeE ρ3 vs) := by
  show compT vs tg tt te (compL vs tg tt te ds) d acc ρ = _
  unfold compT
  rw [h1]
  show ((noErr tt ρ1).bind _) = _
  have en : noErr tt ρ1 = .ok true ρ2 := by unfold noErr; rw [h2]
  rw [en, bind_ok, if_pos rfl]
  have en3 : noErr te ρ2 = .ok rv ρ3 := by unfold noErr; rw [h3]
  show ((noErr te ρ2).bind _) = _
  rw [en3, bind_ok, if_pos hl]
theorem thenS_post {f g : P Fl} {ρ ρ' : En} {A : Fl → En → Prop} {B : Nat → En → Prop} (h : f ρ = .ok .nx ρ') (h2 : (g ρ').post A B) : (thenS f g ρ).post A B := by
  show ((f ρ).bind _).post A B
  rw [h]
  exact h2
theorem thenS_nx {f g : P Fl} {ρ ρ' : En} (h : f ρ = .ok .nx ρ') : thenS f g ρ = g ρ' := by
  show ((f ρ).bind _) = _
  rw [h]
  rfl
theorem thenS_rt {f g : P Fl} {ρ ρ' : En} {rv : RV} (h : f ρ = .ok (.rt rv) ρ') : thenS f g ρ = .ok (.rt rv) ρ' := by
  show ((f ρ).bind _) = _
  rw [h]
  rfl
/-- a call's answer, the caller's names as they were -/
def fin (n : Nat) (r : Res RV) (ρ : En) : Res RV := match r with
  | .ok rv as => if as.length = n then .ok rv ρ else .no
  | .err k as => if as.length = n then .err k ρ else .no
  | .no => .no
@[simp] theorem fin_ok {n : Nat} {rv : RV} {as : List Sl} {ρ : En} (h : as.length = n) : fin n (.ok rv as) ρ = .ok rv ρ := by unfold fin; simp [h]
@[simp] theorem callF_ex1 {m : List Sl → Res RV} {f : P RV} {ρ : En} : callF m [.ex f] ρ = (f ρ).bind fun a ρ => fin 1 (m [.sh a.toD]) ρ := by
  unfold callF
  show (Res.bind (Res.bind (Res.bind (f ρ) _) _) _) = _
  cases f ρ with
  | no => rfl
  | err k ρ => rfl
  | ok a ρ =>
    show (match m [.sh a.toD] with | .ok rv as' => _ | .err k as' => _ | .no => _ : Res RV) = fin 1 (m [.sh a.toD]) ρ
    cases m [.sh a.toD] with
    | no => rfl
    | err k as => match as with
      | [] => rfl
      | [_] => rfl
      | _ :: _ :: _ => rfl
    | ok k as => match as with
      | [] => rfl
      | [_] => rfl
      | _ :: _ :: _ => rfl
@[simp] theorem callF_ex2 {m : List Sl → Res RV} {f g : P RV} {ρ : En} : callF m [.ex f, .ex g] ρ = (f ρ).bind fun a => seq g fun b ρ => fin 2 (m [.sh a.toD, .sh b.toD]) ρ := by
  unfold callF
  show (Res.bind (Res.bind (Res.bind (f ρ) _) _) _) = _
  cases f ρ with
  | no => rfl
  | err k ρ => rfl
  | ok a ρ =>
    show (Res.bind (Res.bind (Res.bind (Res.bind (g ρ) _) _) _) _) = (g ρ).bind _
    cases g ρ with
    | no => rfl
    | err k ρ => rfl
    | ok b ρ =>
      show (match m [.sh a.toD, .sh b.toD] with | .ok rv as' => _ | .err k as' => _ | .no => _ : Res RV) = fin 2 (m [.sh a.toD, .sh b.toD]) ρ
      cases m [.sh a.toD, .sh b.toD] with
      | no => rfl
      | err k as => match as with
        | [] => rfl
        | [_] => rfl
        | [_, _] => rfl
        | _ :: _ :: _ :: _ => rfl
      | ok k as => match as with
        | [] => rfl
        | [_] => rfl
        | [_, _] => rfl
        | _ :: _ :: _ :: _ => rfl
@[simp] theorem callF_ex3 {m : List Sl → Res RV} {f g h : P RV} {ρ : En} : callF m [.ex f, .ex g, .ex h] ρ = (f ρ).bind fun a => seq g fun b => seq h fun c ρ => fin 3 (m [.sh a.toD, .sh b.toD, .sh c.toD]) ρ := by
  unfold callF
  show (Res.bind (Res.bind (Res.bind (f ρ) _) _) _) = _
  cases f ρ with
  | no => rfl
  | err k ρ => rfl
  | ok a ρ =>
    show (Res.bind (Res.bind (Res.bind (Res.bind (g ρ) _) _) _) _) = (g ρ).bind _
    cases g ρ with
    | no => rfl
    | err k ρ => rfl
    | ok b ρ =>
      show (Res.bind (Res.bind (Res.bind (Res.bind (Res.bind (h ρ) _) _) _) _) _) = (h ρ).bind _
      cases h ρ with
      | no => rfl
      | err k ρ => rfl
      | ok c ρ =>
        show (match m [.sh a.toD, .sh b.toD, .sh c.toD] with | .ok rv as' => _ | .err k as' => _ | .no => _ : Res RV) = fin 3 (m [.sh a.toD, .sh b.toD, .sh c.toD]) ρ
        cases m [.sh a.toD, .sh b.toD, .sh c.toD] with
        | no => rfl
        | err k as => match as with
          | [] => rfl
          | [_] => rfl
          | [_, _] => rfl
          | [_, _, _] => rfl
          | _ :: _ :: _ :: _ :: _ => rfl
        | ok k as => match as with
          | [] => rfl
          | [_] => rfl
          | [_, _] => rfl
          | [_, _, _] => rfl
          | _ :: _ :: _ :: _ :: _ => rfl
@[simp] theorem callF_ex4 {m : List Sl → Res RV} {f g h i : P RV} {ρ : En} : callF m [.ex f, .ex g, .ex h, .ex i] ρ = (f ρ).bind fun a => seq g fun b => seq h fun c => seq i fun d ρ => fin 4 (m [.sh a.toD, .sh b.toD, .sh c.toD, .sh d.toD]) ρ := by
  unfold callF
  show (Res.bind (Res.bind (Res.bind (f ρ) _) _) _) = _
  cases f ρ with
  | no => rfl
  | err k ρ => rfl
  | ok a ρ =>
    show (Res.bind (Res.bind (Res.bind (Res.bind (g ρ) _) _) _) _) = (g ρ).bind _
    cases g ρ with
    | no => rfl
    | err k ρ => rfl
    | ok b ρ =>
      show (Res.bind (Res.bind (Res.bind (Res.bind (Res.bind (h ρ) _) _) _) _) _) = (h ρ).bind _
      cases h ρ with
      | no => rfl
      | err k ρ => rfl
      | ok c ρ =>
        show (Res.bind (Res.bind (Res.bind (Res.bind (Res.bind (Res.bind (i ρ) _) _) _) _) _) _) = (i ρ).bind _
        cases i ρ with
        | no => rfl
        | err k ρ => rfl
        | ok d ρ =>
          show (match m [.sh a.toD, .sh b.toD, .sh c.toD, .sh d.toD] with | .ok rv as' => _ | .err k as' => _ | .no => _ : Res RV) = fin 4 (m [.sh a.toD, .sh b.toD, .sh c.toD, .sh d.toD]) ρ
          cases m [.sh a.toD, .sh b.toD, .sh c.toD, .sh d.toD] with
          | no => rfl
          | err k as => match as with
            | [] => rfl
            | [_] => rfl
            | [_, _] => rfl
            | [_, _, _] => rfl
            | [_, _, _, _] => rfl
            | _ :: _ :: _ :: _ :: _ :: _ => rfl
          | ok k as => match as with
            | [] => rfl
            | [_] => rfl
            | [_, _] => rfl
            | [_, _, _] => rfl
            | [_, _, _, _] => rfl
            | _ :: _ :: _ :: _ :: _ :: _ => rfl
/-! ### alike -/
def alikeF (rec : List Sl → Res RV) : P Fl := thenS (ifP (orP (args [(.ex (args [(.sl 1)] (isiF .list)))] truO) (args [(.ex (args [(.sl 1)] (isiF .tuple)))] truO)) (thenS (ifP (orP (seq (args [(.ex (args [(.sl 0)] (isiF .list))), (.ex (args [(.sl 1)] (isiF .list)))] (f2 (neD))) toB) (seq (args [(.ex (args [(.sl 0)] (isiF .tuple))), (.ex (args [(.sl 1)] (isiF .tuple)))] (f2 (neD))) toB)) (seq (kst (.bool false)) fun rv => ret (.rt rv)) (ret .nx))
  (seq (andV (args [(.ex (args [(.sl 0)] (f1 lenD))), (.ex (args [(.sl 1)] (f1 lenD)))] (f2 (eqD))) (args [(.ex (lcF [2] (args [(.ex (args [(.sl 1)] (f1 lenD)))] walkR1) (putG 2) (notP (args [(.ex (callF rec [.ex (args [(.sl 0), (.sl 2)] (f2 ixD)), .ex (args [(.sl 1), (.sl 2)] (f2 ixD))]))] truO)) (shr 2))), (.ex (args [] mkL))] (f2 (eqD)))) fun rv => ret (.rt rv))) (ret .nx))
  (thenS (ifP (seq (args [(.sl 1), (.ex (kst .none))] (f2 (isD))) toB) (seq (args [(.sl 0), (.ex (kst .none))] (f2 (isD))) fun rv => ret (.rt rv)) (ret .nx))
  (thenS (ifP (orP (args [(.ex (args [(.sl 1)] (isiF .bool)))] truO) (args [(.ex (args [(.sl 0)] (isiF .bool)))] truO)) (seq (andV (args [(.sl 0)] (isiF .bool)) (andV (args [(.sl 1)] (isiF .bool)) (args [(.sl 0), (.sl 1)] (f2 (eqD))))) fun rv => ret (.rt rv)) (ret .nx))
  (thenS (ifP (args [(.ex (args [(.sl 1)] (isiF .int)))] truO) (seq (andV (args [(.sl 0)] (isiF .int)) (args [(.sl 0), (.sl 1)] (f2 (eqD)))) fun rv => ret (.rt rv)) (ret .nx))
  (seq (andV (args [(.sl 0)] (isiF .str)) (args [(.sl 0), (.sl 1)] (f2 (eqD)))) fun rv => ret (.rt rv)))))
def alikeM : Nat → List Sl → Res RV
  | 0 => fun _ => .no
  | k + 1 => bodyF 2 3 (alikeF (alikeM k))
def okA : Nat → D → Bool
  | 0, _ => false
  | _ + 1, .none => true
  | _ + 1, .bool _ => true
  | _ + 1, .int _ => true
  | _ + 1, .str x => PyData.strOk x
  | k + 1, .list xs => decide (xs.length ≤ line) && xs.all (okA k)
  | k + 1, .tuple xs => decide (xs.length ≤ line) && xs.all (okA k)
  | _ + 1, .dict _ => false
theorem eqv_str (x : Str) : PyData.eqv (.str x) (.str x) = true := by simp only [PyData.eqv]; exact beq_self_eq_true x
theorem filter_no {α : Type} {l : List α} : l.filter (fun _ => false) = [] := by induction l <;> simp_all
theorem alike_list (m : List Sl → Res RV) (xs : List D) (hl : xs.length ≤ line) (ih : ∀ x ∈ xs, m [.sh x, .sh x] = .ok (.val (.bool true)) [.un, .un]) : bodyF 2 3 (alikeF m) [.sh (.list xs), .sh (.list xs)] = .ok (.val (.bool true)) [.un, .un] := by
  have hc : compL [2] (putG 2) (notP (args [(.ex (callF m [.ex (args [(.sl 0), (.sl 2)] (f2 ixD)), .ex (args [(.sl 1), (.sl 2)] (f2 ixD))]))] truO)) (shr 2) (rngL 0 xs.length) [] [.sh (.list xs), .sh (.list xs), .un] = .ok [] [.sh (.list xs), .sh (.list xs), .un] := by
    have := compL_pure (vs := [2]) (tg := putG 2) (tt := (notP (args [(.ex (callF m [.ex (args [(.sl 0), (.sl 2)] (f2 ixD)), .ex (args [(.sl 1), (.sl 2)] (f2 ixD))]))] truO))) (te := shr 2) (p := fun _ => false) (f := id) (ρ := [.sh (.list xs), .sh (.list xs), .un]) (rngL 0 xs.length) (acc := []) (by rw [rngL_len]; simpa using hl) fun d hd => by
      obtain ⟨i, hi, rfl⟩ := mem_rngL hd
      have ea : L2.atI xs (i : Int) = some xs[i] := by rw [atI_nat hi]; simp [hi]
      have ih := ih xs[i] (List.getElem_mem hi)
      refine ⟨_, rfl, [.sh (.list xs), .sh (.list xs), .sh (.int i)], ?_, fun _ => rfl, fun z => by cases z⟩
      simp [ea, ih]
    rw [filter_no] at this
    exact this
  have e0 : eqD (.list []) (.list []) = some (.val (.bool true)) := by rw [eq_nil rfl]; rfl
  have hb : xs.length < 4611686018427387904 := by unfold line at hl; omega
  have hr := rng1_nat hb
  have hlc := lcF_ls (vs := [2]) (src := args [(.ex (args [(.sl 1)] (f1 lenD)))] walkR1) (ρ := [.sh (.list xs), .sh (.list xs), .un]) (by simp [hr]; exact ⟨rfl, rfl⟩) rfl hc rfl
  refine bodyF_rt (ρ := [.sh (.list xs), .sh (.list xs), .un]) ?_ (by simp [finA])
  simp [alikeF, isT, hlc, backE, keepSh, e0]
theorem alike_tuple (m : List Sl → Res RV) (xs : List D) (hl : xs.length ≤ line) (ih : ∀ x ∈ xs, m [.sh x, .sh x] = .ok (.val (.bool true)) [.un, .un]) : bodyF 2 3 (alikeF m) [.sh (.tuple xs), .sh (.tuple xs)] = .ok (.val (.bool true)) [.un, .un] := by
  have hc : compL [2] (putG 2) (notP (args [(.ex (callF m [.ex (args [(.sl 0), (.sl 2)] (f2 ixD)), .ex (args [(.sl 1), (.sl 2)] (f2 ixD))]))] truO)) (shr 2) (rngL 0 xs.length) [] [.sh (.tuple xs), .sh (.tuple xs), .un] = .ok [] [.sh (.tuple xs), .sh (.tuple xs), .un] := by
    have := compL_pure (vs := [2]) (tg := putG 2) (tt := (notP (args [(.ex (callF m [.ex (args [(.sl 0), (.sl 2)] (f2 ixD)), .ex (args [(.sl 1), (.sl 2)] (f2 ixD))]))] truO))) (te := shr 2) (p := fun _ => false) (f := id) (ρ := [.sh (.tuple xs), .sh (.tuple xs), .un]) (rngL 0 xs.length) (acc := []) (by rw [rngL_len]; simpa using hl) fun d hd => by
      obtain ⟨i, hi, rfl⟩ := mem_rngL hd
      have ea : L2.atI xs (i : Int) = some xs[i] := by rw [atI_nat hi]; simp [hi]
      have ih := ih xs[i] (List.getElem_mem hi)
      refine ⟨_, rfl, [.sh (.tuple xs), .sh (.tuple xs), .sh (.int i)], ?_, fun _ => rfl, fun z => by cases z⟩
      simp [ea, ih]
    rw [filter_no] at this
    exact this
  have e0 : eqD (.list []) (.list []) = some (.val (.bool true)) := by rw [eq_nil rfl]; rfl
  have hb : xs.length < 4611686018427387904 := by unfold line at hl; omega
  have hr := rng1_nat hb
  have hlc := lcF_ls (vs := [2]) (src := args [(.ex (args [(.sl 1)] (f1 lenD)))] walkR1) (ρ := [.sh (.tuple xs), .sh (.tuple xs), .un]) (by simp [hr]; exact ⟨rfl, rfl⟩) rfl hc rfl
  refine bodyF_rt (ρ := [.sh (.tuple xs), .sh (.tuple xs), .un]) ?_ (by simp [finA])
  simp [alikeF, isT, hlc, backE, keepSh, e0]
theorem alike_none (m : List Sl → Res RV) : bodyF 2 3 (alikeF m) [.sh .none, .sh .none] = .ok (.val (.bool true)) [.un, .un] := bodyF_rt (ρ := [.sh .none, .sh .none, .un]) (by simp [alikeF, isT, nonD]) (by simp [finA])
theorem alike_bool (m : List Sl → Res RV) (b c : Bool) : bodyF 2 3 (alikeF m) [.sh (.bool b), .sh (.bool c)] = .ok (.val (.bool (b == c))) [.un, .un] := bodyF_rt (ρ := [.sh (.bool b), .sh (.bool c), .un]) (by simp [alikeF, isT, nonD]) (by simp [finA])
theorem alike_int (m : List Sl → Res RV) (b c : Int) : bodyF 2 3 (alikeF m) [.sh (.int b), .sh (.int c)] = .ok (.val (.bool (b == c))) [.un, .un] := bodyF_rt (ρ := [.sh (.int b), .sh (.int c), .un]) (by simp [alikeF, isT, nonD]) (by simp [finA])
theorem alike_str (m : List Sl → Res RV) (x : Str) (h : PyData.strOk x = true) : bodyF 2 3 (alikeF m) [.sh (.str x), .sh (.str x)] = .ok (.val (.bool true)) [.un, .un] := by
  have h' : okE (.str x) = true := h
  have e : eqD (.str x) (.str x) = some (.val (.bool true)) := by rw [eq_ok h' h', eqv_str]
  exact bodyF_rt (ρ := [.sh (.str x), .sh (.str x), .un]) (by simp [alikeF, isT, nonD, e]) (by simp [finA])
theorem alike_refl (k : Nat) : ∀ (d : D), okA k d = true → alikeM k [.sh d, .sh d] = .ok (.val (.bool true)) [.un, .un] := by
  induction k with
  | zero => intro d h; cases h
  | succ k ih =>
    intro d h
    show bodyF 2 3 (alikeF (alikeM k)) _ = _
    cases d with
    | none => exact alike_none _
    | bool b => rw [alike_bool]; simp
    | int b => rw [alike_int]; simp
    | str x => exact alike_str _ x h
    | dict _ => cases h
    | list xs =>
      have h : (decide (xs.length ≤ line) && xs.all (okA k)) = true := h
      simp only [Bool.and_eq_true, decide_eq_true_eq] at h
      exact alike_list _ xs h.1 fun x hx => ih x (List.all_eq_true.mp h.2 _ hx)
    | tuple xs =>
      have h : (decide (xs.length ≤ line) && xs.all (okA k)) = true := h
      simp only [Bool.and_eq_true, decide_eq_true_eq] at h
      exact alike_tuple _ xs h.1 fun x hx => ih x (List.all_eq_true.mp h.2 _ hx)
end L3

set_option Elab.async false
set_option linter.all false
set_option maxRecDepth 100000
set_option maxHeartbeats 1000000
namespace L3
open PySem PySem.Spec PyProof.Rows L2
/-! ### more tools of plain laws: lists of ints, of bools, calls, loops -/
abbrev bL (bs : List Bool) : List D := bs.map PyData.bool
abbrev iL (ns : List Nat) : List D := ns.map fun n : Nat => PyData.int (n : Int)
theorem at_bL {bs : List Bool} {n : Nat} (h : n < bs.length) : L2.atI (bL bs) (n : Int) = some (.bool (bs.getD n false)) := by
  rw [atI_nat (by simpa using h)]
  simp [h]
theorem at_iL {ns : List Nat} {n : Nat} (h : n < ns.length) : L2.atI (iL ns) (n : Int) = some (.int ((ns.getD n 0 : Nat) : Int)) := by
  rw [atI_nat (by simpa using h)]
  simp [h]
theorem mem_iL {ns : List Nat} {d : D} (h : d ∈ iL ns) : ∃ n ∈ ns, d = .int (n : Int) := by
  simp only [iL, List.mem_map] at h
  obtain ⟨n, hn, rfl⟩ := h
  exact ⟨n, hn, rfl⟩
theorem filter_yes {α : Type} {l : List α} : l.filter (fun _ => true) = l := by induction l <;> simp_all
theorem rng_sub {n : Nat} (h : n < 1000000) : rng1 (.int ((n : Int) - 1)) = some (rngL 0 (n - 1)) := by
  cases n with
  | zero => rfl
  | succ n =>
    have e : ((n + 1 : Nat) : Int) - 1 = (n : Int) := by omega
    rw [e, rng1_nat (by omega)]
    rfl
theorem any_rngL {n : Nat} {q : D → Bool} : (rngL 0 n).any q = (List.range n).any fun k => q (.int (k : Int)) := by
  simp [rngL, List.any_map, Function.comp_def]
theorem filter_emp {α : Type} {l : List α} {p : α → Bool} : (l.filter p).isEmpty = !l.any p := by
  induction l with
  | nil => rfl
  | cons x xs ih => cases h : p x <;> simp_all
def gD (g : Nat → Bool) : D → Bool
  | .int i => g i.toNat
  | _ => false
theorem filter_gD {ns : List Nat} {g : Nat → Bool} : (iL ns).filter (gD g) = iL (ns.filter g) := by
  induction ns with
  | nil => rfl
  | cons n ns ih =>
    have e : gD g (.int (n : Int)) = g n := by simp [gD]
    show (PyData.int (n : Int) :: iL ns).filter (gD g) = _
    cases hz : g n with
    | true => rw [List.filter_cons_of_pos (by rw [e]; exact hz), List.filter_cons_of_pos (by exact hz), ih]; rfl
    | false => rw [List.filter_cons_of_neg (by rw [e, hz]; decide), List.filter_cons_of_neg (by rw [hz]; decide), ih]
theorem filt_lc {ns : List Nat} {g : Nat → Bool} {ρ : En} {j : Nat} {tt : P Bool} (hl : ns.length < 1000) (h : ∀ n ∈ ns, tt (ρ.set j (.sh (.int (n : Nat)))) = .ok (g n) (ρ.set j (.sh (.int (n : Nat))))) (hs : ∀ s, (ρ.set j (.sh s))[j]? = some (.sh s)) (hw : ∀ s, wipeE (ρ.set j s) [j] = ρ) :
    compL [j] (putG j) tt (shr j) (iL ns) [] ρ = .ok (iL (ns.filter g)) ρ := by
  have := compL_pure (vs := [j]) (tg := putG j) (tt := tt) (te := shr j) (p := gD g) (f := id) (ρ := ρ) (iL ns) (acc := []) (by simp [line]; omega) fun d hd => by
    obtain ⟨n, hn, rfl⟩ := mem_iL hd
    exact ⟨_, rfl, ρ.set j (.sh (.int (n : Nat))), by rw [h n hn]; simp [gD], fun _ => hw _, fun _ => ⟨_, _, shr_at (hs _), by simp, hw _⟩⟩
  rw [filter_gD] at this
  simpa using this
theorem filt_own {ns : List Nat} {g : Nat → Bool} {ρ : En} {j a : Nat} {tt : P Bool} (ha : look ρ a = some (.list (iL ns))) (hl : ns.length < 1000) (h : ∀ n ∈ ns, tt (ρ.set j (.sh (.int (n : Nat)))) = .ok (g n) (ρ.set j (.sh (.int (n : Nat))))) (hs : ∀ s, (ρ.set j (.sh s))[j]? = some (.sh s)) (hw : ∀ s, wipeE (ρ.set j s) [j] = ρ) :
    compX [j] (putG j) tt (shr j) (.sl a) ρ = .ok (iL (ns.filter g)) ρ := by
  have := compX_own (vs := [j]) (tg := putG j) (tt := tt) (te := shr j) (p := gD g) (f := id) (ρ := ρ) (j := a) ha (by simp; omega) fun d hd => by
    obtain ⟨n, hn, rfl⟩ := mem_iL hd
    exact ⟨_, rfl, ρ.set j (.sh (.int (n : Nat))), by rw [h n hn]; simp [gD], fun _ => hw _, fun _ => ⟨_, _, shr_at (hs _), by simp, hw _⟩⟩
  rw [filter_gD] at this
  simpa using this
theorem ne_int {a b : Nat} : (!((a : Int) == (b : Int))) = (a != b) := by
  rw [Bool.eq_iff_iff]
  simp
  omega
theorem append_ok {ns : List Nat} {n : Nat} (h : ns.length < 1000) : appendD (iL ns) [.int (n : Int)] = some (iL (ns ++ [n]), .none) := by
  show (if (iL ns).length < line then some (iL ns ++ [PyData.int (n : Int)], (PyData.none : D)) else none) = _
  rw [if_pos (by simp [line]; omega)]
  simp [iL]
theorem atI0 {α : Type} {x : α} {xs : List α} : L2.atI (x :: xs) 0 = some x := by
  have := atI_nat (xs := x :: xs) (n := 0) (by simp)
  simpa using this
theorem add_iL {a b : List Nat} (h : a.length + b.length < 5000) : addD (.list (iL a)) (.list (iL b)) = some (.own (.lst (iL (a ++ b)))) := by
  show (if (iL a).length + (iL b).length ≤ line then some (RV.own (.lst (iL a ++ iL b))) else none) = _
  rw [if_pos (by simp [line]; omega)]
  simp [iL]
theorem isE_iL {ns : List Nat} : (iL ns).isEmpty = ns.isEmpty := by cases ns <;> rfl
theorem okD_iL {ns : List Nat} : (iL ns).all (okD 15) = true := by
  rw [List.all_eq_true]
  intro d hd
  obtain ⟨n, _, rfl⟩ := mem_iL hd
  rfl
def rmv (ns : List Nat) (x : Nat) : List Nat := match ns.findIdx? (· == x) with
  | some j => ns.eraseIdx j
  | none => ns
theorem plD_iL {ns : List Nat} {x : Nat} : plD (iL ns) (.int (x : Nat)) = ns.findIdx? (· == x) := by
  unfold plD
  rw [List.findIdx?_map]
  congr 1
  funext y
  show PyData.eqv (.int (y : Int)) (.int (x : Int)) = (y == x)
  simp only [PyData.eqv]
  rw [Bool.eq_iff_iff]
  simp
  omega
theorem remove_ok {ns : List Nat} {x : Nat} (h : x ∈ ns) : removeD (iL ns) [.int (x : Nat)] = some (iL (rmv ns x), .none) := by
  show (if okE (.int (x : Int)) && okE (.list (iL ns)) then (plD (iL ns) (.int (x : Nat))).map fun j => ((iL ns).eraseIdx j, (PyData.none : D)) else none) = _
  have h1 : okE (.list (iL ns)) = true := okD_iL
  rw [h1, plD_iL]
  unfold rmv
  cases hf : ns.findIdx? (· == x) with
  | none =>
    rw [List.findIdx?_eq_none_iff] at hf
    have := hf x h
    simp at this
  | some j =>
    show some ((iL ns).eraseIdx j, (PyData.none : D)) = _
    simp only [iL, eraseIdx_map]
theorem rmv_mem {ns : List Nat} {x n : Nat} (h : n ∈ rmv ns x) : n ∈ ns := by
  unfold rmv at h
  cases hf : ns.findIdx? (· == x) with
  | none => rw [hf] at h; exact h
  | some j => rw [hf] at h; exact List.mem_of_mem_eraseIdx h
theorem rmv_len {ns : List Nat} {x : Nat} : (rmv ns x).length ≤ ns.length := by
  unfold rmv
  cases hf : ns.findIdx? (· == x) with
  | none => exact Nat.le_refl _
  | some j => exact List.length_eraseIdx_le _ _
def isI (r : Res RV) (n : Nat) (i : Int) : Bool := match r with
  | .ok (.val (.int j)) as => i == j && as.length == n && as.all (fun s => match s with | .un => true | _ => false)
  | _ => false
theorem all_un : ∀ {as : List Sl}, as.all (fun s => match s with | .un => true | _ => false) = true → as = List.replicate as.length .un
  | [], _ => rfl
  | .un :: as, h => by
    have h : as.all (fun s => match s with | .un => true | _ => false) = true := by simpa using h
    rw [List.length_cons, List.replicate_succ, ← all_un h]
  | .sh _ :: as, h => by simp at h
  | .ow _ :: as, h => by simp at h
  | .bo _ _ :: as, h => by simp at h
theorem isI_eq {r : Res RV} {n : Nat} {i : Int} (h : isI r n i = true) : r = .ok (.val (.int i)) (List.replicate n .un) := by
  unfold isI at h
  split at h
  · simp only [Bool.and_eq_true, beq_iff_eq] at h
    obtain ⟨⟨rfl, rfl⟩, h3⟩ := h
    rw [← all_un h3]
  · cases h
theorem chain_le {a b c : Int} {f g h : P RV} {ρ : En} (hf : f ρ = .ok (.val (.int a)) ρ) (hg : g ρ = .ok (.val (.int b)) ρ) (hh : h ρ = .ok (.val (.int c)) ρ) : chainF leI leI f g h ρ = .ok (.val (.bool (decide (a ≤ b) && decide (b ≤ c)))) ρ := by
  unfold chainF
  simp only [seq_ap, hf, bind_ok, hg, toD_val, ord_ap, opt_some]
  by_cases h1 : a ≤ b
  · have : leI a b = true := decide_eq_true h1
    rw [this]
    show (h ρ).bind _ = _
    rw [hh]
    simp [h1, leI]
  · have : leI a b = false := decide_eq_false h1
    rw [this]
    simp [h1]
theorem cut_to {f : List Nat} {a : Nat} (h : a ≤ f.length) : L3.cutD (iL f) none (some (a : Int)) = iL (f.take a) := by
  unfold L3.cutD
  rw [show HT.sIx (iL f).length 0 none = 0 from rfl, HT.sIx_nat]
  simp [iL, Nat.min_eq_left h]
theorem cut_from {f : List Nat} {a : Nat} (h : a ≤ f.length) : L3.cutD (iL f) (some (a : Int)) none = iL (f.drop a) := by
  unfold L3.cutD
  rw [HT.sIx_nat, show HT.sIx (iL f).length (iL f).length none = (iL f).length from rfl]
  simp [iL, Nat.min_eq_left h]
  exact List.take_of_length_le (by simp)
theorem c1v {m : List Sl → Res RV} {f : P RV} {ρ ρ1 : En} {a rv : RV} {as : List Sl} (hf : f ρ = .ok a ρ1) (hm : m [.sh a.toD] = .ok rv as) (hl : as.length = 1) : callF m [.ex f] ρ = .ok rv ρ1 := by
  rw [callF_ex1, hf, bind_ok, hm]
  exact fin_ok hl
theorem c2v {m : List Sl → Res RV} {f g : P RV} {ρ ρ1 ρ2 : En} {a b rv : RV} {as : List Sl} (hf : f ρ = .ok a ρ1) (hg : g ρ1 = .ok b ρ2) (hm : m [.sh a.toD, .sh b.toD] = .ok rv as) (hl : as.length = 2) : callF m [.ex f, .ex g] ρ = .ok rv ρ2 := by
  rw [callF_ex2, hf, bind_ok, seq_ap, hg, bind_ok, hm]
  exact fin_ok hl
theorem c3v {m : List Sl → Res RV} {f g h : P RV} {ρ ρ1 ρ2 ρ3 : En} {a b c rv : RV} {as : List Sl} (hf : f ρ = .ok a ρ1) (hg : g ρ1 = .ok b ρ2) (hh : h ρ2 = .ok c ρ3) (hm : m [.sh a.toD, .sh b.toD, .sh c.toD] = .ok rv as) (hl : as.length = 3) : callF m [.ex f, .ex g, .ex h] ρ = .ok rv ρ3 := by
  rw [callF_ex3, hf, bind_ok, seq_ap, hg, bind_ok, seq_ap, hh, bind_ok, hm]
  exact fin_ok hl
theorem mul_ok {i j : Int} (h : -18446744073709551616 < j ∧ j < 18446744073709551616) : mulD (.int i) (.int j) = some (.val (.int (i * j))) := by
  show (if mulOk i j = true then some (RV.val (.int (i * j))) else none) = _
  rw [if_pos]
  unfold mulOk
  rw [decide_eq_true h]
  simp
theorem forL_cons {tg : Tg} {b : P Fl} {d : D} {ds : List D} {ρ ρ1 : En} (h : tg d ρ = some ρ1) : forL tg b (d :: ds) ρ = turn (b ρ1) (forL tg b ds) := by
  show (match tg d ρ with | some ρ' => turn (b ρ') (forL tg b ds) | none => .no : Res Fl) = _
  rw [h]
theorem forF_ls {src : P Sr} {tg : Tg} {b : P Fl} {ds : List D} {ρ ρ1 : En} (h : src ρ = .ok (.ls ds) ρ1) : forF src tg b ρ = forL tg b ds ρ1 := by
  rw [forF_ap, h]
  rfl
theorem turn_nx {b : P Fl} {ρ : En} : turn (.ok .nx ρ) b = b ρ := rfl
theorem callF_mu_ex {m : List Sl → Res RV} {i : Nat} {f : P RV} {ρ : En} {o o' : Ob} {b rv : RV} {s : Sl} (hi : ρ[i]? = some (.ow o)) (hf : f ρ = .ok b ρ) (hm : m [.bo 0 o, .sh b.toD] = .ok rv [.bo 0 o', s]) : callF m [.mu i, .ex f] ρ = .ok rv (ρ.set i (.ow o')) := by
  have hl : look ρ i = some o.toD := by unfold look; rw [hi]; rfl
  have hr : runs ([CA.mu i, CA.ex f].map CA.opd) ρ = .ok [none, some b.toD] ρ := by
    show (Res.bind _ _) = _
    simp [CA.opd, hl, hf]
  show (Res.bind (runs ([CA.mu i, CA.ex f].map CA.opd) ρ) _) = _
  rw [hr, bind_ok]
  have hg : gather ρ [CA.mu i, CA.ex f] [none, some b.toD] 0 = some [.bo 0 o, .sh b.toD] := by
    unfold gather
    rw [hi]
    rfl
  show (match gather ρ [CA.mu i, CA.ex f] [none, some b.toD] 0 with | none => _ | some as => _ : Res RV) = _
  rw [hg]
  show (match m [.bo 0 o, .sh b.toD] with | .ok rv as' => _ | .err k as' => _ | .no => _ : Res RV) = _
  rw [hm]
  show (if _ then _ else _ : Res RV) = _
  rw [if_pos (by rfl)]
  simp [upds, hi, Sl.put]
theorem perm_len {n : Nat} {f : List Nat} (h : f.Perm (List.range n)) : f.length = n := by have := h.length_eq; simpa using this
theorem perm_lt {n : Nat} {f : List Nat} (h : f.Perm (List.range n)) : ∀ x ∈ f, x < n := fun x hx => List.mem_range.mp (h.mem_iff.mp hx)
theorem addT {a b : List D} (h : a.length + b.length < 1000) : addD (.tuple a) (.tuple b) = some (.val (.tuple (a ++ b))) := by
  show (if a.length + b.length ≤ line then some (RV.val (.tuple (a ++ b))) else none) = _
  rw [if_pos (by simp [line]; omega)]
end L3

set_option Elab.async false
set_option linter.all false
set_option maxRecDepth 100000
set_option maxHeartbeats 2000000
namespace L3
open PySem PySem.Spec PyProof.Rows L2 HotX
/-! ### while an exception is handled -/
section
variable {prog : Program} {w : World} {A : Around} {E : Value → Shared → Prop} {s : Shared}
theorem list_end_hot {it l y : Addr} {n : Nat} {vs : Array Value} {Q : Option Value → Shared → Prop} (hot : HotAt A y s.heap) (hit : s.heap.IsListIter it l n) (hl : s.heap.IsList l vs) (hx : vs[n]? = none) (hny : y ≠ it)
    (q : ∀ h', (∀ b, b ≠ it → ∀ o, s.heap.get? b = some o → h'.get? b = some o) → Q none { s with heap := h' }) : wpAny (model prog w) A (pyNext (.ref it)) Q E s := by
  obtain ⟨oi, hoi, hci, hdi⟩ := id hit
  obtain ⟨ol, hol, _, nl, hdl⟩ := hl
  obtain ⟨hh, oy, ys, hy, dy, cy⟩ := hot
  unfold pyNext
  refine wpAny_bind (wpAny_attempt (wpAny_callSpecial?_slot (name := Str.ofString "__next__") hit.typeIs slot_listiter_next (wpAny_call_entry slot_listiter_next hit.typeIs entry_listiter_next ?_ (args_listiter_next _))))
  show wpAny _ _ (field (.ref it) 0 >>= _) _ _ s
  refine wpAny_bind (wpAny_field hoi hdi (x := .ref l) rfl ?_)
  show wpAny _ _ (if (Value.ref l == Value.none) = true then _ else _) _ _ s
  rw [if_neg (show ¬ ((Value.ref l == Value.none) = true) from Bool.false_ne_true)]
  show wpAny _ _ (field (.ref it) 1 >>= _) _ _ s
  refine wpAny_bind (wpAny_field hoi hdi (x := .int n 0) rfl (wpAny_bind (wpAny_seqItems hol hdl ?_)))
  simp only [Int.toNat_natCast, hx]
  refine wpAny_bind (wpAny_rule (wpAny_bind (wpAny_setField hoi hdi (by simp) ?_)))
  show wpAny _ _ (newExc (.type "StopIteration") [] >>= _) _ _ _
  refine wpAny_bind ?_
  simp only [newExc, newTuple]
  refine wpAny_bind (wpAny_newObj_type ?_ (by size_fits))
  refine wpAny_bind (m := firstArgMember _ _) (wpAny_of_eq (a := Value.none) (by first | rfl | (simp only [firstArgMember]; rfl)) (wpAny_newObj_type ?_ (by size_fits)))
  have keep : ∀ b, b ≠ it → ∀ o, s.heap.get? b = some o → (s.heap.update it (Obj.mapFields (·.setIfInBounds 0 .none))).get? b = some o := fun b hb o e => by rw [Heap.get?_update_other _ _ (Ne.symm hb)]; exact e
  have hy1 := keep y hny oy hy
  refine raiseNew_hot ⟨hh, oy, ys, Heap.get?_push_of_some _ (Heap.get?_push_of_some _ hy1), dy, cy⟩ (Nat.ne_of_lt (Heap.lt_size (Heap.get?_push_of_some _ hy1))) (Heap.get?_push_size _ rfl) rfl (by first | (simp; done) | (simp; omega) | (simp only [Array.size_append]; simp; omega)) ?_
  refine wpAny_bind (wpAny_isInstance (T := "StopIteration") (b := true) ⟨_, Heap.get?_update_self _ (Heap.get?_push_size _ rfl) rfl, rfl⟩ isSubtype_stop (wpAny_pure (q _ fun b hb o e => ?_)))
  have e1 := Heap.get?_push_of_some (h := s.heap.update it (Obj.mapFields (·.setIfInBounds 0 .none))) { cls := .type "tuple", data := .seq (([] : List Value).toArray) } (keep b hb o e)
  rw [Heap.get?_update_other _ _ (Nat.ne_of_gt (Heap.lt_size e1))]
  exact Heap.get?_push_of_some _ e1
end
open L2H in
/-- a list, walked while an exception is handled -/
theorem turnH_list {P : Program} {w : World} {K : PySem.W.Frag} {tg : Expr} (l it : Addr) : TurnH P w K tg (Itl K l) [it] it (fun n h => h.IsListIter it l n) where
  mem := List.mem_singleton.mpr rfl
  obj := fun n h st b hb => by
    rw [List.mem_singleton.mp hb]
    obtain ⟨o, e, _, d⟩ := st
    exact ⟨o, e, fun v z => by rw [d] at z; cases z⟩
  keep := fun n h h' st k => by
    obtain ⟨o, e, r⟩ := st
    exact ⟨o, k it (List.mem_singleton.mpr rfl) o e, r⟩
  item := fun X hP hw hK hc n pins s σ H E I hf st ⟨xs, x, hq, hx⟩ => by
    subst hP hw hK
    obtain ⟨vs, rv, p, _⟩ := I.list hq
    obtain ⟨u, hu, ru⟩ := rv.get hx
    obtain ⟨g0, g1, g2, g3, g4, g5⟩ := hf it (List.mem_singleton.mpr rfl)
    refine wpAny_pyNext_list_item st p.isList (x := u) (by simpa using hu) fun h1 st1 sb => ?_
    have J : Inv X pins σ H { s with heap := h1 } := I.turned (t' := s.toks) (fun b o hb e => (sb.2 b hb).trans e) g0 g1 g3 g4 g5
    obtain ⟨o, e, c, d⟩ := id st1
    refine ⟨u, rfl, go_of (s := { s with heap := h1 }) e c d (by decide) ⟨x, H, J, ru, ⟨rfl, fun zs hz => ?_⟩, st1, fun b hb => (hf b hb).1⟩⟩
    rw [I.list_inj hz hq]
    exact hx
  done := fun X hP hw hK hc n pins s σ H E I hf st ⟨xs, hq, hx⟩ => by
    subst hP hw hK
    obtain ⟨vs, rv, p, _⟩ := I.list hq
    obtain ⟨g0, g1, g2, g3, g4, g5⟩ := hf it (List.mem_singleton.mpr rfl)
    have hl := rv.length
    obtain ⟨y, ⟨hh, v1, e1, c1⟩, hy⟩ := hc
    exact list_end_hot ⟨hh, y.2, v1, (I.pin y (List.mem_append_left _ hy)).1, e1, c1⟩ st p.isList (by simp; omega) (g5 y (List.mem_append_left _ hy)) fun h1 k => ⟨rfl, I.turned (t' := s.toks) (fun b o hb e => k b hb o e) g0 g1 g3 g4 g5⟩
  self := fun A n s Q E st h => (turn_list (P := P) (w := w) (K := K) (tg := tg) l it).self A n s Q E st h
section
variable {X : Cx} {p : Addr × Obj}
/-- a context that bears one pinned object more -/
abbrev pinX (Y : Cx) (p : Addr × Obj) : Cx := { Y with pn := [p] }
theorem pin_ok {Y : Cx} (k : Y.Ok) : (pinX Y p).Ok := ⟨k.mod, k.kind, k.glob, k.blt, k.above, k.inj, k.has, k.cab, k.hd, k.frames, k.stk, k.exf, k.bs, k.bsz, k.noex, k.exfs, k.funs, k.frf⟩
theorem pin_in {Y : Cx} {σ : St} {H : Hp} {s : Shared} (hY : Y.pn = []) (I : Inv Y [p] σ H s) : Inv (pinX Y p) [] σ H s :=
  ⟨pin_ok I.ok, I.os, I.bare, I.base, I.loc, I.cell, I.free, I.freeC, fun q hq => I.pin q (by rw [hY]; simpa using hq), I.hok, I.len⟩
theorem pin_out {Y : Cx} {σ : St} {H : Hp} {s : Shared} (hY : Y.pn = []) (k : Y.Ok) (I : Inv (pinX Y p) [] σ H s) : Inv Y [p] σ H s :=
  ⟨k, I.os, I.bare, I.base, I.loc, I.cell, I.free, I.freeC, fun q hq => I.pin q (by rw [hY] at hq; simpa using hq), I.hok, I.len⟩
open L2H in
theorem lcH_core {pins : List (Addr × Obj)} {s : Shared} {σ : St} {H : Hp} {Q : VK} {elt tg iter : Expr} {ifs : List Expr} {scope : Scope} {own : List (Str × Nat)} {pos pos' : Pos} {wi : TI} {g : TG} {tt : TT} {te : TE} {use : Option (Value → Sem Unit)} {Z : Value → Shared → Prop}
    (hot : HotC X) (nd : X.N.Nodup) (I : Inv X pins σ H s) (src : PIH X tg iter wi) (bk : BlkOk X.N X.env.scope scope own)
    (kg : ∀ s H C cl fp, PG (X.blk s H scope (compEnvC scope cl C X.env) fp) tg g) (kt : ∀ s H C cl fp, PTs (X.blk s H scope (compEnvC scope cl C X.env) fp) ifs tt) (ke : ∀ s H C cl fp, PE (X.blk s H scope (compEnvC scope cl C X.env) fp) elt te)
    (nf : ∀ x, foldedSetIterable iter X.env x = pure x) (w : tLc wi g tt te (own.map (·.2)) σ H Q)
    (ends : ∀ D C s' m H', Inv X pins σ H' s' → Q (.ref D) H' → s'.heap.Ns C m → FpOk X pins H' C → compPost (model X.prog X.w) X.A X.xe use Z (.ref D) C (.ok .next) s') :
    wpAny (model X.prog X.w) X.A (comprehension (.ListComp elt [⟨tg, iter, ifs, 0⟩] scope pos) scope X.env pos' (newList []) false (eval iter X.env) use) Z X.xe s := by
  obtain ⟨p, hot1, hpm⟩ := hot
  have frees : ∀ y ∈ scope.names, y.2 = .free → ∃ c, X.env.cells.lookup y.1 = some c := fun y hy e => I.ok.has _ ((bk.free y hy e).elim .inl .inr)
  refine wpAny_comprehension_free (use := use) rfl nf (closure_ok frees) bk.kind (fun y hy e => (bk.uniq y hy).trans (by rw [e])) (thn (src.run pins s σ H _ I w) fun _ _ c1 => thn c1 fun _ s2 c2 => ?_)
  obtain ⟨it, fp, tn, J, H2, rfl, I2, T, t2, f2, c3⟩ := c2
  refine wpAny_newObj_type (newEnv_comp ?_) (Nat.zero_le _)
  generalize eD : s2.heap.objs.size = D
  have nD : H2 D = none := I2.hok.fresh (Nat.le_of_eq eD)
  obtain ⟨W, ⟨m0, w0⟩, turns⟩ := c3 D nD
  generalize e3 : ({ s2 with heap := s2.heap.push { cls := .type "list", data := .seq ([] : List Value).toArray } } : Shared) = s3
  have eh : s3.heap = s2.heap.push { cls := .type "list", data := .seq ([] : List Value).toArray } := by rw [← e3]
  have I3 : Inv X pins σ (upd H2 D (.lst [])) s3 := by
    rw [← e3]
    exact I2.laid (t' := s2.toks) (fun b o e => Heap.get?_push_of_some _ e) (Nat.le_of_eq eD) ⟨Nat.zero_le _, [], 0, .nil, by rw [← eD]; exact Heap.get?_push_size _ rfl⟩
  have f3 : ∀ b ∈ fp, FpOk X pins (upd H2 D (.lst [])) b ∧ b < s3.heap.objs.size := fun b hb => by
    obtain ⟨o, e, _⟩ := T.obj _ _ t2 b hb
    have lt := Heap.lt_size e
    exact ⟨⟨(upd_ne (by rw [← eD]; exact Nat.ne_of_lt lt)).trans (f2 b hb).1, (f2 b hb).2⟩, by rw [eh, Heap.size_push]; exact Nat.lt_succ_of_lt lt⟩
  have t3 : tn 0 s3.heap := T.keep _ _ _ t2 fun b _ o e => by rw [eh]; exact Heap.get?_push_of_some _ e
  have B4 := block_start I3 bk nd f3
  have P3 := I3.pin p (List.mem_append_left _ hpm)
  have gg := kg s3 (upd H2 D (.lst [])) s3.heap.objs.size (cellsFrom (s3.heap.objs.size + 1) scope.names (cloFrom X.env.cells scope.names [])) fp
  have gt := kt s3 (upd H2 D (.lst [])) s3.heap.objs.size (cellsFrom (s3.heap.objs.size + 1) scope.names (cloFrom X.env.cells scope.names [])) fp
  have ge := ke s3 (upd H2 D (.lst [])) s3.heap.objs.size (cellsFrom (s3.heap.objs.size + 1) scope.names (cloFrom X.env.cells scope.names [])) fp
  show codeAny _ _ (.compStart (.ListComp elt [⟨tg, iter, ifs, 0⟩] scope pos) 0 (.ref it) (.ref D) (compEnvC scope (cellsFrom (s3.heap.objs.size + 1) scope.names (cloFrom X.env.cells scope.names [])) s3.heap.objs.size X.env)) (compPost (model X.prog X.w) X.A X.xe use Z (.ref D) s3.heap.objs.size) { s3 with heap := pushCells (s3.heap.push { cls := .type "dict", data := .dict #[] }) scope.names }
  generalize ec : compEnvC scope (cellsFrom (s3.heap.objs.size + 1) scope.names (cloFrom X.env.cells scope.names [])) s3.heap.objs.size X.env = ce at B4 gg gt ge ⊢
  have lc : ce.locals = s3.heap.objs.size := by rw [← ec]; rfl
  generalize eH : upd H2 D (.lst []) = H3 at I3 B4 gg gt ge w0 f3 P3
  generalize e4 : ({ s3 with heap := pushCells (s3.heap.push { cls := .type "dict", data := .dict #[] }) scope.names } : Shared) = s4 at B4 ⊢
  have up4 : ∀ b o, s3.heap.get? b = some o → s4.heap.get? b = some o := fun b o e => by rw [← e4]; exact pushCells_keeps _ _ _ _ (Heap.get?_push_of_some _ e)
  have t4 : tn 0 s4.heap := T.keep _ _ _ t3 fun b _ o e => up4 b o e
  have C4 : Inv (X.blk s3 H3 scope ce fp) [p] (wipe σ (own.map (·.2))) H3 s4 := B4.pins_of fun q hq => by
    rw [List.mem_singleton.mp hq]
    exact ⟨up4 _ _ P3.1, P3.2.1, by show p.1 ≠ ce.locals; rw [lc]; exact Nat.ne_of_lt (Heap.lt_size P3.1), fun hm => (List.mem_cons.mp (I3.stkSub p.1 hm)).elim P3.2.2.1 P3.2.2.2.1, P3.2.2.2.2⟩
  have apart : ∀ b ∈ fp, p.1 ≠ b := fun b hb => (f3 b hb).1.2.2.2.2.2 p (List.mem_append_left _ hpm)
  have okB := C4.ok
  have still : ∀ {H' : Hp}, (∀ b ∈ fp, H' b = none) → ∀ b ∈ fp, FpOk (X.blk s3 H3 scope ce fp) [p] H' b := fun hn b hb => ⟨hn b hb, (okB.exf b hb).1, okB.exfs b hb, .inl hb, (okB.exf b hb).2, fun q hq => by rw [List.mem_singleton.mp (show q ∈ [p] from hq)]; exact apart b hb⟩
  have stillP : ∀ {H' : Hp}, (∀ b ∈ fp, H' b = none) → ∀ b ∈ fp, FpOk (pinX (X.blk s3 H3 scope ce fp) p) [] H' b := fun hn b hb => ⟨hn b hb, (okB.exf b hb).1, okB.exfs b hb, .inl hb, (okB.exf b hb).2, fun q hq => by rw [List.mem_singleton.mp (show q ∈ [p] from by simpa using hq)]; exact apart b hb⟩
  have hotP : HotC (pinX (X.blk s3 H3 scope ce fp) p) := ⟨p, hot1, List.mem_singleton.mpr rfl⟩
  have body : codeAny (model X.prog X.w) X.A (.compLoop (.ListComp elt [⟨tg, iter, ifs, 0⟩] scope pos) 0 (.ref it) (.ref D) ce) (compPost (model X.prog X.w) X.A X.xe use Z (.ref D) s3.heap.objs.size) s4 := by
    refine compLoop_any (fun n s' => ∃ i H', Inv (X.blk s3 H3 scope ce fp) [p] (wipe σ (own.map (·.2))) H' s' ∧ tn i s'.heap ∧ (∀ b ∈ fp, H' b = none) ∧ W i n H') ?_ m0 ⟨0, H3, C4, t4, fun b hb => (f3 b hb).1.1, w0⟩
    rintro n s5 ⟨i, H5, C5, t5, n5, w5⟩
    rcases turns i n H5 w5 with ⟨halt, fine⟩ | ⟨go, Nx, later, step⟩
    · refine thnF (T.done (pinX (X.blk s3 H3 scope ce fp) p) rfl rfl rfl hotP i [] s5 _ H5 (fun _ _ => False) (pin_in rfl C5) (stillP n5) t5 halt) fun r s6 ⟨hr, K6⟩ => ?_
      subst hr
      have C6 := pin_out rfl okB K6
      have back : Inv X pins σ H5 s6 := I3.call' (ch := fp) C6.os C6.base C6.hok C6.bare fun b hb => ⟨(f3 b hb).1.2.2.2.1, (f3 b hb).1.2.1, (f3 b hb).1.2.2.2.2.1, (f3 b hb).1.2.2.2.2.2⟩
      have nC : H5 s3.heap.objs.size = none := by rw [← lc]; exact C6.free
      obtain ⟨m, hn, _⟩ := C6.loc
      exact ends D s3.heap.objs.size s6 m H5 back fine (by rw [← lc]; exact hn) (I3.fpOk (Nat.le_refl _) nC)
    · refine thnF (T.item (pinX (X.blk s3 H3 scope ce fp) p) rfl rfl rfl hotP i [] s5 _ H5 (fun _ _ => False) (pin_in rfl C5) (stillP n5) t5 go) fun r s6 ⟨u, hr, c6⟩ => ?_
      subst hr
      refine thnF c6 fun _ s7 ⟨x, H7, K7, r7, y7, t7, n7⟩ => ?_
      have C7 := (pin_out rfl okB K7).pinned (still n7) (T.obj _ _ t7)
      refine thnF (gg.run _ s7 _ H7 x u _ C7 r7 (step x H7 y7)) fun _ s8 ⟨σ8, H8, C8, hw, q8⟩ => thnF (gt.run _ s8 σ8 H8 _ C8 q8) fun b s9 ⟨H9, C9, q9⟩ => ?_
      have turned : ∀ {s' : Shared} {H' : Hp}, Inv (X.blk s3 H3 scope ce fp) ([p] ++ pinsAt fp s7.heap) σ8 H' s' → Nx H' → ∃ m, m < n ∧ ∃ i H', Inv (X.blk s3 H3 scope ce fp) [p] (wipe σ (own.map (·.2))) H' s' ∧ tn i s'.heap ∧ (∀ b ∈ fp, H' b = none) ∧ W i m H' := fun {s' H'} C' nx => by
        obtain ⟨m', lt, w'⟩ := later H' nx
        have held : ∀ b ∈ fp, ∀ o, s7.heap.get? b = some o → s'.heap.get? b = some o ∧ H' b = none := fun b hb o e => have z := C'.pin (b, o) (List.mem_append_right _ (List.mem_append_right _ (mem_pinsAt hb e))); ⟨z.1, z.2.1⟩
        refine ⟨m', lt, i + 1, H', (C'.unpinned (pins := [p])).weak (by rw [← hw, wipe_length]) (fun j v e => (wipe_some (by rw [hw]; exact e)).1), T.keep _ _ _ t7 fun b hb o e => (held b hb o e).1, fun b hb => ?_, w'⟩
        obtain ⟨o, e, _⟩ := T.obj _ _ t7 b hb
        exact (held b hb o e).2
      cases b with
      | false => exact turned C9 q9
      | true =>
        refine thnF (ge.run _ s9 σ8 H9 _ C9 q9) fun z s10 ⟨yv, H10, C10, r10, acc, hD, hz, nx⟩ => ?_
        exact app_ok (X := X.blk s3 H3 scope ce fp) C10 hD hz r10 fun s11 C11 => turned C11 nx
  exact codeAny_compStart_list body (T.self X.A 0 _ _ _ t4 body)
end
end L3

set_option Elab.async false
set_option linter.all false
set_option maxRecDepth 100000
set_option maxHeartbeats 2000000
namespace L3
open PySem PySem.Spec PyProof.Rows L2 HotX L2H
section
variable {X : Cx} {p : Addr × Obj}
/-- a list comprehension's value, while an exception is handled -/
theorem pe_lcH {elt tg iter : Expr} {ifs : List Expr} {scope : Scope} {own : List (Str × Nat)} {pos : Pos} {wi : TI} {g : TG} {tt : TT} {te : TE} (hot : HotC X) (nd : X.N.Nodup) (src : PIH X tg iter wi) (bk : BlkOk X.N X.env.scope scope own)
    (kg : ∀ s H C cl fp, PG (X.blk s H scope (compEnvC scope cl C X.env) fp) tg g) (kt : ∀ s H C cl fp, PTs (X.blk s H scope (compEnvC scope cl C X.env) fp) ifs tt) (ke : ∀ s H C cl fp, PE (X.blk s H scope (compEnvC scope cl C X.env) fp) elt te)
    (nf : ∀ x, foldedSetIterable iter X.env x = pure x) : PE X (.ListComp elt [⟨tg, iter, ifs, 0⟩] scope pos) (tLc wi g tt te (own.map (·.2))) := by
  refine ⟨fun pins s σ H Q I h => ?_⟩
  rw [eval_ListComp]
  refine lcH_core hot nd I src bk kg kt ke nf h fun D C s' m H' J q hn f => ⟨m, hn, fun h1 sb => ?_⟩
  obtain ⟨g0, g1, g2, g3, g4, g5⟩ := f
  exact ⟨.ref D, H', J.turned (t' := s'.toks) (fun b o hb e => (sb.2 b hb).trans e) g0 g1 g3 g4 g5, rfl, q⟩
/-- a list that is walked -/
theorem pih_list {l tg : Expr} {tl : TE} (hl : PE X l tl) : PIH X tg l (iList X.K tl) := by
  refine ⟨fun pins s σ H R I h => thn (hl.run pins s σ H _ I h) fun v s1 ⟨x, H1, I1, r1, a, e, ⟨xs, hq⟩, q⟩ => ?_⟩
  subst e
  cases r1
  obtain ⟨vs, rv, pl, _⟩ := I1.list hq
  refine wpAny_pyIter_list pl.isList ⟨s1.heap.objs.size, [s1.heap.objs.size], _, _, H1, rfl, I1.kept (t' := s1.toks) fun b o e => Heap.get?_push_of_some _ e, turnH_list a _, ⟨_, Heap.get?_push_size _ rfl, rfl, rfl⟩, fun b hb => ?_, q⟩
  rw [List.mem_singleton.mp hb]
  exact I1.fpOk (Nat.le_refl _) (I1.hok.fresh (Nat.le_refl _))
/-- isinstance of the exception that is handled -/
theorem call_isH {a D : Addr} {oe : Obj} (hp : (a, oe) ∈ X.pn) (C : ExcC X.K D) (hz : L2N.Zn (.ref D) none oe) (hf : ∃ vs, oe.data = .fields vs) : CallR X (.builtin "isinstance") (rIsE X.K D a) := by
  intro pins s σ H xs us Q I r h
  obtain ⟨c, cv, b, rfl, hcv, e, q⟩ := h
  match us, r with
  | [_, u2], .cons rx (.cons rt .nil) =>
    cases rx
    cases hcv u2 rt
    have hget := (I.pin (a, oe) (List.mem_append_left _ hp)).1
    obtain ⟨vs, hv⟩ := hf
    have J : PySem.W.InstAt s.heap a oe D none := by
      obtain ⟨oc, od, oda, osl⟩ := oe
      obtain ⟨z1, z2, _⟩ := hz
      dsimp only at z1 z2 hv
      subst z1 z2 hv
      exact ⟨hget, rfl, rfl, trivial⟩
    exact PySem.W.kia_one (PySem.W.handS_kitx_exc C.hg C.hk C.hs C.hd C.ha C.hn C.ht C.hm) I.kIn J e (fun z => nomatch z) fun tk => ⟨.bl b, H, I.kept (t' := tk) fun _ _ z => z, rfl, q⟩
end
end L3

set_option Elab.async false
set_option linter.all false
set_option maxRecDepth 100000
set_option maxHeartbeats 2000000
namespace L3
open PySem PySem.Spec PyProof.Rows L2 HotX L2H
/-- what a def promises of the exception that is handled -/
abbrev SpE : Type := Addr × Obj → Sp
structure FnE (P : Program) (w : World) (K : PySem.W.Frag) (mg : Str → Option Value) (base : Heap) (CX : CXT) (k : Nat) (f : Addr) (fd : FuncData) (ps : List Str) (sp : SpE) : Prop where
  len : ∀ p vs H Q E, sp p vs H Q E → vs.length = ps.length
  run : ∀ (p : Addr × Obj) (A : Around) (outer : List Env) (s : Shared) (H : Hp) (args : Args) (us : List Value) (vs : List V) (Q : VK) (E : XK), RoomH k A → Hot1 A p → PinOk outer H s p → Env0 P w K mg base A outer s H → BindsTo s fd args (ps.zip us) → Vals vs us → sp p vs H Q E →
    codeAny (model P w) A (.call (.ref f) args) (CR CX outer P w H s Q E) s
theorem fnE_of {CX : CXT} {P : Program} {w : World} {K : PySem.W.Frag} {mg : Str → Option Value} {base : Heap} {k : Nat} {f : Addr} {name qual : Str} {params : Arguments} {body : List Stmt} {scope : Scope} {dV kV doc pm cdv ct oc : Value} {an od : Option Addr} {osl : Array (Option Value)} {N ps : List Str} {sp : SpE}
    (lk : K.lookup f = some ⟨oc, od, .func (PySem.W.fnOf name qual params body scope dV kV doc pm an cdv ct), osl⟩) (hcd : PySem.W.codeIn K cdv qual = true) (S : FnScope N ps scope) (len : ∀ p vs H Q E, sp p vs H Q E → vs.length = ps.length)
    (hbody : ∀ (p : Addr × Obj) (A : Around) (outer : List Env) (s : Shared) (H : Hp) (vs : List V) (Q : VK) (E : XK), Hot1 A p → RoomH k (A.deeper (envOfC qual scope s.heap.objs.size f cdv)) → sp p vs H Q E →
      ∃ t, PSs (cxH CX P w K mg base N qual scope f cdv A outer s H E p) body t ∧ t { nx := fun _ H' => Q .non H', rt := Q } (L2.start N vs) H) :
    FnE P w K mg base CX (k + 1) f (PySem.W.fnOf name qual params body scope dV kV doc pm an cdv ct) ps sp := by
  refine ⟨len, fun p A outer s H args us vs Q E room hot pin e0 bind rel ask => ?_⟩
  have KX : K.In s.heap := e0.mod.kin.keeps fun b o e => (e0.bs b o e).1
  have kinds : ∀ y ∈ ps.zip us, scope.names.lookup y.1 = some .local ∨ (scope.names.lookup y.1 = some .cell ∧ ((cellsFrom (s.heap.objs.size + 1) scope.names []).lookup y.1).isSome = true) := fun y hy =>
    (S.par y.1 (List.of_mem_zip hy).1).elim .inl fun q => .inr ⟨q, PySem.W.cellsFrom_some _ _ _ (.inl q)⟩
  refine codeAny_call_function room.depth (KX _ _ lk) rfl S.co S.gen rfl (PySem.W.codeRec_of KX hcd) (bind _ _ _ _ (wpAny_newFunctionEnv_cells S.kind kinds fun env he s1 x => ?_))
  subst he
  refine ⟨(e0.mod.nolimit.keeps fun b o e => (e0.bs b o e).1).keeps x.toInCall.keep, codeAny_func ?_⟩
  obtain ⟨t, ht, hq⟩ := hbody p A outer s H vs Q E hot (room.deeper _) ask
  refine wpAny_mono (ht.run [] s1 (L2.start N vs) H _ (inv_startH S pin e0 (len _ _ _ _ _ ask) rel x) hq) (fun fl s' hs => ?_) fun _ _ z => z
  cases fl with
  | ret u =>
    obtain ⟨v, σ', H', J, rv, q⟩ := hs
    exact ⟨v, H', J.os, J.bare, J.base, J.hok, rv, q⟩
  | next =>
    obtain ⟨σ', H', J, q⟩ := hs
    exact ⟨.non, H', J.os, J.bare, J.base, J.hok, rfl, q⟩
  | brk => exact hs.elim fun _ z => z.elim fun _ z => z.2.elim
  | cont => exact hs.elim fun _ z => z.elim fun _ z => z.2.elim
section
variable {X : Cx} {CX : CXT} {k : Nat} {f : Addr} {fd : FuncData} {ps : List Str} {sp : SpE} {E : St → XK} {x : Str} {q pos : Pos} {e : Expr} {es : List Expr} {t : TA} {p : Addr × Obj}
theorem pe_callE (F : FnE X.prog X.w X.K X.mg X.base CX k f fd ps sp) (room : RoomH k X.A) (hot : Hot1 X.A p) (hp : p ∈ X.pn) (hg : Gl X x) (hm : X.mg x = some (.ref f)) (kp : PySem.W.keepIn X.K (.ref f) = true) (hb : Binds X.K fd ps []) (hx : ∀ σ, PassesAt CX X σ (E σ))
    (ha : PA X (e :: es) t) (hdb : (x == ("__debug__" : Str)) = false := by decide) (he : starEach (e :: es) X.env = (false, eval e X.env) :: starEach es X.env := by rfl) (hpl : (backTo pos (starEach es X.env)).any (·.1) = false := by rfl) :
    PE X (.Call (.Name x q) (e :: es) [] pos) (tCallS (sp p) E t) := by
  refine ⟨fun pins s σ H Q I h => wpAny_Call_Name_kw (ld_glob I hg hm (PySem.W.callWith_K (h₀ := X.base) I.ok.mod.kin kp (thn (ha.run pos pins s σ H _ I h) fun us s1 ⟨vs, H1, I1, r, ask⟩ => ⟨I1.kIn, ?_⟩) he hpl) hdb)⟩
  have bind := hb s1 us I1.kIn (by rw [List.append_nil, ← r.length]; exact F.len _ _ _ _ _ ask)
  rw [List.append_nil] at bind
  obtain ⟨p1, p2, p3, p4, p5⟩ := I1.pin p (List.mem_append_left _ hp)
  refine wpAny_call (codeAny_mono (F.run p X.A X.stack s1 H1 ⟨us, []⟩ us vs Q (E σ) room hot ⟨p1, p2, fun hm => (List.mem_cons.mp (I1.stkSub p.1 hm)).elim p3 p4, p5⟩ I1.env0 bind r ask) fun r s' hq => ?_)
  match r, hq with
  | .error er, hq => exact hx σ pins H1 s1 er s' I1 hq
  | .ok (.ret u), hq => exact I1.after hq
end
end L3

set_option Elab.async false
set_option linter.all false
set_option maxRecDepth 100000
set_option maxHeartbeats 2000000
namespace L3
open PySem PySem.Spec PyProof.Rows L2
/-! ### raise -/
/-- x names an own error class, its kind is n -/
structure ExF (G : GC) (mg : Str → Option Value) (x : Str) (n : Nat) : Prop where
  cls : G.cls n = .ref (He.ga G.K x)
  gl : mg x = some (.ref (He.ga G.K x))
  ok : (He.Fa.exc x).ok G.K = true
section
variable {ι : Type} {X : ι → Cx} {G : GC} {W : WX}
theorem sx_raise {P : Program} {w : World} {mg : Str → Option Value} {base : Heap} {k : Nat} {N : List Str} {x m : Str} {n j : Nat} {p p2 pos pos' : Pos} (c : Cxs P w G mg base k N W X) (F : ExF G mg x n) (hg : ∀ i, Gl (X i) x) (hdb : (x == ("__debug__" : Str)) = false := by decide) :
    SX X G W (.Raise (some (.Call (.Name x p) [.Constant (.str m) j p2] [] pos)) none pos') (fun ρ => .err n ρ) := by
  obtain ⟨q1, q2, q3, q4⟩ := He.exc_ok F.ok
  refine ⟨_, fun i => L2N.ps_raise (c.calm i) (c.tk i) (L2N.pmk_own (C := He.ga G.K x) PySem.F.excBase_ValueError (by rw [c.K i]; exact q1) (by rw [c.mg i]; exact F.gl) (by rw [c.K i]; exact q2) (raises_own (by rw [c.K i]; exact q3) (by rw [c.K i]; exact q4)) (hg i) hdb), ?_⟩
  intro F' ρ σ S M H D hF s h
  have h : ∀ σ' S' M' H', Ext S S' → SR F' ρ σ' S' M' H' → W (F'.g.cls n) none σ' H' := h
  have := h σ S M H (Ext.refl S) s
  rw [hF, F.cls] at this
  exact this
end
end L3

set_option Elab.async false
set_option linter.all false
set_option maxRecDepth 100000
set_option maxHeartbeats 1000000
namespace L3
open PySem PySem.Spec PyProof.Rows L2
/-! ### what _law_word answers -/
theorem boot_VE : bootBuiltins "ValueError" = some (.type "ValueError") := by decide +kernel
abbrev tIs (K : PySem.W.Frag) (D a c : Addr) : TE := tCB (rIsE K D a) (tCons (tVar 0) (tCons (tC (.ref c)) tNil))
abbrev tKinds (K : PySem.W.Frag) (D a c1 c2 c3 c4 c5 : Addr) : TE := tLst (tCons (tIs K D a c1) (tCons (tIs K D a c2) (tCons (tIs K D a c3) (tCons (tIs K D a c4) (tCons (tIs K D a c5) tNil)))))
abbrev tTrue (K : PySem.W.Frag) : TE := tLc (iList K (tVar 1)) (gName 2) (tB (tVar 2)) (tVar 2) [2]
abbrev tWords : TE := tLst (tCons (tC (.str "range")) (tCons (tC (.str "form")) (tCons (tC (.str "none")) (tCons (tC (.str "refused")) (tCons (tC (.str "much")) tNil)))))
abbrev tOne (K : PySem.W.Frag) : TT := tTest (tOp rNe (tCB (fun xs H Q => ∃ x n, xs = [x] ∧ LenV K x H n ∧ Q (.int n) H) (tCons (tTrue K) tNil)) (tC (.int 1)))
abbrev tSay (K : PySem.W.Frag) : TS := tRet (tOp (rIx K) tWords (tBM K "list" (rIndex K) (tVar 1) (tCons (tC (.bl true)) tNil)))
def tWord (K : PySem.W.Frag) (D a c1 c2 c3 c4 c5 : Addr) : TS := tSeq (tAsg (tKinds K D a c1 c2 c3 c4 c5) (gName 1)) (tSeq (tIfS (tOne K) (tRet (tC (.str "many"))) tNext) (tSay K))
section
variable {K : PySem.W.Frag} {H : Hp}
theorem true_ok {q : Addr} {bs : List Bool} {σ : L2.St} {Q : VK} (h1 : σ[1]? = some (some (.ref q))) (hq : H q = some (.lst (bs.map V.bl))) (h2 : 2 < σ.length) (hl : bs.length < 100) (k : ∀ D, H D = none → Q (.ref D) (upd H D (.lst ((bs.filter id).map V.bl)))) : tTrue K σ H Q := by
  refine ⟨.ref q, h1, q, rfl, ⟨_, SqL.of hq⟩, fun D hD => ?_⟩
  have nqD : q ≠ D := fun z => by rw [z, hD] at hq; cases hq
  refine lc_list (K := K) (a := q) (xs := bs.map V.bl) (fun i H' => H' = upd H D (.lst (((bs.take i).filter id).map V.bl))) rfl (fun i H' _ e => ?_) (fun i x H' hx e => ?_) (fun H' e => ?_)
  · subst e
    exact SqL.of (by rw [upd_ne nqD]; exact hq)
  · subst e
    rw [List.getElem?_map] at hx
    cases hb : bs[i]? with
    | none => rw [hb] at hx; cases hx
    | some b =>
      rw [hb] at hx
      cases hx
      have hi : i < bs.length := (List.getElem?_eq_some_iff.mp hb).1
      have hbi : bs[i] = b := (List.getElem?_eq_some_iff.mp hb).2
      have htk : bs.take (i + 1) = bs.take i ++ [b] := by rw [List.take_add_one, hb]; rfl
      have hv : ((wipe σ [2]).set 2 (some (V.bl b)))[2]? = some (some (V.bl b)) := by
        rw [List.getElem?_set_self]
        show 2 < (wipe σ [2]).length
        rw [wipe_length]; exact h2
      refine ⟨?_, V.bl b, hv, b, rfl, ?_⟩
      · show ((wipe σ [2]).set 2 _).set 2 none = (σ.set 2 none)
        show ((σ.set 2 none).set 2 _).set 2 none = _
        rw [List.set_set, List.set_set]
      · cases b with
        | false =>
          show upd H D _ = upd H D _
          rw [htk, List.filter_append]
          simp
        | true =>
          refine ⟨V.bl true, hv, _, upd_same, ?_, ?_⟩
          · rw [List.length_map, sizeLine_eq]
            have := List.length_filter_le id (bs.take i)
            have h3 : (bs.take i).length ≤ bs.length := by rw [List.length_take]; omega
            omega
          · rw [upd_upd, htk, List.filter_append, List.map_append]
            rfl
  · subst e
    rw [List.length_map, List.take_length]
    exact k D hD
theorem one_ok {σ : L2.St} {Qb : Bool → Hp → Prop} (h : tTrue K σ H (fun v H2 => ∃ x n, [v] = [x] ∧ LenV K x H2 n ∧ rNe (.int (n : Nat)) (.int 1) H2 (fun z H3 => ∃ k, z = .bl k ∧ Qb k H3))) : tOne K σ H Qb := h
def words : List Str := ["range", "form", "none", "refused", "much"]
/-- the only kind that is true, its place -/
def oneAt (bs : List Bool) (j : Nat) : Prop := bs.length = 5 ∧ (bs.filter id).length = 1 ∧ bs[j]? = some true ∧ ∀ m, m < j → bs[m]? = some false
theorem word_ok {D a c1 c2 c3 c4 c5 : Addr} {b1 b2 b3 b4 b5 : Bool} {j : Nat} {wd : Str} {Q : VK} (k1 : PySem.W.kitOne K (.ref D) (.ref c1) = some b1) (k2 : PySem.W.kitOne K (.ref D) (.ref c2) = some b2) (k3 : PySem.W.kitOne K (.ref D) (.ref c3) = some b3) (k4 : PySem.W.kitOne K (.ref D) (.ref c4) = some b4) (k5 : PySem.W.kitOne K (.ref D) (.ref c5) = some b5)
    (o : oneAt [b1, b2, b3, b4, b5] j) (hw : words[j]? = some wd) (q : ∀ H', (∀ b u, H b = some u → H' b = some u) → Q (.str wd) H') : tWord K D a c1 c2 c3 c4 c5 { nx := fun _ H' => Q .non H', rt := Q } [some (.ref a), none, none] H := by
  have is : ∀ {c : Addr} {b : Bool} {H1 : Hp} {R : VK}, PySem.W.kitOne K (.ref D) (.ref c) = some b → R (.bl b) H1 → tIs K D a c [some (.ref a), none, none] H1 R := fun {c b H1 R} e r => ⟨.ref a, rfl, .ref c, .ref c, b, rfl, fun u z => z, e, r⟩
  refine is k1 (is k2 (is k3 (is k4 (is k5 ⟨by show 5 ≤ sizeLine; rw [sizeLine_eq]; omega, fun p hp => ?_⟩))))
  generalize hH1 : upd H p (.lst [V.bl b1, .bl b2, .bl b3, .bl b4, .bl b5]) = H1
  have hq : H1 p = some (.lst ([b1, b2, b3, b4, b5].map V.bl)) := by rw [← hH1]; exact upd_same
  have up1 : ∀ b u, H b = some u → H1 b = some u := fun b u e => by rw [← hH1, upd_ne (ne_of_none e hp)]; exact e
  show tIfS (tOne K) _ _ _ [some (.ref a), some (.ref p), none] H1
  show tOne K [some (.ref a), some (.ref p), none] H1 _
  refine one_ok ?_
  refine true_ok (K := K) (H := H1) (q := p) (bs := [b1, b2, b3, b4, b5]) (σ := [some (.ref a), some (.ref p), none]) rfl hq (by simp) (by simp) fun D' hD' => ?_
  obtain ⟨o1, o2, o3, o4⟩ := o
  have hj : j < 5 := by
    have := (List.getElem?_eq_some_iff.mp o3).1
    simpa using this
  refine ⟨_, 1, rfl, .inl ⟨_, SqL.of upd_same, by rw [List.length_map, o2]⟩, rfl, false, by simp, ?_⟩
  show tSay K _ [some (.ref a), some (.ref p), none] (upd H1 D' _)
  generalize hH2 : upd H1 D' (.lst (([b1, b2, b3, b4, b5].filter id).map V.bl)) = H2
  have up2 : ∀ b u, H1 b = some u → H2 b = some u := fun b u e => by rw [← hH2, upd_ne (ne_of_none e hD')]; exact e
  refine ⟨by show 5 ≤ sizeLine; rw [sizeLine_eq]; omega, fun r hr => ?_⟩
  generalize hH3 : upd H2 r (.lst [V.str "range", .str "form", .str "none", .str "refused", .str "much"]) = H3
  have up3 : ∀ b u, H2 b = some u → H3 b = some u := fun b u e => by rw [← hH3, upd_ne (ne_of_none e hr)]; exact e
  have hq3 : H3 p = some (.lst ([b1, b2, b3, b4, b5].map V.bl)) := up3 _ _ (up2 _ _ hq)
  have hr3 : H3 r = some (.lst (words.map V.str)) := by rw [← hH3]; exact upd_same
  refine ⟨.ref p, rfl, .inl ⟨rfl, _, SqL.of hq3⟩, p, _, .bl true, j, .bl true, rfl, rfl, SqL.of hq3, rfl, rfl, by rw [List.getElem?_map, o3]; rfl, rfl, fun m z hm hz => ?_, ?_⟩
  · rw [List.getElem?_map, o4 m hm] at hz
    cases hz
    rfl
  · refine .inl ⟨r, _, (j : Int), .str wd, rfl, rfl, SqL.of hr3, ?_, q H3 fun b u e => up3 _ _ (up2 _ _ (up1 _ _ e))⟩
    have := atI_nat (xs := words.map V.str) (n := j) (by simpa [words] using hj)
    rw [this, List.getElem?_map, hw]
    rfl
abbrev tIsV (K : PySem.W.Frag) (D a : Addr) : TE := tCB (rIsE K D a) (tCons (tVar 0) (tCons (tC (.ty "ValueError")) tNil))
abbrev tOneV (K : PySem.W.Frag) (D a : Addr) : TT := tOr (tNot (tB (tIsV K D a))) (tOne K)
def tWordV (K : PySem.W.Frag) (D a c1 c2 c3 c4 c5 : Addr) : TS := tSeq (tAsg (tKinds K D a c1 c2 c3 c4 c5) (gName 1)) (tSeq (tIfS (tOneV K D a) (tRet (tC (.str "many"))) tNext) (tSay K))
theorem word_okV {D a c1 c2 c3 c4 c5 : Addr} {b1 b2 b3 b4 b5 : Bool} {j : Nat} {wd : Str} {Q : VK} (k1 : PySem.W.kitOne K (.ref D) (.ref c1) = some b1) (k2 : PySem.W.kitOne K (.ref D) (.ref c2) = some b2) (k3 : PySem.W.kitOne K (.ref D) (.ref c3) = some b3) (k4 : PySem.W.kitOne K (.ref D) (.ref c4) = some b4) (k5 : PySem.W.kitOne K (.ref D) (.ref c5) = some b5)
    (kv : PySem.W.kitOne K (.ref D) (.type "ValueError") = some true) (o : oneAt [b1, b2, b3, b4, b5] j) (hw : words[j]? = some wd) (q : ∀ H', (∀ b u, H b = some u → H' b = some u) → Q (.str wd) H') : tWordV K D a c1 c2 c3 c4 c5 { nx := fun _ H' => Q .non H', rt := Q } [some (.ref a), none, none] H := by
  have is : ∀ {c : Addr} {b : Bool} {H1 : Hp} {R : VK}, PySem.W.kitOne K (.ref D) (.ref c) = some b → R (.bl b) H1 → tIs K D a c [some (.ref a), none, none] H1 R := fun {c b H1 R} e r => ⟨.ref a, rfl, .ref c, .ref c, b, rfl, fun u z => z, e, r⟩
  refine is k1 (is k2 (is k3 (is k4 (is k5 ⟨by show 5 ≤ sizeLine; rw [sizeLine_eq]; omega, fun p hp => ?_⟩))))
  generalize hH1 : upd H p (.lst [V.bl b1, .bl b2, .bl b3, .bl b4, .bl b5]) = H1
  have hq : H1 p = some (.lst ([b1, b2, b3, b4, b5].map V.bl)) := by rw [← hH1]; exact upd_same
  have up1 : ∀ b u, H b = some u → H1 b = some u := fun b u e => by rw [← hH1, upd_ne (ne_of_none e hp)]; exact e
  show tIfS (tOneV K D a) _ _ _ [some (.ref a), some (.ref p), none] H1
  refine ⟨.ref a, rfl, .ty "ValueError", .type "ValueError", true, rfl, fun u z => z, kv, true, rfl, ?_⟩
  show tOne K [some (.ref a), some (.ref p), none] H1 _
  refine one_ok ?_
  refine true_ok (K := K) (H := H1) (q := p) (bs := [b1, b2, b3, b4, b5]) (σ := [some (.ref a), some (.ref p), none]) rfl hq (by simp) (by simp) fun D' hD' => ?_
  obtain ⟨o1, o2, o3, o4⟩ := o
  have hj : j < 5 := by
    have := (List.getElem?_eq_some_iff.mp o3).1
    simpa using this
  refine ⟨_, 1, rfl, .inl ⟨_, SqL.of upd_same, by rw [List.length_map, o2]⟩, rfl, false, by simp, ?_⟩
  show tSay K _ [some (.ref a), some (.ref p), none] (upd H1 D' _)
  generalize hH2 : upd H1 D' (.lst (([b1, b2, b3, b4, b5].filter id).map V.bl)) = H2
  have up2 : ∀ b u, H1 b = some u → H2 b = some u := fun b u e => by rw [← hH2, upd_ne (ne_of_none e hD')]; exact e
  refine ⟨by show 5 ≤ sizeLine; rw [sizeLine_eq]; omega, fun r hr => ?_⟩
  generalize hH3 : upd H2 r (.lst [V.str "range", .str "form", .str "none", .str "refused", .str "much"]) = H3
  have up3 : ∀ b u, H2 b = some u → H3 b = some u := fun b u e => by rw [← hH3, upd_ne (ne_of_none e hr)]; exact e
  have hq3 : H3 p = some (.lst ([b1, b2, b3, b4, b5].map V.bl)) := up3 _ _ (up2 _ _ hq)
  have hr3 : H3 r = some (.lst (words.map V.str)) := by rw [← hH3]; exact upd_same
  refine ⟨.ref p, rfl, .inl ⟨rfl, _, SqL.of hq3⟩, p, _, .bl true, j, .bl true, rfl, rfl, SqL.of hq3, rfl, rfl, by rw [List.getElem?_map, o3]; rfl, rfl, fun m z hm hz => ?_, ?_⟩
  · rw [List.getElem?_map, o4 m hm] at hz
    cases hz
    rfl
  · refine .inl ⟨r, _, (j : Int), .str wd, rfl, rfl, SqL.of hr3, ?_, q H3 fun b u e => up3 _ _ (up2 _ _ (up1 _ _ e))⟩
    have := atI_nat (xs := words.map V.str) (n := j) (by simpa [words] using hj)
    rw [this, List.getElem?_map, hw]
    rfl
/-- the promise of _law_word -/
def spWord (K : PySem.W.Frag) (c1 c2 c3 c4 c5 : Addr) : SpE := fun p vs H Q _ => vs = [.ref p.1] ∧ ∃ (D : Addr) (b1 b2 b3 b4 b5 : Bool) (j : Nat) (wd : Str), L2N.Zn (.ref D) none p.2 ∧ (∃ us, p.2.data = .fields us) ∧ ExcC K D ∧
  (PySem.W.kitOne K (.ref D) (.ref c1) = some b1 ∧ PySem.W.kitOne K (.ref D) (.ref c2) = some b2 ∧ PySem.W.kitOne K (.ref D) (.ref c3) = some b3 ∧ PySem.W.kitOne K (.ref D) (.ref c4) = some b4 ∧ PySem.W.kitOne K (.ref D) (.ref c5) = some b5) ∧ PySem.W.kitOne K (.ref D) (.type "ValueError") = some true ∧
  oneAt [b1, b2, b3, b4, b5] j ∧ words[j]? = some wd ∧ ∀ H', (∀ b u, H b = some u → H' b = some u) → Q (.str wd) H'
end
end L3

set_option Elab.async false
set_option linter.all false
set_option maxRecDepth 100000
set_option maxHeartbeats 1000000
namespace L3
open PySem PySem.Spec PyProof.Rows L2 HotX L2H
section
variable {F : FC} {ρ : En} {σ : St} {S M H : Hp}
theorem SR.lose (R : SR F ρ σ S M H) (i : Nat) (x : Option V) : SR F (ρ.set i .un) (σ.set i x) S M H := by
  refine ⟨by rw [List.length_set, List.length_set]; exact R.len, R.sub, R.own, R.dis, R.keep, R.bth, R.tab, R.kind, fun j sl v hj ej => ?_, fun j k a b hjk ha hb oa ob => ?_⟩
  · rcases set_look hj with ⟨_, e, _⟩ | ⟨hij, e⟩
    · subst e; trivial
    · rw [List.getElem?_set_ne hij] at ej
      exact R.slot j sl v e ej
  · rcases set_look ha with ⟨_, e, _⟩ | ⟨h1, e1⟩
    · subst e; cases oa
    · rcases set_look hb with ⟨_, e, _⟩ | ⟨h2, e2⟩
      · subst e; cases ob
      · rw [List.getElem?_set_ne h1, List.getElem?_set_ne h2]
        exact R.sep j k a b hjk e1 e2 oa ob
theorem SR.up (R : SR F ρ σ S M H) {H' : Hp} (e : ∀ b u, H b = some u → H' b = some u) : SR F ρ σ S M H' :=
  ⟨R.len, fun a o h => e a o (R.sub a o h), fun a o h => e a o (R.own a o h), R.dis, R.keep, R.bth, fun a ha => by
    obtain ⟨⟨ps, h1, h2⟩, h3⟩ := R.tab a ha
    exact ⟨⟨ps, e _ _ h1, h2⟩, h3⟩, R.kind, R.slot, R.sep⟩
end
/-! ### try: body, except Own as e: return _law_word(e) -/
def tryF (i : Nat) (f : P Fl) (wd : Nat → Option Str) : P Fl := fun ρ => match f ρ with
  | .err k ρ' => (match wd k with
    | some x => if i < ρ'.length then .ok (.rt (.val (.str x))) (ρ'.set i .un) else .no
    | none => .no)
  | r => r
abbrev TrIx {ι : Type} (X : ι → Cx) (W : WX) : Type := { x : ι × List (Addr × Obj) × (Value → Shared → Prop) // L2N.Takes ((X x.1).tr x.2.1 x.2.2) W ∧ PassesOwn (model (X x.1).prog (X x.1).w) (X x.1).A (X x.1).env x.2.2 }
def trX {ι : Type} (X : ι → Cx) (W : WX) : TrIx X W → Cx := fun x => (X x.1.1).tr x.1.2.1 x.1.2.2
theorem cxs_tr {ι : Type} {P : Program} {w : World} {G : GC} {mg : Str → Option Value} {base : Heap} {k : Nat} {N : List Str} {W : WX} {X : ι → Cx} (c : Cxs P w G mg base k N W X) (W' : WX) : Cxs P w G mg base k N W' (trX X W') where
  prog := fun i => c.prog i.1.1
  w := fun i => c.w i.1.1
  K := fun i => c.K i.1.1
  mg := fun i => c.mg i.1.1
  base := fun i => c.base i.1.1
  calm := fun i => c.calm i.1.1
  room := fun i => c.room i.1.1
  names := fun i => c.names i.1.1
  nd := c.nd
  tk := fun i => i.2.1
/-- what the suite does -/
def tSuite (K : PySem.W.Frag) (i : Nat) (c1 c2 c3 c4 c5 : Addr) : Addr → Value → Option Addr → TS := fun a cls d D σ H => ∀ oe : Obj, L2N.Zn cls d oe → (∃ us, oe.data = .fields us) → tRet (tCallS (spWord K c1 c2 c3 c4 c5 (a, oe)) (fun _ _ _ _ => False) (tCons (tVar i) tNil)) D σ H
end L3

set_option Elab.async false
set_option linter.all false
set_option maxRecDepth 100000
set_option maxHeartbeats 1000000
namespace L3
open PySem PySem.Spec PyProof.Rows L2 HotX L2H
/-- what is known of the kinds of errors that a try catches -/
def KindOk (G : GC) (cc c1 c2 c3 c4 c5 : Addr) (wd : Nat → Option Str) : Prop := ∀ n x, wd n = some x → ∃ (D : Addr) (b1 b2 b3 b4 b5 : Bool) (j : Nat), G.cls n = .ref D ∧ PySem.W.exmOne G.K (.ref D) (.ref cc) = some true ∧ ExcC G.K D ∧
  (PySem.W.kitOne G.K (.ref D) (.ref c1) = some b1 ∧ PySem.W.kitOne G.K (.ref D) (.ref c2) = some b2 ∧ PySem.W.kitOne G.K (.ref D) (.ref c3) = some b3 ∧ PySem.W.kitOne G.K (.ref D) (.ref c4) = some b4 ∧ PySem.W.kitOne G.K (.ref D) (.ref c5) = some b5) ∧ PySem.W.kitOne G.K (.ref D) (.type "ValueError") = some true ∧ oneAt [b1, b2, b3, b4, b5] j ∧ words[j]? = some x
theorem ev_tryF {G : GC} {W : WX} {i : Nat} {cc c1 c2 c3 c4 c5 : Addr} {f : P Fl} {wd : Nat → Option Str} {tb : WX → TS} (hk : KindOk G cc c1 c2 c3 c4 c5 wd) (ev : ∀ W', EvS G W' (tb W') f) :
    EvS G W (fun D σ H => tb (wAs G.K (.ref cc) i (tSuite G.K i c1 c2 c3 c4 c5) W D) D σ H) (tryF i f wd) := by
  intro F ρ σ S M H D hg s p
  refine ev _ F ρ σ S M H D hg s ?_
  unfold tryF at p
  cases hf : f ρ with
  | no => rw [hf] at p; exact p
  | ok fl ρ' => rw [hf] at p; exact p
  | err k ρ' =>
    rw [hf] at p
    cases hw : wd k with
    | none =>
      have p : ((match wd k with | some x => if i < ρ'.length then .ok (.rt (.val (.str x))) (ρ'.set i .un) else .no | none => .no : Res Fl)).post _ _ := p
      rw [hw] at p
      exact p.elim
    | some x =>
      have p : ((match wd k with | some x => if i < ρ'.length then .ok (.rt (.val (.str x))) (ρ'.set i .un) else .no | none => .no : Res Fl)).post _ _ := p
      rw [hw] at p
      by_cases hlt : i < ρ'.length
      case neg =>
        have p : ((if i < ρ'.length then .ok (.rt (.val (.str x))) (ρ'.set i .un) else .no : Res Fl)).post _ _ := p
        rw [if_neg hlt] at p
        exact p.elim
      have p : ((if i < ρ'.length then .ok (.rt (.val (.str x))) (ρ'.set i .un) else .no : Res Fl)).post _ _ := p
      rw [if_pos hlt] at p
      obtain ⟨K1, b1, b2, b3, b4, b5, j, e1, e2, e3, ks, kv, o, hx⟩ := hk k x hw
      intro σ' S' M' H' eS s'
      refine ⟨true, by rw [hg, e1]; exact e2, fun _ a ha oe hz hu => ?_, fun z => by cases z⟩
      rw [hg, e1] at hz
      have hl : i < σ'.length := by rw [← s'.len]; exact hlt
      refine ⟨.ref a, by rw [List.getElem?_set_self hl], rfl, K1, b1, b2, b3, b4, b5, j, x, hz, hu, e3, ks, kv, o, hx, fun H2 up => ?_⟩
      exact p (σ'.set i (some (.ref a))) S' M' H2 eS ((s'.up up).lose i (some (.ref a))) (.str x) (.str x)
theorem sx_tryW {ι : Type} {X : ι → Cx} {G : GC} {W : WX} {Pg : Program} {w : World} {mg : Str → Option Value} {base : Heap} {k kw : Nat} {N : List Str} (c : Cxs Pg w G mg base k N W X) (i : Nat) {xc : Str} {cc c1 c2 c3 c4 c5 fw : Addr} {fd : FuncData} {wd : Nat → Option Str} {f : P Fl} {body : List Stmt} {np p1 p2 p3 p4 p5 pos : Pos}
    (hs : ∀ l, (X l).stack = (X l).env :: (X l).outer) (hf : ∀ l, (X l).env.frame = some (X l).env.locals) (hi : N[i]? = some ("e" : Str)) (hln : ∀ l, (X l).env.kindOf "e" = some .local) (hv : ∀ l, Vis (X l).env.scope "e") (gC : ∀ l, Gl (X l) xc) (mC : mg xc = some (.ref cc)) (hdb : (xc == ("__debug__" : Str)) = false)
    (FW : FnE Pg w G.K mg base (L2N.CX Pg w) kw fw fd ["e"] (spWord G.K c1 c2 c3 c4 c5)) (hkw : kw ≤ k) (gW : ∀ l, Gl (X l) "_law_word") (mW : mg "_law_word" = some (.ref fw)) (kp : PySem.W.keepIn G.K (.ref fw) = true) (hb : Binds G.K fd ["e"] []) (hk : KindOk G cc c1 c2 c3 c4 c5 wd) (hbody : ∀ W', SXs (trX X W') G W' body f) :
    SX X G W (.Try body [.ExceptHandler (some (.Name xc np)) (some "e") [.Return (some (.Call (.Name "_law_word" p1) [.Name "e" p2] [] p3)) p4] p5] [] [] pos) (tryF i f wd) := by
  refine ⟨_, fun l => ?_, ev_tryF (tb := fun W' => (hbody W').choose) hk fun W' => (hbody W').choose_spec.2⟩
  have hN := c.names l
  rw [← c.K l]
  refine L2N.ps_try_as (hs l) (hf l) (by rw [hN]; exact c.nd) (by rw [hN]; exact hi) (hln l) ⟨gC l, hdb, .inl (by rw [c.mg l]; exact mC)⟩ (c.tk l) (fun W' pn xe tk own => (hbody W').choose_spec.1 ⟨(l, pn, xe), tk, own⟩) fun a oe cls d pn hz hu => ?_
  have hot : Hot1 ((X l).suite a ((a, oe) :: pn)).A (a, oe) := by
    obtain ⟨us, e⟩ := hu
    exact ⟨rfl, us, e, hz.2.2 us e⟩
  have pe := pe_callE (X := (X l).suite a ((a, oe) :: pn)) (CX := L2N.CX Pg w) (k := kw) (f := fw) (fd := fd) (ps := ["e"]) (sp := spWord G.K c1 c2 c3 c4 c5) (E := fun _ _ _ _ => False) (e := .Name "e" p2) (es := []) (x := "_law_word") (q := p1) (pos := p3) (p := (a, oe)) (by
    rw [show ((X l).suite a ((a, oe) :: pn)).prog = Pg from c.prog l, show ((X l).suite a ((a, oe) :: pn)).w = w from c.w l, show ((X l).suite a ((a, oe) :: pn)).K = G.K from c.K l, show ((X l).suite a ((a, oe) :: pn)).mg = mg from c.mg l, show ((X l).suite a ((a, oe) :: pn)).base = base from c.base l]
    exact FW) (⟨((c.room l).mono hkw).dp, ((c.room l).mono hkw).un⟩) hot List.mem_cons_self (gW l) (by show (X l).mg _ = _; rw [c.mg l]; exact mW) (by show PySem.W.keepIn (X l).K _ = true; rw [c.K l]; exact kp) (by show Binds (X l).K _ _ _; rw [c.K l]; exact hb) (fun σ pins H s e s' I cx => by
      obtain ⟨_, _, _, _, _, _, _, _, _, _, _, _, z⟩ := cx
      exact z) (pa_cons (pe_var (i := i) (by show (X l).N[i]? = _; rw [hN]; exact hi) (hv l)) pa_nil)
  have ps := pss_one (ps_ret (pos := p4) pe)
  refine ⟨fun pins s σ H D I h => ps.run pins s σ H D I ?_⟩
  have h := h oe hz hu
  rw [c.K l] at h
  exact h
end L3

set_option Elab.async false
set_option linter.all false
set_option maxRecDepth 100000
set_option maxHeartbeats 1000000
namespace L3
open PySem PySem.Spec PyProof.Rows L2
/-! ### built-in functions by an import -/
theorem pe_callBG {X : Cx} {id : String} {x : Str} {p pos : Pos} {e : Expr} {es : List Expr} {t : TA} {r : List V → Hp → VK → Prop} (hc : CallR X (.builtin id) r) (hg : Gl X x) (hm : X.mg x = some (.builtin id)) (ha : PA X (e :: es) t) (hdb : (x == ("__debug__" : Str)) = false)
    (he : starEach (e :: es) X.env = (false, eval e X.env) :: starEach es X.env) (hpl : (backTo pos (starEach es X.env)).any (·.1) = false) : PE X (.Call (.Name x p) (e :: es) [] pos) (tCB r t) :=
  ⟨fun pins s σ H Q I h => wpAny_Call_Name_kw (ld_glob I hg hm (PyProof.Rows.callWith_builtin1 (thn (ha.run pos pins s σ H _ I h) fun us s1 ⟨vs, H1, I1, r1, q1⟩ => hc pins s1 σ H1 vs us Q I1 r1 q1) he hpl) hdb)⟩
section
variable {ι : Type} {X : ι → Cx} {G : GC} {W : WX} {pos : Pos} {a b : Expr} {qa qb : Opd}
def gcdD : D → D → Option RV
  | .int i, .int j => some (.val (.int ((Nat.gcd i.natAbs j.natAbs : Nat) : Int)))
  | _, _ => none
theorem rx_gcd {x : Str} {p : Pos} (hg : ∀ i, Gl (X i) x) (hm : ∀ i, (X i).mg x = some (.builtin "math.gcd")) (hdb : (x == ("__debug__" : Str)) = false) (ha : AX X G W [a, b] [qa, qb])
    (he : ∀ i, starEach [a, b] (X i).env = (false, eval a (X i).env) :: starEach [b] (X i).env) (hpl : ∀ i, (backTo pos (starEach [b] (X i).env)).any (·.1) = false) : RX X G W (.Call (.Name x p) [a, b] [] pos) (args [qa, qb] (f2 gcdD)) := by
  obtain ⟨ts, pa, ev⟩ := ha
  refine ⟨_, fun i => pe_callBG cr_gcd (hg i) (hm i) (pa i) hdb (he i) (hpl i), ev_call ev ?_⟩
  intro F ρ σ S M H Q vs ds hgg s hl rb pp
  obtain ⟨v, w, d, d2, rfl, rfl, r, r2⟩ := rpBs2 hl rb
  obtain ⟨rv, e, pp⟩ := pr_opt (o := gcdD d d2) pp
  unfold gcdD at e
  split at e
  · cases e; exact ⟨_, _, by rw [r.int, r2.int], PR.val s (.int _) pp⟩
  · cases e
end

/-! ### _law_word, the try over it, by the head's names -/
abbrev spWordG (K : PySem.W.Frag) : SpE := spWord K (He.ga K "OutOfRange") (He.ga K "Malformed") (He.ga K "NotThere") (He.ga K "Refused") (He.ga K "TooMuch")
def OkE (P : Program) (w : World) (G : GC) (mg : Str → Option Value) (base : Heap) (k : Nat) (st : Stmt) : Prop :=
  ∃ fd, Df G mg "_law_word" st ["e"] fd ∧ FnE P w G.K mg base (L2N.CX P w) k (He.fAd G.K ("_law_word", none)) fd ["e"] (spWordG G.K)
def wordOf (n : Nat) : Option Str := words[n]?
theorem sx_tryD {ι : Type} {X : ι → Cx} {G : GC} {W : WX} {Pg : Program} {w : World} {mg : Str → Option Value} {base : Heap} {k kw : Nat} {N : List Str} {st : Stmt} (c : Cxs Pg w G mg base k N W X) (i : Nat) {f : P Fl} {body : List Stmt} {np p1 p2 p3 p4 p5 pos : Pos}
    (hs : ∀ l, (X l).stack = (X l).env :: (X l).outer) (hf : ∀ l, (X l).env.frame = some (X l).env.locals) (hi : N[i]? = some ("e" : Str)) (hln : ∀ l, (X l).env.kindOf "e" = some .local) (hv : ∀ l, Vis (X l).env.scope "e") (gC : ∀ l, Gl (X l) "CampError") (mC : mg "CampError" = some (.ref (He.ga G.K "CampError")))
    (o : OkE Pg w G mg base kw st) (hkw : kw ≤ k) (gW : ∀ l, Gl (X l) "_law_word") (hk : KindOk G (He.ga G.K "CampError") (He.ga G.K "OutOfRange") (He.ga G.K "Malformed") (He.ga G.K "NotThere") (He.ga G.K "Refused") (He.ga G.K "TooMuch") wordOf) (hbody : ∀ W', SXs (trX X W') G W' body f) :
    SX X G W (.Try body [.ExceptHandler (some (.Name "CampError" np)) (some "e") [.Return (some (.Call (.Name "_law_word" p1) [.Name "e" p2] [] p3)) p4] p5] [] [] pos) (tryF i f wordOf) := by
  obtain ⟨fd, D, F⟩ := o
  exact sx_tryW c i hs hf hi hln hv gC mC (by decide) F hkw gW D.gl D.kp D.bd hk hbody
end L3

set_option Elab.async false
set_option linter.all false
set_option maxRecDepth 100000
set_option maxHeartbeats 1000000
namespace L3
open PySem PySem.Spec PyProof.Rows L2
/-! ### a number by its text: int(a + b * n), all constants -/
def repS (b : Str) (n : Nat) : Str := ⟨(List.replicate n b.cps).foldl (· ++ ·) #[]⟩
def rStrMul : R2 := fun x y H Q => ∃ (b : Str) (n : Int), x = .str b ∧ y = .int n ∧ 1 < n ∧ n ≤ 1000 ∧ 0 < b.length ∧ b.length ≤ 1000 ∧ (repS b n.toNat).length ≤ sizeLine ∧ Q (.str (repS b n.toNat)) H
theorem op_strMul {X : Cx} : OpR X (binaryOp .Mult) rStrMul := by
  intro pins s σ H x y v u Q I rx ry h
  obtain ⟨b, n, rfl, rfl, h1, h2, h3, h4, h5, q⟩ := h
  obtain ⟨t, rfl⟩ := rx
  obtain ⟨t', rfl⟩ := ry
  have e1 : (n == 1 || b.length == 0) = false := by simp; omega
  refine P.mul_str ?_ (fun _ _ => ?_) (fun _ _ => ?_) ?_
  · have a1 : ¬ n < -(2 ^ 63 : Int) := by omega
    have a2 : ¬ n ≥ 2 ^ 63 := by omega
    rw [decide_eq_false a1, decide_eq_false a2]; rfl
  · have m : (b.length : Int) * n ≤ 1000 * 1000 := Int.mul_le_mul (by omega) h2 (by omega) (by omega)
    have : (b.length : Int) ≤ (2 ^ 63 - 1) / n := (Int.le_ediv_iff_mul_le (by omega)).mpr (by omega)
    omega
  · have m : b.length * n.toNat ≤ 1000 * 1000 := Nat.mul_le_mul h4 (by omega)
    show decide (b.length * n.toNat > sizeLine) = false
    rw [sizeLine_eq]
    exact decide_eq_false (by omega)
  · rw [if_neg (by omega), e1, if_neg (by decide)]
    exact ⟨h5, .str (repS b n.toNat), H, I.tok _, ⟨_, rfl⟩, q⟩

/-- int(a + b * n) of constants -/
theorem rx_intTextC {ι : Type} {X : ι → Cx} {G : GC} {W : WX} {a b : Str} {n : Int} {z : Int} {ja jb jn : Nat} {pa pb pn p1 p2 p pos : Pos} (hg : ∀ i, Gl (X i) "int") (hm : ∀ i, (X i).mg "int" = none) (h1 : 1 < n) (h2 : n ≤ 1000) (h3 : 0 < b.length) (h4 : b.length ≤ 1000) (h5 : (repS b n.toNat).length ≤ 640) (h6 : (a ++ repS b n.toNat).length ≤ 640) (hz : PySem.intText? (a ++ repS b n.toNat) = some z) (h7 : a.length ≤ 640)
    (he : ∀ i, starEach [.BinOp (.Constant (.str a) ja pa) .Add (.BinOp (.Constant (.str b) jb pb) .Mult (.Constant (.int n) jn pn) p1) p2] (X i).env = (false, eval (.BinOp (.Constant (.str a) ja pa) .Add (.BinOp (.Constant (.str b) jb pb) .Mult (.Constant (.int n) jn pn) p1) p2) (X i).env) :: starEach [] (X i).env) (hpl : ∀ i, (backTo pos (starEach [] (X i).env)).any (·.1) = false) :
    RX X G W (.Call (.Name "int" p) [.BinOp (.Constant (.str a) ja pa) .Add (.BinOp (.Constant (.str b) jb pb) .Mult (.Constant (.int n) jn pn) p1) p2] [] pos) (kst (.int z)) := by
  refine ⟨_, fun i => pe_callTy call_int_str (hg i) (hm i) boot_int (pa_cons (pe_op op_add_str pe_str (pe_op op_strMul pe_str pe_int)) pa_nil (he i)) (by decide) (by decide) (he i) (hpl i), ?_⟩
  intro F ρ σ S M H Q hF s q
  have big : (640 : Nat) ≤ sizeLine := by rw [sizeLine_eq]; omega
  exact ⟨b, n, rfl, rfl, h1, h2, h3, h4, Nat.le_trans h5 big, a, repS b n.toNat, rfl, rfl, by rw [sizeLine_eq]; omega, _, z, rfl, hz, h6, PR.val s (.int z) q⟩
theorem rx_intText {ι : Type} {X : ι → Cx} {G : GC} {W : WX} {P : Program} {w : World} {mg : Str → Option Value} {base : Heap} {k : Nat} {N : List Str} {a b : Str} {n : Int} {z : Int} {ja jb jn : Nat} {pa pb pn p1 p2 p pos : Pos} (c : Cxs P w G mg base k N W X) (hg : ∀ i, Gl (X i) "int") (hm : mg "int" = none) (h1 : 1 < n) (h2 : n ≤ 1000) (h3 : 0 < b.length) (h4 : b.length ≤ 1000) (h5 : (repS b n.toNat).length ≤ 640) (h6 : (a ++ repS b n.toNat).length ≤ 640) (hz : PySem.intText? (a ++ repS b n.toNat) = some z) (h7 : a.length ≤ 640)
    (he : ∀ i, starEach [.BinOp (.Constant (.str a) ja pa) .Add (.BinOp (.Constant (.str b) jb pb) .Mult (.Constant (.int n) jn pn) p1) p2] (X i).env = (false, eval (.BinOp (.Constant (.str a) ja pa) .Add (.BinOp (.Constant (.str b) jb pb) .Mult (.Constant (.int n) jn pn) p1) p2) (X i).env) :: starEach [] (X i).env) (hpl : ∀ i, (backTo pos (starEach [] (X i).env)).any (·.1) = false) :
    RX X G W (.Call (.Name "int" p) [.BinOp (.Constant (.str a) ja pa) .Add (.BinOp (.Constant (.str b) jb pb) .Mult (.Constant (.int n) jn pn) p1) p2] [] pos) (kst (.int z)) := rx_intTextC hg (fun i => by rw [c.mg i]; exact hm) h1 h2 h3 h4 h5 h6 hz h7 he hpl
end L3

set_option Elab.async false
set_option linter.all false
set_option maxRecDepth 100000
set_option maxHeartbeats 1000000
namespace L3
open PySem PySem.Spec PyProof.Rows L2
/-! ### [f, g, ..][which](e, ..) -/
def tCallX (tc : TE) (R : Addr → Sp → Prop) (E : St → XK) (t : TA) : TE := fun σ H Q => tc σ H fun v H1 => ∃ f sp, v = .ref f ∧ R f sp ∧ t σ H1 fun vs H2 => sp vs H2 Q (E σ)
def tRefs : List Addr → TA
  | [] => tNil
  | a :: as => tCons (tC (.ref a)) (tRefs as)
theorem tRefs_ap : ∀ {as : List Addr} {σ : St} {H : Hp} {R : List V → Hp → Prop}, R (as.map V.ref) H → tRefs as σ H R
  | [], _, _, _, h => h
  | a :: as, σ, H, R, h => tRefs_ap (R := fun xs H2 => R (V.ref a :: xs) H2) h
section
variable {X : Cx} {CX : CXT} {k : Nat} {E : St → XK} {pos p : Pos} {a b e : Expr} {es : List Expr} {t : TA} {tc : TE} {R : Addr → Sp → Prop}
theorem pe_callX (hc : PE X (.Subscript a b p) tc) (hA : ∀ f sp, R f sp → ∃ fd ps, FnOk X.prog X.w X.K X.mg X.base CX k f fd ps sp ∧ PySem.W.keepIn X.K (.ref f) = true ∧ Binds X.K fd ps []) (hr : Room k X.A) (hx : ∀ σ, PassesAt CX X σ (E σ))
    (ha : PA X (e :: es) t) (he : starEach (e :: es) X.env = (false, eval e X.env) :: starEach es X.env) (hpl : (backTo pos (starEach es X.env)).any (·.1) = false) :
    PE X (.Call (.Subscript a b p) (e :: es) [] pos) (tCallX tc R E t) := by
  refine ⟨fun pins s σ H Q I h => ?_⟩
  have e0 : eval (.Call (.Subscript a b p) (e :: es) [] pos) X.env = (do
    callWith pos (← eval (.Subscript a b p) X.env) [] (backTo pos (starEach (e :: es) X.env)) (backToKw pos (keywordEach [] X.env))) := rfl
  rw [e0]
  refine wpAny_bind (thn (hc.run pins s σ H _ I h) fun u s1 ⟨v, H1, I1, r1, q1⟩ => ?_)
  obtain ⟨f, sp, rfl, hR, ht⟩ := q1
  cases r1
  obtain ⟨fd, ps, F, hk, hb⟩ := hA f sp hR
  refine PySem.W.callWith_K (h₀ := X.base) I1.ok.mod.kin hk (thn (ha.run pos pins s1 σ H1 _ I1 ht) fun us s2 ⟨vs, H2, I2, r, q⟩ => ⟨I2.kIn, ?_⟩) he hpl
  exact run_fnSD (dvs := []) (ds := []) F hr hb .nil (hx σ) I2 r (by rw [List.append_nil]; exact q)
end
section
variable {ι : Type} {X : ι → Cx} {G : GC} {W : WX} {pos : Pos} {e : Expr} {es : List Expr}
/-- a row of names of defs -/
inductive FL (P : Program) (w : World) (G : GC) (mg : Str → Option Value) (base : Heap) (X : ι → Cx) (k n : Nat) : List Expr → List Addr → List (List Sl → Res RV) → Prop
  | nil : FL P w G mg base X k n [] [] []
  | cons {k' : Nat} {x : Str} {st : Stmt} {ps : List Str} {m : List Sl → Res RV} {p : Pos} {es : List Expr} {as : List Addr} {ms : List (List Sl → Res RV)} : Ok1 P w G mg base k' x st ps n m → k' ≤ k → (∀ i, Gl (X i) x) → (x == ("__debug__" : Str)) = false → (∀ i, starEach (.Name x p :: es) (X i).env = (false, eval (.Name x p) (X i).env) :: starEach es (X i).env) → FL P w G mg base X k n es as ms → FL P w G mg base X k n (.Name x p :: es) (He.fAd G.K (x, none) :: as) (m :: ms)
def callIxF (ms : List (List Sl → Res RV)) (i : Nat) (cs : List CA) : P RV := fun ρ => match look ρ i with
  | some (.int z) => (match L2.atI ms z with
    | some m => callF m cs ρ
    | none => .no)
  | _ => .no
variable {P : Program} {w : World} {mg : Str → Option Value} {base : Heap} {k n : Nat} {N : List Str}
theorem FL.pa (c : Cxs P w G mg base k N W X) : ∀ {fs : List Expr} {as : List Addr} {ms : List (List Sl → Res RV)}, FL P w G mg base X k n fs as ms → ∀ i, PA (X i) fs (tRefs as)
  | _, _, _, .nil, i => pa_nil
  | _, _, _, .cons ok hk hg hd hs r, i => by
    obtain ⟨fd, D, F⟩ := ok
    exact pa_cons (pe_glob (hg i) (by rw [c.mg i]; exact D.gl) rfl hd) (FL.pa c r i) (hs i)
theorem FL.len : ∀ {fs : List Expr} {as : List Addr} {ms : List (List Sl → Res RV)}, FL P w G mg base X k n fs as ms → as.length = ms.length
  | _, _, _, .nil => rfl
  | _, _, _, .cons _ _ _ _ _ r => by rw [List.length_cons, List.length_cons, FL.len r]
theorem FL.get : ∀ {fs : List Expr} {as : List Addr} {ms : List (List Sl → Res RV)}, FL P w G mg base X k n fs as ms → ∀ {j : Nat} {m : List Sl → Res RV}, ms[j]? = some m → ∃ f fd ps, as[j]? = some f ∧ FnOk P w G.K mg base (L2N.CX P w) k f fd ps (FSp n G m) ∧ PySem.W.keepIn G.K (.ref f) = true ∧ Binds G.K fd ps []
  | _, _, _, .nil, j, m, h => by simp at h
  | _, _, _, .cons (ps := ps) ok hk hg hd hs r, 0, m, h => by
    obtain ⟨fd, D, F⟩ := ok
    simp at h
    subst h
    exact ⟨_, fd, ps, rfl, F.mono hk, D.kp, D.bd⟩
  | _, _, _, .cons ok hk hg hd hs r, j + 1, m, h => FL.get r (by simpa using h)
theorem rx_callIx (c : Cxs P w G mg base k N W X) (i : Nat) {fs : List Expr} {as : List Addr} {ms : List (List Sl → Res RV)} {cs : List CA} {x : Str} {p1 p2 p3 : Pos} (fl : FL P w G mg base X k cs.length fs as ms) (hl : fs ≠ []) (hsz : ms.length ≤ 1000) (ok : caOk cs)
    (hN : ∀ j, (X j).N[i]? = some x) (hv : ∀ j, Vis (X j).env.scope x) (ha : AX X G W (e :: es) (cs.map CA.opd)) (he : ∀ i, starEach (e :: es) (X i).env = (false, eval e (X i).env) :: starEach es (X i).env) (hpl : ∀ i, (backTo pos (starEach es (X i).env)).any (·.1) = false)
    (hd : (x == ("__debug__" : Str)) = false := by decide) (hcd : (x == ("__classdict__" : Str)) = false := by decide) :
    RX X G W (.Call (.Subscript (.List fs p1) (.Name x p2) p3) (e :: es) [] pos) (callIxF ms i cs) := by
  obtain ⟨ts, pa, ev⟩ := ha
  refine ⟨tCallX (tOp (rIx G.K) (tLst (tRefs as)) (tVar i)) (fun f sp => ∃ (j : Nat) (m : List Sl → Res RV), as[j]? = some f ∧ ms[j]? = some m ∧ sp = FSp cs.length G m) (WE W) ts, fun l => ?_, ?_⟩
  · refine pe_callX (CX := L2N.CX (X l).prog (X l).w) (k := k) (by rw [← c.K l]; exact pe_ix ix_seq (pe_lst (fl.pa c l)) (pe_var (hN l) (hv l) hd hcd) (fun _ _ => rfl)) (fun f sp h => ?_) (c.room l) (fun σ => L2N.passAt (c.tk l) σ) (pa l) (he l) (hpl l)
    obtain ⟨j, m, h1, h2, rfl⟩ := h
    obtain ⟨f', fd, ps, e1, F, kp, b⟩ := fl.get h2
    rw [h1] at e1
    cases e1
    rw [c.prog l, c.w l, c.K l, c.mg l, c.base l]
    exact ⟨fd, ps, F, kp, b⟩
  · intro F ρ σ S M H Q hg s p
    unfold callIxF at p
    cases hlk : look ρ i with
    | none => rw [hlk] at p; exact p.elim
    | some d =>
      rw [hlk] at p
      cases d with
      | int z =>
        have p : PR F W σ S (match L2.atI ms z with | some m => callF m cs ρ | none => .no) Q := p
        cases hat : L2.atI ms z with
        | none => rw [hat] at p; exact p.elim
        | some m =>
          rw [hat] at p
          obtain ⟨sl, h1, h2⟩ := look_cont hlk
          obtain ⟨v, hv', rb⟩ := s.read h1 h2
          have ev' : v = .int z := by
            rcases rb with r | ⟨_, _, o, _, _, _, e⟩
            · cases r; rfl
            · cases o <;> cases e
          subst ev'
          have hlen := fl.len
          have hj : ∃ j : Nat, L2.atI as z = as[j]? ∧ ms[j]? = some m := by
            unfold L2.atI at hat ⊢
            rw [hlen]
            cases hz : L2.ixN ms.length z with
            | none => rw [hz] at hat; cases hat
            | some j => rw [hz] at hat; exact ⟨j, rfl, hat⟩
          obtain ⟨j, ej, em⟩ := hj
          have hjl : j < as.length := by rw [hlen]; exact (List.getElem?_eq_some_iff.mp em).1
          refine tRefs_ap ⟨by rw [List.length_map, hlen, sizeLine_eq]; omega, fun D hD => ?_⟩
          refine ⟨_, hv', ?_⟩
          refine .inl ⟨D, as.map V.ref, z, .ref as[j], rfl, rfl, SqL.of upd_same, ?_, ?_⟩
          · have : L2.atI (as.map V.ref) z = (L2.atI as z).map V.ref := by
              unfold L2.atI
              rw [List.length_map]
              cases L2.ixN as.length z with
              | none => rfl
              | some j => simp
            rw [this, ej, List.getElem?_eq_getElem hjl]
            rfl
          · refine ⟨as[j], _, rfl, ⟨j, m, List.getElem?_eq_getElem hjl, em, rfl⟩, ?_⟩
            exact ev_callF ev ok F ρ σ S M _ Q hg (s.up fun b u hb => by rw [upd_ne (ne_of_none hb hD)]; exact hb) p
      | _ => exact p.elim
end
/-! ### range(i, j, -1) -/
def rngDn (hi : Int) (n : Nat) : List D := (List.range n).map fun i => .int (hi - (i : Nat))
def rng3 : D → D → D → Option (List D)
  | .int i, .int j, .int c => if c = -1 ∧ (decide (-(4611686018427387904) ≤ i) && decide (i < 4611686018427387904) && decide (-(4611686018427387904) ≤ j) && decide (j < 4611686018427387904)) = true then some (rngDn i (i - j).toNat) else none
  | _, _, _ => none
def walkR3 : List D → P Sr
  | [x, y, z] => seq (opt (rng3 x y z)) fun ds => ret (.ls ds)
  | _ => fail
section
variable {ι : Type} {X : ι → Cx} {G : GC} {W : WX} {tg e e2 e3 : Expr} {pos : Pos}
theorem itOk_dn {σ : St} {S : Hp} {hi : Int} {n : Nat} : ItOk G σ S (Itc hi (-1) n) (.ls (rngDn hi n)) := by
  intro F i ρ1 σ1 S1 M1 H1 hg e s
  refine ⟨fun hl => by
      show n ≤ i
      simpa [rngDn] using hl, fun d hd => ?_⟩
  have hi' : i < n := by
    have := (List.getElem?_eq_some_iff.mp hd).1
    simpa [rngDn] using this
  have ed : d = .int (hi - (i : Nat)) := by
    simp [rngDn, hi'] at hd
    exact hd.symm
  subst ed
  refine ⟨hi', fun x H' hy => ?_⟩
  obtain ⟨rfl, rfl⟩ := hy
  refine ⟨S1, M1, Ext.refl S1, s, ?_⟩
  have : hi + (i : Int) * -1 = hi - (i : Int) := by omega
  rw [this]
  exact .int _
theorem ix_range3 {p : Pos} {q q2 q3 : Opd} (hg : ∀ i, Gl (X i) "range") (hm : ∀ i, (X i).mg "range" = none) (ha : AX X G W [e, e2, e3] [q, q2, q3]) (hs : ∀ i, starEach [e, e2, e3] (X i).env = (false, eval e (X i).env) :: starEach [e2, e3] (X i).env) (hpl : ∀ i, (backTo pos (starEach [e2, e3] (X i).env)).any (·.1) = false) :
    IX X G W tg (.Call (.Name "range" p) [e, e2, e3] [] pos) (args [q, q2, q3] walkR3) := by
  obtain ⟨ts, pa, ev⟩ := ha
  refine ⟨_, fun i => pi_range3 (hg i) (hm i) (pa i) (hs i) (hpl i), ?_⟩
  intro F ρ σ S M H R hgg s p
  refine ev_args ev F ρ σ S M H _ hgg s p (fun k ρ' q => q) fun vs ds ρ' S' M' H' e' s' hl rb q => ?_
  cases rb with
  | nil => cases hl
  | cons r1 rb =>
  cases rb with
  | nil => cases hl
  | cons r2 rb =>
  cases rb with
  | nil => cases hl
  | cons r3 rb =>
  cases rb with
  | cons _ _ => simp at hl
  | nil =>
    rename_i v d v2 d2 v3 d3
    obtain ⟨ds, hd, q⟩ := opt_post (o := rng3 d d2 d3) q
    unfold rng3 at hd
    split at hd
    · split at hd
      · rename_i i j c hj
        obtain ⟨rfl, hj⟩ := hj
        simp only [Bool.and_eq_true, decide_eq_true_eq] at hj
        cases hd
        rw [RpB.int r1, RpB.int r2, RpB.int r3]
        exact ⟨i, j, -1, _, rfl, RgC.neg hj.1.1.1 hj.1.1.2 hj.1.2 hj.2, q _ S' M' H' e' s' itOk_dn⟩
      · cases hd
    · cases hd
end
end L3

set_option Elab.async false
set_option linter.all false
set_option maxRecDepth 100000
set_option maxHeartbeats 1000000
namespace L3
open PySem PySem.Spec PyProof.Rows L2
/-! ### what the head tells of errors -/
def excNames : List Str := ["OutOfRange", "Malformed", "NotThere", "Refused", "TooMuch"]
def clsN (K : PySem.W.Frag) (n : Nat) : Value := match excNames[n]? with
  | some x => .ref (He.ga K x)
  | none => .none
def excCB (K : PySem.W.Frag) (D : Addr) : Bool := He.eqO (PySem.W.findIn K (.ref D) "__getattribute__") (some (some (.builtin "BaseException.__getattribute__"))) && (He.eqO (PySem.W.findIn K (.ref D) "__getattr__") (some none) && (decide (PySem.W.subIn K (.ref D) (.type "BaseException") = some true) && (PySem.W.hasDictIn K D && (He.eqO (PySem.W.findIn K (.ref D) "__class__") (some (some (.builtin "object.__class__"))) && (He.eqO (PySem.W.specialIn K (.builtin "object.__class__") "__get__") (some (some (.builtin "getset_descriptor.__get__"))) && (decide (PySem.W.takesIn K (.builtin "object.__class__") = some true) && decide (PySem.W.mroIn K D (.type "object") = some true)))))))
theorem excC_of {K : PySem.W.Frag} {D : Addr} (h : excCB K D = true) : ExcC K D := by
  unfold excCB at h
  simp only [Bool.and_eq_true] at h
  obtain ⟨h1, h2, h3, h4, h5, h6, h7, h8⟩ := h
  exact ⟨He.eqO_ok h1, He.eqO_ok h2, of_decide_eq_true h3, h4, He.eqO_ok h5, He.eqO_ok h6, of_decide_eq_true h7, of_decide_eq_true h8⟩
def kitsB (K : PySem.W.Frag) (x : Str) (n : Nat) : Bool := decide (PySem.W.kitOne K (.ref (He.ga K x)) (.ref (He.ga K "OutOfRange")) = some (n == 0)) && (decide (PySem.W.kitOne K (.ref (He.ga K x)) (.ref (He.ga K "Malformed")) = some (n == 1)) && (decide (PySem.W.kitOne K (.ref (He.ga K x)) (.ref (He.ga K "NotThere")) = some (n == 2)) && (decide (PySem.W.kitOne K (.ref (He.ga K x)) (.ref (He.ga K "Refused")) = some (n == 3)) && (decide (PySem.W.kitOne K (.ref (He.ga K x)) (.ref (He.ga K "TooMuch")) = some (n == 4)) && (decide (PySem.W.kitOne K (.ref (He.ga K x)) (.type "ValueError") = some true) && (decide (PySem.W.exmOne K (.ref (He.ga K x)) (.ref (He.ga K "CampError")) = some true) && excCB K (He.ga K x)))))))
def excsB (K : PySem.W.Frag) : Bool := kitsB K "OutOfRange" 0 && (kitsB K "Malformed" 1 && (kitsB K "NotThere" 2 && (kitsB K "Refused" 3 && kitsB K "TooMuch" 4)))
theorem kits_of {K : PySem.W.Frag} {x : Str} {n : Nat} (h : kitsB K x n = true) : (PySem.W.kitOne K (.ref (He.ga K x)) (.ref (He.ga K "OutOfRange")) = some (n == 0) ∧ PySem.W.kitOne K (.ref (He.ga K x)) (.ref (He.ga K "Malformed")) = some (n == 1) ∧ PySem.W.kitOne K (.ref (He.ga K x)) (.ref (He.ga K "NotThere")) = some (n == 2) ∧ PySem.W.kitOne K (.ref (He.ga K x)) (.ref (He.ga K "Refused")) = some (n == 3) ∧ PySem.W.kitOne K (.ref (He.ga K x)) (.ref (He.ga K "TooMuch")) = some (n == 4)) ∧ PySem.W.kitOne K (.ref (He.ga K x)) (.type "ValueError") = some true ∧ PySem.W.exmOne K (.ref (He.ga K x)) (.ref (He.ga K "CampError")) = some true ∧ ExcC K (He.ga K x) := by
  unfold kitsB at h
  simp only [Bool.and_eq_true, decide_eq_true_eq] at h
  obtain ⟨h1, h2, h3, h4, h5, h6, h7, h8⟩ := h
  exact ⟨⟨h1, h2, h3, h4, h5⟩, h6, h7, excC_of h8⟩
theorem oneAt_of : ∀ n, n < 5 → oneAt [(n == 0), (n == 1), (n == 2), (n == 3), (n == 4)] n
  | 0, _ => ⟨rfl, rfl, rfl, fun m h => absurd h (Nat.not_lt_zero m)⟩
  | 1, _ => ⟨rfl, rfl, rfl, fun m h => match m, h with | 0, _ => rfl⟩
  | 2, _ => ⟨rfl, rfl, rfl, fun m h => match m, h with | 0, _ => rfl | 1, _ => rfl⟩
  | 3, _ => ⟨rfl, rfl, rfl, fun m h => match m, h with | 0, _ => rfl | 1, _ => rfl | 2, _ => rfl⟩
  | 4, _ => ⟨rfl, rfl, rfl, fun m h => match m, h with | 0, _ => rfl | 1, _ => rfl | 2, _ => rfl | 3, _ => rfl⟩
theorem kindOk_of {G : GC} (hc : ∀ n, G.cls n = clsN G.K n) (h : excsB G.K = true) : KindOk G (He.ga G.K "CampError") (He.ga G.K "OutOfRange") (He.ga G.K "Malformed") (He.ga G.K "NotThere") (He.ga G.K "Refused") (He.ga G.K "TooMuch") wordOf := by
  intro n x hw
  unfold excsB at h
  simp only [Bool.and_eq_true] at h
  obtain ⟨h0, h1, h2, h3, h4⟩ := h
  have key : ∀ (y : Str) (n : Nat), n < 5 → kitsB G.K y n = true → clsN G.K n = .ref (He.ga G.K y) → words[n]? = some x → ∃ (D : Addr) (b1 b2 b3 b4 b5 : Bool) (j : Nat), G.cls n = .ref D ∧ PySem.W.exmOne G.K (.ref D) (.ref (He.ga G.K "CampError")) = some true ∧ ExcC G.K D ∧
      (PySem.W.kitOne G.K (.ref D) (.ref (He.ga G.K "OutOfRange")) = some b1 ∧ PySem.W.kitOne G.K (.ref D) (.ref (He.ga G.K "Malformed")) = some b2 ∧ PySem.W.kitOne G.K (.ref D) (.ref (He.ga G.K "NotThere")) = some b3 ∧ PySem.W.kitOne G.K (.ref D) (.ref (He.ga G.K "Refused")) = some b4 ∧ PySem.W.kitOne G.K (.ref D) (.ref (He.ga G.K "TooMuch")) = some b5) ∧ PySem.W.kitOne G.K (.ref D) (.type "ValueError") = some true ∧ oneAt [b1, b2, b3, b4, b5] j ∧ words[j]? = some x := by
    intro y n hn hk e hx
    obtain ⟨k1, k2, k3, k4⟩ := kits_of hk
    refine ⟨_, _, _, _, _, _, n, (hc n).trans e, k3, k4, k1, k2, ?_, hx⟩
    exact oneAt_of n hn
  have hn : n < 5 := (List.getElem?_eq_some_iff.mp hw).1
  match n, hn with
  | 0, hn => exact key "OutOfRange" 0 hn h0 rfl hw
  | 1, hn => exact key "Malformed" 1 hn h1 rfl hw
  | 2, hn => exact key "NotThere" 2 hn h2 rfl hw
  | 3, hn => exact key "Refused" 3 hn h3 rfl hw
  | 4, hn => exact key "TooMuch" 4 hn h4 rfl hw
theorem ns_ok {K : PySem.W.Frag} {h : Heap} {mg : Str → Option Value} (X : K.In h) (G : h.Ns mainGlobals mg) {x : Str} {u : Value} (c : He.eqO (PySem.W.nsIn K mainGlobals x) (some (some u)) = true) : mg x = some u := PySem.W.mg_of X G (He.eqO_ok c)
end L3

set_option Elab.async false
set_option linter.all false
set_option maxRecDepth 100000
set_option maxHeartbeats 1000000
namespace L3
open PySem PySem.Spec PyProof.Rows L2
/-! ### lcm -/
def rLcm : List V → Hp → VK → Prop := fun vs H Q => ∃ a b : Int, vs = [.int a, .int b] ∧ a.natAbs < 2 ^ 64 ∧ b.natAbs < 2 ^ 64 ∧ Q (.int ((Nat.lcm a.natAbs b.natAbs : Nat) : Int)) H
theorem cr_lcm {X : Cx} : CallR X (.builtin "math.lcm") rLcm := by
  intro pins s σ H vs us Q I r h
  obtain ⟨a, b, rfl, ha, hb, q⟩ := h
  obtain ⟨t, u, rfl⟩ := Vals.int2 r
  exact PySem.W.mc_lcm ha hb fun _ => ⟨.int _, H, I.tok _, ⟨_, rfl⟩, q⟩
def lcmD : D → D → Option RV
  | .int i, .int j => if decide (i.natAbs < 18446744073709551616) && decide (j.natAbs < 18446744073709551616) then some (.val (.int ((Nat.lcm i.natAbs j.natAbs : Nat) : Int))) else none
  | _, _ => none
section
variable {ι : Type} {X : ι → Cx} {G : GC} {W : WX} {pos : Pos} {a b : Expr} {qa qb : Opd}
theorem rx_lcm {x : Str} {p : Pos} (hg : ∀ i, Gl (X i) x) (hm : ∀ i, (X i).mg x = some (.builtin "math.lcm")) (hdb : (x == ("__debug__" : Str)) = false) (ha : AX X G W [a, b] [qa, qb])
    (he : ∀ i, starEach [a, b] (X i).env = (false, eval a (X i).env) :: starEach [b] (X i).env) (hpl : ∀ i, (backTo pos (starEach [b] (X i).env)).any (·.1) = false) : RX X G W (.Call (.Name x p) [a, b] [] pos) (args [qa, qb] (f2 lcmD)) := by
  obtain ⟨ts, pa, ev⟩ := ha
  refine ⟨_, fun i => pe_callBG cr_lcm (hg i) (hm i) (pa i) hdb (he i) (hpl i), ev_call ev ?_⟩
  intro F ρ σ S M H Q vs ds hgg s hl rb pp
  obtain ⟨v, w, d, d2, rfl, rfl, r, r2⟩ := rpBs2 hl rb
  obtain ⟨rv, e, pp⟩ := pr_opt (o := lcmD d d2) pp
  unfold lcmD at e
  split at e
  · split at e
    · rename_i hc
      simp only [Bool.and_eq_true, decide_eq_true_eq] at hc
      cases e
      exact ⟨_, _, by rw [r.int, r2.int], hc.1, hc.2, PR.val s (.int _) pp⟩
    · cases e
  · cases e
end
/-! ### new tuples whose object is not told -/
theorem SR.newS' {F : FC} {ρ : En} {σ : St} {S M H : Hp} (R : SR F ρ σ S M H) {p : Addr} (hp : H p = none) (o : HO) (hto : F.g.td = false) : Ext S (upd S p o) ∧ SR F ρ σ (upd S p o) M (upd H p o) := by
  have hS : S p = none := by
    cases e : S p with
    | none => rfl
    | some u => have := R.sub p u e; rw [hp] at this; cases this
  have hM : M p = none := by
    cases e : M p with
    | none => rfl
    | some u => have := R.own p u e; rw [hp] at this; cases this
  have ex := Ext.upd (o := o) hS
  refine ⟨ex, R.len, fun a u e => ?_, fun a u e => ?_, fun a => ?_, R.keep, R.bth, fun a ha => ?_, ⟨R.kind.1, fun ht a => by rw [hto] at ht; cases ht⟩, fun i sl v h e => (R.slot i sl v h e).mono ex, R.sep⟩
  · by_cases ha : a = p
    · subst ha; rw [upd_same] at e ⊢; exact e
    · rw [upd_ne ha] at e ⊢; exact R.sub a u e
  · have : a ≠ p := fun z => by subst z; rw [hM] at e; cases e
    rw [upd_ne this]; exact R.own a u e
  · by_cases ha : a = p
    · subst ha; exact .inr hM
    · rw [upd_ne ha]; exact R.dis a
  · obtain ⟨⟨ps, t0, tt⟩, t2, t3⟩ := R.tab a ha
    have : a ≠ p := fun z => by subst z; rw [hp] at t0; cases t0
    exact ⟨⟨ps, by rw [upd_ne this]; exact t0, tt⟩, by rw [upd_ne this]; exact t2, t3⟩
/-! ### zip of two lists or two tuples -/
def zip2 (a b : List D) : List D := List.zipWith (fun x y => .tuple [x, y]) a b
def zipD : D → D → Option (List D)
  | .list a, .list b => some (zip2 a b)
  | .tuple a, .tuple b => some (zip2 a b)
  | _, _ => none
def walkZ : List D → P Sr
  | [x, y] => seq (opt (zipD x y)) fun ds => ret (.ls ds)
  | _ => fail
@[simp] theorem walkZ_ap {x y : D} {ρ : En} : walkZ [x, y] ρ = (opt (zipD x y) ρ).bind fun ds => ret (.ls ds) := (rfl)
@[simp] theorem zip_tt {a b : List D} : zipD (.tuple a) (.tuple b) = some (zip2 a b) := (rfl)
@[simp] theorem zip_ll {a b : List D} : zipD (.list a) (.list b) = some (zip2 a b) := (rfl)
theorem zip2_len {a b : List D} : (zip2 a b).length = min a.length b.length := by simp [zip2]
theorem zip2_get {a b : List D} {i : Nat} {d : D} (h : (zip2 a b)[i]? = some d) : ∃ x y, a[i]? = some x ∧ b[i]? = some y ∧ d = .tuple [x, y] := by
  unfold zip2 at h
  rw [List.getElem?_zipWith] at h
  cases ha : a[i]? with
  | none => rw [ha] at h; cases h
  | some x =>
    cases hb : b[i]? with
    | none => rw [ha, hb] at h; cases h
    | some y => rw [ha, hb] at h; cases h; exact ⟨x, y, rfl, rfl, rfl⟩
section
variable {ι : Type} {X : ι → Cx} {G : GC} {W : WX} {e e2 : Expr} {pos tpos : Pos} {elts : List Expr} {kk : Nat}
theorem itOk_zT {σ : St} {S : Hp} {a b : Addr} {xs ys : List V} {ds es : List D} (ht : G.td = false) (ha : SqT G.K S a xs) (hb : SqT G.K S b ys) (ra : RpAll G.K S xs ds) (rb : RpAll G.K S ys es) : ItOk G σ S (RZ.ItzT G.K a b) (.ls (zip2 ds es)) := by
  intro F i ρ1 σ1 S1 M1 H1 hg e s
  have hK : F.K = G.K := congrArg GC.K hg
  have la := ra.length
  have lb := rb.length
  have ha' : SqT G.K H1 a xs := (e.trans s.sub).sqT ha
  have hb' : SqT G.K H1 b ys := (e.trans s.sub).sqT hb
  refine ⟨fun hl => ?_, fun d hd => ?_⟩
  · rw [zip2_len] at hl
    exact ⟨xs, ys, ha', hb', by omega⟩
  · obtain ⟨x, y, hx, hy, rfl⟩ := zip2_get hd
    obtain ⟨vx, h1, r1⟩ := ra.get hx
    obtain ⟨vy, h2, r2⟩ := rb.get hy
    refine ⟨⟨xs, ys, vx, vy, ha', hb', h1, h2⟩, fun v H' hy' => ?_⟩
    obtain ⟨T, x', y', rfl, hT, rfl, f1, f2⟩ := hy'
    have e1 := f1 xs ha'
    have e2 := f2 ys hb'
    rw [h1] at e1
    rw [h2] at e2
    cases e1
    cases e2
    obtain ⟨ex, s'⟩ := s.newS' hT (.tup [vx, vy]) (by rw [hg]; exact ht)
    refine ⟨_, M1, ex, s', ?_⟩
    rw [hK]
    exact .tup (.inl (.inl upd_same)) (.cons (r1.mono (e.trans ex)) (.cons (r2.mono (e.trans ex)) .nil))
theorem itOk_zL {σ : St} {S : Hp} {a b : Addr} {xs ys : List V} {ds es : List D} (ht : G.td = false) (ha : SqL G.K S a xs) (hb : SqL G.K S b ys) (ra : RpAll G.K S xs ds) (rb : RpAll G.K S ys es) : ItOk G σ S (Itz G.K a b) (.ls (zip2 ds es)) := by
  intro F i ρ1 σ1 S1 M1 H1 hg e s
  have hK : F.K = G.K := congrArg GC.K hg
  have la := ra.length
  have lb := rb.length
  have ha' : SqL G.K H1 a xs := (e.trans s.sub).sqL ha
  have hb' : SqL G.K H1 b ys := (e.trans s.sub).sqL hb
  refine ⟨fun hl => ?_, fun d hd => ?_⟩
  · rw [zip2_len] at hl
    exact ⟨xs, ys, ha', hb', by omega⟩
  · obtain ⟨x, y, hx, hy, rfl⟩ := zip2_get hd
    obtain ⟨vx, h1, r1⟩ := ra.get hx
    obtain ⟨vy, h2, r2⟩ := rb.get hy
    refine ⟨⟨xs, ys, vx, vy, ha', hb', h1, h2⟩, fun v H' hy' => ?_⟩
    obtain ⟨T, x', y', rfl, hT, rfl, f1, f2⟩ := hy'
    have e1 := f1 xs ha'
    have e2 := f2 ys hb'
    rw [h1] at e1
    rw [h2] at e2
    cases e1
    cases e2
    obtain ⟨ex, s'⟩ := s.newS' hT (.tup [vx, vy]) (by rw [hg]; exact ht)
    refine ⟨_, M1, ex, s', ?_⟩
    rw [hK]
    exact .tup (.inl (.inl upd_same)) (.cons (r1.mono (e.trans ex)) (.cons (r2.mono (e.trans ex)) .nil))
theorem ix_zip {p : Pos} {q q2 : Opd} (ht : G.td = false) (hK : ∀ i, (X i).K = G.K) (hg : ∀ i, Gl (X i) "zip") (hm : ∀ i, (X i).mg "zip" = none) (ha : AX X G W [e, e2] [q, q2]) (hx : allEx [q, q2])
    (hs : ∀ i, starEach [e, e2] (X i).env = (false, eval e (X i).env) :: starEach [e2] (X i).env) (hpl : ∀ i, (backTo pos (starEach [e2] (X i).env)).any (·.1) = false) :
    IX X G W (.Tuple elts kk tpos) (.Call (.Name "zip" p) [e, e2] [] pos) (args [q, q2] walkZ) := by
  obtain ⟨ts, pa, ev⟩ := ha
  refine ⟨RZ.iZipA G.K ts, fun i => by rw [← hK i]; exact RZ.pi_zipA (hg i) (hm i) (pa i) (hs i) (hpl i), ?_⟩
  intro F ρ σ S M H R hgg s p
  have hK' : F.K = G.K := congrArg GC.K hgg
  refine ev_vals ev hx F ρ σ S M H _ hgg s p (fun k ρ' q => q) fun vs ds ρ' S' M' H' e' s' hl ra q => ?_
  cases ra with
  | nil => cases hl
  | cons r1 ra =>
  cases ra with
  | nil => cases hl
  | cons r2 ra =>
  cases ra with
  | cons _ _ => simp at hl
  | nil =>
    rename_i v d v2 d2
    obtain ⟨zs, hd, q⟩ := opt_post (o := zipD d d2) q
    unfold zipD at hd
    split at hd
    · cases hd
      cases r1 with
      | lst h1 a1 =>
        cases r2 with
        | lst h2 a2 =>
          rw [hK'] at a1 a2
          exact ⟨_, _, _, _, rfl, .inl ⟨SqL.of (s'.sub _ _ h1), SqL.of (s'.sub _ _ h2), q _ S' M' H' e' s' (itOk_zL ht (SqL.of h1) (SqL.of h2) a1 a2)⟩⟩
    · cases hd
      cases r1 with
      | tup h1 a1 =>
        cases r2 with
        | tup h2 a2 =>
          rw [hK'] at a1 a2 h1 h2
          exact ⟨_, _, _, _, rfl, .inr ⟨s'.sub.sqT h1, s'.sub.sqT h2, q _ S' M' H' e' s' (itOk_zT ht h1 h2 a1 a2)⟩⟩
    · cases hd
end
end L3

set_option Elab.async false
set_option linter.all false
set_option maxRecDepth 100000
set_option maxHeartbeats 1000000
namespace L3
open PySem PySem.Spec PyProof.Rows L2
/-! ### mirrors run by simp, further -/
@[simp] theorem bn_ret {α β : Type} {r : Res α} {g : α → P β} (k : Nat) : (Res.err k (ρ : En) : Res α).bind g = .err k ρ := (rfl)
@[simp] theorem forL_nil' {tg : Tg} {b : P Fl} {ρ : En} : forL tg b [] ρ = .ok .nx ρ := (rfl)
theorem forL_cons' {tg : Tg} {b : P Fl} {d : D} {ds : List D} {ρ : En} : forL tg b (d :: ds) ρ = match tg d ρ with | some ρ1 => turn (b ρ1) (forL tg b ds) | none => .no := (rfl)
@[simp] theorem turn_nx' {b : P Fl} {ρ : En} : turn (.ok .nx ρ) b = b ρ := (rfl)
@[simp] theorem turn_ct {b : P Fl} {ρ : En} : turn (.ok .ct ρ) b = b ρ := (rfl)
@[simp] theorem turn_bk {b : P Fl} {ρ : En} : turn (.ok .bk ρ) b = .ok .nx ρ := (rfl)
@[simp] theorem turn_rt {b : P Fl} {rv : RV} {ρ : En} : turn (.ok (.rt rv) ρ) b = .ok (.rt rv) ρ := (rfl)
@[simp] theorem turn_err {b : P Fl} {k : Nat} {ρ : En} : turn (.err k ρ) b = .err k ρ := (rfl)
@[simp] theorem unpF_ap {is : List Nat} {f : P RV} {ρ : En} : unpF is f ρ = (f ρ).bind fun rv ρ1 => match tgT is rv.toD ρ1 with | some ρ' => .ok .nx ρ' | none => .no := (rfl)
@[simp] theorem tgT_ap {is : List Nat} {ds : List D} {ρ : En} : tgT is (.tuple ds) ρ = if ds.length = is.length then some (putsD is ds ρ) else none := (rfl)
@[simp] theorem putsD_cons {i : Nat} {is : List Nat} {d : D} {ds : List D} {ρ : En} : putsD (i :: is) (d :: ds) ρ = putsD is ds (ρ.set i (.sh d)) := (rfl)
@[simp] theorem putsD_nil {ρ : En} : putsD [] [] ρ = ρ := (rfl)
@[simp] theorem compL_nil' {vs : List Nat} {tg : Tg} {tt : P Bool} {te : P RV} {acc : List D} {ρ : En} : compL vs tg tt te [] acc ρ = .ok acc ρ := (rfl)
theorem compL_cons' {vs : List Nat} {tg : Tg} {tt : P Bool} {te : P RV} {d : D} {ds acc : List D} {ρ : En} : compL vs tg tt te (d :: ds) acc ρ = (match tg d ρ with
  | none => .no
  | some ρ1 => (noErr tt ρ1).bind fun b => if b = true then seq (noErr te) (fun rv ρ2 => if acc.length < line then compL vs tg tt te ds (acc ++ [rv.toD]) (wipeE ρ2 vs) else .no) else fun ρ2 => compL vs tg tt te ds acc (wipeE ρ2 vs)) := (rfl)
@[simp] theorem noErr_ap {α : Type} {f : P α} {ρ : En} : noErr f ρ = match f ρ with | .err _ _ => .no | r => r := (rfl)
@[simp] theorem wipe_nil {ρ : En} : wipeE ρ [] = ρ := (rfl)
@[simp] theorem wipe_cons {ρ : En} {v : Nat} {vs : List Nat} : wipeE ρ (v :: vs) = (wipeE ρ vs).set v .un := (rfl)
@[simp] theorem back_nil {ρ ρ0 : En} : backE ρ0 ρ [] = ρ := (rfl)
@[simp] theorem back_cons {ρ ρ0 : En} {v : Nat} {vs : List Nat} : backE ρ0 ρ (v :: vs) = (backE ρ0 ρ vs).set v (keepSh ρ0[v]?) := (rfl)
@[simp] theorem keep_sh {d : D} : keepSh (some (.sh d)) = .sh d := (rfl)
@[simp] theorem keep_un : keepSh (some .un) = .un := (rfl)
@[simp] theorem keep_ow {o : Ob} : keepSh (some (.ow o)) = .un := (rfl)
@[simp] theorem shr_ap {i : Nat} {ρ : En} : shr i ρ = match ρ[i]? with
  | some (.sh d) => .ok (.val d) ρ
  | some (.ow o) => .ok (.val o.toD) (ρ.set i (.sh o.toD))
  | _ => .no := (rfl)
@[simp] theorem mov_ap {i : Nat} {ρ : En} : mov i ρ = match ρ[i]? with
  | some (.sh d) => .ok (.val d) ρ
  | some (.ow o) => .ok (.own o) (ρ.set i .un)
  | _ => .no := (rfl)
@[simp] theorem walkS_ap {i : Nat} {ρ : En} : walkS i ρ = match ρ[i]? with
  | some (.sh d) => (opt (seqD d) ρ).bind fun ds ρ1 => .ok (.ls ds) ρ1
  | some (.ow (.lst _)) => .ok (.sl i) ρ
  | some (.bo _ (.lst _)) => .ok (.sl i) ρ
  | _ => .no := by
  unfold walkS
  cases h : ρ[i]? with
  | none => rfl
  | some s => cases s with
    | un => rfl
    | sh d => simp only; cases seqD d <;> rfl
    | ow o => cases o <;> rfl
    | bo j o => cases o <;> rfl
theorem lcF_ap' {vs : List Nat} {src : P Sr} {tg : Tg} {tt : P Bool} {te : P RV} {ρ : En} : lcF vs src tg tt te ρ = (src ρ).bind fun sr ρ1 => (compX vs tg tt te sr (wipeE ρ1 vs)).bind fun ds ρ2 => .ok (.own (.lst ds)) (backE ρ1 ρ2 vs) := (rfl)
@[simp] theorem compX_ls' {vs : List Nat} {tg : Tg} {tt : P Bool} {te : P RV} {ds : List D} {ρ : En} : compX vs tg tt te (.ls ds) ρ = compL vs tg tt te ds [] ρ := (rfl)
@[simp] theorem chainF_ap {p p' : Int → Int → Bool} {f g h : P RV} {ρ : En} : chainF p p' f g h ρ = (f ρ).bind fun x => seq g fun y => seq (opt (ordD p x.toD y.toD)) fun z => match z with
  | .val (.bool true) => seq h fun w => opt (ordD p' y.toD w.toD)
  | .val (.bool false) => ret (.val (.bool false))
  | _ => fail := (rfl)
@[simp] theorem tryF_ap {i : Nat} {f : P Fl} {wd : Nat → Option Str} {ρ : En} : tryF i f wd ρ = match f ρ with
  | .err k ρ' => (match wd k with
    | some x => if i < ρ'.length then .ok (.rt (.val (.str x))) (ρ'.set i .un) else .no
    | none => .no)
  | r => r := (rfl)
@[simp] theorem word0 : wordOf 0 = some "range" := (rfl)
@[simp] theorem word1 : wordOf 1 = some "form" := (rfl)
@[simp] theorem word2 : wordOf 2 = some "none" := (rfl)
@[simp] theorem word3 : wordOf 3 = some "refused" := (rfl)
@[simp] theorem word4 : wordOf 4 = some "much" := (rfl)
@[simp] theorem slice_ap {qo : Opd} {ql qh : Pt} {ρ : En} : sliceF qo ql qh ρ = (qo.run ρ).bind fun x => seq ql.run fun lo => seq qh.run fun hi => seq (qo.get x) fun d => opt (slD lo hi d) := (rfl)
@[simp] theorem pt_no {ρ : En} : Pt.run .no ρ = .ok none ρ := (rfl)
@[simp] theorem pt_ex {f : P RV} {ρ : En} : Pt.run (.ex f) ρ = (f ρ).bind fun rv => seq (opt (intOf rv.toD)) fun i => ret (some i) := (rfl)
@[simp] theorem intOf_i {i : Int} : intOf (.int i) = some i := (rfl)
@[simp] theorem slD_t {lo hi : Option Int} {ds : List D} : slD lo hi (.tuple ds) = some (.val (.tuple (cutD ds lo hi))) := (rfl)
@[simp] theorem slD_l {lo hi : Option Int} {ds : List D} : slD lo hi (.list ds) = some (.own (.lst (cutD ds lo hi))) := (rfl)
@[simp] theorem list_t {ds : List D} : listD (.tuple ds) = some (.own (.lst ds)) := (rfl)
@[simp] theorem list_l {ds : List D} : listD (.list ds) = some (.own (.lst ds)) := (rfl)
@[simp] theorem abs_i {i : Int} : absD (.int i) = some (.val (.int (if i < 0 then -i else i))) := (rfl)
@[simp] theorem max_ii {i j : Int} : max2D (.int i) (.int j) = some (.val (.int (if j > i then j else i))) := (rfl)
@[simp] theorem min_ii {i j : Int} : min2D (.int i) (.int j) = some (.val (.int (if j < i then j else i))) := (rfl)
@[simp] theorem gcd_ii {i j : Int} : gcdD (.int i) (.int j) = some (.val (.int ((Nat.gcd i.natAbs j.natAbs : Nat) : Int))) := (rfl)
@[simp] theorem whileF_s {n : Nat} {c : P Bool} {b : P Fl} {ρ : En} : whileF (n + 1) c b ρ = (c ρ).bind fun t => if t = true then (fun ρ => turn (b ρ) (whileF n c b)) else ret .nx := (rfl)
@[simp] theorem callIx_ap {ms : List (List Sl → Res RV)} {i : Nat} {cs : List CA} {ρ : En} : callIxF ms i cs ρ = match look ρ i with
  | some (.int z) => (match L2.atI ms z with
    | some m => callF m cs ρ
    | none => .no)
  | _ => .no := (rfl)
theorem mul_ii {i j : Int} (h : mulOk i j = true) : mulD (.int i) (.int j) = some (.val (.int (i * j))) := by
  show (if mulOk i j then some (RV.val (.int (i * j))) else none) = _
  rw [if_pos h]
theorem mulOk_r {i j : Int} (h : -18446744073709551616 < j ∧ j < 18446744073709551616) : mulOk i j = true := by
  unfold mulOk
  rw [decide_eq_true h]
  simp
theorem mulOk_l {i j : Int} (h : -18446744073709551616 < i ∧ i < 18446744073709551616) : mulOk i j = true := by
  unfold mulOk
  rw [decide_eq_true h]
  simp
theorem fdiv_ii {i j : Int} (h0 : 0 < j) (h : j < 1073741824) : fdivD (.int i) (.int j) = some (.val (.int (i / j))) := by
  show (if divOk j then some (RV.val (.int (i / j))) else none) = _
  rw [if_pos]
  unfold divOk
  rw [decide_eq_true h0, decide_eq_true h]
  rfl
theorem mod_ii {i j : Int} (h0 : 0 < j) : modD (.int i) (.int j) = some (.val (.int (i % j))) := by
  show (if 0 < j then some (RV.val (.int (i % j))) else none) = _
  rw [if_pos h0]
/-! ### calls with a list that the callee changes -/
def muFin (i n : Nat) (r : Res RV) (ρ : En) : Res RV := match r with
  | .ok rv (.bo _ o :: as) => if as.length = n then .ok rv (ρ.set i ((ρ[i]?.getD .un).put o)) else .no
  | .err k (.bo _ o :: as) => if as.length = n then .err k (ρ.set i ((ρ[i]?.getD .un).put o)) else .no
  | _ => .no
def muG (m : List Sl → Res RV) (i : Nat) (as : List Sl) (ρ : En) : Res RV := match ρ[i]? with
  | some (.ow o) => muFin i as.length (m (.bo 0 o :: as)) ρ
  | some (.bo _ o) => muFin i as.length (m (.bo 0 o :: as)) ρ
  | _ => .no
@[simp] theorem muG_ap {m : List Sl → Res RV} {i : Nat} {as : List Sl} {ρ : En} : muG m i as ρ = match ρ[i]? with
  | some (.ow o) => muFin i as.length (m (.bo 0 o :: as)) ρ
  | some (.bo _ o) => muFin i as.length (m (.bo 0 o :: as)) ρ
  | _ => .no := (rfl)
@[simp] theorem muFin_ok {i n j : Nat} {rv : RV} {o : Ob} {as : List Sl} {ρ : En} (h : as.length = n) : muFin i n (.ok rv (.bo j o :: as)) ρ = .ok rv (ρ.set i ((ρ[i]?.getD .un).put o)) := by
  unfold muFin; simp [h]
@[simp] theorem put_ow {o o' : Ob} : (Sl.ow o').put o = .ow o := (rfl)
@[simp] theorem put_bo {o o' : Ob} {j : Nat} : (Sl.bo j o').put o = .bo j o := (rfl)
theorem mu_tail {m : List Sl → Res RV} {i : Nat} {cs : List CA} {xs : List (Option D)} {ρ : En} {as : List Sl} (hc : ∀ j, gather ρ cs xs j = some as) (hl : cs.length = as.length) (hlen : lents ρ cs = []) (hu : ∀ as' : List Sl, as'.length = cs.length → upds ρ cs as' = some ρ) (hu0 : ∀ as' : List Sl, as'.length ≠ cs.length → upds ρ cs as' = none) (x : Option D) :
    (match gather ρ (.mu i :: cs) (x :: xs) 0 with
    | none => .no
    | some as => match m as with
      | .ok rv as' => if ((lents ρ (.mu i :: cs)).isEmpty || (rvNL rv && as'.all slNL)) = true then (match upds ρ (.mu i :: cs) as' with
        | some ρ' => .ok rv ρ'
        | none => .no) else .no
      | .err k as' => if ((lents ρ (.mu i :: cs)).isEmpty || as'.all slNL) = true then (match upds ρ (.mu i :: cs) as' with
        | some ρ' => .err k ρ'
        | none => .no) else .no
      | .no => .no : Res RV) = muG m i as ρ := by
  have hl2 : lents ρ (.mu i :: cs) = [] := hlen
  have fin : ∀ o : Ob, (match m (.bo 0 o :: as) with
      | .ok rv as' => if ((lents ρ (.mu i :: cs)).isEmpty || (rvNL rv && as'.all slNL)) = true then (match upds ρ (.mu i :: cs) as' with
        | some ρ' => .ok rv ρ'
        | none => .no) else .no
      | .err k as' => if ((lents ρ (.mu i :: cs)).isEmpty || as'.all slNL) = true then (match upds ρ (.mu i :: cs) as' with
        | some ρ' => .err k ρ'
        | none => .no) else .no
      | .no => .no : Res RV) = muFin i as.length (m (.bo 0 o :: as)) ρ := fun o => by
    rw [hl2]
    have up : ∀ (j : Nat) (o' : Ob) (as' : List Sl), upds ρ (.mu i :: cs) (Sl.bo j o' :: as') = if as'.length = as.length then some (ρ.set i ((ρ[i]?.getD .un).put o')) else none := fun j o' as' => by
      show (upds ρ cs as').map (fun r => r.set i ((r[i]?.getD .un).put o')) = _
      by_cases h : as'.length = as.length
      · rw [if_pos h, hu as' (h.trans hl.symm)]; rfl
      · rw [if_neg h, hu0 as' (fun z => h (z.trans hl))]; rfl
    cases hm : m (.bo 0 o :: as) with
    | no => rfl
    | ok rv as' =>
      show (match upds ρ (.mu i :: cs) as' with | some ρ' => Res.ok rv ρ' | none => .no) = _
      match as' with
      | [] => rfl
      | .un :: _ => rfl
      | .sh _ :: _ => rfl
      | .ow _ :: _ => rfl
      | Sl.bo j o' :: as' =>
        rw [up]
        unfold muFin
        by_cases h : as'.length = as.length
        · simp [h]
        · simp [h]
    | err k as' =>
      show (match upds ρ (.mu i :: cs) as' with | some ρ' => Res.err k ρ' | none => .no) = _
      match as' with
      | [] => rfl
      | .un :: _ => rfl
      | .sh _ :: _ => rfl
      | .ow _ :: _ => rfl
      | Sl.bo j o' :: as' =>
        rw [up]
        unfold muFin
        by_cases h : as'.length = as.length
        · simp [h]
        · simp [h]
  unfold muG
  have hg : gather ρ (.mu i :: cs) (x :: xs) 0 = match ρ[i]? with
    | some (.ow o) => some (Sl.bo 0 o :: as)
    | some (.bo _ o) => some (Sl.bo 0 o :: as)
    | _ => none := by
    show (match ρ[i]? with
      | some (.ow o) => (gather ρ cs xs (0 + 1)).map (Sl.bo 0 o :: ·)
      | some (.bo _ o) => (gather ρ cs xs (0 + 1)).map (Sl.bo 0 o :: ·)
      | _ => none) = _
    rw [hc]
    rfl
  rw [hg]
  cases h : ρ[i]? with
  | none => rfl
  | some s => cases s with
    | un => rfl
    | sh d => rfl
    | ow o => exact fin o
    | bo j o => exact fin o
theorem upds_ex {ρ : En} : ∀ {cs : List CA}, (∀ c ∈ cs, ∃ f, c = .ex f) → (∀ as' : List Sl, as'.length = cs.length → upds ρ cs as' = some ρ) ∧ (∀ as' : List Sl, as'.length ≠ cs.length → upds ρ cs as' = none)
  | [], _ => ⟨fun as' h => by match as', h with | [], _ => rfl, fun as' h => by match as', h with | _ :: _, _ => rfl | [], h => exact absurd rfl h⟩
  | c :: cs, h => by
    obtain ⟨f, rfl⟩ := h c List.mem_cons_self
    have ih := upds_ex (ρ := ρ) (cs := cs) fun c' hc => h c' (List.mem_cons_of_mem _ hc)
    refine ⟨fun as' h => ?_, fun as' h => ?_⟩
    · match as', h with
      | a :: as', h => exact ih.1 as' (by simpa using h)
    · match as', h with
      | [], _ => rfl
      | a :: as', h => exact ih.2 as' (by simpa using h)
theorem lents_ex {ρ : En} : ∀ {cs : List CA}, (∀ c ∈ cs, ∃ f, c = .ex f) → lents ρ cs = []
  | [], _ => rfl
  | c :: cs, h => by
    obtain ⟨f, rfl⟩ := h c List.mem_cons_self
    exact lents_ex (cs := cs) fun c' hc => h c' (List.mem_cons_of_mem _ hc)
theorem callF_mu {m : List Sl → Res RV} {i : Nat} {cs : List CA} {ρ : En} : callF m (.mu i :: cs) ρ = match look ρ i with
  | some _ => (runs (cs.map CA.opd) ρ).bind fun xs ρ => (match gather ρ (.mu i :: cs) (none :: xs) 0 with
    | none => .no
    | some as => match m as with
      | .ok rv as' => if ((lents ρ (.mu i :: cs)).isEmpty || (rvNL rv && as'.all slNL)) = true then (match upds ρ (.mu i :: cs) as' with
        | some ρ' => .ok rv ρ'
        | none => .no) else .no
      | .err k as' => if ((lents ρ (.mu i :: cs)).isEmpty || as'.all slNL) = true then (match upds ρ (.mu i :: cs) as' with
        | some ρ' => .err k ρ'
        | none => .no) else .no
      | .no => .no : Res RV)
  | none => .no := by
  unfold callF
  show (Res.bind (Res.bind (match look ρ i with | some _ => Res.ok none ρ | none => Res.no) _) _ : Res RV) = _
  cases h : look ρ i with
  | none => rfl
  | some d =>
    show (Res.bind (Res.bind (runs (cs.map CA.opd) ρ) _) _ : Res RV) = _
    cases runs (cs.map CA.opd) ρ <;> rfl
@[simp] theorem callF_mu0 {m : List Sl → Res RV} {i : Nat} {ρ : En} : callF m [.mu i] ρ = match look ρ i with | some _ => muG m i [] ρ | none => .no := by
  rw [callF_mu]
  cases h : look ρ i with
  | none => rfl
  | some d => exact mu_tail (m := m) (i := i) (cs := []) (xs := []) (ρ := ρ) (as := []) (fun _ => rfl) rfl rfl (upds_ex (by simp)).1 (upds_ex (by simp)).2 none
theorem runs_ex1 {f : P RV} {ρ : En} : runs [.ex f] ρ = (f ρ).bind fun a => ret [some a.toD] := by
  show (Res.bind (Res.bind (f ρ) _) _ : Res _) = _
  cases f ρ <;> rfl
theorem runs_ex2 {f g : P RV} {ρ : En} : runs [.ex f, .ex g] ρ = (f ρ).bind fun a => seq g fun b => ret [some a.toD, some b.toD] := by
  show (Res.bind (Res.bind (f ρ) _) _ : Res _) = _
  cases f ρ with
  | no => rfl
  | err k ρ => rfl
  | ok a ρ1 =>
    show (Res.bind (runs [.ex g] ρ1) _ : Res _) = (g ρ1).bind _
    rw [runs_ex1]
    cases g ρ1 <;> rfl
@[simp] theorem callF_mu1 {m : List Sl → Res RV} {i : Nat} {f : P RV} {ρ : En} : callF m [.mu i, .ex f] ρ = match look ρ i with | some _ => (f ρ).bind fun a ρ1 => muG m i [.sh a.toD] ρ1 | none => .no := by
  rw [callF_mu]
  cases h : look ρ i with
  | none => rfl
  | some d =>
    show (Res.bind (runs [.ex f] ρ) _ : Res _) = _
    rw [runs_ex1]
    cases hf : f ρ with
    | no => rfl
    | err k ρ => rfl
    | ok a ρ1 => exact mu_tail (m := m) (i := i) (cs := [.ex f]) (xs := [some a.toD]) (ρ := ρ1) (as := [.sh a.toD]) (fun _ => rfl) rfl rfl (upds_ex (by simp)).1 (upds_ex (by simp)).2 none
@[simp] theorem callF_mu2 {m : List Sl → Res RV} {i : Nat} {f g : P RV} {ρ : En} : callF m [.mu i, .ex f, .ex g] ρ = match look ρ i with | some _ => (f ρ).bind fun a => seq g fun b ρ1 => muG m i [.sh a.toD, .sh b.toD] ρ1 | none => .no := by
  rw [callF_mu]
  cases h : look ρ i with
  | none => rfl
  | some d =>
    show (Res.bind (runs [.ex f, .ex g] ρ) _ : Res _) = _
    rw [runs_ex2]
    cases hf : f ρ with
    | no => rfl
    | err k ρ => rfl
    | ok a ρ1 =>
      show (Res.bind ((g ρ1).bind _) _ : Res _) = (g ρ1).bind _
      cases hg : g ρ1 with
      | no => rfl
      | err k ρ => rfl
      | ok b ρ2 => exact mu_tail (m := m) (i := i) (cs := [.ex f, .ex g]) (xs := [some a.toD, some b.toD]) (ρ := ρ2) (as := [.sh a.toD, .sh b.toD]) (fun _ => rfl) rfl rfl (upds_ex (by simp)).1 (upds_ex (by simp)).2 none
theorem append_ap {ds : List D} {d : D} (h : ds.length < 16777216) : appendD ds [d] = some (ds ++ [d], .none) := by
  show (if ds.length < line then some (ds ++ [d], (PyData.none : D)) else none) = _
  rw [if_pos (by unfold line; exact h)]
@[simp] theorem fin_err {n k : Nat} {as : List Sl} {ρ : En} (h : as.length = n) : fin n (.err k as) ρ = .err k ρ := by unfold fin; simp [h]
@[simp] theorem muFin_err {i n j k : Nat} {o : Ob} {as : List Sl} {ρ : En} (h : as.length = n) : muFin i n (.err k (.bo j o :: as)) ρ = .err k (ρ.set i ((ρ[i]?.getD .un).put o)) := by
  unfold muFin; simp [h]
theorem bodyF_err {n N k : Nat} {f : P Fl} {as as' : List Sl} {ρ : En} (h : f (as ++ List.replicate (N - n) .un) = .err k ρ) (g : finA as ρ = some as') : bodyF n N f as = .err k as' := by
  unfold bodyF
  rw [h]
  show (match finA as ρ with | some as' => (Res.err k as' : Res RV) | none => .no) = _
  rw [g]
/-! ### draws -/
def tkR (L : List Int) (b : Int) : Int := match L.getLast? with
  | some x => x % b
  | none => 0
theorem tkR_nn {L : List Int} {b : Int} (h : 0 < b) : 0 ≤ tkR L b := by
  unfold tkR
  split
  · exact Int.emod_nonneg _ (by omega)
  · omega
theorem tkR_lt {L : List Int} {b : Int} (h : 0 < b) : tkR L b < b := by
  unfold tkR
  split
  · exact Int.emod_lt_of_pos _ h
  · exact h
theorem take_eq {L : List Int} {b : Int} {j : Nat} (hb : 0 < b) : takeM [.bo j (dr L), .sh (.int b)] = .ok (.val (.int (tkR L b))) [.bo j (dr L.dropLast), .un] := by
  by_cases h0 : L = []
  · subst h0
    exact bodyF_rt (n := 2) (N := 2) (ρ := [.bo j (dr []), .sh (.int b)]) (by simp [takeF]; rfl) (by simp [finA])
  · have e : L = L.dropLast ++ [L.getLast h0] := (List.dropLast_concat_getLast h0).symm
    have e2 : tkR L b = L.getLast h0 % b := by unfold tkR; rw [List.getLast?_eq_some_getLast h0]
    rw [e2]
    generalize L.getLast h0 = x at *
    generalize L.dropLast = xs at *
    subst e
    have h1 : takeF [.bo j (dr (xs ++ [x])), .sh (.int b)] = .ok (.rt (.val (.int (x % b)))) [.bo j (dr xs), .sh (.int b)] := by
      have hp : popD ((xs ++ [x]).map PyData.int) [] = some (xs.map PyData.int, .int x) := by
        unfold popD
        simp
      have ht : mutF 0 [] popD [.bo j (dr (xs ++ [x])), .sh (.int b)] = .ok (.val (.int x)) [.bo j (dr xs), .sh (.int b)] := by
        show (match popD ((xs ++ [x]).map PyData.int) [] with | some (ds', d) => (Res.ok (RV.val d) _ : Res RV) | none => .no) = _
        rw [hp]
        rfl
      have hz : (((((xs ++ [x]).map PyData.int).length : Nat) : Int) == 0) = false := by simp; omega
      have hc : (seq (args [(.ex (args [(.sl 0)] (f1 lenD))), (.ex (kst (.int 0)))] (f2 (eqD))) toB) [.bo j (dr (xs ++ [x])), .sh (.int b)] = .ok false [.bo j (dr (xs ++ [x])), .sh (.int b)] := by
        show (opt (eqD (.int _) (.int 0)) _).bind toB = _
        rw [eq_ii, hz]
        rfl
      have h2 : (args [(.ex (args [(.ex (mutF 0 [] popD))] (f1 intD))), (.sl 1)] (f2 modD)) [.bo j (dr (xs ++ [x])), .sh (.int b)] = .ok (.val (.int (x % b))) [.bo j (dr xs), .sh (.int b)] := by
        simp [ht, mod_ii hb]
      unfold takeF
      simp only [thenS_ap, ifP_ap, seq, hc, bind_ok]
      show (Res.bind (args _ _ _) _) = _
      rw [h2]
      rfl
    exact bodyF_rt (n := 2) (N := 2) h1 (by simp [finA])
@[simp] theorem mutF_ap {i : Nat} {qs : List Opd} {h : MtD} {ρ : En} : mutF i qs h ρ = match ρ[i]? with
  | some (.ow (.lst _)) => args qs (fun as ρ' => match ρ'[i]? with
    | some (.ow (.lst ds)) => match h ds as with
      | some (ds', d) => .ok (.val d) (ρ'.set i (.ow (.lst ds')))
      | none => .no
    | _ => .no) ρ
  | some (.bo j (.lst _)) => args qs (fun as ρ' => match ρ'[i]? with
    | some (.bo j (.lst ds)) => match h ds as with
      | some (ds', d) => .ok (.val d) (ρ'.set i (.bo j (.lst ds')))
      | none => .no
    | _ => .no) ρ
  | _ => .no := (rfl)
end L3

set_option Elab.async false
set_option linter.all false
set_option maxRecDepth 100000
set_option maxHeartbeats 1000000
namespace L3
open PySem PySem.Spec PyProof.Rows L2
/-! ### fractions -/
namespace C01
def q_is_number_1 : P Fl := (seq (andV (args [(.sl 0)] (isiF .int)) (andV (notV (args [(.sl 0)] (isiF .bool))) (chainF leI leI (shr 1) (shr 0) (shr 2)))) fun rv => ret (.rt rv))
def m_is_number : P Fl := q_is_number_1
def M_is_number : List Sl → Res RV := bodyF 3 3 m_is_number
def q_lowest_1 : P Fl := (seq (args [(.sl 0), (.sl 1)] (f2 gcdD)) (put 2))
def q_lowest_2 : P Fl := (seq (args [(.sl 2)] (f1 negD)) (put 2))
def q_lowest_3 : P Fl := (ifP (seq (args [(.sl 1), (.ex (kst (.int 0)))] (f2 (ordD ltI))) toB) q_lowest_2 (ret .nx))
def q_lowest_4 : P Fl := (seq (args [(.ex (args [(.sl 0), (.sl 2)] (f2 fdivD))), (.ex (args [(.sl 1), (.sl 2)] (f2 fdivD)))] mkT) fun rv => ret (.rt rv))
def m_lowest : P Fl := (thenS q_lowest_1
  (thenS q_lowest_3
  q_lowest_4))
def M_lowest : List Sl → Res RV := bodyF 2 3 m_lowest
def q_made_1 : P Fl := (fun ρ => .err 0 ρ)
def q_made_2 : P Fl := (ifP (seq (args [(.sl 1), (.ex (kst (.int 0)))] (f2 (eqD))) toB) q_made_1 (ret .nx))
def q_made_3 : P Fl := (seq (callF M_lowest [.ex (shr 0), .ex (shr 1)]) fun rv => ret (.rt rv))
def m_made : P Fl := (thenS q_made_2
  q_made_3)
def M_made : List Sl → Res RV := bodyF 2 2 m_made
def q_plus_1 : P Fl := (seq (callF M_lowest [.ex (args [(.ex (args [(.ex (args [(.sl 0), (.ex (kst (.int 0)))] (f2 ixD))), (.ex (args [(.sl 1), (.ex (kst (.int 1)))] (f2 ixD)))] (f2 mulD))), (.ex (args [(.ex (args [(.sl 1), (.ex (kst (.int 0)))] (f2 ixD))), (.ex (args [(.sl 0), (.ex (kst (.int 1)))] (f2 ixD)))] (f2 mulD)))] (f2 addD)), .ex (args [(.ex (args [(.sl 0), (.ex (kst (.int 1)))] (f2 ixD))), (.ex (args [(.sl 1), (.ex (kst (.int 1)))] (f2 ixD)))] (f2 mulD))]) fun rv => ret (.rt rv))
def m_plus : P Fl := q_plus_1
def M_plus : List Sl → Res RV := bodyF 2 2 m_plus
def q__law_says_1 : P Fl := (seq (andV (args [(.sl 0)] (isiF .bool)) (args [(.sl 0), (.sl 1)] (f2 (eqD)))) fun rv => ret (.rt rv))
def m__law_says : P Fl := q__law_says_1
def M__law_says : List Sl → Res RV := bodyF 2 2 m__law_says
def q__law_gcd_1 : P Fl := (parF [0, 1] [(args [(.sl 0)] (f1 absD)), (args [(.sl 1)] (f1 absD))])
def q__law_gcd_2 : P Fl := (parF [0, 1] [(shr 1), (args [(.ex (args [(.sl 0)] (f1 intD))), (.sl 1)] (f2 modD))])
def q__law_gcd_3 : P Fl := (whileF 20000 (seq (args [(.sl 1), (.ex (kst (.int 0)))] (f2 (ordD gtI))) toB) q__law_gcd_2)
def q__law_gcd_4 : P Fl := (seq (mov 0) fun rv => ret (.rt rv))
def m__law_gcd : P Fl := (thenS q__law_gcd_1
  (thenS q__law_gcd_3
  q__law_gcd_4))
def M__law_gcd : List Sl → Res RV := bodyF 2 2 m__law_gcd
def q__law_made_1 : P Fl := (parF [0, 1] [(args [(.ex (kst (.int 0))), (.sl 0)] (f2 subD)), (args [(.ex (kst (.int 0))), (.sl 1)] (f2 subD))])
def q__law_made_2 : P Fl := (ifP (seq (args [(.sl 1), (.ex (kst (.int 0)))] (f2 (ordD ltI))) toB) q__law_made_1 (ret .nx))
def q__law_made_3 : P Fl := (seq (callF M__law_gcd [.ex (shr 0), .ex (shr 1)]) (put 2))
def q__law_made_4 : P Fl := (seq (args [(.ex (args [(.sl 0), (.sl 2)] (f2 fdivD))), (.ex (args [(.sl 1), (.sl 2)] (f2 fdivD)))] mkT) fun rv => ret (.rt rv))
def m__law_made : P Fl := (thenS q__law_made_2
  (thenS q__law_made_3
  q__law_made_4))
def M__law_made : List Sl → Res RV := bodyF 2 3 m__law_made
def q__law_plus_1 : P Fl := (seq (callF M__law_made [.ex (args [(.ex (args [(.ex (args [(.sl 0), (.ex (kst (.int 0)))] (f2 ixD))), (.ex (args [(.sl 1), (.ex (kst (.int 1)))] (f2 ixD)))] (f2 mulD))), (.ex (args [(.ex (args [(.sl 1), (.ex (kst (.int 0)))] (f2 ixD))), (.ex (args [(.sl 0), (.ex (kst (.int 1)))] (f2 ixD)))] (f2 mulD)))] (f2 addD)), .ex (args [(.ex (args [(.sl 0), (.ex (kst (.int 1)))] (f2 ixD))), (.ex (args [(.sl 1), (.ex (kst (.int 1)))] (f2 ixD)))] (f2 mulD))]) fun rv => ret (.rt rv))
def m__law_plus : P Fl := q__law_plus_1
def M__law_plus : List Sl → Res RV := bodyF 2 2 m__law_plus
def q__law_minus_1 : P Fl := (seq (callF M__law_made [.ex (args [(.ex (args [(.ex (args [(.sl 0), (.ex (kst (.int 0)))] (f2 ixD))), (.ex (args [(.sl 1), (.ex (kst (.int 1)))] (f2 ixD)))] (f2 mulD))), (.ex (args [(.ex (args [(.sl 1), (.ex (kst (.int 0)))] (f2 ixD))), (.ex (args [(.sl 0), (.ex (kst (.int 1)))] (f2 ixD)))] (f2 mulD)))] (f2 subD)), .ex (args [(.ex (args [(.sl 0), (.ex (kst (.int 1)))] (f2 ixD))), (.ex (args [(.sl 1), (.ex (kst (.int 1)))] (f2 ixD)))] (f2 mulD))]) fun rv => ret (.rt rv))
def m__law_minus : P Fl := q__law_minus_1
def M__law_minus : List Sl → Res RV := bodyF 2 2 m__law_minus
def q__law_times_1 : P Fl := (seq (callF M__law_made [.ex (args [(.ex (args [(.sl 0), (.ex (kst (.int 0)))] (f2 ixD))), (.ex (args [(.sl 1), (.ex (kst (.int 0)))] (f2 ixD)))] (f2 mulD)), .ex (args [(.ex (args [(.sl 0), (.ex (kst (.int 1)))] (f2 ixD))), (.ex (args [(.sl 1), (.ex (kst (.int 1)))] (f2 ixD)))] (f2 mulD))]) fun rv => ret (.rt rv))
def m__law_times : P Fl := q__law_times_1
def M__law_times : List Sl → Res RV := bodyF 2 2 m__law_times
def q__law_less_1 : P Fl := (seq (args [(.ex (args [(.ex (args [(.sl 0), (.ex (kst (.int 0)))] (f2 ixD))), (.ex (args [(.sl 1), (.ex (kst (.int 1)))] (f2 ixD)))] (f2 mulD))), (.ex (args [(.ex (args [(.sl 1), (.ex (kst (.int 0)))] (f2 ixD))), (.ex (args [(.sl 0), (.ex (kst (.int 1)))] (f2 ixD)))] (f2 mulD)))] (f2 (ordD ltI))) fun rv => ret (.rt rv))
def m__law_less : P Fl := q__law_less_1
def M__law_less : List Sl → Res RV := bodyF 2 2 m__law_less
end C01
namespace C37
def q_minus_1 : P Fl := (seq (callF C01.M_lowest [.ex (args [(.ex (args [(.ex (args [(.sl 0), (.ex (kst (.int 0)))] (f2 ixD))), (.ex (args [(.sl 1), (.ex (kst (.int 1)))] (f2 ixD)))] (f2 mulD))), (.ex (args [(.ex (args [(.sl 1), (.ex (kst (.int 0)))] (f2 ixD))), (.ex (args [(.sl 0), (.ex (kst (.int 1)))] (f2 ixD)))] (f2 mulD)))] (f2 subD)), .ex (args [(.ex (args [(.sl 0), (.ex (kst (.int 1)))] (f2 ixD))), (.ex (args [(.sl 1), (.ex (kst (.int 1)))] (f2 ixD)))] (f2 mulD))]) fun rv => ret (.rt rv))
def m_minus : P Fl := q_minus_1
def M_minus : List Sl → Res RV := bodyF 2 2 m_minus
def q_times_1 : P Fl := (seq (callF C01.M_lowest [.ex (args [(.ex (args [(.sl 0), (.ex (kst (.int 0)))] (f2 ixD))), (.ex (args [(.sl 1), (.ex (kst (.int 0)))] (f2 ixD)))] (f2 mulD)), .ex (args [(.ex (args [(.sl 0), (.ex (kst (.int 1)))] (f2 ixD))), (.ex (args [(.sl 1), (.ex (kst (.int 1)))] (f2 ixD)))] (f2 mulD))]) fun rv => ret (.rt rv))
def m_times : P Fl := q_times_1
def M_times : List Sl → Res RV := bodyF 2 2 m_times
def q_less_1 : P Fl := (seq (args [(.ex (args [(.ex (args [(.sl 0), (.ex (kst (.int 0)))] (f2 ixD))), (.ex (args [(.sl 1), (.ex (kst (.int 1)))] (f2 ixD)))] (f2 mulD))), (.ex (args [(.ex (args [(.sl 1), (.ex (kst (.int 0)))] (f2 ixD))), (.ex (args [(.sl 0), (.ex (kst (.int 1)))] (f2 ixD)))] (f2 mulD)))] (f2 (ordD ltI))) fun rv => ret (.rt rv))
def m_less : P Fl := q_less_1
def M_less : List Sl → Res RV := bodyF 2 2 m_less
def q__law_lowest_1 : P Fl := (parF [2, 3] [(args [(.sl 0)] (f1 absD)), (shr 1)])
def q__law_lowest_2 : P Fl := (parF [2, 3] [(shr 3), (args [(.sl 2), (.ex (args [(.ex (args [(.sl 2), (.sl 3)] (f2 fdivD))), (.sl 3)] (f2 mulD)))] (f2 subD))])
def q__law_lowest_3 : P Fl := (whileF 20000 (seq (args [(.sl 3), (.ex (kst (.int 0)))] (f2 (ordD gtI))) toB) q__law_lowest_2)
def q__law_lowest_4 : P Fl := (seq (args [(.ex (args [(.sl 0), (.sl 2)] (f2 fdivD))), (.ex (args [(.sl 1), (.sl 2)] (f2 fdivD)))] mkT) fun rv => ret (.rt rv))
def m__law_lowest : P Fl := (thenS q__law_lowest_1
  (thenS q__law_lowest_3
  q__law_lowest_4))
def M__law_lowest : List Sl → Res RV := bodyF 2 4 m__law_lowest
def q__law_plus_1 : P Fl := (seq (callF M__law_lowest [.ex (args [(.ex (args [(.ex (args [(.sl 0), (.ex (kst (.int 0)))] (f2 ixD))), (.ex (args [(.sl 1), (.ex (kst (.int 1)))] (f2 ixD)))] (f2 mulD))), (.ex (args [(.ex (args [(.sl 1), (.ex (kst (.int 0)))] (f2 ixD))), (.ex (args [(.sl 0), (.ex (kst (.int 1)))] (f2 ixD)))] (f2 mulD)))] (f2 addD)), .ex (args [(.ex (args [(.sl 0), (.ex (kst (.int 1)))] (f2 ixD))), (.ex (args [(.sl 1), (.ex (kst (.int 1)))] (f2 ixD)))] (f2 mulD))]) fun rv => ret (.rt rv))
def m__law_plus : P Fl := q__law_plus_1
def M__law_plus : List Sl → Res RV := bodyF 2 2 m__law_plus
def q__law_times_1 : P Fl := (seq (callF M__law_lowest [.ex (args [(.ex (args [(.sl 0), (.ex (kst (.int 0)))] (f2 ixD))), (.ex (args [(.sl 1), (.ex (kst (.int 0)))] (f2 ixD)))] (f2 mulD)), .ex (args [(.ex (args [(.sl 0), (.ex (kst (.int 1)))] (f2 ixD))), (.ex (args [(.sl 1), (.ex (kst (.int 1)))] (f2 ixD)))] (f2 mulD))]) fun rv => ret (.rt rv))
def m__law_times : P Fl := q__law_times_1
def M__law_times : List Sl → Res RV := bodyF 2 2 m__law_times
end C37
def frD (q : Rat) : D := .tuple [.int q.num, .int (q.den : Int)]
@[simp] theorem ix_fr0 {q : Rat} : ixD (frD q) (.int 0) = some (.val (.int q.num)) := (rfl)
@[simp] theorem ix_fr1 {q : Rat} : ixD (frD q) (.int 1) = some (.val (.int (q.den : Int))) := (rfl)
theorem fr_int {i : Int} : PyData.tuple [.int i, .int 1] = frD (i : Rat) := (rfl)
@[simp] theorem len_fr {q : Rat} : lenD (frD q) = some (.val (.int 2)) := (rfl)
@[simp] theorem isT_fr {q : Rat} {t : Bt} : isT t (frD q) = isT t (.tuple []) := by cases t <;> rfl
theorem eqv_fr {a b : Rat} : PyData.eqv (frD a) (frD b) = decide (a = b) := by
  unfold frD
  simp only [PyData.eqv, PyData.eqvAll]
  rw [Bool.eq_iff_iff]
  simp only [Bool.and_eq_true, beq_iff_eq, decide_eq_true_eq, Bool.true_and, and_true]
  constructor
  · rintro ⟨h1, h2⟩
    exact Rat.ext h1 (by omega)
  · rintro rfl
    exact ⟨rfl, rfl⟩
theorem okD_fr {k : Nat} {q : Rat} : okD (k + 1) (frD q) = true := by cases k <;> rfl
theorem okE_fr {q : Rat} : okE (frD q) = true := okD_fr
@[simp] theorem eq_fr {a b : Rat} : eqD (frD a) (frD b) = some (.val (.bool (decide (a = b)))) := by rw [eq_ok okE_fr okE_fr, eqv_fr]
@[simp] theorem ne_fr {a b : Rat} : neD (frD a) (frD b) = some (.val (.bool (!decide (a = b)))) := by rw [ne_ok okE_fr okE_fr, eqv_fr]
@[simp] theorem isn_fr {q : Rat} : nonD (frD q) = false := (rfl)
def Sz (k : Nat) (q : Rat) : Prop := q.num.natAbs < 2 ^ k ∧ q.den < 2 ^ k
def rq (p w : Int) : Rat := mkRat p w.toNat
theorem rq_num {p w : Int} (h : 0 < w) : (rq p w).num = p / ((Nat.gcd p.natAbs w.natAbs : Nat) : Int) := by
  unfold rq
  rw [Rat.num_mkRat, if_neg (by omega), Nat.gcd_comm]
  congr 3
  omega
theorem rq_den {p w : Int} (h : 0 < w) : ((rq p w).den : Int) = w / ((Nat.gcd p.natAbs w.natAbs : Nat) : Int) := by
  unfold rq
  rw [Rat.den_mkRat, if_neg (by omega), Nat.gcd_comm, Int.natCast_ediv]
  congr 1
  · omega
  · congr 2
    omega
theorem rq_eq {p w : Int} (h : 0 < w) : rq p w = (p : Rat) / (w : Rat) := by
  unfold rq
  rw [Rat.mkRat_eq_div]
  congr 1
  have : (w : Rat) = ((w.toNat : Int) : Rat) := by congr 1; omega
  rw [this]
  rfl
theorem gcd_pos' {p w : Int} (h : 0 < w) : 0 < Nat.gcd p.natAbs w.natAbs := Nat.gcd_pos_of_pos_right _ (by omega)
theorem log2_mono {a b : Nat} (h : a ≤ b) : a.log2 ≤ b.log2 := by
  by_cases ha : a = 0
  · subst ha; simp
  · rw [Nat.le_log2 (by omega)]
    exact Nat.le_trans (Nat.log2_self_le ha) h
theorem log2_lt' {a k : Nat} (h : a < 2 ^ k) (hk : 0 < k) : a.log2 < k := by
  by_cases ha : a = 0
  · subst ha; simpa using hk
  · exact (Nat.log2_lt ha).mpr h
theorem divOk_of {w : Int} {g : Nat} (h0 : 0 < g) (hg : g ≤ w.natAbs) (h : w.natAbs.log2 < 9000) : divOk (g : Int) = true := by
  unfold divOk
  have := log2_mono hg
  have e : ((g : Int)).natAbs = g := by simp
  rw [e]
  simp
  omega
theorem fdiv_ok {i j : Int} (h : divOk j = true) : fdivD (.int i) (.int j) = some (.val (.int (i / j))) := by
  show (if divOk j then some (RV.val (.int (i / j))) else none) = _
  rw [if_pos h]
theorem gcd_le_w {p w : Int} (h : 0 < w) : Nat.gcd p.natAbs w.natAbs ≤ w.natAbs := Nat.gcd_le_right _ (by omega)
theorem lowest_ok {p w : Int} (h : 0 < w) (hs : w.natAbs.log2 < 9000) : C01.M_lowest [.sh (.int p), .sh (.int w)] = .ok (.val (frD (rq p w))) [.un, .un] := by
  have d1 := fdiv_ok (i := p) (divOk_of (gcd_pos' (p := p) h) (gcd_le_w h) hs)
  have d2 := fdiv_ok (i := w) (divOk_of (gcd_pos' (p := p) h) (gcd_le_w h) hs)
  refine bodyF_rt (ρ := [.sh (.int p), .sh (.int w), .sh (.int ((Nat.gcd p.natAbs w.natAbs : Nat) : Int))]) ?_ (by simp [finA])
  have h' : ltI w 0 = false := by simp [ltI]; omega
  simp [C01.m_lowest, C01.q_lowest_1, C01.q_lowest_2, C01.q_lowest_3, C01.q_lowest_4, h', d1, d2, rq_num h, rq_den h, frD]
theorem made_ok {p w : Int} (h : 0 < w) (hs : w.natAbs.log2 < 9000) : C01.M_made [.sh (.int p), .sh (.int w)] = .ok (.val (frD (rq p w))) [.un, .un] := by
  refine bodyF_rt (ρ := [.sh (.int p), .sh (.int w)]) ?_ (by simp [finA])
  have h' : (w == 0) = false := by simp; omega
  simp [C01.m_made, C01.q_made_1, C01.q_made_2, C01.q_made_3, h', lowest_ok h hs]
theorem mulOk_big {i j : Int} {k l : Nat} (hi : i.natAbs < 2 ^ k) (hj : j.natAbs < 2 ^ l) (hk : k + l ≤ 900000) : mulOk i j = true := by
  unfold mulOk
  have a := log2_lt' (a := i.natAbs) (k := k + 1) (Nat.lt_trans hi (Nat.pow_lt_pow_right (by decide) (by omega))) (by omega)
  have b := log2_lt' (a := j.natAbs) (k := l + 1) (Nat.lt_trans hj (Nat.pow_lt_pow_right (by decide) (by omega))) (by omega)
  have : i.natAbs.log2 + j.natAbs.log2 < 1000000 := by omega
  simp [this]
theorem mul_big {i j : Int} {k l : Nat} (hi : i.natAbs < 2 ^ k) (hj : j.natAbs < 2 ^ l) (hk : k + l ≤ 900000) : mulD (.int i) (.int j) = some (.val (.int (i * j))) := mul_ii (mulOk_big hi hj hk)
theorem Sz.mono {k l : Nat} {q : Rat} (h : Sz k q) (hl : k ≤ l) : Sz l q :=
  ⟨Nat.lt_of_lt_of_le h.1 (Nat.pow_le_pow_right (by decide) hl), Nat.lt_of_lt_of_le h.2 (Nat.pow_le_pow_right (by decide) hl)⟩
theorem Sz.dI {k : Nat} {q : Rat} (h : Sz k q) : ((q.den : Int)).natAbs < 2 ^ k := by simpa using h.2
theorem den_pos' {q : Rat} : (0 : Int) < (q.den : Int) := by have := q.den_pos; omega
theorem log2_mul {a b k l : Nat} (ha : a < 2 ^ k) (hb : b < 2 ^ l) (h : 0 < k + l) : (a * b).log2 < k + l := by
  refine log2_lt' ?_ h
  rw [Nat.pow_add]
  by_cases h0 : b = 0
  · subst h0; rw [Nat.mul_zero]; exact Nat.mul_pos (Nat.pow_pos (by decide)) (Nat.pow_pos (by decide))
  · exact Nat.lt_of_lt_of_le (Nat.mul_lt_mul_of_pos_right ha (by omega)) (Nat.mul_le_mul_left _ (Nat.le_of_lt hb))
theorem dd_log {k : Nat} {a b : Rat} (ha : Sz k a) (hb : Sz k b) (hk : k ≤ 4000) : ((a.den : Int) * (b.den : Int)).natAbs.log2 < 9000 := by
  have e : ((a.den : Int) * (b.den : Int)).natAbs = a.den * b.den := by rw [Int.natAbs_mul]; simp
  rw [e]
  have := log2_mul (ha.mono hk).2 (hb.mono hk).2 (by omega)
  omega
theorem dd_pos {a b : Rat} : (0 : Int) < (a.den : Int) * (b.den : Int) := Int.mul_pos den_pos' den_pos'
theorem rq_add {a b : Rat} : rq (a.num * b.den + b.num * a.den) (a.den * b.den) = a + b := by
  unfold rq; rw [Rat.add_def']; congr 1
theorem rq_sub {a b : Rat} : rq (a.num * b.den - b.num * a.den) (a.den * b.den) = a - b := by
  unfold rq; rw [Rat.sub_def']; congr 1
theorem rq_mul {a b : Rat} : rq (a.num * b.num) (a.den * b.den) = a * b := by
  unfold rq; rw [Rat.mul_def']; congr 1
theorem rq_self {a : Rat} : rq a.num a.den = a := by
  unfold rq; simp [Rat.mkRat_self]
theorem lt_num {a b : Rat} : ltI (a.num * b.den) (b.num * a.den) = decide (a < b) := by
  unfold ltI; simp [Rat.lt_iff]
@[simp] theorem at2_0 {x y : D} : L2.atI [x, y] 0 = some x := (rfl)
@[simp] theorem at2_1 {x y : D} : L2.atI [x, y] 1 = some y := (rfl)
@[simp] theorem at3_0 {x y z : D} : L2.atI [x, y, z] 0 = some x := (rfl)
@[simp] theorem at3_1 {x y z : D} : L2.atI [x, y, z] 1 = some y := (rfl)
@[simp] theorem at3_2 {x y z : D} : L2.atI [x, y, z] 2 = some z := (rfl)
section
variable {a b : Rat}
theorem plus_ok (ha : Sz 4000 a) (hb : Sz 4000 b) : C01.M_plus [.sh (frD a), .sh (frD b)] = .ok (.val (frD (a + b))) [.un, .un] := by
  refine bodyF_rt (ρ := [.sh (frD a), .sh (frD b)]) ?_ (by simp [finA])
  have m1 := mul_big (i := a.num) (j := b.den) ha.1 hb.dI (by omega)
  have m2 := mul_big (i := b.num) (j := a.den) hb.1 ha.dI (by omega)
  have m3 := mul_big (i := a.den) (j := b.den) ha.dI hb.dI (by omega)
  have l := lowest_ok (p := a.num * b.den + b.num * a.den) (dd_pos (a := a) (b := b)) (dd_log ha hb (Nat.le_refl _))
  rw [rq_add] at l
  simp [C01.m_plus, C01.q_plus_1, m1, m2, m3, l]
theorem less_ok (ha : Sz 400000 a) (hb : Sz 400000 b) : C37.M_less [.sh (frD a), .sh (frD b)] = .ok (.val (.bool (decide (a < b)))) [.un, .un] := by
  refine bodyF_rt (ρ := [.sh (frD a), .sh (frD b)]) ?_ (by simp [finA])
  have m1 := mul_big (i := a.num) (j := b.den) ha.1 hb.dI (by omega)
  have m2 := mul_big (i := b.num) (j := a.den) hb.1 ha.dI (by omega)
  simp [C37.m_less, C37.q_less_1, m1, m2, lt_num]
theorem lawless_ok (ha : Sz 400000 a) (hb : Sz 400000 b) : C01.M__law_less [.sh (frD a), .sh (frD b)] = .ok (.val (.bool (decide (a < b)))) [.un, .un] := less_ok ha hb
theorem minus_ok (ha : Sz 4000 a) (hb : Sz 4000 b) : C37.M_minus [.sh (frD a), .sh (frD b)] = .ok (.val (frD (a - b))) [.un, .un] := by
  refine bodyF_rt (ρ := [.sh (frD a), .sh (frD b)]) ?_ (by simp [finA])
  have m1 := mul_big (i := a.num) (j := b.den) ha.1 hb.dI (by omega)
  have m2 := mul_big (i := b.num) (j := a.den) hb.1 ha.dI (by omega)
  have m3 := mul_big (i := a.den) (j := b.den) ha.dI hb.dI (by omega)
  have l := lowest_ok (p := a.num * b.den - b.num * a.den) (dd_pos (a := a) (b := b)) (dd_log ha hb (Nat.le_refl _))
  rw [rq_sub] at l
  simp [C37.m_minus, C37.q_minus_1, m1, m2, m3, l]
theorem times_ok (ha : Sz 4000 a) (hb : Sz 4000 b) : C37.M_times [.sh (frD a), .sh (frD b)] = .ok (.val (frD (a * b))) [.un, .un] := by
  refine bodyF_rt (ρ := [.sh (frD a), .sh (frD b)]) ?_ (by simp [finA])
  have m1 := mul_big (i := a.num) (j := b.num) ha.1 hb.1 (by omega)
  have m3 := mul_big (i := a.den) (j := b.den) ha.dI hb.dI (by omega)
  have l := lowest_ok (p := a.num * b.num) (dd_pos (a := a) (b := b)) (dd_log ha hb (Nat.le_refl _))
  rw [rq_mul] at l
  simp [C37.m_times, C37.q_times_1, m1, m3, l]
end
/-! ### Euclid -/
theorem gcd_step {a b : Nat} : Nat.gcd a b = Nat.gcd b (a % b) := by rw [Nat.gcd_comm a b, Nat.gcd_rec b a, Nat.gcd_comm]
theorem euc_half {b r k : Nat} (hb : b < 2 ^ (k + 1)) (hr : 0 < r) (hrb : r < b) : b % r < 2 ^ k := by
  have h1 := Nat.mod_lt b hr
  have h2 : b % r + r ≤ b := by
    have h3 := Nat.div_add_mod b r
    have h4 : 1 ≤ b / r := (Nat.one_le_div_iff hr).mpr (by omega)
    have h5 : r * 1 ≤ r * (b / r) := Nat.mul_le_mul_left _ h4
    omega
  rw [Nat.pow_succ] at hb
  omega
def gc1 : P Bool := seq (args [(.sl 1), (.ex (kst (.int 0)))] (f2 (ordD gtI))) toB
theorem gc1_ap {a b : Nat} : gc1 [.sh (.int a), .sh (.int b)] = .ok (decide (0 < b)) [.sh (.int a), .sh (.int b)] := by
  have : gtI (b : Int) 0 = decide (0 < b) := by unfold gtI; simp
  simp [gc1, this]
theorem gcd_loop : ∀ (k a b n : Nat), b < 2 ^ k → 2 * k + 1 ≤ n → whileF n gc1 C01.q__law_gcd_2 [.sh (.int a), .sh (.int b)] = .ok .nx [.sh (.int (Nat.gcd a b : Nat)), .sh (.int 0)] := by
  intro k
  induction k with
  | zero =>
    intro a b n hb hn
    obtain rfl : b = 0 := by simpa using hb
    obtain ⟨n, rfl⟩ : ∃ m, n = m + 1 := ⟨n - 1, by omega⟩
    rw [whileF_s, gc1_ap]
    simp
  | succ k ih =>
    intro a b n hb hn
    obtain ⟨n, rfl⟩ : ∃ m, n = m + 1 := ⟨n - 1, by omega⟩
    rw [whileF_s, gc1_ap]
    by_cases h0 : b = 0
    · subst h0; simp
    · have hp : 0 < b := by omega
      have step : ∀ {a b : Nat}, 0 < b → C01.q__law_gcd_2 [.sh (.int a), .sh (.int b)] = .ok .nx [.sh (.int b), .sh (.int (a % b : Nat))] := fun {a b} hp => by
        have e := mod_ii (i := (a : Int)) (j := (b : Int)) (by omega)
        simp [C01.q__law_gcd_2, e]
      simp only [hp, decide_true, bind_ok, if_true, step hp, turn_nx']
      rw [gcd_step]
      by_cases h1 : a % b = 0
      · rw [h1]
        obtain ⟨n, rfl⟩ : ∃ m, n = m + 1 := ⟨n - 1, by omega⟩
        rw [whileF_s, gc1_ap]
        simp
      · have hr : 0 < a % b := by omega
        obtain ⟨n, rfl⟩ : ∃ m, n = m + 1 := ⟨n - 1, by omega⟩
        rw [whileF_s, gc1_ap]
        simp only [hr, decide_true, bind_ok, if_true, step hr, turn_nx']
        rw [gcd_step, ih _ _ _ (euc_half hb hr (Nat.mod_lt _ hp)) (by omega)]
theorem lawgcd_ok {p w : Int} {k : Nat} (hw : w.natAbs < 2 ^ k) (hk : k ≤ 9000) : C01.M__law_gcd [.sh (.int p), .sh (.int w)] = .ok (.val (.int ((Nat.gcd p.natAbs w.natAbs : Nat) : Int))) [.un, .un] := by
  refine bodyF_rt (ρ := [.sh (.int ((Nat.gcd p.natAbs w.natAbs : Nat) : Int)), .sh (.int 0)]) ?_ (by simp [finA])
  have ab : ∀ i : Int, (if i < 0 then -i else i) = ((i.natAbs : Nat) : Int) := fun i => by split <;> omega
  have l := gcd_loop k p.natAbs w.natAbs 20000 hw (by omega)
  have e3 : C01.q__law_gcd_3 [.sh (.int (p.natAbs : Nat)), .sh (.int (w.natAbs : Nat))] = _ := l
  have e1 : C01.q__law_gcd_1 [.sh (.int p), .sh (.int w)] = .ok .nx [.sh (.int (p.natAbs : Nat)), .sh (.int (w.natAbs : Nat))] := by simp [C01.q__law_gcd_1, ab]
  show C01.m__law_gcd [.sh (.int p), .sh (.int w)] = _
  unfold C01.m__law_gcd
  rw [thenS_nx e1, thenS_nx e3]
  simp [C01.q__law_gcd_4]
theorem lawmade_ok {p w : Int} (h : 0 < w) (hs : w.natAbs < 2 ^ 8999) : C01.M__law_made [.sh (.int p), .sh (.int w)] = .ok (.val (frD (rq p w))) [.un, .un] := by
  have hl : w.natAbs.log2 < 9000 := Nat.lt_trans (log2_lt' hs (by decide)) (by decide)
  have d1 := fdiv_ok (i := p) (divOk_of (gcd_pos' (p := p) h) (gcd_le_w h) hl)
  have d2 := fdiv_ok (i := w) (divOk_of (gcd_pos' (p := p) h) (gcd_le_w h) hl)
  refine bodyF_rt (ρ := [.sh (.int p), .sh (.int w), .sh (.int ((Nat.gcd p.natAbs w.natAbs : Nat) : Int))]) ?_ (by simp [finA])
  have h' : ltI w 0 = false := by simp [ltI]; omega
  have g := lawgcd_ok (p := p) hs (by decide)
  simp [C01.m__law_made, C01.q__law_made_1, C01.q__law_made_2, C01.q__law_made_3, C01.q__law_made_4, h', g, d1, d2, rq_num h, rq_den h, frD]
theorem dd_lt {a b : Rat} (ha : Sz 4000 a) (hb : Sz 4000 b) : ((a.den : Int) * (b.den : Int)).natAbs < 2 ^ 8999 := by
  have e : ((a.den : Int) * (b.den : Int)).natAbs = a.den * b.den := by rw [Int.natAbs_mul]; simp
  rw [e]
  have h1 := ha.2
  have h2 := hb.2
  have : a.den * b.den < 2 ^ 4000 * 2 ^ 4000 := Nat.lt_of_lt_of_le (Nat.mul_lt_mul_of_pos_right h1 b.den_pos) (Nat.mul_le_mul_left _ (Nat.le_of_lt h2))
  rw [← Nat.pow_add] at this
  exact Nat.lt_trans this (Nat.pow_lt_pow_right (by decide) (by decide))
section
variable {a b : Rat}
theorem lawplus_ok (ha : Sz 4000 a) (hb : Sz 4000 b) : C01.M__law_plus [.sh (frD a), .sh (frD b)] = .ok (.val (frD (a + b))) [.un, .un] := by
  refine bodyF_rt (ρ := [.sh (frD a), .sh (frD b)]) ?_ (by simp [finA])
  have m1 := mul_big (i := a.num) (j := b.den) ha.1 hb.dI (by omega)
  have m2 := mul_big (i := b.num) (j := a.den) hb.1 ha.dI (by omega)
  have m3 := mul_big (i := a.den) (j := b.den) ha.dI hb.dI (by omega)
  have l := lawmade_ok (p := a.num * b.den + b.num * a.den) (dd_pos (a := a) (b := b)) (dd_lt ha hb)
  rw [rq_add] at l
  simp [C01.m__law_plus, C01.q__law_plus_1, m1, m2, m3, l]
theorem lawminus_ok (ha : Sz 4000 a) (hb : Sz 4000 b) : C01.M__law_minus [.sh (frD a), .sh (frD b)] = .ok (.val (frD (a - b))) [.un, .un] := by
  refine bodyF_rt (ρ := [.sh (frD a), .sh (frD b)]) ?_ (by simp [finA])
  have m1 := mul_big (i := a.num) (j := b.den) ha.1 hb.dI (by omega)
  have m2 := mul_big (i := b.num) (j := a.den) hb.1 ha.dI (by omega)
  have m3 := mul_big (i := a.den) (j := b.den) ha.dI hb.dI (by omega)
  have l := lawmade_ok (p := a.num * b.den - b.num * a.den) (dd_pos (a := a) (b := b)) (dd_lt ha hb)
  rw [rq_sub] at l
  simp [C01.m__law_minus, C01.q__law_minus_1, m1, m2, m3, l]
theorem lawtimes_ok (ha : Sz 4000 a) (hb : Sz 4000 b) : C01.M__law_times [.sh (frD a), .sh (frD b)] = .ok (.val (frD (a * b))) [.un, .un] := by
  refine bodyF_rt (ρ := [.sh (frD a), .sh (frD b)]) ?_ (by simp [finA])
  have m1 := mul_big (i := a.num) (j := b.num) ha.1 hb.1 (by omega)
  have m3 := mul_big (i := a.den) (j := b.den) ha.dI hb.dI (by omega)
  have l := lawmade_ok (p := a.num * b.num) (dd_pos (a := a) (b := b)) (dd_lt ha hb)
  rw [rq_mul] at l
  simp [C01.m__law_times, C01.q__law_times_1, m1, m3, l]
end
/-! ### Euclid, by // alone -/
def gc2 : P Bool := seq (args [(.sl 3), (.ex (kst (.int 0)))] (f2 (ordD gtI))) toB
theorem gc2_ap {x y : Sl} {a b : Nat} : gc2 [x, y, .sh (.int a), .sh (.int b)] = .ok (decide (0 < b)) [x, y, .sh (.int a), .sh (.int b)] := by
  have : gtI (b : Int) 0 = decide (0 < b) := by unfold gtI; simp
  simp [gc2, this]
theorem low_step {x y : Sl} {a b k : Nat} (ha : a < 2 ^ k) (hk : k ≤ 800000) (hp : 0 < b) (hb : b < 2 ^ 9000) : C37.q__law_lowest_2 [x, y, .sh (.int a), .sh (.int b)] = .ok .nx [x, y, .sh (.int b), .sh (.int (a % b : Nat))] := by
  have hd : divOk (b : Int) = true := by
    unfold divOk
    have : (b : Int).natAbs.log2 < 9000 := by rw [Int.natAbs_natCast]; exact log2_lt' hb (by decide)
    simp only [this, decide_true, Bool.or_true, Bool.and_true]
    simpa using hp
  have e1 := fdiv_ok (i := (a : Int)) hd
  have e0 : ((a : Int) / (b : Int)).natAbs = a / b := by
    rw [← Int.natCast_ediv]
    exact Int.natAbs_natCast _
  have e2 : mulD (.int ((a : Int) / (b : Int))) (.int (b : Int)) = some (.val (.int ((a : Int) / (b : Int) * (b : Int)))) := by
    refine mul_big (k := k) (l := 9000) ?_ (by rw [Int.natAbs_natCast]; exact hb) (by omega)
    rw [e0]
    exact Nat.lt_of_le_of_lt (Nat.div_le_self _ _) ha
  have e3 : (a : Int) - (a : Int) / (b : Int) * (b : Int) = ((a % b : Nat) : Int) := by
    have := Int.emod_def (a : Int) (b : Int)
    rw [Int.natCast_emod, this, Int.mul_comm]
  simp [C37.q__law_lowest_2, e1, e2, e3]
theorem low_loop {x y : Sl} {ka : Nat} (hka : ka ≤ 800000) (h9 : 9000 ≤ ka) : ∀ (k a b n : Nat), a < 2 ^ ka → b < 2 ^ k → k ≤ 9000 → 2 * k + 1 ≤ n → whileF n gc2 C37.q__law_lowest_2 [x, y, .sh (.int a), .sh (.int b)] = .ok .nx [x, y, .sh (.int (Nat.gcd a b : Nat)), .sh (.int 0)] := by
  intro k
  induction k with
  | zero =>
    intro a b n _ hb _ hn
    obtain rfl : b = 0 := by simpa using hb
    obtain ⟨n, rfl⟩ : ∃ m, n = m + 1 := ⟨n - 1, by omega⟩
    rw [whileF_s, gc2_ap]
    simp
  | succ k ih =>
    intro a b n ha hb hk hn
    obtain ⟨n, rfl⟩ : ∃ m, n = m + 1 := ⟨n - 1, by omega⟩
    rw [whileF_s, gc2_ap]
    by_cases h0 : b = 0
    · subst h0; simp
    · have hp : 0 < b := by omega
      have hb9 : b < 2 ^ 9000 := Nat.lt_of_lt_of_le hb (Nat.pow_le_pow_right (by decide) hk)
      simp only [hp, decide_true, bind_ok, if_true, low_step ha hka hp hb9, turn_nx']
      rw [gcd_step]
      by_cases h1 : a % b = 0
      · rw [h1]
        obtain ⟨n, rfl⟩ : ∃ m, n = m + 1 := ⟨n - 1, by omega⟩
        rw [whileF_s, gc2_ap]
        simp
      · have hr : 0 < a % b := by omega
        have hrb := Nat.mod_lt a hp
        obtain ⟨n, rfl⟩ : ∃ m, n = m + 1 := ⟨n - 1, by omega⟩
        rw [whileF_s, gc2_ap]
        have hbk : b < 2 ^ ka := Nat.lt_of_lt_of_le hb9 (Nat.pow_le_pow_right (by decide) h9)
        simp only [hr, decide_true, bind_ok, if_true, low_step hbk hka hr (Nat.lt_trans hrb hb9), turn_nx']
        rw [gcd_step, ih _ _ _ (Nat.lt_trans hrb hbk) (euc_half hb hr hrb) (by omega) (by omega)]
theorem lawlow_ok {p w : Int} (h : 0 < w) (hp : p.natAbs < 2 ^ 100000) (hs : w.natAbs < 2 ^ 8999) : C37.M__law_lowest [.sh (.int p), .sh (.int w)] = .ok (.val (frD (rq p w))) [.un, .un] := by
  have hl : w.natAbs.log2 < 9000 := Nat.lt_trans (log2_lt' hs (by decide)) (by decide)
  have d1 := fdiv_ok (i := p) (divOk_of (gcd_pos' (p := p) h) (gcd_le_w h) hl)
  have d2 := fdiv_ok (i := w) (divOk_of (gcd_pos' (p := p) h) (gcd_le_w h) hl)
  have ab : ∀ i : Int, (if i < 0 then -i else i) = ((i.natAbs : Nat) : Int) := fun i => by split <;> omega
  have ew : w = ((w.natAbs : Nat) : Int) := by omega
  have e1 : C37.q__law_lowest_1 [.sh (.int p), .sh (.int w), .un, .un] = .ok .nx [.sh (.int p), .sh (.int w), .sh (.int (p.natAbs : Nat)), .sh (.int (w.natAbs : Nat))] := by
    simp only [C37.q__law_lowest_1, parF_ap, parR_cons, args_ap, runs_cons, run_sl, look_0, cont_sh, bind_ok, seq_ap, runs_nil, ret_ap, gets_cons, get_sl, gets_nil, f1_ap, abs_i, opt_some, ab]
    rw [← ew]
    simp
  have e3 : C37.q__law_lowest_3 [.sh (.int p), .sh (.int w), .sh (.int (p.natAbs : Nat)), .sh (.int (w.natAbs : Nat))] = _ := low_loop (x := .sh (.int p)) (y := .sh (.int w)) (ka := 100000) (by decide) (by decide) 8999 p.natAbs w.natAbs 20000 hp hs (by decide) (by decide)
  refine bodyF_rt (ρ := [.sh (.int p), .sh (.int w), .sh (.int ((Nat.gcd p.natAbs w.natAbs : Nat) : Int)), .sh (.int 0)]) ?_ (by simp [finA])
  show C37.m__law_lowest [.sh (.int p), .sh (.int w), .un, .un] = _
  unfold C37.m__law_lowest
  rw [thenS_nx e1, thenS_nx e3]
  simp [C37.q__law_lowest_4, d1, d2, rq_num h, rq_den h, frD]
theorem sum_lt {i j : Int} {k : Nat} (hi : i.natAbs < 2 ^ k) (hj : j.natAbs < 2 ^ k) : (i + j).natAbs < 2 ^ (k + 1) := by
  rw [Nat.pow_succ]; omega
theorem prod_lt {i j : Int} {k l : Nat} (hi : i.natAbs < 2 ^ k) (hj : j.natAbs < 2 ^ l) : (i * j).natAbs < 2 ^ (k + l) := by
  rw [Int.natAbs_mul, Nat.pow_add]
  by_cases h0 : j.natAbs = 0
  · rw [h0, Nat.mul_zero]; exact Nat.mul_pos (Nat.pow_pos (by decide)) (Nat.pow_pos (by decide))
  · exact Nat.lt_of_lt_of_le (Nat.mul_lt_mul_of_pos_right hi (by omega)) (Nat.mul_le_mul_left _ (Nat.le_of_lt hj))
theorem lt_pow {n k l : Nat} (h : n < 2 ^ k) (hl : k ≤ l) : n < 2 ^ l := Nat.lt_of_lt_of_le h (Nat.pow_le_pow_right (by decide) hl)
section
variable {a b : Rat}
theorem lawplus37_ok (ha : Sz 4000 a) (hb : Sz 4000 b) : C37.M__law_plus [.sh (frD a), .sh (frD b)] = .ok (.val (frD (a + b))) [.un, .un] := by
  refine bodyF_rt (ρ := [.sh (frD a), .sh (frD b)]) ?_ (by simp [finA])
  have m1 := mul_big (i := a.num) (j := b.den) ha.1 hb.dI (by omega)
  have m2 := mul_big (i := b.num) (j := a.den) hb.1 ha.dI (by omega)
  have m3 := mul_big (i := a.den) (j := b.den) ha.dI hb.dI (by omega)
  have l := lawlow_ok (p := a.num * b.den + b.num * a.den) (dd_pos (a := a) (b := b)) (lt_pow (sum_lt (prod_lt ha.1 hb.dI) (prod_lt hb.1 ha.dI)) (by omega)) (dd_lt ha hb)
  rw [rq_add] at l
  simp [C37.m__law_plus, C37.q__law_plus_1, m1, m2, m3, l]
theorem lawtimes37_ok (ha : Sz 4000 a) (hb : Sz 4000 b) : C37.M__law_times [.sh (frD a), .sh (frD b)] = .ok (.val (frD (a * b))) [.un, .un] := by
  refine bodyF_rt (ρ := [.sh (frD a), .sh (frD b)]) ?_ (by simp [finA])
  have m1 := mul_big (i := a.num) (j := b.num) ha.1 hb.1 (by omega)
  have m3 := mul_big (i := a.den) (j := b.den) ha.dI hb.dI (by omega)
  have l := lawlow_ok (p := a.num * b.num) (dd_pos (a := a) (b := b)) (lt_pow (prod_lt ha.1 hb.1) (by omega)) (dd_lt ha hb)
  rw [rq_mul] at l
  simp [C37.m__law_times, C37.q__law_times_1, m1, m3, l]
end
/-! ### sizes of fractions -/
theorem num_le_rq {p w : Int} (h : 0 < w) : (rq p w).num.natAbs ≤ p.natAbs := by
  rw [rq_num h]
  exact Int.natAbs_ediv_le_natAbs _ _
theorem den_le_rq {p w : Int} (h : 0 < w) : (rq p w).den ≤ w.natAbs := by
  have := rq_den (p := p) h
  have h2 : (w / ((Nat.gcd p.natAbs w.natAbs : Nat) : Int)).natAbs ≤ w.natAbs := Int.natAbs_ediv_le_natAbs _ _
  rw [← this, Int.natAbs_natCast] at h2
  exact h2
theorem Sz.rq {k : Nat} {p w : Int} (h : 0 < w) (hp : p.natAbs < 2 ^ k) (hw : w.natAbs < 2 ^ k) : Sz k (rq p w) :=
  ⟨Nat.lt_of_le_of_lt (num_le_rq h) hp, Nat.lt_of_le_of_lt (den_le_rq h) hw⟩
theorem Sz.add {k l : Nat} {a b : Rat} (ha : Sz k a) (hb : Sz l b) : Sz (k + l + 1) (a + b) := by
  rw [← rq_add]
  refine Sz.rq dd_pos (sum_lt (k := k + l) (prod_lt ha.1 hb.dI) ?_) (lt_pow (prod_lt ha.dI hb.dI) (by omega))
  rw [Nat.add_comm]
  exact prod_lt hb.1 ha.dI
theorem Sz.mul {k l : Nat} {a b : Rat} (ha : Sz k a) (hb : Sz l b) : Sz (k + l) (a * b) := by
  rw [← rq_mul]
  exact Sz.rq dd_pos (prod_lt ha.1 hb.1) (prod_lt ha.dI hb.dI)
theorem Sz.neg {k : Nat} {a : Rat} (ha : Sz k a) : Sz k (-a) := ⟨by simpa using ha.1, by simpa using ha.2⟩
theorem Sz.sub {k l : Nat} {a b : Rat} (ha : Sz k a) (hb : Sz l b) : Sz (k + l + 1) (a - b) := by
  rw [Rat.sub_eq_add_neg]
  exact ha.add hb.neg
theorem Sz.int {k : Nat} {i : Int} (h : i.natAbs < 2 ^ k) (hk : 0 < k) : Sz k (i : Rat) :=
  ⟨by simpa using h, by simpa using Nat.one_lt_two_pow (by omega)⟩
theorem Sz.nat {k : Nat} {i : Nat} (h : i < 2 ^ k) (hk : 0 < k) : Sz k (i : Rat) :=
  ⟨by simpa using h, by simpa using Nat.one_lt_two_pow (by omega)⟩
end L3

set_option Elab.async false
set_option linter.all false
set_option maxRecDepth 100000
set_option maxHeartbeats 1000000
namespace L3
open PySem PySem.Spec PyProof.Rows L2
/-! ### loops by what holds at each turn -/
theorem forL_ind {tg : Tg} {b : P Fl} {f : Nat → D} {I : Nat → En → Prop} {ρ : En} : ∀ {n : Nat}, I 0 ρ → (∀ i < n, ∀ ρ, I i ρ → ∃ ρ1, tg (f i) ρ = some ρ1 ∧ ∃ ρ2, b ρ1 = .ok .nx ρ2 ∧ I (i + 1) ρ2) → ∃ ρ', forL tg b ((List.range n).map f) ρ = .ok .nx ρ' ∧ I n ρ' := by
  intro n h0 h
  have key : ∀ (k : Nat) (ρ : En) (j : Nat), j + k = n → I j ρ → ∃ ρ', forL tg b ((List.range' j k).map f) ρ = .ok .nx ρ' ∧ I n ρ' := by
    intro k
    induction k with
    | zero => intro ρ j hj hI; exact ⟨ρ, rfl, by rw [← hj]; exact hI⟩
    | succ k ih =>
      intro ρ j hj hI
      obtain ⟨ρ1, e1, ρ2, e2, hI2⟩ := h j (by omega) ρ hI
      obtain ⟨ρ', e', hI'⟩ := ih ρ2 (j + 1) (by omega) hI2
      refine ⟨ρ', ?_, hI'⟩
      rw [List.range'_succ, List.map_cons, forL_cons', e1]
      show turn (b ρ1) _ = _
      rw [e2, turn_nx', e']
  rw [List.range_eq_range']
  exact key n ρ 0 (by omega) h0
/-- over any list, with what is still to come -/
theorem forL_ls {tg : Tg} {b : P Fl} {I : List D → En → Prop} : ∀ {ds : List D} {ρ : En}, I ds ρ → (∀ d ds ρ, I (d :: ds) ρ → ∃ ρ1, tg d ρ = some ρ1 ∧ ∃ ρ2, b ρ1 = .ok .nx ρ2 ∧ I ds ρ2) → ∃ ρ', forL tg b ds ρ = .ok .nx ρ' ∧ I [] ρ' := by
  intro ds
  induction ds with
  | nil => intro ρ h _; exact ⟨ρ, rfl, h⟩
  | cons d ds ih =>
    intro ρ h hs
    obtain ⟨ρ1, e1, ρ2, e2, h2⟩ := hs d ds ρ h
    obtain ⟨ρ', e', h'⟩ := ih h2 hs
    refine ⟨ρ', ?_, h'⟩
    rw [forL_cons', e1]
    show turn (b ρ1) _ = _
    rw [e2, turn_nx', e']
theorem rngL_map {lo : Int} {n : Nat} : rngL lo n = (List.range n).map fun i => .int (lo + (i : Nat)) := rfl
theorem rngDn_map {hi : Int} {n : Nat} : rngDn hi n = (List.range n).map fun i => .int (hi - (i : Nat)) := rfl
theorem rng1_ok {j : Int} (h : -(4611686018427387904) ≤ j ∧ j < 4611686018427387904) : rng1 (.int j) = some (rngL 0 j.toNat) := by
  show (if (decide (-(4611686018427387904) ≤ j) && decide (j < 4611686018427387904)) = true then some (rngL 0 j.toNat) else none) = _
  rw [if_pos (by simp; omega)]
theorem rng2_ok {i j : Int} (h : -(4611686018427387904) ≤ i ∧ i < 4611686018427387904 ∧ -(4611686018427387904) ≤ j ∧ j < 4611686018427387904) : rng2 (.int i) (.int j) = some (rngL i (j - i).toNat) := by
  show (if (decide (-(4611686018427387904) ≤ i) && decide (i < 4611686018427387904) && decide (-(4611686018427387904) ≤ j) && decide (j < 4611686018427387904)) = true then some (rngL i (j - i).toNat) else none) = _
  rw [if_pos (by simp; omega)]
theorem rng3_ok {i j : Int} (h : -(4611686018427387904) ≤ i ∧ i < 4611686018427387904 ∧ -(4611686018427387904) ≤ j ∧ j < 4611686018427387904) : rng3 (.int i) (.int j) (.int (-1)) = some (rngDn i (i - j).toNat) := by
  show (if _ then some (rngDn i (i - j).toNat) else none) = _
  rw [if_pos ⟨rfl, by simp; omega⟩]
theorem rng2_nat {i j : Nat} (h : i < 1000000000000 ∧ j < 1000000000000) : rng2 (.int (i : Int)) (.int (j : Int)) = some (rngL (i : Int) (j - i)) := by
  rw [rng2_ok (by omega)]
  congr 2
  omega
theorem rng2_1 {j : Nat} (h : j < 1000000000000) : rng2 (.int 1) (.int (j : Int)) = some (rngL 1 (j - 1)) := rng2_nat (i := 1) ⟨by decide, h⟩
theorem rng2_0 {j : Nat} (h : j < 1000000000000) : rng2 (.int 0) (.int (j : Int)) = some (rngL 0 j) := rng2_nat (i := 0) ⟨by decide, h⟩
theorem rng3_nat {i j : Nat} (h : i < 1000000000000 ∧ j < 1000000000000) : rng3 (.int (i : Int)) (.int (j : Int)) (.int (-1)) = some (rngDn (i : Int) (i - j)) := by
  rw [rng3_ok (by omega)]
  congr 2
  omega
@[simp] theorem walkR3_ap {x y z : D} {ρ : En} : walkR3 [x, y, z] ρ = (opt (rng3 x y z) ρ).bind fun ds => ret (.ls ds) := (rfl)
/-- a comprehension that maps, nothing changed -/
theorem compL_map {vs : List Nat} {tg : Tg} {te : P RV} {ρ : En} {α : Type} {e : α → D} {f : α → D} (xs : List α) (hl : xs.length ≤ 16777216)
    (h : ∀ x ∈ xs, ∃ ρ1, tg (e x) ρ = some ρ1 ∧ ∃ rv ρ2, te ρ1 = .ok rv ρ2 ∧ rv.toD = f x ∧ wipeE ρ2 vs = ρ) : compL vs tg (ret true) te (xs.map e) [] ρ = .ok (xs.map f) ρ := by
  have key : ∀ (ys : List α) (acc : List D), acc.length + ys.length ≤ 16777216 → (∀ y ∈ ys, y ∈ xs) → compL vs tg (ret true) te (ys.map e) acc ρ = .ok (acc ++ ys.map f) ρ := by
    intro ys
    induction ys with
    | nil => intro acc _ _; simp
    | cons y ys ih =>
      intro acc hl hm
      obtain ⟨ρ1, e1, rv, ρ2, e2, e3, e4⟩ := h y (hm y List.mem_cons_self)
      have hl' : acc.length + (ys.length + 1) ≤ 16777216 := by simpa using hl
      rw [List.map_cons, compL_step (ρ1 := ρ1) (ρ2 := ρ1) (ρ3 := ρ2) (rv := rv) e1 rfl e2 (by unfold line; omega), e4, e3, ih _ (by simp; omega) fun z hz => hm z (List.mem_cons_of_mem _ hz)]
      simp
  simpa using key xs [] (by simpa using hl) fun _ h => h
/-- one that sifts, nothing changed -/
theorem compL_sift {vs : List Nat} {tg : Tg} {tt : P Bool} {te : P RV} {ρ : En} {α : Type} {e : α → D} {f : α → D} {p : α → Bool} (xs : List α) (hl : xs.length ≤ 16777216)
    (h : ∀ x ∈ xs, ∃ ρ1, tg (e x) ρ = some ρ1 ∧ ∃ ρ2, tt ρ1 = .ok (p x) ρ2 ∧ (p x = false → wipeE ρ2 vs = ρ) ∧ (p x = true → ∃ rv ρ3, te ρ2 = .ok rv ρ3 ∧ rv.toD = f x ∧ wipeE ρ3 vs = ρ)) : compL vs tg tt te (xs.map e) [] ρ = .ok ((xs.filter p).map f) ρ := by
  have key : ∀ (ys : List α) (acc : List D), acc.length + ys.length ≤ 16777216 → (∀ y ∈ ys, y ∈ xs) → compL vs tg tt te (ys.map e) acc ρ = .ok (acc ++ (ys.filter p).map f) ρ := by
    intro ys
    induction ys with
    | nil => intro acc _ _; simp
    | cons y ys ih =>
      intro acc hl hm
      obtain ⟨ρ1, e1, ρ2, e2, hF, hT⟩ := h y (hm y List.mem_cons_self)
      have hl' : acc.length + (ys.length + 1) ≤ 16777216 := by simpa using hl
      have ihm : ∀ z ∈ ys, z ∈ xs := fun z hz => hm z (List.mem_cons_of_mem _ hz)
      cases hp : p y with
      | true =>
        obtain ⟨rv, ρ3, e3, e4, e5⟩ := hT hp
        rw [hp] at e2
        rw [List.map_cons, compL_step (ρ1 := ρ1) (ρ2 := ρ2) (ρ3 := ρ3) (rv := rv) e1 e2 e3 (by unfold line; omega), e5, e4, ih _ (by simp; omega) ihm, List.filter_cons_of_pos (by simp [hp])]
        simp
      | false =>
        rw [hp] at e2
        rw [List.map_cons, compL_cons', e1]
        show ((noErr tt ρ1).bind _) = _
        have en : noErr tt ρ1 = .ok false ρ2 := by unfold noErr; rw [e2]
        rw [en, bind_ok]
        show compL vs tg tt te (ys.map e) acc (wipeE ρ2 vs) = _
        rw [hF hp, ih _ (by omega) ihm, List.filter_cons_of_neg (by simp [hp])]
  simpa using key xs [] (by simpa using hl) fun _ h => h
/-! ### what is asked of any value -/
def isNum (lo hi : Int) : D → Bool
  | .int i => decide (lo ≤ i) && decide (i ≤ hi)
  | _ => false
theorem isnum_ok {d : D} {lo hi : Int} : C01.M_is_number [.sh d, .sh (.int lo), .sh (.int hi)] = .ok (.val (.bool (isNum lo hi d))) [.un, .un, .un] := by
  refine bodyF_rt (ρ := [.sh d, .sh (.int lo), .sh (.int hi)]) ?_ (by simp [finA])
  cases d with
  | int i =>
    by_cases h : lo ≤ i
    · simp [C01.m_is_number, C01.q_is_number_1, isT, isNum, leI, h]
    · simp [C01.m_is_number, C01.q_is_number_1, isT, isNum, leI, h]
  | _ => simp [C01.m_is_number, C01.q_is_number_1, isT, isNum]
theorem says_ok {b c : Bool} : C01.M__law_says [.sh (.bool b), .sh (.bool c)] = .ok (.val (.bool (b == c))) [.un, .un] := by
  refine bodyF_rt (ρ := [.sh (.bool b), .sh (.bool c)]) ?_ (by simp [finA])
  simp [C01.m__law_says, C01.q__law_says_1, isT]
/-! ### draws, told apart -/
def dw (L : List Int) : Ob := dr L
def tkL (L : List Int) : List Int := L.dropLast
theorem take_dw {L : List Int} {b : Int} {j : Nat} (hb : 0 < b) : takeM [.bo j (dw L), .sh (.int b)] = .ok (.val (.int (tkR L b))) [.bo j (dw (tkL L)), .un] := take_eq hb
theorem pick_at {ds : List D} {L : List Int} {n : Nat} (h : ds.length = n) (h0 : 0 < n) : ∃ c ∈ ds, L2.atI ds (tkR L n) = some c := by
  have h1 := tkR_nn (L := L) (b := n) (by omega)
  have h2 := tkR_lt (L := L) (b := n) (by omega)
  obtain ⟨k, hk⟩ : ∃ k : Nat, tkR L n = k := ⟨(tkR L n).toNat, by omega⟩
  rw [hk, atI_nat (by omega)]
  exact ⟨ds[k]'(by omega), List.getElem_mem _, by simp [show k < ds.length by omega]⟩
theorem pick2 {x y : D} {L : List Int} : ∃ c, (c = x ∨ c = y) ∧ L2.atI [x, y] (tkR L 2) = some c := by
  obtain ⟨c, hc, e⟩ := pick_at (ds := [x, y]) (L := L) (n := 2) rfl (by decide)
  exact ⟨c, by simpa using hc, e⟩
theorem pick3 {x y z : D} {L : List Int} : ∃ c, (c = x ∨ c = y ∨ c = z) ∧ L2.atI [x, y, z] (tkR L 3) = some c := by
  obtain ⟨c, hc, e⟩ := pick_at (ds := [x, y, z]) (L := L) (n := 3) rfl (by decide)
  exact ⟨c, by simpa using hc, e⟩
theorem pick4 {x y z u : D} {L : List Int} : ∃ c, (c = x ∨ c = y ∨ c = z ∨ c = u) ∧ L2.atI [x, y, z, u] (tkR L 4) = some c := by
  obtain ⟨c, hc, e⟩ := pick_at (ds := [x, y, z, u]) (L := L) (n := 4) rfl (by decide)
  exact ⟨c, by simpa using hc, e⟩
theorem pick5 {x y z u v : D} {L : List Int} : ∃ c, (c = x ∨ c = y ∨ c = z ∨ c = u ∨ c = v) ∧ L2.atI [x, y, z, u, v] (tkR L 5) = some c := by
  obtain ⟨c, hc, e⟩ := pick_at (ds := [x, y, z, u, v]) (L := L) (n := 5) rfl (by decide)
  exact ⟨c, by simpa using hc, e⟩
theorem okA_fr {k : Nat} {q : Rat} : okA (k + 2) (frD q) = true := by
  show (decide (2 ≤ line) && _) = true
  have : decide (2 ≤ line) = true := by decide
  rw [this]
  rfl
theorem okA_tup {k : Nat} {ds : List D} (h : ds.length ≤ 16777216) (h2 : ∀ d ∈ ds, okA k d = true) : okA (k + 1) (.tuple ds) = true := by
  show (decide (ds.length ≤ line) && ds.all (okA k)) = true
  rw [Bool.and_eq_true, decide_eq_true_eq, List.all_eq_true]
  exact ⟨by unfold line; exact h, h2⟩
theorem okA_list {k : Nat} {ds : List D} (h : ds.length ≤ 16777216) (h2 : ∀ d ∈ ds, okA k d = true) : okA (k + 1) (.list ds) = true := by
  show (decide (ds.length ≤ line) && ds.all (okA k)) = true
  rw [Bool.and_eq_true, decide_eq_true_eq, List.all_eq_true]
  exact ⟨by unfold line; exact h, h2⟩
theorem alike_is {d : D} (h : okA 6 d = true) : alikeM 6 [.sh d, .sh d] = .ok (.val (.bool true)) [.un, .un] := alike_refl 6 d h
theorem alike_ints {b c : Int} : alikeM 6 [.sh (.int b), .sh (.int c)] = .ok (.val (.bool (b == c))) [.un, .un] := alike_int _ b c
theorem nil_eq : eqD (.list []) (.list []) = some (.val (.bool true)) := by rw [eq_nil rfl]; rfl
/-! ### lists and tuples put together, the same compared -/
theorem addL_ap {a b : List D} : addD (.list a) (.list b) = if a.length + b.length ≤ 16777216 then some (.own (.lst (a ++ b))) else none := rfl
theorem addT_ap {a b : List D} : addD (.tuple a) (.tuple b) = if a.length + b.length ≤ 16777216 then some (.val (.tuple (a ++ b))) else none := rfl
theorem mulL_ap {xs : List D} {k : Nat} (h : k ≤ 1000) (h2 : xs.length ≤ 1000) : mulD (.list xs) (.int (k : Int)) = some (.own (.lst (List.replicate k xs).flatten)) := by
  show (if decide (-(9223372036854775808) ≤ (k : Int)) && decide ((k : Int) < 9223372036854775808) && decide (xs.length * (k : Int).toNat ≤ line) then some (RV.own (.lst (List.replicate (k : Int).toNat xs).flatten)) else none) = _
  have : xs.length * k ≤ 1000 * 1000 := Nat.mul_le_mul h2 h
  rw [Int.toNat_natCast, if_pos (by unfold line; simp; omega)]
theorem mulT_ap {xs : List D} {k : Nat} (h : k ≤ 1000) (h2 : xs.length ≤ 1000) : mulD (.tuple xs) (.int (k : Int)) = some (.val (.tuple (List.replicate k xs).flatten)) := by
  show (if decide (-(9223372036854775808) ≤ (k : Int)) && decide ((k : Int) ≤ 1000) && decide (xs.length ≤ 1000) then some (RV.val (.tuple (List.replicate (k : Int).toNat xs).flatten)) else none) = _
  rw [Int.toNat_natCast, if_pos (by simp; omega)]
theorem eqvAll_self {n : Nat} (ih : ∀ d, okD n d = true → PyData.eqv d d = true) : ∀ {xs : List D}, xs.all (okD n) = true → PyData.eqvAll xs xs = true
  | [], _ => by simp [PyData.eqvAll]
  | x :: xs, h => by
    rw [List.all_cons, Bool.and_eq_true] at h
    simp [PyData.eqvAll, ih x h.1, eqvAll_self ih h.2]
theorem eqv_self : ∀ (n : Nat) (d : D), okD n d = true → PyData.eqv d d = true := by
  intro n
  induction n with
  | zero =>
    intro d h
    cases d with
    | none => simp [PyData.eqv]
    | bool b => simp [PyData.eqv]
    | int b => simp [PyData.eqv]
    | str x => exact eqv_str x
    | list xs => cases h
    | tuple xs => cases h
    | dict xs => cases h
  | succ n ih =>
    intro d h
    cases d with
    | none => simp [PyData.eqv]
    | bool b => simp [PyData.eqv]
    | int b => simp [PyData.eqv]
    | str x => exact eqv_str x
    | list xs => simp only [PyData.eqv]; exact eqvAll_self ih h
    | tuple xs => simp only [PyData.eqv]; exact eqvAll_self ih h
    | dict xs => cases h
theorem eq_self' {d : D} (h : okE d = true) : eqD d d = some (.val (.bool true)) := by rw [eq_ok h h, eqv_self 16 d h]
theorem ne_self' {d : D} (h : okE d = true) : neD d d = some (.val (.bool false)) := by rw [ne_ok h h, eqv_self 16 d h]; rfl
/-! ### comprehensions that change what stands around -/
theorem compL_ind {vs : List Nat} {tg : Tg} {te : P RV} {f : Nat → D} {I : Nat → List D → En → Prop} {ρ : En} {n : Nat} (hn : n ≤ 16777216) (h0 : I 0 [] ρ)
    (h : ∀ i < n, ∀ acc ρ, I i acc ρ → acc.length = i → ∃ ρ1, tg (f i) ρ = some ρ1 ∧ ∃ rv ρ2, te ρ1 = .ok rv ρ2 ∧ I (i + 1) (acc ++ [rv.toD]) (wipeE ρ2 vs)) :
    ∃ out ρ', compL vs tg (ret true) te ((List.range n).map f) [] ρ = .ok out ρ' ∧ I n out ρ' ∧ out.length = n := by
  have key : ∀ (k j : Nat) (acc : List D) (ρ : En), j + k = n → acc.length = j → I j acc ρ → ∃ out ρ', compL vs tg (ret true) te ((List.range' j k).map f) acc ρ = .ok out ρ' ∧ I n out ρ' ∧ out.length = n := by
    intro k
    induction k with
    | zero => intro j acc ρ hj ha hI; exact ⟨acc, ρ, rfl, by rw [← hj]; exact hI, by omega⟩
    | succ k ih =>
      intro j acc ρ hj ha hI
      obtain ⟨ρ1, e1, rv, ρ2, e2, hI2⟩ := h j (by omega) acc ρ hI ha
      obtain ⟨out, ρ', e', hI', hl⟩ := ih (j + 1) (acc ++ [rv.toD]) (wipeE ρ2 vs) (by omega) (by simp [ha]) hI2
      refine ⟨out, ρ', ?_, hI', hl⟩
      rw [List.range'_succ, List.map_cons, compL_step (ρ1 := ρ1) (ρ2 := ρ1) (ρ3 := ρ2) (rv := rv) e1 rfl e2 (by unfold line; omega), e']
  rw [List.range_eq_range']
  exact key n 0 [] ρ (by omega) rfl h0
/-- over a row of things -/
theorem compL_row {vs : List Nat} {tg : Tg} {te : P RV} {α : Type} {e : α → D} {I : List α → List D → En → Prop} : ∀ (xs : List α) {acc : List D} {ρ : En}, acc.length + xs.length ≤ 16777216 → I xs acc ρ →
    (∀ x xs acc ρ, I (x :: xs) acc ρ → ∃ ρ1, tg (e x) ρ = some ρ1 ∧ ∃ rv ρ2, te ρ1 = .ok rv ρ2 ∧ I xs (acc ++ [rv.toD]) (wipeE ρ2 vs)) →
    ∃ out ρ', compL vs tg (ret true) te (xs.map e) acc ρ = .ok out ρ' ∧ I [] out ρ' := by
  intro xs
  induction xs with
  | nil => intro acc ρ _ hI _; exact ⟨acc, ρ, rfl, hI⟩
  | cons x xs ih =>
    intro acc ρ hl hI h
    obtain ⟨ρ1, e1, rv, ρ2, e2, hI2⟩ := h x xs acc ρ hI
    have hl' : acc.length + (xs.length + 1) ≤ 16777216 := by simpa using hl
    obtain ⟨out, ρ', e', hI'⟩ := ih (acc := acc ++ [rv.toD]) (by simp; omega) hI2 h
    refine ⟨out, ρ', ?_, hI'⟩
    rw [List.map_cons, compL_step (ρ1 := ρ1) (ρ2 := ρ1) (ρ3 := ρ2) (rv := rv) e1 rfl e2 (by unfold line; omega), e']
theorem augF_ap {i : Nat} {f : P RV} {g : D → D → Option RV} {ρ : En} : augF i f g ρ = match ρ[i]? with
  | some (.sh x) => ((f ρ).bind fun rv => seq (opt (g x rv.toD)) (put i))
  | _ => .no := (rfl)
@[simp] theorem addI_ii {i j : Int} : addI (.int i) (.int j) = some (.val (.int (i + j))) := (rfl)
theorem lcm_ii {i j : Int} (h : i.natAbs < 18446744073709551616) (h2 : j.natAbs < 18446744073709551616) : lcmD (.int i) (.int j) = some (.val (.int ((Nat.lcm i.natAbs j.natAbs : Nat) : Int))) := by
  show (if decide (i.natAbs < 18446744073709551616) && decide (j.natAbs < 18446744073709551616) then some (RV.val (.int ((Nat.lcm i.natAbs j.natAbs : Nat) : Int))) else none) = _
  rw [if_pos (by rw [decide_eq_true h, decide_eq_true h2]; rfl)]
end L3

set_option Elab.async false
set_option linter.all false
set_option maxRecDepth 100000
set_option maxHeartbeats 0
namespace K75
open PySem PySem.Spec PyProof.Rows L2 L3
-- printed by gen.py for k75
def top (i : Nat) : Stmt := PySem.Challenge.pw_campslaid_k75_whole_gullies_and_all_thei.main.body.getD i (.Pass ⟨0, 0, 0, 0⟩)
structure Top (G : GC) (mg : Str → Option Value) (base : Heap) : Prop where
  b_ValueError : mg "ValueError" = none
  b_abs : mg "abs" = none
  b_all : mg "all" = none
  b_bool : mg "bool" = none
  b_int : mg "int" = none
  b_isinstance : mg "isinstance" = none
  b_len : mg "len" = none
  b_list : mg "list" = none
  b_max : mg "max" = none
  b_min : mg "min" = none
  b_range : mg "range" = none
  b_reversed : mg "reversed" = none
  b_str : mg "str" = none
  b_tuple : mg "tuple" = none
  b_zip : mg "zip" = none
  c_MOST_GULLIES : ∃ t, mg "MOST_GULLIES" = some (.int 6 t)
  c_MOST_TURN : ∃ t, mg "MOST_TURN" = some (.int 60 t)
  c_MOST_START : ∃ t, mg "MOST_START" = some (.int 10000 t)
  c_MOST_ROUND : ∃ t, mg "MOST_ROUND" = some (.int 5000 t)
  f_is_number : ∃ fd, Df G mg "is_number" (top 9) ["value", "least", "most"] fd
  f_is_gully : ∃ fd, Df G mg "is_gully" (top 15) ["value"] fd
  f_are_gullies : ∃ fd, Df G mg "are_gullies" (top 16) ["value"] fd
  f_can_cross : ∃ fd, Df G mg "can_cross" (top 17) ["gully"] fd
  f_can_begin : ∃ fd, Df G mg "can_begin" (top 18) ["gully", "minute"] fd
  f_next_begin : ∃ fd, Df G mg "next_begin" (top 19) ["gully", "minute"] fd
  f_earliest_begins : ∃ fd, Df G mg "earliest_begins" (top 20) ["gullies", "ways", "start"] fd
  f_arrival : ∃ fd, Df G mg "arrival" (top 21) ["gullies", "ways", "start"] fd
  f_is_free : ∃ fd, Df G mg "is_free" (top 22) ["gullies", "ways", "start"] fd
  f_free_starts : ∃ fd, Df G mg "free_starts" (top 23) ["gullies", "ways"] fd
  f__law_draws : ∃ fd, Df G mg "_law_draws" (top 25) ["script"] fd
  f__law_take : ∃ fd, Df G mg "_law_take" (top 26) ["draws", "bound"] fd
  f__law_says : ∃ fd, Df G mg "_law_says" (top 27) ["told", "due"] fd
  f__law_alike : ∃ fd, Df G mg "_law_alike" (top 28) ["found", "due"] fd
  f__law_word : ∃ fd, Df G mg "_law_word" (top 29) ["e"] fd
  f__law_round : ∃ fd, Df G mg "_law_round" (top 30) ["row"] fd
  f__law_falls : ∃ fd, Df G mg "_law_falls" (top 31) ["gully", "minute"] fd
  f__law_can : ∃ fd, Df G mg "_law_can" (top 32) ["gully", "minute"] fd
  f__law_begins : ∃ fd, Df G mg "_law_begins" (top 33) ["gullies", "ways", "start"] fd
  f__law_gully : ∃ fd, Df G mg "_law_gully" (top 34) ["draws", "turn"] fd
  f__law_told : ∃ fd, Df G mg "_law_told" (top 35) ["which", "gullies", "ways", "start"] fd
  f_law : ∃ fd, Df G mg "law" (top 36) ["script"] fd
  t_are_gullies : TbC G mg base "are_gullies"
  t_earliest_begins : TbC G mg base "earliest_begins"
  x_OutOfRange : ExF G mg "OutOfRange" 0
  x_Malformed : ExF G mg "Malformed" 1
  x_NotThere : ExF G mg "NotThere" 2
  x_Refused : ExF G mg "Refused" 3
  x_TooMuch : ExF G mg "TooMuch" 4
  x_CampError : mg "CampError" = some (.ref (He.ga G.K "CampError"))
  kinds : KindOk G (He.ga G.K "CampError") (He.ga G.K "OutOfRange") (He.ga G.K "Malformed") (He.ga G.K "NotThere") (He.ga G.K "Refused") (He.ga G.K "TooMuch") wordOf
  g_lcm : mg "lcm" = some (.builtin "math.lcm")
  tdf : G.td = false
/-! ### _law_word -/
abbrev stWord : Stmt := top 29
abbrev N_word : List Str := ["e", "kinds", "kind"]
theorem scWord : FnScope N_word ["e"] (defScope stWord) := ⟨rfl, rfl, rfl, by decide +kernel, rfl, by decide +kernel, by decide +kernel⟩
section
open HotX L2H
variable {Pg : Program} {w : World} {K : PySem.W.Frag} {mg : Str → Option Value} {base : Heap} {f cd : Addr} {A : Around} {outer : List Env} {s : Shared} {H : Hp} {E : XK} {a D : Addr} {oe : Obj} {c1 c2 c3 c4 c5 : Addr}
abbrev XW (Pg : Program) (w : World) (K : PySem.W.Frag) (mg : Str → Option Value) (base : Heap) (f : Addr) (cd : Value) (A : Around) (outer : List Env) (s : Shared) (H : Hp) (E : XK) (p : Addr × Obj) : Cx := cxH (L2N.CX Pg w) Pg w K mg base N_word "_law_word" (defScope stWord) f cd A outer s H E p
theorem ps_word {cd : Value} (hot : Hot1 A (a, oe)) (C : ExcC K D) (hz : L2N.Zn (.ref D) none oe) (hf : ∃ vs, oe.data = .fields vs)
    (g1 : mg "OutOfRange" = some (.ref c1)) (g2 : mg "Malformed" = some (.ref c2)) (g3 : mg "NotThere" = some (.ref c3)) (g4 : mg "Refused" = some (.ref c4)) (g5 : mg "TooMuch" = some (.ref c5)) (gi : mg "isinstance" = none) (gl : mg "len" = none) (gv : mg "ValueError" = none) :
    PSs (XW Pg w K mg base f cd A outer s H E (a, oe)) (defBody stWord) (tWordV K D a c1 c2 c3 c4 c5) := by
  have hp : (a, oe) ∈ (XW Pg w K mg base f cd A outer s H E (a, oe)).pn := List.mem_singleton.mpr rfl
  have hC : HotC (XW Pg w K mg base f cd A outer s H E (a, oe)) := ⟨_, hot, hp⟩
  have is : ∀ {x : Str} {c : Addr} {pp p1 p2 pos : Pos}, mg x = some (.ref c) → Gl (XW Pg w K mg base f cd A outer s H E (a, oe)) x → (x == ("__debug__" : Str)) = false → PE (XW Pg w K mg base f cd A outer s H E (a, oe)) (.Call (.Name "isinstance" pp) [.Name "e" p1, .Name x p2] [] pos) (tIs K D a c) := fun {x c pp p1 p2 pos} hx hg hd =>
    pe_callB (call_isH hp C hz hf) rfl gi boot_isinstance (pa_cons (pe_var (i := 0) rfl (.inl rfl)) (pa_cons (pe_glob hg hx rfl hd) pa_nil))
  exact pss_cons (ps_set (i := 1) scWord.nd rfl (.inl rfl) (pe_lst (t := tCons (tIs K D a c1) (tCons (tIs K D a c2) (tCons (tIs K D a c3) (tCons (tIs K D a c4) (tCons (tIs K D a c5) tNil))))) (pa_cons (is g1 rfl rfl) (pa_cons (is g2 rfl rfl) (pa_cons (is g3 rfl rfl) (pa_cons (is g4 rfl rfl) (pa_cons (is g5 rfl rfl) pa_nil)))))))
    (pss_cons (ps_if (PW.pt (pw_or (pt_not (pt_val (t := tIsV K D a) (pe_callB (call_isH hp C hz hf) rfl gi boot_isinstance (pa_cons (pe_var (i := 0) rfl (.inl rfl)) (pa_cons (pe_bltn rfl gv L3.boot_VE rfl) pa_nil)))) ) (pw_or1 (pt_cmpR op_ne (pe_callB call_len rfl gl boot_len (pa_cons (pe_lcH (own := [("kind", 2)]) hC scWord.nd (pih_list (pe_var (i := 1) rfl (.inl rfl))) (show BlkOk N_word (defScope stWord) _ [("kind", 2)] from ⟨rfl, by decide +kernel, by decide +kernel, by decide +kernel, by decide +kernel⟩)
        (fun s H C cl fp => pg_name (i := 2) scWord.nd rfl (.inl rfl) (.inr rfl)) (fun s H C cl fp => pts_one (pt_val (pe_var (i := 2) rfl (.inl rfl)))) (fun s H C cl fp => pe_var (i := 2) rfl (.inl rfl)) (fun _ => rfl)) pa_nil)) pe_int (nomark _))))) (pss_one (ps_ret pe_str)) pss_nil)
    (pss_one (ps_ret (pe_ix ix_seq (pe_lst (pa_cons pe_str (pa_cons pe_str (pa_cons pe_str (pa_cons pe_str (pa_cons pe_str pa_nil)))))) (pe_bm PySem.F.plainAttrs_list PySem.F.slot_list_index PySem.F.type_list_index mt_index (pe_var (i := 1) rfl (.inl rfl)) (pa_cons pe_bl pa_nil)) (fun _ _ => rfl)))))
theorem ok_word {fd : FuncData} (F : Dn K "_law_word" stWord fd) (g1 : mg "OutOfRange" = some (.ref c1)) (g2 : mg "Malformed" = some (.ref c2)) (g3 : mg "NotThere" = some (.ref c3)) (g4 : mg "Refused" = some (.ref c4)) (g5 : mg "TooMuch" = some (.ref c5)) (gi : mg "isinstance" = none) (gl : mg "len" = none) (gv : mg "ValueError" = none) :
    FnE Pg w K mg base (L2N.CX Pg w) 1 (He.fAd K ("_law_word", none)) fd ["e"] (spWord K c1 c2 c3 c4 c5) := by
  obtain ⟨oc, od, dV, kV, doc, pm, an, cdv, ct, osl, rfl, lk, hcd, _, _⟩ := F.ex
  refine fnE_of lk hcd scWord (fun p vs H Q E h => by rw [h.1]; rfl) fun p A outer s H vs Q E hot room h => ?_
  obtain ⟨rfl, D, b1, b2, b3, b4, b5, j, wd, hz, hf, C, ⟨k1, k2, k3, k4, k5⟩, kv, o, hw, q⟩ := h
  exact ⟨_, ps_word (a := p.1) (oe := p.2) hot C hz hf g1 g2 g3 g4 g5 gi gl gv, word_okV k1 k2 k3 k4 k5 kv o hw q⟩
theorem okE_word {G : GC} (T : Top G mg base) : OkE Pg w G mg base 1 (top 29) := by
  obtain ⟨fd, D⟩ := T.f__law_word
  exact ⟨fd, D, ok_word D.dn T.x_OutOfRange.gl T.x_Malformed.gl T.x_NotThere.gl T.x_Refused.gl T.x_TooMuch.gl T.b_isinstance T.b_len T.b_ValueError⟩
end
/-! ### is_number -/
def N_is_number : List Str := ["value", "least", "most"]
theorem sc_is_number : FnScope N_is_number ["value", "least", "most"] (defScope (top 9)) := ⟨rfl, rfl, rfl, by decide +kernel, rfl, by decide +kernel, by decide +kernel⟩
def q_is_number_1 : P Fl := (seq (andV (args [(.sl 0)] (isiF .int)) (andV (notV (args [(.sl 0)] (isiF .bool))) (chainF leI leI (shr 1) (shr 0) (shr 2)))) fun rv => ret (.rt rv))
def m_is_number : P Fl := q_is_number_1
def M_is_number : List Sl → Res RV := bodyF 3 3 m_is_number
theorem k_is_number {Pg : Program} {w : World} {G : GC} {mg : Str → Option Value} {base : Heap} (T : Top G mg base)  : Ok1 Pg w G mg base 1 "is_number" (top 9) ["value", "least", "most"] 3 M_is_number := by
  obtain ⟨fd, F⟩ := T.f_is_number
  refine ⟨fd, F, ok_defC F.dn sc_is_number rfl fun E => ?_⟩
  have cx := cxs_defC (P := Pg) (w := w) (G := G) (mg := mg) (base := base) (qual := "is_number") (st := top 9) (f := He.fAd G.K ("is_number", none)) (c := He.codeOf G.K ("is_number", none)) (k := 0) sc_is_number E
  exact (sxs_one (sx_ret (rx_and (rx_isi .int (fun _ => rfl) rfl (fun _ => rfl) (fun _ => T.b_isinstance) (fun _ => rfl) (fun _ => T.b_int) (ox_sl 0 (fun _ => rfl) (fun _ => (.inl rfl))) (by decide) (by decide) (fun _ => rfl) (fun _ => rfl) (fun _ => rfl)) (rx_and (rx_not (rx_isi .bool (fun _ => rfl) rfl (fun _ => rfl) (fun _ => T.b_isinstance) (fun _ => rfl) (fun _ => T.b_bool) (ox_sl 0 (fun _ => rfl) (fun _ => (.inl rfl))) (by decide) (by decide) (fun _ => rfl) (fun _ => rfl) (fun _ => rfl))) (rx_one1 (rx_chain oo_le oo_le (rx_shr 1 (fun _ => rfl) (fun _ => (.inl rfl))) (rx_shr 0 (fun _ => rfl) (fun _ => (.inl rfl))) (rx_shr 2 (fun _ => rfl) (fun _ => (.inl rfl))) rfl))))))
/-! ### is_gully -/
def N_is_gully : List Str := ["value", "turn", "rest", "fall", "cross"]
theorem sc_is_gully : FnScope N_is_gully ["value"] (defScope (top 15)) := ⟨rfl, rfl, rfl, by decide +kernel, rfl, by decide +kernel, by decide +kernel⟩
def q_is_gully_1 : P Fl := (seq (kst (.bool false)) fun rv => ret (.rt rv))
def q_is_gully_2 : P Fl := (ifP (orP (notP (args [(.ex (args [(.sl 0)] (isiF .tuple)))] truO)) (orP (seq (args [(.ex (args [(.sl 0)] (f1 lenD))), (.ex (kst (.int 4)))] (f2 (neD))) toB) (notP (args [(.ex (callF M_is_number [.ex (args [(.sl 0), (.ex (kst (.int 0)))] (f2 ixD)), .ex (kst (.int 2)), .ex (kst (.int 60))]))] truO)))) q_is_gully_1 (ret .nx))
def q_is_gully_3 : P Fl := (unpF [1, 2, 3, 4] (shr 0))
def q_is_gully_4 : P Fl := (seq (andV (callF M_is_number [.ex (shr 2), .ex (kst (.int 0)), .ex (args [(.sl 1), (.ex (kst (.int 1)))] (f2 subD))]) (andV (callF M_is_number [.ex (shr 3), .ex (kst (.int 1)), .ex (args [(.sl 1), (.ex (kst (.int 1)))] (f2 subD))]) (callF M_is_number [.ex (shr 4), .ex (kst (.int 1)), .ex (kst (.int 60))]))) fun rv => ret (.rt rv))
def m_is_gully : P Fl := (thenS q_is_gully_2
  (thenS q_is_gully_3
  q_is_gully_4))
def M_is_gully : List Sl → Res RV := bodyF 1 5 m_is_gully
theorem k_is_gully {Pg : Program} {w : World} {G : GC} {mg : Str → Option Value} {base : Heap} (T : Top G mg base) (o_is_number : Ok1 Pg w G mg base 1 "is_number" (top 9) ["value", "least", "most"] 3 M_is_number) : Ok1 Pg w G mg base 2 "is_gully" (top 15) ["value"] 1 M_is_gully := by
  obtain ⟨fd, F⟩ := T.f_is_gully
  refine ⟨fd, F, ok_defC F.dn sc_is_gully rfl fun E => ?_⟩
  have cx := cxs_defC (P := Pg) (w := w) (G := G) (mg := mg) (base := base) (qual := "is_gully") (st := top 15) (f := He.fAd G.K ("is_gully", none)) (c := He.codeOf G.K ("is_gully", none)) (k := 1) sc_is_gully E
  exact (sxs_cons (sx_if (bx_w (wx_or (bx_not (bx_tru (fun _ => rfl) (ox_ex (rx_isi .tuple (fun _ => rfl) rfl (fun _ => rfl) (fun _ => T.b_isinstance) (fun _ => rfl) (fun _ => T.b_tuple) (ox_sl 0 (fun _ => rfl) (fun _ => (.inl rfl))) (by decide) (by decide) (fun _ => rfl) (fun _ => rfl) (fun _ => rfl))) (fun _ _ => rfl))) (wx_or (bx_cmp (qx_ne (fun _ => rfl) cx.room (ox_ex (rx_len (fun _ => rfl) (fun _ => rfl) (fun _ => T.b_len) (ax_cons (ox_sl 0 (fun _ => rfl) (fun _ => (.inl rfl))) ax_nil (fun _ => rfl)) (fun _ => rfl) (fun _ => rfl))) (ox_ex rx_int))) (wx_or1 (bx_not (bx_tru (fun _ => rfl) (ox_ex (rx_callD (cs := [.ex (args [(.sl 0), (.ex (kst (.int 0)))] (f2 ixD)), .ex (kst (.int 2)), .ex (kst (.int 60))]) cx o_is_number (by decide) ⟨by simp [mus], by simp [lns, mus]⟩ (fun _ => rfl) (ax_cons (ox_ex (rx_ix (fun _ => rfl) (fun _ _ => rfl) (ox_sl 0 (fun _ => rfl) (fun _ => (.inl rfl))) (ox_ex rx_int))) (ax_cons (ox_ex rx_int) (ax_cons (ox_ex (rx_gint cx (fun _ => rfl) T.c_MOST_TURN)) ax_nil (fun _ => rfl)) (fun _ => rfl)) (fun _ => rfl)) (fun _ => rfl) (fun _ => rfl))) (fun _ _ => rfl))))))) (sxs_one (sx_ret rx_bl)) sxs_nil)
  (sxs_cons (sx_unp (gx_tup (fun _ => rfl) (fun _ => rfl) (.cons (i := 1) (fun _ => sc_is_gully.nd) (fun _ => rfl) (fun _ => (.inl rfl)) (fun _ => (.inl rfl)) (fun _ => rfl) (.cons (i := 2) (fun _ => sc_is_gully.nd) (fun _ => rfl) (fun _ => (.inl rfl)) (fun _ => (.inl rfl)) (fun _ => rfl) (.cons (i := 3) (fun _ => sc_is_gully.nd) (fun _ => rfl) (fun _ => (.inl rfl)) (fun _ => (.inl rfl)) (fun _ => rfl) (.cons (i := 4) (fun _ => sc_is_gully.nd) (fun _ => rfl) (fun _ => (.inl rfl)) (fun _ => (.inl rfl)) (fun _ => rfl) .nil)))) (fun _ => rfl) (fun _ => rfl)) (rx_shr 0 (fun _ => rfl) (fun _ => (.inl rfl))) (fun _ => rfl) (fun _ => rfl) (fun _ => rfl))
  (sxs_one (sx_ret (rx_and (rx_callD (cs := [.ex (shr 2), .ex (kst (.int 0)), .ex (args [(.sl 1), (.ex (kst (.int 1)))] (f2 subD))]) cx o_is_number (by decide) ⟨by simp [mus], by simp [lns, mus]⟩ (fun _ => rfl) (ax_cons (ox_ex (rx_shr 2 (fun _ => rfl) (fun _ => (.inl rfl)))) (ax_cons (ox_ex rx_int) (ax_cons (ox_ex (rx_sub (ox_sl 1 (fun _ => rfl) (fun _ => (.inl rfl))) (ox_ex rx_int))) ax_nil (fun _ => rfl)) (fun _ => rfl)) (fun _ => rfl)) (fun _ => rfl) (fun _ => rfl)) (rx_and (rx_callD (cs := [.ex (shr 3), .ex (kst (.int 1)), .ex (args [(.sl 1), (.ex (kst (.int 1)))] (f2 subD))]) cx o_is_number (by decide) ⟨by simp [mus], by simp [lns, mus]⟩ (fun _ => rfl) (ax_cons (ox_ex (rx_shr 3 (fun _ => rfl) (fun _ => (.inl rfl)))) (ax_cons (ox_ex rx_int) (ax_cons (ox_ex (rx_sub (ox_sl 1 (fun _ => rfl) (fun _ => (.inl rfl))) (ox_ex rx_int))) ax_nil (fun _ => rfl)) (fun _ => rfl)) (fun _ => rfl)) (fun _ => rfl) (fun _ => rfl)) (rx_one1 (rx_callD (cs := [.ex (shr 4), .ex (kst (.int 1)), .ex (kst (.int 60))]) cx o_is_number (by decide) ⟨by simp [mus], by simp [lns, mus]⟩ (fun _ => rfl) (ax_cons (ox_ex (rx_shr 4 (fun _ => rfl) (fun _ => (.inl rfl)))) (ax_cons (ox_ex rx_int) (ax_cons (ox_ex (rx_gint cx (fun _ => rfl) T.c_MOST_TURN)) ax_nil (fun _ => rfl)) (fun _ => rfl)) (fun _ => rfl)) (fun _ => rfl) (fun _ => rfl)))))))))
/-! ### are_gullies -/
def N_are_gullies : List Str := ["value"]
theorem sc_are_gullies : FnScope N_are_gullies ["value"] (defScope (top 16)) := ⟨rfl, rfl, rfl, by decide +kernel, rfl, by decide +kernel, by decide +kernel⟩
def q_are_gullies_2 : P Fl := (seq (andV (args [(.sl 0)] (isiF .tuple)) (andV (chainF leI leI (kst (.int 1)) (args [(.sl 0)] (f1 lenD)) (kst (.int 6))) (gF false [] 1 (walk (shr 0)) (putG 0) (ret true) (callF M_is_gully [.ex (shr 0)])))) fun rv => ret (.rt rv))
def m_are_gullies : P Fl := q_are_gullies_2
def M_are_gullies : List Sl → Res RV := bodyF 1 1 m_are_gullies
theorem k_are_gullies {Pg : Program} {w : World} {G : GC} {mg : Str → Option Value} {base : Heap} (T : Top G mg base) (o_is_gully : Ok1 Pg w G mg base 2 "is_gully" (top 15) ["value"] 1 M_is_gully) : Ok1 Pg w G mg base 4 "are_gullies" (top 16) ["value"] 1 M_are_gullies := by
  obtain ⟨fd, F⟩ := T.f_are_gullies
  refine ⟨fd, F, ok_defC F.dn sc_are_gullies rfl fun E => ?_⟩
  have cx := cxs_defC (P := Pg) (w := w) (G := G) (mg := mg) (base := base) (qual := "are_gullies") (st := top 16) (f := He.fAd G.K ("are_gullies", none)) (c := He.codeOf G.K ("are_gullies", none)) (k := 3) sc_are_gullies E
  exact (sxs_one (sx_ret (rx_and (rx_isi .tuple (fun _ => rfl) rfl (fun _ => rfl) (fun _ => T.b_isinstance) (fun _ => rfl) (fun _ => T.b_tuple) (ox_sl 0 (fun _ => rfl) (fun _ => (.inl rfl))) (by decide) (by decide) (fun _ => rfl) (fun _ => rfl) (fun _ => rfl)) (rx_and (rx_chain oo_le oo_le rx_int (rx_len (fun _ => rfl) (fun _ => rfl) (fun _ => T.b_len) (ax_cons (ox_sl 0 (fun _ => rfl) (fun _ => (.inl rfl))) ax_nil (fun _ => rfl)) (fun _ => rfl) (fun _ => rfl)) (rx_gint cx (fun _ => rfl) T.c_MOST_GULLIES) rfl) (rx_one1 (rx_all (k := 2) (cap := []) (own := ["one"]) cx (fun _ => rfl) T.b_all T.t_are_gullies.2 T.t_are_gullies.1 (fun _ => rfl) (fun _ => (show GenOk (defScope (top 16)) _ from ⟨rfl, rfl, by decide +kernel, rfl, by decide +kernel, by decide +kernel⟩)) (ix_walk (fun _ => rfl) (rx_shr 0 (fun _ => rfl) (fun _ => (.inl rfl)))) (fun _ _ => rfl) (by intro q hq; simp at hq) (gx_name 0 (fun _ => (show List.Nodup (["one"] : List Str) from by decide +kernel)) (fun _ => rfl) (fun _ => (.inl rfl)) (fun _ => (.inr rfl))) tx_nil (rx_callD (cs := [.ex (shr 0)]) (cxs_gen (k := 2) cx _ (Ng := ["one"]) (by decide +kernel)) o_is_gully (by decide) ⟨by simp [mus], by simp [lns, mus]⟩ (fun _ => rfl) (ax_cons (ox_ex (rx_shr 0 (fun _ => rfl) (fun _ => (.inl rfl)))) ax_nil (fun _ => rfl)) (fun _ => rfl) (fun _ => rfl)) (fun _ => rfl)))))))
/-! ### can_cross -/
def N_can_cross : List Str := ["gully"]
theorem sc_can_cross : FnScope N_can_cross ["gully"] (defScope (top 17)) := ⟨rfl, rfl, rfl, by decide +kernel, rfl, by decide +kernel, by decide +kernel⟩
def q_can_cross_1 : P Fl := (seq (args [(.ex (args [(.sl 0), (.ex (kst (.int 3)))] (f2 ixD))), (.ex (args [(.ex (args [(.sl 0), (.ex (kst (.int 0)))] (f2 ixD))), (.ex (args [(.sl 0), (.ex (kst (.int 2)))] (f2 ixD)))] (f2 subD)))] (f2 (ordD leI))) fun rv => ret (.rt rv))
def m_can_cross : P Fl := q_can_cross_1
def M_can_cross : List Sl → Res RV := bodyF 1 1 m_can_cross
theorem k_can_cross {Pg : Program} {w : World} {G : GC} {mg : Str → Option Value} {base : Heap} (T : Top G mg base)  : Ok1 Pg w G mg base 1 "can_cross" (top 17) ["gully"] 1 M_can_cross := by
  obtain ⟨fd, F⟩ := T.f_can_cross
  refine ⟨fd, F, ok_defC F.dn sc_can_cross rfl fun E => ?_⟩
  have cx := cxs_defC (P := Pg) (w := w) (G := G) (mg := mg) (base := base) (qual := "can_cross") (st := top 17) (f := He.fAd G.K ("can_cross", none)) (c := He.codeOf G.K ("can_cross", none)) (k := 0) sc_can_cross E
  exact (sxs_one (sx_ret (rx_cmp (qx_le (ox_ex (rx_ix (fun _ => rfl) (fun _ _ => rfl) (ox_sl 0 (fun _ => rfl) (fun _ => (.inl rfl))) (ox_ex rx_int))) (ox_ex (rx_sub (ox_ex (rx_ix (fun _ => rfl) (fun _ _ => rfl) (ox_sl 0 (fun _ => rfl) (fun _ => (.inl rfl))) (ox_ex rx_int))) (ox_ex (rx_ix (fun _ => rfl) (fun _ _ => rfl) (ox_sl 0 (fun _ => rfl) (fun _ => (.inl rfl))) (ox_ex rx_int)))))))))
/-! ### can_begin -/
def N_can_begin : List Str := ["gully", "minute", "turn", "rest", "fall", "cross"]
theorem sc_can_begin : FnScope N_can_begin ["gully", "minute"] (defScope (top 18)) := ⟨rfl, rfl, rfl, by decide +kernel, rfl, by decide +kernel, by decide +kernel⟩
def q_can_begin_1 : P Fl := (unpF [2, 3, 4, 5] (shr 0))
def q_can_begin_2 : P Fl := (seq (andV (args [(.ex (args [(.ex (args [(.sl 1), (.sl 3)] (f2 subD))), (.sl 2)] (f2 modD))), (.sl 4)] (f2 (ordD geI))) (args [(.ex (args [(.ex (args [(.ex (args [(.sl 1), (.sl 3)] (f2 subD))), (.sl 2)] (f2 modD))), (.sl 5)] (f2 addD))), (.sl 2)] (f2 (ordD leI)))) fun rv => ret (.rt rv))
def m_can_begin : P Fl := (thenS q_can_begin_1
  q_can_begin_2)
def M_can_begin : List Sl → Res RV := bodyF 2 6 m_can_begin
theorem k_can_begin {Pg : Program} {w : World} {G : GC} {mg : Str → Option Value} {base : Heap} (T : Top G mg base)  : Ok1 Pg w G mg base 1 "can_begin" (top 18) ["gully", "minute"] 2 M_can_begin := by
  obtain ⟨fd, F⟩ := T.f_can_begin
  refine ⟨fd, F, ok_defC F.dn sc_can_begin rfl fun E => ?_⟩
  have cx := cxs_defC (P := Pg) (w := w) (G := G) (mg := mg) (base := base) (qual := "can_begin") (st := top 18) (f := He.fAd G.K ("can_begin", none)) (c := He.codeOf G.K ("can_begin", none)) (k := 0) sc_can_begin E
  exact (sxs_cons (sx_unp (gx_tup (fun _ => rfl) (fun _ => rfl) (.cons (i := 2) (fun _ => sc_can_begin.nd) (fun _ => rfl) (fun _ => (.inl rfl)) (fun _ => (.inl rfl)) (fun _ => rfl) (.cons (i := 3) (fun _ => sc_can_begin.nd) (fun _ => rfl) (fun _ => (.inl rfl)) (fun _ => (.inl rfl)) (fun _ => rfl) (.cons (i := 4) (fun _ => sc_can_begin.nd) (fun _ => rfl) (fun _ => (.inl rfl)) (fun _ => (.inl rfl)) (fun _ => rfl) (.cons (i := 5) (fun _ => sc_can_begin.nd) (fun _ => rfl) (fun _ => (.inl rfl)) (fun _ => (.inl rfl)) (fun _ => rfl) .nil)))) (fun _ => rfl) (fun _ => rfl)) (rx_shr 0 (fun _ => rfl) (fun _ => (.inl rfl))) (fun _ => rfl) (fun _ => rfl) (fun _ => rfl))
  (sxs_one (sx_ret (rx_and (rx_cmp (qx_ge (ox_ex (rx_mod (ox_ex (rx_sub (ox_sl 1 (fun _ => rfl) (fun _ => (.inl rfl))) (ox_sl 3 (fun _ => rfl) (fun _ => (.inl rfl))))) (ox_sl 2 (fun _ => rfl) (fun _ => (.inl rfl))))) (ox_sl 4 (fun _ => rfl) (fun _ => (.inl rfl))))) (rx_one1 (rx_cmp (qx_le (ox_ex (rx_add (fun _ => rfl) (ox_ex (rx_mod (ox_ex (rx_sub (ox_sl 1 (fun _ => rfl) (fun _ => (.inl rfl))) (ox_sl 3 (fun _ => rfl) (fun _ => (.inl rfl))))) (ox_sl 2 (fun _ => rfl) (fun _ => (.inl rfl))))) (ox_sl 5 (fun _ => rfl) (fun _ => (.inl rfl))))) (ox_sl 2 (fun _ => rfl) (fun _ => (.inl rfl))))))))))
/-! ### next_begin -/
def N_next_begin : List Str := ["gully", "minute"]
theorem sc_next_begin : FnScope N_next_begin ["gully", "minute"] (defScope (top 19)) := ⟨rfl, rfl, rfl, by decide +kernel, rfl, by decide +kernel, by decide +kernel⟩
def q_next_begin_1 : P Fl := (augF 1 (kst (.int 1)) addI)
def q_next_begin_2 : P Fl := (whileF 20000 (notP (args [(.ex (callF M_can_begin [.ex (shr 0), .ex (shr 1)]))] truO)) q_next_begin_1)
def q_next_begin_3 : P Fl := (seq (mov 1) fun rv => ret (.rt rv))
def m_next_begin : P Fl := (thenS q_next_begin_2
  q_next_begin_3)
def M_next_begin : List Sl → Res RV := bodyF 2 2 m_next_begin
theorem k_next_begin {Pg : Program} {w : World} {G : GC} {mg : Str → Option Value} {base : Heap} (T : Top G mg base) (o_can_begin : Ok1 Pg w G mg base 1 "can_begin" (top 18) ["gully", "minute"] 2 M_can_begin) : Ok1 Pg w G mg base 2 "next_begin" (top 19) ["gully", "minute"] 2 M_next_begin := by
  obtain ⟨fd, F⟩ := T.f_next_begin
  refine ⟨fd, F, ok_defC F.dn sc_next_begin rfl fun E => ?_⟩
  have cx := cxs_defC (P := Pg) (w := w) (G := G) (mg := mg) (base := base) (qual := "next_begin") (st := top 19) (f := He.fAd G.K ("next_begin", none)) (c := He.codeOf G.K ("next_begin", none)) (k := 1) sc_next_begin E
  exact (sxs_cons (sx_while 20000 (fun i => owns_defC i) (bx_not (bx_tru (fun _ => rfl) (ox_ex (rx_callD (cs := [.ex (shr 0), .ex (shr 1)]) cx o_can_begin (by decide) ⟨by simp [mus], by simp [lns, mus]⟩ (fun _ => rfl) (ax_cons (ox_ex (rx_shr 0 (fun _ => rfl) (fun _ => (.inl rfl)))) (ax_cons (ox_ex (rx_shr 1 (fun _ => rfl) (fun _ => (.inl rfl)))) ax_nil (fun _ => rfl)) (fun _ => rfl)) (fun _ => rfl) (fun _ => rfl))) (fun _ _ => rfl))) (sxs_one (sx_aug 1 (fun _ => sc_next_begin.nd) (fun _ => rfl) (fun _ => (.inl rfl)) ao_add rx_int (fun _ => (.inl rfl)))))
  (sxs_one (sx_ret (rx_mov 1 (fun _ => rfl) (fun _ => (.inl rfl))))))
/-! ### earliest_begins -/
def N_earliest_begins : List Str := ["gullies", "ways", "start", "found", "now", "gully", "way"]
theorem sc_earliest_begins : FnScope N_earliest_begins ["gullies", "ways", "start"] (defScope (top 20)) := ⟨rfl, rfl, rfl, by decide +kernel, rfl, by decide +kernel, by decide +kernel⟩
def q_earliest_begins_1 : P Fl := (fun ρ => .err 0 ρ)
def q_earliest_begins_2 : P Fl := (ifP (notP (args [(.ex (callF M_is_number [.ex (shr 2), .ex (kst (.int 0)), .ex (kst (.int 10000))]))] truO)) q_earliest_begins_1 (ret .nx))
def q_earliest_begins_4 : P Fl := (seq (kst .none) fun rv => ret (.rt rv))
def q_earliest_begins_5 : P Fl := (ifP (notP (args [(.ex (gF false [] 1 (walk (shr 0)) (putG 0) (ret true) (callF M_can_cross [.ex (shr 0)])))] truO)) q_earliest_begins_4 (ret .nx))
def q_earliest_begins_6 : P Fl := (parF [3, 4] [(args [] mkL), (shr 2)])
def q_earliest_begins_7 : P Fl := (seq (mutF 3 [(.ex (callF M_next_begin [.ex (shr 5), .ex (args [(.sl 4), (.sl 6)] (f2 addD))]))] appendD) fun _ => ret .nx)
def q_earliest_begins_8 : P Fl := (seq (args [(.ex (args [(.sl 3), (.ex (args [(.ex (kst (.int 1)))] (f1 negD)))] (f2 ixD))), (.ex (args [(.sl 5), (.ex (kst (.int 3)))] (f2 ixD)))] (f2 addD)) (put 4))
def q_earliest_begins_9 : P Fl := (forF (args [(.ex (shr 0)), (.ex (shr 1))] walkZ) (tgT [5, 6]) (thenS q_earliest_begins_7
  q_earliest_begins_8))
def q_earliest_begins_10 : P Fl := (seq (args [(.sl 3)] (f1 tupD)) fun rv => ret (.rt rv))
def m_earliest_begins : P Fl := (thenS q_earliest_begins_2
  (thenS q_earliest_begins_5
  (thenS q_earliest_begins_6
  (thenS q_earliest_begins_9
  q_earliest_begins_10))))
def M_earliest_begins : List Sl → Res RV := bodyF 3 7 m_earliest_begins
theorem k_earliest_begins {Pg : Program} {w : World} {G : GC} {mg : Str → Option Value} {base : Heap} (T : Top G mg base) (o_can_cross : Ok1 Pg w G mg base 1 "can_cross" (top 17) ["gully"] 1 M_can_cross) (o_is_number : Ok1 Pg w G mg base 1 "is_number" (top 9) ["value", "least", "most"] 3 M_is_number) (o_next_begin : Ok1 Pg w G mg base 2 "next_begin" (top 19) ["gully", "minute"] 2 M_next_begin) : Ok1 Pg w G mg base 3 "earliest_begins" (top 20) ["gullies", "ways", "start"] 3 M_earliest_begins := by
  obtain ⟨fd, F⟩ := T.f_earliest_begins
  refine ⟨fd, F, ok_defC F.dn sc_earliest_begins rfl fun E => ?_⟩
  have cx := cxs_defC (P := Pg) (w := w) (G := G) (mg := mg) (base := base) (qual := "earliest_begins") (st := top 20) (f := He.fAd G.K ("earliest_begins", none)) (c := He.codeOf G.K ("earliest_begins", none)) (k := 2) sc_earliest_begins E
  exact (sxs_cons (sx_if (bx_not (bx_tru (fun _ => rfl) (ox_ex (rx_callD (cs := [.ex (shr 2), .ex (kst (.int 0)), .ex (kst (.int 10000))]) cx o_is_number (by decide) ⟨by simp [mus], by simp [lns, mus]⟩ (fun _ => rfl) (ax_cons (ox_ex (rx_shr 2 (fun _ => rfl) (fun _ => (.inl rfl)))) (ax_cons (ox_ex rx_int) (ax_cons (ox_ex (rx_gint cx (fun _ => rfl) T.c_MOST_START)) ax_nil (fun _ => rfl)) (fun _ => rfl)) (fun _ => rfl)) (fun _ => rfl) (fun _ => rfl))) (fun _ _ => rfl))) (sxs_one (sx_raise cx T.x_OutOfRange (fun _ => rfl))) sxs_nil)
  (sxs_cons (sx_if (bx_not (bx_tru (fun _ => rfl) (ox_ex (rx_all (k := 1) (cap := []) (own := ["gully"]) cx (fun _ => rfl) T.b_all T.t_earliest_begins.2 T.t_earliest_begins.1 (fun _ => rfl) (fun _ => (show GenOk (defScope (top 20)) _ from ⟨rfl, rfl, by decide +kernel, rfl, by decide +kernel, by decide +kernel⟩)) (ix_walk (fun _ => rfl) (rx_shr 0 (fun _ => rfl) (fun _ => (.inl rfl)))) (fun _ _ => rfl) (by intro q hq; simp at hq) (gx_name 0 (fun _ => (show List.Nodup (["gully"] : List Str) from by decide +kernel)) (fun _ => rfl) (fun _ => (.inl rfl)) (fun _ => (.inr rfl))) tx_nil (rx_callD (cs := [.ex (shr 0)]) (cxs_gen (k := 1) cx _ (Ng := ["gully"]) (by decide +kernel)) o_can_cross (by decide) ⟨by simp [mus], by simp [lns, mus]⟩ (fun _ => rfl) (ax_cons (ox_ex (rx_shr 0 (fun _ => rfl) (fun _ => (.inl rfl)))) ax_nil (fun _ => rfl)) (fun _ => rfl) (fun _ => rfl)) (fun _ => rfl))) (fun _ _ => rfl))) (sxs_one (sx_ret rx_non)) sxs_nil)
  (sxs_cons (sx_par2 3 4 (fun _ => rfl) (fun _ => sc_earliest_begins.nd) (fun _ => rfl) (fun _ => rfl) (by decide) (fun _ => rfl) (fun _ => rfl) (rxs_cons (rx_list ax_nil trivial (by decide)) (rxs_cons (rx_shr 2 (fun _ => rfl) (fun _ => (.inl rfl))) rxs_nil (fun _ => rfl)) (fun _ => rfl)) (fun _ => rfl) (fun _ => rfl))
  (sxs_cons (sx_for (fun i => owns_defC i) (fun _ => rfl) (ix_zip T.tdf (fun _ => rfl) (fun _ => rfl) (fun _ => T.b_zip) (ax_cons (ox_ex (rx_shr 0 (fun _ => rfl) (fun _ => (.inl rfl)))) (ax_cons (ox_ex (rx_shr 1 (fun _ => rfl) (fun _ => (.inl rfl)))) ax_nil (fun _ => rfl)) (fun _ => rfl)) trivial (fun _ => rfl) (fun _ => rfl)) (gx_tup (fun _ => rfl) (fun _ => rfl) (.cons (i := 5) (fun _ => sc_earliest_begins.nd) (fun _ => rfl) (fun _ => (.inl rfl)) (fun _ => (.inl rfl)) (fun _ => rfl) (.cons (i := 6) (fun _ => sc_earliest_begins.nd) (fun _ => rfl) (fun _ => (.inl rfl)) (fun _ => (.inl rfl)) (fun _ => rfl) .nil)) (fun _ => rfl) (fun _ => rfl)) (sxs_cons (sx_expr (rx_mut 3 (fun i => u65 (cx.room i)) (fun _ => rfl) mth_append mu_append (fun _ => rfl) (fun _ => (.inl rfl)) (ax_cons (ox_ex (rx_callD (cs := [.ex (shr 5), .ex (args [(.sl 4), (.sl 6)] (f2 addD))]) cx o_next_begin (by decide) ⟨by simp [mus], by simp [lns, mus]⟩ (fun _ => rfl) (ax_cons (ox_ex (rx_shr 5 (fun _ => rfl) (fun _ => (.inl rfl)))) (ax_cons (ox_ex (rx_add (fun _ => rfl) (ox_sl 4 (fun _ => rfl) (fun _ => (.inl rfl))) (ox_sl 6 (fun _ => rfl) (fun _ => (.inl rfl))))) ax_nil (fun _ => rfl)) (fun _ => rfl)) (fun _ => rfl) (fun _ => rfl))) ax_nil (fun _ => rfl)) trivial (fun _ => rfl) (fun _ => rfl) rfl (fun _ => rfl) (fun _ => rfl)) (fun _ => rfl))
  (sxs_one (sx_set 4 (fun _ => sc_earliest_begins.nd) (fun _ => rfl) (fun _ => (.inl rfl)) (rx_add (fun _ => rfl) (ox_ex (rx_ix (fun _ => rfl) (fun _ _ => rfl) (ox_sl 3 (fun _ => rfl) (fun _ => (.inl rfl))) (ox_ex (rx_neg (ox_ex rx_int))))) (ox_ex (rx_ix (fun _ => rfl) (fun _ _ => rfl) (ox_sl 5 (fun _ => rfl) (fun _ => (.inl rfl))) (ox_ex rx_int)))) (fun _ => rfl) (fun _ => (.inl rfl))))) (fun _ _ => rfl))
  (sxs_one (sx_ret (rx_totup (fun _ => rfl) (fun _ => rfl) (fun _ => T.b_tuple) (ax_cons (ox_sl 3 (fun _ => rfl) (fun _ => (.inl rfl))) ax_nil (fun _ => rfl)) (fun _ => rfl) (fun _ => rfl))))))))
/-! ### arrival -/
def N_arrival : List Str := ["gullies", "ways", "start", "found"]
theorem sc_arrival : FnScope N_arrival ["gullies", "ways", "start"] (defScope (top 21)) := ⟨rfl, rfl, rfl, by decide +kernel, rfl, by decide +kernel, by decide +kernel⟩
def q_arrival_1 : P Fl := (seq (callF M_earliest_begins [.ex (shr 0), .ex (shr 1), .ex (shr 2)]) (put 3))
def q_arrival_2 : P Fl := (seq (ifP (seq (args [(.sl 3), (.ex (kst .none))] (f2 (isD))) toB) (kst .none) (args [(.ex (args [(.sl 3), (.ex (args [(.ex (kst (.int 1)))] (f1 negD)))] (f2 ixD))), (.ex (args [(.ex (args [(.sl 0), (.ex (args [(.ex (kst (.int 1)))] (f1 negD)))] (f2 ixD))), (.ex (kst (.int 3)))] (f2 ixD)))] (f2 addD))) fun rv => ret (.rt rv))
def m_arrival : P Fl := (thenS q_arrival_1
  q_arrival_2)
def M_arrival : List Sl → Res RV := bodyF 3 4 m_arrival
theorem k_arrival {Pg : Program} {w : World} {G : GC} {mg : Str → Option Value} {base : Heap} (T : Top G mg base) (o_earliest_begins : Ok1 Pg w G mg base 3 "earliest_begins" (top 20) ["gullies", "ways", "start"] 3 M_earliest_begins) : Ok1 Pg w G mg base 4 "arrival" (top 21) ["gullies", "ways", "start"] 3 M_arrival := by
  obtain ⟨fd, F⟩ := T.f_arrival
  refine ⟨fd, F, ok_defC F.dn sc_arrival rfl fun E => ?_⟩
  have cx := cxs_defC (P := Pg) (w := w) (G := G) (mg := mg) (base := base) (qual := "arrival") (st := top 21) (f := He.fAd G.K ("arrival", none)) (c := He.codeOf G.K ("arrival", none)) (k := 3) sc_arrival E
  exact (sxs_cons (sx_set 3 (fun _ => sc_arrival.nd) (fun _ => rfl) (fun _ => (.inl rfl)) (rx_callD (cs := [.ex (shr 0), .ex (shr 1), .ex (shr 2)]) cx o_earliest_begins (by decide) ⟨by simp [mus], by simp [lns, mus]⟩ (fun _ => rfl) (ax_cons (ox_ex (rx_shr 0 (fun _ => rfl) (fun _ => (.inl rfl)))) (ax_cons (ox_ex (rx_shr 1 (fun _ => rfl) (fun _ => (.inl rfl)))) (ax_cons (ox_ex (rx_shr 2 (fun _ => rfl) (fun _ => (.inl rfl)))) ax_nil (fun _ => rfl)) (fun _ => rfl)) (fun _ => rfl)) (fun _ => rfl) (fun _ => rfl)) (fun _ => rfl) (fun _ => (.inl rfl)))
  (sxs_one (sx_ret (rx_if (bx_cmp (qx_is (ox_sl 3 (fun _ => rfl) (fun _ => (.inl rfl))) (ox_ex rx_non))) rx_non (rx_add (fun _ => rfl) (ox_ex (rx_ix (fun _ => rfl) (fun _ _ => rfl) (ox_sl 3 (fun _ => rfl) (fun _ => (.inl rfl))) (ox_ex (rx_neg (ox_ex rx_int))))) (ox_ex (rx_ix (fun _ => rfl) (fun _ _ => rfl) (ox_ex (rx_ix (fun _ => rfl) (fun _ _ => rfl) (ox_sl 0 (fun _ => rfl) (fun _ => (.inl rfl))) (ox_ex (rx_neg (ox_ex rx_int))))) (ox_ex rx_int))))))))
/-! ### is_free -/
def N_is_free : List Str := ["gullies", "ways", "start", "now", "gully", "way"]
theorem sc_is_free : FnScope N_is_free ["gullies", "ways", "start"] (defScope (top 22)) := ⟨rfl, rfl, rfl, by decide +kernel, rfl, by decide +kernel, by decide +kernel⟩
def q_is_free_1 : P Fl := (seq (shr 2) (put 3))
def q_is_free_2 : P Fl := (seq (kst (.bool false)) fun rv => ret (.rt rv))
def q_is_free_3 : P Fl := (ifP (notP (args [(.ex (callF M_can_begin [.ex (shr 4), .ex (args [(.sl 3), (.sl 5)] (f2 addD))]))] truO)) q_is_free_2 (ret .nx))
def q_is_free_4 : P Fl := (augF 3 (args [(.sl 5), (.ex (args [(.sl 4), (.ex (kst (.int 3)))] (f2 ixD)))] (f2 addD)) addI)
def q_is_free_5 : P Fl := (forF (args [(.ex (shr 0)), (.ex (shr 1))] walkZ) (tgT [4, 5]) (thenS q_is_free_3
  q_is_free_4))
def q_is_free_6 : P Fl := (seq (kst (.bool true)) fun rv => ret (.rt rv))
def m_is_free : P Fl := (thenS q_is_free_1
  (thenS q_is_free_5
  q_is_free_6))
def M_is_free : List Sl → Res RV := bodyF 3 6 m_is_free
theorem k_is_free {Pg : Program} {w : World} {G : GC} {mg : Str → Option Value} {base : Heap} (T : Top G mg base) (o_can_begin : Ok1 Pg w G mg base 1 "can_begin" (top 18) ["gully", "minute"] 2 M_can_begin) : Ok1 Pg w G mg base 2 "is_free" (top 22) ["gullies", "ways", "start"] 3 M_is_free := by
  obtain ⟨fd, F⟩ := T.f_is_free
  refine ⟨fd, F, ok_defC F.dn sc_is_free rfl fun E => ?_⟩
  have cx := cxs_defC (P := Pg) (w := w) (G := G) (mg := mg) (base := base) (qual := "is_free") (st := top 22) (f := He.fAd G.K ("is_free", none)) (c := He.codeOf G.K ("is_free", none)) (k := 1) sc_is_free E
  exact (sxs_cons (sx_set 3 (fun _ => sc_is_free.nd) (fun _ => rfl) (fun _ => (.inl rfl)) (rx_shr 2 (fun _ => rfl) (fun _ => (.inl rfl))) (fun _ => rfl) (fun _ => (.inl rfl)))
  (sxs_cons (sx_for (fun i => owns_defC i) (fun _ => rfl) (ix_zip T.tdf (fun _ => rfl) (fun _ => rfl) (fun _ => T.b_zip) (ax_cons (ox_ex (rx_shr 0 (fun _ => rfl) (fun _ => (.inl rfl)))) (ax_cons (ox_ex (rx_shr 1 (fun _ => rfl) (fun _ => (.inl rfl)))) ax_nil (fun _ => rfl)) (fun _ => rfl)) trivial (fun _ => rfl) (fun _ => rfl)) (gx_tup (fun _ => rfl) (fun _ => rfl) (.cons (i := 4) (fun _ => sc_is_free.nd) (fun _ => rfl) (fun _ => (.inl rfl)) (fun _ => (.inl rfl)) (fun _ => rfl) (.cons (i := 5) (fun _ => sc_is_free.nd) (fun _ => rfl) (fun _ => (.inl rfl)) (fun _ => (.inl rfl)) (fun _ => rfl) .nil)) (fun _ => rfl) (fun _ => rfl)) (sxs_cons (sx_if (bx_not (bx_tru (fun _ => rfl) (ox_ex (rx_callD (cs := [.ex (shr 4), .ex (args [(.sl 3), (.sl 5)] (f2 addD))]) cx o_can_begin (by decide) ⟨by simp [mus], by simp [lns, mus]⟩ (fun _ => rfl) (ax_cons (ox_ex (rx_shr 4 (fun _ => rfl) (fun _ => (.inl rfl)))) (ax_cons (ox_ex (rx_add (fun _ => rfl) (ox_sl 3 (fun _ => rfl) (fun _ => (.inl rfl))) (ox_sl 5 (fun _ => rfl) (fun _ => (.inl rfl))))) ax_nil (fun _ => rfl)) (fun _ => rfl)) (fun _ => rfl) (fun _ => rfl))) (fun _ _ => rfl))) (sxs_one (sx_ret rx_bl)) sxs_nil)
  (sxs_one (sx_aug 3 (fun _ => sc_is_free.nd) (fun _ => rfl) (fun _ => (.inl rfl)) ao_add (rx_add (fun _ => rfl) (ox_sl 5 (fun _ => rfl) (fun _ => (.inl rfl))) (ox_ex (rx_ix (fun _ => rfl) (fun _ _ => rfl) (ox_sl 4 (fun _ => rfl) (fun _ => (.inl rfl))) (ox_ex rx_int)))) (fun _ => (.inl rfl))))) (fun _ _ => rfl))
  (sxs_one (sx_ret rx_bl))))
/-! ### free_starts -/
def N_free_starts : List Str := ["gullies", "ways", "whole", "gully", "start"]
theorem sc_free_starts : FnScope N_free_starts ["gullies", "ways"] (defScope (top 23)) := ⟨rfl, rfl, rfl, by decide +kernel, rfl, by decide +kernel, by decide +kernel⟩
def q_free_starts_1 : P Fl := (seq (kst (.int 1)) (put 2))
def q_free_starts_2 : P Fl := (seq (args [(.sl 2), (.ex (args [(.sl 3), (.ex (kst (.int 0)))] (f2 ixD)))] (f2 lcmD)) (put 2))
def q_free_starts_3 : P Fl := (forF (walk (shr 0)) (putG 3) q_free_starts_2)
def q_free_starts_4 : P Fl := (fun ρ => .err 4 ρ)
def q_free_starts_5 : P Fl := (ifP (seq (args [(.sl 2), (.ex (kst (.int 5000)))] (f2 (ordD gtI))) toB) q_free_starts_4 (ret .nx))
def q_free_starts_6 : P Fl := (seq (args [(.ex (lcF [4] (args [(.sl 2)] walkR1) (putG 4) (args [(.ex (callF M_is_free [.ex (shr 0), .ex (shr 1), .ex (shr 4)]))] truO) (shr 4)))] (f1 tupD)) fun rv => ret (.rt rv))
def m_free_starts : P Fl := (thenS q_free_starts_1
  (thenS q_free_starts_3
  (thenS q_free_starts_5
  q_free_starts_6)))
def M_free_starts : List Sl → Res RV := bodyF 2 5 m_free_starts
theorem k_free_starts {Pg : Program} {w : World} {G : GC} {mg : Str → Option Value} {base : Heap} (T : Top G mg base) (o_is_free : Ok1 Pg w G mg base 2 "is_free" (top 22) ["gullies", "ways", "start"] 3 M_is_free) : Ok1 Pg w G mg base 3 "free_starts" (top 23) ["gullies", "ways"] 2 M_free_starts := by
  obtain ⟨fd, F⟩ := T.f_free_starts
  refine ⟨fd, F, ok_defC F.dn sc_free_starts rfl fun E => ?_⟩
  have cx := cxs_defC (P := Pg) (w := w) (G := G) (mg := mg) (base := base) (qual := "free_starts") (st := top 23) (f := He.fAd G.K ("free_starts", none)) (c := He.codeOf G.K ("free_starts", none)) (k := 2) sc_free_starts E
  exact (sxs_cons (sx_set 2 (fun _ => sc_free_starts.nd) (fun _ => rfl) (fun _ => (.inl rfl)) rx_int (fun _ => rfl) (fun _ => (.inl rfl)))
  (sxs_cons (sx_for (fun i => owns_defC i) (fun _ => rfl) (ix_walk (fun _ => rfl) (rx_shr 0 (fun _ => rfl) (fun _ => (.inr (.inl rfl))))) (gx_name 3 (fun _ => sc_free_starts.nd) (fun _ => rfl) (fun _ => (.inl rfl)) (fun _ => (.inl rfl))) (sxs_one (sx_set 2 (fun _ => sc_free_starts.nd) (fun _ => rfl) (fun _ => (.inl rfl)) (rx_lcm (fun _ => rfl) (fun _ => T.g_lcm) (by decide) (ax_cons (ox_sl 2 (fun _ => rfl) (fun _ => (.inl rfl))) (ax_cons (ox_ex (rx_ix (fun _ => rfl) (fun _ _ => rfl) (ox_sl 3 (fun _ => rfl) (fun _ => (.inl rfl))) (ox_ex rx_int))) ax_nil (fun _ => rfl)) (fun _ => rfl)) (fun _ => rfl) (fun _ => rfl)) (fun _ => rfl) (fun _ => (.inl rfl)))) (fun _ _ => rfl))
  (sxs_cons (sx_if (bx_cmp (qx_gt (ox_sl 2 (fun _ => rfl) (fun _ => (.inl rfl))) (ox_ex (rx_gint cx (fun _ => rfl) T.c_MOST_ROUND)))) (sxs_one (sx_raise cx T.x_TooMuch (fun _ => rfl))) sxs_nil)
  (sxs_one (sx_ret (rx_totup (fun _ => rfl) (fun _ => rfl) (fun _ => T.b_tuple) (ax_cons (ox_ex (rx_lc (own := [("start", 4)]) (fun _ => rfl) (fun _ => sc_free_starts.nd) (ix_range1 (fun _ => rfl) (fun _ => T.b_range) (ax_cons (ox_sl 2 (fun _ => rfl) (fun _ => (.inl rfl))) ax_nil (fun _ => rfl)) (fun _ => rfl)) (fun _ => (show BlkOk N_free_starts (defScope (top 23)) _ [("start", 4)] from ⟨rfl, by decide +kernel, by decide +kernel, by decide +kernel, by decide +kernel⟩)) (gx_name 4 (fun _ => sc_free_starts.nd) (fun _ => rfl) (fun _ => (.inl rfl)) (fun _ => (.inr rfl))) (tx_one (bx_tru (fun _ => rfl) (ox_ex (rx_callD (cs := [.ex (shr 0), .ex (shr 1), .ex (shr 4)]) (cxs_blk cx _) o_is_free (by decide) ⟨by simp [mus], by simp [lns, mus]⟩ (fun _ => rfl) (ax_cons (ox_ex (rx_shr 0 (fun _ => rfl) (fun _ => (.inr (.inl rfl))))) (ax_cons (ox_ex (rx_shr 1 (fun _ => rfl) (fun _ => (.inr (.inl rfl))))) (ax_cons (ox_ex (rx_shr 4 (fun _ => rfl) (fun _ => (.inl rfl)))) ax_nil (fun _ => rfl)) (fun _ => rfl)) (fun _ => rfl)) (fun _ => rfl) (fun _ => rfl))) (fun _ _ => rfl))) (rx_shr 4 (fun _ => rfl) (fun _ => (.inl rfl))) (fun _ _ => rfl))) ax_nil (fun _ => rfl)) (fun _ => rfl) (fun _ => rfl)))))))
/-! ### _law_take -/
def N__law_take : List Str := ["draws", "bound"]
theorem sc__law_take : FnScope N__law_take ["draws", "bound"] (defScope (top 26)) := ⟨rfl, rfl, rfl, by decide +kernel, rfl, by decide +kernel, by decide +kernel⟩
def q__law_take_1 : P Fl := (seq (kst (.int 0)) fun rv => ret (.rt rv))
def q__law_take_2 : P Fl := (ifP (seq (args [(.ex (args [(.sl 0)] (f1 lenD))), (.ex (kst (.int 0)))] (f2 (eqD))) toB) q__law_take_1 (ret .nx))
def q__law_take_3 : P Fl := (seq (args [(.ex (args [(.ex (mutF 0 [] popD))] (f1 intD))), (.sl 1)] (f2 modD)) fun rv => ret (.rt rv))
def m__law_take : P Fl := (thenS q__law_take_2
  q__law_take_3)
def M__law_take : List Sl → Res RV := bodyF 2 2 m__law_take
theorem k__law_take {Pg : Program} {w : World} {G : GC} {mg : Str → Option Value} {base : Heap} (T : Top G mg base)  : Ok1 Pg w G mg base 1 "_law_take" (top 26) ["draws", "bound"] 2 M__law_take := by
  obtain ⟨fd, F⟩ := T.f__law_take
  refine ⟨fd, F, ok_defC F.dn sc__law_take rfl fun E => ?_⟩
  have cx := cxs_defC (P := Pg) (w := w) (G := G) (mg := mg) (base := base) (qual := "_law_take") (st := top 26) (f := He.fAd G.K ("_law_take", none)) (c := He.codeOf G.K ("_law_take", none)) (k := 0) sc__law_take E
  exact (sxs_cons (sx_if (bx_cmp (qx_eq (fun _ => rfl) cx.room (ox_ex (rx_len (fun _ => rfl) (fun _ => rfl) (fun _ => T.b_len) (ax_cons (ox_sl 0 (fun _ => rfl) (fun _ => (.inl rfl))) ax_nil (fun _ => rfl)) (fun _ => rfl) (fun _ => rfl))) (ox_ex rx_int))) (sxs_one (sx_ret rx_int)) sxs_nil)
  (sxs_one (sx_ret (rx_mod (ox_ex (rx_toint (fun _ => rfl) (fun _ => T.b_int) (ax_cons (ox_ex (rx_mut0 0 (fun i => u65 (cx.room i)) (fun _ => rfl) mth_pop mu_pop (fun _ => rfl) (fun _ => (.inl rfl)) (fun _ => rfl) rfl)) ax_nil (fun _ => rfl)) (fun _ => rfl) (fun _ => rfl))) (ox_sl 1 (fun _ => rfl) (fun _ => (.inl rfl)))))))
/-! ### _law_says -/
def N__law_says : List Str := ["told", "due"]
theorem sc__law_says : FnScope N__law_says ["told", "due"] (defScope (top 27)) := ⟨rfl, rfl, rfl, by decide +kernel, rfl, by decide +kernel, by decide +kernel⟩
def q__law_says_1 : P Fl := (seq (andV (args [(.sl 0)] (isiF .bool)) (args [(.sl 0), (.sl 1)] (f2 (eqD)))) fun rv => ret (.rt rv))
def m__law_says : P Fl := q__law_says_1
def M__law_says : List Sl → Res RV := bodyF 2 2 m__law_says
theorem k__law_says {Pg : Program} {w : World} {G : GC} {mg : Str → Option Value} {base : Heap} (T : Top G mg base)  : Ok1 Pg w G mg base 1 "_law_says" (top 27) ["told", "due"] 2 M__law_says := by
  obtain ⟨fd, F⟩ := T.f__law_says
  refine ⟨fd, F, ok_defC F.dn sc__law_says rfl fun E => ?_⟩
  have cx := cxs_defC (P := Pg) (w := w) (G := G) (mg := mg) (base := base) (qual := "_law_says") (st := top 27) (f := He.fAd G.K ("_law_says", none)) (c := He.codeOf G.K ("_law_says", none)) (k := 0) sc__law_says E
  exact (sxs_one (sx_ret (rx_and (rx_isi .bool (fun _ => rfl) rfl (fun _ => rfl) (fun _ => T.b_isinstance) (fun _ => rfl) (fun _ => T.b_bool) (ox_sl 0 (fun _ => rfl) (fun _ => (.inl rfl))) (by decide) (by decide) (fun _ => rfl) (fun _ => rfl) (fun _ => rfl)) (rx_one1 (rx_cmp (qx_eq (fun _ => rfl) cx.room (ox_sl 0 (fun _ => rfl) (fun _ => (.inl rfl))) (ox_sl 1 (fun _ => rfl) (fun _ => (.inl rfl)))))))))
/-! ### _law_alike -/
def N__law_alike : List Str := ["found", "due", "k"]
theorem sc__law_alike : FnScope N__law_alike ["found", "due"] (defScope (top 28)) := ⟨rfl, rfl, rfl, by decide +kernel, rfl, by decide +kernel, by decide +kernel⟩
def q__law_alike_1 : P Fl := (seq (kst (.bool false)) fun rv => ret (.rt rv))
def q__law_alike_2 : P Fl := (ifP (orP (seq (args [(.ex (args [(.sl 0)] (isiF .list))), (.ex (args [(.sl 1)] (isiF .list)))] (f2 (neD))) toB) (seq (args [(.ex (args [(.sl 0)] (isiF .tuple))), (.ex (args [(.sl 1)] (isiF .tuple)))] (f2 (neD))) toB)) q__law_alike_1 (ret .nx))
def q__law_alike_3 (rec : List Sl → Res RV) : P Fl := (seq (andV (args [(.ex (args [(.sl 0)] (f1 lenD))), (.ex (args [(.sl 1)] (f1 lenD)))] (f2 (eqD))) (args [(.ex (lcF [2] (args [(.ex (args [(.sl 1)] (f1 lenD)))] walkR1) (putG 2) (notP (args [(.ex (callF rec [.ex (args [(.sl 0), (.sl 2)] (f2 ixD)), .ex (args [(.sl 1), (.sl 2)] (f2 ixD))]))] truO)) (shr 2))), (.ex (args [] mkL))] (f2 (eqD)))) fun rv => ret (.rt rv))
def q__law_alike_4 (rec : List Sl → Res RV) : P Fl := (ifP (orP (args [(.ex (args [(.sl 1)] (isiF .list)))] truO) (args [(.ex (args [(.sl 1)] (isiF .tuple)))] truO)) (thenS q__law_alike_2
  (q__law_alike_3 rec)) (ret .nx))
def q__law_alike_5 : P Fl := (seq (args [(.sl 0), (.ex (kst .none))] (f2 (isD))) fun rv => ret (.rt rv))
def q__law_alike_6 : P Fl := (ifP (seq (args [(.sl 1), (.ex (kst .none))] (f2 (isD))) toB) q__law_alike_5 (ret .nx))
def q__law_alike_7 : P Fl := (seq (andV (args [(.sl 0)] (isiF .bool)) (andV (args [(.sl 1)] (isiF .bool)) (args [(.sl 0), (.sl 1)] (f2 (eqD))))) fun rv => ret (.rt rv))
def q__law_alike_8 : P Fl := (ifP (orP (args [(.ex (args [(.sl 1)] (isiF .bool)))] truO) (args [(.ex (args [(.sl 0)] (isiF .bool)))] truO)) q__law_alike_7 (ret .nx))
def q__law_alike_9 : P Fl := (seq (andV (args [(.sl 0)] (isiF .int)) (args [(.sl 0), (.sl 1)] (f2 (eqD)))) fun rv => ret (.rt rv))
def q__law_alike_10 : P Fl := (ifP (args [(.ex (args [(.sl 1)] (isiF .int)))] truO) q__law_alike_9 (ret .nx))
def q__law_alike_11 : P Fl := (seq (andV (args [(.sl 0)] (isiF .str)) (args [(.sl 0), (.sl 1)] (f2 (eqD)))) fun rv => ret (.rt rv))
def m__law_alike (rec : List Sl → Res RV) : P Fl := (thenS (q__law_alike_4 rec)
  (thenS q__law_alike_6
  (thenS q__law_alike_8
  (thenS q__law_alike_10
  q__law_alike_11))))
def M__law_alike : Nat → List Sl → Res RV
  | 0 => fun _ => .no
  | k + 1 => bodyF 2 3 (m__law_alike (M__law_alike k))
theorem k__law_alike {Pg : Program} {w : World} {G : GC} {mg : Str → Option Value} {base : Heap} (T : Top G mg base)  : ∀ k, Ok1 Pg w G mg base (1 + k) "_law_alike" (top 28) ["found", "due"] 2 (M__law_alike k)
  | 0 => by
    obtain ⟨fd, F⟩ := T.f__law_alike
    exact ⟨fd, F, fnOk_no rfl⟩
  | k + 1 => by
    have o__law_alike := k__law_alike (Pg := Pg) (w := w) T  k
    obtain ⟨fd, F⟩ := T.f__law_alike
    have hk__law_alike : 1 + k ≤ 1 + k := Nat.le_refl _
    refine ⟨fd, F, ok_defC F.dn sc__law_alike rfl fun E => ?_⟩
    have cx := cxs_defC (P := Pg) (w := w) (G := G) (mg := mg) (base := base) (qual := "_law_alike") (st := top 28) (f := He.fAd G.K ("_law_alike", none)) (c := He.codeOf G.K ("_law_alike", none)) (k := 1 + k) sc__law_alike E
    exact (sxs_cons (sx_if (bx_w (wx_or (bx_tru (fun _ => rfl) (ox_ex (rx_isi .list (fun _ => rfl) rfl (fun _ => rfl) (fun _ => T.b_isinstance) (fun _ => rfl) (fun _ => T.b_list) (ox_sl 1 (fun _ => rfl) (fun _ => (.inr (.inl rfl)))) (by decide) (by decide) (fun _ => rfl) (fun _ => rfl) (fun _ => rfl))) (fun _ _ => rfl)) (wx_or1 (bx_tru (fun _ => rfl) (ox_ex (rx_isi .tuple (fun _ => rfl) rfl (fun _ => rfl) (fun _ => T.b_isinstance) (fun _ => rfl) (fun _ => T.b_tuple) (ox_sl 1 (fun _ => rfl) (fun _ => (.inr (.inl rfl)))) (by decide) (by decide) (fun _ => rfl) (fun _ => rfl) (fun _ => rfl))) (fun _ _ => rfl))))) (sxs_cons (sx_if (bx_w (wx_or (bx_cmp (qx_ne (fun _ => rfl) cx.room (ox_ex (rx_isi .list (fun _ => rfl) rfl (fun _ => rfl) (fun _ => T.b_isinstance) (fun _ => rfl) (fun _ => T.b_list) (ox_sl 0 (fun _ => rfl) (fun _ => (.inr (.inl rfl)))) (by decide) (by decide) (fun _ => rfl) (fun _ => rfl) (fun _ => rfl))) (ox_ex (rx_isi .list (fun _ => rfl) rfl (fun _ => rfl) (fun _ => T.b_isinstance) (fun _ => rfl) (fun _ => T.b_list) (ox_sl 1 (fun _ => rfl) (fun _ => (.inr (.inl rfl)))) (by decide) (by decide) (fun _ => rfl) (fun _ => rfl) (fun _ => rfl))))) (wx_or1 (bx_cmp (qx_ne (fun _ => rfl) cx.room (ox_ex (rx_isi .tuple (fun _ => rfl) rfl (fun _ => rfl) (fun _ => T.b_isinstance) (fun _ => rfl) (fun _ => T.b_tuple) (ox_sl 0 (fun _ => rfl) (fun _ => (.inr (.inl rfl)))) (by decide) (by decide) (fun _ => rfl) (fun _ => rfl) (fun _ => rfl))) (ox_ex (rx_isi .tuple (fun _ => rfl) rfl (fun _ => rfl) (fun _ => T.b_isinstance) (fun _ => rfl) (fun _ => T.b_tuple) (ox_sl 1 (fun _ => rfl) (fun _ => (.inr (.inl rfl)))) (by decide) (by decide) (fun _ => rfl) (fun _ => rfl) (fun _ => rfl)))))))) (sxs_one (sx_ret rx_bl)) sxs_nil)
  (sxs_one (sx_ret (rx_and (rx_cmp (qx_eq (fun _ => rfl) cx.room (ox_ex (rx_len (fun _ => rfl) (fun _ => rfl) (fun _ => T.b_len) (ax_cons (ox_sl 0 (fun _ => rfl) (fun _ => (.inr (.inl rfl)))) ax_nil (fun _ => rfl)) (fun _ => rfl) (fun _ => rfl))) (ox_ex (rx_len (fun _ => rfl) (fun _ => rfl) (fun _ => T.b_len) (ax_cons (ox_sl 1 (fun _ => rfl) (fun _ => (.inr (.inl rfl)))) ax_nil (fun _ => rfl)) (fun _ => rfl) (fun _ => rfl))))) (rx_one1 (rx_cmp (qx_eq (fun _ => rfl) cx.room (ox_ex (rx_lc (own := [("k", 2)]) (fun _ => rfl) (fun _ => sc__law_alike.nd) (ix_range1 (fun _ => rfl) (fun _ => T.b_range) (ax_cons (ox_ex (rx_len (fun _ => rfl) (fun _ => rfl) (fun _ => T.b_len) (ax_cons (ox_sl 1 (fun _ => rfl) (fun _ => (.inr (.inl rfl)))) ax_nil (fun _ => rfl)) (fun _ => rfl) (fun _ => rfl))) ax_nil (fun _ => rfl)) (fun _ => rfl)) (fun _ => (show BlkOk N__law_alike (defScope (top 28)) _ [("k", 2)] from ⟨rfl, by decide +kernel, by decide +kernel, by decide +kernel, by decide +kernel⟩)) (gx_name 2 (fun _ => sc__law_alike.nd) (fun _ => rfl) (fun _ => (.inl rfl)) (fun _ => (.inr rfl))) (tx_one (bx_not (bx_tru (fun _ => rfl) (ox_ex (rx_callD (cs := [.ex (args [(.sl 0), (.sl 2)] (f2 ixD)), .ex (args [(.sl 1), (.sl 2)] (f2 ixD))]) (cxs_blk cx _) o__law_alike hk__law_alike ⟨by simp [mus], by simp [lns, mus]⟩ (fun _ => rfl) (ax_cons (ox_ex (rx_ix (fun _ => rfl) (fun _ _ => rfl) (ox_sl 0 (fun _ => rfl) (fun _ => (.inr (.inl rfl)))) (ox_sl 2 (fun _ => rfl) (fun _ => (.inl rfl))))) (ax_cons (ox_ex (rx_ix (fun _ => rfl) (fun _ _ => rfl) (ox_sl 1 (fun _ => rfl) (fun _ => (.inr (.inl rfl)))) (ox_sl 2 (fun _ => rfl) (fun _ => (.inl rfl))))) ax_nil (fun _ => rfl)) (fun _ => rfl)) (fun _ => rfl) (fun _ => rfl))) (fun _ _ => rfl)))) (rx_shr 2 (fun _ => rfl) (fun _ => (.inl rfl))) (fun _ _ => rfl))) (ox_ex (rx_list ax_nil trivial (by decide)))))))))) sxs_nil)
  (sxs_cons (sx_if (bx_cmp (qx_is (ox_sl 1 (fun _ => rfl) (fun _ => (.inr (.inl rfl)))) (ox_ex rx_non))) (sxs_one (sx_ret (rx_cmp (qx_is (ox_sl 0 (fun _ => rfl) (fun _ => (.inr (.inl rfl)))) (ox_ex rx_non))))) sxs_nil)
  (sxs_cons (sx_if (bx_w (wx_or (bx_tru (fun _ => rfl) (ox_ex (rx_isi .bool (fun _ => rfl) rfl (fun _ => rfl) (fun _ => T.b_isinstance) (fun _ => rfl) (fun _ => T.b_bool) (ox_sl 1 (fun _ => rfl) (fun _ => (.inr (.inl rfl)))) (by decide) (by decide) (fun _ => rfl) (fun _ => rfl) (fun _ => rfl))) (fun _ _ => rfl)) (wx_or1 (bx_tru (fun _ => rfl) (ox_ex (rx_isi .bool (fun _ => rfl) rfl (fun _ => rfl) (fun _ => T.b_isinstance) (fun _ => rfl) (fun _ => T.b_bool) (ox_sl 0 (fun _ => rfl) (fun _ => (.inr (.inl rfl)))) (by decide) (by decide) (fun _ => rfl) (fun _ => rfl) (fun _ => rfl))) (fun _ _ => rfl))))) (sxs_one (sx_ret (rx_and (rx_isi .bool (fun _ => rfl) rfl (fun _ => rfl) (fun _ => T.b_isinstance) (fun _ => rfl) (fun _ => T.b_bool) (ox_sl 0 (fun _ => rfl) (fun _ => (.inr (.inl rfl)))) (by decide) (by decide) (fun _ => rfl) (fun _ => rfl) (fun _ => rfl)) (rx_and (rx_isi .bool (fun _ => rfl) rfl (fun _ => rfl) (fun _ => T.b_isinstance) (fun _ => rfl) (fun _ => T.b_bool) (ox_sl 1 (fun _ => rfl) (fun _ => (.inr (.inl rfl)))) (by decide) (by decide) (fun _ => rfl) (fun _ => rfl) (fun _ => rfl)) (rx_one1 (rx_cmp (qx_eq (fun _ => rfl) cx.room (ox_sl 0 (fun _ => rfl) (fun _ => (.inr (.inl rfl)))) (ox_sl 1 (fun _ => rfl) (fun _ => (.inr (.inl rfl))))))))))) sxs_nil)
  (sxs_cons (sx_if (bx_tru (fun _ => rfl) (ox_ex (rx_isi .int (fun _ => rfl) rfl (fun _ => rfl) (fun _ => T.b_isinstance) (fun _ => rfl) (fun _ => T.b_int) (ox_sl 1 (fun _ => rfl) (fun _ => (.inr (.inl rfl)))) (by decide) (by decide) (fun _ => rfl) (fun _ => rfl) (fun _ => rfl))) (fun _ _ => rfl)) (sxs_one (sx_ret (rx_and (rx_isi .int (fun _ => rfl) rfl (fun _ => rfl) (fun _ => T.b_isinstance) (fun _ => rfl) (fun _ => T.b_int) (ox_sl 0 (fun _ => rfl) (fun _ => (.inr (.inl rfl)))) (by decide) (by decide) (fun _ => rfl) (fun _ => rfl) (fun _ => rfl)) (rx_one1 (rx_cmp (qx_eq (fun _ => rfl) cx.room (ox_sl 0 (fun _ => rfl) (fun _ => (.inr (.inl rfl)))) (ox_sl 1 (fun _ => rfl) (fun _ => (.inr (.inl rfl)))))))))) sxs_nil)
  (sxs_one (sx_ret (rx_and (rx_isi .str (fun _ => rfl) rfl (fun _ => rfl) (fun _ => T.b_isinstance) (fun _ => rfl) (fun _ => T.b_str) (ox_sl 0 (fun _ => rfl) (fun _ => (.inr (.inl rfl)))) (by decide) (by decide) (fun _ => rfl) (fun _ => rfl) (fun _ => rfl)) (rx_one1 (rx_cmp (qx_eq (fun _ => rfl) cx.room (ox_sl 0 (fun _ => rfl) (fun _ => (.inr (.inl rfl)))) (ox_sl 1 (fun _ => rfl) (fun _ => (.inr (.inl rfl))))))))))))))
/-! ### _law_round -/
def N__law_round : List Str := ["row", "found", "one", "step"]
theorem sc__law_round : FnScope N__law_round ["row"] (defScope (top 30)) := ⟨rfl, rfl, rfl, by decide +kernel, rfl, by decide +kernel, by decide +kernel⟩
def q__law_round_1 : P Fl := (seq (kst (.int 1)) (put 1))
def q__law_round_2 : P Fl := (seq (shr 1) (put 3))
def q__law_round_3 : P Fl := (seq (args [(.sl 1), (.sl 3)] (f2 addD)) (put 1))
def q__law_round_4 : P Fl := (whileF 20000 (seq (args [(.ex (args [(.ex (args [(.sl 1), (.sl 2)] (f2 fdivD))), (.sl 2)] (f2 mulD))), (.sl 1)] (f2 (neD))) toB) q__law_round_3)
def q__law_round_5 : P Fl := (forF (walk (shr 0)) (putG 2) (thenS q__law_round_2
  q__law_round_4))
def q__law_round_6 : P Fl := (seq (mov 1) fun rv => ret (.rt rv))
def m__law_round : P Fl := (thenS q__law_round_1
  (thenS q__law_round_5
  q__law_round_6))
def M__law_round : List Sl → Res RV := bodyF 1 4 m__law_round
theorem k__law_round {Pg : Program} {w : World} {G : GC} {mg : Str → Option Value} {base : Heap} (T : Top G mg base)  : Ok1 Pg w G mg base 1 "_law_round" (top 30) ["row"] 1 M__law_round := by
  obtain ⟨fd, F⟩ := T.f__law_round
  refine ⟨fd, F, ok_defC F.dn sc__law_round rfl fun E => ?_⟩
  have cx := cxs_defC (P := Pg) (w := w) (G := G) (mg := mg) (base := base) (qual := "_law_round") (st := top 30) (f := He.fAd G.K ("_law_round", none)) (c := He.codeOf G.K ("_law_round", none)) (k := 0) sc__law_round E
  exact (sxs_cons (sx_set 1 (fun _ => sc__law_round.nd) (fun _ => rfl) (fun _ => (.inl rfl)) rx_int (fun _ => rfl) (fun _ => (.inl rfl)))
  (sxs_cons (sx_for (fun i => owns_defC i) (fun _ => rfl) (ix_walk (fun _ => rfl) (rx_shr 0 (fun _ => rfl) (fun _ => (.inl rfl)))) (gx_name 2 (fun _ => sc__law_round.nd) (fun _ => rfl) (fun _ => (.inl rfl)) (fun _ => (.inl rfl))) (sxs_cons (sx_set 3 (fun _ => sc__law_round.nd) (fun _ => rfl) (fun _ => (.inl rfl)) (rx_shr 1 (fun _ => rfl) (fun _ => (.inl rfl))) (fun _ => rfl) (fun _ => (.inl rfl)))
  (sxs_one (sx_while 20000 (fun i => owns_defC i) (bx_cmp (qx_ne (fun _ => rfl) cx.room (ox_ex (rx_mul (fun _ => rfl) (ox_ex (rx_fdiv (ox_sl 1 (fun _ => rfl) (fun _ => (.inl rfl))) (ox_sl 2 (fun _ => rfl) (fun _ => (.inl rfl))))) (ox_sl 2 (fun _ => rfl) (fun _ => (.inl rfl))))) (ox_sl 1 (fun _ => rfl) (fun _ => (.inl rfl))))) (sxs_one (sx_set 1 (fun _ => sc__law_round.nd) (fun _ => rfl) (fun _ => (.inl rfl)) (rx_add (fun _ => rfl) (ox_sl 1 (fun _ => rfl) (fun _ => (.inl rfl))) (ox_sl 3 (fun _ => rfl) (fun _ => (.inl rfl)))) (fun _ => rfl) (fun _ => (.inl rfl))))))) (fun _ _ => rfl))
  (sxs_one (sx_ret (rx_mov 1 (fun _ => rfl) (fun _ => (.inl rfl)))))))
/-! ### _law_falls -/
def N__law_falls : List Str := ["gully", "minute"]
theorem sc__law_falls : FnScope N__law_falls ["gully", "minute"] (defScope (top 31)) := ⟨rfl, rfl, rfl, by decide +kernel, rfl, by decide +kernel, by decide +kernel⟩
def q__law_falls_1 : P Fl := (seq (args [(.ex (args [(.ex (args [(.ex (args [(.sl 1), (.ex (args [(.sl 0), (.ex (kst (.int 1)))] (f2 ixD)))] (f2 subD)))] (f1 intD))), (.ex (args [(.sl 0), (.ex (kst (.int 0)))] (f2 ixD)))] (f2 modD))), (.ex (args [(.sl 0), (.ex (kst (.int 2)))] (f2 ixD)))] (f2 (ordD ltI))) fun rv => ret (.rt rv))
def m__law_falls : P Fl := q__law_falls_1
def M__law_falls : List Sl → Res RV := bodyF 2 2 m__law_falls
theorem k__law_falls {Pg : Program} {w : World} {G : GC} {mg : Str → Option Value} {base : Heap} (T : Top G mg base)  : Ok1 Pg w G mg base 1 "_law_falls" (top 31) ["gully", "minute"] 2 M__law_falls := by
  obtain ⟨fd, F⟩ := T.f__law_falls
  refine ⟨fd, F, ok_defC F.dn sc__law_falls rfl fun E => ?_⟩
  have cx := cxs_defC (P := Pg) (w := w) (G := G) (mg := mg) (base := base) (qual := "_law_falls") (st := top 31) (f := He.fAd G.K ("_law_falls", none)) (c := He.codeOf G.K ("_law_falls", none)) (k := 0) sc__law_falls E
  exact (sxs_one (sx_ret (rx_cmp (qx_lt (ox_ex (rx_mod (ox_ex (rx_toint (fun _ => rfl) (fun _ => T.b_int) (ax_cons (ox_ex (rx_sub (ox_sl 1 (fun _ => rfl) (fun _ => (.inl rfl))) (ox_ex (rx_ix (fun _ => rfl) (fun _ _ => rfl) (ox_sl 0 (fun _ => rfl) (fun _ => (.inl rfl))) (ox_ex rx_int))))) ax_nil (fun _ => rfl)) (fun _ => rfl) (fun _ => rfl))) (ox_ex (rx_ix (fun _ => rfl) (fun _ _ => rfl) (ox_sl 0 (fun _ => rfl) (fun _ => (.inl rfl))) (ox_ex rx_int))))) (ox_ex (rx_ix (fun _ => rfl) (fun _ _ => rfl) (ox_sl 0 (fun _ => rfl) (fun _ => (.inl rfl))) (ox_ex rx_int)))))))
/-! ### _law_can -/
def N__law_can : List Str := ["gully", "minute", "step"]
theorem sc__law_can : FnScope N__law_can ["gully", "minute"] (defScope (top 32)) := ⟨rfl, rfl, rfl, by decide +kernel, rfl, by decide +kernel, by decide +kernel⟩
def q__law_can_1 : P Fl := (seq (args [(.ex (lcF [2] (args [(.ex (args [(.sl 0), (.ex (kst (.int 3)))] (f2 ixD)))] walkR1) (putG 2) (args [(.ex (callF M__law_falls [.ex (shr 0), .ex (args [(.sl 1), (.sl 2)] (f2 addD))]))] truO) (shr 2))), (.ex (args [] mkL))] (f2 (eqD))) fun rv => ret (.rt rv))
def m__law_can : P Fl := q__law_can_1
def M__law_can : List Sl → Res RV := bodyF 2 3 m__law_can
theorem k__law_can {Pg : Program} {w : World} {G : GC} {mg : Str → Option Value} {base : Heap} (T : Top G mg base) (o__law_falls : Ok1 Pg w G mg base 1 "_law_falls" (top 31) ["gully", "minute"] 2 M__law_falls) : Ok1 Pg w G mg base 2 "_law_can" (top 32) ["gully", "minute"] 2 M__law_can := by
  obtain ⟨fd, F⟩ := T.f__law_can
  refine ⟨fd, F, ok_defC F.dn sc__law_can rfl fun E => ?_⟩
  have cx := cxs_defC (P := Pg) (w := w) (G := G) (mg := mg) (base := base) (qual := "_law_can") (st := top 32) (f := He.fAd G.K ("_law_can", none)) (c := He.codeOf G.K ("_law_can", none)) (k := 1) sc__law_can E
  exact (sxs_one (sx_ret (rx_cmp (qx_eq (fun _ => rfl) cx.room (ox_ex (rx_lc (own := [("step", 2)]) (fun _ => rfl) (fun _ => sc__law_can.nd) (ix_range1 (fun _ => rfl) (fun _ => T.b_range) (ax_cons (ox_ex (rx_ix (fun _ => rfl) (fun _ _ => rfl) (ox_sl 0 (fun _ => rfl) (fun _ => (.inr (.inl rfl)))) (ox_ex rx_int))) ax_nil (fun _ => rfl)) (fun _ => rfl)) (fun _ => (show BlkOk N__law_can (defScope (top 32)) _ [("step", 2)] from ⟨rfl, by decide +kernel, by decide +kernel, by decide +kernel, by decide +kernel⟩)) (gx_name 2 (fun _ => sc__law_can.nd) (fun _ => rfl) (fun _ => (.inl rfl)) (fun _ => (.inr rfl))) (tx_one (bx_tru (fun _ => rfl) (ox_ex (rx_callD (cs := [.ex (shr 0), .ex (args [(.sl 1), (.sl 2)] (f2 addD))]) (cxs_blk cx _) o__law_falls (by decide) ⟨by simp [mus], by simp [lns, mus]⟩ (fun _ => rfl) (ax_cons (ox_ex (rx_shr 0 (fun _ => rfl) (fun _ => (.inr (.inl rfl))))) (ax_cons (ox_ex (rx_add (fun _ => rfl) (ox_sl 1 (fun _ => rfl) (fun _ => (.inr (.inl rfl)))) (ox_sl 2 (fun _ => rfl) (fun _ => (.inl rfl))))) ax_nil (fun _ => rfl)) (fun _ => rfl)) (fun _ => rfl) (fun _ => rfl))) (fun _ _ => rfl))) (rx_shr 2 (fun _ => rfl) (fun _ => (.inl rfl))) (fun _ _ => rfl))) (ox_ex (rx_list ax_nil trivial (by decide)))))))
/-! ### _law_begins -/
def N__law_begins : List Str := ["gullies", "ways", "start", "found", "now", "k", "waits"]
theorem sc__law_begins : FnScope N__law_begins ["gullies", "ways", "start"] (defScope (top 33)) := ⟨rfl, rfl, rfl, by decide +kernel, rfl, by decide +kernel, by decide +kernel⟩
def q__law_begins_1 : P Fl := (parF [3, 4] [(args [] mkL), (shr 2)])
def q__law_begins_2 : P Fl := (parF [4, 6] [(args [(.sl 4), (.ex (args [(.sl 1), (.sl 5)] (f2 ixD)))] (f2 addD)), (kst (.int 0))])
def q__law_begins_3 : P Fl := (parF [4, 6] [(args [(.sl 4), (.ex (kst (.int 1)))] (f2 addD)), (args [(.sl 6), (.ex (kst (.int 1)))] (f2 addD))])
def q__law_begins_4 : P Fl := (whileF 20000 (andP (notP (args [(.ex (callF M__law_can [.ex (args [(.sl 0), (.sl 5)] (f2 ixD)), .ex (shr 4)]))] truO)) (seq (args [(.sl 6), (.ex (kst (.int 200)))] (f2 (ordD ltI))) toB)) q__law_begins_3)
def q__law_begins_5 : P Fl := (seq (kst .none) fun rv => ret (.rt rv))
def q__law_begins_6 : P Fl := (ifP (orP (seq (args [(.sl 6), (.ex (kst (.int 200)))] (f2 (eqD))) toB) (seq (args [(.sl 6), (.ex (args [(.ex (args [(.ex (args [(.ex (args [(.sl 0), (.sl 5)] (f2 ixD))), (.ex (kst (.int 2)))] (f2 ixD))), (.ex (args [(.ex (args [(.sl 0), (.sl 5)] (f2 ixD))), (.ex (kst (.int 3)))] (f2 ixD)))] (f2 addD))), (.ex (kst (.int 1)))] (f2 subD)))] (f2 (ordD gtI))) toB)) q__law_begins_5 (ret .nx))
def q__law_begins_7 : P Fl := (seq (mutF 3 [(.ex (shr 4))] appendD) fun _ => ret .nx)
def q__law_begins_8 : P Fl := (seq (args [(.sl 4), (.ex (args [(.ex (args [(.sl 0), (.sl 5)] (f2 ixD))), (.ex (kst (.int 3)))] (f2 ixD)))] (f2 addD)) (put 4))
def q__law_begins_9 : P Fl := (forF (args [(.ex (args [(.sl 0)] (f1 lenD)))] walkR1) (putG 5) (thenS q__law_begins_2
  (thenS q__law_begins_4
  (thenS q__law_begins_6
  (thenS q__law_begins_7
  q__law_begins_8)))))
def q__law_begins_10 : P Fl := (seq (mov 3) fun rv => ret (.rt rv))
def m__law_begins : P Fl := (thenS q__law_begins_1
  (thenS q__law_begins_9
  q__law_begins_10))
def M__law_begins : List Sl → Res RV := bodyF 3 7 m__law_begins
theorem k__law_begins {Pg : Program} {w : World} {G : GC} {mg : Str → Option Value} {base : Heap} (T : Top G mg base) (o__law_can : Ok1 Pg w G mg base 2 "_law_can" (top 32) ["gully", "minute"] 2 M__law_can) : Ok1 Pg w G mg base 3 "_law_begins" (top 33) ["gullies", "ways", "start"] 3 M__law_begins := by
  obtain ⟨fd, F⟩ := T.f__law_begins
  refine ⟨fd, F, ok_defC F.dn sc__law_begins rfl fun E => ?_⟩
  have cx := cxs_defC (P := Pg) (w := w) (G := G) (mg := mg) (base := base) (qual := "_law_begins") (st := top 33) (f := He.fAd G.K ("_law_begins", none)) (c := He.codeOf G.K ("_law_begins", none)) (k := 2) sc__law_begins E
  exact (sxs_cons (sx_par2 3 4 (fun _ => rfl) (fun _ => sc__law_begins.nd) (fun _ => rfl) (fun _ => rfl) (by decide) (fun _ => rfl) (fun _ => rfl) (rxs_cons (rx_list ax_nil trivial (by decide)) (rxs_cons (rx_shr 2 (fun _ => rfl) (fun _ => (.inl rfl))) rxs_nil (fun _ => rfl)) (fun _ => rfl)) (fun _ => rfl) (fun _ => rfl))
  (sxs_cons (sx_for (fun i => owns_defC i) (fun _ => rfl) (ix_range1 (fun _ => rfl) (fun _ => T.b_range) (ax_cons (ox_ex (rx_len (fun _ => rfl) (fun _ => rfl) (fun _ => T.b_len) (ax_cons (ox_sl 0 (fun _ => rfl) (fun _ => (.inl rfl))) ax_nil (fun _ => rfl)) (fun _ => rfl) (fun _ => rfl))) ax_nil (fun _ => rfl)) (fun _ => rfl)) (gx_name 5 (fun _ => sc__law_begins.nd) (fun _ => rfl) (fun _ => (.inl rfl)) (fun _ => (.inl rfl))) (sxs_cons (sx_par2 4 6 (fun _ => rfl) (fun _ => sc__law_begins.nd) (fun _ => rfl) (fun _ => rfl) (by decide) (fun _ => rfl) (fun _ => rfl) (rxs_cons (rx_add (fun _ => rfl) (ox_sl 4 (fun _ => rfl) (fun _ => (.inl rfl))) (ox_ex (rx_ix (fun _ => rfl) (fun _ _ => rfl) (ox_sl 1 (fun _ => rfl) (fun _ => (.inl rfl))) (ox_sl 5 (fun _ => rfl) (fun _ => (.inl rfl)))))) (rxs_cons rx_int rxs_nil (fun _ => rfl)) (fun _ => rfl)) (fun _ => rfl) (fun _ => rfl))
  (sxs_cons (sx_while 20000 (fun i => owns_defC i) (bx_w (wx_and (bx_not (bx_tru (fun _ => rfl) (ox_ex (rx_callD (cs := [.ex (args [(.sl 0), (.sl 5)] (f2 ixD)), .ex (shr 4)]) cx o__law_can (by decide) ⟨by simp [mus], by simp [lns, mus]⟩ (fun _ => rfl) (ax_cons (ox_ex (rx_ix (fun _ => rfl) (fun _ _ => rfl) (ox_sl 0 (fun _ => rfl) (fun _ => (.inl rfl))) (ox_sl 5 (fun _ => rfl) (fun _ => (.inl rfl))))) (ax_cons (ox_ex (rx_shr 4 (fun _ => rfl) (fun _ => (.inl rfl)))) ax_nil (fun _ => rfl)) (fun _ => rfl)) (fun _ => rfl) (fun _ => rfl))) (fun _ _ => rfl))) (wx_and1 (bx_cmp (qx_lt (ox_sl 6 (fun _ => rfl) (fun _ => (.inl rfl))) (ox_ex rx_int)))))) (sxs_one (sx_par2 4 6 (fun _ => rfl) (fun _ => sc__law_begins.nd) (fun _ => rfl) (fun _ => rfl) (by decide) (fun _ => rfl) (fun _ => rfl) (rxs_cons (rx_add (fun _ => rfl) (ox_sl 4 (fun _ => rfl) (fun _ => (.inl rfl))) (ox_ex rx_int)) (rxs_cons (rx_add (fun _ => rfl) (ox_sl 6 (fun _ => rfl) (fun _ => (.inl rfl))) (ox_ex rx_int)) rxs_nil (fun _ => rfl)) (fun _ => rfl)) (fun _ => rfl) (fun _ => rfl))))
  (sxs_cons (sx_if (bx_w (wx_or (bx_cmp (qx_eq (fun _ => rfl) cx.room (ox_sl 6 (fun _ => rfl) (fun _ => (.inl rfl))) (ox_ex rx_int))) (wx_or1 (bx_cmp (qx_gt (ox_sl 6 (fun _ => rfl) (fun _ => (.inl rfl))) (ox_ex (rx_sub (ox_ex (rx_add (fun _ => rfl) (ox_ex (rx_ix (fun _ => rfl) (fun _ _ => rfl) (ox_ex (rx_ix (fun _ => rfl) (fun _ _ => rfl) (ox_sl 0 (fun _ => rfl) (fun _ => (.inl rfl))) (ox_sl 5 (fun _ => rfl) (fun _ => (.inl rfl))))) (ox_ex rx_int))) (ox_ex (rx_ix (fun _ => rfl) (fun _ _ => rfl) (ox_ex (rx_ix (fun _ => rfl) (fun _ _ => rfl) (ox_sl 0 (fun _ => rfl) (fun _ => (.inl rfl))) (ox_sl 5 (fun _ => rfl) (fun _ => (.inl rfl))))) (ox_ex rx_int))))) (ox_ex rx_int)))))))) (sxs_one (sx_ret rx_non)) sxs_nil)
  (sxs_cons (sx_expr (rx_mut 3 (fun i => u65 (cx.room i)) (fun _ => rfl) mth_append mu_append (fun _ => rfl) (fun _ => (.inl rfl)) (ax_cons (ox_ex (rx_shr 4 (fun _ => rfl) (fun _ => (.inl rfl)))) ax_nil (fun _ => rfl)) trivial (fun _ => rfl) (fun _ => rfl) rfl (fun _ => rfl) (fun _ => rfl)) (fun _ => rfl))
  (sxs_one (sx_set 4 (fun _ => sc__law_begins.nd) (fun _ => rfl) (fun _ => (.inl rfl)) (rx_add (fun _ => rfl) (ox_sl 4 (fun _ => rfl) (fun _ => (.inl rfl))) (ox_ex (rx_ix (fun _ => rfl) (fun _ _ => rfl) (ox_ex (rx_ix (fun _ => rfl) (fun _ _ => rfl) (ox_sl 0 (fun _ => rfl) (fun _ => (.inl rfl))) (ox_sl 5 (fun _ => rfl) (fun _ => (.inl rfl))))) (ox_ex rx_int)))) (fun _ => rfl) (fun _ => (.inl rfl)))))))) (fun _ _ => rfl))
  (sxs_one (sx_ret (rx_mov 3 (fun _ => rfl) (fun _ => (.inl rfl)))))))
/-! ### _law_gully -/
def N__law_gully : List Str := ["draws", "turn", "fall", "cross"]
theorem sc__law_gully : FnScope N__law_gully ["draws", "turn"] (defScope (top 34)) := ⟨rfl, rfl, rfl, by decide +kernel, rfl, by decide +kernel, by decide +kernel⟩
def q__law_gully_1 : P Fl := (seq (args [(.ex (kst (.int 1))), (.ex (callF M__law_take [.mu 0, .ex (args [(.sl 1), (.ex (kst (.int 1)))] (f2 subD))]))] (f2 addD)) (put 2))
def q__law_gully_2 : P Fl := (seq (args [(.ex (args [(.ex (kst (.int 1))), (.ex (args [(.sl 1), (.sl 2)] (f2 subD))), (.ex (args [(.ex (kst (.int 1))), (.ex (callF M__law_take [.mu 0, .ex (kst (.int 60))]))] (f2 addD))), (.ex (args [(.ex (kst (.int 1))), (.ex (callF M__law_take [.mu 0, .ex (args [(.ex (args [(.sl 1), (.sl 2)] (f2 subD))), (.ex (kst (.int 1)))] (f2 max2D))]))] (f2 addD))), (.ex (args [(.ex (args [(.ex (args [(.sl 1), (.sl 2)] (f2 subD))), (.ex (kst (.int 1)))] (f2 addD))), (.ex (kst (.int 60)))] (f2 min2D)))] mkL)), (.ex (ifP (seq (args [(.ex (callF M__law_take [.mu 0, .ex (kst (.int 3))])), (.ex (kst (.int 0)))] (f2 (eqD))) toB) (callF M__law_take [.mu 0, .ex (kst (.int 5))]) (kst (.int 3))))] (f2 ixD)) (put 3))
def q__law_gully_3 : P Fl := (seq (args [(.ex (shr 1)), (.ex (callF M__law_take [.mu 0, .ex (shr 1)])), (.ex (shr 2)), (.ex (shr 3))] mkT) fun rv => ret (.rt rv))
def m__law_gully : P Fl := (thenS q__law_gully_1
  (thenS q__law_gully_2
  q__law_gully_3))
def M__law_gully : List Sl → Res RV := bodyF 2 4 m__law_gully
theorem k__law_gully {Pg : Program} {w : World} {G : GC} {mg : Str → Option Value} {base : Heap} (T : Top G mg base) (o__law_take : Ok1 Pg w G mg base 1 "_law_take" (top 26) ["draws", "bound"] 2 M__law_take) : Ok1 Pg w G mg base 2 "_law_gully" (top 34) ["draws", "turn"] 2 M__law_gully := by
  obtain ⟨fd, F⟩ := T.f__law_gully
  refine ⟨fd, F, ok_defC F.dn sc__law_gully rfl fun E => ?_⟩
  have cx := cxs_defC (P := Pg) (w := w) (G := G) (mg := mg) (base := base) (qual := "_law_gully") (st := top 34) (f := He.fAd G.K ("_law_gully", none)) (c := He.codeOf G.K ("_law_gully", none)) (k := 1) sc__law_gully E
  exact (sxs_cons (sx_set 2 (fun _ => sc__law_gully.nd) (fun _ => rfl) (fun _ => (.inl rfl)) (rx_add (fun _ => rfl) (ox_ex rx_int) (ox_ex (rx_callD (cs := [.mu 0, .ex (args [(.sl 1), (.ex (kst (.int 1)))] (f2 subD))]) cx o__law_take (by decide) ⟨by simp [mus], by simp [lns, mus]⟩ (fun _ => rfl) (ax_cons (ox_sl 0 (fun _ => rfl) (fun _ => (.inl rfl))) (ax_cons (ox_ex (rx_sub (ox_sl 1 (fun _ => rfl) (fun _ => (.inl rfl))) (ox_ex rx_int))) ax_nil (fun _ => rfl)) (fun _ => rfl)) (fun _ => rfl) (fun _ => rfl)))) (fun _ => rfl) (fun _ => (.inl rfl)))
  (sxs_cons (sx_set 3 (fun _ => sc__law_gully.nd) (fun _ => rfl) (fun _ => (.inl rfl)) (rx_ix (fun _ => rfl) (fun _ _ => rfl) (ox_ex (rx_list (ax_cons (ox_ex rx_int) (ax_cons (ox_ex (rx_sub (ox_sl 1 (fun _ => rfl) (fun _ => (.inl rfl))) (ox_sl 2 (fun _ => rfl) (fun _ => (.inl rfl))))) (ax_cons (ox_ex (rx_add (fun _ => rfl) (ox_ex rx_int) (ox_ex (rx_callD (cs := [.mu 0, .ex (kst (.int 60))]) cx o__law_take (by decide) ⟨by simp [mus], by simp [lns, mus]⟩ (fun _ => rfl) (ax_cons (ox_sl 0 (fun _ => rfl) (fun _ => (.inl rfl))) (ax_cons (ox_ex rx_int) ax_nil (fun _ => rfl)) (fun _ => rfl)) (fun _ => rfl) (fun _ => rfl))))) (ax_cons (ox_ex (rx_add (fun _ => rfl) (ox_ex rx_int) (ox_ex (rx_callD (cs := [.mu 0, .ex (args [(.ex (args [(.sl 1), (.sl 2)] (f2 subD))), (.ex (kst (.int 1)))] (f2 max2D))]) cx o__law_take (by decide) ⟨by simp [mus], by simp [lns, mus]⟩ (fun _ => rfl) (ax_cons (ox_sl 0 (fun _ => rfl) (fun _ => (.inl rfl))) (ax_cons (ox_ex (rx_max2 (fun _ => rfl) (fun _ => rfl) (fun _ => T.b_max) (ax_cons (ox_ex (rx_sub (ox_sl 1 (fun _ => rfl) (fun _ => (.inl rfl))) (ox_sl 2 (fun _ => rfl) (fun _ => (.inl rfl))))) (ax_cons (ox_ex rx_int) ax_nil (fun _ => rfl)) (fun _ => rfl)) (fun _ => rfl) (fun _ => rfl))) ax_nil (fun _ => rfl)) (fun _ => rfl)) (fun _ => rfl) (fun _ => rfl))))) (ax_cons (ox_ex (rx_min2 (fun _ => rfl) (fun _ => rfl) (fun _ => T.b_min) (ax_cons (ox_ex (rx_add (fun _ => rfl) (ox_ex (rx_sub (ox_sl 1 (fun _ => rfl) (fun _ => (.inl rfl))) (ox_sl 2 (fun _ => rfl) (fun _ => (.inl rfl))))) (ox_ex rx_int))) (ax_cons (ox_ex rx_int) ax_nil (fun _ => rfl)) (fun _ => rfl)) (fun _ => rfl) (fun _ => rfl))) ax_nil (fun _ => rfl)) (fun _ => rfl)) (fun _ => rfl)) (fun _ => rfl)) (fun _ => rfl)) trivial (by decide))) (ox_ex (rx_if (bx_cmp (qx_eq (fun _ => rfl) cx.room (ox_ex (rx_callD (cs := [.mu 0, .ex (kst (.int 3))]) cx o__law_take (by decide) ⟨by simp [mus], by simp [lns, mus]⟩ (fun _ => rfl) (ax_cons (ox_sl 0 (fun _ => rfl) (fun _ => (.inl rfl))) (ax_cons (ox_ex rx_int) ax_nil (fun _ => rfl)) (fun _ => rfl)) (fun _ => rfl) (fun _ => rfl))) (ox_ex rx_int))) (rx_callD (cs := [.mu 0, .ex (kst (.int 5))]) cx o__law_take (by decide) ⟨by simp [mus], by simp [lns, mus]⟩ (fun _ => rfl) (ax_cons (ox_sl 0 (fun _ => rfl) (fun _ => (.inl rfl))) (ax_cons (ox_ex rx_int) ax_nil (fun _ => rfl)) (fun _ => rfl)) (fun _ => rfl) (fun _ => rfl)) rx_int))) (fun _ => rfl) (fun _ => (.inl rfl)))
  (sxs_one (sx_ret (rx_tup (ax_cons (ox_ex (rx_shr 1 (fun _ => rfl) (fun _ => (.inl rfl)))) (ax_cons (ox_ex (rx_callD (cs := [.mu 0, .ex (shr 1)]) cx o__law_take (by decide) ⟨by simp [mus], by simp [lns, mus]⟩ (fun _ => rfl) (ax_cons (ox_sl 0 (fun _ => rfl) (fun _ => (.inl rfl))) (ax_cons (ox_ex (rx_shr 1 (fun _ => rfl) (fun _ => (.inl rfl)))) ax_nil (fun _ => rfl)) (fun _ => rfl)) (fun _ => rfl) (fun _ => rfl))) (ax_cons (ox_ex (rx_shr 2 (fun _ => rfl) (fun _ => (.inl rfl)))) (ax_cons (ox_ex (rx_shr 3 (fun _ => rfl) (fun _ => (.inl rfl)))) ax_nil (fun _ => rfl)) (fun _ => rfl)) (fun _ => rfl)) (fun _ => rfl)) trivial (by decide))))))
/-! ### _law_told -/
def N__law_told : List Str := ["which", "gullies", "ways", "start", "e"]
theorem sc__law_told : FnScope N__law_told ["which", "gullies", "ways", "start"] (defScope (top 35)) := ⟨rfl, rfl, rfl, by decide +kernel, rfl, by decide +kernel, by decide +kernel⟩
def q__law_told_1 : P Fl := (seq (callIxF [M_earliest_begins, M_arrival] 0 [.ex (shr 1), .ex (shr 2), .ex (shr 3)]) fun rv => ret (.rt rv))
def q__law_told_2 : P Fl := (ifP (seq (args [(.sl 0), (.ex (kst (.int 2)))] (f2 (ordD ltI))) toB) q__law_told_1 (ret .nx))
def q__law_told_3 : P Fl := (seq (callF M_free_starts [.ex (shr 1), .ex (shr 2)]) fun rv => ret (.rt rv))
def q__law_told_4 : P Fl := (tryF 4 (thenS q__law_told_2
  q__law_told_3) wordOf)
def m__law_told : P Fl := q__law_told_4
def M__law_told : List Sl → Res RV := bodyF 4 5 m__law_told
theorem k__law_told {Pg : Program} {w : World} {G : GC} {mg : Str → Option Value} {base : Heap} (T : Top G mg base) (o__law_word : OkE Pg w G mg base 1 (top 29)) (o_arrival : Ok1 Pg w G mg base 4 "arrival" (top 21) ["gullies", "ways", "start"] 3 M_arrival) (o_earliest_begins : Ok1 Pg w G mg base 3 "earliest_begins" (top 20) ["gullies", "ways", "start"] 3 M_earliest_begins) (o_free_starts : Ok1 Pg w G mg base 3 "free_starts" (top 23) ["gullies", "ways"] 2 M_free_starts) : Ok1 Pg w G mg base 5 "_law_told" (top 35) ["which", "gullies", "ways", "start"] 4 M__law_told := by
  obtain ⟨fd, F⟩ := T.f__law_told
  refine ⟨fd, F, ok_defC F.dn sc__law_told rfl fun E => ?_⟩
  have cx := cxs_defC (P := Pg) (w := w) (G := G) (mg := mg) (base := base) (qual := "_law_told") (st := top 35) (f := He.fAd G.K ("_law_told", none)) (c := He.codeOf G.K ("_law_told", none)) (k := 4) sc__law_told E
  exact (sxs_one (sx_tryD cx 4 (fun _ => rfl) (fun _ => rfl) rfl (fun _ => rfl) (fun _ => (.inl rfl)) (fun _ => rfl) T.x_CampError o__law_word (by decide) (fun _ => rfl) T.kinds (fun W' => (sxs_cons (sx_if (bx_cmp (qx_lt (ox_sl 0 (fun _ => rfl) (fun _ => (.inl rfl))) (ox_ex rx_int))) (sxs_one (sx_ret (rx_callIx (cs := [.ex (shr 1), .ex (shr 2), .ex (shr 3)]) (cxs_tr cx W') 0 (.cons o_earliest_begins (by decide) (fun _ => rfl) (by decide) (fun _ => rfl) (.cons o_arrival (by decide) (fun _ => rfl) (by decide) (fun _ => rfl) .nil)) (by simp) (by decide) ⟨by simp [mus], by simp [lns, mus]⟩ (fun _ => rfl) (fun _ => (.inl rfl)) (ax_cons (ox_ex (rx_shr 1 (fun _ => rfl) (fun _ => (.inl rfl)))) (ax_cons (ox_ex (rx_shr 2 (fun _ => rfl) (fun _ => (.inl rfl)))) (ax_cons (ox_ex (rx_shr 3 (fun _ => rfl) (fun _ => (.inl rfl)))) ax_nil (fun _ => rfl)) (fun _ => rfl)) (fun _ => rfl)) (fun _ => rfl) (fun _ => rfl)))) sxs_nil)
  (sxs_one (sx_ret (rx_callD (cs := [.ex (shr 1), .ex (shr 2)]) (cxs_tr cx W') o_free_starts (by decide) ⟨by simp [mus], by simp [lns, mus]⟩ (fun _ => rfl) (ax_cons (ox_ex (rx_shr 1 (fun _ => rfl) (fun _ => (.inl rfl)))) (ax_cons (ox_ex (rx_shr 2 (fun _ => rfl) (fun _ => (.inl rfl)))) ax_nil (fun _ => rfl)) (fun _ => rfl)) (fun _ => rfl) (fun _ => rfl))))))))
/-! ### law -/
def N_law : List Str := ["script", "draws", "step", "many", "kind", "turns", "k", "gullies", "turn", "ways", "good", "gully", "minute", "start", "due", "both", "later", "whole", "told", "tables", "behind", "now", "free", "one", "other", "which", "bad", "value"]
theorem sc_law : FnScope N_law ["script"] (defScope (top 36)) := ⟨rfl, rfl, rfl, by decide +kernel, rfl, by decide +kernel, by decide +kernel⟩
def q_law_1 : P Fl := (parF [3, 4] [(args [(.ex (kst (.int 1))), (.ex (callF M__law_take [.mu 1, .ex (kst (.int 6))]))] (f2 addD)), (callF M__law_take [.mu 1, .ex (kst (.int 4))])])
def q_law_2 : P Fl := (seq (lcF [6] (args [(.sl 3)] walkR1) (putG 6) (ret true) (args [(.ex (args [(.ex (kst (.int 12))), (.ex (args [(.ex (kst (.int 2))), (.ex (callF M__law_take [.mu 1, .ex (kst (.int 59))]))] (f2 addD))), (.ex (args [(.ex (args [(.ex (kst (.int 4))), (.ex (kst (.int 6))), (.ex (kst (.int 8))), (.ex (kst (.int 12))), (.ex (kst (.int 24)))] mkL)), (.ex (callF M__law_take [.mu 1, .ex (kst (.int 5))]))] (f2 ixD))), (.ex (args [(.ex (args [(.ex (kst (.int 7))), (.ex (kst (.int 9))), (.ex (kst (.int 10))), (.ex (kst (.int 11))), (.ex (kst (.int 60)))] mkL)), (.ex (callF M__law_take [.mu 1, .ex (kst (.int 5))]))] (f2 ixD)))] mkL)), (.sl 4)] (f2 ixD))) (put 5))
def q_law_3 : P Fl := (seq (args [(.ex (lcF [8] (walk (shr 5)) (putG 8) (ret true) (callF M__law_gully [.mu 1, .ex (shr 8)])))] (f1 tupD)) (put 7))
def q_law_4 : P Fl := (seq (args [(.ex (lcF [6] (args [(.sl 3)] walkR1) (putG 6) (ret true) (args [(.ex (args [(.ex (kst (.int 0))), (.ex (callF M__law_take [.mu 1, .ex (kst (.int 101))])), (.ex (callF M__law_take [.mu 1, .ex (kst (.int 4))]))] mkL)), (.ex (callF M__law_take [.mu 1, .ex (kst (.int 3))]))] (f2 ixD))))] (f1 tupD)) (put 9))
def q_law_5 : P Fl := (seq (args [(.ex (lcF [11] (walk (shr 7)) (putG 11) (seq (args [(.ex (args [(.sl 11), (.ex (kst (.int 3)))] (f2 ixD))), (.ex (args [(.ex (args [(.sl 11), (.ex (kst (.int 0)))] (f2 ixD))), (.ex (args [(.sl 11), (.ex (kst (.int 2)))] (f2 ixD)))] (f2 subD)))] (f2 (ordD gtI))) toB) (shr 11))), (.ex (args [] mkL))] (f2 (eqD))) (put 10))
def q_law_6 : P Fl := (seq (kst (.bool false)) fun rv => ret (.rt rv))
def q_law_7 : P Fl := (ifP (notP (args [(.ex (callF M__law_says [.ex (callF M_are_gullies [.ex (shr 7)]), .ex (kst (.bool true))]))] truO)) q_law_6 (ret .nx))
def q_law_8 : P Fl := (parF [11, 12] [(args [(.sl 7), (.ex (callF M__law_take [.mu 1, .ex (shr 3)]))] (f2 ixD)), (callF M__law_take [.mu 1, .ex (kst (.int 300))])])
def q_law_9 : P Fl := (seq (kst (.bool false)) fun rv => ret (.rt rv))
def q_law_10 : P Fl := (ifP (notP (args [(.ex (callF M__law_says [.ex (callF M_can_begin [.ex (shr 11), .ex (shr 12)]), .ex (callF M__law_can [.ex (shr 11), .ex (shr 12)])]))] truO)) q_law_9 (ret .nx))
def q_law_11 : P Fl := (seq (args [(.ex (args [(.ex (callF M__law_take [.mu 1, .ex (kst (.int 200))])), (.ex (callF M__law_take [.mu 1, .ex (kst (.int 10001))])), (.ex (kst (.int 0))), (.ex (kst (.int 10000)))] mkL)), (.ex (callF M__law_take [.mu 1, .ex (kst (.int 4))]))] (f2 ixD)) (put 13))
def q_law_12 : P Fl := (seq (ifP (args [(.sl 10)] truO) (callF M__law_begins [.ex (shr 7), .ex (shr 9), .ex (shr 13)]) (kst .none)) (put 14))
def q_law_13 : P Fl := (seq (kst (.bool false)) fun rv => ret (.rt rv))
def q_law_14 : P Fl := (ifP (andP (args [(.sl 10)] truO) (seq (args [(.sl 14), (.ex (kst .none))] (f2 (isD))) toB)) q_law_13 (ret .nx))
def q_law_15 : P Fl := (seq (ifP (seq (args [(.sl 14), (.ex (kst .none))] (f2 (isD))) toB) (args [(.ex (kst .none)), (.ex (kst .none))] mkL) (args [(.ex (args [(.sl 14)] (f1 tupD))), (.ex (args [(.ex (args [(.sl 14), (.ex (args [(.ex (kst (.int 1)))] (f1 negD)))] (f2 ixD))), (.ex (args [(.ex (args [(.sl 7), (.ex (args [(.ex (kst (.int 1)))] (f1 negD)))] (f2 ixD))), (.ex (kst (.int 3)))] (f2 ixD)))] (f2 addD)))] mkL)) (put 15))
def q_law_16 : P Fl := (seq (kst (.bool false)) fun rv => ret (.rt rv))
def q_law_17 : P Fl := (ifP (notP (args [(.ex (callF (M__law_alike 6) [.ex (args [(.ex (callF M__law_told [.ex (kst (.int 0)), .ex (shr 7), .ex (shr 9), .ex (shr 13)])), (.ex (callF M__law_told [.ex (kst (.int 1)), .ex (shr 7), .ex (shr 9), .ex (shr 13)]))] mkL), .ex (shr 15)]))] truO)) q_law_16 (ret .nx))
def q_law_18 : P Fl := (seq (callF M__law_told [.ex (kst (.int 0)), .ex (shr 7), .ex (shr 9), .ex (args [(.sl 13), (.ex (kst (.int 1)))] (f2 addD))]) (put 16))
def q_law_19 : P Fl := (seq (kst (.bool false)) fun rv => ret (.rt rv))
def q_law_20 : P Fl := (ifP (orP (notP (args [(.ex (args [(.sl 16)] (isiF .tuple)))] truO)) (seq (args [(.ex (lcF [6] (args [(.sl 3)] walkR1) (putG 6) (seq (args [(.ex (args [(.sl 16), (.sl 6)] (f2 ixD))), (.ex (args [(.sl 14), (.sl 6)] (f2 ixD)))] (f2 (ordD ltI))) toB) (shr 6))), (.ex (args [] mkL))] (f2 (neD))) toB)) q_law_19 (ret .nx))
def q_law_21 : P Fl := (ifP (andP (seq (args [(.sl 14), (.ex (kst .none))] (f2 (notD))) toB) (seq (args [(.sl 13), (.ex (kst (.int 10000)))] (f2 (ordD ltI))) toB)) (thenS q_law_18
  q_law_20) (ret .nx))
def q_law_22 : P Fl := (forF (args [(.ex (kst (.int 4)))] walkR1) (putG 8) (thenS q_law_8
  (thenS q_law_10
  (thenS q_law_11
  (thenS q_law_12
  (thenS q_law_14
  (thenS q_law_15
  (thenS q_law_17
  q_law_21))))))))
def q_law_23 : P Fl := (parF [17, 18] [(callF M__law_round [.ex (shr 5)]), (callF M__law_told [.ex (kst (.int 2)), .ex (shr 7), .ex (shr 9), .ex (kst (.int 0))])])
def q_law_24 : P Fl := (seq (kst (.bool false)) fun rv => ret (.rt rv))
def q_law_25 : P Fl := (ifP (seq (args [(.sl 18), (.ex (kst (.str "much")))] (f2 (neD))) toB) q_law_24 (ret .nx))
def q_law_26 : P Fl := (parF [19, 20, 21] [(args [] mkL), (args [] mkL), (kst (.int 0))])
def q_law_27 : P Fl := (seq (mutF 19 [(.ex (lcF [12] (args [(.ex (args [(.ex (args [(.sl 7), (.sl 6)] (f2 ixD))), (.ex (kst (.int 0)))] (f2 ixD)))] walkR1) (putG 12) (ret true) (callF M__law_can [.ex (args [(.sl 7), (.sl 6)] (f2 ixD)), .ex (shr 12)])))] appendD) fun _ => ret .nx)
def q_law_28 : P Fl := (seq (args [(.sl 21), (.ex (args [(.sl 9), (.sl 6)] (f2 ixD)))] (f2 addD)) (put 21))
def q_law_29 : P Fl := (seq (mutF 20 [(.ex (shr 21))] appendD) fun _ => ret .nx)
def q_law_30 : P Fl := (seq (args [(.sl 21), (.ex (args [(.ex (args [(.sl 7), (.sl 6)] (f2 ixD))), (.ex (kst (.int 3)))] (f2 ixD)))] (f2 addD)) (put 21))
def q_law_31 : P Fl := (forF (args [(.sl 3)] walkR1) (putG 6) (thenS q_law_27
  (thenS q_law_28
  (thenS q_law_29
  q_law_30))))
def q_law_32 : P Fl := (seq (lcF [13] (args [(.sl 17)] walkR1) (putG 13) (seq (args [(.ex (lcF [6] (args [(.sl 3)] walkR1) (putG 6) (notP (args [(.ex (args [(.ex (args [(.sl 19), (.sl 6)] (f2 ixD))), (.ex (args [(.ex (args [(.ex (args [(.sl 13), (.ex (args [(.sl 20), (.sl 6)] (f2 ixD)))] (f2 addD)))] (f1 intD))), (.ex (args [(.sl 5), (.sl 6)] (f2 ixD)))] (f2 modD)))] (f2 ixD)))] truO)) (shr 6))), (.ex (args [] mkL))] (f2 (eqD))) toB) (shr 13)) (put 22))
def q_law_33 : P Fl := (seq (kst (.bool false)) fun rv => ret (.rt rv))
def q_law_34 : P Fl := (ifP (notP (args [(.ex (callF (M__law_alike 6) [.ex (shr 18), .ex (args [(.sl 22)] (f1 tupD))]))] truO)) q_law_33 (ret .nx))
def q_law_35 : P Fl := (parF [23, 24] [(args [(.sl 22), (.ex (callF M__law_take [.mu 1, .ex (args [(.sl 22)] (f1 lenD))]))] (f2 ixD)), (args [(.sl 22), (.ex (callF M__law_take [.mu 1, .ex (args [(.sl 22)] (f1 lenD))]))] (f2 ixD))])
def q_law_36 : P Fl := (seq (lcF [13] (walk (args [(.ex (shr 23)), (.ex (shr 24)), (.ex (args [(.sl 23), (.sl 17)] (f2 addD)))] mkL)) (putG 13) (ret true) (callF M__law_told [.ex (kst (.int 1)), .ex (shr 7), .ex (shr 9), .ex (shr 13)])) (put 18))
def q_law_37 : P Fl := (seq (kst (.bool false)) fun rv => ret (.rt rv))
def q_law_38 : P Fl := (ifP (seq (args [(.sl 18), (.ex (lcF [13] (walk (args [(.ex (shr 23)), (.ex (shr 24)), (.ex (args [(.sl 23), (.sl 17)] (f2 addD)))] mkL)) (putG 13) (ret true) (args [(.sl 13), (.sl 21)] (f2 addD))))] (f2 (neD))) toB) q_law_37 (ret .nx))
def q_law_39 : P Fl := (ifP (seq (args [(.ex (args [(.sl 22)] (f1 lenD))), (.ex (kst (.int 1)))] (f2 (ordD gtI))) toB) (thenS q_law_35
  (thenS q_law_36
  q_law_38)) (ret .nx))
def q_law_40 : P Fl := (ifP (seq (args [(.sl 17), (.ex (kst (.int 5000)))] (f2 (ordD gtI))) toB) q_law_25 (thenS q_law_26
  (thenS q_law_31
  (thenS q_law_32
  (thenS q_law_34
  q_law_39)))))
def q_law_41 : P Fl := (seq (kst (.bool false)) fun rv => ret (.rt rv))
def q_law_42 : P Fl := (ifP (seq (args [(.ex (lcF [25, 13] (walk (args [(.ex (args [(.ex (kst (.int 0))), (.ex (args [(.ex (kst (.int 1)))] (f1 negD)))] mkT)), (.ex (args [(.ex (kst (.int 0))), (.ex (kst (.int 10001)))] mkT)), (.ex (args [(.ex (kst (.int 1))), (.ex (args [(.ex (kst (.int 1)))] (f1 negD)))] mkT)), (.ex (args [(.ex (kst (.int 1))), (.ex (kst (.int 10001)))] mkT))] mkL)) (tgT [25, 13]) (ret true) (callF M__law_told [.ex (shr 25), .ex (shr 7), .ex (shr 9), .ex (shr 13)]))), (.ex (args [(.ex (args [(.ex (kst (.str "range")))] mkL)), (.ex (kst (.int 4)))] (f2 mulD)))] (f2 (neD))) toB) q_law_41 (ret .nx))
def q_law_43 : P Fl := (forF (args [(.ex (kst (.int 2)))] walkR1) (putG 2) (thenS q_law_1
  (thenS q_law_2
  (thenS q_law_3
  (thenS q_law_4
  (thenS q_law_5
  (thenS q_law_7
  (thenS q_law_22
  (thenS q_law_23
  (thenS q_law_40
  q_law_42))))))))))
def q_law_44 : P Fl := (seq (args [(.ex (args [] mkT)), (.ex (args [(.ex (args [(.ex (kst (.int 1))), (.ex (kst (.int 0))), (.ex (kst (.int 1))), (.ex (kst (.int 1)))] mkT))] mkT)), (.ex (args [(.ex (args [(.ex (kst (.int 61))), (.ex (kst (.int 0))), (.ex (kst (.int 1))), (.ex (kst (.int 1)))] mkT))] mkT)), (.ex (args [(.ex (args [(.ex (kst (.int 5))), (.ex (kst (.int 5))), (.ex (kst (.int 1))), (.ex (kst (.int 1)))] mkT))] mkT)), (.ex (args [(.ex (args [(.ex (kst (.int 5))), (.ex (kst (.int 0))), (.ex (kst (.int 0))), (.ex (kst (.int 1)))] mkT))] mkT)), (.ex (args [(.ex (args [(.ex (kst (.int 5))), (.ex (kst (.int 0))), (.ex (kst (.int 5))), (.ex (kst (.int 1)))] mkT))] mkT)), (.ex (args [(.ex (args [(.ex (kst (.int 5))), (.ex (kst (.int 0))), (.ex (kst (.int 1))), (.ex (kst (.int 0)))] mkT))] mkT)), (.ex (args [(.ex (args [(.ex (kst (.int 5))), (.ex (kst (.int 0))), (.ex (kst (.int 1))), (.ex (kst (.int 61)))] mkT))] mkT))] mkL) (put 26))
def q_law_45 : P Fl := (seq (args [(.sl 26), (.ex (args [(.ex (args [(.ex (args [(.ex (kst (.int 5))), (.ex (kst (.int 0))), (.ex (kst (.int 1)))] mkT))] mkT)), (.ex (args [(.ex (args [(.ex (kst (.int 5))), (.ex (kst (.int 0))), (.ex (kst (.int 1))), (.ex (kst (.int 1)))] mkT))] mkL)), (.ex (args [(.ex (args [(.ex (args [(.ex (kst (.int 5))), (.ex (kst (.int 0))), (.ex (kst (.int 1))), (.ex (kst (.int 1)))] mkT))] mkT)), (.ex (kst (.int 7)))] (f2 mulD))), (.ex (args [(.ex (args [(.ex (kst (.int 5))), (.ex (args [(.ex (kst (.int 1)))] (f1 negD))), (.ex (kst (.int 1))), (.ex (kst (.int 1)))] mkT))] mkT)), (.ex (args [(.ex (args [(.ex (kst (.bool true))), (.ex (kst (.int 0))), (.ex (kst (.int 1))), (.ex (kst (.int 1)))] mkT))] mkT)), (.ex (kst .none))] mkL))] (f2 addD)) (put 26))
def q_law_46 : P Fl := (seq (args [(.ex (lcF [27] (walk (shr 26)) (putG 27) (seq (args [(.ex (callF M_are_gullies [.ex (shr 27)])), (.ex (kst (.bool false)))] (f2 (notD))) toB) (shr 27))), (.ex (args [] mkL))] (f2 (eqD))) fun rv => ret (.rt rv))
def m_law : P Fl := (thenS q_law_43
  (thenS q_law_44
  (thenS q_law_45
  q_law_46)))
theorem k_law {Pg : Program} {w : World} {G : GC} {mg : Str → Option Value} {base : Heap} (T : Top G mg base) (o__law_alike : Ok1 Pg w G mg base 7 "_law_alike" (top 28) ["found", "due"] 2 (M__law_alike 6)) (o__law_begins : Ok1 Pg w G mg base 3 "_law_begins" (top 33) ["gullies", "ways", "start"] 3 M__law_begins) (o__law_can : Ok1 Pg w G mg base 2 "_law_can" (top 32) ["gully", "minute"] 2 M__law_can) (o__law_gully : Ok1 Pg w G mg base 2 "_law_gully" (top 34) ["draws", "turn"] 2 M__law_gully) (o__law_round : Ok1 Pg w G mg base 1 "_law_round" (top 30) ["row"] 1 M__law_round) (o__law_says : Ok1 Pg w G mg base 1 "_law_says" (top 27) ["told", "due"] 2 M__law_says) (o__law_take : Ok1 Pg w G mg base 1 "_law_take" (top 26) ["draws", "bound"] 2 M__law_take) (o__law_told : Ok1 Pg w G mg base 5 "_law_told" (top 35) ["which", "gullies", "ways", "start"] 4 M__law_told) (o_are_gullies : Ok1 Pg w G mg base 4 "are_gullies" (top 16) ["value"] 1 M_are_gullies) (o_can_begin : Ok1 Pg w G mg base 1 "can_begin" (top 18) ["gully", "minute"] 2 M_can_begin) (E : XK) :
  SXs (defC Pg w G.K mg base N_law "law" (top 36) (He.fAd G.K ("law", none)) (He.codeOf G.K ("law", none)) 7 E) G (wE E) (defBody (top 36)).tail m_law := by
  have cx := cxs_defC (P := Pg) (w := w) (G := G) (mg := mg) (base := base) (qual := "law") (st := top 36) (f := He.fAd G.K ("law", none)) (c := He.codeOf G.K ("law", none)) (k := 7) sc_law E
  exact (sxs_cons (sx_for (fun i => owns_defC i) (fun _ => rfl) (ix_range1 (fun _ => rfl) (fun _ => T.b_range) (ax_cons (ox_ex rx_int) ax_nil (fun _ => rfl)) (fun _ => rfl)) (gx_name 2 (fun _ => sc_law.nd) (fun _ => rfl) (fun _ => (.inl rfl)) (fun _ => (.inl rfl))) (sxs_cons (sx_parT (fun _ => rfl) (fun _ => rfl) (.cons (i := 3) (fun _ => sc_law.nd) (fun _ => rfl) (fun _ => (.inr rfl)) (fun _ => (.inl rfl)) (fun _ => rfl) (.cons (i := 4) (fun _ => sc_law.nd) (fun _ => rfl) (fun _ => (.inr rfl)) (fun _ => (.inl rfl)) (fun _ => rfl) .nil)) (rxs_cons (rx_add (fun _ => rfl) (ox_ex rx_int) (ox_ex (rx_callD (cs := [.mu 1, .ex (kst (.int 6))]) cx o__law_take (by decide) ⟨by simp [mus], by simp [lns, mus]⟩ (fun _ => rfl) (ax_cons (ox_sl 1 (fun _ => rfl) (fun _ => (.inr (.inl rfl)))) (ax_cons (ox_ex rx_int) ax_nil (fun _ => rfl)) (fun _ => rfl)) (fun _ => rfl) (fun _ => rfl)))) (rxs_cons (rx_callD (cs := [.mu 1, .ex (kst (.int 4))]) cx o__law_take (by decide) ⟨by simp [mus], by simp [lns, mus]⟩ (fun _ => rfl) (ax_cons (ox_sl 1 (fun _ => rfl) (fun _ => (.inr (.inl rfl)))) (ax_cons (ox_ex rx_int) ax_nil (fun _ => rfl)) (fun _ => rfl)) (fun _ => rfl) (fun _ => rfl)) rxs_nil (fun _ => rfl)) (fun _ => rfl)) rfl (by decide) (fun _ => rfl) (fun _ => rfl) (fun _ => rfl) (fun _ => rfl) (fun _ => rfl))
  (sxs_cons (sx_set 5 (fun _ => sc_law.nd) (fun _ => rfl) (fun _ => (.inr rfl)) (rx_lc (own := [("k", 6)]) (fun _ => rfl) (fun _ => sc_law.nd) (ix_range1 (fun _ => rfl) (fun _ => T.b_range) (ax_cons (ox_sl 3 (fun _ => rfl) (fun _ => (.inr (.inl rfl)))) ax_nil (fun _ => rfl)) (fun _ => rfl)) (fun _ => (show BlkOk N_law (defScope (top 36)) _ [("k", 6)] from ⟨rfl, by decide +kernel, by decide +kernel, by decide +kernel, by decide +kernel⟩)) (gx_name 6 (fun _ => sc_law.nd) (fun _ => rfl) (fun _ => (.inl rfl)) (fun _ => (.inr rfl))) tx_nil (rx_ix (fun _ => rfl) (fun _ _ => rfl) (ox_ex (rx_list (ax_cons (ox_ex rx_int) (ax_cons (ox_ex (rx_add (fun _ => rfl) (ox_ex rx_int) (ox_ex (rx_callD (cs := [.mu 1, .ex (kst (.int 59))]) (cxs_blk cx _) o__law_take (by decide) ⟨by simp [mus], by simp [lns, mus]⟩ (fun _ => rfl) (ax_cons (ox_sl 1 (fun _ => rfl) (fun _ => (.inr (.inl rfl)))) (ax_cons (ox_ex rx_int) ax_nil (fun _ => rfl)) (fun _ => rfl)) (fun _ => rfl) (fun _ => rfl))))) (ax_cons (ox_ex (rx_ix (fun _ => rfl) (fun _ _ => rfl) (ox_ex (rx_list (ax_cons (ox_ex rx_int) (ax_cons (ox_ex rx_int) (ax_cons (ox_ex rx_int) (ax_cons (ox_ex rx_int) (ax_cons (ox_ex rx_int) ax_nil (fun _ => rfl)) (fun _ => rfl)) (fun _ => rfl)) (fun _ => rfl)) (fun _ => rfl)) trivial (by decide))) (ox_ex (rx_callD (cs := [.mu 1, .ex (kst (.int 5))]) (cxs_blk cx _) o__law_take (by decide) ⟨by simp [mus], by simp [lns, mus]⟩ (fun _ => rfl) (ax_cons (ox_sl 1 (fun _ => rfl) (fun _ => (.inr (.inl rfl)))) (ax_cons (ox_ex rx_int) ax_nil (fun _ => rfl)) (fun _ => rfl)) (fun _ => rfl) (fun _ => rfl))))) (ax_cons (ox_ex (rx_ix (fun _ => rfl) (fun _ _ => rfl) (ox_ex (rx_list (ax_cons (ox_ex rx_int) (ax_cons (ox_ex rx_int) (ax_cons (ox_ex rx_int) (ax_cons (ox_ex rx_int) (ax_cons (ox_ex rx_int) ax_nil (fun _ => rfl)) (fun _ => rfl)) (fun _ => rfl)) (fun _ => rfl)) (fun _ => rfl)) trivial (by decide))) (ox_ex (rx_callD (cs := [.mu 1, .ex (kst (.int 5))]) (cxs_blk cx _) o__law_take (by decide) ⟨by simp [mus], by simp [lns, mus]⟩ (fun _ => rfl) (ax_cons (ox_sl 1 (fun _ => rfl) (fun _ => (.inr (.inl rfl)))) (ax_cons (ox_ex rx_int) ax_nil (fun _ => rfl)) (fun _ => rfl)) (fun _ => rfl) (fun _ => rfl))))) ax_nil (fun _ => rfl)) (fun _ => rfl)) (fun _ => rfl)) (fun _ => rfl)) trivial (by decide))) (ox_sl 4 (fun _ => rfl) (fun _ => (.inr (.inl rfl))))) (fun _ _ => rfl)) (fun _ => rfl) (fun _ => (.inl rfl)))
  (sxs_cons (sx_set 7 (fun _ => sc_law.nd) (fun _ => rfl) (fun _ => (.inr rfl)) (rx_totup (fun _ => rfl) (fun _ => rfl) (fun _ => T.b_tuple) (ax_cons (ox_ex (rx_lc (own := [("turn", 8)]) (fun _ => rfl) (fun _ => sc_law.nd) (ix_walk (fun _ => rfl) (rx_shr 5 (fun _ => rfl) (fun _ => (.inr (.inl rfl))))) (fun _ => (show BlkOk N_law (defScope (top 36)) _ [("turn", 8)] from ⟨rfl, by decide +kernel, by decide +kernel, by decide +kernel, by decide +kernel⟩)) (gx_name 8 (fun _ => sc_law.nd) (fun _ => rfl) (fun _ => (.inl rfl)) (fun _ => (.inr rfl))) tx_nil (rx_callD (cs := [.mu 1, .ex (shr 8)]) (cxs_blk cx _) o__law_gully (by decide) ⟨by simp [mus], by simp [lns, mus]⟩ (fun _ => rfl) (ax_cons (ox_sl 1 (fun _ => rfl) (fun _ => (.inr (.inl rfl)))) (ax_cons (ox_ex (rx_shr 8 (fun _ => rfl) (fun _ => (.inl rfl)))) ax_nil (fun _ => rfl)) (fun _ => rfl)) (fun _ => rfl) (fun _ => rfl)) (fun _ _ => rfl))) ax_nil (fun _ => rfl)) (fun _ => rfl) (fun _ => rfl)) (fun _ => rfl) (fun _ => (.inl rfl)))
  (sxs_cons (sx_set 9 (fun _ => sc_law.nd) (fun _ => rfl) (fun _ => (.inr rfl)) (rx_totup (fun _ => rfl) (fun _ => rfl) (fun _ => T.b_tuple) (ax_cons (ox_ex (rx_lc (own := [("k", 6)]) (fun _ => rfl) (fun _ => sc_law.nd) (ix_range1 (fun _ => rfl) (fun _ => T.b_range) (ax_cons (ox_sl 3 (fun _ => rfl) (fun _ => (.inr (.inl rfl)))) ax_nil (fun _ => rfl)) (fun _ => rfl)) (fun _ => (show BlkOk N_law (defScope (top 36)) _ [("k", 6)] from ⟨rfl, by decide +kernel, by decide +kernel, by decide +kernel, by decide +kernel⟩)) (gx_name 6 (fun _ => sc_law.nd) (fun _ => rfl) (fun _ => (.inl rfl)) (fun _ => (.inr rfl))) tx_nil (rx_ix (fun _ => rfl) (fun _ _ => rfl) (ox_ex (rx_list (ax_cons (ox_ex rx_int) (ax_cons (ox_ex (rx_callD (cs := [.mu 1, .ex (kst (.int 101))]) (cxs_blk cx _) o__law_take (by decide) ⟨by simp [mus], by simp [lns, mus]⟩ (fun _ => rfl) (ax_cons (ox_sl 1 (fun _ => rfl) (fun _ => (.inr (.inl rfl)))) (ax_cons (ox_ex rx_int) ax_nil (fun _ => rfl)) (fun _ => rfl)) (fun _ => rfl) (fun _ => rfl))) (ax_cons (ox_ex (rx_callD (cs := [.mu 1, .ex (kst (.int 4))]) (cxs_blk cx _) o__law_take (by decide) ⟨by simp [mus], by simp [lns, mus]⟩ (fun _ => rfl) (ax_cons (ox_sl 1 (fun _ => rfl) (fun _ => (.inr (.inl rfl)))) (ax_cons (ox_ex rx_int) ax_nil (fun _ => rfl)) (fun _ => rfl)) (fun _ => rfl) (fun _ => rfl))) ax_nil (fun _ => rfl)) (fun _ => rfl)) (fun _ => rfl)) trivial (by decide))) (ox_ex (rx_callD (cs := [.mu 1, .ex (kst (.int 3))]) (cxs_blk cx _) o__law_take (by decide) ⟨by simp [mus], by simp [lns, mus]⟩ (fun _ => rfl) (ax_cons (ox_sl 1 (fun _ => rfl) (fun _ => (.inr (.inl rfl)))) (ax_cons (ox_ex rx_int) ax_nil (fun _ => rfl)) (fun _ => rfl)) (fun _ => rfl) (fun _ => rfl)))) (fun _ _ => rfl))) ax_nil (fun _ => rfl)) (fun _ => rfl) (fun _ => rfl)) (fun _ => rfl) (fun _ => (.inl rfl)))
  (sxs_cons (sx_set 10 (fun _ => sc_law.nd) (fun _ => rfl) (fun _ => (.inl rfl)) (rx_cmp (qx_eq (fun _ => rfl) cx.room (ox_ex (rx_lc (own := [("gully", 11)]) (fun _ => rfl) (fun _ => sc_law.nd) (ix_walk (fun _ => rfl) (rx_shr 7 (fun _ => rfl) (fun _ => (.inr (.inl rfl))))) (fun _ => (show BlkOk N_law (defScope (top 36)) _ [("gully", 11)] from ⟨rfl, by decide +kernel, by decide +kernel, by decide +kernel, by decide +kernel⟩)) (gx_name 11 (fun _ => sc_law.nd) (fun _ => rfl) (fun _ => (.inl rfl)) (fun _ => (.inr rfl))) (tx_one (bx_cmp (qx_gt (ox_ex (rx_ix (fun _ => rfl) (fun _ _ => rfl) (ox_sl 11 (fun _ => rfl) (fun _ => (.inl rfl))) (ox_ex rx_int))) (ox_ex (rx_sub (ox_ex (rx_ix (fun _ => rfl) (fun _ _ => rfl) (ox_sl 11 (fun _ => rfl) (fun _ => (.inl rfl))) (ox_ex rx_int))) (ox_ex (rx_ix (fun _ => rfl) (fun _ _ => rfl) (ox_sl 11 (fun _ => rfl) (fun _ => (.inl rfl))) (ox_ex rx_int)))))))) (rx_shr 11 (fun _ => rfl) (fun _ => (.inl rfl))) (fun _ _ => rfl))) (ox_ex (rx_list ax_nil trivial (by decide))))) (fun _ => rfl) (fun _ => (.inl rfl)))
  (sxs_cons (sx_if (bx_not (bx_tru (fun _ => rfl) (ox_ex (rx_callD (cs := [.ex (callF M_are_gullies [.ex (shr 7)]), .ex (kst (.bool true))]) cx o__law_says (by decide) ⟨by simp [mus], by simp [lns, mus]⟩ (fun _ => rfl) (ax_cons (ox_ex (rx_callD (cs := [.ex (shr 7)]) cx o_are_gullies (by decide) ⟨by simp [mus], by simp [lns, mus]⟩ (fun _ => rfl) (ax_cons (ox_ex (rx_shr 7 (fun _ => rfl) (fun _ => (.inr (.inl rfl))))) ax_nil (fun _ => rfl)) (fun _ => rfl) (fun _ => rfl))) (ax_cons (ox_ex rx_bl) ax_nil (fun _ => rfl)) (fun _ => rfl)) (fun _ => rfl) (fun _ => rfl))) (fun _ _ => rfl))) (sxs_one (sx_ret rx_bl)) sxs_nil)
  (sxs_cons (sx_for (fun i => owns_defC i) (fun _ => rfl) (ix_range1 (fun _ => rfl) (fun _ => T.b_range) (ax_cons (ox_ex rx_int) ax_nil (fun _ => rfl)) (fun _ => rfl)) (gx_name 8 (fun _ => sc_law.nd) (fun _ => rfl) (fun _ => (.inl rfl)) (fun _ => (.inl rfl))) (sxs_cons (sx_par2 11 12 (fun _ => rfl) (fun _ => sc_law.nd) (fun _ => rfl) (fun _ => rfl) (by decide) (fun _ => rfl) (fun _ => rfl) (rxs_cons (rx_ix (fun _ => rfl) (fun _ _ => rfl) (ox_sl 7 (fun _ => rfl) (fun _ => (.inr (.inl rfl)))) (ox_ex (rx_callD (cs := [.mu 1, .ex (shr 3)]) cx o__law_take (by decide) ⟨by simp [mus], by simp [lns, mus]⟩ (fun _ => rfl) (ax_cons (ox_sl 1 (fun _ => rfl) (fun _ => (.inr (.inl rfl)))) (ax_cons (ox_ex (rx_shr 3 (fun _ => rfl) (fun _ => (.inr (.inl rfl))))) ax_nil (fun _ => rfl)) (fun _ => rfl)) (fun _ => rfl) (fun _ => rfl)))) (rxs_cons (rx_callD (cs := [.mu 1, .ex (kst (.int 300))]) cx o__law_take (by decide) ⟨by simp [mus], by simp [lns, mus]⟩ (fun _ => rfl) (ax_cons (ox_sl 1 (fun _ => rfl) (fun _ => (.inr (.inl rfl)))) (ax_cons (ox_ex rx_int) ax_nil (fun _ => rfl)) (fun _ => rfl)) (fun _ => rfl) (fun _ => rfl)) rxs_nil (fun _ => rfl)) (fun _ => rfl)) (fun _ => rfl) (fun _ => rfl))
  (sxs_cons (sx_if (bx_not (bx_tru (fun _ => rfl) (ox_ex (rx_callD (cs := [.ex (callF M_can_begin [.ex (shr 11), .ex (shr 12)]), .ex (callF M__law_can [.ex (shr 11), .ex (shr 12)])]) cx o__law_says (by decide) ⟨by simp [mus], by simp [lns, mus]⟩ (fun _ => rfl) (ax_cons (ox_ex (rx_callD (cs := [.ex (shr 11), .ex (shr 12)]) cx o_can_begin (by decide) ⟨by simp [mus], by simp [lns, mus]⟩ (fun _ => rfl) (ax_cons (ox_ex (rx_shr 11 (fun _ => rfl) (fun _ => (.inl rfl)))) (ax_cons (ox_ex (rx_shr 12 (fun _ => rfl) (fun _ => (.inl rfl)))) ax_nil (fun _ => rfl)) (fun _ => rfl)) (fun _ => rfl) (fun _ => rfl))) (ax_cons (ox_ex (rx_callD (cs := [.ex (shr 11), .ex (shr 12)]) cx o__law_can (by decide) ⟨by simp [mus], by simp [lns, mus]⟩ (fun _ => rfl) (ax_cons (ox_ex (rx_shr 11 (fun _ => rfl) (fun _ => (.inl rfl)))) (ax_cons (ox_ex (rx_shr 12 (fun _ => rfl) (fun _ => (.inl rfl)))) ax_nil (fun _ => rfl)) (fun _ => rfl)) (fun _ => rfl) (fun _ => rfl))) ax_nil (fun _ => rfl)) (fun _ => rfl)) (fun _ => rfl) (fun _ => rfl))) (fun _ _ => rfl))) (sxs_one (sx_ret rx_bl)) sxs_nil)
  (sxs_cons (sx_set 13 (fun _ => sc_law.nd) (fun _ => rfl) (fun _ => (.inl rfl)) (rx_ix (fun _ => rfl) (fun _ _ => rfl) (ox_ex (rx_list (ax_cons (ox_ex (rx_callD (cs := [.mu 1, .ex (kst (.int 200))]) cx o__law_take (by decide) ⟨by simp [mus], by simp [lns, mus]⟩ (fun _ => rfl) (ax_cons (ox_sl 1 (fun _ => rfl) (fun _ => (.inr (.inl rfl)))) (ax_cons (ox_ex rx_int) ax_nil (fun _ => rfl)) (fun _ => rfl)) (fun _ => rfl) (fun _ => rfl))) (ax_cons (ox_ex (rx_callD (cs := [.mu 1, .ex (kst (.int 10001))]) cx o__law_take (by decide) ⟨by simp [mus], by simp [lns, mus]⟩ (fun _ => rfl) (ax_cons (ox_sl 1 (fun _ => rfl) (fun _ => (.inr (.inl rfl)))) (ax_cons (ox_ex rx_int) ax_nil (fun _ => rfl)) (fun _ => rfl)) (fun _ => rfl) (fun _ => rfl))) (ax_cons (ox_ex rx_int) (ax_cons (ox_ex rx_int) ax_nil (fun _ => rfl)) (fun _ => rfl)) (fun _ => rfl)) (fun _ => rfl)) trivial (by decide))) (ox_ex (rx_callD (cs := [.mu 1, .ex (kst (.int 4))]) cx o__law_take (by decide) ⟨by simp [mus], by simp [lns, mus]⟩ (fun _ => rfl) (ax_cons (ox_sl 1 (fun _ => rfl) (fun _ => (.inr (.inl rfl)))) (ax_cons (ox_ex rx_int) ax_nil (fun _ => rfl)) (fun _ => rfl)) (fun _ => rfl) (fun _ => rfl)))) (fun _ => rfl) (fun _ => (.inl rfl)))
  (sxs_cons (sx_set 14 (fun _ => sc_law.nd) (fun _ => rfl) (fun _ => (.inr rfl)) (rx_if (bx_tru (fun _ => rfl) (ox_sl 10 (fun _ => rfl) (fun _ => (.inl rfl))) (fun _ _ => rfl)) (rx_callD (cs := [.ex (shr 7), .ex (shr 9), .ex (shr 13)]) cx o__law_begins (by decide) ⟨by simp [mus], by simp [lns, mus]⟩ (fun _ => rfl) (ax_cons (ox_ex (rx_shr 7 (fun _ => rfl) (fun _ => (.inr (.inl rfl))))) (ax_cons (ox_ex (rx_shr 9 (fun _ => rfl) (fun _ => (.inr (.inl rfl))))) (ax_cons (ox_ex (rx_shr 13 (fun _ => rfl) (fun _ => (.inl rfl)))) ax_nil (fun _ => rfl)) (fun _ => rfl)) (fun _ => rfl)) (fun _ => rfl) (fun _ => rfl)) rx_non) (fun _ => rfl) (fun _ => (.inl rfl)))
  (sxs_cons (sx_if (bx_w (wx_and (bx_tru (fun _ => rfl) (ox_sl 10 (fun _ => rfl) (fun _ => (.inl rfl))) (fun _ _ => rfl)) (wx_and1 (bx_cmp (qx_is (ox_sl 14 (fun _ => rfl) (fun _ => (.inr (.inl rfl)))) (ox_ex rx_non)))))) (sxs_one (sx_ret rx_bl)) sxs_nil)
  (sxs_cons (sx_set 15 (fun _ => sc_law.nd) (fun _ => rfl) (fun _ => (.inl rfl)) (rx_if (bx_cmp (qx_is (ox_sl 14 (fun _ => rfl) (fun _ => (.inr (.inl rfl)))) (ox_ex rx_non))) (rx_list (ax_cons (ox_ex rx_non) (ax_cons (ox_ex rx_non) ax_nil (fun _ => rfl)) (fun _ => rfl)) trivial (by decide)) (rx_list (ax_cons (ox_ex (rx_totup (fun _ => rfl) (fun _ => rfl) (fun _ => T.b_tuple) (ax_cons (ox_sl 14 (fun _ => rfl) (fun _ => (.inr (.inl rfl)))) ax_nil (fun _ => rfl)) (fun _ => rfl) (fun _ => rfl))) (ax_cons (ox_ex (rx_add (fun _ => rfl) (ox_ex (rx_ix (fun _ => rfl) (fun _ _ => rfl) (ox_sl 14 (fun _ => rfl) (fun _ => (.inr (.inl rfl)))) (ox_ex (rx_neg (ox_ex rx_int))))) (ox_ex (rx_ix (fun _ => rfl) (fun _ _ => rfl) (ox_ex (rx_ix (fun _ => rfl) (fun _ _ => rfl) (ox_sl 7 (fun _ => rfl) (fun _ => (.inr (.inl rfl)))) (ox_ex (rx_neg (ox_ex rx_int))))) (ox_ex rx_int))))) ax_nil (fun _ => rfl)) (fun _ => rfl)) trivial (by decide))) (fun _ => rfl) (fun _ => (.inl rfl)))
  (sxs_cons (sx_if (bx_not (bx_tru (fun _ => rfl) (ox_ex (rx_callD (cs := [.ex (args [(.ex (callF M__law_told [.ex (kst (.int 0)), .ex (shr 7), .ex (shr 9), .ex (shr 13)])), (.ex (callF M__law_told [.ex (kst (.int 1)), .ex (shr 7), .ex (shr 9), .ex (shr 13)]))] mkL), .ex (shr 15)]) cx o__law_alike (by decide) ⟨by simp [mus], by simp [lns, mus]⟩ (fun _ => rfl) (ax_cons (ox_ex (rx_list (ax_cons (ox_ex (rx_callD (cs := [.ex (kst (.int 0)), .ex (shr 7), .ex (shr 9), .ex (shr 13)]) cx o__law_told (by decide) ⟨by simp [mus], by simp [lns, mus]⟩ (fun _ => rfl) (ax_cons (ox_ex rx_int) (ax_cons (ox_ex (rx_shr 7 (fun _ => rfl) (fun _ => (.inr (.inl rfl))))) (ax_cons (ox_ex (rx_shr 9 (fun _ => rfl) (fun _ => (.inr (.inl rfl))))) (ax_cons (ox_ex (rx_shr 13 (fun _ => rfl) (fun _ => (.inl rfl)))) ax_nil (fun _ => rfl)) (fun _ => rfl)) (fun _ => rfl)) (fun _ => rfl)) (fun _ => rfl) (fun _ => rfl))) (ax_cons (ox_ex (rx_callD (cs := [.ex (kst (.int 1)), .ex (shr 7), .ex (shr 9), .ex (shr 13)]) cx o__law_told (by decide) ⟨by simp [mus], by simp [lns, mus]⟩ (fun _ => rfl) (ax_cons (ox_ex rx_int) (ax_cons (ox_ex (rx_shr 7 (fun _ => rfl) (fun _ => (.inr (.inl rfl))))) (ax_cons (ox_ex (rx_shr 9 (fun _ => rfl) (fun _ => (.inr (.inl rfl))))) (ax_cons (ox_ex (rx_shr 13 (fun _ => rfl) (fun _ => (.inl rfl)))) ax_nil (fun _ => rfl)) (fun _ => rfl)) (fun _ => rfl)) (fun _ => rfl)) (fun _ => rfl) (fun _ => rfl))) ax_nil (fun _ => rfl)) (fun _ => rfl)) trivial (by decide))) (ax_cons (ox_ex (rx_shr 15 (fun _ => rfl) (fun _ => (.inl rfl)))) ax_nil (fun _ => rfl)) (fun _ => rfl)) (fun _ => rfl) (fun _ => rfl))) (fun _ _ => rfl))) (sxs_one (sx_ret rx_bl)) sxs_nil)
  (sxs_one (sx_if (bx_w (wx_and (bx_cmp (qx_isnot (ox_sl 14 (fun _ => rfl) (fun _ => (.inr (.inl rfl)))) (ox_ex rx_non))) (wx_and1 (bx_cmp (qx_lt (ox_sl 13 (fun _ => rfl) (fun _ => (.inl rfl))) (ox_ex rx_int)))))) (sxs_cons (sx_set 16 (fun _ => sc_law.nd) (fun _ => rfl) (fun _ => (.inr rfl)) (rx_callD (cs := [.ex (kst (.int 0)), .ex (shr 7), .ex (shr 9), .ex (args [(.sl 13), (.ex (kst (.int 1)))] (f2 addD))]) cx o__law_told (by decide) ⟨by simp [mus], by simp [lns, mus]⟩ (fun _ => rfl) (ax_cons (ox_ex rx_int) (ax_cons (ox_ex (rx_shr 7 (fun _ => rfl) (fun _ => (.inr (.inl rfl))))) (ax_cons (ox_ex (rx_shr 9 (fun _ => rfl) (fun _ => (.inr (.inl rfl))))) (ax_cons (ox_ex (rx_add (fun _ => rfl) (ox_sl 13 (fun _ => rfl) (fun _ => (.inl rfl))) (ox_ex rx_int))) ax_nil (fun _ => rfl)) (fun _ => rfl)) (fun _ => rfl)) (fun _ => rfl)) (fun _ => rfl) (fun _ => rfl)) (fun _ => rfl) (fun _ => (.inl rfl)))
  (sxs_one (sx_if (bx_w (wx_or (bx_not (bx_tru (fun _ => rfl) (ox_ex (rx_isi .tuple (fun _ => rfl) rfl (fun _ => rfl) (fun _ => T.b_isinstance) (fun _ => rfl) (fun _ => T.b_tuple) (ox_sl 16 (fun _ => rfl) (fun _ => (.inr (.inl rfl)))) (by decide) (by decide) (fun _ => rfl) (fun _ => rfl) (fun _ => rfl))) (fun _ _ => rfl))) (wx_or1 (bx_cmp (qx_ne (fun _ => rfl) cx.room (ox_ex (rx_lc (own := [("k", 6)]) (fun _ => rfl) (fun _ => sc_law.nd) (ix_range1 (fun _ => rfl) (fun _ => T.b_range) (ax_cons (ox_sl 3 (fun _ => rfl) (fun _ => (.inr (.inl rfl)))) ax_nil (fun _ => rfl)) (fun _ => rfl)) (fun _ => (show BlkOk N_law (defScope (top 36)) _ [("k", 6)] from ⟨rfl, by decide +kernel, by decide +kernel, by decide +kernel, by decide +kernel⟩)) (gx_name 6 (fun _ => sc_law.nd) (fun _ => rfl) (fun _ => (.inl rfl)) (fun _ => (.inr rfl))) (tx_one (bx_cmp (qx_lt (ox_ex (rx_ix (fun _ => rfl) (fun _ _ => rfl) (ox_sl 16 (fun _ => rfl) (fun _ => (.inr (.inl rfl)))) (ox_sl 6 (fun _ => rfl) (fun _ => (.inl rfl))))) (ox_ex (rx_ix (fun _ => rfl) (fun _ _ => rfl) (ox_sl 14 (fun _ => rfl) (fun _ => (.inr (.inl rfl)))) (ox_sl 6 (fun _ => rfl) (fun _ => (.inl rfl)))))))) (rx_shr 6 (fun _ => rfl) (fun _ => (.inl rfl))) (fun _ _ => rfl))) (ox_ex (rx_list ax_nil trivial (by decide)))))))) (sxs_one (sx_ret rx_bl)) sxs_nil))) sxs_nil))))))))) (fun _ _ => rfl))
  (sxs_cons (sx_par2 17 18 (fun _ => rfl) (fun _ => sc_law.nd) (fun _ => rfl) (fun _ => rfl) (by decide) (fun _ => rfl) (fun _ => rfl) (rxs_cons (rx_callD (cs := [.ex (shr 5)]) cx o__law_round (by decide) ⟨by simp [mus], by simp [lns, mus]⟩ (fun _ => rfl) (ax_cons (ox_ex (rx_shr 5 (fun _ => rfl) (fun _ => (.inr (.inl rfl))))) ax_nil (fun _ => rfl)) (fun _ => rfl) (fun _ => rfl)) (rxs_cons (rx_callD (cs := [.ex (kst (.int 2)), .ex (shr 7), .ex (shr 9), .ex (kst (.int 0))]) cx o__law_told (by decide) ⟨by simp [mus], by simp [lns, mus]⟩ (fun _ => rfl) (ax_cons (ox_ex rx_int) (ax_cons (ox_ex (rx_shr 7 (fun _ => rfl) (fun _ => (.inr (.inl rfl))))) (ax_cons (ox_ex (rx_shr 9 (fun _ => rfl) (fun _ => (.inr (.inl rfl))))) (ax_cons (ox_ex rx_int) ax_nil (fun _ => rfl)) (fun _ => rfl)) (fun _ => rfl)) (fun _ => rfl)) (fun _ => rfl) (fun _ => rfl)) rxs_nil (fun _ => rfl)) (fun _ => rfl)) (fun _ => rfl) (fun _ => rfl))
  (sxs_cons (sx_if (bx_cmp (qx_gt (ox_sl 17 (fun _ => rfl) (fun _ => (.inl rfl))) (ox_ex rx_int))) (sxs_one (sx_if (bx_cmp (qx_ne (fun _ => rfl) cx.room (ox_sl 18 (fun _ => rfl) (fun _ => (.inl rfl))) (ox_ex rx_str))) (sxs_one (sx_ret rx_bl)) sxs_nil)) (sxs_cons (sx_parT (fun _ => rfl) (fun _ => rfl) (.cons (i := 19) (fun _ => sc_law.nd) (fun _ => rfl) (fun _ => (.inr rfl)) (fun _ => (.inl rfl)) (fun _ => rfl) (.cons (i := 20) (fun _ => sc_law.nd) (fun _ => rfl) (fun _ => (.inr rfl)) (fun _ => (.inl rfl)) (fun _ => rfl) (.cons (i := 21) (fun _ => sc_law.nd) (fun _ => rfl) (fun _ => (.inr rfl)) (fun _ => (.inl rfl)) (fun _ => rfl) .nil))) (rxs_cons (rx_list ax_nil trivial (by decide)) (rxs_cons (rx_list ax_nil trivial (by decide)) (rxs_cons rx_int rxs_nil (fun _ => rfl)) (fun _ => rfl)) (fun _ => rfl)) rfl (by decide) (fun _ => rfl) (fun _ => rfl) (fun _ => rfl) (fun _ => rfl) (fun _ => rfl))
  (sxs_cons (sx_for (fun i => owns_defC i) (fun _ => rfl) (ix_range1 (fun _ => rfl) (fun _ => T.b_range) (ax_cons (ox_sl 3 (fun _ => rfl) (fun _ => (.inr (.inl rfl)))) ax_nil (fun _ => rfl)) (fun _ => rfl)) (gx_name 6 (fun _ => sc_law.nd) (fun _ => rfl) (fun _ => (.inr rfl)) (fun _ => (.inl rfl))) (sxs_cons (sx_expr (rx_mut 19 (fun i => u65 (cx.room i)) (fun _ => rfl) mth_append mu_append (fun _ => rfl) (fun _ => (.inr (.inl rfl))) (ax_cons (ox_ex (rx_lc (own := [("minute", 12)]) (fun _ => rfl) (fun _ => sc_law.nd) (ix_range1 (fun _ => rfl) (fun _ => T.b_range) (ax_cons (ox_ex (rx_ix (fun _ => rfl) (fun _ _ => rfl) (ox_ex (rx_ix (fun _ => rfl) (fun _ _ => rfl) (ox_sl 7 (fun _ => rfl) (fun _ => (.inr (.inl rfl)))) (ox_sl 6 (fun _ => rfl) (fun _ => (.inr (.inl rfl)))))) (ox_ex rx_int))) ax_nil (fun _ => rfl)) (fun _ => rfl)) (fun _ => (show BlkOk N_law (defScope (top 36)) _ [("minute", 12)] from ⟨rfl, by decide +kernel, by decide +kernel, by decide +kernel, by decide +kernel⟩)) (gx_name 12 (fun _ => sc_law.nd) (fun _ => rfl) (fun _ => (.inl rfl)) (fun _ => (.inr rfl))) tx_nil (rx_callD (cs := [.ex (args [(.sl 7), (.sl 6)] (f2 ixD)), .ex (shr 12)]) (cxs_blk cx _) o__law_can (by decide) ⟨by simp [mus], by simp [lns, mus]⟩ (fun _ => rfl) (ax_cons (ox_ex (rx_ix (fun _ => rfl) (fun _ _ => rfl) (ox_sl 7 (fun _ => rfl) (fun _ => (.inr (.inl rfl)))) (ox_sl 6 (fun _ => rfl) (fun _ => (.inr (.inl rfl)))))) (ax_cons (ox_ex (rx_shr 12 (fun _ => rfl) (fun _ => (.inl rfl)))) ax_nil (fun _ => rfl)) (fun _ => rfl)) (fun _ => rfl) (fun _ => rfl)) (fun _ _ => rfl))) ax_nil (fun _ => rfl)) trivial (fun _ => rfl) (fun _ => rfl) rfl (fun _ => rfl) (fun _ => rfl)) (fun _ => rfl))
  (sxs_cons (sx_set 21 (fun _ => sc_law.nd) (fun _ => rfl) (fun _ => (.inr rfl)) (rx_add (fun _ => rfl) (ox_sl 21 (fun _ => rfl) (fun _ => (.inr (.inl rfl)))) (ox_ex (rx_ix (fun _ => rfl) (fun _ _ => rfl) (ox_sl 9 (fun _ => rfl) (fun _ => (.inr (.inl rfl)))) (ox_sl 6 (fun _ => rfl) (fun _ => (.inr (.inl rfl))))))) (fun _ => rfl) (fun _ => (.inl rfl)))
  (sxs_cons (sx_expr (rx_mut 20 (fun i => u65 (cx.room i)) (fun _ => rfl) mth_append mu_append (fun _ => rfl) (fun _ => (.inr (.inl rfl))) (ax_cons (ox_ex (rx_shr 21 (fun _ => rfl) (fun _ => (.inr (.inl rfl))))) ax_nil (fun _ => rfl)) trivial (fun _ => rfl) (fun _ => rfl) rfl (fun _ => rfl) (fun _ => rfl)) (fun _ => rfl))
  (sxs_one (sx_set 21 (fun _ => sc_law.nd) (fun _ => rfl) (fun _ => (.inr rfl)) (rx_add (fun _ => rfl) (ox_sl 21 (fun _ => rfl) (fun _ => (.inr (.inl rfl)))) (ox_ex (rx_ix (fun _ => rfl) (fun _ _ => rfl) (ox_ex (rx_ix (fun _ => rfl) (fun _ _ => rfl) (ox_sl 7 (fun _ => rfl) (fun _ => (.inr (.inl rfl)))) (ox_sl 6 (fun _ => rfl) (fun _ => (.inr (.inl rfl)))))) (ox_ex rx_int)))) (fun _ => rfl) (fun _ => (.inl rfl))))))) (fun _ _ => rfl))
  (sxs_cons (sx_setLc 22 (own := [("start", 13)]) (fun _ => rfl) (fun _ => sc_law.nd) (fun _ => rfl) (fun _ => rfl) (fun _ => rfl) (ix_range1 (fun _ => rfl) (fun _ => T.b_range) (ax_cons (ox_sl 17 (fun _ => rfl) (fun _ => (.inl rfl))) ax_nil (fun _ => rfl)) (fun _ => rfl)) (fun _ => (show BlkOk N_law (defScope (top 36)) _ [("start", 13)] from ⟨rfl, by decide +kernel, by decide +kernel, by decide +kernel, by decide +kernel⟩)) (gx_name 13 (fun _ => sc_law.nd) (fun _ => rfl) (fun _ => (.inr rfl)) (fun _ => (.inl rfl))) (tx_one (bx_cmp (qx_eq (fun _ => rfl) (cxs_blk cx _).room (ox_ex (rx_lc (own := [("k", 6)]) (fun _ => rfl) (fun _ => sc_law.nd) (ix_range1 (fun _ => rfl) (fun _ => T.b_range) (ax_cons (ox_sl 3 (fun _ => rfl) (fun _ => (.inr (.inl rfl)))) ax_nil (fun _ => rfl)) (fun _ => rfl)) (fun _ => (show BlkOk N_law (relS _ (defScope (top 36))) _ [("k", 6)] from ⟨rfl, by decide +kernel, by decide +kernel, by decide +kernel, by decide +kernel⟩)) (gx_name 6 (fun _ => sc_law.nd) (fun _ => rfl) (fun _ => (.inl rfl)) (fun _ => (.inr rfl))) (tx_one (bx_not (bx_tru (fun _ => rfl) (ox_ex (rx_ix (fun _ => rfl) (fun _ _ => rfl) (ox_ex (rx_ix (fun _ => rfl) (fun _ _ => rfl) (ox_sl 19 (fun _ => rfl) (fun _ => (.inr (.inl rfl)))) (ox_sl 6 (fun _ => rfl) (fun _ => (.inl rfl))))) (ox_ex (rx_mod (ox_ex (rx_toint (fun _ => rfl) (fun _ => T.b_int) (ax_cons (ox_ex (rx_add (fun _ => rfl) (ox_sl 13 (fun _ => rfl) (fun _ => (.inr (.inl rfl)))) (ox_ex (rx_ix (fun _ => rfl) (fun _ _ => rfl) (ox_sl 20 (fun _ => rfl) (fun _ => (.inr (.inl rfl)))) (ox_sl 6 (fun _ => rfl) (fun _ => (.inl rfl))))))) ax_nil (fun _ => rfl)) (fun _ => rfl) (fun _ => rfl))) (ox_ex (rx_ix (fun _ => rfl) (fun _ _ => rfl) (ox_sl 5 (fun _ => rfl) (fun _ => (.inr (.inl rfl)))) (ox_sl 6 (fun _ => rfl) (fun _ => (.inl rfl))))))))) (fun _ _ => rfl)))) (rx_shr 6 (fun _ => rfl) (fun _ => (.inl rfl))) (fun _ _ => rfl))) (ox_ex (rx_list ax_nil trivial (by decide)))))) (rx_shr 13 (fun _ => rfl) (fun _ => (.inr (.inl rfl)))) (fun _ _ => rfl))
  (sxs_cons (sx_if (bx_not (bx_tru (fun _ => rfl) (ox_ex (rx_callD (cs := [.ex (shr 18), .ex (args [(.sl 22)] (f1 tupD))]) cx o__law_alike (by decide) ⟨by simp [mus], by simp [lns, mus]⟩ (fun _ => rfl) (ax_cons (ox_ex (rx_shr 18 (fun _ => rfl) (fun _ => (.inl rfl)))) (ax_cons (ox_ex (rx_totup (fun _ => rfl) (fun _ => rfl) (fun _ => T.b_tuple) (ax_cons (ox_sl 22 (fun _ => rfl) (fun _ => (.inl rfl))) ax_nil (fun _ => rfl)) (fun _ => rfl) (fun _ => rfl))) ax_nil (fun _ => rfl)) (fun _ => rfl)) (fun _ => rfl) (fun _ => rfl))) (fun _ _ => rfl))) (sxs_one (sx_ret rx_bl)) sxs_nil)
  (sxs_one (sx_if (bx_cmp (qx_gt (ox_ex (rx_len (fun _ => rfl) (fun _ => rfl) (fun _ => T.b_len) (ax_cons (ox_sl 22 (fun _ => rfl) (fun _ => (.inl rfl))) ax_nil (fun _ => rfl)) (fun _ => rfl) (fun _ => rfl))) (ox_ex rx_int))) (sxs_cons (sx_par2 23 24 (fun _ => rfl) (fun _ => sc_law.nd) (fun _ => rfl) (fun _ => rfl) (by decide) (fun _ => rfl) (fun _ => rfl) (rxs_cons (rx_ix (fun _ => rfl) (fun _ _ => rfl) (ox_sl 22 (fun _ => rfl) (fun _ => (.inl rfl))) (ox_ex (rx_callD (cs := [.mu 1, .ex (args [(.sl 22)] (f1 lenD))]) cx o__law_take (by decide) ⟨by simp [mus], by simp [lns, mus]⟩ (fun _ => rfl) (ax_cons (ox_sl 1 (fun _ => rfl) (fun _ => (.inr (.inl rfl)))) (ax_cons (ox_ex (rx_len (fun _ => rfl) (fun _ => rfl) (fun _ => T.b_len) (ax_cons (ox_sl 22 (fun _ => rfl) (fun _ => (.inl rfl))) ax_nil (fun _ => rfl)) (fun _ => rfl) (fun _ => rfl))) ax_nil (fun _ => rfl)) (fun _ => rfl)) (fun _ => rfl) (fun _ => rfl)))) (rxs_cons (rx_ix (fun _ => rfl) (fun _ _ => rfl) (ox_sl 22 (fun _ => rfl) (fun _ => (.inl rfl))) (ox_ex (rx_callD (cs := [.mu 1, .ex (args [(.sl 22)] (f1 lenD))]) cx o__law_take (by decide) ⟨by simp [mus], by simp [lns, mus]⟩ (fun _ => rfl) (ax_cons (ox_sl 1 (fun _ => rfl) (fun _ => (.inr (.inl rfl)))) (ax_cons (ox_ex (rx_len (fun _ => rfl) (fun _ => rfl) (fun _ => T.b_len) (ax_cons (ox_sl 22 (fun _ => rfl) (fun _ => (.inl rfl))) ax_nil (fun _ => rfl)) (fun _ => rfl) (fun _ => rfl))) ax_nil (fun _ => rfl)) (fun _ => rfl)) (fun _ => rfl) (fun _ => rfl)))) rxs_nil (fun _ => rfl)) (fun _ => rfl)) (fun _ => rfl) (fun _ => rfl))
  (sxs_cons (sx_setLc 18 (own := [("start", 13)]) (fun _ => rfl) (fun _ => sc_law.nd) (fun _ => rfl) (fun _ => rfl) (fun _ => rfl) (ix_walk (fun _ => rfl) (rx_list (ax_cons (ox_ex (rx_shr 23 (fun _ => rfl) (fun _ => (.inl rfl)))) (ax_cons (ox_ex (rx_shr 24 (fun _ => rfl) (fun _ => (.inl rfl)))) (ax_cons (ox_ex (rx_add (fun _ => rfl) (ox_sl 23 (fun _ => rfl) (fun _ => (.inl rfl))) (ox_sl 17 (fun _ => rfl) (fun _ => (.inl rfl))))) ax_nil (fun _ => rfl)) (fun _ => rfl)) (fun _ => rfl)) trivial (by decide))) (fun _ => (show BlkOk N_law (defScope (top 36)) _ [("start", 13)] from ⟨rfl, by decide +kernel, by decide +kernel, by decide +kernel, by decide +kernel⟩)) (gx_name 13 (fun _ => sc_law.nd) (fun _ => rfl) (fun _ => (.inl rfl)) (fun _ => (.inr rfl))) tx_nil (rx_callD (cs := [.ex (kst (.int 1)), .ex (shr 7), .ex (shr 9), .ex (shr 13)]) (cxs_blk cx _) o__law_told (by decide) ⟨by simp [mus], by simp [lns, mus]⟩ (fun _ => rfl) (ax_cons (ox_ex rx_int) (ax_cons (ox_ex (rx_shr 7 (fun _ => rfl) (fun _ => (.inr (.inl rfl))))) (ax_cons (ox_ex (rx_shr 9 (fun _ => rfl) (fun _ => (.inr (.inl rfl))))) (ax_cons (ox_ex (rx_shr 13 (fun _ => rfl) (fun _ => (.inl rfl)))) ax_nil (fun _ => rfl)) (fun _ => rfl)) (fun _ => rfl)) (fun _ => rfl)) (fun _ => rfl) (fun _ => rfl)) (fun _ _ => rfl))
  (sxs_one (sx_if (bx_cmp (qx_ne (fun _ => rfl) cx.room (ox_sl 18 (fun _ => rfl) (fun _ => (.inl rfl))) (ox_ex (rx_lc (own := [("start", 13)]) (fun _ => rfl) (fun _ => sc_law.nd) (ix_walk (fun _ => rfl) (rx_list (ax_cons (ox_ex (rx_shr 23 (fun _ => rfl) (fun _ => (.inl rfl)))) (ax_cons (ox_ex (rx_shr 24 (fun _ => rfl) (fun _ => (.inl rfl)))) (ax_cons (ox_ex (rx_add (fun _ => rfl) (ox_sl 23 (fun _ => rfl) (fun _ => (.inl rfl))) (ox_sl 17 (fun _ => rfl) (fun _ => (.inl rfl))))) ax_nil (fun _ => rfl)) (fun _ => rfl)) (fun _ => rfl)) trivial (by decide))) (fun _ => (show BlkOk N_law (defScope (top 36)) _ [("start", 13)] from ⟨rfl, by decide +kernel, by decide +kernel, by decide +kernel, by decide +kernel⟩)) (gx_name 13 (fun _ => sc_law.nd) (fun _ => rfl) (fun _ => (.inl rfl)) (fun _ => (.inr rfl))) tx_nil (rx_add (fun _ => rfl) (ox_sl 13 (fun _ => rfl) (fun _ => (.inl rfl))) (ox_sl 21 (fun _ => rfl) (fun _ => (.inr (.inl rfl))))) (fun _ _ => rfl))))) (sxs_one (sx_ret rx_bl)) sxs_nil)))) sxs_nil)))))))
  (sxs_one (sx_if (bx_cmp (qx_ne (fun _ => rfl) cx.room (ox_ex (rx_lc (own := [("which", 25), ("start", 13)]) (fun _ => rfl) (fun _ => sc_law.nd) (ix_walk (fun _ => rfl) (rx_list (ax_cons (ox_ex (rx_tup (ax_cons (ox_ex rx_int) (ax_cons (ox_ex (rx_neg (ox_ex rx_int))) ax_nil (fun _ => rfl)) (fun _ => rfl)) trivial (by decide))) (ax_cons (ox_ex (rx_tup (ax_cons (ox_ex rx_int) (ax_cons (ox_ex rx_int) ax_nil (fun _ => rfl)) (fun _ => rfl)) trivial (by decide))) (ax_cons (ox_ex (rx_tup (ax_cons (ox_ex rx_int) (ax_cons (ox_ex (rx_neg (ox_ex rx_int))) ax_nil (fun _ => rfl)) (fun _ => rfl)) trivial (by decide))) (ax_cons (ox_ex (rx_tup (ax_cons (ox_ex rx_int) (ax_cons (ox_ex rx_int) ax_nil (fun _ => rfl)) (fun _ => rfl)) trivial (by decide))) ax_nil (fun _ => rfl)) (fun _ => rfl)) (fun _ => rfl)) (fun _ => rfl)) trivial (by decide))) (fun _ => (show BlkOk N_law (defScope (top 36)) _ [("which", 25), ("start", 13)] from ⟨rfl, by decide +kernel, by decide +kernel, by decide +kernel, by decide +kernel⟩)) (gx_tup (fun _ => rfl) (fun _ => rfl) (.cons (i := 25) (fun _ => sc_law.nd) (fun _ => rfl) (fun _ => (.inl rfl)) (fun _ => (.inr rfl)) (fun _ => rfl) (.cons (i := 13) (fun _ => sc_law.nd) (fun _ => rfl) (fun _ => (.inl rfl)) (fun _ => (.inr rfl)) (fun _ => rfl) .nil)) (fun _ => rfl) (fun _ => rfl)) tx_nil (rx_callD (cs := [.ex (shr 25), .ex (shr 7), .ex (shr 9), .ex (shr 13)]) (cxs_blk cx _) o__law_told (by decide) ⟨by simp [mus], by simp [lns, mus]⟩ (fun _ => rfl) (ax_cons (ox_ex (rx_shr 25 (fun _ => rfl) (fun _ => (.inl rfl)))) (ax_cons (ox_ex (rx_shr 7 (fun _ => rfl) (fun _ => (.inr (.inl rfl))))) (ax_cons (ox_ex (rx_shr 9 (fun _ => rfl) (fun _ => (.inr (.inl rfl))))) (ax_cons (ox_ex (rx_shr 13 (fun _ => rfl) (fun _ => (.inl rfl)))) ax_nil (fun _ => rfl)) (fun _ => rfl)) (fun _ => rfl)) (fun _ => rfl)) (fun _ => rfl) (fun _ => rfl)) (fun _ _ => rfl))) (ox_ex (rx_mul (fun _ => rfl) (ox_ex (rx_list (ax_cons (ox_ex rx_str) ax_nil (fun _ => rfl)) trivial (by decide))) (ox_ex rx_int))))) (sxs_one (sx_ret rx_bl)) sxs_nil))))))))))) (fun _ _ => rfl))
  (sxs_cons (sx_set 26 (fun _ => sc_law.nd) (fun _ => rfl) (fun _ => (.inl rfl)) (rx_list (ax_cons (ox_ex (rx_tup ax_nil trivial (by decide))) (ax_cons (ox_ex (rx_tup (ax_cons (ox_ex (rx_tup (ax_cons (ox_ex rx_int) (ax_cons (ox_ex rx_int) (ax_cons (ox_ex rx_int) (ax_cons (ox_ex rx_int) ax_nil (fun _ => rfl)) (fun _ => rfl)) (fun _ => rfl)) (fun _ => rfl)) trivial (by decide))) ax_nil (fun _ => rfl)) trivial (by decide))) (ax_cons (ox_ex (rx_tup (ax_cons (ox_ex (rx_tup (ax_cons (ox_ex rx_int) (ax_cons (ox_ex rx_int) (ax_cons (ox_ex rx_int) (ax_cons (ox_ex rx_int) ax_nil (fun _ => rfl)) (fun _ => rfl)) (fun _ => rfl)) (fun _ => rfl)) trivial (by decide))) ax_nil (fun _ => rfl)) trivial (by decide))) (ax_cons (ox_ex (rx_tup (ax_cons (ox_ex (rx_tup (ax_cons (ox_ex rx_int) (ax_cons (ox_ex rx_int) (ax_cons (ox_ex rx_int) (ax_cons (ox_ex rx_int) ax_nil (fun _ => rfl)) (fun _ => rfl)) (fun _ => rfl)) (fun _ => rfl)) trivial (by decide))) ax_nil (fun _ => rfl)) trivial (by decide))) (ax_cons (ox_ex (rx_tup (ax_cons (ox_ex (rx_tup (ax_cons (ox_ex rx_int) (ax_cons (ox_ex rx_int) (ax_cons (ox_ex rx_int) (ax_cons (ox_ex rx_int) ax_nil (fun _ => rfl)) (fun _ => rfl)) (fun _ => rfl)) (fun _ => rfl)) trivial (by decide))) ax_nil (fun _ => rfl)) trivial (by decide))) (ax_cons (ox_ex (rx_tup (ax_cons (ox_ex (rx_tup (ax_cons (ox_ex rx_int) (ax_cons (ox_ex rx_int) (ax_cons (ox_ex rx_int) (ax_cons (ox_ex rx_int) ax_nil (fun _ => rfl)) (fun _ => rfl)) (fun _ => rfl)) (fun _ => rfl)) trivial (by decide))) ax_nil (fun _ => rfl)) trivial (by decide))) (ax_cons (ox_ex (rx_tup (ax_cons (ox_ex (rx_tup (ax_cons (ox_ex rx_int) (ax_cons (ox_ex rx_int) (ax_cons (ox_ex rx_int) (ax_cons (ox_ex rx_int) ax_nil (fun _ => rfl)) (fun _ => rfl)) (fun _ => rfl)) (fun _ => rfl)) trivial (by decide))) ax_nil (fun _ => rfl)) trivial (by decide))) (ax_cons (ox_ex (rx_tup (ax_cons (ox_ex (rx_tup (ax_cons (ox_ex rx_int) (ax_cons (ox_ex rx_int) (ax_cons (ox_ex rx_int) (ax_cons (ox_ex rx_int) ax_nil (fun _ => rfl)) (fun _ => rfl)) (fun _ => rfl)) (fun _ => rfl)) trivial (by decide))) ax_nil (fun _ => rfl)) trivial (by decide))) ax_nil (fun _ => rfl)) (fun _ => rfl)) (fun _ => rfl)) (fun _ => rfl)) (fun _ => rfl)) (fun _ => rfl)) (fun _ => rfl)) (fun _ => rfl)) trivial (by decide)) (fun _ => rfl) (fun _ => (.inl rfl)))
  (sxs_cons (sx_set 26 (fun _ => sc_law.nd) (fun _ => rfl) (fun _ => (.inl rfl)) (rx_add (fun _ => rfl) (ox_sl 26 (fun _ => rfl) (fun _ => (.inl rfl))) (ox_ex (rx_list (ax_cons (ox_ex (rx_tup (ax_cons (ox_ex (rx_tup (ax_cons (ox_ex rx_int) (ax_cons (ox_ex rx_int) (ax_cons (ox_ex rx_int) ax_nil (fun _ => rfl)) (fun _ => rfl)) (fun _ => rfl)) trivial (by decide))) ax_nil (fun _ => rfl)) trivial (by decide))) (ax_cons (ox_ex (rx_list (ax_cons (ox_ex (rx_tup (ax_cons (ox_ex rx_int) (ax_cons (ox_ex rx_int) (ax_cons (ox_ex rx_int) (ax_cons (ox_ex rx_int) ax_nil (fun _ => rfl)) (fun _ => rfl)) (fun _ => rfl)) (fun _ => rfl)) trivial (by decide))) ax_nil (fun _ => rfl)) trivial (by decide))) (ax_cons (ox_ex (rx_mul (fun _ => rfl) (ox_ex (rx_tup (ax_cons (ox_ex (rx_tup (ax_cons (ox_ex rx_int) (ax_cons (ox_ex rx_int) (ax_cons (ox_ex rx_int) (ax_cons (ox_ex rx_int) ax_nil (fun _ => rfl)) (fun _ => rfl)) (fun _ => rfl)) (fun _ => rfl)) trivial (by decide))) ax_nil (fun _ => rfl)) trivial (by decide))) (ox_ex rx_int))) (ax_cons (ox_ex (rx_tup (ax_cons (ox_ex (rx_tup (ax_cons (ox_ex rx_int) (ax_cons (ox_ex (rx_neg (ox_ex rx_int))) (ax_cons (ox_ex rx_int) (ax_cons (ox_ex rx_int) ax_nil (fun _ => rfl)) (fun _ => rfl)) (fun _ => rfl)) (fun _ => rfl)) trivial (by decide))) ax_nil (fun _ => rfl)) trivial (by decide))) (ax_cons (ox_ex (rx_tup (ax_cons (ox_ex (rx_tup (ax_cons (ox_ex rx_bl) (ax_cons (ox_ex rx_int) (ax_cons (ox_ex rx_int) (ax_cons (ox_ex rx_int) ax_nil (fun _ => rfl)) (fun _ => rfl)) (fun _ => rfl)) (fun _ => rfl)) trivial (by decide))) ax_nil (fun _ => rfl)) trivial (by decide))) (ax_cons (ox_ex rx_non) ax_nil (fun _ => rfl)) (fun _ => rfl)) (fun _ => rfl)) (fun _ => rfl)) (fun _ => rfl)) (fun _ => rfl)) trivial (by decide)))) (fun _ => rfl) (fun _ => (.inl rfl)))
  (sxs_one (sx_ret (rx_cmp (qx_eq (fun _ => rfl) cx.room (ox_ex (rx_lc (own := [("value", 27)]) (fun _ => rfl) (fun _ => sc_law.nd) (ix_walk (fun _ => rfl) (rx_shr 26 (fun _ => rfl) (fun _ => (.inl rfl)))) (fun _ => (show BlkOk N_law (defScope (top 36)) _ [("value", 27)] from ⟨rfl, by decide +kernel, by decide +kernel, by decide +kernel, by decide +kernel⟩)) (gx_name 27 (fun _ => sc_law.nd) (fun _ => rfl) (fun _ => (.inl rfl)) (fun _ => (.inr rfl))) (tx_one (bx_cmp (qx_isnot (ox_ex (rx_callD (cs := [.ex (shr 27)]) (cxs_blk cx _) o_are_gullies (by decide) ⟨by simp [mus], by simp [lns, mus]⟩ (fun _ => rfl) (ax_cons (ox_ex (rx_shr 27 (fun _ => rfl) (fun _ => (.inl rfl)))) ax_nil (fun _ => rfl)) (fun _ => rfl) (fun _ => rfl))) (ox_ex rx_bl)))) (rx_shr 27 (fun _ => rfl) (fun _ => (.inl rfl))) (fun _ _ => rfl))) (ox_ex (rx_list ax_nil trivial (by decide))))))))))
end K75

set_option Elab.async false
set_option linter.all false
set_option maxRecDepth 100000
set_option maxHeartbeats 1000000
namespace K75
open PySem PySem.Spec PyProof.Rows L2 L3
@[simp] theorem e_isnum : M_is_number = C01.M_is_number := (rfl)
@[simp] theorem e_take : M__law_take = takeM := (rfl)
@[simp] theorem e_alike : M__law_alike 6 = alikeM 6 := (rfl)
theorem says75 {b c : Bool} : M__law_says [.sh (.bool b), .sh (.bool c)] = .ok (.val (.bool (b == c))) [.un, .un] := says_ok
/-! ### a gully -/
structure Gu where
  t : Int
  r : Int
  f : Int
  c : Int
structure Gu.ok (g : Gu) : Prop where
  t : 2 ≤ g.t ∧ g.t ≤ 60
  r : 0 ≤ g.r ∧ g.r < g.t
  f : 1 ≤ g.f ∧ g.f < g.t
  c : 1 ≤ g.c ∧ g.c ≤ 60
def gu (g : Gu) : D := .tuple [.int g.t, .int g.r, .int g.f, .int g.c]
@[simp] theorem gu_0 {g : Gu} : ixD (gu g) (.int 0) = some (.val (.int g.t)) := (rfl)
@[simp] theorem gu_1 {g : Gu} : ixD (gu g) (.int 1) = some (.val (.int g.r)) := (rfl)
@[simp] theorem gu_2 {g : Gu} : ixD (gu g) (.int 2) = some (.val (.int g.f)) := (rfl)
@[simp] theorem gu_3 {g : Gu} : ixD (gu g) (.int 3) = some (.val (.int g.c)) := (rfl)
@[simp] theorem gu_unp {g : Gu} {a b c d : Nat} {ρ : En} : tgT [a, b, c, d] (gu g) ρ = some (putsD [a, b, c, d] [.int g.t, .int g.r, .int g.f, .int g.c] ρ) := (rfl)
def can (g : Gu) (m : Int) : Bool := decide (g.f ≤ (m - g.r) % g.t) && decide ((m - g.r) % g.t + g.c ≤ g.t)
section
variable {g : Gu} {m : Int}
theorem can_ok (h : g.ok) : M_can_begin [.sh (gu g), .sh (.int m)] = .ok (.val (.bool (can g m))) [.un, .un] := by
  have e := mod_ii (i := m - g.r) (j := g.t) (by have := h.t; omega)
  refine bodyF_rt (ρ := [.sh (gu g), .sh (.int m), .sh (.int g.t), .sh (.int g.r), .sh (.int g.f), .sh (.int g.c)]) ?_ (by simp [finA])
  have h1 : geI ((m - g.r) % g.t) g.f = decide (g.f ≤ (m - g.r) % g.t) := rfl
  have h2 : leI ((m - g.r) % g.t + g.c) g.t = decide ((m - g.r) % g.t + g.c ≤ g.t) := rfl
  unfold can
  by_cases hc : g.f ≤ (m - g.r) % g.t
  · simp [m_can_begin, q_can_begin_1, q_can_begin_2, e, h1, h2, hc]
  · simp [m_can_begin, q_can_begin_1, q_can_begin_2, e, h1, h2, hc]
theorem cross_ok : M_can_cross [.sh (gu g)] = .ok (.val (.bool (decide (g.c ≤ g.t - g.f)))) [.un] := by
  refine bodyF_rt (ρ := [.sh (gu g)]) ?_ (by simp [finA])
  have h1 : leI g.c (g.t - g.f) = decide (g.c ≤ g.t - g.f) := rfl
  simp [m_can_cross, q_can_cross_1, h1]
/-! ### the law's own -/
def fal (g : Gu) (m : Int) : Bool := decide ((m - g.r) % g.t < g.f)
theorem falls_ok (h : g.ok) : M__law_falls [.sh (gu g), .sh (.int m)] = .ok (.val (.bool (fal g m))) [.un, .un] := by
  have e := mod_ii (i := m - g.r) (j := g.t) (by have := h.t; omega)
  refine bodyF_rt (ρ := [.sh (gu g), .sh (.int m)]) ?_ (by simp [finA])
  have h1 : ltI ((m - g.r) % g.t) g.f = decide ((m - g.r) % g.t < g.f) := rfl
  simp [m__law_falls, q__law_falls_1, e, h1, fal]
theorem mod_step {a t : Int} {s : Int} (ht : 0 < t) (h0 : 0 ≤ s) (h : a % t + s < t) : (a + s) % t = a % t + s := by
  rw [← Int.emod_add_emod]
  exact Int.emod_eq_of_lt (by have := Int.emod_nonneg a (show t ≠ 0 by omega); omega) h
theorem mod_zero {a t : Int} (ht : 0 < t) : (a + (t - a % t)) % t = 0 := by
  rw [← Int.emod_add_emod, show a % t + (t - a % t) = t by omega]
  exact Int.emod_self
theorem can_fal (h : g.ok) : can g m = (List.range g.c.toNat).all fun s => !fal g (m + (s : Int)) := by
  have ht : 0 < g.t := by have := h.t; omega
  have hc := h.c
  have hf := h.f
  have r0 := Int.emod_nonneg (m - g.r) (show g.t ≠ 0 by omega)
  have r1 := Int.emod_lt_of_pos (m - g.r) ht
  rw [Bool.eq_iff_iff]
  unfold can fal
  simp only [Bool.and_eq_true, decide_eq_true_eq, List.all_eq_true, List.mem_range, Bool.not_eq_true', decide_eq_false_iff_not]
  constructor
  · rintro ⟨h1, h2⟩ s hs
    have e : m + (s : Int) - g.r = m - g.r + (s : Int) := by omega
    rw [e, mod_step ht (by omega) (by omega)]
    omega
  · intro ha
    have a0 := ha 0 (by omega)
    have e0 : m + ((0 : Nat) : Int) - g.r = m - g.r := by omega
    rw [e0] at a0
    refine ⟨by omega, ?_⟩
    by_cases hz : (m - g.r) % g.t + g.c ≤ g.t
    · exact hz
    · exfalso
      have a1 := ha (g.t - (m - g.r) % g.t).toNat (by omega)
      have e1 : m + (((g.t - (m - g.r) % g.t).toNat : Nat) : Int) - g.r = (m - g.r) + (g.t - (m - g.r) % g.t) := by omega
      rw [e1, mod_zero ht] at a1
      omega
theorem lawcan_ok (h : g.ok) : M__law_can [.sh (gu g), .sh (.int m)] = .ok (.val (.bool (can g m))) [.un, .un] := by
  have hc := h.c
  obtain ⟨n, hn⟩ : ∃ n : Nat, g.c = n := ⟨g.c.toNat, by omega⟩
  have hr := rng1_nat (n := n) (by omega)
  have hl : compL [2] (putG 2) (args [(.ex (callF M__law_falls [.ex (shr 0), .ex (args [(.sl 1), (.sl 2)] (f2 addD))]))] truO) (shr 2) (rngL 0 n) [] [.sh (gu g), .sh (.int m), .un] = .ok (((List.range n).filter fun s : Nat => fal g (m + (s : Int))).map fun s : Nat => PyData.int (0 + (s : Int))) [.sh (gu g), .sh (.int m), .un] := by
    rw [rngL_map]
    refine compL_sift (α := Nat) (p := fun s => fal g (m + (s : Int))) (f := fun s : Nat => PyData.int (0 + (s : Int))) _ (by simp; omega) fun s hs => ?_
    refine ⟨[.sh (gu g), .sh (.int m), .sh (.int (0 + (s : Int)))], rfl, [.sh (gu g), .sh (.int m), .sh (.int (0 + (s : Int)))], ?_, fun _ => rfl, fun _ => ⟨.val (.int (0 + (s : Int))), [.sh (gu g), .sh (.int m), .sh (.int (0 + (s : Int)))], rfl, rfl, rfl⟩⟩
    have := falls_ok (m := m + (s : Int)) h
    simp [this]
  have e : can g m = (((List.range n).filter fun s : Nat => fal g (m + (s : Int))).map fun s : Nat => PyData.int (0 + (s : Int))).isEmpty := by
    rw [can_fal h, hn, List.isEmpty_map, filter_emp, Int.toNat_natCast]
    rw [Bool.eq_iff_iff]
    simp
  rw [e]
  have hk : (((List.range n).filter fun s : Nat => fal g (m + (s : Int))).map fun s : Nat => PyData.int (0 + (s : Int))).all (okD 15) = true := by
    rw [List.all_eq_true]
    intro d hd
    obtain ⟨s, _, rfl⟩ := List.mem_map.mp hd
    rfl
  have q := eq_nil hk
  generalize (((List.range n).filter fun s : Nat => fal g (m + (s : Int))).map fun s : Nat => PyData.int (0 + (s : Int))) = F at *
  refine bodyF_rt (ρ := [.sh (gu g), .sh (.int m), .un]) ?_ (by simp [finA])
  simp [m__law_can, q__law_can_1, lcF_ap', hn, hr, hl, q]
/-! ### the next begin -/
def wt (g : Gu) (m : Int) : Int := if g.f ≤ (m - g.r) % g.t ∧ (m - g.r) % g.t + g.c ≤ g.t then 0 else if (m - g.r) % g.t < g.f then g.f - (m - g.r) % g.t else g.t - (m - g.r) % g.t + g.f
theorem wt_b (h : g.ok) : 0 ≤ wt g m ∧ wt g m ≤ g.f + g.c - 1 ∧ wt g m < 200 := by
  have ht := h.t
  have hc := h.c
  have hf := h.f
  have r0 := Int.emod_nonneg (m - g.r) (show g.t ≠ 0 by omega)
  have r1 := Int.emod_lt_of_pos (m - g.r) (show 0 < g.t by omega)
  unfold wt
  split
  · omega
  · split <;> omega
theorem wt_can (h : g.ok) (hg : g.c ≤ g.t - g.f) : can g (m + wt g m) = true := by
  have ht := h.t
  have ht' : 0 < g.t := by omega
  have hc := h.c
  have hf := h.f
  have r0 := Int.emod_nonneg (m - g.r) (show g.t ≠ 0 by omega)
  have r1 := Int.emod_lt_of_pos (m - g.r) ht'
  unfold can wt
  rw [Bool.and_eq_true, decide_eq_true_eq, decide_eq_true_eq]
  split
  · rename_i hz
    rw [Int.add_zero]
    exact hz
  · split
    · have e : m + (g.f - (m - g.r) % g.t) - g.r = m - g.r + (g.f - (m - g.r) % g.t) := by omega
      rw [e, mod_step ht' (by omega) (by omega)]
      omega
    · have e : m + (g.t - (m - g.r) % g.t + g.f) - g.r = (m - g.r + (g.t - (m - g.r) % g.t)) + g.f := by omega
      have z := mod_zero (a := m - g.r) ht'
      rw [e, mod_step ht' (by omega) (by omega), z]
      omega
theorem wt_no (h : g.ok) {i : Int} (h0 : 0 ≤ i) (hi : i < wt g m) : can g (m + i) = false := by
  have ht := h.t
  have ht' : 0 < g.t := by omega
  have hc := h.c
  have hf := h.f
  have r0 := Int.emod_nonneg (m - g.r) (show g.t ≠ 0 by omega)
  have r1 := Int.emod_lt_of_pos (m - g.r) ht'
  have e : m + i - g.r = m - g.r + i := by omega
  unfold can
  rw [e, Bool.and_eq_false_iff, decide_eq_false_iff_not, decide_eq_false_iff_not]
  unfold wt at hi
  split at hi
  · omega
  · split at hi
    · rw [mod_step ht' h0 (by omega)]
      omega
    · by_cases hz : (m - g.r) % g.t + i < g.t
      · rw [mod_step ht' h0 hz]
        omega
      · have e2 : m - g.r + i = (m - g.r + (g.t - (m - g.r) % g.t)) + (i - (g.t - (m - g.r) % g.t)) := by omega
        have z := mod_zero (a := m - g.r) ht'
        rw [e2, mod_step ht' (by omega) (by omega), z]
        omega
def nb (g : Gu) (m : Int) : Int := m + wt g m
theorem nb_least (h : g.ok) {x : Int} (hx : m ≤ x) (hc : can g x = true) : nb g m ≤ x := by
  by_cases hz : nb g m ≤ x
  · exact hz
  · exfalso
    have := wt_no (m := m) h (i := x - m) (by omega) (by unfold nb at hz; omega)
    rw [show m + (x - m) = x by omega, hc] at this
    cases this
theorem nb_mono (h : g.ok) (hg : g.c ≤ g.t - g.f) {m' : Int} (hm : m ≤ m') : nb g m ≤ nb g m' :=
  nb_least h (by have := wt_b (m := m') h; unfold nb; omega) (wt_can h hg)
theorem nb_free (hc : can g m = true) : nb g m = m := by
  unfold can at hc
  rw [Bool.and_eq_true, decide_eq_true_eq, decide_eq_true_eq] at hc
  unfold nb wt
  rw [if_pos hc, Int.add_zero]
abbrev nbC : P Bool := (notP (args [(.ex (callF M_can_begin [.ex (shr 0), .ex (shr 1)]))] truO))
theorem nb_loop (h : g.ok) (hg : g.c ≤ g.t - g.f) : ∀ (k n : Nat) (i : Int), 0 ≤ i → wt g m - i = k → k < n → whileF n nbC q_next_begin_1 [.sh (gu g), .sh (.int (m + i))] = .ok .nx [.sh (gu g), .sh (.int (nb g m))] := by
  intro k
  induction k with
  | zero =>
    intro n i h0 hk hn
    obtain ⟨n, rfl⟩ : ∃ j, n = j + 1 := ⟨n - 1, by omega⟩
    obtain rfl : i = wt g m := by omega
    have c := can_ok (m := m + wt g m) h
    rw [wt_can h hg] at c
    rw [whileF_s]
    simp [c]
    rfl
  | succ k ih =>
    intro n i h0 hk hn
    obtain ⟨n, rfl⟩ : ∃ j, n = j + 1 := ⟨n - 1, by omega⟩
    have c := can_ok (m := m + i) h
    rw [wt_no h h0 (by omega)] at c
    have e1 : q_next_begin_1 [.sh (gu g), .sh (.int (m + i))] = .ok .nx [.sh (gu g), .sh (.int (m + (i + 1)))] := by
      have : m + i + 1 = m + (i + 1) := by omega
      simp [q_next_begin_1, augF_ap, this]
    have ec : nbC [.sh (gu g), .sh (.int (m + i))] = .ok true [.sh (gu g), .sh (.int (m + i))] := by simp [c]
    rw [whileF_s, ec, bind_ok, if_pos rfl, e1, turn_nx']
    exact ih n (i + 1) (by omega) (by omega) (by omega)
theorem nb_ok (h : g.ok) (hg : g.c ≤ g.t - g.f) : M_next_begin [.sh (gu g), .sh (.int m)] = .ok (.val (.int (nb g m))) [.un, .un] := by
  have b := wt_b (m := m) h
  have l := nb_loop (m := m) h hg (wt g m).toNat 20000 0 (by omega) (by omega) (by omega)
  rw [Int.add_zero] at l
  have l : q_next_begin_2 [.sh (gu g), .sh (.int m)] = _ := l
  refine bodyF_rt (ρ := [.sh (gu g), .sh (.int (nb g m))]) ?_ (by simp [finA])
  show m_next_begin [.sh (gu g), .sh (.int m)] = _
  unfold m_next_begin
  rw [thenS_nx l]
  simp [q_next_begin_3]
end
end K75

set_option Elab.async false
set_option linter.all false
set_option maxRecDepth 100000
set_option maxHeartbeats 1000000
namespace K75
open PySem PySem.Spec PyProof.Rows L2 L3
/-! ### what is a gully -/
def isGu : D → Bool
  | .tuple [.int t, b, c, d] => isNum 2 60 (.int t) && (isNum 0 (t - 1) b && (isNum 1 (t - 1) c && isNum 1 60 d))
  | _ => false
theorem isgu_ok {d : D} : M_is_gully [.sh d] = .ok (.val (.bool (isGu d))) [.un] := by
  cases d with
  | tuple ds =>
    match ds with
    | [a, b, c, d] =>
      cases a with
      | int t =>
        cases h1 : isNum 2 60 (.int t) with
        | false =>
          exact bodyF_rt (ρ := [.sh (.tuple [.int t, b, c, d]), .un, .un, .un, .un]) (by simp [m_is_gully, q_is_gully_1, q_is_gully_2, isT, isnum_ok, h1, isGu, show L2.atI [PyData.int t, b, c, d] 0 = some (.int t) from rfl]) (by simp [finA])
        | true =>
          refine bodyF_rt (ρ := [.sh (.tuple [.int t, b, c, d]), .sh (.int t), .sh b, .sh c, .sh d]) ?_ (by simp [finA])
          cases h2 : isNum 0 (t - 1) b <;> cases h3 : isNum 1 (t - 1) c <;> simp [m_is_gully, q_is_gully_1, q_is_gully_2, q_is_gully_3, q_is_gully_4, isT, isnum_ok, h1, h2, h3, isGu, show L2.atI [PyData.int t, b, c, d] 0 = some (.int t) from rfl]
      | _ =>
        refine bodyF_rt (ρ := [_, .un, .un, .un, .un]) (by simp [m_is_gully, q_is_gully_1, q_is_gully_2, isT, isnum_ok, isNum, isGu, L2.atI, L2.ixN]; rfl) (by simp [finA])
    | [] => exact bodyF_rt (ρ := [.sh (.tuple []), .un, .un, .un, .un]) (by simp [m_is_gully, q_is_gully_1, q_is_gully_2, isT, isGu]) (by simp [finA])
    | [a] => exact bodyF_rt (ρ := [.sh (.tuple [a]), .un, .un, .un, .un]) (by simp [m_is_gully, q_is_gully_1, q_is_gully_2, isT, isGu]) (by simp [finA])
    | [a, b] => exact bodyF_rt (ρ := [.sh (.tuple [a, b]), .un, .un, .un, .un]) (by simp [m_is_gully, q_is_gully_1, q_is_gully_2, isT, isGu]) (by simp [finA])
    | [a, b, c] => exact bodyF_rt (ρ := [.sh (.tuple [a, b, c]), .un, .un, .un, .un]) (by simp [m_is_gully, q_is_gully_1, q_is_gully_2, isT, isGu]) (by simp [finA])
    | a :: b :: c :: d :: e :: ds =>
      have h : (((ds.length : Int) + 1 + 1 + 1 + 1 + 1) == 4) = false := by simp; omega
      exact bodyF_rt (ρ := [.sh (.tuple (a :: b :: c :: d :: e :: ds)), .un, .un, .un, .un]) (by simp [m_is_gully, q_is_gully_1, q_is_gully_2, isT, isGu, h]) (by simp [finA])
  | none => exact bodyF_rt (ρ := [.sh .none, .un, .un, .un, .un]) (by simp [m_is_gully, q_is_gully_1, q_is_gully_2, isT, isGu]) (by simp [finA])
  | bool b => exact bodyF_rt (ρ := [.sh (.bool b), .un, .un, .un, .un]) (by simp [m_is_gully, q_is_gully_1, q_is_gully_2, isT, isGu]) (by simp [finA])
  | int b => exact bodyF_rt (ρ := [.sh (.int b), .un, .un, .un, .un]) (by simp [m_is_gully, q_is_gully_1, q_is_gully_2, isT, isGu]) (by simp [finA])
  | str b => exact bodyF_rt (ρ := [.sh (.str b), .un, .un, .un, .un]) (by simp [m_is_gully, q_is_gully_1, q_is_gully_2, isT, isGu]) (by simp [finA])
  | list b => exact bodyF_rt (ρ := [.sh (.list b), .un, .un, .un, .un]) (by simp [m_is_gully, q_is_gully_1, q_is_gully_2, isT, isGu]) (by simp [finA])
  | dict b => exact bodyF_rt (ρ := [.sh (.dict b), .un, .un, .un, .un]) (by simp [m_is_gully, q_is_gully_1, q_is_gully_2, isT, isGu]) (by simp [finA])
def areGu : D → Bool
  | .tuple ds => (decide (1 ≤ ds.length) && decide (ds.length ≤ 6)) && ds.all isGu
  | _ => false
theorem gF_gu {ds : List D} : gF false [] 1 (walk (shr 0)) (putG 0) (ret true) (callF M_is_gully [.ex (shr 0)]) [.sh (.tuple ds)] = .ok (.val (.bool (ds.all isGu))) [.sh (.tuple ds)] := by
  obtain ⟨ρ', h⟩ := gLoop_pure (b := false) (tg := putG 0) (tt := ret true) (te := callF M_is_gully [.ex (shr 0)]) (C := fun ρ => ∃ s, ρ = [s]) (q := isGu) ds (ρ := [.un]) ⟨_, rfl⟩ fun d hd ρ hC => by
    obtain ⟨s, rfl⟩ := hC
    exact ⟨_, rfl, _, rfl, [.sh d], by simp [isgu_ok], _, rfl⟩
  exact gF_ls (ds := ds) (ρ1 := [.sh (.tuple ds)]) (as := []) (by simp) rfl (by simpa using h)
theorem are_ok {d : D} : M_are_gullies [.sh d] = .ok (.val (.bool (areGu d))) [.un] := by
  refine bodyF_rt (ρ := [.sh d]) ?_ (by simp [finA])
  cases d with
  | tuple ds =>
    have g := gF_gu (ds := ds)
    have h1 : leI 1 (ds.length : Int) = decide (1 ≤ ds.length) := by unfold leI; rw [decide_eq_decide]; omega
    have h2 : leI (ds.length : Int) 6 = decide (ds.length ≤ 6) := by unfold leI; rw [decide_eq_decide]; omega
    unfold areGu
    by_cases c1 : 1 ≤ ds.length
    · by_cases c2 : ds.length ≤ 6
      · simp [m_are_gullies, q_are_gullies_2, isT, h1, h2, c1, c2, g]
      · simp [m_are_gullies, q_are_gullies_2, isT, h1, h2, c1, c2]
    · simp [m_are_gullies, q_are_gullies_2, isT, h1, h2, c1]
  | _ => simp [m_are_gullies, q_are_gullies_2, isT, areGu]
theorem isGu_gu {g : Gu} (h : g.ok) : isGu (gu g) = true := by
  have := h.t
  have := h.r
  have := h.f
  have := h.c
  show (isNum 2 60 (.int g.t) && (isNum 0 (g.t - 1) (.int g.r) && (isNum 1 (g.t - 1) (.int g.f) && isNum 1 60 (.int g.c)))) = true
  simp [isNum]
  omega
def gL (gs : List Gu) : List D := gs.map gu
def nL (ns : List Int) : List D := ns.map .int
theorem gL_len {gs : List Gu} : (gL gs).length = gs.length := by simp [gL]
theorem nL_len {ns : List Int} : (nL ns).length = ns.length := by simp [nL]
/-! ### the earliest begins -/
def bg : List Gu → List Int → Int → List Int
  | g :: gs, w :: ws, now => nb g (now + w) :: bg gs ws (nb g (now + w) + g.c)
  | _, _, _ => []
def allCr (gs : List Gu) : Bool := gs.all fun g => decide (g.c ≤ g.t - g.f)
theorem gF_cr {gs : List Gu} {a b c d e f : Sl} : gF false [] 1 (walk (shr 0)) (putG 0) (ret true) (callF M_can_cross [.ex (shr 0)]) [.sh (.tuple (gL gs)), a, b, c, d, e, f] = .ok (.val (.bool (allCr gs))) [.sh (.tuple (gL gs)), a, b, c, d, e, f] := by
  have key : ∀ (gs : List Gu) (s : Sl), ∃ ρ', gLoop false (putG 0) (ret true) (callF M_can_cross [.ex (shr 0)]) (gL gs) [s] = .ok (allCr gs) ρ' := by
    intro gs
    induction gs with
    | nil => intro s; exact ⟨[s], rfl⟩
    | cons g gs ih =>
      intro s
      obtain ⟨ρ', h⟩ := ih (.sh (gu g))
      have c := cross_ok (g := g)
      by_cases hc : g.c ≤ g.t - g.f
      · refine ⟨ρ', ?_⟩
        show gLoop false (putG 0) (ret true) (callF M_can_cross [.ex (shr 0)]) (gu g :: gL gs) [s] = _
        unfold gLoop
        simp only [putG_ap, List.set_cons_zero, noErr_ap, ret_ap, bind_ok, if_true, seq_ap, callF_ex1, shr_sh0, toD_val, c, fin_ok, List.length_cons, List.length_nil]
        rw [decide_eq_true hc]
        simp only [Bool.true_eq_false, if_false, h, allCr, List.all_cons, decide_eq_true hc, Bool.true_and]
      · refine ⟨[.sh (gu g)], ?_⟩
        show gLoop false (putG 0) (ret true) (callF M_can_cross [.ex (shr 0)]) (gu g :: gL gs) [s] = _
        unfold gLoop
        simp only [putG_ap, List.set_cons_zero, noErr_ap, ret_ap, bind_ok, if_true, seq_ap, callF_ex1, shr_sh0, toD_val, c, fin_ok, List.length_cons, List.length_nil]
        rw [decide_eq_false hc]
        simp [allCr, hc]
  obtain ⟨ρ', h⟩ := key gs .un
  exact gF_ls (ds := gL gs) (ρ1 := [.sh (.tuple (gL gs)), a, b, c, d, e, f]) (as := []) (by simp) rfl h
theorem nL_app {as : List Int} {x : Int} : nL as ++ [.int x] = nL (as ++ [x]) := by simp [nL]
theorem nL_last {as : List Int} {x : Int} : L2.atI (nL (as ++ [x])) (-1) = some (.int x) := by
  rw [L3.atI_last (by rw [nL_len]; simp)]
  simp [nL]
def erE (A B C : Sl) (found : List Int) (now : Int) (s5 s6 : Sl) : En := [A, B, C, .ow (.lst (nL found)), .sh (.int now), s5, s6]
theorem er_loop {A B C : Sl} : ∀ (gs : List Gu) (ws : List Int) (found : List Int) (now : Int) (s5 s6 : Sl), (∀ g ∈ gs, g.ok ∧ g.c ≤ g.t - g.f) → found.length + gs.length ≤ 1000 → ∃ now' s5' s6', forL (tgT [5, 6]) (thenS q_earliest_begins_7 q_earliest_begins_8) (zip2 (gL gs) (nL ws)) (erE A B C found now s5 s6) = .ok .nx (erE A B C (found ++ bg gs ws now) now' s5' s6') := by
  intro gs
  induction gs with
  | nil => intro ws found now s5 s6 _ _; exact ⟨now, s5, s6, by simp [gL, zip2, bg]⟩
  | cons g gs ih =>
    intro ws found now s5 s6 hg hl
    cases ws with
    | nil => exact ⟨now, s5, s6, by simp [gL, nL, zip2, bg]⟩
    | cons w ws =>
      obtain ⟨ok, cr⟩ := hg g List.mem_cons_self
      have hl : found.length + (gs.length + 1) ≤ 1000 := by simpa using hl
      obtain ⟨now', s5', s6', e⟩ := ih ws (found ++ [nb g (now + w)]) (nb g (now + w) + g.c) (.sh (gu g)) (.sh (.int w)) (fun g' h => hg g' (List.mem_cons_of_mem _ h)) (by simp; omega)
      refine ⟨now', s5', s6', ?_⟩
      show forL _ _ (.tuple [gu g, .int w] :: zip2 (gL gs) (nL ws)) _ = _
      rw [forL_cons']
      have e0 : tgT [5, 6] (.tuple [gu g, .int w]) (erE A B C found now s5 s6) = some (erE A B C found now (.sh (gu g)) (.sh (.int w))) := rfl
      rw [e0]
      show turn (thenS q_earliest_begins_7 q_earliest_begins_8 (erE A B C found now (.sh (gu g)) (.sh (.int w)))) _ = _
      have n := nb_ok (m := now + w) ok cr
      have ap := append_ap (ds := nL found) (d := .int (nb g (now + w))) (by rw [nL_len]; omega)
      rw [nL_app] at ap
      have la := nL_last (as := found) (x := nb g (now + w))
      have e7 : q_earliest_begins_7 (erE A B C found now (.sh (gu g)) (.sh (.int w))) = .ok .nx (erE A B C (found ++ [nb g (now + w)]) now (.sh (gu g)) (.sh (.int w))) := by
        unfold erE
        generalize nL (found ++ [nb g (now + w)]) = F1 at *
        generalize nL found = F at *
        simp [q_earliest_begins_7, n, ap]
      have e8 : q_earliest_begins_8 (erE A B C (found ++ [nb g (now + w)]) now (.sh (gu g)) (.sh (.int w))) = .ok .nx (erE A B C (found ++ [nb g (now + w)]) (nb g (now + w) + g.c) (.sh (gu g)) (.sh (.int w))) := by
        unfold erE
        generalize nL (found ++ [nb g (now + w)]) = F1 at *
        simp [q_earliest_begins_8, la]
      rw [thenS_nx e7, e8, turn_nx', e]
      simp [bg]
theorem er_ok {gs : List Gu} {ws : List Int} {s : Int} (hg : ∀ g ∈ gs, g.ok) (hl : gs.length ≤ 6) (h0 : 0 ≤ s ∧ s ≤ 10000) : M_earliest_begins [.sh (.tuple (gL gs)), .sh (.tuple (nL ws)), .sh (.int s)] = .ok (.val (if allCr gs then .tuple (nL (bg gs ws s)) else .none)) [.un, .un, .un] := by
  have hn : isNum 0 10000 (.int s) = true := by simp [isNum]; omega
  have e2 : q_earliest_begins_2 [.sh (.tuple (gL gs)), .sh (.tuple (nL ws)), .sh (.int s), .un, .un, .un, .un] = .ok .nx [.sh (.tuple (gL gs)), .sh (.tuple (nL ws)), .sh (.int s), .un, .un, .un, .un] := by
    simp [q_earliest_begins_2, isnum_ok, hn]
  have cr := gF_cr (gs := gs) (a := .sh (.tuple (nL ws))) (b := .sh (.int s)) (c := .un) (d := .un) (e := .un) (f := .un)
  cases hc : allCr gs with
  | false =>
    rw [hc] at cr
    refine bodyF_rt (ρ := [.sh (.tuple (gL gs)), .sh (.tuple (nL ws)), .sh (.int s), .un, .un, .un, .un]) ?_ (by simp [finA])
    have e5 : q_earliest_begins_5 [.sh (.tuple (gL gs)), .sh (.tuple (nL ws)), .sh (.int s), .un, .un, .un, .un] = .ok (.rt (.val .none)) [.sh (.tuple (gL gs)), .sh (.tuple (nL ws)), .sh (.int s), .un, .un, .un, .un] := by
      simp [q_earliest_begins_5, q_earliest_begins_4, cr]
    show m_earliest_begins [.sh (.tuple (gL gs)), .sh (.tuple (nL ws)), .sh (.int s), .un, .un, .un, .un] = _
    unfold m_earliest_begins
    rw [thenS_nx e2, thenS_rt e5]
    rfl
  | true =>
    rw [hc] at cr
    have hg2 : ∀ g ∈ gs, g.ok ∧ g.c ≤ g.t - g.f := fun g h => ⟨hg g h, by simpa using List.all_eq_true.mp hc g h⟩
    obtain ⟨now', s5, s6, el⟩ := er_loop (A := .sh (.tuple (gL gs))) (B := .sh (.tuple (nL ws))) (C := .sh (.int s)) gs ws [] s .un .un hg2 (by simp; omega)
    have e5 : q_earliest_begins_5 [.sh (.tuple (gL gs)), .sh (.tuple (nL ws)), .sh (.int s), .un, .un, .un, .un] = .ok .nx [.sh (.tuple (gL gs)), .sh (.tuple (nL ws)), .sh (.int s), .un, .un, .un, .un] := by
      simp [q_earliest_begins_5, q_earliest_begins_4, cr]
    have e6 : q_earliest_begins_6 [.sh (.tuple (gL gs)), .sh (.tuple (nL ws)), .sh (.int s), .un, .un, .un, .un] = .ok .nx (erE (.sh (.tuple (gL gs))) (.sh (.tuple (nL ws))) (.sh (.int s)) [] s .un .un) := by
      simp [q_earliest_begins_6, erE, nL]
    have e9 : q_earliest_begins_9 (erE (.sh (.tuple (gL gs))) (.sh (.tuple (nL ws))) (.sh (.int s)) [] s .un .un) = _ := (forF_ls (ds := zip2 (gL gs) (nL ws)) (ρ1 := erE (.sh (.tuple (gL gs))) (.sh (.tuple (nL ws))) (.sh (.int s)) [] s .un .un) (by unfold erE; simp)).trans el
    refine bodyF_rt (ρ := erE (.sh (.tuple (gL gs))) (.sh (.tuple (nL ws))) (.sh (.int s)) ([] ++ bg gs ws s) now' s5 s6) ?_ (by simp [finA, erE])
    show m_earliest_begins [.sh (.tuple (gL gs)), .sh (.tuple (nL ws)), .sh (.int s), .un, .un, .un, .un] = _
    unfold m_earliest_begins
    rw [thenS_nx e2, thenS_nx e5, thenS_nx e6, thenS_nx e9, List.nil_append]
    unfold erE
    simp [q_earliest_begins_10]
theorem er_no {a b d : D} (hn : isNum 0 10000 d = false) : M_earliest_begins [.sh a, .sh b, .sh d] = .err 0 [.un, .un, .un] := by
  refine bodyF_err (ρ := [.sh a, .sh b, .sh d, .un, .un, .un, .un]) ?_ (by simp [finA])
  simp [m_earliest_begins, q_earliest_begins_1, q_earliest_begins_2, isnum_ok, hn]
/-! ### arrival -/
theorem bg_len : ∀ (gs : List Gu) (ws : List Int) (now : Int), gs.length = ws.length → (bg gs ws now).length = gs.length
  | [], ws, _, _ => rfl
  | g :: gs, [], _, h => by simp at h
  | g :: gs, w :: ws, now, h => by
    show (bg gs ws _).length + 1 = gs.length + 1
    rw [bg_len gs ws _ (by simpa using h)]
def lastI (ns : List Int) : Int := ns.getD (ns.length - 1) 0
def lastC (gs : List Gu) : Int := match gs.getLast? with
  | some g => g.c
  | none => 0
theorem last_nL {ns : List Int} (h : 0 < ns.length) : L2.atI (nL ns) (-1) = some (.int (lastI ns)) := by
  rw [L3.atI_last (by rw [nL_len]; exact h), nL_len]
  simp [nL, lastI, show ns.length - 1 < ns.length by omega]
theorem last_gL {gs : List Gu} (h : 0 < gs.length) : ∃ g, L2.atI (gL gs) (-1) = some (gu g) ∧ g.c = lastC gs := by
  rw [L3.atI_last (by rw [gL_len]; exact h), gL_len]
  refine ⟨gs[gs.length - 1], by simp [gL, show gs.length - 1 < gs.length by omega], ?_⟩
  unfold lastC
  rw [List.getLast?_eq_getElem?, List.getElem?_eq_getElem (by omega)]
theorem arr_ok {gs : List Gu} {ws : List Int} {s : Int} (hg : ∀ g ∈ gs, g.ok) (h1 : 1 ≤ gs.length) (hl : gs.length ≤ 6) (hw : gs.length = ws.length) (h0 : 0 ≤ s ∧ s ≤ 10000) : M_arrival [.sh (.tuple (gL gs)), .sh (.tuple (nL ws)), .sh (.int s)] = .ok (.val (if allCr gs then .int (lastI (bg gs ws s) + lastC gs) else .none)) [.un, .un, .un] := by
  have er := er_ok (ws := ws) hg hl h0
  cases hc : allCr gs with
  | false =>
    rw [hc] at er
    refine bodyF_rt (ρ := [.sh (.tuple (gL gs)), .sh (.tuple (nL ws)), .sh (.int s), .sh .none]) ?_ (by simp [finA])
    have er : M_earliest_begins [.sh (.tuple (gL gs)), .sh (.tuple (nL ws)), .sh (.int s)] = .ok (.val .none) [.un, .un, .un] := er
    generalize gL gs = G at *
    generalize nL ws = W at *
    simp [m_arrival, q_arrival_1, q_arrival_2, er, nonD]
  | true =>
    rw [hc] at er
    have er : M_earliest_begins [.sh (.tuple (gL gs)), .sh (.tuple (nL ws)), .sh (.int s)] = .ok (.val (.tuple (nL (bg gs ws s)))) [.un, .un, .un] := er
    have bl := last_nL (ns := bg gs ws s) (by rw [bg_len gs ws s hw]; omega)
    obtain ⟨g, gl, gc⟩ := last_gL (gs := gs) (by omega)
    refine bodyF_rt (ρ := [.sh (.tuple (gL gs)), .sh (.tuple (nL ws)), .sh (.int s), .sh (.tuple (nL (bg gs ws s)))]) ?_ (by simp [finA])
    rw [← gc]
    generalize nL (bg gs ws s) = B at *
    generalize lastI (bg gs ws s) = x at *
    generalize gL gs = G at *
    generalize nL ws = W at *
    simp [m_arrival, q_arrival_1, q_arrival_2, er, nonD, bl, gl]
theorem arr_no {a b d : D} (hn : isNum 0 10000 d = false) : M_arrival [.sh a, .sh b, .sh d] = .err 0 [.un, .un, .un] := by
  refine bodyF_err (ρ := [.sh a, .sh b, .sh d, .un]) ?_ (by simp [finA])
  simp [m_arrival, q_arrival_1, er_no hn]
end K75

set_option Elab.async false
set_option linter.all false
set_option maxRecDepth 100000
set_option maxHeartbeats 1000000
namespace K75
open PySem PySem.Spec PyProof.Rows L2 L3
/-! ### free starts -/
def isFr : List Gu → List Int → Int → Bool
  | g :: gs, w :: ws, now => can g (now + w) && isFr gs ws (now + (w + g.c))
  | _, _, _ => true
def frE (A B C : Sl) (now : Int) (s4 s5 : Sl) : En := [A, B, C, .sh (.int now), s4, s5]
theorem fr_loop {A B C : Sl} : ∀ (gs : List Gu) (ws : List Int) (now : Int) (s4 s5 : Sl), (∀ g ∈ gs, g.ok) → ∃ now' s4' s5', forL (tgT [4, 5]) (thenS q_is_free_3 q_is_free_4) (zip2 (gL gs) (nL ws)) (frE A B C now s4 s5) = .ok (if isFr gs ws now then .nx else .rt (.val (.bool false))) (frE A B C now' s4' s5') := by
  intro gs
  induction gs with
  | nil => intro ws now s4 s5 _; exact ⟨now, s4, s5, by simp [gL, zip2, isFr]⟩
  | cons g gs ih =>
    intro ws now s4 s5 hg
    cases ws with
    | nil => exact ⟨now, s4, s5, by simp [gL, nL, zip2, isFr]⟩
    | cons w ws =>
      have ok := hg g List.mem_cons_self
      have c := can_ok (m := now + w) ok
      have e0 : tgT [4, 5] (.tuple [gu g, .int w]) (frE A B C now s4 s5) = some (frE A B C now (.sh (gu g)) (.sh (.int w))) := rfl
      have ez : zip2 (gL (g :: gs)) (nL (w :: ws)) = .tuple [gu g, .int w] :: zip2 (gL gs) (nL ws) := rfl
      cases hc : can g (now + w) with
      | false =>
        rw [hc] at c
        refine ⟨now, .sh (gu g), .sh (.int w), ?_⟩
        have e3 : q_is_free_3 (frE A B C now (.sh (gu g)) (.sh (.int w))) = .ok (.rt (.val (.bool false))) (frE A B C now (.sh (gu g)) (.sh (.int w))) := by
          simp [q_is_free_3, q_is_free_2, frE, c]
        rw [ez, forL_cons', e0]
        show turn (thenS q_is_free_3 q_is_free_4 (frE A B C now (.sh (gu g)) (.sh (.int w)))) _ = _
        rw [thenS_rt e3]
        simp [isFr, hc]
      | true =>
        rw [hc] at c
        obtain ⟨now', s4', s5', e⟩ := ih ws (now + (w + g.c)) (.sh (gu g)) (.sh (.int w)) (fun g' h => hg g' (List.mem_cons_of_mem _ h))
        refine ⟨now', s4', s5', ?_⟩
        have e3 : q_is_free_3 (frE A B C now (.sh (gu g)) (.sh (.int w))) = .ok .nx (frE A B C now (.sh (gu g)) (.sh (.int w))) := by
          simp [q_is_free_3, q_is_free_2, frE, c]
        have e4 : q_is_free_4 (frE A B C now (.sh (gu g)) (.sh (.int w))) = .ok .nx (frE A B C (now + (w + g.c)) (.sh (gu g)) (.sh (.int w))) := by
          simp [q_is_free_4, frE, augF_ap]
        rw [ez, forL_cons', e0]
        show turn (thenS q_is_free_3 q_is_free_4 (frE A B C now (.sh (gu g)) (.sh (.int w)))) _ = _
        rw [thenS_nx e3, e4, turn_nx', e]
        simp [isFr, hc]
theorem free_ok {gs : List Gu} {ws : List Int} {s : Int} (hg : ∀ g ∈ gs, g.ok) : M_is_free [.sh (.tuple (gL gs)), .sh (.tuple (nL ws)), .sh (.int s)] = .ok (.val (.bool (isFr gs ws s))) [.un, .un, .un] := by
  obtain ⟨now', s4, s5, el⟩ := fr_loop (A := .sh (.tuple (gL gs))) (B := .sh (.tuple (nL ws))) (C := .sh (.int s)) gs ws s .un .un hg
  have e1 : q_is_free_1 [.sh (.tuple (gL gs)), .sh (.tuple (nL ws)), .sh (.int s), .un, .un, .un] = .ok .nx (frE (.sh (.tuple (gL gs))) (.sh (.tuple (nL ws))) (.sh (.int s)) s .un .un) := by
    simp [q_is_free_1, frE]
  have e5 : q_is_free_5 (frE (.sh (.tuple (gL gs))) (.sh (.tuple (nL ws))) (.sh (.int s)) s .un .un) = _ := (forF_ls (ds := zip2 (gL gs) (nL ws)) (ρ1 := frE (.sh (.tuple (gL gs))) (.sh (.tuple (nL ws))) (.sh (.int s)) s .un .un) (by unfold frE; simp)).trans el
  refine bodyF_rt (ρ := frE (.sh (.tuple (gL gs))) (.sh (.tuple (nL ws))) (.sh (.int s)) now' s4 s5) ?_ (by simp [finA, frE])
  show m_is_free [.sh (.tuple (gL gs)), .sh (.tuple (nL ws)), .sh (.int s), .un, .un, .un] = _
  unfold m_is_free
  rw [thenS_nx e1]
  cases h : isFr gs ws s with
  | true => rw [h] at e5; rw [thenS_nx e5]; rfl
  | false => rw [h] at e5; rw [thenS_rt e5]
def lcW (gs : List Gu) (w : Nat) : Nat := gs.foldl (fun w g => Nat.lcm w g.t.toNat) w
theorem lcm_le' {a b : Nat} (ha : 0 < a) (hb : 0 < b) : 0 < Nat.lcm a b ∧ Nat.lcm a b ≤ a * b :=
  ⟨Nat.lcm_pos ha hb, Nat.le_of_dvd (Nat.mul_pos ha hb) (Nat.lcm_dvd (Nat.dvd_mul_right _ _) (Nat.dvd_mul_left _ _))⟩
theorem lcW_b : ∀ (gs : List Gu) (w : Nat), (∀ g ∈ gs, g.ok) → 0 < w → 0 < lcW gs w ∧ lcW gs w ≤ w * 60 ^ gs.length
  | [], w, _, h => ⟨h, by simp [lcW]⟩
  | g :: gs, w, hg, h => by
    have t := (hg g List.mem_cons_self).t
    have l := lcm_le' h (show 0 < g.t.toNat by omega)
    have r := lcW_b gs (Nat.lcm w g.t.toNat) (fun g' h' => hg g' (List.mem_cons_of_mem _ h')) l.1
    refine ⟨r.1, Nat.le_trans r.2 ?_⟩
    rw [List.length_cons, Nat.pow_succ, ← Nat.mul_assoc, Nat.mul_right_comm]
    exact Nat.mul_le_mul_right _ (Nat.le_trans l.2 (Nat.mul_le_mul_left _ (by omega)))
theorem lcW_dvd : ∀ (gs : List Gu) (w : Nat), w ∣ lcW gs w ∧ ∀ g ∈ gs, g.t.toNat ∣ lcW gs w
  | [], w => ⟨Nat.dvd_refl _, fun g h => by cases h⟩
  | g :: gs, w => by
    obtain ⟨h1, h2⟩ := lcW_dvd gs (Nat.lcm w g.t.toNat)
    refine ⟨Nat.dvd_trans (Nat.dvd_lcm_left _ _) h1, fun g' h => ?_⟩
    rcases List.mem_cons.mp h with rfl | h
    · exact Nat.dvd_trans (Nat.dvd_lcm_right _ _) h1
    · exact h2 g' h
theorem fs_loop {A B : Sl} : ∀ (gs : List Gu) (w : Nat) (s3 s4 : Sl), (∀ g ∈ gs, g.ok) → 0 < w → w * 60 ^ gs.length < 18446744073709551616 → ∃ s3', forL (putG 3) q_free_starts_2 (gL gs) [A, B, .sh (.int w), s3, s4] = .ok .nx [A, B, .sh (.int (lcW gs w : Nat)), s3', s4]
  | [], w, s3, s4, _, _, _ => ⟨s3, rfl⟩
  | g :: gs, w, s3, s4, hg, h, hb => by
    have t := (hg g List.mem_cons_self).t
    have l := lcm_le' h (show 0 < g.t.toNat by omega)
    have hp : 0 < 60 ^ gs.length := Nat.pow_pos (by decide)
    have hb2 : Nat.lcm w g.t.toNat * 60 ^ gs.length < 18446744073709551616 := by
      refine Nat.lt_of_le_of_lt ?_ hb
      rw [List.length_cons, Nat.pow_succ, ← Nat.mul_assoc, Nat.mul_right_comm]
      exact Nat.mul_le_mul_right _ (Nat.le_trans l.2 (Nat.mul_le_mul_left _ (by omega)))
    have hw : w < 18446744073709551616 := by
      refine Nat.lt_of_le_of_lt ?_ hb
      exact Nat.le_mul_of_pos_right _ (Nat.pow_pos (by decide))
    obtain ⟨s3', e⟩ := fs_loop (A := A) (B := B) gs (Nat.lcm w g.t.toNat) (.sh (gu g)) s4 (fun g' h' => hg g' (List.mem_cons_of_mem _ h')) l.1 hb2
    refine ⟨s3', ?_⟩
    have lm := lcm_ii (i := (w : Int)) (j := g.t) (by simpa using hw) (by omega)
    rw [Int.natAbs_natCast, show g.t.natAbs = g.t.toNat by omega] at lm
    show forL _ _ (gu g :: gL gs) _ = _
    rw [forL_cons']
    show turn (q_free_starts_2 [A, B, .sh (.int w), .sh (gu g), s4]) _ = _
    have e2 : q_free_starts_2 [A, B, .sh (.int w), .sh (gu g), s4] = .ok .nx [A, B, .sh (.int (Nat.lcm w g.t.toNat : Nat)), .sh (gu g), s4] := by
      simp [q_free_starts_2, lm]
    rw [e2, turn_nx', e]
    rfl
abbrev whole (gs : List Gu) : Nat := lcW gs 1
def freeL (gs : List Gu) (ws : List Int) : List Int := ((List.range (whole gs)).filter fun i : Nat => isFr gs ws (0 + (i : Int))).map fun i : Nat => 0 + (i : Int)
theorem p6 {n : Nat} (h : n ≤ 6) : 60 ^ n ≤ 46656000000 := by
  have : 60 ^ n ≤ 60 ^ 6 := Nat.pow_le_pow_right (by decide) h
  exact Nat.le_trans this (by decide)
section
variable {gs : List Gu} {ws : List Int}
theorem fs_pre (hg : ∀ g ∈ gs, g.ok) (hl : gs.length ≤ 6) (f : P Fl) : ∃ s3, (thenS q_free_starts_1 (thenS q_free_starts_3 f)) [.sh (.tuple (gL gs)), .sh (.tuple (nL ws)), .un, .un, .un] = f [.sh (.tuple (gL gs)), .sh (.tuple (nL ws)), .sh (.int (whole gs : Nat)), s3, .un] := by
  have hp := p6 hl
  obtain ⟨s3, el⟩ := fs_loop (A := .sh (.tuple (gL gs))) (B := .sh (.tuple (nL ws))) gs 1 .un .un hg (by decide) (by omega)
  have e1 : q_free_starts_1 [.sh (.tuple (gL gs)), .sh (.tuple (nL ws)), .un, .un, .un] = .ok .nx [.sh (.tuple (gL gs)), .sh (.tuple (nL ws)), .sh (.int (1 : Nat)), .un, .un] := by simp [q_free_starts_1]
  have e3 : q_free_starts_3 [.sh (.tuple (gL gs)), .sh (.tuple (nL ws)), .sh (.int (1 : Nat)), .un, .un] = _ := (forF_ls (ds := gL gs) (ρ1 := [.sh (.tuple (gL gs)), .sh (.tuple (nL ws)), .sh (.int (1 : Nat)), .un, .un]) (by simp)).trans el
  exact ⟨s3, by rw [thenS_nx e1, thenS_nx e3]⟩
theorem fs_much (hg : ∀ g ∈ gs, g.ok) (hl : gs.length ≤ 6) (h : 5000 < whole gs) : M_free_starts [.sh (.tuple (gL gs)), .sh (.tuple (nL ws))] = .err 4 [.un, .un] := by
  obtain ⟨s3, e⟩ := fs_pre (ws := ws) hg hl (thenS q_free_starts_5 q_free_starts_6)
  refine bodyF_err (ρ := [.sh (.tuple (gL gs)), .sh (.tuple (nL ws)), .sh (.int (whole gs : Nat)), s3, .un]) ?_ (by simp [finA])
  have hc : gtI ((whole gs : Nat) : Int) 5000 = true := by unfold gtI; simp; omega
  refine Eq.trans e ?_
  generalize whole gs = w at *
  simp [q_free_starts_5, q_free_starts_4, hc]
theorem fs_lc {w : Nat} {s3 : Sl} (hg : ∀ g ∈ gs, g.ok) (hw : w ≤ 5000) : compL [4] (putG 4) (args [(.ex (callF M_is_free [.ex (shr 0), .ex (shr 1), .ex (shr 4)]))] truO) (shr 4) (rngL 0 w) [] [.sh (.tuple (gL gs)), .sh (.tuple (nL ws)), .sh (.int (w : Nat)), s3, .un] = .ok (((List.range w).filter fun i : Nat => isFr gs ws (0 + (i : Int))).map fun i : Nat => PyData.int (0 + (i : Int))) [.sh (.tuple (gL gs)), .sh (.tuple (nL ws)), .sh (.int (w : Nat)), s3, .un] := by
  have hf : ∀ s : Int, M_is_free [.sh (.tuple (gL gs)), .sh (.tuple (nL ws)), .sh (.int s)] = _ := fun s => free_ok (ws := ws) (s := s) hg
  generalize isFr gs ws = P at *
  generalize gL gs = G at *
  generalize nL ws = W at *
  rw [rngL_map]
  refine compL_sift (α := Nat) (p := fun i : Nat => P (0 + (i : Int))) (f := fun i : Nat => PyData.int (0 + (i : Int))) (List.range w) (by simp; omega) fun i hi => ?_
  refine ⟨[.sh (.tuple G), .sh (.tuple W), .sh (.int (w : Nat)), s3, .sh (.int (0 + (i : Int)))], rfl, [.sh (.tuple G), .sh (.tuple W), .sh (.int (w : Nat)), s3, .sh (.int (0 + (i : Int)))], ?_, fun _ => rfl, fun _ => ⟨.val (.int (0 + (i : Int))), [.sh (.tuple G), .sh (.tuple W), .sh (.int (w : Nat)), s3, .sh (.int (0 + (i : Int)))], rfl, rfl, rfl⟩⟩
  have := hf (0 + (i : Int))
  generalize 0 + (i : Int) = x at *
  simp [this]
theorem fs_ok (hg : ∀ g ∈ gs, g.ok) (hl : gs.length ≤ 6) (h : whole gs ≤ 5000) : M_free_starts [.sh (.tuple (gL gs)), .sh (.tuple (nL ws))] = .ok (.val (.tuple (nL (freeL gs ws)))) [.un, .un] := by
  obtain ⟨s3, e⟩ := fs_pre (ws := ws) hg hl (thenS q_free_starts_5 q_free_starts_6)
  refine bodyF_rt (ρ := [.sh (.tuple (gL gs)), .sh (.tuple (nL ws)), .sh (.int (whole gs : Nat)), s3, .un]) ?_ (by simp [finA])
  have hc : gtI ((whole gs : Nat) : Int) 5000 = false := by unfold gtI; simp; omega
  refine Eq.trans e ?_
  have hr := rng1_nat (n := whole gs) (by omega)
  have hlc := fs_lc (ws := ws) (s3 := s3) hg h
  have ef : (((List.range (whole gs)).filter fun i : Nat => isFr gs ws (0 + (i : Int))).map fun i : Nat => PyData.int (0 + (i : Int))) = nL (freeL gs ws) := by simp [nL, freeL]
  rw [ef] at hlc
  generalize nL (freeL gs ws) = F at *
  generalize whole gs = w at *
  generalize gL gs = G at *
  generalize nL ws = W at *
  simp [q_free_starts_5, q_free_starts_6, hc, lcF_ap', hr, hlc]
end
/-! ### the law's round -/
theorem round_loop {A : Sl} {one step : Nat} (h1 : 0 < one) (h1' : one < 1000) (hs : 0 < step) : ∀ (k n j : Nat), 1 ≤ j → step * j + step * k = Nat.lcm step one → k < n → whileF n (seq (args [(.ex (args [(.ex (args [(.sl 1), (.sl 2)] (f2 fdivD))), (.sl 2)] (f2 mulD))), (.sl 1)] (f2 (neD))) toB) q__law_round_3 [A, .sh (.int (step * j : Nat)), .sh (.int one), .sh (.int step)] = .ok .nx [A, .sh (.int (Nat.lcm step one : Nat)), .sh (.int one), .sh (.int step)] := by
  have cond : ∀ x : Nat, (seq (args [(.ex (args [(.ex (args [(.sl 1), (.sl 2)] (f2 fdivD))), (.sl 2)] (f2 mulD))), (.sl 1)] (f2 (neD))) toB) [A, .sh (.int (x : Nat)), .sh (.int one), .sh (.int step)] = .ok (!decide (one ∣ x)) [A, .sh (.int (x : Nat)), .sh (.int one), .sh (.int step)] := fun x => by
    have d := fdiv_ii (i := (x : Int)) (j := (one : Int)) (by omega) (by omega)
    have m : mulD (.int ((x : Int) / (one : Int))) (.int (one : Int)) = _ := mul_ii (mulOk_r (by omega))
    have e : ((x : Int) / (one : Int) * (one : Int) == (x : Int)) = decide (one ∣ x) := by
      rw [Bool.eq_iff_iff, beq_iff_eq, decide_eq_true_eq, ← Int.natCast_ediv, ← Int.natCast_mul]
      constructor
      · intro h
        exact ⟨x / one, by rw [Nat.mul_comm]; omega⟩
      · intro h
        rw [Nat.div_mul_cancel h]
    simp [d, m, e]
  intro k
  induction k with
  | zero =>
    intro n j hj he hn
    obtain ⟨n, rfl⟩ : ∃ i, n = i + 1 := ⟨n - 1, by omega⟩
    have he : step * j = Nat.lcm step one := by simpa using he
    rw [whileF_s, cond, he, decide_eq_true (Nat.dvd_lcm_right step one)]
    rfl
  | succ k ih =>
    intro n j hj he hn
    obtain ⟨n, rfl⟩ : ∃ i, n = i + 1 := ⟨n - 1, by omega⟩
    have hnd : ¬ one ∣ step * j := fun hd => by
      have := Nat.le_of_dvd (Nat.mul_pos hs (by omega)) (Nat.lcm_dvd (Nat.dvd_mul_right step j) hd)
      have : 0 < step * (k + 1) := Nat.mul_pos hs (by omega)
      omega
    have e3 : q__law_round_3 [A, .sh (.int (step * j : Nat)), .sh (.int one), .sh (.int step)] = .ok .nx [A, .sh (.int (step * (j + 1) : Nat)), .sh (.int one), .sh (.int step)] := by
      have : ((step * j : Nat) : Int) + (step : Int) = ((step * (j + 1) : Nat) : Int) := by rw [Nat.mul_succ]; omega
      generalize hx : step * j = x at *
      generalize hy : step * (j + 1) = y at *
      simp [q__law_round_3, this]
    rw [whileF_s, cond, decide_eq_false hnd, bind_ok, if_pos (show (!false) = true from rfl), e3, turn_nx']
    exact ih n (j + 1) (by omega) (by rw [← he, Nat.mul_succ, Nat.mul_succ]; omega) (by omega)
theorem round_turn {A : Sl} {one step : Nat} {s3 : Sl} (h1 : 0 < one) (h1' : one < 1000) (hs : 0 < step) : thenS q__law_round_2 q__law_round_4 [A, .sh (.int step), .sh (.int one), s3] = .ok .nx [A, .sh (.int (Nat.lcm step one : Nat)), .sh (.int one), .sh (.int step)] := by
  have e2 : q__law_round_2 [A, .sh (.int step), .sh (.int one), s3] = .ok .nx [A, .sh (.int step), .sh (.int one), .sh (.int step)] := by simp [q__law_round_2]
  obtain ⟨k, hk⟩ : ∃ k, step * 1 + step * k = Nat.lcm step one := by
    obtain ⟨q, hq⟩ := Nat.dvd_lcm_left step one
    have hp := Nat.lcm_pos hs h1
    cases q with
    | zero => rw [hq] at hp; simp at hp
    | succ q => exact ⟨q, by rw [hq, Nat.mul_add, Nat.mul_one]; omega⟩
  have hkb : k < 20000 := by
    have l := (lcm_le' hs h1).2
    have : step * (k + 1) ≤ step * one := by rw [Nat.mul_succ]; omega
    have := Nat.le_of_mul_le_mul_left this hs
    omega
  have lp := round_loop (A := A) h1 h1' hs k 20000 1 (Nat.le_refl _) hk hkb
  rw [Nat.mul_one] at lp
  rw [thenS_nx e2]
  exact lp
theorem round_fold {A : Sl} : ∀ (gs : List Gu) (w : Nat) (s2 s3 : Sl), (∀ g ∈ gs, g.ok) → 0 < w → ∃ s2' s3', forL (putG 2) (thenS q__law_round_2 q__law_round_4) (nL (gs.map Gu.t)) [A, .sh (.int w), s2, s3] = .ok .nx [A, .sh (.int (lcW gs w : Nat)), s2', s3']
  | [], w, s2, s3, _, _ => ⟨s2, s3, rfl⟩
  | g :: gs, w, s2, s3, hg, h => by
    have t := (hg g List.mem_cons_self).t
    have l := lcm_le' h (show 0 < g.t.toNat by omega)
    obtain ⟨s2', s3', e⟩ := round_fold (A := A) gs (Nat.lcm w g.t.toNat) (.sh (.int (g.t.toNat : Nat))) (.sh (.int w)) (fun g' h' => hg g' (List.mem_cons_of_mem _ h')) l.1
    refine ⟨s2', s3', ?_⟩
    have et : g.t = ((g.t.toNat : Nat) : Int) := by omega
    show forL _ _ (.int g.t :: nL (gs.map Gu.t)) _ = _
    rw [forL_cons']
    show turn (thenS q__law_round_2 q__law_round_4 [A, .sh (.int w), .sh (.int g.t), s3]) _ = _
    rw [et, round_turn (by omega) (by omega) h, turn_nx', e]
    rfl
theorem round_ok {gs : List Gu} (hg : ∀ g ∈ gs, g.ok) : M__law_round [.sh (.list (nL (gs.map Gu.t)))] = .ok (.val (.int (whole gs : Nat))) [.un] := by
  obtain ⟨s2, s3, el⟩ := round_fold (A := .sh (.list (nL (gs.map Gu.t)))) gs 1 .un .un hg (by decide)
  have e1 : q__law_round_1 [.sh (.list (nL (gs.map Gu.t))), .un, .un, .un] = .ok .nx [.sh (.list (nL (gs.map Gu.t))), .sh (.int (1 : Nat)), .un, .un] := by simp [q__law_round_1]
  have e5 : q__law_round_5 [.sh (.list (nL (gs.map Gu.t))), .sh (.int (1 : Nat)), .un, .un] = _ := (forF_ls (ds := nL (gs.map Gu.t)) (ρ1 := [.sh (.list (nL (gs.map Gu.t))), .sh (.int (1 : Nat)), .un, .un]) (by simp)).trans el
  refine bodyF_rt (ρ := [.sh (.list (nL (gs.map Gu.t))), .sh (.int (whole gs : Nat)), s2, s3]) ?_ (by simp [finA])
  show m__law_round [.sh (.list (nL (gs.map Gu.t))), .un, .un, .un] = _
  unfold m__law_round
  rw [thenS_nx e1, thenS_nx e5]
  simp [q__law_round_6]
end K75

set_option Elab.async false
set_option linter.all false
set_option maxRecDepth 100000
set_option maxHeartbeats 2000000
namespace K75
open PySem PySem.Spec PyProof.Rows L2 L3
/-! ### the law's begins -/
theorem gL_at {gs : List Gu} {k : Nat} (h : k < gs.length) : L2.atI (gL gs) (k : Int) = some (gu gs[k]) := by
  rw [atI_nat (by rw [gL_len]; exact h)]
  simp [gL, h]
theorem nL_at {ns : List Int} {k : Nat} (h : k < ns.length) : L2.atI (nL ns) (k : Int) = some (.int ns[k]) := by
  rw [atI_nat (by rw [nL_len]; exact h)]
  simp [nL, h]
def beE (G W : List D) (C : Sl) (found : List Int) (now : Int) (s5 s6 : Sl) : En := [.sh (.tuple G), .sh (.tuple W), C, .ow (.lst (nL found)), .sh (.int now), s5, s6]
section
variable {G W : List D} {C : Sl} {g : Gu} {k : Nat}
def beC : P Bool := (andP (notP (args [(.ex (callF M__law_can [.ex (args [(.sl 0), (.sl 5)] (f2 ixD)), .ex (shr 4)]))] truO)) (seq (args [(.sl 6), (.ex (kst (.int 200)))] (f2 (ordD ltI))) toB))
theorem be_loop (hG : L2.atI G (k : Int) = some (gu g)) (ok : g.ok) (cr : g.c ≤ g.t - g.f) {found : List Int} {m : Int} : ∀ (j n : Nat) (i : Int), 0 ≤ i → wt g m - i = j → j < n → whileF n beC q__law_begins_3 (beE G W C found (m + i) (.sh (.int k)) (.sh (.int i))) = .ok .nx (beE G W C found (nb g m) (.sh (.int k)) (.sh (.int (wt g m)))) := by
  intro j
  have wb := wt_b (m := m) ok
  induction j with
  | zero =>
    intro n i h0 hj hn
    obtain ⟨n, rfl⟩ : ∃ j, n = j + 1 := ⟨n - 1, by omega⟩
    obtain rfl : i = wt g m := by omega
    have c := lawcan_ok (m := m + wt g m) ok
    rw [wt_can ok cr] at c
    have ec : beC (beE G W C found (m + wt g m) (.sh (.int k)) (.sh (.int (wt g m)))) = .ok false (beE G W C found (m + wt g m) (.sh (.int k)) (.sh (.int (wt g m)))) := by
      unfold beC beE
      generalize nL found = F at *
      simp [hG, c]
    rw [whileF_s, ec]
    rfl
  | succ j ih =>
    intro n i h0 hj hn
    obtain ⟨n, rfl⟩ : ∃ j, n = j + 1 := ⟨n - 1, by omega⟩
    have c := lawcan_ok (m := m + i) ok
    rw [wt_no ok h0 (by omega)] at c
    have hl : ltI i 200 = true := by unfold ltI; simp; omega
    have ec : beC (beE G W C found (m + i) (.sh (.int k)) (.sh (.int i))) = .ok true (beE G W C found (m + i) (.sh (.int k)) (.sh (.int i))) := by
      unfold beC beE
      generalize nL found = F at *
      simp [hG, c, hl]
    have e3 : q__law_begins_3 (beE G W C found (m + i) (.sh (.int k)) (.sh (.int i))) = .ok .nx (beE G W C found (m + (i + 1)) (.sh (.int k)) (.sh (.int (i + 1)))) := by
      have : m + i + 1 = m + (i + 1) := by omega
      unfold beE
      generalize nL found = F at *
      simp [q__law_begins_3, this]
    rw [whileF_s, ec, bind_ok, if_pos rfl, e3, turn_nx']
    exact ih n (i + 1) (by omega) (by omega) (by omega)
theorem be_turn {w now : Int} {s6 : Sl} {found : List Int} (hG : L2.atI G (k : Int) = some (gu g)) (hW : L2.atI W (k : Int) = some (.int w)) (ok : g.ok) (cr : g.c ≤ g.t - g.f) (hl : found.length ≤ 1000) :
    thenS q__law_begins_2 (thenS q__law_begins_4 (thenS q__law_begins_6 (thenS q__law_begins_7 q__law_begins_8))) (beE G W C found now (.sh (.int k)) s6) = .ok .nx (beE G W C (found ++ [nb g (now + w)]) (nb g (now + w) + g.c) (.sh (.int k)) (.sh (.int (wt g (now + w))))) := by
  have wb := wt_b (m := now + w) ok
  have e2 : q__law_begins_2 (beE G W C found now (.sh (.int k)) s6) = .ok .nx (beE G W C found (now + w) (.sh (.int k)) (.sh (.int 0))) := by
    unfold beE
    generalize nL found = F at *
    simp [q__law_begins_2, hW]
  have e4 := be_loop (C := C) (W := W) (found := found) (m := now + w) hG ok cr (wt g (now + w)).toNat 20000 0 (by omega) (by omega) (by omega)
  rw [Int.add_zero] at e4
  have e4 : q__law_begins_4 (beE G W C found (now + w) (.sh (.int k)) (.sh (.int 0))) = _ := e4
  have e6 : q__law_begins_6 (beE G W C found (nb g (now + w)) (.sh (.int k)) (.sh (.int (wt g (now + w))))) = .ok .nx (beE G W C found (nb g (now + w)) (.sh (.int k)) (.sh (.int (wt g (now + w))))) := by
    have h1 : (wt g (now + w) == 200) = false := by simp; omega
    have h2 : gtI (wt g (now + w)) (g.f + g.c - 1) = false := by unfold gtI; simp; omega
    unfold beE
    generalize nL found = F at *
    generalize wt g (now + w) = x at *
    generalize nb g (now + w) = y at *
    simp [q__law_begins_6, hG, h1, h2]
  have ap := append_ap (ds := nL found) (d := .int (nb g (now + w))) (by rw [nL_len]; omega)
  rw [nL_app] at ap
  have e7 : q__law_begins_7 (beE G W C found (nb g (now + w)) (.sh (.int k)) (.sh (.int (wt g (now + w))))) = .ok .nx (beE G W C (found ++ [nb g (now + w)]) (nb g (now + w)) (.sh (.int k)) (.sh (.int (wt g (now + w))))) := by
    unfold beE
    generalize nL (found ++ [nb g (now + w)]) = F1 at *
    generalize nL found = F at *
    simp [q__law_begins_7, ap]
  have e8 : q__law_begins_8 (beE G W C (found ++ [nb g (now + w)]) (nb g (now + w)) (.sh (.int k)) (.sh (.int (wt g (now + w))))) = .ok .nx (beE G W C (found ++ [nb g (now + w)]) (nb g (now + w) + g.c) (.sh (.int k)) (.sh (.int (wt g (now + w))))) := by
    unfold beE
    generalize nL (found ++ [nb g (now + w)]) = F1 at *
    simp [q__law_begins_8, hG]
  rw [thenS_nx e2, thenS_nx e4, thenS_nx e6, thenS_nx e7, e8]
end
theorem begins_ok {gs : List Gu} {ws : List Int} {s : Int} (hg : ∀ g ∈ gs, g.ok) (hl : gs.length ≤ 6) (hw : gs.length = ws.length) (hc : allCr gs = true) : M__law_begins [.sh (.tuple (gL gs)), .sh (.tuple (nL ws)), .sh (.int s)] = .ok (.own (.lst (nL (bg gs ws s)))) [.un, .un, .un] := by
  have hcr : ∀ g ∈ gs, g.c ≤ g.t - g.f := fun g h => by simpa using List.all_eq_true.mp hc g h
  have e1 : q__law_begins_1 [.sh (.tuple (gL gs)), .sh (.tuple (nL ws)), .sh (.int s), .un, .un, .un, .un] = .ok .nx (beE (gL gs) (nL ws) (.sh (.int s)) [] s .un .un) := by
    simp [q__law_begins_1, beE, nL]
  obtain ⟨ρ', hL, found, now, s5, s6, hf, hlen, rfl⟩ := forL_ind (tg := putG 5) (b := thenS q__law_begins_2 (thenS q__law_begins_4 (thenS q__law_begins_6 (thenS q__law_begins_7 q__law_begins_8)))) (f := fun i : Nat => PyData.int (0 + (i : Int))) (n := gs.length) (I := fun k ρ => ∃ found now s5 s6, found ++ bg (gs.drop k) (ws.drop k) now = bg gs ws s ∧ found.length = k ∧ ρ = beE (gL gs) (nL ws) (.sh (.int s)) found now s5 s6) (ρ := beE (gL gs) (nL ws) (.sh (.int s)) [] s .un .un) ⟨[], s, .un, .un, rfl, rfl, rfl⟩ fun k hk ρ hI => by
    obtain ⟨found, now, s5, s6, hf, hlen, rfl⟩ := hI
    have hkw : k < ws.length := by omega
    have e0 : (0 + (k : Int)) = (k : Int) := by omega
    refine ⟨beE (gL gs) (nL ws) (.sh (.int s)) found now (.sh (.int k)) s6, by rw [e0]; rfl, _, be_turn (gL_at hk) (nL_at hkw) (hg _ (List.getElem_mem hk)) (hcr _ (List.getElem_mem hk)) (by omega), found ++ [nb gs[k] (now + ws[k])], nb gs[k] (now + ws[k]) + gs[k].c, _, _, ?_, by simp [hlen], rfl⟩
    rw [List.drop_eq_getElem_cons hk, List.drop_eq_getElem_cons hkw] at hf
    rw [← hf, List.append_assoc]
    rfl
  have hr := rng1_nat (n := gs.length) (by omega)
  have hgl := gL_len (gs := gs)
  have e9 : q__law_begins_9 (beE (gL gs) (nL ws) (.sh (.int s)) [] s .un .un) = _ := (forF_ls (ds := rngL 0 gs.length) (ρ1 := beE (gL gs) (nL ws) (.sh (.int s)) [] s .un .un) (by unfold beE; generalize gL gs = G at *; simp [hgl, hr])).trans hL
  have hb : found = bg gs ws s := by
    rw [List.drop_length, hw, List.drop_length] at hf
    rw [← hf]
    simp [bg]
  subst hb
  refine bodyF_rt (ρ := [.sh (.tuple (gL gs)), .sh (.tuple (nL ws)), .sh (.int s), .un, .sh (.int now), s5, s6]) ?_ (by simp [finA])
  show m__law_begins [.sh (.tuple (gL gs)), .sh (.tuple (nL ws)), .sh (.int s), .un, .un, .un, .un] = _
  unfold m__law_begins
  rw [thenS_nx e1, thenS_nx e9]
  unfold beE
  simp [q__law_begins_10]
/-! ### a drawn gully -/
theorem gully_ok {L : List Int} {t : Int} {j : Nat} (ht : 2 ≤ t ∧ t ≤ 60) : ∃ (g : Gu) (L' : List Int), g.ok ∧ g.t = t ∧ M__law_gully [.bo j (dw L), .sh (.int t)] = .ok (.val (gu g)) [.bo j (dw L'), .un] := by
  have t1 : 0 < t - 1 := by omega
  have a1 := tkR_nn (L := L) t1
  have a2 := tkR_lt (L := L) t1
  obtain ⟨f, hf⟩ : ∃ f, 1 + tkR L (t - 1) = f := ⟨_, rfl⟩
  have hfb : 1 ≤ f ∧ f < t := by omega
  have k1 := take_dw (L := L) (b := t - 1) (j := 0) t1
  have b1 := tkR_nn (L := tkL L) (b := 60) (by decide)
  have b2 := tkR_lt (L := tkL L) (b := 60) (by decide)
  obtain ⟨mx, hmx, hmb⟩ : ∃ mx, max2D (.int (t - f)) (.int 1) = some (.val (.int mx)) ∧ 0 < mx ∧ mx ≤ 59 := by
    refine ⟨_, max_ii, ?_, ?_⟩ <;> split <;> omega
  obtain ⟨mn, hmn, hnb⟩ : ∃ mn, min2D (.int (t - f + 1)) (.int 60) = some (.val (.int mn)) ∧ 1 ≤ mn ∧ mn ≤ 60 := by
    refine ⟨_, min_ii, ?_, ?_⟩ <;> split <;> omega
  have c1 := tkR_nn (L := tkL (tkL L)) hmb.1
  have c2 := tkR_lt (L := tkL (tkL L)) hmb.1
  have k2 := take_dw (L := tkL L) (b := 60) (j := 0) (by decide)
  have k3 := take_dw (L := tkL (tkL L)) (b := mx) (j := 0) hmb.1
  have k4 := take_dw (L := tkL (tkL (tkL L))) (b := 3) (j := 0) (by decide)
  have k5 := take_dw (L := tkL (tkL (tkL (tkL L)))) (b := 5) (j := 0) (by decide)
  have e1 : q__law_gully_1 [.bo j (dw L), .sh (.int t), .un, .un] = .ok .nx [.bo j (dw (tkL L)), .sh (.int t), .sh (.int f), .un] := by
    simp [q__law_gully_1, k1, hf]
  have fin : ∀ (c : Int) (L2 : List Int), 1 ≤ c ∧ c ≤ 60 → q__law_gully_2 [.bo j (dw (tkL L)), .sh (.int t), .sh (.int f), .un] = .ok .nx [.bo j (dw L2), .sh (.int t), .sh (.int f), .sh (.int c)] → ∃ (g : Gu) (L' : List Int), g.ok ∧ g.t = t ∧ M__law_gully [.bo j (dw L), .sh (.int t)] = .ok (.val (gu g)) [.bo j (dw L'), .un] := fun c L2 hc e2 => by
    have d1 := tkR_nn (L := L2) (b := t) (by omega)
    have d2 := tkR_lt (L := L2) (b := t) (by omega)
    have k6 := take_dw (L := L2) (b := t) (j := 0) (by omega)
    refine ⟨⟨t, tkR L2 t, f, c⟩, tkL L2, ⟨ht, ⟨d1, d2⟩, hfb, hc⟩, rfl, ?_⟩
    refine bodyF_rt (ρ := [.bo j (dw (tkL L2)), .sh (.int t), .sh (.int f), .sh (.int c)]) ?_ (by simp [finA])
    show m__law_gully [.bo j (dw L), .sh (.int t), .un, .un] = _
    unfold m__law_gully
    rw [thenS_nx e1, thenS_nx e2]
    simp [q__law_gully_3, k6]
    rfl
  by_cases hz : tkR (tkL (tkL (tkL L))) 3 = 0
  · obtain ⟨x, hx, ex⟩ := pick5 (x := .int 1) (y := .int (t - f)) (z := .int (1 + tkR (tkL L) 60)) (u := .int (1 + tkR (tkL (tkL L)) mx)) (v := .int mn) (L := tkL (tkL (tkL (tkL L))))
    obtain ⟨c, rfl, hc⟩ : ∃ c : Int, x = .int c ∧ 1 ≤ c ∧ c ≤ 60 := by
      rcases hx with rfl | rfl | rfl | rfl | rfl
      · exact ⟨_, rfl, by decide⟩
      · exact ⟨_, rfl, by omega⟩
      · exact ⟨_, rfl, by omega⟩
      · exact ⟨_, rfl, by omega⟩
      · exact ⟨_, rfl, by omega⟩
    refine fin c (tkL (tkL (tkL (tkL (tkL L))))) hc ?_
    simp [-max_ii, -min_ii, q__law_gully_2, hmx, hmn, k2, k3, k4, k5, hz, ex]
  · refine fin (1 + tkR (tkL (tkL L)) mx) (tkL (tkL (tkL (tkL L)))) (by omega) ?_
    have e3 : L2.atI [.int 1, .int (t - f), .int (1 + tkR (tkL L) 60), .int (1 + tkR (tkL (tkL L)) mx), .int mn] (3 : Int) = some (PyData.int (1 + tkR (tkL (tkL L)) mx)) := rfl
    simp [-max_ii, -min_ii, q__law_gully_2, hmx, hmn, k2, k3, k4, hz, e3]
/-! ### told -/
theorem at_m0 {a b : List Sl → Res RV} : L2.atI [a, b] 0 = some a := rfl
theorem at_m1 {a b : List Sl → Res RV} : L2.atI [a, b] 1 = some b := rfl
section
variable {a b c d : D}
theorem told0 (h : M_earliest_begins [.sh a, .sh b, .sh c] = .ok (.val d) [.un, .un, .un]) : M__law_told [.sh (.int 0), .sh a, .sh b, .sh c] = .ok (.val d) [.un, .un, .un, .un] := by
  refine bodyF_rt (ρ := [.sh (.int 0), .sh a, .sh b, .sh c, .un]) ?_ (by simp [finA])
  have hl : ltI 0 2 = true := rfl
  simp [m__law_told, q__law_told_1, q__law_told_2, q__law_told_3, q__law_told_4, hl, at_m0, h]
theorem told1 (h : M_arrival [.sh a, .sh b, .sh c] = .ok (.val d) [.un, .un, .un]) : M__law_told [.sh (.int 1), .sh a, .sh b, .sh c] = .ok (.val d) [.un, .un, .un, .un] := by
  refine bodyF_rt (ρ := [.sh (.int 1), .sh a, .sh b, .sh c, .un]) ?_ (by simp [finA])
  have hl : ltI 1 2 = true := rfl
  simp [m__law_told, q__law_told_1, q__law_told_2, q__law_told_3, q__law_told_4, hl, at_m1, h]
theorem told0_no (h : M_earliest_begins [.sh a, .sh b, .sh c] = .err 0 [.un, .un, .un]) : M__law_told [.sh (.int 0), .sh a, .sh b, .sh c] = .ok (.val (.str "range")) [.un, .un, .un, .un] := by
  refine bodyF_rt (ρ := [.sh (.int 0), .sh a, .sh b, .sh c, .un]) ?_ (by simp [finA])
  have hl : ltI 0 2 = true := rfl
  simp [m__law_told, q__law_told_1, q__law_told_2, q__law_told_3, q__law_told_4, hl, at_m0, h]
theorem told1_no (h : M_arrival [.sh a, .sh b, .sh c] = .err 0 [.un, .un, .un]) : M__law_told [.sh (.int 1), .sh a, .sh b, .sh c] = .ok (.val (.str "range")) [.un, .un, .un, .un] := by
  refine bodyF_rt (ρ := [.sh (.int 1), .sh a, .sh b, .sh c, .un]) ?_ (by simp [finA])
  have hl : ltI 1 2 = true := rfl
  simp [m__law_told, q__law_told_1, q__law_told_2, q__law_told_3, q__law_told_4, hl, at_m1, h]
theorem told2 (h : M_free_starts [.sh a, .sh b] = .ok (.val d) [.un, .un]) : M__law_told [.sh (.int 2), .sh a, .sh b, .sh c] = .ok (.val d) [.un, .un, .un, .un] := by
  refine bodyF_rt (ρ := [.sh (.int 2), .sh a, .sh b, .sh c, .un]) ?_ (by simp [finA])
  have hl : ltI 2 2 = false := rfl
  simp [m__law_told, q__law_told_1, q__law_told_2, q__law_told_3, q__law_told_4, hl, h]
theorem told2_much (h : M_free_starts [.sh a, .sh b] = .err 4 [.un, .un]) : M__law_told [.sh (.int 2), .sh a, .sh b, .sh c] = .ok (.val (.str "much")) [.un, .un, .un, .un] := by
  refine bodyF_rt (ρ := [.sh (.int 2), .sh a, .sh b, .sh c, .un]) ?_ (by simp [finA])
  have hl : ltI 2 2 = false := rfl
  simp [m__law_told, q__law_told_1, q__law_told_2, q__law_told_3, q__law_told_4, hl, h]
end
end K75

set_option Elab.async false
set_option linter.all false
set_option maxRecDepth 100000
set_option maxHeartbeats 2000000
namespace K75
open PySem PySem.Spec PyProof.Rows L2 L3
/-! ### plain facts -/
theorem can_mod {g : Gu} (h : g.ok) {x : Int} : can g (x % g.t) = can g x := by
  have e : (x % g.t - g.r) % g.t = (x - g.r) % g.t := by
    rw [Int.sub_emod (x % g.t), Int.emod_emod, ← Int.sub_emod]
  unfold can
  rw [e]
theorem can_add {g : Gu} (h : g.ok) {x w : Int} (hd : g.t ∣ w) : can g (x + w) = can g x := by
  have e : (x + w - g.r) % g.t = (x - g.r) % g.t := by
    obtain ⟨q, rfl⟩ := hd
    rw [show x + g.t * q - g.r = x - g.r + g.t * q by omega, Int.add_mul_emod_self_left]
  unfold can
  rw [e]
theorem can_cr {g : Gu} {x : Int} (h : can g x = true) : g.c ≤ g.t - g.f := by
  unfold can at h
  rw [Bool.and_eq_true, decide_eq_true_eq, decide_eq_true_eq] at h
  omega
def bh : List Gu → List Int → Int → List Int
  | g :: gs, w :: ws, now => (now + w) :: bh gs ws (now + w + g.c)
  | _, _, _ => []
def tot : List Gu → List Int → Int → Int
  | g :: gs, w :: ws, now => tot gs ws (now + w + g.c)
  | _, _, now => now
theorem bh_len : ∀ (gs : List Gu) (ws : List Int) (now : Int), gs.length = ws.length → (bh gs ws now).length = gs.length
  | [], ws, _, _ => rfl
  | g :: gs, [], _, h => by simp at h
  | g :: gs, w :: ws, now, h => by
    show (bh gs ws _).length + 1 = gs.length + 1
    rw [bh_len gs ws _ (by simpa using h)]
theorem fr_all : ∀ (gs : List Gu) (ws : List Int) (now s : Int), gs.length = ws.length → (isFr gs ws (s + now) = true ↔ ∀ k (h : k < gs.length) (h2 : k < (bh gs ws now).length), can gs[k] (s + (bh gs ws now)[k]) = true)
  | [], ws, now, s, _ => by simp [isFr]
  | g :: gs, [], now, s, h => by simp at h
  | g :: gs, w :: ws, now, s, h => by
    have ih := fr_all gs ws (now + w + g.c) s (by simpa using h)
    have e1 : isFr (g :: gs) (w :: ws) (s + now) = (can g (s + now + w) && isFr gs ws (s + now + (w + g.c))) := rfl
    have e2 : s + now + (w + g.c) = s + (now + w + g.c) := by omega
    have e3 : s + now + w = s + (now + w) := by omega
    rw [e1, e2, e3, Bool.and_eq_true, ih]
    constructor
    · rintro ⟨h1, h2⟩ k hk hk2
      cases k with
      | zero => exact h1
      | succ k => exact h2 k (by simpa using hk) (by simpa [bh] using hk2)
    · intro ha
      exact ⟨ha 0 (by simp) (by simp [bh]), fun k hk hk2 => ha (k + 1) (by simpa using hk) (by simpa [bh] using hk2)⟩
theorem fr_bg : ∀ (gs : List Gu) (ws : List Int) (s : Int), gs.length = ws.length → 0 < gs.length → isFr gs ws s = true → lastI (bg gs ws s) + lastC gs = tot gs ws s
  | [], ws, s, _, h, _ => by simp at h
  | g :: gs, [], s, h, _, _ => by simp at h
  | g :: gs, w :: ws, s, h, _, hf => by
    have hf' : (can g (s + w) && isFr gs ws (s + (w + g.c))) = true := hf
    rw [Bool.and_eq_true] at hf'
    have en := nb_free hf'.1
    have eb : bg (g :: gs) (w :: ws) s = (s + w) :: bg gs ws (s + w + g.c) := by
      show nb g (s + w) :: bg gs ws (nb g (s + w) + g.c) = _
      rw [en]
    have et : tot (g :: gs) (w :: ws) s = tot gs ws (s + w + g.c) := rfl
    rw [eb, et]
    cases gs with
    | nil =>
      cases ws with
      | nil => rfl
      | cons w' ws => simp at h
    | cons g' gs =>
      have ih := fr_bg (g' :: gs) ws (s + w + g.c) (by simpa using h) (by simp) (by rw [show s + w + g.c = s + (w + g.c) by omega]; exact hf'.2)
      rw [← ih]
      cases ws with
      | nil => simp at h
      | cons w' ws =>
        have l1 : lastI ((s + w) :: bg (g' :: gs) (w' :: ws) (s + w + g.c)) = lastI (bg (g' :: gs) (w' :: ws) (s + w + g.c)) := by
          generalize hb : bg (g' :: gs) (w' :: ws) (s + w + g.c) = B
          have hB : 0 < B.length := by rw [← hb, bg_len _ _ _ (by simpa using h)]; simp
          unfold lastI
          obtain ⟨x, B, rfl⟩ := List.exists_cons_of_length_pos hB
          simp
        have l2 : lastC (g :: g' :: gs) = lastC (g' :: gs) := by unfold lastC; simp [List.getLast?_cons_cons]
        rw [l1, l2]
theorem tot_add : ∀ (gs : List Gu) (ws : List Int) (s now : Int), tot gs ws (s + now) = s + tot gs ws now
  | [], ws, s, now => by simp [tot]
  | g :: gs, [], s, now => by simp [tot]
  | g :: gs, w :: ws, s, now => by
    show tot gs ws (s + now + w + g.c) = s + tot gs ws (now + w + g.c)
    rw [show s + now + w + g.c = s + (now + w + g.c) by omega, tot_add]
theorem fr_cr : ∀ (gs : List Gu) (ws : List Int) (s : Int), gs.length = ws.length → isFr gs ws s = true → allCr gs = true
  | [], ws, s, _, _ => rfl
  | g :: gs, [], s, h, _ => by simp at h
  | g :: gs, w :: ws, s, h, hf => by
    have hf' : (can g (s + w) && isFr gs ws (s + (w + g.c))) = true := hf
    rw [Bool.and_eq_true] at hf'
    have := fr_cr gs ws _ (by simpa using h) hf'.2
    show (decide (g.c ≤ g.t - g.f) && allCr gs) = true
    rw [this, decide_eq_true (can_cr hf'.1)]
    rfl
theorem fr_add {W : Int} : ∀ (gs : List Gu) (ws : List Int) (s : Int), (∀ g ∈ gs, g.ok) → (∀ g ∈ gs, g.t ∣ W) → isFr gs ws (s + W) = isFr gs ws s
  | [], ws, s, _, _ => rfl
  | g :: gs, [], s, _, _ => rfl
  | g :: gs, w :: ws, s, hg, hd => by
    have ih := fr_add (W := W) gs ws (s + (w + g.c)) (fun g' h => hg g' (List.mem_cons_of_mem _ h)) (fun g' h => hd g' (List.mem_cons_of_mem _ h))
    show (can g (s + W + w) && isFr gs ws (s + W + (w + g.c))) = (can g (s + w) && isFr gs ws (s + (w + g.c)))
    rw [show s + W + w = s + w + W by omega, can_add (hg g List.mem_cons_self) (hd g List.mem_cons_self), show s + W + (w + g.c) = s + (w + g.c) + W by omega, ih]
theorem bg_mono : ∀ (gs : List Gu) (ws : List Int) (s s' : Int), (∀ g ∈ gs, g.ok) → allCr gs = true → s ≤ s' → ∀ k (h : k < (bg gs ws s).length) (h2 : k < (bg gs ws s').length), (bg gs ws s)[k] ≤ (bg gs ws s')[k]
  | [], ws, s, s', _, _, _, k, h, _ => by simp [bg] at h
  | g :: gs, [], s, s', _, _, _, k, h, _ => by simp [bg] at h
  | g :: gs, w :: ws, s, s', hg, hc, hs, k, h, h2 => by
    have hc' : (decide (g.c ≤ g.t - g.f) && allCr gs) = true := hc
    rw [Bool.and_eq_true, decide_eq_true_eq] at hc'
    have m := nb_mono (m := s + w) (m' := s' + w) (hg g List.mem_cons_self) hc'.1 (by omega)
    cases k with
    | zero => exact m
    | succ k => exact bg_mono gs ws _ _ (fun g' h => hg g' (List.mem_cons_of_mem _ h)) hc'.2 (by omega) k (by simpa [bg] using h) (by simpa [bg] using h2)
theorem mem_free {gs : List Gu} {ws : List Int} {x : Int} (h : x ∈ freeL gs ws) : 0 ≤ x ∧ x < whole gs ∧ isFr gs ws x = true := by
  unfold freeL at h
  obtain ⟨i, hi, rfl⟩ := List.mem_map.mp h
  rw [List.mem_filter] at hi
  have := List.mem_range.mp hi.1
  exact ⟨by omega, by omega, hi.2⟩
end K75

set_option Elab.async false
set_option linter.all false
set_option maxRecDepth 100000
set_option maxHeartbeats 4000000
namespace K75
open PySem PySem.Spec PyProof.Rows L2 L3
/-! ### the law -/
def E (L : List Int) (s2 s3 s4 s5 s6 s7 s8 s9 s10 s11 s12 s13 s14 s15 s16 s17 s18 s19 s20 s21 s22 s23 s24 s25 s26 s27 : Sl) : En := [.un, .ow (dw L), s2, s3, s4, s5, s6, s7, s8, s9, s10, s11, s12, s13, s14, s15, s16, s17, s18, s19, s20, s21, s22, s23, s24, s25, s26, s27]
theorem at4 {x y z u : D} {k : Int} (h : 0 ≤ k ∧ k < 4) : ∃ c, (c = x ∨ c = y ∨ c = z ∨ c = u) ∧ L2.atI [x, y, z, u] k = some c := by
  rcases (show k = 0 ∨ k = 1 ∨ k = 2 ∨ k = 3 by omega) with rfl | rfl | rfl | rfl
  · exact ⟨x, .inl rfl, rfl⟩
  · exact ⟨y, .inr (.inl rfl), rfl⟩
  · exact ⟨z, .inr (.inr (.inl rfl)), rfl⟩
  · exact ⟨u, .inr (.inr (.inr rfl)), rfl⟩
section
variable {L : List Int} {n : Nat} {gs : List Gu} {ws : List Int} {s2 s3 s4 s5 s6 s7 s8 s9 s10 s11 s12 s13 s14 s15 s16 s17 s18 s19 s20 s21 s22 s23 s24 s25 s26 s27 : Sl}
theorem g1 : ∃ (n : Nat) (kd : Int), (1 ≤ n ∧ n ≤ 6) ∧ (0 ≤ kd ∧ kd < 4) ∧ q_law_1 (E L s2 s3 s4 s5 s6 s7 s8 s9 s10 s11 s12 s13 s14 s15 s16 s17 s18 s19 s20 s21 s22 s23 s24 s25 s26 s27) = .ok .nx (E (tkL (tkL L)) s2 (.sh (.int n)) (.sh (.int kd)) s5 s6 s7 s8 s9 s10 s11 s12 s13 s14 s15 s16 s17 s18 s19 s20 s21 s22 s23 s24 s25 s26 s27) := by
  have a1 := tkR_nn (L := L) (b := 6) (by decide)
  have a2 := tkR_lt (L := L) (b := 6) (by decide)
  have b1 := tkR_nn (L := tkL L) (b := 4) (by decide)
  have b2 := tkR_lt (L := tkL L) (b := 4) (by decide)
  refine ⟨(1 + tkR L 6).toNat, tkR (tkL L) 4, by omega, ⟨b1, b2⟩, ?_⟩
  have e : (((1 + tkR L 6).toNat : Nat) : Int) = 1 + tkR L 6 := by omega
  rw [e]
  simp [q_law_1, E, take_dw]
def tOk (t : Int) : Prop := 2 ≤ t ∧ t ≤ 60
abbrev te2 : P RV := (args [(.ex (args [(.ex (kst (.int 12))), (.ex (args [(.ex (kst (.int 2))), (.ex (callF M__law_take [.mu 1, .ex (kst (.int 59))]))] (f2 addD))), (.ex (args [(.ex (args [(.ex (kst (.int 4))), (.ex (kst (.int 6))), (.ex (kst (.int 8))), (.ex (kst (.int 12))), (.ex (kst (.int 24)))] mkL)), (.ex (callF M__law_take [.mu 1, .ex (kst (.int 5))]))] (f2 ixD))), (.ex (args [(.ex (args [(.ex (kst (.int 7))), (.ex (kst (.int 9))), (.ex (kst (.int 10))), (.ex (kst (.int 11))), (.ex (kst (.int 60)))] mkL)), (.ex (callF M__law_take [.mu 1, .ex (kst (.int 5))]))] (f2 ixD)))] mkL)), (.sl 4)] (f2 ixD))
theorem t2 {kd : Int} (hk : 0 ≤ kd ∧ kd < 4) : ∃ t, tOk t ∧ te2 (E L s2 s3 (.sh (.int kd)) s5 s6 s7 s8 s9 s10 s11 s12 s13 s14 s15 s16 s17 s18 s19 s20 s21 s22 s23 s24 s25 s26 s27) = .ok (.val (.int t)) (E (tkL (tkL (tkL L))) s2 s3 (.sh (.int kd)) s5 s6 s7 s8 s9 s10 s11 s12 s13 s14 s15 s16 s17 s18 s19 s20 s21 s22 s23 s24 s25 s26 s27) := by
  have a1 := tkR_nn (L := L) (b := 59) (by decide)
  have a2 := tkR_lt (L := L) (b := 59) (by decide)
  obtain ⟨c, hc, ec⟩ := pick5 (x := .int 4) (y := .int 6) (z := .int 8) (u := .int 12) (v := .int 24) (L := tkL L)
  obtain ⟨x, rfl, hx⟩ : ∃ x : Int, c = .int x ∧ tOk x := by rcases hc with rfl | rfl | rfl | rfl | rfl <;> exact ⟨_, rfl, by unfold tOk; decide⟩
  obtain ⟨d, hd, ed⟩ := pick5 (x := .int 7) (y := .int 9) (z := .int 10) (u := .int 11) (v := .int 60) (L := tkL (tkL L))
  obtain ⟨y, rfl, hy⟩ : ∃ x : Int, d = .int x ∧ tOk x := by rcases hd with rfl | rfl | rfl | rfl | rfl <;> exact ⟨_, rfl, by unfold tOk; decide⟩
  obtain ⟨e, he, ee⟩ := at4 (x := .int 12) (y := .int (2 + tkR L 59)) (z := .int x) (u := .int y) hk
  obtain ⟨t, rfl, ht⟩ : ∃ x : Int, e = .int x ∧ tOk x := by
    rcases he with rfl | rfl | rfl | rfl
    · exact ⟨_, rfl, by unfold tOk; decide⟩
    · exact ⟨_, rfl, by unfold tOk; omega⟩
    · exact ⟨_, rfl, hx⟩
    · exact ⟨_, rfl, hy⟩
  refine ⟨t, ht, ?_⟩
  simp [te2, E, take_dw, ec, ed, ee]
theorem g2 {kd : Int} (hn : 1 ≤ n ∧ n ≤ 6) (hk : 0 ≤ kd ∧ kd < 4) : ∃ (ts : List Int) (L' : List Int) (s6' : Sl), ts.length = n ∧ (∀ t ∈ ts, tOk t) ∧ q_law_2 (E L s2 (.sh (.int n)) (.sh (.int kd)) s5 s6 s7 s8 s9 s10 s11 s12 s13 s14 s15 s16 s17 s18 s19 s20 s21 s22 s23 s24 s25 s26 s27) = .ok .nx (E L' s2 (.sh (.int n)) (.sh (.int kd)) (.ow (.lst (nL ts))) s6' s7 s8 s9 s10 s11 s12 s13 s14 s15 s16 s17 s18 s19 s20 s21 s22 s23 s24 s25 s26 s27) := by
  have hr := rng1_nat (n := n) (by omega)
  obtain ⟨ds, ρ', hc, hI, hl⟩ := compL_ind (vs := [6]) (tg := putG 6) (te := te2) (f := fun i : Nat => PyData.int (0 + (i : Int))) (n := n) (ρ := (E L s2 (.sh (.int n)) (.sh (.int kd)) s5 .un s7 s8 s9 s10 s11 s12 s13 s14 s15 s16 s17 s18 s19 s20 s21 s22 s23 s24 s25 s26 s27)) (I := fun i acc ρ => ∃ ts L', acc = nL ts ∧ (∀ t ∈ ts, tOk t) ∧ ρ = (E L' s2 (.sh (.int n)) (.sh (.int kd)) s5 .un s7 s8 s9 s10 s11 s12 s13 s14 s15 s16 s17 s18 s19 s20 s21 s22 s23 s24 s25 s26 s27)) (by omega) ⟨[], L, rfl, by simp, rfl⟩ fun i hi acc ρ hI ha => by
    obtain ⟨ts, L1, rfl, ht, rfl⟩ := hI
    obtain ⟨t, h1, e1⟩ := t2 (L := L1) (s2 := s2) (s5 := s5) (s7 := s7) (s8 := s8) (s9 := s9) (s10 := s10) (s11 := s11) (s12 := s12) (s13 := s13) (s14 := s14) (s15 := s15) (s16 := s16) (s17 := s17) (s18 := s18) (s19 := s19) (s20 := s20) (s21 := s21) (s22 := s22) (s23 := s23) (s24 := s24) (s25 := s25) (s26 := s26) (s27 := s27) (s3 := .sh (.int n)) (s6 := .sh (.int (0 + (i : Int)))) hk
    refine ⟨(E L1 s2 (.sh (.int n)) (.sh (.int kd)) s5 (.sh (.int (0 + (i : Int)))) s7 s8 s9 s10 s11 s12 s13 s14 s15 s16 s17 s18 s19 s20 s21 s22 s23 s24 s25 s26 s27), rfl, _, _, e1, ts ++ [t], _, by simp [nL], fun x hx => ?_, rfl⟩
    rcases List.mem_append.mp hx with hx | hx
    · exact ht x hx
    · obtain rfl : x = t := by simpa using hx
      exact h1
  obtain ⟨ts, L', rfl, ht, rfl⟩ := hI
  rw [nL_len] at hl
  refine ⟨ts, L', keepSh (some s6), hl, ht, ?_⟩
  have e := lcF_ls (vs := [6]) (src := (args [(.sl 3)] walkR1)) (tg := putG 6) (tt := ret true) (te := te2) (ρ := (E L s2 (.sh (.int n)) (.sh (.int kd)) s5 s6 s7 s8 s9 s10 s11 s12 s13 s14 s15 s16 s17 s18 s19 s20 s21 s22 s23 s24 s25 s26 s27)) (ρ1 := (E L s2 (.sh (.int n)) (.sh (.int kd)) s5 s6 s7 s8 s9 s10 s11 s12 s13 s14 s15 s16 s17 s18 s19 s20 s21 s22 s23 s24 s25 s26 s27)) (ds := rngL 0 n) (by simp [E, hr]) rfl hc rfl
  unfold q_law_2
  rw [seq_ap, e]
  rfl
theorem g3 {ts : List Int} (ht : ∀ t ∈ ts, tOk t) (hl : ts.length ≤ 6) : ∃ (gs : List Gu) (L' : List Int) (s8' : Sl), gs.map Gu.t = ts ∧ (∀ g ∈ gs, g.ok) ∧ q_law_3 (E L s2 s3 s4 (.ow (.lst (nL ts))) s6 s7 s8 s9 s10 s11 s12 s13 s14 s15 s16 s17 s18 s19 s20 s21 s22 s23 s24 s25 s26 s27) = .ok .nx (E L' s2 s3 s4 (.sh (.list (nL ts))) s6 (.sh (.tuple (gL gs))) s8' s9 s10 s11 s12 s13 s14 s15 s16 s17 s18 s19 s20 s21 s22 s23 s24 s25 s26 s27) := by
  obtain ⟨ds, ρ', hc, gs, L', hm, hok, rfl, rfl⟩ := compL_row (vs := [8]) (tg := putG 8) (te := callF M__law_gully [.mu 1, .ex (shr 8)]) (e := PyData.int) (I := fun xs acc ρ => ∃ gs L', gs.map Gu.t ++ xs = ts ∧ (∀ g ∈ gs, g.ok) ∧ acc = gL gs ∧ ρ = (E L' s2 s3 s4 (.sh (.list (nL ts))) s6 s7 .un s9 s10 s11 s12 s13 s14 s15 s16 s17 s18 s19 s20 s21 s22 s23 s24 s25 s26 s27)) ts (acc := []) (ρ := (E L s2 s3 s4 (.sh (.list (nL ts))) s6 s7 .un s9 s10 s11 s12 s13 s14 s15 s16 s17 s18 s19 s20 s21 s22 s23 s24 s25 s26 s27)) (by simp; omega) ⟨[], L, rfl, by simp, rfl, rfl⟩ fun t xs acc ρ hI => by
    obtain ⟨gs, L1, hm, hok, rfl, rfl⟩ := hI
    have h1 : tOk t := ht t (by rw [← hm]; simp)
    obtain ⟨g, L2, ok, et, e⟩ := gully_ok (L := L1) (t := t) (j := 0) h1
    refine ⟨(E L1 s2 s3 s4 (.sh (.list (nL ts))) s6 s7 (.sh (.int t)) s9 s10 s11 s12 s13 s14 s15 s16 s17 s18 s19 s20 s21 s22 s23 s24 s25 s26 s27), rfl, .val (gu g), (E L2 s2 s3 s4 (.sh (.list (nL ts))) s6 s7 (.sh (.int t)) s9 s10 s11 s12 s13 s14 s15 s16 s17 s18 s19 s20 s21 s22 s23 s24 s25 s26 s27), ?_, gs ++ [g], L2, by rw [← hm]; simp [et], fun x hx => ?_, by simp [gL], rfl⟩
    · generalize nL ts = T
      simp [E, e]
    · rcases List.mem_append.mp hx with hx | hx
      · exact hok x hx
      · obtain rfl : x = g := by simpa using hx
        exact ok
  refine ⟨gs, L', keepSh (some s8), by simpa using hm, hok, ?_⟩
  have e := lcF_ls (vs := [8]) (src := (walk (shr 5))) (tg := putG 8) (tt := ret true) (te := callF M__law_gully [.mu 1, .ex (shr 8)]) (ρ := (E L s2 s3 s4 (.ow (.lst (nL ts))) s6 s7 s8 s9 s10 s11 s12 s13 s14 s15 s16 s17 s18 s19 s20 s21 s22 s23 s24 s25 s26 s27)) (ρ1 := (E L s2 s3 s4 (.sh (.list (nL ts))) s6 s7 s8 s9 s10 s11 s12 s13 s14 s15 s16 s17 s18 s19 s20 s21 s22 s23 s24 s25 s26 s27)) (ds := ts.map PyData.int) (by simp [E]; rfl) rfl hc rfl
  unfold q_law_3
  rw [seq_ap, args_ex1 e]
  rfl
abbrev te4 : P RV := (args [(.ex (args [(.ex (kst (.int 0))), (.ex (callF M__law_take [.mu 1, .ex (kst (.int 101))])), (.ex (callF M__law_take [.mu 1, .ex (kst (.int 4))]))] mkL)), (.ex (callF M__law_take [.mu 1, .ex (kst (.int 3))]))] (f2 ixD))
theorem g4 (hn : 1 ≤ n ∧ n ≤ 6) : ∃ (ws : List Int) (L' : List Int) (s6' : Sl), ws.length = n ∧ q_law_4 (E L s2 (.sh (.int n)) s4 s5 s6 s7 s8 s9 s10 s11 s12 s13 s14 s15 s16 s17 s18 s19 s20 s21 s22 s23 s24 s25 s26 s27) = .ok .nx (E L' s2 (.sh (.int n)) s4 s5 s6' s7 s8 (.sh (.tuple (nL ws))) s10 s11 s12 s13 s14 s15 s16 s17 s18 s19 s20 s21 s22 s23 s24 s25 s26 s27) := by
  have hr := rng1_nat (n := n) (by omega)
  obtain ⟨ds, ρ', hc, hI, hl⟩ := compL_ind (vs := [6]) (tg := putG 6) (te := te4) (f := fun i : Nat => PyData.int (0 + (i : Int))) (n := n) (ρ := (E L s2 (.sh (.int n)) s4 s5 .un s7 s8 s9 s10 s11 s12 s13 s14 s15 s16 s17 s18 s19 s20 s21 s22 s23 s24 s25 s26 s27)) (I := fun i acc ρ => ∃ ts L', acc = nL ts ∧ ρ = (E L' s2 (.sh (.int n)) s4 s5 .un s7 s8 s9 s10 s11 s12 s13 s14 s15 s16 s17 s18 s19 s20 s21 s22 s23 s24 s25 s26 s27)) (by omega) ⟨[], L, rfl, rfl⟩ fun i hi acc ρ hI ha => by
    obtain ⟨ts, L1, rfl, rfl⟩ := hI
    obtain ⟨c, hc, ec⟩ := pick3 (x := .int 0) (y := .int (tkR L1 101)) (z := .int (tkR (tkL L1) 4)) (L := tkL (tkL L1))
    obtain ⟨x, rfl⟩ : ∃ x : Int, c = .int x := by rcases hc with rfl | rfl | rfl <;> exact ⟨_, rfl⟩
    refine ⟨(E L1 s2 (.sh (.int n)) s4 s5 (.sh (.int (0 + (i : Int)))) s7 s8 s9 s10 s11 s12 s13 s14 s15 s16 s17 s18 s19 s20 s21 s22 s23 s24 s25 s26 s27), rfl, .val (.int x), (E (tkL (tkL (tkL L1))) s2 (.sh (.int n)) s4 s5 (.sh (.int (0 + (i : Int)))) s7 s8 s9 s10 s11 s12 s13 s14 s15 s16 s17 s18 s19 s20 s21 s22 s23 s24 s25 s26 s27), ?_, ts ++ [x], _, by simp [nL], rfl⟩
    simp [te4, E, take_dw, ec]
  obtain ⟨ts, L', rfl, rfl⟩ := hI
  rw [nL_len] at hl
  refine ⟨ts, L', keepSh (some s6), hl, ?_⟩
  have e := lcF_ls (vs := [6]) (src := (args [(.sl 3)] walkR1)) (tg := putG 6) (tt := ret true) (te := te4) (ρ := (E L s2 (.sh (.int n)) s4 s5 s6 s7 s8 s9 s10 s11 s12 s13 s14 s15 s16 s17 s18 s19 s20 s21 s22 s23 s24 s25 s26 s27)) (ρ1 := (E L s2 (.sh (.int n)) s4 s5 s6 s7 s8 s9 s10 s11 s12 s13 s14 s15 s16 s17 s18 s19 s20 s21 s22 s23 s24 s25 s26 s27)) (ds := rngL 0 n) (by simp [E, hr]) rfl hc rfl
  unfold q_law_4
  rw [seq_ap, args_ex1 e]
  rfl
theorem g5 (hl : gs.length ≤ 6) : ∃ s11', q_law_5 (E L s2 s3 s4 s5 s6 (.sh (.tuple (gL gs))) s8 s9 s10 s11 s12 s13 s14 s15 s16 s17 s18 s19 s20 s21 s22 s23 s24 s25 s26 s27) = .ok .nx (E L s2 s3 s4 s5 s6 (.sh (.tuple (gL gs))) s8 s9 (.sh (.bool (allCr gs))) s11' s12 s13 s14 s15 s16 s17 s18 s19 s20 s21 s22 s23 s24 s25 s26 s27) := by
  have hc := compL_sift (vs := [11]) (tg := putG 11) (tt := (seq (args [(.ex (args [(.sl 11), (.ex (kst (.int 3)))] (f2 ixD))), (.ex (args [(.ex (args [(.sl 11), (.ex (kst (.int 0)))] (f2 ixD))), (.ex (args [(.sl 11), (.ex (kst (.int 2)))] (f2 ixD)))] (f2 subD)))] (f2 (ordD gtI))) toB)) (te := shr 11) (e := gu) (f := gu) (p := fun g => decide (g.t - g.f < g.c)) (ρ := (E L s2 s3 s4 s5 s6 (.sh (.tuple (gL gs))) s8 s9 s10 .un s12 s13 s14 s15 s16 s17 s18 s19 s20 s21 s22 s23 s24 s25 s26 s27)) gs (by omega) fun g hg => by
    refine ⟨(E L s2 s3 s4 s5 s6 (.sh (.tuple (gL gs))) s8 s9 s10 (.sh (gu g)) s12 s13 s14 s15 s16 s17 s18 s19 s20 s21 s22 s23 s24 s25 s26 s27), rfl, (E L s2 s3 s4 s5 s6 (.sh (.tuple (gL gs))) s8 s9 s10 (.sh (gu g)) s12 s13 s14 s15 s16 s17 s18 s19 s20 s21 s22 s23 s24 s25 s26 s27), ?_, fun _ => rfl, fun _ => ⟨.val (gu g), (E L s2 s3 s4 s5 s6 (.sh (.tuple (gL gs))) s8 s9 s10 (.sh (gu g)) s12 s13 s14 s15 s16 s17 s18 s19 s20 s21 s22 s23 s24 s25 s26 s27), rfl, rfl, rfl⟩⟩
    have : gtI g.c (g.t - g.f) = decide (g.t - g.f < g.c) := rfl
    generalize gL gs = G
    simp [E, this]
  have e := lcF_ls (vs := [11]) (src := (walk (shr 7))) (ρ := (E L s2 s3 s4 s5 s6 (.sh (.tuple (gL gs))) s8 s9 s10 s11 s12 s13 s14 s15 s16 s17 s18 s19 s20 s21 s22 s23 s24 s25 s26 s27)) (ρ1 := (E L s2 s3 s4 s5 s6 (.sh (.tuple (gL gs))) s8 s9 s10 s11 s12 s13 s14 s15 s16 s17 s18 s19 s20 s21 s22 s23 s24 s25 s26 s27)) (ds := gs.map gu) (by simp [E]; rfl) rfl hc rfl
  have hk : ((gs.filter fun g => decide (g.t - g.f < g.c)).map gu).all (okD 15) = true := by
    rw [List.all_eq_true]
    intro d hd
    obtain ⟨s, _, rfl⟩ := List.mem_map.mp hd
    rfl
  have q := eq_nil hk
  have hb : ((gs.filter fun g => decide (g.t - g.f < g.c)).map gu).isEmpty = allCr gs := by
    rw [List.isEmpty_map, filter_emp]
    unfold allCr
    rw [Bool.eq_iff_iff]
    simp
  rw [hb] at q
  refine ⟨keepSh (some s11), ?_⟩
  unfold q_law_5
  rw [seq_ap, args_ex2 e (g := args [] mkL) (b := .own (.lst [])) rfl]
  show Res.bind (opt (eqD (.list _) (.list [])) _) _ = _
  rw [q]
  rfl
theorem g7 (hg : ∀ g ∈ gs, g.ok) (h1 : 1 ≤ gs.length) (hl : gs.length ≤ 6) : q_law_7 (E L s2 s3 s4 s5 s6 (.sh (.tuple (gL gs))) s8 s9 s10 s11 s12 s13 s14 s15 s16 s17 s18 s19 s20 s21 s22 s23 s24 s25 s26 s27) = .ok .nx (E L s2 s3 s4 s5 s6 (.sh (.tuple (gL gs))) s8 s9 s10 s11 s12 s13 s14 s15 s16 s17 s18 s19 s20 s21 s22 s23 s24 s25 s26 s27) := by
  have a : areGu (.tuple (gL gs)) = true := by
    show ((decide (1 ≤ (gL gs).length) && decide ((gL gs).length ≤ 6)) && (gL gs).all isGu) = true
    rw [gL_len, decide_eq_true h1, decide_eq_true hl, Bool.true_and, Bool.true_and, List.all_eq_true]
    intro d hd
    obtain ⟨g, h, rfl⟩ := List.mem_map.mp hd
    exact isGu_gu (hg g h)
  have r := are_ok (d := .tuple (gL gs))
  rw [a] at r
  generalize gL gs = G at *
  simp [q_law_7, E, r, says75]
end
end K75

set_option Elab.async false
set_option linter.all false
set_option maxRecDepth 100000
set_option maxHeartbeats 4000000
namespace K75
open PySem PySem.Spec PyProof.Rows L2 L3
/-- what the draws have made -/
structure Dr (n : Nat) (gs : List Gu) (ws : List Int) : Prop where
  nn : 1 ≤ n ∧ n ≤ 6
  gl : gs.length = n
  wl : ws.length = n
  ok : ∀ g ∈ gs, g.ok
section
variable {L : List Int} {n : Nat} {gs : List Gu} {ws : List Int} {s2 s3 s4 s5 s6 s7 s8 s9 s10 s11 s12 s13 s14 s15 s16 s17 s18 s19 s20 s21 s22 s23 s24 s25 s26 s27 : Sl}
theorem g8 (h : Dr n gs ws) : ∃ (g : Gu) (m : Int) (L' : List Int), g.ok ∧ q_law_8 (E L s2 (.sh (.int n)) s4 s5 s6 (.sh (.tuple (gL gs))) s8 (.sh (.tuple (nL ws))) (.sh (.bool (allCr gs))) s11 s12 s13 s14 s15 s16 s17 s18 s19 s20 s21 s22 s23 s24 s25 s26 s27) = .ok .nx (E L' s2 (.sh (.int n)) s4 s5 s6 (.sh (.tuple (gL gs))) s8 (.sh (.tuple (nL ws))) (.sh (.bool (allCr gs))) (.sh (gu g)) (.sh (.int m)) s13 s14 s15 s16 s17 s18 s19 s20 s21 s22 s23 s24 s25 s26 s27) := by
  obtain ⟨⟨n1, n6⟩, hg, hw, hok⟩ := h
  obtain ⟨c, hc, e⟩ := pick_at (ds := gL gs) (L := L) (n := n) (by rw [gL_len]; exact hg) (by omega)
  obtain ⟨g, hm, rfl⟩ := List.mem_map.mp hc
  have k1 := take_dw (L := L) (b := n) (j := 0) (by omega)
  have k2 := take_dw (L := tkL L) (b := 300) (j := 0) (by decide)
  refine ⟨g, tkR (tkL L) 300, tkL (tkL L), hok g hm, ?_⟩
  generalize gL gs = G at *
  generalize nL ws = W at *
  generalize allCr gs = A at *
  simp [q_law_8, E, k1, k2, e]
theorem g10 {g : Gu} {m : Int} (ok : g.ok) : q_law_10 (E L s2 s3 s4 s5 s6 s7 s8 s9 s10 (.sh (gu g)) (.sh (.int m)) s13 s14 s15 s16 s17 s18 s19 s20 s21 s22 s23 s24 s25 s26 s27) = .ok .nx (E L s2 s3 s4 s5 s6 s7 s8 s9 s10 (.sh (gu g)) (.sh (.int m)) s13 s14 s15 s16 s17 s18 s19 s20 s21 s22 s23 s24 s25 s26 s27) := by
  have c1 := can_ok (m := m) ok
  have c2 := lawcan_ok (m := m) ok
  simp [q_law_10, E, c1, c2, says75]
theorem g11 : ∃ (s : Int) (L' : List Int), (0 ≤ s ∧ s ≤ 10000) ∧ q_law_11 (E L s2 s3 s4 s5 s6 s7 s8 s9 s10 s11 s12 s13 s14 s15 s16 s17 s18 s19 s20 s21 s22 s23 s24 s25 s26 s27) = .ok .nx (E L' s2 s3 s4 s5 s6 s7 s8 s9 s10 s11 s12 (.sh (.int s)) s14 s15 s16 s17 s18 s19 s20 s21 s22 s23 s24 s25 s26 s27) := by
  have a1 := tkR_nn (L := L) (b := 200) (by decide)
  have a2 := tkR_lt (L := L) (b := 200) (by decide)
  have b1 := tkR_nn (L := tkL L) (b := 10001) (by decide)
  have b2 := tkR_lt (L := tkL L) (b := 10001) (by decide)
  obtain ⟨c, hc, e⟩ := pick4 (x := .int (tkR L 200)) (y := .int (tkR (tkL L) 10001)) (z := .int 0) (u := .int 10000) (L := tkL (tkL L))
  obtain ⟨x, rfl, hx⟩ : ∃ x : Int, c = .int x ∧ 0 ≤ x ∧ x ≤ 10000 := by
    rcases hc with rfl | rfl | rfl | rfl
    · exact ⟨_, rfl, by omega⟩
    · exact ⟨_, rfl, by omega⟩
    · exact ⟨_, rfl, by decide⟩
    · exact ⟨_, rfl, by decide⟩
  exact ⟨x, tkL (tkL (tkL L)), hx, by simp [q_law_11, E, take_dw, e]⟩
theorem gt12 {s : Int} (h : Dr n gs ws) (hc : allCr gs = true) : q_law_12 (E L s2 (.sh (.int n)) s4 s5 s6 (.sh (.tuple (gL gs))) s8 (.sh (.tuple (nL ws))) (.sh (.bool true)) s11 s12 (.sh (.int s)) s14 s15 s16 s17 s18 s19 s20 s21 s22 s23 s24 s25 s26 s27) = .ok .nx (E L s2 (.sh (.int n)) s4 s5 s6 (.sh (.tuple (gL gs))) s8 (.sh (.tuple (nL ws))) (.sh (.bool true)) s11 s12 (.sh (.int s)) (.ow (.lst (nL (bg gs ws s)))) s15 s16 s17 s18 s19 s20 s21 s22 s23 s24 s25 s26 s27) := by
  have b := begins_ok (ws := ws) (s := s) h.ok (by have := h.gl; have := h.nn; omega) (h.gl.trans h.wl.symm) hc
  have e0 : (args [(.sl 10)] truO) (E L s2 (.sh (.int n)) s4 s5 s6 (.sh (.tuple (gL gs))) s8 (.sh (.tuple (nL ws))) (.sh (.bool true)) s11 s12 (.sh (.int s)) s14 s15 s16 s17 s18 s19 s20 s21 s22 s23 s24 s25 s26 s27) = .ok true (E L s2 (.sh (.int n)) s4 s5 s6 (.sh (.tuple (gL gs))) s8 (.sh (.tuple (nL ws))) (.sh (.bool true)) s11 s12 (.sh (.int s)) s14 s15 s16 s17 s18 s19 s20 s21 s22 s23 s24 s25 s26 s27) := by
    generalize gL gs = G at *
    generalize nL ws = W at *
    simp [E]
  have e : callF M__law_begins [.ex (shr 7), .ex (shr 9), .ex (shr 13)] (E L s2 (.sh (.int n)) s4 s5 s6 (.sh (.tuple (gL gs))) s8 (.sh (.tuple (nL ws))) (.sh (.bool true)) s11 s12 (.sh (.int s)) s14 s15 s16 s17 s18 s19 s20 s21 s22 s23 s24 s25 s26 s27) = .ok (.own (.lst (nL (bg gs ws s)))) (E L s2 (.sh (.int n)) s4 s5 s6 (.sh (.tuple (gL gs))) s8 (.sh (.tuple (nL ws))) (.sh (.bool true)) s11 s12 (.sh (.int s)) s14 s15 s16 s17 s18 s19 s20 s21 s22 s23 s24 s25 s26 s27) := c3v (a := .val (.tuple (gL gs))) (b := .val (.tuple (nL ws))) (c := .val (.int s)) rfl rfl rfl b rfl
  unfold q_law_12
  rw [seq_ap, ifP_ap, e0, bind_ok, if_pos rfl, e]
  rfl
theorem gt14 {F : List D} : q_law_14 (E L s2 (.sh (.int n)) s4 s5 s6 (.sh (.tuple (gL gs))) s8 (.sh (.tuple (nL ws))) (.sh (.bool true)) s11 s12 s13 (.ow (.lst F)) s15 s16 s17 s18 s19 s20 s21 s22 s23 s24 s25 s26 s27) = .ok .nx (E L s2 (.sh (.int n)) s4 s5 s6 (.sh (.tuple (gL gs))) s8 (.sh (.tuple (nL ws))) (.sh (.bool true)) s11 s12 s13 (.ow (.lst F)) s15 s16 s17 s18 s19 s20 s21 s22 s23 s24 s25 s26 s27) := by
  simp [q_law_14, E, nonD]
theorem gt15 {s : Int} (h : Dr n gs ws) : q_law_15 (E L s2 (.sh (.int n)) s4 s5 s6 (.sh (.tuple (gL gs))) s8 (.sh (.tuple (nL ws))) (.sh (.bool true)) s11 s12 (.sh (.int s)) (.ow (.lst (nL (bg gs ws s)))) s15 s16 s17 s18 s19 s20 s21 s22 s23 s24 s25 s26 s27) = .ok .nx (E L s2 (.sh (.int n)) s4 s5 s6 (.sh (.tuple (gL gs))) s8 (.sh (.tuple (nL ws))) (.sh (.bool true)) s11 s12 (.sh (.int s)) (.ow (.lst (nL (bg gs ws s)))) (.ow (.lst [.tuple (nL (bg gs ws s)), .int (lastI (bg gs ws s) + lastC gs)])) s16 s17 s18 s19 s20 s21 s22 s23 s24 s25 s26 s27) := by
  obtain ⟨g, gl, gc⟩ := last_gL (gs := gs) (by have := h.gl; have := h.nn; omega)
  have bl := last_nL (ns := bg gs ws s) (by rw [bg_len gs ws s (h.gl.trans h.wl.symm)]; have := h.gl; have := h.nn; omega)
  rw [← gc]
  generalize lastI (bg gs ws s) = x at *
  generalize nL (bg gs ws s) = F at *
  generalize gL gs = G at *
  generalize nL ws = W at *
  simp [q_law_15, E, nonD, bl, gl]
theorem okA_nL {k : Nat} {ns : List Int} (h : ns.length ≤ 100000) : okA (k + 2) (.tuple (nL ns)) = true := okA_tup (by rw [nL_len]; omega) fun d hd => by
  obtain ⟨q, _, rfl⟩ := List.mem_map.mp hd
  rfl
theorem gt17 {s : Int} (h : Dr n gs ws) (hc : allCr gs = true) (hs : 0 ≤ s ∧ s ≤ 10000) : q_law_17 (E L s2 (.sh (.int n)) s4 s5 s6 (.sh (.tuple (gL gs))) s8 (.sh (.tuple (nL ws))) (.sh (.bool true)) s11 s12 (.sh (.int s)) (.ow (.lst (nL (bg gs ws s)))) (.ow (.lst [.tuple (nL (bg gs ws s)), .int (lastI (bg gs ws s) + lastC gs)])) s16 s17 s18 s19 s20 s21 s22 s23 s24 s25 s26 s27) = .ok .nx (E L s2 (.sh (.int n)) s4 s5 s6 (.sh (.tuple (gL gs))) s8 (.sh (.tuple (nL ws))) (.sh (.bool true)) s11 s12 (.sh (.int s)) (.ow (.lst (nL (bg gs ws s)))) (.sh (.list [.tuple (nL (bg gs ws s)), .int (lastI (bg gs ws s) + lastC gs)])) s16 s17 s18 s19 s20 s21 s22 s23 s24 s25 s26 s27) := by
  have l6 : gs.length ≤ 6 := by have := h.gl; have := h.nn; omega
  have l1 : 1 ≤ gs.length := by have := h.gl; have := h.nn; omega
  have t0 := told0 (er_ok (ws := ws) (s := s) h.ok l6 hs)
  have t1 := told1 (arr_ok (ws := ws) (s := s) h.ok l1 l6 (h.gl.trans h.wl.symm) hs)
  rw [if_pos hc] at t0 t1
  have bl := bg_len gs ws s (h.gl.trans h.wl.symm)
  have a := alike_is (d := .list [.tuple (nL (bg gs ws s)), .int (lastI (bg gs ws s) + lastC gs)]) (okA_list (by simp) fun d hd => by
    rcases List.mem_cons.mp hd with rfl | hd
    · exact okA_nL (by omega)
    · obtain rfl : d = _ := by simpa using hd
      rfl)
  generalize lastI (bg gs ws s) + lastC gs = x at *
  generalize nL (bg gs ws s) = F at *
  generalize gL gs = G at *
  generalize nL ws = W at *
  simp [q_law_17, E, t0, t1, a]
theorem gt21 {s : Int} (h : Dr n gs ws) (hc : allCr gs = true) (hs : 0 ≤ s ∧ s ≤ 10000) : ∃ s6' s16', q_law_21 (E L s2 (.sh (.int n)) s4 s5 s6 (.sh (.tuple (gL gs))) s8 (.sh (.tuple (nL ws))) (.sh (.bool true)) s11 s12 (.sh (.int s)) (.ow (.lst (nL (bg gs ws s)))) s15 s16 s17 s18 s19 s20 s21 s22 s23 s24 s25 s26 s27) = .ok .nx (E L s2 (.sh (.int n)) s4 s5 s6' (.sh (.tuple (gL gs))) s8 (.sh (.tuple (nL ws))) (.sh (.bool true)) s11 s12 (.sh (.int s)) (.ow (.lst (nL (bg gs ws s)))) s15 s16' s17 s18 s19 s20 s21 s22 s23 s24 s25 s26 s27) := by
  by_cases h1 : s < 10000
  · have l6 : gs.length ≤ 6 := by have := h.gl; have := h.nn; omega
    have t0 := told0 (er_ok (ws := ws) (s := s + 1) h.ok l6 (by omega))
    rw [if_pos hc] at t0
    have b1 := bg_len gs ws s (h.gl.trans h.wl.symm)
    have b2 := bg_len gs ws (s + 1) (h.gl.trans h.wl.symm)
    have hn := h.nn
    have hgl := h.gl
    have hr := rng1_nat (n := n) (by omega)
    have hl1 : ltI s 10000 = true := by unfold ltI; simpa using h1
    have cmp : ∀ k : Nat, k < n → ∃ x y : Int, L2.atI (nL (bg gs ws (s + 1))) (k : Int) = some (.int x) ∧ L2.atI (nL (bg gs ws s)) (k : Int) = some (.int y) ∧ ltI x y = false := fun k hk => by
      refine ⟨_, _, nL_at (by omega), nL_at (by omega), ?_⟩
      have := bg_mono gs ws s (s + 1) h.ok hc (by omega) k (by omega) (by omega)
      unfold ltI
      simp
      omega
    refine ⟨keepSh (some s6), .sh (.tuple (nL (bg gs ws (s + 1)))), ?_⟩
    generalize nL (bg gs ws (s + 1)) = F2 at *
    generalize nL (bg gs ws s) = F at *
    generalize gL gs = G at *
    generalize nL ws = W at *
    have e18 : q_law_18 (E L s2 (.sh (.int n)) s4 s5 s6 (.sh (.tuple G)) s8 (.sh (.tuple W)) (.sh (.bool true)) s11 s12 (.sh (.int s)) (.ow (.lst F)) s15 s16 s17 s18 s19 s20 s21 s22 s23 s24 s25 s26 s27) = .ok .nx (E L s2 (.sh (.int n)) s4 s5 s6 (.sh (.tuple G)) s8 (.sh (.tuple W)) (.sh (.bool true)) s11 s12 (.sh (.int s)) (.ow (.lst F)) s15 (.sh (.tuple F2)) s17 s18 s19 s20 s21 s22 s23 s24 s25 s26 s27) := by
      simp [q_law_18, E, t0]
    have hcl := compL_sift (α := Nat) (vs := [6]) (tg := putG 6) (tt := (seq (args [(.ex (args [(.sl 16), (.sl 6)] (f2 ixD))), (.ex (args [(.sl 14), (.sl 6)] (f2 ixD)))] (f2 (ordD ltI))) toB)) (te := shr 6) (e := fun i : Nat => PyData.int (0 + (i : Int))) (f := fun i : Nat => PyData.int (0 + (i : Int))) (p := fun _ => false) (ρ := (E L s2 (.sh (.int n)) s4 s5 .un (.sh (.tuple G)) s8 (.sh (.tuple W)) (.sh (.bool true)) s11 s12 (.sh (.int s)) (.ow (.lst F)) s15 (.sh (.tuple F2)) s17 s18 s19 s20 s21 s22 s23 s24 s25 s26 s27)) (List.range n) (by simp; omega) fun i hi => by
      obtain ⟨x, y, ex, ey, hlt⟩ := cmp i (by simpa using hi)
      refine ⟨(E L s2 (.sh (.int n)) s4 s5 (.sh (.int (0 + (i : Int)))) (.sh (.tuple G)) s8 (.sh (.tuple W)) (.sh (.bool true)) s11 s12 (.sh (.int s)) (.ow (.lst F)) s15 (.sh (.tuple F2)) s17 s18 s19 s20 s21 s22 s23 s24 s25 s26 s27), rfl, (E L s2 (.sh (.int n)) s4 s5 (.sh (.int (0 + (i : Int)))) (.sh (.tuple G)) s8 (.sh (.tuple W)) (.sh (.bool true)) s11 s12 (.sh (.int s)) (.ow (.lst F)) s15 (.sh (.tuple F2)) s17 s18 s19 s20 s21 s22 s23 s24 s25 s26 s27), ?_, fun _ => rfl, fun z => by cases z⟩
      simp [E, ex, ey, hlt]
    rw [filter_no] at hcl
    have e := lcF_ls (vs := [6]) (src := (args [(.sl 3)] walkR1)) (ρ := (E L s2 (.sh (.int n)) s4 s5 s6 (.sh (.tuple G)) s8 (.sh (.tuple W)) (.sh (.bool true)) s11 s12 (.sh (.int s)) (.ow (.lst F)) s15 (.sh (.tuple F2)) s17 s18 s19 s20 s21 s22 s23 s24 s25 s26 s27)) (ρ1 := (E L s2 (.sh (.int n)) s4 s5 s6 (.sh (.tuple G)) s8 (.sh (.tuple W)) (.sh (.bool true)) s11 s12 (.sh (.int s)) (.ow (.lst F)) s15 (.sh (.tuple F2)) s17 s18 s19 s20 s21 s22 s23 s24 s25 s26 s27)) (ds := rngL 0 n) (by simp [E, hr]) rfl hcl rfl
    have en : neD (.list []) (.list []) = some (.val (.bool false)) := ne_self' rfl
    have e20 : q_law_20 (E L s2 (.sh (.int n)) s4 s5 s6 (.sh (.tuple G)) s8 (.sh (.tuple W)) (.sh (.bool true)) s11 s12 (.sh (.int s)) (.ow (.lst F)) s15 (.sh (.tuple F2)) s17 s18 s19 s20 s21 s22 s23 s24 s25 s26 s27) = .ok .nx (E L s2 (.sh (.int n)) s4 s5 (keepSh (some s6)) (.sh (.tuple G)) s8 (.sh (.tuple W)) (.sh (.bool true)) s11 s12 (.sh (.int s)) (.ow (.lst F)) s15 (.sh (.tuple F2)) s17 s18 s19 s20 s21 s22 s23 s24 s25 s26 s27) := by
      have e1 : notP (args [(.ex (args [(.sl 16)] (isiF .tuple)))] truO) (E L s2 (.sh (.int n)) s4 s5 s6 (.sh (.tuple G)) s8 (.sh (.tuple W)) (.sh (.bool true)) s11 s12 (.sh (.int s)) (.ow (.lst F)) s15 (.sh (.tuple F2)) s17 s18 s19 s20 s21 s22 s23 s24 s25 s26 s27) = .ok false (E L s2 (.sh (.int n)) s4 s5 s6 (.sh (.tuple G)) s8 (.sh (.tuple W)) (.sh (.bool true)) s11 s12 (.sh (.int s)) (.ow (.lst F)) s15 (.sh (.tuple F2)) s17 s18 s19 s20 s21 s22 s23 s24 s25 s26 s27) := by simp [E, isT]
      unfold q_law_20
      rw [ifP_ap, orP_ap, e1, bind_ok, if_neg (by decide), seq_ap, args_ex2 e (g := args [] mkL) (b := .own (.lst [])) rfl]
      show Res.bind (Res.bind (opt (neD (.list _) (.list [])) _) _) _ = _
      rw [List.map_nil, en]
      rfl
    have ec : (andP (seq (args [(.sl 14), (.ex (kst .none))] (f2 (notD))) toB) (seq (args [(.sl 13), (.ex (kst (.int 10000)))] (f2 (ordD ltI))) toB)) (E L s2 (.sh (.int n)) s4 s5 s6 (.sh (.tuple G)) s8 (.sh (.tuple W)) (.sh (.bool true)) s11 s12 (.sh (.int s)) (.ow (.lst F)) s15 s16 s17 s18 s19 s20 s21 s22 s23 s24 s25 s26 s27) = .ok true (E L s2 (.sh (.int n)) s4 s5 s6 (.sh (.tuple G)) s8 (.sh (.tuple W)) (.sh (.bool true)) s11 s12 (.sh (.int s)) (.ow (.lst F)) s15 s16 s17 s18 s19 s20 s21 s22 s23 s24 s25 s26 s27) := by simp [E, nonD, hl1]
    unfold q_law_21
    rw [ifP_ap, ec, bind_ok, if_pos rfl, thenS_nx e18]
    exact e20
  · have hl1 : ltI s 10000 = false := by unfold ltI; simpa using h1
    refine ⟨s6, s16, ?_⟩
    generalize nL (bg gs ws s) = F at *
    generalize gL gs = G at *
    generalize nL ws = W at *
    simp [q_law_21, E, nonD, hl1]
theorem gf (s : Int) (h : Dr n gs ws) (hc : allCr gs = false) (hs : 0 ≤ s ∧ s ≤ 10000) : ∃ s14' s15', (thenS q_law_12 (thenS q_law_14 (thenS q_law_15 (thenS q_law_17 q_law_21)))) (E L s2 (.sh (.int n)) s4 s5 s6 (.sh (.tuple (gL gs))) s8 (.sh (.tuple (nL ws))) (.sh (.bool false)) s11 s12 (.sh (.int s)) s14 s15 s16 s17 s18 s19 s20 s21 s22 s23 s24 s25 s26 s27) = .ok .nx (E L s2 (.sh (.int n)) s4 s5 s6 (.sh (.tuple (gL gs))) s8 (.sh (.tuple (nL ws))) (.sh (.bool false)) s11 s12 (.sh (.int s)) s14' s15' s16 s17 s18 s19 s20 s21 s22 s23 s24 s25 s26 s27) := by
  have l6 : gs.length ≤ 6 := by have := h.gl; have := h.nn; omega
  have l1 : 1 ≤ gs.length := by have := h.gl; have := h.nn; omega
  have t0 := told0 (er_ok (ws := ws) (s := s) h.ok l6 hs)
  have t1 := told1 (arr_ok (ws := ws) (s := s) h.ok l1 l6 (h.gl.trans h.wl.symm) hs)
  rw [hc] at t0 t1
  have t0 : M__law_told [.sh (.int 0), .sh (.tuple (gL gs)), .sh (.tuple (nL ws)), .sh (.int s)] = .ok (.val .none) [.un, .un, .un, .un] := t0
  have t1 : M__law_told [.sh (.int 1), .sh (.tuple (gL gs)), .sh (.tuple (nL ws)), .sh (.int s)] = .ok (.val .none) [.un, .un, .un, .un] := t1
  have a := alike_is (d := .list [.none, .none]) (by decide)
  refine ⟨.sh .none, .sh (.list [.none, .none]), ?_⟩
  generalize gL gs = G at *
  generalize nL ws = W at *
  simp [q_law_12, q_law_14, q_law_15, q_law_17, q_law_21, E, t0, t1, a, nonD]
theorem g22 (h : Dr n gs ws) : ∃ (L' : List Int) (s6' s8' s11' s12' s13' s14' s15' s16' : Sl), q_law_22 (E L s2 (.sh (.int n)) s4 s5 s6 (.sh (.tuple (gL gs))) s8 (.sh (.tuple (nL ws))) (.sh (.bool (allCr gs))) s11 s12 s13 s14 s15 s16 s17 s18 s19 s20 s21 s22 s23 s24 s25 s26 s27) = .ok .nx (E L' s2 (.sh (.int n)) s4 s5 s6' (.sh (.tuple (gL gs))) s8' (.sh (.tuple (nL ws))) (.sh (.bool (allCr gs))) s11' s12' s13' s14' s15' s16' s17 s18 s19 s20 s21 s22 s23 s24 s25 s26 s27) := by
  obtain ⟨ρ', hL, L', s6', s8', s11', s12', s13', s14', s15', s16', rfl⟩ := forL_ind (tg := putG 8) (b := thenS q_law_8 (thenS q_law_10 (thenS q_law_11 (thenS q_law_12 (thenS q_law_14 (thenS q_law_15 (thenS q_law_17 q_law_21))))))) (f := fun i : Nat => PyData.int (0 + (i : Int))) (n := 4) (I := fun _ ρ => ∃ L' s6 s8 s11 s12 s13 s14 s15 s16, ρ = (E L' s2 (.sh (.int n)) s4 s5 s6 (.sh (.tuple (gL gs))) s8 (.sh (.tuple (nL ws))) (.sh (.bool (allCr gs))) s11 s12 s13 s14 s15 s16 s17 s18 s19 s20 s21 s22 s23 s24 s25 s26 s27)) (ρ := (E L s2 (.sh (.int n)) s4 s5 s6 (.sh (.tuple (gL gs))) s8 (.sh (.tuple (nL ws))) (.sh (.bool (allCr gs))) s11 s12 s13 s14 s15 s16 s17 s18 s19 s20 s21 s22 s23 s24 s25 s26 s27)) ⟨_, _, _, _, _, _, _, _, _, rfl⟩ fun i hi ρ hI => by
    obtain ⟨L1, s6, s8, s11, s12, s13, s14, s15, s16, rfl⟩ := hI
    obtain ⟨g, m, L2, ok, e8⟩ := g8 (L := L1) (s2 := s2) (s4 := s4) (s5 := s5) (s6 := s6) (s11 := s11) (s12 := s12) (s13 := s13) (s14 := s14) (s15 := s15) (s16 := s16) (s17 := s17) (s18 := s18) (s19 := s19) (s20 := s20) (s21 := s21) (s22 := s22) (s23 := s23) (s24 := s24) (s25 := s25) (s26 := s26) (s27 := s27) (s8 := .sh (.int (0 + (i : Int)))) h
    obtain ⟨s, L3, hs, e11⟩ := g11 (L := L2) (s2 := s2) (s4 := s4) (s5 := s5) (s6 := s6) (s13 := s13) (s14 := s14) (s15 := s15) (s16 := s16) (s17 := s17) (s18 := s18) (s19 := s19) (s20 := s20) (s21 := s21) (s22 := s22) (s23 := s23) (s24 := s24) (s25 := s25) (s26 := s26) (s27 := s27) (s3 := .sh (.int n)) (s7 := .sh (.tuple (gL gs))) (s8 := .sh (.int (0 + (i : Int)))) (s9 := .sh (.tuple (nL ws))) (s10 := .sh (.bool (allCr gs))) (s11 := .sh (gu g)) (s12 := .sh (.int m))
    cases hc : allCr gs with
    | true =>
      rw [hc] at e8 e11
      obtain ⟨s6', s16', e21⟩ := gt21 (L := L3) (s := s) (s2 := s2) (s4 := s4) (s5 := s5) (s6 := s6) (s16 := s16) (s17 := s17) (s18 := s18) (s19 := s19) (s20 := s20) (s21 := s21) (s22 := s22) (s23 := s23) (s24 := s24) (s25 := s25) (s26 := s26) (s27 := s27) (s8 := .sh (.int (0 + (i : Int)))) (s11 := .sh (gu g)) (s12 := .sh (.int m)) (s15 := (.sh (.list [.tuple (nL (bg gs ws s)), .int (lastI (bg gs ws s) + lastC gs)]))) h hc hs
      refine ⟨(E L1 s2 (.sh (.int n)) s4 s5 s6 (.sh (.tuple (gL gs))) (.sh (.int (0 + (i : Int)))) (.sh (.tuple (nL ws))) (.sh (.bool true)) s11 s12 s13 s14 s15 s16 s17 s18 s19 s20 s21 s22 s23 s24 s25 s26 s27), rfl, _, ?_, L3, s6', .sh (.int (0 + (i : Int))), .sh (gu g), .sh (.int m), .sh (.int s), (.ow (.lst (nL (bg gs ws s)))), (.sh (.list [.tuple (nL (bg gs ws s)), .int (lastI (bg gs ws s) + lastC gs)])), s16', rfl⟩
      rw [thenS_nx e8, thenS_nx (g10 ok), thenS_nx e11, thenS_nx (gt12 h hc), thenS_nx gt14, thenS_nx (gt15 h), thenS_nx (gt17 h hc hs)]
      exact e21
    | false =>
      rw [hc] at e8 e11
      obtain ⟨s14', s15', ef⟩ := gf (L := L3) (s2 := s2) (s4 := s4) (s5 := s5) (s6 := s6) (s14 := s14) (s15 := s15) (s16 := s16) (s17 := s17) (s18 := s18) (s19 := s19) (s20 := s20) (s21 := s21) (s22 := s22) (s23 := s23) (s24 := s24) (s25 := s25) (s26 := s26) (s27 := s27) (s8 := .sh (.int (0 + (i : Int)))) (s11 := .sh (gu g)) (s12 := .sh (.int m)) s h hc hs
      refine ⟨(E L1 s2 (.sh (.int n)) s4 s5 s6 (.sh (.tuple (gL gs))) (.sh (.int (0 + (i : Int)))) (.sh (.tuple (nL ws))) (.sh (.bool false)) s11 s12 s13 s14 s15 s16 s17 s18 s19 s20 s21 s22 s23 s24 s25 s26 s27), rfl, _, ?_, L3, s6, .sh (.int (0 + (i : Int))), .sh (gu g), .sh (.int m), .sh (.int s), s14', s15', s16, rfl⟩
      rw [thenS_nx e8, thenS_nx (g10 ok), thenS_nx e11]
      exact ef
  have hr := rng1_nat (n := 4) (by decide)
  have hr : rng1 (.int 4) = some (rngL 0 4) := hr
  exact ⟨L', s6', s8', s11', s12', s13', s14', s15', s16', (forF_ls (ds := rngL 0 4) (ρ1 := (E L s2 (.sh (.int n)) s4 s5 s6 (.sh (.tuple (gL gs))) s8 (.sh (.tuple (nL ws))) (.sh (.bool (allCr gs))) s11 s12 s13 s14 s15 s16 s17 s18 s19 s20 s21 s22 s23 s24 s25 s26 s27)) (by simp [hr])).trans hL⟩
end
end K75

set_option Elab.async false
set_option linter.all false
set_option maxRecDepth 100000
set_option maxHeartbeats 4000000
namespace K75
open PySem PySem.Spec PyProof.Rows L2 L3
def tabD (g : Gu) : D := .list ((List.range g.t.toNat).map fun i : Nat => .bool (can g (0 + (i : Int))))
theorem tab_ix {g : Gu} (h : g.ok) {x : Int} : ixD (tabD g) (.int (x % g.t)) = some (.val (.bool (can g x))) := by
  have ht := h.t
  have r0 := Int.emod_nonneg x (show g.t ≠ 0 by omega)
  have r1 := Int.emod_lt_of_pos x (show 0 < g.t by omega)
  obtain ⟨k, hk⟩ : ∃ k : Nat, x % g.t = k := ⟨(x % g.t).toNat, by omega⟩
  show (L2.atI ((List.range g.t.toNat).map fun i : Nat => PyData.bool (can g (0 + (i : Int)))) (x % g.t)).map RV.val = _
  rw [hk, L3.atI_nat (by simp; omega)]
  have e : 0 + (k : Int) = x % g.t := by omega
  have hlt : k < g.t.toNat := by omega
  simp [hlt]
  have e2 : can g (k : Int) = can g x := by rw [← hk, can_mod h]
  exact e2
def tabL (gs : List Gu) : List D := gs.map tabD
theorem tabL_len {gs : List Gu} : (tabL gs).length = gs.length := by simp [tabL]
theorem tabL_at {gs : List Gu} {k : Nat} (h : k < gs.length) : L2.atI (tabL gs) (k : Int) = some (tabD gs[k]) := by
  rw [L3.atI_nat (by rw [tabL_len]; exact h)]
  simp [tabL, h]
theorem ix_list' {ds : List D} {i : Int} {d : D} (h : L2.atI ds i = some d) : ixD (.list ds) (.int i) = some (.val d) := by
  rw [ix_l, h]
  rfl
theorem ix_tup' {ds : List D} {i : Int} {d : D} (h : L2.atI ds i = some d) : ixD (.tuple ds) (.int i) = some (.val d) := by
  rw [ix_t, h]
  rfl
section
variable {L : List Int} {n : Nat} {gs : List Gu} {ws : List Int} {s2 s3 s4 s5 s6 s7 s8 s9 s10 s11 s12 s13 s14 s15 s16 s17 s18 s19 s20 s21 s22 s23 s24 s25 s26 s27 : Sl}
/-- what is told of the free starts -/
def frD (gs : List Gu) (ws : List Int) : D := if 5000 < whole gs then .str "much" else .tuple (nL (freeL gs ws))
theorem g23 (h : Dr n gs ws) : q_law_23 (E L s2 (.sh (.int n)) s4 (.sh (.list (nL (gs.map Gu.t)))) s6 (.sh (.tuple (gL gs))) s8 (.sh (.tuple (nL ws))) s10 s11 s12 s13 s14 s15 s16 s17 s18 s19 s20 s21 s22 s23 s24 s25 s26 s27) = .ok .nx (E L s2 (.sh (.int n)) s4 (.sh (.list (nL (gs.map Gu.t)))) s6 (.sh (.tuple (gL gs))) s8 (.sh (.tuple (nL ws))) s10 s11 s12 s13 s14 s15 s16 (.sh (.int (whole gs : Nat))) (.sh (frD gs ws)) s19 s20 s21 s22 s23 s24 s25 s26 s27) := by
  have l6 : gs.length ≤ 6 := by have := h.gl; have := h.nn; omega
  have r := round_ok h.ok
  have t : M__law_told [.sh (.int 2), .sh (.tuple (gL gs)), .sh (.tuple (nL ws)), .sh (.int 0)] = .ok (.val (frD gs ws)) [.un, .un, .un, .un] := by
    unfold frD
    by_cases hw : 5000 < whole gs
    · rw [if_pos hw]
      exact told2_much (fs_much h.ok l6 hw)
    · rw [if_neg hw]
      exact told2 (fs_ok h.ok l6 (by omega))
  generalize frD gs ws = R at *
  generalize whole gs = w at *
  generalize nL (gs.map Gu.t) = T at *
  generalize gL gs = G at *
  generalize nL ws = W at *
  simp [q_law_23, E, r, t]
theorem g40_much (hw : 5000 < whole gs) : q_law_40 (E L s2 (.sh (.int n)) s4 (.sh (.list (nL (gs.map Gu.t)))) s6 (.sh (.tuple (gL gs))) s8 (.sh (.tuple (nL ws))) s10 s11 s12 s13 s14 s15 s16 (.sh (.int (whole gs : Nat))) (.sh (frD gs ws)) s19 s20 s21 s22 s23 s24 s25 s26 s27) = .ok .nx (E L s2 (.sh (.int n)) s4 (.sh (.list (nL (gs.map Gu.t)))) s6 (.sh (.tuple (gL gs))) s8 (.sh (.tuple (nL ws))) s10 s11 s12 s13 s14 s15 s16 (.sh (.int (whole gs : Nat))) (.sh (frD gs ws)) s19 s20 s21 s22 s23 s24 s25 s26 s27) := by
  have e : frD gs ws = .str "much" := by unfold frD; rw [if_pos hw]
  have q := ne_self' (d := .str "much") (by decide +kernel)
  have hc : gtI ((whole gs : Nat) : Int) 5000 = true := by unfold gtI; simp; omega
  rw [e]
  generalize whole gs = w at *
  generalize nL (gs.map Gu.t) = T at *
  generalize gL gs = G at *
  generalize nL ws = W at *
  simp [q_law_40, q_law_25, E, hc, q]
theorem g26 : q_law_26 (E L s2 s3 s4 s5 s6 s7 s8 s9 s10 s11 s12 s13 s14 s15 s16 s17 s18 s19 s20 s21 s22 s23 s24 s25 s26 s27) = .ok .nx (E L s2 s3 s4 s5 s6 s7 s8 s9 s10 s11 s12 s13 s14 s15 s16 s17 s18 (.ow (.lst [])) (.ow (.lst [])) (.sh (.int 0)) s22 s23 s24 s25 s26 s27) := by
  simp [q_law_26, E]
theorem g27 {k : Nat} {g : Gu} {T : List D} (hG : L2.atI (gL gs) (k : Int) = some (gu g)) (ok : g.ok) (hT : T.length ≤ 1000) : q_law_27 (E L s2 (.sh (.int n)) s4 (.sh (.list (nL (gs.map Gu.t)))) (.sh (.int k)) (.sh (.tuple (gL gs))) s8 (.sh (.tuple (nL ws))) s10 s11 s12 s13 s14 s15 s16 s17 s18 (.ow (.lst T)) s20 s21 s22 s23 s24 s25 s26 s27) = .ok .nx (E L s2 (.sh (.int n)) s4 (.sh (.list (nL (gs.map Gu.t)))) (.sh (.int k)) (.sh (.tuple (gL gs))) s8 (.sh (.tuple (nL ws))) s10 s11 (keepSh (some s12)) s13 s14 s15 s16 s17 s18 (.ow (.lst (T ++ [tabD g]))) s20 s21 s22 s23 s24 s25 s26 s27) := by
  have ht := ok.t
  obtain ⟨t, et⟩ : ∃ t : Nat, g.t = t := ⟨g.t.toNat, by omega⟩
  have hr := rng1_nat (n := t) (by omega)
  have hc := compL_map (α := Nat) (vs := [12]) (tg := putG 12) (te := (callF M__law_can [.ex (args [(.sl 7), (.sl 6)] (f2 ixD)), .ex (shr 12)])) (e := fun i : Nat => PyData.int (0 + (i : Int))) (f := fun i : Nat => PyData.bool (can g (0 + (i : Int)))) (ρ := (E L s2 (.sh (.int n)) s4 (.sh (.list (nL (gs.map Gu.t)))) (.sh (.int k)) (.sh (.tuple (gL gs))) s8 (.sh (.tuple (nL ws))) s10 s11 .un s13 s14 s15 s16 s17 s18 (.ow (.lst T)) s20 s21 s22 s23 s24 s25 s26 s27)) (List.range t) (by simp; omega) fun i hi => by
    refine ⟨(E L s2 (.sh (.int n)) s4 (.sh (.list (nL (gs.map Gu.t)))) (.sh (.int k)) (.sh (.tuple (gL gs))) s8 (.sh (.tuple (nL ws))) s10 s11 (.sh (.int (0 + (i : Int)))) s13 s14 s15 s16 s17 s18 (.ow (.lst T)) s20 s21 s22 s23 s24 s25 s26 s27), rfl, .val (.bool (can g (0 + (i : Int)))), (E L s2 (.sh (.int n)) s4 (.sh (.list (nL (gs.map Gu.t)))) (.sh (.int k)) (.sh (.tuple (gL gs))) s8 (.sh (.tuple (nL ws))) s10 s11 (.sh (.int (0 + (i : Int)))) s13 s14 s15 s16 s17 s18 (.ow (.lst T)) s20 s21 s22 s23 s24 s25 s26 s27), ?_, rfl, rfl⟩
    have c := lawcan_ok (m := 0 + (i : Int)) ok
    generalize can g (0 + (i : Int)) = b at *
    generalize 0 + (i : Int) = x at *
    generalize nL (gs.map Gu.t) = T' at *
    generalize gL gs = G at *
    generalize nL ws = W at *
    simp [E, hG, c]
  have e := lcF_ls (vs := [12]) (src := (args [(.ex (args [(.ex (args [(.sl 7), (.sl 6)] (f2 ixD))), (.ex (kst (.int 0)))] (f2 ixD)))] walkR1)) (ρ := (E L s2 (.sh (.int n)) s4 (.sh (.list (nL (gs.map Gu.t)))) (.sh (.int k)) (.sh (.tuple (gL gs))) s8 (.sh (.tuple (nL ws))) s10 s11 s12 s13 s14 s15 s16 s17 s18 (.ow (.lst T)) s20 s21 s22 s23 s24 s25 s26 s27)) (ρ1 := (E L s2 (.sh (.int n)) s4 (.sh (.list (nL (gs.map Gu.t)))) (.sh (.int k)) (.sh (.tuple (gL gs))) s8 (.sh (.tuple (nL ws))) s10 s11 s12 s13 s14 s15 s16 s17 s18 (.ow (.lst T)) s20 s21 s22 s23 s24 s25 s26 s27)) (ds := rngL 0 t) (by generalize nL (gs.map Gu.t) = T'; generalize gL gs = G at *; generalize nL ws = W; simp [E, hG, et, hr]) rfl hc rfl
  have em := mutF_ow1 (i := 19) (h := appendD) (ds0 := T) (ds := T) (ds' := T ++ [tabD g]) (d := .none) rfl e rfl (by
    have : (RV.own (.lst ((List.range t).map fun i : Nat => PyData.bool (can g (0 + (i : Int)))))).toD = tabD g := by
      unfold tabD
      rw [et, Int.toNat_natCast]
      rfl
    rw [this]
    exact append_ap (by omega))
  unfold q_law_27
  rw [seq_ap, em]
  rfl
theorem g31_turn {k : Nat} {g : Gu} {w now : Int} {T : List D} {bs : List Int} (hG : L2.atI (gL gs) (k : Int) = some (gu g)) (hW : L2.atI (nL ws) (k : Int) = some (.int w)) (ok : g.ok) (hT : T.length ≤ 1000) (hb : bs.length ≤ 1000) : thenS q_law_27 (thenS q_law_28 (thenS q_law_29 q_law_30)) (E L s2 (.sh (.int n)) s4 (.sh (.list (nL (gs.map Gu.t)))) (.sh (.int k)) (.sh (.tuple (gL gs))) s8 (.sh (.tuple (nL ws))) s10 s11 s12 s13 s14 s15 s16 s17 s18 (.ow (.lst T)) (.ow (.lst (nL bs))) (.sh (.int now)) s22 s23 s24 s25 s26 s27) = .ok .nx (E L s2 (.sh (.int n)) s4 (.sh (.list (nL (gs.map Gu.t)))) (.sh (.int k)) (.sh (.tuple (gL gs))) s8 (.sh (.tuple (nL ws))) s10 s11 (keepSh (some s12)) s13 s14 s15 s16 s17 s18 (.ow (.lst (T ++ [tabD g]))) (.ow (.lst (nL (bs ++ [now + w])))) (.sh (.int (now + w + g.c))) s22 s23 s24 s25 s26 s27) := by
  have ap := append_ap (ds := nL bs) (d := .int (now + w)) (by rw [nL_len]; omega)
  rw [nL_app] at ap
  rw [thenS_nx (g27 hG ok hT)]
  generalize T ++ [tabD g] = T2
  generalize keepSh (some s12) = k12
  generalize nL (bs ++ [now + w]) = B2 at *
  generalize nL bs = B1 at *
  generalize nL (gs.map Gu.t) = T' at *
  generalize gL gs = G at *
  generalize nL ws = W at *
  simp [q_law_28, q_law_29, q_law_30, E, hG, hW, ap]
theorem g31 (h : Dr n gs ws) : ∃ (d6 : D) (s12' : Sl), q_law_31 (E L s2 (.sh (.int n)) s4 (.sh (.list (nL (gs.map Gu.t)))) s6 (.sh (.tuple (gL gs))) s8 (.sh (.tuple (nL ws))) s10 s11 s12 s13 s14 s15 s16 s17 s18 (.ow (.lst [])) (.ow (.lst [])) (.sh (.int 0)) s22 s23 s24 s25 s26 s27) = .ok .nx (E L s2 (.sh (.int n)) s4 (.sh (.list (nL (gs.map Gu.t)))) (.sh d6) (.sh (.tuple (gL gs))) s8 (.sh (.tuple (nL ws))) s10 s11 s12' s13 s14 s15 s16 s17 s18 (.ow (.lst (tabL gs))) (.ow (.lst (nL (bh gs ws 0)))) (.sh (.int (tot gs ws 0))) s22 s23 s24 s25 s26 s27) := by
  have hn := h.nn
  have hgl := h.gl
  have hwl := h.wl
  obtain ⟨ρ', hL, bs, now, s6', s12', hf, ht, hlen, h6, rfl⟩ := forL_ind (tg := putG 6) (b := thenS q_law_27 (thenS q_law_28 (thenS q_law_29 q_law_30))) (f := fun i : Nat => PyData.int (0 + (i : Int))) (n := n) (I := fun k ρ => ∃ bs now s6 s12, bs ++ bh (gs.drop k) (ws.drop k) now = bh gs ws 0 ∧ tot (gs.drop k) (ws.drop k) now = tot gs ws 0 ∧ bs.length = k ∧ (k = 0 ∨ ∃ d, s6 = .sh d) ∧ ρ = (E L s2 (.sh (.int n)) s4 (.sh (.list (nL (gs.map Gu.t)))) s6 (.sh (.tuple (gL gs))) s8 (.sh (.tuple (nL ws))) s10 s11 s12 s13 s14 s15 s16 s17 s18 (.ow (.lst (tabL (gs.take k)))) (.ow (.lst (nL bs))) (.sh (.int now)) s22 s23 s24 s25 s26 s27)) (ρ := (E L s2 (.sh (.int n)) s4 (.sh (.list (nL (gs.map Gu.t)))) s6 (.sh (.tuple (gL gs))) s8 (.sh (.tuple (nL ws))) s10 s11 s12 s13 s14 s15 s16 s17 s18 (.ow (.lst [])) (.ow (.lst [])) (.sh (.int 0)) s22 s23 s24 s25 s26 s27)) ⟨[], 0, _, _, rfl, rfl, rfl, .inl rfl, rfl⟩ fun k hk ρ hI => by
    obtain ⟨bs, now, s6, s12, hf, ht, hlen, h6, rfl⟩ := hI
    have hkg : k < gs.length := by omega
    have hkw : k < ws.length := by omega
    have e0 : (0 + (k : Int)) = (k : Int) := by omega
    have et : tabL (gs.take (k + 1)) = tabL (gs.take k) ++ [tabD gs[k]] := by
      unfold tabL
      rw [List.take_succ_eq_append_getElem hkg, List.map_append]
      rfl
    refine ⟨(E L s2 (.sh (.int n)) s4 (.sh (.list (nL (gs.map Gu.t)))) (.sh (.int k)) (.sh (.tuple (gL gs))) s8 (.sh (.tuple (nL ws))) s10 s11 s12 s13 s14 s15 s16 s17 s18 (.ow (.lst (tabL (gs.take k)))) (.ow (.lst (nL bs))) (.sh (.int now)) s22 s23 s24 s25 s26 s27), by rw [e0]; rfl, _, g31_turn (gL_at hkg) (nL_at hkw) (h.ok _ (List.getElem_mem hkg)) (by rw [tabL_len, List.length_take]; omega) (by omega), bs ++ [now + ws[k]], now + ws[k] + gs[k].c, .sh (.int k), keepSh (some s12), ?_, ?_, by simp [hlen], .inr ⟨_, rfl⟩, by rw [et]⟩
    · rw [List.drop_eq_getElem_cons hkg, List.drop_eq_getElem_cons hkw] at hf
      rw [← hf, List.append_assoc]
      rfl
    · rw [List.drop_eq_getElem_cons hkg, List.drop_eq_getElem_cons hkw] at ht
      exact ht
  have hr := rng1_nat (n := n) (by omega)
  have e1 : gs.drop n = [] := by rw [← hgl, List.drop_length]
  have e2 : ws.drop n = [] := by rw [← hwl, List.drop_length]
  have e3 : gs.take n = gs := by rw [← hgl, List.take_length]
  rw [e1, e2] at hf ht
  have hb : bs = bh gs ws 0 := by rw [← hf]; simp [bh]
  have hnow : now = tot gs ws 0 := by rw [← ht]; rfl
  subst hb hnow
  rcases h6 with h6 | ⟨d6, rfl⟩
  · omega
  refine ⟨d6, s12', ?_⟩
  rw [e3] at hL
  exact (forF_ls (ds := rngL 0 n) (ρ1 := (E L s2 (.sh (.int n)) s4 (.sh (.list (nL (gs.map Gu.t)))) s6 (.sh (.tuple (gL gs))) s8 (.sh (.tuple (nL ws))) s10 s11 s12 s13 s14 s15 s16 s17 s18 (.ow (.lst [])) (.ow (.lst [])) (.sh (.int 0)) s22 s23 s24 s25 s26 s27)) (by generalize nL (gs.map Gu.t) = T' at *; generalize gL gs = G at *; generalize nL ws = W at *; simp [E, hr])).trans hL
abbrev inT : P Bool := (notP (args [(.ex (args [(.ex (args [(.sl 19), (.sl 6)] (f2 ixD))), (.ex (args [(.ex (args [(.ex (args [(.sl 13), (.ex (args [(.sl 20), (.sl 6)] (f2 ixD)))] (f2 addD)))] (f1 intD))), (.ex (args [(.sl 5), (.sl 6)] (f2 ixD)))] (f2 modD)))] (f2 ixD)))] truO))
theorem in_ok {d6 : D} {s : Int} (h : Dr n gs ws) : (seq (args [(.ex (lcF [6] (args [(.sl 3)] walkR1) (putG 6) inT (shr 6))), (.ex (args [] mkL))] (f2 (eqD))) toB) (E L s2 (.sh (.int n)) s4 (.sh (.list (nL (gs.map Gu.t)))) (.sh d6) (.sh (.tuple (gL gs))) s8 (.sh (.tuple (nL ws))) s10 s11 s12 (.sh (.int s)) s14 s15 s16 s17 s18 (.ow (.lst (tabL gs))) (.ow (.lst (nL (bh gs ws 0)))) s21 s22 s23 s24 s25 s26 s27) = .ok (isFr gs ws s) (E L s2 (.sh (.int n)) s4 (.sh (.list (nL (gs.map Gu.t)))) (.sh d6) (.sh (.tuple (gL gs))) s8 (.sh (.tuple (nL ws))) s10 s11 s12 (.sh (.int s)) s14 s15 s16 s17 s18 (.ow (.lst (tabL gs))) (.ow (.lst (nL (bh gs ws 0)))) s21 s22 s23 s24 s25 s26 s27) := by
  have hn := h.nn
  have hgl := h.gl
  have hwl := h.wl
  have hbl := bh_len gs ws 0 (hgl.trans hwl.symm)
  have hr := rng1_nat (n := n) (by omega)
  have hc := compL_sift (α := Nat) (vs := [6]) (tg := putG 6) (tt := inT) (te := shr 6) (e := fun i : Nat => PyData.int (0 + (i : Int))) (f := fun i : Nat => PyData.int (0 + (i : Int))) (p := fun k => if h : k < gs.length ∧ k < (bh gs ws 0).length then !can (gs[k]'h.1) (s + (bh gs ws 0)[k]'h.2) else false) (ρ := (E L s2 (.sh (.int n)) s4 (.sh (.list (nL (gs.map Gu.t)))) .un (.sh (.tuple (gL gs))) s8 (.sh (.tuple (nL ws))) s10 s11 s12 (.sh (.int s)) s14 s15 s16 s17 s18 (.ow (.lst (tabL gs))) (.ow (.lst (nL (bh gs ws 0)))) s21 s22 s23 s24 s25 s26 s27)) (List.range n) (by simp; omega) fun k hk => by
    have hk : k < n := by simpa using hk
    have hkg : k < gs.length := by omega
    have hkb : k < (bh gs ws 0).length := by omega
    have ok := h.ok _ (List.getElem_mem hkg)
    have tg := ix_list' (tabL_at hkg)
    have bt := ix_list' (nL_at hkb)
    have tt := ix_list' (nL_at (ns := gs.map Gu.t) (k := k) (by simpa using hkg))
    rw [List.getElem_map] at tt
    have md := mod_ii (i := s + (bh gs ws 0)[k]) (j := gs[k].t) (by have := ok.t; omega)
    have ti := tab_ix (x := s + (bh gs ws 0)[k]) ok
    have e0 : (0 + (k : Int)) = (k : Int) := by omega
    rw [e0, dif_pos ⟨hkg, hkb⟩]
    refine ⟨(E L s2 (.sh (.int n)) s4 (.sh (.list (nL (gs.map Gu.t)))) (.sh (.int (k : Int))) (.sh (.tuple (gL gs))) s8 (.sh (.tuple (nL ws))) s10 s11 s12 (.sh (.int s)) s14 s15 s16 s17 s18 (.ow (.lst (tabL gs))) (.ow (.lst (nL (bh gs ws 0)))) s21 s22 s23 s24 s25 s26 s27), rfl, (E L s2 (.sh (.int n)) s4 (.sh (.list (nL (gs.map Gu.t)))) (.sh (.int (k : Int))) (.sh (.tuple (gL gs))) s8 (.sh (.tuple (nL ws))) s10 s11 s12 (.sh (.int s)) s14 s15 s16 s17 s18 (.ow (.lst (tabL gs))) (.ow (.lst (nL (bh gs ws 0)))) s21 s22 s23 s24 s25 s26 s27), ?_, fun _ => rfl, fun _ => ⟨.val (.int (k : Int)), (E L s2 (.sh (.int n)) s4 (.sh (.list (nL (gs.map Gu.t)))) (.sh (.int (k : Int))) (.sh (.tuple (gL gs))) s8 (.sh (.tuple (nL ws))) s10 s11 s12 (.sh (.int s)) s14 s15 s16 s17 s18 (.ow (.lst (tabL gs))) (.ow (.lst (nL (bh gs ws 0)))) s21 s22 s23 s24 s25 s26 s27), rfl, rfl, rfl⟩⟩
    generalize can gs[k] (s + (bh gs ws 0)[k]) = cc at *
    generalize (s + (bh gs ws 0)[k]) % gs[k].t = md' at *
    generalize (bh gs ws 0)[k] = bk at *
    generalize gs[k].t = tk at *
    generalize tabD gs[k] = td at *
    generalize nL (bh gs ws 0) = B' at *
    generalize tabL gs = T1 at *
    generalize nL (gs.map Gu.t) = T' at *
    generalize gL gs = G at *
    generalize nL ws = W at *
    simp [-ix_l, inT, E, tg, bt, tt, md, ti]
  have e := lcF_ls (vs := [6]) (src := (args [(.sl 3)] walkR1)) (ρ := (E L s2 (.sh (.int n)) s4 (.sh (.list (nL (gs.map Gu.t)))) (.sh d6) (.sh (.tuple (gL gs))) s8 (.sh (.tuple (nL ws))) s10 s11 s12 (.sh (.int s)) s14 s15 s16 s17 s18 (.ow (.lst (tabL gs))) (.ow (.lst (nL (bh gs ws 0)))) s21 s22 s23 s24 s25 s26 s27)) (ρ1 := (E L s2 (.sh (.int n)) s4 (.sh (.list (nL (gs.map Gu.t)))) (.sh d6) (.sh (.tuple (gL gs))) s8 (.sh (.tuple (nL ws))) s10 s11 s12 (.sh (.int s)) s14 s15 s16 s17 s18 (.ow (.lst (tabL gs))) (.ow (.lst (nL (bh gs ws 0)))) s21 s22 s23 s24 s25 s26 s27)) (ds := rngL 0 n) (by generalize nL (bh gs ws 0) = B'; generalize tabL gs = T1; generalize nL (gs.map Gu.t) = T'; generalize gL gs = G; generalize nL ws = W; simp [E, hr]) rfl hc rfl
  have hem : (((List.range n).filter (fun k => if h : k < gs.length ∧ k < (bh gs ws 0).length then !can (gs[k]'h.1) (s + (bh gs ws 0)[k]'h.2) else false)).map fun i : Nat => PyData.int (0 + (i : Int))).isEmpty = isFr gs ws s := by
    rw [List.isEmpty_map, filter_emp, Bool.eq_iff_iff]
    have fa := fr_all gs ws 0 s (hgl.trans hwl.symm)
    rw [Int.add_zero] at fa
    rw [fa, Bool.not_eq_true', List.any_eq_false]
    constructor
    · intro ha k hk hk2
      have := ha k (by simp; omega)
      rw [dif_pos ⟨hk, hk2⟩] at this
      simpa using this
    · intro ha k hk
      have hk : k < n := by simpa using hk
      rw [dif_pos ⟨by omega, by omega⟩, ha k (by omega) (by omega)]
      decide
  have hk2 : (((List.range n).filter (fun k => if h : k < gs.length ∧ k < (bh gs ws 0).length then !can (gs[k]'h.1) (s + (bh gs ws 0)[k]'h.2) else false)).map fun i : Nat => PyData.int (0 + (i : Int))).all (okD 15) = true := by
    rw [List.all_eq_true]
    intro d hd
    obtain ⟨s, _, rfl⟩ := List.mem_map.mp hd
    rfl
  have q := eq_nil hk2
  rw [hem] at q
  rw [seq_ap, args_ex2 e (g := args [] mkL) (b := .own (.lst [])) rfl]
  show Res.bind (opt (eqD (.list _) (.list [])) _) _ = _
  rw [q]
  rfl
theorem g32 {d6 : D} {w : Nat} (h : Dr n gs ws) (hw : w ≤ 5000) : ∃ s13', q_law_32 (E L s2 (.sh (.int n)) s4 (.sh (.list (nL (gs.map Gu.t)))) (.sh d6) (.sh (.tuple (gL gs))) s8 (.sh (.tuple (nL ws))) s10 s11 s12 s13 s14 s15 s16 (.sh (.int (w : Nat))) s18 (.ow (.lst (tabL gs))) (.ow (.lst (nL (bh gs ws 0)))) s21 s22 s23 s24 s25 s26 s27) = .ok .nx (E L s2 (.sh (.int n)) s4 (.sh (.list (nL (gs.map Gu.t)))) (.sh d6) (.sh (.tuple (gL gs))) s8 (.sh (.tuple (nL ws))) s10 s11 s12 s13' s14 s15 s16 (.sh (.int (w : Nat))) s18 (.ow (.lst (tabL gs))) (.ow (.lst (nL (bh gs ws 0)))) s21 (.ow (.lst (((List.range w).filter fun i : Nat => isFr gs ws (0 + (i : Int))).map fun i : Nat => PyData.int (0 + (i : Int))))) s23 s24 s25 s26 s27) := by
  have hr := rng1_nat (n := w) (by omega)
  have hc := compL_sift (α := Nat) (vs := [13]) (tg := putG 13) (tt := (seq (args [(.ex (lcF [6] (args [(.sl 3)] walkR1) (putG 6) inT (shr 6))), (.ex (args [] mkL))] (f2 (eqD))) toB)) (te := shr 13) (e := fun i : Nat => PyData.int (0 + (i : Int))) (f := fun i : Nat => PyData.int (0 + (i : Int))) (p := fun i : Nat => isFr gs ws (0 + (i : Int))) (ρ := (E L s2 (.sh (.int n)) s4 (.sh (.list (nL (gs.map Gu.t)))) (.sh d6) (.sh (.tuple (gL gs))) s8 (.sh (.tuple (nL ws))) s10 s11 s12 .un s14 s15 s16 (.sh (.int (w : Nat))) s18 (.ow (.lst (tabL gs))) (.ow (.lst (nL (bh gs ws 0)))) s21 s22 s23 s24 s25 s26 s27)) (List.range w) (by simp; omega) fun i hi => by
    exact ⟨(E L s2 (.sh (.int n)) s4 (.sh (.list (nL (gs.map Gu.t)))) (.sh d6) (.sh (.tuple (gL gs))) s8 (.sh (.tuple (nL ws))) s10 s11 s12 (.sh (.int (0 + (i : Int)))) s14 s15 s16 (.sh (.int (w : Nat))) s18 (.ow (.lst (tabL gs))) (.ow (.lst (nL (bh gs ws 0)))) s21 s22 s23 s24 s25 s26 s27), rfl, (E L s2 (.sh (.int n)) s4 (.sh (.list (nL (gs.map Gu.t)))) (.sh d6) (.sh (.tuple (gL gs))) s8 (.sh (.tuple (nL ws))) s10 s11 s12 (.sh (.int (0 + (i : Int)))) s14 s15 s16 (.sh (.int (w : Nat))) s18 (.ow (.lst (tabL gs))) (.ow (.lst (nL (bh gs ws 0)))) s21 s22 s23 s24 s25 s26 s27), in_ok h, fun _ => rfl, fun _ => ⟨.val (.int (0 + (i : Int))), (E L s2 (.sh (.int n)) s4 (.sh (.list (nL (gs.map Gu.t)))) (.sh d6) (.sh (.tuple (gL gs))) s8 (.sh (.tuple (nL ws))) s10 s11 s12 (.sh (.int (0 + (i : Int)))) s14 s15 s16 (.sh (.int (w : Nat))) s18 (.ow (.lst (tabL gs))) (.ow (.lst (nL (bh gs ws 0)))) s21 s22 s23 s24 s25 s26 s27), rfl, rfl, rfl⟩⟩
  have e := lcF_ls (vs := [13]) (src := (args [(.sl 17)] walkR1)) (ρ := (E L s2 (.sh (.int n)) s4 (.sh (.list (nL (gs.map Gu.t)))) (.sh d6) (.sh (.tuple (gL gs))) s8 (.sh (.tuple (nL ws))) s10 s11 s12 s13 s14 s15 s16 (.sh (.int (w : Nat))) s18 (.ow (.lst (tabL gs))) (.ow (.lst (nL (bh gs ws 0)))) s21 s22 s23 s24 s25 s26 s27)) (ρ1 := (E L s2 (.sh (.int n)) s4 (.sh (.list (nL (gs.map Gu.t)))) (.sh d6) (.sh (.tuple (gL gs))) s8 (.sh (.tuple (nL ws))) s10 s11 s12 s13 s14 s15 s16 (.sh (.int (w : Nat))) s18 (.ow (.lst (tabL gs))) (.ow (.lst (nL (bh gs ws 0)))) s21 s22 s23 s24 s25 s26 s27)) (ds := rngL 0 w) (by generalize nL (bh gs ws 0) = B'; generalize tabL gs = T1; generalize nL (gs.map Gu.t) = T'; generalize gL gs = G; generalize nL ws = W; simp [E, hr]) rfl hc rfl
  refine ⟨keepSh (some s13), ?_⟩
  unfold q_law_32
  rw [seq_ap, e]
  rfl
end
end K75

set_option Elab.async false
set_option linter.all false
set_option maxRecDepth 100000
set_option maxHeartbeats 4000000
namespace K75
open PySem PySem.Spec PyProof.Rows L2 L3
theorem free_len {gs : List Gu} {ws : List Int} : (freeL gs ws).length ≤ whole gs := by
  unfold freeL
  rw [List.length_map]
  exact Nat.le_trans (List.length_filter_le _ _) (by simp)
theorem free_nL {gs : List Gu} {ws : List Int} : (((List.range (whole gs)).filter fun i : Nat => isFr gs ws (0 + (i : Int))).map fun i : Nat => PyData.int (0 + (i : Int))) = nL (freeL gs ws) := by
  unfold nL freeL
  rw [List.map_map]
  rfl
theorem whole_dvd {gs : List Gu} (ok : ∀ g ∈ gs, g.ok) : ∀ g ∈ gs, g.t ∣ ((whole gs : Nat) : Int) := by
  intro g hg
  have h := (lcW_dvd gs 1).2 g hg
  have t := (ok g hg).t
  have e : g.t = ((g.t.toNat : Nat) : Int) := by omega
  rw [e]
  exact Int.ofNat_dvd.mpr h
theorem arr_fr {n : Nat} {gs : List Gu} {ws : List Int} {x : Int} (h : Dr n gs ws) (hx : 0 ≤ x ∧ x ≤ 10000) (hf : isFr gs ws x = true) : M__law_told [.sh (.int 1), .sh (.tuple (gL gs)), .sh (.tuple (nL ws)), .sh (.int x)] = .ok (.val (.int (x + tot gs ws 0))) [.un, .un, .un, .un] := by
  have hn := h.nn
  have hgl := h.gl
  have hwl := h.wl
  have hl : gs.length = ws.length := hgl.trans hwl.symm
  have t1 := told1 (arr_ok (ws := ws) (s := x) h.ok (by omega) (by omega) hl hx)
  rw [if_pos (fr_cr gs ws x hl hf), fr_bg gs ws x hl (by omega) hf] at t1
  have ta := tot_add gs ws x 0
  rw [Int.add_zero] at ta
  rw [ta] at t1
  exact t1
section
variable {L : List Int} {n : Nat} {gs : List Gu} {ws : List Int} {s2 s3 s4 s5 s6 s7 s8 s9 s10 s11 s12 s13 s14 s15 s16 s17 s18 s19 s20 s21 s22 s23 s24 s25 s26 s27 : Sl}
theorem g34 (hw : whole gs ≤ 5000) : q_law_34 (E L s2 (.sh (.int n)) s4 (.sh (.list (nL (gs.map Gu.t)))) s6 (.sh (.tuple (gL gs))) s8 (.sh (.tuple (nL ws))) s10 s11 s12 s13 s14 s15 s16 (.sh (.int (whole gs : Nat))) (.sh (frD gs ws)) s19 s20 s21 (.ow (.lst (nL (freeL gs ws)))) s23 s24 s25 s26 s27) = .ok .nx (E L s2 (.sh (.int n)) s4 (.sh (.list (nL (gs.map Gu.t)))) s6 (.sh (.tuple (gL gs))) s8 (.sh (.tuple (nL ws))) s10 s11 s12 s13 s14 s15 s16 (.sh (.int (whole gs : Nat))) (.sh (frD gs ws)) s19 s20 s21 (.ow (.lst (nL (freeL gs ws)))) s23 s24 s25 s26 s27) := by
  have e : frD gs ws = .tuple (nL (freeL gs ws)) := by unfold frD; rw [if_neg (by omega)]
  have fl := free_len (gs := gs) (ws := ws)
  have a := alike_is (d := .tuple (nL (freeL gs ws))) (okA_nL (k := 4) (by omega))
  rw [e]
  generalize nL (freeL gs ws) = F at *
  generalize nL (gs.map Gu.t) = T at *
  generalize gL gs = G at *
  generalize nL ws = W at *
  generalize whole gs = w at *
  simp [q_law_34, E, a]
theorem g36 {x y : Int} (h : Dr n gs ws) (hw : whole gs ≤ 5000) (hx : x ∈ freeL gs ws) (hy : y ∈ freeL gs ws) : ∃ s13', q_law_36 (E L s2 (.sh (.int n)) s4 (.sh (.list (nL (gs.map Gu.t)))) s6 (.sh (.tuple (gL gs))) s8 (.sh (.tuple (nL ws))) s10 s11 s12 s13 s14 s15 s16 (.sh (.int (whole gs : Nat))) s18 s19 s20 (.sh (.int (tot gs ws 0))) (.ow (.lst (nL (freeL gs ws)))) (.sh (.int x)) (.sh (.int y)) s25 s26 s27) = .ok .nx (E L s2 (.sh (.int n)) s4 (.sh (.list (nL (gs.map Gu.t)))) s6 (.sh (.tuple (gL gs))) s8 (.sh (.tuple (nL ws))) s10 s11 s12 s13' s14 s15 s16 (.sh (.int (whole gs : Nat))) (.ow (.lst [PyData.int (x + tot gs ws 0), PyData.int (y + tot gs ws 0), PyData.int (x + (whole gs : Nat) + tot gs ws 0)])) s19 s20 (.sh (.int (tot gs ws 0))) (.ow (.lst (nL (freeL gs ws)))) (.sh (.int x)) (.sh (.int y)) s25 s26 s27) := by
  have fx := mem_free hx
  have fy := mem_free hy
  have fz := fr_add (W := (whole gs : Nat)) gs ws x h.ok (whole_dvd h.ok)
  rw [fx.2.2] at fz
  have tx := arr_fr h (x := x) (by omega) fx.2.2
  have ty := arr_fr h (x := y) (by omega) fy.2.2
  have tz := arr_fr h (x := x + (whole gs : Nat)) (by omega) fz
  have hc := compL_map (α := Int) (vs := [13]) (tg := putG 13) (te := (callF M__law_told [.ex (kst (.int 1)), .ex (shr 7), .ex (shr 9), .ex (shr 13)])) (e := PyData.int) (f := fun z => PyData.int (z + tot gs ws 0)) (ρ := (E L s2 (.sh (.int n)) s4 (.sh (.list (nL (gs.map Gu.t)))) s6 (.sh (.tuple (gL gs))) s8 (.sh (.tuple (nL ws))) s10 s11 s12 .un s14 s15 s16 (.sh (.int (whole gs : Nat))) s18 s19 s20 (.sh (.int (tot gs ws 0))) (.ow (.lst (nL (freeL gs ws)))) (.sh (.int x)) (.sh (.int y)) s25 s26 s27)) [x, y, x + (whole gs : Nat)] (by simp) fun z hz => by
    have tzz : M__law_told [.sh (.int 1), .sh (.tuple (gL gs)), .sh (.tuple (nL ws)), .sh (.int z)] = .ok (.val (.int (z + tot gs ws 0))) [.un, .un, .un, .un] := by
      rcases List.mem_cons.mp hz with rfl | hz
      · exact tx
      rcases List.mem_cons.mp hz with rfl | hz
      · exact ty
      rcases List.mem_cons.mp hz with rfl | hz
      · exact tz
      · cases hz
    refine ⟨(E L s2 (.sh (.int n)) s4 (.sh (.list (nL (gs.map Gu.t)))) s6 (.sh (.tuple (gL gs))) s8 (.sh (.tuple (nL ws))) s10 s11 s12 (.sh (.int z)) s14 s15 s16 (.sh (.int (whole gs : Nat))) s18 s19 s20 (.sh (.int (tot gs ws 0))) (.ow (.lst (nL (freeL gs ws)))) (.sh (.int x)) (.sh (.int y)) s25 s26 s27), rfl, .val (.int (z + tot gs ws 0)), (E L s2 (.sh (.int n)) s4 (.sh (.list (nL (gs.map Gu.t)))) s6 (.sh (.tuple (gL gs))) s8 (.sh (.tuple (nL ws))) s10 s11 s12 (.sh (.int z)) s14 s15 s16 (.sh (.int (whole gs : Nat))) s18 s19 s20 (.sh (.int (tot gs ws 0))) (.ow (.lst (nL (freeL gs ws)))) (.sh (.int x)) (.sh (.int y)) s25 s26 s27), ?_, rfl, rfl⟩
    generalize z + tot gs ws 0 = zt at *
    generalize tot gs ws 0 = t0 at *
    generalize nL (freeL gs ws) = F at *
    generalize nL (gs.map Gu.t) = T' at *
    generalize gL gs = G at *
    generalize nL ws = W at *
    simp [E, tzz]
  have e := lcF_ls (vs := [13]) (src := (walk (args [(.ex (shr 23)), (.ex (shr 24)), (.ex (args [(.sl 23), (.sl 17)] (f2 addD)))] mkL))) (ρ := (E L s2 (.sh (.int n)) s4 (.sh (.list (nL (gs.map Gu.t)))) s6 (.sh (.tuple (gL gs))) s8 (.sh (.tuple (nL ws))) s10 s11 s12 s13 s14 s15 s16 (.sh (.int (whole gs : Nat))) s18 s19 s20 (.sh (.int (tot gs ws 0))) (.ow (.lst (nL (freeL gs ws)))) (.sh (.int x)) (.sh (.int y)) s25 s26 s27)) (ρ1 := (E L s2 (.sh (.int n)) s4 (.sh (.list (nL (gs.map Gu.t)))) s6 (.sh (.tuple (gL gs))) s8 (.sh (.tuple (nL ws))) s10 s11 s12 s13 s14 s15 s16 (.sh (.int (whole gs : Nat))) s18 s19 s20 (.sh (.int (tot gs ws 0))) (.ow (.lst (nL (freeL gs ws)))) (.sh (.int x)) (.sh (.int y)) s25 s26 s27)) (ds := [PyData.int x, PyData.int y, PyData.int (x + (whole gs : Nat))]) (by generalize tot gs ws 0 = t0; generalize nL (freeL gs ws) = F; generalize nL (gs.map Gu.t) = T'; generalize gL gs = G; generalize nL ws = W; generalize whole gs = w at *; simp [E]) rfl hc rfl
  refine ⟨keepSh (some s13), ?_⟩
  unfold q_law_36
  rw [seq_ap, e]
  rfl
theorem g38 {x y : Int} : ∃ s13', q_law_38 (E L s2 (.sh (.int n)) s4 (.sh (.list (nL (gs.map Gu.t)))) s6 (.sh (.tuple (gL gs))) s8 (.sh (.tuple (nL ws))) s10 s11 s12 s13 s14 s15 s16 (.sh (.int (whole gs : Nat))) (.ow (.lst [PyData.int (x + tot gs ws 0), PyData.int (y + tot gs ws 0), PyData.int (x + (whole gs : Nat) + tot gs ws 0)])) s19 s20 (.sh (.int (tot gs ws 0))) (.ow (.lst (nL (freeL gs ws)))) (.sh (.int x)) (.sh (.int y)) s25 s26 s27) = .ok .nx (E L s2 (.sh (.int n)) s4 (.sh (.list (nL (gs.map Gu.t)))) s6 (.sh (.tuple (gL gs))) s8 (.sh (.tuple (nL ws))) s10 s11 s12 s13' s14 s15 s16 (.sh (.int (whole gs : Nat))) (.ow (.lst [PyData.int (x + tot gs ws 0), PyData.int (y + tot gs ws 0), PyData.int (x + (whole gs : Nat) + tot gs ws 0)])) s19 s20 (.sh (.int (tot gs ws 0))) (.ow (.lst (nL (freeL gs ws)))) (.sh (.int x)) (.sh (.int y)) s25 s26 s27) := by
  have hc := compL_map (α := Int) (vs := [13]) (tg := putG 13) (te := (args [(.sl 13), (.sl 21)] (f2 addD))) (e := PyData.int) (f := fun z => PyData.int (z + tot gs ws 0)) (ρ := (E L s2 (.sh (.int n)) s4 (.sh (.list (nL (gs.map Gu.t)))) s6 (.sh (.tuple (gL gs))) s8 (.sh (.tuple (nL ws))) s10 s11 s12 .un s14 s15 s16 (.sh (.int (whole gs : Nat))) (.ow (.lst [PyData.int (x + tot gs ws 0), PyData.int (y + tot gs ws 0), PyData.int (x + (whole gs : Nat) + tot gs ws 0)])) s19 s20 (.sh (.int (tot gs ws 0))) (.ow (.lst (nL (freeL gs ws)))) (.sh (.int x)) (.sh (.int y)) s25 s26 s27)) [x, y, x + (whole gs : Nat)] (by simp) fun z hz => by
    refine ⟨(E L s2 (.sh (.int n)) s4 (.sh (.list (nL (gs.map Gu.t)))) s6 (.sh (.tuple (gL gs))) s8 (.sh (.tuple (nL ws))) s10 s11 s12 (.sh (.int z)) s14 s15 s16 (.sh (.int (whole gs : Nat))) (.ow (.lst [PyData.int (x + tot gs ws 0), PyData.int (y + tot gs ws 0), PyData.int (x + (whole gs : Nat) + tot gs ws 0)])) s19 s20 (.sh (.int (tot gs ws 0))) (.ow (.lst (nL (freeL gs ws)))) (.sh (.int x)) (.sh (.int y)) s25 s26 s27), rfl, .val (.int (z + tot gs ws 0)), (E L s2 (.sh (.int n)) s4 (.sh (.list (nL (gs.map Gu.t)))) s6 (.sh (.tuple (gL gs))) s8 (.sh (.tuple (nL ws))) s10 s11 s12 (.sh (.int z)) s14 s15 s16 (.sh (.int (whole gs : Nat))) (.ow (.lst [PyData.int (x + tot gs ws 0), PyData.int (y + tot gs ws 0), PyData.int (x + (whole gs : Nat) + tot gs ws 0)])) s19 s20 (.sh (.int (tot gs ws 0))) (.ow (.lst (nL (freeL gs ws)))) (.sh (.int x)) (.sh (.int y)) s25 s26 s27), ?_, rfl, rfl⟩
    generalize tot gs ws 0 = t0 at *
    generalize nL (freeL gs ws) = F at *
    generalize nL (gs.map Gu.t) = T' at *
    generalize gL gs = G at *
    generalize nL ws = W at *
    simp [E]
  have e := lcF_ls (vs := [13]) (src := (walk (args [(.ex (shr 23)), (.ex (shr 24)), (.ex (args [(.sl 23), (.sl 17)] (f2 addD)))] mkL))) (ρ := (E L s2 (.sh (.int n)) s4 (.sh (.list (nL (gs.map Gu.t)))) s6 (.sh (.tuple (gL gs))) s8 (.sh (.tuple (nL ws))) s10 s11 s12 s13 s14 s15 s16 (.sh (.int (whole gs : Nat))) (.ow (.lst [PyData.int (x + tot gs ws 0), PyData.int (y + tot gs ws 0), PyData.int (x + (whole gs : Nat) + tot gs ws 0)])) s19 s20 (.sh (.int (tot gs ws 0))) (.ow (.lst (nL (freeL gs ws)))) (.sh (.int x)) (.sh (.int y)) s25 s26 s27)) (ρ1 := (E L s2 (.sh (.int n)) s4 (.sh (.list (nL (gs.map Gu.t)))) s6 (.sh (.tuple (gL gs))) s8 (.sh (.tuple (nL ws))) s10 s11 s12 s13 s14 s15 s16 (.sh (.int (whole gs : Nat))) (.ow (.lst [PyData.int (x + tot gs ws 0), PyData.int (y + tot gs ws 0), PyData.int (x + (whole gs : Nat) + tot gs ws 0)])) s19 s20 (.sh (.int (tot gs ws 0))) (.ow (.lst (nL (freeL gs ws)))) (.sh (.int x)) (.sh (.int y)) s25 s26 s27)) (ds := [PyData.int x, PyData.int y, PyData.int (x + (whole gs : Nat))]) (by generalize tot gs ws 0 = t0; generalize nL (freeL gs ws) = F; generalize nL (gs.map Gu.t) = T'; generalize gL gs = G; generalize nL ws = W; generalize whole gs = w at *; simp [E]) rfl hc rfl
  have q : neD (.list [PyData.int (x + tot gs ws 0), PyData.int (y + tot gs ws 0), PyData.int (x + (whole gs : Nat) + tot gs ws 0)]) (.list [PyData.int (x + tot gs ws 0), PyData.int (y + tot gs ws 0), PyData.int (x + (whole gs : Nat) + tot gs ws 0)]) = some (.val (.bool false)) := ne_self' (okE_list rfl)
  refine ⟨keepSh (some s13), ?_⟩
  have e2 := args_sx2 (i := 18) (h := neD) (d := .list [PyData.int (x + tot gs ws 0), PyData.int (y + tot gs ws 0), PyData.int (x + (whole gs : Nat) + tot gs ws 0)]) (d' := .list [PyData.int (x + tot gs ws 0), PyData.int (y + tot gs ws 0), PyData.int (x + (whole gs : Nat) + tot gs ws 0)]) rfl e rfl
  unfold q_law_38
  rw [ifP_ap, seq_ap, e2]
  show Res.bind (Res.bind (opt (neD (.list [PyData.int (x + tot gs ws 0), PyData.int (y + tot gs ws 0), PyData.int (x + (whole gs : Nat) + tot gs ws 0)]) (.list [PyData.int (x + tot gs ws 0), PyData.int (y + tot gs ws 0), PyData.int (x + (whole gs : Nat) + tot gs ws 0)])) _) _) _ = _
  rw [q]
  rfl
theorem g39 (h : Dr n gs ws) (hw : whole gs ≤ 5000) : ∃ (L' : List Int) (s13' s18' s23' s24' : Sl), q_law_39 (E L s2 (.sh (.int n)) s4 (.sh (.list (nL (gs.map Gu.t)))) s6 (.sh (.tuple (gL gs))) s8 (.sh (.tuple (nL ws))) s10 s11 s12 s13 s14 s15 s16 (.sh (.int (whole gs : Nat))) s18 s19 s20 (.sh (.int (tot gs ws 0))) (.ow (.lst (nL (freeL gs ws)))) s23 s24 s25 s26 s27) = .ok .nx (E L' s2 (.sh (.int n)) s4 (.sh (.list (nL (gs.map Gu.t)))) s6 (.sh (.tuple (gL gs))) s8 (.sh (.tuple (nL ws))) s10 s11 s12 s13' s14 s15 s16 (.sh (.int (whole gs : Nat))) s18' s19 s20 (.sh (.int (tot gs ws 0))) (.ow (.lst (nL (freeL gs ws)))) s23' s24' s25 s26 s27) := by
  by_cases h1 : 1 < (freeL gs ws).length
  · obtain ⟨c, hc, ec⟩ := pick_at (ds := nL (freeL gs ws)) (L := L) (n := (freeL gs ws).length) nL_len (by omega)
    obtain ⟨d, hd, ed⟩ := pick_at (ds := nL (freeL gs ws)) (L := tkL L) (n := (freeL gs ws).length) nL_len (by omega)
    obtain ⟨x, hx, rfl⟩ := List.mem_map.mp hc
    obtain ⟨y, hy, rfl⟩ := List.mem_map.mp hd
    have k1 := take_dw (L := L) (b := ((freeL gs ws).length : Nat)) (j := 0) (by omega)
    have k2 := take_dw (L := tkL L) (b := ((freeL gs ws).length : Nat)) (j := 0) (by omega)
    have e35 : q_law_35 (E L s2 (.sh (.int n)) s4 (.sh (.list (nL (gs.map Gu.t)))) s6 (.sh (.tuple (gL gs))) s8 (.sh (.tuple (nL ws))) s10 s11 s12 s13 s14 s15 s16 (.sh (.int (whole gs : Nat))) s18 s19 s20 (.sh (.int (tot gs ws 0))) (.ow (.lst (nL (freeL gs ws)))) s23 s24 s25 s26 s27) = .ok .nx (E (tkL (tkL L)) s2 (.sh (.int n)) s4 (.sh (.list (nL (gs.map Gu.t)))) s6 (.sh (.tuple (gL gs))) s8 (.sh (.tuple (nL ws))) s10 s11 s12 s13 s14 s15 s16 (.sh (.int (whole gs : Nat))) s18 s19 s20 (.sh (.int (tot gs ws 0))) (.ow (.lst (nL (freeL gs ws)))) (.sh (.int x)) (.sh (.int y)) s25 s26 s27) := by
      have fl := nL_len (ns := freeL gs ws)
      generalize (freeL gs ws).length = m at *
      generalize nL (freeL gs ws) = F at *
      generalize tot gs ws 0 = t0 at *
      generalize nL (gs.map Gu.t) = T' at *
      generalize gL gs = G at *
      generalize nL ws = W at *
      generalize whole gs = w at *
      simp [q_law_35, E, fl, k1, k2, ec, ed]
    obtain ⟨a1, e36⟩ := g36 (L := tkL (tkL L)) (s2 := s2) (s4 := s4) (s6 := s6) (s8 := s8) (s10 := s10) (s11 := s11) (s12 := s12) (s13 := s13) (s14 := s14) (s15 := s15) (s16 := s16) (s18 := s18) (s19 := s19) (s20 := s20) (s25 := s25) (s26 := s26) (s27 := s27) h hw hx hy
    obtain ⟨a2, e38⟩ := g38 (L := tkL (tkL L)) (n := n) (gs := gs) (ws := ws) (x := x) (y := y) (s2 := s2) (s4 := s4) (s6 := s6) (s8 := s8) (s10 := s10) (s11 := s11) (s12 := s12) (s13 := a1) (s14 := s14) (s15 := s15) (s16 := s16) (s19 := s19) (s20 := s20) (s25 := s25) (s26 := s26) (s27 := s27)
    refine ⟨tkL (tkL L), a2, .ow (.lst [PyData.int (x + tot gs ws 0), PyData.int (y + tot gs ws 0), PyData.int (x + (whole gs : Nat) + tot gs ws 0)]), .sh (.int x), .sh (.int y), ?_⟩
    have e0 : (seq (args [(.ex (args [(.sl 22)] (f1 lenD))), (.ex (kst (.int 1)))] (f2 (ordD gtI))) toB) (E L s2 (.sh (.int n)) s4 (.sh (.list (nL (gs.map Gu.t)))) s6 (.sh (.tuple (gL gs))) s8 (.sh (.tuple (nL ws))) s10 s11 s12 s13 s14 s15 s16 (.sh (.int (whole gs : Nat))) s18 s19 s20 (.sh (.int (tot gs ws 0))) (.ow (.lst (nL (freeL gs ws)))) s23 s24 s25 s26 s27) = .ok true (E L s2 (.sh (.int n)) s4 (.sh (.list (nL (gs.map Gu.t)))) s6 (.sh (.tuple (gL gs))) s8 (.sh (.tuple (nL ws))) s10 s11 s12 s13 s14 s15 s16 (.sh (.int (whole gs : Nat))) s18 s19 s20 (.sh (.int (tot gs ws 0))) (.ow (.lst (nL (freeL gs ws)))) s23 s24 s25 s26 s27) := by
      have fl := nL_len (ns := freeL gs ws)
      have hg : gtI ((freeL gs ws).length : Int) 1 = true := by unfold gtI; simp; omega
      generalize (freeL gs ws).length = m at *
      generalize nL (freeL gs ws) = F at *
      generalize tot gs ws 0 = t0 at *
      generalize nL (gs.map Gu.t) = T' at *
      generalize gL gs = G at *
      generalize nL ws = W at *
      generalize whole gs = w at *
      simp [E, fl, hg]
    unfold q_law_39
    rw [ifP_ap, e0, bind_ok, if_pos rfl, thenS_nx e35, thenS_nx e36, e38]
  · refine ⟨L, s13, s18, s23, s24, ?_⟩
    have fl := nL_len (ns := freeL gs ws)
    have hg : gtI ((freeL gs ws).length : Int) 1 = false := by unfold gtI; simp; omega
    generalize (freeL gs ws).length = m at *
    generalize nL (freeL gs ws) = F at *
    generalize tot gs ws 0 = t0 at *
    generalize nL (gs.map Gu.t) = T' at *
    generalize gL gs = G at *
    generalize nL ws = W at *
    generalize whole gs = w at *
    simp [q_law_39, E, fl, hg]
theorem g40 (h : Dr n gs ws) : ∃ (L' : List Int) (s6' s12' s13' s18' s19' s20' s21' s22' s23' s24' : Sl), q_law_40 (E L s2 (.sh (.int n)) s4 (.sh (.list (nL (gs.map Gu.t)))) s6 (.sh (.tuple (gL gs))) s8 (.sh (.tuple (nL ws))) s10 s11 s12 s13 s14 s15 s16 (.sh (.int (whole gs : Nat))) (.sh (frD gs ws)) s19 s20 s21 s22 s23 s24 s25 s26 s27) = .ok .nx (E L' s2 (.sh (.int n)) s4 (.sh (.list (nL (gs.map Gu.t)))) s6' (.sh (.tuple (gL gs))) s8 (.sh (.tuple (nL ws))) s10 s11 s12' s13' s14 s15 s16 (.sh (.int (whole gs : Nat))) s18' s19' s20' s21' s22' s23' s24' s25 s26 s27) := by
  by_cases hw : 5000 < whole gs
  · exact ⟨L, s6, s12, s13, _, s19, s20, s21, s22, s23, s24, g40_much hw⟩
  · have hw : whole gs ≤ 5000 := by omega
    obtain ⟨d6, a12, e31⟩ := g31 (L := L) (s2 := s2) (s4 := s4) (s6 := s6) (s8 := s8) (s10 := s10) (s11 := s11) (s12 := s12) (s13 := s13) (s14 := s14) (s15 := s15) (s16 := s16) (s17 := (.sh (.int (whole gs : Nat)))) (s18 := (.sh (frD gs ws))) (s22 := s22) (s23 := s23) (s24 := s24) (s25 := s25) (s26 := s26) (s27 := s27) h
    obtain ⟨a13, e32⟩ := g32 (L := L) (d6 := d6) (w := whole gs) (s2 := s2) (s4 := s4) (s8 := s8) (s10 := s10) (s11 := s11) (s12 := a12) (s13 := s13) (s14 := s14) (s15 := s15) (s16 := s16) (s18 := (.sh (frD gs ws))) (s21 := .sh (.int (tot gs ws 0))) (s22 := s22) (s23 := s23) (s24 := s24) (s25 := s25) (s26 := s26) (s27 := s27) h hw
    rw [free_nL] at e32
    have e34 := g34 (L := L) (n := n) (gs := gs) (ws := ws) (s2 := s2) (s4 := s4) (s6 := .sh d6) (s8 := s8) (s10 := s10) (s11 := s11) (s12 := a12) (s13 := a13) (s14 := s14) (s15 := s15) (s16 := s16) (s19 := .ow (.lst (tabL gs))) (s20 := .ow (.lst (nL (bh gs ws 0)))) (s21 := .sh (.int (tot gs ws 0))) (s23 := s23) (s24 := s24) (s25 := s25) (s26 := s26) (s27 := s27) hw
    obtain ⟨L', b13, b18, b23, b24, e39⟩ := g39 (L := L) (n := n) (gs := gs) (ws := ws) (s2 := s2) (s4 := s4) (s6 := .sh d6) (s8 := s8) (s10 := s10) (s11 := s11) (s12 := a12) (s13 := a13) (s14 := s14) (s15 := s15) (s16 := s16) (s18 := (.sh (frD gs ws))) (s19 := .ow (.lst (tabL gs))) (s20 := .ow (.lst (nL (bh gs ws 0)))) (s23 := s23) (s24 := s24) (s25 := s25) (s26 := s26) (s27 := s27) h hw
    refine ⟨L', .sh d6, a12, b13, b18, .ow (.lst (tabL gs)), .ow (.lst (nL (bh gs ws 0))), .sh (.int (tot gs ws 0)), .ow (.lst (nL (freeL gs ws))), b23, b24, ?_⟩
    have ec : (seq (args [(.sl 17), (.ex (kst (.int 5000)))] (f2 (ordD gtI))) toB) (E L s2 (.sh (.int n)) s4 (.sh (.list (nL (gs.map Gu.t)))) s6 (.sh (.tuple (gL gs))) s8 (.sh (.tuple (nL ws))) s10 s11 s12 s13 s14 s15 s16 (.sh (.int (whole gs : Nat))) (.sh (frD gs ws)) s19 s20 s21 s22 s23 s24 s25 s26 s27) = .ok false (E L s2 (.sh (.int n)) s4 (.sh (.list (nL (gs.map Gu.t)))) s6 (.sh (.tuple (gL gs))) s8 (.sh (.tuple (nL ws))) s10 s11 s12 s13 s14 s15 s16 (.sh (.int (whole gs : Nat))) (.sh (frD gs ws)) s19 s20 s21 s22 s23 s24 s25 s26 s27) := by
      have hg : gtI ((whole gs : Nat) : Int) 5000 = false := by unfold gtI; simp; omega
      generalize frD gs ws = R at *
      generalize nL (gs.map Gu.t) = T' at *
      generalize gL gs = G at *
      generalize nL ws = W at *
      generalize whole gs = w at *
      simp [E, hg]
    unfold q_law_40
    rw [ifP_ap, ec, bind_ok, if_neg (by decide), thenS_nx g26, thenS_nx e31, thenS_nx e32, thenS_nx e34, e39]
theorem g42 : ∃ s13' s25', q_law_42 (E L s2 (.sh (.int n)) s4 (.sh (.list (nL (gs.map Gu.t)))) s6 (.sh (.tuple (gL gs))) s8 (.sh (.tuple (nL ws))) s10 s11 s12 s13 s14 s15 s16 s17 s18 s19 s20 s21 s22 s23 s24 s25 s26 s27) = .ok .nx (E L s2 (.sh (.int n)) s4 (.sh (.list (nL (gs.map Gu.t)))) s6 (.sh (.tuple (gL gs))) s8 (.sh (.tuple (nL ws))) s10 s11 s12 s13' s14 s15 s16 s17 s18 s19 s20 s21 s22 s23 s24 s25' s26 s27) := by
  have hc := compL_map (α := Int × Int) (vs := [25, 13]) (tg := tgT [25, 13]) (te := (callF M__law_told [.ex (shr 25), .ex (shr 7), .ex (shr 9), .ex (shr 13)])) (e := fun p => PyData.tuple [.int p.1, .int p.2]) (f := fun _ => PyData.str "range") (ρ := (E L s2 (.sh (.int n)) s4 (.sh (.list (nL (gs.map Gu.t)))) s6 (.sh (.tuple (gL gs))) s8 (.sh (.tuple (nL ws))) s10 s11 s12 .un s14 s15 s16 s17 s18 s19 s20 s21 s22 s23 s24 .un s26 s27)) [(0, -1), (0, 10001), (1, -1), (1, 10001)] (by simp) fun z hz => by
    have tz : M__law_told [.sh (.int z.1), .sh (.tuple (gL gs)), .sh (.tuple (nL ws)), .sh (.int z.2)] = .ok (.val (.str "range")) [.un, .un, .un, .un] := by
      rcases List.mem_cons.mp hz with rfl | hz
      · exact told0_no (er_no rfl)
      rcases List.mem_cons.mp hz with rfl | hz
      · exact told0_no (er_no rfl)
      rcases List.mem_cons.mp hz with rfl | hz
      · exact told1_no (arr_no rfl)
      rcases List.mem_cons.mp hz with rfl | hz
      · exact told1_no (arr_no rfl)
      · cases hz
    refine ⟨(E L s2 (.sh (.int n)) s4 (.sh (.list (nL (gs.map Gu.t)))) s6 (.sh (.tuple (gL gs))) s8 (.sh (.tuple (nL ws))) s10 s11 s12 (.sh (.int z.2)) s14 s15 s16 s17 s18 s19 s20 s21 s22 s23 s24 (.sh (.int z.1)) s26 s27), rfl, .val (.str "range"), (E L s2 (.sh (.int n)) s4 (.sh (.list (nL (gs.map Gu.t)))) s6 (.sh (.tuple (gL gs))) s8 (.sh (.tuple (nL ws))) s10 s11 s12 (.sh (.int z.2)) s14 s15 s16 s17 s18 s19 s20 s21 s22 s23 s24 (.sh (.int z.1)) s26 s27), ?_, rfl, rfl⟩
    generalize nL (gs.map Gu.t) = T' at *
    generalize gL gs = G at *
    generalize nL ws = W at *
    simp [E, tz]
  have e := lcF_ls (vs := [25, 13]) (src := (walk (args [(.ex (args [(.ex (kst (.int 0))), (.ex (args [(.ex (kst (.int 1)))] (f1 negD)))] mkT)), (.ex (args [(.ex (kst (.int 0))), (.ex (kst (.int 10001)))] mkT)), (.ex (args [(.ex (kst (.int 1))), (.ex (args [(.ex (kst (.int 1)))] (f1 negD)))] mkT)), (.ex (args [(.ex (kst (.int 1))), (.ex (kst (.int 10001)))] mkT))] mkL))) (ρ4 := (E L s2 (.sh (.int n)) s4 (.sh (.list (nL (gs.map Gu.t)))) s6 (.sh (.tuple (gL gs))) s8 (.sh (.tuple (nL ws))) s10 s11 s12 (keepSh (some s13)) s14 s15 s16 s17 s18 s19 s20 s21 s22 s23 s24 (keepSh (some s25)) s26 s27)) (ρ := (E L s2 (.sh (.int n)) s4 (.sh (.list (nL (gs.map Gu.t)))) s6 (.sh (.tuple (gL gs))) s8 (.sh (.tuple (nL ws))) s10 s11 s12 s13 s14 s15 s16 s17 s18 s19 s20 s21 s22 s23 s24 s25 s26 s27)) (ρ1 := (E L s2 (.sh (.int n)) s4 (.sh (.list (nL (gs.map Gu.t)))) s6 (.sh (.tuple (gL gs))) s8 (.sh (.tuple (nL ws))) s10 s11 s12 s13 s14 s15 s16 s17 s18 s19 s20 s21 s22 s23 s24 s25 s26 s27)) (ds := [.tuple [.int 0, .int (-1)], .tuple [.int 0, .int 10001], .tuple [.int 1, .int (-1)], .tuple [.int 1, .int 10001]]) (by generalize nL (gs.map Gu.t) = T'; generalize gL gs = G; generalize nL ws = W; simp [E]) rfl hc rfl
  have q : neD (.list [PyData.str "range", PyData.str "range", PyData.str "range", PyData.str "range"]) (.list [PyData.str "range", PyData.str "range", PyData.str "range", PyData.str "range"]) = some (.val (.bool false)) := ne_self' (okE_list (by decide +kernel))
  have m : mulD (.list [PyData.str "range"]) (.int 4) = some (.own (.lst [PyData.str "range", PyData.str "range", PyData.str "range", PyData.str "range"])) := mulL_ap (k := 4) (by decide) (by decide)
  refine ⟨keepSh (some s13), keepSh (some s25), ?_⟩
  unfold q_law_42
  rw [ifP_ap, seq_ap, args_ex2 e (g := args [(.ex (args [(.ex (kst (.str "range")))] mkL)), (.ex (kst (.int 4)))] (f2 mulD)) (b := .own (.lst [PyData.str "range", PyData.str "range", PyData.str "range", PyData.str "range"])) (ρ2 := (E L s2 (.sh (.int n)) s4 (.sh (.list (nL (gs.map Gu.t)))) s6 (.sh (.tuple (gL gs))) s8 (.sh (.tuple (nL ws))) s10 s11 s12 (keepSh (some s13)) s14 s15 s16 s17 s18 s19 s20 s21 s22 s23 s24 (keepSh (some s25)) s26 s27)) (by simp [m])]
  show Res.bind (Res.bind (opt (neD (.list [PyData.str "range", PyData.str "range", PyData.str "range", PyData.str "range"]) (.list [PyData.str "range", PyData.str "range", PyData.str "range", PyData.str "range"])) _) _) _ = _
  rw [q]
  rfl
theorem g43 : ∃ (L' : List Int) (s2' s3' s4' s5' s6' s7' s8' s9' s10' s11' s12' s13' s14' s15' s16' s17' s18' s19' s20' s21' s22' s23' s24' s25' s26' s27' : Sl), q_law_43 (E L s2 s3 s4 s5 s6 s7 s8 s9 s10 s11 s12 s13 s14 s15 s16 s17 s18 s19 s20 s21 s22 s23 s24 s25 s26 s27) = .ok .nx (E L' s2' s3' s4' s5' s6' s7' s8' s9' s10' s11' s12' s13' s14' s15' s16' s17' s18' s19' s20' s21' s22' s23' s24' s25' s26' s27') := by
  obtain ⟨ρ', hL, L', t2, t3, t4, t5, t6, t7, t8, t9, t10, t11, t12, t13, t14, t15, t16, t17, t18, t19, t20, t21, t22, t23, t24, t25, t26, t27, rfl⟩ := forL_ind (tg := putG 2) (b := (thenS q_law_1 (thenS q_law_2 (thenS q_law_3 (thenS q_law_4 (thenS q_law_5 (thenS q_law_7 (thenS q_law_22 (thenS q_law_23 (thenS q_law_40 q_law_42)))))))))) (f := fun i : Nat => PyData.int (0 + (i : Int))) (n := 2) (I := fun _ ρ => ∃ L s2 s3 s4 s5 s6 s7 s8 s9 s10 s11 s12 s13 s14 s15 s16 s17 s18 s19 s20 s21 s22 s23 s24 s25 s26 s27, ρ = (E L s2 s3 s4 s5 s6 s7 s8 s9 s10 s11 s12 s13 s14 s15 s16 s17 s18 s19 s20 s21 s22 s23 s24 s25 s26 s27)) (ρ := (E L s2 s3 s4 s5 s6 s7 s8 s9 s10 s11 s12 s13 s14 s15 s16 s17 s18 s19 s20 s21 s22 s23 s24 s25 s26 s27)) ⟨L, s2, s3, s4, s5, s6, s7, s8, s9, s10, s11, s12, s13, s14, s15, s16, s17, s18, s19, s20, s21, s22, s23, s24, s25, s26, s27, rfl⟩ fun i hi ρ hI => by
    obtain ⟨L, s2, s3, s4, s5, s6, s7, s8, s9, s10, s11, s12, s13, s14, s15, s16, s17, s18, s19, s20, s21, s22, s23, s24, s25, s26, s27, rfl⟩ := hI
    refine ⟨(E L (.sh (.int (0 + (i : Int)))) s3 s4 s5 s6 s7 s8 s9 s10 s11 s12 s13 s14 s15 s16 s17 s18 s19 s20 s21 s22 s23 s24 s25 s26 s27), rfl, ?_⟩
    generalize Sl.sh (PyData.int (0 + (i : Int))) = s2
    obtain ⟨n, kd, hn, hk, e1⟩ := g1 (L := L) (s2 := s2) (s3 := s3) (s4 := s4) (s5 := s5) (s6 := s6) (s7 := s7) (s8 := s8) (s9 := s9) (s10 := s10) (s11 := s11) (s12 := s12) (s13 := s13) (s14 := s14) (s15 := s15) (s16 := s16) (s17 := s17) (s18 := s18) (s19 := s19) (s20 := s20) (s21 := s21) (s22 := s22) (s23 := s23) (s24 := s24) (s25 := s25) (s26 := s26) (s27 := s27)
    obtain ⟨ts, L2, a6, hl, ht, e2⟩ := g2 (L := tkL (tkL L)) (s2 := s2) (s5 := s5) (s6 := s6) (s7 := s7) (s8 := s8) (s9 := s9) (s10 := s10) (s11 := s11) (s12 := s12) (s13 := s13) (s14 := s14) (s15 := s15) (s16 := s16) (s17 := s17) (s18 := s18) (s19 := s19) (s20 := s20) (s21 := s21) (s22 := s22) (s23 := s23) (s24 := s24) (s25 := s25) (s26 := s26) (s27 := s27) hn hk
    obtain ⟨gs, L3, a8, hm, ok, e3⟩ := g3 (L := L2) (s2 := s2) (s3 := .sh (.int n)) (s4 := .sh (.int kd)) (s6 := a6) (s7 := s7) (s8 := s8) (s9 := s9) (s10 := s10) (s11 := s11) (s12 := s12) (s13 := s13) (s14 := s14) (s15 := s15) (s16 := s16) (s17 := s17) (s18 := s18) (s19 := s19) (s20 := s20) (s21 := s21) (s22 := s22) (s23 := s23) (s24 := s24) (s25 := s25) (s26 := s26) (s27 := s27) ht (by omega)
    have hgl : gs.length = n := by rw [← hl, ← hm, List.length_map]
    subst hm
    obtain ⟨ws, L4, b6, hwl, e4⟩ := g4 (L := L3) (s2 := s2) (s4 := .sh (.int kd)) (s5 := .sh (.list (nL (gs.map Gu.t)))) (s6 := a6) (s7 := .sh (.tuple (gL gs))) (s8 := a8) (s9 := s9) (s10 := s10) (s11 := s11) (s12 := s12) (s13 := s13) (s14 := s14) (s15 := s15) (s16 := s16) (s17 := s17) (s18 := s18) (s19 := s19) (s20 := s20) (s21 := s21) (s22 := s22) (s23 := s23) (s24 := s24) (s25 := s25) (s26 := s26) (s27 := s27) hn
    have h : Dr n gs ws := ⟨hn, hgl, hwl, ok⟩
    obtain ⟨a11, e5⟩ := g5 (L := L4) (gs := gs) (s2 := s2) (s3 := .sh (.int n)) (s4 := .sh (.int kd)) (s5 := .sh (.list (nL (gs.map Gu.t)))) (s6 := b6) (s8 := a8) (s9 := .sh (.tuple (nL ws))) (s10 := s10) (s11 := s11) (s12 := s12) (s13 := s13) (s14 := s14) (s15 := s15) (s16 := s16) (s17 := s17) (s18 := s18) (s19 := s19) (s20 := s20) (s21 := s21) (s22 := s22) (s23 := s23) (s24 := s24) (s25 := s25) (s26 := s26) (s27 := s27) (by omega)
    have e7 := g7 (L := L4) (gs := gs) (s2 := s2) (s3 := .sh (.int n)) (s4 := .sh (.int kd)) (s5 := .sh (.list (nL (gs.map Gu.t)))) (s6 := b6) (s8 := a8) (s9 := .sh (.tuple (nL ws))) (s10 := .sh (.bool (allCr gs))) (s11 := a11) (s12 := s12) (s13 := s13) (s14 := s14) (s15 := s15) (s16 := s16) (s17 := s17) (s18 := s18) (s19 := s19) (s20 := s20) (s21 := s21) (s22 := s22) (s23 := s23) (s24 := s24) (s25 := s25) (s26 := s26) (s27 := s27) ok (by omega) (by omega)
    obtain ⟨L5, c6, c8, c11, c12, c13, c14, c15, c16, e22⟩ := g22 (L := L4) (s2 := s2) (s4 := .sh (.int kd)) (s5 := .sh (.list (nL (gs.map Gu.t)))) (s6 := b6) (s8 := a8) (s11 := a11) (s12 := s12) (s13 := s13) (s14 := s14) (s15 := s15) (s16 := s16) (s17 := s17) (s18 := s18) (s19 := s19) (s20 := s20) (s21 := s21) (s22 := s22) (s23 := s23) (s24 := s24) (s25 := s25) (s26 := s26) (s27 := s27) h
    have e23 := g23 (L := L5) (s2 := s2) (s4 := .sh (.int kd)) (s6 := c6) (s8 := c8) (s10 := .sh (.bool (allCr gs))) (s11 := c11) (s12 := c12) (s13 := c13) (s14 := c14) (s15 := c15) (s16 := c16) (s17 := s17) (s18 := s18) (s19 := s19) (s20 := s20) (s21 := s21) (s22 := s22) (s23 := s23) (s24 := s24) (s25 := s25) (s26 := s26) (s27 := s27) h
    obtain ⟨L6, d6, d12, d13, d18, d19, d20, d21, d22, d23, d24, e40⟩ := g40 (L := L5) (s2 := s2) (s4 := .sh (.int kd)) (s6 := c6) (s8 := c8) (s10 := .sh (.bool (allCr gs))) (s11 := c11) (s12 := c12) (s13 := c13) (s14 := c14) (s15 := c15) (s16 := c16) (s19 := s19) (s20 := s20) (s21 := s21) (s22 := s22) (s23 := s23) (s24 := s24) (s25 := s25) (s26 := s26) (s27 := s27) h
    obtain ⟨z13, z25, e42⟩ := g42 (L := L6) (n := n) (gs := gs) (ws := ws) (s2 := s2) (s4 := .sh (.int kd)) (s6 := d6) (s8 := c8) (s10 := .sh (.bool (allCr gs))) (s11 := c11) (s12 := d12) (s13 := d13) (s14 := c14) (s15 := c15) (s16 := c16) (s17 := .sh (.int (whole gs : Nat))) (s18 := d18) (s19 := d19) (s20 := d20) (s21 := d21) (s22 := d22) (s23 := d23) (s24 := d24) (s25 := s25) (s26 := s26) (s27 := s27)
    rw [thenS_nx e1, thenS_nx e2, thenS_nx e3, thenS_nx e4, thenS_nx e5, thenS_nx e7, thenS_nx e22, thenS_nx e23, thenS_nx e40, e42]
    exact ⟨_, rfl, L6, _, _, _, _, _, _, _, _, _, _, _, _, _, _, _, _, _, _, _, _, _, _, _, _, _, _, rfl⟩
  have hr := rng1_nat (n := 2) (by decide)
  have hr : rng1 (.int 2) = some (rngL 0 2) := hr
  exact ⟨L', t2, t3, t4, t5, t6, t7, t8, t9, t10, t11, t12, t13, t14, t15, t16, t17, t18, t19, t20, t21, t22, t23, t24, t25, t26, t27, (forF_ls (ds := rngL 0 2) (ρ1 := (E L s2 s3 s4 s5 s6 s7 s8 s9 s10 s11 s12 s13 s14 s15 s16 s17 s18 s19 s20 s21 s22 s23 s24 s25 s26 s27)) (by simp [hr])).trans hL⟩
abbrev bad1 : List D := [.tuple [], .tuple [.tuple [.int 1, .int 0, .int 1, .int 1]], .tuple [.tuple [.int 61, .int 0, .int 1, .int 1]], .tuple [.tuple [.int 5, .int 5, .int 1, .int 1]], .tuple [.tuple [.int 5, .int 0, .int 0, .int 1]], .tuple [.tuple [.int 5, .int 0, .int 5, .int 1]], .tuple [.tuple [.int 5, .int 0, .int 1, .int 0]], .tuple [.tuple [.int 5, .int 0, .int 1, .int 61]]]
abbrev bad2 : List D := [.tuple [.tuple [.int 5, .int 0, .int 1]], .list [.tuple [.int 5, .int 0, .int 1, .int 1]], .tuple [.tuple [.int 5, .int 0, .int 1, .int 1], .tuple [.int 5, .int 0, .int 1, .int 1], .tuple [.int 5, .int 0, .int 1, .int 1], .tuple [.int 5, .int 0, .int 1, .int 1], .tuple [.int 5, .int 0, .int 1, .int 1], .tuple [.int 5, .int 0, .int 1, .int 1], .tuple [.int 5, .int 0, .int 1, .int 1]], .tuple [.tuple [.int 5, .int (-1), .int 1, .int 1]], .tuple [.tuple [.bool true, .int 0, .int 1, .int 1]], .none]
theorem g45 : (thenS q_law_44 (thenS q_law_45 q_law_46)) (E L s2 s3 s4 s5 s6 s7 s8 s9 s10 s11 s12 s13 s14 s15 s16 s17 s18 s19 s20 s21 s22 s23 s24 s25 s26 s27) = q_law_46 (E L s2 s3 s4 s5 s6 s7 s8 s9 s10 s11 s12 s13 s14 s15 s16 s17 s18 s19 s20 s21 s22 s23 s24 s25 (.ow (.lst (bad1 ++ bad2))) s27) := by
  have e44 : q_law_44 (E L s2 s3 s4 s5 s6 s7 s8 s9 s10 s11 s12 s13 s14 s15 s16 s17 s18 s19 s20 s21 s22 s23 s24 s25 s26 s27) = .ok .nx (E L s2 s3 s4 s5 s6 s7 s8 s9 s10 s11 s12 s13 s14 s15 s16 s17 s18 s19 s20 s21 s22 s23 s24 s25 (.ow (.lst bad1)) s27) := by simp [q_law_44, E]
  have m : mulD (.tuple [.tuple [.int 5, .int 0, .int 1, .int 1]]) (.int 7) = some (.val (.tuple [.tuple [.int 5, .int 0, .int 1, .int 1], .tuple [.int 5, .int 0, .int 1, .int 1], .tuple [.int 5, .int 0, .int 1, .int 1], .tuple [.int 5, .int 0, .int 1, .int 1], .tuple [.int 5, .int 0, .int 1, .int 1], .tuple [.int 5, .int 0, .int 1, .int 1], .tuple [.int 5, .int 0, .int 1, .int 1]])) := mulT_ap (k := 7) (by decide) (by decide)
  have a : addD (.list bad1) (.list bad2) = some (.own (.lst (bad1 ++ bad2))) := by rw [addL_ap, if_pos (by decide)]
  have e45 : q_law_45 (E L s2 s3 s4 s5 s6 s7 s8 s9 s10 s11 s12 s13 s14 s15 s16 s17 s18 s19 s20 s21 s22 s23 s24 s25 (.ow (.lst bad1)) s27) = .ok .nx (E L s2 s3 s4 s5 s6 s7 s8 s9 s10 s11 s12 s13 s14 s15 s16 s17 s18 s19 s20 s21 s22 s23 s24 s25 (.ow (.lst (bad1 ++ bad2))) s27) := by
    generalize bad1 ++ bad2 = B3 at *
    generalize hb : bad1 = B1 at *
    simp [q_law_45, E, m, a]
  rw [thenS_nx e44, thenS_nx e45]
theorem g46 : ∃ ρ', q_law_46 (E L s2 s3 s4 s5 s6 s7 s8 s9 s10 s11 s12 s13 s14 s15 s16 s17 s18 s19 s20 s21 s22 s23 s24 s25 (.ow (.lst (bad1 ++ bad2))) s27) = .ok (.rt (.val (.bool true))) ρ' := by
  have hb : ∀ d ∈ bad1 ++ bad2, areGu d = false := by decide +kernel
  have hl : (bad1 ++ bad2).length ≤ 16777216 := by decide
  generalize bad1 ++ bad2 = B at *
  have hc := compL_sift (α := D) (vs := [27]) (tg := putG 27) (tt := (seq (args [(.ex (callF M_are_gullies [.ex (shr 27)])), (.ex (kst (.bool false)))] (f2 (notD))) toB)) (te := shr 27) (e := id) (f := id) (p := fun _ => false) (ρ := (E L s2 s3 s4 s5 s6 s7 s8 s9 s10 s11 s12 s13 s14 s15 s16 s17 s18 s19 s20 s21 s22 s23 s24 s25 (.sh (.list B)) .un)) B hl fun d hd => by
    refine ⟨(E L s2 s3 s4 s5 s6 s7 s8 s9 s10 s11 s12 s13 s14 s15 s16 s17 s18 s19 s20 s21 s22 s23 s24 s25 (.sh (.list B)) (.sh d)), rfl, (E L s2 s3 s4 s5 s6 s7 s8 s9 s10 s11 s12 s13 s14 s15 s16 s17 s18 s19 s20 s21 s22 s23 s24 s25 (.sh (.list B)) (.sh d)), ?_, fun _ => rfl, fun z => by cases z⟩
    have a := are_ok (d := d)
    rw [hb d hd] at a
    simp [E, a, notD, nonD]
  rw [filter_no, List.map_id] at hc
  have e := lcF_ls (vs := [27]) (src := (walk (shr 26))) (ρ := (E L s2 s3 s4 s5 s6 s7 s8 s9 s10 s11 s12 s13 s14 s15 s16 s17 s18 s19 s20 s21 s22 s23 s24 s25 (.ow (.lst B)) s27)) (ρ1 := (E L s2 s3 s4 s5 s6 s7 s8 s9 s10 s11 s12 s13 s14 s15 s16 s17 s18 s19 s20 s21 s22 s23 s24 s25 (.sh (.list B)) s27)) (ds := B) (by simp [E]) rfl hc rfl
  refine ⟨(E L s2 s3 s4 s5 s6 s7 s8 s9 s10 s11 s12 s13 s14 s15 s16 s17 s18 s19 s20 s21 s22 s23 s24 s25 (.sh (.list B)) (keepSh (some s27))), ?_⟩
  unfold q_law_46
  rw [seq_ap, args_ex2 e (g := args [] mkL) (b := .own (.lst [])) rfl]
  show Res.bind (opt (eqD (.list []) (.list [])) _) _ = _
  rw [nil_eq]
  rfl
end
theorem law_true (L : List Int) (_ : L.length ≤ 65000) : (m_law (lawEn (N_law.length - 2) L)).post (fun r _ => r = .rt (.val (.bool true))) (fun _ _ => False) := by
  show (m_law (E L .un .un .un .un .un .un .un .un .un .un .un .un .un .un .un .un .un .un .un .un .un .un .un .un .un .un)).post _ _
  obtain ⟨L', s2, s3, s4, s5, s6, s7, s8, s9, s10, s11, s12, s13, s14, s15, s16, s17, s18, s19, s20, s21, s22, s23, s24, s25, s26, s27, e43⟩ := g43 (L := L) (s2 := .un) (s3 := .un) (s4 := .un) (s5 := .un) (s6 := .un) (s7 := .un) (s8 := .un) (s9 := .un) (s10 := .un) (s11 := .un) (s12 := .un) (s13 := .un) (s14 := .un) (s15 := .un) (s16 := .un) (s17 := .un) (s18 := .un) (s19 := .un) (s20 := .un) (s21 := .un) (s22 := .un) (s23 := .un) (s24 := .un) (s25 := .un) (s26 := .un) (s27 := .un)
  obtain ⟨ρ', e46⟩ := g46 (L := L') (s2 := s2) (s3 := s3) (s4 := s4) (s5 := s5) (s6 := s6) (s7 := s7) (s8 := s8) (s9 := s9) (s10 := s10) (s11 := s11) (s12 := s12) (s13 := s13) (s14 := s14) (s15 := s15) (s16 := s16) (s17 := s17) (s18 := s18) (s19 := s19) (s20 := s20) (s21 := s21) (s22 := s22) (s23 := s23) (s24 := s24) (s25 := s25) (s27 := s27)
  unfold m_law
  rw [thenS_nx e43, g45, e46]
  rfl
end K75

set_option Elab.async false
set_option linter.all false
set_option maxRecDepth 100000
set_option maxHeartbeats 0
namespace K75
open PySem PySem.Spec PyProof.Rows L2 L3
abbrev RW : PySem.W.OpenLaw := PySem.Challenge.rw_campslaid_k75_whole_gullies_and_all_thei
/-! ### the draws -/
abbrev stDraws : Stmt := top 25
theorem scDraws : FnScope [("script" : Str), "draws", "cell", "number", "first", "k", "seed"] ["script"] (defScope stDraws) := ⟨rfl, rfl, rfl, by decide +kernel, rfl, by decide +kernel, by decide +kernel⟩
section
variable {Pg : Program} {w : World} {K : PySem.W.Frag} {mg : Str → Option Value} {base : Heap} {fd : FuncData}
theorem ok_draws (F : Dn K "_law_draws" stDraws fd) (gabs : mg "abs" = none) (gint : mg "int" = none) (grange : mg "range" = none) (glen : mg "len" = none) (glist : mg "list" = none) (grev : mg "reversed" = none) :
    FnOk Pg w K mg base (L2N.CX Pg w) 1 (He.fAd K ("_law_draws", none)) fd ["script"] (spDraws K) := by
  refine okC F scDraws (fun vs H Q E h => by obtain ⟨a, ns, rfl, _⟩ := h; rfl) fun E => ⟨tDraws K, fun i => ?_, fun vs H Q h => draws_ok h⟩
  exact pss_cons (ps_set (i := 1) scDraws.nd rfl (.inl rfl) (pe_lst pa_nil))
    (pss_cons (ps_for (owns_defC i) rfl (pi_list (pe_var (i := 0) rfl (.inl rfl))) (pg_name (i := 2) scDraws.nd rfl (.inl rfl))
      (pss_cons (ps_set (i := 3) scDraws.nd rfl (.inl rfl) (pe_callB call_abs rfl gabs boot_abs (pa_cons (pe_var (i := 2) rfl (.inl rfl)) pa_nil)))
      (pss_cons (ps_if (pt_cmpR op_lt (pe_var (i := 3) rfl (.inl rfl)) (pe_op op_pow pe_int pe_int) (nomark _))
        (pss_cons (ps_set (i := 4) scDraws.nd rfl (.inl rfl) (pe_op op_mod (pe_callTy call_int1 rfl gint boot_int (pa_cons (pe_op op_add (pe_op op_mul (pe_var (i := 3) rfl (.inl rfl)) pe_int) pe_int) pa_nil)) pe_int))
        (pss_cons (ps_expr (pe_bm PySem.F.plainAttrs_list PySem.F.slot_list_append PySem.F.type_list_append mt_append (pe_var (i := 1) rfl (.inl rfl)) (pa_cons (pe_op op_mod (pe_callTy call_int1 rfl gint boot_int (pa_cons (pe_op op_add (pe_op op_mul (pe_var (i := 4) rfl (.inl rfl)) pe_int) (pe_var (i := 3) rfl (.inl rfl))) pa_nil)) pe_int) pa_nil)))
        (pss_cons (ps_expr (pe_bm PySem.F.plainAttrs_list PySem.F.slot_list_append PySem.F.type_list_append mt_append (pe_var (i := 1) rfl (.inl rfl)) (pa_cons (pe_op op_mod (pe_callTy call_int1 rfl gint boot_int (pa_cons (pe_op op_add (pe_var (i := 4) rfl (.inl rfl)) (pe_op op_fdiv (pe_var (i := 3) rfl (.inl rfl)) pe_int)) pa_nil)) pe_int) pa_nil)))
        (pss_one (ps_set (i := 3) scDraws.nd rfl (.inl rfl) pe_int))))) pss_nil)
      (pss_one (ps_for (owns_defC i) rfl (pi_range1 rfl grange (pa_cons pe_int pa_nil)) (pg_name (i := 5) scDraws.nd rfl (.inl rfl))
        (pss_one (ps_if (pt_cmpR op_gt (pe_var (i := 3) rfl (.inl rfl)) pe_int (nomark _))
          (pss_cons (ps_expr (pe_bm PySem.F.plainAttrs_list PySem.F.slot_list_append PySem.F.type_list_append mt_append (pe_var (i := 1) rfl (.inl rfl)) (pa_cons (pe_op op_mod (pe_callTy call_int1 rfl gint boot_int (pa_cons (pe_var (i := 3) rfl (.inl rfl)) pa_nil)) pe_int) pa_nil)))
          (pss_one (ps_set (i := 3) scDraws.nd rfl (.inl rfl) (pe_op op_fdiv (pe_var (i := 3) rfl (.inl rfl)) pe_int)))) pss_nil)))))))
    (pss_cons (ps_set (i := 6) scDraws.nd rfl (.inl rfl) pe_int)
    (pss_cons (ps_if (pt_cmpR op_gt (pe_callB call_len rfl glen boot_len (pa_cons (pe_var (i := 0) rfl (.inl rfl)) pa_nil)) pe_int (nomark _))
      (pss_one (ps_set (i := 6) scDraws.nd rfl (.inl rfl) (pe_op op_add pe_int (pe_callB call_abs rfl gabs boot_abs (pa_cons (pe_ix ix_seq (pe_var (i := 0) rfl (.inl rfl)) pe_int (fun _ _ => rfl)) pa_nil))))) pss_nil)
    (pss_cons (ps_for (owns_defC i) rfl (pi_range1 rfl grange (pa_cons pe_int pa_nil)) (pg_name (i := 5) scDraws.nd rfl (.inl rfl))
      (pss_cons (ps_set (i := 6) scDraws.nd rfl (.inl rfl) (pe_op op_mod (pe_callTy call_int1 rfl gint boot_int (pa_cons (pe_op op_add (pe_op op_mul (pe_var (i := 6) rfl (.inl rfl)) pe_int) pe_int) pa_nil)) pe_int))
      (pss_one (ps_expr (pe_bm PySem.F.plainAttrs_list PySem.F.slot_list_append PySem.F.type_list_append mt_append (pe_var (i := 1) rfl (.inl rfl)) (pa_cons (pe_op op_fdiv (pe_var (i := 6) rfl (.inl rfl)) pe_int) pa_nil))))))
    (pss_one (ps_ret (pe_lstRev rfl rfl glist rfl grev (pe_var (i := 1) rfl (.inl rfl)) rfl rfl)))))))
end
/-! ### the head -/
def df (x : Str) (i : Nat) : He.DefD := ⟨(x, none), x, x, defArgs (top i), defBody (top i), defScope (top i), [], []⟩
def fn : List He.DefD := [df "is_number" 9, df "is_gully" 15, df "are_gullies" 16, df "can_cross" 17, df "can_begin" 18, df "next_begin" 19, df "earliest_begins" 20, df "arrival" 21, df "is_free" 22, df "free_starts" 23, df "_law_draws" 25, df "_law_take" 26, df "_law_says" 27, df "_law_alike" 28, df "_law_word" 29, df "_law_round" 30, df "_law_falls" 31, df "_law_can" 32, df "_law_begins" 33, df "_law_gully" 34, df "_law_told" 35, df "law" 36]
def fa : List He.Fa := [.glo "is_number", .glo "is_gully", .glo "are_gullies", .glo "can_cross", .glo "can_begin", .glo "next_begin", .glo "earliest_begins", .glo "arrival", .glo "is_free", .glo "free_starts", .glo "_law_draws", .glo "_law_take", .glo "_law_says", .glo "_law_alike", .glo "_law_word", .glo "_law_round", .glo "_law_falls", .glo "_law_can", .glo "_law_begins", .glo "_law_gully", .glo "_law_told", .glo "law", .int "MOST_GULLIES" 6, .int "MOST_TURN" 60, .int "MOST_START" 10000, .int "MOST_ROUND" 5000, .free "ValueError", .free "abs", .free "all", .free "bool", .free "int", .free "isinstance", .free "len", .free "list", .free "max", .free "min", .free "range", .free "reversed", .free "str", .free "tuple", .free "zip", .glo "CampError", .glo "OutOfRange", .glo "Malformed", .glo "NotThere", .glo "Refused", .glo "TooMuch", .exc "OutOfRange", .exc "Malformed", .exc "NotThere", .exc "Refused", .exc "TooMuch"]
def tf : List He.Defn := [("are_gullies", none), ("earliest_begins", none)]
def exT (K : PySem.W.Frag) : Bool := K.all fun p => !(decide (p.2.cls = .type "tuple")) || p.2.dict.isNone
def ex (K : PySem.W.Frag) : Bool := exT K && excsB K && He.eqO (PySem.W.nsIn K mainGlobals "lcm") (some (some (.builtin "math.lcm")))
abbrev R : PySem.W.OpenRow := PySem.W.OpenLaw.row RW
abbrev hk : PySem.W.Hook := He.hookX 4 fa fn [] tf ex
def ob (s : PySem.W.SharedT) : He.AlX := He.obsX 4 fa fn [] tf ex (HandSHeadRun.getT s)
theorem ob_eq (s : PySem.W.SharedT) : ob s = hk.obs s.abs := He.obsX_eq (HandSHeadRun.getT_eq s)
theorem run (w : World) : HandSHeadRun.RunEqI R (PySem.W.view R.prog [0, 36]) hk ob 6000 ((["CampError", "OutOfRange", "Malformed", "NotThere", "Refused", "TooMuch", "is_number", "MOST_GULLIES", "MOST_TURN", "MOST_START", "MOST_ROUND", "is_gully", "are_gullies", "can_cross", "can_begin", "next_begin", "earliest_begins", "arrival", "is_free", "free_starts", "_law_draws", "_law_take", "_law_says", "_law_alike", "_law_word", "_law_round", "_law_falls", "_law_can", "_law_begins", "_law_gully"] : List PySem.Str) ++ (["_law_told"] : List PySem.Str)) w := by
  unfold HandSHeadRun.RunEqI
  kernel_rfl
def gc (K : PySem.W.Frag) : GC := ⟨K, clsN K, tf.map fun p => (He.cT K p).2, false⟩
theorem top_of {K : PySem.W.Frag} {w : World} {h base : Heap} {mg : Str → Option Value} (KX : K.In h) (G : h.Ns mainGlobals mg) (c : He.SaysX fa fn [] tf ex w h K) (TB : ∀ p ∈ tf.map fun p => He.cT K p, GxR.TabB base mg p.1 p.2) : Top (gc K) mg base where
  b_ValueError := He.free_ok KX G (c.t.d.fact 26 (f := .free "ValueError") rfl)
  b_abs := He.free_ok KX G (c.t.d.fact 27 (f := .free "abs") rfl)
  b_all := He.free_ok KX G (c.t.d.fact 28 (f := .free "all") rfl)
  b_bool := He.free_ok KX G (c.t.d.fact 29 (f := .free "bool") rfl)
  b_int := He.free_ok KX G (c.t.d.fact 30 (f := .free "int") rfl)
  b_isinstance := He.free_ok KX G (c.t.d.fact 31 (f := .free "isinstance") rfl)
  b_len := He.free_ok KX G (c.t.d.fact 32 (f := .free "len") rfl)
  b_list := He.free_ok KX G (c.t.d.fact 33 (f := .free "list") rfl)
  b_max := He.free_ok KX G (c.t.d.fact 34 (f := .free "max") rfl)
  b_min := He.free_ok KX G (c.t.d.fact 35 (f := .free "min") rfl)
  b_range := He.free_ok KX G (c.t.d.fact 36 (f := .free "range") rfl)
  b_reversed := He.free_ok KX G (c.t.d.fact 37 (f := .free "reversed") rfl)
  b_str := He.free_ok KX G (c.t.d.fact 38 (f := .free "str") rfl)
  b_tuple := He.free_ok KX G (c.t.d.fact 39 (f := .free "tuple") rfl)
  b_zip := He.free_ok KX G (c.t.d.fact 40 (f := .free "zip") rfl)
  c_MOST_GULLIES := He.int_ok KX G (c.t.d.fact 22 (f := .int "MOST_GULLIES" 6) rfl)
  c_MOST_TURN := He.int_ok KX G (c.t.d.fact 23 (f := .int "MOST_TURN" 60) rfl)
  c_MOST_START := He.int_ok KX G (c.t.d.fact 24 (f := .int "MOST_START" 10000) rfl)
  c_MOST_ROUND := He.int_ok KX G (c.t.d.fact 25 (f := .int "MOST_ROUND" 5000) rfl)
  f_is_number := by
    obtain ⟨fd, F⟩ := c.t.d.def_ 0 (d := df "is_number" 9) rfl
    exact ⟨fd, F, F.bindsN fun _ _ _ _ _ _ us hl => match us, hl with | [_, _, _], _ => rfl, He.glo_ok KX G (c.t.d.fact 0 (f := .glo "is_number") rfl), F.kp⟩
  f_is_gully := by
    obtain ⟨fd, F⟩ := c.t.d.def_ 1 (d := df "is_gully" 15) rfl
    exact ⟨fd, F, F.bindsN fun _ _ _ _ _ _ us hl => match us, hl with | [_], _ => rfl, He.glo_ok KX G (c.t.d.fact 1 (f := .glo "is_gully") rfl), F.kp⟩
  f_are_gullies := by
    obtain ⟨fd, F⟩ := c.t.d.def_ 2 (d := df "are_gullies" 16) rfl
    exact ⟨fd, F, F.bindsN fun _ _ _ _ _ _ us hl => match us, hl with | [_], _ => rfl, He.glo_ok KX G (c.t.d.fact 2 (f := .glo "are_gullies") rfl), F.kp⟩
  f_can_cross := by
    obtain ⟨fd, F⟩ := c.t.d.def_ 3 (d := df "can_cross" 17) rfl
    exact ⟨fd, F, F.bindsN fun _ _ _ _ _ _ us hl => match us, hl with | [_], _ => rfl, He.glo_ok KX G (c.t.d.fact 3 (f := .glo "can_cross") rfl), F.kp⟩
  f_can_begin := by
    obtain ⟨fd, F⟩ := c.t.d.def_ 4 (d := df "can_begin" 18) rfl
    exact ⟨fd, F, F.bindsN fun _ _ _ _ _ _ us hl => match us, hl with | [_, _], _ => rfl, He.glo_ok KX G (c.t.d.fact 4 (f := .glo "can_begin") rfl), F.kp⟩
  f_next_begin := by
    obtain ⟨fd, F⟩ := c.t.d.def_ 5 (d := df "next_begin" 19) rfl
    exact ⟨fd, F, F.bindsN fun _ _ _ _ _ _ us hl => match us, hl with | [_, _], _ => rfl, He.glo_ok KX G (c.t.d.fact 5 (f := .glo "next_begin") rfl), F.kp⟩
  f_earliest_begins := by
    obtain ⟨fd, F⟩ := c.t.d.def_ 6 (d := df "earliest_begins" 20) rfl
    exact ⟨fd, F, F.bindsN fun _ _ _ _ _ _ us hl => match us, hl with | [_, _, _], _ => rfl, He.glo_ok KX G (c.t.d.fact 6 (f := .glo "earliest_begins") rfl), F.kp⟩
  f_arrival := by
    obtain ⟨fd, F⟩ := c.t.d.def_ 7 (d := df "arrival" 21) rfl
    exact ⟨fd, F, F.bindsN fun _ _ _ _ _ _ us hl => match us, hl with | [_, _, _], _ => rfl, He.glo_ok KX G (c.t.d.fact 7 (f := .glo "arrival") rfl), F.kp⟩
  f_is_free := by
    obtain ⟨fd, F⟩ := c.t.d.def_ 8 (d := df "is_free" 22) rfl
    exact ⟨fd, F, F.bindsN fun _ _ _ _ _ _ us hl => match us, hl with | [_, _, _], _ => rfl, He.glo_ok KX G (c.t.d.fact 8 (f := .glo "is_free") rfl), F.kp⟩
  f_free_starts := by
    obtain ⟨fd, F⟩ := c.t.d.def_ 9 (d := df "free_starts" 23) rfl
    exact ⟨fd, F, F.bindsN fun _ _ _ _ _ _ us hl => match us, hl with | [_, _], _ => rfl, He.glo_ok KX G (c.t.d.fact 9 (f := .glo "free_starts") rfl), F.kp⟩
  f__law_draws := by
    obtain ⟨fd, F⟩ := c.t.d.def_ 10 (d := df "_law_draws" 25) rfl
    exact ⟨fd, F, F.bindsN fun _ _ _ _ _ _ us hl => match us, hl with | [_], _ => rfl, He.glo_ok KX G (c.t.d.fact 10 (f := .glo "_law_draws") rfl), F.kp⟩
  f__law_take := by
    obtain ⟨fd, F⟩ := c.t.d.def_ 11 (d := df "_law_take" 26) rfl
    exact ⟨fd, F, F.bindsN fun _ _ _ _ _ _ us hl => match us, hl with | [_, _], _ => rfl, He.glo_ok KX G (c.t.d.fact 11 (f := .glo "_law_take") rfl), F.kp⟩
  f__law_says := by
    obtain ⟨fd, F⟩ := c.t.d.def_ 12 (d := df "_law_says" 27) rfl
    exact ⟨fd, F, F.bindsN fun _ _ _ _ _ _ us hl => match us, hl with | [_, _], _ => rfl, He.glo_ok KX G (c.t.d.fact 12 (f := .glo "_law_says") rfl), F.kp⟩
  f__law_alike := by
    obtain ⟨fd, F⟩ := c.t.d.def_ 13 (d := df "_law_alike" 28) rfl
    exact ⟨fd, F, F.bindsN fun _ _ _ _ _ _ us hl => match us, hl with | [_, _], _ => rfl, He.glo_ok KX G (c.t.d.fact 13 (f := .glo "_law_alike") rfl), F.kp⟩
  f__law_word := by
    obtain ⟨fd, F⟩ := c.t.d.def_ 14 (d := df "_law_word" 29) rfl
    exact ⟨fd, F, F.bindsN fun _ _ _ _ _ _ us hl => match us, hl with | [_], _ => rfl, He.glo_ok KX G (c.t.d.fact 14 (f := .glo "_law_word") rfl), F.kp⟩
  f__law_round := by
    obtain ⟨fd, F⟩ := c.t.d.def_ 15 (d := df "_law_round" 30) rfl
    exact ⟨fd, F, F.bindsN fun _ _ _ _ _ _ us hl => match us, hl with | [_], _ => rfl, He.glo_ok KX G (c.t.d.fact 15 (f := .glo "_law_round") rfl), F.kp⟩
  f__law_falls := by
    obtain ⟨fd, F⟩ := c.t.d.def_ 16 (d := df "_law_falls" 31) rfl
    exact ⟨fd, F, F.bindsN fun _ _ _ _ _ _ us hl => match us, hl with | [_, _], _ => rfl, He.glo_ok KX G (c.t.d.fact 16 (f := .glo "_law_falls") rfl), F.kp⟩
  f__law_can := by
    obtain ⟨fd, F⟩ := c.t.d.def_ 17 (d := df "_law_can" 32) rfl
    exact ⟨fd, F, F.bindsN fun _ _ _ _ _ _ us hl => match us, hl with | [_, _], _ => rfl, He.glo_ok KX G (c.t.d.fact 17 (f := .glo "_law_can") rfl), F.kp⟩
  f__law_begins := by
    obtain ⟨fd, F⟩ := c.t.d.def_ 18 (d := df "_law_begins" 33) rfl
    exact ⟨fd, F, F.bindsN fun _ _ _ _ _ _ us hl => match us, hl with | [_, _, _], _ => rfl, He.glo_ok KX G (c.t.d.fact 18 (f := .glo "_law_begins") rfl), F.kp⟩
  f__law_gully := by
    obtain ⟨fd, F⟩ := c.t.d.def_ 19 (d := df "_law_gully" 34) rfl
    exact ⟨fd, F, F.bindsN fun _ _ _ _ _ _ us hl => match us, hl with | [_, _], _ => rfl, He.glo_ok KX G (c.t.d.fact 19 (f := .glo "_law_gully") rfl), F.kp⟩
  f__law_told := by
    obtain ⟨fd, F⟩ := c.t.d.def_ 20 (d := df "_law_told" 35) rfl
    exact ⟨fd, F, F.bindsN fun _ _ _ _ _ _ us hl => match us, hl with | [_, _, _, _], _ => rfl, He.glo_ok KX G (c.t.d.fact 20 (f := .glo "_law_told") rfl), F.kp⟩
  f_law := by
    obtain ⟨fd, F⟩ := c.t.d.def_ 21 (d := df "law" 36) rfl
    exact ⟨fd, F, F.bindsN fun _ _ _ _ _ _ us hl => match us, hl with | [_], _ => rfl, He.glo_ok KX G (c.t.d.fact 21 (f := .glo "law") rfl), F.kp⟩
  t_are_gullies := ⟨List.mem_map.mpr ⟨("are_gullies", none), by simp [tf], rfl⟩, TB _ (List.mem_map.mpr ⟨("are_gullies", none), by simp [tf], rfl⟩)⟩
  t_earliest_begins := ⟨List.mem_map.mpr ⟨("earliest_begins", none), by simp [tf], rfl⟩, TB _ (List.mem_map.mpr ⟨("earliest_begins", none), by simp [tf], rfl⟩)⟩
  x_OutOfRange := ⟨rfl, He.glo_ok KX G (c.t.d.fact 42 (f := .glo "OutOfRange") rfl), c.t.d.fact 47 (f := .exc "OutOfRange") rfl⟩
  x_Malformed := ⟨rfl, He.glo_ok KX G (c.t.d.fact 43 (f := .glo "Malformed") rfl), c.t.d.fact 48 (f := .exc "Malformed") rfl⟩
  x_NotThere := ⟨rfl, He.glo_ok KX G (c.t.d.fact 44 (f := .glo "NotThere") rfl), c.t.d.fact 49 (f := .exc "NotThere") rfl⟩
  x_Refused := ⟨rfl, He.glo_ok KX G (c.t.d.fact 45 (f := .glo "Refused") rfl), c.t.d.fact 50 (f := .exc "Refused") rfl⟩
  x_TooMuch := ⟨rfl, He.glo_ok KX G (c.t.d.fact 46 (f := .glo "TooMuch") rfl), c.t.d.fact 51 (f := .exc "TooMuch") rfl⟩
  x_CampError := He.glo_ok KX G (c.t.d.fact 41 (f := .glo "CampError") rfl)
  kinds := kindOk_of (G := gc K) (fun _ => rfl) ((Bool.and_eq_true_iff.mp (Bool.and_eq_true_iff.mp c.more).1).2)
  g_lcm := ns_ok KX G ((Bool.and_eq_true_iff.mp c.more).2)
  tdf := rfl
theorem law_ok {K : PySem.W.Frag} {w : World} {base : Heap} {mg : Str → Option Value} (T : Top (gc K) mg base) {fd : FuncData} (F : Dn K "law" (top 36) fd) : FnOk RW.prog w K mg base (L2N.CX RW.prog w) 8 (He.fAd K ("law", none)) fd ["script"] (spLaw (gc K)) := by
  have o_is_number := k_is_number (Pg := RW.prog) (w := w) T 
  have o_is_gully := k_is_gully (Pg := RW.prog) (w := w) T o_is_number
  have o_are_gullies := k_are_gullies (Pg := RW.prog) (w := w) T o_is_gully
  have o_can_cross := k_can_cross (Pg := RW.prog) (w := w) T 
  have o_can_begin := k_can_begin (Pg := RW.prog) (w := w) T 
  have o_next_begin := k_next_begin (Pg := RW.prog) (w := w) T o_can_begin
  have o_earliest_begins := k_earliest_begins (Pg := RW.prog) (w := w) T o_can_cross o_is_number o_next_begin
  have o_arrival := k_arrival (Pg := RW.prog) (w := w) T o_earliest_begins
  have o_is_free := k_is_free (Pg := RW.prog) (w := w) T o_can_begin
  have o_free_starts := k_free_starts (Pg := RW.prog) (w := w) T o_is_free
  have o__law_take := k__law_take (Pg := RW.prog) (w := w) T 
  have o__law_says := k__law_says (Pg := RW.prog) (w := w) T 
  have o__law_alike := k__law_alike (Pg := RW.prog) (w := w) T  6
  have o__law_word := okE_word (Pg := RW.prog) (w := w) T
  have o__law_round := k__law_round (Pg := RW.prog) (w := w) T 
  have o__law_falls := k__law_falls (Pg := RW.prog) (w := w) T 
  have o__law_can := k__law_can (Pg := RW.prog) (w := w) T o__law_falls
  have o__law_begins := k__law_begins (Pg := RW.prog) (w := w) T o__law_can
  have o__law_gully := k__law_gully (Pg := RW.prog) (w := w) T o__law_take
  have o__law_told := k__law_told (Pg := RW.prog) (w := w) T o__law_word o_arrival o_earliest_begins o_free_starts
  obtain ⟨fdd, Fd⟩ := T.f__law_draws
  have od := ok_draws (Pg := RW.prog) (w := w) (K := K) (mg := mg) (base := base) Fd.dn T.b_abs T.b_int T.b_range T.b_len T.b_list T.b_reversed
  exact ok_law (k := 7) (kd := 1) (n := N_law.length - 2) (N := N_law) F sc_law rfl rfl od (by decide) Fd.gl Fd.kp Fd.bd rfl (.inl rfl) (by first | exact .inl rfl | exact .inr rfl) rfl
    (fun E => k_law T o__law_alike o__law_begins o__law_can o__law_gully o__law_round o__law_says o__law_take o__law_told o_are_gullies o_can_begin E) law_true
theorem law_at {K : PySem.W.Frag} {w : World} {h : Heap} {mg : Str → Option Value} {f : Addr} (KX : K.In h) (G : h.Ns mainGlobals mg) (hf : mg ("law" : Str) = some (.ref f)) (c : He.SaysX fa fn [] tf ex w h K) : LamX.LawAtS RW w K (L2N.CX RW.prog w) 8 63 "script" mg f h := by
  obtain ⟨fd, F⟩ := c.t.d.def_ 21 (d := df "law" 36) rfl
  have e := hf.symm.trans (He.glo_ok KX G (c.t.d.fact 21 (f := .glo "law") rfl))
  cases e
  have b := FunD.bindsA (ps := ["script"]) F fun _ _ _ _ _ _ us hl => match us, hl with | [_], _ => rfl
  have cs : ∀ p ∈ tf.map fun p => He.cT K p, ∃ q ∈ tf, p = He.cT K q := fun p hp => by
    obtain ⟨q, hq, rfl⟩ := List.mem_map.mp hp
    exact ⟨q, hq, rfl⟩
  refine ⟨fd, tf.map fun p => He.cT K p, spLaw (gc K), fun p hp => ?_, fun p hp => ?_, fun p hp => ?_, fun s v => b s [v] rfl, fun H a ns hl hb hT hS => ⟨a, ns, rfl, hS, hl, hb, fun P hP => ?_, fun H' => rfl⟩, fun base KB GB TB => ?_⟩
  · obtain ⟨q, hq, rfl⟩ := cs p hp
    exact c.empty q hq
  · obtain ⟨q, hq, rfl⟩ := cs p hp
    exact c.out q hq
  · obtain ⟨q, hq, rfl⟩ := cs p hp
    exact PySem.W.codeHd_of_K KX (c.hd q hq)
  · obtain ⟨q, hq, rfl⟩ := List.mem_map.mp hP
    exact hT (He.cT K q) (List.mem_map.mpr ⟨q, hq, rfl⟩)
  · exact law_ok (top_of KX G c fun p hp => ⟨(TB p hp).code, (TB p hp).bm, (TB p hp).gP⟩) F
end K75
open PySem PySem.W PySem.Calls PyProof.Rows
theorem PySem.Challenge.cw_campslaid_k75_whole_gullies_and_all_thei_holds : PySem.Challenge.rw_campslaid_k75_whole_gullies_and_all_thei.Holds := by
  w_on; o_law
  refine HandSHeadRun.head_imp (r := OpenLaw.row PySem.Challenge.rw_campslaid_k75_whole_gullies_and_all_thei) (q := view (OpenLaw.row PySem.Challenge.rw_campslaid_k75_whole_gullies_and_all_thei).prog [0, 36]) (H := K75.hk) (ob := K75.ob) (M := 6000) (loose := ((["CampError", "OutOfRange", "Malformed", "NotThere", "Refused", "TooMuch", "is_number", "MOST_GULLIES", "MOST_TURN", "MOST_START", "MOST_ROUND", "is_gully", "are_gullies", "can_cross", "can_begin", "next_begin", "earliest_begins", "arrival", "is_free", "free_starts", "_law_draws", "_law_take", "_law_says", "_law_alike", "_law_word", "_law_round", "_law_falls", "_law_can", "_law_begins", "_law_gully"] : List PySem.Str) ++ (["_law_told"] : List PySem.Str))) (d := HandSHeadRun.topDef (OpenLaw.row PySem.Challenge.rw_campslaid_k75_whole_gullies_and_all_thei).prog 36) (kwd := []) K75.ob_eq
    K75.run (by kernel_rfl) (by kernel_rfl) (by kernel_rfl) (by rfl) (by first | assumption | decide +kernel) (by decide +kernel) ⟨rfl, rfl, rfl, rfl, rfl, by decide +kernel⟩ ?hw ?hc
  case hw => w_witness2
  case hc =>
    refine LamX.walk_ofTsE (l := PySem.Challenge.rw_campslaid_k75_whole_gullies_and_all_thei) (n := 63) (k := 8) (x := "script") (CX := fun w => L2N.CX (PySem.Challenge.rw_campslaid_k75_whole_gullies_and_all_thei).prog w) rfl (by decide) (by kernel_rfl) ⟨rfl, by decide, by decide⟩ ?F (fun w H s e s' z => by
      obtain ⟨_, _, _, _, _, _, _, _, _, _, _, _, z⟩ := z
      exact z)
    intro w mg fa h Y G hmg0
    obtain ⟨K, KX, c⟩ := Y
    have hmg : mg ("law" : PySem.Str) = some (.ref fa) := by
      have e : (HandSHeadRun.topDef (OpenLaw.row PySem.Challenge.rw_campslaid_k75_whole_gullies_and_all_thei).prog 36).name = ("law" : PySem.Str) := by kernel_rfl
      rw [← e]
      exact hmg0
    exact ⟨K, KX, K75.law_at KX G hmg c⟩

