import PyProof.Rows.All
import Wide.All
import OpenK.AllK
import Wide.FinOn
import HandS.ForMost
import HandS.Deep
import HandS.Flow
import HandS.Conv
import HandS.TupAny
import HandS.TupMul
import HandS.Wide
import HandS.WideBits
import KE.SortData
import KE.KDictPairs
import HandS.IsInst
import HandS.TupLe
import HandS.Style
import HandS.More
import HandS.Evl
import HandS.Dict
import HandS.TupSets
import KE.KeyNested
import HandS.ExcValue
import HandS.ListItems
import HandS.SetFor
import KE.KItemsList
import HandS.Text
import HandS.Defaults
import HandS.EndBits
import HandS.Codes
import HandS.Ends
import PySem.Challenge.RW_forcedtold_k01_words
set_option Elab.async false
set_option linter.all false
set_option maxRecDepth 100000
set_option maxHeartbeats 4000000
section
namespace VL
open PySem PySem.Spec PyProof.Rows L2

/-! ### tuples whose object is known to have no dict of its own -/
def TupN (K : PySem.W.Frag) (H : Hp) (a : Addr) (xs : List V) : Prop :=
  (∃ o, H a = some (.frz o (.tup xs)) ∧ o.dict = none) ∨
    ∃ (o : Obj) (its : Array Value) (n : Nat), K.lookup a = some o ∧ o.cls = .type "tuple" ∧ o.dict = none ∧ o.data = .seq its n ∧ its.size ≤ sizeLine ∧ Vals xs its.toList
theorem TupN.sq {K : PySem.W.Frag} {H : Hp} {a : Addr} {xs : List V} (h : TupN K H a xs) : SqT K H a xs := by
  rcases h with ⟨o, e, _⟩ | ⟨o, its, n, h1, h2, _, h3⟩
  · exact .inl (.inr ⟨o, e⟩)
  · exact .inr ⟨o, its, n, h1, h2, h3⟩
/-- what a heap holds of it -/
theorem TupN.at {X : Cx} {pins : List (Addr × Obj)} {σ : L2.St} {H : Hp} {s : Shared} {a : Addr} {xs : List V} (I : Inv X pins σ H s) (h : TupN X.K H a xs) :
    ∃ its : List Value, Vals xs its ∧ PlainSeq "tuple" s.heap a its.toArray ∧ xs.length ≤ sizeLine := by
  rcases h with ⟨o, e, hd⟩ | ⟨o, its, n, hk, hc, hd, hs, hz, r⟩
  · obtain ⟨ho, z, its, r, ⟨o', ho', hc, n, hdat⟩⟩ := I.hok a _ e
    rw [ho] at ho'; cases ho'
    exact ⟨its, r, ⟨o, n, ho, hc, hd, hdat⟩, z⟩
  · refine ⟨its.toList, r, ⟨o, n, I.kIn a o hk, hc, hd, by simpa using hs⟩, ?_⟩
    have el := r.length
    simp only [Array.length_toList] at el
    omega
section
variable {X : Cx} {es : List Expr} {t : TA} {pos : Pos}
def tTupN (t : TA) : TE := fun σ H Q => t σ H fun xs H1 => xs.length ≤ sizeLine ∧ ∀ p o, H1 p = none → o.dict = none → Q (.ref p) (upd H1 p (.frz o (.tup xs)))
theorem pe_tupN {x1} (h : PA X es t) : PE X (.Tuple es x1 pos) (tTupN t) :=
  ⟨fun pins s σ H Q I hq => wpAny_Tuple_spliced (thn (h.run pos pins s σ H _ I hq) fun us s1 ⟨xs, H1, I1, r, z, q⟩ => ⟨by rw [← r.length]; exact z,
    .ref s1.heap.objs.size, upd H1 s1.heap.objs.size (.frz _ (.tup xs)), I1.laid (t' := s1.toks) (fun b u e => Heap.get?_push_of_some _ e) (Nat.le_refl _) ⟨Heap.get?_push_size _ rfl, z, us, r, _, Heap.get?_push_size _ rfl, rfl, _, rfl⟩, rfl, q _ _ (I1.hok.fresh (Nat.le_refl _)) rfl⟩)⟩
/-- tuple(xs) of a list, of a tuple -/
theorem call_tupN : CallR X (.type "tuple") (fun xs H Q => ∃ p ys, xs = [.ref p] ∧ ((SqL X.K H p ys ∧ ∀ l o, H l = none → o.dict = none → Q (.ref l) (upd H l (.frz o (.tup ys)))) ∨ (SqT X.K H p ys ∧ Q (.ref p) H))) := by
  intro pins s σ H xs us Q I r ⟨p, ys, ex, h⟩
  subst ex
  obtain ⟨u, eu, rx⟩ := vals1 r
  subst eu
  cases rx
  rcases h with ⟨hq, q⟩ | ⟨hq, q⟩
  · obtain ⟨its, ri, pl, hz⟩ := I.list hq
    have hl := ri.length
    refine call_tuple_list pl.isList (fun hp kp => ?_) (by simp only [List.size_toArray] <;> omega)
    have J : Inv X pins σ H { s with heap := hp } := I.kept (t' := s.toks) kp
    exact ⟨.ref hp.objs.size, upd H hp.objs.size (.frz _ (.tup ys)), J.laid (t' := s.toks) (fun b o e => Heap.get?_push_of_some _ e) (Nat.le_refl _) ⟨Heap.get?_push_size _ rfl, hz, its, ri, IsTup.new _ _⟩, rfl, q _ _ (J.hok.fresh (Nat.le_refl _)) rfl⟩
  · obtain ⟨its, _, pl, _⟩ := I.tuple hq
    exact call_tuple_same pl ⟨.ref p, H, I, rfl, q⟩
/-- tuple(range(..)) -/
theorem pe_tupRgN {e : Expr} {wi : L2.St → Hp → (Int → Int → Hp → Prop) → Prop} {p : Pos} (hc : X.calm = true) (hg : Gl X "tuple") (hm : X.mg "tuple" = none) (he : PRg X e wi)
    (na : starEach [e] X.env = (false, eval e X.env) :: starEach [] X.env := by rfl) : PE X (.Call (.Name "tuple" p) [e] [] pos) (fun σ H Q => wi σ H fun a b H1 => RgOk a b ∧ ∀ l o, H1 l = none → o.dict = none → Q (.ref l) (upd H1 l (.frz o (.tup (rgV a b))))) := by
  refine ⟨fun pins s σ H Q I h => ?_⟩
  refine Call_ (ld_blt I hg hm boot_tuple (callWith_type1 (args_cons (thn (he pins s σ H _ I h) fun x s1 ⟨r, a, b, t, u, v, H1, ex, hr, I1, ok, q⟩ => args_nil ?_) na) na))
  subst ex
  obtain ⟨b1, b2, b3, b4, b5⟩ := ok
  refine call_tuple_range (n := (b - a).toNat) (I1.ok.hd hc) hr (small_one b1 b2 b3 b4) (rangeSize_nat a b) b5 fun hp tk acc hk hi => ?_
  have J : Inv X pins σ H1 { s1 with heap := hp, toks := tk } := I1.kept hk
  refine ⟨.ref hp.objs.size, upd H1 hp.objs.size (.frz _ (.tup (rgV a b))), J.laid (t' := tk) (fun c o e => Heap.get?_push_of_some _ e) (Nat.le_refl _) ⟨Heap.get?_push_size _ rfl, ?_, acc.toList, vals_rg hi, ?_⟩, rfl, q _ _ (J.hok.fresh (Nat.le_refl _)) rfl⟩
  · rw [rgV_length, sizeLine_eq]; omega
  · rw [Array.toArray_toList]; exact IsTup.new _ _
/-- t + u -/
theorem op_catN : OpR X (binaryOp .Add) (fun x y H Q => ∃ a b xs ys, x = .ref a ∧ y = .ref b ∧ SqT X.K H a xs ∧ SqT X.K H b ys ∧ xs.length + ys.length ≤ sizeLine ∧
    (xs = [] → Q (.ref b) H) ∧ (xs ≠ [] → ys = [] → Q (.ref a) H) ∧ (xs ≠ [] → ys ≠ [] → ∀ p o, H p = none → o.dict = none → Q (.ref p) (upd H p (.frz o (.tup (xs ++ ys)))))) := by
  intro pins s σ H x y v u Q I rx ry ⟨a, b, xs, ys, ex, ey, ha, hb, hz, q0, q1, q2⟩
  subst ex; subst ey
  cases rx
  cases ry
  obtain ⟨its, r1, p1, _⟩ := I.tuple ha
  obtain ⟨its2, r2, p2, _⟩ := I.tuple hb
  by_cases hx : xs = []
  · subst hx
    cases r1
    exact cat_tup0 p1 p2 ⟨.ref b, H, I, rfl, q0 rfl⟩
  · refine HT.cat_tup p1 p2 (fun z => hx (r1.nil_iff.mp z)) (fun z => ⟨.ref a, H, I, rfl, q1 hx (r2.nil_iff.mp z)⟩) (fun z => ?_) (by rw [← r1.length, ← r2.length]; exact hz)
    exact ⟨.ref s.heap.objs.size, upd H s.heap.objs.size (.frz _ (.tup (xs ++ ys))), I.laid (t' := s.toks) (fun c ob q => Heap.get?_push_of_some _ q) (Nat.le_refl _) ⟨Heap.get?_push_size _ rfl, by rw [List.length_append]; exact hz, _, r1.append r2, IsTup.new _ _⟩, rfl, q2 hx (fun w => z (r2.nil_iff.mpr w)) _ _ (I.hok.fresh (Nat.le_refl _)) rfl⟩
/-- t[lo:hi] -/
theorem sl_tupN : SlR X (fun x lo hi H Q => ∃ a xs, x = .ref a ∧ SqT X.K H a xs ∧ (HT.sIx xs.length 0 lo = 0 ∧ HT.sIx xs.length xs.length hi = xs.length → Q (.ref a) H) ∧
    (¬ (HT.sIx xs.length 0 lo = 0 ∧ HT.sIx xs.length xs.length hi = xs.length) → ∀ p o, H p = none → o.dict = none → Q (.ref p) (upd H p (.frz o (.tup (cutV xs lo hi)))))) := by
  intro pins s σ H x v vl vu lo hi sl Q I rx hs pl pu ⟨a, xs, ex, hx, q1, q2⟩
  subst ex
  cases rx
  obtain ⟨its, r, ht, hz⟩ := I.tuple hx
  have hl : its.toArray.size = xs.length := by rw [List.size_toArray]; exact r.length.symm
  refine ⟨"tuple", _, slot_tuple_getitem.lookup, ht.typeIs, ?_⟩
  by_cases hw : HT.sIx xs.length 0 lo = 0 ∧ HT.sIx xs.length xs.length hi = xs.length
  · exact getItem_tuple_whole ht hs pl pu (by rw [hl]; exact hw) ⟨.ref a, H, I, rfl, q1 hw⟩
  · refine HT.getItem_tuple_cut ht hs pl pu (by rw [hl]; exact hw) ?_ (by rw [hl]; exact hz)
    rw [hl]
    exact ⟨.ref s.heap.objs.size, upd H s.heap.objs.size (.frz _ (.tup (cutV xs lo hi))), I.laid (t' := s.toks) (fun c ob q => Heap.get?_push_of_some _ q) (Nat.le_refl _) ⟨Heap.get?_push_size _ rfl, Nat.le_trans (cutV_length xs lo hi) hz, _, (r.drop (HT.sIx xs.length 0 lo)).take (HT.sIx xs.length xs.length hi - HT.sIx xs.length 0 lo), IsTup.new _ _⟩, rfl, q2 hw _ _ (I.hok.fresh (Nat.le_refl _)) rfl⟩
/-- t * k -/
theorem tuple_mul1 (l : Addr) (items : Array Value) (n : Nat) (dd : Option Addr) (sl : Array (Option Value)) (u : Tok) (hne : items.isEmpty = false) :
    Meets (Builtin.«tuple.__mul__» ⟨[.ref l, .int 1 u], []⟩) (fun _ R s => s.heap.get? l = some { cls := .type "tuple", dict := dd, data := .seq items n, slots := sl } ∧ R (.ok (.ret (Value.ref l))) s) :=
  .of_wp fun prog w A R s h => by
    obtain ⟨hp, g, d, tk, os⟩ := s
    obtain ⟨hl, h⟩ := h
    have f1 := AutoSeq1.idx_int
    have hT : (⟨hp, g, d, tk, os⟩ : Shared).TypeIs (.ref l) "tuple" := ⟨_, hl, rfl⟩
    have c0 : (decide ((1 : Int) < -(2 ^ 63)) || decide ((1 : Int) ≥ 2 ^ 63)) = false := by decide
    wp_walk using wpAny_loadPart' hl
    repeat (first
      | (refine wpAny_ite_false (decide_eq_false (by rw [c0]; exact Bool.false_ne_true)) ?_; wp_walk using wpAny_loadPart' hl)
      | (refine wpAny_ite_true (by rw [hne]; rfl) ?_; wp_walk using wpAny_loadPart' hl))
    all_goals first | exact ⟨_, rfl, h⟩ | skip
theorem op_repN : OpR X (binaryOp .Mult) (fun x y H Q => ∃ l k xs, x = .ref l ∧ y = .int k ∧ SqT X.K H l xs ∧ xs ≠ [] ∧ 1 ≤ k ∧ k ≤ 1000 ∧ xs.length ≤ 1000 ∧ (k = 1 → Q (.ref l) H) ∧
    (2 ≤ k → ∀ p o, H p = none → o.dict = none → Q (.ref p) (upd H p (.frz o (.tup (List.replicate k.toNat xs).flatten))))) := by
  intro pins s σ H x y v u Q I rx ry ⟨l, k, xs, ex, ey, hT, hne, h1, h2, hz, q1, q2⟩
  subst ex; subst ey
  cases rx
  obtain ⟨t, et⟩ := ry
  subst et
  obtain ⟨its, r, ⟨⟨cls, dd, data, sl⟩, ho, hc, n, hd⟩, hs⟩ := I.tuple hT
  simp only at hc hd
  subst hc hd
  have hle : its.length = xs.length := r.length.symm
  have hi : its.toArray.isEmpty = false := by
    cases its with
    | nil => exact absurd (List.eq_nil_of_length_eq_zero (by simpa using hle.symm)) hne
    | cons a b => rfl
  have go : ∀ {S : PySem.Spec}, Meets (Builtin.«tuple.__mul__» ⟨[.ref l, .int k t], []⟩) S → S X.A (wants (EP X pins σ Q) X.xe) s → wpAny (model X.prog X.w) X.A (binaryOp .Mult (.ref l) (.int k t)) (EP X pins σ Q) X.xe s := fun g h =>
    wpAny_binaryOp_repeat_ref (T := "tuple") (U := "int") (by decide) ⟨_, ho, rfl⟩ (fun s' => typeIs_int s' k t) noFill_tuple_mul F.fills_int_mul F.slot_int_rmul repeat_tuple F.slot_int_index.lookup
      (call_meets F.slot_int_rmul (typeIs_int s k t) F.entry_int_rmul (F.args_int_rmul_2 _ _) (int_rmul_tuple k t l its.toArray n dd sl)
        ⟨ho, rfl, ⟨_, ho, rfl⟩, call_meets F.slot_tuple_mul ⟨_, ho, rfl⟩ F.entry_tuple_mul (F.args_tuple_mul_2 _ _) g h⟩)
  by_cases e1 : k = 1
  · subst e1
    exact go (tuple_mul1 l its.toArray n dd sl t hi) ⟨ho, .ref l, H, I, rfl, q1 rfl⟩
  have k2 : 2 ≤ k := by omega
  have hsz0 : its.toArray.size = xs.length := by rw [List.size_toArray, hle]
  have bb : k.toNat * xs.length ≤ 1000 * 1000 := Nat.mul_le_mul (by omega) hz
  have hm : ((its.toArray.size : Nat) : Int) * k ≤ 1000000 := by
    rw [hsz0]
    have a1 : ((xs.length : Nat) : Int) * k ≤ 1000 * k := Int.mul_le_mul_of_nonneg_right (by omega) (by omega)
    omega
  have flen : (List.replicate k.toNat its).flatten.length ≤ sizeLine := by
    rw [lm_len_rep_flat, hle, sizeLine_eq]
    omega
  have c4 : Builtin.Tuple.tupleTooMany (((its.toArray.size : Nat) : Int) * k) = false := by
    unfold Builtin.Tuple.tupleTooMany
    rw [sizeLine_eq]
    exact decide_eq_false (by omega)
  refine go (tuple_mulW l its.toArray n dd sl k t (by rw [decide_eq_false (by omega), decide_eq_false (by omega)] <;> rfl) (by rw [hi, Bool.false_or]; exact beq_eq_false_iff_ne.mpr e1) (by rw [hi, Bool.or_false]; exact decide_eq_false (by omega)) (by omega) c4 (by rw [size_rep, List.size_toArray]; exact flen)) ⟨ho, ?_⟩
  rw [size_rep]
  exact ⟨.ref s.heap.objs.size, upd H s.heap.objs.size (.frz _ (.tup (List.replicate k.toNat xs).flatten)), I.laid (t' := s.toks) (fun b ob q => Heap.get?_push_of_some _ q) (Nat.le_refl _) ⟨Heap.get?_push_size _ rfl, by rw [lm_len_rep_flat, sizeLine_eq]; omega, _, r.rep k.toNat, IsTup.new _ _⟩, rfl, q2 k2 _ _ (I.hok.fresh (Nat.le_refl _)) rfl⟩
end
end VL
end
section
namespace VL
open PySem PySem.Spec L2

/-! ### heaps as parts -/
def emp : Hp := fun _ => none
def jn (h k : Hp) : Hp := fun a => match h a with | some o => some o | none => k a
def Dis (h k : Hp) : Prop := ∀ a, h a = none ∨ k a = none
def one (p : Addr) (o : HO) : Hp := upd emp p o

theorem jn_l {h k : Hp} {a : Addr} {o : HO} (e : h a = some o) : jn h k a = some o := by unfold jn; rw [e]
theorem jn_r {h k : Hp} {a : Addr} (e : h a = none) : jn h k a = k a := by unfold jn; rw [e]
theorem jn_none {h k : Hp} {a : Addr} : jn h k a = none ↔ h a = none ∧ k a = none := by
  cases e : h a with
  | none => rw [jn_r e]; simp
  | some o => rw [jn_l e]; simp
theorem jn_emp {h : Hp} : jn h emp = h := by
  funext a
  cases e : h a with
  | none => rw [jn_r e]; rfl
  | some o => rw [jn_l e]
theorem emp_jn {h : Hp} : jn emp h = h := by
  funext a; exact jn_r rfl
theorem jn_assoc {h k l : Hp} : jn (jn h k) l = jn h (jn k l) := by
  funext a
  cases e : h a with
  | some o => rw [jn_l e, jn_l (jn_l e)]
  | none =>
    rw [jn_r e]
    cases e2 : k a with
    | some o => rw [jn_l e2, jn_l (by rw [jn_r e]; exact e2)]
    | none => rw [jn_r e2, jn_r (by rw [jn_r e]; exact e2)]
theorem jn_comm {h k : Hp} (d : Dis h k) : jn h k = jn k h := by
  funext a
  rcases d a with e | e
  · rw [jn_r e]
    cases e2 : k a with
    | some o => rw [jn_l e2]
    | none => rw [jn_r e2]; exact e.symm
  · cases e2 : h a with
    | some o => rw [jn_l e2, jn_r e]; exact e2.symm
    | none => rw [jn_r e2, jn_r e]; exact e.trans e2.symm
theorem same_jn {h k H : Hp} (a : Same h H) (b : Same k H) : Same (jn h k) H := fun x o e => by
  cases e1 : h x with
  | some u => rw [jn_l e1] at e; cases e; exact a _ _ e1
  | none => rw [jn_r e1] at e; exact b _ _ e
theorem same_l {h k : Hp} : Same h (jn h k) := fun _ _ e => jn_l e
theorem same_r {h k : Hp} (d : Dis h k) : Same k (jn h k) := fun a o e => by
  rcases d a with z | z
  · rw [jn_r z]; exact e
  · rw [z] at e; cases e
theorem Dis.symm {h k : Hp} (d : Dis h k) : Dis k h := fun a => (d a).symm
theorem Dis.jn {h k l : Hp} (a : Dis h l) (b : Dis k l) : Dis (jn h k) l := fun x => by
  rcases a x with e | e
  · rcases b x with z | z
    · exact .inl (jn_none.mpr ⟨e, z⟩)
    · exact .inr z
  · exact .inr e
theorem Dis.sub {h h' k : Hp} (s : Same h h') (d : Dis h' k) : Dis h k := fun a => by
  rcases d a with e | e
  · exact .inl (s.free e)
  · exact .inr e
theorem Dis.emp {k : Hp} : Dis VL.emp k := fun _ => .inl rfl
theorem same_emp {k : Hp} : Same emp k := fun _ _ e => by cases e
theorem one_at {p : Addr} {o : HO} : one p o p = some o := upd_same
theorem one_ne {p a : Addr} {o : HO} (h : a ≠ p) : one p o a = none := upd_ne h
theorem same_one {p : Addr} {o : HO} {H : Hp} (h : H p = some o) : Same (one p o) H := fun a u e => by
  by_cases z : a = p
  · subst z; rw [one_at] at e; cases e; exact h
  · rw [one_ne z] at e; cases e
theorem dis_one {p : Addr} {o : HO} {k : Hp} (h : k p = none) : Dis (one p o) k := fun a => by
  by_cases z : a = p
  · subst z; exact .inr h
  · exact .inl (one_ne z)
theorem of_dis_one {p : Addr} {o : HO} {k : Hp} (d : Dis (one p o) k) : k p = none := by
  rcases d p with e | e
  · rw [one_at] at e; cases e
  · exact e
theorem same_new {H : Hp} {p : Addr} {o : HO} (h : H p = none) : Same H (upd H p o) := fun a u e => by
  rw [upd_ne (ne_of_none e h)]; exact e

/-! ### data in a heap -/
def kD : Key → PyData
  | .inl i => .int i
  | .inr x => .str x
/-- the script, as a datum of its own -/
def scD (ns : List Int) : PyData := .dict ((.none, .none) :: ns.map fun n => (.int n, .none))
mutual
inductive Rp (K : PySem.W.Frag) (F : Hp) : V → PyData → Prop
  | non : Rp K F .non .none
  | bl (b : Bool) : Rp K F (.bl b) (.bool b)
  | int (i : Int) : Rp K F (.int i) (.int i)
  | str (x : Str) : Rp K F (.str x) (.str x)
  | lst {a : Addr} {xs : List V} {ds : List PyData} : F a = some (.lst xs) → RpAll K F xs ds → Rp K F (.ref a) (.list ds)
  | tup {a : Addr} {xs : List V} {ds : List PyData} : TupN K F a xs → RpAll K F xs ds → Rp K F (.ref a) (.tuple ds)
  | dct {a : Addr} {ks : List Key} {xs : List V} {ds : List PyData} {kvs : List (PyData × PyData)} : F a = some (.dK (ks.zip xs)) → ks.length = ds.length → RpAll K F xs ds → kvs = (ks.map kD).zip ds → Rp K F (.ref a) (.dict kvs)
  | scr {a : Addr} {ns : List Int} : SqL K F a (ns.map V.int) → Rp K F (.ref a) (scD ns)
inductive RpAll (K : PySem.W.Frag) (F : Hp) : List V → List PyData → Prop
  | nil : RpAll K F [] []
  | cons {v : V} {vs : List V} {d : PyData} {ds : List PyData} : Rp K F v d → RpAll K F vs ds → RpAll K F (v :: vs) (d :: ds)
end
section
variable {K : PySem.W.Frag}
theorem sameT {H H' : Hp} {a : Addr} {xs : List V} (e : Same H H') (h : SqT K H a xs) : SqT K H' a xs := by
  rcases h with (h | ⟨o, h⟩) | h
  · exact .inl (.inl (e _ _ h))
  · exact .inl (.inr ⟨o, e _ _ h⟩)
  · exact .inr h
theorem sameN {H H' : Hp} {a : Addr} {xs : List V} (e : Same H H') (h : TupN K H a xs) : TupN K H' a xs := by
  rcases h with ⟨o, h, hd⟩ | h
  · exact .inl ⟨o, e _ _ h, hd⟩
  · exact .inr h
mutual
theorem Rp.mono {F F' : Hp} (s : Same F F') : ∀ {d : PyData} {v : V}, Rp K F v d → Rp K F' v d
  | _, _, .non => .non
  | _, _, .bl b => .bl b
  | _, _, .int b => .int b
  | _, _, .str b => .str b
  | _, _, .lst h t => .lst (s _ _ h) (RpAll.mono s t)
  | _, _, .tup h t => .tup (sameN s h) (RpAll.mono s t)
  | _, _, .dct h l t e => .dct (s _ _ h) l (RpAll.mono s t) e
  | _, _, .scr h => .scr (Same.seq s h)
theorem RpAll.mono {F F' : Hp} (s : Same F F') : ∀ {ds : List PyData} {vs : List V}, RpAll K F vs ds → RpAll K F' vs ds
  | _, _, .nil => .nil
  | _, _, .cons h t => .cons (Rp.mono s h) (RpAll.mono s t)
end
mutual
theorem Rp.dp {F : Hp} : ∀ (d : PyData) {v : V}, Rp K F v d → d.canLay0 = true → Dp K F v d
  | .none, _, .non, _ => .non
  | .bool _, _, .bl b, _ => .bl b
  | .int _, _, .int b, _ => .int b
  | .str _, _, .str b, _ => .str b
  | .list ds, _, .lst h t, c => .lst (SqL.of h) (RpAll.dp ds t (by simpa [PyData.canLay0] using c))
  | .tuple ds, _, .tup h t, c => .tup h.sq (RpAll.dp ds t (by simpa [PyData.canLay0] using c))
  | .dict _, _, .dct _ _ _ _, c => by simp [PyData.canLay0] at c
  | _, _, .scr _, c => by simp [scD, PyData.canLay0] at c
theorem RpAll.dp {F : Hp} : ∀ (ds : List PyData) {vs : List V}, RpAll K F vs ds → PyData.canLayAll0 ds = true → DpAll K F vs ds
  | [], _, .nil, _ => .nil
  | d :: ds, _, .cons h t, c => by
    have c : d.canLay0 = true ∧ PyData.canLayAll0 ds = true := by simpa [PyData.canLayAll0] using c
    exact .cons (Rp.dp d h c.1) (RpAll.dp ds t c.2)
end
theorem RpAll.length {F : Hp} : ∀ {ds : List PyData} {vs : List V}, RpAll K F vs ds → vs.length = ds.length
  | _, _, .nil => rfl
  | _, _, .cons _ h => by simp [RpAll.length h]
theorem RpAll.get {F : Hp} : ∀ {ds : List PyData} {vs : List V} {i : Nat} {v : V}, RpAll K F vs ds → vs[i]? = some v → ∃ d, ds[i]? = some d ∧ Rp K F v d
  | _, _, _, _, .nil, e => by simp at e
  | _, _, 0, _, .cons h _, e => by simp at e; subst e; exact ⟨_, rfl, h⟩
  | _, _, i + 1, v, .cons _ t, e => by
    obtain ⟨d, h1, h2⟩ := RpAll.get (i := i) (v := v) t (by simpa using e)
    exact ⟨d, by simpa using h1, h2⟩
theorem RpAll.getd {F : Hp} : ∀ {ds : List PyData} {vs : List V} {i : Nat} {d : PyData}, RpAll K F vs ds → ds[i]? = some d → ∃ v, vs[i]? = some v ∧ Rp K F v d
  | _, _, _, _, .nil, e => by simp at e
  | _, _, 0, _, .cons h _, e => by simp at e; subst e; exact ⟨_, rfl, h⟩
  | _, _, i + 1, v, .cons _ t, e => by
    obtain ⟨d, h1, h2⟩ := RpAll.getd (i := i) (d := v) t (by simpa using e)
    exact ⟨d, by simpa using h1, h2⟩
theorem RpAll.append {F : Hp} : ∀ {ds es : List PyData} {vs ws : List V}, RpAll K F vs ds → RpAll K F ws es → RpAll K F (vs ++ ws) (ds ++ es)
  | _, _, _, _, .nil, h => h
  | _, _, _, _, .cons h t, q => .cons h (RpAll.append t q)
theorem RpAll.take {F : Hp} : ∀ {ds : List PyData} {vs : List V} (n : Nat), RpAll K F vs ds → RpAll K F (vs.take n) (ds.take n)
  | _, _, 0, _ => .nil
  | _, _, _ + 1, .nil => .nil
  | _, _, n + 1, .cons h t => .cons h (RpAll.take n t)
theorem RpAll.drop {F : Hp} : ∀ {ds : List PyData} {vs : List V} (n : Nat), RpAll K F vs ds → RpAll K F (vs.drop n) (ds.drop n)
  | _, _, 0, h => h
  | _, _, _ + 1, .nil => .nil
  | _, _, n + 1, .cons _ t => RpAll.drop n t
theorem RpAll.set {F : Hp} {v : V} {d : PyData} (h : Rp K F v d) : ∀ {ds : List PyData} {vs : List V} (n : Nat), RpAll K F vs ds → RpAll K F (vs.set n v) (ds.set n d)
  | _, _, _, .nil => .nil
  | _, _, 0, .cons _ t => .cons h t
  | _, _, n + 1, .cons q t => .cons q (RpAll.set h n t)
theorem RpAll.eraseIdx {F : Hp} : ∀ {ds : List PyData} {vs : List V} (n : Nat), RpAll K F vs ds → RpAll K F (vs.eraseIdx n) (ds.eraseIdx n)
  | _, _, _, .nil => .nil
  | _, _, 0, .cons _ t => t
  | _, _, n + 1, .cons q t => .cons q (RpAll.eraseIdx n t)
theorem RpAll.dropLast {F : Hp} {ds : List PyData} {vs : List V} (h : RpAll K F vs ds) : RpAll K F vs.dropLast ds.dropLast := by
  rw [List.dropLast_eq_take, List.dropLast_eq_take, h.length]
  exact h.take _
theorem RpAll.one {F : Hp} {v : V} {d : PyData} (h : Rp K F v d) : RpAll K F [v] [d] := .cons h .nil
theorem RpAll.reverse {F : Hp} : ∀ {ds : List PyData} {vs : List V}, RpAll K F vs ds → RpAll K F vs.reverse ds.reverse
  | _, _, .nil => .nil
  | _, _, .cons h t => by rw [List.reverse_cons, List.reverse_cons]; exact (RpAll.reverse t).append (.one h)
/-- what data is determines -/
theorem rp_ref {F : Hp} {v : V} {ds : List PyData} (h : Rp K F v (.list ds)) : ∃ a vs, v = .ref a ∧ F a = some (.lst vs) ∧ RpAll K F vs ds := by
  cases h with
  | lst hs ha => exact ⟨_, _, rfl, hs, ha⟩
theorem rp_tup {F : Hp} {v : V} {ds : List PyData} (h : Rp K F v (.tuple ds)) : ∃ a vs, v = .ref a ∧ SqT K F a vs ∧ RpAll K F vs ds := by
  cases h with
  | tup hs ha => exact ⟨_, _, rfl, hs.sq, ha⟩
theorem rp_tupN {F : Hp} {v : V} {ds : List PyData} (h : Rp K F v (.tuple ds)) : ∃ a vs, v = .ref a ∧ TupN K F a vs ∧ RpAll K F vs ds := by
  cases h with
  | tup hs ha => exact ⟨_, _, rfl, hs, ha⟩
theorem rp_int {F : Hp} {v : V} {i : Int} (h : Rp K F v (.int i)) : v = .int i := by cases h; rfl
theorem rp_bl {F : Hp} {v : V} {i : Bool} (h : Rp K F v (.bool i)) : v = .bl i := by cases h; rfl
theorem rp_str {F : Hp} {v : V} {i : Str} (h : Rp K F v (.str i)) : v = .str i := by cases h; rfl
theorem rp_non {F : Hp} {v : V} (h : Rp K F v .none) : v = .non := by cases h; rfl
end

/-! ### what a slot holds -/
structure Res where
  R : Hp → V → Hp → Prop
  mono : ∀ F F' v h, Same F F' → R F v h → R F' v h
inductive O where
  | fz (d : PyData)
  | ls (ds : List PyData)
  | dk (kvs : List (Key × PyData))
  | rs (r : Res)
  | tr (ts : List O)
  | td (ks : List Key) (ts : List O)
abbrev Ga := List (Option O)

section
variable (K : PySem.W.Frag)
def KvAll (F : Hp) (kv : List (Key × V)) (kd : List (Key × PyData)) : Prop := kv.map (·.1) = kd.map (·.1) ∧ RpAll K F (kv.map (·.2)) (kd.map (·.2))
mutual
def Own (F : Hp) : O → V → Hp → Prop
  | .fz d, v, h => h = emp ∧ Rp K F v d
  | .ls ds, v, h => ∃ a vs, v = .ref a ∧ h = one a (.lst vs) ∧ RpAll K F vs ds
  | .dk kvs, v, h => ∃ a kv, v = .ref a ∧ h = one a (.dK kv) ∧ KvAll K F kv kvs
  | .rs r, v, h => r.R F v h
  | .tr ts, v, h => ∃ a vs h', v = .ref a ∧ h = jn (one a (.lst vs)) h' ∧ Dis (one a (.lst vs)) h' ∧ OwnT F ts vs h'
  | .td ks ts, v, h => ∃ a vs h', v = .ref a ∧ h = jn (one a (.dK (ks.zip vs))) h' ∧ Dis (one a (.dK (ks.zip vs))) h' ∧ OwnT F ts vs h'
def OwnT (F : Hp) : List O → List V → Hp → Prop
  | [], vs, h => vs = [] ∧ h = emp
  | o :: ts, vs, h => ∃ v vr h1 h2, vs = v :: vr ∧ h = jn h1 h2 ∧ Dis h1 h2 ∧ Own F o v h1 ∧ OwnT F ts vr h2
end
def OwnS (F : Hp) : Ga → St → Hp → Prop
  | [], σ, h => σ = [] ∧ h = emp
  | none :: Γ, σ, h => ∃ x σ', σ = x :: σ' ∧ OwnS F Γ σ' h
  | some o :: Γ, σ, h => ∃ v σ' h1 h2, σ = some v :: σ' ∧ h = jn h1 h2 ∧ Dis h1 h2 ∧ Own K F o v h1 ∧ OwnS F Γ σ' h2
end
section
variable {K : PySem.W.Frag} {F F' : Hp}
mutual
theorem Own.mono (s : Same F F') : ∀ {o : O} {v : V} {h : Hp}, Own K F o v h → Own K F' o v h
  | .fz _, _, _, hh => by
    unfold Own at hh ⊢
    exact ⟨hh.1, Rp.mono s hh.2⟩
  | .ls _, _, _, hh => by
    unfold Own at hh ⊢
    obtain ⟨a, vs, e1, e2, h⟩ := hh
    exact ⟨a, vs, e1, e2, RpAll.mono s h⟩
  | .dk _, _, _, hh => by
    unfold Own at hh ⊢
    obtain ⟨a, vs, e1, e2, e3, h⟩ := hh
    exact ⟨a, vs, e1, e2, e3, RpAll.mono s h⟩
  | .rs r, _, _, hh => by
    unfold Own at hh ⊢
    exact r.mono _ _ _ _ s hh
  | .tr ts, _, _, hh => by
    unfold Own at hh ⊢
    obtain ⟨a, vs, h', e1, e2, d, q⟩ := hh
    exact ⟨a, vs, h', e1, e2, d, OwnT.mono s q⟩
  | .td ks ts, _, _, hh => by
    unfold Own at hh ⊢
    obtain ⟨a, vs, h', e1, e2, d, q⟩ := hh
    exact ⟨a, vs, h', e1, e2, d, OwnT.mono s q⟩
theorem OwnT.mono (s : Same F F') : ∀ {ts : List O} {vs : List V} {h : Hp}, OwnT K F ts vs h → OwnT K F' ts vs h
  | [], _, _, hh => by
    unfold OwnT at hh ⊢
    exact hh
  | o :: ts, _, _, hh => by
    unfold OwnT at hh ⊢
    obtain ⟨v, vr, h1, h2, e1, e2, d, w, q⟩ := hh
    exact ⟨v, vr, h1, h2, e1, e2, d, Own.mono s w, OwnT.mono s q⟩
end
theorem own_fz {d : PyData} {v : V} {h : Hp} : Own K F (.fz d) v h ↔ h = emp ∧ Rp K F v d := by unfold Own; exact Iff.rfl
theorem own_ls {ds : List PyData} {v : V} {h : Hp} : Own K F (.ls ds) v h ↔ ∃ a vs, v = .ref a ∧ h = one a (.lst vs) ∧ RpAll K F vs ds := by unfold Own; exact Iff.rfl
theorem own_tr {ts : List O} {v : V} {h : Hp} : Own K F (.tr ts) v h ↔ ∃ a vs h', v = .ref a ∧ h = jn (one a (.lst vs)) h' ∧ Dis (one a (.lst vs)) h' ∧ OwnT K F ts vs h' := by rw [Own]
theorem own_td {ks : List Key} {ts : List O} {v : V} {h : Hp} : Own K F (.td ks ts) v h ↔ ∃ a vs h', v = .ref a ∧ h = jn (one a (.dK (ks.zip vs))) h' ∧ Dis (one a (.dK (ks.zip vs))) h' ∧ OwnT K F ts vs h' := by rw [Own]
theorem OwnS.mono (s : Same F F') : ∀ {Γ : Ga} {σ : St} {h : Hp}, OwnS K F Γ σ h → OwnS K F' Γ σ h
  | [], _, _, h => h
  | none :: _, _, _, ⟨x, σ', e, h⟩ => ⟨x, σ', e, OwnS.mono s h⟩
  | some _ :: _, _, _, ⟨v, σ', h1, h2, e, e2, d, o, h⟩ => ⟨v, σ', h1, h2, e, e2, d, o.mono s, OwnS.mono s h⟩
theorem OwnS.len : ∀ {Γ : Ga} {σ : St} {h : Hp}, OwnS K F Γ σ h → Γ.length = σ.length
  | [], _, _, h => by rw [h.1]; rfl
  | none :: _, _, _, ⟨x, σ', e, h⟩ => by rw [e]; simp [OwnS.len h]
  | some _ :: _, _, _, ⟨v, σ', h1, h2, e, e2, d, o, h⟩ => by rw [e]; simp [OwnS.len h]
/-- a slot taken out, and put back in another state -/
theorem OwnS.focus : ∀ {Γ : Ga} {σ : St} {h : Hp} {i : Nat} {o : O}, OwnS K F Γ σ h → Γ[i]? = some (some o) →
    ∃ v h1 h2, σ[i]? = some (some v) ∧ h = jn h1 h2 ∧ Dis h1 h2 ∧ Own K F o v h1 ∧
      ∀ F' o' v' h1', Same F F' → Own K F' o' v' h1' → Dis h1' h2 → OwnS K F' (Γ.set i (some o')) (σ.set i (some v')) (jn h1' h2)
  | [], _, _, _, _, _, e => by simp at e
  | none :: Γ, _, h, 0, o, _, e => by simp at e
  | none :: Γ, _, h, i + 1, o, ⟨x, σ', e0, q⟩, e => by
    obtain ⟨v, h1, h2, a1, a2, a3, a4, a5⟩ := OwnS.focus (i := i) (o := o) q (by simpa using e)
    refine ⟨v, h1, h2, by rw [e0]; simpa using a1, a2, a3, a4, fun F' o' v' h1' s w d => ?_⟩
    rw [e0]
    exact ⟨x, _, rfl, a5 F' o' v' h1' s w d⟩
  | some o :: Γ, _, h, 0, o', ⟨v, σ', h1, h2, e0, e2, d, w, q⟩, e => by
    have eo : o = o' := by simpa using e
    subst eo
    refine ⟨v, h1, h2, by rw [e0]; rfl, e2, d, w, fun F' o' v' h1' s w' d' => ?_⟩
    rw [e0]
    exact ⟨v', σ', h1', h2, rfl, rfl, d', w', q.mono s⟩
  | some o :: Γ, _, h, i + 1, o', ⟨v, σ', g1, g2, e0, e2, d, w, q⟩, e => by
    obtain ⟨u, h1, h2, a1, a2, a3, a4, a5⟩ := OwnS.focus (i := i) (o := o') q (by simpa using e)
    subst a2
    have d1 : Dis g1 h1 := (Dis.sub same_l d.symm).symm
    have d2 : Dis g1 h2 := (Dis.sub (same_r a3) d.symm).symm
    refine ⟨u, h1, jn g1 h2, by rw [e0]; simpa using a1, ?_, (Dis.jn d1 a3.symm).symm, a4, fun F' o' v' h1' s w' d' => ?_⟩
    · rw [e2, ← jn_assoc, jn_comm d1, jn_assoc]
    · rw [e0]
      have f1 : Dis h1' g1 := (Dis.sub same_l d'.symm).symm
      have f2 : Dis h1' h2 := (Dis.sub (same_r d2) d'.symm).symm
      refine ⟨v, _, g1, jn h1' h2, rfl, ?_, (Dis.jn f1 d2.symm).symm, w.mono s, a5 F' o' v' h1' s w' f2⟩
      rw [← jn_assoc, jn_comm f1, jn_assoc]
/-- a slot stored anew (what it held is dropped) -/
theorem OwnS.put : ∀ {Γ : Ga} {σ : St} {h : Hp} {i : Nat}, OwnS K F Γ σ h → i < Γ.length →
    ∃ h2, Same h2 h ∧ (∀ F' o' v' h1', Same F F' → Own K F' o' v' h1' → Dis h1' h2 → OwnS K F' (Γ.set i (some o')) (σ.set i (some v')) (jn h1' h2)) ∧
      (∀ x, OwnS K F (Γ.set i none) (σ.set i x) h2)
  | [], _, _, _, _, e => by simp at e
  | none :: Γ, _, h, 0, ⟨x, σ', e0, q⟩, _ => by
    refine ⟨h, Same.refl _, fun F' o' v' h1' s w d => ?_, fun y => ?_⟩
    · rw [e0]; exact ⟨v', σ', h1', h, rfl, rfl, d, w, q.mono s⟩
    · rw [e0]; exact ⟨y, σ', rfl, q⟩
  | none :: Γ, _, h, i + 1, ⟨x, σ', e0, q⟩, e => by
    obtain ⟨h2, s2, a, b⟩ := OwnS.put (i := i) q (by simpa using e)
    refine ⟨h2, s2, fun F' o' v' h1' s w d => ?_, fun y => ?_⟩
    · rw [e0]; exact ⟨x, _, rfl, a F' o' v' h1' s w d⟩
    · rw [e0]; exact ⟨x, _, rfl, b y⟩
  | some o :: Γ, _, h, 0, ⟨v, σ', h1, h2, e0, e2, d, w, q⟩, _ => by
    refine ⟨h2, by rw [e2]; exact same_r d, fun F' o' v' h1' s w' d' => ?_, fun y => ?_⟩
    · rw [e0]; exact ⟨v', σ', h1', h2, rfl, rfl, d', w', q.mono s⟩
    · rw [e0]; exact ⟨y, σ', rfl, q⟩
  | some o :: Γ, _, h, i + 1, ⟨v, σ', g1, g2, e0, e2, d, w, q⟩, e => by
    obtain ⟨h2, s2, a, b⟩ := OwnS.put (i := i) q (by simpa using e)
    have d2 : Dis g1 h2 := (Dis.sub s2 d.symm).symm
    refine ⟨jn g1 h2, ?_, fun F' o' v' h1' s w' d' => ?_, fun y => ?_⟩
    · rw [e2]; exact same_jn same_l fun a o e => same_r d _ _ (s2 _ _ e)
    · rw [e0]
      have f1 : Dis h1' g1 := (Dis.sub same_l d'.symm).symm
      have f2 : Dis h1' h2 := (Dis.sub (same_r d2) d'.symm).symm
      refine ⟨v, _, g1, jn h1' h2, rfl, ?_, (Dis.jn f1 d2.symm).symm, w.mono s, a F' o' v' h1' s w' f2⟩
      rw [← jn_assoc, jn_comm f1, jn_assoc]
    · rw [e0]; exact ⟨v, _, g1, h2, rfl, rfl, d2, w, b y⟩
end

/-! ### the state -/
structure At (K : PySem.W.Frag) (pn : List (Nat × V)) (Z F : Hp) (Γ : Ga) (σ : St) (h H : Hp) : Prop where
  own : OwnS K F Γ σ h
  hH : Same h H
  FH : Same F H
  ZH : Same Z H
  FZ : Dis F Z
  hF : Dis h F
  hZ : Dis h Z
  pin : ∀ p ∈ pn, σ[p.1]? = some (some p.2)
/-- .. with a part of its own beside -/
structure AtR (K : PySem.W.Frag) (pn : List (Nat × V)) (Z F : Hp) (Γ : Ga) (σ : St) (h hr H : Hp) : Prop where
  at_ : At K pn Z F Γ σ h H
  rH : Same hr H
  rh : Dis hr h
  rF : Dis hr F
  rZ : Dis hr Z
/-- growth -/
structure Grow (F H F' H' : Hp) : Prop where
  fs : Same F F'
  fh : Same F' H'
  hh : Same H H'
  nw : ∀ a, F' a ≠ none → F a ≠ none ∨ H a = none
theorem Grow.refl {F H : Hp} (s : Same F H) : Grow F H F H := ⟨Same.refl _, s, Same.refl _, fun _ h => .inl h⟩
theorem Grow.new {F H : Hp} {p : Addr} {o : HO} (s : Same F H) (h : H p = none) : Grow F H (upd F p o) (upd H p o) := by
  refine ⟨same_new (s.free h), fun a u e => ?_, same_new h, fun a e => ?_⟩
  · by_cases z : a = p
    · subst z; rw [upd_same] at e ⊢; exact e
    · rw [upd_ne z] at e ⊢; exact s _ _ e
  · by_cases z : a = p
    · subst z; exact .inr h
    · rw [upd_ne z] at e; exact .inl e
theorem Grow.trans {F H F1 H1 F2 H2 : Hp} (a : Grow F H F1 H1) (b : Grow F1 H1 F2 H2) : Grow F H F2 H2 := by
  refine ⟨a.fs.trans b.fs, b.fh, a.hh.trans b.hh, fun x e => ?_⟩
  rcases b.nw x e with z | z
  · exact a.nw x z
  · exact .inr (a.hh.free z)
theorem Grow.stay {F H H' : Hp} (s : Same F H) (hh : Same H H') : Grow F H F H' := ⟨Same.refl _, s.trans hh, hh, fun _ h => .inl h⟩
section
variable {K : PySem.W.Frag} {pn : List (Nat × V)} {Z F F' : Hp} {Γ : Ga} {σ : St} {h hr H H' : Hp}
theorem dis_grow {k : Hp} (d : Dis F k) (s : Same k H) (g : Grow F H F' H') : Dis F' k := fun a => by
  cases e : F' a with
  | none => exact .inl rfl
  | some o =>
    right
    rcases g.nw a (by rw [e]; simp) with z | z
    · rcases d a with y | y
      · exact absurd y z
      · exact y
    · exact s.free z
theorem At.grow (A : At K pn Z F Γ σ h H) (g : Grow F H F' H') : At K pn Z F' Γ σ h H' :=
  ⟨A.own.mono g.fs, A.hH.trans g.hh, g.fh, A.ZH.trans g.hh, dis_grow A.FZ A.ZH g, (dis_grow A.hF.symm A.hH g).symm, A.hZ, A.pin⟩
theorem At.alone (A : At K pn Z F Γ σ h H) : AtR K pn Z F Γ σ h emp H := ⟨A, same_emp, Dis.emp, Dis.emp, Dis.emp⟩
/-- a part that is new beside -/
theorem At.beside (A : At K pn Z F Γ σ h H) (g : Grow F H F' H') (s : Same hr H') (dF : Dis hr F') (nw : ∀ a, hr a ≠ none → H a = none) : AtR K pn Z F' Γ σ h hr H' := by
  refine ⟨A.grow g, s, fun a => ?_, dF, fun a => ?_⟩
  · cases e : hr a with
    | none => exact .inl rfl
    | some o => exact .inr (A.hH.free (nw a (by rw [e]; simp)))
  · cases e : hr a with
    | none => exact .inl rfl
    | some o => exact .inr (A.ZH.free (nw a (by rw [e]; simp)))
end

/-! ### freezing -/
mutual
def O.frz : O → Option PyData
  | .fz d => some d
  | .ls ds => some (.list ds)
  | .dk kvs => some (.dict (kvs.map fun p => (kD p.1, p.2)))
  | .rs _ => none
  | .tr ts => match O.frzs ts with
    | some ds => some (.list ds)
    | none => none
  | .td _ _ => none
def O.frzs : List O → Option (List PyData)
  | [] => some []
  | o :: ts => match O.frz o, O.frzs ts with
    | some d, some ds => some (d :: ds)
    | _, _ => none
end
theorem zip_fst_snd {α β : Type} : ∀ l : List (α × β), (l.map (·.1)).zip (l.map (·.2)) = l
  | [] => rfl
  | (a, b) :: l => by simp [zip_fst_snd l]
section
variable {K : PySem.W.Frag} {pn : List (Nat × V)} {Z F F' : Hp} {Γ : Ga} {σ : St} {h hr H H' : Hp} {v : V} {o : O} {d : PyData}
mutual
/-- over any heap that has the part and the frozen one -/
theorem Own.frzG {G : Hp} (sF : Same F G) : ∀ {o : O} {v : V} {hr : Hp} {d : PyData}, Own K F o v hr → Same hr G → o.frz = some d → Rp K G v d
  | .fz d', _, _, _, w, _, e => by
    cases e
    exact Rp.mono sF (own_fz.mp w).2
  | .ls ds, _, _, _, w, s, e => by
    cases e
    obtain ⟨a, vs, rfl, rfl, q⟩ := own_ls.mp w
    exact .lst (s _ _ one_at) (RpAll.mono sF q)
  | .dk kvs, _, _, _, w, s, e => by
    cases e
    unfold Own at w
    obtain ⟨a, kv, rfl, rfl, e1, q⟩ := w
    refine .dct (ks := kv.map (·.1)) (xs := kv.map (·.2)) (ds := kvs.map (·.2)) ?_ (by rw [e1]; simp) (RpAll.mono sF q) ?_
    · rw [zip_fst_snd]; exact s _ _ one_at
    · rw [e1, List.map_map, List.zip_map']; rfl
  | .rs _, _, _, _, _, _, e => by cases e
  | .td _ _, _, _, _, _, _, e => by cases e
  | .tr ts, _, _, _, w, s, e => by
    obtain ⟨a, vs, h', rfl, rfl, dd, q⟩ := own_tr.mp w
    unfold O.frz at e
    split at e
    · rename_i ds e1
      cases e
      exact .lst (s _ _ (jn_l one_at)) (OwnT.frzG sF q (fun x u z => s _ _ (same_r dd _ _ z)) e1)
    · cases e
theorem OwnT.frzG {G : Hp} (sF : Same F G) : ∀ {ts : List O} {vs : List V} {hr : Hp} {ds : List PyData}, OwnT K F ts vs hr → Same hr G → O.frzs ts = some ds → RpAll K G vs ds
  | [], _, _, _, w, _, e => by
    unfold OwnT at w
    obtain ⟨rfl, _⟩ := w
    cases e; exact .nil
  | o :: ts, _, _, _, w, s, e => by
    unfold OwnT at w
    obtain ⟨v, vr, h1, h2, rfl, rfl, dd, w1, q⟩ := w
    unfold O.frzs at e
    split at e
    · rename_i d ds e1 e2
      cases e
      exact .cons (Own.frzG sF w1 (fun x u z => s _ _ (same_l _ _ z)) e1) (OwnT.frzG sF q (fun x u z => s _ _ (same_r dd _ _ z)) e2)
    · cases e
end
theorem Own.frz (w : Own K F o v hr) (e : o.frz = some d) (df : Dis hr F) : ∃ F', Same F F' ∧ F' = jn hr F ∧ Rp K F' v d :=
  ⟨jn hr F, same_r df, rfl, w.frzG (same_r df) same_l e⟩
/-- the part beside frozen -/
theorem AtR.frz (A : AtR K pn Z F Γ σ h hr H) (w : Own K F o v hr) (e : o.frz = some d) : ∃ F', Same F F' ∧ At K pn Z F' Γ σ h H ∧ Rp K F' v d := by
  obtain ⟨F', s, rfl, q⟩ := w.frz e A.rF
  exact ⟨_, s, ⟨A.at_.own.mono s, A.at_.hH, same_jn A.rH A.at_.FH, A.at_.ZH, Dis.jn A.rZ A.at_.FZ, (Dis.jn A.rh A.at_.hF.symm).symm, A.at_.hZ, A.at_.pin⟩, q⟩
theorem set_self {α : Type} {l : List α} {i : Nat} {x : α} (e : l[i]? = some x) : l.set i x = l := by
  apply List.ext_getElem?
  intro j
  by_cases z : i = j
  · subst z
    rw [List.getElem?_set_self (List.getElem?_eq_some_iff.mp e).1, e]
  · rw [List.getElem?_set_ne z]
/-- a slot frozen where it stands -/
theorem At.frzS {i : Nat} (A : At K pn Z F Γ σ h H) (e : Γ[i]? = some (some o)) (e2 : o.frz = some d) : ∃ F' h' v, Same F F' ∧ σ[i]? = some (some v) ∧ At K pn Z F' (Γ.set i (some (.fz d))) σ h' H ∧ Rp K F' v d := by
  obtain ⟨v, h1, h2, a1, rfl, a3, a4, a5⟩ := A.own.focus e
  have d1 : Dis h1 F := Dis.sub same_l A.hF
  obtain ⟨F', s, rfl, q⟩ := a4.frz e2 d1
  refine ⟨_, h2, v, s, a1, ⟨?_, fun x o z => A.hH _ _ (same_r a3 _ _ z), same_jn (fun x o z => A.hH _ _ (same_l _ _ z)) A.FH, A.ZH, Dis.jn (Dis.sub same_l A.hZ) A.FZ, ?_, Dis.sub (same_r a3) A.hZ, A.pin⟩, q⟩
  · have := a5 _ (.fz d) v emp s ⟨rfl, q⟩ Dis.emp
    rw [emp_jn, set_self a1] at this
    exact this
  · exact (Dis.jn a3 (Dis.sub (same_r a3) A.hF).symm).symm
/-- a slot's owned part taken out (the slot is empty then) -/
theorem At.move {i : Nat} (A : At K pn Z F Γ σ h H) (e : Γ[i]? = some (some o)) : ∃ h2 h1 v, σ[i]? = some (some v) ∧ Own K F o v h1 ∧ AtR K pn Z F (Γ.set i none) σ h2 h1 H := by
  have hlt : i < Γ.length := (List.getElem?_eq_some_iff.mp e).1
  obtain ⟨v, h1, h2, a1, rfl, a3, a4, a5⟩ := A.own.focus e
  have q := a5 F (.fz .none) .non emp (Same.refl _) ⟨rfl, .non⟩ Dis.emp
  obtain ⟨h3, s3, _, b⟩ := q.put (i := i) (by simpa using hlt)
  rw [emp_jn] at s3
  have b' := b (some v)
  rw [List.set_set, List.set_set, set_self a1] at b'
  have s32 : Same h3 (jn h1 h2) := fun x o z => same_r a3 _ _ (s3 _ _ z)
  refine ⟨h3, h1, v, a1, a4, ⟨⟨b', s32.trans A.hH, A.FH, A.ZH, A.FZ, Dis.sub s32 A.hF, Dis.sub s32 A.hZ, A.pin⟩, fun x o z => A.hH _ _ (same_l _ _ z), (Dis.sub s3 a3.symm).symm, Dis.sub same_l A.hF, Dis.sub same_l A.hZ⟩⟩
/-- a value stored in a slot -/
theorem AtR.store {i : Nat} (A : AtR K pn Z F Γ σ h hr H) (w : Own K F o v hr) (hi : i < Γ.length) (hp : ∀ p ∈ pn, p.1 ≠ i) : ∃ h', At K pn Z F (Γ.set i (some o)) (σ.set i (some v)) h' H := by
  obtain ⟨h2, s2, a, _⟩ := A.at_.own.put hi
  have d2 : Dis hr h2 := (Dis.sub s2 A.rh.symm).symm
  refine ⟨jn hr h2, a F o v hr (Same.refl _) w d2, same_jn A.rH (s2.trans A.at_.hH), A.at_.FH, A.at_.ZH, A.at_.FZ, Dis.jn A.rF (Dis.sub s2 A.at_.hF), Dis.jn A.rZ (Dis.sub s2 A.at_.hZ), fun p hm => ?_⟩
  rw [List.getElem?_set_ne (fun z => hp p hm z.symm)]
  exact A.at_.pin p hm
/-- an owned slot's content changed in place: the objects of its part anew -/
theorem At.change {i : Nat} (A : At K pn Z F Γ σ h H) (e : Γ[i]? = some (some o)) : ∃ v h1 h2, σ[i]? = some (some v) ∧ Own K F o v h1 ∧ Same h1 H ∧ Dis h1 F ∧ Dis h1 Z ∧ Same h2 H ∧ Dis h1 h2 ∧ Dis h2 F ∧ Dis h2 Z ∧
    ∀ F' o' h1' H', Same F F' → Own K F' o' v h1' → Same h1' H' → Same F' H' → Same h2 H' → Same Z H' → Dis F' Z → Dis h1' h2 → Dis h1' F' → Dis h1' Z → Dis h2 F' → At K pn Z F' (Γ.set i (some o')) σ (jn h1' h2) H' := by
  obtain ⟨v, h1, h2, a1, rfl, a3, a4, a5⟩ := A.own.focus e
  refine ⟨v, h1, h2, a1, a4, fun x o z => A.hH _ _ (same_l _ _ z), Dis.sub same_l A.hF, Dis.sub same_l A.hZ, fun x o z => A.hH _ _ (same_r a3 _ _ z), a3, Dis.sub (same_r a3) A.hF, Dis.sub (same_r a3) A.hZ, fun F' o' h1' H' s w s1 s2 s3 s4 d1 d2 d3 d4 d5 => ?_⟩
  have q := a5 F' o' v h1' s w d2
  rw [set_self a1] at q
  exact ⟨q, same_jn s1 s3, s2, s4, d1, Dis.jn d3 d5, Dis.jn d4 (Dis.sub (same_r a3) A.hZ), A.pin⟩
end
end VL
end
section
namespace VL
open PySem PySem.Spec L2

/-! ### arguments, readings -/
inductive Av where
  | d (x : PyData)
  | s (j : Nat)
def ArgRel (K : PySem.W.Frag) (F : Hp) (σ : St) : Av → V → Prop
  | .d x, v => Rp K F v x
  | .s j, v => σ[j]? = some (some v)
def rslv (Γ : Ga) : Av → Option PyData
  | .d x => some x
  | .s j => match Γ[j]? with
    | some (some (.fz d)) => some d
    | some (some (.ls ds)) => some (.list ds)
    | _ => none
def rsAll (Γ : Ga) : List Av → Option (List PyData)
  | [] => some []
  | a :: as => match rslv Γ a, rsAll Γ as with
    | some d, some ds => some (d :: ds)
    | _, _ => none
def unD : List Av → Option (List PyData)
  | [] => some []
  | .d x :: r => match unD r with
    | some xs => some (x :: xs)
    | none => none
  | .s _ :: _ => none
theorem unD_eq : ∀ {as : List Av} {ds : List PyData}, unD as = some ds → as = ds.map Av.d
  | [], _, h => by cases h; rfl
  | .d x :: r, ds, h => by
    unfold unD at h
    split at h
    · rename_i xs e
      cases h
      rw [unD_eq e]; rfl
    · cases h
  | .s _ :: _, _, h => by cases h
def nrm : Ga → Option Ga
  | [] => some []
  | x :: r => match nrm r with
    | some ys => some (x :: ys)
    | none => none
theorem nrm_eq : ∀ {Γ Γ' : Ga}, nrm Γ = some Γ' → Γ = Γ'
  | [], _, h => by cases h; rfl
  | x :: r, _, h => by
    unfold nrm at h
    split at h
    · rename_i ys e
      cases h
      rw [nrm_eq e]
    · cases h
def setG : Ga → Nat → Option O → Option Ga
  | [], _, _ => none
  | _ :: r, 0, o => some (o :: r)
  | x :: r, i + 1, o => match setG r i o with
    | some ys => some (x :: ys)
    | none => none
theorem setG_eq : ∀ {Γ Γ' : Ga} {i : Nat} {o : Option O}, setG Γ i o = some Γ' → Γ.set i o = Γ' ∧ i < Γ.length
  | [], _, _, _, h => by cases h
  | x :: r, _, 0, o, h => by cases h; exact ⟨rfl, by simp⟩
  | x :: r, Γ', i + 1, o, h => by
    unfold setG at h
    split at h
    · rename_i ys e
      cases h
      obtain ⟨h1, h2⟩ := setG_eq e
      exact ⟨by simp [h1], by simpa using h2⟩
    · cases h

def RepS (K : PySem.W.Frag) (F H : Hp) (d : PyData) (v : V) : Prop := Rp K F v d ∨ ∃ a vs ds, v = .ref a ∧ d = .list ds ∧ H a = some (.lst vs) ∧ RpAll K F vs ds
inductive RepL (K : PySem.W.Frag) (F H : Hp) : List PyData → List V → Prop
  | nil : RepL K F H [] []
  | cons {d : PyData} {v : V} {ds : List PyData} {vs : List V} : RepS K F H d v → RepL K F H ds vs → RepL K F H (d :: ds) (v :: vs)
abbrev EX := Ga → (Av → Ga → Prop) → Prop
abbrev EO := Ga → (O → Ga → Prop) → Prop
abbrev ET := Ga → (Bool → Ga → Prop) → Prop
abbrev EA := Ga → (List Av → Ga → Prop) → Prop
structure En where
  nx : Ga → Prop
  rt : O → Ga → Prop
  bk : Ga → Prop := fun _ => False
  ct : Ga → Prop := fun _ => False
abbrev ES := En → Ga → Prop
section
variable (K : PySem.W.Frag)
def lX (τ : EX) : TE := fun σ H QV => ∃ pn Z F Γ h Q, At K pn Z F Γ σ h H ∧ τ Γ Q ∧ ∀ F' Γ' h' H' a v, Same F F' → At K pn Z F' Γ' σ h' H' → ArgRel K F' σ a v → Q a Γ' → QV v H'
def lO (τ : EO) : TE := fun σ H QV => ∃ pn Z F Γ h Q, At K pn Z F Γ σ h H ∧ τ Γ Q ∧ ∀ F' Γ' h' hr H' o v, Same F F' → AtR K pn Z F' Γ' σ h' hr H' → Own K F' o v hr → Q o Γ' → QV v H'
def lT (τ : ET) : TT := fun σ H QV => ∃ pn Z F Γ h Q, At K pn Z F Γ σ h H ∧ τ Γ Q ∧ ∀ F' Γ' h' H' b, Same F F' → At K pn Z F' Γ' σ h' H' → Q b Γ' → QV b H'
def ArgsRel (F : Hp) (σ : St) : List Av → List V → Prop
  | [], vs => vs = []
  | a :: as, vs => ∃ v vr, vs = v :: vr ∧ ArgRel K F σ a v ∧ ArgsRel F σ as vr
def lA (τ : EA) : TA := fun σ H QV => ∃ pn Z F Γ h Q, At K pn Z F Γ σ h H ∧ τ Γ Q ∧ ∀ F' Γ' h' H' as vs, Same F F' → At K pn Z F' Γ' σ h' H' → ArgsRel K F' σ as vs → Q as Γ' → QV vs H'
def pns (io : Bool) (v0 : V) : List (Nat × V) := if io then [(0, v0)] else []
structure EnOk (pn : List (Nat × V)) (Z F : Hp) (DD : En) (D : Ends) : Prop where
  nx : ∀ F' Γ' σ' h' H', Same F F' → At K pn Z F' Γ' σ' h' H' → DD.nx Γ' → D.nx σ' H'
  bk : ∀ F' Γ' σ' h' H', Same F F' → At K pn Z F' Γ' σ' h' H' → DD.bk Γ' → D.bk σ' H'
  ct : ∀ F' Γ' σ' h' H', Same F F' → At K pn Z F' Γ' σ' h' H' → DD.ct Γ' → D.ct σ' H'
  rt : ∀ F' Γ' σ' h' hr H' o v, Same F F' → AtR K pn Z F' Γ' σ' h' hr H' → Own K F' o v hr → DD.rt o Γ' → D.rt v H'
def lS (io : Bool) (τ : ES) : TS := fun D σ H => ∃ v0 Z F Γ h DD, At K (pns io v0) Z F Γ σ h H ∧ τ DD Γ ∧ EnOk K (pns io v0) Z F DD D
end
theorem EnOk.mono {K : PySem.W.Frag} {pn : List (Nat × V)} {Z F F' : Hp} {DD : En} {D : Ends} (e : EnOk K pn Z F DD D) (s : Same F F') : EnOk K pn Z F' DD D :=
  ⟨fun _ _ _ _ _ t => e.nx _ _ _ _ _ (s.trans t), fun _ _ _ _ _ t => e.bk _ _ _ _ _ (s.trans t), fun _ _ _ _ _ t => e.ct _ _ _ _ _ (s.trans t), fun _ _ _ _ _ _ _ _ t => e.rt _ _ _ _ _ _ _ _ (s.trans t)⟩
theorem ArgRel.mono {K : PySem.W.Frag} {F F' : Hp} {σ : St} (s : Same F F') : ∀ {a : Av} {v : V}, ArgRel K F σ a v → ArgRel K F' σ a v
  | .d _, _, h => Rp.mono s h
  | .s _, _, h => h
theorem ArgsRel.mono {K : PySem.W.Frag} {F F' : Hp} {σ : St} (s : Same F F') : ∀ {as : List Av} {vs : List V}, ArgsRel K F σ as vs → ArgsRel K F' σ as vs
  | [], _, h => h
  | _ :: _, _, ⟨v, vr, e, h, t⟩ => ⟨v, vr, e, h.mono s, ArgsRel.mono s t⟩

section
variable {X : Cx} {e : Expr} {t t' : TE}
theorem pe_imp (h : PE X e t) (i : ∀ σ H Q, t' σ H Q → t σ H Q) : PE X e t' := ⟨fun pins s σ H Q I q => h.run pins s σ H Q I (i σ H Q q)⟩
theorem pt_imp {t t' : TT} (h : PT X e t) (i : ∀ σ H Q, t' σ H Q → t σ H Q) : PT X e t' := ⟨fun pins s σ H Q I q => h.run pins s σ H Q I (i σ H Q q)⟩
theorem pw_imp {t t' : TT} (h : PW X e t) (i : ∀ σ H Q, t' σ H Q → t σ H Q) : PW X e t' := ⟨fun wh pins s σ H Q I q => h.run wh pins s σ H Q I (i σ H Q q)⟩
theorem pa_imp {es : List Expr} {t t' : TA} (h : PA X es t) (i : ∀ σ H Q, t' σ H Q → t σ H Q) : PA X es t' := ⟨fun pos pins s σ H Q I q => h.run pos pins s σ H Q I (i σ H Q q)⟩
theorem ps_imp {st : Stmt} {t t' : TS} (h : PS X st t) (i : ∀ D σ H, t' D σ H → t D σ H) : PS X st t' := ⟨fun pins s σ H D I q => h.run pins s σ H D I (i D σ H q)⟩
theorem pss_imp {st : List Stmt} {t t' : TS} (h : PSs X st t) (i : ∀ D σ H, t' D σ H → t D σ H) : PSs X st t' := ⟨fun pins s σ H D I q => h.run pins s σ H D I (i D σ H q)⟩
theorem pg_imp {t t' : TG} (h : PG X e t) (i : ∀ v σ H Q, t' v σ H Q → t v σ H Q) : PG X e t' := ⟨fun pins s σ H v u Q I r q => h.run pins s σ H v u Q I r (i v σ H Q q)⟩
end

section
variable {K : PySem.W.Frag} {pn : List (Nat × V)} {Z F F' : Hp} {Γ : Ga} {σ : St} {h hr H H' : Hp} {v : V} {o : O} {d : PyData} {a : Av}
theorem At.slot {i : Nat} (A : At K pn Z F Γ σ h H) (e : Γ[i]? = some (some o)) : ∃ v h1, σ[i]? = some (some v) ∧ Own K F o v h1 ∧ Same h1 H ∧ Dis h1 F := by
  obtain ⟨v, h1, h2, a1, a2, a3, a4, _⟩ := A.own.focus e
  subst a2
  exact ⟨v, h1, a1, a4, fun x o z => A.hH _ _ (same_l _ _ z), Dis.sub same_l A.hF⟩
theorem rep_of (A : At K pn Z F Γ σ h H) (r : ArgRel K F σ a v) (e : rslv Γ a = some d) : RepS K F H d v := by
  cases a with
  | d x => cases e; exact .inl r
  | s j =>
    cases e1 : Γ[j]? with
    | none => simp [rslv, e1] at e
    | some x =>
      cases x with
      | none => simp [rslv, e1] at e
      | some o =>
        obtain ⟨u, h1, s1, w, s2, _⟩ := A.slot e1
        have r : σ[j]? = some (some v) := r
        rw [s1] at r; cases r
        cases o with
        | fz d' =>
          have e : some d' = some d := by simpa [rslv, e1] using e
          cases e
          exact .inl w.2
        | ls ds =>
          have e : some (PyData.list ds) = some d := by simpa [rslv, e1] using e
          cases e
          obtain ⟨a, vs, rfl, rfl, q⟩ := w
          exact .inr ⟨a, vs, ds, rfl, rfl, s2 _ _ one_at, q⟩
        | dk _ => simp [rslv, e1] at e
        | rs _ => simp [rslv, e1] at e
        | tr _ => simp [rslv, e1] at e
        | td _ _ => simp [rslv, e1] at e
theorem reps_of (A : At K pn Z F Γ σ h H) : ∀ {as : List Av} {vs : List V} {ds : List PyData}, ArgsRel K F σ as vs → rsAll Γ as = some ds → RepL K F H ds vs
  | [], _, ds, r, e => by cases e; cases r; exact .nil
  | a :: as, _, ds, ⟨v, vr, e0, r, t⟩, e => by
    unfold rsAll at e
    split at e
    · rename_i d ds' h1 h2
      cases e; cases e0
      exact .cons (rep_of A r h1) (reps_of A t h2)
    · cases e
theorem RepS.rpH (s : Same F H) (r : RepS K F H d v) : Rp K H v d := by
  rcases r with r | ⟨a, vs, ds, rfl, rfl, e, q⟩
  · exact Rp.mono s r
  · exact .lst e (RpAll.mono s q)
theorem RepS.list {ds : List PyData} (s : Same F H) (r : RepS K F H (.list ds) v) : ∃ a vs, v = .ref a ∧ H a = some (.lst vs) ∧ RpAll K F vs ds := by
  rcases r with r | ⟨a, vs, ds', rfl, e1, e, q⟩
  · obtain ⟨a, vs, rfl, h1, h2⟩ := rp_ref r
    exact ⟨a, vs, rfl, s _ _ h1, h2⟩
  · cases e1
    exact ⟨a, vs, rfl, e, q⟩
theorem RepS.tup {ds : List PyData} (s : Same F H) (r : RepS K F H (.tuple ds) v) : ∃ a vs, v = .ref a ∧ SqT K H a vs ∧ RpAll K F vs ds := by
  rcases r with r | ⟨a, vs, ds', rfl, e1, e, q⟩
  · obtain ⟨a, vs, rfl, h1, h2⟩ := rp_tup r
    exact ⟨a, vs, rfl, sameT s h1, h2⟩
  · cases e1
theorem RepS.int {i : Int} (r : RepS K F H (.int i) v) : v = .int i := by
  rcases r with r | ⟨a, vs, ds', rfl, e1, e, q⟩
  · exact rp_int r
  · cases e1
theorem RepS.bl {i : Bool} (r : RepS K F H (.bool i) v) : v = .bl i := by
  rcases r with r | ⟨a, vs, ds', rfl, e1, e, q⟩
  · exact rp_bl r
  · cases e1
theorem RepS.str {i : Str} (r : RepS K F H (.str i) v) : v = .str i := by
  rcases r with r | ⟨a, vs, ds', rfl, e1, e, q⟩
  · exact rp_str r
  · cases e1
theorem RepS.non (r : RepS K F H .none v) : v = .non := by
  rcases r with r | ⟨a, vs, ds', rfl, e1, e, q⟩
  · exact rp_non r
  · cases e1
end

/-- behind an operation on data: what it hands back is frozen or new -/
def OpPost (K : PySem.W.Frag) (F H : Hp) (Q : O → Prop) (QV : VK) : Prop := ∀ F' hr H' o v, Grow F H F' H' → Own K F' o v hr → Same hr H' → Dis hr F' → (∀ a, hr a ≠ none → H a = none) → Q o → QV v H'
section
variable {K : PySem.W.Frag} {F H : Hp} {Q : O → Prop} {QV : VK}
theorem OpPost.val (p : OpPost K F H Q QV) (s : Same F H) {d : PyData} {v : V} (r : Rp K F v d) (q : Q (.fz d)) : QV v H :=
  p F emp H (.fz d) v (Grow.refl s) ⟨rfl, r⟩ same_emp Dis.emp (fun _ z => absurd rfl z) q
theorem OpPost.newT (p : OpPost K F H Q QV) (s : Same F H) {ds : List PyData} {vs : List V} {a : Addr} {o : Obj} (n : H a = none) (hd : o.dict = none) (r : RpAll K F vs ds) (q : Q (.fz (.tuple ds))) : QV (.ref a) (upd H a (.frz o (.tup vs))) :=
  p _ emp _ (.fz (.tuple ds)) _ (Grow.new s n) ⟨rfl, .tup (.inl ⟨o, upd_same, hd⟩) (RpAll.mono (same_new (s.free n)) r)⟩ same_emp Dis.emp (fun _ z => absurd rfl z) q
theorem OpPost.newL (p : OpPost K F H Q QV) (s : Same F H) {ds : List PyData} {vs : List V} {a : Addr} (n : H a = none) (r : RpAll K F vs ds) (q : Q (.ls ds)) : QV (.ref a) (upd H a (.lst vs)) :=
  p _ (VL.one a (.lst vs)) _ (.ls ds) _ (Grow.stay s (same_new n)) ⟨a, vs, rfl, rfl, r⟩ (same_one upd_same) (dis_one (s.free n)) (fun x z => by
    by_cases e : x = a
    · subst e; exact n
    · rw [one_ne e] at z; exact absurd rfl z) q
end
def Op2 (X : Cx) (f : Value → Value → Sem Value) (op : PyData → PyData → (O → Prop) → Prop) : Prop :=
  OpR X f (fun x y H QV => ∃ F d1 d2 Q, Same F H ∧ RepS X.K F H d1 x ∧ RepS X.K F H d2 y ∧ op d1 d2 Q ∧ OpPost X.K F H Q QV)
def Ix2 (X : Cx) (op : PyData → PyData → (O → Prop) → Prop) : Prop :=
  IxR X (fun x y H QV => ∃ F d1 d2 Q, Same F H ∧ RepS X.K F H d1 x ∧ RepS X.K F H d2 y ∧ op d1 d2 Q ∧ OpPost X.K F H Q QV)
def Op1 (X : Cx) (f : Value → Sem Value) (op : PyData → (O → Prop) → Prop) : Prop :=
  UnR X f (fun x H QV => ∃ F d1 Q, Same F H ∧ RepS X.K F H d1 x ∧ op d1 Q ∧ OpPost X.K F H Q QV)
def CallD (X : Cx) (f : Value) (cd : List PyData → (O → Prop) → Prop) : Prop :=
  CallR X f (fun vs H QV => ∃ F ds Q, Same F H ∧ RepL X.K F H ds vs ∧ cd ds Q ∧ OpPost X.K F H Q QV)
def SlD (X : Cx) (sd : PyData → Option Int → Option Int → (O → Prop) → Prop) : Prop :=
  SlR X (fun x lo hi H QV => ∃ F d Q, Same F H ∧ RepS X.K F H d x ∧ sd d lo hi Q ∧ OpPost X.K F H Q QV)
/-- from an operation's end to the reading's -/
theorem At.post {K : PySem.W.Frag} {pn : List (Nat × V)} {Z F F2 : Hp} {Γ : Ga} {σ : St} {h H : Hp} {Q : O → Ga → Prop} {QV : VK} (A : At K pn Z F2 Γ σ h H) (s : Same F F2)
    (k : ∀ F' Γ' h' hr H' o v, Same F F' → AtR K pn Z F' Γ' σ h' hr H' → Own K F' o v hr → Q o Γ' → QV v H') : OpPost K F2 H (fun o => Q o Γ) QV :=
  fun F' hr H' o v g w sr d nw q => k F' Γ h hr H' o v (s.trans g.fs) (A.beside g sr d nw) w q

/-! ### the readings' words -/
def xVar (i : Nat) : EX := fun Γ Q => (∃ o, Γ[i]? = some (some o)) ∧ Q (.s i) Γ
def xVal (i : Nat) : EX := fun Γ Q => match Γ[i]? with
  | some (some (.fz d)) => Q (.d d) Γ
  | some (some o) => ∃ d Γ', o.frz = some d ∧ setG Γ i (some (.fz d)) = some Γ' ∧ Q (.d d) Γ'
  | _ => False
def xC (d : PyData) : EX := fun Γ Q => Q (.d d) Γ
def xO (τ : EO) : EX := fun Γ Q => τ Γ fun o Γ' => ∃ d, o.frz = some d ∧ Q (.d d) Γ'
def oX (τ : EX) : EO := fun Γ Q => τ Γ fun a Γ' => ∃ d, a = .d d ∧ Q (.fz d) Γ'
def oMv (i : Nat) : EO := fun Γ Q => match Γ[i]? with
  | some (some (.fz d)) => Q (.fz d) Γ
  | some (some o) => ∃ Γ', setG Γ i none = some Γ' ∧ Q o Γ'
  | _ => False
def eOp (op : PyData → PyData → (O → Prop) → Prop) (τa τb : EX) : EO := fun Γ Q => τa Γ fun a1 Γ1 => τb Γ1 fun a2 Γ2 => ∃ d1 d2, rslv Γ2 a1 = some d1 ∧ rslv Γ2 a2 = some d2 ∧ op d1 d2 fun o => Q o Γ2
def eOp1 (op : PyData → (O → Prop) → Prop) (τa : EX) : EO := fun Γ Q => τa Γ fun a1 Γ1 => ∃ d1, rslv Γ1 a1 = some d1 ∧ op d1 fun o => Q o Γ1
def aNil : EA := fun Γ Q => Q [] Γ
def aCons (τ : EX) (τs : EA) : EA := fun Γ Q => τ Γ fun a Γ1 => τs Γ1 fun as Γ2 => Q (a :: as) Γ2
def eCB (cd : List PyData → (O → Prop) → Prop) (τs : EA) : EO := fun Γ Q => τs Γ fun as Γ1 => ∃ ds, rsAll Γ1 as = some ds ∧ cd ds fun o => Q o Γ1
def eTup (τs : EA) : EO := fun Γ Q => τs Γ fun as Γ1 => ∃ ds, unD as = some ds ∧ ds.length ≤ sizeLine ∧ Q (.fz (.tuple ds)) Γ1
def eLst (τs : EA) : EO := fun Γ Q => τs Γ fun as Γ1 => ∃ ds, unD as = some ds ∧ ds.length ≤ sizeLine ∧ Q (.ls ds) Γ1
section
variable {X : Cx} {e a b : Expr} {es : List Expr} {pos : Pos} {τ τa τb : EX} {τo : EO} {τs : EA}
theorem vx_var (i : Nat) (h : PE X e (tVar i)) : PE X e (lX X.K (xVar i)) := pe_imp h fun σ H QV ⟨pn, Z, F, Γ, hh, Q, A, ⟨⟨o, e1⟩, q⟩, k⟩ => by
  obtain ⟨v, h1, s1, w, _⟩ := A.slot e1
  exact ⟨v, s1, k F Γ hh H (.s i) v (Same.refl _) A s1 q⟩
theorem vx_val (i : Nat) (h : PE X e (tVar i)) : PE X e (lX X.K (xVal i)) := pe_imp h fun σ H QV ⟨pn, Z, F, Γ, hh, Q, A, q, k⟩ => by
  unfold xVal at q
  split at q
  · rename_i d e1
    obtain ⟨v, h1, s1, w, _⟩ := A.slot e1
    exact ⟨v, s1, k F Γ hh H (.d d) v (Same.refl _) A w.2 q⟩
  · rename_i o _ e1
    obtain ⟨d, Γ', ez, eΓ, q⟩ := q
    obtain ⟨F', h', v, s, s1, A', r⟩ := A.frzS e1 ez
    rw [(setG_eq eΓ).1] at A'
    exact ⟨v, s1, k F' _ h' H (.d d) v s A' r q⟩
  · exact q.elim
theorem vx_c {v : V} {d : PyData} (h : PE X e (tC v)) (r : ∀ F, Rp X.K F v d) : PE X e (lX X.K (xC d)) := pe_imp h fun σ H QV ⟨pn, Z, F, Γ, hh, Q, A, q, k⟩ => k F Γ hh H (.d d) v (Same.refl _) A (r F) q
theorem vx_o (h : PE X e (lO X.K τo)) : PE X e (lX X.K (xO τo)) := pe_imp h fun σ H QV ⟨pn, Z, F, Γ, hh, Q, A, q, k⟩ =>
  ⟨pn, Z, F, Γ, hh, _, A, q, fun F' Γ' h' hr H' o v s A' w ⟨d, e1, q'⟩ => by
    obtain ⟨F2, s2, A2, r2⟩ := A'.frz w e1
    exact k F2 Γ' h' H' (.d d) v (s.trans s2) A2 r2 q'⟩
theorem vo_x (h : PE X e (lX X.K τ)) : PE X e (lO X.K (oX τ)) := pe_imp h fun σ H QV ⟨pn, Z, F, Γ, hh, Q, A, q, k⟩ =>
  ⟨pn, Z, F, Γ, hh, _, A, q, fun F' Γ' h' H' a v s A' r ⟨d, e1, q'⟩ => by
    subst e1
    exact k F' Γ' h' emp H' (.fz d) v s A'.alone ⟨rfl, r⟩ q'⟩
theorem vo_mv (i : Nat) (h : PE X e (tVar i)) : PE X e (lO X.K (oMv i)) := pe_imp h fun σ H QV ⟨pn, Z, F, Γ, hh, Q, A, q, k⟩ => by
  unfold oMv at q
  split at q
  · rename_i d e1
    obtain ⟨v, h1, s1, w, _⟩ := A.slot e1
    exact ⟨v, s1, k F Γ hh emp H (.fz d) v (Same.refl _) A.alone ⟨rfl, w.2⟩ q⟩
  · rename_i o _ e1
    obtain ⟨h2, h1, v, s1, w, A'⟩ := A.move e1
    obtain ⟨Γ', eΓ, q⟩ := q
    rw [(setG_eq eΓ).1] at A'
    exact ⟨v, s1, k F _ h2 h1 H _ v (Same.refl _) A' w q⟩
  · exact q.elim
theorem vo_op {op : Operator} {opd : PyData → PyData → (O → Prop) → Prop} (ho : Op2 X (binaryOp op) opd) (ha : PE X a (lX X.K τa)) (hb : PE X b (lX X.K τb)) : PE X (.BinOp a op b pos) (lO X.K (eOp opd τa τb)) :=
  pe_imp (pe_op ho ha hb) fun σ H QV ⟨pn, Z, F, Γ, hh, Q, A, q, k⟩ =>
    ⟨pn, Z, F, Γ, hh, _, A, q, fun F1 Γ1 h1 H1 a1 x s1 A1 r1 q1 => ⟨pn, Z, F1, Γ1, h1, _, A1, q1, fun F2 Γ2 h2 H2 a2 y s2 A2 r2 ⟨d1, d2, e1, e2, q2⟩ =>
      ⟨F2, d1, d2, _, A2.FH, rep_of A2 (r1.mono s2) e1, rep_of A2 r2 e2, q2, A2.post (s1.trans s2) k⟩⟩⟩
theorem vo_cmp {op : CmpOp} {opd : PyData → PyData → (O → Prop) → Prop} (ho : Op2 X (compareOp op) opd) (ha : PE X a (lX X.K τa)) (hb : PE X b (lX X.K τb)) (hm : behindInMarks op b = false) : PE X (.Compare a [op] [b] pos) (lO X.K (eOp opd τa τb)) :=
  pe_imp (pe_cmpR ho ha hb hm) fun σ H QV ⟨pn, Z, F, Γ, hh, Q, A, q, k⟩ =>
    ⟨pn, Z, F, Γ, hh, _, A, q, fun F1 Γ1 h1 H1 a1 x s1 A1 r1 q1 => ⟨pn, Z, F1, Γ1, h1, _, A1, q1, fun F2 Γ2 h2 H2 a2 y s2 A2 r2 ⟨d1, d2, e1, e2, q2⟩ =>
      ⟨F2, d1, d2, _, A2.FH, rep_of A2 (r1.mono s2) e1, rep_of A2 r2 e2, q2, A2.post (s1.trans s2) k⟩⟩⟩
def tO (τ : EO) : ET := fun Γ Q => τ Γ fun o Γ' => ∃ b, o = .fz (.bool b) ∧ Q b Γ'
theorem vt_cmp {op : CmpOp} {opd : PyData → PyData → (O → Prop) → Prop} (ho : Op2 X (compareOp op) opd) (ha : PE X a (lX X.K τa)) (hb : PE X b (lX X.K τb)) (hm : behindInMarks op b = false) : PT X (.Compare a [op] [b] pos) (lT X.K (tO (eOp opd τa τb))) :=
  pt_imp (pt_cmpR ho ha hb hm) fun σ H QV ⟨pn, Z, F, Γ, hh, Q, A, q, k⟩ =>
    ⟨pn, Z, F, Γ, hh, _, A, q, fun F1 Γ1 h1 H1 a1 x s1 A1 r1 q1 => ⟨pn, Z, F1, Γ1, h1, _, A1, q1, fun F2 Γ2 h2 H2 a2 y s2 A2 r2 ⟨d1, d2, e1, e2, q2⟩ =>
      ⟨F2, d1, d2, _, A2.FH, rep_of A2 (r1.mono s2) e1, rep_of A2 r2 e2, q2, fun F' hr H' o v g w sr d nw ⟨c, e3, q3⟩ => by
        subst e3
        exact ⟨c, rp_bl w.2, k F' Γ2 h2 H' c ((s1.trans s2).trans g.fs) (A2.grow g) q3⟩⟩⟩⟩
theorem vt_o (h : PE X e (lO X.K τo)) (he : ∀ whole, isTrue e X.env whole = (do let v ← whole; standAt e.pos; holding [v] (truthy v)) := by intro _; rfl) : PT X e (lT X.K (tO τo)) :=
  pt_imp (pt_val h he) fun σ H QV ⟨pn, Z, F, Γ, hh, Q, A, q, k⟩ =>
    ⟨pn, Z, F, Γ, hh, _, A, q, fun F' Γ' h' hr H' o v s A' w ⟨c, e3, q3⟩ => by
      subst e3
      exact ⟨c, rp_bl w.2, k F' Γ' h' H' c s A'.at_ q3⟩⟩
theorem vo_ix {opd : PyData → PyData → (O → Prop) → Prop} (ho : Ix2 X opd) (ha : PE X a (lX X.K τa)) (hb : PE X b (lX X.K τb)) (hs : PlainIx b := by intro _ _; rfl) : PE X (.Subscript a b pos) (lO X.K (eOp opd τa τb)) :=
  pe_imp (pe_ix ho ha hb hs) fun σ H QV ⟨pn, Z, F, Γ, hh, Q, A, q, k⟩ =>
    ⟨pn, Z, F, Γ, hh, _, A, q, fun F1 Γ1 h1 H1 a1 x s1 A1 r1 q1 => ⟨pn, Z, F1, Γ1, h1, _, A1, q1, fun F2 Γ2 h2 H2 a2 y s2 A2 r2 ⟨d1, d2, e1, e2, q2⟩ =>
      ⟨F2, d1, d2, _, A2.FH, rep_of A2 (r1.mono s2) e1, rep_of A2 r2 e2, q2, A2.post (s1.trans s2) k⟩⟩⟩
theorem vo_un {op : UnaryOp} {opd : PyData → (O → Prop) → Prop} (ho : Op1 X (unaryOp op) opd) (ha : PE X a (lX X.K τa)) : PE X (.UnaryOp op a pos) (lO X.K (eOp1 opd τa)) :=
  pe_imp (pe_un ho ha) fun σ H QV ⟨pn, Z, F, Γ, hh, Q, A, q, k⟩ =>
    ⟨pn, Z, F, Γ, hh, _, A, q, fun F1 Γ1 h1 H1 a1 x s1 A1 r1 ⟨d1, e1, q1⟩ => ⟨F1, d1, _, A1.FH, rep_of A1 r1 e1, q1, A1.post s1 k⟩⟩
theorem va_nil : PA X [] (lA X.K aNil) := pa_imp pa_nil fun σ H QV ⟨pn, Z, F, Γ, hh, Q, A, q, k⟩ => k F Γ hh H [] [] (Same.refl _) A rfl q
theorem va_cons (ha : PE X e (lX X.K τ)) (hr : PA X es (lA X.K τs)) (hs : starEach (e :: es) X.env = (false, eval e X.env) :: starEach es X.env := by rfl) : PA X (e :: es) (lA X.K (aCons τ τs)) :=
  pa_imp (pa_cons ha hr hs) fun σ H QV ⟨pn, Z, F, Γ, hh, Q, A, q, k⟩ =>
    ⟨pn, Z, F, Γ, hh, _, A, q, fun F1 Γ1 h1 H1 a1 x s1 A1 r1 q1 => ⟨pn, Z, F1, Γ1, h1, _, A1, q1, fun F2 Γ2 h2 H2 as vs s2 A2 r2 q2 =>
      k F2 Γ2 h2 H2 (a1 :: as) (x :: vs) (s1.trans s2) A2 ⟨x, vs, rfl, r1.mono s2, r2⟩ q2⟩⟩
theorem args_d {K : PySem.W.Frag} {F : Hp} {σ : St} : ∀ {ds : List PyData} {vs : List V}, ArgsRel K F σ (ds.map Av.d) vs → RpAll K F vs ds
  | [], _, h => by cases h; exact .nil
  | _ :: _, _, ⟨v, vr, e, h, t⟩ => by cases e; exact .cons h (args_d t)
theorem vo_tup {x1 : Nat} (h : PA X es (lA X.K τs)) : PE X (.Tuple es x1 pos) (lO X.K (eTup τs)) :=
  pe_imp (pe_tupN h) fun σ H QV ⟨pn, Z, F, Γ, hh, Q, A, q, k⟩ =>
    ⟨pn, Z, F, Γ, hh, _, A, q, fun F1 Γ1 h1 H1 as vs s1 A1 r1 ⟨ds, e1, z, q1⟩ => by
      rw [unD_eq e1] at r1
      have r := args_d r1
      exact ⟨by rw [r.length]; exact z, fun p o n hd => (A1.post s1 k).newT A1.FH n hd r q1⟩⟩
theorem vo_lst (h : PA X es (lA X.K τs)) : PE X (.List es pos) (lO X.K (eLst τs)) :=
  pe_imp (pe_lst h) fun σ H QV ⟨pn, Z, F, Γ, hh, Q, A, q, k⟩ =>
    ⟨pn, Z, F, Γ, hh, _, A, q, fun F1 Γ1 h1 H1 as vs s1 A1 r1 ⟨ds, e1, z, q1⟩ => by
      rw [unD_eq e1] at r1
      have r := args_d r1
      exact ⟨by rw [r.length]; exact z, fun p n => (A1.post s1 k).newL A1.FH n r q1⟩⟩
end
end VL
end
section
namespace VL
open PySem PySem.Spec L2

/-! ### two ways -/
def Br (c : Bool) (A B : Prop) : Prop := if c = true then A else B
theorem br_t {A B : Prop} (h : A) : Br true A B := by unfold Br; rw [if_pos rfl]; exact h
theorem br_f {A B : Prop} (h : B) : Br false A B := by unfold Br; rw [if_neg Bool.false_ne_true]; exact h
theorem br2 {c : Bool} {A B : Prop} (h1 : c = true → A) (h2 : c = false → B) : Br c A B := by
  cases c with
  | true => exact br_t (h1 rfl)
  | false => exact br_f (h2 rfl)
theorem of_br {c : Bool} {A B : Prop} (h : Br c A B) : if c = true then A else B := h

def tNotD (t : ET) : ET := fun Γ Q => t Γ fun b Γ' => Q (!b) Γ'
def tAndD (t u : ET) : ET := fun Γ Q => t Γ fun c Γ1 => Br c (u Γ1 Q) (Q false Γ1)
def tOrD (t u : ET) : ET := fun Γ Q => t Γ fun c Γ1 => Br c (Q true Γ1) (u Γ1 Q)
def eAnd (ta tb : EO) : EO := fun Γ Q => ta Γ fun o Γ1 => ∃ c, o = .fz (.bool c) ∧ Br c (tb Γ1 Q) (Q (.fz (.bool false)) Γ1)
def eOr (ta tb : EO) : EO := fun Γ Q => ta Γ fun o Γ1 => ∃ c, o = .fz (.bool c) ∧ Br c (Q (.fz (.bool true)) Γ1) (tb Γ1 Q)
def eNot (ta : EO) : EO := fun Γ Q => ta Γ fun o Γ1 => ∃ c, o = .fz (.bool c) ∧ Q (.fz (.bool (!c))) Γ1
def eIf (t : ET) (ta tb : EO) : EO := fun Γ Q => t Γ fun c Γ1 => Br c (ta Γ1 Q) (tb Γ1 Q)
def eChain (op op' : PyData → PyData → (O → Prop) → Prop) (τa τb τc : EX) : EO := fun Γ Q => τa Γ fun a1 Γ1 => τb Γ1 fun a2 Γ2 => ∃ d1 d2, rslv Γ2 a1 = some d1 ∧ a2 = .d d2 ∧ op d1 d2 fun o => ∃ c, o = .fz (.bool c) ∧
  Br c (τc Γ2 fun a3 Γ3 => ∃ d3, rslv Γ3 a3 = some d3 ∧ op' d2 d3 fun o => Q o Γ3) (Q (.fz (.bool false)) Γ2)
/-- truth of data -/
def truD : PyData → Option Bool
  | .none => some false
  | .bool b => some b
  | .int i => some (i != 0)
  | .str x => if x.length ≤ sizeLine then some ((x.length : Int) != 0) else none
  | .list ds => some (!ds.isEmpty)
  | .tuple ds => some (!ds.isEmpty)
  | .dict _ => none
def tTru (τ : EX) : ET := fun Γ Q => τ Γ fun a Γ1 => ∃ d k, rslv Γ1 a = some d ∧ truD d = some k ∧ Q k Γ1
section
variable {X : Cx} {e a b c : Expr} {es rest : List Expr} {pos : Pos} {τ τa τb τc : EX} {τo τo' : EO} {τs : EA} {t u : ET}
theorem vt_not (h : PT X a (lT X.K t)) : PT X (.UnaryOp .Not a pos) (lT X.K (tNotD t)) :=
  pt_imp (pt_not h) fun σ H QV ⟨pn, Z, F, Γ, hh, Q, A, q, k⟩ => ⟨pn, Z, F, Γ, hh, _, A, q, fun F' Γ' h' H' b s A' q' => k F' Γ' h' H' _ s A' q'⟩
theorem vw_and1 (h : PT X a (lT X.K t)) : PW X (.BoolOp .And [a] pos) (lT X.K t) := pw_and1 h
theorem vw_or1 (h : PT X a (lT X.K t)) : PW X (.BoolOp .Or [a] pos) (lT X.K t) := pw_or1 h
theorem vw_and (ha : PT X a (lT X.K t)) (hb : PW X (.BoolOp .And (b :: rest) pos) (lT X.K u)) : PW X (.BoolOp .And (a :: b :: rest) pos) (lT X.K (tAndD t u)) :=
  pw_imp (pw_and ha hb) fun σ H QV ⟨pn, Z, F, Γ, hh, Q, A, q, k⟩ => ⟨pn, Z, F, Γ, hh, _, A, q, fun F1 Γ1 h1 H1 c s1 A1 q1 => by
    have q1 := of_br q1
    cases c with
    | true => exact ⟨pn, Z, F1, Γ1, h1, Q, A1, q1, fun F' Γ' h' H' b s A' q' => k F' Γ' h' H' b (s1.trans s) A' q'⟩
    | false => exact k F1 Γ1 h1 H1 false s1 A1 q1⟩
theorem vw_or (ha : PT X a (lT X.K t)) (hb : PW X (.BoolOp .Or (b :: rest) pos) (lT X.K u)) : PW X (.BoolOp .Or (a :: b :: rest) pos) (lT X.K (tOrD t u)) :=
  pw_imp (pw_or ha hb) fun σ H QV ⟨pn, Z, F, Γ, hh, Q, A, q, k⟩ => ⟨pn, Z, F, Γ, hh, _, A, q, fun F1 Γ1 h1 H1 c s1 A1 q1 => by
    have q1 := of_br q1
    cases c with
    | true => exact k F1 Γ1 h1 H1 true s1 A1 q1
    | false => exact ⟨pn, Z, F1, Γ1, h1, Q, A1, q1, fun F' Γ' h' H' b s A' q' => k F' Γ' h' H' b (s1.trans s) A' q'⟩⟩
theorem vo_one {op} (h : PE X a (lO X.K τo)) : PE X (.BoolOp op [a] pos) (lO X.K τo) := pe_one h
theorem vo_and (ha : PE X a (lO X.K τo)) (hb : PE X (.BoolOp .And (b :: rest) pos) (lO X.K τo')) : PE X (.BoolOp .And (a :: b :: rest) pos) (lO X.K (eAnd τo τo')) :=
  pe_imp (pe_and ha hb) fun σ H QV ⟨pn, Z, F, Γ, hh, Q, A, q, k⟩ => ⟨pn, Z, F, Γ, hh, _, A, q, fun F1 Γ1 h1 hr H1 o v s1 A1 w ⟨c, e1, q1⟩ => by
    subst e1
    refine ⟨c, rp_bl w.2, ?_⟩
    have q1 := of_br q1
    cases c with
    | true => exact ⟨pn, Z, F1, Γ1, h1, Q, A1.at_, q1, fun F' Γ' h' hr' H' o v s A' w' q' => k F' Γ' h' hr' H' o v (s1.trans s) A' w' q'⟩
    | false => exact k F1 Γ1 h1 emp H1 (.fz (.bool false)) _ s1 A1.at_.alone ⟨rfl, .bl _⟩ q1⟩
theorem vo_or (ha : PE X a (lO X.K τo)) (hb : PE X (.BoolOp .Or (b :: rest) pos) (lO X.K τo')) : PE X (.BoolOp .Or (a :: b :: rest) pos) (lO X.K (eOr τo τo')) :=
  pe_imp (pe_or ha hb) fun σ H QV ⟨pn, Z, F, Γ, hh, Q, A, q, k⟩ => ⟨pn, Z, F, Γ, hh, _, A, q, fun F1 Γ1 h1 hr H1 o v s1 A1 w ⟨c, e1, q1⟩ => by
    subst e1
    refine ⟨c, rp_bl w.2, ?_⟩
    have q1 := of_br q1
    cases c with
    | true => exact k F1 Γ1 h1 emp H1 (.fz (.bool true)) _ s1 A1.at_.alone ⟨rfl, .bl _⟩ q1
    | false => exact ⟨pn, Z, F1, Γ1, h1, Q, A1.at_, q1, fun F' Γ' h' hr' H' o v s A' w' q' => k F' Γ' h' hr' H' o v (s1.trans s) A' w' q'⟩⟩
theorem vo_not (ha : PE X a (lO X.K τo)) : PE X (.UnaryOp .Not a pos) (lO X.K (eNot τo)) :=
  pe_imp (pe_not ha) fun σ H QV ⟨pn, Z, F, Γ, hh, Q, A, q, k⟩ => ⟨pn, Z, F, Γ, hh, _, A, q, fun F1 Γ1 h1 hr H1 o v s1 A1 w ⟨c, e1, q1⟩ => by
    subst e1
    exact ⟨c, rp_bl w.2, k F1 Γ1 h1 emp H1 (.fz (.bool (!c))) _ s1 A1.at_.alone ⟨rfl, .bl _⟩ q1⟩⟩
theorem vo_if (hc : PT X c (lT X.K t)) (ha : PE X a (lO X.K τo)) (hb : PE X b (lO X.K τo')) : PE X (.IfExp c a b pos) (lO X.K (eIf t τo τo')) :=
  pe_imp (pe_ifExp hc ha hb) fun σ H QV ⟨pn, Z, F, Γ, hh, Q, A, q, k⟩ => ⟨pn, Z, F, Γ, hh, _, A, q, fun F1 Γ1 h1 H1 c s1 A1 q1 => by
    have q1 := of_br q1
    cases c with
    | true => exact ⟨pn, Z, F1, Γ1, h1, Q, A1, q1, fun F' Γ' h' hr' H' o v s A' w' q' => k F' Γ' h' hr' H' o v (s1.trans s) A' w' q'⟩
    | false => exact ⟨pn, Z, F1, Γ1, h1, Q, A1, q1, fun F' Γ' h' hr' H' o v s A' w' q' => k F' Γ' h' hr' H' o v (s1.trans s) A' w' q'⟩⟩
theorem vo_chain {op op' : CmpOp} {opd opd' : PyData → PyData → (O → Prop) → Prop} (ho : Op2 X (compareOp op) opd) (ho' : Op2 X (compareOp op') opd') (ha : PE X a (lX X.K τa)) (hb : PE X b (lX X.K τb)) (hc : PE X c (lX X.K τc))
    (hm : lastMarks [op, op'] [b, c] = false := by with_unfolding_all rfl) : PE X (.Compare a [op, op'] [b, c] pos) (lO X.K (eChain opd opd' τa τb τc)) :=
  pe_imp (pe_chain ho ho' ha hb hc hm) fun σ H QV ⟨pn, Z, F, Γ, hh, Q, A, q, k⟩ => ⟨pn, Z, F, Γ, hh, _, A, q, fun F1 Γ1 h1 H1 a1 x s1 A1 r1 q1 => ⟨pn, Z, F1, Γ1, h1, _, A1, q1, fun F2 Γ2 h2 H2 a2 y s2 A2 r2 ⟨d1, d2, e1, e2, q2⟩ => by
    subst e2
    refine ⟨F2, d1, d2, _, A2.FH, rep_of A2 (r1.mono s2) e1, .inl r2, q2, fun F' hr H' o v g w sr d nw ⟨c, e3, q3⟩ => ?_⟩
    subst e3
    refine ⟨c, rp_bl w.2, ?_⟩
    have q3 := of_br q3
    have A3 : At _ pn Z F' Γ2 σ h2 H' := A2.grow g
    have s3 := (s1.trans s2).trans g.fs
    cases c with
    | true => exact ⟨pn, Z, F', Γ2, h2, _, A3, q3, fun F4 Γ4 h4 H4 a3 z s4 A4 r4 ⟨d3, e4, q4⟩ => ⟨F4, d2, d3, _, A4.FH, .inl (Rp.mono (g.fs.trans s4) r2), rep_of A4 r4 e4, q4, A4.post (s3.trans s4) k⟩⟩
    | false => exact k F' Γ2 h2 emp H' (.fz (.bool false)) _ s3 A3.alone ⟨rfl, .bl _⟩ q3⟩⟩
theorem vt_chain {op op' : CmpOp} {opd opd' : PyData → PyData → (O → Prop) → Prop} (ho : Op2 X (compareOp op) opd) (ho' : Op2 X (compareOp op') opd') (ha : PE X a (lX X.K τa)) (hb : PE X b (lX X.K τb)) (hc : PE X c (lX X.K τc))
    (hm : lastMarks [op, op'] [b, c] = false := by with_unfolding_all rfl) : PT X (.Compare a [op, op'] [b, c] pos) (lT X.K (tO (eChain opd opd' τa τb τc))) :=
  pt_imp (pt_chain ho ho' ha hb hc hm) fun σ H QV ⟨pn, Z, F, Γ, hh, Q, A, q, k⟩ => ⟨pn, Z, F, Γ, hh, _, A, q, fun F1 Γ1 h1 H1 a1 x s1 A1 r1 q1 => ⟨pn, Z, F1, Γ1, h1, _, A1, q1, fun F2 Γ2 h2 H2 a2 y s2 A2 r2 ⟨d1, d2, e1, e2, q2⟩ => by
    subst e2
    refine ⟨F2, d1, d2, _, A2.FH, rep_of A2 (r1.mono s2) e1, .inl r2, q2, fun F' hr H' o v g w sr d nw ⟨c, e3, q3⟩ => ?_⟩
    subst e3
    refine ⟨c, rp_bl w.2, ?_⟩
    have q3 := of_br q3
    have A3 : At _ pn Z F' Γ2 σ h2 H' := A2.grow g
    have s3 := (s1.trans s2).trans g.fs
    cases c with
    | true => exact ⟨pn, Z, F', Γ2, h2, _, A3, q3, fun F4 Γ4 h4 H4 a3 z s4 A4 r4 ⟨d3, e4, q4⟩ => ⟨F4, d2, d3, _, A4.FH, .inl (Rp.mono (g.fs.trans s4) r2), rep_of A4 r4 e4, q4, fun F5 hr5 H5 o5 v5 g5 w5 sr5 d5 nw5 ⟨c5, e5, q5⟩ => by
        subst e5
        exact ⟨c5, rp_bl w5.2, k F5 Γ4 h4 H5 c5 ((s3.trans s4).trans g5.fs) (A4.grow g5) q5⟩⟩⟩
    | false =>
      obtain ⟨c', e4, q4⟩ := q3
      cases e4
      exact ⟨false, rfl, k F' Γ2 h2 H' false s3 A3 q4⟩⟩⟩
theorem tru_of {K : PySem.W.Frag} {F H : Hp} {d : PyData} {v : V} {k : Bool} (s : Same F H) (r : RepS K F H d v) (e : truD d = some k) : TruV K v H k := by
  have r := r.rpH s
  cases r with
  | non => cases e; rfl
  | bl b => cases e; rfl
  | int i => cases e; rfl
  | str x =>
    have e : (if x.length ≤ sizeLine then some ((x.length : Int) != 0) else none) = some k := e
    by_cases z : x.length ≤ sizeLine
    · rw [if_pos z] at e; cases e; exact ⟨z, rfl⟩
    · rw [if_neg z] at e; cases e
  | @lst a xs ds hs ha =>
    cases e
    refine .inl ⟨xs, SqL.of hs, ?_⟩
    cases ha <;> rfl
  | @tup a xs ds hs ha =>
    cases e
    refine .inr (.inl ⟨xs, hs.sq, ?_⟩)
    cases ha <;> rfl
  | dct _ _ _ _ => cases e
  | scr _ => cases e
theorem vt_tru (h : PE X e (lX X.K τ)) (he : ∀ whole, isTrue e X.env whole = (do let v ← whole; standAt e.pos; holding [v] (truthy v)) := by intro _; rfl) : PT X e (lT X.K (tTru τ)) :=
  pt_imp (pt_truth h he) fun σ H QV ⟨pn, Z, F, Γ, hh, Q, A, q, k⟩ => ⟨pn, Z, F, Γ, hh, _, A, q, fun F1 Γ1 h1 H1 a1 x s1 A1 r1 ⟨d, b, e1, e2, q1⟩ => ⟨b, tru_of A1.FH (rep_of A1 r1 e1) e2, k F1 Γ1 h1 H1 b s1 A1 q1⟩⟩
end

/-! ### targets -/
abbrev EG := PyData → Ga → (Ga → Prop) → Prop
abbrev EGs := List PyData → Ga → (Ga → Prop) → Prop
def Only (ws : List Nat) (σ σ' : St) : Prop := ∀ vs : List Nat, (∀ i ∈ ws, i ∈ vs) → wipe σ' vs = wipe σ vs
def lG (K : PySem.W.Frag) (io : Bool) (ws : List Nat) (τ : EG) : TG := fun v σ H Q => ∃ v0 Z F Γ h d Qd, At K (pns io v0) Z F Γ σ h H ∧ Rp K F v d ∧ τ d Γ Qd ∧
  ∀ F' Γ' σ' h' H', Same F F' → Only ws σ σ' → At K (pns io v0) Z F' Γ' σ' h' H' → Qd Γ' → Q σ' H'
def lGs (K : PySem.W.Frag) (io : Bool) (ws : List Nat) (τ : EGs) : TGs := fun vs σ H Q => ∃ v0 Z F Γ h ds Qd, At K (pns io v0) Z F Γ σ h H ∧ RpAll K F vs ds ∧ τ ds Γ Qd ∧
  ∀ F' Γ' σ' h' H', Same F F' → Only ws σ σ' → At K (pns io v0) Z F' Γ' σ' h' H' → Qd Γ' → Q σ' H'
def gN (i : Nat) : EG := fun d Γ Q => ∃ Γ', setG Γ i (some (.fz d)) = some Γ' ∧ Q Γ'
def gNils : EGs := fun ds Γ Q => ds = [] ∧ Q Γ
def gConss (t : EG) (u : EGs) : EGs := fun ds Γ Q => ∃ d dr, ds = d :: dr ∧ t d Γ fun Γ1 => u dr Γ1 Q
def gTupD (n : Nat) (u : EGs) : EG := fun d Γ Q => ∃ ds, d = .tuple ds ∧ ds.length = n ∧ u ds Γ Q
theorem wipe_comm {σ : St} {i : Nat} {x : Option V} : ∀ {vs : List Nat}, i ∈ vs → wipe (σ.set i x) vs = wipe σ vs
  | [], h => nomatch h
  | v :: vs, h => by
    show (wipe (σ.set i x) vs).set v none = (wipe σ vs).set v none
    by_cases hm : i ∈ vs
    · rw [wipe_comm hm]
    · have e : i = v := by
        rcases List.mem_cons.mp h with z | z
        · exact z
        · exact absurd z hm
      subst e
      have wset : ∀ (ws : List Nat) (σ : St) (x : Option V), i ∉ ws → wipe (σ.set i x) ws = (wipe σ ws).set i x := by
        intro ws
        induction ws with
        | nil => intro σ x _; rfl
        | cons w ws ih =>
          intro σ x hw
          have hne : w ≠ i := fun z => hw (by simp [z])
          show (wipe (σ.set i x) ws).set w none = ((wipe σ ws).set w none).set i x
          rw [ih σ x fun z => hw (List.mem_cons_of_mem _ z), List.set_comm _ _ (Ne.symm hne)]
      rw [wset vs σ x hm, List.set_set]
theorem Only.refl {ws : List Nat} {σ : St} : Only ws σ σ := fun _ _ => rfl
theorem Only.trans {ws us : List Nat} {σ σ1 σ2 : St} (a : Only ws σ σ1) (b : Only us σ1 σ2) : Only (ws ++ us) σ σ2 := fun vs h =>
  (b vs fun i hi => h i (List.mem_append_right _ hi)).trans (a vs fun i hi => h i (List.mem_append_left _ hi))
theorem At.put {K : PySem.W.Frag} {pn : List (Nat × V)} {Z F : Hp} {Γ : Ga} {σ : St} {h H : Hp} {v : V} {d : PyData} {i : Nat} (A : At K pn Z F Γ σ h H) (r : Rp K F v d) (hi : i < Γ.length) (hp : ∀ p ∈ pn, p.1 ≠ i) :
    ∃ h', At K pn Z F (Γ.set i (some (.fz d))) (σ.set i (some v)) h' H := A.alone.store (o := .fz d) ⟨rfl, r⟩ hi hp
theorem pns_ne {io : Bool} {v0 : V} {i : Nat} (h : io = true → i ≠ 0) : ∀ p ∈ pns io v0, p.1 ≠ i := fun p hp => by
  unfold pns at hp
  split at hp
  · rename_i e
    have : p = (0, v0) := by simpa using hp
    subst this
    exact fun z => h e z.symm
  · cases hp
section
variable {X : Cx} {io : Bool} {pos : Pos}
theorem vg_name {i : Nat} {x : Str} (hN : X.N.Nodup) (hi : X.N[i]? = some x) (hx : Loc X.env.scope x) (h0 : io = true → i ≠ 0) (hf : X.fn x = true ∨ X.env.scope.names.lookup x = some .local := by first | exact .inl rfl | exact .inr rfl | assumption) : PG X (.Name x pos) (lG X.K io [i] (gN i)) :=
  pg_imp (pg_name hN hi hx hf) fun v σ H Q ⟨v0, Z, F, Γ, h, d, Qd, A, r, ⟨Γ', eΓ, q⟩, k⟩ => by
    obtain ⟨e1, hl⟩ := setG_eq eΓ
    obtain ⟨h', A'⟩ := A.put r hl (pns_ne h0)
    rw [e1] at A'
    exact k F _ _ h' H (Same.refl _) (fun vs hv => wipe_comm (hv i (by simp))) A' q
theorem vgs_nil : PGs X [] (lGs X.K io [] gNils) := ⟨fun pins s σ H vs us Q I r ⟨v0, Z, F, Γ, h, ds, Qd, A, rr, ⟨e, q⟩, k⟩ => pgs_nil.run pins s σ H vs us Q I r ⟨by subst e; cases rr; rfl, k F Γ σ h H (Same.refl _) Only.refl A q⟩⟩
theorem vgs_cons {e : Expr} {es : List Expr} {ws us : List Nat} {t : EG} {u : EGs} (h1 : PG X e (lG X.K io ws t)) (h2 : PGs X es (lGs X.K io us u))
    (hs : (assignEach (e :: es) X.env).map (·.2) = assign e X.env :: (assignEach es X.env).map (·.2) := by rfl) : PGs X (e :: es) (lGs X.K io (ws ++ us) (gConss t u)) :=
  ⟨fun pins s σ H vs uss Q I r ⟨v0, Z, F, Γ, h, ds, Qd, A, rr, ⟨d, dr, e1, q⟩, k⟩ => by
    subst e1
    cases rr with
    | cons r1 r2 =>
      exact (pgs_cons h1 h2 hs).run pins s σ H _ uss Q I r ⟨_, _, rfl, ⟨v0, Z, F, Γ, h, d, _, A, r1, q, fun F1 Γ1 σ1 h1 H1 s1 o1 A1 q1 =>
        ⟨v0, Z, F1, Γ1, h1, dr, Qd, A1, RpAll.mono s1 r2, q1, fun F2 Γ2 σ2 h2 H2 s2 o2 A2 q2 => k F2 Γ2 σ2 h2 H2 (s1.trans s2) (o1.trans o2) A2 q2⟩⟩⟩⟩
theorem vg_tup {es : List Expr} {kk : Nat} {ws : List Nat} {u : EGs} {n : Nat} (hc : X.calm = true) (h : PGs X es (lGs X.K io ws u)) (hn : (assignEach es X.env).length = n := by rfl) (hst : (assignEach es X.env).findIdx? (·.1) = none := by rfl) :
    PG X (.Tuple es kk pos) (lG X.K io ws (gTupD n u)) :=
  pg_imp (pg_tup hc h hn hst) fun v σ H Q ⟨v0, Z, F, Γ, h, d, Qd, A, r, ⟨ds, e1, e2, q⟩, k⟩ => by
    subst e1
    obtain ⟨a, xs, rfl, hs, ha⟩ := rp_tup r
    exact ⟨a, xs, rfl, sameT A.FH hs, by rw [ha.length, e2], v0, Z, F, Γ, h, ds, Qd, A, ha, q, k⟩
end

/-! ### statements -/
def sNext : ES := fun D Γ => D.nx Γ
def sSeq (t u : ES) : ES := fun D Γ => t { D with nx := u D } Γ
def sBreak : ES := fun D Γ => D.bk Γ
def sCont : ES := fun D Γ => D.ct Γ
def sDrop (τ : EO) : ES := fun D Γ => τ Γ fun _ Γ' => D.nx Γ'
def sRet (τ : EO) : ES := fun D Γ => τ Γ D.rt
def sRetN : ES := fun D Γ => D.rt (.fz .none) Γ
def sIf (c : ET) (t u : ES) : ES := fun D Γ => c Γ fun b Γ1 => Br b (t D Γ1) (u D Γ1)
def sSet (i : Nat) (τ : EO) : ES := fun D Γ => τ Γ fun o Γ' => ∃ Γ2, setG Γ' i (some o) = some Γ2 ∧ D.nx Γ2
def sAsg (τ : EX) (g : EG) : ES := fun D Γ => τ Γ fun a Γ1 => ∃ d, a = .d d ∧ g d Γ1 D.nx
def sPar (i j : Nat) (τa τb : EO) : ES := fun D Γ => τa Γ fun o1 Γ1 => τb Γ1 fun o2 Γ2 => ∃ Γ3 Γ4, setG Γ2 i (some o1) = some Γ3 ∧ setG Γ3 j (some o2) = some Γ4 ∧ D.nx Γ4
def sWhile (c : ET) (t : ES) : ES := fun D Γ => ∃ W : Nat → Ga → Prop, (∃ m, W m Γ) ∧ ∀ m Γ', W m Γ' → c Γ' fun b Γ1 => Br b (t { D with nx := fun Γ2 => ∃ m', m' < m ∧ W m' Γ2, ct := fun Γ2 => ∃ m', m' < m ∧ W m' Γ2, bk := D.nx } Γ1) (D.nx Γ1)
section
variable {X : Cx} {io : Bool} {pos : Pos} {st : Stmt} {sts : List Stmt} {t u : ES} {e : Expr} {τ : EX} {τo τo' : EO} {tc : ET}
theorem vss_nil : PSs X [] (lS X.K io sNext) := pss_imp pss_nil fun D σ H ⟨v0, Z, F, Γ, h, DD, A, q, k⟩ => k.nx F Γ σ h H (Same.refl _) A q
theorem vss_cons (h1 : PS X st (lS X.K io t)) (h2 : PSs X sts (lS X.K io u)) : PSs X (st :: sts) (lS X.K io (sSeq t u)) :=
  pss_imp (pss_cons h1 h2) fun D σ H ⟨v0, Z, F, Γ, h, DD, A, q, k⟩ => ⟨v0, Z, F, Γ, h, _, A, q, ⟨fun F' Γ' σ' h' H' s A' q' => ⟨v0, Z, F', Γ', h', DD, A', q', k.mono s⟩, k.bk, k.ct, k.rt⟩⟩
theorem vss_one (h1 : PS X st (lS X.K io t)) : PSs X [st] (lS X.K io t) := pss_one h1
theorem vs_pass : PS X (.Pass pos) (lS X.K io sNext) := ps_imp ps_pass fun D σ H ⟨v0, Z, F, Γ, h, DD, A, q, k⟩ => k.nx F Γ σ h H (Same.refl _) A q
theorem vs_break : PS X (.Break pos) (lS X.K io sBreak) := ps_imp ps_break fun D σ H ⟨v0, Z, F, Γ, h, DD, A, q, k⟩ => k.bk F Γ σ h H (Same.refl _) A q
theorem vs_continue : PS X (.Continue pos) (lS X.K io sCont) := ps_imp ps_continue fun D σ H ⟨v0, Z, F, Γ, h, DD, A, q, k⟩ => k.ct F Γ σ h H (Same.refl _) A q
theorem vs_doc {x j pos pos'} : PS X (.Expr (.Constant (.str x) j pos) pos') (lS X.K io sNext) := ps_imp ps_doc fun D σ H ⟨v0, Z, F, Γ, h, DD, A, q, k⟩ => k.nx F Γ σ h H (Same.refl _) A q
theorem vs_expr (he : PE X e (lO X.K τo)) (hs : swapsWith e none pos.line X.env = pure false := by rfl) : PS X (.Expr e pos) (lS X.K io (sDrop τo)) :=
  ps_imp (ps_expr he hs) fun D σ H ⟨v0, Z, F, Γ, h, DD, A, q, k⟩ => ⟨_, Z, F, Γ, h, _, A, q, fun F' Γ' h' hr H' o v s A' w q' => k.nx F' Γ' σ h' H' s A'.at_ q'⟩
theorem vs_ret (he : PE X e (lO X.K τo)) : PS X (.Return (some e) pos) (lS X.K io (sRet τo)) :=
  ps_imp (ps_ret he) fun D σ H ⟨v0, Z, F, Γ, h, DD, A, q, k⟩ => ⟨_, Z, F, Γ, h, _, A, q, fun F' Γ' h' hr H' o v s A' w q' => k.rt F' Γ' σ h' hr H' o v s A' w q'⟩
theorem vs_retN : PS X (.Return none pos) (lS X.K io sRetN) :=
  ps_imp ps_retN fun D σ H ⟨v0, Z, F, Γ, h, DD, A, q, k⟩ => k.rt F Γ σ h emp H (.fz .none) .non (Same.refl _) A.alone ⟨rfl, .non⟩ q
theorem vs_if {c : Expr} {a b : List Stmt} (hc : PT X c (lT X.K tc)) (ha : PSs X a (lS X.K io t)) (hb : PSs X b (lS X.K io u)) : PS X (.If c a b pos) (lS X.K io (sIf tc t u)) :=
  ps_imp (ps_if hc ha hb) fun D σ H ⟨v0, Z, F, Γ, h, DD, A, q, k⟩ => ⟨_, Z, F, Γ, h, _, A, q, fun F' Γ' h' H' b s A' q' => by
    have q' := of_br q'
    cases b with
    | true => exact ⟨v0, Z, F', Γ', h', DD, A', q', k.mono s⟩
    | false => exact ⟨v0, Z, F', Γ', h', DD, A', q', k.mono s⟩⟩
theorem vs_set {i : Nat} {x : Str} {pos' : Pos} (hN : X.N.Nodup) (hi : X.N[i]? = some x) (hx : Loc X.env.scope x) (h0 : io = true → i ≠ 0) (he : PE X e (lO X.K τo)) (hs : swapsWith e (some (.Name x pos')) pos.line X.env = pure false := by rfl) (hf : X.fn x = true ∨ X.env.scope.names.lookup x = some .local := by first | exact .inl rfl | exact .inr rfl | assumption) :
    PS X (.Assign [.Name x pos'] e pos) (lS X.K io (sSet i τo)) :=
  ps_imp (ps_set hN hi hx he hs hf) fun D σ H ⟨v0, Z, F, Γ, h, DD, A, q, k⟩ => ⟨_, Z, F, Γ, h, _, A, q, fun F' Γ' h' hr H' o v s A' w ⟨Γ2, eΓ, q'⟩ => by
    obtain ⟨e1, hl⟩ := setG_eq eΓ
    obtain ⟨h2, A2⟩ := A'.store w hl (pns_ne h0)
    rw [e1] at A2
    exact k.nx F' _ _ h2 H' s A2 q'⟩
theorem vs_asg {tg : Expr} {ws : List Nat} {g : EG} (he : PE X e (lX X.K τ)) (hg : PG X tg (lG X.K io ws g)) (hs : swapsWithSole [tg] e pos.line X.env = pure false := by rfl) (hw : swappedStores [tg] e X.env = pure none := by rfl)
    (h1 : (assignEach [tg] X.env).map (·.2) = [assign tg X.env] := by rfl) : PS X (.Assign [tg] e pos) (lS X.K io (sAsg τ g)) :=
  ps_imp (ps_asg he hg hs hw h1) fun D σ H ⟨v0, Z, F, Γ, h, DD, A, q, k⟩ => ⟨_, Z, F, Γ, h, _, A, q, fun F' Γ' h' H' a v s A' r ⟨d, e1, q'⟩ => by
    subst e1
    exact ⟨v0, Z, F', Γ', h', d, _, A', r, q', fun F2 Γ2 σ2 h2 H2 s2 _ A2 q2 => k.nx F2 Γ2 σ2 h2 H2 (s.trans s2) A2 q2⟩⟩
/-- a part beside kept by what stands still -/
theorem AtR.keep {K : PySem.W.Frag} {pn : List (Nat × V)} {Z F : Hp} {Γ : Ga} {σ : St} {h hr H : Hp} (A : AtR K pn Z F Γ σ h hr H) : At K pn (jn Z hr) F Γ σ h H :=
  ⟨A.at_.own, A.at_.hH, A.at_.FH, same_jn A.at_.ZH A.rH, (Dis.jn A.at_.FZ.symm A.rF).symm, A.at_.hF, (Dis.jn A.at_.hZ.symm A.rh).symm, A.at_.pin⟩
theorem At.unkeep {K : PySem.W.Frag} {pn : List (Nat × V)} {Z F : Hp} {Γ : Ga} {σ : St} {h hr H : Hp} (d : Dis Z hr) (A : At K pn (jn Z hr) F Γ σ h H) : AtR K pn Z F Γ σ h hr H :=
  ⟨⟨A.own, A.hH, A.FH, fun a o e => A.ZH _ _ (same_l _ _ e), (Dis.sub same_l A.FZ.symm).symm, A.hF, (Dis.sub same_l A.hZ.symm).symm, A.pin⟩, fun a o e => A.ZH _ _ (same_r d _ _ e), Dis.sub (same_r d) A.hZ.symm, Dis.sub (same_r d) A.FZ.symm, d.symm⟩
theorem vs_par {i j : Nat} {x y : Str} {a b : Expr} {px py pt : Pos} {kt k2 pt2} (hc : X.calm = true) (hN : X.N.Nodup) (hi : X.N[i]? = some x) (hj : X.N[j]? = some y) (hij : i ≠ j)
    (hx : X.env.scope.names.lookup x = some .local) (hy : X.env.scope.names.lookup y = some .local) (h0 : io = true → i ≠ 0) (h0' : io = true → j ≠ 0) (ha : PE X a (lO X.K τo)) (hb : PE X b (lO X.K τo'))
    (hw : swappedStores [.Tuple [.Name x px, .Name y py] kt pt] (.Tuple [a, b] k2 pt2) X.env = pure (some [x, y]))
    (hs : swapsWithSole [.Tuple [.Name x px, .Name y py] kt pt] (.Tuple [a, b] k2 pt2) pos.line X.env = pure false := by rfl)
    (hs1 : starEach [a, b] X.env = (false, eval a X.env) :: starEach [b] X.env := by rfl) (hs2 : starEach [b] X.env = (false, eval b X.env) :: starEach [] X.env := by rfl) :
    PS X (.Assign [.Tuple [.Name x px, .Name y py] kt pt] (.Tuple [a, b] k2 pt2) pos) (lS X.K io (sPar i j τo τo')) :=
  ps_imp (ps_par hc hN hi hj hij hx hy (pa_cons ha (pa_cons hb pa_nil hs2) hs1) hw hs) fun D σ H ⟨v0, Z, F, Γ, h, DD, A, q, k⟩ => ⟨_, Z, F, Γ, h, _, A, q, fun F1 Γ1 h1 hr1 H1 o1 v1 s1 A1 w1 q1 =>
    ⟨_, jn Z hr1, F1, Γ1, h1, _, A1.keep, q1, fun F2 Γ2 h2 hr2 H2 o2 v2 s2 A2 w2 ⟨Γ3, Γ4, eΓ3, eΓ4, q2⟩ => ⟨v1, v2, rfl, by
      obtain ⟨i1, l1⟩ := setG_eq eΓ3
      obtain ⟨i2, l2⟩ := setG_eq eΓ4
      subst i1; subst i2
      have l2 : j < Γ2.length := by simpa using l2
      have B := A2.at_.unkeep A1.rZ.symm
      obtain ⟨h3, B3⟩ := B.store (w1.mono s2) l1 (pns_ne h0)
      -- the second part beside
      have d21 : Dis hr2 hr1 := (Dis.sub (same_r A1.rZ.symm) A2.rZ.symm).symm
      have dZ : Dis hr2 Z := (Dis.sub same_l A2.rZ.symm).symm
      obtain ⟨g2, sg, a3, _⟩ := B.at_.own.put l1
      have d1g : Dis hr1 g2 := (Dis.sub sg B.rh.symm).symm
      have d2g : Dis hr2 g2 := (Dis.sub sg A2.rh.symm).symm
      have A3 : AtR X.K (pns io v0) Z F2 (Γ2.set i (some o1)) (σ.set i (some v1)) (jn hr1 g2) hr2 H2 :=
        ⟨⟨a3 F2 o1 v1 hr1 (Same.refl _) (w1.mono s2) d1g, same_jn B.rH (sg.trans B.at_.hH), B.at_.FH, B.at_.ZH, B.at_.FZ, Dis.jn B.rF (Dis.sub sg B.at_.hF), Dis.jn B.rZ (Dis.sub sg B.at_.hZ), fun p hm => by
          rw [List.getElem?_set_ne (fun z => pns_ne h0 p hm z.symm)]
          exact B.at_.pin p hm⟩, A2.rH, (Dis.jn d21.symm d2g.symm).symm, A2.rF, dZ⟩
      obtain ⟨h4, A4⟩ := A3.store w2 (by simpa using l2) (pns_ne h0')
      exact k.nx F2 _ _ h4 H2 (s1.trans s2) A4 q2⟩⟩⟩
theorem vs_while {c : Expr} {body : List Stmt} (hp : PassesOwn (model X.prog X.w) X.A X.env X.xe) (hc : PT X c (lT X.K tc)) (hb : PSs X body (lS X.K io t)) : PS X (.While c body [] pos) (lS X.K io (sWhile tc t)) :=
  ps_imp (ps_while hp hc hb) fun D σ H ⟨v0, Z, F, Γ, h, DD, A, ⟨W, ⟨m0, w0⟩, turn⟩, k⟩ => by
    refine ⟨fun m σ' H' => ∃ F' Γ' h', Same F F' ∧ At X.K (pns io v0) Z F' Γ' σ' h' H' ∧ W m Γ', ⟨m0, F, Γ, h, Same.refl _, A, w0⟩, ?_⟩
    rintro m σ1 H1 ⟨F1, Γ1, h1, s1, A1, w1⟩
    refine ⟨_, Z, F1, Γ1, h1, _, A1, turn m Γ1 w1, fun F2 Γ2 h2 H2 b s2 A2 q2 => ?_⟩
    have q2 := of_br q2
    cases b with
    | false => exact k.nx F2 Γ2 σ1 h2 H2 (s1.trans s2) A2 q2
    | true =>
      refine iteT ?_
      refine ⟨fun σ' H' => ∃ F' Γ' h', Same F F' ∧ At X.K (pns io v0) Z F' Γ' σ' h' H' ∧ ∃ m', m' < m ∧ W m' Γ', fun σ' H' ⟨F', Γ', h', s', A', m', lt, w'⟩ => ⟨m', lt, F', Γ', h', s', A', w'⟩, ?_⟩
      have k2 := k.mono (s1.trans s2)
      exact ⟨v0, Z, F2, Γ2, h2, _, A2, q2, ⟨fun F' Γ' σ' h' H' s A' q' => ⟨F', Γ', h', (s1.trans s2).trans s, A', q'⟩, k2.nx, fun F' Γ' σ' h' H' s A' q' => ⟨F', Γ', h', (s1.trans s2).trans s, A', q'⟩, k2.rt⟩⟩
end
end VL
end
section
namespace VL
open PySem PySem.Spec L2

/-! ### what is walked -/
structure ItOk (K : PySem.W.Frag) (J : It) (F : Hp) (ds : List PyData) : Prop where
  stop : ∀ F' H i, Same F F' → Same F' H → ds.length ≤ i → J.stop i H
  go : ∀ F' H i, Same F F' → Same F' H → i < ds.length → J.go i H
  yld : ∀ F' H i x H', Same F F' → Same F' H → i < ds.length → J.yld i H x H' → ∃ F3 d, Grow F' H F3 H' ∧ ds[i]? = some d ∧ Rp K F3 x d
abbrev EI := Ga → (List PyData → Ga → Prop) → Prop
def lI (K : PySem.W.Frag) (τ : EI) : TI := fun σ H R => ∃ pn Z F Γ h Q, At K pn Z F Γ σ h H ∧ τ Γ Q ∧ ∀ F' Γ' h' H' J ds, Same F F' → At K pn Z F' Γ' σ h' H' → ItOk K J F' ds → Q ds Γ' → R J H'
def seqD : PyData → Option (List PyData)
  | .list ds => some ds
  | .tuple ds => some ds
  | .str x => some (x.cps.toList.map fun c => .str ⟨#[c]⟩)
  | _ => none
def iSeq (τ : EX) : EI := fun Γ Q => τ Γ fun a Γ1 => ∃ d ds, a = .d d ∧ seqD d = some ds ∧ Q ds Γ1
theorem itok_list {K : PySem.W.Frag} {F : Hp} {a : Addr} {vs : List V} {ds : List PyData} (hs' : F a = some (.lst vs)) (ha : RpAll K F vs ds) : ItOk K (Itl K a) F ds where
  stop := fun F' H i s s' hi => ⟨vs, (s.trans s').seq (SqL.of hs'), by rw [ha.length]; exact hi⟩
  go := fun F' H i s s' hi => ⟨vs, vs[i]'(by rw [ha.length]; exact hi), (s.trans s').seq (SqL.of hs'), List.getElem?_eq_getElem _⟩
  yld := fun F' H i x H' s s' hi ⟨e, q⟩ => by
    subst e
    obtain ⟨d, e1, r⟩ := ha.get (q vs ((s.trans s').seq (SqL.of hs')))
    exact ⟨F', d, Grow.refl s', e1, Rp.mono s r⟩
theorem itok_tup {K : PySem.W.Frag} {F : Hp} {a : Addr} {vs : List V} {ds : List PyData} (hs : SqT K F a vs) (ha : RpAll K F vs ds) : ItOk K (Itt K a) F ds where
  stop := fun F' H i s s' hi => ⟨vs, sameT (s.trans s') hs, by rw [ha.length]; exact hi⟩
  go := fun F' H i s s' hi => ⟨vs, vs[i]'(by rw [ha.length]; exact hi), sameT (s.trans s') hs, List.getElem?_eq_getElem _⟩
  yld := fun F' H i x H' s s' hi ⟨e, q⟩ => by
    subst e
    obtain ⟨d, e1, r⟩ := ha.get (q vs (sameT (s.trans s') hs))
    exact ⟨F', d, Grow.refl s', e1, Rp.mono s r⟩
theorem itok_str {K : PySem.W.Frag} {F : Hp} {x : Str} : ItOk K (Its x) F (x.cps.toList.map fun c => .str ⟨#[c]⟩) where
  stop := fun F' H i s s' hi => show x.cps.size ≤ i by simpa using hi
  go := fun F' H i s s' hi => show i < x.cps.size by simpa using hi
  yld := fun F' H i v H' s s' hi ⟨e, c, e1, e2⟩ => by
    subst e; subst e2
    refine ⟨F', .str ⟨#[c]⟩, Grow.refl s', ?_, .str _⟩
    rw [List.getElem?_map, Array.getElem?_toList, e1]; rfl
def rangeD (lo : Int) (n : Nat) : List PyData := (List.range n).map fun (i : Nat) => .int (lo + i)
theorem itok_range {K : PySem.W.Frag} {F : Hp} {lo : Int} {n : Nat} : ItOk K (Itr lo n) F (rangeD lo n) where
  stop := fun F' H i s s' hi => show n ≤ i by simpa [rangeD] using hi
  go := fun F' H i s s' hi => show i < n by simpa [rangeD] using hi
  yld := fun F' H i v H' s s' hi ⟨e, e2⟩ => by
    subst e; subst e2
    have hi : i < n := by simpa [rangeD] using hi
    refine ⟨F', .int (lo + i), Grow.refl s', ?_, .int _⟩
    rw [rangeD, List.getElem?_map, List.getElem?_range hi]; rfl
def rangeN (n : Nat) : List PyData := (List.range n).map fun (i : Nat) => .int (i : Int)
theorem rangeD0 (n : Nat) : rangeD 0 n = rangeN n := by
  unfold rangeD rangeN
  congr 1
  funext i
  rw [Int.zero_add]
theorem itok_rangeN {K : PySem.W.Frag} {F : Hp} {n : Nat} : ItOk K (Itr 0 n) F (rangeN n) := by
  rw [← rangeD0]; exact itok_range
def rangeC (lo c : Int) (n : Nat) : List PyData := (List.range n).map fun (i : Nat) => .int (lo + (i : Nat) * c)
theorem itok_rangeC {K : PySem.W.Frag} {F : Hp} {lo c : Int} {n : Nat} : ItOk K (Itc lo c n) F (rangeC lo c n) where
  stop := fun F' H i s s' hi => show n ≤ i by simpa [rangeC] using hi
  go := fun F' H i s s' hi => show i < n by simpa [rangeC] using hi
  yld := fun F' H i v H' s s' hi ⟨e, e2⟩ => by
    subst e; subst e2
    have hi : i < n := by simpa [rangeC] using hi
    refine ⟨F', .int (lo + (i : Nat) * c), Grow.refl s', ?_, .int _⟩
    rw [rangeC, List.getElem?_map, List.getElem?_range hi]; rfl
def iRange1 (τs : EA) : EI := fun Γ Q => τs Γ fun as Γ1 => ∃ n : Int, rsAll Γ1 as = some [.int n] ∧ (-(2 ^ 62) ≤ n ∧ n < 2 ^ 62) ∧ Q (rangeN n.toNat) Γ1
def iRange2 (τs : EA) : EI := fun Γ Q => τs Γ fun as Γ1 => ∃ a b : Int, rsAll Γ1 as = some [.int a, .int b] ∧ (-(2 ^ 62) ≤ a ∧ a < 2 ^ 62 ∧ -(2 ^ 62) ≤ b ∧ b < 2 ^ 62) ∧ Q (rangeD a (b - a).toNat) Γ1
def iRange3 (τs : EA) : EI := fun Γ Q => τs Γ fun as Γ1 => ∃ (a b c : Int) (n : Nat), rsAll Γ1 as = some [.int a, .int b, .int c] ∧ RgC a b c n ∧ Q (rangeC a c n) Γ1
theorem repl1 {K : PySem.W.Frag} {F H : Hp} {i : Int} {vs : List V} (h : RepL K F H [.int i] vs) : vs = [.int i] := by
  cases h with
  | cons r t => cases t; rw [r.int]
theorem repl2 {K : PySem.W.Frag} {F H : Hp} {i j : Int} {vs : List V} (h : RepL K F H [.int i, .int j] vs) : vs = [.int i, .int j] := by
  cases h with
  | cons r t => rw [r.int, repl1 t]
theorem repl3 {K : PySem.W.Frag} {F H : Hp} {i j k : Int} {vs : List V} (h : RepL K F H [.int i, .int j, .int k] vs) : vs = [.int i, .int j, .int k] := by
  cases h with
  | cons r t => rw [r.int, repl2 t]
theorem pi_imp {X : Cx} {tg e : Expr} {t t' : TI} (h : PI X tg e t) (i : ∀ σ H R, t' σ H R → t σ H R) : PI X tg e t' := ⟨fun pins s σ H R I q => h.run pins s σ H R I (i σ H R q)⟩
section
variable {X : Cx} {tg l a b c : Expr} {τ : EX} {τs : EA} {p pos : Pos}
theorem vi_seq (hl : PE X l (lX X.K τ)) : PI X tg l (lI X.K (iSeq τ)) := by
  refine ⟨fun pins s σ H R I ⟨pn, Z, F, Γ, h, Q, A, q, k⟩ => ?_⟩
  refine thn (hl.run pins s σ H (fun x H1 => ∃ F1 Γ1 h1 d ds, Same F F1 ∧ At X.K pn Z F1 Γ1 σ h1 H1 ∧ Rp X.K F1 x d ∧ seqD d = some ds ∧ Q ds Γ1) I
    ⟨pn, Z, F, Γ, h, _, A, q, fun F' Γ' h' H' a v s A' r ⟨d, ds, e1, e2, q'⟩ => by subst e1; exact ⟨F', Γ', h', d, ds, s, A', r, e2, q'⟩⟩) fun v s1 ⟨x, H1, I1, r1, F1, Γ1, h1, d, ds, sF, A1, r, e, q1⟩ => ?_
  cases r with
  | non => cases e
  | bl _ => cases e
  | int _ => cases e
  | str y =>
    cases e
    obtain ⟨t, rfl⟩ := r1
    have q2 := k F1 Γ1 h1 H1 (Its y) _ sF A1 itok_str q1
    cases ha : y.cps.all (· < 128)
    · exact wpAny_pyIter_wide ha (pi_one (tk := s1.toks) I1 _ (turn_str _ y t "str_iterator" (.inr rfl)) ⟨_, Heap.get?_push_size _ rfl, rfl, rfl⟩ q2)
    · exact wpAny_pyIter_ascii ha (pi_one (tk := s1.toks) I1 _ (turn_str _ y t "str_ascii_iterator" (.inl rfl)) ⟨_, Heap.get?_push_size _ rfl, rfl, rfl⟩ q2)
  | @lst a vs ds' hs ha =>
    cases e
    cases r1
    obtain ⟨its, rv, p, hz⟩ := I1.list (SqL.of (A1.FH _ _ hs))
    exact wpAny_pyIter_list p.isList (pi_one (tk := s1.toks) I1 _ (turn_list a _) ⟨_, Heap.get?_push_size _ rfl, rfl, rfl⟩ (k F1 Γ1 h1 H1 _ _ sF A1 (itok_list hs ha) q1))
  | @tup a vs ds' hs ha =>
    cases e
    cases r1
    obtain ⟨its, rv, p, hz⟩ := I1.tuple (sameT A1.FH hs.sq)
    exact wpAny_pyIter_tuple (show s1.heap.IsTuple a its.toArray from p) (pi_one (tk := s1.toks) I1 _ (turn_tuple a _) ⟨_, Heap.get?_push_size _ rfl, rfl, rfl⟩ (k F1 Γ1 h1 H1 _ _ sF A1 (itok_tup hs.sq ha) q1))
  | dct _ _ _ _ => cases e
  | scr _ => cases e
theorem vi_range1 (hg : Gl X "range") (hm : X.mg "range" = none) (ha : PA X [a] (lA X.K τs)) (hs : starEach [a] X.env = [(false, eval a X.env)] := by rfl) : PI X tg (.Call (.Name "range" p) [a] [] pos) (lI X.K (iRange1 τs)) :=
  pi_imp (pi_range1 hg hm ha hs) fun σ H R ⟨pn, Z, F, Γ, h, Q, A, q, k⟩ => ⟨pn, Z, F, Γ, h, _, A, q, fun F1 Γ1 h1 H1 as vs s1 A1 r1 ⟨n, e1, ⟨b1, b2⟩, q1⟩ => ⟨n, repl1 (reps_of A1 r1 e1), b1, b2, k F1 Γ1 h1 H1 _ _ s1 A1 itok_rangeN q1⟩⟩
theorem vi_range2 (hg : Gl X "range") (hm : X.mg "range" = none) (ha : PA X [a, b] (lA X.K τs)) (hs : starEach [a, b] X.env = [(false, eval a X.env), (false, eval b X.env)] := by rfl) (hs2 : starEach [b] X.env = [(false, eval b X.env)] := by rfl) : PI X tg (.Call (.Name "range" p) [a, b] [] pos) (lI X.K (iRange2 τs)) :=
  pi_imp (pi_range2 hg hm ha hs hs2) fun σ H R ⟨pn, Z, F, Γ, h, Q, A, q, k⟩ => ⟨pn, Z, F, Γ, h, _, A, q, fun F1 Γ1 h1 H1 as vs s1 A1 r1 ⟨i, j, e1, bb, q1⟩ => ⟨i, j, repl2 (reps_of A1 r1 e1), bb, k F1 Γ1 h1 H1 _ _ s1 A1 itok_range q1⟩⟩
theorem vi_range3 (hg : Gl X "range") (hm : X.mg "range" = none) (ha : PA X [a, b, c] (lA X.K τs)) (hs : starEach [a, b, c] X.env = (false, eval a X.env) :: starEach [b, c] X.env := by rfl) (hpl : (backTo pos (starEach [b, c] X.env)).any (·.1) = false := by rfl) : PI X tg (.Call (.Name "range" p) [a, b, c] [] pos) (lI X.K (iRange3 τs)) :=
  pi_imp (pi_range3 hg hm ha hs hpl) fun σ H R ⟨pn, Z, F, Γ, h, Q, A, q, k⟩ => ⟨pn, Z, F, Γ, h, _, A, q, fun F1 Γ1 h1 H1 as vs s1 A1 r1 ⟨i, j, c, n, e1, bb, q1⟩ => ⟨i, j, c, n, repl3 (reps_of A1 r1 e1), bb, k F1 Γ1 h1 H1 _ _ s1 A1 itok_rangeC q1⟩⟩
end

/-! ### for -/
def sFor (τi : EI) (g : EG) (t : ES) : ES := fun D Γ => τi Γ fun ds Γ1 => ∃ I : Nat → Ga → Prop, I 0 Γ1 ∧ (∀ i d Γ', ds[i]? = some d → I i Γ' → g d Γ' fun Γ2 => t { D with nx := I (i + 1), ct := I (i + 1), bk := D.nx } Γ2) ∧ ∀ Γ', I ds.length Γ' → D.nx Γ'
theorem vs_for {X : Cx} {io : Bool} {pos : Pos} {tg iter : Expr} {body : List Stmt} {ws : List Nat} {τi : EI} {g : EG} {t : ES} (hp : PassesOwn (model X.prog X.w) X.A X.env X.xe) (hc : X.calm = true) (hi : PI X tg iter (lI X.K τi)) (hg : PG X tg (lG X.K io ws g)) (hb : PSs X body (lS X.K io t))
    (hs : ∀ x, foldedSetIterable iter X.env x = pure x := by intro _; rfl) : PS X (.For tg iter body [] pos) (lS X.K io (sFor τi g t)) :=
  ps_imp (ps_for hp hc hi hg hb hs) fun D σ H ⟨v0, Z, F, Γ, h, DD, A, q, k⟩ => ⟨_, Z, F, Γ, h, _, A, q, fun F1 Γ1 h1 H1 J ds s1 A1 ok ⟨I, i0, turn, fin⟩ => by
    refine ⟨fun i m σ' H' => m = ds.length - i ∧ i ≤ ds.length ∧ ∃ F' Γ' h', Same F1 F' ∧ At X.K (pns io v0) Z F' Γ' σ' h' H' ∧ I i Γ', ⟨ds.length, by simp, Nat.zero_le _, F1, Γ1, h1, Same.refl _, A1, i0⟩, ?_⟩
    rintro i m σ2 H2 ⟨rfl, hi, F2, Γ2, h2, s2, A2, w2⟩
    by_cases hlt : i < ds.length
    · refine .inr ⟨ok.go F2 H2 i s2 A2.FH hlt, fun σ' H' => ∃ F' Γ' h', Same F1 F' ∧ At X.K (pns io v0) Z F' Γ' σ' h' H' ∧ I (i + 1) Γ', fun σ' H' ⟨F', Γ', h', s', A', w'⟩ => ⟨ds.length - (i + 1), by omega, rfl, hlt, F', Γ', h', s', A', w'⟩, fun x H' y => ?_⟩
      obtain ⟨F3, d, g3, e3, r3⟩ := ok.yld F2 H2 i x H' s2 A2.FH hlt y
      refine ⟨v0, Z, F3, Γ2, h2, d, _, A2.grow g3, r3, turn i d Γ2 e3 w2, fun F4 Γ4 σ4 h4 H4 s4 _ A4 q4 => ?_⟩
      have s14 : Same F1 F4 := (s2.trans g3.fs).trans s4
      have k4 := k.mono (s1.trans s14)
      exact ⟨v0, Z, F4, Γ4, h4, _, A4, q4, ⟨fun F' Γ' σ' h' H' s A' q' => ⟨F', Γ', h', s14.trans s, A', q'⟩, k4.nx, fun F' Γ' σ' h' H' s A' q' => ⟨F', Γ', h', s14.trans s, A', q'⟩, k4.rt⟩⟩
    · have e : i = ds.length := by omega
      subst e
      exact .inl ⟨ok.stop F2 H2 _ s2 A2.FH (Nat.le_refl _), k.nx F2 Γ2 σ2 h2 H2 (s1.trans s2) A2 (fin Γ2 w2)⟩⟩

/-! ### comprehensions -/
def wipeG (Γ : Ga) : List Nat → Ga
  | [] => Γ
  | v :: vs => (wipeG Γ vs).set v none
/-- the block's own slots as they were ahead -/
def backG (Γ0 Γ : Ga) : List Nat → Ga
  | [] => Γ
  | v :: vs => (backG Γ0 Γ vs).set v (Γ0.getD v none)
def Plain (Γ : Ga) (vs : List Nat) : Prop := ∀ i ∈ vs, Γ[i]? = some none ∨ ∃ d, Γ[i]? = some (some (.fz d))
def tYesD : ET := fun Γ Q => Q true Γ
def eLc (τi : EI) (g : EG) (tt : ET) (te : EX) (vs : List Nat) : EO := fun Γ Q => τi Γ fun ds Γ1 => Plain Γ1 vs ∧ ∃ I : Nat → List PyData → Ga → Prop, I 0 [] Γ1 ∧
  (∀ i d acc Γ', ds[i]? = some d → I i acc Γ' → (∀ j ∈ vs, Γ'[j]? = Γ1[j]?) → ∃ Γw, nrm (wipeG Γ' vs) = some Γw ∧ g d Γw fun Γ2 => tt Γ2 fun b Γ3 => Br b (te Γ3 fun a Γ4 => ∃ y, a = .d y ∧ acc.length < sizeLine ∧ ∃ Γb, nrm (backG Γ1 Γ4 vs) = some Γb ∧ I (i + 1) (acc ++ [y]) Γb) (∃ Γb, nrm (backG Γ1 Γ3 vs) = some Γb ∧ I (i + 1) acc Γb)) ∧
  ∀ acc Γ', I ds.length acc Γ' → Q (.ls acc) Γ'
section
variable {K : PySem.W.Frag} {F : Hp}
theorem wipeG_len (Γ : Ga) : ∀ vs : List Nat, (wipeG Γ vs).length = Γ.length
  | [] => rfl
  | v :: vs => by unfold wipeG; rw [List.length_set, wipeG_len Γ vs]
theorem OwnS.wipe {Γ : Ga} {σ : St} {h : Hp} (w : OwnS K F Γ σ h) : ∀ vs : List Nat, ∃ h', Same h' h ∧ OwnS K F (wipeG Γ vs) (wipe σ vs) h'
  | [] => ⟨h, Same.refl _, w⟩
  | v :: vs => by
    obtain ⟨h1, s1, w1⟩ := OwnS.wipe w vs
    by_cases hv : v < (wipeG Γ vs).length
    · obtain ⟨h2, s2, _, b⟩ := w1.put hv
      exact ⟨h2, s2.trans s1, b none⟩
    · refine ⟨h1, s1, ?_⟩
      show OwnS K F ((wipeG Γ vs).set v none) ((L2.wipe σ vs).set v none) h1
      rw [List.set_eq_of_length_le (by omega), List.set_eq_of_length_le (by rw [← w1.len]; omega)]
      exact w1
/-- what a frozen slot holds -/
theorem OwnS.get {Γ : Ga} {σ : St} {h : Hp} (w : OwnS K F Γ σ h) {i : Nat} {d : PyData} (e : Γ[i]? = some (some (.fz d))) : ∃ v, σ[i]? = some (some v) ∧ Rp K F v d := by
  obtain ⟨v, h1, h2, a1, a2, a3, a4, a5⟩ := w.focus e
  exact ⟨v, a1, a4.2⟩
/-- the block's own slots put back: σ0 the slots ahead -/
theorem OwnS.back {Γ0 Γ : Ga} {σ0 σ : St} {h : Hp} (w : OwnS K F Γ σ h) : ∀ vs : List Nat, (∀ i ∈ vs, Γ0[i]? = some none ∨ ∃ d v, Γ0[i]? = some (some (.fz d)) ∧ σ0[i]? = some (some v) ∧ Rp K F v d) → σ0.length = σ.length → Γ0.length = Γ.length →
    ∃ h' σ', Same h' h ∧ OwnS K F (backG Γ0 Γ vs) σ' h' ∧ σ'.length = σ.length ∧ (∀ i ∈ vs, σ'[i]? = σ0[i]?) ∧ ∀ i, i ∉ vs → σ'[i]? = σ[i]?
  | [], _, _, _ => ⟨h, σ, Same.refl _, w, rfl, fun _ z => absurd z (by simp), fun _ _ => rfl⟩
  | v :: vs, pl, l1, l2 => by
    obtain ⟨h1, σ1, s1, w1, len1, in1, out1⟩ := OwnS.back w vs (fun i hi => pl i (List.mem_cons_of_mem _ hi)) l1 l2
    have hv0 : v < Γ0.length := by
      rcases pl v List.mem_cons_self with e | ⟨d, u, e, _⟩
      · exact (List.getElem?_eq_some_iff.mp e).1
      · exact (List.getElem?_eq_some_iff.mp e).1
    have lb : (backG Γ0 Γ vs).length = Γ0.length := by rw [w1.len, len1, ← w.len, l2]
    have hv : v < (backG Γ0 Γ vs).length := by omega
    obtain ⟨h2, s2, a, b⟩ := w1.put hv
    have hσ : v < σ1.length := by rw [← w1.len]; exact hv
    have fin : ∀ y : Option V, σ0[v]? = some y → (∀ i ∈ v :: vs, (σ1.set v y)[i]? = σ0[i]?) ∧ ∀ i, i ∉ v :: vs → (σ1.set v y)[i]? = σ[i]? := fun y hy => by
      refine ⟨fun i hi => ?_, fun i hi => ?_⟩
      · by_cases z : v = i
        · subst z; rw [List.getElem?_set_self hσ, hy]
        · rw [List.getElem?_set_ne z]
          rcases List.mem_cons.mp hi with q | q
          · exact absurd q.symm z
          · exact in1 i q
      · have z : v ≠ i := fun e => hi (by simp [e])
        rw [List.getElem?_set_ne z]
        exact out1 i fun q => hi (List.mem_cons_of_mem _ q)
    have hlen0 : v < σ0.length := by rw [l1, ← w.len, ← l2]; exact hv0
    rcases pl v List.mem_cons_self with e | ⟨d, u, e, e2, r⟩
    · refine ⟨h2, σ1.set v σ0[v], s2.trans s1, ?_, by simp [len1], fin _ (List.getElem?_eq_getElem hlen0)⟩
      show OwnS K F ((backG Γ0 Γ vs).set v (Γ0.getD v none)) _ h2
      rw [show Γ0.getD v none = none by simp [List.getD_eq_getElem?_getD, e]]
      exact b _
    · refine ⟨h2, σ1.set v (some u), s2.trans s1, ?_, by simp [len1], fin _ e2⟩
      show OwnS K F ((backG Γ0 Γ vs).set v (Γ0.getD v none)) _ h2
      rw [show Γ0.getD v none = some (.fz d) by simp [List.getD_eq_getElem?_getD, e]]
      have q := a F (.fz d) u emp (Same.refl _) ⟨rfl, r⟩ Dis.emp
      rw [emp_jn] at q
      exact q
theorem backG_get {Γ0 Γ : Ga} (l : Γ0.length = Γ.length) : ∀ {vs : List Nat} {j : Nat}, j ∈ vs → (backG Γ0 Γ vs)[j]? = Γ0[j]?
  | [], _, h => nomatch h
  | v :: vs, j, h => by
    have lb : ∀ ws : List Nat, (backG Γ0 Γ ws).length = Γ.length := fun ws => by
      induction ws with
      | nil => rfl
      | cons w ws ih => unfold backG; rw [List.length_set, ih]
    show ((backG Γ0 Γ vs).set v (Γ0.getD v none))[j]? = Γ0[j]?
    by_cases z : v = j
    · subst z
      by_cases hv : v < Γ0.length
      · rw [List.getElem?_set_self (by rw [lb]; omega), List.getD_eq_getElem?_getD, List.getElem?_eq_getElem hv]; rfl
      · rw [List.getElem?_eq_none (by rw [List.length_set, lb]; omega), List.getElem?_eq_none (by omega)]
    · rw [List.getElem?_set_ne z]
      rcases List.mem_cons.mp h with q | q
      · exact absurd q.symm z
      · exact backG_get l q
theorem out_wipe {σ σ' : St} {vs : List Nat} (h : wipe σ' vs = wipe σ vs) {i : Nat} (hi : i ∉ vs) : σ'[i]? = σ[i]? := by
  have := congrArg (fun l => l[i]?) h
  simpa [wipe_out hi] using this
end
theorem len_wipe {σ σ' : St} {vs : List Nat} (h : wipe σ' vs = wipe σ vs) : σ'.length = σ.length := by
  have := congrArg List.length h
  simpa [wipe_length] using this
/-- a comprehension's reading -/
theorem lc_read {K : PySem.W.Frag} {τi : EI} {g : EG} {tt : ET} {te : EX} {ws vs : List Nat} (hw : ∀ i ∈ ws, i ∈ vs) {σ : St} {H : Hp} {QV : VK} (hh : lO K (eLc τi g tt te vs) σ H QV) : tLc (lI K τi) (lG K false ws g) (lT K tt) (lX K te) vs σ H QV := by
  obtain ⟨pn, Z, F, Γ, h, Q, A, q, k⟩ := hh
  refine ⟨pn, Z, F, Γ, h, _, A, q, fun F1 Γ1 h1 H1 J ds s1 A1 ok ⟨pl, I, i0, turn, fin⟩ D hD => ?_⟩
  have l1 := A1.own.len
  refine ⟨fun i m H' => m = ds.length - i ∧ i ≤ ds.length ∧ ∃ F' Γ' h' acc xs, Same F1 F' ∧ AtR K pn Z F' Γ' σ h' (VL.one D (.lst xs)) H' ∧ RpAll K F' xs acc ∧ (∀ j ∈ vs, Γ'[j]? = Γ1[j]?) ∧ I i acc Γ',
    ⟨ds.length, by simp, Nat.zero_le _, F1, Γ1, h1, [], [], Same.refl _, A1.beside (Grow.stay A1.FH (same_new hD)) (same_one upd_same) (dis_one (A1.FH.free hD)) (fun a z => ?_), .nil, fun _ _ => rfl, i0⟩, ?_⟩
  · by_cases e : a = D
    · subst e; exact hD
    · rw [one_ne e] at z; exact absurd rfl z
  rintro i m H2 ⟨rfl, hi, F2, Γ2, h2, acc, xs, s2, A2, ra, sl, w2⟩
  by_cases hlt : i < ds.length
  · refine .inr ⟨ok.go F2 H2 i s2 A2.at_.FH hlt, fun H' => ∃ F' Γ' h' acc xs, Same F1 F' ∧ AtR K pn Z F' Γ' σ h' (VL.one D (.lst xs)) H' ∧ RpAll K F' xs acc ∧ (∀ j ∈ vs, Γ'[j]? = Γ1[j]?) ∧ I (i + 1) acc Γ',
      fun H' ⟨F', Γ', h', acc', xs', s', A', r', sl', w'⟩ => ⟨ds.length - (i + 1), by omega, rfl, hlt, F', Γ', h', acc', xs', s', A', r', sl', w'⟩, fun x H' y => ?_⟩
    obtain ⟨F3, d, g3, e3, r3⟩ := ok.yld F2 H2 i x H' s2 A2.at_.FH hlt y
    have B : At K pn (jn Z (VL.one D (.lst xs))) F3 Γ2 σ h2 H' := (AtR.keep A2).grow g3
    obtain ⟨h2', sw, ow⟩ := B.own.wipe vs
    have C : At K (pns false .non) (jn Z (VL.one D (.lst xs))) F3 (wipeG Γ2 vs) (wipe σ vs) h2' H' := ⟨ow, sw.trans B.hH, B.FH, B.ZH, B.FZ, Dis.sub sw B.hF, Dis.sub sw B.hZ, fun p hp => nomatch hp⟩
    have dZ : Dis Z (VL.one D (.lst xs)) := A2.rZ.symm
    obtain ⟨Γw, eΓw, tq⟩ := turn i d acc Γ2 e3 w2 sl
    rw [nrm_eq eΓw] at C
    refine ⟨.non, _, F3, _, h2', d, _, C, r3, tq, fun F4 Γ4 σ4 h4 H4 s4 o4 A4 q4 => ⟨by rw [o4 vs hw]; exact wipe_wipe σ vs, ?_⟩⟩
    have wσ : wipe σ4 vs = wipe σ vs := by rw [o4 vs hw]; exact wipe_wipe σ vs
    -- the slots behind a turn
    have len2 : Γ2.length = Γ1.length := by rw [A2.at_.own.len, l1]
    have back : ∀ F5 Γ5 h5 H5, Same F4 F5 → At K (pns false .non) (jn Z (VL.one D (.lst xs))) F5 Γ5 σ4 h5 H5 → ∃ h6, AtR K pn Z F5 (backG Γ1 Γ5 vs) σ h6 (VL.one D (.lst xs)) H5 ∧ ∀ j ∈ vs, (backG Γ1 Γ5 vs)[j]? = Γ1[j]? := fun F5 Γ5 h5 H5 s5 A5 => by
      have sF : Same F2 F5 := (g3.fs.trans s4).trans s5
      have lσ : σ.length = σ4.length := (len_wipe wσ).symm
      have l5 : Γ1.length = Γ5.length := by rw [A5.own.len, ← lσ, ← l1]
      obtain ⟨h6, σ6, s6, w6, n6, in6, out6⟩ := A5.own.back (Γ0 := Γ1) (σ0 := σ) vs (fun j hj => by
        rcases pl j hj with e | ⟨d, e⟩
        · exact .inl e
        · obtain ⟨u, e2, r⟩ := A2.at_.own.get (show Γ2[j]? = some (some (.fz d)) by rw [sl j hj]; exact e)
          exact .inr ⟨d, u, e, e2, Rp.mono sF r⟩) lσ l5
      have eσ : σ6 = σ := by
        apply List.ext_getElem?
        intro j
        by_cases hj : j ∈ vs
        · exact in6 j hj
        · rw [out6 j hj, out_wipe wσ hj]
      subst eσ
      refine ⟨h6, At.unkeep dZ ⟨w6, s6.trans A5.hH, A5.FH, A5.ZH, A5.FZ, Dis.sub s6 A5.hF, Dis.sub s6 A5.hZ, A2.at_.pin⟩, fun j hj => backG_get l5 hj⟩
    refine ⟨_, _, F4, Γ4, h4, _, A4, q4, fun F5 Γ5 h5 H5 b s5 A5 q5 => ?_⟩
    have q5 := of_br q5
    cases b with
    | false =>
      obtain ⟨h6, A6, sl6⟩ := back F5 Γ5 h5 H5 s5 A5
      obtain ⟨Γb, eb, q5⟩ := q5
      rw [nrm_eq eb] at A6 sl6
      exact ⟨F5, _, h6, acc, xs, ((s2.trans g3.fs).trans s4).trans s5, A6, RpAll.mono ((g3.fs.trans s4).trans s5) ra, sl6, q5⟩
    | true =>
      refine iteT ⟨_, _, F5, Γ5, h5, _, A5, q5, fun F6 Γ6 h6 H6 a v s6 A6 r6 ⟨y, e6, z6, Γb, eb, q6⟩ => ?_⟩
      subst e6
      obtain ⟨h7, A7, sl7⟩ := back F6 Γ6 h6 H6 (s5.trans s6) A6
      rw [nrm_eq eb] at A7 sl7
      have ra6 : RpAll K F6 xs acc := RpAll.mono (((g3.fs.trans s4).trans s5).trans s6) ra
      refine ⟨xs, A7.rH _ _ one_at, by rw [ra.length]; exact z6, F6, _, h7, acc ++ [y], xs ++ [v], (((s2.trans g3.fs).trans s4).trans s5).trans s6, ?_, ra6.append (.one r6), sl7, q6⟩
      -- the list grown
      have nD : ∀ (G : Hp), Dis (VL.one D (.lst xs)) G → Same G H6 → Same G (upd H6 D (.lst (xs ++ [v]))) := fun G dG sG a o e => by
        by_cases z : a = D
        · subst z; rw [of_dis_one dG] at e; cases e
        · rw [upd_ne z]; exact sG _ _ e
      exact ⟨⟨A7.at_.own, nD _ A7.rh A7.at_.hH, nD _ A7.rF A7.at_.FH, nD _ A7.rZ A7.at_.ZH, A7.at_.FZ, A7.at_.hF, A7.at_.hZ, A7.at_.pin⟩, same_one upd_same, dis_one (of_dis_one A7.rh), dis_one (of_dis_one A7.rF), dis_one (of_dis_one A7.rZ)⟩
  · have e : i = ds.length := by omega
    subst e
    refine .inl ⟨ok.stop F2 H2 _ s2 A2.at_.FH (Nat.le_refl _), ?_⟩
    exact k F2 Γ2 h2 _ H2 (.ls acc) (.ref D) (s1.trans s2) A2 ⟨D, xs, rfl, rfl, ra⟩ (fin acc Γ2 w2)
where
  wipe_wipe (σ : St) : ∀ vs : List Nat, wipe (wipe σ vs) vs = wipe σ vs := fun vs => by
    apply List.ext_getElem?
    intro j
    by_cases hj : j ∈ vs
    · have f : ∀ σ : St, (wipe σ vs)[j]? = if j < σ.length then some none else none := fun σ => by
        cases e : (wipe σ vs)[j]? with
        | none =>
          have := List.getElem?_eq_none_iff.mp e
          rw [wipe_length] at this
          rw [if_neg (by omega)]
        | some x =>
          have hl := (List.getElem?_eq_some_iff.mp e).1
          rw [wipe_length] at hl
          rw [if_pos hl]
          cases x with
          | none => rfl
          | some y => exact absurd hj (wipe_some e).2
      rw [f, f, wipe_length]
    · rw [wipe_out hj]
end VL
end
section
namespace VL
open PySem PySem.Spec L2

def PTsD (X : Cx) (ifs : List Expr) (t : ET) : Prop := PTs X ifs (lT X.K t)
theorem vts_nil {X : Cx} : PTs X [] (lT X.K tYesD) := ⟨fun pins s σ H Q I ⟨pn, Z, F, Γ, h, Qd, A, q, k⟩ => pts_nil.run pins s σ H Q I (k F Γ h H true (Same.refl _) A q)⟩
theorem vts_one {X : Cx} {c : Expr} {t : ET} (h : PT X c (lT X.K t)) : PTs X [c] (lT X.K t) := pts_one h
section
variable {X : Cx} {elt tg iter : Expr} {ifs : List Expr} {scope : Scope} {own : List (Str × Nat)} {pos : Pos} {ws : List Nat} {τi : EI} {g : EG} {tt : ET} {te : EX}
theorem vo_lc (hc : X.calm = true) (hN : X.N.Nodup) (hi : PI X tg iter (lI X.K τi)) (ok : BlkOk X.N X.env.scope scope own)
    (hg : ∀ (s : Shared) (H : Hp) (C : Addr) (cl : List (Str × Addr)) (fp : List Addr), PG (X.blk s H scope (compEnvC scope cl C X.env) fp) tg (lG X.K false ws g)) (hw : ∀ i ∈ ws, i ∈ own.map (·.2))
    (ht : ∀ (s : Shared) (H : Hp) (C : Addr) (cl : List (Str × Addr)) (fp : List Addr), PTs (X.blk s H scope (compEnvC scope cl C X.env) fp) ifs (lT X.K tt))
    (he : ∀ (s : Shared) (H : Hp) (C : Addr) (cl : List (Str × Addr)) (fp : List Addr), PE (X.blk s H scope (compEnvC scope cl C X.env) fp) elt (lX X.K te)) (hs : ∀ x, foldedSetIterable iter X.env x = pure x := by intro _; rfl) :
    PE X (.ListComp elt [⟨tg, iter, ifs, 0⟩] scope pos) (lO X.K (eLc τi g tt te (own.map (·.2)))) :=
  pe_imp (pe_lc hc hN hi ok hg ht he hs) fun σ H QV h => lc_read hw h
theorem vs_setLc {io : Bool} {i : Nat} {y : Str} {py spos : Pos} (hc : X.calm = true) (hN : X.N.Nodup) (hy : X.N[i]? = some y) (hyl : X.env.scope.names.lookup y = some .local) (h0 : io = true → i ≠ 0)
    (hsw : swapsWith (.ListComp elt [⟨tg, iter, ifs, 0⟩] scope pos) (some (.Name y py)) spos.line X.env = pure true) (hi : PI X tg iter (lI X.K τi)) (ok : BlkOk X.N X.env.scope scope own)
    (hg : ∀ (s : Shared) (H : Hp) (C : Addr) (cl : List (Str × Addr)) (fp : List Addr), PG (X.blk s H scope (compEnvC scope cl C X.env) fp) tg (lG X.K false ws g)) (hw : ∀ i ∈ ws, i ∈ own.map (·.2))
    (ht : ∀ (s : Shared) (H : Hp) (C : Addr) (cl : List (Str × Addr)) (fp : List Addr), PTs (X.blk s H scope (compEnvC scope cl C X.env) fp) ifs (lT X.K tt))
    (he : ∀ (s : Shared) (H : Hp) (C : Addr) (cl : List (Str × Addr)) (fp : List Addr), PE (X.blk s H scope (compEnvC scope cl C X.env) fp) elt (lX X.K te)) (hs : ∀ x, foldedSetIterable iter X.env x = pure x := by intro _; rfl) :
    PS X (.Assign [.Name y py] (.ListComp elt [⟨tg, iter, ifs, 0⟩] scope pos) spos) (lS X.K io (sSet i (eLc τi g tt te (own.map (·.2))))) :=
  ps_imp (ps_setLc hc hN hy hyl hsw hi ok hg ht he hs) fun D σ H ⟨v0, Z, F, Γ, h, DD, A, q, k⟩ => lc_read (K := X.K) hw (QV := fun x H1 => gName i x σ H1 D.nx) ⟨_, Z, F, Γ, h, _, A, q, fun F' Γ' h' hr H' o v s A' w ⟨Γ2, eΓ, q'⟩ => by
    obtain ⟨e1, hl⟩ := setG_eq eΓ
    obtain ⟨h2, A2⟩ := A'.store w hl (pns_ne h0)
    rw [e1] at A2
    exact k.nx F' _ _ h2 H' s A2 q'⟩
end

/-! ### what a def promises, by data -/
abbrev W0 := List PyData → (O → Prop) → Prop
abbrev W1 := O → List PyData → (O → O → Prop) → Prop
def toSp0 (K : PySem.W.Frag) (wp : W0) : Sp := fun vs H QV _ => ∃ F ds Q, Same F H ∧ RpAll K F vs ds ∧ wp ds Q ∧ OpPost K F H Q QV
def fzs (ds : List PyData) : Ga := ds.map fun d => some (.fz d)
def toSp1 (K : PySem.W.Frag) (wp : W1) : Sp := fun vs H QV _ => ∃ v0 vr Z F h0 o0 ds Q, vs = v0 :: vr ∧ At K [] Z F (some o0 :: fzs ds) (some v0 :: vr.map some) h0 H ∧ wp o0 ds Q ∧
  ∀ F' h' hr H' o o0' v, Same F F' → AtR K [] Z F' [some o0'] [some v0] h' hr H' → Own K F' o v hr → Q o o0' → QV v H'
section
variable {K : PySem.W.Frag} {F : Hp}
theorem ownS_fz : ∀ {ds : List PyData} {vs : List V}, RpAll K F vs ds → OwnS K F (fzs ds) (vs.map some) emp
  | _, _, .nil => ⟨rfl, rfl⟩
  | _, _, .cons h t => ⟨_, _, emp, emp, rfl, by rw [emp_jn], Dis.emp, ⟨rfl, h⟩, ownS_fz t⟩
theorem ownS_app : ∀ {Γ : Ga} {σ : St} {h : Hp} (n : Nat), OwnS K F Γ σ h → OwnS K F (Γ ++ List.replicate n none) (σ ++ List.replicate n none) h
  | [], _, _, n, ⟨e, e2⟩ => by
    subst e; subst e2
    show OwnS K F (List.replicate n none) (List.replicate n none) emp
    induction n with
    | zero => exact ⟨rfl, rfl⟩
    | succ n ih => exact ⟨none, _, rfl, ih⟩
  | none :: _, _, _, n, ⟨x, σ', e, h⟩ => by subst e; exact ⟨x, _, rfl, ownS_app n h⟩
  | some _ :: _, _, _, n, ⟨v, σ', h1, h2, e, e2, d, w, h⟩ => by subst e; exact ⟨v, _, h1, h2, rfl, e2, d, w, ownS_app n h⟩
theorem ownS_dp : ∀ {ds : List PyData} {vs : List V} {h : Hp}, OwnS K F (fzs ds) (vs.map some) h → RpAll K F vs ds ∧ h = emp
  | [], vs, _, ⟨e, e2⟩ => by
    cases vs with
    | nil => exact ⟨.nil, e2⟩
    | cons _ _ => cases e
  | d :: ds, vs, _, ⟨v, σ', h1, h2, e, e2, _, w, t⟩ => by
    cases vs with
    | nil => cases e
    | cons u us =>
      cases e
      obtain ⟨q, z⟩ := ownS_dp t
      exact ⟨.cons w.2 q, by rw [e2, w.1, z, emp_jn]⟩
end
/-- all that stands beside: what is neither frozen nor the def's own -/
def rest2 (H F h : Hp) : Hp := fun a => if F a = none ∧ h a = none then H a else none
theorem rest2_same {H F h : Hp} : Same (rest2 H F h) H := fun a o e => by
  unfold rest2 at e
  split at e
  · exact e
  · cases e
theorem rest2_F {H F h : Hp} : Dis F (rest2 H F h) := fun a => by
  cases e : F a with
  | none => exact .inl rfl
  | some o => exact .inr (if_neg fun z => by rw [e] at z; cases z.1)
theorem rest2_h {H F h : Hp} : Dis h (rest2 H F h) := fun a => by
  cases e : h a with
  | none => exact .inl rfl
  | some o => exact .inr (if_neg fun z => by rw [e] at z; cases z.2)
theorem rest2_of {H F h : Hp} {a : Addr} (e : F a = none) (e2 : h a = none) : rest2 H F h a = H a := if_pos ⟨e, e2⟩
section
variable {X : Cx} {k : Nat} {f : Addr} {fd : FuncData} {ps : List Str} {x : Str} {p pos : Pos} {e : Expr} {es : List Expr} {τs : EA} {dvs : List V} {ds : List Value} {dds : List PyData}
def eCall (wp : W0) (dds : List PyData) (τs : EA) : EO := fun Γ Q => τs Γ fun as Γ1 => ∃ ds, unD as = some ds ∧ wp (ds ++ dds) fun o => Q o Γ1
def eCallI (wp : W1) (dds : List PyData) (τs : EA) : EO := fun Γ Q => τs Γ fun as Γ1 => ∃ j o0 ar ds, as = .s j :: ar ∧ unD ar = some ds ∧ Γ1[j]? = some (some o0) ∧ wp o0 (ds ++ dds) fun o o0' => ∃ Γ2, setG Γ1 j (some o0') = some Γ2 ∧ Q o Γ2
theorem call_read {wp : W0} (hdd : ∀ F, RpAll X.K F dvs dds) {E : XK} {σ : St} {H : Hp} {QV : VK} (h : lO X.K (eCall wp dds τs) σ H QV) : tCall (toSp0 X.K wp) dvs E (lA X.K τs) σ H QV := by
  obtain ⟨pn, Z, F, Γ, hh, Q, A, q, kk⟩ := h
  refine ⟨pn, Z, F, Γ, hh, _, A, q, fun F1 Γ1 h1 H1 as vs s1 A1 r1 ⟨ds', e1, q1⟩ => ?_⟩
  rw [unD_eq e1] at r1
  exact ⟨F1, ds' ++ dds, _, A1.FH, (args_d r1).append (hdd F1), q1, A1.post s1 kk⟩
theorem vo_call {wp : W0} (G : FnOk X.prog X.w X.K X.mg X.base CX0 k f fd ps (toSp0 X.K wp)) (hr : Room k X.A) (hg : Gl X x) (hm : X.mg x = some (.ref f)) (hk : PySem.W.keepIn X.K (.ref f) = true) (hb : Binds X.K fd ps ds) (hd : Vals dvs ds) (hdd : ∀ F, RpAll X.K F dvs dds)
    (ha : PA X (e :: es) (lA X.K τs)) (hdb : (x == ("__debug__" : Str)) = false := by decide) (he : starEach (e :: es) X.env = (false, eval e X.env) :: starEach es X.env := by rfl) (hpl : (backTo pos (starEach es X.env)).any (·.1) = false := by rfl) :
    PE X (.Call (.Name x p) (e :: es) [] pos) (lO X.K (eCall wp dds τs)) := pe_imp (pe_call G hr hg hm hk hb hd pass0 ha hdb he hpl) fun σ H QV h => call_read hdd h
theorem vo_call0 {wp : W0} (G : FnOk X.prog X.w X.K X.mg X.base CX0 k f fd ps (toSp0 X.K wp)) (hr : Room k X.A) (hg : Gl X x) (hm : X.mg x = some (.ref f)) (hk : PySem.W.keepIn X.K (.ref f) = true) (hb : Binds X.K fd ps ds) (hd : Vals dvs ds) (hdd : ∀ F, RpAll X.K F dvs dds)
    (hdb : (x == ("__debug__" : Str)) = false := by decide) : PE X (.Call (.Name x p) [] [] pos) (lO X.K (eCall wp dds aNil)) :=
  pe_imp (pe_call0 G hr hg hm hk hb hd pass0 hdb) fun σ H QV ⟨pn, Z, F, Γ, hh, Q, A, ⟨ds', e1, q1⟩, kk⟩ => by
    have : ds' = [] := by cases e1; rfl
    subst this
    exact ⟨F, dds, _, A.FH, hdd F, q1, A.post (Same.refl _) kk⟩
theorem calli_read {wp : W1} (hdd : ∀ F, RpAll X.K F dvs dds) {E : XK} {σ : St} {H : Hp} {QV : VK} (h : lO X.K (eCallI wp dds τs) σ H QV) : tCall (toSp1 X.K wp) dvs E (lA X.K τs) σ H QV := by
  obtain ⟨pn, Z, F, Γ, hh, Q, A, q, kk⟩ := h
  refine ⟨pn, Z, F, Γ, hh, _, A, q, fun F1 Γ1 h1 H1 as vs s1 A1 r1 ⟨j, o0, ar, ds', e1, e1', e2, q1⟩ => ?_⟩
  subst e1
  have e1'' := unD_eq e1'
  subst e1''
  obtain ⟨v0, vr, rfl, r0, rr⟩ := r1
  obtain ⟨v, g1, g2, a1, w, sg1, dg1, zg1, sg2, d12, dg2, zg2, put⟩ := A1.change e2
  have r0 : σ[j]? = some (some v0) := r0
  have ev : v = v0 := by rw [a1] at r0; exact Option.some.inj (Option.some.inj r0)
  subst ev
  have rd := (args_d rr).append (hdd F1)
  have own : OwnS X.K F1 (some o0 :: fzs (ds' ++ dds)) (some v :: (vr ++ dvs).map some) g1 := ⟨v, _, g1, emp, rfl, by rw [jn_emp], Dis.emp.symm, w, ownS_fz rd⟩
  refine ⟨v, vr ++ dvs, jn Z g2, F1, g1, o0, ds' ++ dds, _, rfl, ⟨own, sg1, A1.FH, same_jn A1.ZH sg2, (Dis.jn A1.FZ.symm dg2).symm, dg1, (Dis.jn zg1.symm d12.symm).symm, fun _ z => nomatch z⟩, q1, fun F' h' hr H' o o0' u sF A' w' ⟨Γ2, eΓ2, q'⟩ => ?_⟩
  have dZ : Dis Z g2 := zg2.symm
  have B := At.unkeep (K := X.K) dZ A'.at_
  obtain ⟨v', σ', k1, k2, e5, e6, dk, w5, ⟨e7, e8⟩⟩ := B.at_.own
  cases e5
  rw [e8, jn_emp] at e6
  subst e6
  have hr2 : Dis hr g2 := (Dis.sub (same_r dZ) A'.rZ.symm).symm
  have hrZ : Dis hr Z := (Dis.sub same_l A'.rZ.symm).symm
  have dF2 : Dis g2 F' := B.rF
  have C := put F' o0' h' H' sF w5 B.at_.hH B.at_.FH B.rH B.at_.ZH B.at_.FZ B.rh.symm B.at_.hF B.at_.hZ dF2
  rw [(setG_eq eΓ2).1] at C
  exact kk F' _ (jn h' g2) hr H' o u (s1.trans sF) ⟨C, A'.rH, (Dis.jn A'.rh.symm hr2.symm).symm, A'.rF, hrZ⟩ w' q'
theorem vo_callI {wp : W1} (G : FnOk X.prog X.w X.K X.mg X.base CX0 k f fd ps (toSp1 X.K wp)) (hr : Room k X.A) (hg : Gl X x) (hm : X.mg x = some (.ref f)) (hk : PySem.W.keepIn X.K (.ref f) = true) (hb : Binds X.K fd ps ds) (hd : Vals dvs ds) (hdd : ∀ F, RpAll X.K F dvs dds)
    (ha : PA X (e :: es) (lA X.K τs)) (hdb : (x == ("__debug__" : Str)) = false := by decide) (he : starEach (e :: es) X.env = (false, eval e X.env) :: starEach es X.env := by rfl) (hpl : (backTo pos (starEach es X.env)).any (·.1) = false := by rfl) :
    PE X (.Call (.Name x p) (e :: es) [] pos) (lO X.K (eCallI wp dds τs)) := pe_imp (pe_call G hr hg hm hk hb hd pass0 ha hdb he hpl) fun σ H QV h => calli_read hdd h
end

/-! ### a def keeps its promise -/
def ends0 (Q : O → Prop) : En := { nx := fun _ => Q (.fz .none), rt := fun o _ => Q o }
def ends1 (Q : O → O → Prop) : En := { nx := fun Γ => ∃ o0, Γ[0]? = some (some o0) ∧ Q (.fz .none) o0, rt := fun o Γ => ∃ o0, Γ[0]? = some (some o0) ∧ Q o o0 }
section
variable {P : Program} {w : World} {K : PySem.W.Frag} {mg : Str → Option Value} {base : Heap} {x qual : Str} {st : Stmt} {f : Addr} {fd : FuncData} {N ps : List Str} {k : Nat}
theorem start_eq {N : List Str} {vs : List V} : start N vs = vs.map some ++ List.replicate (N.length - vs.length) none := rfl
theorem vfn0 {wp : W0} {τ : ES} (Fu : Fun K x qual st f fd) (S : FnScope N ps (defScope st)) (hlen : ∀ ds Q, wp ds Q → ds.length = ps.length)
    (body : ∀ (cdv : Value) (A : Around) (outer : List Env) (s : Shared) (H : Hp) (E : XK), Room k (A.deeper (PyProof.Rows.envOfC qual (defScope st) s.heap.objs.size f cdv)) → PSs (cxOf CX0 P w K mg base N qual (defScope st) f cdv A outer s H E).nox (defBody st) (lS K false τ))
    (rd : ∀ ds Q, wp ds Q → τ (ends0 Q) (fzs ds ++ List.replicate (N.length - ds.length) none)) : FnOk P w K mg base CX0 (k + 1) f fd ps (toSp0 K wp) := by
  refine Fu.ok S (fun vs H QV E ⟨F, ds, Q, s, r, h, _⟩ => by rw [r.length]; exact hlen ds Q h) (fun cdv A outer s H vs QV E hr ⟨F, ds, Q, sF, r, h, post⟩ => ⟨lS K false τ, body cdv A outer s H E hr, ?_⟩)
  refine ⟨.non, rest2 H F emp, F, _, emp, ends0 Q, ⟨?_, same_emp, sF, rest2_same, rest2_F, Dis.emp, Dis.emp, fun _ z => nomatch z⟩, rd ds Q h, ?_⟩
  · have := ownS_app (N.length - ds.length) (ownS_fz r)
    rw [start_eq, r.length]
    exact this
  have fin : ∀ F' Γ' σ' h' hr H' o v, Same F F' → AtR K (pns false .non) (rest2 H F emp) F' Γ' σ' h' hr H' → Own K F' o v hr → Q o → QV v H' := fun F' Γ' σ' h' hr H' o v s' A' w' q' => by
    have there : ∀ a, H a ≠ none → F a = none → rest2 H F emp a = H a := fun a _ e => rest2_of e rfl
    refine post F' hr H' o v ⟨s', A'.at_.FH, fun a u e => ?_, fun a e => ?_⟩ w' A'.rH A'.rF (fun a e => ?_) q'
    · cases e1 : F a with
      | some u' =>
        have := sF _ _ e1
        rw [e] at this; cases this
        exact A'.at_.FH _ _ (s' _ _ e1)
      | none => exact A'.at_.ZH _ _ ((there a (by rw [e]; simp) e1).trans e)
    · cases e1 : F a with
      | some u' => exact .inl (by simp)
      | none =>
        right
        cases e2 : H a with
        | none => rfl
        | some u =>
          rcases A'.at_.FZ a with z | z
          · exact absurd z e
          · rw [there a (by rw [e2]; simp) e1, e2] at z; cases z
    · cases e2 : H a with
      | none => rfl
      | some u =>
        cases e1 : F a with
        | some u' =>
          rcases A'.rF a with z | z
          · exact absurd z e
          · rw [s' _ _ e1] at z; cases z
        | none =>
          rcases A'.rZ a with z | z
          · exact absurd z e
          · rw [there a (by rw [e2]; simp) e1, e2] at z; cases z
  exact ⟨fun F' Γ' σ' h' H' s' A' q' => fin F' Γ' σ' h' emp H' (.fz .none) .non s' A'.alone ⟨rfl, .non⟩ q', fun _ _ _ _ _ _ _ q => q.elim, fun _ _ _ _ _ _ _ q => q.elim, fun F' Γ' σ' h' hr H' o v s' A' w' q' => fin F' Γ' σ' h' hr H' o v s' A' w' q'⟩
theorem vfn1 {wp : W1} {τ : ES} (Fu : Fun K x qual st f fd) (S : FnScope N ps (defScope st)) (hlen : ∀ o ds Q, wp o ds Q → ds.length + 1 = ps.length)
    (body : ∀ (cdv : Value) (A : Around) (outer : List Env) (s : Shared) (H : Hp) (E : XK), Room k (A.deeper (PyProof.Rows.envOfC qual (defScope st) s.heap.objs.size f cdv)) → PSs (cxOf CX0 P w K mg base N qual (defScope st) f cdv A outer s H E).nox (defBody st) (lS K true τ))
    (rd : ∀ o ds Q, wp o ds Q → τ (ends1 Q) (some o :: fzs ds ++ List.replicate (N.length - (ds.length + 1)) none)) : FnOk P w K mg base CX0 (k + 1) f fd ps (toSp1 K wp) := by
  have len2 : ∀ {F : Hp} {ds : List PyData} {vr : List V} {o0 : O} {v0 : V} {h0 : Hp}, OwnS K F (some o0 :: fzs ds) (some v0 :: vr.map some) h0 → vr.length = ds.length := fun q => by
    have := q.len
    simpa [fzs] using this.symm
  refine Fu.ok S (fun vs H QV E ⟨v0, vr, Z, F, h0, o0, ds, Q, e, A, h, _⟩ => by subst e; rw [List.length_cons, len2 A.own]; exact hlen o0 ds Q h) (fun cdv A outer s H vs QV E hr ⟨v0, vr, Z, F, h0, o0, ds, Q, e, B, h, post⟩ => ⟨lS K true τ, body cdv A outer s H E hr, ?_⟩)
  subst e
  have hl := len2 B.own
  refine ⟨v0, Z, F, _, h0, ends1 Q, ⟨?_, B.hH, B.FH, B.ZH, B.FZ, B.hF, B.hZ, fun p hp => ?_⟩, rd o0 ds Q h, ?_⟩
  · have := ownS_app (N.length - (ds.length + 1)) B.own
    rw [start_eq, List.length_cons, hl]
    exact this
  · have : p = (0, v0) := by simpa [pns] using hp
    subst this
    rfl
  have fin : ∀ F' Γ' σ' h' hr H' o v, Same F F' → AtR K (pns true v0) Z F' Γ' σ' h' hr H' → Own K F' o v hr → (∃ o0, Γ'[0]? = some (some o0) ∧ Q o o0) → QV v H' := fun F' Γ' σ' h' hr H' o v s' A' w' ⟨o0', e, q'⟩ => by
    obtain ⟨v1, g1, g2, a1, a2, a3, a4, _⟩ := A'.at_.own.focus e
    have hp := A'.at_.pin (0, v0) (by simp [pns])
    have hp : σ'[0]? = some (some v0) := hp
    rw [a1] at hp
    have ev : v1 = v0 := Option.some.inj (Option.some.inj hp)
    subst ev
    subst a2
    refine post F' g1 hr H' o o0' v s' ⟨⟨⟨v1, [], g1, emp, rfl, by rw [jn_emp], Dis.emp.symm, a4, rfl, rfl⟩, fun a u z => A'.at_.hH _ _ (same_l _ _ z), A'.at_.FH, A'.at_.ZH, A'.at_.FZ, Dis.sub same_l A'.at_.hF, Dis.sub same_l A'.at_.hZ, fun _ z => nomatch z⟩, A'.rH, (Dis.sub same_l A'.rh.symm).symm, A'.rF, A'.rZ⟩ w' q'
  exact ⟨fun F' Γ' σ' h' H' s' A' q' => fin F' Γ' σ' h' emp H' (.fz .none) .non s' A'.alone ⟨rfl, .non⟩ q', fun _ _ _ _ _ _ _ q => q.elim, fun _ _ _ _ _ _ _ q => q.elim, fun F' Γ' σ' h' hr H' o v s' A' w' q' => fin F' Γ' σ' h' hr H' o v s' A' w' q'⟩
end
end VL
end
section
namespace VL
open PySem PySem.Spec L2

/-! ### operations on data -/
def shaped (d : PyData) : Prop := SeqAt.shaped d = true
def opAdd : PyData → PyData → (O → Prop) → Prop
  | .int i, .int j, Q => Q (.fz (.int (i + j)))
  | .str x, .str y, Q => x.length + y.length ≤ sizeLine ∧ Q (.fz (.str (x ++ y)))
  | .tuple xs, .tuple ys, Q => xs.length + ys.length ≤ sizeLine ∧ Q (.fz (.tuple (xs ++ ys)))
  | .list xs, .list ys, Q => xs.length + ys.length ≤ sizeLine ∧ Q (.ls (xs ++ ys))
  | _, _, _ => False
def opSub : PyData → PyData → (O → Prop) → Prop
  | .int i, .int j, Q => Q (.fz (.int (i - j)))
  | _, _, _ => False
def opMul : PyData → PyData → (O → Prop) → Prop
  | .int i, .int j, Q => CMulX i j ∧ Q (.fz (.int (i * j)))
  | .list xs, .int k, Q => (-(2 ^ 63) ≤ k ∧ k < 2 ^ 63 ∧ xs.length * k.toNat ≤ sizeLine) ∧ Q (.ls (List.replicate k.toNat xs).flatten)
  | .tuple xs, .int k, Q => (xs ≠ [] ∧ 1 ≤ k ∧ k ≤ 1000 ∧ xs.length ≤ 1000) ∧ Q (.fz (.tuple (List.replicate k.toNat xs).flatten))
  | _, _, _ => False
def opDiv : PyData → PyData → (O → Prop) → Prop
  | .int i, .int j, Q => CDivW i j ∧ Q (.fz (.int (i / j)))
  | _, _, _ => False
def opMod : PyData → PyData → (O → Prop) → Prop
  | .int i, .int j, Q => 0 < j ∧ Q (.fz (.int (i % j)))
  | _, _, _ => False
def opShl : PyData → PyData → (O → Prop) → Prop
  | .int i, .int j, Q => CShl i j ∧ Q (.fz (.int (i * 2 ^ j.toNat)))
  | _, _, _ => False
def opShr : PyData → PyData → (O → Prop) → Prop
  | .int i, .int j, Q => 0 ≤ j ∧ Q (.fz (.int (i / 2 ^ j.toNat)))
  | _, _, _ => False
def opAndI : PyData → PyData → (O → Prop) → Prop
  | .int i, .int j, Q => Q (.fz (.int (Builtin.bitAnd i j)))
  | _, _, _ => False
def opPow : PyData → PyData → (O → Prop) → Prop
  | .int i, .int j, Q => CPow i j ∧ Q (.fz (.int (i ^ j.toNat)))
  | _, _, _ => False
def opLt : PyData → PyData → (O → Prop) → Prop
  | .int i, .int j, Q => Q (.fz (.bool (decide (i < j))))
  | _, _, _ => False
def opLe : PyData → PyData → (O → Prop) → Prop
  | .int i, .int j, Q => Q (.fz (.bool (decide (i ≤ j))))
  | _, _, _ => False
def opGt : PyData → PyData → (O → Prop) → Prop
  | .int i, .int j, Q => Q (.fz (.bool (decide (j < i))))
  | _, _, _ => False
def opGe : PyData → PyData → (O → Prop) → Prop
  | .int i, .int j, Q => Q (.fz (.bool (decide (j ≤ i))))
  | _, _, _ => False
def opEq (d e : PyData) (Q : O → Prop) : Prop := shaped d ∧ shaped e ∧ Q (.fz (.bool (PyData.eqv d e)))
def opNe (d e : PyData) (Q : O → Prop) : Prop := shaped d ∧ shaped e ∧ Q (.fz (.bool (!PyData.eqv d e)))
def opIsN (d e : PyData) (Q : O → Prop) : Prop := e = .none ∧ Q (.fz (.bool (match d with | .none => true | _ => false)))
def opNotN (d e : PyData) (Q : O → Prop) : Prop := e = .none ∧ Q (.fz (.bool (match d with | .none => false | _ => true)))
def opIn : PyData → PyData → (O → Prop) → Prop
  | d, .list ds, Q => shaped d ∧ shaped (.list ds) ∧ Q (.fz (.bool (ds.any fun z => PyData.eqv z d)))
  | d, .tuple ds, Q => shaped d ∧ shaped (.tuple ds) ∧ Q (.fz (.bool (ds.any fun z => PyData.eqv z d)))
  | .str i, .str j, Q => Q (.fz (.bool (!(Builtin.Str.occurrences j i 0 j.length 1).isEmpty)))
  | _, _, _ => False
def opNotIn : PyData → PyData → (O → Prop) → Prop
  | d, .list ds, Q => shaped d ∧ shaped (.list ds) ∧ Q (.fz (.bool (!ds.any fun z => PyData.eqv z d)))
  | d, .tuple ds, Q => shaped d ∧ shaped (.tuple ds) ∧ Q (.fz (.bool (!ds.any fun z => PyData.eqv z d)))
  | .str i, .str j, Q => Q (.fz (.bool (!(!(Builtin.Str.occurrences j i 0 j.length 1).isEmpty))))
  | _, _, _ => False
def opIx : PyData → PyData → (O → Prop) → Prop
  | .list ds, .int i, Q => ∃ d, atI ds i = some d ∧ Q (.fz d)
  | .tuple ds, .int i, Q => ∃ d, atI ds i = some d ∧ Q (.fz d)
  | .str z, .int i, Q => z.length ≤ sizeLine ∧ ∃ c, atI z.cps.toList i = some c ∧ Q (.fz (.str ⟨#[c]⟩))
  | _, _, _ => False
def op1Neg : PyData → (O → Prop) → Prop
  | .int i, Q => Q (.fz (.int (-i)))
  | _, _ => False
section
variable {K : PySem.W.Frag} {F H : Hp}
theorem atI_all {ds : List PyData} {vs : List V} {i : Int} {d : PyData} (h : RpAll K F vs ds) (e : atI ds i = some d) : ∃ v, atI vs i = some v ∧ Rp K F v d := by
  unfold atI at e ⊢
  rw [h.length]
  cases e1 : ixN ds.length i with
  | none => rw [e1] at e; cases e
  | some j => rw [e1] at e; exact h.getd e
end
theorem RepS.tupR {K : PySem.W.Frag} {F H : Hp} {ds : List PyData} {v : V} (r : RepS K F H (.tuple ds) v) : Rp K F v (.tuple ds) := by
  rcases r with r | ⟨_, _, _, _, e, _⟩
  · exact r
  · cases e
section
variable {X : Cx}
theorem o2_add : Op2 X (binaryOp .Add) opAdd := by
  intro pins s σ H x y v u QV I rx ry ⟨F, d1, d2, Q, sF, r1, r2, h, post⟩
  unfold opAdd at h
  split at h
  · cases r1.int; cases r2.int
    exact op_add pins s σ H _ _ v u QV I rx ry ⟨_, _, rfl, rfl, post.val sF (.int _) h⟩
  · cases r1.str; cases r2.str
    exact op_add_str pins s σ H _ _ v u QV I rx ry ⟨_, _, rfl, rfl, h.1, post.val sF (.str _) h.2⟩
  · obtain ⟨a, vs, rfl, ha, ra⟩ := r1.tup sF
    obtain ⟨b, ws, rfl, hb, rb⟩ := r2.tup sF
    have q1 := r1.tupR
    have q2 := r2.tupR
    refine op_catN pins s σ H _ _ v u QV I rx ry ⟨a, b, vs, ws, rfl, rfl, ha, hb, by rw [ra.length, rb.length]; exact h.1, fun e => ?_, fun _ e => ?_, fun _ _ p o n hd => ?_⟩
    · subst e; cases ra; exact post.val sF q2 h.2
    · subst e; cases rb; rw [List.append_nil] at h; exact post.val sF q1 h.2
    · exact post.newT sF n hd (ra.append rb) h.2
  · obtain ⟨a, vs, rfl, ha, ra⟩ := r1.list sF
    obtain ⟨b, ws, rfl, hb, rb⟩ := r2.list sF
    exact op_cat pins s σ H _ _ v u QV I rx ry ⟨a, b, vs, ws, rfl, rfl, ha, hb, by rw [ra.length, rb.length]; exact h.1, fun p n => post.newL sF n (ra.append rb) h.2⟩
  · exact h.elim
theorem o2_sub : Op2 X (binaryOp .Sub) opSub := by
  intro pins s σ H x y v u QV I rx ry ⟨F, d1, d2, Q, sF, r1, r2, h, post⟩
  unfold opSub at h
  split at h
  · cases r1.int; cases r2.int
    exact op_sub pins s σ H _ _ v u QV I rx ry ⟨_, _, rfl, rfl, post.val sF (.int _) h⟩
  · exact h.elim
theorem rep_all {K : PySem.W.Frag} {F : Hp} {ds : List PyData} {vs : List V} (r : RpAll K F vs ds) : ∀ k : Nat, RpAll K F (List.replicate k vs).flatten (List.replicate k ds).flatten
  | 0 => .nil
  | k + 1 => by rw [List.replicate_succ, List.flatten_cons, List.replicate_succ, List.flatten_cons]; exact r.append (rep_all r k)
theorem o2_mul : Op2 X (binaryOp .Mult) opMul := by
  intro pins s σ H x y v u QV I rx ry ⟨F, d1, d2, Q, sF, r1, r2, h, post⟩
  unfold opMul at h
  split at h
  · cases r1.int; cases r2.int
    exact op_mulX pins s σ H _ _ v u QV I rx ry ⟨_, _, rfl, rfl, h.1, post.val sF (.int _) h.2⟩
  · obtain ⟨a, vs, rfl, ha, ra⟩ := r1.list sF
    cases r2.int
    exact op_rep pins s σ H _ _ v u QV I rx ry ⟨a, _, vs, rfl, rfl, ha, h.1.1, h.1.2.1, by rw [ra.length]; exact h.1.2.2, fun p n => post.newL sF n (rep_all ra _) h.2⟩
  · have q1 := r1.tupR
    obtain ⟨a, vs, rfl, ha, ra⟩ := r1.tup sF
    cases r2.int
    refine op_repN pins s σ H _ _ v u QV I rx ry ⟨a, _, vs, rfl, rfl, ha, fun e => h.1.1 ?_, h.1.2.1, h.1.2.2.1, by rw [ra.length]; exact h.1.2.2.2, fun e => ?_, fun _ p o n hd => post.newT sF n hd (rep_all ra _) h.2⟩
    · subst e; cases ra; rfl
    · subst e
      refine post.val sF q1 ?_
      have := h.2
      rw [show (1 : Int).toNat = 1 from rfl, List.replicate_one, List.flatten_cons, List.flatten_nil, List.append_nil] at this
      exact this
  · exact h.elim
theorem o2_div : Op2 X (binaryOp .FloorDiv) opDiv := by
  intro pins s σ H x y v u QV I rx ry ⟨F, d1, d2, Q, sF, r1, r2, h, post⟩
  unfold opDiv at h
  split at h
  · cases r1.int; cases r2.int
    exact op_fdivW pins s σ H _ _ v u QV I rx ry ⟨_, _, rfl, rfl, h.1, post.val sF (.int _) h.2⟩
  · exact h.elim
theorem o2_mod : Op2 X (binaryOp .Mod) opMod := by
  intro pins s σ H x y v u QV I rx ry ⟨F, d1, d2, Q, sF, r1, r2, h, post⟩
  unfold opMod at h
  split at h
  · cases r1.int; cases r2.int
    exact op_mod pins s σ H _ _ v u QV I rx ry ⟨_, _, rfl, rfl, h.1, post.val sF (.int _) h.2⟩
  · exact h.elim
theorem o2_shl : Op2 X (binaryOp .LShift) opShl := by
  intro pins s σ H x y v u QV I rx ry ⟨F, d1, d2, Q, sF, r1, r2, h, post⟩
  unfold opShl at h
  split at h
  · cases r1.int; cases r2.int
    exact op_shlW pins s σ H _ _ v u QV I rx ry ⟨_, _, rfl, rfl, h.1, post.val sF (.int _) h.2⟩
  · exact h.elim
theorem o2_shr : Op2 X (binaryOp .RShift) opShr := by
  intro pins s σ H x y v u QV I rx ry ⟨F, d1, d2, Q, sF, r1, r2, h, post⟩
  unfold opShr at h
  split at h
  · cases r1.int; cases r2.int
    exact op_shr pins s σ H _ _ v u QV I rx ry ⟨_, _, rfl, rfl, h.1, post.val sF (.int _) h.2⟩
  · exact h.elim
theorem o2_and : Op2 X (binaryOp .BitAnd) opAndI := by
  intro pins s σ H x y v u QV I rx ry ⟨F, d1, d2, Q, sF, r1, r2, h, post⟩
  unfold opAndI at h
  split at h
  · cases r1.int; cases r2.int
    exact op_and pins s σ H _ _ v u QV I rx ry ⟨_, _, rfl, rfl, post.val sF (.int _) h⟩
  · exact h.elim
theorem o2_pow : Op2 X (binaryOp .Pow) opPow := by
  intro pins s σ H x y v u QV I rx ry ⟨F, d1, d2, Q, sF, r1, r2, h, post⟩
  unfold opPow at h
  split at h
  · cases r1.int; cases r2.int
    exact op_pow pins s σ H _ _ v u QV I rx ry ⟨_, _, rfl, rfl, h.1, post.val sF (.int _) h.2⟩
  · exact h.elim
theorem o2_lt : Op2 X (compareOp .Lt) opLt := by
  intro pins s σ H x y v u QV I rx ry ⟨F, d1, d2, Q, sF, r1, r2, h, post⟩
  unfold opLt at h
  split at h
  · cases r1.int; cases r2.int
    exact op_lt pins s σ H _ _ v u QV I rx ry ⟨_, _, rfl, rfl, post.val sF (.bl _) h⟩
  · exact h.elim
theorem o2_le : Op2 X (compareOp .LtE) opLe := by
  intro pins s σ H x y v u QV I rx ry ⟨F, d1, d2, Q, sF, r1, r2, h, post⟩
  unfold opLe at h
  split at h
  · cases r1.int; cases r2.int
    exact op_le pins s σ H _ _ v u QV I rx ry ⟨_, _, rfl, rfl, post.val sF (.bl _) h⟩
  · exact h.elim
theorem o2_gt : Op2 X (compareOp .Gt) opGt := by
  intro pins s σ H x y v u QV I rx ry ⟨F, d1, d2, Q, sF, r1, r2, h, post⟩
  unfold opGt at h
  split at h
  · cases r1.int; cases r2.int
    exact op_gt pins s σ H _ _ v u QV I rx ry ⟨_, _, rfl, rfl, post.val sF (.bl _) h⟩
  · exact h.elim
theorem o2_ge : Op2 X (compareOp .GtE) opGe := by
  intro pins s σ H x y v u QV I rx ry ⟨F, d1, d2, Q, sF, r1, r2, h, post⟩
  unfold opGe at h
  split at h
  · cases r1.int; cases r2.int
    exact op_ge pins s σ H _ _ v u QV I rx ry ⟨_, _, rfl, rfl, post.val sF (.bl _) h⟩
  · exact h.elim
theorem RepS.dpH {K : PySem.W.Frag} {F H : Hp} {d : PyData} {v : V} (s : Same F H) (r : RepS K F H d v) (c : shaped d) : Dp K H v d := Rp.dp d (r.rpH s) (SeqAt.canLay_of_shaped c)
theorem o2_eq (hu : X.A.units + 64 < cLine) : Op2 X (compareOp .Eq) opEq := by
  intro pins s σ H x y v u QV I rx ry ⟨F, d1, d2, Q, sF, r1, r2, ⟨c1, c2, h⟩, post⟩
  exact op_eqD hu pins s σ H _ _ v u QV I rx ry ⟨d1, d2, r1.dpH sF c1, r2.dpH sF c2, c1, c2, post.val sF (.bl _) h⟩
theorem o2_ne (hu : X.A.units + 64 < cLine) : Op2 X (compareOp .NotEq) opNe := by
  intro pins s σ H x y v u QV I rx ry ⟨F, d1, d2, Q, sF, r1, r2, ⟨c1, c2, h⟩, post⟩
  exact op_neD hu pins s σ H _ _ v u QV I rx ry ⟨d1, d2, r1.dpH sF c1, r2.dpH sF c2, c1, c2, post.val sF (.bl _) h⟩
theorem o2_isN : Op2 X (compareOp .Is) opIsN := by
  intro pins s σ H x y v u QV I rx ry ⟨F, d1, d2, Q, sF, r1, r2, ⟨e, h⟩, post⟩
  subst e
  have ey := r2.non
  have r := r1.rpH sF
  refine op_isN pins s σ H _ _ v u QV I rx ry ⟨ey, ?_⟩
  cases r <;> exact post.val sF (.bl _) h
theorem o2_notN : Op2 X (compareOp .IsNot) opNotN := by
  intro pins s σ H x y v u QV I rx ry ⟨F, d1, d2, Q, sF, r1, r2, ⟨e, h⟩, post⟩
  subst e
  have ey := r2.non
  have r := r1.rpH sF
  refine op_notN pins s σ H _ _ v u QV I rx ry ⟨ey, ?_⟩
  cases r <;> exact post.val sF (.bl _) h
theorem o2_in (hu : X.A.units + 65 < cLine) : Op2 X (compareOp .In) opIn := by
  intro pins s σ H x y v u QV I rx ry ⟨F, d1, d2, Q, sF, r1, r2, h, post⟩
  unfold opIn at h
  split at h
  · obtain ⟨c1, c2, h⟩ := h
    exact op_inD hu pins s σ H _ _ v u QV I rx ry ⟨_, _, r1.dpH sF c1, r2.dpH sF c2, c1, c2, post.val sF (.bl _) h⟩
  · obtain ⟨c1, c2, h⟩ := h
    obtain ⟨as, q1⟩ := Dp.reads I _ x v (r1.dpH sF c1) rx
    obtain ⟨bs, q2⟩ := Dp.reads I _ y u (r2.dpH sF c2) ry
    exact SeqAt.in_tuple_reads q2 q1 (SeqAt.canLay_of_shaped c2) (SeqAt.canLay_of_shaped c1) (PyProof.Rows.room_in_shaped c1 hu) ⟨.bl _, H, I, rfl, post.val sF (.bl _) h⟩
  · cases r1.str; cases r2.str
    exact op_in_str pins s σ H _ _ v u QV I rx ry ⟨_, _, rfl, rfl, post.val sF (.bl _) h⟩
  · exact h.elim
theorem o2_notIn (hu : X.A.units + 65 < cLine) : Op2 X (compareOp .NotIn) opNotIn := by
  intro pins s σ H x y v u QV I rx ry ⟨F, d1, d2, Q, sF, r1, r2, h, post⟩
  unfold opNotIn at h
  split at h
  · obtain ⟨c1, c2, h⟩ := h
    exact op_notInD hu pins s σ H _ _ v u QV I rx ry ⟨_, _, r1.dpH sF c1, r2.dpH sF c2, c1, c2, post.val sF (.bl _) h⟩
  · obtain ⟨c1, c2, h⟩ := h
    obtain ⟨as, q1⟩ := Dp.reads I _ x v (r1.dpH sF c1) rx
    obtain ⟨bs, q2⟩ := Dp.reads I _ y u (r2.dpH sF c2) ry
    exact SeqAt.notIn_tuple_reads q2 q1 (SeqAt.canLay_of_shaped c2) (SeqAt.canLay_of_shaped c1) (PyProof.Rows.room_in_shaped c1 hu) ⟨.bl _, H, I, rfl, post.val sF (.bl _) h⟩
  · cases r1.str; cases r2.str
    exact op_notin_str pins s σ H _ _ v u QV I rx ry ⟨_, _, rfl, rfl, post.val sF (.bl _) h⟩
  · exact h.elim
theorem ix2_any : Ix2 X opIx := by
  intro value slice pins s σ H x y v u QV I rx ry ⟨F, d1, d2, Q, sF, r1, r2, h, post⟩ hs
  unfold opIx at h
  split at h
  · obtain ⟨d, e, h⟩ := h
    obtain ⟨a, vs, rfl, ha, ra⟩ := r1.list sF
    cases r2.int
    obtain ⟨w, e2, r⟩ := atI_all ra e
    exact ix_list value slice pins s σ H _ _ v u QV I rx ry ⟨a, vs, _, w, rfl, rfl, SqL.of ha, e2, post.val sF r h⟩ hs
  · obtain ⟨d, e, h⟩ := h
    obtain ⟨a, vs, rfl, ha, ra⟩ := r1.tup sF
    cases r2.int
    obtain ⟨w, e2, r⟩ := atI_all ra e
    exact ix_tup value slice pins s σ H _ _ v u QV I rx ry ⟨a, vs, _, w, rfl, rfl, ha, e2, post.val sF r h⟩ hs
  · obtain ⟨z, c, e, h⟩ := h
    cases r1.str; cases r2.int
    exact ix_str value slice pins s σ H _ _ v u QV I rx ry ⟨_, _, c, rfl, rfl, z, e, post.val sF (.str _) h⟩ hs
  · exact h.elim
theorem o1_neg : Op1 X (unaryOp .USub) op1Neg := by
  intro pins s σ H x v QV I rx ⟨F, d1, Q, sF, r1, h, post⟩
  unfold op1Neg at h
  split at h
  · cases r1.int
    exact un_neg pins s σ H _ v QV I rx ⟨_, rfl, post.val sF (.int _) h⟩
  · exact h.elim
end
end VL
end
section
namespace VL
open PySem PySem.Spec L2

/-! ### calls of built-ins on data -/
def cdLen : List PyData → (O → Prop) → Prop
  | [.list ds], Q => Q (.fz (.int (ds.length : Nat)))
  | [.tuple ds], Q => Q (.fz (.int (ds.length : Nat)))
  | [.str x], Q => x.length ≤ sizeLine ∧ Q (.fz (.int (x.length : Nat)))
  | _, _ => False
def cdInt : List PyData → (O → Prop) → Prop
  | [.int i], Q => Q (.fz (.int i))
  | [.bool b], Q => Q (.fz (.int (if b then 1 else 0)))
  | _, _ => False
def cdAbs : List PyData → (O → Prop) → Prop
  | [.int i], Q => Q (.fz (.int (if i < 0 then -i else i)))
  | _, _ => False
def cdMin2 : List PyData → (O → Prop) → Prop
  | [.int i, .int j], Q => Q (.fz (.int (if j < i then j else i)))
  | _, _ => False
def cdMax2 : List PyData → (O → Prop) → Prop
  | [.int i, .int j], Q => Q (.fz (.int (if j > i then j else i)))
  | _, _ => False
def cdTuple : List PyData → (O → Prop) → Prop
  | [.list ds], Q => Q (.fz (.tuple ds))
  | [.tuple ds], Q => Q (.fz (.tuple ds))
  | _, _ => False
def cdList : List PyData → (O → Prop) → Prop
  | [.list ds], Q => Q (.ls ds)
  | [.tuple ds], Q => Q (.ls ds)
  | _, _ => False
def cdStr : List PyData → (O → Prop) → Prop
  | [.int i], Q => i.natAbs.log2 < 1920 ∧ Q (.fz (.str (toString i)))
  | _, _ => False
section
variable {K : PySem.W.Frag} {F H : Hp} {vs : List V}
theorem RepL.one' {d : PyData} (h : RepL K F H [d] vs) : ∃ v, vs = [v] ∧ RepS K F H d v := by
  cases h with
  | cons r t => cases t; exact ⟨_, rfl, r⟩
theorem RepL.two' {d e : PyData} (h : RepL K F H [d, e] vs) : ∃ v u, vs = [v, u] ∧ RepS K F H d v ∧ RepS K F H e u := by
  cases h with
  | cons r t =>
    obtain ⟨u, rfl, r2⟩ := t.one'
    exact ⟨_, u, rfl, r, r2⟩
end
section
variable {X : Cx}
theorem cd_len : CallD X (.builtin "len") cdLen := by
  intro pins s σ H xs us QV I rx ⟨F, ds, Q, sF, rl, h, post⟩
  unfold cdLen at h
  split at h
  · obtain ⟨v, rfl, r⟩ := rl.one'
    obtain ⟨a, vs, rfl, ha, ra⟩ := r.list sF
    exact call_len_seq pins s σ H _ us QV I rx ⟨a, vs, rfl, .inl (SqL.of ha), by rw [ra.length]; exact post.val sF (.int _) h⟩
  · obtain ⟨v, rfl, r⟩ := rl.one'
    obtain ⟨a, vs, rfl, ha, ra⟩ := r.tup sF
    exact call_len_seq pins s σ H _ us QV I rx ⟨a, vs, rfl, .inr ha, by rw [ra.length]; exact post.val sF (.int _) h⟩
  · obtain ⟨v, rfl, r⟩ := rl.one'
    cases r.str
    exact call_len_str pins s σ H _ us QV I rx ⟨_, rfl, h.1, post.val sF (.int _) h.2⟩
  · exact h.elim
theorem cd_int : CallD X (.type "int") cdInt := by
  intro pins s σ H xs us QV I rx ⟨F, ds, Q, sF, rl, h, post⟩
  unfold cdInt at h
  split at h
  · obtain ⟨v, rfl, r⟩ := rl.one'
    cases r.int
    exact call_int1 pins s σ H _ us QV I rx (.inl ⟨_, rfl, post.val sF (.int _) h⟩)
  · obtain ⟨v, rfl, r⟩ := rl.one'
    cases r.bl
    exact call_int1 pins s σ H _ us QV I rx (.inr ⟨_, rfl, post.val sF (.int _) h⟩)
  · exact h.elim
theorem cd_abs : CallD X (.builtin "abs") cdAbs := by
  intro pins s σ H xs us QV I rx ⟨F, ds, Q, sF, rl, h, post⟩
  unfold cdAbs at h
  split at h
  · obtain ⟨v, rfl, r⟩ := rl.one'
    cases r.int
    exact call_abs pins s σ H _ us QV I rx ⟨_, rfl, post.val sF (.int _) h⟩
  · exact h.elim
theorem cd_min2 (hc : X.calm = true) : CallD X (.builtin "min") cdMin2 := by
  intro pins s σ H xs us QV I rx ⟨F, ds, Q, sF, rl, h, post⟩
  unfold cdMin2 at h
  split at h
  · obtain ⟨v, u, rfl, r, r2⟩ := rl.two'
    cases r.int; cases r2.int
    exact call_min2 hc pins s σ H _ us QV I rx ⟨_, _, rfl, post.val sF (.int _) h⟩
  · exact h.elim
theorem cd_max2 (hc : X.calm = true) : CallD X (.builtin "max") cdMax2 := by
  intro pins s σ H xs us QV I rx ⟨F, ds, Q, sF, rl, h, post⟩
  unfold cdMax2 at h
  split at h
  · obtain ⟨v, u, rfl, r, r2⟩ := rl.two'
    cases r.int; cases r2.int
    exact call_max2 hc pins s σ H _ us QV I rx ⟨_, _, rfl, post.val sF (.int _) h⟩
  · exact h.elim
theorem cd_tuple : CallD X (.type "tuple") cdTuple := by
  intro pins s σ H xs us QV I rx ⟨F, ds, Q, sF, rl, h, post⟩
  unfold cdTuple at h
  split at h
  · obtain ⟨v, rfl, r⟩ := rl.one'
    obtain ⟨a, vs, rfl, ha, ra⟩ := r.list sF
    exact call_tupN pins s σ H _ us QV I rx ⟨a, vs, rfl, .inl ⟨SqL.of ha, fun l o n hd => post.newT sF n hd ra h⟩⟩
  · obtain ⟨v, rfl, r⟩ := rl.one'
    have q := r.tupR
    obtain ⟨a, vs, rfl, ha, ra⟩ := r.tup sF
    exact call_tupN pins s σ H _ us QV I rx ⟨a, vs, rfl, .inr ⟨ha, post.val sF q h⟩⟩
  · exact h.elim
theorem cd_list : CallD X (.type "list") cdList := by
  intro pins s σ H xs us QV I rx ⟨F, ds, Q, sF, rl, h, post⟩
  unfold cdList at h
  split at h
  · obtain ⟨v, rfl, r⟩ := rl.one'
    obtain ⟨a, vs, rfl, ha, ra⟩ := r.list sF
    exact call_list_of pins s σ H _ us QV I rx ⟨a, vs, rfl, .inl (SqL.of ha), fun l n => post.newL sF n ra h⟩
  · obtain ⟨v, rfl, r⟩ := rl.one'
    obtain ⟨a, vs, rfl, ha, ra⟩ := r.tup sF
    exact call_list_of pins s σ H _ us QV I rx ⟨a, vs, rfl, .inr ha, fun l n => post.newL sF n ra h⟩
  · exact h.elim
theorem cd_str : CallD X (.type "str") cdStr := by
  intro pins s σ H xs us QV I rx ⟨F, ds, Q, sF, rl, h, post⟩
  unfold cdStr at h
  split at h
  · obtain ⟨v, rfl, r⟩ := rl.one'
    cases r.int
    exact call_str_int pins s σ H _ us QV I rx ⟨_, rfl, h.1, post.val sF (.str _) h.2⟩
  · exact h.elim
end
section
variable {X : Cx} {x : Str} {id T : String} {p pos : Pos} {e : Expr} {es : List Expr} {τ : EX} {τs : EA} {cd : List PyData → (O → Prop) → Prop}
theorem cb_read {σ : St} {H : Hp} {QV : VK} (h : lO X.K (eCB cd τs) σ H QV) : tCB (fun vs H QV => ∃ F ds Q, Same F H ∧ RepL X.K F H ds vs ∧ cd ds Q ∧ OpPost X.K F H Q QV) (lA X.K τs) σ H QV := by
  obtain ⟨pn, Z, F, Γ, hh, Q, A, q, k⟩ := h
  exact ⟨pn, Z, F, Γ, hh, _, A, q, fun F1 Γ1 h1 H1 as vs s1 A1 r1 ⟨ds, e1, q1⟩ => ⟨F1, ds, _, A1.FH, reps_of A1 r1 e1, q1, A1.post s1 k⟩⟩
theorem vo_cb (hc : CallD X (.builtin id) cd) (hg : Gl X x) (hm : X.mg x = none) (hv : bootBuiltins x = some (.builtin id)) (ha : PA X (e :: es) (lA X.K τs)) (hn : x ≠ "__name__" := by decide) (hdb : (x == ("__debug__" : Str)) = false := by decide)
    (he : starEach (e :: es) X.env = (false, eval e X.env) :: starEach es X.env := by rfl) (hpl : (backTo pos (starEach es X.env)).any (·.1) = false := by rfl) : PE X (.Call (.Name x p) (e :: es) [] pos) (lO X.K (eCB cd τs)) :=
  pe_imp (pe_callB hc hg hm hv ha hn hdb he hpl) fun σ H QV h => cb_read h
theorem vo_cty (hc : CallD X (.type T) cd) (hg : Gl X x) (hm : X.mg x = none) (hv : bootBuiltins x = some (.type T)) (ha : PA X (e :: es) (lA X.K τs)) (hn : x ≠ "__name__" := by decide) (hdb : (x == ("__debug__" : Str)) = false := by decide)
    (he : starEach (e :: es) X.env = (false, eval e X.env) :: starEach es X.env := by rfl) (hpl : (backTo pos (starEach es X.env)).any (·.1) = false := by rfl) : PE X (.Call (.Name x p) (e :: es) [] pos) (lO X.K (eCB cd τs)) :=
  pe_imp (pe_callTy hc hg hm hv ha hn hdb he hpl) fun σ H QV h => cb_read h
/-! list(range(..)), tuple(range(..)) -/
def eLRg1 (τ : EX) : EO := fun Γ Q => τ Γ fun a Γ1 => ∃ n : Int, rslv Γ1 a = some (.int n) ∧ RgOk 0 n ∧ Q (.ls (rangeN n.toNat)) Γ1
def eLRg2 (τ τ' : EX) : EO := fun Γ Q => τ Γ fun a Γ1 => τ' Γ1 fun b Γ2 => ∃ n m : Int, rslv Γ2 a = some (.int n) ∧ rslv Γ2 b = some (.int m) ∧ RgOk n m ∧ Q (.ls (rangeD n (m - n).toNat)) Γ2
def eTRg1 (τ : EX) : EO := fun Γ Q => τ Γ fun a Γ1 => ∃ n : Int, rslv Γ1 a = some (.int n) ∧ RgOk 0 n ∧ Q (.fz (.tuple (rangeN n.toNat))) Γ1
theorem rgV_all {K : PySem.W.Frag} {F : Hp} (a b : Int) : RpAll K F (rgV a b) (rangeD a (b - a).toNat) := by
  unfold rgV rangeD
  generalize (b - a).toNat = n
  induction List.range n with
  | nil => exact .nil
  | cons x xs ih => exact .cons (.int _) ih
theorem vo_listRg1 {a : Expr} {p2 pos2 : Pos} (hc : X.calm = true) (hg : Gl X "list") (hm : X.mg "list" = none) (hg2 : Gl X "range") (hm2 : X.mg "range" = none) (ha : PE X a (lX X.K τ)) (na : starEach [a] X.env = (false, eval a X.env) :: starEach [] X.env := by rfl)
    (nb : starEach [Expr.Call (.Name "range" p2) [a] [] pos2] X.env = (false, eval (.Call (.Name "range" p2) [a] [] pos2) X.env) :: starEach [] X.env := by rfl) : PE X (.Call (.Name "list" p) [.Call (.Name "range" p2) [a] [] pos2] [] pos) (lO X.K (eLRg1 τ)) :=
  pe_imp (pe_listRg hc hg hm (prg_1 hg2 hm2 ha na) nb) fun σ H QV ⟨pn, Z, F, Γ, hh, Q, A, q, k⟩ => ⟨pn, Z, F, Γ, hh, _, A, q, fun F1 Γ1 h1 H1 a v s1 A1 r1 ⟨n, e1, ok, q1⟩ =>
    ⟨n, (rep_of A1 r1 e1).int, ok, fun l nl => (A1.post s1 k).newL A1.FH nl (rgV_all 0 n) (by rw [Int.sub_zero, rangeD0]; exact q1)⟩⟩
theorem vo_tupRg1 {a : Expr} {p2 pos2 : Pos} (hc : X.calm = true) (hg : Gl X "tuple") (hm : X.mg "tuple" = none) (hg2 : Gl X "range") (hm2 : X.mg "range" = none) (ha : PE X a (lX X.K τ)) (na : starEach [a] X.env = (false, eval a X.env) :: starEach [] X.env := by rfl)
    (nb : starEach [Expr.Call (.Name "range" p2) [a] [] pos2] X.env = (false, eval (.Call (.Name "range" p2) [a] [] pos2) X.env) :: starEach [] X.env := by rfl) : PE X (.Call (.Name "tuple" p) [.Call (.Name "range" p2) [a] [] pos2] [] pos) (lO X.K (eTRg1 τ)) :=
  pe_imp (pe_tupRgN hc hg hm (prg_1 hg2 hm2 ha na) nb) fun σ H QV ⟨pn, Z, F, Γ, hh, Q, A, q, k⟩ => ⟨pn, Z, F, Γ, hh, _, A, q, fun F1 Γ1 h1 H1 a v s1 A1 r1 ⟨n, e1, ok, q1⟩ =>
    ⟨n, (rep_of A1 r1 e1).int, ok, fun l o nl hd => (A1.post s1 k).newT A1.FH nl hd (rgV_all 0 n) (by rw [Int.sub_zero, rangeD0]; exact q1)⟩⟩
end

/-! ### slices -/
def cutL {α : Type} (xs : List α) (lo hi : Option Int) : List α := (xs.drop (HT.sIx xs.length 0 lo)).take (HT.sIx xs.length xs.length hi - HT.sIx xs.length 0 lo)
theorem cut_all {K : PySem.W.Frag} {F : Hp} {ds : List PyData} {vs : List V} (h : RpAll K F vs ds) (lo hi : Option Int) : RpAll K F (cutV vs lo hi) (cutL ds lo hi) := by
  unfold cutV cutL
  rw [h.length]
  exact (h.drop _).take _
def sdAll : PyData → Option Int → Option Int → (O → Prop) → Prop
  | .list ds, lo, hi, Q => Q (.ls (cutL ds lo hi))
  | .tuple ds, lo, hi, Q => Q (.fz (.tuple (cutL ds lo hi)))
  | .str z, lo, hi, Q => z.length ≤ sizeLine ∧ Q (.fz (.str (cutS z lo hi)))
  | .dict ((.none, .none) :: l), lo, hi, Q => ∃ ns : List Int, l = ns.map (fun n => (.int n, .none)) ∧ Q (.ls (cutL (ns.map .int) lo hi))
  | _, _, _, _ => False
theorem rp_scr {K : PySem.W.Frag} {F : Hp} {v : V} {ns : List Int} (h : Rp K F v (scD ns)) : ∃ a, v = .ref a ∧ SqL K F a (ns.map V.int) := by
  generalize ed : scD ns = d at h
  cases h with
  | scr h =>
    rename_i a ms
    refine ⟨a, rfl, ?_⟩
    have inj : ∀ {xs ys : List Int}, xs.map (fun n => (PyData.int n, PyData.none)) = ys.map (fun n => (PyData.int n, PyData.none)) → xs = ys := fun {xs ys} e => by
      induction xs generalizing ys with
      | nil => cases ys with
        | nil => rfl
        | cons _ _ => cases e
      | cons x xs ih => cases ys with
        | nil => cases e
        | cons y ys =>
          simp only [List.map_cons, List.cons.injEq, Prod.mk.injEq, PyData.int.injEq, and_true] at e
          rw [e.1, ih e.2]
    have e : ns = ms := inj (by unfold scD at ed; simpa using ed)
    rw [e]; exact h
  | dct h hl t e =>
    rename_i a ks xs ds kvs
    cases ks with
    | nil => unfold scD at ed; cases ed; cases e
    | cons k ks =>
      cases ds with
      | nil => simp at hl
      | cons d ds =>
        unfold scD at ed
        cases ed
        simp only [List.map_cons, List.zip_cons_cons, List.cons.injEq, Prod.mk.injEq] at e
        cases k <;> simp [kD] at e
  | _ => unfold scD at ed; cases ed
theorem sd_all {X : Cx} : SlD X sdAll := by
  intro pins s σ H x v vl vu lo hi sl QV I rx hs pl pu ⟨F, d, Q, sF, r, h, post⟩
  unfold sdAll at h
  split at h
  · obtain ⟨a, vs, rfl, ha, ra⟩ := r.list sF
    exact sl_list pins s σ H _ v vl vu _ _ sl QV I rx hs pl pu ⟨a, vs, rfl, SqL.of ha, fun p n => post.newL sF n (cut_all ra _ _) h⟩
  · have q := r.tupR
    obtain ⟨a, vs, rfl, ha, ra⟩ := r.tup sF
    refine sl_tupN pins s σ H _ v vl vu _ _ sl QV I rx hs pl pu ⟨a, vs, rfl, ha, fun e => post.val sF q ?_, fun _ p o n hd => post.newT sF n hd (cut_all ra _ _) h⟩
    rw [ra.length] at e
    unfold cutL at h
    rw [e.1, e.2, List.drop_zero, Nat.sub_zero, List.take_length] at h
    exact h
  · cases r.str
    exact sl_str pins s σ H _ v vl vu _ _ sl QV I rx hs pl pu ⟨_, rfl, h.1, post.val sF (.str _) h.2⟩
  · obtain ⟨ns, rfl, q⟩ := h
    have rr : Rp X.K F x (scD ns) := by
      rcases r with r | ⟨_, _, _, _, e, _⟩
      · exact r
      · cases e
    obtain ⟨a, rfl, ha⟩ := rp_scr rr
    have ri : ∀ l : List Int, RpAll X.K F (l.map V.int) (l.map PyData.int) := fun l => by
      induction l with
      | nil => exact .nil
      | cons n l ih => exact .cons (.int n) ih
    exact sl_list pins s σ H _ v vl vu _ _ sl QV I rx hs pl pu ⟨a, _, rfl, Same.seq sF ha, fun p n => post.newL sF n (cut_all (ri ns) _ _) q⟩
  · exact h.elim
abbrev EP' := Ga → (Option Int → Ga → Prop) → Prop
def lP (K : PySem.W.Frag) (τ : EP') : TO := fun σ H QV => ∃ pn Z F Γ h Q, At K pn Z F Γ σ h H ∧ τ Γ Q ∧ ∀ F' Γ' h' H' i, Same F F' → At K pn Z F' Γ' σ h' H' → Q i Γ' → QV i H'
def pNone : EP' := fun Γ Q => Q none Γ
def pSome (τ : EX) : EP' := fun Γ Q => τ Γ fun a Γ1 => ∃ i, rslv Γ1 a = some (.int i) ∧ Q (some i) Γ1
def eSl (τ : EX) (pl ph : EP') : EO := fun Γ Q => τ Γ fun a Γ1 => pl Γ1 fun lo Γ2 => ph Γ2 fun hi Γ3 => ∃ d, rslv Γ3 a = some d ∧ sdAll d lo hi fun o => Q o Γ3
theorem po_imp {X : Cx} {e : Option Expr} {t t' : TO} (h : PO X e t) (i : ∀ σ H Q, t' σ H Q → t σ H Q) : PO X e t' := ⟨fun pins s σ H Q I q => h.run pins s σ H Q I (i σ H Q q)⟩
section
variable {X : Cx} {e : Expr} {lo hi : Option Expr} {τ : EX} {pl ph : EP'} {p2 pos : Pos}
theorem vp_none : PO X none (lP X.K pNone) := po_imp po_none fun σ H QV ⟨pn, Z, F, Γ, hh, Q, A, q, k⟩ => k F Γ hh H none (Same.refl _) A q
theorem vp_some (h : PE X e (lX X.K τ)) : PO X (some e) (lP X.K (pSome τ)) := po_imp (po_some h) fun σ H QV ⟨pn, Z, F, Γ, hh, Q, A, q, k⟩ =>
  ⟨pn, Z, F, Γ, hh, _, A, q, fun F1 Γ1 h1 H1 a v s1 A1 r1 ⟨i, e1, q1⟩ => ⟨i, (rep_of A1 r1 e1).int, k F1 Γ1 h1 H1 _ s1 A1 q1⟩⟩
theorem vo_sl (he : PE X e (lX X.K τ)) (hl : PO X lo (lP X.K pl)) (hu : PO X hi (lP X.K ph)) : PE X (.Subscript e (.Slice lo hi none p2) pos) (lO X.K (eSl τ pl ph)) :=
  pe_imp (pe_slice sd_all he hl hu) fun σ H QV ⟨pn, Z, F, Γ, hh, Q, A, q, k⟩ => ⟨pn, Z, F, Γ, hh, _, A, q, fun F1 Γ1 h1 H1 a v s1 A1 r1 q1 => ⟨pn, Z, F1, Γ1, h1, _, A1, q1, fun F2 Γ2 h2 H2 i s2 A2 q2 =>
    ⟨pn, Z, F2, Γ2, h2, _, A2, q2, fun F3 Γ3 h3 H3 j s3 A3 ⟨d, e1, q3⟩ => ⟨F3, d, _, A3.FH, rep_of A3 (r1.mono (s2.trans s3)) e1, q3, A3.post ((s1.trans s2).trans s3) k⟩⟩⟩⟩
end

/-! ### methods that change a slot's own list -/
abbrev SM := List PyData → List PyData → (List PyData → PyData → Prop) → Prop
def SlotM (X : Cx) (id : String) (sm : SM) : Prop := MtR X id fun x xs H QV => ∃ F a vs ds ads Q, x = .ref a ∧ H a = some (.lst vs) ∧ Same F H ∧ RpAll X.K F vs ds ∧ RpAll X.K F xs ads ∧ sm ds ads Q ∧
  ∀ vs' ds' v d, RpAll X.K F vs' ds' → Rp X.K F v d → Q ds' d → QV v (upd H a (.lst vs'))
def smAppend : SM := fun ds as Q => ∃ x, as = [x] ∧ ds.length < sizeLine ∧ Q (ds ++ [x]) .none
def smPop : SM := fun ds as Q => as = [] ∧ ∃ x, ds[ds.length - 1]? = some x ∧ Q ds.dropLast x
def smPopAt : SM := fun ds as Q => ∃ (i : Int) (k : Nat) (x : PyData), as = [.int i] ∧ (-(2 ^ 63) ≤ i ∧ i < 2 ^ 63 ∧ seqIndex? i ds.length = some k) ∧ ds[k]? = some x ∧ Q (ds.eraseIdx k) x
def smInsert : SM := fun ds as Q => ∃ (i : Int) (x : PyData), as = [.int i, x] ∧ ds.length < sizeLine ∧ 0 ≤ i ∧ i < 2 ^ 63 ∧ Q (ds.take i.toNat ++ [x] ++ ds.drop i.toNat) .none
theorem RpAll.one' {K : PySem.W.Frag} {F : Hp} {d : PyData} {vs : List V} (h : RpAll K F vs [d]) : ∃ v, vs = [v] ∧ Rp K F v d := by
  cases h with
  | cons r t => cases t; exact ⟨_, rfl, r⟩
theorem RpAll.two' {K : PySem.W.Frag} {F : Hp} {d e : PyData} {vs : List V} (h : RpAll K F vs [d, e]) : ∃ v u, vs = [v, u] ∧ Rp K F v d ∧ Rp K F u e := by
  cases h with
  | cons r t =>
    obtain ⟨u, rfl, r2⟩ := t.one'
    exact ⟨_, u, rfl, r, r2⟩
section
variable {X : Cx}
theorem sm_append : SlotM X "list.append" smAppend := by
  intro pins s σ H x xs v us QV I rx rxs ⟨F, a, vs, ds, ads, Q, e, ha, sF, r, ra, ⟨y, e2, hl, q⟩, k⟩
  subst e; subst e2
  obtain ⟨w, rfl, rw'⟩ := ra.one'
  have rp := rw'
  exact mt_append pins s σ H _ _ v us QV I rx rxs ⟨a, vs, w, rfl, rfl, ha, by rw [r.length]; exact hl, k _ _ .non .none (r.append (.one rp)) .non q⟩
theorem sm_pop : SlotM X "list.pop" smPop := by
  intro pins s σ H x xs v us QV I rx rxs ⟨F, a, vs, ds, ads, Q, e, ha, sF, r, ra, ⟨e2, y, hy, q⟩, k⟩
  subst e; subst e2
  cases ra
  obtain ⟨w, hw, rw'⟩ := r.getd (i := ds.length - 1) hy
  exact mt_pop pins s σ H _ _ v us QV I rx rxs ⟨a, vs, w, rfl, rfl, ha, by rw [r.length]; exact hw, k _ _ w y r.dropLast rw' q⟩
theorem sm_popAt : SlotM X "list.pop" smPopAt := by
  intro pins s σ H x xs v us QV I rx rxs ⟨F, a, vs, ds, ads, Q, e, ha, sF, r, ra, ⟨i, kk, y, e2, ⟨b1, b2, b3⟩, hy, q⟩, k⟩
  subst e; subst e2
  obtain ⟨w, rfl, rw'⟩ := ra.one'
  cases rp_int rw'
  obtain ⟨u, hu, ru⟩ := r.getd hy
  exact mt_popAt pins s σ H _ _ v us QV I rx rxs ⟨a, vs, i, kk, u, rfl, rfl, ha, b1, b2, by rw [r.length]; exact b3, hu, k _ _ u y (r.eraseIdx kk) ru q⟩
theorem sm_insert : SlotM X "list.insert" smInsert := by
  intro pins s σ H x xs v us QV I rx rxs ⟨F, a, vs, ds, ads, Q, e, ha, sF, r, ra, ⟨i, y, e2, hl, h0, h1, q⟩, k⟩
  subst e; subst e2
  obtain ⟨w, u, rfl, rw', ru⟩ := ra.two'
  cases rp_int rw'
  have rp := ru
  exact mt_insert pins s σ H _ _ v us QV I rx rxs ⟨a, vs, i, u, rfl, rfl, ha, by rw [r.length]; exact hl, h0, h1, k _ _ .non .none (((r.take _).append (.one rp)).append (r.drop _)) .non q⟩
end
def eSM (i : Nat) (sm : SM) (τs : EA) : EO := fun Γ Q => (∃ ds, Γ[i]? = some (some (.ls ds))) ∧ τs Γ fun as Γ1 => ∃ ds ads, Γ1[i]? = some (some (.ls ds)) ∧ unD as = some ads ∧ sm ds ads fun ds' d => ∃ Γ2, setG Γ1 i (some (.ls ds')) = some Γ2 ∧ Q (.fz d) Γ2
/-- the end of a change in place -/
theorem At.changeL {K : PySem.W.Frag} {pn : List (Nat × V)} {Z F : Hp} {Γ : Ga} {σ : St} {h H : Hp} {i : Nat} {ds : List PyData} (A : At K pn Z F Γ σ h H) (e : Γ[i]? = some (some (.ls ds))) : ∃ a vs, σ[i]? = some (some (.ref a)) ∧ H a = some (.lst vs) ∧ RpAll K F vs ds ∧
    ∀ vs' ds', RpAll K F vs' ds' → ∃ h', At K pn Z F (Γ.set i (some (.ls ds'))) σ h' (upd H a (.lst vs')) := by
  obtain ⟨v, g1, g2, a1, w, sg1, dg1, zg1, sg2, d12, dg2, zg2, put⟩ := A.change e
  obtain ⟨a, vs, rfl, rfl, r⟩ := w
  refine ⟨a, vs, a1, sg1 _ _ one_at, r, fun vs' ds' r' => ?_⟩
  have keep : ∀ (G : Hp), Dis (VL.one a (.lst vs)) G → Same G H → Same G (upd H a (.lst vs')) := fun G dG sG b o e => by
    by_cases z : b = a
    · subst z; rw [of_dis_one dG] at e; cases e
    · rw [upd_ne z]; exact sG _ _ e
  exact ⟨_, put F (.ls ds') (VL.one a (.lst vs')) _ (Same.refl _) ⟨a, vs', rfl, rfl, r'⟩ (same_one upd_same) (keep _ dg1 A.FH) (keep _ d12 sg2) (keep _ zg1 A.ZH) A.FZ (dis_one (of_dis_one d12)) (dis_one (of_dis_one dg1)) (dis_one (of_dis_one zg1)) dg2⟩
section
variable {X : Cx} {o e : Expr} {es : List Expr} {τs : EA} {name : Str} {apos cpos : Pos} {id : String} {sm : SM} {τo : EO}
theorem ty_list {K : PySem.W.Frag} {pn : List (Nat × V)} {Z F : Hp} {Γ : Ga} {σ : St} {h H : Hp} {i : Nat} {ds : List PyData} (A : At K pn Z F Γ σ h H) (e : Γ[i]? = some (some (.ls ds))) : ∃ a, σ[i]? = some (some (.ref a)) ∧ tyV K "list" (.ref a) H := by
  obtain ⟨a, vs, e1, e2, _, _⟩ := A.changeL e
  exact ⟨a, e1, .inl ⟨rfl, vs, SqL.of e2⟩⟩
theorem vo_sm (i : Nat) (slot : Slot "list" name id) (hty : typeOf (.builtin id) = pure (.type "method_descriptor")) (hm : SlotM X id sm) (ho : PE X o (tVar i)) (ha : PA X (e :: es) (lA X.K τs))
    (hbase : attributeBase o name X.env (eval o X.env) = eval o X.env := by rfl)
    (hfew : ((backTo cpos (starEach (e :: es) X.env)).all (fun x => !x.1) && (backToKw cpos (keywordEach [] X.env)).all (fun x => x.1.isSome)
      && decide ((e :: es).length + ([] : List Keyword).length + (if ([] : List Keyword).isEmpty then 0 else 1) < 30)) = true := by rfl)
    (hline : (apos.endLine == cpos.line) = true := by rfl) (hs : starEach (e :: es) X.env = (false, eval e X.env) :: starEach es X.env := by rfl) (hplain : (backTo cpos (starEach es X.env)).any (·.1) = false := by rfl) :
    PE X (.Call (.Attribute o name apos) (e :: es) [] cpos) (lO X.K (eSM i sm τs)) :=
  pe_imp (pe_bm PySem.F.plainAttrs_list slot hty hm ho ha hbase hfew hline hs hplain) fun σ H QV ⟨pn, Z, F, Γ, hh, Q, A, ⟨⟨ds0, e0⟩, q⟩, k⟩ => by
    obtain ⟨a, e1, ty⟩ := ty_list A e0
    refine ⟨.ref a, e1, ty, pn, Z, F, Γ, hh, _, A, q, fun F1 Γ1 h1 H1 as vs s1 A1 r1 ⟨ds, ads, e2, e3, q1⟩ => ?_⟩
    obtain ⟨b, ws, e4, e5, r5, put⟩ := A1.changeL e2
    rw [e1] at e4; cases e4
    rw [unD_eq e3] at r1
    refine ⟨F1, a, ws, ds, ads, _, rfl, e5, A1.FH, r5, args_d r1, q1, fun vs' ds' v d r' rd ⟨Γ2, eΓ, q'⟩ => ?_⟩
    obtain ⟨h', A'⟩ := put vs' ds' r'
    rw [(setG_eq eΓ).1] at A'
    exact k F1 _ h' emp _ (.fz d) v s1 A'.alone ⟨rfl, rd⟩ q'
theorem vo_sm0 (i : Nat) (slot : Slot "list" name id) (hty : typeOf (.builtin id) = pure (.type "method_descriptor")) (hm : SlotM X id sm) (ho : PE X o (tVar i))
    (hbase : attributeBase o name X.env (eval o X.env) = eval o X.env := by rfl) (hline : (apos.endLine == cpos.line) = true := by rfl) : PE X (.Call (.Attribute o name apos) [] [] cpos) (lO X.K (eSM i sm aNil)) :=
  pe_imp (pe_bm0 PySem.F.plainAttrs_list slot hty hm ho hbase hline) fun σ H QV ⟨pn, Z, F, Γ, hh, Q, A, ⟨⟨ds0, e0⟩, ⟨ds, ads, e2, e3, q1⟩⟩, k⟩ => by
    obtain ⟨a, e1, ty⟩ := ty_list A e0
    refine ⟨.ref a, e1, ty, ?_⟩
    obtain ⟨b, ws, e4, e5, r5, put⟩ := A.changeL e2
    rw [e1] at e4; cases e4
    have : ads = [] := by cases e3; rfl
    subst this
    refine ⟨F, a, ws, ds, [], _, rfl, e5, A.FH, r5, .nil, q1, fun vs' ds' v d r' rd ⟨Γ2, eΓ, q'⟩ => ?_⟩
    obtain ⟨h', A'⟩ := put vs' ds' r'
    rw [(setG_eq eΓ).1] at A'
    exact k F _ h' emp _ (.fz d) v (Same.refl _) A'.alone ⟨rfl, rd⟩ q'
/-! xs.extend(a new list) -/
def eExt (i : Nat) (τo : EO) : EO := fun Γ Q => (∃ ds, Γ[i]? = some (some (.ls ds))) ∧ τo Γ fun o Γ1 => ∃ ds zs, Γ1[i]? = some (some (.ls ds)) ∧ (o = .ls zs ∨ o = .fz (.list zs)) ∧ ds.length + zs.length ≤ sizeLine ∧ ∃ Γ2, setG Γ1 i (some (.ls (ds ++ zs))) = some Γ2 ∧ Q (.fz .none) Γ2
theorem vo_ext (i : Nat) (ho : PE X o (tVar i)) (ha : PE X e (lO X.K τo))
    (hbase : attributeBase o "extend" X.env (eval o X.env) = eval o X.env := by rfl)
    (hfew : ((backTo cpos (starEach [e] X.env)).all (fun x => !x.1) && (backToKw cpos (keywordEach [] X.env)).all (fun x => x.1.isSome)
      && decide ([e].length + ([] : List Keyword).length + (if ([] : List Keyword).isEmpty then 0 else 1) < 30)) = true := by rfl)
    (hline : (apos.endLine == cpos.line) = true := by rfl) (hs : starEach [e] X.env = (false, eval e X.env) :: starEach [] X.env := by rfl) :
    PE X (.Call (.Attribute o "extend" apos) [e] [] cpos) (lO X.K (eExt i τo)) :=
  pe_imp (pe_bm PySem.F.plainAttrs_list PySem.F.slot_list_extend PySem.F.type_list_extend mt_extend ho (pa_cons ha pa_nil hs) hbase hfew hline hs) fun σ H QV ⟨pn, Z, F, Γ, hh, Q, A, ⟨⟨ds0, e0⟩, q⟩, k⟩ => by
    obtain ⟨a, e1, ty⟩ := ty_list A e0
    refine ⟨.ref a, e1, ty, pn, Z, F, Γ, hh, _, A, q, fun F1 Γ1 h1 hr H1 o v s1 A1 w ⟨ds, zs, e2, e3, hl, Γ2, eΓ, q1⟩ => ?_⟩
    obtain ⟨b, ws, e4, e5, r5, put⟩ := A1.at_.changeL e2
    rw [e1] at e4; cases e4
    obtain ⟨c, us, rfl, e6, r6⟩ : ∃ c us, v = .ref c ∧ H1 c = some (.lst us) ∧ RpAll X.K F1 us zs := by
      rcases e3 with rfl | rfl
      · obtain ⟨c, us, rfl, rfl, r⟩ := w
        exact ⟨c, us, rfl, A1.rH _ _ one_at, r⟩
      · obtain ⟨c, us, rfl, h, r⟩ := rp_ref w.2
        exact ⟨c, us, rfl, A1.at_.FH _ _ h, r⟩
    refine ⟨a, c, ws, us, rfl, rfl, e5, e6, by rw [r5.length, r6.length]; exact hl, ?_⟩
    obtain ⟨h', A'⟩ := put _ _ (r5.append r6)
    rw [(setG_eq eΓ).1] at A'
    exact k F1 _ h' emp _ (.fz .none) .non s1 A'.alone ⟨rfl, .non⟩ q1
end

/-! ### isinstance -/
def tyN : PyData → String
  | .none => "NoneType"
  | .bool _ => "bool"
  | .int _ => "int"
  | .str _ => "str"
  | .list _ => "list"
  | .tuple _ => "tuple"
  | .dict _ => "dict"
def kitD (d : PyData) (n : String) : Option Bool := match d with
  | .dict _ => none
  | d => kitB (tyN d) n
theorem tyx_of {K : PySem.W.Frag} {F H : Hp} {d : PyData} {v : V} {n : String} {b : Bool} (s : Same F H) (r : RepS K F H d v) (e : kitD d n = some b) : TyX K H v (.type (tyN d)) ∧ kitB (tyN d) n = some b := by
  have r := r.rpH s
  refine ⟨?_, by unfold kitD at e; split at e; cases e; exact e⟩
  cases r with
  | non => exact .base .non
  | bl b => exact .base (.bl b)
  | int i => exact .base (.int i)
  | str x => exact .base (.str x)
  | lst h _ => exact .base (.lst h)
  | tup h _ =>
    rcases h with ⟨o, h, _⟩ | ⟨o, its, n, h, c, _⟩
    · exact .fTuple h
    · exact .kTuple h c
  | dct h _ _ _ => cases e
  | scr h => cases e
def eIsi (n : String) (τ : EX) : EO := fun Γ Q => τ Γ fun a Γ1 => ∃ d b, rslv Γ1 a = some d ∧ kitD d n = some b ∧ Q (.fz (.bool b)) Γ1
theorem vo_isi {X : Cx} {n : String} {e : Expr} {τ : EX} {p p2 pos : Pos} {nm : Str} (hg : Gl X "isinstance") (hm : X.mg "isinstance" = none) (hg2 : Gl X nm) (hm2 : X.mg nm = none) (hv : bootBuiltins nm = some (.type n)) (he : PE X e (lX X.K τ))
    (hn : nm ≠ "__name__" := by decide) (hd : (nm == ("__debug__" : Str)) = false := by decide)
    (h1 : starEach [e, .Name nm p2] X.env = (false, eval e X.env) :: starEach [.Name nm p2] X.env := by rfl) (h2 : starEach [.Name nm p2] X.env = (false, eval (.Name nm p2) X.env) :: starEach [] X.env := by rfl) (hpl : (backTo pos (starEach [.Name nm p2] X.env)).any (·.1) = false := by rfl) :
    PE X (.Call (.Name "isinstance" p) [e, .Name nm p2] [] pos) (lO X.K (eIsi n τ)) :=
  pe_imp (pe_callB call_isi hg hm (by decide +kernel) (pa_cons he (pa_cons (pe_bltn (v := .ty n) hg2 hm2 hv rfl hn hd) pa_nil h2) h1) (by decide) (by decide) h1 hpl) fun σ H QV ⟨pn, Z, F, Γ, hh, Q, A, q, k⟩ =>
    ⟨pn, Z, F, Γ, hh, _, A, q, fun F1 Γ1 h1 H1 a v s1 A1 r1 ⟨d, b, e1, e2, q1⟩ => ⟨v, .ty n, .type (tyN d), .type n, b, rfl, .ty n, (tyx_of A1.FH (rep_of A1 r1 e1) e2).1, kit_ty (tyx_of A1.FH (rep_of A1 r1 e1) e2).2, k F1 Γ1 h1 emp H1 (.fz (.bool b)) (.bl b) s1 A1.alone ⟨rfl, .bl b⟩ q1⟩⟩
end VL
end
section
namespace VL
open PySem PySem.Spec L2

/-! ### steps through a reading -/
section
variable {Γ Γ' : Ga} {Q : O → Ga → Prop} {QX : Av → Ga → Prop} {QA : List Av → Ga → Prop} {QT : Bool → Ga → Prop} {QI : List PyData → Ga → Prop} {QG : Ga → Prop} {QP : Option Int → Ga → Prop} {QO : O → Prop} {D : En} {τ τ' τa τb τc : EX} {to to' : EO} {τs : EA} {t u : ES} {tt tu : ET} {d e : PyData} {o : O} {i j : Nat} {b c : Bool} {ds es as : List PyData} {x y : Int} {ti : EI} {g : EG} {gs : EGs} {pl ph : EP'}
theorem st_nrm {t : ES} (e : nrm Γ = some Γ') (h : t D Γ') : t D Γ := by rw [nrm_eq e]; exact h
theorem st_ret (h : to Γ D.rt) : sRet to D Γ := h
theorem st_retN (h : D.rt (.fz .none) Γ) : sRetN D Γ := h
theorem st_rt0 {Q : O → Prop} (h : Q o) : (ends0 Q).rt o Γ := h
theorem st_nx0 {Q : O → Prop} (h : Q (.fz .none)) : (ends0 Q).nx Γ := h
theorem st_rt1 {Q : O → O → Prop} {o0 : O} (e : Γ[0]? = some (some o0)) (h : Q o o0) : (ends1 Q).rt o Γ := ⟨o0, e, h⟩
theorem st_nx1 {Q : O → O → Prop} {o0 : O} (e : Γ[0]? = some (some o0)) (h : Q (.fz .none) o0) : (ends1 Q).nx Γ := ⟨o0, e, h⟩
theorem st_seq (h : t { D with nx := u D } Γ) : sSeq t u D Γ := h
theorem st_next (h : D.nx Γ) : sNext D Γ := h
theorem st_brk (h : D.bk Γ) : sBreak D Γ := h
theorem st_cnt (h : D.ct Γ) : sCont D Γ := h
theorem st_drop (h : to Γ fun _ Γ' => D.nx Γ') : sDrop to D Γ := h
theorem st_if (h : tt Γ fun b Γ1 => Br b (t D Γ1) (u D Γ1)) : sIf tt t u D Γ := h
theorem st_set (h : to Γ fun o Γ1 => ∃ Γ2, setG Γ1 i (some o) = some Γ2 ∧ D.nx Γ2) : sSet i to D Γ := h
theorem st_asg (h : τ Γ fun a Γ1 => ∃ d, a = .d d ∧ g d Γ1 D.nx) : sAsg τ g D Γ := h
theorem st_par (h : to Γ fun o1 Γ1 => to' Γ1 fun o2 Γ2 => ∃ Γ3 Γ4, setG Γ2 i (some o1) = some Γ3 ∧ setG Γ3 j (some o2) = some Γ4 ∧ D.nx Γ4) : sPar i j to to' D Γ := h
theorem st_var (e : Γ[i]? = some (some o)) (h : QX (.s i) Γ) : xVar i Γ QX := ⟨⟨o, e⟩, h⟩
theorem st_val (e : Γ[i]? = some (some (.fz d))) (h : QX (.d d) Γ) : xVal i Γ QX := by unfold xVal; rw [e]; exact h
theorem st_valL (e : Γ[i]? = some (some o)) (e1 : o.frz = some d) (e2 : setG Γ i (some (.fz d)) = some Γ') (h : QX (.d d) Γ') (hn : ∀ d, o ≠ .fz d := by intro _ z; cases z) : xVal i Γ QX := by
  unfold xVal; rw [e]
  cases o with
  | fz d => exact absurd rfl (hn d)
  | _ => exact ⟨d, Γ', e1, e2, h⟩
theorem st_mv (e : Γ[i]? = some (some (.fz d))) (h : Q (.fz d) Γ) : oMv i Γ Q := by unfold oMv; rw [e]; exact h
theorem st_mvL (e : Γ[i]? = some (some o)) (e2 : setG Γ i none = some Γ') (h : Q o Γ') (hn : ∀ d, o ≠ .fz d := by intro _ z; cases z) : oMv i Γ Q := by
  unfold oMv; rw [e]
  cases o with
  | fz d => exact absurd rfl (hn d)
  | _ => exact ⟨Γ', e2, h⟩
theorem st_c (h : QX (.d d) Γ) : xC d Γ QX := h
theorem st_xo (h : to Γ fun o Γ' => ∃ d, o.frz = some d ∧ QX (.d d) Γ') : xO to Γ QX := h
theorem st_ox (h : τ Γ fun a Γ' => ∃ d, a = .d d ∧ Q (.fz d) Γ') : oX τ Γ Q := h
theorem st_op {op : PyData → PyData → (O → Prop) → Prop} (h : τa Γ fun a1 Γ1 => τb Γ1 fun a2 Γ2 => ∃ d1 d2, rslv Γ2 a1 = some d1 ∧ rslv Γ2 a2 = some d2 ∧ op d1 d2 fun o => Q o Γ2) : eOp op τa τb Γ Q := h
theorem st_op1 {op : PyData → (O → Prop) → Prop} (h : τa Γ fun a1 Γ1 => ∃ d1, rslv Γ1 a1 = some d1 ∧ op d1 fun o => Q o Γ1) : eOp1 op τa Γ Q := h
theorem st_an (h : QA [] Γ) : aNil Γ QA := h
theorem st_ac (h : τ Γ fun a Γ1 => τs Γ1 fun as Γ2 => QA (a :: as) Γ2) : aCons τ τs Γ QA := h
theorem st_cb {cd : List PyData → (O → Prop) → Prop} (h : τs Γ fun as Γ1 => ∃ ds, rsAll Γ1 as = some ds ∧ cd ds fun o => Q o Γ1) : eCB cd τs Γ Q := h
theorem st_tup (h : τs Γ fun as Γ1 => ∃ ds, unD as = some ds ∧ ds.length ≤ sizeLine ∧ Q (.fz (.tuple ds)) Γ1) : eTup τs Γ Q := h
theorem st_lst (h : τs Γ fun as Γ1 => ∃ ds, unD as = some ds ∧ ds.length ≤ sizeLine ∧ Q (.ls ds) Γ1) : eLst τs Γ Q := h
theorem st_to (h : to Γ fun o Γ' => ∃ b, o = .fz (.bool b) ∧ QT b Γ') : tO to Γ QT := h
theorem st_tru (h : τ Γ fun a Γ1 => ∃ d k, rslv Γ1 a = some d ∧ truD d = some k ∧ QT k Γ1) : tTru τ Γ QT := h
theorem st_tnot (h : tt Γ fun b Γ' => QT (!b) Γ') : tNotD tt Γ QT := h
theorem st_tand (h : tt Γ fun c Γ1 => Br c (tu Γ1 QT) (QT false Γ1)) : tAndD tt tu Γ QT := h
theorem st_tor (h : tt Γ fun c Γ1 => Br c (QT true Γ1) (tu Γ1 QT)) : tOrD tt tu Γ QT := h
theorem st_and (h : to Γ fun o Γ1 => ∃ c, o = .fz (.bool c) ∧ Br c (to' Γ1 Q) (Q (.fz (.bool false)) Γ1)) : eAnd to to' Γ Q := h
theorem st_or (h : to Γ fun o Γ1 => ∃ c, o = .fz (.bool c) ∧ Br c (Q (.fz (.bool true)) Γ1) (to' Γ1 Q)) : eOr to to' Γ Q := h
theorem st_not (h : to Γ fun o Γ1 => ∃ c, o = .fz (.bool c) ∧ Q (.fz (.bool (!c))) Γ1) : eNot to Γ Q := h
theorem st_eif (h : tt Γ fun c Γ1 => Br c (to Γ1 Q) (to' Γ1 Q)) : eIf tt to to' Γ Q := h
theorem st_chain {op op' : PyData → PyData → (O → Prop) → Prop} (h : τa Γ fun a1 Γ1 => τb Γ1 fun a2 Γ2 => ∃ d1 d2, rslv Γ2 a1 = some d1 ∧ a2 = .d d2 ∧ op d1 d2 fun o => ∃ c, o = .fz (.bool c) ∧
  Br c (τc Γ2 fun a3 Γ3 => ∃ d3, rslv Γ3 a3 = some d3 ∧ op' d2 d3 fun o => Q o Γ3) (Q (.fz (.bool false)) Γ2)) : eChain op op' τa τb τc Γ Q := h
theorem st_call {wp : W0} {dds : List PyData} (h : τs Γ fun as Γ1 => ∃ ds, unD as = some ds ∧ wp (ds ++ dds) fun o => Q o Γ1) : eCall wp dds τs Γ Q := h
theorem st_calli {wp : W1} {dds : List PyData} (h : τs Γ fun as Γ1 => ∃ j o0 ar ds, as = .s j :: ar ∧ unD ar = some ds ∧ Γ1[j]? = some (some o0) ∧ wp o0 (ds ++ dds) fun o o0' => ∃ Γ2, setG Γ1 j (some o0') = some Γ2 ∧ Q o Γ2) : eCallI wp dds τs Γ Q := h
theorem st_isi {n : String} (h : τ Γ fun a Γ1 => ∃ d b, rslv Γ1 a = some d ∧ kitD d n = some b ∧ Q (.fz (.bool b)) Γ1) : eIsi n τ Γ Q := h
theorem st_lrg (h : τ Γ fun a Γ1 => ∃ n : Int, rslv Γ1 a = some (.int n) ∧ RgOk 0 n ∧ Q (.ls (rangeN n.toNat)) Γ1) : eLRg1 τ Γ Q := h
theorem st_trg (h : τ Γ fun a Γ1 => ∃ n : Int, rslv Γ1 a = some (.int n) ∧ RgOk 0 n ∧ Q (.fz (.tuple (rangeN n.toNat))) Γ1) : eTRg1 τ Γ Q := h
theorem st_sl (h : τ Γ fun a Γ1 => pl Γ1 fun lo Γ2 => ph Γ2 fun hi Γ3 => ∃ d, rslv Γ3 a = some d ∧ sdAll d lo hi fun o => Q o Γ3) : eSl τ pl ph Γ Q := h
theorem st_pn (h : QP none Γ) : pNone Γ QP := h
theorem st_ps (h : τ Γ fun a Γ1 => ∃ i, rslv Γ1 a = some (.int i) ∧ QP (some i) Γ1) : pSome τ Γ QP := h
theorem st_sm {sm : SM} (e : Γ[i]? = some (some (.ls ds))) (h : τs Γ fun as Γ1 => ∃ ds ads, Γ1[i]? = some (some (.ls ds)) ∧ unD as = some ads ∧ sm ds ads fun ds' d => ∃ Γ2, setG Γ1 i (some (.ls ds')) = some Γ2 ∧ Q (.fz d) Γ2) : eSM i sm τs Γ Q := ⟨⟨ds, e⟩, h⟩
theorem st_ext (e : Γ[i]? = some (some (.ls ds))) (h : to Γ fun o Γ1 => ∃ ds zs, Γ1[i]? = some (some (.ls ds)) ∧ (o = .ls zs ∨ o = .fz (.list zs)) ∧ ds.length + zs.length ≤ sizeLine ∧ ∃ Γ2, setG Γ1 i (some (.ls (ds ++ zs))) = some Γ2 ∧ Q (.fz .none) Γ2) : eExt i to Γ Q := ⟨⟨ds, e⟩, h⟩
theorem st_iseq (h : τ Γ fun a Γ1 => ∃ d ds, a = .d d ∧ seqD d = some ds ∧ QI ds Γ1) : iSeq τ Γ QI := h
theorem st_ir1 (h : τs Γ fun as Γ1 => ∃ n : Int, rsAll Γ1 as = some [.int n] ∧ (-(2 ^ 62) ≤ n ∧ n < 2 ^ 62) ∧ QI (rangeN n.toNat) Γ1) : iRange1 τs Γ QI := h
theorem st_ir2 (h : τs Γ fun as Γ1 => ∃ a b : Int, rsAll Γ1 as = some [.int a, .int b] ∧ (-(2 ^ 62) ≤ a ∧ a < 2 ^ 62 ∧ -(2 ^ 62) ≤ b ∧ b < 2 ^ 62) ∧ QI (rangeD a (b - a).toNat) Γ1) : iRange2 τs Γ QI := h
theorem st_gn (e : setG Γ i (some (.fz d)) = some Γ') (h : QG Γ') : gN i d Γ QG := ⟨Γ', e, h⟩
theorem st_gt {n : Nat} (e : ds.length = n) (h : gs ds Γ QG) : gTupD n gs (.tuple ds) Γ QG := ⟨ds, rfl, e, h⟩
theorem st_gc (h : g d Γ fun Γ1 => gs ds Γ1 QG) : gConss g gs (d :: ds) Γ QG := ⟨d, ds, rfl, h⟩
theorem st_g0 (h : QG Γ) : gNils [] Γ QG := ⟨rfl, h⟩
theorem st_yes (h : QT true Γ) : tYesD Γ QT := h
-- operations
theorem op_addI (h : QO (.fz (.int (x + y)))) : opAdd (.int x) (.int y) QO := h
theorem op_addT (hl : ds.length + es.length ≤ sizeLine) (h : QO (.fz (.tuple (ds ++ es)))) : opAdd (.tuple ds) (.tuple es) QO := ⟨hl, h⟩
theorem op_addL (hl : ds.length + es.length ≤ sizeLine) (h : QO (.ls (ds ++ es))) : opAdd (.list ds) (.list es) QO := ⟨hl, h⟩
theorem op_addS {z w : Str} (hl : z.length + w.length ≤ sizeLine) (h : QO (.fz (.str (z ++ w)))) : opAdd (.str z) (.str w) QO := ⟨hl, h⟩
theorem op_subI (h : QO (.fz (.int (x - y)))) : opSub (.int x) (.int y) QO := h
theorem op_mulI (hc : CMulX x y) (h : QO (.fz (.int (x * y)))) : opMul (.int x) (.int y) QO := ⟨hc, h⟩
theorem op_modI (hc : 0 < y) (h : QO (.fz (.int (x % y)))) : opMod (.int x) (.int y) QO := ⟨hc, h⟩
theorem op_divI (hc : CDivW x y) (h : QO (.fz (.int (x / y)))) : opDiv (.int x) (.int y) QO := ⟨hc, h⟩
theorem op_ltI (h : QO (.fz (.bool (decide (x < y))))) : opLt (.int x) (.int y) QO := h
theorem op_leI (h : QO (.fz (.bool (decide (x ≤ y))))) : opLe (.int x) (.int y) QO := h
theorem op_gtI (h : QO (.fz (.bool (decide (y < x))))) : opGt (.int x) (.int y) QO := h
theorem op_geI (h : QO (.fz (.bool (decide (y ≤ x))))) : opGe (.int x) (.int y) QO := h
theorem shaped_int : shaped (.int x) := by unfold shaped SeqAt.shaped; simp [PyData.canLay0, PyData.depth]
theorem shaped_bool : shaped (.bool b) := by unfold shaped SeqAt.shaped; simp [PyData.canLay0, PyData.depth]
theorem shaped_none : shaped .none := by unfold shaped SeqAt.shaped; simp [PyData.canLay0, PyData.depth]
theorem op_eqI (h : QO (.fz (.bool (decide (x = y))))) : opEq (.int x) (.int y) QO := ⟨shaped_int, shaped_int, by rw [show PyData.eqv (.int x) (.int y) = decide (x = y) by simp only [PyData.eqv]; exact Bool.beq_eq_decide_eq x y]; exact h⟩
theorem op_neI (h : QO (.fz (.bool (!decide (x = y))))) : opNe (.int x) (.int y) QO := ⟨shaped_int, shaped_int, by rw [show PyData.eqv (.int x) (.int y) = decide (x = y) by simp only [PyData.eqv]; exact Bool.beq_eq_decide_eq x y]; exact h⟩
theorem op_eqB (h : QO (.fz (.bool (b == c)))) : opEq (.bool b) (.bool c) QO := ⟨shaped_bool, shaped_bool, by rw [show PyData.eqv (.bool b) (.bool c) = (b == c) by simp only [PyData.eqv]]; exact h⟩
theorem op_neB (h : QO (.fz (.bool (!(b == c))))) : opNe (.bool b) (.bool c) QO := ⟨shaped_bool, shaped_bool, by rw [show PyData.eqv (.bool b) (.bool c) = (b == c) by simp only [PyData.eqv]]; exact h⟩
theorem op_isNone (h : QO (.fz (.bool true))) : opIsN .none .none QO := ⟨rfl, h⟩
theorem op_isInt (h : QO (.fz (.bool false))) : opIsN (.int x) .none QO := ⟨rfl, h⟩
theorem op_isTup (h : QO (.fz (.bool false))) : opIsN (.tuple ds) .none QO := ⟨rfl, h⟩
theorem op_notNone (h : QO (.fz (.bool false))) : opNotN .none .none QO := ⟨rfl, h⟩
theorem op_notTup (h : QO (.fz (.bool true))) : opNotN (.tuple ds) .none QO := ⟨rfl, h⟩
theorem op_ixT (j : Nat) (ej : x = (j : Int)) (e : ds[j]? = some d) (h : QO (.fz d)) : opIx (.tuple ds) (.int x) QO := ⟨d, by rw [ej]; exact atI_nat e, h⟩
theorem op_ixL (j : Nat) (ej : x = (j : Int)) (e : ds[j]? = some d) (h : QO (.fz d)) : opIx (.list ds) (.int x) QO := ⟨d, by rw [ej]; exact atI_nat e, h⟩
theorem op_ixT0 (e : ds[0]? = some d) (h : QO (.fz d)) : opIx (.tuple ds) (.int 0) QO := op_ixT 0 rfl e h
theorem op_ixT1 (e : ds[1]? = some d) (h : QO (.fz d)) : opIx (.tuple ds) (.int 1) QO := op_ixT 1 rfl e h
theorem op_ixT2 (e : ds[2]? = some d) (h : QO (.fz d)) : opIx (.tuple ds) (.int 2) QO := op_ixT 2 rfl e h
theorem op_ixL0 (e : ds[0]? = some d) (h : QO (.fz d)) : opIx (.list ds) (.int 0) QO := op_ixL 0 rfl e h
theorem op_ixL1 (e : ds[1]? = some d) (h : QO (.fz d)) : opIx (.list ds) (.int 1) QO := op_ixL 1 rfl e h
theorem cd_lenL (h : QO (.fz (.int (ds.length : Nat)))) : cdLen [.list ds] QO := h
theorem cd_lenT (h : QO (.fz (.int (ds.length : Nat)))) : cdLen [.tuple ds] QO := h
theorem cd_intI (h : QO (.fz (.int x))) : cdInt [.int x] QO := h
theorem cd_intB (h : QO (.fz (.int (if b then 1 else 0)))) : cdInt [.bool b] QO := h
theorem cd_tupL (h : QO (.fz (.tuple ds))) : cdTuple [.list ds] QO := h
theorem cd_tupT (h : QO (.fz (.tuple ds))) : cdTuple [.tuple ds] QO := h
theorem cd_listL (h : QO (.ls ds)) : cdList [.list ds] QO := h
theorem cd_listT (h : QO (.ls ds)) : cdList [.tuple ds] QO := h
theorem cd_absI (h : QO (.fz (.int (if x < 0 then -x else x)))) : cdAbs [.int x] QO := h
theorem cd_min2I (h : QO (.fz (.int (if y < x then y else x)))) : cdMin2 [.int x, .int y] QO := h
theorem cd_max2I (h : QO (.fz (.int (if y > x then y else x)))) : cdMax2 [.int x, .int y] QO := h
theorem sm_app {sx : PyData} {QS : List PyData → PyData → Prop} (hl : ds.length < sizeLine) (h : QS (ds ++ [sx]) .none) : smAppend ds [sx] QS := ⟨sx, rfl, hl, h⟩
theorem sd_L {lo hi : Option Int} (h : QO (.ls (cutL ds lo hi))) : sdAll (.list ds) lo hi QO := h
theorem sd_T {lo hi : Option Int} (h : QO (.fz (.tuple (cutL ds lo hi)))) : sdAll (.tuple ds) lo hi QO := h
end

/-! ### comprehensions whose parts are functions -/
/-- a test, an element that only reads -/
def TPure (tt : ET) (Γ : Ga) (b : Bool) : Prop := ∀ Q : Bool → Ga → Prop, Q b Γ → tt Γ Q
def XPure (te : EX) (Γ : Ga) (d : PyData) : Prop := ∀ Q : Av → Ga → Prop, Q (.d d) Γ → te Γ Q
/-- an iterable whose items are known -/
def IPure (ti : EI) (Γ : Ga) (ds : List PyData) (Γ1 : Ga) : Prop := ∀ QI : List PyData → Ga → Prop, QI ds Γ1 → ti Γ QI
section
variable {α : Type} {Γ Γ1 : Ga} {vs : List Nat} {ti : EI} {g : EG} {tt : ET} {te : EX} {Q : O → Ga → Prop}
/-- a comprehension by what holds ahead of each turn -/
theorem lc_inv (xs : List α) (enc : α → PyData) (I : Nat → List PyData → Ga → Prop) (hi : IPure ti Γ (xs.map enc) Γ1) (pl : Plain Γ1 vs) (h0 : I 0 [] Γ1)
    (turn : ∀ i x acc Γ', xs[i]? = some x → I i acc Γ' → (∀ j ∈ vs, Γ'[j]? = Γ1[j]?) → ∃ Γw, nrm (wipeG Γ' vs) = some Γw ∧ g (enc x) Γw fun Γ2 => tt Γ2 fun b Γ3 => Br b (te Γ3 fun a Γ4 => ∃ y, a = .d y ∧ acc.length < sizeLine ∧ ∃ Γb, nrm (backG Γ1 Γ4 vs) = some Γb ∧ I (i + 1) (acc ++ [y]) Γb) (∃ Γb, nrm (backG Γ1 Γ3 vs) = some Γb ∧ I (i + 1) acc Γb))
    (h : ∀ acc Γ', I xs.length acc Γ' → Q (.ls acc) Γ') : eLc ti g tt te vs Γ Q := by
  refine hi _ ⟨pl, I, h0, fun i d acc Γ' e w sl => ?_, fun acc Γ' w => h acc Γ' (by rw [List.length_map] at w; exact w)⟩
  rw [List.getElem?_map] at e
  cases ex : xs[i]? with
  | none => rw [ex] at e; cases e
  | some x => rw [ex] at e; cases e; exact turn i x acc Γ' ex w sl
/-- [e for x in xs if p], by functions: p, f of the item -/
theorem lc_go (xs : List α) (enc : α → PyData) (p : α → Bool) (f : α → PyData) (hi : IPure ti Γ (xs.map enc) Γ1) (hl : xs.length ≤ sizeLine) (pl : Plain Γ1 vs)
    (turn : ∀ x ∈ xs, ∃ Γw Γx, nrm (wipeG Γ1 vs) = some Γw ∧ (∀ QG : Ga → Prop, QG Γx → g (enc x) Γw QG) ∧ nrm (backG Γ1 Γx vs) = some Γ1 ∧ TPure tt Γx (p x) ∧ (p x = true → XPure te Γx (f x)))
    (h : Q (.ls ((xs.filter p).map f)) Γ1) : eLc ti g tt te vs Γ Q := by
  refine lc_inv xs enc (fun i acc Γ' => Γ' = Γ1 ∧ acc = ((xs.take i).filter p).map f) hi pl ⟨rfl, by simp⟩ (fun i x acc Γ' ex ⟨e1, e2⟩ _ => ?_) (fun acc Γ' ⟨e1, e2⟩ => ?_)
  · subst e1; subst e2
    obtain ⟨Γw, Γx, w1, hg, w2, ht, he⟩ := turn x (List.mem_of_getElem? ex)
    have tk : xs.take (i + 1) = xs.take i ++ [x] := by rw [List.take_add_one, ex]; rfl
    have il : i < xs.length := (List.getElem?_eq_some_iff.mp ex).1
    refine ⟨Γw, w1, hg _ (ht _ ?_)⟩
    cases hp : p x with
    | true =>
      refine br_t (he hp _ ⟨f x, rfl, ?_, Γ', w2, rfl, ?_⟩)
      · rw [List.length_map]
        have := List.length_filter_le p (xs.take i)
        rw [List.length_take] at this
        omega
      · rw [tk, List.filter_append, List.map_append]; simp [hp]
    | false =>
      refine br_f ⟨Γ', w2, rfl, ?_⟩
      rw [tk, List.filter_append]; simp [hp]
  · subst e1; subst e2
    rw [List.take_length]
    exact h
/-- .. without a test -/
theorem lc_map (xs : List α) (enc : α → PyData) (f : α → PyData) (hi : IPure ti Γ (xs.map enc) Γ1) (hl : xs.length ≤ sizeLine) (pl : Plain Γ1 vs)
    (turn : ∀ x ∈ xs, ∃ Γw Γx, nrm (wipeG Γ1 vs) = some Γw ∧ (∀ QG : Ga → Prop, QG Γx → g (enc x) Γw QG) ∧ nrm (backG Γ1 Γx vs) = some Γ1 ∧ XPure te Γx (f x))
    (h : Q (.ls (xs.map f)) Γ1) : eLc ti g tYesD te vs Γ Q := by
  refine lc_go xs enc (fun _ => true) f hi hl pl (fun x hx => ?_) (by rw [List.filter_eq_self.mpr (fun _ _ => rfl)]; exact h)
  obtain ⟨Γw, Γx, w1, hg, w2, he⟩ := turn x hx
  exact ⟨Γw, Γx, w1, hg, w2, fun Q q => q, fun _ => he⟩
/-- a for by what holds ahead of each turn -/
theorem for_inv {t : ES} {D : En} (xs : List α) (enc : α → PyData) (I : Nat → Ga → Prop) (hi : IPure ti Γ (xs.map enc) Γ1) (h0 : I 0 Γ1)
    (turn : ∀ i x Γ', xs[i]? = some x → I i Γ' → g (enc x) Γ' fun Γ2 => t { D with nx := I (i + 1), ct := I (i + 1), bk := D.nx } Γ2) (hd : ∀ Γ', I xs.length Γ' → D.nx Γ') : sFor ti g t D Γ := by
  refine hi _ ⟨I, h0, fun i d Γ' e w => ?_, fun Γ' w => hd Γ' (by rw [List.length_map] at w; exact w)⟩
  rw [List.getElem?_map] at e
  cases ex : xs[i]? with
  | none => rw [ex] at e; cases e
  | some x => rw [ex] at e; cases e; exact turn i x Γ' ex w
/-- a while by what holds ahead of each turn, n falling -/
theorem while_inv {c : ET} {t : ES} {D : En} (W : Nat → Ga → Prop) (m : Nat) (h0 : W m Γ)
    (turn : ∀ m Γ', W m Γ' → c Γ' fun b Γ1 => Br b (t { D with nx := fun Γ2 => ∃ m', m' < m ∧ W m' Γ2, ct := fun Γ2 => ∃ m', m' < m ∧ W m' Γ2, bk := D.nx } Γ1) (D.nx Γ1)) : sWhile c t D Γ := ⟨W, ⟨m, h0⟩, turn⟩
end
theorem plain1 {Γ : Ga} {i : Nat} (h : Γ[i]? = some none ∨ ∃ d, Γ[i]? = some (some (.fz d))) : Plain Γ [i] := fun j hj => by
  have : j = i := by simpa using hj
  subst this; exact h
theorem plain2 {Γ : Ga} {i j : Nat} (h : Γ[i]? = some none ∨ ∃ d, Γ[i]? = some (some (.fz d))) (h2 : Γ[j]? = some none ∨ ∃ d, Γ[j]? = some (some (.fz d))) : Plain Γ [i, j] := fun k hk => by
  rcases List.mem_cons.mp hk with z | z
  · subst z; exact h
  · have : k = j := by simpa using z
    subst this; exact h2
theorem r64 {k : Nat} {A : Around} (hr : Room k A) : A.units + 64 < cLine := hr.units
theorem r65 {k : Nat} {A : Around} (hr : Room k A) : A.units + 65 < cLine := by have := hr.un; omega
end VL
end
section
namespace VL
open PySem PySem.Spec L2

/-! ### typed data -/
/-- an encoding: == of what is encoded, what may be compared (at most n deep) -/
structure Enc {α : Type} [DecidableEq α] (enc : α → PyData) (n : Nat) : Prop where
  eq : ∀ a b, PyData.eqv (enc a) (enc b) = decide (a = b)
  lay : ∀ a, (enc a).canLay0 = true
  dep : ∀ a, (enc a).depth ≤ n
section
variable {α β : Type} [DecidableEq α] [DecidableEq β] {enc : α → PyData} {fnc : β → PyData} {n m : Nat}
theorem layAll_map (h : ∀ a, (enc a).canLay0 = true) : ∀ xs : List α, PyData.canLayAll0 (xs.map enc) = true
  | [] => by simp [PyData.canLayAll0]
  | x :: xs => by simp [PyData.canLayAll0, h x, layAll_map h xs]
theorem depAll_map (h : ∀ a, (enc a).depth ≤ n) : ∀ xs : List α, PyData.depthAll (xs.map enc) ≤ n
  | [] => by simp [PyData.depthAll]
  | x :: xs => by
    have h1 := h x
    have h2 := depAll_map h xs
    simp only [List.map_cons, PyData.depthAll]
    omega
theorem eqvAll_map (h : ∀ a b, PyData.eqv (enc a) (enc b) = decide (a = b)) : ∀ xs ys : List α, PyData.eqvAll (xs.map enc) (ys.map enc) = decide (xs = ys)
  | [], [] => by simp [PyData.eqvAll]
  | [], y :: ys => by simp [PyData.eqvAll]
  | x :: xs, [] => by simp [PyData.eqvAll]
  | x :: xs, y :: ys => by
    simp only [List.map_cons, PyData.eqvAll, h x y, eqvAll_map h xs ys, List.cons.injEq]
    by_cases e1 : x = y <;> by_cases e2 : xs = ys <;> simp [e1, e2]
theorem Enc.shaped (h : Enc enc n) (hn : n ≤ 64) (a : α) : shaped (enc a) := by
  unfold VL.shaped SeqAt.shaped
  rw [h.lay a, Bool.true_and, decide_eq_true_eq]
  exact Nat.le_trans (h.dep a) hn
theorem Enc.tup (h : Enc enc n) : Enc (fun xs : List α => PyData.tuple (xs.map enc)) (n + 1) where
  eq := fun xs ys => by simp only [PyData.eqv]; exact eqvAll_map h.eq xs ys
  lay := fun xs => by simp only [PyData.canLay0]; exact layAll_map h.lay xs
  dep := fun xs => by simp only [PyData.depth]; have := depAll_map h.dep xs; omega
theorem Enc.lst (h : Enc enc n) : Enc (fun xs : List α => PyData.list (xs.map enc)) (n + 1) where
  eq := fun xs ys => by simp only [PyData.eqv]; exact eqvAll_map h.eq xs ys
  lay := fun xs => by simp only [PyData.canLay0]; exact layAll_map h.lay xs
  dep := fun xs => by simp only [PyData.depth]; have := depAll_map h.dep xs; omega
theorem Enc.pair (h : Enc enc n) (k : Enc fnc m) : Enc (fun p : α × β => PyData.tuple [enc p.1, fnc p.2]) (max n m + 1) where
  eq := fun ⟨a, b⟩ ⟨c, d⟩ => by
    simp only [PyData.eqv, PyData.eqvAll, h.eq, k.eq, Bool.and_true, Prod.mk.injEq]
    by_cases e1 : a = c <;> by_cases e2 : b = d <;> simp [e1, e2]
  lay := fun p => by simp [PyData.canLay0, PyData.canLayAll0, h.lay, k.lay]
  dep := fun p => by
    have h1 := h.dep p.1
    have h2 := k.dep p.2
    simp only [PyData.depth, PyData.depthAll]
    omega
theorem enc_int : Enc PyData.int 0 where
  eq := fun a b => by simp only [PyData.eqv]; exact Bool.beq_eq_decide_eq a b
  lay := fun a => by simp [PyData.canLay0]
  dep := fun a => by simp [PyData.depth]
theorem enc_bool : Enc PyData.bool 0 where
  eq := fun a b => by simp only [PyData.eqv]; exact Bool.beq_eq_decide_eq a b
  lay := fun a => by simp [PyData.canLay0]
  dep := fun a => by simp [PyData.depth]
def isIn (x : α) (xs : List α) : Bool := xs.any fun y => decide (y = x)
theorem isIn_iff {x : α} {xs : List α} : isIn x xs = true ↔ x ∈ xs := by
  unfold isIn
  rw [List.any_eq_true]
  constructor
  · rintro ⟨y, h, e⟩
    rw [← of_decide_eq_true e]; exact h
  · intro h; exact ⟨x, h, decide_eq_true rfl⟩
theorem isIn_false {x : α} {xs : List α} : isIn x xs = false ↔ x ∉ xs := by
  rw [← Bool.not_eq_true, isIn_iff]
theorem any_enc (h : Enc enc n) (x : α) : ∀ xs : List α, ((xs.map enc).any fun z => PyData.eqv z (enc x)) = isIn x xs
  | [] => rfl
  | y :: ys => by
    rw [List.map_cons, List.any_cons, h.eq, any_enc h x ys]
    rfl
theorem op_eqE (h : Enc enc n) (hn : n ≤ 64) {a b : α} {Q : O → Prop} (q : Q (.fz (.bool (decide (a = b))))) : opEq (enc a) (enc b) Q := ⟨h.shaped hn a, h.shaped hn b, by rw [h.eq]; exact q⟩
theorem op_neE (h : Enc enc n) (hn : n ≤ 64) {a b : α} {Q : O → Prop} (q : Q (.fz (.bool (!decide (a = b))))) : opNe (enc a) (enc b) Q := ⟨h.shaped hn a, h.shaped hn b, by rw [h.eq]; exact q⟩
theorem op_inE (h : Enc enc n) (hn : n + 1 ≤ 64) {a : α} {xs : List α} {Q : O → Prop} (q : Q (.fz (.bool (isIn a xs)))) : opIn (enc a) (.tuple (xs.map enc)) Q := by
  unfold opIn
  refine ⟨h.shaped (by omega) a, h.tup.shaped (by omega) xs, ?_⟩
  rw [any_enc h]; exact q
theorem op_inLE (h : Enc enc n) (hn : n + 1 ≤ 64) {a : α} {xs : List α} {Q : O → Prop} (q : Q (.fz (.bool (isIn a xs)))) : opIn (enc a) (.list (xs.map enc)) Q := by
  unfold opIn
  refine ⟨h.shaped (by omega) a, h.lst.shaped (by omega) xs, ?_⟩
  rw [any_enc h]; exact q
theorem op_notInE (h : Enc enc n) (hn : n + 1 ≤ 64) {a : α} {xs : List α} {Q : O → Prop} (q : Q (.fz (.bool (!isIn a xs)))) : opNotIn (enc a) (.tuple (xs.map enc)) Q := by
  unfold opNotIn
  refine ⟨h.shaped (by omega) a, h.tup.shaped (by omega) xs, ?_⟩
  rw [any_enc h]; exact q
theorem op_notInLE (h : Enc enc n) (hn : n + 1 ≤ 64) {a : α} {xs : List α} {Q : O → Prop} (q : Q (.fz (.bool (!isIn a xs)))) : opNotIn (enc a) (.list (xs.map enc)) Q := by
  unfold opNotIn
  refine ⟨h.shaped (by omega) a, h.lst.shaped (by omega) xs, ?_⟩
  rw [any_enc h]; exact q
end
/-! literals, rules, sheets, fillings -/
abbrev Lit := Int × Bool
abbrev Rule := List Lit
def dLit (b : Int) (s : Bool) : PyData := .tuple [.int b, .bool s]
def dL (l : Lit) : PyData := dLit l.1 l.2
def dR (r : Rule) : PyData := .tuple (r.map dL)
def dRs (rs : List Rule) : PyData := .tuple (rs.map dR)
def dS (m : Int) (rs : List Rule) : PyData := .tuple [.int m, dRs rs]
def dF (f : List Bool) : PyData := .tuple (f.map .bool)
def neg (l : Lit) : Lit := (l.1, !l.2)
theorem enc_L : Enc dL 1 := enc_int.pair enc_bool
theorem enc_R : Enc dR 2 := enc_L.tup
theorem enc_Rs : Enc dRs 3 := enc_R.tup
theorem enc_F : Enc dF 1 := enc_bool.tup
end VL
end
section
namespace VL
open PySem PySem.Spec L2

/-! ### trees -/
theorem keepU {G H : Hp} {a : Addr} {o : HO} (d : G a = none) (s : Same G H) : Same G (upd H a o) := fun b u e => by
  by_cases z : b = a
  · subst z; rw [d] at e; cases e
  · rw [upd_ne z]; exact s _ _ e
theorem dis_at {G : Hp} {a : Addr} {o o' : HO} (d : Dis (one a o) G) : Dis (one a o') G := dis_one (of_dis_one d)
section
variable {K : PySem.W.Frag} {F F' : Hp} {o : O} {ts : List O} {v : V} {vs : List V} {h h1 h2 : Hp}
theorem ownT_nil : OwnT K F [] vs h ↔ vs = [] ∧ h = emp := by unfold OwnT; exact Iff.rfl
theorem ownT_cons : OwnT K F (o :: ts) vs h ↔ ∃ v vr h1 h2, vs = v :: vr ∧ h = jn h1 h2 ∧ Dis h1 h2 ∧ Own K F o v h1 ∧ OwnT K F ts vr h2 := by rw [OwnT]
theorem OwnT.len : ∀ {ts : List O} {vs : List V} {h : Hp}, OwnT K F ts vs h → vs.length = ts.length
  | [], _, _, w => by rw [(ownT_nil.mp w).1]; rfl
  | _ :: _, _, _, w => by
    obtain ⟨v, vr, h1, h2, rfl, _, _, _, q⟩ := ownT_cons.mp w
    simp [OwnT.len q]
theorem OwnT.focus : ∀ {ts : List O} {vs : List V} {h : Hp} {k : Nat} {o : O}, OwnT K F ts vs h → ts[k]? = some o →
    ∃ v h1 h2, vs[k]? = some v ∧ h = jn h1 h2 ∧ Dis h1 h2 ∧ Own K F o v h1 ∧
      (∀ F' o' v' h1', Same F F' → Own K F' o' v' h1' → Dis h1' h2 → OwnT K F' (ts.set k o') (vs.set k v') (jn h1' h2)) ∧ OwnT K F (ts.eraseIdx k) (vs.eraseIdx k) h2
  | [], _, _, _, _, _, e => by simp at e
  | o :: ts, _, h, 0, o', w, e => by
    obtain ⟨v, vr, h1, h2, rfl, rfl, d, w1, q⟩ := ownT_cons.mp w
    have eo : o = o' := by simpa using e
    subst eo
    exact ⟨v, h1, h2, rfl, rfl, d, w1, fun F' o' v' h1' s w' d' => ownT_cons.mpr ⟨v', vr, h1', h2, rfl, rfl, d', w', q.mono s⟩, q⟩
  | o :: ts, _, h, k + 1, o', w, e => by
    obtain ⟨v, vr, g1, g2, rfl, rfl, d, w1, q⟩ := ownT_cons.mp w
    obtain ⟨u, h1, h2, a1, a2, a3, a4, a5, a6⟩ := OwnT.focus (k := k) (o := o') q (by simpa using e)
    subst a2
    have d1 : Dis g1 h1 := (Dis.sub same_l d.symm).symm
    have d2 : Dis g1 h2 := (Dis.sub (same_r a3) d.symm).symm
    refine ⟨u, h1, jn g1 h2, by simpa using a1, ?_, (Dis.jn d1 a3.symm).symm, a4, fun F' o' v' h1' s w' d' => ?_, ownT_cons.mpr ⟨v, _, g1, h2, rfl, rfl, d2, w1, a6⟩⟩
    · rw [← jn_assoc, jn_comm d1, jn_assoc]
    · have f1 : Dis h1' g1 := (Dis.sub same_l d'.symm).symm
      have f2 : Dis h1' h2 := (Dis.sub (same_r d2) d'.symm).symm
      refine ownT_cons.mpr ⟨v, _, g1, jn h1' h2, rfl, ?_, (Dis.jn f1 d2.symm).symm, w1.mono s, a5 F' o' v' h1' s w' f2⟩
      rw [← jn_assoc, jn_comm f1, jn_assoc]
theorem OwnT.app : ∀ {ts : List O} {vs : List V} {h : Hp}, OwnT K F ts vs h → Own K F o v h1 → Dis h h1 → OwnT K F (ts ++ [o]) (vs ++ [v]) (jn h h1)
  | [], _, _, w, w1, d => by
    obtain ⟨rfl, rfl⟩ := ownT_nil.mp w
    exact ownT_cons.mpr ⟨v, [], h1, emp, rfl, by rw [emp_jn, jn_emp], Dis.emp.symm, w1, ownT_nil.mpr ⟨rfl, rfl⟩⟩
  | _ :: _, _, _, w, w1, d => by
    obtain ⟨u, vr, g1, g2, rfl, rfl, dd, w2, q⟩ := ownT_cons.mp w
    have d1 : Dis g1 h1 := Dis.sub same_l d
    have d2 : Dis g2 h1 := Dis.sub (same_r dd) d
    exact ownT_cons.mpr ⟨u, vr ++ [v], g1, jn g2 h1, rfl, jn_assoc, (Dis.jn dd.symm d1.symm).symm, w2, OwnT.app q w1 d2⟩
theorem ownT_fz : ∀ {ds : List PyData} {vs : List V} {h : Hp}, OwnT K F (ds.map .fz) vs h ↔ RpAll K F vs ds ∧ h = emp
  | [], vs, h => by
    constructor
    · intro w; obtain ⟨rfl, rfl⟩ := ownT_nil.mp w; exact ⟨.nil, rfl⟩
    · rintro ⟨r, rfl⟩; cases r; exact ownT_nil.mpr ⟨rfl, rfl⟩
  | d :: ds, vs, h => by
    constructor
    · intro w
      obtain ⟨v, vr, g1, g2, rfl, rfl, dd, w2, q⟩ := ownT_cons.mp w
      obtain ⟨r, rfl⟩ := ownT_fz.mp q
      obtain ⟨rfl, rr⟩ := own_fz.mp w2
      exact ⟨.cons rr r, by rw [emp_jn]⟩
    · rintro ⟨r, rfl⟩
      cases r with
      | cons r1 r2 => exact ownT_cons.mpr ⟨_, _, emp, emp, rfl, by rw [emp_jn], Dis.emp, own_fz.mpr ⟨rfl, r1⟩, ownT_fz.mpr ⟨r2, rfl⟩⟩
end
section
variable {K : PySem.W.Frag} {pn : List (Nat × V)} {Z F F' : Hp} {Γ : Ga} {σ : St} {h hr H H' : Hp} {v : V} {o : O} {d : PyData} {ts : List O} {i k : Nat}
/-- a part beside put back into the slot it came from -/
theorem AtR.restore {v : V} (A : AtR K pn Z F Γ σ h hr H) (w : Own K F o v hr) (hi : i < Γ.length) (e : σ[i]? = some (some v)) : ∃ h', At K pn Z F (Γ.set i (some o)) σ h' H ∧ (∀ a, h' a ≠ none → h a ≠ none ∨ hr a ≠ none) := by
  obtain ⟨h2, s2, a, _⟩ := A.at_.own.put hi
  have d2 : Dis hr h2 := (Dis.sub s2 A.rh.symm).symm
  have q := a F o v hr (Same.refl _) w d2
  rw [set_self e] at q
  refine ⟨jn hr h2, ⟨q, same_jn A.rH (s2.trans A.at_.hH), A.at_.FH, A.at_.ZH, A.at_.FZ, Dis.jn A.rF (Dis.sub s2 A.at_.hF), Dis.jn A.rZ (Dis.sub s2 A.at_.hZ), A.at_.pin⟩, fun a e => ?_⟩
  cases z : hr a with
  | some u => exact .inr (by simp)
  | none =>
    rw [jn_r z] at e
    left
    intro y
    exact e (s2.free y)
/-- the tree of a slot: its root, its elements -/
structure TrAt (K : PySem.W.Frag) (pn : List (Nat × V)) (Z F : Hp) (Γ : Ga) (σ : St) (h H : Hp) (i : Nat) (ts : List O) (a : Addr) (vs : List V) (hT g : Hp) : Prop where
  sl : σ[i]? = some (some (.ref a))
  at_ : H a = some (.lst vs)
  own : OwnT K F ts vs hT
  TH : Same hT H
  Ta : hT a = none
  TF : Dis hT F
  TZ : Dis hT Z
  Tg : Dis hT g
  gH : Same g H
  ga : g a = none
  gF : Dis g F
  gZ : Dis g Z
  Fa : F a = none
  Za : Z a = none
  ph : ∀ k, Dis h k → Dis hT k ∧ Dis g k ∧ k a = none
  put : ∀ F' ts' vs' hT' H', Same F F' → OwnT K F' ts' vs' hT' → H' a = some (.lst vs') → Same hT' H' → Same F' H' → Same Z H' → Same g H' → Dis F' Z → hT' a = none → Dis hT' g → Dis hT' F' → Dis hT' Z → Dis g F' → F' a = none →
    At K pn Z F' (Γ.set i (some (.tr ts'))) σ (jn (jn (one a (.lst vs')) hT') g) H'
theorem At.changeT (A : At K pn Z F Γ σ h H) (e : Γ[i]? = some (some (.tr ts))) : ∃ a vs hT g, TrAt K pn Z F Γ σ h H i ts a vs hT g := by
  obtain ⟨v, h1, h2, a1, rfl, d12, a4, a5⟩ := A.own.focus e
  obtain ⟨a, vs, hT, rfl, rfl, dT, w⟩ := own_tr.mp a4
  have s1 : Same (one a (.lst vs)) (jn (jn (one a (.lst vs)) hT) h2) := fun x u z => same_l _ _ (same_l _ _ z)
  have sT : Same hT (jn (jn (one a (.lst vs)) hT) h2) := fun x u z => same_l _ _ (same_r dT _ _ z)
  have s2 : Same h2 (jn (jn (one a (.lst vs)) hT) h2) := same_r d12
  have da2 : Dis (one a (.lst vs)) h2 := Dis.sub same_l d12
  have dT2 : Dis hT h2 := Dis.sub (same_r dT) d12
  refine ⟨a, vs, hT, h2, ⟨a1, A.hH _ _ (s1 _ _ one_at), w, sT.trans A.hH, of_dis_one dT, Dis.sub sT A.hF, Dis.sub sT A.hZ, dT2, s2.trans A.hH, of_dis_one da2, Dis.sub s2 A.hF, Dis.sub s2 A.hZ, of_dis_one (Dis.sub s1 A.hF), of_dis_one (Dis.sub s1 A.hZ),
    fun k dk => ⟨Dis.sub sT dk, Dis.sub s2 dk, of_dis_one (Dis.sub s1 dk)⟩, fun F' ts' vs' hT' H' sF w' hA sT' sF' sZ' sg' dFZ ta tg tF tZ gF fa => ?_⟩⟩
  have dT' : Dis (one a (.lst vs')) hT' := dis_one ta
  have q := a5 F' (.tr ts') (.ref a) (jn (one a (.lst vs')) hT') sF (own_tr.mpr ⟨a, vs', hT', rfl, rfl, dT', w'⟩) (Dis.jn (dis_one (of_dis_one da2)) tg)
  rw [set_self a1] at q
  have zA : Z a = none := of_dis_one (Dis.sub s1 A.hZ)
  exact ⟨q, same_jn (same_jn (same_one hA) sT') sg', sF', sZ', dFZ, Dis.jn (Dis.jn (dis_one fa) tF) gF, Dis.jn (Dis.jn (dis_one zA) tZ) (Dis.sub s2 A.hZ), A.pin⟩
/-- nothing changed but one element's form: o' stands where o stood -/
theorem TrAt.elem {a : Addr} {vs : List V} {hT g : Hp} (T : TrAt K pn Z F Γ σ h H i ts a vs hT g) (A : At K pn Z F Γ σ h H) (e : ts[k]? = some o) :
    ∃ v h1, vs[k]? = some v ∧ Own K F o v h1 ∧ Same h1 H ∧ Dis h1 F ∧ Dis h1 Z ∧ h1 a = none ∧
    (∀ F' o' h1' H', Same F F' → Own K F' o' v h1' → H' a = some (.lst vs) → Same h1' H' → Same F' H' → Same Z H' → (∀ G, Same G H → Dis h1 G → Same G H') → Dis F' Z → h1' a = none → (∀ G, Dis h1 G → Dis h1' G) → Dis h1' F' → Dis h1' Z → (∀ G, Same G H → Dis G F → Dis h1 G → Dis G F') → F' a = none →
      ∃ h', At K pn Z F' (Γ.set i (some (.tr (ts.set k o')))) σ h' H') := by
  obtain ⟨v, h1, h2, a1, rfl, d12, w1, put, _⟩ := T.own.focus e
  have s1 : Same h1 (jn h1 h2) := same_l
  have s2 : Same h2 (jn h1 h2) := same_r d12
  refine ⟨v, h1, a1, w1, s1.trans T.TH, Dis.sub s1 T.TF, Dis.sub s1 T.TZ, s1.free T.Ta, fun F' o' h1' H' sF w' hA sh sF' sZ' keep dFZ ha kd dF' dZ' kF fa => ?_⟩
  have q := put F' o' v h1' sF w' (kd h2 d12)
  rw [set_self a1] at q
  have d1g : Dis h1 g := Dis.sub s1 T.Tg
  have k2 : Same h2 H' := keep h2 (s2.trans T.TH) d12
  have kg : Same g H' := keep g T.gH d1g
  have ja : ∀ x : Addr, h1' x = none → h2 x = none → jn h1' h2 x = none := fun x e1 e2 => by rw [jn_r e1]; exact e2
  exact ⟨_, T.put F' (ts.set k o') vs (jn h1' h2) H' sF q hA (same_jn sh k2) sF' sZ' kg dFZ (ja a ha (s2.free T.Ta)) (Dis.jn (kd g d1g) (Dis.sub s2 T.Tg)) (Dis.jn dF' (kF h2 (s2.trans T.TH) (Dis.sub s2 T.TF) d12)) (Dis.jn dZ' (Dis.sub s2 T.TZ)) (kF g T.gH T.gF d1g) fa⟩
/-- an element frozen where it stands -/
theorem At.frzE (A : At K pn Z F Γ σ h H) (e : Γ[i]? = some (some (.tr ts))) (e1 : ts[k]? = some o) (e2 : o.frz = some d) : ∃ F' h' a vs v, Same F F' ∧ σ[i]? = some (some (.ref a)) ∧ H a = some (.lst vs) ∧ vs[k]? = some v ∧ At K pn Z F' (Γ.set i (some (.tr (ts.set k (.fz d))))) σ h' H ∧ Rp K F' v d := by
  obtain ⟨a, vs, hT, g, T⟩ := A.changeT e
  obtain ⟨v, h1, a1, w1, sh, dF, dZ, ha, put⟩ := T.elem A e1
  obtain ⟨F', s, rfl, q⟩ := w1.frz e2 dF
  have kF : ∀ G, Same G H → Dis G F → Dis h1 G → Dis G (jn h1 F) := fun G _ d1 d2 => (Dis.jn d2 d1.symm).symm
  have sFH : Same (jn h1 F) H := same_jn sh A.FH
  obtain ⟨h', A'⟩ := put (jn h1 F) (.fz d) emp H s (own_fz.mpr ⟨rfl, q⟩) T.at_ same_emp sFH A.ZH (fun G sG _ => sG) (Dis.jn dZ A.FZ) rfl (fun _ _ => Dis.emp) Dis.emp Dis.emp kF (by rw [jn_r ha]; exact T.Fa)
  exact ⟨_, h', a, vs, v, s, T.sl, T.at_, a1, A', q⟩
/-- an element's own list changed -/
theorem At.changeE {ds : List PyData} (A : At K pn Z F Γ σ h H) (e : Γ[i]? = some (some (.tr ts))) (e1 : ts[k]? = some (.ls ds)) : ∃ a vs b ws, σ[i]? = some (some (.ref a)) ∧ H a = some (.lst vs) ∧ vs[k]? = some (.ref b) ∧ H b = some (.lst ws) ∧ RpAll K F ws ds ∧
    ∀ ws' ds', RpAll K F ws' ds' → ∃ h', At K pn Z F (Γ.set i (some (.tr (ts.set k (.ls ds'))))) σ h' (upd H b (.lst ws')) := by
  obtain ⟨a, vs, hT, g, T⟩ := A.changeT e
  obtain ⟨v, h1, a1, w1, sh, dF, dZ, ha, put⟩ := T.elem A e1
  obtain ⟨b, ws, rfl, rfl, r⟩ := own_ls.mp w1
  have hab : a ≠ b := fun z => by subst z; rw [one_at] at ha; cases ha
  refine ⟨a, vs, b, ws, T.sl, T.at_, a1, sh _ _ one_at, r, fun ws' ds' r' => ?_⟩
  exact put F (.ls ds') (VL.one b (.lst ws')) (upd H b (.lst ws')) (Same.refl _) (own_ls.mpr ⟨b, ws', rfl, rfl, r'⟩) (by rw [upd_ne hab]; exact T.at_) (same_one upd_same) (keepU (of_dis_one dF) A.FH) (keepU (of_dis_one dZ) A.ZH) (fun G sG dG => keepU (of_dis_one dG) sG) A.FZ (one_ne hab) (fun G dG => dis_at dG) (dis_at dF) (dis_at dZ) (fun G _ d1 _ => d1) T.Fa
/-- an element's dict changed -/
theorem At.changeED {kk : List (Key × PyData)} (A : At K pn Z F Γ σ h H) (e : Γ[i]? = some (some (.tr ts))) (e1 : ts[k]? = some (.dk kk)) : ∃ a vs b ws, σ[i]? = some (some (.ref a)) ∧ H a = some (.lst vs) ∧ vs[k]? = some (.ref b) ∧ H b = some (.dK ws) ∧ KvAll K F ws kk ∧
    ∀ ws' kk', KvAll K F ws' kk' → ∃ h', At K pn Z F (Γ.set i (some (.tr (ts.set k (.dk kk'))))) σ h' (upd H b (.dK ws')) := by
  obtain ⟨a, vs, hT, g, T⟩ := A.changeT e
  obtain ⟨v, h1, a1, w1, sh, dF, dZ, ha, put⟩ := T.elem A e1
  obtain ⟨b, ws, rfl, rfl, r⟩ : ∃ b ws, v = .ref b ∧ h1 = VL.one b (.dK ws) ∧ KvAll K F ws kk := by unfold Own at w1; exact w1
  have hab : a ≠ b := fun z => by subst z; rw [one_at] at ha; cases ha
  refine ⟨a, vs, b, ws, T.sl, T.at_, a1, sh _ _ one_at, r, fun ws' ds' r' => ?_⟩
  exact put F (.dk ds') (VL.one b (.dK ws')) (upd H b (.dK ws')) (Same.refl _) (by unfold Own; exact ⟨b, ws', rfl, rfl, r'⟩) (by rw [upd_ne hab]; exact T.at_) (same_one upd_same) (keepU (of_dis_one dF) A.FH) (keepU (of_dis_one dZ) A.ZH) (fun G sG dG => keepU (of_dis_one dG) sG) A.FZ (one_ne hab) (fun G dG => dis_at dG) (dis_at dF) (dis_at dZ) (fun G _ d1 _ => d1) T.Fa
/-- an owned part put behind -/
theorem AtR.pushT (A : AtR K pn Z F Γ σ h hr H) (w : Own K F o v hr) (e : Γ[i]? = some (some (.tr ts))) : ∃ a vs, σ[i]? = some (some (.ref a)) ∧ H a = some (.lst vs) ∧ vs.length = ts.length ∧ ∃ h', At K pn Z F (Γ.set i (some (.tr (ts ++ [o])))) σ h' (upd H a (.lst (vs ++ [v]))) := by
  obtain ⟨a, vs, hT, g, T⟩ := A.at_.changeT e
  obtain ⟨d1, d2, d3⟩ := T.ph hr A.rh.symm
  refine ⟨a, vs, T.sl, T.at_, T.own.len, _, T.put F (ts ++ [o]) (vs ++ [v]) (jn hT hr) _ (Same.refl _) (T.own.app w d1) upd_same (same_jn (keepU T.Ta T.TH) (keepU d3 A.rH)) (keepU T.Fa A.at_.FH) (keepU T.Za A.at_.ZH) (keepU T.ga T.gH) A.at_.FZ (by rw [jn_r T.Ta]; exact d3) (Dis.jn T.Tg d2.symm) (Dis.jn T.TF A.rF) (Dis.jn T.TZ A.rZ) T.gF T.Fa⟩
/-- an element put anew (what stood there is dropped) -/
theorem AtR.putT (A : AtR K pn Z F Γ σ h hr H) (w : Own K F o v hr) (e : Γ[i]? = some (some (.tr ts))) (hk : k < ts.length) : ∃ a vs, σ[i]? = some (some (.ref a)) ∧ H a = some (.lst vs) ∧ vs.length = ts.length ∧ ∃ h', At K pn Z F (Γ.set i (some (.tr (ts.set k o)))) σ h' (upd H a (.lst (vs.set k v))) := by
  obtain ⟨a, vs, hT, g, T⟩ := A.at_.changeT e
  obtain ⟨d1, d2, d3⟩ := T.ph hr A.rh.symm
  obtain ⟨u, h1, h2, a1, rfl, d12, w1, put, _⟩ := T.own.focus (List.getElem?_eq_getElem hk)
  have s2 : Same h2 (jn h1 h2) := same_r d12
  have e2 : Dis hr h2 := (Dis.sub s2 d1).symm
  refine ⟨a, vs, T.sl, T.at_, T.own.len, _, T.put F (ts.set k o) (vs.set k v) (jn hr h2) _ (Same.refl _) (put F o v hr (Same.refl _) w e2) upd_same (same_jn (keepU d3 A.rH) (keepU (s2.free T.Ta) (s2.trans T.TH))) (keepU T.Fa A.at_.FH) (keepU T.Za A.at_.ZH) (keepU T.ga T.gH) A.at_.FZ (by rw [jn_r d3]; exact s2.free T.Ta) (Dis.jn d2.symm (Dis.sub s2 T.Tg)) (Dis.jn A.rF (Dis.sub s2 T.TF)) (Dis.jn A.rZ (Dis.sub s2 T.TZ)) T.gF T.Fa⟩
/-- an element taken out -/
theorem At.takeT (A : At K pn Z F Γ σ h H) (e : Γ[i]? = some (some (.tr ts))) (e1 : ts[k]? = some o) : ∃ a vs v, σ[i]? = some (some (.ref a)) ∧ H a = some (.lst vs) ∧ vs.length = ts.length ∧ vs[k]? = some v ∧ ∃ h' hr, AtR K pn Z F (Γ.set i (some (.tr (ts.eraseIdx k)))) σ h' hr (upd H a (.lst (vs.eraseIdx k))) ∧ Own K F o v hr := by
  obtain ⟨a, vs, hT, g, T⟩ := A.changeT e
  obtain ⟨v, h1, h2, a1, rfl, d12, w1, _, er⟩ := T.own.focus e1
  have s1 : Same h1 (jn h1 h2) := same_l
  have s2 : Same h2 (jn h1 h2) := same_r d12
  refine ⟨a, vs, v, T.sl, T.at_, T.own.len, a1, _, h1, ⟨T.put F (ts.eraseIdx k) (vs.eraseIdx k) h2 _ (Same.refl _) er upd_same (keepU (s2.free T.Ta) (s2.trans T.TH)) (keepU T.Fa A.FH) (keepU T.Za A.ZH) (keepU T.ga T.gH) A.FZ (s2.free T.Ta) (Dis.sub s2 T.Tg) (Dis.sub s2 T.TF) (Dis.sub s2 T.TZ) T.gF T.Fa, keepU (s1.free T.Ta) (s1.trans T.TH), ?_, Dis.sub s1 T.TF, Dis.sub s1 T.TZ⟩, w1⟩
  exact (Dis.jn (Dis.jn (dis_one (s1.free T.Ta)) d12.symm) (Dis.sub s1 T.Tg).symm).symm
end
end VL
end
section
namespace VL
open PySem PySem.Spec L2

/-! ### an element of a slot's tree, as it stands -/
abbrev EE := Ga → (Nat → Nat → Ga → Prop) → Prop
def ElV (σ : St) (H : Hp) (i k : Nat) (v : V) : Prop := ∃ a vs, σ[i]? = some (some (.ref a)) ∧ H a = some (.lst vs) ∧ vs[k]? = some v
def elG (Γ : Ga) (i k : Nat) : Option O := match Γ[i]? with
  | some (some (.tr ts)) => ts[k]?
  | _ => none
def elD : O → Option PyData
  | .fz d => some d
  | .ls ds => some (.list ds)
  | _ => none
def lE (K : PySem.W.Frag) (τ : EE) : TE := fun σ H QV => ∃ pn Z F Γ h Q, At K pn Z F Γ σ h H ∧ τ Γ Q ∧ ∀ F' Γ' h' H' i k v, Same F F' → At K pn Z F' Γ' σ h' H' → ElV σ H' i k v → Q i k Γ' → QV v H'
def eEl (i : Nat) (τ : EX) : EE := fun Γ Q => (∃ ts, Γ[i]? = some (some (.tr ts))) ∧ τ Γ fun a Γ1 => ∃ ts z k, Γ1[i]? = some (some (.tr ts)) ∧ rslv Γ1 a = some (.int z) ∧ ixN ts.length z = some k ∧ Q i k Γ1
theorem ixN_lt {n k : Nat} {z : Int} (h : ixN n z = some k) : k < n := by
  unfold ixN at h
  split at h
  · split at h
    · cases h; omega
    · cases h
  · split at h
    · cases h; omega
    · cases h
theorem elG_some {Γ : Ga} {i k : Nat} {o : O} (h : elG Γ i k = some o) : ∃ ts, Γ[i]? = some (some (.tr ts)) ∧ ts[k]? = some o := by
  unfold elG at h
  split at h
  · rename_i ts e; exact ⟨ts, e, h⟩
  · cases h
section
variable {K : PySem.W.Frag} {pn : List (Nat × V)} {Z F F' : Hp} {Γ : Ga} {σ : St} {h hr H H' : Hp} {v : V} {o : O} {d : PyData} {ts : List O} {i k : Nat}
theorem At.root (A : At K pn Z F Γ σ h H) (e : Γ[i]? = some (some (.tr ts))) : ∃ a vs, σ[i]? = some (some (.ref a)) ∧ H a = some (.lst vs) ∧ vs.length = ts.length := by
  obtain ⟨a, vs, hT, g, T⟩ := A.changeT e
  exact ⟨a, vs, T.sl, T.at_, T.own.len⟩
theorem rep_el (A : At K pn Z F Γ σ h H) (r : ElV σ H i k v) (e : elG Γ i k = some o) (e2 : elD o = some d) : RepS K F H d v := by
  obtain ⟨ts, e1, e3⟩ := elG_some e
  obtain ⟨a, vs, hT, g, T⟩ := A.changeT e1
  obtain ⟨u, h1, a1, w1, sh, _⟩ := T.elem A e3
  obtain ⟨b, ws, r1, r2, r3⟩ := r
  have x := T.sl
  rw [r1] at x; cases x
  have y := T.at_
  rw [r2] at y; cases y
  rw [a1] at r3; cases r3
  cases o with
  | fz d' => cases e2; exact .inl (own_fz.mp w1).2
  | ls ds =>
    cases e2
    obtain ⟨c, us, rfl, rfl, q⟩ := own_ls.mp w1
    exact .inr ⟨c, us, ds, rfl, rfl, sh _ _ one_at, q⟩
  | dk _ => cases e2
  | rs _ => cases e2
  | tr _ => cases e2
  | td _ _ => cases e2
end
section
variable {X : Cx} {e o idx : Expr} {es : List Expr} {τ τk τv : EX} {τe : EE} {τo : EO} {τs : EA} {p pos cpos apos : Pos} {id T : String} {cd : List PyData → (O → Prop) → Prop} {x : Str}
theorem ve_el (i : Nat) (ho : PE X o (tVar i)) (hx : PE X idx (lX X.K τ)) (hs : PlainIx idx := by intro _ _; rfl) : PE X (.Subscript o idx pos) (lE X.K (eEl i τ)) :=
  pe_imp (pe_ix ix_list ho hx hs) fun σ H QV ⟨pn, Z, F, Γ, hh, Q, A, ⟨⟨ts0, e0⟩, q⟩, k⟩ => by
    obtain ⟨a, vs0, s0, _, _⟩ := A.root e0
    refine ⟨.ref a, s0, pn, Z, F, Γ, hh, _, A, q, fun F1 Γ1 h1 H1 av y s1 A1 r1 ⟨ts, z, kk, e1, e2, e3, q1⟩ => ?_⟩
    obtain ⟨b, vs, s2, hb, hl⟩ := A1.root e1
    rw [s0] at s2; cases s2
    have hk : kk < vs.length := by rw [hl]; exact ixN_lt e3
    refine ⟨a, vs, z, vs[kk], rfl, (rep_of A1 r1 e2).int, SqL.of hb, ?_, k F1 Γ1 h1 H1 i kk _ s1 A1 ⟨a, vs, s0, hb, List.getElem?_eq_getElem hk⟩ q1⟩
    unfold atI
    rw [hl, e3]
    exact List.getElem?_eq_getElem hk
/-! calls with an element -/
def eCBE (cd : List PyData → (O → Prop) → Prop) (τe : EE) : EO := fun Γ Q => τe Γ fun i k Γ1 => ∃ o d, elG Γ1 i k = some o ∧ elD o = some d ∧ cd [d] fun o => Q o Γ1
theorem cbe_read {σ : St} {H : Hp} {QV : VK} (h : lO X.K (eCBE cd τe) σ H QV) : lE X.K τe σ H fun v H1 => ∃ F ds Q, Same F H1 ∧ RepL X.K F H1 ds [v] ∧ cd ds Q ∧ OpPost X.K F H1 Q QV := by
  obtain ⟨pn, Z, F, Γ, hh, Q, A, q, kk⟩ := h
  exact ⟨pn, Z, F, Γ, hh, _, A, q, fun F1 Γ1 h1 H1 i k v s1 A1 r1 ⟨o, d, e1, e2, q1⟩ => ⟨F1, [d], _, A1.FH, .cons (rep_el A1 r1 e1 e2) .nil, q1, A1.post s1 kk⟩⟩
theorem vo_cbE (hc : CallD X (.builtin id) cd) (hg : Gl X x) (hm : X.mg x = none) (hv : bootBuiltins x = some (.builtin id)) (he : PE X e (lE X.K τe)) (hn : x ≠ "__name__" := by decide) (hdb : (x == ("__debug__" : Str)) = false := by decide)
    (hs : starEach [e] X.env = (false, eval e X.env) :: starEach [] X.env := by rfl) : PE X (.Call (.Name x p) [e] [] pos) (lO X.K (eCBE cd τe)) :=
  pe_imp (pe_callB hc hg hm hv (pa_cons he pa_nil hs) hn hdb hs rfl) fun σ H QV h => cbe_read h
theorem vo_ctyE (hc : CallD X (.type T) cd) (hg : Gl X x) (hm : X.mg x = none) (hv : bootBuiltins x = some (.type T)) (he : PE X e (lE X.K τe)) (hn : x ≠ "__name__" := by decide) (hdb : (x == ("__debug__" : Str)) = false := by decide)
    (hs : starEach [e] X.env = (false, eval e X.env) :: starEach [] X.env := by rfl) : PE X (.Call (.Name x p) [e] [] pos) (lO X.K (eCBE cd τe)) :=
  pe_imp (pe_callTy hc hg hm hv (pa_cons he pa_nil hs) hn hdb hs rfl) fun σ H QV h => cbe_read h
/-! truth of an element -/
def tTruE (τe : EE) : ET := fun Γ Q => τe Γ fun i k Γ1 => ∃ o d c, elG Γ1 i k = some o ∧ elD o = some d ∧ truD d = some c ∧ Q c Γ1
theorem vt_truE (h : PE X e (lE X.K τe)) (he : ∀ whole, isTrue e X.env whole = (do let v ← whole; standAt e.pos; holding [v] (truthy v)) := by intro _; rfl) : PT X e (lT X.K (tTruE τe)) :=
  pt_imp (pt_truth h he) fun σ H QV ⟨pn, Z, F, Γ, hh, Q, A, q, kk⟩ => ⟨pn, Z, F, Γ, hh, _, A, q, fun F1 Γ1 h1 H1 i k v s1 A1 r1 ⟨o, d, c, e1, e2, e3, q1⟩ => ⟨c, tru_of A1.FH (rep_el A1 r1 e1 e2) e3, kk F1 Γ1 h1 H1 c s1 A1 q1⟩⟩
/-! an element frozen and read -/
def xEl (τe : EE) : EX := fun Γ Q => τe Γ fun i k Γ1 => ∃ ts o d Γ2, Γ1[i]? = some (some (.tr ts)) ∧ ts[k]? = some o ∧ o.frz = some d ∧ setG Γ1 i (some (.tr (ts.set k (.fz d)))) = some Γ2 ∧ Q (.d d) Γ2
theorem vx_el (h : PE X e (lE X.K τe)) : PE X e (lX X.K (xEl τe)) := pe_imp h fun σ H QV ⟨pn, Z, F, Γ, hh, Q, A, q, kk⟩ => ⟨pn, Z, F, Γ, hh, _, A, q, fun F1 Γ1 h1 H1 i k v s1 A1 r1 ⟨ts, o, d, Γ2, e1, e2, e3, e4, q1⟩ => by
  obtain ⟨F2, h2, a, vs, u, s2, b1, b2, b3, A2, rd⟩ := A1.frzE e1 e2 e3
  obtain ⟨a', vs', c1, c2, c3⟩ := r1
  rw [b1] at c1; cases c1
  rw [b2] at c2; cases c2
  rw [b3] at c3; cases c3
  rw [(setG_eq e4).1] at A2
  exact kk F2 Γ2 h2 H1 (.d d) _ (s1.trans s2) A2 rd q1⟩
/-! the slot shut while what stands behind is reckoned -/
def lockG (Γ : Ga) (i : Nat) (τ : Ga → (Ga → Prop) → Prop) (Q : Ga → Prop) : Prop := ∃ o Γ1, Γ[i]? = some (some o) ∧ setG Γ i none = some Γ1 ∧ τ Γ1 fun Γ2 => Γ2[i]? = some none ∧ ∃ Γ3, setG Γ2 i (some o) = some Γ3 ∧ Q Γ3
end
section
variable {K : PySem.W.Frag} {pn : List (Nat × V)} {Z F F' : Hp} {Γ Γ1 : Ga} {σ : St} {h hr H H' : Hp} {v : V} {o : O} {d : PyData} {ts : List O} {i k : Nat}
/-- a slot's part kept aside -/
theorem At.lock (A : At K pn Z F Γ σ h H) (e : Γ[i]? = some (some o)) (e2 : setG Γ i none = some Γ1) : ∃ v h1 hk, σ[i]? = some (some v) ∧ At K pn (jn Z hk) F Γ1 σ h1 H ∧ Own K F o v hk ∧ Dis Z hk := by
  obtain ⟨h2, hk, v, s1, w, A'⟩ := A.move e
  rw [(setG_eq e2).1] at A'
  exact ⟨v, h2, hk, s1, A'.keep, w, A'.rZ.symm⟩
theorem At.unlock {hk : Hp} (A : At K pn (jn Z hk) F' Γ σ h H) (d : Dis Z hk) (s : Same F F') (w : Own K F o v hk) (e : σ[i]? = some (some v)) (e2 : setG Γ i (some o) = some Γ1) : ∃ h', At K pn Z F' Γ1 σ h' H := by
  obtain ⟨q1, q2⟩ := setG_eq e2
  obtain ⟨h', A', _⟩ := (A.unkeep d).restore (w.mono s) q2 e
  rw [q1] at A'
  exact ⟨h', A'⟩
/-- what stands in a part kept aside -/
theorem kept_el {hk H1 : Hp} {a : Addr} {vs : List V} {u : V} (w : Own K F o v hk) (s : Same hk H) (s1 : Same hk H1) (e : v = .ref a) (e1 : H a = some (.lst vs)) (et : o = .tr ts) (hl : vs[k]? = some u) : H1 a = some (.lst vs) := by
  subst e; subst et
  obtain ⟨b, ws, h', e2, rfl, _, _⟩ := own_tr.mp w
  cases e2
  have : H a = some (.lst ws) := s _ _ (jn_l one_at)
  rw [e1] at this; cases this
  exact s1 _ _ (jn_l one_at)
end
section
variable {X : Cx} {e o idx : Expr} {es : List Expr} {τ τk τv : EX} {τe : EE} {τo : EO} {τs : EA} {p pos cpos apos : Pos} {id T : String} {cd : List PyData → (O → Prop) → Prop} {x : Str}
/-! slot[k][j] -/
def eIxE (op : PyData → PyData → (O → Prop) → Prop) (τe : EE) (τ : EX) : EO := fun Γ Q => τe Γ fun i k Γ1 => ∃ o1 ts Γ2, o1 = .tr ts ∧ Γ1[i]? = some (some o1) ∧ setG Γ1 i none = some Γ2 ∧ τ Γ2 fun a Γ3 => ∃ el d1 d2 Γ4, rslv Γ3 a = some d2 ∧ ts[k]? = some el ∧ elD el = some d1 ∧ setG Γ3 i (some o1) = some Γ4 ∧ op d1 d2 fun o => Q o Γ4
theorem vo_ixE {opd : PyData → PyData → (O → Prop) → Prop} (ho : Ix2 X opd) (he : PE X e (lE X.K τe)) (hb : PE X idx (lX X.K τ)) (hs : PlainIx idx := by intro _ _; rfl) : PE X (.Subscript e idx pos) (lO X.K (eIxE opd τe τ)) :=
  pe_imp (pe_ix ho he hb hs) fun σ H QV ⟨pn, Z, F, Γ, hh, Q, A, q, kk⟩ => ⟨pn, Z, F, Γ, hh, _, A, q, fun F1 Γ1 h1 H1 i k v s1 A1 r1 ⟨o1, ts, Γ2, et, e1, e2, q1⟩ => by
    subst et
    obtain ⟨u, g1, hk, su, A2, w, dz⟩ := A1.lock e1 e2
    obtain ⟨a, vs, r1, r2, r3⟩ := r1
    refine ⟨pn, _, F1, Γ2, g1, _, A2, q1, fun F3 Γ3 h3 H3 av y s3 A3 r4 ⟨el, d1, d2, Γ4, e3, e4, e5, e6, q2⟩ => ?_⟩
    have ry := rep_of A3 r4 e3
    rw [r1] at su; cases su
    have e8 : H3 a = some (.lst vs) := kept_el w (fun x o z => A2.ZH _ _ (same_r dz _ _ z)) (fun x o z => A3.ZH _ _ (same_r dz _ _ z)) rfl r2 rfl r3
    obtain ⟨h5, A5⟩ := A3.unlock dz s3 w r1 e6
    have eG : elG Γ4 i k = some el := by
      unfold elG
      obtain ⟨x1, x2⟩ := setG_eq e6
      rw [← x1, List.getElem?_set_self x2]
      exact e4
    exact ⟨F3, d1, d2, _, A5.FH, rep_el A5 ⟨a, vs, r1, e8, r3⟩ eG e5, ry, q2, A5.post (s1.trans s3) kk⟩⟩
/-! methods of an element -/
def eSME (sm : SM) (τe : EE) (τs : EA) : EO := fun Γ Q => τe Γ fun i k Γ1 => ∃ o1 ts Γ2 ds, o1 = .tr ts ∧ Γ1[i]? = some (some o1) ∧ setG Γ1 i none = some Γ2 ∧ ts[k]? = some (.ls ds) ∧ τs Γ2 fun as Γ3 => ∃ ads Γ4, unD as = some ads ∧ setG Γ3 i (some o1) = some Γ4 ∧ sm ds ads fun ds' d => ∃ Γ5, setG Γ4 i (some (.tr (ts.set k (.ls ds')))) = some Γ5 ∧ Q (.fz d) Γ5
def eSME0 (sm : SM) (τe : EE) : EO := fun Γ Q => τe Γ fun i k Γ1 => ∃ ts ds, Γ1[i]? = some (some (.tr ts)) ∧ ts[k]? = some (.ls ds) ∧ sm ds [] fun ds' d => ∃ Γ5, setG Γ1 i (some (.tr (ts.set k (.ls ds')))) = some Γ5 ∧ Q (.fz d) Γ5
theorem vo_smE {name : Str} {sm : SM} (slot : Slot "list" name id) (hty : typeOf (.builtin id) = pure (.type "method_descriptor")) (hm : SlotM X id sm) (ho : PE X o (lE X.K τe)) (ha : PA X (e :: es) (lA X.K τs))
    (hbase : attributeBase o name X.env (eval o X.env) = eval o X.env := by rfl)
    (hfew : ((backTo cpos (starEach (e :: es) X.env)).all (fun x => !x.1) && (backToKw cpos (keywordEach [] X.env)).all (fun x => x.1.isSome)
      && decide ((e :: es).length + ([] : List Keyword).length + (if ([] : List Keyword).isEmpty then 0 else 1) < 30)) = true := by rfl)
    (hline : (apos.endLine == cpos.line) = true := by rfl) (hs : starEach (e :: es) X.env = (false, eval e X.env) :: starEach es X.env := by rfl) (hplain : (backTo cpos (starEach es X.env)).any (·.1) = false := by rfl) :
    PE X (.Call (.Attribute o name apos) (e :: es) [] cpos) (lO X.K (eSME sm τe τs)) :=
  pe_imp (pe_bm PySem.F.plainAttrs_list slot hty hm ho ha hbase hfew hline hs hplain) fun σ H QV ⟨pn, Z, F, Γ, hh, Q, A, q, kk⟩ => ⟨pn, Z, F, Γ, hh, _, A, q, fun F1 Γ1 h1 H1 i k v s1 A1 r1 ⟨o1, ts, Γ2, ds, et, e1, e2, e3, q1⟩ => by
    subst et
    obtain ⟨a, vs, r1, r2, r3⟩ := r1
    obtain ⟨a', vs', b, ws, b1, b2, b3, b4, _, _⟩ := A1.changeE e1 e3
    rw [r1] at b1; cases b1
    rw [r2] at b2; cases b2
    rw [r3] at b3; cases b3
    refine ⟨.inl ⟨rfl, ws, SqL.of b4⟩, ?_⟩
    obtain ⟨u, g1, hk, su, A2, w, dz⟩ := A1.lock e1 e2
    refine ⟨pn, _, F1, Γ2, g1, _, A2, q1, fun F3 Γ3 h3 H3 as xs s3 A3 r4 ⟨ads, Γ4, e4, e6, q2⟩ => ?_⟩
    rw [r1] at su; cases su
    have e8 : H3 a = some (.lst vs) := kept_el w (fun x o z => A2.ZH _ _ (same_r dz _ _ z)) (fun x o z => A3.ZH _ _ (same_r dz _ _ z)) rfl r2 rfl r3
    obtain ⟨h5, A5⟩ := A3.unlock dz s3 w r1 e6
    have eG : Γ4[i]? = some (some (.tr ts)) := by
      obtain ⟨x1, x2⟩ := setG_eq e6
      rw [← x1, List.getElem?_set_self x2]
    obtain ⟨a', vs', b', ws', c1, c2, c3, c4, c5, put⟩ := A5.changeE eG e3
    rw [r1] at c1; cases c1
    rw [e8] at c2; cases c2
    rw [r3] at c3; cases c3
    rw [unD_eq e4] at r4
    refine ⟨F3, b, ws', ds, ads, _, rfl, c4, A5.FH, c5, args_d r4, q2, fun vs2 ds2 v2 d2 rr rd ⟨Γ5, eΓ, q3⟩ => ?_⟩
    obtain ⟨h6, A6⟩ := put vs2 ds2 rr
    rw [(setG_eq eΓ).1] at A6
    exact kk F3 _ h6 emp _ (.fz d2) v2 (s1.trans s3) A6.alone ⟨rfl, rd⟩ q3⟩
theorem vo_smE0 {name : Str} {sm : SM} (slot : Slot "list" name id) (hty : typeOf (.builtin id) = pure (.type "method_descriptor")) (hm : SlotM X id sm) (ho : PE X o (lE X.K τe))
    (hbase : attributeBase o name X.env (eval o X.env) = eval o X.env := by rfl) (hline : (apos.endLine == cpos.line) = true := by rfl) :
    PE X (.Call (.Attribute o name apos) [] [] cpos) (lO X.K (eSME0 sm τe)) :=
  pe_imp (pe_bm0 PySem.F.plainAttrs_list slot hty hm ho hbase hline) fun σ H QV ⟨pn, Z, F, Γ, hh, Q, A, q, kk⟩ => ⟨pn, Z, F, Γ, hh, _, A, q, fun F1 Γ1 h1 H1 i k v s1 A1 r1 ⟨ts, ds, e1, e3, q2⟩ => by
    obtain ⟨a, vs, r1, r2, r3⟩ := r1
    obtain ⟨a', vs', b, ws, b1, b2, b3, b4, b5, put⟩ := A1.changeE e1 e3
    rw [r1] at b1; cases b1
    rw [r2] at b2; cases b2
    rw [r3] at b3; cases b3
    refine ⟨.inl ⟨rfl, ws, SqL.of b4⟩, ?_⟩
    refine ⟨F1, b, ws, ds, [], _, rfl, b4, A1.FH, b5, .nil, q2, fun vs2 ds2 v2 d2 rr rd ⟨Γ5, eΓ, q3⟩ => ?_⟩
    obtain ⟨h6, A6⟩ := put vs2 ds2 rr
    rw [(setG_eq eΓ).1] at A6
    exact kk F1 _ h6 emp _ (.fz d2) v2 s1 A6.alone ⟨rfl, rd⟩ q3⟩
/-! slot[k] = v -/
def sPut (i : Nat) (τk : EX) (τv : EO) : ES := fun D Γ => τv Γ fun o Γ1 => (∃ o1, Γ1[i]? = some (some o1) ∧ (∃ ts, o1 = .tr ts ∨ ∃ ds, o1 = .ls ds)) ∧ τk Γ1 fun a Γ2 => ∃ z k Γ3, rslv Γ2 a = some (.int z) ∧
  ((∃ ts, Γ2[i]? = some (some (.tr ts)) ∧ ixN ts.length z = some k ∧ setG Γ2 i (some (.tr (ts.set k o))) = some Γ3) ∨ (∃ ds d, Γ2[i]? = some (some (.ls ds)) ∧ o.frz = some d ∧ ixN ds.length z = some k ∧ setG Γ2 i (some (.ls (ds.set k d))) = some Γ3)) ∧ D.nx Γ3
theorem vs_put {io : Bool} {spos : Pos} (i : Nat) (ho : PE X o (tVar i)) (hk : PE X idx (lX X.K τk)) (hv : PE X e (lO X.K τo))
    (ha : ∀ (v : Value), assign (Expr.Subscript o idx pos) X.env v = (do let ov ← holding [v] (eval o X.env); let iv ← holding [v, ov] (eval idx X.env); standAt pos; holding [v, ov, iv] (setItem ov iv v); release [v, ov, iv] []) := by intro _; rfl)
    (hs : swapsWithSole [Expr.Subscript o idx pos] e spos.line X.env = pure false := by rfl) (hw : swappedStores [Expr.Subscript o idx pos] e X.env = pure none := by rfl)
    (h1 : (assignEach [Expr.Subscript o idx pos] X.env).map (·.2) = [assign (Expr.Subscript o idx pos) X.env] := by rfl) :
    PS X (.Assign [.Subscript o idx pos] e spos) (lS X.K io (sPut i τk τo)) :=
  ps_imp (ps_asg hv (pg_sub ho hk set_list ha) hs hw h1) fun D σ H ⟨v0, Z, F, Γ, h, DD, A, q, kk⟩ => ⟨_, Z, F, Γ, h, _, A, q, fun F1 Γ1 h1 hr1 H1 o1 v s1 A1 w1 ⟨⟨ox, e0, ts0, e0'⟩, q1⟩ => by
    have sl : ∃ a, σ[i]? = some (some (.ref a)) := by
      rcases e0' with rfl | ⟨ds, rfl⟩
      · obtain ⟨a, _, s, _⟩ := A1.at_.root e0
        exact ⟨a, s⟩
      · obtain ⟨a, _, s, _⟩ := A1.at_.changeL e0
        exact ⟨a, s⟩
    obtain ⟨a, sa⟩ := sl
    refine ⟨.ref a, sa, _, jn Z hr1, F1, Γ1, h1, _, A1.keep, q1, fun F2 Γ2 h2 H2 av y s2 A2 r2 ⟨z, k, Γ3, e1, e2, q2⟩ => ?_⟩
    have ry := (rep_of A2 r2 e1).int
    have B := A2.unkeep A1.rZ.symm
    rcases e2 with ⟨ts, e3, e4, e5⟩ | ⟨ds, d, e3, e6, e4, e5⟩
    · obtain ⟨b, vs, b1, b2, b3, h', A3⟩ := B.putT (w1.mono s2) e3 (ixN_lt e4)
      rw [sa] at b1; cases b1
      rw [(setG_eq e5).1] at A3
      exact ⟨a, vs, z, k, rfl, ry, b2, by rw [b3]; exact e4, kk.nx F2 Γ3 σ h' _ (s1.trans s2) A3 q2⟩
    · obtain ⟨F3, s3, A3, rd⟩ := B.frz (w1.mono s2) e6
      obtain ⟨b, vs, b1, b2, b3, put⟩ := A3.changeL e3
      rw [sa] at b1; cases b1
      obtain ⟨h', A4⟩ := put _ _ (RpAll.set rd k b3)
      rw [(setG_eq e5).1] at A4
      exact ⟨a, vs, z, k, rfl, ry, b2, by rw [b3.length]; exact e4, kk.nx F3 Γ3 σ h' _ ((s1.trans s2).trans s3) A4 q2⟩⟩
/-! slot[k][j] = v -/
def sPutE (τe : EE) (τj : EX) (τv : EX) : ES := fun D Γ => τv Γ fun av Γ1 => ∃ d, av = .d d ∧ τe Γ1 fun i k Γ2 => ∃ o1 ts ds Γ3, o1 = .tr ts ∧ Γ2[i]? = some (some o1) ∧ ts[k]? = some (.ls ds) ∧ setG Γ2 i none = some Γ3 ∧ τj Γ3 fun a Γ4 => ∃ z j Γ5, rslv Γ4 a = some (.int z) ∧ ixN ds.length z = some j ∧ setG Γ4 i (some o1) = some Γ5 ∧ ∃ Γ6, setG Γ5 i (some (.tr (ts.set k (.ls (ds.set j d))))) = some Γ6 ∧ D.nx Γ6
theorem vs_putE {io : Bool} {spos : Pos} (ho : PE X o (lE X.K τe)) (hk : PE X idx (lX X.K τk)) (hv : PE X e (lX X.K τv))
    (ha : ∀ (v : Value), assign (Expr.Subscript o idx pos) X.env v = (do let ov ← holding [v] (eval o X.env); let iv ← holding [v, ov] (eval idx X.env); standAt pos; holding [v, ov, iv] (setItem ov iv v); release [v, ov, iv] []) := by intro _; rfl)
    (hs : swapsWithSole [Expr.Subscript o idx pos] e spos.line X.env = pure false := by rfl) (hw : swappedStores [Expr.Subscript o idx pos] e X.env = pure none := by rfl)
    (h1 : (assignEach [Expr.Subscript o idx pos] X.env).map (·.2) = [assign (Expr.Subscript o idx pos) X.env] := by rfl) :
    PS X (.Assign [.Subscript o idx pos] e spos) (lS X.K io (sPutE τe τk τv)) :=
  ps_imp (ps_asg hv (pg_sub ho hk set_list ha) hs hw h1) fun D σ H ⟨v0, Z, F, Γ, h, DD, A, q, kk⟩ => ⟨_, Z, F, Γ, h, _, A, q, fun F1 Γ1 h1 H1 av v s1 A1 rv ⟨d, ed, q1⟩ => by
    subst ed
    refine ⟨_, Z, F1, Γ1, h1, _, A1, q1, fun F2 Γ2 h2 H2 i k u s2 A2 r1 ⟨o1, ts, ds, Γ3, et, e1, e3, e2, q2⟩ => ?_⟩
    subst et
    obtain ⟨a, vs, r1, r2, r3⟩ := r1
    obtain ⟨x, g1, hk, su, A3, w, dz⟩ := A2.lock e1 e2
    refine ⟨_, _, F2, Γ3, g1, _, A3, q2, fun F4 Γ4 h4 H4 aj y s4 A4 rj ⟨z, j, Γ5, ez, ej, e6, Γ6, e7, q3⟩ => ?_⟩
    have ry := (rep_of A4 rj ez).int
    rw [r1] at su; cases su
    have e8 : H4 a = some (.lst vs) := kept_el w (fun x o z => A3.ZH _ _ (same_r dz _ _ z)) (fun x o z => A4.ZH _ _ (same_r dz _ _ z)) rfl r2 rfl r3
    obtain ⟨h5, A5⟩ := A4.unlock dz s4 w r1 e6
    have eG : Γ5[i]? = some (some (.tr ts)) := by
      obtain ⟨x1, x2⟩ := setG_eq e6
      rw [← x1, List.getElem?_set_self x2]
    obtain ⟨a', vs', b', ws', c1, c2, c3, c4, c5, put⟩ := A5.changeE eG e3
    rw [r1] at c1; cases c1
    rw [e8] at c2; cases c2
    rw [r3] at c3; cases c3
    obtain ⟨h6, A6⟩ := put _ _ (RpAll.set (Rp.mono (s2.trans s4) rv) j c5)
    rw [(setG_eq e7).1] at A6
    exact ⟨b', ws', z, j, rfl, ry, c4, by rw [c5.length]; exact ej, kk.nx F4 Γ6 σ h6 _ ((s1.trans s2).trans s4) A6 q3⟩⟩
end
end VL
end
section
namespace VL
open PySem PySem.Spec L2

/-! ### lists of owned parts -/
abbrev EAO := Ga → (List O → Ga → Prop) → Prop
def lAO (K : PySem.W.Frag) (τ : EAO) : TA := fun σ H QV => ∃ pn Z F Γ h Q, At K pn Z F Γ σ h H ∧ τ Γ Q ∧ ∀ F' Γ' h' hr H' os vs, Same F F' → AtR K pn Z F' Γ' σ h' hr H' → OwnT K F' os vs hr → Q os Γ' → QV vs H'
def aoNil : EAO := fun Γ Q => Q [] Γ
def aoCons (τ : EO) (τs : EAO) : EAO := fun Γ Q => τ Γ fun o Γ1 => τs Γ1 fun os Γ2 => Q (o :: os) Γ2
def allFz : List O → Option (List PyData)
  | [] => some []
  | .fz d :: r => match allFz r with
    | some ds => some (d :: ds)
    | none => none
  | _ :: _ => none
theorem allFz_eq : ∀ {os : List O} {ds : List PyData}, allFz os = some ds → os = ds.map .fz
  | [], _, h => by cases h; rfl
  | .fz d :: r, ds, h => by
    unfold allFz at h
    split at h
    · rename_i xs e
      cases h
      rw [allFz_eq e]; rfl
    · cases h
  | .ls _ :: _, _, h => by simp [allFz] at h
  | .dk _ :: _, _, h => by simp [allFz] at h
  | .rs _ :: _, _, h => by simp [allFz] at h
  | .tr _ :: _, _, h => by simp [allFz] at h
  | .td _ _ :: _, _, h => by simp [allFz] at h
def mkL (os : List O) : O := match allFz os with
  | some ds => .ls ds
  | none => .tr os
def eTrL (τs : EAO) : EO := fun Γ Q => τs Γ fun os Γ1 => os.length ≤ sizeLine ∧ Q (mkL os) Γ1
section
variable {K : PySem.W.Frag} {pn : List (Nat × V)} {Z F F' : Hp} {Γ : Ga} {σ : St} {h hr hr' H H' : Hp} {v : V} {o : O} {os ts : List O} {vs : List V} {a : Addr}
theorem AtR.both {hr1 hr2 : Hp} (A : AtR K pn (jn Z hr1) F Γ σ h hr2 H) (d : Dis Z hr1) : AtR K pn Z F Γ σ h (jn hr1 hr2) H ∧ Dis hr1 hr2 := by
  have B := A.at_.unkeep d
  have dZ : Dis hr2 Z := (Dis.sub same_l A.rZ.symm).symm
  have d12 : Dis hr1 hr2 := Dis.sub (same_r d) A.rZ.symm
  exact ⟨⟨B.at_, same_jn B.rH A.rH, Dis.jn B.rh A.rh, Dis.jn B.rF A.rF, Dis.jn B.rZ dZ⟩, d12⟩
theorem own_mk (w : OwnT K F os vs hr) (ha : hr a = none) : Own K F (mkL os) (.ref a) (jn (one a (.lst vs)) hr) := by
  unfold mkL
  split
  · rename_i ds e
    rw [allFz_eq e] at w
    obtain ⟨r, rfl⟩ := ownT_fz.mp w
    rw [jn_emp]
    exact own_ls.mpr ⟨a, vs, rfl, rfl, r⟩
  · exact own_tr.mpr ⟨a, vs, hr, rfl, rfl, dis_one ha, w⟩
/-- a new list over a part beside -/
theorem AtR.newL (A : AtR K pn Z F Γ σ h hr H) (n : H a = none) : AtR K pn Z F Γ σ h (jn (one a (.lst vs)) hr) (upd H a (.lst vs)) ∧ hr a = none := by
  have hra := A.rH.free n
  refine ⟨⟨A.at_.grow (Grow.stay A.at_.FH (same_new n)), same_jn (same_one upd_same) (A.rH.trans (same_new n)), Dis.jn (dis_one (A.at_.hH.free n)) A.rh, Dis.jn (dis_one (A.at_.FH.free n)) A.rF, Dis.jn (dis_one (A.at_.ZH.free n)) A.rZ⟩, hra⟩
theorem own_ls_tr {ds : List PyData} : Own K F (.ls ds) v h ↔ Own K F (.tr (ds.map .fz)) v h := by
  constructor
  · intro w
    obtain ⟨a, vs, rfl, rfl, r⟩ := own_ls.mp w
    exact own_tr.mpr ⟨a, vs, emp, rfl, by rw [jn_emp], Dis.emp.symm, ownT_fz.mpr ⟨r, rfl⟩⟩
  · intro w
    obtain ⟨a, vs, h', rfl, rfl, _, q⟩ := own_tr.mp w
    obtain ⟨r, rfl⟩ := ownT_fz.mp q
    exact own_ls.mpr ⟨a, vs, rfl, by rw [jn_emp], r⟩
theorem At.asT {i : Nat} {ds : List PyData} (A : At K pn Z F Γ σ h H) (e : Γ[i]? = some (some (.ls ds))) : At K pn Z F (Γ.set i (some (.tr (ds.map .fz)))) σ h H := by
  obtain ⟨v, h1, h2, a1, rfl, a3, a4, a5⟩ := A.own.focus e
  have q := a5 F _ v h1 (Same.refl _) (own_ls_tr.mp a4) a3
  rw [set_self a1] at q
  exact ⟨q, A.hH, A.FH, A.ZH, A.FZ, A.hF, A.hZ, A.pin⟩
end
section
variable {X : Cx} {e : Expr} {es : List Expr} {τo : EO} {τs : EAO} {pos : Pos}
theorem vao_nil : PA X [] (lAO X.K aoNil) := pa_imp pa_nil fun σ H QV ⟨pn, Z, F, Γ, hh, Q, A, q, k⟩ => k F Γ hh emp H [] [] (Same.refl _) A.alone (ownT_nil.mpr ⟨rfl, rfl⟩) q
theorem vao_cons (ha : PE X e (lO X.K τo)) (hr : PA X es (lAO X.K τs)) (hs : starEach (e :: es) X.env = (false, eval e X.env) :: starEach es X.env := by rfl) : PA X (e :: es) (lAO X.K (aoCons τo τs)) :=
  pa_imp (pa_cons ha hr hs) fun σ H QV ⟨pn, Z, F, Γ, hh, Q, A, q, k⟩ => ⟨pn, Z, F, Γ, hh, _, A, q, fun F1 Γ1 h1 hr1 H1 o v s1 A1 w1 q1 => ⟨pn, jn Z hr1, F1, Γ1, h1, _, A1.keep, q1, fun F2 Γ2 h2 hr2 H2 os vs s2 A2 w2 q2 => by
    obtain ⟨B, d⟩ := A2.both A1.rZ.symm
    exact k F2 Γ2 h2 _ H2 (o :: os) (v :: vs) (s1.trans s2) B (ownT_cons.mpr ⟨v, vs, hr1, hr2, rfl, rfl, d, w1.mono s2, w2⟩) q2⟩⟩
theorem vo_trL (h : PA X es (lAO X.K τs)) : PE X (.List es pos) (lO X.K (eTrL τs)) :=
  pe_imp (pe_lst h) fun σ H QV ⟨pn, Z, F, Γ, hh, Q, A, q, k⟩ => ⟨pn, Z, F, Γ, hh, _, A, q, fun F1 Γ1 h1 hr1 H1 os vs s1 A1 w1 ⟨z, q1⟩ =>
    ⟨by rw [w1.len]; exact z, fun p n => by
      obtain ⟨B, ha⟩ := A1.newL (vs := vs) n
      exact k F1 Γ1 h1 _ _ (mkL os) _ s1 B (own_mk w1 ha) q1⟩⟩
end

/-! ### methods of a slot's list: its parts may be owned -/
section
variable {X : Cx} {o e : Expr} {τo : EO} {τs : EA} {apos cpos pos p : Pos}
def listG (Γ : Ga) (i : Nat) : Prop := (∃ ds, Γ[i]? = some (some (.ls ds))) ∨ ∃ ts, Γ[i]? = some (some (.tr ts))
theorem listG_at {K : PySem.W.Frag} {pn : List (Nat × V)} {Z F : Hp} {Γ : Ga} {σ : St} {h H : Hp} {i : Nat} (A : At K pn Z F Γ σ h H) (l : listG Γ i) : ∃ a vs, σ[i]? = some (some (.ref a)) ∧ H a = some (.lst vs) := by
  rcases l with ⟨ds, e⟩ | ⟨ts, e⟩
  · obtain ⟨a, vs, e1, e2, _, _⟩ := A.changeL e
    exact ⟨a, vs, e1, e2⟩
  · obtain ⟨a, vs, e1, e2, _⟩ := A.root e
    exact ⟨a, vs, e1, e2⟩
/-- xs.append(e): t tells whether xs is to be a tree -/
def appO (t : Bool) (i : Nat) (o : O) (Γ1 : Ga) (Q : O → Ga → Prop) : Prop := match Γ1[i]? with
  | some (some (.ls ds)) => ds.length < sizeLine ∧ (if t = true then ∃ Γ2, setG Γ1 i (some (.tr (ds.map .fz ++ [o]))) = some Γ2 ∧ Q (.fz .none) Γ2 else ∃ d, o.frz = some d ∧ ∃ Γ2, setG Γ1 i (some (.ls (ds ++ [d]))) = some Γ2 ∧ Q (.fz .none) Γ2)
  | some (some (.tr ts)) => ts.length < sizeLine ∧ ∃ Γ2, setG Γ1 i (some (.tr (ts ++ [o]))) = some Γ2 ∧ Q (.fz .none) Γ2
  | _ => False
def eApp (t : Bool) (i : Nat) (τo : EO) : EO := fun Γ Q => listG Γ i ∧ τo Γ fun o Γ1 => appO t i o Γ1 Q
theorem vo_app (t : Bool) (i : Nat) (ho : PE X o (tVar i)) (ha : PE X e (lO X.K τo))
    (hbase : attributeBase o "append" X.env (eval o X.env) = eval o X.env := by rfl)
    (hfew : ((backTo cpos (starEach [e] X.env)).all (fun x => !x.1) && (backToKw cpos (keywordEach [] X.env)).all (fun x => x.1.isSome)
      && decide ([e].length + ([] : List Keyword).length + (if ([] : List Keyword).isEmpty then 0 else 1) < 30)) = true := by rfl)
    (hline : (apos.endLine == cpos.line) = true := by rfl) (hs : starEach [e] X.env = (false, eval e X.env) :: starEach [] X.env := by rfl) :
    PE X (.Call (.Attribute o "append" apos) [e] [] cpos) (lO X.K (eApp t i τo)) :=
  pe_imp (pe_bm PySem.F.plainAttrs_list PySem.F.slot_list_append PySem.F.type_list_append mt_append ho (pa_cons ha pa_nil hs) hbase hfew hline hs) fun σ H QV ⟨pn, Z, F, Γ, hh, Q, A, ⟨l, q⟩, k⟩ => by
    obtain ⟨a, vs, e1, e2⟩ := listG_at A l
    refine ⟨.ref a, e1, .inl ⟨rfl, vs, SqL.of e2⟩, pn, Z, F, Γ, hh, _, A, q, fun F1 Γ1 h1 hr H1 o v s1 A1 w q1 => ?_⟩
    unfold appO at q1
    split at q1
    · rename_i ds eG
      obtain ⟨hl, q1⟩ := q1
      cases t with
      | true =>
        rw [if_pos rfl] at q1
        obtain ⟨Γ2, eΓ, q2⟩ := q1
        have A2 : AtR X.K pn Z F1 (Γ1.set i (some (.tr (ds.map .fz)))) σ h1 hr H1 := ⟨A1.at_.asT eG, A1.rH, A1.rh, A1.rF, A1.rZ⟩
        obtain ⟨z1, z2⟩ := setG_eq eΓ
        obtain ⟨b, ws, b1, b2, b3, h', A3⟩ := A2.pushT w (List.getElem?_set_self z2)
        rw [e1] at b1; cases b1
        rw [List.set_set, z1] at A3
        exact ⟨a, ws, v, rfl, rfl, b2, by rw [b3, List.length_map]; exact hl, k F1 Γ2 h' emp _ (.fz .none) .non s1 A3.alone ⟨rfl, .non⟩ q2⟩
      | false =>
        rw [if_neg Bool.false_ne_true] at q1
        obtain ⟨d, ed, Γ2, eΓ, q2⟩ := q1
        obtain ⟨F2, s2, A2, rd⟩ := A1.frz w ed
        obtain ⟨b, ws, b1, b2, b3, put⟩ := A2.changeL eG
        rw [e1] at b1; cases b1
        obtain ⟨h', A3⟩ := put _ _ (b3.append (.one rd))
        rw [(setG_eq eΓ).1] at A3
        exact ⟨a, ws, v, rfl, rfl, b2, by rw [b3.length]; exact hl, k F2 Γ2 h' emp _ (.fz .none) .non (s1.trans s2) A3.alone ⟨rfl, .non⟩ q2⟩
    · rename_i ts eG
      obtain ⟨hl, Γ2, eΓ, q2⟩ := q1
      obtain ⟨b, ws, b1, b2, b3, h', A3⟩ := A1.pushT w eG
      rw [e1] at b1; cases b1
      rw [(setG_eq eΓ).1] at A3
      exact ⟨a, ws, v, rfl, rfl, b2, by rw [b3]; exact hl, k F1 Γ2 h' emp _ (.fz .none) .non s1 A3.alone ⟨rfl, .non⟩ q2⟩
    · exact q1.elim
theorem erase_last {α : Type} (l : List α) : l.eraseIdx (l.length - 1) = l.dropLast := by
  rw [List.dropLast_eq_take]
  rcases List.eq_nil_or_concat l with rfl | ⟨l', x, rfl⟩
  · rfl
  · rw [List.eraseIdx_eq_take_drop_succ]
    simp
/-- xs.pop() -/
def ePop (i : Nat) : EO := fun Γ Q => match Γ[i]? with
  | some (some (.ls ds)) => ∃ x Γ2, ds[ds.length - 1]? = some x ∧ setG Γ i (some (.ls ds.dropLast)) = some Γ2 ∧ Q (.fz x) Γ2
  | some (some (.tr ts)) => ∃ x Γ2, ts[ts.length - 1]? = some x ∧ setG Γ i (some (.tr ts.dropLast)) = some Γ2 ∧ Q x Γ2
  | _ => False
theorem vo_pop (i : Nat) (ho : PE X o (tVar i)) (hbase : attributeBase o "pop" X.env (eval o X.env) = eval o X.env := by rfl) (hline : (apos.endLine == cpos.line) = true := by rfl) : PE X (.Call (.Attribute o "pop" apos) [] [] cpos) (lO X.K (ePop i)) :=
  pe_imp (pe_bm0 PySem.F.plainAttrs_list PySem.F.slot_list_pop PySem.F.type_list_pop mt_pop ho hbase hline) fun σ H QV ⟨pn, Z, F, Γ, hh, Q, A, q, k⟩ => by
    unfold ePop at q
    split at q
    · rename_i ds eG
      obtain ⟨x, Γ2, ex, eΓ, q⟩ := q
      obtain ⟨a, vs, b1, b2, b3, put⟩ := A.changeL eG
      obtain ⟨w, hw, rw'⟩ := b3.getd ex
      obtain ⟨h', A3⟩ := put _ _ b3.dropLast
      rw [(setG_eq eΓ).1] at A3
      exact ⟨.ref a, b1, .inl ⟨rfl, vs, SqL.of b2⟩, a, vs, w, rfl, rfl, b2, by rw [b3.length]; exact hw, k F Γ2 h' emp _ (.fz x) w (Same.refl _) A3.alone ⟨rfl, rw'⟩ q⟩
    · rename_i ts eG
      obtain ⟨x, Γ2, ex, eΓ, q⟩ := q
      obtain ⟨a, vs, v, b1, b2, b3, b4, h', hr, A3, w⟩ := A.takeT eG ex
      have e3 : ts.eraseIdx (ts.length - 1) = ts.dropLast := erase_last ts
      have e4 : vs.eraseIdx (ts.length - 1) = vs.dropLast := by rw [← b3]; exact erase_last vs
      rw [e3, e4, (setG_eq eΓ).1] at A3
      exact ⟨.ref a, b1, .inl ⟨rfl, vs, SqL.of b2⟩, a, vs, v, rfl, rfl, b2, by rw [b3]; exact b4, k F Γ2 h' hr _ x v (Same.refl _) A3 w q⟩
    · exact q.elim
/-- len(xs) -/
def eLenS (i : Nat) : EO := fun Γ Q => match Γ[i]? with
  | some (some (.tr ts)) => Q (.fz (.int (ts.length : Nat))) Γ
  | _ => ∃ d, rslv Γ (.s i) = some d ∧ cdLen [d] fun o => Q o Γ
theorem vo_lenS (i : Nat) (hg : Gl X "len") (hm : X.mg "len" = none) (ho : PE X o (tVar i)) (hs : starEach [o] X.env = (false, eval o X.env) :: starEach [] X.env := by rfl) : PE X (.Call (.Name "len" p) [o] [] pos) (lO X.K (eLenS i)) := by
  refine pe_imp (pe_callB (id := "len") (r := fun vs H Q => (∃ a vs', vs = [.ref a] ∧ H a = some (.lst vs') ∧ Q (.int (vs'.length : Nat)) H) ∨ ∃ F ds Q', Same F H ∧ RepL X.K F H ds vs ∧ cdLen ds Q' ∧ OpPost X.K F H Q' Q) ?_ hg hm (by decide +kernel) (pa_cons ho pa_nil hs) (by decide) (by decide) hs rfl) ?_
  · intro pins s σ H xs us Q I rx h
    rcases h with ⟨a, vs', rfl, ha, q⟩ | h
    · exact call_len_seq pins s σ H _ us Q I rx ⟨a, vs', rfl, .inl (SqL.of ha), q⟩
    · exact cd_len pins s σ H xs us Q I rx h
  · intro σ H QV ⟨pn, Z, F, Γ, hh, Q, A, q, k⟩
    unfold eLenS at q
    split at q
    · rename_i ts eG
      obtain ⟨a, vs, e1, e2, e3⟩ := A.root eG
      exact ⟨.ref a, e1, .inl ⟨a, vs, rfl, e2, by rw [e3]; exact k F Γ hh emp H (.fz (.int (ts.length : Nat))) _ (Same.refl _) A.alone ⟨rfl, .int _⟩ q⟩⟩
    · obtain ⟨d, ed, q⟩ := q
      have : ∃ v, σ[i]? = some (some v) := by
        cases e2 : Γ[i]? with
        | none => simp [rslv, e2] at ed
        | some y =>
          cases y with
          | none => simp [rslv, e2] at ed
          | some o =>
            obtain ⟨v, h1, s1, _⟩ := A.slot e2
            exact ⟨v, s1⟩
      obtain ⟨v, sv⟩ := this
      exact ⟨v, sv, .inr ⟨F, [d], _, A.FH, .cons (rep_of A (a := .s i) sv ed) .nil, q, A.post (Same.refl _) k⟩⟩
end

/-! ### a comprehension whose items are owned -/
def eLcO (τi : EI) (g : EG) (tt : ET) (te : EO) (vs : List Nat) : EO := fun Γ Q => τi Γ fun ds Γ1 => Plain Γ1 vs ∧ ∃ I : Nat → List O → Ga → Prop, I 0 [] Γ1 ∧
  (∀ i d acc Γ', ds[i]? = some d → I i acc Γ' → (∀ j ∈ vs, Γ'[j]? = Γ1[j]?) → ∃ Γw, nrm (wipeG Γ' vs) = some Γw ∧ g d Γw fun Γ2 => tt Γ2 fun b Γ3 => Br b (te Γ3 fun o Γ4 => acc.length < sizeLine ∧ ∃ Γb, nrm (backG Γ1 Γ4 vs) = some Γb ∧ I (i + 1) (acc ++ [o]) Γb) (∃ Γb, nrm (backG Γ1 Γ3 vs) = some Γb ∧ I (i + 1) acc Γb)) ∧
  ∀ acc Γ', I ds.length acc Γ' → Q (.tr acc) Γ'
theorem lcO_read {K : PySem.W.Frag} {τi : EI} {g : EG} {tt : ET} {te : EO} {ws vs : List Nat} (hw : ∀ i ∈ ws, i ∈ vs) {σ : St} {H : Hp} {QV : VK} (hh : lO K (eLcO τi g tt te vs) σ H QV) : tLc (lI K τi) (lG K false ws g) (lT K tt) (lO K te) vs σ H QV := by
  obtain ⟨pn, Z, F, Γ, h, Q, A, q, k⟩ := hh
  refine ⟨pn, Z, F, Γ, h, _, A, q, fun F1 Γ1 h1 H1 J ds s1 A1 ok ⟨pl, I, i0, turn, fin⟩ D hD => ?_⟩
  have l1 := A1.own.len
  refine ⟨fun i m H' => m = ds.length - i ∧ i ≤ ds.length ∧ ∃ F' Γ' h' acc xs hT, Same F1 F' ∧ AtR K pn Z F' Γ' σ h' (jn (VL.one D (.lst xs)) hT) H' ∧ hT D = none ∧ OwnT K F' acc xs hT ∧ (∀ j ∈ vs, Γ'[j]? = Γ1[j]?) ∧ I i acc Γ',
    ⟨ds.length, by simp, Nat.zero_le _, F1, Γ1, h1, [], [], emp, Same.refl _, (A1.alone.newL hD).1, rfl, ownT_nil.mpr ⟨rfl, rfl⟩, fun _ _ => rfl, i0⟩, ?_⟩
  rintro i m H2 ⟨rfl, hi, F2, Γ2, h2, acc, xs, hT, s2, A2, tD, ra, sl, w2⟩
  by_cases hlt : i < ds.length
  · refine .inr ⟨ok.go F2 H2 i s2 A2.at_.FH hlt, fun H' => ∃ F' Γ' h' acc xs hT, Same F1 F' ∧ AtR K pn Z F' Γ' σ h' (jn (VL.one D (.lst xs)) hT) H' ∧ hT D = none ∧ OwnT K F' acc xs hT ∧ (∀ j ∈ vs, Γ'[j]? = Γ1[j]?) ∧ I (i + 1) acc Γ',
      fun H' ⟨F', Γ', h', acc', xs', hT', s', A', tD', r', sl', w'⟩ => ⟨ds.length - (i + 1), by omega, rfl, hlt, F', Γ', h', acc', xs', hT', s', A', tD', r', sl', w'⟩, fun x H' y => ?_⟩
    obtain ⟨F3, d, g3, e3, r3⟩ := ok.yld F2 H2 i x H' s2 A2.at_.FH hlt y
    have B : At K pn (jn Z (jn (VL.one D (.lst xs)) hT)) F3 Γ2 σ h2 H' := (AtR.keep A2).grow g3
    obtain ⟨h2', sw, ow⟩ := B.own.wipe vs
    have C : At K (pns false .non) (jn Z (jn (VL.one D (.lst xs)) hT)) F3 (wipeG Γ2 vs) (wipe σ vs) h2' H' := ⟨ow, sw.trans B.hH, B.FH, B.ZH, B.FZ, Dis.sub sw B.hF, Dis.sub sw B.hZ, fun p hp => nomatch hp⟩
    have dZ : Dis Z (jn (VL.one D (.lst xs)) hT) := A2.rZ.symm
    obtain ⟨Γw, eΓw, tq⟩ := turn i d acc Γ2 e3 w2 sl
    rw [nrm_eq eΓw] at C
    refine ⟨.non, _, F3, _, h2', d, _, C, r3, tq, fun F4 Γ4 σ4 h4 H4 s4 o4 A4 q4 => ⟨by rw [o4 vs hw]; exact lc_read.wipe_wipe σ vs, ?_⟩⟩
    have wσ : wipe σ4 vs = wipe σ vs := by rw [o4 vs hw]; exact lc_read.wipe_wipe σ vs
    have back : ∀ Z0 F5 Γ5 h5 H5, Same F4 F5 → At K (pns false .non) Z0 F5 Γ5 σ4 h5 H5 → ∃ h6, Same h6 h5 ∧ At K pn Z0 F5 (backG Γ1 Γ5 vs) σ h6 H5 ∧ ∀ j ∈ vs, (backG Γ1 Γ5 vs)[j]? = Γ1[j]? := fun Z0 F5 Γ5 h5 H5 s5 A5 => by
      have sF : Same F2 F5 := (g3.fs.trans s4).trans s5
      have lσ : σ.length = σ4.length := (len_wipe wσ).symm
      have l5 : Γ1.length = Γ5.length := by rw [A5.own.len, ← lσ, ← l1]
      obtain ⟨h6, σ6, s6, w6, n6, in6, out6⟩ := A5.own.back (Γ0 := Γ1) (σ0 := σ) vs (fun j hj => by
        rcases pl j hj with e | ⟨d, e⟩
        · exact .inl e
        · obtain ⟨u, e2, r⟩ := A2.at_.own.get (show Γ2[j]? = some (some (.fz d)) by rw [sl j hj]; exact e)
          exact .inr ⟨d, u, e, e2, Rp.mono sF r⟩) lσ l5
      have eσ : σ6 = σ := by
        apply List.ext_getElem?
        intro j
        by_cases hj : j ∈ vs
        · exact in6 j hj
        · rw [out6 j hj, out_wipe wσ hj]
      subst eσ
      refine ⟨h6, s6, ⟨w6, s6.trans A5.hH, A5.FH, A5.ZH, A5.FZ, Dis.sub s6 A5.hF, Dis.sub s6 A5.hZ, A2.at_.pin⟩, fun j hj => backG_get l5 hj⟩
    refine ⟨_, _, F4, Γ4, h4, _, A4, q4, fun F5 Γ5 h5 H5 b s5 A5 q5 => ?_⟩
    have q5 := of_br q5
    have s25 : Same F2 F5 := (g3.fs.trans s4).trans s5
    cases b with
    | false =>
      obtain ⟨h6, _, A6, sl6⟩ := back _ F5 Γ5 h5 H5 s5 A5
      obtain ⟨Γb, eb, q5⟩ := q5
      rw [nrm_eq eb] at A6 sl6
      exact ⟨F5, _, h6, acc, xs, hT, s2.trans s25, A6.unkeep dZ, tD, ra.mono s25, sl6, q5⟩
    | true =>
      refine iteT ⟨_, _, F5, Γ5, h5, _, A5, q5, fun F6 Γ6 h6 hr6 H6 o v s6 A6 w6 ⟨z6, Γb, eb, q6⟩ => ?_⟩
      obtain ⟨h7, s7, A7, sl7⟩ := back _ F6 Γ6 h6 H6 (s5.trans s6) A6.at_
      rw [nrm_eq eb] at A7 sl7
      have R7 : AtR K pn (jn Z (jn (VL.one D (.lst xs)) hT)) F6 Γb σ h7 hr6 H6 := ⟨A7, A6.rH, (Dis.sub s7 A6.rh.symm).symm, A6.rF, A6.rZ⟩
      obtain ⟨R8, d8⟩ := R7.both dZ
      have s26 := s25.trans s6
      have ra6 : OwnT K F6 acc xs hT := ra.mono s26
      have dT : Dis hT hr6 := Dis.sub (same_r (dis_one tD)) d8
      have dD : hr6 D = none := of_dis_one (Dis.sub same_l d8)
      have hD6 : H6 D = some (.lst xs) := R8.rH _ _ (same_l _ _ (same_l _ _ one_at))
      refine ⟨xs, hD6, by rw [ra.len]; exact z6, F6, _, h7, acc ++ [o], xs ++ [v], jn hT hr6, s2.trans s26, ?_, by rw [jn_r tD]; exact dD, ra6.app w6 dT, sl7, q6⟩
      have s1' : Same (VL.one D (.lst xs)) (jn (jn (VL.one D (.lst xs)) hT) hr6) := fun x u z => same_l _ _ (same_l _ _ z)
      have sT' : Same hT (jn (jn (VL.one D (.lst xs)) hT) hr6) := fun x u z => same_l _ _ (same_r (dis_one tD) _ _ z)
      have s6' : Same hr6 (jn (jn (VL.one D (.lst xs)) hT) hr6) := same_r d8
      have nF : F6 D = none := of_dis_one (Dis.sub s1' R8.rF)
      have nZ : Z D = none := of_dis_one (Dis.sub s1' R8.rZ)
      have nh : h7 D = none := of_dis_one (Dis.sub s1' R8.rh)
      exact ⟨⟨R8.at_.own, keepU nh R8.at_.hH, keepU nF R8.at_.FH, keepU nZ R8.at_.ZH, R8.at_.FZ, R8.at_.hF, R8.at_.hZ, R8.at_.pin⟩, same_jn (same_one upd_same) (same_jn (keepU tD (sT'.trans R8.rH)) (keepU dD (s6'.trans R8.rH))), Dis.jn (dis_one nh) (Dis.jn (Dis.sub sT' R8.rh) (Dis.sub s6' R8.rh)), Dis.jn (dis_one nF) (Dis.jn (Dis.sub sT' R8.rF) (Dis.sub s6' R8.rF)), Dis.jn (dis_one nZ) (Dis.jn (Dis.sub sT' R8.rZ) (Dis.sub s6' R8.rZ))⟩
  · have e : i = ds.length := by omega
    subst e
    refine .inl ⟨ok.stop F2 H2 _ s2 A2.at_.FH (Nat.le_refl _), ?_⟩
    exact k F2 Γ2 h2 _ H2 (.tr acc) (.ref D) (s1.trans s2) A2 (own_tr.mpr ⟨D, xs, hT, rfl, rfl, dis_one tD, ra⟩) (fin acc Γ2 w2)
section
variable {X : Cx} {elt tg iter : Expr} {ifs : List Expr} {scope : Scope} {own : List (Str × Nat)} {pos : Pos} {ws : List Nat} {τi : EI} {g : EG} {tt : ET} {te : EO}
theorem vo_lcO (hc : X.calm = true) (hN : X.N.Nodup) (hi : PI X tg iter (lI X.K τi)) (ok : BlkOk X.N X.env.scope scope own)
    (hg : ∀ (s : Shared) (H : Hp) (C : Addr) (cl : List (Str × Addr)) (fp : List Addr), PG (X.blk s H scope (compEnvC scope cl C X.env) fp) tg (lG X.K false ws g)) (hw : ∀ i ∈ ws, i ∈ own.map (·.2))
    (ht : ∀ (s : Shared) (H : Hp) (C : Addr) (cl : List (Str × Addr)) (fp : List Addr), PTs (X.blk s H scope (compEnvC scope cl C X.env) fp) ifs (lT X.K tt))
    (he : ∀ (s : Shared) (H : Hp) (C : Addr) (cl : List (Str × Addr)) (fp : List Addr), PE (X.blk s H scope (compEnvC scope cl C X.env) fp) elt (lO X.K te)) (hs : ∀ x, foldedSetIterable iter X.env x = pure x := by intro _; rfl) :
    PE X (.ListComp elt [⟨tg, iter, ifs, 0⟩] scope pos) (lO X.K (eLcO τi g tt te (own.map (·.2)))) :=
  pe_imp (pe_lc hc hN hi ok hg ht he hs) fun σ H QV h => lcO_read hw h
theorem vs_setLcO {io : Bool} {i : Nat} {y : Str} {py spos : Pos} (hc : X.calm = true) (hN : X.N.Nodup) (hy : X.N[i]? = some y) (hyl : X.env.scope.names.lookup y = some .local) (h0 : io = true → i ≠ 0)
    (hsw : swapsWith (.ListComp elt [⟨tg, iter, ifs, 0⟩] scope pos) (some (.Name y py)) spos.line X.env = pure true) (hi : PI X tg iter (lI X.K τi)) (ok : BlkOk X.N X.env.scope scope own)
    (hg : ∀ (s : Shared) (H : Hp) (C : Addr) (cl : List (Str × Addr)) (fp : List Addr), PG (X.blk s H scope (compEnvC scope cl C X.env) fp) tg (lG X.K false ws g)) (hw : ∀ i ∈ ws, i ∈ own.map (·.2))
    (ht : ∀ (s : Shared) (H : Hp) (C : Addr) (cl : List (Str × Addr)) (fp : List Addr), PTs (X.blk s H scope (compEnvC scope cl C X.env) fp) ifs (lT X.K tt))
    (he : ∀ (s : Shared) (H : Hp) (C : Addr) (cl : List (Str × Addr)) (fp : List Addr), PE (X.blk s H scope (compEnvC scope cl C X.env) fp) elt (lO X.K te)) (hs : ∀ x, foldedSetIterable iter X.env x = pure x := by intro _; rfl) :
    PS X (.Assign [.Name y py] (.ListComp elt [⟨tg, iter, ifs, 0⟩] scope pos) spos) (lS X.K io (sSet i (eLcO τi g tt te (own.map (·.2))))) :=
  ps_imp (ps_setLc hc hN hy hyl hsw hi ok hg ht he hs) fun D σ H ⟨v0, Z, F, Γ, h, DD, A, q, k⟩ => lcO_read (K := X.K) hw (QV := fun x H1 => gName i x σ H1 D.nx) ⟨_, Z, F, Γ, h, _, A, q, fun F' Γ' h' hr H' o v s A' w ⟨Γ2, eΓ, q'⟩ => by
    obtain ⟨e1, hl⟩ := setG_eq eΓ
    obtain ⟨h2, A2⟩ := A'.store w hl (pns_ne h0)
    rw [e1] at A2
    exact k.nx F' _ _ h2 H' s A2 q'⟩
end
end VL
end
section
namespace VL
open PySem PySem.Spec L2

/-! ### sorted -/
def SortOk (ds : List PyData) : Prop := PySem.W.AllAlike ds ∧ PySem.W.Sortable ds ∧ ds.length ≤ sizeLine ∧ ∀ d ∈ ds, d.canLay0 = true ∧ d.depth ≤ 60
def cdSorted : List PyData → (O → Prop) → Prop
  | [.list ds], Q => SortOk ds ∧ Q (.ls (ds.mergeSort (PySem.W.dataLe false id)))
  | _, _ => False
theorem each_rp {K : PySem.W.Frag} {F : Hp} : ∀ {vs : List V} {us : List Value} {ds : List PyData}, Vals vs us → RpAll K F vs ds → PySem.W.EachIs (fun u d => ∃ x, RelV x u ∧ Rp K F x d) us ds
  | _, _, _, .nil, .nil => .nil
  | _, _, _, .cons h t, .cons r q => .cons ⟨_, h, r⟩ (each_rp t q)
theorem rp_each {K : PySem.W.Frag} {F : Hp} : ∀ {us : List Value} {ds : List PyData}, PySem.W.EachIs (fun u d => ∃ x, RelV x u ∧ Rp K F x d) us ds → ∃ vs, Vals vs us ∧ RpAll K F vs ds
  | _, _, .nil => ⟨[], .nil, .nil⟩
  | _, _, .cons ⟨x, h, r⟩ t => by
    obtain ⟨vs, a, b⟩ := rp_each t
    exact ⟨x :: vs, .cons h a, .cons r b⟩
theorem each_reads {X : Cx} {pins : List (Addr × Obj)} {σ : St} {H F : Hp} {s : Shared} (I : Inv X pins σ H s) (sF : Same F H) : ∀ {vs : List V} {us : List Value} {ds : List PyData}, Vals vs us → RpAll X.K F vs ds → (∀ d ∈ ds, d.canLay0 = true) → PySem.W.EachIs (fun u d => ∃ as, Reads s.heap u (id d) as) us ds
  | _, _, _, .nil, .nil, _ => .nil
  | _, _, _, .cons h t, .cons r q, c => .cons (Dp.reads I _ _ _ (Rp.dp _ (Rp.mono sF r) (c _ (by simp))) h) (each_reads I sF t q fun d hd => c d (by simp [hd]))
section
variable {X : Cx}
theorem cd_sorted (hu : X.A.units + 64 < cLine) : CallD X (.builtin "sorted") cdSorted := by
  intro pins s σ H xs us QV I rx ⟨F, ds, Q, sF, rl, h, post⟩
  unfold cdSorted at h
  split at h
  · rename_i ds
    obtain ⟨v, rfl, r⟩ := rl.one'
    obtain ⟨a, vs, rfl, ha, ra⟩ := r.list sF
    obtain ⟨⟨k1, k2, k3, k4⟩, q⟩ := h
    obtain ⟨its, rv, hl, hz⟩ := I.list (SqL.of ha)
    rw [Vals.ref1 rx]
    refine PySem.W.sorted_data (enc := id) (R := fun u d => ∃ x, RelV x u ∧ Rp X.K F x d) (bs := ds) hl.isList (each_rp rv ra) (each_reads I sF rv ra fun d hd => (k4 d hd).1) (by rw [List.map_id]; exact k1) (by rw [List.map_id]; exact k2) k3 (fun d hd => ?_) fun out ho e => ?_
    · have := (k4 d hd).2
      show X.A.units + 2 + d.depth < cLine
      omega
    · obtain ⟨ws, w1, w2⟩ := rp_each e
      obtain ⟨ep, he'⟩ := PyProof.Rows.sortedAll_at s.heap its out.toArray
      have hlen : ws.length ≤ sizeLine := by rw [w2.length, List.length_mergeSort]; exact k3
      exact ⟨.ref _, upd H (s.heap.objs.size + 1) (.lst ws), I.laid (t' := s.toks) (fun _ _ => PyProof.Rows.sortedAll_old) (Nat.le_succ _) ⟨hlen, out, ep, w1, he'⟩, rfl, post.newL sF (I.hok.fresh (Nat.le_succ _)) w2 q⟩
  · exact h.elim
end

/-! ### dicts keyed by whole numbers, texts -/
theorem kD_inj {a b : Key} (e : kD a = kD b) : a = b := by
  cases a <;> cases b <;> simp_all [kD]
theorem rp_key {K : PySem.W.Frag} {F H : Hp} {k : Key} {v : V} (r : RepS K F H (kD k) v) : v = kV k := by
  cases k with
  | inl i => exact r.int
  | inr x => exact r.str
def kGet (kk : List (Key × PyData)) (k : Key) : Option PyData := (kk.find? fun p => decide (p.1 = k)).map (·.2)
def kPut (kk : List (Key × PyData)) (k : Key) (d : PyData) : List (Key × PyData) := if (kk.any fun p => decide (p.1 = k)) = true then kk.map fun p => if p.1 = k then (p.1, d) else p else kk ++ [(k, d)]
def kMerge (kk more : List (Key × PyData)) : List (Key × PyData) := more.foldl (fun acc p => kPut acc p.1 p.2) kk
section
variable {K : PySem.W.Frag} {F : Hp}
theorem kvAll_nil : KvAll K F [] [] := ⟨rfl, .nil⟩
theorem kvAll_cons {p : Key × V} {q : Key × PyData} {kv : List (Key × V)} {kk : List (Key × PyData)} : KvAll K F (p :: kv) (q :: kk) ↔ p.1 = q.1 ∧ Rp K F p.2 q.2 ∧ KvAll K F kv kk := by
  constructor
  · rintro ⟨e, r⟩
    simp only [List.map_cons, List.cons.injEq] at e
    cases r with
    | cons r1 r2 => exact ⟨e.1, r1, e.2, r2⟩
  · rintro ⟨e, r1, e2, r2⟩
    exact ⟨by simp [e, e2], .cons r1 r2⟩
theorem KvAll.cases : ∀ {kv : List (Key × V)} {kk : List (Key × PyData)}, KvAll K F kv kk → kv.length = kk.length := fun h => by
  have := congrArg List.length h.1
  simpa using this
theorem kv_get {k : Key} : ∀ {kv : List (Key × V)} {kk : List (Key × PyData)}, KvAll K F kv kk → (valV kv k = none ∧ kGet kk k = none) ∨ ∃ v d, valV kv k = some v ∧ kGet kk k = some d ∧ Rp K F v d
  | [], [], _ => .inl ⟨rfl, rfl⟩
  | [], _ :: _, h => by have := h.cases; simp at this
  | _ :: _, [], h => by have := h.cases; simp at this
  | p :: kv, q :: kk, h => by
    obtain ⟨e, r, t⟩ := kvAll_cons.mp h
    unfold valV kGet
    by_cases z : p.1 = k
    · have z2 : q.1 = k := e ▸ z
      rw [List.find?_cons_of_pos (by simpa using z), List.find?_cons_of_pos (by simpa using z2)]
      exact .inr ⟨p.2, q.2, rfl, rfl, r⟩
    · have z2 : ¬ q.1 = k := e ▸ z
      rw [List.find?_cons_of_neg (by simpa using z), List.find?_cons_of_neg (by simpa using z2)]
      exact kv_get t
theorem kv_any {k : Key} {kv : List (Key × V)} {kk : List (Key × PyData)} (h : KvAll K F kv kk) : (kv.any fun p => decide (p.1 = k)) = (kk.any fun p => decide (p.1 = k)) := by
  have e := h.1
  have a : (kv.any fun p => decide (p.1 = k)) = (kv.map (·.1)).any fun x => decide (x = k) := by rw [List.any_map]; rfl
  have b : (kk.any fun p => decide (p.1 = k)) = (kk.map (·.1)).any fun x => decide (x = k) := by rw [List.any_map]; rfl
  rw [a, b, e]
theorem kv_app {kv kv2 : List (Key × V)} {kk kk2 : List (Key × PyData)} (h : KvAll K F kv kk) (h2 : KvAll K F kv2 kk2) : KvAll K F (kv ++ kv2) (kk ++ kk2) :=
  ⟨by rw [List.map_append, List.map_append, h.1, h2.1], by rw [List.map_append, List.map_append]; exact h.2.append h2.2⟩
theorem kv_map {k : Key} {v : V} {d : PyData} (r : Rp K F v d) : ∀ {kv : List (Key × V)} {kk : List (Key × PyData)}, KvAll K F kv kk → KvAll K F (kv.map fun p => if p.1 = k then (p.1, v) else p) (kk.map fun p => if p.1 = k then (p.1, d) else p)
  | [], [], _ => kvAll_nil
  | [], _ :: _, h => by have := h.cases; simp at this
  | _ :: _, [], h => by have := h.cases; simp at this
  | p :: kv, q :: kk, h => by
    obtain ⟨e, r1, t⟩ := kvAll_cons.mp h
    rw [List.map_cons, List.map_cons]
    refine kvAll_cons.mpr ?_
    by_cases z : p.1 = k
    · have z2 : q.1 = k := e ▸ z
      rw [if_pos z, if_pos z2]
      exact ⟨e, r, kv_map r t⟩
    · have z2 : ¬ q.1 = k := e ▸ z
      rw [if_neg z, if_neg z2]
      exact ⟨e, r1, kv_map r t⟩
theorem kv_put {k : Key} {v : V} {d : PyData} {kv : List (Key × V)} {kk : List (Key × PyData)} (h : KvAll K F kv kk) (r : Rp K F v d) : KvAll K F (putK kv k v) (kPut kk k d) := by
  unfold putK kPut
  rw [kv_any h]
  split
  · exact kv_map r h
  · exact kv_app h (kvAll_cons.mpr ⟨rfl, r, kvAll_nil⟩)
theorem kv_merge : ∀ {mv : List (Key × V)} {mk : List (Key × PyData)} {kv : List (Key × V)} {kk : List (Key × PyData)}, KvAll K F mv mk → KvAll K F kv kk → KvAll K F (mergeK kv mv) (kMerge kk mk)
  | [], [], _, _, _, h => h
  | [], _ :: _, _, _, h, _ => by have := h.cases; simp at this
  | _ :: _, [], _, _, h, _ => by have := h.cases; simp at this
  | p :: mv, q :: mk, kv, kk, h, g => by
    obtain ⟨e, r, t⟩ := kvAll_cons.mp h
    show KvAll K F (mergeK (putK kv p.1 p.2) mv) (kMerge (kPut kk q.1 q.2) mk)
    rw [e]
    exact kv_merge t (kv_put g r)
theorem KvAll.mono {F F' : Hp} {kv : List (Key × V)} {kk : List (Key × PyData)} (s : Same F F') (h : KvAll K F kv kk) : KvAll K F' kv kk := ⟨h.1, RpAll.mono s h.2⟩
theorem zip_inj {ks : List Key} {ds : List PyData} {kk : List (Key × PyData)} (hl : ks.length = ds.length) (e : (ks.map kD).zip ds = kk.map fun p => (kD p.1, p.2)) : ks = kk.map (·.1) ∧ ds = kk.map (·.2) := by
  have e1 := congrArg (List.map Prod.fst) e
  have e2 := congrArg (List.map Prod.snd) e
  rw [List.map_fst_zip (by simp [hl]), List.map_map] at e1
  rw [List.map_snd_zip (by simp [hl]), List.map_map] at e2
  refine ⟨?_, e2⟩
  have inj : ∀ {as bs : List Key}, as.map kD = bs.map kD → as = bs := fun {as bs} h => by
    induction as generalizing bs with
    | nil => cases bs with
      | nil => rfl
      | cons _ _ => cases h
    | cons a as ih =>
      cases bs with
      | nil => cases h
      | cons b bs =>
        simp only [List.map_cons, List.cons.injEq] at h
        rw [kD_inj h.1, ih h.2]
  apply inj
  rw [e1, List.map_map]; rfl
end
def keysOf : List (PyData × PyData) → Option (List (Key × PyData))
  | [] => some []
  | (.int i, d) :: r => match keysOf r with
    | some kk => some ((.inl i, d) :: kk)
    | none => none
  | (.str x, d) :: r => match keysOf r with
    | some kk => some ((.inr x, d) :: kk)
    | none => none
  | _ :: _ => none
theorem keysOf_eq : ∀ {kvs : List (PyData × PyData)} {kk : List (Key × PyData)}, keysOf kvs = some kk → kvs = kk.map fun p => (kD p.1, p.2)
  | [], _, h => by cases h; rfl
  | (.int i, d) :: r, kk, h => by
    unfold keysOf at h
    split at h
    · rename_i k e; cases h; rw [keysOf_eq e]; rfl
    · cases h
  | (.str i, d) :: r, kk, h => by
    unfold keysOf at h
    split at h
    · rename_i k e; cases h; rw [keysOf_eq e]; rfl
    · cases h
  | (.none, _) :: _, _, h => by simp [keysOf] at h
  | (.bool _, _) :: _, _, h => by simp [keysOf] at h
  | (.list _, _) :: _, _, h => by simp [keysOf] at h
  | (.tuple _, _) :: _, _, h => by simp [keysOf] at h
  | (.dict _, _) :: _, _, h => by simp [keysOf] at h
theorem keysOf_map : ∀ {kk : List (Key × PyData)}, keysOf (kk.map fun p => (kD p.1, p.2)) = some kk
  | [] => rfl
  | (.inl i, d) :: kk => by rw [List.map_cons]; show (match keysOf _ with | some kk => _ | none => _) = _; rw [keysOf_map]
  | (.inr i, d) :: kk => by rw [List.map_cons]; show (match keysOf _ with | some kk => _ | none => _) = _; rw [keysOf_map]
/-- the dict that a slot holds -/
def dicO : O → Option (List (Key × PyData))
  | .dk kk => some kk
  | .fz (.dict kvs) => keysOf kvs
  | _ => none
def dicG (Γ : Ga) (i : Nat) : Option (List (Key × PyData)) := match Γ[i]? with
  | some (some o) => dicO o
  | _ => none
theorem own_dk {K : PySem.W.Frag} {F : Hp} {kk : List (Key × PyData)} {v : V} {h : Hp} : Own K F (.dk kk) v h ↔ ∃ a kv, v = .ref a ∧ h = one a (.dK kv) ∧ KvAll K F kv kk := by unfold Own; exact Iff.rfl
section
variable {K : PySem.W.Frag} {pn : List (Nat × V)} {Z F : Hp} {Γ : Ga} {σ : St} {h H hr : Hp} {i : Nat} {kk : List (Key × PyData)} {o : O} {v : V}
theorem own_dic (w : Own K F o v hr) (s : Same hr H) (sF : Same F H) (e : dicO o = some kk) : ∃ a kv, v = .ref a ∧ H a = some (.dK kv) ∧ KvAll K F kv kk := by
  cases o with
  | dk kk' =>
    cases e
    obtain ⟨a, kv, rfl, rfl, q⟩ := own_dk.mp w
    exact ⟨a, kv, rfl, s _ _ one_at, q⟩
  | fz d =>
    cases d with
    | dict kvs =>
      have e : keysOf kvs = some kk := e
      cases (own_fz.mp w).2 with
      | @dct a ks xs ds _ hF hl hr hk =>
        obtain ⟨z1, z2⟩ := zip_inj hl (hk.symm.trans (keysOf_eq e))
        have lx := hr.length
        refine ⟨a, _, rfl, sF _ _ hF, ?_, ?_⟩
        · rw [List.map_fst_zip (by omega)]; exact z1
        · rw [List.map_snd_zip (by omega), ← z2]; exact hr
      | scr h => cases e
    | _ => cases e
  | _ => cases e
theorem At.dic (A : At K pn Z F Γ σ h H) (e : dicG Γ i = some kk) : ∃ a kv, σ[i]? = some (some (.ref a)) ∧ H a = some (.dK kv) ∧ KvAll K F kv kk := by
  cases e1 : Γ[i]? with
  | none => simp [dicG, e1] at e
  | some x =>
    cases x with
    | none => simp [dicG, e1] at e
    | some o =>
      have e : dicO o = some kk := by simpa [dicG, e1] using e
      obtain ⟨v, h1, s1, w, s2, _⟩ := A.slot e1
      obtain ⟨a, kv, rfl, b, c⟩ := own_dic w s2 A.FH e
      exact ⟨a, kv, s1, b, c⟩
theorem At.changeD (A : At K pn Z F Γ σ h H) (e : Γ[i]? = some (some (.dk kk))) : ∃ a kv, σ[i]? = some (some (.ref a)) ∧ H a = some (.dK kv) ∧ KvAll K F kv kk ∧
    ∀ kv' kk', KvAll K F kv' kk' → ∃ h', At K pn Z F (Γ.set i (some (.dk kk'))) σ h' (upd H a (.dK kv')) := by
  obtain ⟨v, g1, g2, a1, w, sg1, dg1, zg1, sg2, d12, dg2, zg2, put⟩ := A.change e
  obtain ⟨a, kv, rfl, rfl, r⟩ := own_dk.mp w
  exact ⟨a, kv, a1, sg1 _ _ one_at, r, fun kv' kk' r' => ⟨_, put F (.dk kk') (VL.one a (.dK kv')) _ (Same.refl _) (own_dk.mpr ⟨a, kv', rfl, rfl, r'⟩) (same_one upd_same) (keepU (of_dis_one dg1) A.FH) (keepU (of_dis_one d12) sg2) (keepU (of_dis_one zg1) A.ZH) A.FZ (dis_at d12) (dis_at dg1) (dis_at zg1) dg2⟩⟩
end
/-! reading: d[k], k in d -/
section
variable {X : Cx} {e o idx : Expr} {τ τk : EX} {τo τo' : EO} {t1 t2 : TE} {p pos : Pos}
theorem pe_or (h1 : PE X e t1) (h2 : PE X e t2) : PE X e (fun σ H Q => t1 σ H Q ∨ t2 σ H Q) := ⟨fun pins s σ H Q I q => by
  rcases q with q | q
  · exact h1.run pins s σ H Q I q
  · exact h2.run pins s σ H Q I q⟩
theorem pt_or {t1 t2 : TT} (h1 : PT X e t1) (h2 : PT X e t2) : PT X e (fun σ H Q => t1 σ H Q ∨ t2 σ H Q) := ⟨fun pins s σ H Q I q => by
  rcases q with q | q
  · exact h1.run pins s σ H Q I q
  · exact h2.run pins s σ H Q I q⟩
theorem ps_or {st : Stmt} {t1 t2 : TS} (h1 : PS X st t1) (h2 : PS X st t2) : PS X st (fun D σ H => t1 D σ H ∨ t2 D σ H) := ⟨fun pins s σ H D I q => by
  rcases q with q | q
  · exact h1.run pins s σ H D I q
  · exact h2.run pins s σ H D I q⟩
/-- by what a slot holds: a dict, anything else -/
def isDic (Γ : Ga) (i : Nat) : Bool := match Γ[i]? with
  | some (some (.dk _)) => true
  | some (some (.fz (.dict _))) => true
  | _ => false
def oAlt (i : Nat) (t u : EO) : EO := fun Γ Q => match isDic Γ i with
  | true => t Γ Q
  | false => u Γ Q
theorem vo_alt (i : Nat) (h1 : PE X e (lO X.K τo)) (h2 : PE X e (lO X.K τo')) : PE X e (lO X.K (oAlt i τo τo')) := pe_imp (pe_or h1 h2) fun σ H QV ⟨pn, Z, F, Γ, hh, Q, A, q, k⟩ => by
  unfold oAlt at q
  split at q
  · exact .inl ⟨pn, Z, F, Γ, hh, Q, A, q, k⟩
  · exact .inr ⟨pn, Z, F, Γ, hh, Q, A, q, k⟩
def tAlt (i : Nat) (t u : ET) : ET := fun Γ Q => match isDic Γ i with
  | true => t Γ Q
  | false => u Γ Q
theorem vt_alt {tt tu : ET} (i : Nat) (h1 : PT X e (lT X.K tt)) (h2 : PT X e (lT X.K tu)) : PT X e (lT X.K (tAlt i tt tu)) := pt_imp (pt_or h1 h2) fun σ H QV ⟨pn, Z, F, Γ, hh, Q, A, q, k⟩ => by
  unfold tAlt at q
  split at q
  · exact .inl ⟨pn, Z, F, Γ, hh, Q, A, q, k⟩
  · exact .inr ⟨pn, Z, F, Γ, hh, Q, A, q, k⟩
def sAlt (i : Nat) (t u : ES) : ES := fun D Γ => match isDic Γ i with
  | true => t D Γ
  | false => u D Γ
theorem vs_alt {io : Bool} {st : Stmt} {t u : ES} (i : Nat) (h1 : PS X st (lS X.K io t)) (h2 : PS X st (lS X.K io u)) : PS X st (lS X.K io (sAlt i t u)) := ps_imp (ps_or h1 h2) fun D σ H ⟨v0, Z, F, Γ, h, DD, A, q, k⟩ => by
  unfold sAlt at q
  split at q
  · exact .inl ⟨v0, Z, F, Γ, h, DD, A, q, k⟩
  · exact .inr ⟨v0, Z, F, Γ, h, DD, A, q, k⟩
def eDGet (i : Nat) (τ : EX) : EO := fun Γ Q => (∃ kk, dicG Γ i = some kk) ∧ τ Γ fun a Γ1 => ∃ kk k d, dicG Γ1 i = some kk ∧ rslv Γ1 a = some (kD k) ∧ kGet kk k = some d ∧ Q (.fz d) Γ1
theorem vo_dget (i : Nat) (hu : X.A.units + 1 < cLine) (ho : PE X o (tVar i)) (hx : PE X idx (lX X.K τ)) (hs : NoSl idx := by intro _ _; rfl) : PE X (.Subscript o idx pos) (lO X.K (eDGet i τ)) :=
  pe_imp (pe_dget hu ho hx hs) fun σ H QV ⟨pn, Z, F, Γ, hh, Q, A, ⟨⟨kk0, e0⟩, q⟩, kq⟩ => by
    obtain ⟨a, kv, s0, _, _⟩ := A.dic e0
    refine ⟨.ref a, s0, pn, Z, F, Γ, hh, _, A, q, fun F1 Γ1 h1 H1 av y s1 A1 r1 ⟨kk, k, d, e1, e2, e3, q1⟩ => ?_⟩
    obtain ⟨b, kv, s2, hb, hk⟩ := A1.dic e1
    rw [s0] at s2; cases s2
    have ey := rp_key (rep_of A1 r1 e2)
    subst ey
    rcases kv_get (k := k) hk with ⟨_, z⟩ | ⟨v, d', z1, z2, r⟩
    · rw [e3] at z; cases z
    · rw [e3] at z2; cases z2
      refine ⟨a, v, rfl, ?_, kq F1 Γ1 h1 emp H1 (.fz d) v s1 A1.alone ⟨rfl, r⟩ q1⟩
      rw [← z1]
      exact DGet.k hb
def eDIn (pos : Bool) (τ : EX) (i : Nat) : EO := fun Γ Q => τ Γ fun a Γ1 => ∃ kk k, dicG Γ1 i = some kk ∧ rslv Γ1 a = some (kD k) ∧ Q (.fz (.bool (if pos then (kGet kk k).isSome else !(kGet kk k).isSome))) Γ1
theorem dgo {K : PySem.W.Frag} {F H : Hp} {a : Addr} {kv : List (Key × V)} {kk : List (Key × PyData)} {k : Key} (hb : H a = some (.dK kv)) (hk : KvAll K F kv kk) : ∃ o, DGet H a (kV k) o ∧ o.isSome = (kGet kk k).isSome := by
  refine ⟨_, DGet.k hb, ?_⟩
  rcases kv_get (k := k) hk with ⟨z1, z2⟩ | ⟨v, d', z1, z2, r⟩
  · rw [z1, z2]; rfl
  · rw [z1, z2]; rfl
theorem vo_din (i : Nat) (hu : X.A.units + 1 < cLine) (hx : PE X idx (lX X.K τ)) (ho : PE X o (tVar i)) (hm : behindInMarks .In o = false := by rfl) : PE X (.Compare idx [.In] [o] pos) (lO X.K (eDIn true τ i)) :=
  pe_imp (pe_cmp (pc_din hu hx ho) hm) fun σ H QV ⟨pn, Z, F, Γ, hh, Q, A, q, kq⟩ => ⟨pn, Z, F, Γ, hh, _, A, q, fun F1 Γ1 h1 H1 av y s1 A1 r1 ⟨kk, k, e1, e2, q1⟩ => by
    obtain ⟨b, kv, s2, hb, hk⟩ := A1.dic e1
    have ey := rp_key (rep_of A1 r1 e2)
    subst ey
    obtain ⟨o, g, eo⟩ := dgo (k := k) hb hk
    exact ⟨.ref b, s2, b, o, rfl, g, by rw [eo]; exact kq F1 Γ1 h1 emp H1 (.fz (.bool _)) _ s1 A1.alone ⟨rfl, .bl _⟩ q1⟩⟩
theorem vo_dnotin (i : Nat) (hu : X.A.units + 1 < cLine) (hx : PE X idx (lX X.K τ)) (ho : PE X o (tVar i)) (hm : behindInMarks .NotIn o = false := by rfl) : PE X (.Compare idx [.NotIn] [o] pos) (lO X.K (eDIn false τ i)) :=
  pe_imp (pe_cmp (pc_dnotin hu hx ho) hm) fun σ H QV ⟨pn, Z, F, Γ, hh, Q, A, q, kq⟩ => ⟨pn, Z, F, Γ, hh, _, A, q, fun F1 Γ1 h1 H1 av y s1 A1 r1 ⟨kk, k, e1, e2, q1⟩ => by
    obtain ⟨b, kv, s2, hb, hk⟩ := A1.dic e1
    have ey := rp_key (rep_of A1 r1 e2)
    subst ey
    obtain ⟨o, g, eo⟩ := dgo (k := k) hb hk
    exact ⟨.ref b, s2, b, o, rfl, g, by rw [eo]; exact kq F1 Γ1 h1 emp H1 (.fz (.bool _)) _ s1 A1.alone ⟨rfl, .bl _⟩ q1⟩⟩
theorem vt_din (i : Nat) (hu : X.A.units + 1 < cLine) (hx : PE X idx (lX X.K τ)) (ho : PE X o (tVar i)) (hm : behindInMarks .In o = false := by rfl) : PT X (.Compare idx [.In] [o] pos) (lT X.K (tO (eDIn true τ i))) :=
  pt_imp (pt_cmp (pc_din hu hx ho) hm) fun σ H QV ⟨pn, Z, F, Γ, hh, Q, A, q, kq⟩ => ⟨pn, Z, F, Γ, hh, _, A, q, fun F1 Γ1 h1 H1 av y s1 A1 r1 ⟨kk, k, e1, e2, b', eb, q1⟩ => by
    cases eb
    obtain ⟨b, kv, s2, hb, hk⟩ := A1.dic e1
    have ey := rp_key (rep_of A1 r1 e2)
    subst ey
    obtain ⟨o, g, eo⟩ := dgo (k := k) hb hk
    exact ⟨.ref b, s2, b, o, rfl, g, _, rfl, by rw [eo]; exact kq F1 Γ1 h1 H1 _ s1 A1 q1⟩⟩
theorem vt_dnotin (i : Nat) (hu : X.A.units + 1 < cLine) (hx : PE X idx (lX X.K τ)) (ho : PE X o (tVar i)) (hm : behindInMarks .NotIn o = false := by rfl) : PT X (.Compare idx [.NotIn] [o] pos) (lT X.K (tO (eDIn false τ i))) :=
  pt_imp (pt_cmp (pc_dnotin hu hx ho) hm) fun σ H QV ⟨pn, Z, F, Γ, hh, Q, A, q, kq⟩ => ⟨pn, Z, F, Γ, hh, _, A, q, fun F1 Γ1 h1 H1 av y s1 A1 r1 ⟨kk, k, e1, e2, b', eb, q1⟩ => by
    cases eb
    obtain ⟨b, kv, s2, hb, hk⟩ := A1.dic e1
    have ey := rp_key (rep_of A1 r1 e2)
    subst ey
    obtain ⟨o, g, eo⟩ := dgo (k := k) hb hk
    exact ⟨.ref b, s2, b, o, rfl, g, _, rfl, by rw [eo]; exact kq F1 Γ1 h1 H1 _ s1 A1 q1⟩⟩
/-! {} ; d[k] = v -/
def eDNew : EO := fun Γ Q => Q (.dk []) Γ
theorem vo_dnew : PE X (.Dict [] [] pos) (lO X.K eDNew) := pe_imp pe_dnewK fun σ H QV ⟨pn, Z, F, Γ, hh, Q, A, q, k⟩ a n => by
  have g := Grow.stay (H' := upd H a (.dK [])) A.FH (same_new n)
  exact k F Γ hh (VL.one a (.dK [])) _ (.dk []) (.ref a) (Same.refl _) (A.beside g (same_one upd_same) (dis_one (A.FH.free n)) fun x z => by
    by_cases e : x = a
    · subst e; exact n
    · rw [one_ne e] at z; exact absurd rfl z) (own_dk.mpr ⟨a, [], rfl, rfl, kvAll_nil⟩) q
def sDPutS (i : Nat) (τk : EX) (τv : EX) : ES := fun D Γ => τv Γ fun av Γ1 => (∃ kk, Γ1[i]? = some (some (.dk kk))) ∧ ∃ d, av = .d d ∧ τk Γ1 fun a Γ2 => ∃ kk k Γ3, Γ2[i]? = some (some (.dk kk)) ∧ rslv Γ2 a = some (kD k) ∧ kk.length < sizeLine ∧ setG Γ2 i (some (.dk (kPut kk k d))) = some Γ3 ∧ D.nx Γ3
theorem vs_dput {io : Bool} {spos : Pos} {τv : EX} (i : Nat) (hu : X.A.units + 1 < cLine) (ho : PE X o (tVar i)) (hx : PE X idx (lX X.K τk)) (hv : PE X e (lX X.K τv)) (hs : swapsWith e (some (.Subscript o idx pos)) spos.line X.env = pure false := by rfl) :
    PS X (.Assign [.Subscript o idx pos] e spos) (lS X.K io (sDPutS i τk τv)) :=
  ps_imp (ps_dput hu ho hx hv hs) fun D σ H ⟨v0, Z, F, Γ, h, DD, A, q, kq⟩ => ⟨_, Z, F, Γ, h, _, A, q, fun F1 Γ1 h1 H1 av v s1 A1 r1 ⟨⟨kk0, e0⟩, d, ed, q1⟩ => by
    subst ed
    obtain ⟨a, kv, sa, _, _⟩ := A1.changeD e0
    refine ⟨.ref a, sa, _, Z, F1, Γ1, h1, _, A1, q1, fun F2 Γ2 h2 H2 ak y s2 A2 r2 ⟨kk, k, Γ3, e1, e2, hl, e3, q2⟩ => ?_⟩
    obtain ⟨b, kv, sb, hb, hk, put⟩ := A2.changeD e1
    rw [sa] at sb; cases sb
    have ey := rp_key (rep_of A2 r2 e2)
    subst ey
    obtain ⟨h', A3⟩ := put _ _ (kv_put (k := k) hk (Rp.mono s2 r1))
    rw [(setG_eq e3).1] at A3
    exact ⟨a, _, rfl, DPut.k hb (by rw [hk.cases]; exact hl), kq.nx F2 Γ3 σ h' _ (s1.trans s2) A3 q2⟩⟩
end
/-! dict(pairs) -/
def prD (p : Key × PyData) : PyData := .tuple [kD p.1, p.2]
def cdDict : List PyData → (O → Prop) → Prop
  | [.list ds], Q => ∃ kk, ds = kk.map prD ∧ Q (.dk (kMerge [] kk))
  | [.tuple ds], Q => ∃ kk, ds = kk.map prD ∧ Q (.dk (kMerge [] kk))
  | _, _ => False
theorem pairs_rp {X : Cx} {pins : List (Addr × Obj)} {σ : St} {H F : Hp} {s : Shared} (I : Inv X pins σ H s) (sF : Same F H) : ∀ {kk : List (Key × PyData)} {vs : List V} {its : List Value}, RpAll X.K F vs (kk.map prD) → Vals vs its →
    ∃ (kv : List (Key × V)) (prs : List (Key × Value)) (qs : List (Value × Value)) (Ts : Nat → Addr), KvAll X.K F kv kk ∧ KV kv prs ∧ prs.length = its.length ∧ qs.length = its.length ∧
      ∀ j k v, qs[j]? = some (k, v) → its[j]? = some (.ref (Ts j)) ∧ s.heap.IsTuple (Ts j) #[k, v] ∧ ∃ key, prs[j]? = some (key, v) ∧ (mixKind X.prog X.w).is key k = true
  | [], _, _, .nil, .nil => ⟨[], [], [], fun _ => 0, kvAll_nil, .nil, rfl, rfl, fun j k v e => by simp at e⟩
  | q :: kk, _, _, .cons r rr, .cons h t => by
    obtain ⟨kv, prs, qs, Ts, a1, a2, a3, a4, a5⟩ := pairs_rp I sF rr t
    obtain ⟨p, vs, rfl, hs, ra⟩ := rp_tup (show Rp X.K F _ (.tuple [kD q.1, q.2]) from r)
    cases h
    obtain ⟨x, y, rfl, rx, ry⟩ := ra.two'
    have ex := rp_key (H := H) (.inl rx)
    subst ex
    obtain ⟨us, rv, ht, _⟩ := I.tuple (sameT sF hs)
    obtain ⟨u, w, ei, ru, rw'⟩ := vals2 rv
    subst ei
    refine ⟨(q.1, y) :: kv, (q.1, w) :: prs, (u, w) :: qs, fun j => match j with | 0 => p | j + 1 => Ts j, kvAll_cons.mpr ⟨rfl, ry, a1⟩, .cons ⟨rfl, rw'⟩ a2, by simp [a3], by simp [a4], fun j k v e => ?_⟩
    cases j with
    | zero =>
      have e : (u, w) = (k, v) := by simpa using e
      cases e
      exact ⟨rfl, ht, q.1, rfl, kV_is ru⟩
    | succ j => exact a5 j k v (by simpa using e)
section
variable {X : Cx}
theorem dict_core {pins : List (Addr × Obj)} {σ : St} {H F : Hp} {s : Shared} {QV : VK} {Q : O → Prop} {T : String} {a : Addr} {its : List Value} {fp : List Addr} {OK : Heap → Prop} {kv : List (Key × V)} {kk : List (Key × PyData)} {prs : List (Key × Value)} {qs : List (Value × Value)}
    (hcalm : X.calm = true) (I : Inv X pins σ H s) (sF : Same F H) (P : PairArg X.prog X.w T a fp [] qs.length (PairRel qs) OK) (ok : OK s.heap) (a1 : KvAll X.K F kv kk) (a2 : KV kv prs) (a3 : prs.length = its.length) (a4 : qs.length = its.length) (hz : its.length ≤ sizeLine)
    (a5 : ∀ (j : Nat) (k v : Value), qs[j]? = some (k, v) → ∃ key, prs[j]? = some (key, v) ∧ (mixKind X.prog X.w).is key k = true) (post : OpPost X.K F H Q QV) (q : Q (.dk (kMerge [] kk))) : wpAny (model X.prog X.w) X.A (call (.type "dict") [.ref a]) (EP X pins σ QV) X.xe s := by
  refine call_dict_pairs (knd := mixKind X.prog X.w) (kvs := prs) P (I.ok.hd hcalm) ok ⟨by rw [a3, a4], fun i k v e => a5 i k v e⟩ (by rw [a4]; exact hz) fun h' tk hd' k => ?_
  have hm : (s.heap.objs.size == sysModules) = false := beq_eq_false_iff_ne.mpr (Nat.ne_of_gt I.big)
  have hlen : (mergeK [] kv).length ≤ sizeLine := by
    refine Nat.le_trans (length_mergeK kv []) ?_
    have := a1.cases
    have l2 : kv.length = prs.length := by
      have := a2
      unfold KV at this
      exact this.length
    rw [List.length_nil, Nat.zero_add, l2, a3]
    exact hz
  have n : H s.heap.objs.size = none := I.hok.fresh (Nat.le_refl _)
  refine ⟨.ref s.heap.objs.size, upd H s.heap.objs.size (.dK (mergeK [] kv)), I.laid (t' := tk) (fun b o e => k b o (by simp) e) (Nat.le_refl _) (show ObjOk X.prog X.w _ _ _ (.dK (mergeK [] kv)) from ⟨hlen, hm, merged [] prs, KV.merge a2 .nil, hd'⟩), rfl, ?_⟩
  exact post F (VL.one s.heap.objs.size (.dK (mergeK [] kv))) _ (.dk (kMerge [] kk)) _ (Grow.stay sF (same_new n)) (own_dk.mpr ⟨_, _, rfl, rfl, kv_merge a1 kvAll_nil⟩) (same_one upd_same) (dis_one (sF.free n)) (fun x z => by
    by_cases e : x = s.heap.objs.size
    · subst e; exact n
    · rw [one_ne e] at z; exact absurd rfl z) q
theorem cd_dict (hcalm : X.calm = true) : CallD X (.type "dict") cdDict := by
  intro pins s σ H xs us QV I rx ⟨F, ds, Q, sF, rl, h, post⟩
  unfold cdDict at h
  split at h
  · obtain ⟨v, rfl, r⟩ := rl.one'
    obtain ⟨kk, rfl, q⟩ := h
    obtain ⟨a, vs, rfl, ha, ra⟩ := r.list sF
    obtain ⟨its, rv, ⟨o, n, ho, hc, hd, hdat⟩, hz⟩ := I.list (SqL.of ha)
    rw [Vals.ref1 rx]
    obtain ⟨kv, prs, qs, Ts, a1, a2, a3, a4, a5⟩ := pairs_rp I sF ra rv
    have hz' : its.length ≤ sizeLine := by rw [← rv.length]; exact hz
    exact dict_core hcalm I sF (PairArg.list a its.toArray Ts qs) ⟨⟨o, n, ho, hc, hd, hdat⟩, by simp [a4], fun j k v e => ⟨by simpa using (a5 j k v e).1, .inl (a5 j k v e).2.1⟩⟩ a1 a2 a3 a4 hz' (fun j k v e => (a5 j k v e).2.2) post q
  · obtain ⟨v, rfl, r⟩ := rl.one'
    obtain ⟨kk, rfl, q⟩ := h
    obtain ⟨a, vs, rfl, ha, ra⟩ := rp_tupN r.tupR
    obtain ⟨its, rv, pl, hz⟩ := (sameN sF ha).at I
    rw [Vals.ref1 rx]
    obtain ⟨kv, prs, qs, Ts, a1, a2, a3, a4, a5⟩ := pairs_rp I sF ra rv
    have hz' : its.length ≤ sizeLine := by rw [← rv.length]; exact hz
    exact dict_core hcalm I sF (PairArg.tuple a its.toArray Ts qs) ⟨pl, by simp [a4], fun j k v e => ⟨by simpa using (a5 j k v e).1, .inl (a5 j k v e).2.1⟩⟩ a1 a2 a3 a4 hz' (fun j k v e => (a5 j k v e).2.2) post q
  · exact h.elim
end
end VL
end
section
namespace VL
open PySem PySem.Spec PyProof.Rows L2

/-! ### del xs[lo:] -/
theorem tail_gone (a N : Nat) (f : Value × Nat → Option Value) (hf : ∀ p : Value × Nat, f p = if a ≤ p.2 ∧ p.2 < N then none else some p.1) : ∀ (l : List Value) (n : Nat), n + l.length = N → (l.zipIdx n).filterMap f = l.take (a - n)
  | [], n, _ => by simp
  | x :: l, n, e => by
    have ih := tail_gone a N f hf l (n + 1) (by simp only [List.length_cons] at e; omega)
    have hn : n < N := by simp only [List.length_cons] at e; omega
    rw [List.zipIdx_cons, List.filterMap_cons, hf]
    by_cases h : a ≤ n
    · rw [if_pos ⟨h, hn⟩, ih, Nat.sub_eq_zero_of_le h, Nat.sub_eq_zero_of_le (by omega)]
      simp
    · rw [if_neg (fun z => h z.1), ih]
      obtain ⟨m, hm⟩ : ∃ m, a - n = m + 1 := ⟨a - n - 1, by omega⟩
      rw [hm, show a - (n + 1) = m by omega]
      rfl
theorem bounds_tail {a n : Nat} : sliceBounds (some (a : Int)) none none n = (((min a n : Nat) : Int), ((n : Nat) : Int), 1) := by
  simp only [sliceBounds, Option.getD_none]
  have h1 : ¬ ((a : Int) < 0) := by omega
  simp only [h1, if_false, show (1 : Int) > 0 by decide, if_true]
  congr 1
  · omega
section
variable {prog : Program} {w : World} {A : Around} {E : Value → Shared → Prop} {s : Shared}
theorem del_tailV {l sl : Addr} {items : Array Value} {n : Nat} {vl : Value} {a : Nat} {Q : Unit → Shared → Prop} (e : s.heap.get? l = some { cls := .type "list", data := .seq items n })
    (hs : s.heap.IsSliceOf sl vl .none .none) (pl : IsPart vl (some (a : Int))) (hsz : items.size ≤ sizeLine)
    (h : ∀ f : Array Value → Array Value, f items = (items.toList.take a).toArray → Q () { s with heap := s.heap.update l (Obj.mapSeq f) }) : wpAny (model prog w) A (delItem (.ref l) (.ref sl)) Q E s := by
  have hl : s.heap.IsList l items := PySem.IsL.isList e
  obtain ⟨os, hos, hcs, hds⟩ := id hs
  have hTs : s.TypeIs (.ref sl) "slice" := ⟨os, hos, hcs⟩
  have hstep : ¬ ((rawPart none == rawInt 0) = true) := Bool.false_ne_true
  refine wpAny_delItem_slot hl.typeIs (by decide) F.slot_list_delitem (wpAny_call_entry F.slot_list_delitem hl.typeIs F.entry_list_delitem ?_ (F.args_list_delitem_2 _ _))
  show wpAny _ _ (Builtin.List.listSubscript? (.ref sl) >>= _) _ _ s
  refine wpAny_bind ?_
  unfold Builtin.List.listSubscript?
  refine wpAny_bind (wpAny_specialOf hTs slice_no_index ?_)
  simp only [Option.isNone_none, if_true]
  refine wpAny_pure ?_
  show wpAny _ _ (typeOf (.ref sl) >>= _) _ _ s
  refine wpAny_bind (wpAny_typeOf hTs ?_)
  first
    | rw [if_neg (by decide)]
    | refine PySem.W.KFB.if_not (by decide) ?_
  rw [listSliceParts_eq]
  refine wpAny_bind (wpAny_bind (wpAny_field hos hds (x := .none) rfl (wpAny_bind (wpAny_listPart .none ?_))))
  rw [if_neg hstep]
  refine wpAny_bind (wpAny_field hos hds (x := vl) rfl (wpAny_bind (wpAny_listPart pl ?_)))
  refine wpAny_bind (wpAny_field hos hds (x := .none) rfl (wpAny_bind (wpAny_listPart .none (wpAny_pure ?_))))
  unfold Builtin.List.listItems
  refine wpAny_bind (wpAny_bind (wpAny_seqItems e rfl (wpAny_pure ?_)))
  refine wpAny_bind (wpAny_of_eq ((sliceIndices_raw (some (a : Int)) none none items.size (by simp)).trans (congrArg (pure : Int × Int × Int → Sem (Int × Int × Int)) bounds_tail)) ?_)
  refine wpAny_bind (wpAny_rule ?_)
  have key : ∀ f : Array Value → Array Value, (∀ xs, f xs = (xs.toList.zipIdx.filterMap fun p => if (if (1 : Int) > 0 then (decide (((min a items.size : Nat) : Int) ≤ (p.2 : Int)) && decide ((p.2 : Int) < ((items.size : Nat) : Int)) && (((p.2 : Int) - ((min a items.size : Nat) : Int)) % 1 == 0)) else (decide (((items.size : Nat) : Int) < (p.2 : Int)) && decide ((p.2 : Int) ≤ ((min a items.size : Nat) : Int)) && ((((min a items.size : Nat) : Int) - (p.2 : Int)) % (-1) == 0))) = true then none else some p.1).toArray) → f items = (items.toList.take a).toArray := fun f hf => by
    rw [hf]
    congr 1
    rw [tail_gone (min a items.size) items.size _ (fun p => ?_) items.toList 0 (by simp)]
    · rw [Nat.sub_zero]
      by_cases c : a ≤ items.size
      · rw [Nat.min_eq_left c]
      · rw [Nat.min_eq_right (by omega), List.take_of_length_le (by simp), List.take_of_length_le (by simp; omega)]
    · rw [if_pos (show (1 : Int) > 0 by decide), Int.emod_one]
      by_cases c : min a items.size ≤ p.2 ∧ p.2 < items.size
      · rw [if_pos c, if_pos]
        simp only [Bool.and_eq_true, decide_eq_true_eq, beq_self_eq_true, and_true]
        omega
      · rw [if_neg c, if_neg]
        simp only [Bool.and_eq_true, decide_eq_true_eq, beq_self_eq_true, and_true]
        omega
  show wpAny _ _ (updateSeq l _ >>= _) _ _ s
  refine wpAny_bind (wpAny_updateSeq (hz := hsz) (_hz' := ?_) e rfl ?_)
  · refine wpAny_bind (wpAny_letGo ?_)
    exact wpAny_pure ⟨.none, rfl, h _ (key _ fun xs => rfl)⟩
  · rw [List.size_toArray]
    refine Nat.le_trans (List.length_filterMap_le _ _) ?_
    rw [List.length_zipIdx, Array.length_toList]
    omega
end
section
variable {X : Cx} {o e : Expr} {td te : TE} {p2 tpos pos : Pos}
def tDelT (td te : TE) : TS := fun D σ H => td σ H fun x H1 => tPart te σ H1 fun i H2 => ∃ (l : Addr) (xs : List V) (a : Nat), x = .ref l ∧ i = some (a : Int) ∧ H2 l = some (.lst xs) ∧ D.nx σ (upd H2 l (.lst (xs.take a)))
theorem ps_delT (ho : PE X o td) (he : PE X e te) : PS X (.Delete [.Subscript o (.Slice (some e) none none p2) tpos] pos) (tDelT td te) := by
  refine ⟨fun pins s σ H D I h => ?_⟩
  refine wpAny_Delete (wpAny_deleteEach_cons (wpAny_delete_Subscript (thn (ho.run pins s σ H _ I h) fun u s1 ⟨x, H1, I1, rx, q1⟩ => ?_)))
  refine wpAny_Slice (thn ((po_some he).run pins s1 σ H1 (fun i H2 => ∃ (l : Addr) (xs : List V) (a : Nat), x = .ref l ∧ i = some (a : Int) ∧ H2 l = some (.lst xs) ∧ D.nx σ (upd H2 l (.lst (xs.take a)))) I1 (q1 : tPart te σ H1 _)) fun vl s2 ⟨i, H2, I2, pl, l, xs, a, ex, ei, eH, q2⟩ => ?_)
  subst ex; subst ei
  cases (show u = Value.ref l from rx)
  rw [evalPart_none]
  refine wpAny_pure (wpAny_pure ?_)
  have J : Inv X pins σ H2 { s2 with heap := s2.heap.push { cls := .type "slice", data := .fields #[vl, .none, .none] } } := I2.kept (t' := s2.toks) fun b ob q => Heap.get?_push_of_some _ q
  obtain ⟨z, its, n, r, hl, e⟩ := J.lstM eH
  refine del_tailV (a := a) e (Heap.IsSliceOf.new ..) pl (by rw [List.size_toArray, ← hl]; exact z) fun f hf => wpAny_deleteEach_nil ⟨σ, _, J.lset (its' := its.take a) (t' := s2.toks) eH e (by rw [hf]) (r.take a) (by rw [List.length_take]; omega), q2⟩
end
end VL
end
section
namespace VL
open PySem PySem.Spec L2

/-! ### del xs[a:] of a slot -/
def sDel (i : Nat) (τ : EX) : ES := fun D Γ => (∃ ds, Γ[i]? = some (some (.ls ds))) ∧ τ Γ fun a Γ1 => ∃ ds n Γ2, Γ1[i]? = some (some (.ls ds)) ∧ rslv Γ1 a = some (.int (n : Nat)) ∧ setG Γ1 i (some (.ls (ds.take n))) = some Γ2 ∧ D.nx Γ2
section
variable {X : Cx} {o e idx : Expr} {τ τk : EX} {τo : EO} {p2 tpos pos : Pos}
theorem vs_del {io : Bool} (i : Nat) (ho : PE X o (tVar i)) (he : PE X e (lX X.K τ)) : PS X (.Delete [.Subscript o (.Slice (some e) none none p2) tpos] pos) (lS X.K io (sDel i τ)) :=
  ps_imp (ps_delT ho he) fun D σ H ⟨v0, Z, F, Γ, h, DD, A, ⟨⟨ds0, e0⟩, q⟩, kq⟩ => by
    obtain ⟨a, vs, sa, _, _, _⟩ := A.changeL e0
    refine ⟨.ref a, sa, _, Z, F, Γ, h, _, A, q, fun F1 Γ1 h1 H1 av y s1 A1 r1 ⟨ds, n, Γ2, e1, e2, e3, q1⟩ => ?_⟩
    obtain ⟨b, ws, sb, hb, rb, put⟩ := A1.changeL e1
    rw [sa] at sb; cases sb
    obtain ⟨h', A2⟩ := put _ _ (rb.take n)
    rw [(setG_eq e3).1] at A2
    exact ⟨(n : Nat), (rep_of A1 r1 e2).int, a, ws, n, rfl, rfl, hb, kq.nx F1 Γ2 σ h' _ s1 A2 q1⟩
/-! slot[k], by what the slot holds -/
def isTr (Γ : Ga) (i : Nat) : Bool := match Γ[i]? with
  | some (some (.tr _)) => true
  | _ => false
def oAltT (i : Nat) (t u : EO) : EO := fun Γ Q => match isTr Γ i with
  | true => t Γ Q
  | false => u Γ Q
theorem vo_altT {τ1 τ2 : EO} (i : Nat) (h1 : PE X e (lO X.K τ1)) (h2 : PE X e (lO X.K τ2)) : PE X e (lO X.K (oAltT i τ1 τ2)) := pe_imp (pe_or h1 h2) fun σ H QV ⟨pn, Z, F, Γ, hh, Q, A, q, k⟩ => by
  unfold oAltT at q
  split at q
  · exact .inl ⟨pn, Z, F, Γ, hh, Q, A, q, k⟩
  · exact .inr ⟨pn, Z, F, Γ, hh, Q, A, q, k⟩
def eIxS (i : Nat) (τ : EX) : EO := oAlt i (eDGet i τ) (oAltT i (oX (xEl (eEl i τ))) (eOp opIx (xVar i) τ))
theorem vo_ixS (i : Nat) (hu : X.A.units + 1 < cLine) (ho : PE X o (tVar i)) (hx : PE X idx (lX X.K τ)) (hs : PlainIx idx := by intro _ _; rfl) (hs2 : NoSl idx := by intro _ _; rfl) : PE X (.Subscript o idx pos) (lO X.K (eIxS i τ)) :=
  vo_alt i (vo_dget i hu ho hx hs2) (vo_altT i (vo_x (vx_el (ve_el i ho hx hs))) (vo_ix ix2_any (vx_var i ho) hx hs))
def sPutS (i : Nat) (τk : EX) (τv : EX) (τo : EO) : ES := sAlt i (sDPutS i τk τv) (sPut i τk τo)
def eInS (i : Nat) (τ : EX) : EO := oAlt i (eDIn true τ i) (eOp opIn τ (xVar i))
def eNotInS (i : Nat) (τ : EX) : EO := oAlt i (eDIn false τ i) (eOp opNotIn τ (xVar i))
def tInS (i : Nat) (τ : EX) : ET := tAlt i (tO (eDIn true τ i)) (tO (eOp opIn τ (xVar i)))
def tNotInS (i : Nat) (τ : EX) : ET := tAlt i (tO (eDIn false τ i)) (tO (eOp opNotIn τ (xVar i)))
theorem vo_inS (i : Nat) (hu : X.A.units + 65 < cLine) (hx : PE X idx (lX X.K τ)) (ho : PE X o (tVar i)) (hm : behindInMarks .In o = false := by rfl) : PE X (.Compare idx [.In] [o] pos) (lO X.K (eInS i τ)) :=
  vo_alt i (vo_din i (by omega) hx ho hm) (vo_cmp (o2_in hu) hx (vx_var i ho) hm)
theorem vo_notInS (i : Nat) (hu : X.A.units + 65 < cLine) (hx : PE X idx (lX X.K τ)) (ho : PE X o (tVar i)) (hm : behindInMarks .NotIn o = false := by rfl) : PE X (.Compare idx [.NotIn] [o] pos) (lO X.K (eNotInS i τ)) :=
  vo_alt i (vo_dnotin i (by omega) hx ho hm) (vo_cmp (o2_notIn hu) hx (vx_var i ho) hm)
theorem vt_inS (i : Nat) (hu : X.A.units + 65 < cLine) (hx : PE X idx (lX X.K τ)) (ho : PE X o (tVar i)) (hm : behindInMarks .In o = false := by rfl) : PT X (.Compare idx [.In] [o] pos) (lT X.K (tInS i τ)) :=
  vt_alt i (vt_din i (by omega) hx ho hm) (vt_cmp (o2_in hu) hx (vx_var i ho) hm)
theorem vt_notInS (i : Nat) (hu : X.A.units + 65 < cLine) (hx : PE X idx (lX X.K τ)) (ho : PE X o (tVar i)) (hm : behindInMarks .NotIn o = false := by rfl) : PT X (.Compare idx [.NotIn] [o] pos) (lT X.K (tNotInS i τ)) :=
  vt_alt i (vt_dnotin i (by omega) hx ho hm) (vt_cmp (o2_notIn hu) hx (vx_var i ho) hm)
end

/-! ### calls with keywords -/
def perm {α : Type} (np nk : Nat) (idx : List Nat) (us ws : List α) : List α := if us.length = np ∧ ws.length = nk then idx.filterMap ((us ++ ws)[·]?) else []
theorem perm_vals {np nk : Nat} {idx : List Nat} {vs : List V} {us : List Value} {zs : List V} {ws : List Value} (a : Vals vs us) (b : Vals zs ws) : Vals (perm np nk idx vs zs) (perm np nk idx us ws) := by
  unfold perm
  rw [a.length, b.length]
  split
  · have ab : Vals (vs ++ zs) (us ++ ws) := a.append b
    have at_ : ∀ (l : List V) (m : List Value), Vals l m → ∀ i : Nat, (l[i]? = none ∧ m[i]? = none) ∨ ∃ x u, l[i]? = some x ∧ m[i]? = some u ∧ RelV x u := by
      intro l m r
      induction r with
      | nil => intro i; exact .inl ⟨by simp, by simp⟩
      | cons h t ih =>
        intro i
        cases i with
        | zero => exact .inr ⟨_, _, rfl, rfl, h⟩
        | succ i => simpa using ih i
    induction idx with
    | nil => exact .nil
    | cons i idx ih =>
      rw [List.filterMap_cons, List.filterMap_cons]
      rcases at_ _ _ ab i with ⟨z1, z2⟩ | ⟨x, u, z1, z2, r⟩
      · simp only [z1, z2]; exact ih
      · simp only [z1, z2]; exact .cons r ih
  · exact .nil
theorem perm_rp {K : PySem.W.Frag} {F : Hp} {np nk : Nat} {idx : List Nat} {vs zs : List V} {ds es : List PyData} (a : RpAll K F vs ds) (b : RpAll K F zs es) : RpAll K F (perm np nk idx vs zs) (perm np nk idx ds es) := by
  unfold perm
  rw [a.length, b.length]
  split
  · have ab := a.append b
    induction idx with
    | nil => exact .nil
    | cons i idx ih =>
      rw [List.filterMap_cons, List.filterMap_cons]
      cases z : (vs ++ zs)[i]? with
      | none =>
        have : (ds ++ es)[i]? = none := by
          have := List.getElem?_eq_none_iff.mp z
          rw [ab.length] at this
          exact List.getElem?_eq_none this
        simp only [this]; exact ih
      | some x =>
        obtain ⟨d, e1, r⟩ := ab.get z
        simp only [e1]; exact .cons r ih
  · exact .nil
theorem kbinds_of {K : PySem.W.Frag} {x qual : Str} {st : Stmt} {f : Addr} {fd : FuncData} {ps ks : List Str} {np : Nat} {idx : List Nat} (F : Fun K x qual st f fd) (hne : ps ≠ [])
    (h : ∀ (kV doc pm : Value) (an : Option Addr) (cdv ct : Value) (us ws : List Value), us.length = np → ws.length = ks.length →
      bindArgs (PySem.W.fnOf x qual (defArgs st) (defBody st) (defScope st) .none kV doc pm an cdv ct) ⟨us, ks.zip ws⟩ = pure (ps.zip (idx.filterMap ((us ++ ws)[·]?)))) : KBinds K fd ps ks (perm np ks.length idx) (perm np ks.length idx) := by
  obtain ⟨oc, od, kV, doc, pm, an, cdv, ct, osl, rfl, lk, hcd⟩ := F.ex
  refine ⟨fun s us ws _ hl => ?_, fun a b => perm_vals a b⟩
  unfold perm at hl ⊢
  by_cases c : us.length = np ∧ ws.length = ks.length
  · rw [if_pos c]
    exact BindsTo.of_eq (h kV doc pm an cdv ct us ws c.1 c.2)
  · rw [if_neg c] at hl
    exact absurd (List.eq_nil_of_length_eq_zero hl.symm) hne
abbrev lK := lA
section
variable {X : Cx} {k : Nat} {f : Addr} {fd : FuncData} {ps ks : List Str} {x : Str} {p pos kpos : Pos} {e : Expr} {es : List Expr} {kws : List Keyword} {nm : Option Str} {τ : EX} {τs τk : EA} {np : Nat} {idx : List Nat}
theorem pk_imp {t t' : TA} (h : PK X kws t) (i : ∀ σ H Q, t' σ H Q → t σ H Q) : PK X kws t' := ⟨fun pos pins s σ H Q I q => h.run pos pins s σ H Q I (i σ H Q q)⟩
theorem vk_nil : PK X [] (lA X.K aNil) := pk_imp pk_nil fun σ H QV ⟨pn, Z, F, Γ, hh, Q, A, q, k⟩ => k F Γ hh H [] [] (Same.refl _) A rfl q
theorem vk_cons (ha : PE X e (lX X.K τ)) (hr : PK X kws (lA X.K τs)) : PK X (⟨nm, e, kpos⟩ :: kws) (lA X.K (aCons τ τs)) :=
  pk_imp (pk_cons ha hr) fun σ H QV ⟨pn, Z, F, Γ, hh, Q, A, q, k⟩ =>
    ⟨pn, Z, F, Γ, hh, _, A, q, fun F1 Γ1 h1 H1 a1 x s1 A1 r1 q1 => ⟨pn, Z, F1, Γ1, h1, _, A1, q1, fun F2 Γ2 h2 H2 as vs s2 A2 r2 q2 =>
      k F2 Γ2 h2 H2 (a1 :: as) (x :: vs) (s1.trans s2) A2 ⟨x, vs, rfl, r1.mono s2, r2⟩ q2⟩⟩
def eCallK (wp : W0) (np nk : Nat) (idx : List Nat) (τs τk : EA) : EO := fun Γ Q => τs Γ fun as Γ1 => τk Γ1 fun bs Γ2 => ∃ ds es, unD as = some ds ∧ unD bs = some es ∧ wp (perm np nk idx ds es) fun o => Q o Γ2
theorem callK_read {wp : W0} {E : XK} {nk : Nat} {σ : St} {H : Hp} {QV : VK} (h : lO X.K (eCallK wp np nk idx τs τk) σ H QV) : tCallK (toSp0 X.K wp) (perm np nk idx) E (lA X.K τs) (lA X.K τk) σ H QV := by
  obtain ⟨pn, Z, F, Γ, hh, Q, A, q, kk⟩ := h
  refine ⟨pn, Z, F, Γ, hh, _, A, q, fun F1 Γ1 h1 H1 as vs s1 A1 r1 q1 => ⟨pn, Z, F1, Γ1, h1, _, A1, q1, fun F2 Γ2 h2 H2 bs ws s2 A2 r2 ⟨ds, es, e1, e2, q2⟩ => ?_⟩⟩
  rw [unD_eq e1] at r1
  rw [unD_eq e2] at r2
  exact ⟨F2, _, _, A2.FH, perm_rp (args_d (r1.mono s2)) (args_d r2), q2, A2.post (s1.trans s2) kk⟩
theorem vo_callK {wp : W0} (G : FnOk X.prog X.w X.K X.mg X.base CX0 k f fd ps (toSp0 X.K wp)) (hr : Room k X.A) (hg : Gl X x) (hm : X.mg x = some (.ref f)) (hk : PySem.W.keepIn X.K (.ref f) = true) {nk : Nat} (hb : KBinds X.K fd ps ks (perm np nk idx) (perm np nk idx))
    (ha : PA X (e :: es) (lA X.K τs)) (hkw : PK X kws (lA X.K τk)) (hall : (backToKw pos (keywordEach kws X.env)).all (·.1.isSome) = true := by rfl) (hks : (backToKw pos (keywordEach kws X.env)).filterMap (·.1) = ks := by rfl)
    (hdb : (x == ("__debug__" : Str)) = false := by decide) (he : starEach (e :: es) X.env = (false, eval e X.env) :: starEach es X.env := by rfl)
    (hpl : ((backTo pos (starEach (e :: es) X.env)).any (·.1) || (backToKw pos (keywordEach kws X.env)).any (·.1.isNone)) = false := by rfl) :
    PE X (.Call (.Name x p) (e :: es) kws pos) (lO X.K (eCallK wp np nk idx τs τk)) := pe_imp (pe_callK G hr hg hm hk hb pass0 ha hkw hall hks hdb he hpl) fun σ H QV h => callK_read h
theorem pe_callK0 {CX : CXT} {sp : Sp} {E : XK} {g : List Value → List Value → List Value} {gV : List V → List V → List V} {tk : TA} (F : FnOk X.prog X.w X.K X.mg X.base CX k f fd ps sp) (hr : Room k X.A) (hg : Gl X x) (hm : X.mg x = some (.ref f)) (hk : PySem.W.keepIn X.K (.ref f) = true) (hb : KBinds X.K fd ps ks g gV) (hx : Passes CX X E)
    (hkw : PK X kws tk) (hall : (backToKw pos (keywordEach kws X.env)).all (·.1.isSome) = true := by rfl) (hks : (backToKw pos (keywordEach kws X.env)).filterMap (·.1) = ks := by rfl) (hdb : (x == ("__debug__" : Str)) = false := by decide)
    (hpl : ((backTo pos (starEach [] X.env)).any (·.1) || (backToKw pos (keywordEach kws X.env)).any (·.1.isNone)) = false := by rfl) : PE X (.Call (.Name x p) [] kws pos) (tCallK sp gV E tNil tk) := by
  refine ⟨fun pins s σ H Q I h => ?_⟩
  refine wpAny_Call_Name_kw (ld_glob I hg hm ?_ hdb)
  refine PySem.W.callWith_KW0 (h₀ := X.base) I.ok.mod.kin hk hall (thn (hkw.run pos pins s σ H _ I h) fun ws s2 ⟨zs, H2, I2, rz, q2⟩ => ⟨I2.kIn, ?_⟩) hpl
  rw [hks]
  exact run_fnk (us := []) F hr hb hx I2 .nil rz q2
theorem vo_callK0 {wp : W0} (G : FnOk X.prog X.w X.K X.mg X.base CX0 k f fd ps (toSp0 X.K wp)) (hr : Room k X.A) (hg : Gl X x) (hm : X.mg x = some (.ref f)) (hk : PySem.W.keepIn X.K (.ref f) = true) {nk : Nat} (hb : KBinds X.K fd ps ks (perm 0 nk idx) (perm 0 nk idx))
    (hkw : PK X kws (lA X.K τk)) (hall : (backToKw pos (keywordEach kws X.env)).all (·.1.isSome) = true := by rfl) (hks : (backToKw pos (keywordEach kws X.env)).filterMap (·.1) = ks := by rfl)
    (hdb : (x == ("__debug__" : Str)) = false := by decide)
    (hpl : ((backTo pos (starEach [] X.env)).any (·.1) || (backToKw pos (keywordEach kws X.env)).any (·.1.isNone)) = false := by rfl) :
    PE X (.Call (.Name x p) [] kws pos) (lO X.K (eCallK wp 0 nk idx aNil τk)) := pe_imp (pe_callK0 G hr hg hm hk hb pass0 hkw hall hks hdb hpl) fun σ H QV h => by
  obtain ⟨pn, Z, F, Γ, hh, Q, A, q, kk⟩ := h
  refine ⟨pn, Z, F, Γ, hh, _, A, q, fun F2 Γ2 h2 H2 bs ws s2 A2 r2 ⟨ds, es, e1, e2, q2⟩ => ?_⟩
  cases e1
  rw [unD_eq e2] at r2
  exact ⟨F2, _, _, A2.FH, perm_rp (ds := []) .nil (args_d r2), q2, A2.post s2 kk⟩
end
end VL
end
section
namespace VL
open PySem PySem.Spec L2

/-! ### steps of the later rules -/
section
variable {Γ Γ' : Ga} {Q : O → Ga → Prop} {QX : Av → Ga → Prop} {QA : List Av → Ga → Prop} {QT : Bool → Ga → Prop} {QOS : List O → Ga → Prop} {QE : Nat → Nat → Ga → Prop} {QO : O → Prop} {D : En} {τ τ' τk : EX} {to to' : EO} {τs τkw : EA} {tos : EAO} {te : EE} {t u : ES} {tt tu : ET} {d e : PyData} {o : O} {i j k : Nat} {b c : Bool} {ds es as : List PyData} {ts : List O} {x y : Int} {kk : List (Key × PyData)}
theorem st_ixD (he : Γ[i]? = some (some o)) (h1 : isDic Γ i = false) (h2 : isTr Γ i = false) (h : τ Γ fun a Γ2 => ∃ d1 d2, rslv Γ2 (.s i) = some d1 ∧ rslv Γ2 a = some d2 ∧ opIx d1 d2 fun o => Q o Γ2) : eIxS i τ Γ Q := by
  unfold eIxS oAlt
  rw [h1]
  show oAltT _ _ _ _ _
  unfold oAltT
  rw [h2]
  exact ⟨⟨o, he⟩, h⟩
theorem st_ixT (he : Γ[i]? = some (some (.fz (.tuple ds)))) (h : τ Γ fun a Γ2 => ∃ d1 d2, rslv Γ2 (.s i) = some d1 ∧ rslv Γ2 a = some d2 ∧ opIx d1 d2 fun o => Q o Γ2) : eIxS i τ Γ Q :=
  st_ixD he (by unfold isDic; rw [he]) (by unfold isTr; rw [he]) h
theorem st_ixF (he : Γ[i]? = some (some (.fz (.list ds)))) (h : τ Γ fun a Γ2 => ∃ d1 d2, rslv Γ2 (.s i) = some d1 ∧ rslv Γ2 a = some d2 ∧ opIx d1 d2 fun o => Q o Γ2) : eIxS i τ Γ Q :=
  st_ixD he (by unfold isDic; rw [he]) (by unfold isTr; rw [he]) h
theorem st_ixLs (he : Γ[i]? = some (some (.ls ds))) (h : τ Γ fun a Γ2 => ∃ d1 d2, rslv Γ2 (.s i) = some d1 ∧ rslv Γ2 a = some d2 ∧ opIx d1 d2 fun o => Q o Γ2) : eIxS i τ Γ Q :=
  st_ixD he (by unfold isDic; rw [he]) (by unfold isTr; rw [he]) h
theorem st_ixS' {z : Str} (he : Γ[i]? = some (some (.fz (.str z)))) (h : τ Γ fun a Γ2 => ∃ d1 d2, rslv Γ2 (.s i) = some d1 ∧ rslv Γ2 a = some d2 ∧ opIx d1 d2 fun o => Q o Γ2) : eIxS i τ Γ Q :=
  st_ixD he (by unfold isDic; rw [he]) (by unfold isTr; rw [he]) h
theorem st_el (he : Γ[i]? = some (some (.tr ts))) (h : τ Γ fun a Γ1 => ∃ ts z k, Γ1[i]? = some (some (.tr ts)) ∧ rslv Γ1 a = some (.int z) ∧ ixN ts.length z = some k ∧ QE i k Γ1) : eEl i τ Γ QE := ⟨⟨ts, he⟩, h⟩
theorem st_ixTr (he : Γ[i]? = some (some (.tr ts))) (h : τ Γ fun a Γ1 => ∃ ts z k, Γ1[i]? = some (some (.tr ts)) ∧ rslv Γ1 a = some (.int z) ∧ ixN ts.length z = some k ∧ ∃ ts o d Γ2, Γ1[i]? = some (some (.tr ts)) ∧ ts[k]? = some o ∧ o.frz = some d ∧ setG Γ1 i (some (.tr (ts.set k (.fz d)))) = some Γ2 ∧ Q (.fz d) Γ2) : eIxS i τ Γ Q := by
  have h1 : isDic Γ i = false := by unfold isDic; rw [he]
  have h2 : isTr Γ i = true := by unfold isTr; rw [he]
  unfold eIxS oAlt
  rw [h1]
  show oAltT _ _ _ _ _
  unfold oAltT
  rw [h2]
  show oX (xEl (eEl i τ)) Γ Q
  unfold oX xEl eEl
  refine ⟨⟨ts, he⟩, ?_⟩
  have mono : ∀ {R R' : Av → Ga → Prop}, R = R' → τ Γ R → τ Γ R' := fun e h => e ▸ h
  refine mono ?_ h
  funext a Γ1
  apply propext
  constructor
  · rintro ⟨ts, z, k, a1, a2, a3, ts', o, d, Γ2, b1, b2, b3, b4, q⟩
    exact ⟨ts, z, k, a1, a2, a3, ts', o, d, Γ2, b1, b2, b3, b4, d, rfl, q⟩
  · rintro ⟨ts, z, k, a1, a2, a3, ts', o, d, Γ2, b1, b2, b3, b4, d', e, q⟩
    cases e
    exact ⟨ts, z, k, a1, a2, a3, ts', o, d, Γ2, b1, b2, b3, b4, q⟩
theorem st_ixDic (he : dicG Γ i = some kk) (hd : isDic Γ i = true) (h : τ Γ fun a Γ1 => ∃ kk k d, dicG Γ1 i = some kk ∧ rslv Γ1 a = some (kD k) ∧ kGet kk k = some d ∧ Q (.fz d) Γ1) : eIxS i τ Γ Q := by
  unfold eIxS oAlt
  rw [hd]
  exact ⟨⟨kk, he⟩, h⟩
theorem st_lenT (he : Γ[i]? = some (some (.tr ts))) (h : Q (.fz (.int (ts.length : Nat))) Γ) : eLenS i Γ Q := by unfold eLenS; rw [he]; exact h
theorem st_lenD (d : PyData) (he : rslv Γ (.s i) = some d) (h : cdLen [d] fun o => Q o Γ) : eLenS i Γ Q := by
  unfold eLenS
  split
  · rename_i ts e
    simp [rslv, e] at he
  · exact ⟨d, he, h⟩
theorem st_cbe {cd : List PyData → (O → Prop) → Prop} (h : te Γ fun i k Γ1 => ∃ o d, elG Γ1 i k = some o ∧ elD o = some d ∧ cd [d] fun o => Q o Γ1) : eCBE cd te Γ Q := h
theorem st_true (h : te Γ fun i k Γ1 => ∃ o d c, elG Γ1 i k = some o ∧ elD o = some d ∧ truD d = some c ∧ QT c Γ1) : tTruE te Γ QT := h
theorem st_ixe {op : PyData → PyData → (O → Prop) → Prop} (h : te Γ fun i k Γ1 => ∃ o1 ts Γ2, o1 = .tr ts ∧ Γ1[i]? = some (some o1) ∧ setG Γ1 i none = some Γ2 ∧ τ Γ2 fun a Γ3 => ∃ el d1 d2 Γ4, rslv Γ3 a = some d2 ∧ ts[k]? = some el ∧ elD el = some d1 ∧ setG Γ3 i (some o1) = some Γ4 ∧ op d1 d2 fun o => Q o Γ4) : eIxE op te τ Γ Q := h
theorem st_app {tb : Bool} (hl : listG Γ i) (h : to Γ fun o Γ1 => appO tb i o Γ1 Q) : eApp tb i to Γ Q := ⟨hl, h⟩
theorem listG_ls (he : Γ[i]? = some (some (.ls ds))) : listG Γ i := .inl ⟨ds, he⟩
theorem listG_tr (he : Γ[i]? = some (some (.tr ts))) : listG Γ i := .inr ⟨ts, he⟩
theorem st_appL (he : Γ[i]? = some (some (.ls ds))) (hz : ds.length < sizeLine) (hd : o.frz = some d) (hs : setG Γ i (some (.ls (ds ++ [d]))) = some Γ') (h : Q (.fz .none) Γ') : appO false i o Γ Q := by
  unfold appO
  rw [he]
  exact ⟨hz, by rw [if_neg Bool.false_ne_true]; exact ⟨d, hd, Γ', hs, h⟩⟩
theorem st_appN (he : Γ[i]? = some (some (.ls ds))) (hz : ds.length < sizeLine) (hs : setG Γ i (some (.tr (ds.map .fz ++ [o]))) = some Γ') (h : Q (.fz .none) Γ') : appO true i o Γ Q := by
  unfold appO
  rw [he]
  exact ⟨hz, by rw [if_pos rfl]; exact ⟨Γ', hs, h⟩⟩
theorem st_appT {tb : Bool} (he : Γ[i]? = some (some (.tr ts))) (hz : ts.length < sizeLine) (hs : setG Γ i (some (.tr (ts ++ [o]))) = some Γ') (h : Q (.fz .none) Γ') : appO tb i o Γ Q := by
  unfold appO
  rw [he]
  exact ⟨hz, Γ', hs, h⟩
theorem st_popL (he : Γ[i]? = some (some (.ls ds))) (hx : ds[ds.length - 1]? = some d) (hs : setG Γ i (some (.ls ds.dropLast)) = some Γ') (h : Q (.fz d) Γ') : ePop i Γ Q := by
  unfold ePop; rw [he]; exact ⟨d, Γ', hx, hs, h⟩
theorem st_popT (he : Γ[i]? = some (some (.tr ts))) (hx : ts[ts.length - 1]? = some o) (hs : setG Γ i (some (.tr ts.dropLast)) = some Γ') (h : Q o Γ') : ePop i Γ Q := by
  unfold ePop; rw [he]; exact ⟨o, Γ', hx, hs, h⟩
theorem st_putS (hd : isDic Γ i = false) (h : sPut i τ to D Γ) : sPutS i τ τ' to D Γ := by
  unfold sPutS sAlt; rw [hd]; exact h
theorem st_putSD (hd : isDic Γ i = true) (h : sDPutS i τ τ' D Γ) : sPutS i τ τ' to D Γ := by
  unfold sPutS sAlt; rw [hd]; exact h
theorem st_put (h : to Γ fun o Γ1 => (∃ o1, Γ1[i]? = some (some o1) ∧ (∃ ts, o1 = .tr ts ∨ ∃ ds, o1 = .ls ds)) ∧ τ Γ1 fun a Γ2 => ∃ z k Γ3, rslv Γ2 a = some (.int z) ∧
  ((∃ ts, Γ2[i]? = some (some (.tr ts)) ∧ ixN ts.length z = some k ∧ setG Γ2 i (some (.tr (ts.set k o))) = some Γ3) ∨ (∃ ds d, Γ2[i]? = some (some (.ls ds)) ∧ o.frz = some d ∧ ixN ds.length z = some k ∧ setG Γ2 i (some (.ls (ds.set k d))) = some Γ3)) ∧ D.nx Γ3) : sPut i τ to D Γ := h
theorem st_dput (h : τ' Γ fun av Γ1 => (∃ kk, Γ1[i]? = some (some (.dk kk))) ∧ ∃ d, av = .d d ∧ τ Γ1 fun a Γ2 => ∃ kk k Γ3, Γ2[i]? = some (some (.dk kk)) ∧ rslv Γ2 a = some (kD k) ∧ kk.length < sizeLine ∧ setG Γ2 i (some (.dk (kPut kk k d))) = some Γ3 ∧ D.nx Γ3) : sDPutS i τ τ' D Γ := h
theorem st_in (hd : isDic Γ i = false) (h : τ Γ fun a Γ1 => xVar i Γ1 fun a2 Γ2 => ∃ d1 d2, rslv Γ2 a = some d1 ∧ rslv Γ2 a2 = some d2 ∧ opIn d1 d2 fun o => Q o Γ2) : eInS i τ Γ Q := by unfold eInS oAlt; rw [hd]; exact h
theorem st_notin (hd : isDic Γ i = false) (h : τ Γ fun a Γ1 => xVar i Γ1 fun a2 Γ2 => ∃ d1 d2, rslv Γ2 a = some d1 ∧ rslv Γ2 a2 = some d2 ∧ opNotIn d1 d2 fun o => Q o Γ2) : eNotInS i τ Γ Q := by unfold eNotInS oAlt; rw [hd]; exact h
theorem st_tin (hd : isDic Γ i = false) (h : τ Γ fun a Γ1 => xVar i Γ1 fun a2 Γ2 => ∃ d1 d2, rslv Γ2 a = some d1 ∧ rslv Γ2 a2 = some d2 ∧ opIn d1 d2 fun o => ∃ b, o = .fz (.bool b) ∧ QT b Γ2) : tInS i τ Γ QT := by unfold tInS tAlt; rw [hd]; exact h
theorem st_tnotin (hd : isDic Γ i = false) (h : τ Γ fun a Γ1 => xVar i Γ1 fun a2 Γ2 => ∃ d1 d2, rslv Γ2 a = some d1 ∧ rslv Γ2 a2 = some d2 ∧ opNotIn d1 d2 fun o => ∃ b, o = .fz (.bool b) ∧ QT b Γ2) : tNotInS i τ Γ QT := by unfold tNotInS tAlt; rw [hd]; exact h
theorem st_din (hd : isDic Γ i = true) (h : τ Γ fun a Γ1 => ∃ kk k, dicG Γ1 i = some kk ∧ rslv Γ1 a = some (kD k) ∧ Q (.fz (.bool (kGet kk k).isSome)) Γ1) : eInS i τ Γ Q := by unfold eInS oAlt; rw [hd]; exact h
theorem st_dnotin (hd : isDic Γ i = true) (h : τ Γ fun a Γ1 => ∃ kk k, dicG Γ1 i = some kk ∧ rslv Γ1 a = some (kD k) ∧ Q (.fz (.bool !(kGet kk k).isSome)) Γ1) : eNotInS i τ Γ Q := by unfold eNotInS oAlt; rw [hd]; exact h
theorem st_tdin (hd : isDic Γ i = true) (h : τ Γ fun a Γ1 => ∃ kk k, dicG Γ1 i = some kk ∧ rslv Γ1 a = some (kD k) ∧ ∃ b, O.fz (.bool (kGet kk k).isSome) = .fz (.bool b) ∧ QT b Γ1) : tInS i τ Γ QT := by unfold tInS tAlt; rw [hd]; exact h
theorem st_tdnotin (hd : isDic Γ i = true) (h : τ Γ fun a Γ1 => ∃ kk k, dicG Γ1 i = some kk ∧ rslv Γ1 a = some (kD k) ∧ ∃ b, O.fz (.bool !(kGet kk k).isSome) = .fz (.bool b) ∧ QT b Γ1) : tNotInS i τ Γ QT := by unfold tNotInS tAlt; rw [hd]; exact h
theorem st_dnew (h : Q (.dk []) Γ) : eDNew Γ Q := h
theorem st_ao0 (h : QOS [] Γ) : aoNil Γ QOS := h
theorem st_ao (h : to Γ fun o Γ1 => tos Γ1 fun os Γ2 => QOS (o :: os) Γ2) : aoCons to tos Γ QOS := h
theorem st_trl (h : tos Γ fun os Γ1 => os.length ≤ sizeLine ∧ Q (mkL os) Γ1) : eTrL tos Γ Q := h
theorem st_del (he : Γ[i]? = some (some (.ls ds))) (h : τ Γ fun a Γ1 => ∃ ds n Γ2, Γ1[i]? = some (some (.ls ds)) ∧ rslv Γ1 a = some (.int (n : Nat)) ∧ setG Γ1 i (some (.ls (ds.take n))) = some Γ2 ∧ D.nx Γ2) : sDel i τ D Γ := ⟨⟨ds, he⟩, h⟩
theorem st_callk {wp : W0} {np nk : Nat} {idx : List Nat} (h : τs Γ fun as Γ1 => τkw Γ1 fun bs Γ2 => ∃ ds es, unD as = some ds ∧ unD bs = some es ∧ wp (perm np nk idx ds es) fun o => Q o Γ2) : eCallK wp np nk idx τs τkw Γ Q := h
theorem cd_sortedL {QO : O → Prop} (hs : SortOk ds) (h : QO (.ls (ds.mergeSort (PySem.W.dataLe false id)))) : cdSorted [.list ds] QO := ⟨hs, h⟩
end
end VL
end
section
namespace VL
open PySem PySem.Spec L2

/-! ### a call that lends what slots own: the answer bears no reference -/
def flatD : PyData → Bool
  | .none => true
  | .bool _ => true
  | .int _ => true
  | .str _ => true
  | _ => false
theorem flat_rp {K : PySem.W.Frag} {F F' : Hp} {d : PyData} {v : V} (h : flatD d = true) (r : Rp K F v d) : Rp K F' v d := by
  cases r with
  | non => exact .non
  | bl b => exact .bl b
  | int b => exact .int b
  | str b => exact .str b
  | lst _ _ => cases h
  | tup _ _ => cases h
  | dct _ _ _ _ => cases h
  | scr _ => cases h
theorem rep_lent {K : PySem.W.Frag} {pn : List (Nat × V)} {Z F : Hp} {Γ : Ga} {σ : St} {h H : Hp} {a : Av} {v : V} {d : PyData} (A : At K pn Z F Γ σ h H) (r : ArgRel K F σ a v) (e : rslv Γ a = some d) : Rp K (jn h F) v d := by
  have sF : Same F (jn h F) := same_r A.hF
  cases a with
  | d x => cases e; exact Rp.mono sF r
  | s j =>
    cases e1 : Γ[j]? with
    | none => simp [rslv, e1] at e
    | some x =>
      cases x with
      | none => simp [rslv, e1] at e
      | some o =>
        obtain ⟨u, h1, h2, s1, eh, _, w, _⟩ := A.own.focus e1
        have r : σ[j]? = some (some v) := r
        rw [s1] at r; cases r
        cases o with
        | fz d' =>
          have e : some d' = some d := by simpa [rslv, e1] using e
          cases e
          exact Rp.mono sF (own_fz.mp w).2
        | ls ds =>
          have e : some (PyData.list ds) = some d := by simpa [rslv, e1] using e
          cases e
          obtain ⟨a, vs, rfl, rfl, q⟩ := own_ls.mp w
          refine .lst ?_ (RpAll.mono sF q)
          rw [eh]
          exact jn_l (jn_l one_at)
        | dk _ => simp [rslv, e1] at e
        | rs _ => simp [rslv, e1] at e
        | tr _ => simp [rslv, e1] at e
        | td _ _ => simp [rslv, e1] at e
theorem reps_lent {K : PySem.W.Frag} {pn : List (Nat × V)} {Z F : Hp} {Γ : Ga} {σ : St} {h H : Hp} (A : At K pn Z F Γ σ h H) : ∀ {as : List Av} {vs : List V} {ds : List PyData}, ArgsRel K F σ as vs → rsAll Γ as = some ds → RpAll K (jn h F) vs ds
  | [], _, ds, r, e => by cases e; cases r; exact .nil
  | a :: as, _, ds, ⟨v, vr, e0, r, t⟩, e => by
    unfold rsAll at e
    split at e
    · rename_i d ds' h1 h2
      cases e; cases e0
      exact .cons (rep_lent A r h1) (reps_lent A t h2)
    · cases e
/-- what was lent is taken back -/
def off (h F : Hp) : Hp := fun a => match h a with | none => F a | some _ => none
theorem off_of {h F : Hp} {a : Addr} (e : h a = none) : off h F a = F a := by unfold off; rw [e]
theorem off_in {h F : Hp} {a : Addr} {o : HO} (e : h a = some o) : off h F a = none := by unfold off; rw [e]
theorem At.back {K : PySem.W.Frag} {pn : List (Nat × V)} {Z F F' : Hp} {Γ : Ga} {σ : St} {h H H' : Hp} (A : At K pn Z F Γ σ h H) (g : Grow (jn h F) H F' H') : Same F (off h F') ∧ At K pn Z (off h F') Γ σ h H' := by
  have s1 : Same F (off h F') := fun a o e => by
    have : h a = none := by
      rcases A.hF a with z | z
      · exact z
      · rw [z] at e; cases e
    rw [off_of this]
    exact g.fs _ _ (same_r A.hF _ _ e)
  have s2 : Same (off h F') F' := fun a o e => by
    cases z : h a with
    | none => rw [off_of z] at e; exact e
    | some u => rw [off_in z] at e; cases e
  refine ⟨s1, A.own.mono s1, A.hH.trans g.hh, s2.trans g.fh, A.ZH.trans g.hh, ?_, fun a => ?_, A.hZ, A.pin⟩
  · exact fun a => by
      cases z : off h F' a with
      | none => exact .inl rfl
      | some u =>
        right
        have e := s2 _ _ z
        rcases g.nw a (by rw [e]; simp) with y | y
        · cases zh : h a with
          | some w => rw [off_in zh] at z; cases z
          | none =>
            rw [jn_r zh] at y
            rcases A.FZ a with x | x
            · exact absurd x y
            · exact x
        · exact A.ZH.free y
  · cases z : h a with
    | none => exact .inl rfl
    | some u => exact .inr (off_in z)
def eCallB (wp : W0) (dds : List PyData) (τs : EA) : EO := fun Γ Q => τs Γ fun as Γ1 => ∃ ds, rsAll Γ1 as = some ds ∧ wp (ds ++ dds) fun o => ∃ d, o = .fz d ∧ flatD d = true ∧ Q (.fz d) Γ1
section
variable {X : Cx} {k : Nat} {f : Addr} {fd : FuncData} {ps : List Str} {x : Str} {p pos : Pos} {e : Expr} {es : List Expr} {τs : EA} {dvs : List V} {ds : List Value} {dds : List PyData}
theorem callB_read {wp : W0} (hdd : ∀ F, RpAll X.K F dvs dds) {E : XK} {σ : St} {H : Hp} {QV : VK} (h : lO X.K (eCallB wp dds τs) σ H QV) : tCall (toSp0 X.K wp) dvs E (lA X.K τs) σ H QV := by
  obtain ⟨pn, Z, F, Γ, hh, Q, A, q, kk⟩ := h
  refine ⟨pn, Z, F, Γ, hh, _, A, q, fun F1 Γ1 h1 H1 as vs s1 A1 r1 ⟨ds', e1, q1⟩ => ?_⟩
  refine ⟨jn h1 F1, ds' ++ dds, _, same_jn A1.hH A1.FH, (reps_lent A1 r1 e1).append (hdd _), q1, fun F' hr H' o v g w sr d nw ⟨dd, eo, fl, q2⟩ => ?_⟩
  subst eo
  obtain ⟨sF, A'⟩ := A1.back g
  exact kk _ Γ1 h1 emp H' (.fz dd) v (s1.trans sF) A'.alone ⟨rfl, flat_rp fl (own_fz.mp w).2⟩ q2
theorem vo_callB {wp : W0} (G : FnOk X.prog X.w X.K X.mg X.base CX0 k f fd ps (toSp0 X.K wp)) (hr : Room k X.A) (hg : Gl X x) (hm : X.mg x = some (.ref f)) (hk : PySem.W.keepIn X.K (.ref f) = true) (hb : Binds X.K fd ps ds) (hd : Vals dvs ds) (hdd : ∀ F, RpAll X.K F dvs dds)
    (ha : PA X (e :: es) (lA X.K τs)) (hdb : (x == ("__debug__" : Str)) = false := by decide) (he : starEach (e :: es) X.env = (false, eval e X.env) :: starEach es X.env := by rfl) (hpl : (backTo pos (starEach es X.env)).any (·.1) = false := by rfl) :
    PE X (.Call (.Name x p) (e :: es) [] pos) (lO X.K (eCallB wp dds τs)) := pe_imp (pe_call G hr hg hm hk hb hd pass0 ha hdb he hpl) fun σ H QV h => callB_read hdd h
end
theorem st_callB {Γ : Ga} {Q : O → Ga → Prop} {τs : EA} {wp : W0} {dds : List PyData} (h : τs Γ fun as Γ1 => ∃ ds, rsAll Γ1 as = some ds ∧ wp (ds ++ dds) fun o => ∃ d, o = .fz d ∧ flatD d = true ∧ Q (.fz d) Γ1) : eCallB wp dds τs Γ Q := h
end VL
end
section
namespace VL
open PySem PySem.Spec L2
section
variable {α : Type} {Γ Γ1 : Ga} {vs : List Nat} {ti : EI} {g : EG} {tt : ET} {to : EO} {Q : O → Ga → Prop}
theorem lcO_inv (xs : List α) (enc : α → PyData) (I : Nat → List O → Ga → Prop) (hi : IPure ti Γ (xs.map enc) Γ1) (pl : Plain Γ1 vs) (h0 : I 0 [] Γ1)
    (turn : ∀ i x acc Γ', xs[i]? = some x → I i acc Γ' → (∀ j ∈ vs, Γ'[j]? = Γ1[j]?) → ∃ Γw, nrm (wipeG Γ' vs) = some Γw ∧ g (enc x) Γw fun Γ2 => tt Γ2 fun b Γ3 => Br b (to Γ3 fun o Γ4 => acc.length < sizeLine ∧ ∃ Γb, nrm (backG Γ1 Γ4 vs) = some Γb ∧ I (i + 1) (acc ++ [o]) Γb) (∃ Γb, nrm (backG Γ1 Γ3 vs) = some Γb ∧ I (i + 1) acc Γb))
    (h : ∀ acc Γ', I xs.length acc Γ' → Q (.tr acc) Γ') : eLcO ti g tt to vs Γ Q := by
  refine hi _ ⟨pl, I, h0, fun i d acc Γ' e w sl => ?_, fun acc Γ' w => h acc Γ' (by rw [List.length_map] at w; exact w)⟩
  rw [List.getElem?_map] at e
  cases ex : xs[i]? with
  | none => rw [ex] at e; cases e
  | some x => rw [ex] at e; cases e; exact turn i x acc Γ' ex w sl
end
section
variable {Γ : Ga} {Q : O → Ga → Prop} {te : EE} {τs : EA} {τj τv : EX} {sm : SM} {D : En}
theorem st_sme (h : te Γ fun i k Γ1 => ∃ o1 ts Γ2 ds, o1 = .tr ts ∧ Γ1[i]? = some (some o1) ∧ setG Γ1 i none = some Γ2 ∧ ts[k]? = some (.ls ds) ∧ τs Γ2 fun as Γ3 => ∃ ads Γ4, unD as = some ads ∧ setG Γ3 i (some o1) = some Γ4 ∧ sm ds ads fun ds' d => ∃ Γ5, setG Γ4 i (some (.tr (ts.set k (.ls ds')))) = some Γ5 ∧ Q (.fz d) Γ5) : eSME sm te τs Γ Q := h
theorem st_sme0 (h : te Γ fun i k Γ1 => ∃ ts ds, Γ1[i]? = some (some (.tr ts)) ∧ ts[k]? = some (.ls ds) ∧ sm ds [] fun ds' d => ∃ Γ5, setG Γ1 i (some (.tr (ts.set k (.ls ds')))) = some Γ5 ∧ Q (.fz d) Γ5) : eSME0 sm te Γ Q := h
theorem st_pute (h : τv Γ fun av Γ1 => ∃ d, av = .d d ∧ te Γ1 fun i k Γ2 => ∃ o1 ts ds Γ3, o1 = .tr ts ∧ Γ2[i]? = some (some o1) ∧ ts[k]? = some (.ls ds) ∧ setG Γ2 i none = some Γ3 ∧ τj Γ3 fun a Γ4 => ∃ z j Γ5, rslv Γ4 a = some (.int z) ∧ ixN ds.length z = some j ∧ setG Γ4 i (some o1) = some Γ5 ∧ ∃ Γ6, setG Γ5 i (some (.tr (ts.set k (.ls (ds.set j d))))) = some Γ6 ∧ D.nx Γ6) : sPutE te τj τv D Γ := h
end
/-! a comprehension, a for, where what is walked is known later -/
def lcB (g : EG) (tt : ET) (te : EX) (vs : List Nat) (ds : List PyData) (Γ1 : Ga) (Q : O → Ga → Prop) : Prop := Plain Γ1 vs ∧ ∃ I : Nat → List PyData → Ga → Prop, I 0 [] Γ1 ∧
  (∀ i d acc Γ', ds[i]? = some d → I i acc Γ' → (∀ j ∈ vs, Γ'[j]? = Γ1[j]?) → ∃ Γw, nrm (wipeG Γ' vs) = some Γw ∧ g d Γw fun Γ2 => tt Γ2 fun b Γ3 => Br b (te Γ3 fun a Γ4 => ∃ y, a = .d y ∧ acc.length < sizeLine ∧ ∃ Γb, nrm (backG Γ1 Γ4 vs) = some Γb ∧ I (i + 1) (acc ++ [y]) Γb) (∃ Γb, nrm (backG Γ1 Γ3 vs) = some Γb ∧ I (i + 1) acc Γb)) ∧
  ∀ acc Γ', I ds.length acc Γ' → Q (.ls acc) Γ'
def forB (g : EG) (t : ES) (D : En) (ds : List PyData) (Γ1 : Ga) : Prop := ∃ I : Nat → Ga → Prop, I 0 Γ1 ∧ (∀ i d Γ', ds[i]? = some d → I i Γ' → g d Γ' fun Γ2 => t { D with nx := I (i + 1), ct := I (i + 1), bk := D.nx } Γ2) ∧ ∀ Γ', I ds.length Γ' → D.nx Γ'
theorem st_lc {ti : EI} {g : EG} {tt : ET} {te : EX} {vs : List Nat} {Γ : Ga} {Q : O → Ga → Prop} (h : ti Γ fun ds Γ1 => lcB g tt te vs ds Γ1 Q) : eLc ti g tt te vs Γ Q := h
theorem st_for {ti : EI} {g : EG} {t : ES} {D : En} {Γ : Ga} (h : ti Γ fun ds Γ1 => forB g t D ds Γ1) : sFor ti g t D Γ := h
theorem lcB_inv {α : Type} {g : EG} {tt : ET} {te : EX} {vs : List Nat} {Γ1 : Ga} {Q : O → Ga → Prop} {ds : List PyData} (xs : List α) (enc : α → PyData) (I : Nat → List PyData → Ga → Prop) (he : ds = xs.map enc) (pl : Plain Γ1 vs) (h0 : I 0 [] Γ1)
    (turn : ∀ i x acc Γ', xs[i]? = some x → I i acc Γ' → (∀ j ∈ vs, Γ'[j]? = Γ1[j]?) → ∃ Γw, nrm (wipeG Γ' vs) = some Γw ∧ g (enc x) Γw fun Γ2 => tt Γ2 fun b Γ3 => Br b (te Γ3 fun a Γ4 => ∃ y, a = .d y ∧ acc.length < sizeLine ∧ ∃ Γb, nrm (backG Γ1 Γ4 vs) = some Γb ∧ I (i + 1) (acc ++ [y]) Γb) (∃ Γb, nrm (backG Γ1 Γ3 vs) = some Γb ∧ I (i + 1) acc Γb))
    (h : ∀ acc Γ', I xs.length acc Γ' → Q (.ls acc) Γ') : lcB g tt te vs ds Γ1 Q := by
  subst he
  exact lc_inv (ti := fun Γ QI => QI (xs.map enc) Γ) xs enc I (fun QI q => q) pl h0 turn h
theorem forB_inv {α : Type} {g : EG} {t : ES} {D : En} {Γ1 : Ga} {ds : List PyData} (xs : List α) (enc : α → PyData) (I : Nat → Ga → Prop) (he : ds = xs.map enc) (h0 : I 0 Γ1)
    (turn : ∀ i x Γ', xs[i]? = some x → I i Γ' → g (enc x) Γ' fun Γ2 => t { D with nx := I (i + 1), ct := I (i + 1), bk := D.nx } Γ2) (hd : ∀ Γ', I xs.length Γ' → D.nx Γ') : forB g t D ds Γ1 := by
  subst he
  exact for_inv (ti := fun Γ QI => QI (xs.map enc) Γ) xs enc I (fun QI q => q) h0 turn hd
theorem br_nt {A B : Prop} (h : B) : Br (!true) A B := br_f h
theorem br_nf {A B : Prop} (h : A) : Br (!false) A B := br_t h
theorem op_isBl {b : Bool} {Q : O → Prop} (h : Q (.fz (.bool false))) : opIsN (.bool b) .none Q := ⟨rfl, h⟩
theorem op_isSt {x : Str} {Q : O → Prop} (h : Q (.fz (.bool false))) : opIsN (.str x) .none Q := ⟨rfl, h⟩
theorem op_isLs {ds : List PyData} {Q : O → Prop} (h : Q (.fz (.bool false))) : opIsN (.list ds) .none Q := ⟨rfl, h⟩
theorem shaped_str {x : Str} (h : PyData.strOk x = true) : shaped (.str x) := by unfold shaped SeqAt.shaped; simp [PyData.canLay0, PyData.depth, h]
theorem ixN_nat {n k : Nat} (h : k < n) : ixN n (k : Int) = some k := by
  unfold ixN
  rw [if_pos (by omega), if_pos (by omega)]
  rfl
theorem ixN_of {n k : Nat} {z : Int} (e : z = (k : Int)) (h : k < n) : ixN n z = some k := by rw [e]; exact ixN_nat h
theorem szI {n : Int} (h0 : 0 ≤ n) (h : n ≤ 1000000000) : -(2 ^ 62) ≤ n ∧ n < 2 ^ 62 := by omega
end VL
end
section
/-! sets of tuples (tuples of whole numbers, truth values, texts, None, such tuples), by their keys -/
namespace VS
open PySem PySem.Spec PyProof.Rows L2
section
variable {P : Program} {w : World} {E : Value → Shared → Prop}
/-! ### small questions about keys -/
def NoCl (P : Program) (w : World) (n : Nat) (s : Shared) (v : Value) : Prop := ∀ (A : Around) (E : Value → Shared → Prop) (Q : Bool → Shared → Prop), Q false s → wpAny (model P w) A (ofAClassStatement n v) Q E s
theorem NoCl.tup {n m : Nat} {s : Shared} {a : Addr} {u : Obj} {xs : Array Value} (g1 : s.heap.get? a = some u) (g2 : u.cls = .type "tuple") (g3 : u.data = .seq xs m) (g4 : ∀ x ∈ xs.toList, NoCl P w n s x) : NoCl P w (n + 1) s (.ref a) := fun A E Q q => by
  unfold ofAClassStatement
  refine wpAny_bind (wpAny_typeOf (show s.TypeIs (.ref a) "tuple" from ⟨u, g1, g2⟩) ?_)
  dsimp only
  have tt : (("tuple" : String) == "tuple") = true := by decide
  simp only [tt, if_true, Bool.not_true, Bool.false_eq_true, if_false]
  try refine wpAny_bind (wpAny_pure ?_)
  try simp only [Bool.not_true, Bool.false_eq_true, if_false]
  show wpAny _ _ (seqItems? (Value.ref a) >>= _) Q E s
  refine wpAny_bind (wpAny_seqItems g1 g3 ?_)
  dsimp only
  refine wpAny_bind ?_
  show wpAny _ _ (forIn xs _ _) _ E s
  rw [← Array.forIn_toList]
  refine wpAny_forIn_list _ (fun more acc s2 => s2 = s ∧ acc.1 = none ∧ ∀ x ∈ more, NoCl P w n s x) _ ?_ ?_ _ _ ⟨rfl, rfl, g4⟩
  · rintro x more acc s2 ⟨rfl, z, ok⟩
    refine wpAny_bind (ok x List.mem_cons_self _ _ _ ?_)
    simp only [Bool.false_eq_true, if_false]
    exact wpAny_pure ⟨rfl, rfl, fun y hy => ok y (List.mem_cons_of_mem _ hy)⟩
  · rintro ⟨acc, acc2⟩ s2 ⟨rfl, z, _⟩
    simp only at z
    subst z
    exact wpAny_pure q
mutual
theorem noCl_key : ∀ (k : NestedKey) (v : Value) (n : Nat) (s : Shared), NestedIs s.heap k v → k.depth ≤ n → NoCl P w n s v
  | .none, _, n, s, x, _ => fun A E Q q => by cases x; cases n <;> exact wpAny_pure q
  | .num i, _, n, s, x, _ => fun A E Q q => by cases x <;> cases n <;> exact wpAny_pure q
  | .text y, _, n, s, x, _ => fun A E Q q => by cases x; cases n <;> exact wpAny_pure q
  | .tup ks, _, n, s, x, hn => by
    cases x with
    | tup g1 g2 g3 g4 =>
      simp only [NestedKey.depth] at hn
      cases n with
      | zero => omega
      | succ n => exact .tup g1 g2 g3 (noCl_keys ks _ n s g4 (by omega))
theorem noCl_keys : ∀ (ks : List NestedKey) (vs : List Value) (n : Nat) (s : Shared), NestedAll s.heap ks vs → NestedKey.depthAll ks ≤ n → ∀ v ∈ vs, NoCl P w n s v
  | [], _, n, s, x, _, v, hv => by cases x; cases hv
  | k :: ks, _, n, s, x, hn, v, hv => by
    cases x with
    | cons x1 x2 =>
      simp only [NestedKey.depthAll] at hn
      rcases List.mem_cons.mp hv with e | hv
      · subst e; exact noCl_key k _ n s x1 (by omega)
      · exact noCl_keys ks _ n s x2 (by omega) v hv
end
def HaBy (P : Program) (w : World) (n : Nat) (s : Shared) (v : Value) : Prop := ∀ (A : Around) (E : Value → Shared → Prop) (Q : Bool → Shared → Prop), (∀ b, Q b s) → wpAny (model P w) A (hashByValue n v) Q E s
theorem HaBy.tup {n m : Nat} {s : Shared} {a : Addr} {u : Obj} {xs : Array Value} (g1 : s.heap.get? a = some u) (g2 : u.cls = .type "tuple") (g3 : u.data = .seq xs m) (g4 : ∀ x ∈ xs.toList, HaBy P w n s x) : HaBy P w (n + 1) s (.ref a) := fun A E Q q => by
  unfold hashByValue
  refine wpAny_bind (wpAny_specialOf (show s.TypeIs (.ref a) "tuple" from ⟨u, g1, g2⟩) PySem.F.slot_tuple_hash.lookup ?_)
  show wpAny _ _ (seqItems? (Value.ref a) >>= _) Q E s
  refine wpAny_bind (wpAny_seqItems g1 g3 ?_)
  refine wpAny_bind ?_
  show wpAny _ _ (forIn xs _ _) _ E s
  rw [← Array.forIn_toList]
  refine wpAny_forIn_list _ (fun more acc s2 => s2 = s ∧ acc.1 = none ∧ ∀ x ∈ more, HaBy P w n s x) _ ?_ ?_ _ _ ⟨rfl, rfl, g4⟩
  · rintro x more acc s2 ⟨rfl, z, ok⟩
    refine wpAny_bind (ok x List.mem_cons_self _ _ _ fun b => ?_)
    cases b
    · simp only [Bool.not_false, if_true]
      exact wpAny_pure (wpAny_pure (q _))
    · simp only [Bool.not_true, Bool.false_eq_true, if_false]
      exact wpAny_pure ⟨rfl, rfl, fun y hy => ok y (List.mem_cons_of_mem _ hy)⟩
  · rintro ⟨acc, acc2⟩ s2 ⟨rfl, z, _⟩
    simp only at z
    subst z
    exact wpAny_pure (q _)
mutual
theorem haBy_key : ∀ (k : NestedKey) (v : Value) (n : Nat) (s : Shared), NestedIs s.heap k v → k.depth ≤ n → HaBy P w n s v
  | .none, _, n, s, x, _ => fun A E Q q => by cases x; cases n <;> exact wpAny_pure (q _)
  | .num i, _, n, s, x, _ => fun A E Q q => by cases x <;> cases n <;> exact wpAny_pure (q _)
  | .text y, _, n, s, x, _ => fun A E Q q => by cases x; cases n <;> exact wpAny_pure (q _)
  | .tup ks, _, n, s, x, hn => by
    cases x with
    | tup g1 g2 g3 g4 =>
      simp only [NestedKey.depth] at hn
      cases n with
      | zero => omega
      | succ n => exact .tup g1 g2 g3 (haBy_keys ks _ n s g4 (by omega))
theorem haBy_keys : ∀ (ks : List NestedKey) (vs : List Value) (n : Nat) (s : Shared), NestedAll s.heap ks vs → NestedKey.depthAll ks ≤ n → ∀ v ∈ vs, HaBy P w n s v
  | [], _, n, s, x, _, v, hv => by cases x; cases hv
  | k :: ks, _, n, s, x, hn, v, hv => by
    cases x with
    | cons x1 x2 =>
      simp only [NestedKey.depthAll] at hn
      rcases List.mem_cons.mp hv with e | hv
      · subst e; exact haBy_key k _ n s x1 (by omega)
      · exact haBy_keys ks _ n s x2 (by omega) v hv
end
end
/-! ### the set -/
abbrev Elt := Addr × NestedKey
/-- the tuple at the address has the key -/
def IsK (h : Heap) (e : Elt) : Prop := NestedIs h e.2 (.ref e.1) ∧ e.2.depth ≤ 8
def rws (w : World) (L : List Elt) : List (Int × Value) := L.map fun e => (e.2.hash w, Value.ref e.1)
abbrev hss (w : World) (L : List Elt) : List Int := L.map fun e => e.2.hash w
structure SR (w : World) (h : Heap) (a : Addr) (L : List Elt) (es : Array (Int × Value)) (ep : Nat) (t : SetTable) : Prop where
  at' : ∃ u, h.get? a = some u ∧ u.ExactSet ∧ u.data = .set es ep t
  rw' : es.toList = rws w L
  tb : TabOk t (hss w L)
  nd : (L.map (·.2)).Nodup
  ks : ∀ e ∈ L, IsK h e
  ld : w.params.followText "set-order" = true ∨ t.led = true
  rm : L.length * 5 < t.mask * 3
  fw : L.length < 64
theorem IsK.tup {h : Heap} {a : Addr} {k : NestedKey} (x : IsK h (a, k)) : ∃ u xs n, h.get? a = some u ∧ u.data = .seq xs n := by
  obtain ⟨x, _⟩ := x
  cases x with
  | tup g1 g2 g3 g4 => exact ⟨_, _, _, g1, g3⟩
theorem IsK.keep {h h' : Heap} {e : Elt} (x : IsK h e) (g : ∀ b u xs n, h.get? b = some u → u.data = .seq xs n → h'.get? b = some u) : IsK h' e := ⟨NestedIs.at (fun b u xs n z1 z2 => g b u xs n z1 z2) _ _ x.1, x.2⟩
theorem IsK.but {h h' : Heap} {e : Elt} {a : Addr} {u : Obj} {es : Array (Int × Value)} {ep : Nat} {t : SetTable} (x : IsK h e) (g : h.get? a = some u) (d : u.data = .set es ep t) (sb : Heap.SameBut a h h') : IsK h' e :=
  x.keep fun b v xs n z1 z2 => (sb.2 b fun z => by subst z; rw [g] at z1; cases z1; rw [d] at z2; cases z2).trans z1
theorem eqK {P : Program} {w : World} {A : Around} {E : Value → Shared → Prop} {s : Shared} {x y : Elt} {Q : Bool → Shared → Prop} (hu : A.units + 8 < cLine) (hx : IsK s.heap x) (hy : IsK s.heap y) (q : Q (decide (x.2 = y.2)) s) : wpAny (model P w) A (eqBool (.ref x.1) (.ref y.1)) Q E s :=
  eqAt_key x.2 y.2 A s _ _ hx.1 hy.1 (by have := hx.2; omega) _ _ _ _ (by rw [← NestedKey.decide_eq]; exact q)
section
variable {P : Program} {w : World} {A : Around} {E : Value → Shared → Prop} {s : Shared} {a : Addr} {L : List Elt} {es : Array (Int × Value)} {ep : Nat} {t : SetTable}
theorem rws_len (R : es.toList = rws w L) : es.size = L.length := by
  rw [← Array.length_toList, R, rws, List.length_map]
theorem SR.sz (R : SR w s.heap a L es ep t) : es.size = L.length := rws_len R.rw'
theorem SR.pl (R : SR w s.heap a L es ep t) : t.place.size = L.length := by rw [R.tb.sz, List.length_map]
theorem fits_of (h1 : t.place.size = es.size) (h2 : t.dummies = #[]) (h3 : es.size ≤ t.mask) : t.fits es.size = true := by
  unfold SetTable.fits SetTable.fill
  rw [h2, Bool.and_eq_true, beq_iff_eq, decide_eq_true_eq]
  exact ⟨h1, by show t.place.size + 0 ≤ t.mask; omega⟩
theorem SR.ft (R : SR w s.heap a L es ep t) : t.fits es.size = true := fits_of (by rw [R.pl, R.sz]) R.tb.dm (by have := R.sz; have := R.rm; omega)
theorem SR.row (R : SR w s.heap a L es ep t) {i : Nat} {e : Elt} (g : L[i]? = some e) : es[i]? = some (e.2.hash w, Value.ref e.1) := by
  rw [← Array.getElem?_toList, R.rw', rws, List.getElem?_map, g]; rfl
theorem nodum (m : Nat) : ∀ (n : Nat) (p : SetTable.Probe), p.dummy = none → (nth m p n).dummy = none
  | 0, _, h => h
  | n + 1, p, h => nodum m n (adv m p) (by unfold adv; split <;> exact h)
/-- the way of a hash through a table -/
abbrev pth (t : SetTable) (h : Int) : Nat → SetTable.Probe := nth t.mask (runAt t.mask (SetTable.bits h % (t.mask + 1)) (SetTable.bits h))
theorem seen_no {x : Elt} (hx : IsK s.heap x) {ys : List Value} (hy : ∀ y ∈ ys, ∃ e, y = Value.ref e.1 ∧ IsK s.heap e) {Q : Bool → Shared → Prop} (q : Q false s) : wpAny (model P w) A (searchCouldBeSeen (.ref x.1) ys) Q E s := by
  unfold searchCouldBeSeen
  refine wpAny_bind ?_
  refine wpAny_forIn_list _ (fun more acc s2 => s2 = s ∧ acc.1 = none ∧ ∀ y ∈ more, ∃ e : Elt, y = Value.ref e.1 ∧ IsK s.heap e) _ ?_ ?_ _ _ ⟨rfl, rfl, hy⟩
  · rintro v more acc s2 ⟨rfl, z, ok⟩
    obtain ⟨e, rfl, he⟩ := ok v List.mem_cons_self
    have ok2 : ∀ y ∈ more, ∃ e : Elt, y = Value.ref e.1 ∧ IsK s2.heap e := fun y hy => ok y (List.mem_cons_of_mem _ hy)
    dsimp only
    by_cases c : (x.1 == e.1 || (carriedByValue (.ref x.1) && carriedByValue (.ref e.1))) = true
    · exact wp_if_pos c (wpAny_pure ⟨rfl, rfl, ok2⟩)
    · refine wp_if_neg c ?_
      refine wpAny_bind (quiet_key _ _ 8 _ hx.1 hx.2 _ _ _ ?_)
      simp only [Bool.not_true, Bool.false_eq_true, if_false]
      refine wpAny_bind (quiet_key _ _ 8 _ he.1 he.2 _ _ _ ?_)
      simp only [Bool.not_true, Bool.false_eq_true, if_false]
      refine wpAny_bind (noCl_key _ _ 8 _ hx.1 hx.2 _ _ _ ?_)
      simp only [Bool.false_eq_true, if_false]
      refine wpAny_bind (noCl_key _ _ 8 _ he.1 he.2 _ _ _ ?_)
      simp only [Bool.false_eq_true, if_false]
      exact wpAny_pure ⟨rfl, rfl, ok2⟩
  · rintro ⟨acc, acc2⟩ s2 ⟨rfl, z, _⟩
    simp only at z
    subst z
    exact wpAny_pure q
/-- behind a candidate -/
def onCand (a : Addr) (x : Value) (h : Int) (fuel : Nat) (es : Array (Int × Value)) (t : SetTable) (j i : Nat) (nxt : SetTable.Probe) : Sem SetFound := searchRest a x h true fuel es t j i nxt
theorem find (R : SR w s.heap a L es ep t) {x : Elt} (hx : IsK s.heap x) (hu : A.units + 8 < cLine) {M : Nat} (hM : M < 10 * SetTable.turns t.mask)
    (free : (pth t (x.2.hash w) M).j ∉ t.place.toList) (full : ∀ c, c < M → (pth t (x.2.hash w) c).j ∈ t.place.toList) {Q : SetFound → Shared → Prop}
    (yes : x.2 ∈ L.map (·.2) → Q (.there none) s) (no : x.2 ∉ L.map (·.2) → Q (.free (pth t (x.2.hash w) M).j false) s) :
    ∀ (fuel c : Nat) (st : Option SetTable.Probe), st.getD (t.probeStart (x.2.hash w)) = pth t (x.2.hash w) c → c ≤ M → M - c < fuel →
      (∀ (i : Nat) (e : Elt), L[i]? = some e → e.2 = x.2 → ∃ c2, c ≤ c2 ∧ c2 < M ∧ t.place.toList[i]? = some (pth t (x.2.hash w) c2).j) →
      wpAny (model P w) A (setSearchFrom a (.ref x.1) (x.2.hash w) true fuel st) Q E s
  | 0, _, _, _, _, z, _ => absurd z (Nat.not_lt_zero _)
  | fuel + 1, c, st, est, hc, hf, ahead => by
    obtain ⟨u, gu, ex, du⟩ := R.at'
    have shift : ∀ d, nth t.mask (pth t (x.2.hash w) c) d = pth t (x.2.hash w) (c + d) := fun d => (nth_add t.mask c _ d).symm
    have hashes : ∀ (i : Nat) (e : Elt), L[i]? = some e → (fun i => (es[i]?.map (·.1)).getD 0) i = e.2.hash w := fun i e g => by show (es[i]?.map (·.1)).getD 0 = _; rw [R.row g]; rfl
    rw [setSearchFrom_succ]
    refine wpAny_bind (wpAny_setState_of gu du R.ft ?_)
    dsimp only
    refine wp_if_neg (by unfold SetTable.gaveWay; rw [mask_odd R.tb.mok]; decide) ?_
    try refine wpAny_bind (wpAny_pure ?_)
    have sp := go_spec t R.tb.ris R.tb.dm (fun i => (es[i]?.map (·.1)).getD 0) (x.2.hash w) (10 * SetTable.turns t.mask) (M - c) (pth t (x.2.hash w) c) (nodum _ c _ rfl) (by omega)
      (fun d hd => by rw [shift]; exact full _ (by omega)) (by rw [shift, show c + (M - c) = M by omega]; exact free)
    rw [est]
    rcases sp with ⟨d, i, hd, pi, -, before, ans⟩ | ⟨before, ans⟩
    · rw [shift] at pi
      rw [shift, shift] at ans
      rw [show t.probe (fun i => (es[i]?.map (·.1)).getD 0) (x.2.hash w) (pth t (x.2.hash w) c) = _ from ans]
      dsimp only
      have il : i < L.length := by
        have := (List.getElem?_eq_some_iff.mp pi).1
        rw [Array.length_toList, R.pl] at this
        exact this
      obtain ⟨e, ge⟩ : ∃ e, L[i]? = some e := ⟨_, List.getElem?_eq_getElem il⟩
      have em := List.mem_of_getElem? ge
      have go : wpAny (model P w) A (onCand a (.ref x.1) (x.2.hash w) fuel es t (pth t (x.2.hash w) (c + d)).j i (pth t (x.2.hash w) (c + (d + 1)))) Q E s := by
        unfold onCand searchRest
        rw [R.row ge]
        dsimp only
        refine wpAny_bind (wpAny_holding (eqK hu (R.ks e em) hx ?_))
        refine wpAny_bind (wpAny_setState_of gu du R.ft ?_)
        dsimp only
        by_cases ke : e.2 = x.2
        · exact wp_if_pos (by simp [ke]) (wpAny_pure (yes (List.mem_map.mpr ⟨e, em, ke⟩)))
        · refine wp_if_neg (by simp [ke]) ?_
          try refine wpAny_bind (wpAny_pure ?_)
          rw [sameMem]
          dsimp only
          have live := slot_live R.tb.ris pi
          simp only [if_true, live, R.row ge]
          refine wpAny_bind (wpAny_isSame_ref_self (wpAny_bind (wpAny_pure ?_)))
          simp only [if_true]
          refine wp_if_neg (by simp [ke]) ?_
          refine find R hx hu hM free full yes no fuel (c + (d + 1)) _ rfl (by omega) (by omega) fun i2 e2 g2 k2 => ?_
          obtain ⟨c2, b1, b2, b3⟩ := ahead i2 e2 g2 k2
          refine ⟨c2, ?_, b2, b3⟩
          rcases Nat.lt_trichotomy c2 (c + d) with z | z | z
          · exact absurd ((hashes i2 e2 g2).trans (by rw [k2])) (before (c2 - c) i2 (by omega) (by rw [shift, show c + (c2 - c) = c2 by omega]; exact b3))
          · subst z
            have l2 := slot_live R.tb.ris b3
            rw [live] at l2
            injection l2 with l2
            rw [← l2, ge] at g2
            exact absurd ((congrArg Prod.snd (Option.some.inj g2)).trans k2) ke
          · omega
      by_cases led : t.led = true
      · refine wp_if_neg (by simp [led]) ?_
        try refine wpAny_bind (wpAny_pure ?_)
        exact go
      · refine wp_if_pos (by simp [led]) ?_
        refine wpAny_bind (seen_no hx (fun y hy => ?_) ?_)
        · obtain ⟨r, hr, re⟩ := List.mem_map.mp hy
          have r1 : r ∈ es ∧ r.1 = x.2.hash w := by simpa using hr
          have r2 : r ∈ rws w L := by rw [← R.rw']; simpa using r1.1
          obtain ⟨e2, m2, ee⟩ := List.mem_map.mp r2
          exact ⟨e2, by rw [← re, ← ee], R.ks e2 m2⟩
        · refine wp_if_neg (by decide) ?_
          try refine wpAny_bind (wpAny_pure ?_)
          exact go
    · rw [shift, show c + (M - c) = M by omega] at ans
      rw [show t.probe (fun i => (es[i]?.map (·.1)).getD 0) (x.2.hash w) (pth t (x.2.hash w) c) = _ from ans]
      dsimp only
      refine wpAny_pure (no fun hm => ?_)
      obtain ⟨e, he, ke⟩ := List.mem_map.mp hm
      obtain ⟨i, g⟩ := List.getElem?_of_mem he
      obtain ⟨c2, b1, b2, b3⟩ := ahead i e g ke
      exact before (c2 - c) i (by omega) (by rw [shift, show c + (c2 - c) = c2 by omega]; exact b3) ((hashes i e g).trans (by rw [ke]))
theorem search (R : SR w s.heap a L es ep t) {x : Elt} (hx : IsK s.heap x) (hu : A.units + 8 < cLine) {Q : SetFound → Shared → Prop} (yes : x.2 ∈ L.map (·.2) → Q (.there none) s)
    (no : ∀ M, x.2 ∉ L.map (·.2) → way t.mask (x.2.hash w) M ∉ t.place.toList → (∀ c, c < M → way t.mask (x.2.hash w) c ∈ t.place.toList) → Q (.free (way t.mask (x.2.hash w) M) false) s) :
    wpAny (model P w) A (setSearch a (.ref x.1) (x.2.hash w) true) Q E s := by
  have rm := R.rm
  obtain ⟨M, m1, m2, m3⟩ := R.tb.first (by rw [List.length_map]; omega) (x.2.hash w)
  have m4 : M < 100000 := by
    unfold SetTable.turns at m1
    rcases R.tb.mok with e | e | e <;> omega
  unfold setSearch
  refine find R hx hu m1 m2 m3 yes (fun z => no M z m2 m3) 100000 0 none rfl (by omega) (by omega) fun i e g k => ?_
  have hi : (hss w L)[i]? = some (x.2.hash w) := by rw [List.getElem?_map, g, ← k]; rfl
  have il : i < t.place.toList.length := by
    rw [Array.length_toList, R.pl]
    exact (List.getElem?_eq_some_iff.mp g).1
  obtain ⟨c, c1, c2⟩ := R.tb.before m2 hi (List.getElem?_eq_getElem il)
  exact ⟨c, by omega, c1, by rw [List.getElem?_eq_getElem il, ← c2]⟩
theorem pick {α : Type} (l : List α) : (List.range l.length).filterMap (fun i => l[i]?) = l := by
  have go : ∀ n, n ≤ l.length → (List.range n).filterMap (fun i => l[i]?) = l.take n := fun n => by
    induction n with
    | zero => intro _; rfl
    | succ n ih =>
      intro hn
      rw [List.range_succ, List.filterMap_append, ih (by omega), List.take_succ, List.getElem?_eq_getElem hn]
      simp [List.getElem?_eq_getElem (show n < l.length from hn)]
  rw [go _ (Nat.le_refl _), List.take_length]
theorem laid_rows {ord : Array Nat} (R : es.toList = rws w L) (pm : ord.toList.Perm (List.range L.length)) :
    ∃ L2, (ord.filterMap (es[·]?)).toList = rws w L2 ∧ L2.Perm L ∧ hss w L2 = ord.toList.map fun i => (es.map (·.1)).getD i 0 := by
  have row : ∀ i (e : Elt), L[i]? = some e → es[i]? = some (e.2.hash w, Value.ref e.1) := fun i e g => by rw [← Array.getElem?_toList, R, rws, List.getElem?_map, g]; rfl
  have part : ∀ js : List Nat, (∀ j ∈ js, j < L.length) → js.filterMap (fun i => es[i]?) = rws w (js.filterMap fun i => L[i]?) ∧ hss w (js.filterMap fun i => L[i]?) = js.map fun i => (es.map (·.1)).getD i 0 := fun js => by
    induction js with
    | nil => intro _; exact ⟨rfl, rfl⟩
    | cons j js ih =>
      intro hj
      have h1 := List.getElem?_eq_getElem (hj j List.mem_cons_self)
      obtain ⟨p1, p2⟩ := ih fun i hi => hj i (List.mem_cons_of_mem _ hi)
      have h2 := row j _ h1
      have h3 : (es.map (·.1)).getD j 0 = (L[j]'(hj j List.mem_cons_self)).2.hash w := by
        rw [Array.getD_eq_getD_getElem?, Array.getElem?_map, h2]; rfl
      constructor
      · rw [List.filterMap_cons_some h2, List.filterMap_cons_some h1, p1]; rfl
      · rw [List.filterMap_cons_some h1, List.map_cons, h3, ← p2]; rfl
  obtain ⟨p1, p2⟩ := part ord.toList fun i hi => List.mem_range.mp (pm.mem_iff.mp hi)
  refine ⟨_, by rw [Array.toList_filterMap]; exact p1, ?_, p2⟩
  have := pm.filterMap (fun i => L[i]?)
  rwa [pick] at this
/-- the table laid anew, larger -/
theorem relay {u : Obj} (gu : s.heap.get? a = some u) (ex : u.ExactSet) (du : u.data = .set es ep t) (er : es.toList = rws w L) (pl : t.place.size = es.size) (dm : t.dummies = #[]) (mk : es.size ≤ t.mask)
    (nd : (L.map (·.2)).Nodup) (ks : ∀ e ∈ L, IsK s.heap e) (ld : w.params.followText "set-order" = true ∨ t.led = true) (fw : L.length < 64) {wt M : Nat} (eM : SetTable.sizeAbove wt - 1 = M) (oM : MaskOk M) (sM : SetTable.sizeAbove wt ≤ 128) (rm : L.length * 5 < M * 3)
    {Q : Unit → Shared → Prop} (q : ∀ h' L' es' ep' t', Heap.SameBut a s.heap h' → SR w h' a L' es' ep' t' → L'.Perm L → Q () { s with heap := h' }) : wpAny (model P w) A (setRelay a wt) Q E s := by
  have sz := rws_len er
  obtain ⟨t2, ord, e1, e2, T2, e4, e5, e6, e7⟩ := relaid_ok t (hs := es.map (·.1)) (wanted := wt) eM oM (by rw [Array.size_map]; omega)
  rw [Array.size_map, sz] at e2
  obtain ⟨L2, r1, r2, r3⟩ := laid_rows er e2
  rw [← r3] at T2
  have sz2 : (ord.filterMap (es[·]?)).size = es.size := by rw [rws_len r1, r2.length_eq, sz]
  rw [setRelay_eq]
  refine wpAny_bind (wpAny_setState_of gu du (fits_of pl dm mk) ?_)
  dsimp only
  refine wp_if_neg (by rw [sizeLine_eq]; omega) ?_
  try refine wpAny_bind (wpAny_pure ?_)
  rw [e1]
  dsimp only
  refine wpAny_bind ?_
  refine wp_if_neg (by rw [sz2]; simp) ?_
  try refine wpAny_bind (wpAny_pure ?_)
  refine wpAny_pure ?_
  dsimp only
  refine wpAny_storeSet_of gu du ?_ (by rw [sz2, sz, sizeLine_eq]; omega)
  have sb : Heap.SameBut a s.heap (s.heap.update a (Obj.putSet (ord.filterMap (es[·]?)) t2)) := Heap.SameBut.update ..
  exact q _ L2 (ord.filterMap (es[·]?)) (ep + 1) t2 sb ⟨⟨_, store_at gu du, ⟨ex.1, ex.2.1, ex.2.2⟩, rfl⟩, r1, T2, (r2.map (·.2)).nodup_iff.mpr nd, fun e he => (ks e (r2.mem_iff.mp he)).but gu du sb, by rw [e5]; exact ld, by rw [r2.length_eq, e4]; exact rm, by rw [r2.length_eq]; exact fw⟩ r2
theorem put_perm' {α : Type} (l : List α) (p : Nat) (x : α) : (l.take p ++ x :: l.drop p).Perm (x :: l) := by
  have := (List.perm_middle (a := x) (l₁ := l.take p) (l₂ := l.drop p))
  rwa [List.take_append_drop] at this
/-- adding -/
theorem add (R : SR w s.heap a L es ep t) {x : Elt} (hx : IsK s.heap x) (hu : A.units + 8 < cLine) (fw : L.length + 1 < 64) {Q : Bool → Shared → Prop}
    (q : ∀ b h' L' es' ep' t', Heap.SameBut a s.heap h' → SR w h' a L' es' ep' t' → (x.2 ∈ L.map (·.2) → L' = L) → (x.2 ∉ L.map (·.2) → L'.Perm (x :: L)) → Q b { s with heap := h' }) :
    wpAny (model P w) A (setAddHashed a (.ref x.1) (x.2.hash w)) Q E s := by
  obtain ⟨u, gu, ex, du⟩ := R.at'
  have sz := R.sz
  have rm := R.rm
  unfold setAddHashed
  refine wpAny_holding ?_
  rw [show (100000 : Nat) = 99999 + 1 from rfl, setAddHashedIn_succ]
  refine wpAny_bind (wpAny_setState_of gu du R.ft ?_)
  dsimp only
  refine wp_if_neg (by simp [byScan, Value.scannable]) ?_
  try refine wpAny_bind (wpAny_pure ?_)
  refine wpAny_bind (search R hx hu (fun m => ?_) fun M m m1 m2 => ?_)
  · dsimp only
    exact wpAny_pure (q false s.heap L es ep t (Heap.SameBut.refl a s.heap) R (fun _ => rfl) fun z => absurd m z)
  · dsimp only
    refine wpAny_bind (wpAny_setState_of gu du R.ft ?_)
    dsimp only
    obtain ⟨p1, p2, p3, p4, p5, p6, p7, p8, p9⟩ := R.tb.put m1 m2
    generalize eP : t.put (way t.mask (x.2.hash w) M) = pq at p1 p3 p4 p5 p6 p7 p8 p9 ⊢
    obtain ⟨t1, p⟩ := pq
    dsimp only at p1 p3 p4 p5 p6 p7 p8 p9 ⊢
    subst p1
    -- what is stored, whatever hashByValue says
    have store : ∀ t3 : SetTable, TabOk t3 ((hss w L).take (SetTable.below t.place (way t.mask (x.2.hash w) M)) ++ x.2.hash w :: (hss w L).drop (SetTable.below t.place (way t.mask (x.2.hash w) M))) → t3.mask = t.mask → t3.led = t.led → t3.fill = L.length + 1 →
        wpAny (model P w) A (do
          storeSet a (SetTable.insertAt es (SetTable.below t.place (way t.mask (x.2.hash w) M)) (x.2.hash w, Value.ref x.1)) t3
          if !false && t3.tooFull then setRelay a (SetTable.grown (es.size + 1))
          return true) Q E s := fun t3 T3 f1 f2 f3 => by
      have ein : (SetTable.insertAt es (SetTable.below t.place (way t.mask (x.2.hash w) M)) (x.2.hash w, Value.ref x.1)).toList = rws w (L.take (SetTable.below t.place (way t.mask (x.2.hash w) M)) ++ x :: L.drop (SetTable.below t.place (way t.mask (x.2.hash w) M))) := by
        rw [SetTable.toList_insertAt, R.rw']
        unfold rws
        rw [List.map_append, List.map_cons, List.map_take, List.map_drop]
      have ehs : hss w (L.take (SetTable.below t.place (way t.mask (x.2.hash w) M)) ++ x :: L.drop (SetTable.below t.place (way t.mask (x.2.hash w) M))) = (hss w L).take (SetTable.below t.place (way t.mask (x.2.hash w) M)) ++ x.2.hash w :: (hss w L).drop (SetTable.below t.place (way t.mask (x.2.hash w) M)) := by
        unfold hss
        rw [List.map_append, List.map_cons, List.map_take, List.map_drop]
      rw [← ehs] at T3
      have pm := put_perm' L (SetTable.below t.place (way t.mask (x.2.hash w) M)) x
      generalize SetTable.insertAt es (SetTable.below t.place (way t.mask (x.2.hash w) M)) (x.2.hash w, Value.ref x.1) = es1 at ein ⊢
      generalize L.take (SetTable.below t.place (way t.mask (x.2.hash w) M)) ++ x :: L.drop (SetTable.below t.place (way t.mask (x.2.hash w) M)) = L1 at ein T3 pm
      have len1 : L1.length = L.length + 1 := pm.length_eq
      have sz1 : es1.size = L.length + 1 := by rw [rws_len ein, len1]
      have nd1 : (L1.map (·.2)).Nodup := (pm.map (·.2)).nodup_iff.mpr (by rw [List.map_cons]; exact List.nodup_cons.mpr ⟨m, R.nd⟩)
      refine wpAny_bind (wpAny_storeSet_of gu du ?_ (by rw [sz1, sizeLine_eq]; omega))
      have sb : Heap.SameBut a s.heap (s.heap.update a (Obj.putSet es1 t3)) := Heap.SameBut.update ..
      have gu1 := store_at (es' := es1) (t' := t3) gu du
      generalize s.heap.update a (Obj.putSet es1 t3) = h1 at sb gu1 ⊢
      have ks1 : ∀ e ∈ L1, IsK h1 e := fun e he => by
        rcases List.mem_cons.mp (pm.mem_iff.mp he) with z | z
        · subst z; exact hx.but gu du sb
        · exact (R.ks e z).but gu du sb
      have ld1 : w.params.followText "set-order" = true ∨ t3.led = true := by rw [f2]; exact R.ld
      have isFull : t3.tooFull = decide ((L.length + 1) * 5 ≥ t.mask * 3) := by unfold SetTable.tooFull; rw [f3, f1]
      by_cases full : (L.length + 1) * 5 ≥ t.mask * 3
      · have tf : (!false && t3.tooFull) = true := by rw [isFull, decide_eq_true full]; rfl
        have two : (t.mask = 7 ∧ L.length = 4) ∨ (t.mask = 31 ∧ L.length = 18) := by
          rcases R.tb.mok with e | e | e <;> rw [e] at full rm
          · exact .inl ⟨e, by omega⟩
          · exact .inr ⟨e, by omega⟩
          · omega
        have big : ∀ M2, SetTable.sizeAbove (SetTable.grown (L.length + 1)) - 1 = M2 → MaskOk M2 → SetTable.sizeAbove (SetTable.grown (L.length + 1)) ≤ 128 → (L.length + 1) * 5 < M2 * 3 →
            wpAny (model P w) A (setRelay a (SetTable.grown (es.size + 1))) (fun _ s2 => wpAny (model P w) A (pure true) Q E s2) E { s with heap := h1 } := fun M2 d1 d2 d3 d4 => by
          rw [sz]
          refine relay (s := { s with heap := h1 }) (L := L1) gu1 ⟨ex.1, ex.2.1, ex.2.2⟩ rfl ein (by rw [T3.sz, List.length_map, len1, sz1]) T3.dm (by rw [sz1, f1]; rcases two with ⟨e, e2⟩ | ⟨e, e2⟩ <;> omega) nd1 ks1 ld1 (by rw [len1]; exact fw) d1 d2 d3 (by rw [len1]; exact d4) ?_
          intro h2 L2 es2 ep2 t2 sb2 R2 pm2
          exact wpAny_pure (q true h2 L2 es2 ep2 t2 (sb.trans sb2) R2 (fun z => absurd z m) fun _ => pm2.trans pm)
        first
          | (refine wpAny_bind ?_; refine wp_if_pos tf ?_)
          | (refine wp_if_pos tf ?_; refine wpAny_bind ?_)
        rcases two with ⟨_, e2⟩ | ⟨_, e2⟩
        · exact big 31 (by rw [e2, size_20]) (.inr (.inl rfl)) (by rw [e2, size_20]; decide) (by omega)
        · exact big 127 (by rw [e2, size_76]) (.inr (.inr rfl)) (by rw [e2, size_76]; decide) (by omega)
      · have tf : ¬ (!false && t3.tooFull) = true := by rw [isFull, decide_eq_false full]; decide
        first
          | refine wp_if_neg tf ?_
          | (refine wpAny_bind ?_; refine wp_if_neg tf ?_; refine wpAny_pure ?_)
        exact wpAny_pure (q true h1 L1 es1 (ep + 1) t3 sb ⟨⟨_, gu1, ⟨ex.1, ex.2.1, ex.2.2⟩, rfl⟩, ein, T3, nd1, ks1, ld1, by rw [len1, f1]; omega, by rw [len1]; exact fw⟩ (fun z => absurd z m) fun _ => pm)
    have fin : ∀ b : Bool, wpAny (model P w) A (do
          let t3 := if b = true then t1 else { t1 with plain := false }
          storeSet a (SetTable.insertAt es (SetTable.below t.place (way t.mask (x.2.hash w) M)) (x.2.hash w, Value.ref x.1)) t3
          if !false && t3.tooFull then setRelay a (SetTable.grown (es.size + 1))
          return true) Q E s := fun b => by
      cases b
      · exact store _ ⟨p3.ris, p3.dm, p3.sz, p3.mok, p3.bd, p3.reach⟩ p4 p5 (by rw [List.length_map] at p9; exact p9)
      · exact store _ p3 p4 p5 (by rw [List.length_map] at p9; exact p9)
    by_cases pl : t1.plain = true
    · first
        | (refine wpAny_bind ?_; refine wp_if_pos pl ?_; exact haBy_key _ _ 8 _ hx.1 hx.2 _ _ _ fin)
        | exact wp_if_pos pl (wpAny_bind (haBy_key _ _ 8 _ hx.1 hx.2 _ _ _ fin))
    · first
        | (refine wpAny_bind ?_; refine wp_if_neg pl ?_; exact wpAny_pure (fin true))
        | exact wp_if_neg pl (fin true)
        | exact wp_if_neg pl (wpAny_bind (wpAny_pure (fin true)))
/-- what the set has got from the first i items -/
structure Has (ks : List Elt) (i : Nat) (L : List Elt) : Prop where
  sub : ∀ e ∈ L, e ∈ ks.take i
  all : ∀ e ∈ ks.take i, e.2 ∈ L.map (·.2)
  len : L.length ≤ i
theorem Has.same {ks L : List Elt} {i : Nat} {x : Elt} (g : Has ks i L) (h : ks[i]? = some x) (m : x.2 ∈ L.map (·.2)) : Has ks (i + 1) L where
  sub := fun e he => by rw [take_next h]; exact List.mem_append_left _ (g.sub e he)
  all := fun e he => by
    rw [take_next h] at he
    rcases List.mem_append.mp he with z | z
    · exact g.all e z
    · rw [List.mem_singleton.mp z]; exact m
  len := by have := g.len; omega
theorem Has.more {ks L L2 : List Elt} {i : Nat} {x : Elt} (g : Has ks i L) (h : ks[i]? = some x) (pm : L2.Perm (x :: L)) : Has ks (i + 1) L2 where
  sub := fun e he => by
    rw [take_next h]
    rcases List.mem_cons.mp (pm.mem_iff.mp he) with z | z
    · rw [z]; exact List.mem_append_right _ (List.mem_singleton.mpr rfl)
    · exact List.mem_append_left _ (g.sub e z)
  all := fun e he => by
    rw [(pm.map (·.2)).mem_iff, List.map_cons]
    rw [take_next h] at he
    rcases List.mem_append.mp he with z | z
    · exact List.mem_cons_of_mem _ (g.all e z)
    · rw [List.mem_singleton.mp z]; exact List.mem_cons_self
  len := by rw [pm.length_eq, List.length_cons]; have := g.len; omega
theorem SR.later {h h' : Heap} (R : SR w h a L es ep t) (ga : ∀ u, h.get? a = some u → h'.get? a = some u) (k : ∀ e ∈ L, IsK h' e) : SR w h' a L es ep t := by
  obtain ⟨u, gu, r⟩ := R.at'
  exact ⟨⟨u, ga u gu, r⟩, R.rw', R.tb, R.nd, k, R.ld, R.rm, R.fw⟩
theorem IsK.older {h h' : Heap} {e : Elt} (x : IsK h e) (g : ∀ b u, h.get? b = some u → h'.get? b = some u) : IsK h' e := x.keep fun b u _ _ z _ => g b u z
/-- a new set's object -/
abbrev set0 (w : World) : Obj := { cls := .type "set", dict := none, data := .set #[] 0 (.fresh 0 0 (!w.params.followText "set-order")) }
theorem sr_fresh {h : Heap} (g : h.get? a = some (set0 w)) : SR w h a [] #[] 0 (.fresh 0 0 (!w.params.followText "set-order")) where
  at' := ⟨_, g, ⟨rfl, rfl, rfl⟩, rfl⟩
  rw' := rfl
  tb := ⟨List.Pairwise.nil, rfl, rfl, .inl rfl, fun x z => (by cases z), fun i k j z => (by simp at z)⟩
  nd := List.nodup_nil
  ks := fun e z => (by cases z)
  ld := by
    show _ ∨ (!w.params.followText "set-order") = true
    cases w.params.followText "set-order" <;> simp
  rm := by show 0 * 5 < 7 * 3; decide
  fw := by show 0 < 64; decide
theorem fill {I S : Addr} {fp wr : List Addr} {G : Array GenState → Array GenState → Prop} {n : Nat} {Pv : Nat → Value → Prop} {St : Nat → Shared → Prop} {R : Result → Shared → Prop} (W : WalksS P w A.in1 I fp wr G n Pv St) (nS : S ∉ fp) (ks : List Elt) (en : n = ks.length) (few : ks.length < 64)
    (val : ∀ i v, Pv i v → ∃ e, ks[i]? = some e ∧ v = .ref e.1) (h0 : Heap) (k0 : ∀ e ∈ ks, IsK h0 e) (S0 : h0.get? S = none) (w0 : ∀ b ∈ wr, h0.get? b = none) (hu : A.in1.units + 9 < cLine) :
    ∀ (d i : Nat) (s : Shared), n - i = d → i ≤ n → St i s → (∀ b u, h0.get? b = some u → s.heap.get? b = some u) → (∃ L es ep t, SR w s.heap S L es ep t ∧ Has ks i L) →
      (∀ s' L es ep t, Moved (S :: wr) G s s' → SR w s'.heap S L es ep t → Has ks n L → (∀ b u, h0.get? b = some u → s'.heap.get? b = some u) → R (.ok (.ret .none)) s') →
      codeAny (model P w) A (.builtin "set.update.loop" ⟨[.ref S, .ref I], []⟩) R s := by
  have nw : S ∉ wr := fun z => nS (W.sub _ z)
  have up : ∀ b ∈ wr, b ∈ S :: wr := fun b z => List.mem_cons_of_mem _ z
  have old : ∀ {s s' : Shared}, Moved wr G s s' → (∀ b u, h0.get? b = some u → s.heap.get? b = some u) → ∀ b u, h0.get? b = some u → s'.heap.get? b = some u := fun m k b u z => m.heap b u (fun c => by rw [w0 b c] at z; cases z) (k b u z)
  intro d
  induction d with
  | zero =>
    intro i s ed hi st kp ⟨L, es, ep, t, r, g⟩ fin
    obtain rfl : i = n := by omega
    refine codeAny_builtin PyProof.Rows.F.entry_set_update_loop ?_
    rw [Around.under_plainId PyProof.Rows.F.plain_set_update_loop _]
    show wpAny _ A.in1 (pyNext (Value.ref I) >>= _) _ _ s
    refine wpAny_bind (W.done s _ _ st fun s2 m => ?_)
    show wpAny _ A.in1 (ret Value.none) _ _ s2
    have kp2 := old m kp
    exact wpAny_pure (fin s2 L es ep t (m.mono up) (r.later (fun u z => m.heap S u nw z) fun e he => (k0 e (List.mem_of_mem_take (g.sub e he))).older kp2) g kp2)
  | succ d ih =>
    intro i s ed hi st kp ⟨L, es, ep, t, r, g⟩ fin
    refine codeAny_builtin PyProof.Rows.F.entry_set_update_loop ?_
    rw [Around.under_plainId PyProof.Rows.F.plain_set_update_loop _]
    show wpAny _ A.in1 (pyNext (Value.ref I) >>= _) _ _ s
    refine wpAny_bind (W.item i s _ _ (by omega) st fun v s2 pv st2 m => ?_)
    obtain ⟨e, ge, rfl⟩ := val i v pv
    have kp2 := old m kp
    have r2 : SR w s2.heap S L es ep t := r.later (fun u z => m.heap S u nw z) fun e he => (k0 e (List.mem_of_mem_take (g.sub e he))).older kp2
    have he : IsK s2.heap e := (k0 e (List.mem_of_getElem? ge)).older kp2
    show wpAny _ A.in1 (holding [Value.ref e.1] (setAdd S (.ref e.1)) >>= _) _ _ s2
    refine wpAny_bind (wpAny_holding ?_)
    unfold setAdd
    refine wpAny_holding ?_
    refine wpAny_bind (pyHash_key _ _ _ _ _ he.1 (by have := he.2; omega) ?_)
    refine add (s := { s2 with toks := s2.toks + e.2.draws }) r2 he (by omega) (by have := g.len; omega) fun b h' L2 es2 ep2 t2 sb r3 c1 c2 => ?_
    have g2 : Has ks (i + 1) L2 := by
      rcases Classical.em (e.2 ∈ L.map (·.2)) with c | c
      · rw [c1 c]; exact g.same ge c
      · exact g.more ge (c2 c)
    have kp3 : ∀ b u, h0.get? b = some u → h'.get? b = some u := fun b u z => (sb.2 b (fun c => by rw [c, S0] at z; cases z)).trans (kp2 b u z)
    refine wpAny_pure ⟨plainId_quiet PyProof.Rows.F.plain_set_update_loop _, ih (i + 1) _ (by omega) (by omega) (W.frame _ s2 _ _ st2 (Nat.le_add_right _ _) fun b hb o z => ?_) kp3 ⟨L2, es2, ep2, t2, r3, g2⟩ fun s3 L3 es3 ep3 t3 m3 r4 g4 kp4 => ?_⟩
    · rw [sb.2 b fun c => nS (by rw [← c]; exact hb)]; exact z
    · refine fin s3 L3 es3 ep3 t3 (Moved.trans W.gtrans ((m.mono up).then_heap (Nat.le_add_right _ _) fun b o hb z => ?_) m3) r4 g4 kp4
      rw [sb.2 b fun c => hb (by rw [c]; exact List.mem_cons_self)]; exact z
set_option maxHeartbeats 8000000 in
/-- set(xs) -/
theorem call_set {l : Addr} {xs : Array Value} (ks : List Elt) {Q : Value → Shared → Prop} (hh : A.handled = none) (hl : s.heap.IsList l xs) (ex : xs.toList = ks.map fun e => Value.ref e.1) (k0 : ∀ e ∈ ks, IsK s.heap e) (few : ks.length < 64) (hu : A.units + 24 < cLine)
    (q : ∀ (h' : Heap) (tk : Nat) L es ep t, SR w h' s.heap.objs.size L es ep t → Has ks ks.length L → (∀ b u, s.heap.get? b = some u → h'.get? b = some u) → Q (.ref s.heap.objs.size) { s with heap := h', toks := tk }) :
    wpAny (model P w) A (call (.type "set") [.ref l]) Q E s := by
  have sz : xs.size = ks.length := by rw [← Array.length_toList, ex, List.length_map]
  obtain ⟨c, tl, mro'⟩ := PySem.F.called_set.mro
  have made' := PySem.F.called_set.made
  have sub' := PySem.F.called_set.sub
  refine wpAny_call (codeAny_of_tree ?_)
  show wpAny _ _ (callAny (Value.type "set") _) _ _ _
  refine wpAny_pure ⟨Code.quiet_builtin _ (by decide +kernel), codeAny_builtin PySem.F.entry_type_call ?_⟩
  rw [Around.under_plain (weight_type_call_type "set" [.ref l] []) rfl]
  have not' := PySem.F.called_set.notType
  have can' := PySem.F.called_set.canCreate
  have tc' := PySem.F.typeCall_set_1 (.ref l)
  repeat (any_goals (first | assumption | wp_step))
  refine codeAny_mono (code_set_led1 (.ref l) (E := E) (Q₁ := fun v s1 => v = .ref s.heap.objs.size ∧ s1 = { s with heap := s.heap.push (set0 w) }) ⟨rfl, rfl⟩) fun r s1 hr => ?_
  cases r with
  | error e => exact hr
  | ok fl =>
    cases fl with
    | ret v =>
      obtain ⟨rfl, rfl⟩ := hr
      have gS : (s.heap.push (set0 w)).get? s.heap.objs.size = some (set0 w) := Heap.get?_push_size _ rfl
      have tS : Shared.TypeIs { s with heap := s.heap.push (set0 w) } (.ref s.heap.objs.size) "set" := ⟨_, gS, rfl⟩
      have look' := PySem.F.called_set.init.lookup
      have bind' := PySem.F.called_set.init.bind (.ref s.heap.objs.size)
      repeat (any_goals (first | assumption | wp_step))
      refine codeAny_mono (codeAny_call_builtin (R := wants (fun v s2 => v = .none ∧ ∃ h' tk L es ep t, s2 = { s with heap := h', toks := tk } ∧ SR w h' s.heap.objs.size L es ep t ∧ Has ks ks.length L ∧ (∀ b u, s.heap.get? b = some u → h'.get? b = some u)) E) PySem.F.called_set.init.plain PySem.F.entry_set_init (check_set_init_1 tS ?_)) fun r2 s2 hr2 => ?_
      · obtain ⟨ol, gl, cl, nl, dl⟩ := hl
        obtain ⟨ocls, odict, odata, oslots⟩ := ol
        simp only at cl dl
        subst cl; subst dl
        have gl1 : (s.heap.push (set0 w)).get? l = some { cls := .type "list", dict := odict, data := .seq xs nl, slots := oslots } := Heap.get?_push_of_some _ gl
        have s1' := PySem.F.sub_list_set
        have s2' := PySem.F.sub_list_frozenset
        have nd' : (Value.type "list" == Value.type "dict") = false := by decide
        have il : (s.heap.push (set0 w)).IsList l xs := ⟨_, gl1, rfl, nl, rfl⟩
        unfold Builtin.«set.__init__» noKeywords Builtin.Frozenset.updateFrom
        generalize ePI : pyIter = PI
        wp_walk
        subst ePI
        refine wpAny_pyIter_list il ?_
        refine wpAny_bind (wpAny_runValue ?_)
        have lS : l < s.heap.objs.size := Heap.lt_size gl
        have h3 : A.in1.in1.in1.handled = none := by simp [hh]
        have ne1 : l ≠ (s.heap.push (set0 w)).objs.size := by rw [Heap.size_push]; exact Nat.ne_of_lt (Nat.lt_succ_of_lt lS)
        have nS : s.heap.objs.size ∉ [(s.heap.push (set0 w)).objs.size, l] := by
          rw [Heap.size_push]
          intro z
          simp only [List.mem_cons, List.not_mem_nil, or_false] at z
          rcases z with z | z
          · exact absurd z (Nat.ne_of_lt (Nat.lt_succ_self _))
          · exact absurd z (Nat.ne_of_gt lS)
        have val : ∀ (i : Nat) (v : Value), xs[i]? = some v → ∃ e, ks[i]? = some e ∧ v = .ref e.1 := fun i v z => by
          rw [← Array.getElem?_toList, ex, List.getElem?_map] at z
          cases z2 : ks[i]? with
          | none => rw [z2] at z; cases z
          | some e => rw [z2] at z; cases z; exact ⟨e, rfl, rfl⟩
        have none' : ∀ b, s.heap.objs.size ≤ b → s.heap.get? b = none := fun b hb => by
          cases z : s.heap.get? b with
          | none => rfl
          | some o => exact absurd (Heap.lt_size z) (Nat.not_lt.mpr hb)
        refine fill ((Walks.list h3 _ l ne1 xs).toS) nS ks sz few val s.heap k0 (none' _ (Nat.le_refl _)) (fun b hb => none' b (by
            rw [List.mem_singleton.mp hb, Heap.size_push]; exact Nat.le_succ _)) (by show A.units + 12 < cLine; omega) (xs.size - 0) 0 _ (by omega) (Nat.zero_le _)
          ⟨⟨_, Heap.get?_push_size _ rfl, rfl, rfl⟩, il.push _⟩ (fun b o z => Heap.get?_push_of_some _ (Heap.get?_push_of_some _ z)) ?start ?stop
        case start =>
          exact ⟨[], #[], 0, _, sr_fresh (Heap.get?_push_of_some _ gS), ⟨fun e z => (by cases z), fun e z => (by simp at z), Nat.le_refl _⟩⟩
        case stop =>
          intro s2 L es ep t m r g kp
          obtain ⟨h', gs, dr, tk, os⟩ := s2
          have e1 : gs = s.gens := m.gens
          have e2 : dr = s.drawn := m.drawn
          have e3 : os = s.os := m.os
          subst e1; subst e2; subst e3
          show wpAny _ _ _ _ _ _
          refine wpAny_pure ?_
          show wpAny _ _ (ret Value.none) _ _ _
          rw [sz] at g
          exact wpAny_pure ⟨rfl, h', tk, L, es, ep, t, rfl, r, g, kp⟩
      · cases r2 with
        | error e => exact hr2
        | ok fl2 =>
          cases fl2 with
          | ret r =>
            obtain ⟨rfl, h', tk, L, es, ep, t, rfl, z1, z2, z3⟩ := hr2
            repeat (any_goals (first | assumption | wp_step))
            exact q _ _ _ _ _ _ z1 z2 z3
          | _ => exact hr2.elim
    | _ => exact hr.elim
set_option maxHeartbeats 8000000 in
/-- set(t), t a tuple -/
theorem call_setT {l : Addr} {xs : Array Value} (ks : List Elt) {Q : Value → Shared → Prop} (hh : A.handled = none) (hl : s.heap.IsTuple l xs) (ex : xs.toList = ks.map fun e => Value.ref e.1) (k0 : ∀ e ∈ ks, IsK s.heap e) (few : ks.length < 64) (hu : A.units + 24 < cLine)
    (q : ∀ (h' : Heap) (tk : Nat) L es ep t, SR w h' s.heap.objs.size L es ep t → Has ks ks.length L → (∀ b u, s.heap.get? b = some u → h'.get? b = some u) → Q (.ref s.heap.objs.size) { s with heap := h', toks := tk }) :
    wpAny (model P w) A (call (.type "set") [.ref l]) Q E s := by
  have sz : xs.size = ks.length := by rw [← Array.length_toList, ex, List.length_map]
  obtain ⟨c, tl, mro'⟩ := PySem.F.called_set.mro
  have made' := PySem.F.called_set.made
  have sub' := PySem.F.called_set.sub
  refine wpAny_call (codeAny_of_tree ?_)
  show wpAny _ _ (callAny (Value.type "set") _) _ _ _
  refine wpAny_pure ⟨Code.quiet_builtin _ (by decide +kernel), codeAny_builtin PySem.F.entry_type_call ?_⟩
  rw [Around.under_plain (weight_type_call_type "set" [.ref l] []) rfl]
  have not' := PySem.F.called_set.notType
  have can' := PySem.F.called_set.canCreate
  have tc' := PySem.F.typeCall_set_1 (.ref l)
  repeat (any_goals (first | assumption | wp_step))
  refine codeAny_mono (code_set_led1 (.ref l) (E := E) (Q₁ := fun v s1 => v = .ref s.heap.objs.size ∧ s1 = { s with heap := s.heap.push (set0 w) }) ⟨rfl, rfl⟩) fun r s1 hr => ?_
  cases r with
  | error e => exact hr
  | ok fl =>
    cases fl with
    | ret v =>
      obtain ⟨rfl, rfl⟩ := hr
      have gS : (s.heap.push (set0 w)).get? s.heap.objs.size = some (set0 w) := Heap.get?_push_size _ rfl
      have tS : Shared.TypeIs { s with heap := s.heap.push (set0 w) } (.ref s.heap.objs.size) "set" := ⟨_, gS, rfl⟩
      have look' := PySem.F.called_set.init.lookup
      have bind' := PySem.F.called_set.init.bind (.ref s.heap.objs.size)
      repeat (any_goals (first | assumption | wp_step))
      refine codeAny_mono (codeAny_call_builtin (R := wants (fun v s2 => v = .none ∧ ∃ h' tk L es ep t, s2 = { s with heap := h', toks := tk } ∧ SR w h' s.heap.objs.size L es ep t ∧ Has ks ks.length L ∧ (∀ b u, s.heap.get? b = some u → h'.get? b = some u)) E) PySem.F.called_set.init.plain PySem.F.entry_set_init (check_set_init_1 tS ?_)) fun r2 s2 hr2 => ?_
      · obtain ⟨ol, gl, cl, nl, dl⟩ := hl
        obtain ⟨ocls, odict, odata, oslots⟩ := ol
        simp only at cl dl
        subst cl; subst dl
        have gl1 : (s.heap.push (set0 w)).get? l = some { cls := .type "tuple", dict := odict, data := .seq xs nl, slots := oslots } := Heap.get?_push_of_some _ gl
        have s1' := PySem.F.sub_tuple_set
        have s2' := PySem.F.sub_tuple_frozenset
        have nd' : (Value.type "tuple" == Value.type "dict") = false := by decide
        have il : (s.heap.push (set0 w)).IsTuple l xs := ⟨_, gl1, rfl, nl, rfl⟩
        unfold Builtin.«set.__init__» noKeywords Builtin.Frozenset.updateFrom
        generalize ePI : pyIter = PI
        wp_walk
        subst ePI
        refine wpAny_pyIter_tuple il ?_
        refine wpAny_bind (wpAny_runValue ?_)
        have lS : l < s.heap.objs.size := Heap.lt_size gl
        have h3 : A.in1.in1.in1.handled = none := by simp [hh]
        have ne1 : l ≠ (s.heap.push (set0 w)).objs.size := by rw [Heap.size_push]; exact Nat.ne_of_lt (Nat.lt_succ_of_lt lS)
        have nS : s.heap.objs.size ∉ [(s.heap.push (set0 w)).objs.size, l] := by
          rw [Heap.size_push]
          intro z
          simp only [List.mem_cons, List.not_mem_nil, or_false] at z
          rcases z with z | z
          · exact absurd z (Nat.ne_of_lt (Nat.lt_succ_self _))
          · exact absurd z (Nat.ne_of_gt lS)
        have val : ∀ (i : Nat) (v : Value), xs[i]? = some v → ∃ e, ks[i]? = some e ∧ v = .ref e.1 := fun i v z => by
          rw [← Array.getElem?_toList, ex, List.getElem?_map] at z
          cases z2 : ks[i]? with
          | none => rw [z2] at z; cases z
          | some e => rw [z2] at z; cases z; exact ⟨e, rfl, rfl⟩
        have none' : ∀ b, s.heap.objs.size ≤ b → s.heap.get? b = none := fun b hb => by
          cases z : s.heap.get? b with
          | none => rfl
          | some o => exact absurd (Heap.lt_size z) (Nat.not_lt.mpr hb)
        refine fill ((Walks.tuple h3 _ l ne1 xs).toS) nS ks sz few val s.heap k0 (none' _ (Nat.le_refl _)) (fun b hb => none' b (by
            rw [List.mem_singleton.mp hb, Heap.size_push]; exact Nat.le_succ _)) (by show A.units + 12 < cLine; omega) (xs.size - 0) 0 _ (by omega) (Nat.zero_le _)
          ⟨⟨_, Heap.get?_push_size _ rfl, rfl, rfl⟩, il.push _⟩ (fun b o z => Heap.get?_push_of_some _ (Heap.get?_push_of_some _ z)) ?start ?stop
        case start =>
          exact ⟨[], #[], 0, _, sr_fresh (Heap.get?_push_of_some _ gS), ⟨fun e z => (by cases z), fun e z => (by simp at z), Nat.le_refl _⟩⟩
        case stop =>
          intro s2 L es ep t m r g kp
          obtain ⟨h', gs, dr, tk, os⟩ := s2
          have e1 : gs = s.gens := m.gens
          have e2 : dr = s.drawn := m.drawn
          have e3 : os = s.os := m.os
          subst e1; subst e2; subst e3
          show wpAny _ _ _ _ _ _
          refine wpAny_pure ?_
          show wpAny _ _ (ret Value.none) _ _ _
          rw [sz] at g
          exact wpAny_pure ⟨rfl, h', tk, L, es, ep, t, rfl, r, g, kp⟩
      · cases r2 with
        | error e => exact hr2
        | ok fl2 =>
          cases fl2 with
          | ret r =>
            obtain ⟨rfl, h', tk, L, es, ep, t, rfl, z1, z2, z3⟩ := hr2
            repeat (any_goals (first | assumption | wp_step))
            exact q _ _ _ _ _ _ z1 z2 z3
          | _ => exact hr2.elim
    | _ => exact hr.elim
end
end VS
end
section
namespace VL
open PySem PySem.Spec L2 VS
/-! ### data as keys -/
mutual
def keyD : PyData → Option NestedKey
  | .none => some .none
  | .bool b => some (.num (if b = true then 1 else 0))
  | .int i => some (.num i)
  | .str x => some (.text x)
  | .tuple ds => (keysD ds).map .tup
  | _ => none
def keysD : List PyData → Option (List NestedKey)
  | [] => some []
  | d :: ds => match keyD d, keysD ds with
    | some k, some ks => some (k :: ks)
    | _, _ => none
end
def TupKey (d : PyData) : Prop := ∃ ks, keyD d = some (.tup ks) ∧ (NestedKey.tup ks).depth ≤ 8
structure KeysOk (ds : List PyData) : Prop where
  all : ∀ d ∈ ds, TupKey d
  inj : ∀ d ∈ ds, ∀ e ∈ ds, keyD d = keyD e → d = e
  few : ds.length < 64
section
variable {X : Cx}
mutual
theorem key_of {pins : List (Addr × Obj)} {σ : St} {H F : Hp} {s : Shared} (I : Inv X pins σ H s) (sF : Same F H) : ∀ (d : PyData) (v : V) (u : Value) (k : NestedKey), Rp X.K F v d → keyD d = some k → RelV v u → NestedIs s.heap k u
  | .none, _, _, _, .non, e, r => by cases e; cases r; exact .none
  | .bool b, _, _, _, .bl _, e, r => by cases e; cases r; exact .bool rfl
  | .int i, _, _, _, .int _, e, r => by cases e; obtain ⟨t, rfl⟩ := r; exact .int _ _
  | .str x, _, _, _, .str _, e, r => by cases e; obtain ⟨t, rfl⟩ := r; exact .text _ _
  | .tuple ds, _, _, k, .tup hT ra, e, r => by
    cases r
    cases e1 : keysD ds with
    | none => simp [keyD, e1] at e
    | some ks =>
      have e : NestedKey.tup ks = k := by simpa [keyD, e1] using e
      subst e
      obtain ⟨its, rv, ⟨o, ho, hc, n, hd⟩, _⟩ := I.tuple (sameN sF hT).sq
      exact .tup ho hc hd (by simpa using keys_of I sF ds _ its ks ra e1 rv)
  | .list _, _, _, _, _, e, _ => by simp [keyD] at e
  | .dict _, _, _, _, _, e, _ => by simp [keyD] at e
theorem keys_of {pins : List (Addr × Obj)} {σ : St} {H F : Hp} {s : Shared} (I : Inv X pins σ H s) (sF : Same F H) : ∀ (ds : List PyData) (vs : List V) (us : List Value) (ks : List NestedKey), RpAll X.K F vs ds → keysD ds = some ks → Vals vs us → NestedAll s.heap ks us
  | [], _, _, _, .nil, e, r => by cases e; cases r; exact .nil
  | d :: ds, _, _, ks, .cons rd ra, e, r => by
    cases e1 : keyD d with
    | none => simp [keysD, e1] at e
    | some k =>
      cases e2 : keysD ds with
      | none => simp [keysD, e1, e2] at e
      | some ks' =>
        have e : k :: ks' = ks := by simpa [keysD, e1, e2] using e
        subst e
        cases r with
        | cons r1 r2 => exact .cons (key_of I sF d _ _ _ rd e1 r1) (keys_of I sF ds _ _ _ ra e2 r2)
end
end
/-! ### set(xs), then sorted, len -/
structure S0 (w : World) (h : Heap) (a : Addr) (L : List Elt) : Prop where
  ex : ∃ (es : Array (Int × Value)) (ep : Nat) (t : SetTable), (∃ u, h.get? a = some u ∧ u.ExactSet ∧ u.data = .set es ep t) ∧ es.toList = rws w L ∧ TabOk t (hss w L) ∧ (L.map (·.2)).Nodup ∧ (w.params.followText "set-order" = true ∨ t.led = true) ∧ L.length * 5 < t.mask * 3 ∧ L.length < 64
def SetOb (w : World) (a : Addr) (L : List Elt) : HO := .ext fun h => S0 w h a L
theorem sr_s0 {w : World} {h : Heap} {a : Addr} {L : List Elt} {es : Array (Int × Value)} {ep : Nat} {t : SetTable} (R : SR w h a L es ep t) : S0 w h a L := ⟨es, ep, t, R.at', R.rw', R.tb, R.nd, R.ld, R.rm, R.fw⟩
theorem S0.full {w : World} {h : Heap} {a : Addr} {L : List Elt} (R : S0 w h a L) (k : ∀ e ∈ L, IsK h e) : ∃ es ep t, SR w h a L es ep t := by
  obtain ⟨es, ep, t, h1, h2, h3, h4, h5, h6, h7⟩ := R.ex
  exact ⟨es, ep, t, h1, h2, h3, h4, k, h5, h6, h7⟩
theorem setOb_new {P : Program} {w : World} {H : Hp} {h : Heap} {a : Addr} {L : List Elt} (R : S0 w h a L) : ObjOk P w H h a (SetOb w a L) := by
  have ⟨_, _, _, ⟨u, gu, _⟩, _⟩ := R.ex
  refine ⟨R, ⟨u, gu⟩, fun h1 h2 p k => ?_⟩
  have ⟨es', ep', t', ⟨o', g', r'⟩, q'⟩ := S0.ex p
  exact ⟨es', ep', t', ⟨o', k o' g', r'⟩, q'⟩
/-- the elements as data -/
structure EltsAre (K : PySem.W.Frag) (F : Hp) (L : List Elt) (ds : List PyData) : Prop where
  rp : RpAll K F (L.map fun e => V.ref e.1) ds
  ky : ds.map keyD = L.map fun e => some e.2
theorem elts_of {K : PySem.W.Frag} {F : Hp} : ∀ {vs : List V} {ds : List PyData}, RpAll K F vs ds → (∀ d ∈ ds, TupKey d) → ∃ L : List Elt, vs = L.map (fun e => V.ref e.1) ∧ EltsAre K F L ds ∧ ∀ e ∈ L, e.2.depth ≤ 8
  | _, _, .nil, _ => ⟨[], rfl, ⟨.nil, rfl⟩, fun e z => (by cases z)⟩
  | _, _, .cons (v := v) (d := d) r t, h => by
    obtain ⟨L, e1, e2, e3⟩ := elts_of t fun d hd => h d (List.mem_cons_of_mem _ hd)
    obtain ⟨ks, k1, k2⟩ := h d List.mem_cons_self
    cases r with
    | @tup a xs ds' hT ra =>
      refine ⟨(a, .tup ks) :: L, by rw [List.map_cons, e1], ⟨.cons (.tup hT ra) (by rw [← e1]; exact t), by rw [List.map_cons, List.map_cons, e2.ky, k1]⟩, fun e he => ?_⟩
      rcases List.mem_cons.mp he with z | z
      · subst z; exact k2
      · exact e3 e z
    | scr _ => simp [scD, keyD] at k1
    | non => simp [keyD] at k1
    | bl _ => simp [keyD] at k1
    | int _ => simp [keyD] at k1
    | str _ => simp [keyD] at k1
    | lst _ _ => simp [keyD] at k1
    | dct _ _ _ _ => simp [keyD] at k1
theorem elts_sub {K : PySem.W.Frag} {F : Hp} {L : List Elt} {ds : List PyData} (x : EltsAre K F L ds) : ∀ (M : List Elt), (∀ e ∈ M, e ∈ L) → ∃ es, EltsAre K F M es ∧ ∀ d ∈ es, d ∈ ds := by
  have one : ∀ {L : List Elt} {ds : List PyData}, EltsAre K F L ds → ∀ e ∈ L, ∃ d ∈ ds, Rp K F (.ref e.1) d ∧ keyD d = some e.2 := fun {L} => by
    induction L with
    | nil => intro ds _ e he; cases he
    | cons e0 L ih =>
      intro ds ⟨rp, ky⟩ e he
      cases ds with
      | nil => cases ky
      | cons d ds =>
        cases rp with
        | cons r t =>
          have ky' : keyD d = some e0.2 ∧ ds.map keyD = L.map fun e => some e.2 := by simpa using ky
          rcases List.mem_cons.mp he with z | z
          · subst z; exact ⟨d, List.mem_cons_self, r, ky'.1⟩
          · obtain ⟨d2, h1, h2⟩ := ih ⟨t, ky'.2⟩ e z
            exact ⟨d2, List.mem_cons_of_mem _ h1, h2⟩
  intro M
  induction M with
  | nil => intro _; exact ⟨[], ⟨.nil, rfl⟩, fun d z => (by cases z)⟩
  | cons e M ih =>
    intro h
    obtain ⟨es, h1, h2⟩ := ih fun x hx => h x (List.mem_cons_of_mem _ hx)
    obtain ⟨d, h3, h4, h5⟩ := one x e (h e List.mem_cons_self)
    refine ⟨d :: es, ⟨.cons h4 h1.rp, by rw [List.map_cons, List.map_cons, h1.ky, h5]⟩, fun y hy => ?_⟩
    rcases List.mem_cons.mp hy with z | z
    · subst z; exact h3
    · exact h2 y z
/-- what a set is told of the data it was made of -/
structure SetOf (K : PySem.W.Frag) (F : Hp) (L : List Elt) (ds : List PyData) : Prop where
  ex : ∃ es, EltsAre K F L es ∧ es.Nodup ∧ ∀ d, d ∈ es ↔ d ∈ ds
  dp : ∀ e ∈ L, e.2.depth ≤ 8
theorem setOf_has {K : PySem.W.Frag} {F : Hp} {ks L : List Elt} {ds : List PyData} (x : EltsAre K F ks ds) (ok : KeysOk ds) (dp : ∀ e ∈ ks, e.2.depth ≤ 8) (g : Has ks ks.length L) (nd : (L.map (·.2)).Nodup) : SetOf K F L ds := by
  have sub : ∀ e ∈ L, e ∈ ks := fun e he => by have := g.sub e he; rwa [List.take_length] at this
  obtain ⟨es, h1, h2⟩ := elts_sub x L sub
  refine ⟨⟨es, h1, ?_, fun d => ⟨h2 d, fun hd => ?_⟩⟩, fun e he => dp e (sub e he)⟩
  · have : (es.map keyD).Nodup := by
      rw [h1.ky]
      exact List.pairwise_map.mpr ((List.pairwise_map.mp nd).imp fun hne e => hne (Option.some.inj e))
    exact (List.pairwise_map.mp this).imp fun hne e => hne (congrArg keyD e)
  · have k1 : keyD d ∈ ks.map fun e => some e.2 := by rw [← x.ky]; exact List.mem_map.mpr ⟨d, hd, rfl⟩
    obtain ⟨e, he, ee⟩ := List.mem_map.mp k1
    have k2 := g.all e (by rw [List.take_length]; exact he)
    obtain ⟨e2, he2, ee2⟩ := List.mem_map.mp k2
    have k3 : keyD d ∈ es.map keyD := by rw [h1.ky, ← ee, ← ee2]; exact List.mem_map.mpr ⟨e2, he2, rfl⟩
    obtain ⟨d2, hd2, e3⟩ := List.mem_map.mp k3
    rw [← ok.inj d2 (h2 d2 hd2) d hd e3]
    exact hd2
section
variable {X : Cx}
theorem isK_of {pins : List (Addr × Obj)} {σ : St} {H F : Hp} {s : Shared} (I : Inv X pins σ H s) (sF : Same F H) {L : List Elt} {ds : List PyData} (x : EltsAre X.K F L ds) (dp : ∀ e ∈ L, e.2.depth ≤ 8) : ∀ e ∈ L, IsK s.heap e := by
  obtain ⟨rp, ky⟩ := x
  revert dp
  induction L generalizing ds with
  | nil => intro _ e he; cases he
  | cons e0 L ih =>
    intro dp e he
    cases ds with
    | nil => cases ky
    | cons d ds =>
      cases rp with
      | cons r t =>
        have ky' : keyD d = some e0.2 ∧ ds.map keyD = L.map fun e => some e.2 := by simpa using ky
        rcases List.mem_cons.mp he with z | z
        · subst z; exact ⟨key_of I sF d _ _ _ r ky'.1 rfl, dp _ List.mem_cons_self⟩
        · exact ih t ky'.2 (fun x hx => dp x (List.mem_cons_of_mem _ hx)) e z
def rSet (K : PySem.W.Frag) (w : World) : List V → Hp → VK → Prop := fun vs H QV => ∃ F ds, Same F H ∧ (RepL K F H [.list ds] vs ∨ RepL K F H [.tuple ds] vs) ∧ KeysOk ds ∧ ∀ a L, H a = none → SetOf K F L ds → QV (.ref a) (upd H a (SetOb w a L))
theorem cr_set (hc : X.calm = true) (hu : X.A.units + 64 < cLine) : CallR X (.type "set") (rSet X.K X.w) := by
  intro pins s σ H xs us QV I rx ⟨F, ds, sF, rl, ok, q⟩
  have vals : ∀ (L : List Elt) (us : List Value), Vals (L.map fun e => V.ref e.1) us → us = L.map fun e => Value.ref e.1 := fun L => by
    induction L with
    | nil => intro us z; cases z; rfl
    | cons e L ih => intro us z; cases z with
      | cons z1 z2 => cases z1; rw [List.map_cons, ih _ z2]
  have lk : ∀ ks : List Elt, EltsAre X.K F ks ds → ks.length < 64 := fun ks ek => by
    have := congrArg List.length ek.ky
    rw [List.length_map, List.length_map] at this
    rw [← this]; exact ok.few
  rcases rl with rl | rl
  · obtain ⟨v, rfl, r⟩ := rl.one'
    obtain ⟨a, vs, rfl, ha, ra⟩ := r.list sF
    obtain ⟨ks, rfl, ek, dp⟩ := elts_of ra ok.all
    obtain ⟨its, rv, hl, hz⟩ := I.list (SqL.of ha)
    rw [Vals.ref1 rx]
    refine VS.call_set (P := X.prog) (w := X.w) ks (I.ok.hd hc) hl.isList (by simpa using vals ks its rv) (isK_of I sF ek dp) (lk ks ek) (by omega) fun h' tk L es ep t R g k => ?_
    exact ⟨.ref s.heap.objs.size, upd H s.heap.objs.size (SetOb X.w s.heap.objs.size L), I.laid (t' := tk) k (Nat.le_refl _) (setOb_new (sr_s0 R)), rfl, q _ L (I.hok.fresh (Nat.le_refl _)) (setOf_has ek ok dp g R.nd)⟩
  · obtain ⟨v, rfl, r⟩ := rl.one'
    obtain ⟨a, vs, rfl, ha, ra⟩ := r.tup sF
    obtain ⟨ks, rfl, ek, dp⟩ := elts_of ra ok.all
    obtain ⟨its, rv, hl, hz⟩ := I.tuple ha
    rw [Vals.ref1 rx]
    refine VS.call_setT (P := X.prog) (w := X.w) ks (I.ok.hd hc) (show s.heap.IsTuple a its.toArray from hl) (by simpa using vals ks its rv) (isK_of I sF ek dp) (lk ks ek) (by omega) fun h' tk L es ep t R g k => ?_
    exact ⟨.ref s.heap.objs.size, upd H s.heap.objs.size (SetOb X.w s.heap.objs.size L), I.laid (t' := tk) k (Nat.le_refl _) (setOb_new (sr_s0 R)), rfl, q _ L (I.hok.fresh (Nat.le_refl _)) (setOf_has ek ok dp g R.nd)⟩
def rLenS (w : World) : List V → Hp → VK → Prop := fun vs H QV => ∃ a L, vs = [.ref a] ∧ H a = some (SetOb w a L) ∧ QV (.int L.length) H
theorem cr_lenS : CallR X (.builtin "len") (rLenS X.w) := by
  intro pins s σ H xs us QV I rx ⟨a, L, e, ha, q⟩
  subst e
  rw [Vals.ref1 rx]
  have R0 : S0 X.w s.heap a L := (I.hok a _ ha).1
  obtain ⟨es, ep, t, ⟨u, gu, ex, du⟩, h2, h3, _, _, h6, h7⟩ := R0.ex
  have sz := rws_len h2
  refine call_len_set gu ex du (fits_of (by rw [h3.sz, List.length_map, sz]) h3.dm (by omega)) (by omega) ⟨.int L.length, H, I.tok _, ⟨_, by rw [sz]⟩, q⟩
def rSrtS (K : PySem.W.Frag) (w : World) : List V → Hp → VK → Prop := fun vs H QV => ∃ F a L es, vs = [.ref a] ∧ H a = some (SetOb w a L) ∧ Same F H ∧ EltsAre K F L es ∧ (∀ e ∈ L, e.2.depth ≤ 8) ∧
  ∀ es', es'.Perm es → SortOk es' ∧ ∀ p ws, H p = none → RpAll K F ws (es'.mergeSort (PySem.W.dataLe false id)) → QV (.ref p) (upd H p (.lst ws))
theorem perm_refs {L : List Elt} : ∀ {vs : List Value}, vs.Perm (L.map fun e => Value.ref e.1) → ∃ M : List Elt, vs = M.map (fun e => Value.ref e.1) ∧ M.Perm L := by
  have key : ∀ {us vs : List Value}, vs.Perm us → ∀ L : List Elt, us = L.map (fun e => Value.ref e.1) → ∃ M : List Elt, vs = M.map (fun e => Value.ref e.1) ∧ M.Perm L := fun p => by
    induction p with
    | nil => intro L e; exact ⟨[], rfl, by cases L with
      | nil => exact .nil
      | cons _ _ => cases e⟩
    | cons x p ih =>
      intro L e
      cases L with
      | nil => cases e
      | cons y L =>
        obtain ⟨h1, h2⟩ := List.cons.inj e
        obtain ⟨M, m1, m2⟩ := ih L h2
        exact ⟨y :: M, by rw [List.map_cons, m1, h1], m2.cons y⟩
    | swap x y l =>
      intro L e
      match L, e with
      | a :: b :: L, e =>
        obtain ⟨h1, h2⟩ := List.cons.inj e
        obtain ⟨h3, h4⟩ := List.cons.inj h2
        exact ⟨b :: a :: L, by subst h1; subst h3; subst h4; rfl, .swap a b L⟩
    | trans p1 p2 ih1 ih2 =>
      intro L e
      obtain ⟨M, m1, m2⟩ := ih2 L e
      obtain ⟨N, n1, n2⟩ := ih1 M m1
      exact ⟨N, n1, n2.trans m2⟩
  exact fun {vs} p => key p L rfl
theorem elts_perm {K : PySem.W.Frag} {F : Hp} {L M : List Elt} (p : M.Perm L) : ∀ {es : List PyData}, EltsAre K F L es → ∃ es', EltsAre K F M es' ∧ es'.Perm es := by
  induction p with
  | nil => exact fun {es} x => ⟨es, x, .refl _⟩
  | cons e p ih =>
    intro es ⟨rp, ky⟩
    cases es with
    | nil => cases ky
    | cons d ds =>
      cases rp with
      | cons r t =>
        have k1 : keyD d = some e.2 := (List.cons.inj ky).1
        obtain ⟨es', h1, h2⟩ := ih ⟨t, (List.cons.inj ky).2⟩
        exact ⟨d :: es', ⟨.cons r h1.rp, by rw [List.map_cons, List.map_cons, k1, h1.ky]⟩, h2.cons d⟩
  | swap a b L =>
    intro es ⟨rp, ky⟩
    match es, rp, ky with
    | d1 :: d2 :: ds, .cons r1 (.cons r2 t), ky =>
      have ky' : keyD d1 = some a.2 ∧ keyD d2 = some b.2 ∧ ds.map keyD = L.map fun e => some e.2 := by simpa using ky
      exact ⟨d2 :: d1 :: ds, ⟨.cons r2 (.cons r1 t), by rw [List.map_cons, List.map_cons, List.map_cons, List.map_cons, ky'.1, ky'.2.1, ky'.2.2]⟩, .swap d1 d2 ds⟩
  | trans p1 p2 ih1 ih2 =>
    intro es x
    obtain ⟨e1, h1, h2⟩ := ih2 x
    obtain ⟨e2, h3, h4⟩ := ih1 h1
    exact ⟨e2, h3, h4.trans h2⟩
theorem vals_refs : ∀ (L : List Elt), Vals (L.map fun e => V.ref e.1) (L.map fun e => Value.ref e.1)
  | [] => .nil
  | e :: L => .cons rfl (vals_refs L)
mutual
theorem reads_flat {h : Heap} : ∀ (d : PyData) (v : Value) (as : List Addr) (k : NestedKey), Reads h v d as → keyD d = some k → as = []
  | .none, _, _, _, .none, _ => rfl
  | .bool _, _, _, _, .bool _, _ => rfl
  | .int _, _, _, _, .int _ _, _ => rfl
  | .str _, _, _, _, .str _ _, _ => rfl
  | .tuple ds, _, _, _, .tuple _ _ _ r, e => by
    cases e1 : keysD ds with
    | none => simp [keyD, e1] at e
    | some ks => exact reads_flats ds _ _ ks r e1
  | .list _, _, _, _, _, e => by simp [keyD] at e
  | .dict _, _, _, _, _, e => by simp [keyD] at e
theorem reads_flats {h : Heap} : ∀ (ds : List PyData) (vs : List Value) (as : List Addr) (ks : List NestedKey), ReadsAll h vs ds as → keysD ds = some ks → as = []
  | [], _, _, _, .nil, _ => rfl
  | d :: ds, _, _, _, .cons r1 r2, e => by
    cases e1 : keyD d with
    | none => simp [keysD, e1] at e
    | some k =>
      cases e2 : keysD ds with
      | none => simp [keysD, e1, e2] at e
      | some ks' => rw [reads_flat d _ _ _ r1 e1, reads_flats ds _ _ _ r2 e2]; rfl
end
theorem each_flat {h h' : Heap} {a : Addr} (k : ∀ b o, h.get? b = some o → h'.get? b = some o) : ∀ {us : List Value} {ds : List PyData}, PySem.W.EachIs (fun u d => ∃ as, Reads h u (id d) as) us ds → (∀ d ∈ ds, ∃ k, keyD d = some k) → PySem.W.EachIs (fun u d => ∃ as, Reads h' u (id d) as ∧ a ∉ as) us ds
  | _, _, .nil, _ => .nil
  | _, _, .cons ⟨as, r⟩ t, c => by
    obtain ⟨kk, ek⟩ := c _ List.mem_cons_self
    have := reads_flat _ _ _ _ r ek
    subst this
    exact .cons ⟨[], PyProof.Rows.Reads.keeps k r, by simp⟩ (each_flat k t fun d hd => c d (List.mem_cons_of_mem _ hd))
theorem cr_srtS (hc : X.calm = true) (hu : X.A.units + 64 < cLine) : CallR X (.builtin "sorted") (rSrtS X.K X.w) := by
  intro pins s σ H xs us QV I rx ⟨F, a, L, es, e, ha, sF, x, dp, q⟩
  subst e
  rw [Vals.ref1 rx]
  have R0 : S0 X.w s.heap a L := (I.hok a _ ha).1
  obtain ⟨rs, ep, t, R⟩ := R0.full (isK_of I sF x dp)
  obtain ⟨u, gu, ex, du⟩ := R.at'
  have sz := R.sz
  have fw := R.fw
  refine Calls.call_function_entry PyProof.Rows.kind_sorted PyProof.Rows.plain_sorted PyProof.Rows.entry_sorted (PyProof.Rows.args_sorted1 _) ?_
  unfold Builtin.«sorted»
  refine wpAny_bind (m := checkCount "sorted" 1 1 _) (wpAny_pure ?_)
  refine wpAny_bind (collect_set (A := X.A.in1) (I.ok.hd hc) ⟨u, gu, ex.1, du⟩ R.ft (by unfold scanBound; omega) R.tb.ris R.ld fun s1 vs k1 z1 g1 o1 pm => ?_)
  have er : rs.toList.map (·.2) = L.map fun e => Value.ref e.1 := by rw [R.rw', rws, List.map_map]; rfl
  rw [er] at pm
  obtain ⟨M, rfl, pM⟩ := perm_refs pm
  obtain ⟨es', x', pe⟩ := elts_perm pM x
  obtain ⟨⟨q1, q2, q3, q4⟩, q5⟩ := q es' pe
  have lM : M.length < 64 := by rw [pM.length_eq]; exact fw
  have rv : Vals (M.map fun e => V.ref e.1) (M.map fun e => Value.ref e.1) := vals_refs M
  refine wpAny_bind (wpAny_newList ?_ (by rw [List.length_map, sizeLine_eq]; omega))
  have gL : (s1.heap.push (PyProof.Rows.seqObj "list" (M.map fun e => Value.ref e.1).toArray 0)).get? s1.heap.objs.size = some (PyProof.Rows.seqObj "list" (M.map fun e => Value.ref e.1).toArray 0) := Heap.get?_push_size _ rfl
  have reads : PySem.W.EachIs (fun u d => ∃ as, Reads (s1.heap.push (PyProof.Rows.seqObj "list" (M.map fun e => Value.ref e.1).toArray 0)) u (id d) as ∧ s1.heap.objs.size ∉ as) (M.map fun e => Value.ref e.1) es' := by
    refine each_flat (fun b o z => Heap.get?_push_of_some _ (k1 b o z)) (each_reads I sF rv x'.rp fun d hd => (q4 d hd).1) fun d hd => ?_
    have : keyD d ∈ M.map fun e => some e.2 := by rw [← x'.ky]; exact List.mem_map.mpr ⟨d, hd, rfl⟩
    obtain ⟨e, _, ee⟩ := List.mem_map.mp this
    exact ⟨_, ee.symm⟩
  refine wpAny_bind (wpAny_holding (PySem.W.list_sort_data (enc := id) (R := fun u d => ∃ x, RelV x u ∧ Rp X.K F x d) (bs := es') (s := { s1 with heap := s1.heap.push (PyProof.Rows.seqObj "list" (M.map fun e => Value.ref e.1).toArray 0) }) gL (each_rp rv x'.rp) reads (by rw [List.map_id]; exact q1) (by rw [List.map_id]; exact q2) q3 (fun d hd => ?_) fun out ho e => ?_))
  · have := (q4 d hd).2
    show X.A.units + 1 + 1 + d.depth < cLine
    omega
  · obtain ⟨ws, w1, w2⟩ := rp_each e
    obtain ⟨c, hcc⟩ := PyProof.Rows.sortedHeap_at (vs := M.map fun e => Value.ref e.1) (out := out.toArray) gL
    have hlen : ws.length ≤ sizeLine := by rw [w2.length, List.length_mergeSort]; exact q3
    have old : ∀ b o, s.heap.get? b = some o → (PyProof.Rows.sortedHeap (s1.heap.push (PyProof.Rows.seqObj "list" (M.map fun e => Value.ref e.1).toArray 0)) s1.heap.objs.size (M.map fun e => Value.ref e.1) out.toArray).get? b = some o := fun b o z => by
      have z1 := k1 b o z
      have lt := Heap.lt_size z1
      rw [PyProof.Rows.sortedHeap_old (Nat.ne_of_lt lt) (by rw [PyProof.Rows.size_push']; exact Nat.lt_succ_of_lt lt)]
      exact Heap.get?_push_of_some _ z1
    refine wpAny_pure ⟨_, rfl, ?_⟩
    have hn : H s1.heap.objs.size = none := I.hok.fresh z1
    refine ⟨.ref s1.heap.objs.size, _, I.call' (ch := []) o1 (Un.laid old z1 hn) (I.hok.laid old z1 (o := .lst ws) ⟨hlen, out, c, w1, hcc⟩) (by rw [g1]; exact I.bare) (fun _ z => nomatch z), rfl, q5 _ ws hn w2⟩
def cdSrtSet : List PyData → (O → Prop) → Prop
  | [.list ds], Q => KeysOk ds ∧ ∀ L : List PyData, L.Nodup → (∀ d, d ∈ L ↔ d ∈ ds) → SortOk L ∧ Q (.ls (L.mergeSort (PySem.W.dataLe false id)))
  | [.tuple ds], Q => KeysOk ds ∧ ∀ L : List PyData, L.Nodup → (∀ d, d ∈ L ↔ d ∈ ds) → SortOk L ∧ Q (.ls (L.mergeSort (PySem.W.dataLe false id)))
  | _, _ => False
def cdLenSet : List PyData → (O → Prop) → Prop
  | [.list ds], Q => KeysOk ds ∧ ∀ L : List PyData, L.Nodup → (∀ d, d ∈ L ↔ d ∈ ds) → Q (.fz (.int L.length))
  | [.tuple ds], Q => KeysOk ds ∧ ∀ L : List PyData, L.Nodup → (∀ d, d ∈ L ↔ d ∈ ds) → Q (.fz (.int L.length))
  | _, _ => False
theorem OpPost.newL2 {K : PySem.W.Frag} {F H : Hp} {Q : O → Prop} {QV : VK} (p : OpPost K F H Q QV) (s : Same F H) {ds : List PyData} {vs : List V} {a b : Addr} {u : HO} (n1 : H a = none) (n2 : upd H a u b = none) (r : RpAll K F vs ds) (q : Q (.ls ds)) : QV (.ref b) (upd (upd H a u) b (.lst vs)) := by
  have nb : H b = none := (same_new n1).free n2
  exact p F (VL.one b (.lst vs)) _ _ _ (Grow.stay s ((same_new n1).trans (same_new n2))) (own_ls.mpr ⟨b, vs, rfl, rfl, r⟩) (same_one upd_same) (dis_one (s.free nb)) (fun x z => by
    by_cases e : x = b
    · subst e; exact nb
    · rw [one_ne e] at z; exact absurd rfl z) q
theorem OpPost.val2 {K : PySem.W.Frag} {F H : Hp} {Q : O → Prop} {QV : VK} (p : OpPost K F H Q QV) (s : Same F H) {d : PyData} {v : V} {a : Addr} {u : HO} (n1 : H a = none) (r : Rp K F v d) (q : Q (.fz d)) : QV v (upd H a u) :=
  p F emp _ _ _ (Grow.stay s (same_new n1)) (own_fz.mpr ⟨rfl, r⟩) same_emp Dis.emp (fun x z => absurd rfl z) q
variable {x y : Str} {p p2 q2 pos : Pos} {e : Expr} {τs : EA}
theorem srtSet_read {σ : St} {H : Hp} {QV : VK} (h : lO X.K (eCB cdSrtSet τs) σ H QV) : tCB (rSet X.K X.w) (lA X.K τs) σ H fun v H1 => rSrtS X.K X.w [v] H1 QV := by
  obtain ⟨pn, Z, F, Γ, hh, Q, A, q, k⟩ := h
  refine ⟨pn, Z, F, Γ, hh, _, A, q, fun F1 Γ1 h1 H1 as vs s1 A1 r1 ⟨ds, e1, q1⟩ => ?_⟩
  unfold cdSrtSet at q1
  split at q1
  · rename_i ds
    refine ⟨F1, ds, A1.FH, .inl (reps_of A1 r1 e1), q1.1, fun a L n so => ?_⟩
    obtain ⟨es, h1, h2, h3⟩ := so.ex
    refine ⟨F1, a, L, es, rfl, upd_same, A1.FH.trans (same_new n), h1, so.dp, fun es' pe => ?_⟩
    obtain ⟨o1, o2⟩ := q1.2 es' (pe.nodup_iff.mpr h2) fun d => (pe.mem_iff).trans (h3 d)
    exact ⟨o1, fun pp ws n2 w => (A1.post s1 k).newL2 A1.FH n n2 w o2⟩
  · rename_i ds
    refine ⟨F1, ds, A1.FH, .inr (reps_of A1 r1 e1), q1.1, fun a L n so => ?_⟩
    obtain ⟨es, h1, h2, h3⟩ := so.ex
    refine ⟨F1, a, L, es, rfl, upd_same, A1.FH.trans (same_new n), h1, so.dp, fun es' pe => ?_⟩
    obtain ⟨o1, o2⟩ := q1.2 es' (pe.nodup_iff.mpr h2) fun d => (pe.mem_iff).trans (h3 d)
    exact ⟨o1, fun pp ws n2 w => (A1.post s1 k).newL2 A1.FH n n2 w o2⟩
  · exact q1.elim
theorem vo_srtSet (hc : X.calm = true) (hu : X.A.units + 64 < cLine) (hg : Gl X "sorted") (hm : X.mg "sorted" = none) (hg2 : Gl X "set") (hm2 : X.mg "set" = none) (ha : PA X [e] (lA X.K τs)) (he : starEach [e] X.env = (false, eval e X.env) :: starEach [] X.env := by rfl) :
    PE X (.Call (.Name "sorted" p) [.Call (.Name "set" p2) [e] [] q2] [] pos) (lO X.K (eCB cdSrtSet τs)) :=
  pe_imp (pe_callB (cr_srtS hc hu) hg hm PyProof.Rows.boot_sorted (pa_cons (pe_callTy (cr_set hc hu) hg2 hm2 PyProof.Rows.boot_set ha (by decide) (by decide) he rfl) pa_nil rfl)) fun σ H QV h => srtSet_read h
theorem lenSet_read {σ : St} {H : Hp} {QV : VK} (h : lO X.K (eCB cdLenSet τs) σ H QV) : tCB (rSet X.K X.w) (lA X.K τs) σ H fun v H1 => rLenS X.w [v] H1 QV := by
  obtain ⟨pn, Z, F, Γ, hh, Q, A, q, k⟩ := h
  refine ⟨pn, Z, F, Γ, hh, _, A, q, fun F1 Γ1 h1 H1 as vs s1 A1 r1 ⟨ds, e1, q1⟩ => ?_⟩
  unfold cdLenSet at q1
  split at q1
  · rename_i ds
    refine ⟨F1, ds, A1.FH, .inl (reps_of A1 r1 e1), q1.1, fun a L n so => ?_⟩
    obtain ⟨es, h1, h2, h3⟩ := so.ex
    have el : es.length = L.length := by have := congrArg List.length h1.ky; rwa [List.length_map, List.length_map] at this
    refine ⟨a, L, rfl, upd_same, (A1.post s1 k).val2 A1.FH n (.int _) ?_⟩
    rw [← el]
    exact q1.2 es h2 h3
  · rename_i ds
    refine ⟨F1, ds, A1.FH, .inr (reps_of A1 r1 e1), q1.1, fun a L n so => ?_⟩
    obtain ⟨es, h1, h2, h3⟩ := so.ex
    have el : es.length = L.length := by have := congrArg List.length h1.ky; rwa [List.length_map, List.length_map] at this
    refine ⟨a, L, rfl, upd_same, (A1.post s1 k).val2 A1.FH n (.int _) ?_⟩
    rw [← el]
    exact q1.2 es h2 h3
  · exact q1.elim
theorem vo_lenSet (hc : X.calm = true) (hu : X.A.units + 64 < cLine) (hg : Gl X "len") (hm : X.mg "len" = none) (hg2 : Gl X "set") (hm2 : X.mg "set" = none) (ha : PA X [e] (lA X.K τs)) (he : starEach [e] X.env = (false, eval e X.env) :: starEach [] X.env := by rfl) :
    PE X (.Call (.Name "len" p) [.Call (.Name "set" p2) [e] [] q2] [] pos) (lO X.K (eCB cdLenSet τs)) :=
  pe_imp (pe_callB cr_lenS hg hm PySem.boot_len (pa_cons (pe_callTy (cr_set hc hu) hg2 hm2 PyProof.Rows.boot_set ha (by decide) (by decide) he rfl) pa_nil rfl)) fun σ H QV h => lenSet_read h
end
end VL
end
section
namespace VL
open PySem PySem.Spec L2
/-! a, b, c = x, y, z -/
def sPar3 (i j l : Nat) (τs : EA) : ES := fun D Γ => τs Γ fun as Γ1 => ∃ a b c Γ2 Γ3 Γ4, as = [.d a, .d b, .d c] ∧ setG Γ1 i (some (.fz a)) = some Γ2 ∧ setG Γ2 j (some (.fz b)) = some Γ3 ∧ setG Γ3 l (some (.fz c)) = some Γ4 ∧ D.nx Γ4
section
variable {X : Cx} {io : Bool} {pos : Pos} {τs : EA}
theorem vs_par3 {i j l : Nat} {x y z : Str} {a b c : Expr} {px py pz pt : Pos} {kt k2 pt2} (hc : X.calm = true) (hN : X.N.Nodup) (hi : X.N[i]? = some x) (hj : X.N[j]? = some y) (hl : X.N[l]? = some z) (hij : i ≠ j) (hil : i ≠ l) (hjl : j ≠ l)
    (hx : X.env.scope.names.lookup x = some .local) (hy : X.env.scope.names.lookup y = some .local) (hz : X.env.scope.names.lookup z = some .local) (h0 : io = true → i ≠ 0 ∧ j ≠ 0 ∧ l ≠ 0) (ha : PA X [a, b, c] (lA X.K τs))
    (hw : swappedStores [.Tuple [.Name x px, .Name y py, .Name z pz] kt pt] (.Tuple [a, b, c] k2 pt2) X.env = pure (some [x, y, z]))
    (hs : swapsWithSole [.Tuple [.Name x px, .Name y py, .Name z pz] kt pt] (.Tuple [a, b, c] k2 pt2) pos.line X.env = pure false := by rfl) :
    PS X (.Assign [.Tuple [.Name x px, .Name y py, .Name z pz] kt pt] (.Tuple [a, b, c] k2 pt2) pos) (lS X.K io (sPar3 i j l τs)) :=
  ps_imp (ps_par3 hc hN hi hj hl hij hil hjl hx hy hz ha hw hs) fun D σ H ⟨v0, Z, F, Γ, h, DD, A, q, k⟩ => ⟨_, Z, F, Γ, h, _, A, q, fun F1 Γ1 h1 H1 as vs s1 A1 r1 ⟨d1, d2, d3, Γ2, Γ3, Γ4, e0, e1, e2, e3, q1⟩ => by
    subst e0
    obtain ⟨v1, _, rfl, w1, v2, _, rfl, w2, v3, _, rfl, w3, rfl⟩ := r1
    obtain ⟨i1, l1⟩ := setG_eq e1
    obtain ⟨i2, l2⟩ := setG_eq e2
    obtain ⟨i3, l3⟩ := setG_eq e3
    subst i1; subst i2; subst i3
    obtain ⟨h2, A2⟩ := A1.put (show Rp X.K F1 v1 d1 from w1) l1 (pns_ne fun z => (h0 z).1)
    obtain ⟨h3, A3⟩ := A2.put (show Rp X.K F1 v2 d2 from w2) l2 (pns_ne fun z => (h0 z).2.1)
    obtain ⟨h4, A4⟩ := A3.put (show Rp X.K F1 v3 d3 from w3) l3 (pns_ne fun z => (h0 z).2.2)
    exact ⟨v1, v2, v3, rfl, k.nx F1 _ _ h4 H1 s1 A4 q1⟩⟩
end
section
variable {D : En} {Γ : Ga} {τs : EA} {i j l : Nat}
theorem st_par3 (h : τs Γ fun as Γ1 => ∃ a b c Γ2 Γ3 Γ4, as = [.d a, .d b, .d c] ∧ setG Γ1 i (some (.fz a)) = some Γ2 ∧ setG Γ2 j (some (.fz b)) = some Γ3 ∧ setG Γ3 l (some (.fz c)) = some Γ4 ∧ D.nx Γ4) : sPar3 i j l τs D Γ := h
end
end VL
end
section
namespace VL
open PySem PySem.Spec L2
/-! [e for a in xs for b in ys] -/
/-- a grown list at D, in all that does not hold D -/
theorem AtR.grown {K : PySem.W.Frag} {pn : List (Nat × V)} {Z F : Hp} {Γ : Ga} {σ : St} {h H : Hp} {D : Addr} {xs : List V} (A : AtR K pn Z F Γ σ h (VL.one D (.lst xs)) H) (v : V) :
    AtR K pn Z F Γ σ h (VL.one D (.lst (xs ++ [v]))) (upd H D (.lst (xs ++ [v]))) := by
  have nD : ∀ (G : Hp), Dis (VL.one D (.lst xs)) G → Same G H → Same G (upd H D (.lst (xs ++ [v]))) := fun G dG sG a o e => by
    by_cases z : a = D
    · subst z; rw [of_dis_one dG] at e; cases e
    · rw [upd_ne z]; exact sG _ _ e
  exact ⟨⟨A.at_.own, nD _ A.rh A.at_.hH, nD _ A.rF A.at_.FH, nD _ A.rZ A.at_.ZH, A.at_.FZ, A.at_.hF, A.at_.hZ, A.at_.pin⟩, same_one upd_same, dis_one (of_dis_one A.rh), dis_one (of_dis_one A.rF), dis_one (of_dis_one A.rZ)⟩
/-- the block's slots put back, D beside -/
theorem At.backed {K : PySem.W.Frag} {pn : List (Nat × V)} {Z F2 F5 : Hp} {Γ1 Γ2 Γ5 : Ga} {σ σ4 : St} {h2 h5 H5 : Hp} {D : Addr} {xs : List V} {vs : List Nat} (dZ : Dis Z (VL.one D (.lst xs))) (l1 : Γ1.length = σ.length) (pin : ∀ p ∈ pn, σ[p.1]? = some (some p.2))
    (w2 : OwnS K F2 Γ2 σ h2) (sF : Same F2 F5) (pl : Plain Γ1 vs) (sl : ∀ j ∈ vs, Γ2[j]? = Γ1[j]?) (wσ : L2.wipe σ4 vs = L2.wipe σ vs) (A5 : At K (pns false .non) (jn Z (VL.one D (.lst xs))) F5 Γ5 σ4 h5 H5) :
    ∃ h6, AtR K pn Z F5 (backG Γ1 Γ5 vs) σ h6 (VL.one D (.lst xs)) H5 ∧ ∀ j ∈ vs, (backG Γ1 Γ5 vs)[j]? = Γ1[j]? := by
  have lσ : σ.length = σ4.length := (len_wipe wσ).symm
  have l5 : Γ1.length = Γ5.length := by rw [A5.own.len, ← lσ, ← l1]
  obtain ⟨h6, σ6, s6, w6, n6, in6, out6⟩ := A5.own.back (Γ0 := Γ1) (σ0 := σ) vs (fun j hj => by
    rcases pl j hj with e | ⟨d, e⟩
    · exact .inl e
    · obtain ⟨u, e2, r⟩ := w2.get (show Γ2[j]? = some (some (.fz d)) by rw [sl j hj]; exact e)
      exact .inr ⟨d, u, e, e2, Rp.mono sF r⟩) lσ l5
  have eσ : σ6 = σ := by
    apply List.ext_getElem?
    intro j
    by_cases hj : j ∈ vs
    · exact in6 j hj
    · rw [out6 j hj, out_wipe wσ hj]
  subst eσ
  exact ⟨h6, At.unkeep dZ ⟨w6, s6.trans A5.hH, A5.FH, A5.ZH, A5.FZ, Dis.sub s6 A5.hF, Dis.sub s6 A5.hZ, pin⟩, fun j hj => backG_get l5 hj⟩
theorem wipe_wipe (σ : St) (vs : List Nat) : L2.wipe (L2.wipe σ vs) vs = L2.wipe σ vs := lc_read.wipe_wipe σ vs
theorem loop_in {K : PySem.W.Frag} {g : EG} {te : EX} {ws vs : List Nat} (hw : ∀ i ∈ ws, i ∈ vs) {pn : List (Nat × V)} {Z F1 : Hp} {Γ1 : Ga} {σ : St} {h1 H1 : Hp} {D : Addr} {xs0 : List V} {acc0 ds : List PyData} {J : It}
    (A1 : AtR K pn Z F1 Γ1 σ h1 (VL.one D (.lst xs0)) H1) (ra0 : RpAll K F1 xs0 acc0) (ok : ItOk K J F1 ds) (pl : Plain Γ1 vs) (I : Nat → List PyData → Ga → Prop) (i0 : I 0 acc0 Γ1)
    (turn : ∀ i d acc Γ', ds[i]? = some d → I i acc Γ' → (∀ j ∈ vs, Γ'[j]? = Γ1[j]?) → ∃ Γw, nrm (wipeG Γ' vs) = some Γw ∧ g d Γw fun Γ2 => te Γ2 fun a Γ4 => ∃ y, a = .d y ∧ acc.length < sizeLine ∧ ∃ Γb, nrm (backG Γ1 Γ4 vs) = some Γb ∧ I (i + 1) (acc ++ [y]) Γb)
    (Nx : Hp → Prop) (fin : ∀ F' Γ' h' acc xs H', Same F1 F' → AtR K pn Z F' Γ' σ h' (VL.one D (.lst xs)) H' → RpAll K F' xs acc → (∀ j ∈ vs, Γ'[j]? = Γ1[j]?) → I ds.length acc Γ' → Nx H') :
    ∃ W1 : Nat → Nat → Hp → Prop, (∃ m, W1 0 m H1) ∧ ∀ j k H, W1 j k H → (J.stop j H ∧ Nx H) ∨ (J.go j H ∧ ∃ Nx1 : Hp → Prop, (∀ H', Nx1 H' → ∃ k', k' < k ∧ W1 (j + 1) k' H') ∧ ∀ x H', J.yld j H x H' → lG K false ws g x (L2.wipe σ vs) H' fun σ3 H5 => L2.wipe σ3 vs = L2.wipe σ vs ∧ L2.tYes σ3 H5 fun b H6 =>
      if b = true then lX K te σ3 H6 fun y H7 => ∃ acc, H7 D = some (.lst acc) ∧ acc.length < sizeLine ∧ Nx1 (upd H7 D (.lst (acc ++ [y]))) else Nx1 H6) := by
  have l1 := A1.at_.own.len
  refine ⟨fun i m H' => m = ds.length - i ∧ i ≤ ds.length ∧ ∃ F' Γ' h' acc xs, Same F1 F' ∧ AtR K pn Z F' Γ' σ h' (VL.one D (.lst xs)) H' ∧ RpAll K F' xs acc ∧ (∀ j ∈ vs, Γ'[j]? = Γ1[j]?) ∧ I i acc Γ',
    ⟨ds.length, by simp, Nat.zero_le _, F1, Γ1, h1, acc0, xs0, Same.refl _, A1, ra0, fun _ _ => rfl, i0⟩, ?_⟩
  rintro i m H2 ⟨rfl, hi, F2, Γ2, h2, acc, xs, s2, A2, ra, sl, w2⟩
  by_cases hlt : i < ds.length
  · refine .inr ⟨ok.go F2 H2 i s2 A2.at_.FH hlt, fun H' => ∃ F' Γ' h' acc xs, Same F1 F' ∧ AtR K pn Z F' Γ' σ h' (VL.one D (.lst xs)) H' ∧ RpAll K F' xs acc ∧ (∀ j ∈ vs, Γ'[j]? = Γ1[j]?) ∧ I (i + 1) acc Γ',
      fun H' ⟨F', Γ', h', acc', xs', s', A', r', sl', w'⟩ => ⟨ds.length - (i + 1), by omega, rfl, hlt, F', Γ', h', acc', xs', s', A', r', sl', w'⟩, fun x H' y => ?_⟩
    obtain ⟨F3, d, g3, e3, r3⟩ := ok.yld F2 H2 i x H' s2 A2.at_.FH hlt y
    have B : At K pn (jn Z (VL.one D (.lst xs))) F3 Γ2 σ h2 H' := (AtR.keep A2).grow g3
    obtain ⟨h2', sw, ow⟩ := B.own.wipe vs
    have C : At K (pns false .non) (jn Z (VL.one D (.lst xs))) F3 (wipeG Γ2 vs) (L2.wipe σ vs) h2' H' := ⟨ow, sw.trans B.hH, B.FH, B.ZH, B.FZ, Dis.sub sw B.hF, Dis.sub sw B.hZ, fun p hp => nomatch hp⟩
    have dZ : Dis Z (VL.one D (.lst xs)) := A2.rZ.symm
    obtain ⟨Γw, eΓw, tq⟩ := turn i d acc Γ2 e3 w2 sl
    rw [nrm_eq eΓw] at C
    refine ⟨.non, _, F3, _, h2', d, _, C, r3, tq, fun F4 Γ4 σ4 h4 H4 s4 o4 A4 q4 => ?_⟩
    have wσ : L2.wipe σ4 vs = L2.wipe σ vs := by rw [o4 vs hw]; exact wipe_wipe σ vs
    refine ⟨wσ, ?_⟩
    unfold L2.tYes
    dsimp only
    rw [if_pos rfl]
    refine ⟨_, _, F4, Γ4, h4, _, A4, q4, fun F6 Γ6 h6 H6 a v s6 A6 r6 ⟨y, e6, z6, Γb, eb, q6⟩ => ?_⟩
    subst e6
    have sF : Same F2 F6 := (g3.fs.trans s4).trans s6
    obtain ⟨h7, A7, sl7⟩ := At.backed dZ (by rw [← l1]) A2.at_.pin A2.at_.own sF pl sl wσ A6
    rw [nrm_eq eb] at A7 sl7
    exact ⟨xs, A7.rH _ _ one_at, by rw [ra.length]; exact z6, F6, _, h7, acc ++ [y], xs ++ [v], s2.trans sF, A7.grown v, (RpAll.mono sF ra).append (.one r6), sl7, q6⟩
  · have e : i = ds.length := by omega
    subst e
    exact .inl ⟨ok.stop F2 H2 _ s2 A2.at_.FH (Nat.le_refl _), fin F2 Γ2 h2 acc xs H2 s2 A2 ra sl w2⟩
def eLc2 (τi : EI) (g : EG) (τj : EI) (g1 : EG) (te : EX) (vs vs1 : List Nat) : EO := fun Γ Q => τi Γ fun ds Γ1 => Plain Γ1 vs ∧ ∃ I : Nat → List PyData → Ga → Prop, I 0 [] Γ1 ∧
  (∀ i d acc Γ', ds[i]? = some d → I i acc Γ' → (∀ j ∈ vs, Γ'[j]? = Γ1[j]?) → ∃ Γw, nrm (wipeG Γ' vs) = some Γw ∧ g d Γw fun Γ2 => τj Γ2 fun es Γ3 => Plain Γ3 vs1 ∧ ∃ I1 : Nat → List PyData → Ga → Prop, I1 0 acc Γ3 ∧
    (∀ j e acc Γ', es[j]? = some e → I1 j acc Γ' → (∀ x ∈ vs1, Γ'[x]? = Γ3[x]?) → ∃ Γw, nrm (wipeG Γ' vs1) = some Γw ∧ g1 e Γw fun Γ2 => te Γ2 fun a Γ4 => ∃ y, a = .d y ∧ acc.length < sizeLine ∧ ∃ Γb, nrm (backG Γ3 Γ4 vs1) = some Γb ∧ I1 (j + 1) (acc ++ [y]) Γb) ∧
    ∀ acc Γ', I1 es.length acc Γ' → ∃ Γb, nrm (backG Γ1 Γ' vs) = some Γb ∧ I (i + 1) acc Γb) ∧
  ∀ acc Γ', I ds.length acc Γ' → Q (.ls acc) Γ'
theorem lc2_read {K : PySem.W.Frag} {τi τj : EI} {g g1 : EG} {te : EX} {ws ws1 vs vs1 : List Nat} (hw : ∀ i ∈ ws, i ∈ vs) (hw1 : ∀ i ∈ ws1, i ∈ vs1) {σ : St} {H : Hp} {QV : VK} (hh : lO K (eLc2 τi g τj g1 te vs vs1) σ H QV) :
    tLc2 (lI K τi) (lG K false ws g) L2.tYes (lI K τj) (lG K false ws1 g1) L2.tYes (lX K te) vs vs1 σ H QV := by
  obtain ⟨pn, Z, F, Γ, h, Q, A, q, k⟩ := hh
  refine ⟨pn, Z, F, Γ, h, _, A, q, fun F1 Γ1 h1 H1 J ds s1 A1 ok ⟨pl, I, i0, turn, fin⟩ D hD => ?_⟩
  have l1 := A1.own.len
  refine ⟨fun i m H' => m = ds.length - i ∧ i ≤ ds.length ∧ ∃ F' Γ' h' acc xs, Same F1 F' ∧ AtR K pn Z F' Γ' σ h' (VL.one D (.lst xs)) H' ∧ RpAll K F' xs acc ∧ (∀ j ∈ vs, Γ'[j]? = Γ1[j]?) ∧ I i acc Γ',
    ⟨ds.length, by simp, Nat.zero_le _, F1, Γ1, h1, [], [], Same.refl _, A1.beside (Grow.stay A1.FH (same_new hD)) (same_one upd_same) (dis_one (A1.FH.free hD)) (fun a z => ?_), .nil, fun _ _ => rfl, i0⟩, ?_⟩
  · by_cases e : a = D
    · subst e; exact hD
    · rw [one_ne e] at z; exact absurd rfl z
  rintro i m H2 ⟨rfl, hi, F2, Γ2, h2, acc, xs, s2, A2, ra, sl, w2⟩
  by_cases hlt : i < ds.length
  · refine .inr ⟨ok.go F2 H2 i s2 A2.at_.FH hlt, fun H' => ∃ F' Γ' h' acc xs, Same F1 F' ∧ AtR K pn Z F' Γ' σ h' (VL.one D (.lst xs)) H' ∧ RpAll K F' xs acc ∧ (∀ j ∈ vs, Γ'[j]? = Γ1[j]?) ∧ I (i + 1) acc Γ',
      fun H' ⟨F', Γ', h', acc', xs', s', A', r', sl', w'⟩ => ⟨ds.length - (i + 1), by omega, rfl, hlt, F', Γ', h', acc', xs', s', A', r', sl', w'⟩, fun x H' y => ?_⟩
    obtain ⟨F3, d, g3, e3, r3⟩ := ok.yld F2 H2 i x H' s2 A2.at_.FH hlt y
    have B : At K pn (jn Z (VL.one D (.lst xs))) F3 Γ2 σ h2 H' := (AtR.keep A2).grow g3
    obtain ⟨h2', sw, ow⟩ := B.own.wipe vs
    have C : At K (pns false .non) (jn Z (VL.one D (.lst xs))) F3 (wipeG Γ2 vs) (L2.wipe σ vs) h2' H' := ⟨ow, sw.trans B.hH, B.FH, B.ZH, B.FZ, Dis.sub sw B.hF, Dis.sub sw B.hZ, fun p hp => nomatch hp⟩
    have dZ : Dis Z (VL.one D (.lst xs)) := A2.rZ.symm
    obtain ⟨Γw, eΓw, tq⟩ := turn i d acc Γ2 e3 w2 sl
    rw [nrm_eq eΓw] at C
    refine ⟨.non, _, F3, _, h2', d, _, C, r3, tq, fun F4 Γ4 σ4 h4 H4 s4 o4 A4 q4 => ?_⟩
    have wσ : L2.wipe σ4 vs = L2.wipe σ vs := by rw [o4 vs hw]; exact wipe_wipe σ vs
    refine ⟨wσ, ?_⟩
    unfold L2.tYes
    dsimp only
    rw [if_pos rfl]
    refine ⟨_, _, F4, Γ4, h4, _, A4, q4, fun F5 Γ5 h5 H5 J1 es s5 A5 ok1 ⟨pl1, I1, i1, turn1, fin1⟩ => ?_⟩
    have A5' := At.unkeep dZ A5
    have ra5 : RpAll K F5 xs acc := RpAll.mono ((g3.fs.trans s4).trans s5) ra
    refine loop_in hw1 A5' ra5 ok1 pl1 I1 i1 turn1 _ fun F6 Γ6 h6 acc6 xs6 H6 s6 A6 ra6 sl6 w6 => ?_
    obtain ⟨Γb, eb, qb⟩ := fin1 acc6 Γ6 w6
    have sF : Same F2 F6 := ((g3.fs.trans s4).trans s5).trans s6
    have dZ6 : Dis Z (VL.one D (.lst xs6)) := A6.rZ.symm
    obtain ⟨h7, A7, sl7⟩ := At.backed dZ6 (by rw [← l1]) A2.at_.pin A2.at_.own sF pl sl wσ (AtR.keep A6)
    rw [nrm_eq eb] at A7 sl7
    exact ⟨F6, _, h7, acc6, xs6, s2.trans sF, A7, ra6, sl7, qb⟩
  · have e : i = ds.length := by omega
    subst e
    refine .inl ⟨ok.stop F2 H2 _ s2 A2.at_.FH (Nat.le_refl _), ?_⟩
    exact k F2 Γ2 h2 _ H2 (.ls acc) (.ref D) (s1.trans s2) A2 ⟨D, xs, rfl, rfl, ra⟩ (fin acc Γ2 w2)
section
variable {X : Cx}
theorem vo_lc2 {elt tg iter tg1 iter1 : Expr} {scope : Scope} {own : List (Str × Nat)} {vs1 ws ws1 : List Nat} {pos : Pos} {τi τj : EI} {g g1 : EG} {te : EX} (hc : X.calm = true) (hN : X.N.Nodup) (hi : PI X tg iter (lI X.K τi)) (ok : BlkOk X.N X.env.scope scope own) (hv : ∀ i ∈ vs1, i ∈ own.map (·.2))
    (hg : ∀ (s : Shared) (H : Hp) (C : Addr) (cl : List (Str × Addr)) (fp : List Addr), PG (X.blk s H scope (compEnvC scope cl C X.env) fp) tg (lG X.K false ws g)) (hw : ∀ i ∈ ws, i ∈ own.map (·.2))
    (hi1 : ∀ (s : Shared) (H : Hp) (C : Addr) (cl : List (Str × Addr)) (fp : List Addr), PI (X.blk s H scope (compEnvC scope cl C X.env) fp) tg1 iter1 (lI X.K τj))
    (hg1 : ∀ (s : Shared) (H : Hp) (C : Addr) (cl : List (Str × Addr)) (fp : List Addr), PG (X.blk s H scope (compEnvC scope cl C X.env) fp) tg1 (lG X.K false ws1 g1)) (hw1 : ∀ i ∈ ws1, i ∈ vs1)
    (he : ∀ (s : Shared) (H : Hp) (C : Addr) (cl : List (Str × Addr)) (fp : List Addr), PE (X.blk s H scope (compEnvC scope cl C X.env) fp) elt (lX X.K te)) (hs : ∀ x, foldedSetIterable iter X.env x = pure x := by intro _; rfl) (hs1 : ∀ env x, foldedSetIterable iter1 env x = pure x := by intro _ _; rfl) :
    PE X (.ListComp elt [⟨tg, iter, [], 0⟩, ⟨tg1, iter1, [], 0⟩] scope pos) (lO X.K (eLc2 τi g τj g1 te (own.map (·.2)) vs1)) :=
  pe_imp (pe_lc2 hc hN hi ok hv hg (fun _ _ _ _ _ => pts_nil) hi1 hg1 (fun _ _ _ _ _ => pts_nil) he hs hs1) fun σ H QV h => lc2_read hw hw1 h
end
end VL
end
section
namespace VL
open PySem PySem.Spec L2 VS
/-! ### sorted(xs), xs a list or a tuple -/
def cdSortedA : List PyData → (O → Prop) → Prop
  | [.list ds], Q => SortOk ds ∧ Q (.ls (ds.mergeSort (PySem.W.dataLe false id)))
  | [.tuple ds], Q => SortOk ds ∧ Q (.ls (ds.mergeSort (PySem.W.dataLe false id)))
  | _, _ => False
mutual
theorem reads_there {h : Heap} : ∀ (d : PyData) (v : Value) (as : List Addr), Reads h v d as → d.canLay0 = true → ∀ a ∈ as, ∃ o, h.get? a = some o
  | .none, _, _, .none, _, _, z => nomatch z
  | .bool _, _, _, .bool _, _, _, z => nomatch z
  | .int _, _, _, .int _ _, _, _, z => nomatch z
  | .str _, _, _, .str _ _, _, _, z => nomatch z
  | .tuple ds, _, _, .tuple _ _ _ r, c, a, z => reads_theres ds _ _ r (by simpa [PyData.canLay0] using c) a z
  | .list ds, _, _, .list g _ _ r, c, a, z => by
    rcases List.mem_cons.mp z with e | e
    · subst e; exact ⟨_, g⟩
    · exact reads_theres ds _ _ r (by simpa [PyData.canLay0] using c) a e
  | .dict kvs, _, _, _, c, _, _ => by simp [PyData.canLay0] at c
theorem reads_theres {h : Heap} : ∀ (ds : List PyData) (vs : List Value) (as : List Addr), ReadsAll h vs ds as → PyData.canLayAll0 ds = true → ∀ a ∈ as, ∃ o, h.get? a = some o
  | [], _, _, .nil, _, _, z => nomatch z
  | d :: ds, _, _, .cons r1 r2, c, a, z => by
    have c : d.canLay0 = true ∧ PyData.canLayAll0 ds = true := by simpa [PyData.canLayAll0] using c
    rcases List.mem_append.mp z with e | e
    · exact reads_there d _ _ r1 c.1 a e
    · exact reads_theres ds _ _ r2 c.2 a e
end
theorem obj_there {P : Program} {w : World} {H : Hp} {h : Heap} {a : Addr} {o : HO} (x : ObjOk P w H h a o) : ∃ u, h.get? a = some u := by
  cases o with
  | lst _ => obtain ⟨_, _, _, _, e⟩ := x; exact ⟨_, e⟩
  | tup _ => obtain ⟨_, _, _, u, e, _⟩ := x; exact ⟨u, e⟩
  | dK _ => obtain ⟨_, _, _, _, u, _, _, e, _⟩ := x; exact ⟨u, e⟩
  | dT _ => obtain ⟨_, _, _, _, u, _, _, e, _⟩ := x; exact ⟨u, e⟩
  | set _ _ => obtain ⟨u, _, _, _, e, _⟩ := x; exact ⟨u, e⟩
  | ins _ _ _ => obtain ⟨_, _, _, e, _⟩ := x; exact ⟨_, e⟩
  | own _ => exact x
  | xd _ => obtain ⟨_, ⟨u, _, _, e, _⟩, _⟩ := x; exact ⟨u, e⟩
  | rng _ _ => obtain ⟨_, _, _, e⟩ := x; exact ⟨_, e⟩
  | frz u _ => obtain ⟨e, _⟩ := x; exact ⟨_, e⟩
  | tbl _ => exact ⟨_, show h.get? a = some _ from x⟩
  | met _ _ => exact ⟨_, show h.get? a = some _ from x⟩
  | ext _ => obtain ⟨_, e, _⟩ := x; exact e
theorem each_there {h h' : Heap} {a : Addr} (k : ∀ b o, h.get? b = some o → h'.get? b = some o) (na : h.get? a = none) : ∀ {us : List Value} {ds : List PyData}, PySem.W.EachIs (fun u d => ∃ as, Reads h u (id d) as) us ds → (∀ d ∈ ds, d.canLay0 = true) → PySem.W.EachIs (fun u d => ∃ as, Reads h' u (id d) as ∧ a ∉ as) us ds
  | _, _, .nil, _ => .nil
  | _, _, .cons ⟨as, r⟩ t, c => .cons ⟨as, PyProof.Rows.Reads.keeps k r, fun z => by
      obtain ⟨o, e⟩ := reads_there _ _ _ r (c _ List.mem_cons_self) a z
      rw [na] at e; cases e⟩ (each_there k na t fun d hd => c d (List.mem_cons_of_mem _ hd))
section
variable {X : Cx}
theorem cd_sortedA (hu : X.A.units + 64 < cLine) : CallD X (.builtin "sorted") cdSortedA := by
  intro pins s σ H xs us QV I rx ⟨F, ds, Q, sF, rl, h, post⟩
  unfold cdSortedA at h
  split at h
  · exact cd_sorted hu pins s σ H xs us QV I rx ⟨F, _, Q, sF, rl, h, post⟩
  · rename_i ds
    obtain ⟨v, rfl, r⟩ := rl.one'
    obtain ⟨a, vs, rfl, ha, ra⟩ := r.tup sF
    obtain ⟨⟨k1, k2, k3, k4⟩, q⟩ := h
    obtain ⟨its, rv, ⟨o, go, co, n, do'⟩, hz⟩ := I.tuple ha
    rw [Vals.ref1 rx]
    have lz : its.length = vs.length := rv.length.symm
    refine Calls.call_function_entry PyProof.Rows.kind_sorted PyProof.Rows.plain_sorted PyProof.Rows.entry_sorted (PyProof.Rows.args_sorted1 _) ?_
    unfold Builtin.«sorted»
    refine wpAny_bind (m := checkCount "sorted" 1 1 _) (wpAny_pure ?_)
    refine wpAny_bind (wpAny_collect_seq a (.inr rfl) go co do' (fun h1 kp => ?_) (by rw [List.size_toArray, lz]; exact hz))
    refine wpAny_bind (wpAny_newList ?_ (by show its.length ≤ sizeLine; rw [lz]; exact hz))
    have gL : (h1.push (PyProof.Rows.seqObj "list" its.toArray 0)).get? h1.objs.size = some (PyProof.Rows.seqObj "list" its.toArray 0) := Heap.get?_push_size _ rfl
    have old : s.heap.get? h1.objs.size = none := by
      cases e : s.heap.get? h1.objs.size with
      | none => rfl
      | some u => exact absurd (Heap.lt_size (kp _ _ e)) (Nat.lt_irrefl _)
    have hn : H h1.objs.size = none := by
      cases e : H h1.objs.size with
      | none => rfl
      | some u =>
        obtain ⟨w, z⟩ := obj_there (I.hok _ _ e)
        rw [old] at z; cases z
    refine wpAny_bind (wpAny_holding (PySem.W.list_sort_data (enc := id) (R := fun u d => ∃ x, RelV x u ∧ Rp X.K F x d) (bs := ds) (s := { s with heap := h1.push (PyProof.Rows.seqObj "list" its.toArray 0) }) gL (each_rp rv ra) (each_there (fun b u z => Heap.get?_push_of_some _ (kp b u z)) old (each_reads I sF rv ra fun d hd => (k4 d hd).1) fun d hd => (k4 d hd).1) (by rw [List.map_id]; exact k1) (by rw [List.map_id]; exact k2) k3 (fun d hd => ?_) fun out ho e => ?_))
    · have := (k4 d hd).2
      show X.A.units + 1 + 1 + d.depth < cLine
      omega
    · obtain ⟨ws, w1, w2⟩ := rp_each e
      obtain ⟨c, hcc⟩ := PyProof.Rows.sortedHeap_at (vs := its) (out := out.toArray) gL
      have hlen : ws.length ≤ sizeLine := by rw [w2.length, List.length_mergeSort]; exact k3
      have kept : ∀ b u, s.heap.get? b = some u → (PyProof.Rows.sortedHeap (h1.push (PyProof.Rows.seqObj "list" its.toArray 0)) h1.objs.size its out.toArray).get? b = some u := fun b u z => by
        have z1 := kp b u z
        have lt := Heap.lt_size z1
        rw [PyProof.Rows.sortedHeap_old (Nat.ne_of_lt lt) (by rw [PyProof.Rows.size_push']; exact Nat.lt_succ_of_lt lt)]
        exact Heap.get?_push_of_some _ z1
      refine wpAny_pure ⟨_, rfl, ?_⟩
      exact ⟨.ref h1.objs.size, _, I.laidN (t' := s.toks) kept old hn (o := .lst ws) ⟨hlen, out, c, w1, hcc⟩, rfl, post.newL sF hn w2 q⟩
  · exact h.elim
end
theorem cd_sortedAL {ds : List PyData} {QO : O → Prop} (hs : SortOk ds) (h : QO (.ls (ds.mergeSort (PySem.W.dataLe false id)))) : cdSortedA [.list ds] QO := ⟨hs, h⟩
theorem cd_sortedAT {ds : List PyData} {QO : O → Prop} (hs : SortOk ds) (h : QO (.ls (ds.mergeSort (PySem.W.dataLe false id)))) : cdSortedA [.tuple ds] QO := ⟨hs, h⟩
end VL
end
section
namespace VL
open PySem PySem.Spec L2
/-- [e for x in xs for y in ys], by a function of the items -/
theorem lc2_map {α β : Type} {ti tj : EI} {g g1 : EG} {te : EX} {vs vs1 : List Nat} {Γ Γ1 : Ga} {Q : O → Ga → Prop} (xs : List α) (enc : α → PyData) (ys : List β) (enc1 : β → PyData) (f : α → β → PyData) (hi : IPure ti Γ (xs.map enc) Γ1) (hl : xs.length * ys.length < sizeLine) (pl : Plain Γ1 vs)
    (turn : ∀ x ∈ xs, ∃ Γw Γ2, nrm (wipeG Γ1 vs) = some Γw ∧ (∀ QG : Ga → Prop, QG Γ2 → g (enc x) Γw QG) ∧ IPure tj Γ2 (ys.map enc1) Γ2 ∧ Plain Γ2 vs1 ∧ nrm (backG Γ1 Γ2 vs) = some Γ1 ∧
      ∀ y ∈ ys, ∃ Γv Γ3, nrm (wipeG Γ2 vs1) = some Γv ∧ (∀ QG : Ga → Prop, QG Γ3 → g1 (enc1 y) Γv QG) ∧ XPure te Γ3 (f x y) ∧ nrm (backG Γ2 Γ3 vs1) = some Γ2)
    (h : Q (.ls (xs.flatMap fun x => ys.map (f x))) Γ1) : eLc2 ti g tj g1 te vs vs1 Γ Q := by
  refine hi _ ⟨pl, fun i acc Γ' => Γ' = Γ1 ∧ acc = (xs.take i).flatMap fun x => ys.map (f x), ⟨rfl, by simp⟩, fun i d acc Γ' e ⟨e1, e2⟩ _ => ?_, fun acc Γ' ⟨e1, e2⟩ => ?_⟩
  · subst e1; subst e2
    rw [List.getElem?_map] at e
    cases ex : xs[i]? with
    | none => rw [ex] at e; cases e
    | some x =>
      rw [ex] at e; cases e
      obtain ⟨Γw, Γ2, w1, hg, hj, pl2, w2, tn⟩ := turn x (List.mem_of_getElem? ex)
      have il : i < xs.length := (List.getElem?_eq_some_iff.mp ex).1
      have tk : xs.take (i + 1) = xs.take i ++ [x] := by rw [List.take_add_one, ex]; rfl
      have len : ∀ zs : List α, (zs.flatMap fun x => ys.map (f x)).length = zs.length * ys.length := fun zs => by
        induction zs with
        | nil => simp
        | cons z zs ih => rw [List.flatMap_cons, List.length_append, ih, List.length_map, List.length_cons, Nat.succ_mul]; omega
      refine ⟨Γw, w1, hg _ (hj _ ⟨pl2, fun j acc' Γ'' => Γ'' = Γ2 ∧ acc' = ((xs.take i).flatMap fun x => ys.map (f x)) ++ (ys.take j).map (f x), ⟨rfl, by simp⟩, fun j d acc' Γ'' e2 ⟨a1, a2⟩ _ => ?_, fun acc' Γ'' ⟨a1, a2⟩ => ?_⟩)⟩
      · subst a1; subst a2
        rw [List.getElem?_map] at e2
        cases ey : ys[j]? with
        | none => rw [ey] at e2; cases e2
        | some y =>
          rw [ey] at e2; cases e2
          obtain ⟨Γv, Γ3, v1, hg1, he, v2⟩ := tn y (List.mem_of_getElem? ey)
          have jl : j < ys.length := (List.getElem?_eq_some_iff.mp ey).1
          have tj' : ys.take (j + 1) = ys.take j ++ [y] := by rw [List.take_add_one, ey]; rfl
          refine ⟨Γv, v1, hg1 _ (he _ ⟨f x y, rfl, ?_, _, v2, rfl, by rw [tj', List.map_append, ← List.append_assoc]; rfl⟩)⟩
          rw [List.length_append, len, List.length_map, List.length_take, List.length_take, Nat.min_eq_left (by omega), Nat.min_eq_left (by omega)]
          have : i * ys.length + j < xs.length * ys.length := by
            have h1 : (i + 1) * ys.length ≤ xs.length * ys.length := Nat.mul_le_mul_right _ il
            rw [Nat.succ_mul] at h1
            omega
          omega
      · subst a1; subst a2
        refine ⟨_, w2, rfl, ?_⟩
        rw [tk, List.flatMap_append, List.length_map, List.take_length]
        simp
  · subst e1; subst e2
    rw [List.length_map, List.take_length]
    exact h
theorem op1_negI {i : Int} {Q : O → Prop} (h : Q (.fz (.int (-i)))) : op1Neg (.int i) Q := h
/-- two statements, cut by what holds between them -/
theorem seq_cut {s t : ES} {D : En} {Γ : Ga} (I : Ga → Prop) (h1 : ∀ nx : Ga → Prop, (∀ Γ', I Γ' → nx Γ') → s { D with nx := nx } Γ) (h2 : ∀ Γ', I Γ' → t D Γ') : sSeq s t D Γ := h1 (t D) h2
end VL
end
section
namespace VL
open PySem PySem.Spec L2
/-! ### a dict of owned parts, keyed by texts -/
section
variable {K : PySem.W.Frag} {pn : List (Nat × V)} {Z F F' : Hp} {Γ Γ1 : Ga} {σ : St} {h hr H H' : Hp} {v : V} {o : O} {d : PyData} {ks : List Key} {ts : List O} {i k : Nat}
/-- the tree of a slot: its root, its elements -/
structure TdAt (K : PySem.W.Frag) (ks : List Key) (pn : List (Nat × V)) (Z F : Hp) (Γ : Ga) (σ : St) (h H : Hp) (i : Nat) (ts : List O) (a : Addr) (vs : List V) (hT g : Hp) : Prop where
  sl : σ[i]? = some (some (.ref a))
  at_ : H a = some (.dK (ks.zip vs))
  own : OwnT K F ts vs hT
  TH : Same hT H
  Ta : hT a = none
  TF : Dis hT F
  TZ : Dis hT Z
  Tg : Dis hT g
  gH : Same g H
  ga : g a = none
  gF : Dis g F
  gZ : Dis g Z
  Fa : F a = none
  Za : Z a = none
  ph : ∀ k, Dis h k → Dis hT k ∧ Dis g k ∧ k a = none
  put : ∀ F' ts' vs' hT' H', Same F F' → OwnT K F' ts' vs' hT' → H' a = some (.dK (ks.zip vs')) → Same hT' H' → Same F' H' → Same Z H' → Same g H' → Dis F' Z → hT' a = none → Dis hT' g → Dis hT' F' → Dis hT' Z → Dis g F' → F' a = none →
    At K pn Z F' (Γ.set i (some (.td ks ts'))) σ (jn (jn (one a (.dK (ks.zip vs'))) hT') g) H'
theorem At.changeTd (A : At K pn Z F Γ σ h H) (e : Γ[i]? = some (some (.td ks ts))) : ∃ a vs hT g, TdAt K ks pn Z F Γ σ h H i ts a vs hT g := by
  obtain ⟨v, h1, h2, a1, rfl, d12, a4, a5⟩ := A.own.focus e
  obtain ⟨a, vs, hT, rfl, rfl, dT, w⟩ := own_td.mp a4
  have s1 : Same (one a (.dK (ks.zip vs))) (jn (jn (one a (.dK (ks.zip vs))) hT) h2) := fun x u z => same_l _ _ (same_l _ _ z)
  have sT : Same hT (jn (jn (one a (.dK (ks.zip vs))) hT) h2) := fun x u z => same_l _ _ (same_r dT _ _ z)
  have s2 : Same h2 (jn (jn (one a (.dK (ks.zip vs))) hT) h2) := same_r d12
  have da2 : Dis (one a (.dK (ks.zip vs))) h2 := Dis.sub same_l d12
  have dT2 : Dis hT h2 := Dis.sub (same_r dT) d12
  refine ⟨a, vs, hT, h2, ⟨a1, A.hH _ _ (s1 _ _ one_at), w, sT.trans A.hH, of_dis_one dT, Dis.sub sT A.hF, Dis.sub sT A.hZ, dT2, s2.trans A.hH, of_dis_one da2, Dis.sub s2 A.hF, Dis.sub s2 A.hZ, of_dis_one (Dis.sub s1 A.hF), of_dis_one (Dis.sub s1 A.hZ),
    fun k dk => ⟨Dis.sub sT dk, Dis.sub s2 dk, of_dis_one (Dis.sub s1 dk)⟩, fun F' ts' vs' hT' H' sF w' hA sT' sF' sZ' sg' dFZ ta tg tF tZ gF fa => ?_⟩⟩
  have dT' : Dis (one a (.dK (ks.zip vs'))) hT' := dis_one ta
  have q := a5 F' (.td ks ts') (.ref a) (jn (one a (.dK (ks.zip vs'))) hT') sF (own_td.mpr ⟨a, vs', hT', rfl, rfl, dT', w'⟩) (Dis.jn (dis_one (of_dis_one da2)) tg)
  rw [set_self a1] at q
  have zA : Z a = none := of_dis_one (Dis.sub s1 A.hZ)
  exact ⟨q, same_jn (same_jn (same_one hA) sT') sg', sF', sZ', dFZ, Dis.jn (Dis.jn (dis_one fa) tF) gF, Dis.jn (Dis.jn (dis_one zA) tZ) (Dis.sub s2 A.hZ), A.pin⟩
/-- nothing changed but one element's form: o' stands where o stood -/
theorem TdAt.elem {a : Addr} {vs : List V} {hT g : Hp} (T : TdAt K ks pn Z F Γ σ h H i ts a vs hT g) (A : At K pn Z F Γ σ h H) (e : ts[k]? = some o) :
    ∃ v h1, vs[k]? = some v ∧ Own K F o v h1 ∧ Same h1 H ∧ Dis h1 F ∧ Dis h1 Z ∧ h1 a = none ∧
    (∀ F' o' h1' H', Same F F' → Own K F' o' v h1' → H' a = some (.dK (ks.zip vs)) → Same h1' H' → Same F' H' → Same Z H' → (∀ G, Same G H → Dis h1 G → Same G H') → Dis F' Z → h1' a = none → (∀ G, Dis h1 G → Dis h1' G) → Dis h1' F' → Dis h1' Z → (∀ G, Same G H → Dis G F → Dis h1 G → Dis G F') → F' a = none →
      ∃ h', At K pn Z F' (Γ.set i (some (.td ks (ts.set k o')))) σ h' H') := by
  obtain ⟨v, h1, h2, a1, rfl, d12, w1, put, _⟩ := T.own.focus e
  have s1 : Same h1 (jn h1 h2) := same_l
  have s2 : Same h2 (jn h1 h2) := same_r d12
  refine ⟨v, h1, a1, w1, s1.trans T.TH, Dis.sub s1 T.TF, Dis.sub s1 T.TZ, s1.free T.Ta, fun F' o' h1' H' sF w' hA sh sF' sZ' keep dFZ ha kd dF' dZ' kF fa => ?_⟩
  have q := put F' o' v h1' sF w' (kd h2 d12)
  rw [set_self a1] at q
  have d1g : Dis h1 g := Dis.sub s1 T.Tg
  have k2 : Same h2 H' := keep h2 (s2.trans T.TH) d12
  have kg : Same g H' := keep g T.gH d1g
  have ja : ∀ x : Addr, h1' x = none → h2 x = none → jn h1' h2 x = none := fun x e1 e2 => by rw [jn_r e1]; exact e2
  exact ⟨_, T.put F' (ts.set k o') vs (jn h1' h2) H' sF q hA (same_jn sh k2) sF' sZ' kg dFZ (ja a ha (s2.free T.Ta)) (Dis.jn (kd g d1g) (Dis.sub s2 T.Tg)) (Dis.jn dF' (kF h2 (s2.trans T.TH) (Dis.sub s2 T.TF) d12)) (Dis.jn dZ' (Dis.sub s2 T.TZ)) (kF g T.gH T.gF d1g) fa⟩
/-- an element frozen where it stands -/
theorem At.frzTd (A : At K pn Z F Γ σ h H) (e : Γ[i]? = some (some (.td ks ts))) (e1 : ts[k]? = some o) (e2 : o.frz = some d) : ∃ F' h' a vs v, Same F F' ∧ σ[i]? = some (some (.ref a)) ∧ H a = some (.dK (ks.zip vs)) ∧ vs[k]? = some v ∧ At K pn Z F' (Γ.set i (some (.td ks (ts.set k (.fz d))))) σ h' H ∧ Rp K F' v d := by
  obtain ⟨a, vs, hT, g, T⟩ := A.changeTd e
  obtain ⟨v, h1, a1, w1, sh, dF, dZ, ha, put⟩ := T.elem A e1
  obtain ⟨F', s, rfl, q⟩ := w1.frz e2 dF
  have kF : ∀ G, Same G H → Dis G F → Dis h1 G → Dis G (jn h1 F) := fun G _ d1 d2 => (Dis.jn d2 d1.symm).symm
  have sFH : Same (jn h1 F) H := same_jn sh A.FH
  obtain ⟨h', A'⟩ := put (jn h1 F) (.fz d) emp H s (own_fz.mpr ⟨rfl, q⟩) T.at_ same_emp sFH A.ZH (fun G sG _ => sG) (Dis.jn dZ A.FZ) rfl (fun _ _ => Dis.emp) Dis.emp Dis.emp kF (by rw [jn_r ha]; exact T.Fa)
  exact ⟨_, h', a, vs, v, s, T.sl, T.at_, a1, A', q⟩
/-- an element's own list changed -/
theorem At.changeEd {ds : List PyData} (A : At K pn Z F Γ σ h H) (e : Γ[i]? = some (some (.td ks ts))) (e1 : ts[k]? = some (.ls ds)) : ∃ a vs b ws, σ[i]? = some (some (.ref a)) ∧ H a = some (.dK (ks.zip vs)) ∧ vs[k]? = some (.ref b) ∧ H b = some (.lst ws) ∧ RpAll K F ws ds ∧
    ∀ ws' ds', RpAll K F ws' ds' → ∃ h', At K pn Z F (Γ.set i (some (.td ks (ts.set k (.ls ds'))))) σ h' (upd H b (.lst ws')) := by
  obtain ⟨a, vs, hT, g, T⟩ := A.changeTd e
  obtain ⟨v, h1, a1, w1, sh, dF, dZ, ha, put⟩ := T.elem A e1
  obtain ⟨b, ws, rfl, rfl, r⟩ := own_ls.mp w1
  have hab : a ≠ b := fun z => by subst z; rw [one_at] at ha; cases ha
  refine ⟨a, vs, b, ws, T.sl, T.at_, a1, sh _ _ one_at, r, fun ws' ds' r' => ?_⟩
  exact put F (.ls ds') (VL.one b (.lst ws')) (upd H b (.lst ws')) (Same.refl _) (own_ls.mpr ⟨b, ws', rfl, rfl, r'⟩) (by rw [upd_ne hab]; exact T.at_) (same_one upd_same) (keepU (of_dis_one dF) A.FH) (keepU (of_dis_one dZ) A.ZH) (fun G sG dG => keepU (of_dis_one dG) sG) A.FZ (one_ne hab) (fun G dG => dis_at dG) (dis_at dF) (dis_at dZ) (fun G _ d1 _ => d1) T.Fa
/-- an element put anew (what stood there is dropped) -/
theorem AtR.putTd (A : AtR K pn Z F Γ σ h hr H) (w : Own K F o v hr) (e : Γ[i]? = some (some (.td ks ts))) (hk : k < ts.length) : ∃ a vs, σ[i]? = some (some (.ref a)) ∧ H a = some (.dK (ks.zip vs)) ∧ vs.length = ts.length ∧ ∃ h', At K pn Z F (Γ.set i (some (.td ks (ts.set k o)))) σ h' (upd H a (.dK (ks.zip (vs.set k v)))) := by
  obtain ⟨a, vs, hT, g, T⟩ := A.at_.changeTd e
  obtain ⟨d1, d2, d3⟩ := T.ph hr A.rh.symm
  obtain ⟨u, h1, h2, a1, rfl, d12, w1, put, _⟩ := T.own.focus (List.getElem?_eq_getElem hk)
  have s2 : Same h2 (jn h1 h2) := same_r d12
  have e2 : Dis hr h2 := (Dis.sub s2 d1).symm
  refine ⟨a, vs, T.sl, T.at_, T.own.len, _, T.put F (ts.set k o) (vs.set k v) (jn hr h2) _ (Same.refl _) (put F o v hr (Same.refl _) w e2) upd_same (same_jn (keepU d3 A.rH) (keepU (s2.free T.Ta) (s2.trans T.TH))) (keepU T.Fa A.at_.FH) (keepU T.Za A.at_.ZH) (keepU T.ga T.gH) A.at_.FZ (by rw [jn_r d3]; exact s2.free T.Ta) (Dis.jn d2.symm (Dis.sub s2 T.Tg)) (Dis.jn A.rF (Dis.sub s2 T.TF)) (Dis.jn A.rZ (Dis.sub s2 T.TZ)) T.gF T.Fa⟩

theorem At.rootTd (A : At K pn Z F Γ σ h H) (e : Γ[i]? = some (some (.td ks ts))) : ∃ a vs, σ[i]? = some (some (.ref a)) ∧ H a = some (.dK (ks.zip vs)) ∧ vs.length = ts.length := by
  obtain ⟨a, vs, hT, g, T⟩ := A.changeTd e
  exact ⟨a, vs, T.sl, T.at_, T.own.len⟩
def ElVD (σ : St) (H : Hp) (i k : Nat) (v : V) : Prop := ∃ a kv key, σ[i]? = some (some (.ref a)) ∧ H a = some (.dK kv) ∧ kv[k]? = some (key, v)
def elGD (Γ : Ga) (i k : Nat) : Option O := match Γ[i]? with
  | some (some (.td _ ts)) => ts[k]?
  | _ => none
theorem elGD_some {Γ : Ga} {i k : Nat} {o : O} (h : elGD Γ i k = some o) : ∃ ks ts, Γ[i]? = some (some (.td ks ts)) ∧ ts[k]? = some o := by
  unfold elGD at h
  split at h
  · rename_i ks ts e; exact ⟨ks, ts, e, h⟩
  · cases h
theorem zip_at {ks : List Key} {vs : List V} {k : Nat} {key : Key} {v : V} (h : (ks.zip vs)[k]? = some (key, v)) : vs[k]? = some v := (List.getElem?_zip_eq_some.mp h).2
def lED (K : PySem.W.Frag) (τ : EE) : TE := fun σ H QV => ∃ pn Z F Γ h Q, At K pn Z F Γ σ h H ∧ τ Γ Q ∧ ∀ F' Γ' h' H' i k v, Same F F' → At K pn Z F' Γ' σ h' H' → ElVD σ H' i k v → Q i k Γ' → QV v H'
/-- slot[key] -/
def kIx (ks : List Key) (k : Key) : Option Nat := ks.findIdx? fun x => decide (x = k)
def eElD (i : Nat) (key : Key) : EE := fun Γ Q => ∃ ks ts k, Γ[i]? = some (some (.td ks ts)) ∧ kIx ks key = some k ∧ k < ts.length ∧ Q i k Γ
theorem rep_elD (A : At K pn Z F Γ σ h H) (r : ElVD σ H i k v) (e : elGD Γ i k = some o) (e2 : elD o = some d) : RepS K F H d v := by
  obtain ⟨ks, ts, e1, e3⟩ := elGD_some e
  obtain ⟨a, vs, hT, g, T⟩ := A.changeTd e1
  obtain ⟨u, h1, a1, w1, sh, _⟩ := T.elem A e3
  obtain ⟨b, kv, key, r1, r2, r3⟩ := r
  have x := T.sl
  rw [r1] at x; cases x
  have y := T.at_
  rw [r2] at y; cases y
  rw [zip_at r3] at a1; cases a1
  cases o with
  | fz d' => cases e2; exact .inl (own_fz.mp w1).2
  | ls ds =>
    cases e2
    obtain ⟨c, us, rfl, rfl, q⟩ := own_ls.mp w1
    exact .inr ⟨c, us, ds, rfl, rfl, sh _ _ one_at, q⟩
  | dk _ => cases e2
  | rs _ => cases e2
  | tr _ => cases e2
  | td _ _ => cases e2
theorem valV_zip {ks : List Key} {vs : List V} {key : Key} {k : Nat} (h : kIx ks key = some k) (hk : k < vs.length) : valV (ks.zip vs) key = some vs[k] ∧ (ks.zip vs)[k]? = some (key, vs[k]) := by
  unfold kIx at h
  induction ks generalizing vs k with
  | nil => cases h
  | cons x ks ih =>
    cases vs with
    | nil => simp at hk
    | cons u vs =>
      rw [List.findIdx?_cons] at h
      unfold valV
      by_cases z : x = key
      · rw [if_pos (by simpa using z)] at h
        cases h
        subst z
        rw [List.zip_cons_cons, List.find?_cons_of_pos (by simp)]
        exact ⟨rfl, rfl⟩
      · rw [if_neg (by simpa using z)] at h
        cases e : ks.findIdx? (fun x => decide (x = key)) with
        | none => rw [e] at h; cases h
        | some j =>
          rw [e] at h
          cases h
          have hj : j < vs.length := by simpa using hk
          rw [List.zip_cons_cons, List.find?_cons_of_neg (by simpa using z)]
          exact ⟨(ih (vs := vs) (k := j) e hj).1, by rw [List.getElem?_cons_succ]; exact (ih (vs := vs) (k := j) e hj).2⟩
theorem kept_elD {hk H1 : Hp} {a : Addr} {kv : List (Key × V)} (w : Own K F o v hk) (s : Same hk H) (s1 : Same hk H1) (e : v = .ref a) (e1 : H a = some (.dK kv)) (et : o = .td ks ts) : H1 a = some (.dK kv) := by
  subst e; subst et
  obtain ⟨b, ws, h', e2, rfl, _, _⟩ := own_td.mp w
  cases e2
  have : H a = some (.dK (ks.zip ws)) := s _ _ (jn_l one_at)
  rw [e1] at this; cases this
  exact s1 _ _ (jn_l one_at)
end
section
variable {X : Cx} {e o idx : Expr} {es : List Expr} {τ τk τv : EX} {τe : EE} {τo : EO} {τs : EA} {p pos cpos apos : Pos} {id T : String} {cd : List PyData → (O → Prop) → Prop} {x : Str}
theorem ve_elD (i : Nat) (hu : X.A.units + 1 < cLine) (key : Str) {j : Nat} {kp : Pos} (ho : PE X o (tVar i)) : PE X (.Subscript o (.Constant (.str key) j kp) pos) (lED X.K (eElD i (.inr key))) :=
  pe_imp (pe_dget hu ho pe_str (by intro _ _; rfl)) fun σ H QV ⟨pn, Z, F, Γ, hh, Q, A, ⟨ks, ts, k, e0, e1, e2, q⟩, kq⟩ => by
    obtain ⟨a, vs, s0, hb, hl⟩ := A.rootTd e0
    obtain ⟨z1, z2⟩ := valV_zip e1 (vs := vs) (by omega)
    refine ⟨.ref a, s0, a, vs[k]'(by omega), rfl, ?_, kq F Γ hh H i k _ (Same.refl _) A ⟨a, _, _, s0, hb, z2⟩ q⟩
    rw [← z1]
    exact DGet.k (k := .inr key) hb
/-! calls with a part -/
def eCBD (cd : List PyData → (O → Prop) → Prop) (τe : EE) : EO := fun Γ Q => τe Γ fun i k Γ1 => ∃ o d, elGD Γ1 i k = some o ∧ elD o = some d ∧ cd [d] fun o => Q o Γ1
theorem cbd_read {σ : St} {H : Hp} {QV : VK} (h : lO X.K (eCBD cd τe) σ H QV) : lED X.K τe σ H fun v H1 => ∃ F ds Q, Same F H1 ∧ RepL X.K F H1 ds [v] ∧ cd ds Q ∧ OpPost X.K F H1 Q QV := by
  obtain ⟨pn, Z, F, Γ, hh, Q, A, q, kk⟩ := h
  exact ⟨pn, Z, F, Γ, hh, _, A, q, fun F1 Γ1 h1 H1 i k v s1 A1 r1 ⟨o, d, e1, e2, q1⟩ => ⟨F1, [d], _, A1.FH, .cons (rep_elD A1 r1 e1 e2) .nil, q1, A1.post s1 kk⟩⟩
theorem vo_cbD (hc : CallD X (.builtin id) cd) (hg : Gl X x) (hm : X.mg x = none) (hv : bootBuiltins x = some (.builtin id)) (he : PE X e (lED X.K τe)) (hn : x ≠ "__name__" := by decide) (hdb : (x == ("__debug__" : Str)) = false := by decide)
    (hs : starEach [e] X.env = (false, eval e X.env) :: starEach [] X.env := by rfl) : PE X (.Call (.Name x p) [e] [] pos) (lO X.K (eCBD cd τe)) :=
  pe_imp (pe_callB hc hg hm hv (pa_cons he pa_nil hs) hn hdb hs rfl) fun σ H QV h => cbd_read h
theorem vo_ctyD (hc : CallD X (.type T) cd) (hg : Gl X x) (hm : X.mg x = none) (hv : bootBuiltins x = some (.type T)) (he : PE X e (lED X.K τe)) (hn : x ≠ "__name__" := by decide) (hdb : (x == ("__debug__" : Str)) = false := by decide)
    (hs : starEach [e] X.env = (false, eval e X.env) :: starEach [] X.env := by rfl) : PE X (.Call (.Name x p) [e] [] pos) (lO X.K (eCBD cd τe)) :=
  pe_imp (pe_callTy hc hg hm hv (pa_cons he pa_nil hs) hn hdb hs rfl) fun σ H QV h => cbd_read h
/-! truth of a part -/
def tTruDE (τe : EE) : ET := fun Γ Q => τe Γ fun i k Γ1 => ∃ o d c, elGD Γ1 i k = some o ∧ elD o = some d ∧ truD d = some c ∧ Q c Γ1
theorem vt_truDE (h : PE X e (lED X.K τe)) (he : ∀ whole, isTrue e X.env whole = (do let v ← whole; standAt e.pos; holding [v] (truthy v)) := by intro _; rfl) : PT X e (lT X.K (tTruDE τe)) :=
  pt_imp (pt_truth h he) fun σ H QV ⟨pn, Z, F, Γ, hh, Q, A, q, kk⟩ => ⟨pn, Z, F, Γ, hh, _, A, q, fun F1 Γ1 h1 H1 i k v s1 A1 r1 ⟨o, d, c, e1, e2, e3, q1⟩ => ⟨c, tru_of A1.FH (rep_elD A1 r1 e1 e2) e3, kk F1 Γ1 h1 H1 c s1 A1 q1⟩⟩
/-! a frozen part read -/
def xElD (τe : EE) : EX := fun Γ Q => τe Γ fun i k Γ1 => ∃ d, elGD Γ1 i k = some (.fz d) ∧ Q (.d d) Γ1
theorem vx_elD (h : PE X e (lED X.K τe)) : PE X e (lX X.K (xElD τe)) := pe_imp h fun σ H QV ⟨pn, Z, F, Γ, hh, Q, A, q, kk⟩ => ⟨pn, Z, F, Γ, hh, _, A, q, fun F1 Γ1 h1 H1 i k v s1 A1 r1 ⟨d, e1, q1⟩ => by
  obtain ⟨ks, ts, e2, e3⟩ := elGD_some e1
  obtain ⟨a, vs, hT, g, T⟩ := A1.changeTd e2
  obtain ⟨u, g1, a1, w1, sh, _⟩ := T.elem A1 e3
  obtain ⟨b, kv, key, r1, r2, r3⟩ := r1
  have x := T.sl
  rw [r1] at x; cases x
  have y := T.at_
  rw [r2] at y; cases y
  rw [zip_at r3] at a1; cases a1
  exact kk F1 Γ1 h1 H1 (.d d) _ s1 A1 (own_fz.mp w1).2 q1⟩
/-! slot[key][j] -/
def eIxD (op : PyData → PyData → (O → Prop) → Prop) (τe : EE) (τ : EX) : EO := fun Γ Q => τe Γ fun i k Γ1 => ∃ o1 ks ts Γ2, o1 = .td ks ts ∧ Γ1[i]? = some (some o1) ∧ setG Γ1 i none = some Γ2 ∧ τ Γ2 fun a Γ3 => ∃ el d1 d2 Γ4, rslv Γ3 a = some d2 ∧ ts[k]? = some el ∧ elD el = some d1 ∧ setG Γ3 i (some o1) = some Γ4 ∧ op d1 d2 fun o => Q o Γ4
theorem vo_ixD {opd : PyData → PyData → (O → Prop) → Prop} (ho : Ix2 X opd) (he : PE X e (lED X.K τe)) (hb : PE X idx (lX X.K τ)) (hs : PlainIx idx := by intro _ _; rfl) : PE X (.Subscript e idx pos) (lO X.K (eIxD opd τe τ)) :=
  pe_imp (pe_ix ho he hb hs) fun σ H QV ⟨pn, Z, F, Γ, hh, Q, A, q, kk⟩ => ⟨pn, Z, F, Γ, hh, _, A, q, fun F1 Γ1 h1 H1 i k v s1 A1 r1 ⟨o1, ks, ts, Γ2, et, e1, e2, q1⟩ => by
    subst et
    obtain ⟨u, g1, hk, su, A2, w, dz⟩ := A1.lock e1 e2
    obtain ⟨a, kv, key, r1, r2, r3⟩ := r1
    refine ⟨pn, _, F1, Γ2, g1, _, A2, q1, fun F3 Γ3 h3 H3 av y s3 A3 r4 ⟨el, d1, d2, Γ4, e3, e4, e5, e6, q2⟩ => ?_⟩
    have ry := rep_of A3 r4 e3
    rw [r1] at su; cases su
    have e8 : H3 a = some (.dK kv) := kept_elD w (fun x o z => A2.ZH _ _ (same_r dz _ _ z)) (fun x o z => A3.ZH _ _ (same_r dz _ _ z)) rfl r2 rfl
    obtain ⟨h5, A5⟩ := A3.unlock dz s3 w r1 e6
    have eG : elGD Γ4 i k = some el := by
      unfold elGD
      obtain ⟨x1, x2⟩ := setG_eq e6
      rw [← x1, List.getElem?_set_self x2]
      exact e4
    exact ⟨F3, d1, d2, _, A5.FH, rep_elD A5 ⟨a, kv, key, r1, e8, r3⟩ eG e5, ry, q2, A5.post (s1.trans s3) kk⟩⟩
/-! methods of a part -/
def eSMD (sm : SM) (τe : EE) (τs : EA) : EO := fun Γ Q => τe Γ fun i k Γ1 => ∃ o1 ks ts Γ2 ds, o1 = .td ks ts ∧ Γ1[i]? = some (some o1) ∧ setG Γ1 i none = some Γ2 ∧ ts[k]? = some (.ls ds) ∧ τs Γ2 fun as Γ3 => ∃ ads Γ4, unD as = some ads ∧ setG Γ3 i (some o1) = some Γ4 ∧ sm ds ads fun ds' d => ∃ Γ5, setG Γ4 i (some (.td ks (ts.set k (.ls ds')))) = some Γ5 ∧ Q (.fz d) Γ5
def eSMD0 (sm : SM) (τe : EE) : EO := fun Γ Q => τe Γ fun i k Γ1 => ∃ ks ts ds, Γ1[i]? = some (some (.td ks ts)) ∧ ts[k]? = some (.ls ds) ∧ sm ds [] fun ds' d => ∃ Γ5, setG Γ1 i (some (.td ks (ts.set k (.ls ds')))) = some Γ5 ∧ Q (.fz d) Γ5
theorem vo_smD {name : Str} {sm : SM} (slot : Slot "list" name id) (hty : typeOf (.builtin id) = pure (.type "method_descriptor")) (hm : SlotM X id sm) (ho : PE X o (lED X.K τe)) (ha : PA X (e :: es) (lA X.K τs))
    (hbase : attributeBase o name X.env (eval o X.env) = eval o X.env := by rfl)
    (hfew : ((backTo cpos (starEach (e :: es) X.env)).all (fun x => !x.1) && (backToKw cpos (keywordEach [] X.env)).all (fun x => x.1.isSome)
      && decide ((e :: es).length + ([] : List Keyword).length + (if ([] : List Keyword).isEmpty then 0 else 1) < 30)) = true := by rfl)
    (hline : (apos.endLine == cpos.line) = true := by rfl) (hs : starEach (e :: es) X.env = (false, eval e X.env) :: starEach es X.env := by rfl) (hplain : (backTo cpos (starEach es X.env)).any (·.1) = false := by rfl) :
    PE X (.Call (.Attribute o name apos) (e :: es) [] cpos) (lO X.K (eSMD sm τe τs)) :=
  pe_imp (pe_bm PySem.F.plainAttrs_list slot hty hm ho ha hbase hfew hline hs hplain) fun σ H QV ⟨pn, Z, F, Γ, hh, Q, A, q, kk⟩ => ⟨pn, Z, F, Γ, hh, _, A, q, fun F1 Γ1 h1 H1 i k v s1 A1 r1 ⟨o1, ks, ts, Γ2, ds, et, e1, e2, e3, q1⟩ => by
    subst et
    obtain ⟨a, kv, key, r1, r2, r3⟩ := r1
    obtain ⟨a', vs', b, ws, b1, b2, b3, b4, _, _⟩ := A1.changeEd e1 e3
    rw [r1] at b1; cases b1
    rw [r2] at b2; cases b2
    rw [zip_at r3] at b3; cases b3
    refine ⟨.inl ⟨rfl, ws, SqL.of b4⟩, ?_⟩
    obtain ⟨u, g1, hk, su, A2, w, dz⟩ := A1.lock e1 e2
    refine ⟨pn, _, F1, Γ2, g1, _, A2, q1, fun F3 Γ3 h3 H3 as xs s3 A3 r4 ⟨ads, Γ4, e4, e6, q2⟩ => ?_⟩
    rw [r1] at su; cases su
    have e8 : H3 a = some (.dK (ks.zip vs')) := kept_elD w (fun x o z => A2.ZH _ _ (same_r dz _ _ z)) (fun x o z => A3.ZH _ _ (same_r dz _ _ z)) rfl r2 rfl
    obtain ⟨h5, A5⟩ := A3.unlock dz s3 w r1 e6
    have eG : Γ4[i]? = some (some (.td ks ts)) := by
      obtain ⟨x1, x2⟩ := setG_eq e6
      rw [← x1, List.getElem?_set_self x2]
    obtain ⟨a', vs2, b', ws', c1, c2, c3, c4, c5, put⟩ := A5.changeEd eG e3
    rw [r1] at c1; cases c1
    rw [e8] at c2
    have c2 : ks.zip vs' = ks.zip vs2 := by injection c2 with c2; injection c2
    rw [c2] at r3
    rw [zip_at r3] at c3; cases c3
    rw [unD_eq e4] at r4
    refine ⟨F3, b, ws', ds, ads, _, rfl, c4, A5.FH, c5, args_d r4, q2, fun vs2 ds2 v2 d2 rr rd ⟨Γ5, eΓ, q3⟩ => ?_⟩
    obtain ⟨h6, A6⟩ := put vs2 ds2 rr
    rw [(setG_eq eΓ).1] at A6
    exact kk F3 _ h6 emp _ (.fz d2) v2 (s1.trans s3) A6.alone ⟨rfl, rd⟩ q3⟩
theorem vo_smD0 {name : Str} {sm : SM} (slot : Slot "list" name id) (hty : typeOf (.builtin id) = pure (.type "method_descriptor")) (hm : SlotM X id sm) (ho : PE X o (lED X.K τe))
    (hbase : attributeBase o name X.env (eval o X.env) = eval o X.env := by rfl) (hline : (apos.endLine == cpos.line) = true := by rfl) :
    PE X (.Call (.Attribute o name apos) [] [] cpos) (lO X.K (eSMD0 sm τe)) :=
  pe_imp (pe_bm0 PySem.F.plainAttrs_list slot hty hm ho hbase hline) fun σ H QV ⟨pn, Z, F, Γ, hh, Q, A, q, kk⟩ => ⟨pn, Z, F, Γ, hh, _, A, q, fun F1 Γ1 h1 H1 i k v s1 A1 r1 ⟨ks, ts, ds, e1, e3, q2⟩ => by
    obtain ⟨a, kv, key, r1, r2, r3⟩ := r1
    obtain ⟨a', vs', b, ws, b1, b2, b3, b4, b5, put⟩ := A1.changeEd e1 e3
    rw [r1] at b1; cases b1
    rw [r2] at b2; cases b2
    rw [zip_at r3] at b3; cases b3
    refine ⟨.inl ⟨rfl, ws, SqL.of b4⟩, ?_⟩
    refine ⟨F1, b, ws, ds, [], _, rfl, b4, A1.FH, b5, .nil, q2, fun vs2 ds2 v2 d2 rr rd ⟨Γ5, eΓ, q3⟩ => ?_⟩
    obtain ⟨h6, A6⟩ := put vs2 ds2 rr
    rw [(setG_eq eΓ).1] at A6
    exact kk F1 _ h6 emp _ (.fz d2) v2 s1 A6.alone ⟨rfl, rd⟩ q3⟩
/-! slot[key] = v -/
theorem putK_zip {ks : List Key} {vs : List V} {key : Key} {k : Nat} {v : V} (h : kIx ks key = some k) (nd : ks.Nodup) (hl : k < vs.length) : putK (ks.zip vs) key v = ks.zip (vs.set k v) := by
  have map_eq : ∀ (ks : List Key) (vs : List V) (k : Nat), kIx ks key = some k → ks.Nodup → k < vs.length → ((ks.zip vs).map fun p => if p.1 = key then (p.1, v) else p) = ks.zip (vs.set k v) := by
    intro ks
    induction ks with
    | nil => intro vs k h; cases h
    | cons x ks ih =>
      intro vs k h nd hl
      unfold kIx at h ih
      obtain ⟨n1, n2⟩ := List.nodup_cons.mp nd
      cases vs with
      | nil => simp at hl
      | cons u vs =>
        rw [List.findIdx?_cons] at h
        by_cases z : x = key
        · rw [if_pos (by simpa using z)] at h
          cases h
          subst z
          rw [List.zip_cons_cons, List.map_cons, if_pos rfl, List.set_cons_zero, List.zip_cons_cons]
          congr 1
          have hc : ∀ p ∈ ks.zip vs, (if p.1 = x then (p.1, v) else p) = id p := fun p hp => if_neg fun e => n1 (by rw [← e]; exact (List.of_mem_zip (show (p.1, p.2) ∈ ks.zip vs from hp)).1)
          exact (List.map_congr_left hc).trans (List.map_id _)
        · rw [if_neg (by simpa using z)] at h
          cases e : ks.findIdx? (fun x => decide (x = key)) with
          | none => rw [e] at h; cases h
          | some j =>
            rw [e] at h
            cases h
            have hj : j < vs.length := by simpa using hl
            rw [List.zip_cons_cons, List.map_cons, if_neg z, List.set_cons_succ, List.zip_cons_cons]
            congr 1
            exact ih vs j e n2 hj
  unfold putK
  rw [if_pos ?_]
  · exact map_eq ks vs k h nd hl
  · obtain ⟨_, z⟩ := valV_zip h hl
    exact List.any_eq_true.mpr ⟨_, List.mem_of_getElem? z, by simp⟩
def sPutD (i : Nat) (key : Key) (τv : EO) : ES := fun D Γ => τv Γ fun o Γ1 => ∃ ks ts k Γ2, Γ1[i]? = some (some (.td ks ts)) ∧ kIx ks key = some k ∧ ks.Nodup ∧ k < ts.length ∧ ks.length < sizeLine ∧ setG Γ1 i (some (.td ks (ts.set k o))) = some Γ2 ∧ D.nx Γ2
theorem vs_putD {io : Bool} {spos : Pos} (i : Nat) (hu : X.A.units + 1 < cLine) (key : Str) {j : Nat} {kp : Pos} (ho : PE X o (tVar i)) (hv : PE X e (lO X.K τo)) (hs : swapsWith e (some (.Subscript o (.Constant (.str key) j kp) pos)) spos.line X.env = pure false := by rfl) :
    PS X (.Assign [.Subscript o (.Constant (.str key) j kp) pos] e spos) (lS X.K io (sPutD i (.inr key) τo)) :=
  ps_imp (ps_dput hu ho pe_str hv hs) fun D σ H ⟨v0, Z, F, Γ, h, DD, A, q, kq⟩ => ⟨_, Z, F, Γ, h, _, A, q, fun F1 Γ1 h1 hr1 H1 o v s1 A1 w1 ⟨ks, ts, k, Γ2, e0, e1, e2, e3, e4, e5, q1⟩ => by
    obtain ⟨a, vs, sa, hb, hl, h', A2⟩ := A1.putTd w1 e0 e3
    rw [(setG_eq e5).1] at A2
    refine ⟨.ref a, sa, a, _, rfl, DPut.k (k := .inr key) hb (by rw [List.length_zip]; omega), kq.nx F1 Γ2 σ h' _ s1 ?_ q1⟩
    rw [putK_zip e1 e2 (by omega)]
    exact A2⟩
end
end VL
end
section
namespace VL
open PySem PySem.Spec L2
/-! ### {'k': v, ..}: a new dict of owned parts -/
theorem mergeK_new : ∀ (more kvs : List (Key × V)), (kvs.map (·.1) ++ more.map (·.1)).Nodup → mergeK kvs more = kvs ++ more
  | [], kvs, _ => by simp [mergeK]
  | p :: r, kvs, nd => by
    show mergeK (putK kvs p.1 p.2) r = _
    have e : putK kvs p.1 p.2 = kvs ++ [p] := by
      unfold putK
      rw [if_neg]
      intro h
      obtain ⟨q, hq, eq⟩ := List.any_eq_true.mp h
      have eq := of_decide_eq_true eq
      exact (List.nodup_append.mp nd).2.2 q.1 (List.mem_map.mpr ⟨q, hq, rfl⟩) p.1 (by simp) eq
    rw [e, mergeK_new r (kvs ++ [p]) (by rw [List.map_append, List.append_assoc]; exact nd), List.append_assoc]
    rfl
section
variable {X : Cx} {pos : Pos}
/-- the values of a display, keys known -/
structure PPo (X : Cx) (pos : Pos) (ks : List Key) (keys : List (Option Expr)) (vals : List Expr) (τs : EAO) : Prop where
  ex : ∃ trs : List (TE × TE), PPs X pos keys vals trs ∧ ∀ σ H (Q : List (V × V) → Hp → Prop), lAO X.K τs σ H (fun vs H' => vs.length = ks.length → Q ((ks.zip vs).map fun kv => (kV kv.1, kv.2)) H') → tPairs trs σ H Q
theorem ppo_nil : PPo X pos [] [] [] aoNil := ⟨[], pps_nil, fun σ H Q ⟨pn, Z, F, Γ, hh, QA, A, q, k⟩ => k F Γ hh emp H [] [] (Same.refl _) A.alone (ownT_nil.mpr ⟨rfl, rfl⟩) q rfl⟩
theorem ppo_cons {key : Str} {j : Nat} {kp : Pos} {e : Expr} {ks : List Key} {keys : List (Option Expr)} {vals : List Expr} {τo : EO} {τs : EAO} (ha : PE X e (lO X.K τo)) (hr : PPo X pos ks keys vals τs) :
    PPo X pos (.inr key :: ks) (some (.Constant (.str key) j kp) :: keys) (e :: vals) (aoCons τo τs) := by
  obtain ⟨trs, ok, run⟩ := hr.ex
  refine ⟨(tC (.str key), fun σ H Q => lO X.K τo σ H Q) :: trs, pps_cons pe_str ha ok, fun σ H Q ⟨pn, Z, F, Γ, hh, QA, A, q, k⟩ => ?_⟩
  refine ⟨pn, Z, F, Γ, hh, _, A, q, fun F1 Γ1 h1 hr1 H1 o v s1 A1 w1 q1 => ?_⟩
  refine run σ H1 _ ⟨pn, jn Z hr1, F1, Γ1, h1, _, A1.keep, q1, fun F2 Γ2 h2 hr2 H2 os vs s2 A2 w2 q2 hl => ?_⟩
  obtain ⟨B, d⟩ := A2.both A1.rZ.symm
  exact k F2 Γ2 h2 _ H2 (o :: os) (v :: vs) (s1.trans s2) B (ownT_cons.mpr ⟨v, vs, hr1, hr2, rfl, rfl, d, w1.mono s2, w2⟩) q2 (by simp [hl])
def eTdL (ks : List Key) (τs : EAO) : EO := fun Γ Q => τs Γ fun os Γ1 => ks.Nodup ∧ ks.length ≤ 15 ∧ Q (.td ks os) Γ1
theorem vo_tdL {keys : List (Option Expr)} {vals : List Expr} {ks : List Key} {τs : EAO} (h : PPo X pos ks keys vals τs) (hall : keys.all (·.isSome) = true := by rfl) (hl : keys.length = vals.length := by rfl) (h0 : keys ≠ [] := by intro z; cases z) (h15 : keys.length ≤ 15 := by decide) :
    PE X (.Dict keys vals pos) (lO X.K (eTdL ks τs)) := by
  obtain ⟨trs, ok, run⟩ := h.ex
  refine pe_imp (pe_disp ok hall hl h0 h15) fun σ H QV ⟨pn, Z, F, Γ, hh, QA, A, q, k⟩ p n => ?_
  have A0 : AtR X.K pn Z F Γ σ hh (VL.one p (.dK [])) (upd H p (.dK [])) := by
    have g := Grow.stay (H' := upd H p (.dK [])) A.FH (same_new n)
    exact A.beside g (same_one upd_same) (dis_one (A.FH.free n)) fun x z => by
      by_cases e : x = p
      · subst e; exact n
      · rw [one_ne e] at z; exact absurd rfl z
  refine run σ _ _ ⟨pn, _, F, Γ, hh, _, A0.keep, q, fun F1 Γ1 h1 hr1 H1 os vs s1 A1 w1 ⟨nd, l15, q1⟩ hlen => ?_⟩
  obtain ⟨B, d⟩ := A1.both A0.rZ.symm
  have hp : H1 p = some (.dK []) := A1.at_.ZH _ _ (same_r A0.rZ.symm _ _ one_at)
  have kk : ((ks.zip vs).map (·.1)).Nodup := by rw [List.map_fst_zip (by omega)]; exact nd
  refine ⟨hp, ks.zip vs, rfl, by rw [List.length_zip]; omega, ?_⟩
  rw [mergeK_new _ [] (by simpa using kk), List.nil_append]
  have dp : hr1 p = none := of_dis_one d
  have C : AtR X.K pn Z F1 Γ1 σ h1 (jn (VL.one p (.dK (ks.zip vs))) hr1) (upd H1 p (.dK (ks.zip vs))) := by
    have s1 : Same (VL.one p (.dK [])) (jn (VL.one p (.dK [])) hr1) := same_l
    have s2 : Same hr1 (jn (VL.one p (.dK [])) hr1) := same_r d
    have ph : h1 p = none := of_dis_one (Dis.sub s1 B.rh)
    have pF : F1 p = none := of_dis_one (Dis.sub s1 B.rF)
    have pZ : Z p = none := of_dis_one (Dis.sub s1 B.rZ)
    exact ⟨⟨B.at_.own, keepU ph B.at_.hH, keepU pF B.at_.FH, keepU pZ B.at_.ZH, B.at_.FZ, B.at_.hF, B.at_.hZ, B.at_.pin⟩, same_jn (same_one upd_same) (keepU dp (s2.trans B.rH)), Dis.jn (dis_one ph) (Dis.sub s2 B.rh), Dis.jn (dis_one pF) (Dis.sub s2 B.rF), Dis.jn (dis_one pZ) (Dis.sub s2 B.rZ)⟩
  exact k F1 Γ1 h1 _ _ (.td ks os) (.ref p) s1 C (own_td.mpr ⟨p, vs, hr1, rfl, rfl, dis_one dp, w1⟩) q1
/-! ints: or -/
def opOrI : PyData → PyData → (O → Prop) → Prop
  | .int i, .int j, Q => Q (.fz (.int (Builtin.bitOr i j)))
  | _, _, _ => False
theorem o2_or : Op2 X (binaryOp .BitOr) opOrI := by
  intro pins s σ H x y v u QV I rx ry ⟨F, d1, d2, Q, sF, r1, r2, h, post⟩
  unfold opOrI at h
  split at h
  · cases r1.int; cases r2.int
    exact op_or pins s σ H _ _ v u QV I rx ry ⟨_, _, rfl, rfl, post.val sF (.int _) h⟩
  · exact h.elim
/-! x += n, x -= n, an int -/
def sAugI (f : Int → Int → Int) (i : Nat) (τ : EX) : ES := fun D Γ => (∃ n : Int, Γ[i]? = some (some (.fz (.int n)))) ∧ τ Γ fun a Γ1 => ∃ n m : Int, Γ1[i]? = some (some (.fz (.int n))) ∧ rslv Γ1 a = some (.int m) ∧ ∃ Γ2, setG Γ1 i (some (.fz (.int (f n m)))) = some Γ2 ∧ D.nx Γ2
theorem vs_augI {io : Bool} {i : Nat} {x : Str} {e : Expr} {op : Operator} {f : Int → Int → Int} {τ : EX} {pos' pos : Pos} (hN : X.N.Nodup) (hi : X.N[i]? = some x) (hx : Loc X.env.scope x) (h0 : io = true → i ≠ 0) (ho : PIp X op (ipI f)) (he : PE X e (lX X.K τ))
    (hf : X.fn x = true ∨ X.env.scope.names.lookup x = some .local := by first | exact .inl rfl | exact .inr rfl | assumption) : PS X (.AugAssign (.Name x pos') op e pos) (lS X.K io (sAugI f i τ)) :=
  ps_imp (ps_aug hN hi hx he ho hf) fun D σ H ⟨v0, Z, F, Γ, h, DD, A, ⟨⟨n0, e0⟩, q⟩, k⟩ => by
    obtain ⟨u, g1, s1, w, _⟩ := A.slot e0
    have eu := rp_int (own_fz.mp w).2
    subst eu
    refine ⟨_, s1, pns io v0, Z, F, Γ, h, _, A, q, fun F1 Γ1 h1 H1 a v sF A1 r1 ⟨n, m, e1, e2, Γ2, e3, q1⟩ => ?_⟩
    have ev := (rep_of A1 r1 e2).int
    subst ev
    obtain ⟨u, g2, s2, w2, _⟩ := A1.slot e1
    have eu := rp_int (own_fz.mp w2).2
    subst eu
    rw [s1] at s2
    have e4 : n0 = n := by injection s2 with s2; injection s2 with s2; injection s2
    subst e4
    refine ⟨n0, m, rfl, rfl, ?_⟩
    obtain ⟨e5, hl⟩ := setG_eq e3
    obtain ⟨h2, A2⟩ := A1.alone.store (own_fz.mpr ⟨rfl, .int (f n0 m)⟩) hl (pns_ne h0)
    rw [e5] at A2
    exact k.nx F1 _ _ h2 H1 sF A2 q1
/-! xs.index(x) -/
def opIndex : PyData → PyData → (O → Prop) → Prop
  | .list ds, d, Q => shaped (.list ds) ∧ shaped d ∧ ∃ (j : Nat) (z : PyData), ds[j]? = some z ∧ PyData.eqv z d = true ∧ (∀ (m : Nat) (z' : PyData), m < j → ds[m]? = some z' → PyData.eqv z' d = false) ∧ Q (.fz (.int (j : Nat)))
  | _, _, _ => False
def eIdx (τo τ : EX) : EO := fun Γ Q => τo Γ fun a1 Γ1 => (∃ ds, rslv Γ1 a1 = some (.list ds)) ∧ τ Γ1 fun a2 Γ2 => ∃ d1 d2, rslv Γ2 a1 = some d1 ∧ rslv Γ2 a2 = some d2 ∧ opIndex d1 d2 fun o => Q o Γ2
theorem vo_index {o e : Expr} {τo τ : EX} {apos cpos : Pos} (hu : X.A.units + 65 < cLine) (ho : PE X o (lX X.K τo)) (ha : PE X e (lX X.K τ))
    (hbase : attributeBase o "index" X.env (eval o X.env) = eval o X.env := by rfl)
    (hfew : ((backTo cpos (starEach [e] X.env)).all (fun x => !x.1) && (backToKw cpos (keywordEach [] X.env)).all (fun x => x.1.isSome)
      && decide ([e].length + ([] : List Keyword).length + (if ([] : List Keyword).isEmpty then 0 else 1) < 30)) = true := by rfl)
    (hline : (apos.endLine == cpos.line) = true := by rfl) (hs : starEach [e] X.env = (false, eval e X.env) :: starEach [] X.env := by rfl) (hplain : (backTo cpos (starEach [] X.env)).any (·.1) = false := by rfl) :
    PE X (.Call (.Attribute o "index" apos) [e] [] cpos) (lO X.K (eIdx τo τ)) :=
  pe_imp (pe_bm PySem.F.plainAttrs_list PySem.F.slot_list_index PySem.F.type_list_index (mt_indexD hu) ho (pa_cons ha pa_nil hs) hbase hfew hline hs hplain) fun σ H QV ⟨pn, Z, F, Γ, hh, Q, A, q, kk⟩ => ⟨pn, Z, F, Γ, hh, _, A, q, fun F1 Γ1 h1 H1 a v s1 A1 r1 ⟨⟨ds0, e0⟩, q1⟩ => by
    have rr := rep_of A1 r1 e0
    obtain ⟨b, vs, eb, hb, rb⟩ := rr.list A1.FH
    subst eb
    refine ⟨.inl ⟨rfl, vs, SqL.of hb⟩, pn, Z, F1, Γ1, h1, _, A1, q1, fun F2 Γ2 h2 H2 a2 y s2 A2 r2 ⟨d1, d2, e1, e2, q2⟩ => ?_⟩
    have x1 := rep_of A2 (r1.mono s2) e1
    have x2 := rep_of A2 r2 e2
    cases d1 with
    | list ds =>
      obtain ⟨c1, c2, j, z, hz, hzj, hno, q3⟩ := q2
      exact ⟨b, y, _, ds, j, z, rfl, rfl, x1.dpH A2.FH c1, x2.dpH A2.FH c2, c1, c2, hz, hzj, hno, kk F2 Γ2 h2 emp H2 (.fz (.int (j : Nat))) _ (s1.trans s2) A2.alone (own_fz.mpr ⟨rfl, .int _⟩) q3⟩
    | _ => exact q2.elim⟩
/-! xs[::-1] -/
def eRev (τ : EX) : EO := fun Γ Q => τ Γ fun a Γ1 => ∃ ds, rslv Γ1 a = some (.list ds) ∧ Q (.ls ds.reverse) Γ1
theorem rpAll_rev {K : PySem.W.Frag} {F : Hp} : ∀ {vs : List V} {ds : List PyData}, RpAll K F vs ds → RpAll K F vs.reverse ds.reverse
  | _, _, .nil => .nil
  | _, _, .cons r t => by rw [List.reverse_cons, List.reverse_cons]; exact (rpAll_rev t).append (.cons r .nil)
theorem vo_rev {e : Expr} {τ : EX} {k : Nat} {p1 p2 p3 pos : Pos} (he : PE X e (lX X.K τ)) : PE X (.Subscript e (.Slice none none (some (.UnaryOp .USub (.Constant (.int 1) k p1) p2)) p3) pos) (lO X.K (eRev τ)) :=
  pe_imp (pe_revL he) fun σ H QV ⟨pn, Z, F, Γ, hh, Q, A, q, kk⟩ => ⟨pn, Z, F, Γ, hh, _, A, q, fun F1 Γ1 h1 H1 a v s1 A1 r1 ⟨ds, e1, q1⟩ => by
    obtain ⟨b, vs, eb, hb, rb⟩ := (rep_of A1 r1 e1).list A1.FH
    subst eb
    refine ⟨b, vs, rfl, SqL.of hb, fun p n => ?_⟩
    exact (A1.post s1 kk).newL A1.FH n (rpAll_rev rb) q1⟩
end
end VL
end
section
namespace VL
open PySem PySem.Spec L2
section
variable {Γ Γ1 : Ga} {i k : Nat} {ks : List Key} {ts : List O} {key : Key} {QE : Nat → Nat → Ga → Prop} {te : EE} {τ : EX} {QX : Av → Ga → Prop} {Q : O → Ga → Prop} {QT : Bool → Ga → Prop} {D : En} {to : EO} {τs : EA} {tos : EAO}
theorem st_augI {f : Int → Int → Int} {n : Int} (e : Γ[i]? = some (some (.fz (.int n)))) (h : τ Γ fun a Γ1 => ∃ n m : Int, Γ1[i]? = some (some (.fz (.int n))) ∧ rslv Γ1 a = some (.int m) ∧ ∃ Γ2, setG Γ1 i (some (.fz (.int (f n m)))) = some Γ2 ∧ D.nx Γ2) : sAugI f i τ D Γ := ⟨⟨n, e⟩, h⟩
theorem st_elD (he : Γ[i]? = some (some (.td ks ts))) (hk : kIx ks key = some k) (hl : k < ts.length) (h : QE i k Γ) : eElD i key Γ QE := ⟨ks, ts, k, he, hk, hl, h⟩
theorem st_xelD (h : te Γ fun i k Γ1 => ∃ d, elGD Γ1 i k = some (.fz d) ∧ QX (.d d) Γ1) : xElD te Γ QX := h
theorem st_cbd {cd : List PyData → (O → Prop) → Prop} (h : te Γ fun i k Γ1 => ∃ o d, elGD Γ1 i k = some o ∧ elD o = some d ∧ cd [d] fun o => Q o Γ1) : eCBD cd te Γ Q := h
theorem st_truDE (h : te Γ fun i k Γ1 => ∃ o d c, elGD Γ1 i k = some o ∧ elD o = some d ∧ truD d = some c ∧ QT c Γ1) : tTruDE te Γ QT := h
theorem st_ixD' {op : PyData → PyData → (O → Prop) → Prop} (h : te Γ fun i k Γ1 => ∃ o1 ks ts Γ2, o1 = .td ks ts ∧ Γ1[i]? = some (some o1) ∧ setG Γ1 i none = some Γ2 ∧ τ Γ2 fun a Γ3 => ∃ el d1 d2 Γ4, rslv Γ3 a = some d2 ∧ ts[k]? = some el ∧ elD el = some d1 ∧ setG Γ3 i (some o1) = some Γ4 ∧ op d1 d2 fun o => Q o Γ4) : eIxD op te τ Γ Q := h
theorem st_smd {sm : SM} (h : te Γ fun i k Γ1 => ∃ o1 ks ts Γ2 ds, o1 = .td ks ts ∧ Γ1[i]? = some (some o1) ∧ setG Γ1 i none = some Γ2 ∧ ts[k]? = some (.ls ds) ∧ τs Γ2 fun as Γ3 => ∃ ads Γ4, unD as = some ads ∧ setG Γ3 i (some o1) = some Γ4 ∧ sm ds ads fun ds' d => ∃ Γ5, setG Γ4 i (some (.td ks (ts.set k (.ls ds')))) = some Γ5 ∧ Q (.fz d) Γ5) : eSMD sm te τs Γ Q := h
theorem st_smd0 {sm : SM} (h : te Γ fun i k Γ1 => ∃ ks ts ds, Γ1[i]? = some (some (.td ks ts)) ∧ ts[k]? = some (.ls ds) ∧ sm ds [] fun ds' d => ∃ Γ5, setG Γ1 i (some (.td ks (ts.set k (.ls ds')))) = some Γ5 ∧ Q (.fz d) Γ5) : eSMD0 sm te Γ Q := h
theorem st_putD (h : to Γ fun o Γ1 => ∃ ks ts k Γ2, Γ1[i]? = some (some (.td ks ts)) ∧ kIx ks key = some k ∧ ks.Nodup ∧ k < ts.length ∧ ks.length < sizeLine ∧ setG Γ1 i (some (.td ks (ts.set k o))) = some Γ2 ∧ D.nx Γ2) : sPutD i key to D Γ := h
theorem st_tdl (h : tos Γ fun os Γ1 => ks.Nodup ∧ ks.length ≤ 15 ∧ Q (.td ks os) Γ1) : eTdL ks tos Γ Q := h
theorem st_idx {τo : EX} (h : τo Γ fun a1 Γ1 => (∃ ds, rslv Γ1 a1 = some (.list ds)) ∧ τ Γ1 fun a2 Γ2 => ∃ d1 d2, rslv Γ2 a1 = some d1 ∧ rslv Γ2 a2 = some d2 ∧ opIndex d1 d2 fun o => Q o Γ2) : eIdx τo τ Γ Q := h
theorem st_rev (h : τ Γ fun a Γ1 => ∃ ds, rslv Γ1 a = some (.list ds) ∧ Q (.ls ds.reverse) Γ1) : eRev τ Γ Q := h
end
theorem cut_upto {α : Type} (xs : List α) (k : Nat) : cutL xs none (some ((k : Nat) : Int)) = xs.take k := by
  unfold cutL
  rw [HT.sIx_nat, HT.sIx_none]
  simp
theorem cut_after {α : Type} (xs : List α) (k : Nat) : cutL xs (some ((k : Nat) : Int)) none = xs.drop k := by
  unfold cutL
  rw [HT.sIx_nat, HT.sIx_none]
  apply List.ext_getElem?
  intro n
  rw [List.getElem?_take, List.getElem?_drop, List.getElem?_drop]
  split
  · rename_i h
    rcases Nat.le_total k xs.length with z | z
    · rw [Nat.min_eq_left z]
    · rw [Nat.min_eq_right z, List.getElem?_eq_none (by omega), List.getElem?_eq_none (by omega)]
  · rename_i h
    rw [List.getElem?_eq_none (by omega)]
theorem or_nat (a b : Nat) : Builtin.bitOr ((a : Nat) : Int) ((b : Nat) : Int) = ((a ||| b : Nat) : Int) := by
  rw [bitOr_nn (Int.natCast_nonneg _) (Int.natCast_nonneg _), Int.toNat_natCast, Int.toNat_natCast]
theorem op_orN {a b : Nat} {Q : O → Prop} (h : Q (.fz (.int ((a ||| b : Nat) : Int)))) : opOrI (.int (a : Nat)) (.int (b : Nat)) Q := by
  show Q (.fz (.int (Builtin.bitOr ((a : Nat) : Int) ((b : Nat) : Int))))
  rw [or_nat]; exact h
end VL
end
section
namespace VL
open PySem PySem.Spec L2
section
variable {X : Cx} {o e f idx : Expr} {τ τd τo : EX} {p pos apos cpos : Pos}
/-! d.get(k, x) -/
def eDGet2 (i : Nat) (τ τd : EX) : EO := fun Γ Q => (∃ kk, dicG Γ i = some kk) ∧ τ Γ fun a Γ1 => (∃ k, rslv Γ1 a = some (kD k)) ∧ τd Γ1 fun b Γ2 => ∃ kk k d, dicG Γ2 i = some kk ∧ rslv Γ2 a = some (kD k) ∧ b = .d d ∧ Q (.fz ((kGet kk k).getD d)) Γ2
theorem vo_dget2 (i : Nat) (hu : X.A.units + 1 < cLine) (ho : PE X o (tVar i)) (hx : PE X e (lX X.K τ)) (hf : PE X f (lX X.K τd)) (hbase : attributeBase o "get" X.env (eval o X.env) = eval o X.env := by rfl)
    (hfew : ((backTo cpos (starEach [e, f] X.env)).all (fun x => !x.1) && (backToKw cpos (keywordEach [] X.env)).all (fun x => x.1.isSome)
      && decide (([e, f] : List Expr).length + ([] : List Keyword).length + (if ([] : List Keyword).isEmpty then 0 else 1) < 30)) = true := by rfl)
    (hline : (apos.endLine == cpos.line) = true := by rfl) (htr : backTo cpos (starEach [e, f] X.env) = [(false, eval e X.env), (false, eval f X.env)] := by rfl) :
    PE X (.Call (.Attribute o "get" apos) [e, f] [] cpos) (lO X.K (eDGet2 i τ τd)) :=
  pe_imp (pe_dget2 hu ho hx hf ⟨hbase, hfew, hline, htr⟩) fun σ H QV ⟨pn, Z, F, Γ, hh, Q, A, ⟨⟨kk0, e0⟩, q⟩, kq⟩ => by
    obtain ⟨a, kv, s0, ha0, _⟩ := A.dic e0
    refine ⟨.ref a, s0, a, rfl, .inl ⟨kv, .inl ha0⟩, pn, Z, F, Γ, hh, _, A, q, fun F1 Γ1 h1 H1 av y s1 A1 r1 ⟨⟨k0, ek0⟩, q1⟩ => ?_⟩
    have ey := rp_key (rep_of A1 r1 ek0)
    subst ey
    refine ⟨pn, Z, F1, Γ1, h1, _, A1, q1, fun F2 Γ2 h2 H2 bv z s2 A2 r2 ⟨kk, k, d, e1, e2, e3, q2⟩ => ?_⟩
    subst e3
    obtain ⟨b, kv2, s3, hb, hk⟩ := A2.dic e1
    rw [s0] at s3; cases s3
    have ek := rp_key (rep_of A2 (r1.mono s2) e2)
    refine ⟨_, (by rw [ek]; exact DGet.k hb), ?_⟩
    rcases kv_get (k := k) hk with ⟨z1, z2⟩ | ⟨v, d', z1, z2, r⟩
    · rw [z1]
      rw [z2] at q2
      exact kq F2 Γ2 h2 emp H2 (.fz d) z (s1.trans s2) A2.alone (own_fz.mpr ⟨rfl, r2⟩) q2
    · rw [z1]
      rw [z2] at q2
      exact kq F2 Γ2 h2 emp H2 (.fz d') v (s1.trans s2) A2.alone (own_fz.mpr ⟨rfl, r⟩) q2
/-! xs.count(n), whole numbers -/
def eCnt (τo τ : EX) : EO := fun Γ Q => τo Γ fun a1 Γ1 => (∃ ds, rslv Γ1 a1 = some (.list ds)) ∧ τ Γ1 fun a2 Γ2 => ∃ (ns : List Int) (k : Int), rslv Γ2 a1 = some (.list (ns.map .int)) ∧ rslv Γ2 a2 = some (.int k) ∧ Q (.fz (.int (ns.count k : Nat))) Γ2
theorem rpAll_ints {K : PySem.W.Frag} {F : Hp} : ∀ {ns : List Int} {vs : List V}, RpAll K F vs (ns.map .int) → vs = ns.map V.int
  | [], _, .nil => rfl
  | _ :: _, _, .cons h t => by rw [rp_int h, rpAll_ints t]; rfl
theorem vo_cnt (ho : PE X o (lX X.K τo)) (ha : PE X e (lX X.K τ))
    (hbase : attributeBase o "count" X.env (eval o X.env) = eval o X.env := by rfl)
    (hfew : ((backTo cpos (starEach [e] X.env)).all (fun x => !x.1) && (backToKw cpos (keywordEach [] X.env)).all (fun x => x.1.isSome)
      && decide ([e].length + ([] : List Keyword).length + (if ([] : List Keyword).isEmpty then 0 else 1) < 30)) = true := by rfl)
    (hline : (apos.endLine == cpos.line) = true := by rfl) (hs : starEach [e] X.env = (false, eval e X.env) :: starEach [] X.env := by rfl) (hplain : (backTo cpos (starEach [] X.env)).any (·.1) = false := by rfl) :
    PE X (.Call (.Attribute o "count" apos) [e] [] cpos) (lO X.K (eCnt τo τ)) :=
  pe_imp (pe_bm PySem.F.plainAttrs_list PySem.F.slot_list_count PySem.F.type_list_count mt_lcount ho (pa_cons ha pa_nil hs) hbase hfew hline hs hplain) fun σ H QV ⟨pn, Z, F, Γ, hh, Q, A, q, kk⟩ => ⟨pn, Z, F, Γ, hh, _, A, q, fun F1 Γ1 h1 H1 a v s1 A1 r1 ⟨⟨ds0, e0⟩, q1⟩ => by
    have rr := rep_of A1 r1 e0
    obtain ⟨b, vs, eb, hb, rb⟩ := rr.list A1.FH
    subst eb
    refine ⟨.inl ⟨rfl, vs, SqL.of hb⟩, pn, Z, F1, Γ1, h1, _, A1, q1, fun F2 Γ2 h2 H2 a2 y s2 A2 r2 ⟨ns, k, e1, e2, q2⟩ => ?_⟩
    have x1 := rep_of A2 (r1.mono s2) e1
    have x2 := (rep_of A2 r2 e2).int
    subst x2
    obtain ⟨c, us, ec, hc, rc⟩ := x1.list A2.FH
    cases ec
    have eu := rpAll_ints rc
    subst eu
    exact ⟨b, ns, k, rfl, rfl, SqL.of hc, kk F2 Γ2 h2 emp H2 (.fz (.int _)) _ (s1.trans s2) A2.alone (own_fz.mpr ⟨rfl, .int _⟩) q2⟩⟩
end
/-! sum(xs), max(xs), min(xs) of a list of ints -/
def cdSum : List PyData → (O → Prop) → Prop := fun ds Q => ∃ ns : List Int, ds = [.list (ns.map .int)] ∧ Q (.fz (.int ns.sum))
def cdMax1 : List PyData → (O → Prop) → Prop := fun ds Q => ∃ ns : List Int, ds = [.list (ns.map .int)] ∧ 0 < ns.length ∧ ∀ m, m ∈ ns → (∀ y, y ∈ ns → y ≤ m) → Q (.fz (.int m))
def cdMin1 : List PyData → (O → Prop) → Prop := fun ds Q => ∃ ns : List Int, ds = [.list (ns.map .int)] ∧ 0 < ns.length ∧ ∀ m, m ∈ ns → (∀ y, y ∈ ns → m ≤ y) → Q (.fz (.int m))
section
variable {X : Cx}
theorem cd_sum (hc : X.calm = true) : CallD X (.builtin "sum") cdSum := by
  intro pins s σ H xs us QV I rx ⟨F, ds, Q, sF, rl, ⟨ns, e, q⟩, post⟩
  subst e
  obtain ⟨v, rfl, r⟩ := rl.one'
  obtain ⟨a, vs, rfl, ha, ra⟩ := r.list sF
  have e := rpAll_ints ra
  subst e
  exact cr_sum hc pins s σ H _ us QV I rx ⟨a, ns, rfl, SqL.of ha, post.val sF (.int _) q⟩
theorem cd_max1 (hc : X.calm = true) : CallD X (.builtin "max") cdMax1 := by
  intro pins s σ H xs us QV I rx ⟨F, ds, Q, sF, rl, ⟨ns, e, z, q⟩, post⟩
  subst e
  obtain ⟨v, rfl, r⟩ := rl.one'
  obtain ⟨a, vs, rfl, ha, ra⟩ := r.list sF
  have e := rpAll_ints ra
  subst e
  exact cr_max hc pins s σ H _ us QV I rx ⟨a, ns, rfl, SqL.of ha, z, fun m h1 h2 => post.val sF (.int _) (q m h1 h2)⟩
theorem cd_min1 (hc : X.calm = true) : CallD X (.builtin "min") cdMin1 := by
  intro pins s σ H xs us QV I rx ⟨F, ds, Q, sF, rl, ⟨ns, e, z, q⟩, post⟩
  subst e
  obtain ⟨v, rfl, r⟩ := rl.one'
  obtain ⟨a, vs, rfl, ha, ra⟩ := r.list sF
  have e := rpAll_ints ra
  subst e
  exact cr_min hc pins s σ H _ us QV I rx ⟨a, ns, rfl, SqL.of ha, z, fun m h1 h2 => post.val sF (.int _) (q m h1 h2)⟩
end
section
variable {Γ Γ1 : Ga} {i : Nat} {τ τd τo : EX} {Q : O → Ga → Prop}
theorem st_dget2 {kk : List (Key × PyData)} (e : dicG Γ i = some kk) (h : τ Γ fun a Γ1 => (∃ k, rslv Γ1 a = some (kD k)) ∧ τd Γ1 fun b Γ2 => ∃ kk k d, dicG Γ2 i = some kk ∧ rslv Γ2 a = some (kD k) ∧ b = .d d ∧ Q (.fz ((kGet kk k).getD d)) Γ2) : eDGet2 i τ τd Γ Q := ⟨⟨kk, e⟩, h⟩
theorem st_cnt2 (h : τo Γ fun a1 Γ1 => (∃ ds, rslv Γ1 a1 = some (.list ds)) ∧ τ Γ1 fun a2 Γ2 => ∃ (ns : List Int) (k : Int), rslv Γ2 a1 = some (.list (ns.map .int)) ∧ rslv Γ2 a2 = some (.int k) ∧ Q (.fz (.int (ns.count k : Nat))) Γ2) : eCnt τo τ Γ Q := h
theorem cd_sumL {ns : List Int} {QO : O → Prop} (h : QO (.fz (.int ns.sum))) : cdSum [.list (ns.map .int)] QO := ⟨ns, rfl, h⟩
end
end VL
end
section
namespace VL
open PySem PySem.Spec PyProof.Rows L2
/-! ### sorted(d.items()) -/
def pairD (p : Key × PyData) : PyData := .tuple [kD p.1, p.2]
/-- new objects put in -/
def putA (H : Hp) (as : List Addr) (g : Addr → Option HO) : Hp := fun a => if a ∈ as then g a else H a
theorem putA_in {H : Hp} {as : List Addr} {g : Addr → Option HO} {a : Addr} (h : a ∈ as) : putA H as g a = g a := if_pos h
theorem putA_out {H : Hp} {as : List Addr} {g : Addr → Option HO} {a : Addr} (h : a ∉ as) : putA H as g a = H a := if_neg h
theorem grow_putA {F H : Hp} {as : List Addr} {g : Addr → Option HO} (s : Same F H) (n : ∀ a ∈ as, H a = none) : Grow F H (putA F as g) (putA H as g) := by
  refine ⟨fun a o e => ?_, fun a o e => ?_, fun a o e => ?_, fun a e => ?_⟩
  · by_cases z : a ∈ as
    · rw [s.free (n a z)] at e; cases e
    · rw [putA_out z]; exact e
  · by_cases z : a ∈ as
    · rw [putA_in z] at e ⊢; exact e
    · rw [putA_out z] at e ⊢; exact s _ _ e
  · by_cases z : a ∈ as
    · rw [n a z] at e; cases e
    · rw [putA_out z]; exact e
  · by_cases z : a ∈ as
    · exact .inr (n a z)
    · rw [putA_out z] at e; exact .inl e
section
variable {X : Cx} {pins : List (Addr × Obj)} {σ : L2.St} {H : Hp} {s : Shared}
theorem pairs_laid {h' : Heap} {tk : Nat} {as : List Addr} {g : Addr → Option HO} (I : Inv X pins σ H s)
    (hk : ∀ b o, s.heap.get? b = some o → h'.get? b = some o) (new : ∀ a ∈ as, s.heap.objs.size ≤ a)
    (ok : ∀ a ∈ as, ∃ (xs : List V) (us : List Value), g a = some (.frz { cls := .type "tuple", data := .seq us.toArray } (.tup xs)) ∧ xs.length ≤ sizeLine ∧ Vals xs us ∧ h'.get? a = some { cls := .type "tuple", data := .seq us.toArray }) :
    Inv X pins σ (putA H as g) { s with heap := h', toks := tk } := by
  have nw : ∀ t ∈ as, H t = none := fun t ht => I.hok.fresh (new t ht)
  have kp : ∀ b u, H b = some u → (putA H as g) b = some u := fun b u e => by
    rw [putA_out fun z => by rw [nw b z] at e; cases e]; exact e
  refine I.call' (ch := []) rfl ⟨fun b o q _ _ _ => hk b o q, fun b o q _ _ _ => ⟨o.slots, hk b o q⟩, fun b o q n _ => ?_, fun b o q _ => ⟨o, hk b o q⟩, fun b xs q => kp b _ q, fun b o u q => kp b _ q, fun b ps q => ⟨#[], by rw [kp b _ q]; simp⟩⟩ (fun b u q => ?_) I.bare fun b z => by simp at z
  · rw [putA_out fun z => absurd (Heap.lt_size q) (Nat.not_lt.mpr (new b z))]
    exact n
  · by_cases hb : b ∈ as
    · rw [putA_in hb] at q
      obtain ⟨xs, us, e1, e2, e3, e4⟩ := ok b hb
      rw [e1] at q; cases q
      exact ⟨e4, e2, us, e3, _, e4, rfl, _, rfl⟩
    · rw [putA_out hb] at q
      exact (I.hok b u q).stay (fun d v _ y => hk d v y) (fun d y => kp d _ y) fun d xs y => kp d _ y
theorem kv_at {K : PySem.W.Frag} {F : Hp} : ∀ {kv : List (Key × V)} {kk : List (Key × PyData)} {j : Nat} {p : Key × V}, KvAll K F kv kk → kv[j]? = some p → ∃ q, kk[j]? = some q ∧ q.1 = p.1 ∧ Rp K F p.2 q.2
  | [], _, _, _, _, e => by simp at e
  | _ :: _, [], _, _, h, _ => by have := h.cases; simp at this
  | p :: kv, q :: kk, 0, x, h, e => by
    obtain ⟨a, b, _⟩ := kvAll_cons.mp h
    cases e
    exact ⟨q, rfl, a.symm, b⟩
  | p :: kv, q :: kk, j + 1, x, h, e => by
    obtain ⟨_, _, t⟩ := kvAll_cons.mp h
    obtain ⟨y, e1, e2⟩ := kv_at t (by simpa using e)
    exact ⟨y, by simpa using e1, e2⟩
theorem rpk {K : PySem.W.Frag} {F : Hp} : ∀ k : Key, Rp K F (kV k) (kD k)
  | .inl i => .int i
  | .inr x => .str x
theorem rpAll_ix {K : PySem.W.Frag} {F : Hp} : ∀ {vs : List V} {ds : List PyData}, vs.length = ds.length → (∀ (j : Nat) (v : V) (d : PyData), vs[j]? = some v → ds[j]? = some d → Rp K F v d) → RpAll K F vs ds
  | [], [], _, _ => .nil
  | [], _ :: _, h, _ => by simp at h
  | _ :: _, [], h, _ => by simp at h
  | v :: vs, d :: ds, h, f => .cons (f 0 v d rfl rfl) (rpAll_ix (by simpa using h) fun j v d e1 e2 => f (j + 1) v d (by simpa using e1) (by simpa using e2))
end
def eSrtItems (i : Nat) : EO := fun Γ Q => ∃ kk, dicG Γ i = some kk ∧ SortOk (kk.map pairD) ∧ Q (.ls ((kk.map pairD).mergeSort (PySem.W.dataLe false id))) Γ
section
variable {X : Cx} {o : Expr} {p apos cpos pos : Pos}
theorem vo_srtItems (i : Nat) (hc : X.calm = true) (hu : X.A.units + 64 < cLine) (hg : Gl X "sorted") (hm : X.mg "sorted" = none) (hi : PE X o (tVar i)) (hv : bootBuiltins "sorted" = some (.builtin "sorted") := by decide +kernel) (hbase : attributeBase o "items" X.env (eval o X.env) = eval o X.env := by rfl) (hline : (apos.endLine == cpos.line) = true := by rfl)
    (hs : starEach [.Call (.Attribute o "items" apos) [] [] cpos] X.env = (false, eval (.Call (.Attribute o "items" apos) [] [] cpos) X.env) :: starEach [] X.env := by rfl) (hpl : (backTo pos (starEach [] X.env)).any (·.1) = false := by rfl) :
    PE X (.Call (.Name "sorted" p) [.Call (.Attribute o "items" apos) [] [] cpos] [] pos) (lO X.K (eSrtItems i)) := by
  refine ⟨fun pins s σ H QV I ⟨pn, Z, F, Γ, hh, Q, A, ⟨kk, e0, ⟨k1, k2, k3, k4⟩, q⟩, kq⟩ => ?_⟩
  obtain ⟨d, kv, s0, hd0, hk0⟩ := A.dic e0
  refine wpAny_Call_Name_kw (ld_blt I hg hm hv ?_)
  refine PyProof.Rows.callWith_builtin1 ?_ hs hpl
  rw [hs]
  show wpAny _ _ (spliced ((false, eval (.Call (.Attribute o "items" apos) [] [] cpos) X.env) :: backTo pos (starEach [] X.env))) _ _ s
  refine Calls.spliced_cons ?_
  refine wpAny_Call_method (T := "dict") (id := "dict.items") hbase rfl hline PySem.F.plainAttrs_dict PySem.F.slot_dict_items PySem.F.type_dict_items (thn (hi.run pins s σ H (fun v H' => v = .ref d ∧ H' = H) I ⟨.ref d, s0, rfl, rfl⟩) fun u s1 ⟨x, H1, I1, rx, ex, eh⟩ => ?_)
  subst ex
  subst eh
  obtain rfl : u = Value.ref d := rx
  obtain ⟨hz, hs0, vs, kv1, hdo⟩ := I1.hok d _ hd0
  obtain ⟨ep, hat⟩ := hdo.dictAt
  have lk : kv.length = vs.length := Paired.length kv1
  have I2 : Inv X pins σ H1 { s1 with heap := s1.heap.push { cls := .type "dict_items", data := .fields #[.ref d] } } := I1.kept (t' := s1.toks) fun b ob q => Heap.get?_push_of_some _ q
  refine ⟨hdo.typeIs, hdo.mapOf.noDict, ?_⟩
  show wpAny _ _ (callWith cpos (.builtin "dict.items") [.ref d] [] []) _ X.xe s1
  refine method_meetsIn PySem.F.slot_dict_items PySem.F.entry_dict_items rfl (PySem.evalArgs_none ⟨rfl, hdo.typeIs, PySem.F.args_dict_items_1 _, _, meets_dict_items (mixKind X.prog X.w) d hs0, ⟨vs, hdo⟩, ?_⟩)
  refine Calls.spliced_nil ?_
  refine Calls.call_function_entry PyProof.Rows.kind_sorted PyProof.Rows.plain_sorted PyProof.Rows.entry_sorted (PyProof.Rows.args_sorted1 _) ?_
  unfold Builtin.«sorted»
  refine wpAny_bind (m := checkCount "sorted" 1 1 _) (wpAny_pure ?_)
  refine wpAny_bind (PySem.W.kdx_collect (knd := mixKind X.prog X.w) (kvs := vs) (ep := ep) (I1.ok.hd hc) ⟨_, Heap.get?_push_size _ rfl, rfl, rfl⟩ (hat.push _) (by omega) fun h1 tk as hk hl hG => ?_)
  have hsz : (s1.heap.push { cls := .type "dict_items", data := .fields #[.ref d] }).objs.size = s1.heap.objs.size + 1 := Heap.size_push ..
  have nd : as.Nodup := List.Pairwise.imp (fun {a b} (h : a < b) => Nat.ne_of_lt h) hG.rise
  -- the pairs
  let gO : Addr → Option HO := fun a => (h1.get? a).bind fun ob => (kv[as.idxOf a]?).map fun e => HO.frz ob (.tup [kV e.1, e.2])
  have tups : ∀ (j : Nat) (a : Addr), as[j]? = some a → ∃ (e : Key × V) (ky x : Value), kv[j]? = some e ∧ RelV (kV e.1) ky ∧ RelV e.2 x ∧ h1.get? a = some { cls := .type "tuple", data := .seq #[ky, x] } ∧ gO a = some (.frz { cls := .type "tuple", data := .seq #[ky, x] } (.tup [kV e.1, e.2])) := fun j a ej => by
    obtain ⟨key, k, x, f1, f2, f3⟩ := hG.pairs j a ej
    have hj : j < kv.length := by rw [lk]; exact (List.getElem?_eq_some_iff.mp f1).1
    obtain ⟨qv, g1, g2, g3⟩ := LiI.paired_get kv1 (List.getElem?_eq_getElem hj)
    rw [f1] at g1
    cases g1
    refine ⟨kv[j], key, x, List.getElem?_eq_getElem hj, ?_, g3, f3, ?_⟩
    · rw [g2]; exact relV_key (show keyIs k key = true from f2)
    · have hja : j < as.length := (List.getElem?_eq_some_iff.mp ej).1
      have ix : as.idxOf a = j := by
        have : as[j] = a := by rw [List.getElem?_eq_getElem hja] at ej; exact Option.some.inj ej
        rw [← this]
        exact nd.idxOf_getElem j hja
      show (h1.get? a).bind _ = _
      rw [f3]
      show (kv[as.idxOf a]?).map _ = _
      rw [ix, List.getElem?_eq_getElem hj]
      rfl
  have J : Inv X pins σ (putA H1 as gO) { s1 with heap := h1, toks := tk } := pairs_laid (tk := tk) (s := { s1 with heap := s1.heap.push { cls := .type "dict_items", data := .fields #[.ref d] } }) I2 hk (fun a ha => Nat.le_of_lt (hG.above a ha)) fun a ha => by
    obtain ⟨j, hj, ej⟩ := List.getElem_of_mem ha
    obtain ⟨e, ky, x, _, r1, r2, z1, z2⟩ := tups j a (by rw [List.getElem?_eq_getElem hj, ej])
    exact ⟨_, [ky, x], z2, by show 2 ≤ sizeLine; decide, .cons r1 (.cons r2 .nil), z1⟩
  have nw : ∀ a ∈ as, H1 a = none := fun a ha => I2.hok.fresh (Nat.le_of_lt (hG.above a ha))
  have gr : Grow F H1 (putA F as gO) (putA H1 as gO) := grow_putA A.FH nw
  have rl : RpAll X.K (putA F as gO) (as.map V.ref) (kk.map pairD) := rpAll_ix (by rw [List.length_map, List.length_map, hl, ← lk, hk0.cases]) fun j v dd e1 e2 => by
    rw [List.getElem?_map] at e1 e2
    cases ea : as[j]? with
    | none => rw [ea] at e1; cases e1
    | some a =>
      rw [ea] at e1
      cases e1
      obtain ⟨e, ky, x, z0, r1, r2, z1, z2⟩ := tups j a ea
      obtain ⟨qq, y1, y2, y3⟩ := kv_at hk0 z0
      rw [y1] at e2
      cases e2
      refine .tup (xs := [kV e.1, e.2]) (.inl ⟨_, (putA_in (List.mem_of_getElem? ea)).trans z2, rfl⟩) (.cons ?_ (.cons (Rp.mono gr.fs y3) .nil))
      rw [y2]; exact rpk _
  have rv : Vals (as.map V.ref) (as.map Value.ref) := LiI.vals_refs as
  have lz : (as.map Value.ref).length ≤ sizeLine := by rw [List.length_map, hl]; omega
  refine wpAny_bind (wpAny_newList ?_ lz)
  have gL : (h1.push (PyProof.Rows.seqObj "list" (as.map Value.ref).toArray 0)).get? h1.objs.size = some (PyProof.Rows.seqObj "list" (as.map Value.ref).toArray 0) := Heap.get?_push_size _ rfl
  have hn : putA H1 as gO h1.objs.size = none := J.hok.fresh (Nat.le_refl _)
  have old : h1.get? h1.objs.size = none := by
    cases e : h1.get? h1.objs.size with
    | none => rfl
    | some u => exact absurd (Heap.lt_size e) (Nat.lt_irrefl _)
  refine wpAny_bind (wpAny_holding (PySem.W.list_sort_data (enc := id) (R := fun u d => ∃ x, RelV x u ∧ Rp X.K (putA F as gO) x d) (bs := kk.map pairD) (s := { s1 with heap := h1.push (PyProof.Rows.seqObj "list" (as.map Value.ref).toArray 0), toks := tk }) gL (each_rp rv rl) (each_there (fun b u z => Heap.get?_push_of_some _ z) old (each_reads J gr.fh rv rl fun d hd => (k4 d hd).1) fun d hd => (k4 d hd).1) (by rw [List.map_id]; exact k1) (by rw [List.map_id]; exact k2) k3 (fun d hd => ?_) fun out ho e => ?_))
  · have := (k4 d hd).2
    show X.A.units + 1 + 1 + d.depth < cLine
    omega
  · obtain ⟨ws, w1, w2⟩ := rp_each e
    obtain ⟨c, hcc⟩ := PyProof.Rows.sortedHeap_at (vs := as.map Value.ref) (out := out.toArray) gL
    have hlen : ws.length ≤ sizeLine := by rw [w2.length, List.length_mergeSort]; exact k3
    have kept : ∀ b u, h1.get? b = some u → (PyProof.Rows.sortedHeap (h1.push (PyProof.Rows.seqObj "list" (as.map Value.ref).toArray 0)) h1.objs.size (as.map Value.ref) out.toArray).get? b = some u := fun b u z => by
      have lt := Heap.lt_size z
      rw [PyProof.Rows.sortedHeap_old (Nat.ne_of_lt lt) (by rw [PyProof.Rows.size_push']; exact Nat.lt_succ_of_lt lt)]
      exact Heap.get?_push_of_some _ z
    refine wpAny_pure ⟨_, rfl, ?_⟩
    have P := A.post (Same.refl _) kq
    refine ⟨.ref h1.objs.size, _, J.laidN (t' := tk) kept old hn (o := .lst ws) ⟨hlen, out, c, w1, hcc⟩, rfl, ?_⟩
    have g2 : Grow F H1 (putA F as gO) (upd (putA H1 as gO) h1.objs.size (.lst ws)) := gr.trans (Grow.stay gr.fh (same_new hn))
    refine P (putA F as gO) (VL.one h1.objs.size (.lst ws)) _ (.ls _) (.ref h1.objs.size) g2 (own_ls.mpr ⟨_, ws, rfl, rfl, w2⟩) (same_one upd_same) (dis_one (gr.fh.free hn)) (fun a za => ?_) q
    by_cases e : a = h1.objs.size
    · subst e
      cases e2 : H1 h1.objs.size with
      | none => rfl
      | some u => have := gr.hh _ _ e2; rw [hn] at this; cases this
    · rw [one_ne e] at za; exact absurd rfl za
end
end VL
end
section
namespace VL
open PySem PySem.Spec L2
/-! ### for over a slot's own list, which stays the slot's own -/
def refR (a : Addr) : Res := ⟨fun _ v h => v = .ref a ∧ h = emp, fun _ _ _ _ _ x => x⟩
theorem own_rs {K : PySem.W.Frag} {F : Hp} {r : Res} {v : V} {h : Hp} : Own K F (.rs r) v h ↔ r.R F v h := by unfold Own; exact Iff.rfl
/-- the loop; the slot's place is held by a token -/
def sForS (i : Nat) (g : EG) (t : ES) : ES := fun D Γ => ∃ ds, Γ[i]? = some (some (.ls ds)) ∧ ∀ r : Res, ∃ I : Nat → Ga → Prop, I 0 (Γ.set i (some (.rs r))) ∧
  (∀ k d Γ', ds[k]? = some d → I k Γ' → g d Γ' fun Γ2 => t { nx := I (k + 1), ct := I (k + 1), bk := fun _ => False, rt := fun _ _ => False } Γ2) ∧
  ∀ Γ', I ds.length Γ' → Γ'[i]? = some (some (.rs r)) ∧ D.nx (Γ'.set i (some (.ls ds)))
section
variable {X : Cx} {io : Bool} {pos : Pos} {tg iter : Expr} {body : List Stmt} {ws : List Nat} {g : EG} {t : ES}
def tItS (i : Nat) : TI := fun σ H R => ∃ a vs, σ[i]? = some (some (.ref a)) ∧ H a = some (.lst vs) ∧ R (Itl X.K a) H
theorem pi_slotL (i : Nat) (hl : PE X iter (tVar i)) : PI X tg iter (tItS (X := X) i) := by
  refine ⟨fun pins s σ H R I ⟨a, vs, e, hs, k⟩ => ?_⟩
  refine thn (hl.run pins s σ H (fun x H1 => x = .ref a ∧ H1 = H) I ⟨_, e, rfl, rfl⟩) fun v s1 ⟨x, H1, I1, r1, ex, eh⟩ => ?_
  subst ex
  subst eh
  cases r1
  obtain ⟨its, rv, p, hz⟩ := I1.list (SqL.of hs)
  exact wpAny_pyIter_list p.isList (pi_one (tk := s1.toks) I1 _ (turn_list a _) ⟨_, Heap.get?_push_size _ rfl, rfl, rfl⟩ k)
theorem vs_forS (i : Nat) (hp : PassesOwn (model X.prog X.w) X.A X.env X.xe) (hc : X.calm = true) (hi : PE X iter (tVar i)) (hg : PG X tg (lG X.K io ws g)) (hb : PSs X body (lS X.K io t))
    (hs : ∀ x, foldedSetIterable iter X.env x = pure x := by intro _; rfl) : PS X (.For tg iter body [] pos) (lS X.K io (sForS i g t)) :=
  ps_imp (ps_for hp hc (pi_slotL i hi) hg hb hs) fun D σ H ⟨v0, Z, F, Γ, h, DD, A, ⟨ds, ed, q⟩, k⟩ => by
    obtain ⟨v, g1, g2, a1, w, sg1, dg1, zg1, sg2, d12, dg2, zg2, put⟩ := A.change ed
    obtain ⟨a, vs, rfl, rfl, r⟩ := own_ls.mp w
    have ha : H a = some (.lst vs) := sg1 _ _ one_at
    refine ⟨a, vs, a1, ha, ?_⟩
    obtain ⟨I, i0, turn, fin⟩ := q (refR a)
    -- the list aside
    have A0 : At X.K (pns io v0) Z F (Γ.set i (some (.rs (refR a)))) σ (jn emp g2) H := put F (.rs (refR a)) emp H (Same.refl _) (own_rs.mpr ⟨rfl, rfl⟩) same_emp A.FH sg2 A.ZH A.FZ Dis.emp Dis.emp Dis.emp dg2
    rw [emp_jn] at A0
    have R0 : AtR X.K (pns io v0) Z F (Γ.set i (some (.rs (refR a)))) σ g2 (VL.one a (.lst vs)) H := ⟨A0, sg1, d12, dg1, zg1⟩
    have B0 := R0.keep
    have dZ : Dis Z (VL.one a (.lst vs)) := zg1.symm
    have lst_at : ∀ {F' : Hp} {Γ' : Ga} {σ' : St} {h' H' : Hp}, At X.K (pns io v0) (jn Z (VL.one a (.lst vs))) F' Γ' σ' h' H' → H' a = some (.lst vs) := fun B => B.ZH _ _ (same_r dZ _ _ one_at)
    have ln := r.length
    refine ⟨fun j m σ' H' => m = ds.length - j ∧ j ≤ ds.length ∧ ∃ F' Γ' h', Same F F' ∧ At X.K (pns io v0) (jn Z (VL.one a (.lst vs))) F' Γ' σ' h' H' ∧ I j Γ', ⟨ds.length, by simp, Nat.zero_le _, F, _, g2, Same.refl _, B0, i0⟩, ?_⟩
    rintro j m σ2 H2 ⟨rfl, hj, F2, Γ2, h2, s2, A2, w2⟩
    have ha2 := lst_at A2
    by_cases hlt : j < ds.length
    · refine .inr ⟨⟨vs, vs[j]'(by omega), SqL.of ha2, List.getElem?_eq_getElem _⟩, fun σ' H' => ∃ F' Γ' h', Same F F' ∧ At X.K (pns io v0) (jn Z (VL.one a (.lst vs))) F' Γ' σ' h' H' ∧ I (j + 1) Γ', fun σ' H' ⟨F', Γ', h', s', A', w'⟩ => ⟨ds.length - (j + 1), by omega, rfl, hlt, F', Γ', h', s', A', w'⟩, fun x H' y => ?_⟩
      obtain ⟨eh, y⟩ := y
      subst eh
      obtain ⟨d, e1, rd⟩ := r.get (y vs (SqL.of ha2))
      refine ⟨v0, _, F2, Γ2, h2, d, _, A2, Rp.mono s2 rd, turn j d Γ2 e1 w2, fun F4 Γ4 σ4 h4 H4 s4 _ A4 q4 => ?_⟩
      have s14 : Same F F4 := s2.trans s4
      exact ⟨v0, _, F4, Γ4, h4, _, A4, q4, ⟨fun F' Γ' σ' h' H' s A' q' => ⟨F', Γ', h', s14.trans s, A', q'⟩, fun _ _ _ _ _ _ _ z => z.elim, fun F' Γ' σ' h' H' s A' q' => ⟨F', Γ', h', s14.trans s, A', q'⟩, fun _ _ _ _ _ _ _ _ _ _ _ z => z.elim⟩⟩
    · have e : j = ds.length := by omega
      subst e
      obtain ⟨f1, f2⟩ := fin Γ2 w2
      refine .inl ⟨⟨vs, SqL.of ha2, by rw [ln]; exact Nat.le_refl _⟩, ?_⟩
      -- the list back
      have R2 : AtR X.K (pns io v0) Z F2 Γ2 σ2 h2 (VL.one a (.lst vs)) H2 := At.unkeep dZ A2
      obtain ⟨v', k1, k2, b1, e2, _, w', put5⟩ := R2.at_.own.focus f1
      obtain ⟨rfl, rfl⟩ := own_rs.mp w'
      rw [emp_jn] at e2
      subst e2
      have dk : Dis (VL.one a (.lst vs)) h2 := R2.rh
      have q5 := put5 F2 (.ls ds) (.ref a) (VL.one a (.lst vs)) (Same.refl _) (own_ls.mpr ⟨a, vs, rfl, rfl, RpAll.mono s2 r⟩) dk
      rw [set_self b1] at q5
      exact k.nx F2 _ _ _ H2 s2 ⟨q5, same_jn R2.rH R2.at_.hH, R2.at_.FH, R2.at_.ZH, R2.at_.FZ, Dis.jn R2.rF R2.at_.hF, Dis.jn R2.rZ R2.at_.hZ, R2.at_.pin⟩ f2
end
/-! len(set(xs)), xs a list of whole numbers -/
theorem met_len (val : Nat → Int) : ∀ n : Nat, ((PyProof.Rows.firstMet val n).length = n ↔ ((List.range n).map val).Nodup)
  | 0 => by simp [PyProof.Rows.firstMet_zero]
  | n + 1 => by
    have ih := met_len val n
    have le := PyProof.Rows.firstMet_length_le val n
    have an := PyProof.Rows.firstMet_any val n (val n)
    rw [PyProof.Rows.firstMet_succ, List.range_succ, List.map_append, List.nodup_append]
    unfold PyProof.Rows.step_dedup
    cases c : (PyProof.Rows.firstMet val n).any (· == val n) with
    | true =>
      rw [c] at an
      obtain ⟨x, hx, ex⟩ := List.any_eq_true.mp an.symm
      have ex : x = val n := by simpa using ex
      simp only [if_true]
      constructor
      · intro h; omega
      · rintro ⟨_, _, h⟩
        exact absurd ex (h x hx (val n) (by simp))
    | false =>
      rw [c] at an
      simp only [Bool.false_eq_true, if_false, List.length_append, List.length_singleton]
      constructor
      · intro h
        refine ⟨ih.mp (by omega), by simp, fun a ha b hb e => ?_⟩
        have hb : b = val n := by simpa using hb
        have := List.any_eq_false.mp an.symm a ha
        rw [e, hb] at this
        simp at this
      · rintro ⟨h, _, _⟩
        rw [ih.mpr h]
theorem range_getD (ns : List Int) : (List.range ns.length).map (fun i => ns.getD i 0) = ns := by
  apply List.ext_getElem?
  intro i
  by_cases h : i < ns.length
  · rw [List.getElem?_map, List.getElem?_range h, List.getElem?_eq_getElem h]
    simp [List.getD_eq_getElem?_getD, List.getElem?_eq_getElem h]
  · rw [List.getElem?_eq_none (by simp; omega), List.getElem?_eq_none (by omega)]
def eLenSetI (τ : EX) : EO := fun Γ Q => τ Γ fun a Γ1 => ∃ ns : List Int, rslv Γ1 a = some (.list (ns.map .int)) ∧ ns.length ≤ 4000 ∧ ∀ n : Nat, (n = ns.length ↔ ns.Nodup) → Q (.fz (.int n)) Γ1
def tLenSetG (K : PySem.W.Frag) (ta : TE) : TE := fun σ H Q => ta σ H fun x H1 => ∃ (l : Addr) (ns : List Int), x = .ref l ∧ SqL K H1 l (ns.map V.int) ∧ ns.length ≤ 4000 ∧ ∀ n : Nat, (n = ns.length ↔ ns.Nodup) → Q (.int n) H1
section
variable {X : Cx} {a : Expr} {ta : TE} {τ : EX} {p p2 q pos : Pos}
theorem pe_lenSetG (hg : Gl X "len") (hm : X.mg "len" = none) (hg2 : Gl X "set") (hm2 : X.mg "set" = none) (ha : PE X a ta) (hc : X.calm = true := by rfl)
    (na : starEach [a] X.env = (false, eval a X.env) :: starEach [] X.env := by rfl) : PE X (.Call (.Name "len" p) [.Call (.Name "set" p2) [a] [] q] [] pos) (tLenSetG X.K ta) := by
  refine ⟨fun pins s σ H Q I h => ?_⟩
  refine PyProof.Rows.Call_ (ld_blt I hg hm boot_len ?_)
  refine PyProof.Rows.callWith_builtin1 (PyProof.Rows.args_cons ?_ rfl) rfl rfl
  refine PyProof.Rows.Call_ (ld_blt I hg2 hm2 PyProof.Rows.boot_set ?_)
  refine PyProof.Rows.callWith_type1 (PyProof.Rows.args_cons (thn (ha.run pins s σ H _ I h) fun v s1 ⟨x, H1, I1, r1, q1⟩ => PyProof.Rows.args_nil ?_) na) na rfl
  obtain ⟨l, ns, rfl, hq, hl, q1⟩ := q1
  cases r1
  obtain ⟨its, r, pl, hz⟩ := I1.list hq
  have hlen : its.toArray.size = ns.length := by rw [List.size_toArray, ← r.length, List.length_map]
  refine call_set_list (I1.ok.hd hc) pl.isList (ns := ns) (by simpa using r.ints) (by rw [hlen]; unfold scanBound; omega) fun h' tk hS hk => ?_
  refine PyProof.Rows.args_nil ?_
  rw [hlen] at hS
  have le := PyProof.Rows.firstMet_length_le (fun i => ns.getD i 0) ns.length
  obtain ⟨o, es, ep, t, ho, hex, hd, _, _, _, hf, hn⟩ := hS
  have I2 : Inv X pins σ H1 { s1 with heap := h', toks := tk } := I1.kept fun b o e => hk b o (Heap.lt_size e) e
  exact call_len_set ho hex hd hf (by rw [hn] <;> omega) ⟨.int (PyProof.Rows.firstMet (fun i => ns.getD i 0) ns.length).length, H1, I2.tok _, ⟨_, by rw [hn]⟩, q1 _ (by rw [met_len, range_getD])⟩
theorem vo_lenSetI (hc : X.calm = true) (hg : Gl X "len") (hm : X.mg "len" = none) (hg2 : Gl X "set") (hm2 : X.mg "set" = none) (ha : PE X a (lX X.K τ))
    (na : starEach [a] X.env = (false, eval a X.env) :: starEach [] X.env := by rfl) : PE X (.Call (.Name "len" p) [.Call (.Name "set" p2) [a] [] q] [] pos) (lO X.K (eLenSetI τ)) :=
  pe_imp (pe_lenSetG hg hm hg2 hm2 ha hc na) fun σ H QV ⟨pn, Z, F, Γ, hh, Q, A, q, k⟩ => ⟨pn, Z, F, Γ, hh, _, A, q, fun F1 Γ1 h1 H1 av v s1 A1 r1 ⟨ns, e1, l1, q1⟩ => by
    obtain ⟨b, vs, eb, hb, rb⟩ := (rep_of A1 r1 e1).list A1.FH
    subst eb
    have ev := rpAll_ints rb
    subst ev
    exact ⟨b, ns, rfl, SqL.of hb, l1, fun n hn => k F1 Γ1 h1 emp H1 (.fz (.int n)) _ s1 A1.alone (own_fz.mpr ⟨rfl, .int _⟩) (q1 n hn)⟩⟩
end
theorem st_lenSetI {τ : EX} {Γ : Ga} {Q : O → Ga → Prop} (h : τ Γ fun a Γ1 => ∃ ns : List Int, rslv Γ1 a = some (.list (ns.map .int)) ∧ ns.length ≤ 4000 ∧ ∀ n : Nat, (n = ns.length ↔ ns.Nodup) → Q (.fz (.int n)) Γ1) : eLenSetI τ Γ Q := h
/-! a or b, as values -/
def eOrV (τo τo' : EO) : EO := fun Γ Q => τo Γ fun o Γ1 => ∃ d c, o = .fz d ∧ truD d = some c ∧ Br c (Q (.fz d) Γ1) (τo' Γ1 Q)
def eAndV (τo τo' : EO) : EO := fun Γ Q => τo Γ fun o Γ1 => ∃ d c, o = .fz d ∧ truD d = some c ∧ Br c (τo' Γ1 Q) (Q (.fz d) Γ1)
section
variable {X : Cx} {a b : Expr} {rest : List Expr} {τo τo' : EO} {pos : Pos}
theorem vo_orV (ha : PE X a (lO X.K τo)) (hb : PE X (.BoolOp .Or (b :: rest) pos) (lO X.K τo')) : PE X (.BoolOp .Or (a :: b :: rest) pos) (lO X.K (eOrV τo τo')) :=
  pe_imp (pe_orT ha hb) fun σ H QV ⟨pn, Z, F, Γ, hh, Q, A, q, k⟩ => ⟨pn, Z, F, Γ, hh, _, A, q, fun F1 Γ1 h1 hr H1 o v s1 A1 w ⟨d, c, e1, e2, q1⟩ => by
    subst e1
    obtain ⟨rfl, r⟩ := own_fz.mp w
    refine ⟨c, tru_of A1.at_.FH (.inl r) e2, ?_⟩
    have q1 := of_br q1
    cases c with
    | true => exact k F1 Γ1 h1 emp H1 (.fz d) _ s1 A1.at_.alone (own_fz.mpr ⟨rfl, r⟩) q1
    | false => exact ⟨pn, Z, F1, Γ1, h1, Q, A1.at_, q1, fun F' Γ' h' hr' H' o v s A' w' q' => k F' Γ' h' hr' H' o v (s1.trans s) A' w' q'⟩⟩
theorem vo_andV (ha : PE X a (lO X.K τo)) (hb : PE X (.BoolOp .And (b :: rest) pos) (lO X.K τo')) : PE X (.BoolOp .And (a :: b :: rest) pos) (lO X.K (eAndV τo τo')) :=
  pe_imp (pe_andT ha hb) fun σ H QV ⟨pn, Z, F, Γ, hh, Q, A, q, k⟩ => ⟨pn, Z, F, Γ, hh, _, A, q, fun F1 Γ1 h1 hr H1 o v s1 A1 w ⟨d, c, e1, e2, q1⟩ => by
    subst e1
    obtain ⟨rfl, r⟩ := own_fz.mp w
    refine ⟨c, tru_of A1.at_.FH (.inl r) e2, ?_⟩
    have q1 := of_br q1
    cases c with
    | false => exact k F1 Γ1 h1 emp H1 (.fz d) _ s1 A1.at_.alone (own_fz.mpr ⟨rfl, r⟩) q1
    | true => exact ⟨pn, Z, F1, Γ1, h1, Q, A1.at_, q1, fun F' Γ' h' hr' H' o v s A' w' q' => k F' Γ' h' hr' H' o v (s1.trans s) A' w' q'⟩⟩
end
theorem st_orV {τo τo' : EO} {Γ : Ga} {Q : O → Ga → Prop} (h : τo Γ fun o Γ1 => ∃ d c, o = .fz d ∧ truD d = some c ∧ Br c (Q (.fz d) Γ1) (τo' Γ1 Q)) : eOrV τo τo' Γ Q := h
end VL
end
section
namespace VL
open PySem PySem.Spec L2
/-! ### texts -/
theorem rpAll_strs {K : PySem.W.Frag} {F : Hp} : ∀ {ns : List Str} {vs : List V}, RpAll K F vs (ns.map .str) → vs = ns.map V.str
  | [], _, .nil => rfl
  | _ :: _, _, .cons h t => by rw [rp_str h, rpAll_strs t]; rfl
theorem rpAll_strs' {K : PySem.W.Frag} {F : Hp} : ∀ {ns : List Str}, RpAll K F (ns.map V.str) (ns.map .str)
  | [] => .nil
  | x :: _ => .cons (.str x) rpAll_strs'
def eSplit (τo τe : EX) : EO := fun Γ Q => τo Γ fun a1 Γ1 => (∃ z, rslv Γ1 a1 = some (.str z)) ∧ τe Γ1 fun a2 Γ2 => ∃ (x y : Str), rslv Γ2 a1 = some (.str x) ∧ rslv Γ2 a2 = some (.str y) ∧ (y.length == 0) = false ∧ x.length + 2 ≤ sizeLine ∧ Q (.ls ((Txt.split x y).map .str)) Γ2
def eJoin (τo τe : EX) : EO := fun Γ Q => τo Γ fun a1 Γ1 => (∃ z, rslv Γ1 a1 = some (.str z)) ∧ τe Γ1 fun a2 Γ2 => ∃ (x : Str) (ys : List Str), rslv Γ2 a1 = some (.str x) ∧ rslv Γ2 a2 = some (.list (ys.map .str)) ∧ (ys.map (·.length)).sum + ys.length * x.length ≤ 16777216 ∧ Q (.fz (.str (Txt.join x ys))) Γ2
def eStarts (τo τe : EX) : EO := fun Γ Q => τo Γ fun a1 Γ1 => (∃ z, rslv Γ1 a1 = some (.str z)) ∧ τe Γ1 fun a2 Γ2 => ∃ (x y : Str), rslv Γ2 a1 = some (.str x) ∧ rslv Γ2 a2 = some (.str y) ∧ Q (.fz (.bool (Txt.startswith x y))) Γ2
def eUpper (τo : EX) : EO := fun Γ Q => τo Γ fun a1 Γ1 => ∃ (x : Str), rslv Γ1 a1 = some (.str x) ∧ x.length ≤ 5592405 ∧ Q (.fz (.str (Txt.upper x))) Γ1
section
variable {X : Cx} {o e f idx : Expr} {τ τo τe : EX} {p apos pos spos : Pos}
theorem vo_split (ho : PE X o (lX X.K τo)) (he : PE X e (lX X.K τe)) (hs : starEach [e] X.env = [(false, eval e X.env)] := by rfl) (hbase : attributeBase o "split" X.env (eval o X.env) = eval o X.env := by rfl) (hline : (apos.endLine == pos.line) = true := by rfl) :
    PE X (.Call (.Attribute o "split" apos) [e] [] pos) (lO X.K (eSplit τo τe)) :=
  pe_imp (pe_split ho he hs hbase hline) fun σ H QV ⟨pn, Z, F, Γ, hh, Q, A, q, kk⟩ => ⟨pn, Z, F, Γ, hh, _, A, q, fun F1 Γ1 h1 H1 a v s1 A1 r1 ⟨⟨z, e0⟩, q1⟩ => by
    have ev := (rep_of A1 r1 e0).str
    subst ev
    refine ⟨⟨_, rfl⟩, pn, Z, F1, Γ1, h1, _, A1, q1, fun F2 Γ2 h2 H2 a2 y s2 A2 r2 ⟨x, y', e1, e2, c1, c2, q2⟩ => ?_⟩
    have x1 := (rep_of A2 (r1.mono s2) e1).str
    have x2 := (rep_of A2 r2 e2).str
    subst x2
    cases x1
    exact ⟨_, _, rfl, rfl, c1, c2, fun p n => (A2.post (s1.trans s2) kk).newL A2.FH n rpAll_strs' q2⟩⟩
theorem vo_starts (ho : PE X o (lX X.K τo)) (he : PE X e (lX X.K τe)) (hs : starEach [e] X.env = [(false, eval e X.env)] := by rfl) (hbase : attributeBase o "startswith" X.env (eval o X.env) = eval o X.env := by rfl) (hline : (apos.endLine == pos.line) = true := by rfl) :
    PE X (.Call (.Attribute o "startswith" apos) [e] [] pos) (lO X.K (eStarts τo τe)) :=
  pe_imp (pe_m1 PySem.F.slot_str_startswith PySem.F.type_str_startswith mt_startswith ho he hs hbase hline) fun σ H QV ⟨pn, Z, F, Γ, hh, Q, A, q, kk⟩ => ⟨pn, Z, F, Γ, hh, _, A, q, fun F1 Γ1 h1 H1 a v s1 A1 r1 ⟨⟨z, e0⟩, q1⟩ => by
    have ev := (rep_of A1 r1 e0).str
    subst ev
    refine ⟨⟨_, rfl⟩, pn, Z, F1, Γ1, h1, _, A1, q1, fun F2 Γ2 h2 H2 a2 y s2 A2 r2 ⟨x, y', e1, e2, q2⟩ => ?_⟩
    have x1 := (rep_of A2 (r1.mono s2) e1).str
    have x2 := (rep_of A2 r2 e2).str
    subst x2
    cases x1
    exact ⟨_, _, rfl, rfl, kk F2 Γ2 h2 emp H2 (.fz (.bool _)) _ (s1.trans s2) A2.alone (own_fz.mpr ⟨rfl, .bl _⟩) q2⟩⟩
theorem vo_join (ho : PE X o (lX X.K τo)) (he : PE X e (lX X.K τe)) (hs : starEach [e] X.env = [(false, eval e X.env)] := by rfl) (hbase : attributeBase o "join" X.env (eval o X.env) = eval o X.env := by rfl) (hline : (apos.endLine == pos.line) = true := by rfl) :
    PE X (.Call (.Attribute o "join" apos) [e] [] pos) (lO X.K (eJoin τo τe)) :=
  pe_imp (pe_join ho he hs hbase hline) fun σ H QV ⟨pn, Z, F, Γ, hh, Q, A, q, kk⟩ => ⟨pn, Z, F, Γ, hh, _, A, q, fun F1 Γ1 h1 H1 a v s1 A1 r1 ⟨⟨z, e0⟩, q1⟩ => by
    have ev := (rep_of A1 r1 e0).str
    subst ev
    refine ⟨⟨_, rfl⟩, pn, Z, F1, Γ1, h1, _, A1, q1, fun F2 Γ2 h2 H2 a2 y s2 A2 r2 ⟨x, ys, e1, e2, c1, q2⟩ => ?_⟩
    have x1 := (rep_of A2 (r1.mono s2) e1).str
    cases x1
    obtain ⟨b, vs, eb, hb, rb⟩ := (rep_of A2 r2 e2).list A2.FH
    subst eb
    have evs := rpAll_strs rb
    subst evs
    exact ⟨_, b, ys, rfl, rfl, .inl (SqL.of hb), c1, kk F2 Γ2 h2 emp H2 (.fz (.str _)) _ (s1.trans s2) A2.alone (own_fz.mpr ⟨rfl, .str _⟩) q2⟩⟩
theorem vo_upper (ho : PE X o (lX X.K τo)) (hbase : attributeBase o "upper" X.env (eval o X.env) = eval o X.env := by rfl) (hline : (apos.endLine == pos.line) = true := by rfl) :
    PE X (.Call (.Attribute o "upper" apos) [] [] pos) (lO X.K (eUpper τo)) :=
  pe_imp (pe_upper ho hbase hline) fun σ H QV ⟨pn, Z, F, Γ, hh, Q, A, q, kk⟩ => ⟨pn, Z, F, Γ, hh, _, A, q, fun F1 Γ1 h1 H1 a v s1 A1 r1 ⟨x, e1, c1, q1⟩ => by
    have ev := (rep_of A1 r1 e1).str
    subst ev
    exact ⟨⟨_, rfl⟩, _, rfl, rfl, c1, kk F1 Γ1 h1 emp H1 (.fz (.str _)) _ s1 A1.alone (own_fz.mpr ⟨rfl, .str _⟩) q1⟩⟩
/-! text * n -/
def repS (x : Str) (n : Int) : Str := if n < 1 then Str.empty else if (n == 1 || x.length == 0) = true then x else ⟨(List.replicate n.toNat x.cps).foldl (· ++ ·) #[]⟩
def opMulS : PyData → PyData → (O → Prop) → Prop
  | .str x, .int n, Q => x.length ≤ 1000 ∧ -1000 ≤ n ∧ n ≤ 1000 ∧ Q (.fz (.str (repS x n)))
  | _, _, _ => False
theorem fold_rep (a : Array Nat) : ∀ (k : Nat) (b : Array Nat), ((List.replicate k a).foldl (· ++ ·) b).toList = b.toList ++ (List.replicate k a.toList).flatten
  | 0, b => by simp
  | k + 1, b => by
    rw [List.replicate_succ, List.foldl_cons, fold_rep a k, List.replicate_succ, List.flatten_cons, Array.toList_append, List.append_assoc]
theorem repS_tl (x : Str) (n : Nat) : (repS x (n : Int)).cps.toList = (List.replicate n x.cps.toList).flatten := by
  unfold repS
  split
  · have : n = 0 := by omega
    subst this; rfl
  · split
    · rename_i c
      rcases (by simpa using c : (n : Int) = 1 ∨ x.length = 0) with h | h
      · have : n = 1 := by omega
        subst this; simp
      · have e : x.cps.toList = [] := List.eq_nil_of_length_eq_zero (by rw [Array.length_toList]; exact h)
        rw [e]
        have : ∀ k : Nat, (List.replicate k ([] : List Nat)).flatten = [] := fun k => by induction k with
          | zero => rfl
          | succ k ih => rw [List.replicate_succ, List.flatten_cons, ih]; rfl
        rw [this]
    · show ((List.replicate ((n : Int)).toNat x.cps).foldl (· ++ ·) #[]).toList = _
      rw [fold_rep, Int.toNat_natCast]; rfl
theorem o2_mulS : Op2 X (binaryOp .Mult) opMulS := by
  intro pins s σ H x y v u QV I rx ry ⟨F, d1, d2, Q, sF, r1, r2, h, post⟩
  unfold opMulS at h
  split at h
  · rename_i z n
    obtain ⟨l1, l2, l3, q⟩ := h
    have e1 := r1.str
    have e2 := r2.int
    subst e1; subst e2
    obtain ⟨t, rfl⟩ := rx
    obtain ⟨t', rfl⟩ := ry
    have P := post.val sF (.str (repS z n)) q
    have fit : ∀ m : Nat, m ≤ 1000000 → m ≤ sizeLine := fun m hm => Nat.le_trans hm (Nat.le_of_ble_eq_true rfl)
    have big : ∀ m : Nat, m ≤ 1000000 → Builtin.Str.tooLong m = false := fun m hm => by
      unfold Builtin.Str.tooLong
      exact decide_eq_false (Nat.not_lt.mpr (fit m hm))
    have lz : ¬ n < 1 → z.length * n.toNat ≤ 1000000 := fun _ => by
      have : z.length * n.toNat ≤ 1000 * 1000 := Nat.mul_le_mul l1 (by omega)
      omega
    refine PySem.P.mul_str ?_ ?_ ?_ ?_
    · rw [decide_eq_false (by omega), decide_eq_false (by omega)]; rfl
    · intro h1 _ z2
      have : (1000 : Int) ≤ ((2 : Int) ^ 63 - 1) / n := Int.le_ediv_of_mul_le (by omega) (by omega)
      omega
    · intro h1 _
      exact big _ (lz h1)
    · unfold repS at P
      split
      · rename_i c
        rw [if_pos c] at P
        exact ⟨fit 0 (by omega), .str _, H, I.tok _, ⟨_, rfl⟩, P⟩
      · rename_i c
        rw [if_neg c] at P
        split
        · rename_i c2
          rw [if_pos c2] at P
          exact ⟨.str _, H, I, ⟨_, rfl⟩, P⟩
        · rename_i c2
          rw [if_neg c2] at P
          refine ⟨?_, .str _, H, I.tok _, ⟨_, rfl⟩, P⟩
          refine fit _ ?_
          show ((List.replicate n.toNat z.cps).foldl (· ++ ·) #[]).size ≤ 1000000
          rw [← Array.length_toList, fold_rep]
          have : ((List.replicate n.toNat z.cps.toList).flatten).length = n.toNat * z.length := by
            rw [List.length_flatten, List.map_replicate, List.sum_replicate_nat, Array.length_toList]; rfl
          rw [List.length_append, this]
          have := lz c
          rw [Nat.mul_comm]
          simpa using this
  · exact h.elim
end
theorem repS_mono {K : PySem.W.Frag} {F H H' : Hp} {d : PyData} {v : V} (r : RepS K F H d v) (s : Same H H') : RepS K F H' d v := by
  rcases r with r | ⟨c, us, ds, e1, e2, e3, q⟩
  · exact .inl r
  · exact .inr ⟨c, us, ds, e1, e2, s _ _ e3, q⟩
/-! isinstance(x, (T1, T2)) -/
def eIsi2 (n1 n2 : String) (τ : EX) : EO := fun Γ Q => τ Γ fun a Γ1 => ∃ d b1 b2, rslv Γ1 a = some d ∧ kitD d n1 = some b1 ∧ kitD d n2 = some b2 ∧ Q (.fz (.bool (b1 || b2))) Γ1
section
variable {X : Cx} {n1 n2 : String} {e : Expr} {τ : EX} {p p1 p2 pos : Pos} {x1} {m1 m2 : Str} {tp : Pos}
theorem vo_isi2 (hg : Gl X "isinstance") (hm : X.mg "isinstance" = none) (hg1 : Gl X m1) (hm1 : X.mg m1 = none) (hv1 : bootBuiltins m1 = some (.type n1)) (hg2 : Gl X m2) (hm2 : X.mg m2 = none) (hv2 : bootBuiltins m2 = some (.type n2)) (he : PE X e (lX X.K τ))
    (a1 : m1 ≠ "__name__" := by decide) (b1 : (m1 == ("__debug__" : Str)) = false := by decide) (a2 : m2 ≠ "__name__" := by decide) (b2 : (m2 == ("__debug__" : Str)) = false := by decide)
    (g1 : starEach [.Name m1 p1, .Name m2 p2] X.env = (false, eval (.Name m1 p1) X.env) :: starEach [.Name m2 p2] X.env := by rfl) (g2 : starEach [.Name m2 p2] X.env = (false, eval (.Name m2 p2) X.env) :: starEach [] X.env := by rfl)
    (h1 : starEach [e, .Tuple [.Name m1 p1, .Name m2 p2] x1 tp] X.env = (false, eval e X.env) :: starEach [.Tuple [.Name m1 p1, .Name m2 p2] x1 tp] X.env := by rfl) (h2 : starEach [.Tuple [.Name m1 p1, .Name m2 p2] x1 tp] X.env = (false, eval (.Tuple [.Name m1 p1, .Name m2 p2] x1 tp) X.env) :: starEach [] X.env := by rfl) (hpl : (backTo pos (starEach [.Tuple [.Name m1 p1, .Name m2 p2] x1 tp] X.env)).any (·.1) = false := by rfl) :
    PE X (.Call (.Name "isinstance" p) [e, .Tuple [.Name m1 p1, .Name m2 p2] x1 tp] [] pos) (lO X.K (eIsi2 n1 n2 τ)) :=
  pe_imp (pe_callB call_isiT hg hm (by decide +kernel) (pa_cons he (pa_cons (pe_tup (pa_cons (pe_bltn (v := .ty n1) hg1 hm1 hv1 rfl a1 b1) (pa_cons (pe_bltn (v := .ty n2) hg2 hm2 hv2 rfl a2 b2) pa_nil g2) g1)) pa_nil h2) h1) (by decide) (by decide) h1 hpl) fun σ H QV ⟨pn, Z, F, Γ, hh, Q, A, q, k⟩ =>
    ⟨pn, Z, F, Γ, hh, _, A, q, fun F1 Γ1 h1 H1 a v s1 A1 r1 ⟨d, c1, c2, e0, e1, e2, q1⟩ => by
      refine ⟨by show 2 ≤ sizeLine; exact Nat.le_of_ble_eq_true rfl, fun tp n => ?_⟩
      have s2 : Same F1 (upd H1 tp (.tup [.ty n1, .ty n2])) := A1.FH.trans (same_new n)
      have rr := rep_of A1 r1 e0
      have t1 := tyx_of A1.FH rr e1
      have t2 := tyx_of A1.FH rr e2
      have tx : TyX X.K (upd H1 tp (.tup [.ty n1, .ty n2])) v (.type (tyN d)) := (tyx_of s2 (repS_mono rr (same_new n)) e1).1
      refine ⟨v, tp, [.ty n1, .ty n2], .type (tyN d), [.type n1, .type n2], c1 || c2, rfl, upd_same, .cons (.ty n1) (.cons (.ty n2) .nil), tx, ?_, ?_⟩
      · refine kitAny_cons (b := c1) (kit_ty t1.2) (fun z => ?_) (fun z => by rw [z]; rfl)
        subst z
        refine kitAny_cons (b := c2) (kit_ty t2.2) (fun z => ?_) (fun z => by rw [z]; rfl)
        subst z; rfl
      · have g := Grow.stay A1.FH (same_new (o := .tup [.ty n1, .ty n2]) n)
        have A2 := A1.grow g
        exact k F1 Γ1 h1 emp _ (.fz (.bool (c1 || c2))) (.bl _) s1 A2.alone ⟨rfl, .bl _⟩ q1⟩
end
/-! ### a dict that is a part of a tree -/
section
variable {K : PySem.W.Frag} {pn : List (Nat × V)} {Z F F' : Hp} {Γ Γ1 : Ga} {σ : St} {h hr H H' : Hp} {v : V} {o : O} {ts : List O} {i k : Nat} {kk : List (Key × PyData)}
theorem At.dicE (A : At K pn Z F Γ σ h H) (r : ElV σ H i k v) (e : elG Γ i k = some (.dk kk)) : ∃ b kv, v = .ref b ∧ H b = some (.dK kv) ∧ KvAll K F kv kk := by
  obtain ⟨ts, e1, e3⟩ := elG_some e
  obtain ⟨a, vs, hT, g, T⟩ := A.changeT e1
  obtain ⟨u, h1, a1, w1, sh, _⟩ := T.elem A e3
  obtain ⟨b, kv, rfl, rfl, q⟩ := own_dk.mp w1
  obtain ⟨c, us, r1, r2, r3⟩ := r
  have x := T.sl
  rw [r1] at x; cases x
  have y := T.at_
  rw [r2] at y; cases y
  rw [r3] at a1; cases a1
  exact ⟨b, kv, rfl, sh _ _ one_at, q⟩
theorem At.changeEK (A : At K pn Z F Γ σ h H) (e : Γ[i]? = some (some (.tr ts))) (e1 : ts[k]? = some (.dk kk)) : ∃ a vs b kv, σ[i]? = some (some (.ref a)) ∧ H a = some (.lst vs) ∧ vs[k]? = some (.ref b) ∧ H b = some (.dK kv) ∧ KvAll K F kv kk ∧
    ∀ kv' kk', KvAll K F kv' kk' → ∃ h', At K pn Z F (Γ.set i (some (.tr (ts.set k (.dk kk'))))) σ h' (upd H b (.dK kv')) := by
  obtain ⟨a, vs, hT, g, T⟩ := A.changeT e
  obtain ⟨v, h1, a1, w1, sh, dF, dZ, ha, put⟩ := T.elem A e1
  obtain ⟨b, kv, rfl, rfl, r⟩ := own_dk.mp w1
  have hab : a ≠ b := fun z => by subst z; rw [one_at] at ha; cases ha
  refine ⟨a, vs, b, kv, T.sl, T.at_, a1, sh _ _ one_at, r, fun kv' kk' r' => ?_⟩
  exact put F (.dk kk') (VL.one b (.dK kv')) (upd H b (.dK kv')) (Same.refl _) (own_dk.mpr ⟨b, kv', rfl, rfl, r'⟩) (by rw [upd_ne hab]; exact T.at_) (same_one upd_same) (keepU (of_dis_one dF) A.FH) (keepU (of_dis_one dZ) A.ZH) (fun G sG dG => keepU (of_dis_one dG) sG) A.FZ (one_ne hab) (fun G dG => dis_at dG) (dis_at dF) (dis_at dZ) (fun G _ d1 _ => d1) T.Fa
end
section
variable {X : Cx} {e o idx : Expr} {τv : EX} {τe : EE} {p pos spos : Pos}
/-- the key: a slot's -/
def eDGetE (τe : EE) (j : Nat) : EO := fun Γ Q => τe Γ fun i k Γ1 => ∃ kk key d, elG Γ1 i k = some (.dk kk) ∧ rslv Γ1 (.s j) = some (kD key) ∧ kGet kk key = some d ∧ Q (.fz d) Γ1
def eDInE (pos : Bool) (j : Nat) (τe : EE) : EO := fun Γ Q => (∃ d, rslv Γ (.s j) = some d) ∧ τe Γ fun i k Γ1 => ∃ kk key, elG Γ1 i k = some (.dk kk) ∧ rslv Γ1 (.s j) = some (kD key) ∧ Q (.fz (.bool (if pos then (kGet kk key).isSome else !(kGet kk key).isSome))) Γ1
theorem slot_of {Γ : Ga} {j : Nat} {d : PyData} {K : PySem.W.Frag} {pn : List (Nat × V)} {Z F : Hp} {σ : St} {h H : Hp} (A : At K pn Z F Γ σ h H) (e : rslv Γ (.s j) = some d) : ∃ v, σ[j]? = some (some v) ∧ RepS K F H d v := by
  cases e1 : Γ[j]? with
  | none => simp [rslv, e1] at e
  | some x =>
    cases x with
    | none => simp [rslv, e1] at e
    | some o =>
      obtain ⟨v, _, s1, _⟩ := A.slot e1
      exact ⟨v, s1, rep_of A (a := .s j) (show ArgRel K F σ (.s j) v from s1) e⟩
theorem vo_dgetE (j : Nat) (hu : X.A.units + 1 < cLine) (he : PE X e (lE X.K τe)) (hx : PE X idx (tVar j)) (hs : NoSl idx := by intro _ _; rfl) : PE X (.Subscript e idx pos) (lO X.K (eDGetE τe j)) :=
  pe_imp (pe_dget hu he hx hs) fun σ H QV ⟨pn, Z, F, Γ, hh, Q, A, q, kq⟩ => ⟨pn, Z, F, Γ, hh, _, A, q, fun F1 Γ1 h1 H1 i k v s1 A1 r1 ⟨kk, key, d, e1, e2, e3, q1⟩ => by
    obtain ⟨b, kv, ev, hb, hk⟩ := A1.dicE r1 e1
    subst ev
    obtain ⟨y, sy, ry⟩ := slot_of A1 e2
    have ey := rp_key ry
    subst ey
    rcases kv_get (k := key) hk with ⟨_, z⟩ | ⟨u, d', z1, z2, r⟩
    · rw [e3] at z; cases z
    · rw [e3] at z2; cases z2
      refine ⟨_, sy, b, u, rfl, ?_, kq F1 Γ1 h1 emp H1 (.fz d) u s1 A1.alone ⟨rfl, r⟩ q1⟩
      rw [← z1]
      exact DGet.k hb⟩
theorem vo_dnotinE (j : Nat) (hu : X.A.units + 1 < cLine) (hx : PE X idx (tVar j)) (he : PE X e (lE X.K τe)) (hm : behindInMarks .NotIn e = false := by rfl) : PE X (.Compare idx [.NotIn] [e] pos) (lO X.K (eDInE false j τe)) :=
  pe_imp (pe_cmp (pc_dnotin hu hx he) hm) fun σ H QV ⟨pn, Z, F, Γ, hh, Q, A, ⟨⟨d0, e0⟩, q⟩, kq⟩ => by
    obtain ⟨y, sy, _⟩ := slot_of A e0
    refine ⟨y, sy, pn, Z, F, Γ, hh, _, A, q, fun F1 Γ1 h1 H1 i k v s1 A1 r1 ⟨kk, key, e1, e2, q1⟩ => ?_⟩
    obtain ⟨b, kv, ev, hb, hk⟩ := A1.dicE r1 e1
    subst ev
    obtain ⟨y2, sy2, ry⟩ := slot_of A1 e2
    rw [sy] at sy2; cases sy2
    have ey := rp_key ry
    subst ey
    obtain ⟨o, g, eo⟩ := dgo (k := key) hb hk
    exact ⟨b, o, rfl, g, by rw [eo]; exact kq F1 Γ1 h1 emp H1 (.fz (.bool _)) _ s1 A1.alone ⟨rfl, .bl _⟩ q1⟩
theorem vt_dnotinE (j : Nat) (hu : X.A.units + 1 < cLine) (hx : PE X idx (tVar j)) (he : PE X e (lE X.K τe)) (hm : behindInMarks .NotIn e = false := by rfl) : PT X (.Compare idx [.NotIn] [e] pos) (lT X.K (tO (eDInE false j τe))) :=
  pt_imp (pt_cmp (pc_dnotin hu hx he) hm) fun σ H QV ⟨pn, Z, F, Γ, hh, Q, A, ⟨⟨d0, e0⟩, q⟩, kq⟩ => by
    obtain ⟨y, sy, _⟩ := slot_of A e0
    refine ⟨y, sy, pn, Z, F, Γ, hh, _, A, q, fun F1 Γ1 h1 H1 i k v s1 A1 r1 ⟨kk, key, e1, e2, b', eb, q1⟩ => ?_⟩
    cases eb
    obtain ⟨b, kv, ev, hb, hk⟩ := A1.dicE r1 e1
    subst ev
    obtain ⟨y2, sy2, ry⟩ := slot_of A1 e2
    rw [sy] at sy2; cases sy2
    have ey := rp_key ry
    subst ey
    obtain ⟨o, g, eo⟩ := dgo (k := key) hb hk
    exact ⟨b, o, rfl, g, _, rfl, by rw [eo]; exact kq F1 Γ1 h1 H1 _ s1 A1 q1⟩
def sDPutE (τe : EE) (j : Nat) (τv : EX) : ES := fun D Γ => τv Γ fun av Γ1 => ∃ d, av = .d d ∧ τe Γ1 fun i k Γ2 => ∃ ts kk key Γ3, Γ2[i]? = some (some (.tr ts)) ∧ ts[k]? = some (.dk kk) ∧ rslv Γ2 (.s j) = some (kD key) ∧ kk.length < sizeLine ∧ setG Γ2 i (some (.tr (ts.set k (.dk (kPut kk key d))))) = some Γ3 ∧ D.nx Γ3
theorem vs_dputE {io : Bool} (j : Nat) (hu : X.A.units + 1 < cLine) (he : PE X e (lE X.K τe)) (hx : PE X idx (tVar j)) (hv : PE X o (lX X.K τv)) (hs : swapsWith o (some (.Subscript e idx pos)) spos.line X.env = pure false := by rfl) :
    PS X (.Assign [.Subscript e idx pos] o spos) (lS X.K io (sDPutE τe j τv)) :=
  ps_imp (ps_dput hu he hx hv hs) fun D σ H ⟨v0, Z, F, Γ, h, DD, A, q, kq⟩ => ⟨_, Z, F, Γ, h, _, A, q, fun F1 Γ1 h1 H1 av v s1 A1 r1 ⟨d, ed, q1⟩ => by
    subst ed
    refine ⟨_, Z, F1, Γ1, h1, _, A1, q1, fun F2 Γ2 h2 H2 i k u s2 A2 r2 ⟨ts, kk, key, Γ3, e1, e2, e3, e4, e5, q2⟩ => ?_⟩
    obtain ⟨y, sy, ry⟩ := slot_of A2 e3
    have ey := rp_key ry
    subst ey
    obtain ⟨a, vs, b, kv, c1, c2, c3, c4, c5, put⟩ := A2.changeEK e1 e2
    obtain ⟨a', vs', r3, r4, r5⟩ := r2
    rw [c1] at r3; cases r3
    rw [c2] at r4; cases r4
    rw [c3] at r5; cases r5
    obtain ⟨h3, A3⟩ := put _ _ (kv_put c5 (k := key) (Rp.mono s2 r1))
    rw [(setG_eq e5).1] at A3
    exact ⟨_, sy, b, _, rfl, DPut.k c4 (by rw [c5.cases]; exact e4), kq.nx F2 Γ3 σ h3 _ (s1.trans s2) A3 q2⟩⟩
end
section
variable {P : Program} {w : World} {K : PySem.W.Frag} {mg : Str → Option Value} {base : Heap} {x qual : Str} {st : Stmt} {f : Addr} {fd : FuncData} {N ps : List Str} {k : Nat} {dvs : List V} {kws : List (Str × V)}
theorem vfn1D {wp : W1} {τ : ES} (Fu : FunD K x qual (defArgs st) (defBody st) (defScope st) dvs kws f fd) (S : FnScope N ps (defScope st)) (hlen : ∀ o ds Q, wp o ds Q → ds.length + 1 = ps.length)
    (body : ∀ (cdv : Value) (A : Around) (outer : List Env) (s : Shared) (H : Hp) (E : XK), Room k (A.deeper (PyProof.Rows.envOfC qual (defScope st) s.heap.objs.size f cdv)) → PSs (cxOf CX0 P w K mg base N qual (defScope st) f cdv A outer s H E).nox (defBody st) (lS K true τ))
    (rd : ∀ o ds Q, wp o ds Q → τ (ends1 Q) (some o :: fzs ds ++ List.replicate (N.length - (ds.length + 1)) none)) : FnOk P w K mg base CX0 (k + 1) f fd ps (toSp1 K wp) := by
  have len2 : ∀ {F : Hp} {ds : List PyData} {vr : List V} {o0 : O} {v0 : V} {h0 : Hp}, OwnS K F (some o0 :: fzs ds) (some v0 :: vr.map some) h0 → vr.length = ds.length := fun q => by
    have := q.len
    simpa [fzs] using this.symm
  refine Fu.ok S (fun vs H QV E ⟨v0, vr, Z, F, h0, o0, ds, Q, e, A, h, _⟩ => by subst e; rw [List.length_cons, len2 A.own]; exact hlen o0 ds Q h) (fun cdv A outer s H vs QV E hr ⟨v0, vr, Z, F, h0, o0, ds, Q, e, B, h, post⟩ => ⟨lS K true τ, (body cdv A outer s H E hr).nox, ?_⟩)
  subst e
  have hl := len2 B.own
  refine ⟨v0, Z, F, _, h0, ends1 Q, ⟨?_, B.hH, B.FH, B.ZH, B.FZ, B.hF, B.hZ, fun p hp => ?_⟩, rd o0 ds Q h, ?_⟩
  · have := ownS_app (N.length - (ds.length + 1)) B.own
    rw [start_eq, List.length_cons, hl]
    exact this
  · have : p = (0, v0) := by simpa [pns] using hp
    subst this
    rfl
  have fin : ∀ F' Γ' σ' h' hr H' o v, Same F F' → AtR K (pns true v0) Z F' Γ' σ' h' hr H' → Own K F' o v hr → (∃ o0, Γ'[0]? = some (some o0) ∧ Q o o0) → QV v H' := fun F' Γ' σ' h' hr H' o v s' A' w' ⟨o0', e, q'⟩ => by
    obtain ⟨v1, g1, g2, a1, a2, a3, a4, _⟩ := A'.at_.own.focus e
    have hp := A'.at_.pin (0, v0) (by simp [pns])
    have hp : σ'[0]? = some (some v0) := hp
    rw [a1] at hp
    have ev : v1 = v0 := Option.some.inj (Option.some.inj hp)
    subst ev
    subst a2
    refine post F' g1 hr H' o o0' v s' ⟨⟨⟨v1, [], g1, emp, rfl, by rw [jn_emp], Dis.emp.symm, a4, rfl, rfl⟩, fun a u z => A'.at_.hH _ _ (same_l _ _ z), A'.at_.FH, A'.at_.ZH, A'.at_.FZ, Dis.sub same_l A'.at_.hF, Dis.sub same_l A'.at_.hZ, fun _ z => nomatch z⟩, A'.rH, (Dis.sub same_l A'.rh.symm).symm, A'.rF, A'.rZ⟩ w' q'
  exact ⟨fun F' Γ' σ' h' H' s' A' q' => fin F' Γ' σ' h' emp H' (.fz .none) .non s' A'.alone ⟨rfl, .non⟩ q', fun _ _ _ _ _ _ _ q => q.elim, fun _ _ _ _ _ _ _ q => q.elim, fun F' Γ' σ' h' hr H' o v s' A' w' q' => fin F' Γ' σ' h' hr H' o v s' A' w' q'⟩
/-- a def with one default, that of a whole number -/
theorem fund_mk {n : Int} {oc : Value} {od an : Option Addr} {osl : Array (Option Value)} {kV doc pm cdv ct : Value} {T : Addr} {tc : Value} {td : Option Addr} {tk : Tok} {tn : Nat} {tsl : Array (Option Value)}
    (l : K.lookup f = some ⟨oc, od, .func (PySem.W.fnOf x qual (defArgs st) (defBody st) (defScope st) (.ref T) kV doc pm an cdv ct), osl⟩) (lT : K.lookup T = some ⟨tc, td, .seq #[.int n tk] tn, tsl⟩)
    (c : PySem.W.codeIn K cdv qual = true) (kp : PySem.W.keepIn K (.ref f) = true) : FunD K x qual (defArgs st) (defBody st) (defScope st) [.int n] [] f (PySem.W.fnOf x qual (defArgs st) (defBody st) (defScope st) (.ref T) kV doc pm an cdv ct) :=
  ⟨⟨oc, od, _, kV, doc, pm, an, cdv, ct, osl, rfl, l, c, .inr ⟨by simp, T, _, [.int n tk], tn, rfl, lT, rfl, .cons ⟨tk, rfl⟩ .nil⟩, .inl rfl⟩, kp⟩
end
end VL
end
section
namespace VL
open PySem PySem.Spec L2
/-! ### for (at, x) in enumerate(xs) -/
def sForE (τs : EA) (u : EGs) (t : ES) : ES := fun D Γ => τs Γ fun as Γ1 => ∃ ds, as = [.d (.list ds)] ∧ ∃ I : Nat → Ga → Prop, I 0 Γ1 ∧
  (∀ i d Γ', ds[i]? = some d → I i Γ' → u [.int (i : Nat), d] Γ' fun Γ2 => t { D with nx := I (i + 1), ct := I (i + 1), bk := D.nx } Γ2) ∧ ∀ Γ', I ds.length Γ' → D.nx Γ'
section
variable {X : Cx} {io : Bool} {pos tpos p epos : Pos} {e : Expr} {es : List Expr} {kk : Nat} {body : List Stmt} {ws : List Nat} {τs : EA} {u : EGs} {t : ES}
theorem vs_forE (hp : PassesOwn (model X.prog X.w) X.A X.env X.xe) (hc : X.calm = true) (hg : Gl X "enumerate") (hm : X.mg "enumerate" = none) (ha : PA X [e] (lA X.K τs)) (ht : PGs X es (lGs X.K io ws u)) (hb : PSs X body (lS X.K io t))
    (h2 : es.length = 2 := by rfl) (hn : (assignEach es X.env).length = 2 := by rfl) (hst : (assignEach es X.env).findIdx? (·.1) = none := by rfl) (he : starEach [e] X.env = [(false, eval e X.env)] := by rfl)
    (hs : ∀ x, foldedSetIterable (.Call (.Name "enumerate" p) [e] [] epos) X.env x = pure x := by intro _; rfl) : PS X (.For (.Tuple es kk tpos) (.Call (.Name "enumerate" p) [e] [] epos) body [] pos) (lS X.K io (sForE τs u t)) :=
  ps_imp (ps_for hp hc (pi_enum hg hm ha he) (pg_tup hc ht hn hst) hb hs) fun D σ H ⟨v0, Z, F, Γ, h, DD, A, q, k⟩ => ⟨_, Z, F, Γ, h, _, A, q, fun F1 Γ1 h1 H1 as vs s1 A1 r1 ⟨ds, ea, I, i0, turn, fin⟩ => by
    subst ea
    obtain ⟨v, vr, rfl, rv, rr⟩ := r1
    cases (show vr = [] from rr)
    obtain ⟨a, xs, rfl, hF, rx⟩ := rp_ref (show Rp X.K F1 v (.list ds) from rv)
    have ln := rx.length
    refine ⟨a, xs, rfl, SqL.of (A1.FH _ _ hF), ?_⟩
    refine ⟨fun i m σ' H' => m = ds.length - i ∧ i ≤ ds.length ∧ ∃ F' Γ' h', Same F1 F' ∧ At X.K (pns io v0) Z F' Γ' σ' h' H' ∧ I i Γ', ⟨ds.length, by simp, Nat.zero_le _, F1, Γ1, h1, Same.refl _, A1, i0⟩, ?_⟩
    rintro i m σ2 H2 ⟨rfl, hi, F2, Γ2, h2, s2, A2, w2⟩
    have ha2 : H2 a = some (.lst xs) := A2.FH _ _ (s2 _ _ hF)
    by_cases hlt : i < ds.length
    · refine .inr ⟨⟨xs, xs[i]'(by omega), SqL.of ha2, List.getElem?_eq_getElem _⟩, fun σ' H' => ∃ F' Γ' h', Same F1 F' ∧ At X.K (pns io v0) Z F' Γ' σ' h' H' ∧ I (i + 1) Γ', fun σ' H' ⟨F', Γ', h', s', A', w'⟩ => ⟨ds.length - (i + 1), by omega, rfl, hlt, F', Γ', h', s', A', w'⟩, fun x H' y => ?_⟩
      obtain ⟨T, z, rfl, hT, rfl, y⟩ := y
      obtain ⟨d, e1, rd⟩ := rx.get (y xs (SqL.of ha2))
      have g3 : Grow F2 H2 F2 (upd H2 T (.tup [.int (i : Nat), z])) := Grow.stay A2.FH (same_new hT)
      refine ⟨T, _, rfl, .inl (.inl upd_same), rfl, v0, Z, F2, Γ2, h2, [.int (i : Nat), d], _, A2.grow g3, .cons (.int _) (.cons (Rp.mono s2 rd) .nil), turn i d Γ2 e1 w2, fun F4 Γ4 σ4 h4 H4 s4 _ A4 q4 => ?_⟩
      have s14 : Same F1 F4 := s2.trans s4
      have k4 := k.mono (s1.trans s14)
      exact ⟨v0, Z, F4, Γ4, h4, _, A4, q4, ⟨fun F' Γ' σ' h' H' s A' q' => ⟨F', Γ', h', s14.trans s, A', q'⟩, k4.nx, fun F' Γ' σ' h' H' s A' q' => ⟨F', Γ', h', s14.trans s, A', q'⟩, k4.rt⟩⟩
    · have e : i = ds.length := by omega
      subst e
      exact .inl ⟨⟨xs, SqL.of ha2, by rw [ln]; exact Nat.le_refl _⟩, k.nx F2 Γ2 σ2 h2 H2 (s1.trans s2) A2 (fin Γ2 w2)⟩⟩
end
theorem forE_inv {τs : EA} {u : EGs} {t : ES} {D : En} {Γ Γ1 : Ga} {α : Type} (xs : List α) (enc : α → PyData) (I : Nat → Ga → Prop) (hi : ∀ Q : List Av → Ga → Prop, Q [.d (.list (xs.map enc))] Γ1 → τs Γ Q) (h0 : I 0 Γ1)
    (turn : ∀ i x Γ', xs[i]? = some x → I i Γ' → u [.int (i : Nat), enc x] Γ' fun Γ2 => t { D with nx := I (i + 1), ct := I (i + 1), bk := D.nx } Γ2) (hd : ∀ Γ', I xs.length Γ' → D.nx Γ') : sForE τs u t D Γ := by
  refine hi _ ⟨_, rfl, I, h0, fun i d Γ' e w => ?_, fun Γ' w => hd Γ' (by rw [List.length_map] at w; exact w)⟩
  rw [List.getElem?_map] at e
  cases ex : xs[i]? with
  | none => rw [ex] at e; cases e
  | some x => rw [ex] at e; cases e; exact turn i x Γ' ex w
end VL
end
section
namespace K01
open PySem L2 VL
abbrev T := List Nat
def dT (l : T) : PyData := .str (SX.S l)
def c_NEWLINE : PyData := .str (Str.ofString "\n")
def c_LETTERS : PyData := .str (Str.ofString "abcdefghijklmnopqrstuvwxyz")
def c_SIGNS : PyData := .str (Str.ofString "abcdefghijklmnopqrstuvwxyz0123456789")
def c_HEADS : PyData := .tuple (["form", "box", "choice", "part", "end", "rules", "use"].map fun s => .str (Str.ofString s))
def c_WORDS : PyData := .tuple (["if", "then", "and", "or", "not", "never", "all", "most", "least", "just", "same"].map fun s => .str (Str.ofString s))
def inL (c : Nat) : Bool := decide (97 ≤ c) && decide (c ≤ 122)
def inD (c : Nat) : Bool := decide (48 ≤ c) && decide (c ≤ 57)
def inS (c : Nat) : Bool := inL c || inD c
def headsW : List T := [[102, 111, 114, 109], [98, 111, 120], [99, 104, 111, 105, 99, 101], [112, 97, 114, 116], [101, 110, 100], [114, 117, 108, 101, 115], [117, 115, 101]]
def wordsW : List T := [[105, 102], [116, 104, 101, 110], [97, 110, 100], [111, 114], [110, 111, 116], [110, 101, 118, 101, 114], [97, 108, 108], [109, 111, 115, 116], [108, 101, 97, 115, 116], [106, 117, 115, 116], [115, 97, 109, 101]]
def keptW : List T := headsW ++ wordsW
/-- a name -/
def isNm (l : T) : Bool := decide (1 ≤ l.length) && decide (l.length ≤ 8) && l.all inS && (match l with | c :: _ => inL c | [] => false) && !isIn l keptW
def isName : PyData → Bool
  | .str x => isNm x.cps.toList
  | _ => false
def Sml (n : Nat) (l : T) : Prop := l.length ≤ n ∧ ∀ c ∈ l, c < 1114112
inductive NmOk : PyData → Prop
  | str {l : T} : Sml 1000 l → NmOk (dT l)
  | non : NmOk .none
  | bl (b : Bool) : NmOk (.bool b)
  | int (i : Int) : NmOk (.int i)
  | tup (ds : List PyData) : NmOk (.tuple ds)
  | lst (ds : List PyData) : NmOk (.list ds)
def wp_is_name : W0 := fun ds Q => ∃ d, ds = [d] ∧ NmOk d ∧ Q (.fz (.bool (isName d)))
/-! lines, words -/
def linesF (l : T) : List T := if (TL.spl [10] 0 [] l).getLast? = some [] then (TL.spl [10] 0 [] l).dropLast else TL.spl [10] 0 [] l
def wordsF (l : T) : List T := (TL.spl [32] 0 [] l).filter fun w => !decide (w = [])
def passF : List T → Bool
  | [] => true
  | w :: _ => decide (w.head? = some 35)
def numbK : Nat → List (List T) → List (Nat × List T)
  | _, [] => []
  | k, r :: rs => (if passF r then [] else [(k, r)]) ++ numbK (k + 1) rs
def dE (p : Nat × List T) : PyData := .tuple [.int (p.1 : Nat), .list (p.2.map dT)]
def readF (l : T) : List (Nat × List T) := numbK 1 ((linesF l).map wordsF)
abbrev big : Nat := 100000
def wp_lines_of : W0 := fun ds Q => ∃ l : T, ds = [dT l] ∧ Sml big l ∧ Q (.ls ((linesF l).map dT))
def wp_line_words : W0 := fun ds Q => ∃ l : T, ds = [dT l] ∧ Sml big l ∧ Q (.ls ((wordsF l).map dT))
def wp_is_passed_over : W0 := fun ds Q => ∃ ws : List T, ds = [.list (ws.map dT)] ∧ Q (.fz (.bool (passF ws)))
def wp_read_lines : W0 := fun ds Q => ∃ l : T, ds = [dT l] ∧ Sml big l ∧ Q (.ls ((readF l).map dE))
def wp_words_of : W0 := wp_line_words
def wp_source_lines : W0 := wp_read_lines
/-! the law's own -/
abbrev lim : Nat := 1000000
def pool (gs : List Int) (x y : Int) (kk : List (Key × PyData)) : O := .tr [.ls (gs.map .int), .fz (.int x), .fz (.int y), .dk kk]
def PoolOk (c : Nat) (o : O) : Prop := ∃ gs x y kk, o = pool gs x y kk ∧ 0 ≤ x ∧ x < 2147483587 ∧ 0 ≤ y ∧ y ≤ (c : Int) ∧ (∀ g ∈ gs, 0 ≤ g) ∧ gs.length ≤ 59 ∧ kk.length ≤ c ∧ ∀ p ∈ kk, ∃ v : Int, p.2 = .int v ∧ 0 ≤ v ∧ v < 9
theorem PoolOk.mono {c c' : Nat} {o : O} (h : c ≤ c') (p : PoolOk c o) : PoolOk c' o := by
  obtain ⟨gs, x, y, kk, e, a, b, c1, d, r1, r2, r3, r4⟩ := p
  exact ⟨gs, x, y, kk, e, a, b, c1, by omega, r1, r2, by omega, r4⟩
def wp__law_pool : W0 := fun ds Q => ∃ ns : List Int, ds = [scD ns] ∧ ns.length ≤ 63 ∧ (∀ z ∈ ns, Builtin.Int.intBits z ≤ 1048576) ∧ ∀ o, PoolOk 0 o → Q o
def wp__law_take : W1 := fun o ds Q => ∃ (c many place : Nat), PoolOk c o ∧ c < lim ∧ ds = [.int (many : Nat), .int (place : Nat)] ∧ 1 ≤ many ∧ many ≤ lim ∧ ∀ (n : Nat) o', n < many → PoolOk (c + 1) o' → Q (.fz (.int (n : Nat))) o'
mutual
def plain : PyData → Bool
  | .none => true
  | .bool _ => true
  | .int _ => true
  | .str x => PyData.strOk x
  | .tuple ds => plainAll ds
  | .list ds => plainAll ds
  | _ => false
def plainAll : List PyData → Bool
  | [] => true
  | d :: ds => plain d && plainAll ds
end
mutual
def nodes : PyData → Nat
  | .tuple ds => 1 + nodesAll ds
  | .list ds => 1 + nodesAll ds
  | _ => 1
def nodesAll : List PyData → Nat
  | [] => 0
  | d :: ds => nodes d + nodesAll ds
end
def wp__law_same : W0 := fun ds Q => ∃ d, ds = [d, d] ∧ plain d = true ∧ nodes d ≤ 50000 ∧ Q (.fz (.bool true))
def keptD : PyData := .tuple (keptW.map dT)
def wp__law_kept : W0 := fun ds Q => ds = [] ∧ Q (.fz keptD)
def wp__law_is_name : W0 := wp_is_name
def wp__law_pick : W1 := fun o ds Q => ∃ (c : Nat) (d : PyData) (xs : List PyData), PoolOk c o ∧ c < lim ∧ ds = [d] ∧ (d = .list xs ∨ d = .tuple xs ∨ ∃ l : T, d = dT l ∧ Sml 1000 l ∧ xs = l.map fun z => dT [z]) ∧ 1 ≤ xs.length ∧ xs.length ≤ 1000 ∧ ∀ x o', x ∈ xs → PoolOk (c + 1) o' → Q (.fz x) o'
/-- a word as drawn -/
def OkW (w : T) : Prop := w ≠ [] ∧ w.length ≤ 8 ∧ ∀ c ∈ w, c ≠ 32 ∧ c ≠ 10 ∧ c < 128
def wp__law_word : W1 := fun o ds Q => ∃ (c : Nat), PoolOk c o ∧ c + 100 < lim ∧ ds = [.int 6] ∧ ∀ (w : T) o', OkW w → PoolOk (c + 10) o' → Q (.fz (dT w)) o'
def wp__law_named : W1 := fun o ds Q => ∃ (c : Nat), PoolOk c o ∧ c + 100 < lim ∧ ds = [.int 8] ∧ ∀ (l : T) o', isNm l = true → PoolOk (c + 10) o' → Q (.fz (dT l)) o'
def wp__law_bent : W1 := fun o ds Q => ∃ (c : Nat) (l : T), PoolOk c o ∧ c + 100 < lim ∧ ds = [dT l] ∧ isNm l = true ∧ ∀ (xs : List PyData) o', 1 ≤ xs.length → xs.length ≤ 100 → (∀ d ∈ xs, NmOk d) → PoolOk (c + 10) o' → Q (.ls xs) o'
def wp__law_names_asked : W1 := fun o ds Q => ∃ (c : Nat), PoolOk c o ∧ c + 1000 < lim ∧ ds = [] ∧ ∀ o', PoolOk (c + 100) o' → Q (.fz (.bool true)) o'
def wp__law_line : W1 := fun o ds Q => ∃ (c : Nat) (ws : List T), PoolOk c o ∧ c + 100 < lim ∧ ds = [.list (ws.map dT)] ∧ ws.length ≤ 5 ∧ (∀ w ∈ ws, OkW w) ∧ ∀ (l : T) o', wordsF l = ws → l.length ≤ 100 → (∀ c ∈ l, c ≠ 10 ∧ c < 128) → PoolOk (c + 10) o' → Q (.fz (dT l)) o'
def wp__law_drawn : W1 := fun o ds Q => ∃ (c : Nat), PoolOk c o ∧ c + 1000 < lim ∧ ds = [.int 5] ∧ ∀ (ws : List T) o', ws.length ≤ 5 → (∀ w ∈ ws, OkW w) → PoolOk (c + 60) o' → Q (.ls (ws.map dT)) o'
def wp__law_text_asked : W1 := fun o ds Q => ∃ (c many : Nat), PoolOk c o ∧ c + 100000 < lim ∧ ds = [.int (many : Nat)] ∧ many ≤ 400 ∧ ∀ o', PoolOk (c + 40000) o' → Q (.fz (.bool true)) o'
def wp__law_by_hand : W0 := fun ds Q => ds = [] ∧ Q (.fz (.bool true))
def wp_law : W0 := fun ds Q => ∃ ns : List Int, ds = [scD ns] ∧ ns.length ≤ 63 ∧ (∀ z ∈ ns, Builtin.Int.intBits z ≤ 1048576) ∧ Q (.fz (.bool true))
end K01
end
section
namespace K01
open PySem VL
def τ_lines_of : ES :=
    (sSeq (sSet 1 (eSplit (xVar 0) (xC c_NEWLINE)))
    (sSeq (sIf (tO (eOp opEq (xO (eIxS 1 (xO (eOp opSub (xO (eLenS 1)) (xC (.int 1)))))) (xC (.str (Str.ofString "")))))
    (sDrop (ePop 1))
    sNext)
    (sRet (oMv 1))))
def τ_line_words : ES :=
    (sRet (eLc (iSeq (xO (eSplit (xVar 0) (xC (.str (Str.ofString " ")))))) (gN 1) (tO (eOp opNe (xVar 1) (xC (.str (Str.ofString ""))))) (xVal 1) [1]))
def τ_is_passed_over : ES :=
    (sRet (eOr (eOp opEq (xO (eLenS 0)) (xC (.int 0))) (eStarts (xO (eIxS 0 (xC (.int 0)))) (xC (.str (Str.ofString "#"))))))
def τ_read_lines : ES :=
    (sSeq (sSet 1 (eLst aNil))
    (sSeq (sForE (aCons (xO (eCall wp_lines_of [] (aCons (xVal 0) aNil))) aNil) (gConss (gN 2) (gConss (gN 3) gNils))
    (sSeq (sSet 4 (eCall wp_line_words [] (aCons (xVal 3) aNil)))
    (sIf (tNotD (tTru (xO (eCall wp_is_passed_over [] (aCons (xVal 4) aNil)))))
    (sDrop (eApp false 1 (eTup (aCons (xO (eOp opAdd (xVar 2) (xC (.int 1)))) (aCons (xVal 4) aNil)))))
    sNext)))
    (sRet (oMv 1))))
def τ_is_name : ES :=
    (sSeq (sIf (tOrD (tNotD (tTru (xO (eIsi "str" (xVar 0))))) (tNotD (tO (eChain opLe opLe (xC (.int 1)) (xO (eLenS 0)) (xC (.int 8))))))
    (sRet (oX (xC (.bool false))))
    sNext)
    (sSeq (sIf (tOrD (tO (eOp opNotIn (xO (eIxS 0 (xC (.int 0)))) (xC c_LETTERS))) (tO (eOp opGt (xO (eCB cdLen (aCons (xO (eLc (iSeq (xVal 0)) (gN 1) (tO (eOp opNotIn (xVar 1) (xC c_SIGNS))) (xVal 1) [1])) aNil))) (xC (.int 0)))))
    (sRet (oX (xC (.bool false))))
    sNext)
    (sRet (eAnd (eOp opNotIn (xVar 0) (xC c_HEADS)) (eOp opNotIn (xVar 0) (xC c_WORDS))))))
def τ_words_of : ES :=
    (sRet (eCall wp_line_words [] (aCons (xVal 0) aNil)))
def τ_source_lines : ES :=
    (sRet (eCall wp_read_lines [] (aCons (xVal 0) aNil)))
def τ__law_pool : ES :=
    (sSeq (sSet 1 (eLst aNil))
    (sSeq (sSet 2 (oX (xC (.int 52011))))
    (sSeq (sFor (iSeq (xO (eSl (xVar 0) pNone (pSome (xC (.int 59)))))) (gN 3)
    (sSeq (sSet 4 (eOp opAdd (xO (eOp opMul (xC (.int 3)) (xO (eCB cdAbs (aCons (xO (eCB cdInt (aCons (xVar 3) aNil))) aNil))))) (xO (eCB cdInt (aCons (xO (eOp opLt (xVar 3) (xC (.int 0)))) aNil)))))
    (sSeq (sIf (tO (eOp opGe (xVar 4) (xO (eOp opPow (xC (.int 10)) (xC (.int 18))))))
    (sDrop (eApp false 1 (eOp opMod (xO (eCB cdInt (aCons (xVar 4) aNil))) (xO (eOp opShl (xC (.int 1)) (xC (.int 1300)))))))
    sNext)
    (sSet 2 (eOp opMod (xO (eCB cdInt (aCons (xO (eOp opAdd (xO (eOp opAdd (xO (eOp opMul (xVar 2) (xC (.int 62089)))) (xO (eOp opMod (xVar 4) (xC (.int 2147483029)))))) (xC (.int 17)))) aNil))) (xC (.int 2147483587)))))))
    (sRet (eTrL (aoCons (oMv 1) (aoCons (oX (xVal 2)) (aoCons (oX (xC (.int 0))) (aoCons eDNew aoNil)))))))))
def τ__law_take : ES :=
    (sSeq (sWhile (tAndD (tO (eOp opGt (xO (eCBE cdLen (eEl 0 (xC (.int 0))))) (xC (.int 0)))) (tO (eOp opEq (xO (eIxE opIx (eEl 0 (xC (.int 0))) (xC (.int 0)))) (xC (.int 0)))))
    (sDrop (eSME smPopAt (eEl 0 (xC (.int 0))) (aCons (xC (.int 0)) aNil))))
    (sSeq (sIf (tO (eOp opGt (xO (eCBE cdLen (eEl 0 (xC (.int 0))))) (xC (.int 0))))
    (sSeq (sSet 3 (eCB cdInt (aCons (xO (eIxE opIx (eEl 0 (xC (.int 0))) (xC (.int 0)))) aNil)))
    (sSeq (sPutE (eEl 0 (xC (.int 0))) (xC (.int 0)) (xO (eOp opDiv (xVar 3) (xVar 1))))
    (sRet (eOp opMod (xVar 3) (xVar 1)))))
    sNext)
    (sSeq (sPutS 0 (xC (.int 2)) (xO (eOp opAdd (xO (eIxS 0 (xC (.int 2)))) (xC (.int 1)))) (eOp opAdd (xO (eIxS 0 (xC (.int 2)))) (xC (.int 1))))
    (sSeq (sPutS 0 (xC (.int 1)) (xO (eOp opMod (xO (eCB cdInt (aCons (xO (eOp opAdd (xO (eOp opAdd (xO (eOp opMul (xO (eIxS 0 (xC (.int 1)))) (xC (.int 48271)))) (xO (eOp opMul (xC (.int 6781)) (xO (eIxS 0 (xC (.int 2)))))))) (xC (.int 5)))) aNil))) (xC (.int 2147483587)))) (eOp opMod (xO (eCB cdInt (aCons (xO (eOp opAdd (xO (eOp opAdd (xO (eOp opMul (xO (eIxS 0 (xC (.int 1)))) (xC (.int 48271)))) (xO (eOp opMul (xC (.int 6781)) (xO (eIxS 0 (xC (.int 2)))))))) (xC (.int 5)))) aNil))) (xC (.int 2147483587))))
    (sSeq (sSet 4 (eCB cdInt (aCons (xO (eOp opDiv (xO (eIxS 0 (xC (.int 1)))) (xC (.int 73)))) aNil)))
    (sSeq (sIf (tO (eOp opEq (xVar 2) (xC (.int 0))))
    (sRet (eOp opMod (xVar 4) (xVar 1)))
    sNext)
    (sSeq (sIf (tO (eDInE false 2 (eEl 0 (xC (.int 3)))))
    (sDPutE (eEl 0 (xC (.int 3))) 2 (xO (eOp opMod (xO (eCB cdInt (aCons (xO (eOp opDiv (xVar 4) (xC (.int 11)))) aNil))) (xC (.int 9)))))
    sNext)
    (sSeq (sIf (tO (eOp opGt (xO (eDGetE (eEl 0 (xC (.int 3))) 2)) (xC (.int 1))))
    (sRet (eOp opMod (xVar 4) (xVar 1)))
    sNext)
    (sRet (eIf (tO (eOp opEq (xO (eDGetE (eEl 0 (xC (.int 3))) 2)) (xC (.int 0)))) (oX (xC (.int 0))) (eOp opSub (xVar 1) (xC (.int 1)))))))))))))
def τ__law_same : ES :=
    (sSeq (sSet 2 (eLst (aCons (xO (eTup (aCons (xVal 0) (aCons (xVal 1) aNil)))) aNil)))
    (sSeq (sWhile (tO (eOp opGt (xO (eLenS 2)) (xC (.int 0))))
    (sSeq (sAsg (xO (ePop 2)) (gTupD 2 (gConss (gN 3) (gConss (gN 4) gNils))))
    (sIf (tTru (xO (eIsi2 "tuple" "list" (xVar 4))))
    (sSeq (sIf (tOrD (tO (eOp opNe (xO (eIsi "tuple" (xVar 3))) (xO (eIsi "tuple" (xVar 4))))) (tOrD (tO (eOp opNe (xO (eIsi "list" (xVar 3))) (xO (eIsi "list" (xVar 4))))) (tO (eOp opNe (xO (eLenS 3)) (xO (eLenS 4))))))
    (sRet (oX (xC (.bool false))))
    sNext)
    (sDrop (eExt 2 (eLc (iRange1 (aCons (xO (eLenS 4)) aNil)) (gN 5) tYesD (xO (eTup (aCons (xO (eIxS 3 (xVar 5))) (aCons (xO (eIxS 4 (xVar 5))) aNil)))) [5]))))
    (sIf (tO (eOp opIsN (xVar 4) (xC .none)))
    (sIf (tO (eOp opNotN (xVar 3) (xC .none)))
    (sRet (oX (xC (.bool false))))
    sNext)
    (sIf (tTru (xO (eIsi "bool" (xVar 4))))
    (sIf (tOrD (tNotD (tTru (xO (eIsi "bool" (xVar 3))))) (tO (eOp opNe (xVar 3) (xVar 4))))
    (sRet (oX (xC (.bool false))))
    sNext)
    (sIf (tTru (xO (eIsi "str" (xVar 4))))
    (sIf (tOrD (tNotD (tTru (xO (eIsi "str" (xVar 3))))) (tO (eOp opNe (xVar 3) (xVar 4))))
    (sRet (oX (xC (.bool false))))
    sNext)
    (sIf (tOrD (tNotD (tTru (xO (eIsi "int" (xVar 3))))) (tOrD (tTru (xO (eIsi "bool" (xVar 3)))) (tO (eOp opNe (xVar 3) (xVar 4)))))
    (sRet (oX (xC (.bool false))))
    sNext)))))))
    (sRet (oX (xC (.bool true))))))
def τ__law_kept : ES :=
    (sRet (eTup (aCons (xC (.str (Str.ofString "form"))) (aCons (xC (.str (Str.ofString "box"))) (aCons (xC (.str (Str.ofString "choice"))) (aCons (xC (.str (Str.ofString "part"))) (aCons (xC (.str (Str.ofString "end"))) (aCons (xC (.str (Str.ofString "rules"))) (aCons (xC (.str (Str.ofString "use"))) (aCons (xC (.str (Str.ofString "if"))) (aCons (xC (.str (Str.ofString "then"))) (aCons (xC (.str (Str.ofString "and"))) (aCons (xC (.str (Str.ofString "or"))) (aCons (xC (.str (Str.ofString "not"))) (aCons (xC (.str (Str.ofString "never"))) (aCons (xC (.str (Str.ofString "all"))) (aCons (xC (.str (Str.ofString "most"))) (aCons (xC (.str (Str.ofString "least"))) (aCons (xC (.str (Str.ofString "just"))) (aCons (xC (.str (Str.ofString "same"))) aNil))))))))))))))))))))
def τ__law_is_name : ES :=
    (sSeq (sIf (tOrD (tNotD (tTru (xO (eIsi "str" (xVar 0))))) (tOrD (tNotD (tO (eChain opLe opLe (xC (.int 1)) (xO (eLenS 0)) (xC (.int 8))))) (tO (eOp opIn (xVar 0) (xO (eCall wp__law_kept [] aNil))))))
    (sRet (oX (xC (.bool false))))
    sNext)
    (sSeq (sSet 1 (oX (xC (.str (Str.ofString "abcdefghijklmnopqrstuvwxyz0123456789")))))
    (sRet (eAnd (eOp opEq (xO (eCB cdLen (aCons (xO (eLc (iSeq (xVal 0)) (gN 2) (tNotInS 1 (xVar 2)) (xVal 2) [2])) aNil))) (xC (.int 0))) (eOp opNotIn (xO (eIxS 0 (xC (.int 0)))) (xC (.str (Str.ofString "0123456789"))))))))
def τ__law_pick : ES :=
    (sRet (eIxS 1 (xO (eCallI wp__law_take [.int 0] (aCons (xVar 0) (aCons (xO (eLenS 1)) aNil))))))
def τ__law_word : ES :=
    (sSeq (sSet 2 (eOp opIx (xO (eTup (aCons (xC (.str (Str.ofString "ab"))) (aCons (xC (.str (Str.ofString "abcdefghijklmnopqrstuvwxyz0123456789"))) (aCons (xO (eOp opAdd (xC (.str (Str.ofString "aZ9_-+*/=<>()[]{}.,:;!?'#~^|&$@"))) (xC (.str (Str.ofString "\""))))) (aCons (xC (.str (Str.ofString "#"))) (aCons (xC (.str (Str.ofString "0123456789"))) aNil))))))) (xO (eCallI wp__law_take [] (aCons (xVar 0) (aCons (xC (.int 5)) (aCons (xC (.int 1)) aNil)))))))
    (sRet (eJoin (xC (.str (Str.ofString ""))) (xO (eLc (iRange1 (aCons (xO (eOp opAdd (xC (.int 1)) (xO (eCallI wp__law_take [.int 0] (aCons (xVar 0) (aCons (xVal 1) aNil)))))) aNil)) (gN 3) tYesD (xO (eIxS 2 (xO (eCallI wp__law_take [.int 0] (aCons (xVar 0) (aCons (xO (eLenS 2)) aNil)))))) [3])))))
def τ__law_named : ES :=
    (sSeq (sSet 2 (oX (xC (.str (Str.ofString "abcdefghijklmnopqrstuvwxyz")))))
    (sSeq (sSet 3 (eIxS 2 (xO (eCallI wp__law_take [] (aCons (xVar 0) (aCons (xC (.int 26)) (aCons (xC (.int 2)) aNil)))))))
    (sSeq (sFor (iRange1 (aCons (xO (eCallI wp__law_take [] (aCons (xVar 0) (aCons (xVal 1) (aCons (xC (.int 3)) aNil))))) aNil)) (gN 4)
    (sSet 3 (eOp opAdd (xVar 3) (xO (eOp opIx (xO (eOp opAdd (xVar 2) (xC (.str (Str.ofString "0123456789"))))) (xO (eCallI wp__law_take [] (aCons (xVar 0) (aCons (xC (.int 36)) (aCons (xC (.int 4)) aNil))))))))))
    (sRet (eIf (tO (eOp opNotIn (xVar 3) (xO (eCall wp__law_kept [] aNil)))) (oX (xVal 3)) (eOp opAdd (xO (eSl (xVar 3) pNone (pSome (xO (eOp1 op1Neg (xC (.int 1))))))) (xC (.str (Str.ofString "0")))))))))
def τ__law_bent : ES :=
    (sSeq (sSet 2 (eCallI wp__law_take [.int 0] (aCons (xVar 0) (aCons (xO (eLenS 1)) aNil))))
    (sSeq (sSet 3 (eCallI wp__law_pick [] (aCons (xVar 0) (aCons (xO (eOp opAdd (xC (.str (Str.ofString "AZ_-#. ,09~"))) (xC (.str (Str.ofString "'"))))) aNil))))
    (sSeq (sSet 4 (eCallI wp__law_pick [] (aCons (xVar 0) (aCons (xO (eCall wp__law_kept [] aNil)) aNil))))
    (sRet (eLst (aCons (xO (eOp opAdd (xO (eOp opAdd (xO (eSl (xVar 1) pNone (pSome (xVar 2)))) (xVar 3))) (xO (eSl (xVar 1) (pSome (xO (eOp opAdd (xVar 2) (xC (.int 1))))) pNone)))) (aCons (xO (eOp opAdd (xO (eOp opAdd (xO (eSl (xVar 1) pNone (pSome (xVar 2)))) (xVar 3))) (xO (eSl (xVar 1) (pSome (xVar 2)) pNone)))) (aCons (xO (eOp opAdd (xVar 1) (xO (eSl (xC (.str (Str.ofString "abcdefgh"))) pNone (pSome (xO (eOp opSub (xC (.int 9)) (xO (eLenS 1))))))))) (aCons (xO (eSl (xO (eOp opAdd (xVar 1) (xC (.str (Str.ofString "12345678"))))) pNone (pSome (xC (.int 8))))) (aCons (xC (.str (Str.ofString ""))) (aCons (xVal 3) (aCons (xO (eOp opAdd (xO (eCallI wp__law_pick [] (aCons (xVar 0) (aCons (xC (.str (Str.ofString "0123456789"))) aNil)))) (xO (eSl (xVar 1) (pSome (xC (.int 1))) pNone)))) (aCons (xO (eUpper (xVar 1))) (aCons (xVal 4) (aCons (xO (eOp opAdd (xVar 4) (xO (eCallI wp__law_pick [] (aCons (xVar 0) (aCons (xC (.str (Str.ofString "s0x"))) aNil)))))) (aCons (xO (eSl (xVar 4) pNone (pSome (xO (eOp1 op1Neg (xC (.int 1))))))) (aCons (xO (eUpper (xVar 4))) (aCons (xO (eOp opAdd (xO (eIxS 4 (xC (.int 0)))) (xVar 4))) (aCons (xO (eOp opAdd (xC (.str (Str.ofString " "))) (xVar 1))) (aCons (xO (eOp opAdd (xVar 1) (xC (.str (Str.ofString " "))))) (aCons (xO (eTup (aCons (xVal 1) aNil))) (aCons (xO (eLst (aCons (xVal 1) aNil))) (aCons (xC .none) (aCons (xC (.bool true)) (aCons (xO (eLenS 1)) (aCons (xO (eTup aNil)) (aCons (xO (eSl (xVar 1) pNone (pSome (xC (.int 1))))) (aCons (xO (eOp opMul (xO (eOp opPow (xC (.int 10)) (xC (.int 60)))) (xO (eOp opPow (xC (.int 10)) (xC (.int 10)))))) aNil))))))))))))))))))))))))))))
def τ__law_names_asked : ES :=
    (sSeq (sFor (iRange1 (aCons (xC (.int 3)) aNil)) (gN 1)
    (sSeq (sSet 2 (eCallI wp__law_named [] (aCons (xVar 0) (aCons (xC (.int 8)) aNil))))
    (sSeq (sIf (tNotD (tTru (xO (eCall wp__law_same [] (aCons (xO (eTup (aCons (xO (eCall wp_is_name [] (aCons (xVal 2) aNil))) (aCons (xO (eCallK wp_is_name 0 1 [0] aNil (aCons (xVal 2) aNil))) aNil)))) (aCons (xO (eTup (aCons (xC (.bool true)) (aCons (xC (.bool true)) aNil)))) aNil))))))
    (sRet (oX (xC (.bool false))))
    sNext)
    (sSeq (sSet 3 (eCallI wp__law_bent [] (aCons (xVar 0) (aCons (xVal 2) aNil))))
    (sFor (iRange1 (aCons (xC (.int 5)) aNil)) (gN 4)
    (sSeq (sSet 5 (eCallI wp__law_pick [] (aCons (xVar 0) (aCons (xVal 3) aNil))))
    (sIf (tNotD (tTru (xO (eCall wp__law_same [] (aCons (xO (eCall wp_is_name [] (aCons (xVal 5) aNil))) (aCons (xO (eCall wp__law_is_name [] (aCons (xVal 5) aNil))) aNil))))))
    (sRet (oX (xC (.bool false))))
    sNext)))))))
    (sRet (oX (xC (.bool true)))))
def τ__law_line : ES :=
    (sSeq (sSet 2 (eOp opMulS (xC (.str (Str.ofString " "))) (xO (eOp opIx (xO (eTup (aCons (xC (.int 0)) (aCons (xC (.int 0)) (aCons (xC (.int 1)) (aCons (xC (.int 3)) aNil)))))) (xO (eCallI wp__law_take [] (aCons (xVar 0) (aCons (xC (.int 4)) (aCons (xC (.int 5)) aNil)))))))))
    (sSeq (sFor (iRange1 (aCons (xO (eLenS 1)) aNil)) (gN 3)
    (sSet 2 (eOp opAdd (xO (eOp opAdd (xVar 2) (xO (eIxS 1 (xVar 3))))) (xO (eOp opMulS (xC (.str (Str.ofString " "))) (xO (eOp opAdd (xO (eCB cdInt (aCons (xO (eOp opLt (xO (eOp opAdd (xVar 3) (xC (.int 1)))) (xO (eLenS 1)))) aNil))) (xO (eOp opIx (xO (eTup (aCons (xC (.int 0)) (aCons (xC (.int 0)) (aCons (xC (.int 1)) (aCons (xC (.int 4)) aNil)))))) (xO (eCallI wp__law_take [] (aCons (xVar 0) (aCons (xC (.int 4)) (aCons (xC (.int 6)) aNil))))))))))))))
    (sRet (oMv 2))))
def τ__law_drawn : ES :=
    (sSeq (sSet 2 (eLc (iRange1 (aCons (xO (eCallI wp__law_take [] (aCons (xVar 0) (aCons (xO (eOp opAdd (xVar 1) (xC (.int 1)))) (aCons (xC (.int 7)) aNil))))) aNil)) (gN 3) tYesD (xO (eCallI wp__law_word [] (aCons (xVar 0) (aCons (xC (.int 6)) aNil)))) [3]))
    (sSeq (sIf (tAndD (tO (eOp opGt (xO (eLenS 2)) (xC (.int 0)))) (tO (eOp opEq (xO (eCallI wp__law_take [] (aCons (xVar 0) (aCons (xC (.int 5)) (aCons (xC (.int 8)) aNil))))) (xC (.int 0)))))
    (sPutS 2 (xC (.int 0)) (xO (eOp opAdd (xC (.str (Str.ofString "#"))) (xO (eSl (xO (eIxS 2 (xC (.int 0)))) (pSome (xC (.int 1))) pNone)))) (eOp opAdd (xC (.str (Str.ofString "#"))) (xO (eSl (xO (eIxS 2 (xC (.int 0)))) (pSome (xC (.int 1))) pNone))))
    sNext)
    (sRet (oMv 2))))
def τ__law_text_asked : ES :=
    (sSeq (sSet 2 (eLc (iRange1 (aCons (xVar 1) aNil)) (gN 7) tYesD (xO (eCallI wp__law_drawn [] (aCons (xVar 0) (aCons (xC (.int 5)) aNil)))) [7]))
    (sSeq (sSet 3 (eLc (iSeq (xVal 2)) (gN 8) tYesD (xO (eCallI wp__law_line [] (aCons (xVar 0) (aCons (xVal 8) aNil)))) [8]))
    (sSeq (sSet 4 (eLst aNil))
    (sSeq (sFor (iRange1 (aCons (xO (eLenS 2)) aNil)) (gN 5)
    (sIf (tAndD (tO (eOp opGt (xO (eCB cdLen (aCons (xO (eIxS 2 (xVar 5))) aNil))) (xC (.int 0)))) (tO (eOp opNe (xO (eOp opIx (xO (eOp opIx (xO (eIxS 2 (xVar 5))) (xC (.int 0)))) (xC (.int 0)))) (xC (.str (Str.ofString "#"))))))
    (sDrop (eApp false 4 (eTup (aCons (xO (eOp opAdd (xVar 5) (xC (.int 1)))) (aCons (xO (eIxS 2 (xVar 5))) aNil)))))
    sNext))
    (sSeq (sFor (iRange1 (aCons (xO (eCB cdMin2 (aCons (xC (.int 3)) (aCons (xO (eLenS 2)) aNil)))) aNil)) (gN 5)
    (sIf (tNotD (tTru (xO (eCall wp__law_same [] (aCons (xO (eTup (aCons (xO (eCall wp_words_of [] (aCons (xO (eIxS 3 (xVar 5))) aNil))) (aCons (xO (eCallK wp_words_of 0 1 [0] aNil (aCons (xO (eIxS 3 (xVar 5))) aNil))) aNil)))) (aCons (xO (eTup (aCons (xO (eIxS 2 (xVar 5))) (aCons (xO (eIxS 2 (xVar 5))) aNil)))) aNil))))))
    (sRet (oX (xC (.bool false))))
    sNext))
    (sSeq (sSet 6 (eOp opAdd (xO (eJoin (xC (.str (Str.ofString "\n"))) (xVar 3))) (xO (eOp opIx (xO (eTup (aCons (xC (.str (Str.ofString ""))) (aCons (xC (.str (Str.ofString "\n"))) (aCons (xC (.str (Str.ofString "\n\n"))) (aCons (xC (.str (Str.ofString "\n  \n#"))) aNil)))))) (xO (eCallI wp__law_take [] (aCons (xVar 0) (aCons (xC (.int 4)) (aCons (xC (.int 9)) aNil)))))))))
    (sRet (eCall wp__law_same [] (aCons (xO (eCall wp_source_lines [] (aCons (xVal 6) aNil))) (aCons (xVal 4) aNil))))))))))
def τ__law_by_hand : ES :=
    (sSeq (sSet 0 (eTup (aCons (xO (eCall wp_words_of [] (aCons (xC (.str (Str.ofString "  if a then b"))) aNil))) (aCons (xO (eCall wp_source_lines [] (aCons (xC (.str (Str.ofString "a\n\n# b\nc d"))) aNil))) (aCons (xO (eCall wp_is_name [] (aCons (xC (.str (Str.ofString "rule"))) aNil))) (aCons (xO (eCall wp_is_name [] (aCons (xC (.str (Str.ofString "box"))) aNil))) (aCons (xO (eCall wp_words_of [] (aCons (xC (.str (Str.ofString ""))) aNil))) (aCons (xO (eCall wp_words_of [] (aCons (xC (.str (Str.ofString "   "))) aNil))) (aCons (xO (eCall wp_words_of [] (aCons (xC (.str (Str.ofString "a"))) aNil))) aNil)))))))))
    (sSeq (sIf (tNotD (tTru (xO (eCall wp__law_same [] (aCons (xVal 0) (aCons (xO (eTup (aCons (xO (eLst (aCons (xC (.str (Str.ofString "if"))) (aCons (xC (.str (Str.ofString "a"))) (aCons (xC (.str (Str.ofString "then"))) (aCons (xC (.str (Str.ofString "b"))) aNil)))))) (aCons (xO (eLst (aCons (xO (eTup (aCons (xC (.int 1)) (aCons (xO (eLst (aCons (xC (.str (Str.ofString "a"))) aNil))) aNil)))) (aCons (xO (eTup (aCons (xC (.int 4)) (aCons (xO (eLst (aCons (xC (.str (Str.ofString "c"))) (aCons (xC (.str (Str.ofString "d"))) aNil)))) aNil)))) aNil)))) (aCons (xC (.bool true)) (aCons (xC (.bool false)) (aCons (xO (eLst aNil)) (aCons (xO (eLst aNil)) (aCons (xO (eLst (aCons (xC (.str (Str.ofString "a"))) aNil))) aNil))))))))) aNil))))))
    (sRet (oX (xC (.bool false))))
    sNext)
    (sSeq (sSet 0 (eTup (aCons (xO (eCall wp_source_lines [] (aCons (xC (.str (Str.ofString ""))) aNil))) (aCons (xO (eCall wp_source_lines [] (aCons (xC (.str (Str.ofString "\n"))) aNil))) (aCons (xO (eCallK wp_source_lines 0 1 [0] aNil (aCons (xC (.str (Str.ofString "a#b #c\n #d e\n\n  f # g"))) aNil))) (aCons (xO (eCall wp_source_lines [] (aCons (xC (.str (Str.ofString "\n\na\n\n"))) aNil))) aNil))))))
    (sSeq (sIf (tNotD (tTru (xO (eCall wp__law_same [] (aCons (xVal 0) (aCons (xO (eTup (aCons (xO (eLst aNil)) (aCons (xO (eLst aNil)) (aCons (xO (eLst (aCons (xO (eTup (aCons (xC (.int 1)) (aCons (xO (eLst (aCons (xC (.str (Str.ofString "a#b"))) (aCons (xC (.str (Str.ofString "#c"))) aNil)))) aNil)))) (aCons (xO (eTup (aCons (xC (.int 4)) (aCons (xO (eLst (aCons (xC (.str (Str.ofString "f"))) (aCons (xC (.str (Str.ofString "#"))) (aCons (xC (.str (Str.ofString "g"))) aNil))))) aNil)))) aNil)))) (aCons (xO (eLst (aCons (xO (eTup (aCons (xC (.int 3)) (aCons (xO (eLst (aCons (xC (.str (Str.ofString "a"))) aNil))) aNil)))) aNil))) aNil)))))) aNil))))))
    (sRet (oX (xC (.bool false))))
    sNext)
    (sSeq (sFor (iSeq (xO (eCall wp__law_kept [] aNil))) (gN 1)
    (sIf (tNotD (tTru (xO (eCall wp__law_same [] (aCons (xO (eTup (aCons (xO (eCall wp_is_name [] (aCons (xVal 1) aNil))) (aCons (xO (eCall wp_is_name [] (aCons (xO (eOp opAdd (xVar 1) (xC (.str (Str.ofString "1"))))) aNil))) (aCons (xO (eCall wp_is_name [] (aCons (xO (eOp opAdd (xC (.str (Str.ofString "x"))) (xVar 1))) aNil))) aNil))))) (aCons (xO (eTup (aCons (xC (.bool false)) (aCons (xC (.bool true)) (aCons (xC (.bool true)) aNil))))) aNil))))))
    (sRet (oX (xC (.bool false))))
    sNext))
    (sSeq (sFor (iSeq (xO (eTup (aCons (xO (eTup (aCons (xC (.str (Str.ofString "a"))) (aCons (xC (.bool true)) aNil)))) (aCons (xO (eTup (aCons (xC (.str (Str.ofString "abcdefgh"))) (aCons (xC (.bool true)) aNil)))) (aCons (xO (eTup (aCons (xC (.str (Str.ofString "abcdefghi"))) (aCons (xC (.bool false)) aNil)))) (aCons (xO (eTup (aCons (xC (.str (Str.ofString "a1b2c3d4"))) (aCons (xC (.bool true)) aNil)))) (aCons (xO (eTup (aCons (xC (.str (Str.ofString "1a"))) (aCons (xC (.bool false)) aNil)))) (aCons (xO (eTup (aCons (xC (.str (Str.ofString "aB"))) (aCons (xC (.bool false)) aNil)))) (aCons (xO (eTup (aCons (xC (.str (Str.ofString "a b"))) (aCons (xC (.bool false)) aNil)))) (aCons (xO (eTup (aCons (xC (.str (Str.ofString "a-b"))) (aCons (xC (.bool false)) aNil)))) (aCons (xO (eTup (aCons (xC (.str (Str.ofString ""))) (aCons (xC (.bool false)) aNil)))) (aCons (xO (eTup (aCons (xC .none) (aCons (xC (.bool false)) aNil)))) aNil))))))))))))) (gTupD 2 (gConss (gN 2) (gConss (gN 3) gNils)))
    (sIf (tNotD (tTru (xO (eCall wp__law_same [] (aCons (xO (eCall wp_is_name [] (aCons (xVal 2) aNil))) (aCons (xVal 3) aNil))))))
    (sRet (oX (xC (.bool false))))
    sNext))
    (sRet (eCall wp__law_same [] (aCons (xO (eTup (aCons (xO (eCall wp_is_name [] (aCons (xO (eTup (aCons (xC (.str (Str.ofString "a"))) aNil))) aNil))) (aCons (xO (eCall wp_is_name [] (aCons (xC (.int 1)) aNil))) (aCons (xO (eCall wp_is_name [] (aCons (xO (eLst (aCons (xC (.str (Str.ofString "a"))) aNil))) aNil))) aNil))))) (aCons (xO (eTup (aCons (xC (.bool false)) (aCons (xC (.bool false)) (aCons (xC (.bool false)) aNil))))) aNil))))))))))
def τ_law : ES :=
    (sSeq (sSet 1 (eCall wp__law_pool [] (aCons (xVal 0) aNil)))
    (sSeq (sIf (tNotD (tTru (xO (eCallI wp__law_names_asked [] (aCons (xVar 1) aNil)))))
    (sRet (oX (xC (.bool false))))
    sNext)
    (sSeq (sFor (iRange1 (aCons (xC (.int 4)) aNil)) (gN 2)
    (sIf (tNotD (tTru (xO (eCallI wp__law_text_asked [] (aCons (xVar 1) (aCons (xO (eCallI wp__law_take [.int 0] (aCons (xVar 1) (aCons (xC (.int 9)) aNil)))) aNil))))))
    (sRet (oX (xC (.bool false))))
    sNext))
    (sSeq (sIf (tAndD (tO (eOp opEq (xO (eCallI wp__law_take [.int 0] (aCons (xVar 1) (aCons (xC (.int 11)) aNil)))) (xC (.int 5)))) (tNotD (tTru (xO (eCallI wp__law_text_asked [] (aCons (xVar 1) (aCons (xC (.int 396)) aNil)))))))
    (sRet (oX (xC (.bool false))))
    sNext)
    (sRet (eCall wp__law_by_hand [] aNil))))))
end K01
end
section
namespace K01
open SX PySem L2 VL
theorem s_nl : Str.ofString "\n" = S [10] := by decide +kernel
theorem s_sp : Str.ofString " " = S [32] := by decide +kernel
theorem s_hash : Str.ofString "#" = S [35] := by decide +kernel
theorem s_empty : Str.ofString "" = S [] := by decide +kernel
def lettersT : T := [97, 98, 99, 100, 101, 102, 103, 104, 105, 106, 107, 108, 109, 110, 111, 112, 113, 114, 115, 116, 117, 118, 119, 120, 121, 122]
def digitsT : T := [48, 49, 50, 51, 52, 53, 54, 55, 56, 57]
theorem s_letters : Str.ofString "abcdefghijklmnopqrstuvwxyz" = S lettersT := by decide +kernel
theorem s_signs : Str.ofString "abcdefghijklmnopqrstuvwxyz0123456789" = S (lettersT ++ digitsT) := by decide +kernel
theorem s_digits : Str.ofString "0123456789" = S digitsT := by decide +kernel
theorem c_nl : c_NEWLINE = dT [10] := congrArg PyData.str s_nl
theorem c_let : c_LETTERS = dT lettersT := congrArg PyData.str s_letters
theorem c_sig : c_SIGNS = dT (lettersT ++ digitsT) := congrArg PyData.str s_signs
theorem heads_eq : (["form", "box", "choice", "part", "end", "rules", "use"] : List String).map Str.ofString = headsW.map S := by decide +kernel
theorem words_eq : (["if", "then", "and", "or", "not", "never", "all", "most", "least", "just", "same"] : List String).map Str.ofString = wordsW.map S := by decide +kernel
theorem c_heads : c_HEADS = .tuple (headsW.map dT) := by
  have := congrArg (List.map PyData.str) heads_eq
  rw [List.map_map, List.map_map] at this
  exact congrArg PyData.tuple this
theorem c_words : c_WORDS = .tuple (wordsW.map dT) := by
  have := congrArg (List.map PyData.str) words_eq
  rw [List.map_map, List.map_map] at this
  exact congrArg PyData.tuple this
theorem in_letters (c : Nat) : decide (c ∈ lettersT) = inL c := by
  unfold inL
  rw [← Bool.decide_and]
  refine decide_eq_decide.mpr ⟨fun h => ?_, fun ⟨h1, h2⟩ => ?_⟩
  · simp only [lettersT, List.mem_cons, List.not_mem_nil, or_false] at h; omega
  · simp only [lettersT, List.mem_cons, List.not_mem_nil, or_false]; omega
theorem in_digits (c : Nat) : decide (c ∈ digitsT) = inD c := by
  unfold inD
  rw [← Bool.decide_and]
  refine decide_eq_decide.mpr ⟨fun h => ?_, fun ⟨h1, h2⟩ => ?_⟩
  · simp only [digitsT, List.mem_cons, List.not_mem_nil, or_false] at h; omega
  · simp only [digitsT, List.mem_cons, List.not_mem_nil, or_false]; omega
theorem in_signs (c : Nat) : decide (c ∈ lettersT ++ digitsT) = inS c := by
  unfold inS
  rw [← in_letters, ← in_digits, ← Bool.decide_or]
  exact decide_eq_decide.mpr List.mem_append
/-! operations on texts -/
theorem enc_T_eqv (a b : T) : PyData.eqv (dT a) (dT b) = decide (a = b) := by
  show (S a == S b) = _
  exact S_beq_eq
theorem any_T (x : T) : ∀ xs : List T, ((xs.map dT).any fun z => PyData.eqv z (dT x)) = isIn x xs
  | [] => rfl
  | y :: xs => by
    rw [List.map_cons, List.any_cons, any_T x xs, enc_T_eqv]
    rfl
theorem ok_T {n : Nat} {l : T} (h : Sml n l) : PyData.strOk (S l) = true := by
  show (S l).cps.all (· < 0x110000) = true
  rw [← Array.all_toList, List.all_eq_true]
  exact fun c hc => decide_eq_true (h.2 c hc)
theorem shp_T {n : Nat} {l : T} (h : Sml n l) : shaped (dT l) := shaped_str (ok_T h)
theorem shp_Ts {xs : List T} (h : ∀ l ∈ xs, Sml 1000 l) : shaped (.tuple (xs.map dT)) := by
  have a : PyData.canLayAll0 (xs.map dT) = true := by
    induction xs with
    | nil => rfl
    | cons x xs ih =>
      show (PyData.strOk (S x) && PyData.canLayAll0 (xs.map dT)) = true
      rw [ok_T (h x (by simp)), ih fun l hl => h l (by simp [hl])]; rfl
  have d : PyData.depthAll (xs.map dT) ≤ 1 := by
    clear a h
    induction xs with
    | nil => simp [PyData.depthAll]
    | cons x xs ih => simp only [List.map_cons, PyData.depthAll]; have : (dT x).depth ≤ 1 := by simp [dT, PyData.depth]
                      omega
  unfold shaped SeqAt.shaped
  rw [Bool.and_eq_true]
  refine ⟨by simpa [PyData.canLay0] using a, decide_eq_true ?_⟩
  simp only [PyData.depth]
  omega
theorem op_eqT {n m : Nat} {a b : T} {Q : O → Prop} (ha : Sml n a) (hb : Sml m b) (h : Q (.fz (.bool (decide (a = b))))) : opEq (dT a) (dT b) Q := ⟨shp_T ha, shp_T hb, by rw [enc_T_eqv]; exact h⟩
theorem op_neT {n m : Nat} {a b : T} {Q : O → Prop} (ha : Sml n a) (hb : Sml m b) (h : Q (.fz (.bool (!decide (a = b))))) : opNe (dT a) (dT b) Q := ⟨shp_T ha, shp_T hb, by rw [enc_T_eqv]; exact h⟩
theorem op_inTs {n : Nat} {a : T} {xs : List T} {Q : O → Prop} (ha : Sml n a) (hx : ∀ l ∈ xs, Sml 1000 l) (h : Q (.fz (.bool (isIn a xs)))) : opIn (dT a) (.tuple (xs.map dT)) Q := ⟨shp_T ha, shp_Ts hx, by rw [any_T]; exact h⟩
theorem op_notInTs {n : Nat} {a : T} {xs : List T} {Q : O → Prop} (ha : Sml n a) (hx : ∀ l ∈ xs, Sml 1000 l) (h : Q (.fz (.bool (!isIn a xs)))) : opNotIn (dT a) (.tuple (xs.map dT)) Q := ⟨shp_T ha, shp_Ts hx, by rw [any_T]; exact h⟩
theorem op_notInC {c : Nat} {l : T} {Q : O → Prop} (h : Q (.fz (.bool (!decide (c ∈ l))))) : opNotIn (dT [c]) (dT l) Q := by
  show Q (.fz (.bool (!(!(Builtin.Str.occurrences (S l) (S [c]) 0 (S l).length 1).isEmpty))))
  rw [in_one]; exact h
theorem op_ixC {l : T} {x : Int} (j : Nat) (ej : x = (j : Int)) {c : Nat} {Q : O → Prop} (e : l[j]? = some c) (hl : l.length ≤ 100000) (h : Q (.fz (dT [c]))) : opIx (dT l) (.int x) Q :=
  ⟨by rw [S_len]; exact Nat.le_trans hl (Nat.le_of_ble_eq_true rfl), c, by rw [ej]; exact atI_nat e, h⟩
theorem op_addTx {a b : T} {Q : O → Prop} (h1 : a.length + b.length ≤ 100000) (h : Q (.fz (dT (a ++ b)))) : opAdd (dT a) (dT b) Q :=
  ⟨by rw [S_len, S_len]; exact Nat.le_trans h1 (Nat.le_of_ble_eq_true rfl), by rw [S_cat]; exact h⟩
theorem cd_lenT' {l : T} {Q : O → Prop} (hl : l.length ≤ 100000) (h : Q (.fz (.int (l.length : Nat)))) : cdLen [dT l] Q :=
  ⟨by rw [S_len]; exact Nat.le_trans hl (Nat.le_of_ble_eq_true rfl), by rw [S_len]; exact h⟩
theorem heads_sml : ∀ l ∈ headsW, Sml 1000 l := by
  have : (headsW.all fun l => decide (l.length ≤ 1000) && l.all fun c => decide (c < 1114112)) = true := by decide +kernel
  intro l hl
  have := List.all_eq_true.mp this l hl
  rw [Bool.and_eq_true, decide_eq_true_eq, List.all_eq_true] at this
  exact ⟨this.1, fun c hc => of_decide_eq_true (this.2 c hc)⟩
theorem words_sml : ∀ l ∈ wordsW, Sml 1000 l := by
  have : (wordsW.all fun l => decide (l.length ≤ 1000) && l.all fun c => decide (c < 1114112)) = true := by decide +kernel
  intro l hl
  have := List.all_eq_true.mp this l hl
  rw [Bool.and_eq_true, decide_eq_true_eq, List.all_eq_true] at this
  exact ⟨this.1, fun c hc => of_decide_eq_true (this.2 c hc)⟩
theorem kept_sml : ∀ l ∈ keptW, Sml 1000 l := fun l hl => by
  rcases List.mem_append.mp hl with h | h
  · exact heads_sml l h
  · exact words_sml l h
theorem isIn_app {α : Type} [DecidableEq α] (x : α) (a b : List α) : isIn x (a ++ b) = (isIn x a || isIn x b) := by
  unfold isIn
  rw [List.any_append]
theorem filt_len (l : T) (p : Nat → Bool) : decide ((((l.filter fun c => !p c).map fun c => dT [c]).length : Int) > 0) = !l.all p := by
  rw [List.length_map]
  induction l with
  | nil => rfl
  | cons c l ih =>
    rw [List.filter_cons, List.all_cons]
    cases p c with
    | true => simpa using ih
    | false => simp

theorem c_sp : PyData.str (Str.ofString " ") = dT [32] := congrArg PyData.str s_sp
theorem c_hash : PyData.str (Str.ofString "#") = dT [35] := congrArg PyData.str s_hash
theorem c_empty : PyData.str (Str.ofString "") = dT [] := congrArg PyData.str s_empty
theorem c_nl' : PyData.str (Str.ofString "\n") = dT [10] := congrArg PyData.str s_nl
theorem c_letters' : PyData.str (Str.ofString "abcdefghijklmnopqrstuvwxyz") = dT lettersT := congrArg PyData.str s_letters
theorem c_signs' : PyData.str (Str.ofString "abcdefghijklmnopqrstuvwxyz0123456789") = dT (lettersT ++ digitsT) := congrArg PyData.str s_signs
theorem c_digits' : PyData.str (Str.ofString "0123456789") = dT digitsT := congrArg PyData.str s_digits
section
variable {τo τe τ : EX} {Γ Γ1 Γ2 : Ga} {Q : O → Ga → Prop}
theorem st_split (h : τo Γ fun a1 Γ1 => (∃ z, rslv Γ1 a1 = some (.str z)) ∧ τe Γ1 fun a2 Γ2 => ∃ (x y : Str), rslv Γ2 a1 = some (.str x) ∧ rslv Γ2 a2 = some (.str y) ∧ (y.length == 0) = false ∧ x.length + 2 ≤ sizeLine ∧ Q (.ls ((Txt.split x y).map .str)) Γ2) : eSplit τo τe Γ Q := h
theorem st_join (h : τo Γ fun a1 Γ1 => (∃ z, rslv Γ1 a1 = some (.str z)) ∧ τe Γ1 fun a2 Γ2 => ∃ (x : Str) (ys : List Str), rslv Γ2 a1 = some (.str x) ∧ rslv Γ2 a2 = some (.list (ys.map .str)) ∧ (ys.map (·.length)).sum + ys.length * x.length ≤ 16777216 ∧ Q (.fz (.str (Txt.join x ys))) Γ2) : eJoin τo τe Γ Q := h
theorem st_starts (h : τo Γ fun a1 Γ1 => (∃ z, rslv Γ1 a1 = some (.str z)) ∧ τe Γ1 fun a2 Γ2 => ∃ (x y : Str), rslv Γ2 a1 = some (.str x) ∧ rslv Γ2 a2 = some (.str y) ∧ Q (.fz (.bool (Txt.startswith x y))) Γ2) : eStarts τo τe Γ Q := h
theorem st_upper (h : τo Γ fun a1 Γ1 => ∃ (x : Str), rslv Γ1 a1 = some (.str x) ∧ x.length ≤ 5592405 ∧ Q (.fz (.str (Txt.upper x))) Γ1) : eUpper τo Γ Q := h
theorem st_isi2 {n1 n2 : String} (h : τ Γ fun a Γ1 => ∃ d b1 b2, rslv Γ1 a = some d ∧ kitD d n1 = some b1 ∧ kitD d n2 = some b2 ∧ Q (.fz (.bool (b1 || b2))) Γ1) : eIsi2 n1 n2 τ Γ Q := h
theorem split_end {a1 a2 : Av} {a b : T} {q : O → Ga → Prop} (e1 : rslv Γ a1 = some (dT a)) (e2 : rslv Γ a2 = some (dT b)) (hb : b ≠ []) (hk : b.all (· < 256) = true) (ha : a.length ≤ 100000) (h : q (.ls ((TL.spl b 0 [] a).map dT)) Γ) :
    ∃ (x y : Str), rslv Γ a1 = some (.str x) ∧ rslv Γ a2 = some (.str y) ∧ (y.length == 0) = false ∧ x.length + 2 ≤ sizeLine ∧ q (.ls ((Txt.split x y).map .str)) Γ := by
  refine ⟨S a, S b, e1, e2, ?_, ?_, ?_⟩
  · rw [S_len]; cases b with
    | nil => exact absurd rfl hb
    | cons c b => rfl
  · rw [S_len]; exact Nat.le_trans (Nat.add_le_add_right ha 2) (Nat.le_of_ble_eq_true rfl)
  · rw [split_S hb hk, List.map_map]; exact h
theorem join_end {a1 a2 : Av} {b : T} {ys : List T} {q : O → Ga → Prop} (e1 : rslv Γ a1 = some (dT b)) (e2 : rslv Γ a2 = some (.list (ys.map dT))) (ha : (ys.map (·.length)).sum + ys.length * b.length ≤ 16777216) (h : q (.fz (dT (TL.joinL b ys))) Γ) :
    ∃ (x : Str) (ys : List Str), rslv Γ a1 = some (.str x) ∧ rslv Γ a2 = some (.list (ys.map .str)) ∧ (ys.map (·.length)).sum + ys.length * x.length ≤ 16777216 ∧ q (.fz (.str (Txt.join x ys))) Γ := by
  refine ⟨S b, ys.map S, e1, by rw [List.map_map]; exact e2, by rw [S_len, lens, List.length_map]; exact ha, ?_⟩
  rw [join_S]; exact h
end
theorem isNm_mid {l : T} {c : Nat} {l' : T} (e : l = c :: l') (h : l.length ≤ 8) : isNm l = (l.all inS && inL c && !isIn l keptW) := by
  subst e
  unfold isNm
  rw [decide_eq_true (by simp), decide_eq_true h, Bool.true_and, Bool.true_and]
theorem spl_ok1 {b : T} (hb : b ≠ []) : ((S b).length == 0) = false := by
  rw [S_len]; cases b with
  | nil => exact absurd rfl hb
  | cons c b => rfl
theorem spl_ok2 {a : T} (ha : a.length ≤ 100000) : (S a).length + 2 ≤ sizeLine := by
  rw [S_len]; exact Nat.le_trans (Nat.add_le_add_right ha 2) (Nat.le_of_ble_eq_true rfl)
theorem spl_map {a b : T} (hb : b ≠ []) (hk : b.all (· < 256) = true) : (Txt.split (S a) (S b)).map PyData.str = (TL.spl b 0 [] a).map dT := by
  rw [split_S hb hk, List.map_map]; rfl
/-- startswith of one sign -/
theorem starts_one (l : T) (c : Nat) : Txt.startswith (S l) (S [c]) = decide (l.head? = some c) := by
  have e : Txt.startswith (S l) (S [c]) = (decide (1 ≤ l.length) && ((l.drop 0).take 1 == [c])) := by
    show (decide ((S [c]).length ≤ (S l).length) && Builtin.Str.subAt (S l) (S [c]) 0) = _
    rw [StrLaws.subAt_eq, S_len, S_len]
    rfl
  rw [e]
  cases l with
  | nil => rfl
  | cons a l =>
    simp only [List.drop_zero, List.take_succ_cons, List.take_zero, List.head?_cons, Option.some.injEq]
    rw [decide_eq_true (by simp), Bool.true_and, Bool.eq_iff_iff]
    simp
end K01
end
section
open VL PySem L2
local macro_rules | `(tactic| walk_at "vs") => `(tactic| first
  | with_reducible (first | refine st_seq ?_ | refine st_ret ?_ | refine st_set ?_ | refine st_if ?_ | refine st_drop ?_ | refine st_next ?_ | refine st_par ?_ | refine st_asg ?_ | refine st_rt0 ?_ | refine st_nx0 ?_ | refine st_brk ?_ | refine st_cnt ?_ | refine st_retN ?_ | refine st_op ?_ | refine st_op1 ?_ | refine st_an ?_ | refine st_ac ?_ | refine st_cb ?_ | refine st_tup ?_ | refine st_lst ?_ | refine st_to ?_ | refine st_tru ?_ | refine st_tnot ?_ | refine st_tand ?_ | refine st_tor ?_ | refine st_and ?_ | refine st_or ?_ | refine st_not ?_ | refine st_eif ?_ | refine st_chain ?_ | refine st_call ?_ | refine st_calli ?_ | refine st_isi ?_ | refine st_lrg ?_ | refine st_trg ?_ | refine st_sl ?_ | refine st_pn ?_ | refine st_ps ?_ | refine st_iseq ?_ | refine st_ir1 ?_ | refine st_ir2 ?_ | refine st_yes ?_ | refine st_c ?_ | refine st_xo ?_ | refine st_ox ?_ | refine st_cbe ?_ | refine st_true ?_ | refine st_ixe ?_ | refine st_dnew ?_ | refine st_ao0 ?_ | refine st_ao ?_ | refine st_trl ?_ | refine st_callk ?_ | refine st_callB ?_ | refine st_put ?_ | refine st_dput ?_ | refine st_g0 ?_ | refine st_sme ?_ | refine st_sme0 ?_ | refine st_pute ?_ | refine st_par3 ?_ | refine st_xelD ?_ | refine st_cbd ?_ | refine st_truDE ?_ | refine st_ixD' ?_ | refine st_smd ?_ | refine st_smd0 ?_ | refine st_putD ?_ | refine st_tdl ?_ | refine st_idx ?_ | refine st_rev ?_)
  | (with_reducible show (sAugI _ _ _ _ _)); refine st_augI rfl ?_
  | (with_reducible show (xVar _ _ _)); refine st_var rfl ?_
  | (with_reducible show (xVal _ _ _)); (first | refine st_val rfl ?_ | refine st_valL rfl rfl rfl ?_)
  | (with_reducible show (oMv _ _ _)); (first | refine st_mv rfl ?_ | refine st_mvL rfl rfl ?_)
  | (with_reducible show (eIxS _ _ _ _)); (first | refine st_ixT rfl ?_ | refine st_ixLs rfl ?_ | refine st_ixF rfl ?_ | refine st_ixTr rfl ?_ | refine st_ixDic rfl rfl ?_)
  | (with_reducible show (eLenS _ _ _)); (first | refine st_lenT rfl ?_ | refine st_lenD _ rfl ?_)
  | (with_reducible show (eEl _ _ _ _)); refine st_el rfl ?_
  | (with_reducible show (eApp _ _ _ _ _)); (first | refine st_app (listG_ls rfl) ?_ | refine st_app (listG_tr rfl) ?_)
  | (with_reducible show (sPutS _ _ _ _ _ _)); (first | refine st_putS rfl ?_ | refine st_putSD rfl ?_)
  | (with_reducible show (eInS _ _ _ _)); (first | refine st_in rfl ?_ | refine st_din rfl ?_)
  | (with_reducible show (eNotInS _ _ _ _)); (first | refine st_notin rfl ?_ | refine st_dnotin rfl ?_)
  | (with_reducible show (tInS _ _ _ _)); (first | refine st_tin rfl ?_ | refine st_tdin rfl ?_)
  | (with_reducible show (tNotInS _ _ _ _)); (first | refine st_tnotin rfl ?_ | refine st_tdnotin rfl ?_)
  | (with_reducible show (sDel _ _ _ _)); refine st_del rfl ?_
  | (with_reducible show (eSM _ _ _ _ _)); refine st_sm rfl ?_
  | (with_reducible show (gN _ _ _ _)); refine st_gn rfl ?_
  | (with_reducible show (gConss _ _ _ _ _)); refine st_gc ?_
  | (with_reducible show (gTupD _ _ _ _ _)); refine st_gt rfl ?_
  | (with_reducible show (∃ d b, _ = some d ∧ kitD d _ = some b ∧ _)); (first | refine ⟨_, true, rfl, (rfl : kitD _ _ = some true), ?_⟩ | refine ⟨_, false, rfl, (rfl : kitD _ _ = some false), ?_⟩)
  | (with_reducible show (∃ _, _)); (first | refine ⟨_, rfl, ?_⟩ | refine ⟨_, _, rfl, rfl, ?_⟩ | refine ⟨_, _, _, rfl, rfl, rfl, ?_⟩ | refine ⟨_, _, _, _, rfl, rfl, rfl, ?_⟩ | refine ⟨_, _, _, _, rfl, rfl, rfl, rfl, ?_⟩ | refine ⟨_, _, _, rfl, .inl ⟨_, rfl, rfl, rfl⟩, ?_⟩)
  | (with_reducible show ((∃ _, _) ∧ _)); (first | refine ⟨⟨_, rfl, _, .inl rfl⟩, ?_⟩ | refine ⟨⟨_, rfl, [], .inr ⟨_, rfl⟩⟩, ?_⟩)
  | (with_reducible show (_ ≤ sizeLine ∧ _)); refine ⟨Evl.sz_of (Nat.le_of_ble_eq_true rfl), ?_⟩)
local macro_rules | `(tactic| walk_at "op") => `(tactic| first
  | (with_reducible show (opAdd _ _ _)); (first | refine op_addI ?_)
  | (with_reducible show (opSub _ _ _)); (first | refine op_subI ?_)
  | (with_reducible show (opLt _ _ _)); (first | refine op_ltI ?_)
  | (with_reducible show (opLe _ _ _)); (first | refine op_leI ?_)
  | (with_reducible show (opGt _ _ _)); (first | refine op_gtI ?_)
  | (with_reducible show (opGe _ _ _)); (first | refine op_geI ?_)
  | (with_reducible show (opEq _ _ _)); (first | refine op_eqI ?_ | refine op_eqB ?_)
  | (with_reducible show (opNe _ _ _)); (first | refine op_neI ?_ | refine op_neB ?_)
  | (with_reducible show (opIsN _ _ _)); (first | refine op_isNone ?_ | refine op_isInt ?_ | refine op_isTup ?_ | refine op_isBl ?_ | refine op_isSt ?_ | refine op_isLs ?_)
  | (with_reducible show (opNotN _ _ _)); (first | refine op_notNone ?_ | refine op_notTup ?_)
  | (with_reducible show (opIx _ _ _)); (first | refine op_ixT0 rfl ?_ | refine op_ixT1 rfl ?_ | refine op_ixT2 rfl ?_ | refine op_ixL0 rfl ?_ | refine op_ixL1 rfl ?_)
  | (with_reducible show (op1Neg _ _)); refine op1_negI ?_
  | (with_reducible show (cdLen _ _)); (first | refine cd_lenL ?_ | refine cd_lenT ?_)
  | (with_reducible show (cdInt _ _)); (first | refine cd_intI ?_ | refine cd_intB ?_)
  | (with_reducible show (cdTuple _ _)); (first | refine cd_tupL ?_ | refine cd_tupT ?_)
  | (with_reducible show (cdList _ _)); (first | refine cd_listL ?_ | refine cd_listT ?_)
  | (with_reducible show (cdAbs _ _)); (first | refine cd_absI ?_)
  | (with_reducible show (cdMin2 _ _)); (first | refine cd_min2I ?_)
  | (with_reducible show (cdMax2 _ _)); (first | refine cd_max2I ?_)
  | (with_reducible show (sdAll _ _ _ _)); (first | refine sd_T ?_ | refine sd_L ?_))
local macro_rules | `(tactic| walk_at "go") => `(tactic| repeat (first | walk_at "vs" | walk_at "op"))
local macro_rules | `(tactic| walk_at "gb") => `(tactic| repeat (first | walk_at "vs" | walk_at "op" | with_reducible (first | refine br_t ?_ | refine br_f ?_ | refine br_nt ?_ | refine br_nf ?_)))
local macro_rules | `(tactic| walk_at "vs") => `(tactic| first
  | with_reducible (first | refine K01.st_split ?_ | refine K01.st_join ?_ | refine K01.st_starts ?_ | refine K01.st_upper ?_ | refine K01.st_isi2 ?_)
  | (with_reducible show ((∃ z, rslv _ _ = some (.str z)) ∧ _)); refine ⟨⟨_, rfl⟩, ?_⟩
  | (with_reducible show (eIxS _ _ _ _)); refine st_ixS' rfl ?_)
namespace K01
open SX
theorem len_is_name : ∀ ds Q, wp_is_name ds Q → ds.length = 1 := fun ds Q ⟨d, e, _⟩ => by rw [e]; rfl
theorem rd_is_name : ∀ ds Q, wp_is_name ds Q → τ_is_name (ends0 Q) (fzs ds ++ List.replicate (2 - ds.length) none) := fun ds Q ⟨d, e, ok, q⟩ => by
  subst e
  refine st_nrm rfl ?_
  unfold τ_is_name
  rw [c_let, c_sig, c_heads, c_words]
  cases ok with
  | non => walk_at "gb"; exact q
  | bl b => walk_at "gb"; exact q
  | int i => walk_at "gb"; exact q
  | tup ds => walk_at "gb"; exact q
  | lst ds => walk_at "gb"; exact q
  | @str l hs =>
    have q : Q (.fz (.bool (isNm l))) := q
    have hl := hs.1
    walk_at "gb"
    refine cd_lenT' (by omega) ?_
    walk_at "gb"
    refine br2 (fun h1 => ?_) (fun h1 => ?_)
    · walk_at "gb"
      have h1 := of_decide_eq_true h1
      refine br2 (fun h2 => ?_) (fun h2 => ?_)
      · walk_at "gb"
        have h2 : ¬ l.length ≤ 8 := fun h => by simp at h2; omega
        have e : isNm l = false := by unfold isNm; rw [decide_eq_false h2, Bool.and_false]; rfl
        rw [e] at q; exact q
      · walk_at "gb"
        have h2 : l.length ≤ 8 := by simp at h2; omega
        obtain ⟨c, l', e⟩ : ∃ c l', l = c :: l' := by
          cases l with
          | nil => simp at h1
          | cons c l' => exact ⟨c, l', rfl⟩
        refine op_ixC (l := l) (c := c) 0 rfl (by rw [e]; rfl) (by omega) ?_
        walk_at "gb"
        refine op_notInC ?_
        walk_at "gb"
        rw [in_letters]
        have isn : isNm l = (l.all inS && inL c && !isIn l keptW) := isNm_mid e h2
        refine br2 (fun h3 => ?_) (fun h3 => ?_)
        · walk_at "gb"
          have : isNm l = false := by
            rw [isn]
            cases hh : inL c with
            | true => rw [hh] at h3; exact absurd h3 (by simp)
            | false => simp
          rw [this] at q; exact q
        walk_at "gb"
        refine lc_go l (fun c => dT [c]) (fun c => !inS c) (fun c => dT [c]) (fun QI q => by walk_at "go"; exact q) (Evl.sz_of (by omega)) (by exact plain1 (.inl rfl)) (fun x hx => ⟨_, _, rfl, fun QG q => ⟨_, rfl, q⟩, rfl, fun Q q => ?_, fun _ Q q => ?_⟩) ?_
        · walk_at "go"
          refine op_notInC ?_
          walk_at "go"
          rw [in_signs]
          exact q
        · walk_at "go"
          exact q
        walk_at "gb"
        rw [filt_len l inS]
        refine br2 (fun h4 => ?_) (fun h4 => ?_)
        · walk_at "gb"
          have : isNm l = false := by
            rw [isn]
            cases hh : l.all inS with
            | true => rw [hh] at h4; exact absurd h4 (by simp)
            | false => simp
          rw [this] at q; exact q
        have h3' : inL c = true := by simpa using h3
        have h4' : l.all inS = true := by simpa using h4
        walk_at "gb"
        refine op_notInTs hs heads_sml ?_
        walk_at "gb"
        have isn' : isNm l = (!isIn l headsW && !isIn l wordsW) := by
          rw [isn, h3', h4']
          unfold keptW
          rw [isIn_app, Bool.not_or]; rfl
        refine br2 (fun h5 => ?_) (fun h5 => ?_)
        · walk_at "gb"
          refine op_notInTs hs words_sml ?_
          walk_at "gb"
          rw [isn', h5, Bool.true_and] at q
          exact q
        · walk_at "gb"
          rw [isn', h5, Bool.false_and] at q
          exact q
    · walk_at "gb"
      have h1 := of_decide_eq_false h1
      have e : isNm l = false := by unfold isNm; rw [decide_eq_false (by omega)]; rfl
      rw [e] at q; exact q
end K01
end
section
open VL PySem L2
local macro_rules | `(tactic| walk_at "vs") => `(tactic| first
  | with_reducible (first | refine st_seq ?_ | refine st_ret ?_ | refine st_set ?_ | refine st_if ?_ | refine st_drop ?_ | refine st_next ?_ | refine st_par ?_ | refine st_asg ?_ | refine st_rt0 ?_ | refine st_nx0 ?_ | refine st_brk ?_ | refine st_cnt ?_ | refine st_retN ?_ | refine st_op ?_ | refine st_op1 ?_ | refine st_an ?_ | refine st_ac ?_ | refine st_cb ?_ | refine st_tup ?_ | refine st_lst ?_ | refine st_to ?_ | refine st_tru ?_ | refine st_tnot ?_ | refine st_tand ?_ | refine st_tor ?_ | refine st_and ?_ | refine st_or ?_ | refine st_not ?_ | refine st_eif ?_ | refine st_chain ?_ | refine st_call ?_ | refine st_calli ?_ | refine st_isi ?_ | refine st_lrg ?_ | refine st_trg ?_ | refine st_sl ?_ | refine st_pn ?_ | refine st_ps ?_ | refine st_iseq ?_ | refine st_ir1 ?_ | refine st_ir2 ?_ | refine st_yes ?_ | refine st_c ?_ | refine st_xo ?_ | refine st_ox ?_ | refine st_cbe ?_ | refine st_true ?_ | refine st_ixe ?_ | refine st_dnew ?_ | refine st_ao0 ?_ | refine st_ao ?_ | refine st_trl ?_ | refine st_callk ?_ | refine st_callB ?_ | refine st_put ?_ | refine st_dput ?_ | refine st_g0 ?_ | refine st_sme ?_ | refine st_sme0 ?_ | refine st_pute ?_ | refine st_par3 ?_ | refine st_xelD ?_ | refine st_cbd ?_ | refine st_truDE ?_ | refine st_ixD' ?_ | refine st_smd ?_ | refine st_smd0 ?_ | refine st_putD ?_ | refine st_tdl ?_ | refine st_idx ?_ | refine st_rev ?_)
  | (with_reducible show (sAugI _ _ _ _ _)); refine st_augI rfl ?_
  | (with_reducible show (xVar _ _ _)); refine st_var rfl ?_
  | (with_reducible show (xVal _ _ _)); (first | refine st_val rfl ?_ | refine st_valL rfl rfl rfl ?_)
  | (with_reducible show (oMv _ _ _)); (first | refine st_mv rfl ?_ | refine st_mvL rfl rfl ?_)
  | (with_reducible show (eIxS _ _ _ _)); (first | refine st_ixT rfl ?_ | refine st_ixLs rfl ?_ | refine st_ixF rfl ?_ | refine st_ixTr rfl ?_ | refine st_ixDic rfl rfl ?_)
  | (with_reducible show (eLenS _ _ _)); (first | refine st_lenT rfl ?_ | refine st_lenD _ rfl ?_)
  | (with_reducible show (eEl _ _ _ _)); refine st_el rfl ?_
  | (with_reducible show (eApp _ _ _ _ _)); (first | refine st_app (listG_ls rfl) ?_ | refine st_app (listG_tr rfl) ?_)
  | (with_reducible show (sPutS _ _ _ _ _ _)); (first | refine st_putS rfl ?_ | refine st_putSD rfl ?_)
  | (with_reducible show (eInS _ _ _ _)); (first | refine st_in rfl ?_ | refine st_din rfl ?_)
  | (with_reducible show (eNotInS _ _ _ _)); (first | refine st_notin rfl ?_ | refine st_dnotin rfl ?_)
  | (with_reducible show (tInS _ _ _ _)); (first | refine st_tin rfl ?_ | refine st_tdin rfl ?_)
  | (with_reducible show (tNotInS _ _ _ _)); (first | refine st_tnotin rfl ?_ | refine st_tdnotin rfl ?_)
  | (with_reducible show (sDel _ _ _ _)); refine st_del rfl ?_
  | (with_reducible show (eSM _ _ _ _ _)); refine st_sm rfl ?_
  | (with_reducible show (gN _ _ _ _)); refine st_gn rfl ?_
  | (with_reducible show (gConss _ _ _ _ _)); refine st_gc ?_
  | (with_reducible show (gTupD _ _ _ _ _)); refine st_gt rfl ?_
  | (with_reducible show (∃ d b, _ = some d ∧ kitD d _ = some b ∧ _)); (first | refine ⟨_, true, rfl, (rfl : kitD _ _ = some true), ?_⟩ | refine ⟨_, false, rfl, (rfl : kitD _ _ = some false), ?_⟩)
  | (with_reducible show (∃ _, _)); (first | refine ⟨_, rfl, ?_⟩ | refine ⟨_, _, rfl, rfl, ?_⟩ | refine ⟨_, _, _, rfl, rfl, rfl, ?_⟩ | refine ⟨_, _, _, _, rfl, rfl, rfl, ?_⟩ | refine ⟨_, _, _, _, rfl, rfl, rfl, rfl, ?_⟩ | refine ⟨_, _, _, rfl, .inl ⟨_, rfl, rfl, rfl⟩, ?_⟩)
  | (with_reducible show ((∃ _, _) ∧ _)); (first | refine ⟨⟨_, rfl, _, .inl rfl⟩, ?_⟩ | refine ⟨⟨_, rfl, [], .inr ⟨_, rfl⟩⟩, ?_⟩)
  | (with_reducible show (_ ≤ sizeLine ∧ _)); refine ⟨Evl.sz_of (Nat.le_of_ble_eq_true rfl), ?_⟩)
local macro_rules | `(tactic| walk_at "op") => `(tactic| first
  | (with_reducible show (opAdd _ _ _)); (first | refine op_addI ?_)
  | (with_reducible show (opSub _ _ _)); (first | refine op_subI ?_)
  | (with_reducible show (opLt _ _ _)); (first | refine op_ltI ?_)
  | (with_reducible show (opLe _ _ _)); (first | refine op_leI ?_)
  | (with_reducible show (opGt _ _ _)); (first | refine op_gtI ?_)
  | (with_reducible show (opGe _ _ _)); (first | refine op_geI ?_)
  | (with_reducible show (opEq _ _ _)); (first | refine op_eqI ?_ | refine op_eqB ?_)
  | (with_reducible show (opNe _ _ _)); (first | refine op_neI ?_ | refine op_neB ?_)
  | (with_reducible show (opIsN _ _ _)); (first | refine op_isNone ?_ | refine op_isInt ?_ | refine op_isTup ?_ | refine op_isBl ?_ | refine op_isSt ?_ | refine op_isLs ?_)
  | (with_reducible show (opNotN _ _ _)); (first | refine op_notNone ?_ | refine op_notTup ?_)
  | (with_reducible show (opIx _ _ _)); (first | refine op_ixT0 rfl ?_ | refine op_ixT1 rfl ?_ | refine op_ixT2 rfl ?_ | refine op_ixL0 rfl ?_ | refine op_ixL1 rfl ?_)
  | (with_reducible show (op1Neg _ _)); refine op1_negI ?_
  | (with_reducible show (cdLen _ _)); (first | refine cd_lenL ?_ | refine cd_lenT ?_)
  | (with_reducible show (cdInt _ _)); (first | refine cd_intI ?_ | refine cd_intB ?_)
  | (with_reducible show (cdTuple _ _)); (first | refine cd_tupL ?_ | refine cd_tupT ?_)
  | (with_reducible show (cdList _ _)); (first | refine cd_listL ?_ | refine cd_listT ?_)
  | (with_reducible show (cdAbs _ _)); (first | refine cd_absI ?_)
  | (with_reducible show (cdMin2 _ _)); (first | refine cd_min2I ?_)
  | (with_reducible show (cdMax2 _ _)); (first | refine cd_max2I ?_)
  | (with_reducible show (sdAll _ _ _ _)); (first | refine sd_T ?_ | refine sd_L ?_))
local macro_rules | `(tactic| walk_at "go") => `(tactic| repeat (first | walk_at "vs" | walk_at "op"))
local macro_rules | `(tactic| walk_at "gb") => `(tactic| repeat (first | walk_at "vs" | walk_at "op" | with_reducible (first | refine br_t ?_ | refine br_f ?_ | refine br_nt ?_ | refine br_nf ?_)))
local macro_rules | `(tactic| walk_at "vs") => `(tactic| first
  | with_reducible (first | refine K01.st_split ?_ | refine K01.st_join ?_ | refine K01.st_starts ?_ | refine K01.st_upper ?_ | refine K01.st_isi2 ?_)
  | (with_reducible show ((∃ z, rslv _ _ = some (.str z)) ∧ _)); refine ⟨⟨_, rfl⟩, ?_⟩
  | (with_reducible show (eIxS _ _ _ _)); refine st_ixS' rfl ?_)
namespace K01
open SX
theorem len_lines_of : ∀ ds Q, wp_lines_of ds Q → ds.length = 1 := fun ds Q ⟨l, e, _⟩ => by rw [e]; rfl
theorem spl_ne (a b : T) : TL.spl b 0 [] a ≠ [] := by
  suffices h : ∀ (a : T) (k : Nat) (acc : T), TL.spl b k acc a ≠ [] from h a 0 []
  intro a
  induction a with
  | nil => intro k acc; rw [TL.spl_nil]; simp
  | cons c r ih =>
    intro k acc
    cases k with
    | succ k => rw [TL.spl]; exact ih k acc
    | zero =>
      cases h : TL.pre b (c :: r) with
      | true => rw [TL.spl_hit h]; simp
      | false => rw [TL.spl_miss h]; exact ih 0 _
theorem spl_len (b : T) : ∀ (a : T) (k : Nat) (acc : T), (TL.spl b k acc a).length ≤ a.length + 1
  | [], k, acc => by rw [TL.spl_nil]; simp
  | c :: r, k + 1, acc => by rw [TL.spl]; have := spl_len b r k acc; simp only [List.length_cons]; omega
  | c :: r, 0, acc => by
    cases h : TL.pre b (c :: r) with
    | true => rw [TL.spl_hit h]; have := spl_len b r (b.length - 1) []; simp only [List.length_cons]; omega
    | false => rw [TL.spl_miss h]; have := spl_len b r 0 (acc ++ [c]); simp only [List.length_cons]; omega
theorem spl_sub (b : T) (P : Nat → Prop) (N : Nat) : ∀ (a : T) (k : Nat) (acc : T), (∀ c ∈ acc, P c) → (∀ c ∈ a, P c) → acc.length + a.length ≤ N → ∀ w ∈ TL.spl b k acc a, (∀ c ∈ w, P c) ∧ w.length ≤ N
  | [], k, acc, h1, h2, h3, w, hw => by rw [TL.spl_nil] at hw; cases List.mem_singleton.mp hw; exact ⟨h1, by simpa using h3⟩
  | c :: r, k + 1, acc, h1, h2, h3, w, hw => by
    rw [TL.spl] at hw
    exact spl_sub b P N r k acc h1 (fun c hc => h2 c (by simp [hc])) (by simp only [List.length_cons] at h3; omega) w hw
  | c :: r, 0, acc, h1, h2, h3, w, hw => by
    simp only [List.length_cons] at h3
    cases h : TL.pre b (c :: r) with
    | true =>
      rw [TL.spl_hit h] at hw
      rcases List.mem_cons.mp hw with e | hw
      · subst e; exact ⟨h1, by omega⟩
      · exact spl_sub b P N r _ [] (by simp) (fun c hc => h2 c (by simp [hc])) (by simp; omega) w hw
    | false =>
      rw [TL.spl_miss h] at hw
      exact spl_sub b P N r 0 (acc ++ [c]) (fun x hx => by
        rcases List.mem_append.mp hx with hx | hx
        · exact h1 x hx
        · rw [List.mem_singleton.mp hx]; exact h2 c (by simp)) (fun c hc => h2 c (by simp [hc])) (by simp; omega) w hw
theorem sml_spl {n : Nat} {a b : T} (h : Sml n a) : ∀ w ∈ TL.spl b 0 [] a, Sml n w := fun w hw =>
  have := spl_sub b (· < 1114112) n a 0 [] (by simp) h.2 (by simpa using h.1) w hw
  ⟨this.2, this.1⟩
theorem sml_nil (n : Nat) : Sml n [] := ⟨by simp, by simp⟩
theorem sml_hash (n : Nat) : Sml (n + 1) [35] := ⟨by simp, by simp⟩
theorem linesF_sub {l w : T} (h : w ∈ linesF l) : w ∈ TL.spl [10] 0 [] l := by
  unfold linesF at h
  split at h
  · exact List.dropLast_subset _ h
  · exact h
theorem rd_lines_of : ∀ ds Q, wp_lines_of ds Q → τ_lines_of (ends0 Q) (fzs ds ++ List.replicate (2 - ds.length) none) := fun ds Q ⟨l, e, hs, q⟩ => by
  subst e
  refine st_nrm rfl ?_
  unfold τ_lines_of
  rw [c_nl, c_empty]
  walk_at "gb"
  refine ⟨spl_ok1 (by simp), spl_ok2 hs.1, ?_⟩
  rw [spl_map (by simp) rfl]
  walk_at "gb"
  have ne := spl_ne l [10]
  have w := List.getLast?_eq_some_getLast ne
  have lz : ((TL.spl [10] 0 [] l).getLast ne) ∈ TL.spl [10] 0 [] l := List.getLast_mem ne
  have pos : 0 < (TL.spl [10] 0 [] l).length := List.length_pos_iff.mpr ne
  have gx : ((TL.spl [10] 0 [] l).map dT)[(TL.spl [10] 0 [] l).length - 1]? = some (dT ((TL.spl [10] 0 [] l).getLast ne)) := by
    rw [List.getElem?_map, ← List.getLast?_eq_getElem?, w]; rfl
  refine op_ixL ((TL.spl [10] 0 [] l).length - 1) (by rw [List.length_map]; omega) gx ?_
  walk_at "gb"
  refine op_eqT (sml_spl hs _ lz) (sml_nil 1) ?_
  walk_at "gb"
  refine br2 (fun h => ?_) (fun h => ?_)
  · have h := of_decide_eq_true h
    walk_at "gb"
    refine st_popL rfl (by rw [List.length_map]; exact gx) rfl ?_
    walk_at "gb"
    have : linesF l = (TL.spl [10] 0 [] l).dropLast := by
      unfold linesF; rw [if_pos (by rw [w, h])]
    rw [this, List.map_dropLast] at q
    exact q
  · have h := of_decide_eq_false h
    walk_at "gb"
    have : linesF l = TL.spl [10] 0 [] l := by
      unfold linesF; rw [if_neg (by rw [w]; exact fun e => h (Option.some.inj e))]
    rw [this] at q
    exact q
theorem len_line_words : ∀ ds Q, wp_line_words ds Q → ds.length = 1 := fun ds Q ⟨l, e, _⟩ => by rw [e]; rfl
theorem rd_line_words : ∀ ds Q, wp_line_words ds Q → τ_line_words (ends0 Q) (fzs ds ++ List.replicate (2 - ds.length) none) := fun ds Q ⟨l, e, hs, q⟩ => by
  subst e
  refine st_nrm rfl ?_
  unfold τ_line_words
  rw [c_sp, c_empty]
  walk_at "gb"
  have hl : l.length ≤ 100000 := hs.1
  refine lc_go (Γ1 := [some (.fz (dT l)), none]) (TL.spl [32] 0 [] l) dT (fun w => !decide (w = [])) dT (fun QI q => ?_) (Nat.le_trans (Nat.le_trans (spl_len [32] l 0 []) (Nat.add_le_add_right hl 1)) (Nat.le_of_ble_eq_true rfl)) (by exact plain1 (.inl rfl)) (fun x hx => ⟨_, _, rfl, fun QG q => ⟨_, rfl, q⟩, rfl, fun Q q => ?_, fun _ Q q => ?_⟩) ?_
  · walk_at "go"
    refine ⟨spl_ok1 (by simp), spl_ok2 hs.1, ?_⟩
    rw [spl_map (by simp) rfl]
    walk_at "go"
    exact q
  · walk_at "go"
    refine op_neT (sml_spl hs x hx) (sml_nil 1) ?_
    walk_at "go"
    exact q
  · walk_at "go"
    exact q
  walk_at "go"
  exact q
theorem len_is_passed_over : ∀ ds Q, wp_is_passed_over ds Q → ds.length = 1 := fun ds Q ⟨l, e, _⟩ => by rw [e]; rfl
theorem rd_is_passed_over : ∀ ds Q, wp_is_passed_over ds Q → τ_is_passed_over (ends0 Q) (fzs ds ++ List.replicate (1 - ds.length) none) := fun ds Q ⟨ws, e, q⟩ => by
  subst e
  refine st_nrm rfl ?_
  unfold τ_is_passed_over
  rw [c_hash]
  cases ws with
  | nil => walk_at "gb"; exact q
  | cons w ws =>
    walk_at "gb"
    rw [decide_eq_false (by simp; omega)]
    walk_at "gb"
    rw [starts_one]
    exact q
theorem linesF_sml {n : Nat} {l w : T} (h : Sml n l) (hw : w ∈ linesF l) : Sml n w := sml_spl h w (linesF_sub hw)
theorem linesF_len (l : T) : (linesF l).length ≤ l.length + 1 := by
  unfold linesF
  split
  · rw [List.length_dropLast]; have := spl_len [10] l 0 []; omega
  · exact spl_len [10] l 0 []
theorem numbK_snoc : ∀ (rs : List (List T)) (k : Nat) (r : List T), numbK k (rs ++ [r]) = numbK k rs ++ (if passF r then [] else [(k + rs.length, r)])
  | [], k, r => by simp [numbK]
  | a :: rs, k, r => by
    rw [List.cons_append, numbK, numbK, numbK_snoc rs (k + 1) r, List.append_assoc, List.length_cons]
    rw [show k + 1 + rs.length = k + (rs.length + 1) by omega]
theorem len_read_lines : ∀ ds Q, wp_read_lines ds Q → ds.length = 1 := fun ds Q ⟨l, e, _⟩ => by rw [e]; rfl
theorem numbK_len : ∀ (rs : List (List T)) (k : Nat), (numbK k rs).length ≤ rs.length
  | [], k => Nat.le_refl _
  | r :: rs, k => by
    rw [numbK, List.length_append, List.length_cons]
    have := numbK_len rs (k + 1)
    split <;> simp <;> omega
theorem rd_read_lines : ∀ ds Q, wp_read_lines ds Q → τ_read_lines (ends0 Q) (fzs ds ++ List.replicate (5 - ds.length) none) := fun ds Q ⟨l, e, hs, q⟩ => by
  subst e
  refine st_nrm rfl ?_
  unfold τ_read_lines
  walk_at "gb"
  have hl : l.length ≤ 100000 := hs.1
  refine forE_inv (Γ1 := [some (.fz (dT l)), some (.ls []), none, none, none]) (linesF l) dT (fun i Γ => ∃ a b c, Γ = [some (.fz (dT l)), some (.ls ((numbK 1 (((linesF l).take i).map wordsF)).map dE)), a, b, c]) (fun Q q => ?_) ⟨_, _, _, rfl⟩ (fun i x Γ' ex ⟨a, b, c, eg⟩ => ?_) (fun Γ' ⟨a, b, c, eg⟩ => ?_)
  · walk_at "go"
    refine ⟨l, rfl, hs, ?_⟩
    walk_at "go"
    exact q
  · subst eg
    have hx : x ∈ linesF l := List.mem_of_getElem? ex
    have tk : (linesF l).take (i + 1) = (linesF l).take i ++ [x] := by rw [List.take_add_one, ex]; rfl
    have il : i < (linesF l).length := (List.getElem?_eq_some_iff.mp ex).1
    have ll := linesF_len l
    walk_at "gb"
    refine ⟨x, rfl, linesF_sml hs hx, ?_⟩
    walk_at "gb"
    refine ⟨wordsF x, rfl, ?_⟩
    walk_at "gb"
    cases hp : passF (wordsF x) with
    | true =>
      walk_at "gb"
      have e2 : numbK 1 (((linesF l).take (i + 1)).map wordsF) = numbK 1 (((linesF l).take i).map wordsF) := by
        rw [tk, List.map_append, List.map_singleton, numbK_snoc, hp]; simp
      exact ⟨_, _, _, by rw [e2]⟩
    | false =>
      walk_at "gb"
      have nl := numbK_len (((linesF l).take i).map wordsF) 1
      rw [List.length_map, List.length_take] at nl
      have e2 : numbK 1 (((linesF l).take (i + 1)).map wordsF) = numbK 1 (((linesF l).take i).map wordsF) ++ [(i + 1, wordsF x)] := by
        rw [tk, List.map_append, List.map_singleton, numbK_snoc, hp, List.length_map, List.length_take, Nat.min_eq_left (by omega), Nat.add_comm 1 i]; rfl
      refine st_appL rfl (Nat.lt_of_lt_of_le (m := 200000) (by rw [List.length_map]; omega) (Nat.le_of_ble_eq_true rfl)) rfl rfl ?_
      walk_at "gb"
      exact ⟨_, _, _, by rw [e2, List.map_append]; rfl⟩
  · subst eg
    walk_at "gb"
    rw [List.take_length]
    exact q
theorem len_words_of : ∀ ds Q, wp_words_of ds Q → ds.length = 1 := len_line_words
theorem rd_words_of : ∀ ds Q, wp_words_of ds Q → τ_words_of (ends0 Q) (fzs ds ++ List.replicate (1 - ds.length) none) := fun ds Q ⟨l, e, hs, q⟩ => by
  subst e
  refine st_nrm rfl ?_
  unfold τ_words_of
  walk_at "gb"
  refine ⟨l, rfl, hs, ?_⟩
  walk_at "gb"
  exact q
theorem len_source_lines : ∀ ds Q, wp_source_lines ds Q → ds.length = 1 := fun ds Q ⟨l, e, _⟩ => by rw [e]; rfl
theorem rd_source_lines : ∀ ds Q, wp_source_lines ds Q → τ_source_lines (ends0 Q) (fzs ds ++ List.replicate (1 - ds.length) none) := fun ds Q ⟨l, e, hs, q⟩ => by
  subst e
  refine st_nrm rfl ?_
  unfold τ_source_lines
  walk_at "gb"
  refine ⟨l, rfl, hs, ?_⟩
  walk_at "gb"
  exact q
end K01
end
section
open VL PySem L2
local macro_rules | `(tactic| walk_at "vs") => `(tactic| first
  | with_reducible (first | refine st_seq ?_ | refine st_ret ?_ | refine st_set ?_ | refine st_if ?_ | refine st_drop ?_ | refine st_next ?_ | refine st_par ?_ | refine st_asg ?_ | refine st_rt0 ?_ | refine st_nx0 ?_ | refine st_brk ?_ | refine st_cnt ?_ | refine st_retN ?_ | refine st_op ?_ | refine st_op1 ?_ | refine st_an ?_ | refine st_ac ?_ | refine st_cb ?_ | refine st_tup ?_ | refine st_lst ?_ | refine st_to ?_ | refine st_tru ?_ | refine st_tnot ?_ | refine st_tand ?_ | refine st_tor ?_ | refine st_and ?_ | refine st_or ?_ | refine st_not ?_ | refine st_eif ?_ | refine st_chain ?_ | refine st_call ?_ | refine st_calli ?_ | refine st_isi ?_ | refine st_lrg ?_ | refine st_trg ?_ | refine st_sl ?_ | refine st_pn ?_ | refine st_ps ?_ | refine st_iseq ?_ | refine st_ir1 ?_ | refine st_ir2 ?_ | refine st_yes ?_ | refine st_c ?_ | refine st_xo ?_ | refine st_ox ?_ | refine st_cbe ?_ | refine st_true ?_ | refine st_ixe ?_ | refine st_dnew ?_ | refine st_ao0 ?_ | refine st_ao ?_ | refine st_trl ?_ | refine st_callk ?_ | refine st_callB ?_ | refine st_put ?_ | refine st_dput ?_ | refine st_g0 ?_ | refine st_sme ?_ | refine st_sme0 ?_ | refine st_pute ?_ | refine st_par3 ?_ | refine st_xelD ?_ | refine st_cbd ?_ | refine st_truDE ?_ | refine st_ixD' ?_ | refine st_smd ?_ | refine st_smd0 ?_ | refine st_putD ?_ | refine st_tdl ?_ | refine st_idx ?_ | refine st_rev ?_)
  | (with_reducible show (sAugI _ _ _ _ _)); refine st_augI rfl ?_
  | (with_reducible show (xVar _ _ _)); refine st_var rfl ?_
  | (with_reducible show (xVal _ _ _)); (first | refine st_val rfl ?_ | refine st_valL rfl rfl rfl ?_)
  | (with_reducible show (oMv _ _ _)); (first | refine st_mv rfl ?_ | refine st_mvL rfl rfl ?_)
  | (with_reducible show (eIxS _ _ _ _)); (first | refine st_ixT rfl ?_ | refine st_ixLs rfl ?_ | refine st_ixF rfl ?_ | refine st_ixTr rfl ?_ | refine st_ixDic rfl rfl ?_)
  | (with_reducible show (eLenS _ _ _)); (first | refine st_lenT rfl ?_ | refine st_lenD _ rfl ?_)
  | (with_reducible show (eEl _ _ _ _)); refine st_el rfl ?_
  | (with_reducible show (eApp _ _ _ _ _)); (first | refine st_app (listG_ls rfl) ?_ | refine st_app (listG_tr rfl) ?_)
  | (with_reducible show (sPutS _ _ _ _ _ _)); (first | refine st_putS rfl ?_ | refine st_putSD rfl ?_)
  | (with_reducible show (eInS _ _ _ _)); (first | refine st_in rfl ?_ | refine st_din rfl ?_)
  | (with_reducible show (eNotInS _ _ _ _)); (first | refine st_notin rfl ?_ | refine st_dnotin rfl ?_)
  | (with_reducible show (tInS _ _ _ _)); (first | refine st_tin rfl ?_ | refine st_tdin rfl ?_)
  | (with_reducible show (tNotInS _ _ _ _)); (first | refine st_tnotin rfl ?_ | refine st_tdnotin rfl ?_)
  | (with_reducible show (sDel _ _ _ _)); refine st_del rfl ?_
  | (with_reducible show (eSM _ _ _ _ _)); refine st_sm rfl ?_
  | (with_reducible show (gN _ _ _ _)); refine st_gn rfl ?_
  | (with_reducible show (gConss _ _ _ _ _)); refine st_gc ?_
  | (with_reducible show (gTupD _ _ _ _ _)); refine st_gt rfl ?_
  | (with_reducible show (∃ d b, _ = some d ∧ kitD d _ = some b ∧ _)); (first | refine ⟨_, true, rfl, (rfl : kitD _ _ = some true), ?_⟩ | refine ⟨_, false, rfl, (rfl : kitD _ _ = some false), ?_⟩)
  | (with_reducible show (∃ _, _)); (first | refine ⟨_, rfl, ?_⟩ | refine ⟨_, _, rfl, rfl, ?_⟩ | refine ⟨_, _, _, rfl, rfl, rfl, ?_⟩ | refine ⟨_, _, _, _, rfl, rfl, rfl, ?_⟩ | refine ⟨_, _, _, _, rfl, rfl, rfl, rfl, ?_⟩ | refine ⟨_, _, _, rfl, .inl ⟨_, rfl, rfl, rfl⟩, ?_⟩)
  | (with_reducible show ((∃ _, _) ∧ _)); (first | refine ⟨⟨_, rfl, _, .inl rfl⟩, ?_⟩ | refine ⟨⟨_, rfl, [], .inr ⟨_, rfl⟩⟩, ?_⟩)
  | (with_reducible show (_ ≤ sizeLine ∧ _)); refine ⟨Evl.sz_of (Nat.le_of_ble_eq_true rfl), ?_⟩)
local macro_rules | `(tactic| walk_at "op") => `(tactic| first
  | (with_reducible show (opAdd _ _ _)); (first | refine op_addI ?_)
  | (with_reducible show (opSub _ _ _)); (first | refine op_subI ?_)
  | (with_reducible show (opLt _ _ _)); (first | refine op_ltI ?_)
  | (with_reducible show (opLe _ _ _)); (first | refine op_leI ?_)
  | (with_reducible show (opGt _ _ _)); (first | refine op_gtI ?_)
  | (with_reducible show (opGe _ _ _)); (first | refine op_geI ?_)
  | (with_reducible show (opEq _ _ _)); (first | refine op_eqI ?_ | refine op_eqB ?_)
  | (with_reducible show (opNe _ _ _)); (first | refine op_neI ?_ | refine op_neB ?_)
  | (with_reducible show (opIsN _ _ _)); (first | refine op_isNone ?_ | refine op_isInt ?_ | refine op_isTup ?_ | refine op_isBl ?_ | refine op_isSt ?_ | refine op_isLs ?_)
  | (with_reducible show (opNotN _ _ _)); (first | refine op_notNone ?_ | refine op_notTup ?_)
  | (with_reducible show (opIx _ _ _)); (first | refine op_ixT0 rfl ?_ | refine op_ixT1 rfl ?_ | refine op_ixT2 rfl ?_ | refine op_ixL0 rfl ?_ | refine op_ixL1 rfl ?_)
  | (with_reducible show (op1Neg _ _)); refine op1_negI ?_
  | (with_reducible show (cdLen _ _)); (first | refine cd_lenL ?_ | refine cd_lenT ?_)
  | (with_reducible show (cdInt _ _)); (first | refine cd_intI ?_ | refine cd_intB ?_)
  | (with_reducible show (cdTuple _ _)); (first | refine cd_tupL ?_ | refine cd_tupT ?_)
  | (with_reducible show (cdList _ _)); (first | refine cd_listL ?_ | refine cd_listT ?_)
  | (with_reducible show (cdAbs _ _)); (first | refine cd_absI ?_)
  | (with_reducible show (cdMin2 _ _)); (first | refine cd_min2I ?_)
  | (with_reducible show (cdMax2 _ _)); (first | refine cd_max2I ?_)
  | (with_reducible show (sdAll _ _ _ _)); (first | refine sd_T ?_ | refine sd_L ?_))
local macro_rules | `(tactic| walk_at "go") => `(tactic| repeat (first | walk_at "vs" | walk_at "op"))
local macro_rules | `(tactic| walk_at "gb") => `(tactic| repeat (first | walk_at "vs" | walk_at "op" | with_reducible (first | refine br_t ?_ | refine br_f ?_ | refine br_nt ?_ | refine br_nf ?_)))
local macro_rules | `(tactic| walk_at "vs") => `(tactic| first
  | with_reducible (first | refine K01.st_split ?_ | refine K01.st_join ?_ | refine K01.st_starts ?_ | refine K01.st_upper ?_ | refine K01.st_isi2 ?_)
  | (with_reducible show ((∃ z, rslv _ _ = some (.str z)) ∧ _)); refine ⟨⟨_, rfl⟩, ?_⟩
  | (with_reducible show (eIxS _ _ _ _)); refine st_ixS' rfl ?_
  | (with_reducible show (∃ d b1 b2, _ = some d ∧ kitD d _ = some b1 ∧ kitD d _ = some b2 ∧ _)); (first | (refine ⟨_, true, false, rfl, (rfl : kitD _ _ = some true), (rfl : kitD _ _ = some false), ?_⟩; rw [Bool.true_or]) | (refine ⟨_, false, true, rfl, (rfl : kitD _ _ = some false), (rfl : kitD _ _ = some true), ?_⟩; rw [Bool.or_true]) | (refine ⟨_, false, false, rfl, (rfl : kitD _ _ = some false), (rfl : kitD _ _ = some false), ?_⟩; rw [Bool.or_false])))
namespace K01
open SX
theorem op_shlI {i j : Int} {Q : O → Prop} (hc : CShl i j) (h : Q (.fz (.int (i * 2 ^ j.toNat)))) : opShl (.int i) (.int j) Q := ⟨hc, h⟩
theorem op_powI {i j : Int} {Q : O → Prop} (hc : CPow i j) (h : Q (.fz (.int (i ^ j.toNat)))) : opPow (.int i) (.int j) Q := ⟨hc, h⟩
theorem bits_of {i : Int} {k : Nat} (h : i.natAbs < 2 ^ k) : PySem.Builtin.Int.intBits i ≤ k := by
  unfold PySem.Builtin.Int.intBits
  split
  · omega
  · rename_i c
    have hn : i.natAbs ≠ 0 := by intro z; apply c; simp; omega
    have := (Nat.log2_lt hn).mpr h
    omega
theorem mulx {i j : Int} (h1 : i.natAbs < 2 ^ 64) (h2 : j.natAbs < 2 ^ 64) : CMulX i j := by
  unfold CMulX
  have a := bits_of h1
  have b := bits_of h2
  omega
theorem divw {i : Int} {j : Nat} (h : 0 < j) (h2 : j < 2 ^ 64) : CDivW i (j : Nat) := by
  refine ⟨by omega, ?_⟩
  rw [Int.natAbs_natCast]
  have := (Nat.log2_lt (by omega)).mpr h2
  omega
theorem cutHi {α : Type} (ns : List α) (k : Nat) : (cutL ns none (some (k : Nat))).length ≤ k := by
  unfold cutL
  rw [HT.sIx_nat, HT.sIx_none, List.length_take]
  omega
theorem op_modR {i j : Int} {Q : O → Prop} (hj : 0 < j) (h : ∀ r, 0 ≤ r → r < j → Q (.fz (.int r))) : opMod (.int i) (.int j) Q :=
  op_modI hj (h _ (Int.emod_nonneg _ (by omega)) (Int.emod_lt_of_pos _ hj))
theorem rangeN_enc (n : Nat) : rangeN n = (List.range n).map fun (i : Nat) => PyData.int (i : Nat) := rfl
theorem rng_at {n i k : Nat} (h : (List.range n)[i]? = some k) : i < n ∧ i = k := by
  obtain ⟨h1, h2⟩ := List.getElem?_eq_some_iff.mp h
  rw [List.length_range] at h1
  rw [List.getElem_range] at h2
  exact ⟨h1, h2⟩
def dup (d : PyData) : PyData := .tuple [d, d]
theorem nodesAll_app (a b : List PyData) : nodesAll (a ++ b) = nodesAll a + nodesAll b := by
  induction a with
  | nil => simp [nodesAll]
  | cons x a ih => simp only [List.cons_append, nodesAll, ih]; omega
theorem plainAll_iff (a : List PyData) : plainAll a = true ↔ ∀ d ∈ a, plain d = true := by
  induction a with
  | nil => simp [plainAll]
  | cons x a ih => simp [plainAll, ih]
theorem nodes_pos (d : PyData) : 1 ≤ nodes d := by
  cases d <;> simp [nodes]
theorem len_nodes (a : List PyData) : a.length ≤ nodesAll a := by
  induction a with
  | nil => simp
  | cons x a ih => have := nodes_pos x; simp only [List.length_cons, nodesAll]; omega
theorem op_neS {x : Str} {Q : O → Prop} (hs : PyData.strOk x = true) (h : Q (.fz (.bool false))) : opNe (.str x) (.str x) Q := ⟨shaped_str hs, shaped_str hs, by rw [show PyData.eqv (.str x) (.str x) = true by simp [PyData.eqv]]; exact h⟩
theorem dup_range (ds : List PyData) : (List.range ds.length).map (fun k => dup (ds.getD k .none)) = ds.map dup := by
  apply List.ext_getElem?
  intro i
  by_cases h : i < ds.length
  · rw [List.getElem?_map, List.getElem?_range h, List.getElem?_map, List.getElem?_eq_getElem h]
    simp [List.getD_eq_getElem?_getD, List.getElem?_eq_getElem h]
  · rw [List.getElem?_eq_none (by simp; omega), List.getElem?_eq_none (by simp; omega)]
theorem len__law_same : ∀ ds Q, wp__law_same ds Q → ds.length = 2 := fun ds Q ⟨d, e, _⟩ => by rw [e]; rfl
theorem rd__law_same : ∀ ds Q, wp__law_same ds Q → τ__law_same (ends0 Q) (fzs ds ++ List.replicate (6 - ds.length) none) := fun ds Q ⟨d, e, pl, nd, q⟩ => by
  subst e
  refine st_nrm rfl ?_
  unfold τ__law_same
  walk_at "go"
  refine while_inv (fun n Γ' => ∃ ps x3 x4 x5, Γ' = [some (.fz d), some (.fz d), some (.ls (ps.map dup)), x3, x4, x5] ∧ (∀ p ∈ ps, plain p = true) ∧ n = nodesAll ps ∧ n ≤ 50000 ∧ (x5 = none ∨ ∃ y, x5 = some (.fz y))) (nodes d) ⟨[d], none, none, none, rfl, by simpa using pl, by simp [nodesAll], nd, .inl rfl⟩ ?_
  rintro n Γ' ⟨ps, x3, x4, x5, rfl, hp, rfl, hn, h5⟩
  walk_at "go"
  refine br2 (fun c => ?_) (fun c => ?_)
  · rcases List.eq_nil_or_concat ps with rfl | ⟨ps', p, rfl⟩
    · simp at c
    have pp : plain p = true := hp p (by simp)
    have hp' : ∀ z ∈ ps', plain z = true := fun z hz => hp z (by simp [hz])
    rw [List.concat_eq_append, nodesAll_app] at hn
    have np : nodesAll [p] = nodes p := by simp [nodesAll]
    rw [np] at hn
    have n1 := nodes_pos p
    walk_at "go"
    refine st_popL (d := dup p) rfl (by simp) rfl ?_
    rw [show ((ps'.concat p).map dup).dropLast = ps'.map dup by simp]
    have stop : ∀ y5 : Option O, (y5 = none ∨ ∃ y, y5 = some (.fz y)) → nodesAll ps' < nodesAll (ps'.concat p) ∧ nodesAll ps' ≤ 50000 := fun _ _ => by
      rw [List.concat_eq_append, nodesAll_app, np]
      exact ⟨by omega, by omega⟩
    obtain ⟨s1, s2⟩ := stop _ h5
    cases p with
    | none =>
      walk_at "gb"
      exact ⟨_, s1, ps', _, _, _, rfl, hp', rfl, s2, h5⟩
    | bool b =>
      walk_at "gb"
      rw [show (!(b == b)) = false by simp]
      walk_at "gb"
      exact ⟨_, s1, ps', _, _, _, rfl, hp', rfl, s2, h5⟩
    | int i =>
      walk_at "gb"
      rw [show (!decide (i = i)) = false by simp]
      walk_at "gb"
      exact ⟨_, s1, ps', _, _, _, rfl, hp', rfl, s2, h5⟩
    | str x =>
      walk_at "gb"
      refine op_neS (by simpa [plain] using pp) ?_
      walk_at "gb"
      exact ⟨_, s1, ps', _, _, _, rfl, hp', rfl, s2, h5⟩
    | tuple ds =>
      walk_at "gb"
      rw [show (!(true == true)) = false from rfl]
      walk_at "gb"
      rw [show (!(false == false)) = false from rfl]
      walk_at "gb"
      rw [show (!decide (((ds.length : Nat) : Int) = ((ds.length : Nat) : Int))) = false by simp]
      walk_at "gb"
      have nd' : nodes (.tuple ds) = 1 + nodesAll ds := by simp [nodes]
      have ld := len_nodes ds
      have lp := len_nodes ps'
      have pd := (plainAll_iff ds).mp (by simpa [plain] using pp)
      refine st_ext rfl ?_
      refine lc_map (List.range ds.length) (fun (k : Nat) => PyData.int (k : Nat)) (fun (k : Nat) => dup (ds.getD k .none)) (Γ1 := [some (.fz d), some (.fz d), some (.ls (ps'.map dup)), some (.fz (.tuple ds)), some (.fz (.tuple ds)), x5]) (fun QI q => ?_) (Evl.sz_of (by rw [List.length_range]; omega)) (by exact plain1 (by rcases h5 with rfl | ⟨y, rfl⟩; exact .inl rfl; exact .inr ⟨y, rfl⟩)) (fun k hk => ⟨_, [some (.fz d), some (.fz d), some (.ls (ps'.map dup)), some (.fz (.tuple ds)), some (.fz (.tuple ds)), some (.fz (.int (k : Nat)))], rfl, fun QG q => ⟨_, rfl, q⟩, ?_, fun Q q => ?_⟩) ?_
      · walk_at "go"
        exact ⟨szI (by omega) (by omega), q⟩
      · rcases h5 with rfl | ⟨y, rfl⟩ <;> rfl
      · have hk : k < ds.length := List.mem_range.mp hk
        have ek : ds[k]? = some (ds.getD k .none) := by rw [List.getD_eq_getElem?_getD, List.getElem?_eq_getElem hk]; rfl
        walk_at "go"
        refine op_ixT k rfl ek ?_
        walk_at "go"
        refine op_ixT k rfl ek ?_
        walk_at "go"
        exact q
      · rw [dup_range]
        refine ⟨_, _, rfl, .inl rfl, Evl.sz_of (by rw [List.length_map, List.length_map]; omega), _, rfl, ?_⟩
        walk_at "go"
        refine ⟨nodesAll (ps' ++ ds), ?_, ps' ++ ds, _, _, _, by rw [List.map_append], fun z hz => ?_, rfl, ?_, h5⟩
        · rw [nodesAll_app, List.concat_eq_append, nodesAll_app, np]; omega
        · rcases List.mem_append.mp hz with h | h
          · exact hp' z h
          · exact pd z h
        · rw [nodesAll_app]; omega
    | list ds =>
      walk_at "gb"
      rw [show (!(false == false)) = false from rfl]
      walk_at "gb"
      rw [show (!(true == true)) = false from rfl]
      walk_at "gb"
      rw [show (!decide (((ds.length : Nat) : Int) = ((ds.length : Nat) : Int))) = false by simp]
      walk_at "gb"
      have nd' : nodes (.list ds) = 1 + nodesAll ds := by simp [nodes]
      have ld := len_nodes ds
      have lp := len_nodes ps'
      have pd := (plainAll_iff ds).mp (by simpa [plain] using pp)
      refine st_ext rfl ?_
      refine lc_map (List.range ds.length) (fun (k : Nat) => PyData.int (k : Nat)) (fun (k : Nat) => dup (ds.getD k .none)) (Γ1 := [some (.fz d), some (.fz d), some (.ls (ps'.map dup)), some (.fz (.list ds)), some (.fz (.list ds)), x5]) (fun QI q => ?_) (Evl.sz_of (by rw [List.length_range]; omega)) (by exact plain1 (by rcases h5 with rfl | ⟨y, rfl⟩; exact .inl rfl; exact .inr ⟨y, rfl⟩)) (fun k hk => ⟨_, [some (.fz d), some (.fz d), some (.ls (ps'.map dup)), some (.fz (.list ds)), some (.fz (.list ds)), some (.fz (.int (k : Nat)))], rfl, fun QG q => ⟨_, rfl, q⟩, ?_, fun Q q => ?_⟩) ?_
      · walk_at "go"
        exact ⟨szI (by omega) (by omega), q⟩
      · rcases h5 with rfl | ⟨y, rfl⟩ <;> rfl
      · have hk : k < ds.length := List.mem_range.mp hk
        have ek : ds[k]? = some (ds.getD k .none) := by rw [List.getD_eq_getElem?_getD, List.getElem?_eq_getElem hk]; rfl
        walk_at "go"
        refine op_ixL k rfl ek ?_
        walk_at "go"
        refine op_ixL k rfl ek ?_
        walk_at "go"
        exact q
      · rw [dup_range]
        refine ⟨_, _, rfl, .inl rfl, Evl.sz_of (by rw [List.length_map, List.length_map]; omega), _, rfl, ?_⟩
        walk_at "go"
        refine ⟨nodesAll (ps' ++ ds), ?_, ps' ++ ds, _, _, _, by rw [List.map_append], fun z hz => ?_, rfl, ?_, h5⟩
        · rw [nodesAll_app, List.concat_eq_append, nodesAll_app, np]; omega
        · rcases List.mem_append.mp hz with h | h
          · exact hp' z h
          · exact pd z h
        · rw [nodesAll_app]; omega
    | dict _ => simp [plain] at pp
  · walk_at "go"
    exact q
theorem len__law_kept : ∀ ds Q, wp__law_kept ds Q → ds.length = 0 := fun ds Q ⟨e, _⟩ => by rw [e]; rfl
theorem kept_eq : (["form", "box", "choice", "part", "end", "rules", "use", "if", "then", "and", "or", "not", "never", "all", "most", "least", "just", "same"] : List String).map Str.ofString = keptW.map S := by decide +kernel
theorem kept_tup : PyData.tuple [.str (Str.ofString "form"), .str (Str.ofString "box"), .str (Str.ofString "choice"), .str (Str.ofString "part"), .str (Str.ofString "end"), .str (Str.ofString "rules"), .str (Str.ofString "use"), .str (Str.ofString "if"), .str (Str.ofString "then"), .str (Str.ofString "and"), .str (Str.ofString "or"), .str (Str.ofString "not"), .str (Str.ofString "never"), .str (Str.ofString "all"), .str (Str.ofString "most"), .str (Str.ofString "least"), .str (Str.ofString "just"), .str (Str.ofString "same")] = keptD := by
  have := congrArg (List.map PyData.str) kept_eq
  rw [List.map_map, List.map_map] at this
  exact congrArg PyData.tuple this
theorem rd__law_kept : ∀ ds Q, wp__law_kept ds Q → τ__law_kept (ends0 Q) (fzs ds ++ List.replicate (0 - ds.length) none) := fun ds Q ⟨e, q⟩ => by
  subst e
  refine st_nrm rfl ?_
  unfold τ__law_kept
  walk_at "go"
  rw [kept_tup]
  exact q
theorem len__law_is_name : ∀ ds Q, wp__law_is_name ds Q → ds.length = 1 := fun ds Q ⟨d, e, _⟩ => by rw [e]; rfl
theorem inS_split (c : Nat) (h : inS c = true) : (!decide (c ∈ digitsT)) = inL c := by
  rw [in_digits]
  unfold inS at h
  unfold inL inD at *
  rw [Bool.or_eq_true, Bool.and_eq_true, Bool.and_eq_true] at h
  simp only [decide_eq_true_eq] at h
  rw [← Bool.decide_and, ← Bool.decide_and, ← decide_not]
  exact decide_eq_decide.mpr (by omega)
theorem filt_len0 (l : T) (p : Nat → Bool) : decide ((((l.filter fun c => !p c).map fun c => dT [c]).length : Int) = 0) = l.all p := by
  rw [List.length_map]
  induction l with
  | nil => rfl
  | cons c l ih =>
    rw [List.filter_cons, List.all_cons]
    cases p c with
    | true => simpa using ih
    | false => simp; omega
theorem rd__law_is_name : ∀ ds Q, wp__law_is_name ds Q → τ__law_is_name (ends0 Q) (fzs ds ++ List.replicate (3 - ds.length) none) := fun ds Q ⟨d, e, ok, q⟩ => by
  subst e
  refine st_nrm rfl ?_
  unfold τ__law_is_name
  rw [c_signs', c_digits']
  cases ok with
  | non => walk_at "gb"; exact q
  | bl b => walk_at "gb"; exact q
  | int i => walk_at "gb"; exact q
  | tup ds => walk_at "gb"; exact q
  | lst ds => walk_at "gb"; exact q
  | @str l hs =>
    have q : Q (.fz (.bool (isNm l))) := q
    have hl := hs.1
    walk_at "gb"
    refine cd_lenT' (by omega) ?_
    walk_at "gb"
    refine br2 (fun h1 => ?_) (fun h1 => ?_)
    · have h1 := of_decide_eq_true h1
      walk_at "gb"
      refine br2 (fun h2 => ?_) (fun h2 => ?_)
      · walk_at "gb"
        have h2 : ¬ l.length ≤ 8 := fun h => by simp at h2; omega
        have e : isNm l = false := by unfold isNm; rw [decide_eq_false h2, Bool.and_false]; rfl
        rw [e] at q; exact q
      · walk_at "gb"
        have h2 : l.length ≤ 8 := by simp at h2; omega
        obtain ⟨c, l', e⟩ : ∃ c l', l = c :: l' := by
          cases l with
          | nil => simp at h1
          | cons c l' => exact ⟨c, l', rfl⟩
        have isn : isNm l = (l.all inS && inL c && !isIn l keptW) := isNm_mid e h2
        refine ⟨rfl, ?_⟩
        walk_at "gb"
        refine op_inTs hs kept_sml ?_
        walk_at "gb"
        refine br2 (fun h3 => ?_) (fun h3 => ?_)
        · walk_at "gb"
          rw [isn, h3, Bool.not_true, Bool.and_false] at q
          exact q
        rw [isn, h3, Bool.not_false, Bool.and_true] at q
        walk_at "gb"
        refine lc_go l (fun c => dT [c]) (fun c => !inS c) (fun c => dT [c]) (Γ1 := [some (.fz (dT l)), some (.fz (dT (lettersT ++ digitsT))), none]) (fun QI q => by walk_at "go"; exact q) (Evl.sz_of (by omega)) (by exact plain1 (.inl rfl)) (fun x hx => ⟨_, _, rfl, fun QG q => ⟨_, rfl, q⟩, rfl, fun Q q => ?_, fun _ Q q => ?_⟩) ?_
        · walk_at "go"
          refine op_notInC ?_
          walk_at "go"
          rw [in_signs]
          exact q
        · walk_at "go"
          exact q
        walk_at "gb"
        rw [filt_len0 l inS]
        refine br2 (fun h4 => ?_) (fun h4 => ?_)
        · walk_at "gb"
          refine op_ixC (l := l) (c := c) 0 rfl (by rw [e]; rfl) (by omega) ?_
          walk_at "gb"
          refine op_notInC ?_
          have hc : inS c = true := List.all_eq_true.mp h4 c (by rw [e]; simp)
          rw [inS_split c hc]
          rw [h4, Bool.true_and] at q
          exact q
        · rw [h4, Bool.false_and] at q
          exact q
    · walk_at "gb"
      have h1 := of_decide_eq_false h1
      have e : isNm l = false := by unfold isNm; rw [decide_eq_false (by omega)]; rfl
      rw [e] at q; exact q
theorem cutL_map {α β : Type} (f : α → β) (xs : List α) (lo hi : Option Int) : cutL (xs.map f) lo hi = (cutL xs lo hi).map f := by
  unfold cutL
  rw [List.length_map, List.map_take, List.map_drop]
theorem len__law_pool : ∀ ds Q, wp__law_pool ds Q → ds.length = 1 := fun ds Q ⟨ns, e, _⟩ => by rw [e]; rfl
theorem rd__law_pool : ∀ ds Q, wp__law_pool ds Q → τ__law_pool (ends0 Q) (fzs ds ++ List.replicate (5 - ds.length) none) := fun ds Q ⟨ns, e, hn, hb, q⟩ => by
  subst e
  refine st_nrm rfl ?_
  unfold τ__law_pool
  walk_at "go"
  have l59 : (cutL ns none (some 59)).length ≤ 59 := cutHi ns 59
  refine for_inv (cutL ns none (some 59)) PyData.int (fun i Γ' => ∃ mx gs x3 x4, Γ' = [some (.fz (scD ns)), some (.ls (gs.map .int)), some (.fz (.int mx)), x3, x4] ∧ 0 ≤ mx ∧ mx < 2147483587 ∧ (∀ g ∈ gs, 0 ≤ g) ∧ gs.length ≤ i)
    (Γ1 := [some (.fz (scD ns)), some (.ls (([] : List Int).map .int)), some (.fz (.int 52011)), none, none]) (fun QI q => ?_) ⟨52011, [], none, none, rfl, by omega, by omega, by simp, by simp⟩ (fun i c Γ' ec w => ?_) (fun Γ' w => ?_)
  · walk_at "go"
    refine ⟨ns, rfl, ?_⟩
    walk_at "go"
    rw [cutL_map]
    exact q
  · obtain ⟨mx, gs, x3, x4, rfl, m0, m1, g0, gl⟩ := w
    have il : i < 59 := by have := (List.getElem?_eq_some_iff.mp ec).1; omega
    have hc : Builtin.Int.intBits c ≤ 1048576 := hb c (by
      have := List.mem_of_getElem? ec
      unfold cutL at this
      exact List.mem_of_mem_drop (List.mem_of_mem_take this))
    walk_at "go"
    have hcm : CMulX 3 (if c < 0 then -c else c) := by
      unfold CMulX
      have a := bits_of (i := 3) (k := 2) (by decide)
      have b : Builtin.Int.intBits (if c < 0 then -c else c) = Builtin.Int.intBits c := by
        split
        · unfold Builtin.Int.intBits; simp
        · rfl
      rw [b]; omega
    refine op_mulI hcm ?_
    walk_at "go"
    generalize hcell : (3 * (if c < 0 then -c else c) + _ : Int) = cell
    refine op_powI ⟨by omega, by omega, by decide⟩ ?_
    generalize (10 : Int) ^ (18 : Int).toNat = T
    walk_at "go"
    refine br2 (fun _ => ?_) (fun _ => ?_)
    · walk_at "go"
      refine op_shlI ⟨by omega, by have := bits_of (i := 1) (k := 1) (by decide); omega⟩ ?_
      have hM : (0 : Int) < 1 * 2 ^ (1300 : Int).toNat := by rw [Int.one_mul]; exact Int.pow_pos (by omega)
      generalize (1 : Int) * 2 ^ (1300 : Int).toNat = M at hM
      walk_at "go"
      refine op_modR hM fun sz s0 _ => ?_
      walk_at "go"
      refine st_appL rfl (by rw [List.length_map]; exact Evl.sz_of (by omega)) rfl rfl ?_
      walk_at "go"
      refine op_mulI (mulx (by omega) (by omega)) ?_
      walk_at "go"
      refine op_modR (by omega) fun a a0 a1 => ?_
      walk_at "go"
      refine op_modR (by omega) fun mx2 n0 n1 => ?_
      walk_at "go"
      exact ⟨mx2, gs ++ [sz], _, _, by rw [List.map_append]; rfl, n0, n1, fun z hz => by rcases List.mem_append.mp hz with h | h; exact g0 z h; simp at h; omega, by simp; omega⟩
    · skip
      walk_at "go"
      refine op_mulI (mulx (by omega) (by omega)) ?_
      walk_at "go"
      refine op_modR (by omega) fun a a0 a1 => ?_
      walk_at "go"
      refine op_modR (by omega) fun mx2 n0 n1 => ?_
      walk_at "go"
      exact ⟨mx2, gs, _, _, rfl, n0, n1, g0, by omega⟩
  · obtain ⟨mx, gs, x3, x4, rfl, m0, m1, g0, gl⟩ := w
    rw [show (cutL ns none (some 59)).length = (cutL ns none (some 59)).length from rfl] at gl
    walk_at "go"
    refine q _ ⟨gs, mx, 0, [], rfl, m0, m1, by omega, by omega, g0, by omega, by simp, by simp⟩
end K01
end
section
open VL PySem L2
local macro_rules | `(tactic| walk_at "vs") => `(tactic| first
  | with_reducible (first | refine st_seq ?_ | refine st_ret ?_ | refine st_set ?_ | refine st_if ?_ | refine st_drop ?_ | refine st_next ?_ | refine st_par ?_ | refine st_asg ?_ | refine st_rt0 ?_ | refine st_nx0 ?_ | refine st_brk ?_ | refine st_cnt ?_ | refine st_retN ?_ | refine st_op ?_ | refine st_op1 ?_ | refine st_an ?_ | refine st_ac ?_ | refine st_cb ?_ | refine st_tup ?_ | refine st_lst ?_ | refine st_to ?_ | refine st_tru ?_ | refine st_tnot ?_ | refine st_tand ?_ | refine st_tor ?_ | refine st_and ?_ | refine st_or ?_ | refine st_not ?_ | refine st_eif ?_ | refine st_chain ?_ | refine st_call ?_ | refine st_calli ?_ | refine st_isi ?_ | refine st_lrg ?_ | refine st_trg ?_ | refine st_sl ?_ | refine st_pn ?_ | refine st_ps ?_ | refine st_iseq ?_ | refine st_ir1 ?_ | refine st_ir2 ?_ | refine st_yes ?_ | refine st_c ?_ | refine st_xo ?_ | refine st_ox ?_ | refine st_cbe ?_ | refine st_true ?_ | refine st_ixe ?_ | refine st_dnew ?_ | refine st_ao0 ?_ | refine st_ao ?_ | refine st_trl ?_ | refine st_callk ?_ | refine st_callB ?_ | refine st_put ?_ | refine st_dput ?_ | refine st_g0 ?_ | refine st_sme ?_ | refine st_sme0 ?_ | refine st_pute ?_ | refine st_par3 ?_ | refine st_xelD ?_ | refine st_cbd ?_ | refine st_truDE ?_ | refine st_ixD' ?_ | refine st_smd ?_ | refine st_smd0 ?_ | refine st_putD ?_ | refine st_tdl ?_ | refine st_idx ?_ | refine st_rev ?_)
  | (with_reducible show (sAugI _ _ _ _ _)); refine st_augI rfl ?_
  | (with_reducible show (xVar _ _ _)); refine st_var rfl ?_
  | (with_reducible show (xVal _ _ _)); (first | refine st_val rfl ?_ | refine st_valL rfl rfl rfl ?_)
  | (with_reducible show (oMv _ _ _)); (first | refine st_mv rfl ?_ | refine st_mvL rfl rfl ?_)
  | (with_reducible show (eIxS _ _ _ _)); (first | refine st_ixT rfl ?_ | refine st_ixLs rfl ?_ | refine st_ixF rfl ?_ | refine st_ixTr rfl ?_ | refine st_ixDic rfl rfl ?_)
  | (with_reducible show (eLenS _ _ _)); (first | refine st_lenT rfl ?_ | refine st_lenD _ rfl ?_)
  | (with_reducible show (eEl _ _ _ _)); refine st_el rfl ?_
  | (with_reducible show (eApp _ _ _ _ _)); (first | refine st_app (listG_ls rfl) ?_ | refine st_app (listG_tr rfl) ?_)
  | (with_reducible show (sPutS _ _ _ _ _ _)); (first | refine st_putS rfl ?_ | refine st_putSD rfl ?_)
  | (with_reducible show (eInS _ _ _ _)); (first | refine st_in rfl ?_ | refine st_din rfl ?_)
  | (with_reducible show (eNotInS _ _ _ _)); (first | refine st_notin rfl ?_ | refine st_dnotin rfl ?_)
  | (with_reducible show (tInS _ _ _ _)); (first | refine st_tin rfl ?_ | refine st_tdin rfl ?_)
  | (with_reducible show (tNotInS _ _ _ _)); (first | refine st_tnotin rfl ?_ | refine st_tdnotin rfl ?_)
  | (with_reducible show (sDel _ _ _ _)); refine st_del rfl ?_
  | (with_reducible show (eSM _ _ _ _ _)); refine st_sm rfl ?_
  | (with_reducible show (gN _ _ _ _)); refine st_gn rfl ?_
  | (with_reducible show (gConss _ _ _ _ _)); refine st_gc ?_
  | (with_reducible show (gTupD _ _ _ _ _)); refine st_gt rfl ?_
  | (with_reducible show (∃ d b, _ = some d ∧ kitD d _ = some b ∧ _)); (first | refine ⟨_, true, rfl, (rfl : kitD _ _ = some true), ?_⟩ | refine ⟨_, false, rfl, (rfl : kitD _ _ = some false), ?_⟩)
  | (with_reducible show (∃ _, _)); (first | refine ⟨_, rfl, ?_⟩ | refine ⟨_, _, rfl, rfl, ?_⟩ | refine ⟨_, _, _, rfl, rfl, rfl, ?_⟩ | refine ⟨_, _, _, _, rfl, rfl, rfl, ?_⟩ | refine ⟨_, _, _, _, rfl, rfl, rfl, rfl, ?_⟩ | refine ⟨_, _, _, rfl, .inl ⟨_, rfl, rfl, rfl⟩, ?_⟩)
  | (with_reducible show ((∃ _, _) ∧ _)); (first | refine ⟨⟨_, rfl, _, .inl rfl⟩, ?_⟩ | refine ⟨⟨_, rfl, [], .inr ⟨_, rfl⟩⟩, ?_⟩)
  | (with_reducible show (_ ≤ sizeLine ∧ _)); refine ⟨Evl.sz_of (Nat.le_of_ble_eq_true rfl), ?_⟩)
local macro_rules | `(tactic| walk_at "op") => `(tactic| first
  | (with_reducible show (opAdd _ _ _)); (first | refine op_addI ?_)
  | (with_reducible show (opSub _ _ _)); (first | refine op_subI ?_)
  | (with_reducible show (opLt _ _ _)); (first | refine op_ltI ?_)
  | (with_reducible show (opLe _ _ _)); (first | refine op_leI ?_)
  | (with_reducible show (opGt _ _ _)); (first | refine op_gtI ?_)
  | (with_reducible show (opGe _ _ _)); (first | refine op_geI ?_)
  | (with_reducible show (opEq _ _ _)); (first | refine op_eqI ?_ | refine op_eqB ?_)
  | (with_reducible show (opNe _ _ _)); (first | refine op_neI ?_ | refine op_neB ?_)
  | (with_reducible show (opIsN _ _ _)); (first | refine op_isNone ?_ | refine op_isInt ?_ | refine op_isTup ?_ | refine op_isBl ?_ | refine op_isSt ?_ | refine op_isLs ?_)
  | (with_reducible show (opNotN _ _ _)); (first | refine op_notNone ?_ | refine op_notTup ?_)
  | (with_reducible show (opIx _ _ _)); (first | refine op_ixT0 rfl ?_ | refine op_ixT1 rfl ?_ | refine op_ixT2 rfl ?_ | refine op_ixL0 rfl ?_ | refine op_ixL1 rfl ?_)
  | (with_reducible show (op1Neg _ _)); refine op1_negI ?_
  | (with_reducible show (cdLen _ _)); (first | refine cd_lenL ?_ | refine cd_lenT ?_)
  | (with_reducible show (cdInt _ _)); (first | refine cd_intI ?_ | refine cd_intB ?_)
  | (with_reducible show (cdTuple _ _)); (first | refine cd_tupL ?_ | refine cd_tupT ?_)
  | (with_reducible show (cdList _ _)); (first | refine cd_listL ?_ | refine cd_listT ?_)
  | (with_reducible show (cdAbs _ _)); (first | refine cd_absI ?_)
  | (with_reducible show (cdMin2 _ _)); (first | refine cd_min2I ?_)
  | (with_reducible show (cdMax2 _ _)); (first | refine cd_max2I ?_)
  | (with_reducible show (sdAll _ _ _ _)); (first | refine sd_T ?_ | refine sd_L ?_))
local macro_rules | `(tactic| walk_at "go") => `(tactic| repeat (first | walk_at "vs" | walk_at "op"))
local macro_rules | `(tactic| walk_at "gb") => `(tactic| repeat (first | walk_at "vs" | walk_at "op" | with_reducible (first | refine br_t ?_ | refine br_f ?_ | refine br_nt ?_ | refine br_nf ?_)))
local macro_rules | `(tactic| walk_at "vs") => `(tactic| first
  | with_reducible (first | refine K01.st_split ?_ | refine K01.st_join ?_ | refine K01.st_starts ?_ | refine K01.st_upper ?_ | refine K01.st_isi2 ?_)
  | (with_reducible show ((∃ z, rslv _ _ = some (.str z)) ∧ _)); refine ⟨⟨_, rfl⟩, ?_⟩
  | (with_reducible show (eIxS _ _ _ _)); refine st_ixS' rfl ?_
  | (with_reducible show (∃ d b1 b2, _ = some d ∧ kitD d _ = some b1 ∧ kitD d _ = some b2 ∧ _)); (first | (refine ⟨_, true, false, rfl, (rfl : kitD _ _ = some true), (rfl : kitD _ _ = some false), ?_⟩; rw [Bool.true_or]) | (refine ⟨_, false, true, rfl, (rfl : kitD _ _ = some false), (rfl : kitD _ _ = some true), ?_⟩; rw [Bool.or_true]) | (refine ⟨_, false, false, rfl, (rfl : kitD _ _ = some false), (rfl : kitD _ _ = some false), ?_⟩; rw [Bool.or_false])))
namespace K01
open SX
theorem kPut_len (kk : List (Key × PyData)) (k : Key) (d : PyData) : (kPut kk k d).length ≤ kk.length + 1 := by
  unfold kPut
  split
  · rw [List.length_map]; omega
  · simp
theorem kPut_mem (kk : List (Key × PyData)) (k : Key) (d : PyData) (p : Key × PyData) (h : p ∈ kPut kk k d) : p.2 = d ∨ p ∈ kk := by
  unfold kPut at h
  split at h
  · obtain ⟨z, hz, e⟩ := List.mem_map.mp h
    split at e
    · exact .inl (by rw [← e])
    · exact .inr (by rw [← e]; exact hz)
  · rcases List.mem_append.mp h with h | h
    · exact .inr h
    · exact .inl (by rw [List.mem_singleton.mp h])
theorem kGet_mem {kk : List (Key × PyData)} {k : Key} {d : PyData} (h : kGet kk k = some d) : ∃ p ∈ kk, p.2 = d := by
  unfold kGet at h
  obtain ⟨p, hp, e⟩ := Option.map_eq_some_iff.mp h
  exact ⟨p, List.mem_of_find?_eq_some hp, e⟩
theorem kGet_put (kk : List (Key × PyData)) (k : Key) (d : PyData) : (kGet (kPut kk k d) k).isSome = true := by
  unfold kGet
  rw [Option.isSome_map, List.find?_isSome]
  unfold kPut
  split
  · rename_i c
    obtain ⟨p, hp, e⟩ := List.any_eq_true.mp c
    have e := of_decide_eq_true e
    exact ⟨(p.1, d), List.mem_map.mpr ⟨p, hp, by rw [if_pos e]⟩, decide_eq_true e⟩
  · exact ⟨(k, d), by simp, decide_eq_true rfl⟩
def tailT : ES := sSeq (sIf (tO (eOp opGt (xO (eDGetE (eEl 0 (xC (.int 3))) 2)) (xC (.int 1)))) (sRet (eOp opMod (xVar 4) (xVar 1))) sNext)
  (sRet (eIf (tO (eOp opEq (xO (eDGetE (eEl 0 (xC (.int 3))) 2)) (xC (.int 0)))) (oX (xC (.int 0))) (eOp opSub (xVar 1) (xC (.int 1)))))
theorem tail_ok {Q : O → O → Prop} {kk : List (Key × PyData)} {x y v : Int} {many place : Nat} (hs : (kGet kk (.inl (place : Int))).isSome = true) (kv : ∀ p ∈ kk, ∃ v : Int, p.2 = .int v ∧ 0 ≤ v ∧ v < 9) (hm : 1 ≤ many)
    (fin : ∀ n : Int, 0 ≤ n → n < many → Q (.fz (.int n)) (.tr [.ls [], .fz (.int x), .fz (.int y), .dk kk])) :
    tailT (ends1 Q) [some (.tr [.ls [], .fz (.int x), .fz (.int y), .dk kk]), some (.fz (.int (many : Nat))), some (.fz (.int (place : Nat))), none, some (.fz (.int v))] := by
  obtain ⟨d, hd⟩ := Option.isSome_iff_exists.mp hs
  obtain ⟨p, hp, e⟩ := kGet_mem hd
  obtain ⟨w, ew, w0, w1⟩ := kv p hp
  rw [← e, ew] at hd
  have go : ∀ {QQ : O → Ga → Prop}, QQ (.fz (.int w)) [some (.tr [.ls [], .fz (.int x), .fz (.int y), .dk kk]), some (.fz (.int (many : Nat))), some (.fz (.int (place : Nat))), none, some (.fz (.int v))] → eDGetE (eEl 0 (xC (.int 3))) 2 [some (.tr [.ls [], .fz (.int x), .fz (.int y), .dk kk]), some (.fz (.int (many : Nat))), some (.fz (.int (place : Nat))), none, some (.fz (.int v))] QQ := fun q => by
    show eEl 0 (xC (.int 3)) _ _
    walk_at "gb"
    exact ⟨kk, .inl (place : Int), _, rfl, rfl, hd, q⟩
  unfold tailT
  walk_at "gb"
  refine go ?_
  walk_at "gb"
  refine br2 (fun _ => ?_) (fun _ => ?_)
  · walk_at "gb"
    refine op_modR (by omega) fun n h0 h1 => ?_
    exact ⟨_, rfl, fin n h0 h1⟩
  walk_at "gb"
  refine go ?_
  walk_at "gb"
  refine br2 (fun _ => ?_) (fun _ => ?_)
  · walk_at "gb"
    exact ⟨_, rfl, fin 0 (by omega) (by omega)⟩
  · walk_at "gb"
    exact ⟨_, rfl, fin _ (by omega) (by omega)⟩
theorem len__law_take : ∀ o ds Q, wp__law_take o ds Q → ds.length + 1 = 3 := fun o ds Q ⟨c, p, m, _, _, e, _⟩ => by rw [e]; rfl
theorem rd__law_take : ∀ o ds Q, wp__law_take o ds Q → τ__law_take (ends1 Q) (some o :: fzs ds ++ List.replicate (5 - (ds.length + 1)) none) := fun o ds Q ⟨c, many, place, pk, hc, e, hm1, hm, q⟩ => by
  subst e
  obtain ⟨gs, x, y, kk, rfl, x0, x1, y0, y1, g0, gl, kl, kv⟩ := pk
  have hc : c < 1000000 := hc
  have hm : many ≤ 1000000 := hm
  refine st_nrm rfl ?_
  unfold τ__law_take pool
  walk_at "go"
  refine while_inv (fun n Γ' => ∃ gs, Γ' = [some (.tr [.ls (gs.map .int), .fz (.int x), .fz (.int y), .dk kk]), some (.fz (.int (many : Nat))), some (.fz (.int (place : Nat))), none, none] ∧ n = gs.length ∧ (∀ g ∈ gs, 0 ≤ g) ∧ gs.length ≤ 59) gs.length ⟨gs, rfl, rfl, g0, gl⟩ ?_
  rintro n Γ' ⟨gs, rfl, rfl, g0, gl⟩
  walk_at "go"
  cases gs with
  | nil =>
    refine br2 (fun c => absurd c (by simp)) (fun _ => ?_)
    refine br2 (fun c => absurd c (by simp)) (fun _ => ?_)
    walk_at "gb"
    refine br2 (fun c => absurd c (by simp)) (fun _ => ?_)
    walk_at "gb"
    refine op_mulI (mulx (by omega) (by omega)) ?_
    walk_at "gb"
    refine op_mulI (mulx (by omega) (by omega)) ?_
    walk_at "gb"
    refine op_modR (by omega) fun x2 n0 n1 => ?_
    walk_at "gb"
    refine op_divI (divw (j := 73) (by omega) (by omega)) ?_
    walk_at "gb"
    have v0 : 0 ≤ x2 / 73 := Int.ediv_nonneg n0 (by omega)
    have v1 : x2 / 73 < 100000000 := by omega
    generalize x2 / 73 = v at v0 v1
    have fin : ∀ (n : Int) kk', 0 ≤ n → n < many → kk'.length ≤ c + 1 → (∀ p ∈ kk', ∃ v : Int, p.2 = .int v ∧ 0 ≤ v ∧ v < 9) → Q (.fz (.int n)) (.tr [.ls [], .fz (.int x2), .fz (.int (y + 1)), .dk kk']) := fun n kk' h0 h1 h2 h3 => by
      have := q n.toNat (pool [] x2 (y + 1) kk') (by omega) ⟨[], x2, y + 1, kk', rfl, n0, n1, by omega, by omega, by simp, by simp, h2, h3⟩
      rwa [show ((n.toNat : Nat) : Int) = n by omega] at this
    refine br2 (fun _ => ?_) (fun _ => ?_)
    · walk_at "gb"
      refine op_modR (by omega) fun n h0 h1 => ?_
      exact ⟨_, rfl, fin n kk h0 h1 (by omega) kv⟩
    walk_at "gb"
    show eDInE _ _ _ [some (.tr [.ls [], .fz (.int x2), .fz (.int (y + 1)), .dk kk]), _, _, _, _] _
    refine ⟨⟨_, rfl⟩, ?_⟩
    walk_at "gb"
    refine ⟨kk, .inl (place : Int), rfl, rfl, ?_⟩
    walk_at "gb"
    show Br (!(kGet kk (.inl (place : Int))).isSome) _ _
    refine br2 (fun c1 => ?_) (fun c1 => ?_)
    · unfold sDPutE
      walk_at "gb"
      refine op_divI (divw (j := 11) (by omega) (by omega)) ?_
      walk_at "gb"
      refine op_modR (by omega) fun w w0 w1 => ?_
      walk_at "gb"
      refine ⟨_, kk, .inl (place : Int), _, rfl, rfl, rfl, Nat.lt_of_lt_of_le (m := 1000000) (by omega) (Nat.le_of_ble_eq_true rfl), rfl, ?_⟩
      have kv' : ∀ p ∈ kPut kk (.inl (place : Int)) (.int w), ∃ v : Int, p.2 = .int v ∧ 0 ≤ v ∧ v < 9 := fun p hp => by
        rcases kPut_mem _ _ _ _ hp with h | h
        · exact ⟨w, h, w0, w1⟩
        · exact kv p h
      have kl' := kPut_len kk (.inl (place : Int)) (.int w)
      walk_at "gb"
      refine tail_ok (kGet_put _ _ _) kv' hm1 fun n h0 h1 => fin n _ h0 h1 (by omega) kv'
    · walk_at "gb"
      exact tail_ok (by simpa using c1) kv hm1 fun n h0 h1 => fin n _ h0 h1 (by omega) kv
  | cons g gs =>
    have hg := g0 g (by simp)
    have g0' : ∀ z ∈ gs, 0 ≤ z := fun z hz => g0 z (by simp [hz])
    rw [List.length_cons] at gl
    refine br2 (fun _ => ?_) (fun c => absurd c (by simp))
    walk_at "gb"
    refine br2 (fun c => ?_) (fun c => ?_)
    · walk_at "gb"
      refine ⟨0, 0, .int g, rfl, ⟨by omega, by omega, ?_⟩, rfl, _, rfl, gs.length, by simp, gs, rfl, rfl, g0', by omega⟩
      show seqIndex? 0 _ = some 0
      simp [seqIndex?]
    · walk_at "gb"
      refine br2 (fun _ => ?_) (fun c => absurd c (by simp))
      walk_at "gb"
      refine op_divI (divw (by omega) (by omega)) ?_
      walk_at "gb"
      refine ⟨0, 0, _, rfl, ?_, rfl, _, rfl, ?_⟩
      · show ixN _ _ = _
        unfold ixN
        simp
      walk_at "gb"
      refine op_modR (by omega) fun n h0 h1 => ?_
      have := q n.toNat (pool ((g / (many : Int)) :: gs) x y kk) (by omega) ⟨_, x, y, kk, rfl, x0, x1, y0, by omega, fun z hz => by
        rcases List.mem_cons.mp hz with h | h
        · rw [h]; exact Int.ediv_nonneg hg (by omega)
        · exact g0' z h, by simpa using gl, by omega, kv⟩
      rw [show ((n.toNat : Nat) : Int) = n by omega] at this
      exact ⟨_, rfl, this⟩
theorem len__law_pick : ∀ o ds Q, wp__law_pick o ds Q → ds.length + 1 = 2 := fun o ds Q ⟨c, d, xs, _, _, e, _⟩ => by rw [e]; rfl
theorem rd__law_pick : ∀ o ds Q, wp__law_pick o ds Q → τ__law_pick (ends1 Q) (some o :: fzs ds ++ List.replicate (2 - (ds.length + 1)) none) := fun o ds Q ⟨c, d, xs, pk, hc, e, hd, l1, l2, q⟩ => by
  subst e
  refine st_nrm rfl ?_
  unfold τ__law_pick
  rcases hd with rfl | rfl | ⟨l, rfl, hl, rfl⟩
  · walk_at "go"
    refine ⟨c, xs.length, 0, pk, hc, rfl, l1, by unfold lim; omega, fun n o' hn pk' => ?_⟩
    walk_at "go"
    refine op_ixL n rfl (List.getElem?_eq_getElem hn) ?_
    exact ⟨_, rfl, q _ o' (List.getElem_mem hn) pk'⟩
  · walk_at "go"
    refine ⟨c, xs.length, 0, pk, hc, rfl, l1, by unfold lim; omega, fun n o' hn pk' => ?_⟩
    walk_at "go"
    refine op_ixT n rfl (List.getElem?_eq_getElem hn) ?_
    exact ⟨_, rfl, q _ o' (List.getElem_mem hn) pk'⟩
  · rw [List.length_map] at l1 l2
    walk_at "go"
    refine cd_lenT' (by omega) ?_
    walk_at "go"
    refine ⟨c, l.length, 0, pk, hc, rfl, l1, by unfold lim; omega, fun n o' hn pk' => ?_⟩
    walk_at "go"
    refine op_ixC n rfl (List.getElem?_eq_getElem hn) (by omega) ?_
    exact ⟨_, rfl, q _ o' (List.mem_map.mpr ⟨_, List.getElem_mem hn, rfl⟩) pk'⟩
end K01
end
section
open VL PySem L2
local macro_rules | `(tactic| walk_at "vs") => `(tactic| first
  | with_reducible (first | refine st_seq ?_ | refine st_ret ?_ | refine st_set ?_ | refine st_if ?_ | refine st_drop ?_ | refine st_next ?_ | refine st_par ?_ | refine st_asg ?_ | refine st_rt0 ?_ | refine st_nx0 ?_ | refine st_brk ?_ | refine st_cnt ?_ | refine st_retN ?_ | refine st_op ?_ | refine st_op1 ?_ | refine st_an ?_ | refine st_ac ?_ | refine st_cb ?_ | refine st_tup ?_ | refine st_lst ?_ | refine st_to ?_ | refine st_tru ?_ | refine st_tnot ?_ | refine st_tand ?_ | refine st_tor ?_ | refine st_and ?_ | refine st_or ?_ | refine st_not ?_ | refine st_eif ?_ | refine st_chain ?_ | refine st_call ?_ | refine st_calli ?_ | refine st_isi ?_ | refine st_lrg ?_ | refine st_trg ?_ | refine st_sl ?_ | refine st_pn ?_ | refine st_ps ?_ | refine st_iseq ?_ | refine st_ir1 ?_ | refine st_ir2 ?_ | refine st_yes ?_ | refine st_c ?_ | refine st_xo ?_ | refine st_ox ?_ | refine st_cbe ?_ | refine st_true ?_ | refine st_ixe ?_ | refine st_dnew ?_ | refine st_ao0 ?_ | refine st_ao ?_ | refine st_trl ?_ | refine st_callk ?_ | refine st_callB ?_ | refine st_put ?_ | refine st_dput ?_ | refine st_g0 ?_ | refine st_sme ?_ | refine st_sme0 ?_ | refine st_pute ?_ | refine st_par3 ?_ | refine st_xelD ?_ | refine st_cbd ?_ | refine st_truDE ?_ | refine st_ixD' ?_ | refine st_smd ?_ | refine st_smd0 ?_ | refine st_putD ?_ | refine st_tdl ?_ | refine st_idx ?_ | refine st_rev ?_)
  | (with_reducible show (sAugI _ _ _ _ _)); refine st_augI rfl ?_
  | (with_reducible show (xVar _ _ _)); refine st_var rfl ?_
  | (with_reducible show (xVal _ _ _)); (first | refine st_val rfl ?_ | refine st_valL rfl rfl rfl ?_)
  | (with_reducible show (oMv _ _ _)); (first | refine st_mv rfl ?_ | refine st_mvL rfl rfl ?_)
  | (with_reducible show (eIxS _ _ _ _)); (first | refine st_ixT rfl ?_ | refine st_ixLs rfl ?_ | refine st_ixF rfl ?_ | refine st_ixTr rfl ?_ | refine st_ixDic rfl rfl ?_)
  | (with_reducible show (eLenS _ _ _)); (first | refine st_lenT rfl ?_ | refine st_lenD _ rfl ?_)
  | (with_reducible show (eEl _ _ _ _)); refine st_el rfl ?_
  | (with_reducible show (eApp _ _ _ _ _)); (first | refine st_app (listG_ls rfl) ?_ | refine st_app (listG_tr rfl) ?_)
  | (with_reducible show (sPutS _ _ _ _ _ _)); (first | refine st_putS rfl ?_ | refine st_putSD rfl ?_)
  | (with_reducible show (eInS _ _ _ _)); (first | refine st_in rfl ?_ | refine st_din rfl ?_)
  | (with_reducible show (eNotInS _ _ _ _)); (first | refine st_notin rfl ?_ | refine st_dnotin rfl ?_)
  | (with_reducible show (tInS _ _ _ _)); (first | refine st_tin rfl ?_ | refine st_tdin rfl ?_)
  | (with_reducible show (tNotInS _ _ _ _)); (first | refine st_tnotin rfl ?_ | refine st_tdnotin rfl ?_)
  | (with_reducible show (sDel _ _ _ _)); refine st_del rfl ?_
  | (with_reducible show (eSM _ _ _ _ _)); refine st_sm rfl ?_
  | (with_reducible show (gN _ _ _ _)); refine st_gn rfl ?_
  | (with_reducible show (gConss _ _ _ _ _)); refine st_gc ?_
  | (with_reducible show (gTupD _ _ _ _ _)); refine st_gt rfl ?_
  | (with_reducible show (∃ d b, _ = some d ∧ kitD d _ = some b ∧ _)); (first | refine ⟨_, true, rfl, (rfl : kitD _ _ = some true), ?_⟩ | refine ⟨_, false, rfl, (rfl : kitD _ _ = some false), ?_⟩)
  | (with_reducible show (∃ _, _)); (first | refine ⟨_, rfl, ?_⟩ | refine ⟨_, _, rfl, rfl, ?_⟩ | refine ⟨_, _, _, rfl, rfl, rfl, ?_⟩ | refine ⟨_, _, _, _, rfl, rfl, rfl, ?_⟩ | refine ⟨_, _, _, _, rfl, rfl, rfl, rfl, ?_⟩ | refine ⟨_, _, _, rfl, .inl ⟨_, rfl, rfl, rfl⟩, ?_⟩)
  | (with_reducible show ((∃ _, _) ∧ _)); (first | refine ⟨⟨_, rfl, _, .inl rfl⟩, ?_⟩ | refine ⟨⟨_, rfl, [], .inr ⟨_, rfl⟩⟩, ?_⟩)
  | (with_reducible show (_ ≤ sizeLine ∧ _)); refine ⟨Evl.sz_of (Nat.le_of_ble_eq_true rfl), ?_⟩)
local macro_rules | `(tactic| walk_at "op") => `(tactic| first
  | (with_reducible show (opAdd _ _ _)); (first | refine op_addI ?_)
  | (with_reducible show (opSub _ _ _)); (first | refine op_subI ?_)
  | (with_reducible show (opLt _ _ _)); (first | refine op_ltI ?_)
  | (with_reducible show (opLe _ _ _)); (first | refine op_leI ?_)
  | (with_reducible show (opGt _ _ _)); (first | refine op_gtI ?_)
  | (with_reducible show (opGe _ _ _)); (first | refine op_geI ?_)
  | (with_reducible show (opEq _ _ _)); (first | refine op_eqI ?_ | refine op_eqB ?_)
  | (with_reducible show (opNe _ _ _)); (first | refine op_neI ?_ | refine op_neB ?_)
  | (with_reducible show (opIsN _ _ _)); (first | refine op_isNone ?_ | refine op_isInt ?_ | refine op_isTup ?_ | refine op_isBl ?_ | refine op_isSt ?_ | refine op_isLs ?_)
  | (with_reducible show (opNotN _ _ _)); (first | refine op_notNone ?_ | refine op_notTup ?_)
  | (with_reducible show (opIx _ _ _)); (first | refine op_ixT0 rfl ?_ | refine op_ixT1 rfl ?_ | refine op_ixT2 rfl ?_ | refine op_ixL0 rfl ?_ | refine op_ixL1 rfl ?_)
  | (with_reducible show (op1Neg _ _)); refine op1_negI ?_
  | (with_reducible show (cdLen _ _)); (first | refine cd_lenL ?_ | refine cd_lenT ?_)
  | (with_reducible show (cdInt _ _)); (first | refine cd_intI ?_ | refine cd_intB ?_)
  | (with_reducible show (cdTuple _ _)); (first | refine cd_tupL ?_ | refine cd_tupT ?_)
  | (with_reducible show (cdList _ _)); (first | refine cd_listL ?_ | refine cd_listT ?_)
  | (with_reducible show (cdAbs _ _)); (first | refine cd_absI ?_)
  | (with_reducible show (cdMin2 _ _)); (first | refine cd_min2I ?_)
  | (with_reducible show (cdMax2 _ _)); (first | refine cd_max2I ?_)
  | (with_reducible show (sdAll _ _ _ _)); (first | refine sd_T ?_ | refine sd_L ?_))
local macro_rules | `(tactic| walk_at "go") => `(tactic| repeat (first | walk_at "vs" | walk_at "op"))
local macro_rules | `(tactic| walk_at "gb") => `(tactic| repeat (first | walk_at "vs" | walk_at "op" | with_reducible (first | refine br_t ?_ | refine br_f ?_ | refine br_nt ?_ | refine br_nf ?_)))
local macro_rules | `(tactic| walk_at "vs") => `(tactic| first
  | with_reducible (first | refine K01.st_split ?_ | refine K01.st_join ?_ | refine K01.st_starts ?_ | refine K01.st_upper ?_ | refine K01.st_isi2 ?_)
  | (with_reducible show ((∃ z, rslv _ _ = some (.str z)) ∧ _)); refine ⟨⟨_, rfl⟩, ?_⟩
  | (with_reducible show (eIxS _ _ _ _)); refine st_ixS' rfl ?_
  | (with_reducible show (∃ d b1 b2, _ = some d ∧ kitD d _ = some b1 ∧ kitD d _ = some b2 ∧ _)); (first | (refine ⟨_, true, false, rfl, (rfl : kitD _ _ = some true), (rfl : kitD _ _ = some false), ?_⟩; rw [Bool.true_or]) | (refine ⟨_, false, true, rfl, (rfl : kitD _ _ = some false), (rfl : kitD _ _ = some true), ?_⟩; rw [Bool.or_true]) | (refine ⟨_, false, false, rfl, (rfl : kitD _ _ = some false), (rfl : kitD _ _ = some false), ?_⟩; rw [Bool.or_false])))
namespace K01
open SX
theorem cutS_S (l : T) (lo hi : Option Int) : cutS (S l) lo hi = S (cutL l lo hi) := by
  unfold cutS cutL
  rw [S_len]
theorem sd_S {l : T} {lo hi : Option Int} {Q : O → Prop} (hl : l.length ≤ 100000) (q : Q (.fz (dT (cutL l lo hi)))) : sdAll (dT l) lo hi Q :=
  ⟨by rw [S_len]; exact Nat.le_trans hl (Nat.le_of_ble_eq_true rfl), by rw [cutS_S]; exact q⟩
theorem sd_Sbl {l : T} {Q : O → Prop} (hl : l.length ≤ 100000) (hn : l ≠ []) (q : Q (.fz (dT (l.take (l.length - 1))))) : sdAll (dT l) none (some (-1)) Q :=
  ⟨by rw [S_len]; exact Nat.le_trans hl (Nat.le_of_ble_eq_true rfl), by rw [C8.cutS_slice, slice_butlast hn]; exact q⟩
theorem sd_S1 {l : T} {Q : O → Prop} (hl : l.length ≤ 100000) (q : Q (.fz (dT (l.drop 1)))) : sdAll (dT l) (some 1) none Q :=
  ⟨by rw [S_len]; exact Nat.le_trans hl (Nat.le_of_ble_eq_true rfl), by rw [C8.cutS_slice, slice_from (by omega)]; exact q⟩
theorem cutL_mem {α : Type} {l : List α} {lo hi : Option Int} {x : α} (h : x ∈ cutL l lo hi) : x ∈ l := by
  unfold cutL at h
  exact List.mem_of_mem_drop (List.mem_of_mem_take h)
theorem cutL_len {α : Type} (l : List α) (lo hi : Option Int) : (cutL l lo hi).length ≤ l.length := by
  unfold cutL
  rw [List.length_take, List.length_drop]; omega
theorem c_of (s : String) (l : T) (h : s.toList.map Char.toNat = l) : PyData.str (Str.ofString s) = dT l := by
  have e := TL.tl_ofString s
  have : Str.ofString s = S l := by rw [← h, ← e]
  rw [this]; rfl
theorem sum_one (w : T) : ((w.map fun z => [z]).map (·.length)).sum = w.length := by
  induction w with
  | nil => rfl
  | cons z w ih => simp only [List.map_cons, List.sum_cons, List.length_cons, ih]; simp; omega
theorem joinL_one (w : T) : TL.joinL [] (w.map fun c => [c]) = w := by
  induction w with
  | nil => rfl
  | cons c w ih =>
    cases w with
    | nil => rfl
    | cons d w => exact congrArg (List.cons c) ih
def set2 : T := [97, 90, 57, 95, 45, 43, 42, 47, 61, 60, 62, 40, 41, 91, 93, 123, 125, 46, 44, 58, 59, 33, 63, 39, 35, 126, 94, 124, 38, 36, 64]
theorem c_ab : PyData.str (Str.ofString "ab") = dT [97, 98] := c_of _ _ (by decide +kernel)
theorem c_set2 : PyData.str (Str.ofString "aZ9_-+*/=<>()[]{}.,:;!?'#~^|&$@") = dT set2 := c_of _ _ (by decide +kernel)
theorem c_quo : PyData.str (Str.ofString "\"") = dT [34] := c_of _ _ (by decide +kernel)
def OkC (l : T) : Prop := l.length ≤ 100 ∧ 1 ≤ l.length ∧ ∀ c ∈ l, c ≠ 32 ∧ c ≠ 10 ∧ c < 128
theorem okc_of {l : T} (h : (decide (l.length ≤ 100) && decide (1 ≤ l.length) && l.all fun c => decide (c ≠ 32 ∧ c ≠ 10 ∧ c < 128)) = true) : OkC l := by
  rw [Bool.and_eq_true, Bool.and_eq_true, decide_eq_true_eq, decide_eq_true_eq, List.all_eq_true] at h
  exact ⟨h.1.1, h.1.2, fun c hc => of_decide_eq_true (h.2 c hc)⟩
def sets : List T := [[97, 98], lettersT ++ digitsT, set2 ++ [34], [35], digitsT]
theorem sets_ok : ∀ l ∈ sets, OkC l := by
  have : (sets.all fun l => decide (l.length ≤ 100) && decide (1 ≤ l.length) && l.all fun c => decide (c ≠ 32 ∧ c ≠ 10 ∧ c < 128)) = true := by decide +kernel
  exact fun l hl => okc_of (List.all_eq_true.mp this l hl)
theorem len__law_word : ∀ o ds Q, wp__law_word o ds Q → ds.length + 1 = 2 := fun o ds Q ⟨c, _, _, e, _⟩ => by rw [e]; rfl
theorem rd__law_word : ∀ o ds Q, wp__law_word o ds Q → τ__law_word (ends1 Q) (some o :: fzs ds ++ List.replicate (4 - (ds.length + 1)) none) := fun o ds Q ⟨c, pk, hc, e, q⟩ => by
  subst e
  have hc : c + 100 < 1000000 := hc
  refine st_nrm rfl ?_
  unfold τ__law_word
  rw [c_signs', c_digits', c_ab, c_set2, c_quo, c_hash, c_empty]
  walk_at "go"
  refine op_addTx (by decide) ?_
  walk_at "go"
  refine ⟨c, 5, 1, pk, by unfold lim; omega, rfl, by omega, by unfold lim; omega, fun n o' hn pk => ?_⟩
  walk_at "go"
  have hn' : n < sets.length := hn
  have es : (sets.map dT)[n]? = some (dT sets[n]) := by rw [List.getElem?_map, List.getElem?_eq_getElem hn']; rfl
  refine op_ixT n rfl (show _ = some (dT sets[n]) from es) ?_
  have ok := sets_ok sets[n] (List.getElem_mem hn')
  generalize sets[n] = l at ok
  obtain ⟨l1, l2, lc⟩ := ok
  walk_at "go"
  refine st_lc ?_
  walk_at "go"
  refine ⟨c + 1, 6, 0, pk, by unfold lim; omega, rfl, by omega, by unfold lim; omega, fun n2 o2 hn2 pk2 => ?_⟩
  walk_at "go"
  refine ⟨szI (by omega) (by omega), ?_⟩
  refine lcB_inv (List.range (1 + (n2 : Int)).toNat) (fun (i : Nat) => PyData.int (i : Nat)) (fun i acc Γ' => ∃ o' w, Γ' = [some o', some (.fz (.int 6)), some (.fz (dT l)), none] ∧ PoolOk (c + 2 + i) o' ∧ acc = w.map (fun z => dT [z]) ∧ w.length = i ∧ ∀ z ∈ w, z ∈ l) rfl (by exact plain1 (.inl rfl)) ⟨o2, [], rfl, pk2, rfl, rfl, by simp⟩ (fun i b acc Γ' eb w _ => ?_) (fun acc Γ' w => ?_)
  · obtain ⟨o', w, rfl, pk', rfl, wl, wm⟩ := w
    obtain ⟨il, rfl⟩ := rng_at eb
    refine ⟨_, rfl, ?_⟩
    walk_at "gb"
    refine cd_lenT' (by omega) ?_
    walk_at "gb"
    refine ⟨c + 2 + i, l.length, 0, pk', by unfold lim; omega, rfl, l2, by unfold lim; omega, fun k o3 hk pk3 => ?_⟩
    walk_at "gb"
    refine op_ixC k rfl (List.getElem?_eq_getElem hk) (by omega) ?_
    walk_at "gb"
    exact ⟨by rw [List.length_map]; exact Evl.sz_of (by omega), _, rfl, o3, w ++ [l[k]], rfl, pk3, by rw [List.map_append]; rfl, by simp [wl], fun z hz => by
      rcases List.mem_append.mp hz with h | h
      · exact wm z h
      · rw [List.mem_singleton.mp h]; exact List.getElem_mem hk⟩
  · obtain ⟨o', w, rfl, pk', rfl, wl, wm⟩ := w
    rw [List.length_range] at wl pk'
    walk_at "gb"
    refine join_end (b := []) (ys := w.map fun z => [z]) rfl (by rw [List.map_map]; rfl) (by rw [sum_one]; simp; omega) ?_
    rw [joinL_one]
    refine ⟨_, rfl, q w o' ⟨?_, by omega, fun z hz => lc z (wm z hz)⟩ (pk'.mono (by omega))⟩
    intro e; rw [e] at wl; simp at wl; omega
end K01
end
section
open VL PySem L2
local macro_rules | `(tactic| walk_at "vs") => `(tactic| first
  | with_reducible (first | refine st_seq ?_ | refine st_ret ?_ | refine st_set ?_ | refine st_if ?_ | refine st_drop ?_ | refine st_next ?_ | refine st_par ?_ | refine st_asg ?_ | refine st_rt0 ?_ | refine st_nx0 ?_ | refine st_brk ?_ | refine st_cnt ?_ | refine st_retN ?_ | refine st_op ?_ | refine st_op1 ?_ | refine st_an ?_ | refine st_ac ?_ | refine st_cb ?_ | refine st_tup ?_ | refine st_lst ?_ | refine st_to ?_ | refine st_tru ?_ | refine st_tnot ?_ | refine st_tand ?_ | refine st_tor ?_ | refine st_and ?_ | refine st_or ?_ | refine st_not ?_ | refine st_eif ?_ | refine st_chain ?_ | refine st_call ?_ | refine st_calli ?_ | refine st_isi ?_ | refine st_lrg ?_ | refine st_trg ?_ | refine st_sl ?_ | refine st_pn ?_ | refine st_ps ?_ | refine st_iseq ?_ | refine st_ir1 ?_ | refine st_ir2 ?_ | refine st_yes ?_ | refine st_c ?_ | refine st_xo ?_ | refine st_ox ?_ | refine st_cbe ?_ | refine st_true ?_ | refine st_ixe ?_ | refine st_dnew ?_ | refine st_ao0 ?_ | refine st_ao ?_ | refine st_trl ?_ | refine st_callk ?_ | refine st_callB ?_ | refine st_put ?_ | refine st_dput ?_ | refine st_g0 ?_ | refine st_sme ?_ | refine st_sme0 ?_ | refine st_pute ?_ | refine st_par3 ?_ | refine st_xelD ?_ | refine st_cbd ?_ | refine st_truDE ?_ | refine st_ixD' ?_ | refine st_smd ?_ | refine st_smd0 ?_ | refine st_putD ?_ | refine st_tdl ?_ | refine st_idx ?_ | refine st_rev ?_)
  | (with_reducible show (sAugI _ _ _ _ _)); refine st_augI rfl ?_
  | (with_reducible show (xVar _ _ _)); refine st_var rfl ?_
  | (with_reducible show (xVal _ _ _)); (first | refine st_val rfl ?_ | refine st_valL rfl rfl rfl ?_)
  | (with_reducible show (oMv _ _ _)); (first | refine st_mv rfl ?_ | refine st_mvL rfl rfl ?_)
  | (with_reducible show (eIxS _ _ _ _)); (first | refine st_ixT rfl ?_ | refine st_ixLs rfl ?_ | refine st_ixF rfl ?_ | refine st_ixTr rfl ?_ | refine st_ixDic rfl rfl ?_)
  | (with_reducible show (eLenS _ _ _)); (first | refine st_lenT rfl ?_ | refine st_lenD _ rfl ?_)
  | (with_reducible show (eEl _ _ _ _)); refine st_el rfl ?_
  | (with_reducible show (eApp _ _ _ _ _)); (first | refine st_app (listG_ls rfl) ?_ | refine st_app (listG_tr rfl) ?_)
  | (with_reducible show (sPutS _ _ _ _ _ _)); (first | refine st_putS rfl ?_ | refine st_putSD rfl ?_)
  | (with_reducible show (eInS _ _ _ _)); (first | refine st_in rfl ?_ | refine st_din rfl ?_)
  | (with_reducible show (eNotInS _ _ _ _)); (first | refine st_notin rfl ?_ | refine st_dnotin rfl ?_)
  | (with_reducible show (tInS _ _ _ _)); (first | refine st_tin rfl ?_ | refine st_tdin rfl ?_)
  | (with_reducible show (tNotInS _ _ _ _)); (first | refine st_tnotin rfl ?_ | refine st_tdnotin rfl ?_)
  | (with_reducible show (sDel _ _ _ _)); refine st_del rfl ?_
  | (with_reducible show (eSM _ _ _ _ _)); refine st_sm rfl ?_
  | (with_reducible show (gN _ _ _ _)); refine st_gn rfl ?_
  | (with_reducible show (gConss _ _ _ _ _)); refine st_gc ?_
  | (with_reducible show (gTupD _ _ _ _ _)); refine st_gt rfl ?_
  | (with_reducible show (∃ d b, _ = some d ∧ kitD d _ = some b ∧ _)); (first | refine ⟨_, true, rfl, (rfl : kitD _ _ = some true), ?_⟩ | refine ⟨_, false, rfl, (rfl : kitD _ _ = some false), ?_⟩)
  | (with_reducible show (∃ _, _)); (first | refine ⟨_, rfl, ?_⟩ | refine ⟨_, _, rfl, rfl, ?_⟩ | refine ⟨_, _, _, rfl, rfl, rfl, ?_⟩ | refine ⟨_, _, _, _, rfl, rfl, rfl, ?_⟩ | refine ⟨_, _, _, _, rfl, rfl, rfl, rfl, ?_⟩ | refine ⟨_, _, _, rfl, .inl ⟨_, rfl, rfl, rfl⟩, ?_⟩)
  | (with_reducible show ((∃ _, _) ∧ _)); (first | refine ⟨⟨_, rfl, _, .inl rfl⟩, ?_⟩ | refine ⟨⟨_, rfl, [], .inr ⟨_, rfl⟩⟩, ?_⟩)
  | (with_reducible show (_ ≤ sizeLine ∧ _)); refine ⟨Evl.sz_of (Nat.le_of_ble_eq_true rfl), ?_⟩)
local macro_rules | `(tactic| walk_at "op") => `(tactic| first
  | (with_reducible show (opAdd _ _ _)); (first | refine op_addI ?_)
  | (with_reducible show (opSub _ _ _)); (first | refine op_subI ?_)
  | (with_reducible show (opLt _ _ _)); (first | refine op_ltI ?_)
  | (with_reducible show (opLe _ _ _)); (first | refine op_leI ?_)
  | (with_reducible show (opGt _ _ _)); (first | refine op_gtI ?_)
  | (with_reducible show (opGe _ _ _)); (first | refine op_geI ?_)
  | (with_reducible show (opEq _ _ _)); (first | refine op_eqI ?_ | refine op_eqB ?_)
  | (with_reducible show (opNe _ _ _)); (first | refine op_neI ?_ | refine op_neB ?_)
  | (with_reducible show (opIsN _ _ _)); (first | refine op_isNone ?_ | refine op_isInt ?_ | refine op_isTup ?_ | refine op_isBl ?_ | refine op_isSt ?_ | refine op_isLs ?_)
  | (with_reducible show (opNotN _ _ _)); (first | refine op_notNone ?_ | refine op_notTup ?_)
  | (with_reducible show (opIx _ _ _)); (first | refine op_ixT0 rfl ?_ | refine op_ixT1 rfl ?_ | refine op_ixT2 rfl ?_ | refine op_ixL0 rfl ?_ | refine op_ixL1 rfl ?_)
  | (with_reducible show (op1Neg _ _)); refine op1_negI ?_
  | (with_reducible show (cdLen _ _)); (first | refine cd_lenL ?_ | refine cd_lenT ?_)
  | (with_reducible show (cdInt _ _)); (first | refine cd_intI ?_ | refine cd_intB ?_)
  | (with_reducible show (cdTuple _ _)); (first | refine cd_tupL ?_ | refine cd_tupT ?_)
  | (with_reducible show (cdList _ _)); (first | refine cd_listL ?_ | refine cd_listT ?_)
  | (with_reducible show (cdAbs _ _)); (first | refine cd_absI ?_)
  | (with_reducible show (cdMin2 _ _)); (first | refine cd_min2I ?_)
  | (with_reducible show (cdMax2 _ _)); (first | refine cd_max2I ?_)
  | (with_reducible show (sdAll _ _ _ _)); (first | refine sd_T ?_ | refine sd_L ?_))
local macro_rules | `(tactic| walk_at "go") => `(tactic| repeat (first | walk_at "vs" | walk_at "op"))
local macro_rules | `(tactic| walk_at "gb") => `(tactic| repeat (first | walk_at "vs" | walk_at "op" | with_reducible (first | refine br_t ?_ | refine br_f ?_ | refine br_nt ?_ | refine br_nf ?_)))
local macro_rules | `(tactic| walk_at "vs") => `(tactic| first
  | with_reducible (first | refine K01.st_split ?_ | refine K01.st_join ?_ | refine K01.st_starts ?_ | refine K01.st_upper ?_ | refine K01.st_isi2 ?_)
  | (with_reducible show ((∃ z, rslv _ _ = some (.str z)) ∧ _)); refine ⟨⟨_, rfl⟩, ?_⟩
  | (with_reducible show (eIxS _ _ _ _)); refine st_ixS' rfl ?_
  | (with_reducible show (∃ d b1 b2, _ = some d ∧ kitD d _ = some b1 ∧ kitD d _ = some b2 ∧ _)); (first | (refine ⟨_, true, false, rfl, (rfl : kitD _ _ = some true), (rfl : kitD _ _ = some false), ?_⟩; rw [Bool.true_or]) | (refine ⟨_, false, true, rfl, (rfl : kitD _ _ = some false), (rfl : kitD _ _ = some true), ?_⟩; rw [Bool.or_true]) | (refine ⟨_, false, false, rfl, (rfl : kitD _ _ = some false), (rfl : kitD _ _ = some false), ?_⟩; rw [Bool.or_false])))
namespace K01
open SX
theorem sd_Sg {l : T} {n : Nat} {lo hi : Option Int} {Q : O → Prop} (hl : Sml n l) (hn : n ≤ 1000) (q : ∀ l', Sml n l' → Q (.fz (dT l'))) : sdAll (dT l) lo hi Q :=
  sd_S (Nat.le_trans hl.1 (by omega)) (q _ ⟨Nat.le_trans (cutL_len _ _ _) hl.1, fun c hc => hl.2 c (cutL_mem hc)⟩)
theorem op_addG {a b : T} {n m : Nat} {Q : O → Prop} (ha : Sml n a) (hb : Sml m b) (hn : n + m ≤ 1000) (h : ∀ l', Sml (n + m) l' → Q (.fz (dT l'))) : opAdd (dT a) (dT b) Q := by
  have h1 := ha.1
  have h2 := hb.1
  refine op_addTx (by omega) (h _ ⟨by rw [List.length_append]; omega, fun c hc => ?_⟩)
  rcases List.mem_append.mp hc with h | h
  · exact ha.2 c h
  · exact hb.2 c h
theorem sml_of {n : Nat} {l : T} (h : (decide (l.length ≤ n) && l.all fun c => decide (c < 128)) = true) : Sml n l := by
  rw [Bool.and_eq_true, decide_eq_true_eq, List.all_eq_true] at h
  exact ⟨h.1, fun c hc => by have := of_decide_eq_true (h.2 c hc); omega⟩
theorem kept_last : ∀ l ∈ keptW, l.getLast? ≠ some 48 ∧ 2 ≤ l.length ∧ l.length ≤ 8 ∧ l.all (· < 128) = true := by
  have : (keptW.all fun l => decide (l.getLast? ≠ some 48 ∧ 2 ≤ l.length ∧ l.length ≤ 8 ∧ l.all (· < 128) = true)) = true := by decide +kernel
  exact fun l hl => of_decide_eq_true (List.all_eq_true.mp this l hl)
theorem isIn_mem {α : Type} [DecidableEq α] {x : α} {l : List α} (h : isIn x l = true) : x ∈ l := by
  unfold isIn at h
  obtain ⟨y, hy, e⟩ := List.any_eq_true.mp h
  have : y = x := by simpa using e
  exact this ▸ hy
/-- a text of signs, a letter ahead -/
def NmL (w : T) : Prop := w.all inS = true ∧ ∃ c r, w = c :: r ∧ inL c = true
theorem nmL_isNm {w : T} (h : NmL w) (hl : w.length ≤ 8) (hk : isIn w keptW = false) : isNm w = true := by
  obtain ⟨a, c, r, e, hc⟩ := h
  rw [isNm_mid e hl, a, hc, hk]; rfl
theorem nmL_bent {w : T} (h : NmL w) (hl : w.length ≤ 8) (hk : isIn w keptW = true) : isNm (w.take (w.length - 1) ++ [48]) = true := by
  obtain ⟨a, c, r, e, hc⟩ := h
  obtain ⟨_, l2, _, _⟩ := kept_last w (isIn_mem hk)
  refine nmL_isNm ⟨?_, c, r.take (r.length - 1) ++ [48], ?_, hc⟩ (by rw [List.length_append, List.length_take]; simp; omega) ?_
  · rw [List.all_append, Bool.and_eq_true]
    refine ⟨List.all_eq_true.mpr fun z hz => List.all_eq_true.mp a z (List.mem_of_mem_take hz), by decide⟩
  · subst e
    rw [List.length_cons] at l2
    rw [List.length_cons, show r.length + 1 - 1 = (r.length - 1) + 1 by omega, List.take_succ_cons, List.cons_append]
  · cases hh : isIn (w.take (w.length - 1) ++ [48]) keptW with
    | false => rfl
    | true =>
      have := (kept_last _ (isIn_mem hh)).1
      exact absurd (by simp) this
theorem isNm_facts {w : T} (h : isNm w = true) : 1 ≤ w.length ∧ w.length ≤ 8 ∧ ∀ c ∈ w, c < 128 := by
  unfold isNm at h
  simp only [Bool.and_eq_true, decide_eq_true_eq] at h
  refine ⟨h.1.1.1.1, h.1.1.1.2, fun c hc => ?_⟩
  have := List.all_eq_true.mp h.1.1.2 c hc
  unfold inS inL inD at this
  simp only [Bool.or_eq_true, Bool.and_eq_true, decide_eq_true_eq] at this
  omega
theorem isNm_sml {w : T} (h : isNm w = true) : Sml 8 w := ⟨(isNm_facts h).2.1, fun c hc => by have := (isNm_facts h).2.2 c hc; omega⟩
theorem c_0 : PyData.str (Str.ofString "0") = dT [48] := c_of _ _ (by decide +kernel)
theorem len__law_named : ∀ o ds Q, wp__law_named o ds Q → ds.length + 1 = 2 := fun o ds Q ⟨c, _, _, e, _⟩ => by rw [e]; rfl
theorem in_letS {c : Nat} (h : c ∈ lettersT) : inL c = true := by rw [← in_letters]; exact decide_eq_true h
theorem in_sigS {c : Nat} (h : c ∈ lettersT ++ digitsT) : inS c = true := by rw [← in_signs]; exact decide_eq_true h
theorem inL_S {c : Nat} (h : inL c = true) : inS c = true := by unfold inS; rw [h]; rfl
theorem inS_lt {c : Nat} (h : inS c = true) : c < 1114112 := by
  unfold inS inL inD at h
  simp only [Bool.or_eq_true, Bool.and_eq_true, decide_eq_true_eq] at h
  omega
theorem rd__law_named : ∀ o ds Q, wp__law_named o ds Q → τ__law_named (ends1 Q) (some o :: fzs ds ++ List.replicate (5 - (ds.length + 1)) none) := fun o ds Q ⟨c, pk, hc, e, q⟩ => by
  subst e
  have hc : c + 100 < 1000000 := hc
  refine st_nrm rfl ?_
  unfold τ__law_named
  rw [c_letters', c_digits', c_0]
  walk_at "go"
  refine ⟨c, 26, 2, pk, by unfold lim; omega, rfl, by omega, by unfold lim; omega, fun n o' hn pk => ?_⟩
  have ll : lettersT.length = 26 := rfl
  walk_at "go"
  obtain ⟨a0, e0, ha0⟩ : ∃ a, lettersT[n]? = some a ∧ inL a = true := ⟨_, List.getElem?_eq_getElem (show n < lettersT.length from hn), in_letS (List.getElem_mem _)⟩
  refine op_ixC n rfl e0 (by omega) ?_
  walk_at "go"
  refine st_for ?_
  walk_at "go"
  refine ⟨c + 1, 8, 3, pk, by unfold lim; omega, rfl, by omega, by unfold lim; omega, fun n2 o2 hn2 pk2 => ?_⟩
  walk_at "go"
  refine ⟨szI (by omega) (by omega), ?_⟩
  refine forB_inv (List.range n2) (fun (i : Nat) => PyData.int (i : Nat)) (fun i Γ' => ∃ o' w x4, Γ' = [some o', some (.fz (.int 8)), some (.fz (dT lettersT)), some (.fz (dT w)), x4] ∧ PoolOk (c + 2 + i) o' ∧ w.length = i + 1 ∧ NmL w) rfl ⟨o2, [a0], none, rfl, pk2, rfl, by rw [List.all_cons, inL_S ha0]; rfl, _, _, rfl, ha0⟩ (fun i k Γ' ek w => ?_) (fun Γ' w => ?_)
  · obtain ⟨o', w, x4, rfl, pk', wl, ws, a, r, e, ha⟩ := w
    obtain ⟨il, rfl⟩ := rng_at ek
    walk_at "gb"
    refine op_addTx (by rw [ll]; decide) ?_
    walk_at "gb"
    refine ⟨c + 2 + i, 36, 4, pk', by unfold lim; omega, rfl, by omega, by unfold lim; omega, fun k o3 hk pk3 => ?_⟩
    walk_at "gb"
    have hk' : k < (lettersT ++ digitsT).length := hk
    refine op_ixC k rfl (List.getElem?_eq_getElem hk') (by decide) ?_
    walk_at "gb"
    refine op_addTx (by rw [wl]; simp; omega) ?_
    walk_at "gb"
    refine ⟨o3, w ++ [(lettersT ++ digitsT)[k]], _, rfl, pk3, by simp [wl], ?_, a, r ++ [(lettersT ++ digitsT)[k]], by rw [e]; rfl, ha⟩
    rw [List.all_append, ws, List.all_cons, in_sigS (List.getElem_mem hk')]; rfl
  · obtain ⟨o', w, x4, rfl, pk', wl, nw⟩ := w
    rw [List.length_range] at wl pk'
    have sw : Sml 8 w := ⟨by omega, fun z hz => inS_lt (List.all_eq_true.mp nw.1 z hz)⟩
    walk_at "gb"
    refine ⟨rfl, ?_⟩
    walk_at "gb"
    refine op_notInTs sw kept_sml ?_
    walk_at "gb"
    have hw : w ≠ [] := fun e => by rw [e] at wl; simp at wl
    refine br2 (fun h => ?_) (fun h => ?_)
    · walk_at "gb"
      exact ⟨_, rfl, q w o' (nmL_isNm nw (by omega) (by simpa using h)) (pk'.mono (by omega))⟩
    · walk_at "gb"
      refine sd_Sbl (by omega) hw ?_
      walk_at "gb"
      refine op_addTx (by rw [List.length_take]; simp; omega) ?_
      exact ⟨_, rfl, q _ o' (nmL_bent nw (by omega) (by simpa using h)) (pk'.mono (by omega))⟩
end K01
end
section
open VL PySem L2
local macro_rules | `(tactic| walk_at "vs") => `(tactic| first
  | with_reducible (first | refine st_seq ?_ | refine st_ret ?_ | refine st_set ?_ | refine st_if ?_ | refine st_drop ?_ | refine st_next ?_ | refine st_par ?_ | refine st_asg ?_ | refine st_rt0 ?_ | refine st_nx0 ?_ | refine st_brk ?_ | refine st_cnt ?_ | refine st_retN ?_ | refine st_op ?_ | refine st_op1 ?_ | refine st_an ?_ | refine st_ac ?_ | refine st_cb ?_ | refine st_tup ?_ | refine st_lst ?_ | refine st_to ?_ | refine st_tru ?_ | refine st_tnot ?_ | refine st_tand ?_ | refine st_tor ?_ | refine st_and ?_ | refine st_or ?_ | refine st_not ?_ | refine st_eif ?_ | refine st_chain ?_ | refine st_call ?_ | refine st_calli ?_ | refine st_isi ?_ | refine st_lrg ?_ | refine st_trg ?_ | refine st_sl ?_ | refine st_pn ?_ | refine st_ps ?_ | refine st_iseq ?_ | refine st_ir1 ?_ | refine st_ir2 ?_ | refine st_yes ?_ | refine st_c ?_ | refine st_xo ?_ | refine st_ox ?_ | refine st_cbe ?_ | refine st_true ?_ | refine st_ixe ?_ | refine st_dnew ?_ | refine st_ao0 ?_ | refine st_ao ?_ | refine st_trl ?_ | refine st_callk ?_ | refine st_callB ?_ | refine st_put ?_ | refine st_dput ?_ | refine st_g0 ?_ | refine st_sme ?_ | refine st_sme0 ?_ | refine st_pute ?_ | refine st_par3 ?_ | refine st_xelD ?_ | refine st_cbd ?_ | refine st_truDE ?_ | refine st_ixD' ?_ | refine st_smd ?_ | refine st_smd0 ?_ | refine st_putD ?_ | refine st_tdl ?_ | refine st_idx ?_ | refine st_rev ?_)
  | (with_reducible show (sAugI _ _ _ _ _)); refine st_augI rfl ?_
  | (with_reducible show (xVar _ _ _)); refine st_var rfl ?_
  | (with_reducible show (xVal _ _ _)); (first | refine st_val rfl ?_ | refine st_valL rfl rfl rfl ?_)
  | (with_reducible show (oMv _ _ _)); (first | refine st_mv rfl ?_ | refine st_mvL rfl rfl ?_)
  | (with_reducible show (eIxS _ _ _ _)); (first | refine st_ixT rfl ?_ | refine st_ixLs rfl ?_ | refine st_ixF rfl ?_ | refine st_ixTr rfl ?_ | refine st_ixDic rfl rfl ?_)
  | (with_reducible show (eLenS _ _ _)); (first | refine st_lenT rfl ?_ | refine st_lenD _ rfl ?_)
  | (with_reducible show (eEl _ _ _ _)); refine st_el rfl ?_
  | (with_reducible show (eApp _ _ _ _ _)); (first | refine st_app (listG_ls rfl) ?_ | refine st_app (listG_tr rfl) ?_)
  | (with_reducible show (sPutS _ _ _ _ _ _)); (first | refine st_putS rfl ?_ | refine st_putSD rfl ?_)
  | (with_reducible show (eInS _ _ _ _)); (first | refine st_in rfl ?_ | refine st_din rfl ?_)
  | (with_reducible show (eNotInS _ _ _ _)); (first | refine st_notin rfl ?_ | refine st_dnotin rfl ?_)
  | (with_reducible show (tInS _ _ _ _)); (first | refine st_tin rfl ?_ | refine st_tdin rfl ?_)
  | (with_reducible show (tNotInS _ _ _ _)); (first | refine st_tnotin rfl ?_ | refine st_tdnotin rfl ?_)
  | (with_reducible show (sDel _ _ _ _)); refine st_del rfl ?_
  | (with_reducible show (eSM _ _ _ _ _)); refine st_sm rfl ?_
  | (with_reducible show (gN _ _ _ _)); refine st_gn rfl ?_
  | (with_reducible show (gConss _ _ _ _ _)); refine st_gc ?_
  | (with_reducible show (gTupD _ _ _ _ _)); refine st_gt rfl ?_
  | (with_reducible show (∃ d b, _ = some d ∧ kitD d _ = some b ∧ _)); (first | refine ⟨_, true, rfl, (rfl : kitD _ _ = some true), ?_⟩ | refine ⟨_, false, rfl, (rfl : kitD _ _ = some false), ?_⟩)
  | (with_reducible show (∃ _, _)); (first | refine ⟨_, rfl, ?_⟩ | refine ⟨_, _, rfl, rfl, ?_⟩ | refine ⟨_, _, _, rfl, rfl, rfl, ?_⟩ | refine ⟨_, _, _, _, rfl, rfl, rfl, ?_⟩ | refine ⟨_, _, _, _, rfl, rfl, rfl, rfl, ?_⟩ | refine ⟨_, _, _, rfl, .inl ⟨_, rfl, rfl, rfl⟩, ?_⟩)
  | (with_reducible show ((∃ _, _) ∧ _)); (first | refine ⟨⟨_, rfl, _, .inl rfl⟩, ?_⟩ | refine ⟨⟨_, rfl, [], .inr ⟨_, rfl⟩⟩, ?_⟩)
  | (with_reducible show (_ ≤ sizeLine ∧ _)); refine ⟨Evl.sz_of (Nat.le_of_ble_eq_true rfl), ?_⟩)
local macro_rules | `(tactic| walk_at "op") => `(tactic| first
  | (with_reducible show (opAdd _ _ _)); (first | refine op_addI ?_)
  | (with_reducible show (opSub _ _ _)); (first | refine op_subI ?_)
  | (with_reducible show (opLt _ _ _)); (first | refine op_ltI ?_)
  | (with_reducible show (opLe _ _ _)); (first | refine op_leI ?_)
  | (with_reducible show (opGt _ _ _)); (first | refine op_gtI ?_)
  | (with_reducible show (opGe _ _ _)); (first | refine op_geI ?_)
  | (with_reducible show (opEq _ _ _)); (first | refine op_eqI ?_ | refine op_eqB ?_)
  | (with_reducible show (opNe _ _ _)); (first | refine op_neI ?_ | refine op_neB ?_)
  | (with_reducible show (opIsN _ _ _)); (first | refine op_isNone ?_ | refine op_isInt ?_ | refine op_isTup ?_ | refine op_isBl ?_ | refine op_isSt ?_ | refine op_isLs ?_)
  | (with_reducible show (opNotN _ _ _)); (first | refine op_notNone ?_ | refine op_notTup ?_)
  | (with_reducible show (opIx _ _ _)); (first | refine op_ixT0 rfl ?_ | refine op_ixT1 rfl ?_ | refine op_ixT2 rfl ?_ | refine op_ixL0 rfl ?_ | refine op_ixL1 rfl ?_)
  | (with_reducible show (op1Neg _ _)); refine op1_negI ?_
  | (with_reducible show (cdLen _ _)); (first | refine cd_lenL ?_ | refine cd_lenT ?_)
  | (with_reducible show (cdInt _ _)); (first | refine cd_intI ?_ | refine cd_intB ?_)
  | (with_reducible show (cdTuple _ _)); (first | refine cd_tupL ?_ | refine cd_tupT ?_)
  | (with_reducible show (cdList _ _)); (first | refine cd_listL ?_ | refine cd_listT ?_)
  | (with_reducible show (cdAbs _ _)); (first | refine cd_absI ?_)
  | (with_reducible show (cdMin2 _ _)); (first | refine cd_min2I ?_)
  | (with_reducible show (cdMax2 _ _)); (first | refine cd_max2I ?_)
  | (with_reducible show (sdAll _ _ _ _)); (first | refine sd_T ?_ | refine sd_L ?_))
local macro_rules | `(tactic| walk_at "go") => `(tactic| repeat (first | walk_at "vs" | walk_at "op"))
local macro_rules | `(tactic| walk_at "gb") => `(tactic| repeat (first | walk_at "vs" | walk_at "op" | with_reducible (first | refine br_t ?_ | refine br_f ?_ | refine br_nt ?_ | refine br_nf ?_)))
local macro_rules | `(tactic| walk_at "vs") => `(tactic| first
  | with_reducible (first | refine K01.st_split ?_ | refine K01.st_join ?_ | refine K01.st_starts ?_ | refine K01.st_upper ?_ | refine K01.st_isi2 ?_)
  | (with_reducible show ((∃ z, rslv _ _ = some (.str z)) ∧ _)); refine ⟨⟨_, rfl⟩, ?_⟩
  | (with_reducible show (eIxS _ _ _ _)); refine st_ixS' rfl ?_
  | (with_reducible show (∃ d b1 b2, _ = some d ∧ kitD d _ = some b1 ∧ kitD d _ = some b2 ∧ _)); (first | (refine ⟨_, true, false, rfl, (rfl : kitD _ _ = some true), (rfl : kitD _ _ = some false), ?_⟩; rw [Bool.true_or]) | (refine ⟨_, false, true, rfl, (rfl : kitD _ _ = some false), (rfl : kitD _ _ = some true), ?_⟩; rw [Bool.or_true]) | (refine ⟨_, false, false, rfl, (rfl : kitD _ _ = some false), (rfl : kitD _ _ = some false), ?_⟩; rw [Bool.or_false])))
namespace K01
open SX
theorem c_bent : PyData.str (Str.ofString "AZ_-#. ,09~") = dT [65, 90, 95, 45, 35, 46, 32, 44, 48, 57, 126] := c_of _ _ (by decide +kernel)
theorem c_apo : PyData.str (Str.ofString "'") = dT [39] := c_of _ _ (by decide +kernel)
theorem c_ah : PyData.str (Str.ofString "abcdefgh") = dT [97, 98, 99, 100, 101, 102, 103, 104] := c_of _ _ (by decide +kernel)
theorem c_18 : PyData.str (Str.ofString "12345678") = dT [49, 50, 51, 52, 53, 54, 55, 56] := c_of _ _ (by decide +kernel)
theorem c_s0x : PyData.str (Str.ofString "s0x") = dT [115, 48, 120] := c_of _ _ (by decide +kernel)
theorem len__law_bent : ∀ o ds Q, wp__law_bent o ds Q → ds.length + 1 = 2 := fun o ds Q ⟨c, _, _, _, e, _⟩ => by rw [e]; rfl
theorem up_S {l : T} {n : Nat} (h1 : l.length ≤ n) (h2 : ∀ c ∈ l, c < 128) (hn : n ≤ 1000) : (S l).length ≤ 5592405 ∧ ∃ a, PyData.str (Txt.upper (S l)) = dT a ∧ Sml n a := by
  refine ⟨by rw [S_len]; omega, l.map PyProof.Rows.up1, ?_, by rw [List.length_map]; exact h1, fun c hc => ?_⟩
  · rw [upper_S (List.all_eq_true.mpr fun c hc => decide_eq_true (h2 c hc))]; rfl
  · obtain ⟨z, hz, e⟩ := List.mem_map.mp hc
    have := h2 z hz
    rw [← e]
    unfold PyProof.Rows.up1
    split <;> omega
theorem rd__law_bent : ∀ o ds Q, wp__law_bent o ds Q → τ__law_bent (ends1 Q) (some o :: fzs ds ++ List.replicate (5 - (ds.length + 1)) none) := fun o ds Q ⟨c, l, pk, hc, e, hl, q⟩ => by
  subst e
  have hc : c + 100 < 1000000 := hc
  have sl := isNm_sml hl
  have l1 := (isNm_facts hl).1
  have l8 := (isNm_facts hl).2.1
  have lc := (isNm_facts hl).2.2
  refine st_nrm rfl ?_
  unfold τ__law_bent
  rw [c_digits', c_bent, c_apo, c_ah, c_18, c_s0x, c_empty, c_sp]
  walk_at "go"
  refine cd_lenT' (by omega) ?_
  walk_at "go"
  refine ⟨c, l.length, 0, pk, by unfold lim; omega, rfl, l1, by unfold lim; omega, fun n o1 hn pk1 => ?_⟩
  walk_at "go"
  refine op_addTx (by decide) ?_
  walk_at "go"
  have pickT : ∀ (c' : Nat) (o' : O) (t : T) (QQ : O → O → Prop), PoolOk c' o' → c' ≤ c + 50 → t.length ≤ 1000 → 1 ≤ t.length → (∀ z ∈ t, z < 128) → (∀ z o2, Sml 1 [z] → PoolOk (c' + 1) o2 → QQ (.fz (dT [z])) o2) → wp__law_pick o' [dT t] QQ := fun c' o' t QQ pk' hc' h1 h2 h3 qq => by
    refine ⟨c', _, t.map fun z => dT [z], pk', by unfold lim; omega, rfl, .inr (.inr ⟨t, rfl, ⟨h1, fun z hz => by have := h3 z hz; omega⟩, rfl⟩), by rw [List.length_map]; exact h2, by rw [List.length_map]; exact h1, fun x o2 hx pk2 => ?_⟩
    obtain ⟨z, hz, rfl⟩ := List.mem_map.mp hx
    exact qq z o2 ⟨by simp, fun y hy => by rw [List.mem_singleton.mp hy]; have := h3 z hz; omega⟩ pk2
  refine pickT (c + 1) o1 _ _ pk1 (by omega) (by decide) (by decide) (by decide) fun sg o2 hsg pk2 => ?_
  walk_at "go"
  refine ⟨rfl, ?_⟩
  walk_at "go"
  refine ⟨c + 1 + 1, keptD, keptW.map dT, pk2, by unfold lim; omega, rfl, .inr (.inl rfl), by decide, by decide, fun x o3 hx pk3 => ?_⟩
  obtain ⟨kw, hkw, rfl⟩ := List.mem_map.mp hx
  have kf := kept_last kw hkw
  have kc : ∀ z ∈ kw, z < 128 := fun z hz => of_decide_eq_true (List.all_eq_true.mp kf.2.2.2 z hz)
  have kS : Sml 8 kw := ⟨kf.2.2.1, fun z hz => by have := kc z hz; omega⟩
  walk_at "go"
  refine sd_Sg sl (by omega) fun a1 s1 => ?_
  walk_at "go"
  refine op_addG s1 hsg (by omega) fun a2 s2 => ?_
  walk_at "go"
  refine sd_Sg sl (by omega) fun a3 s3 => ?_
  walk_at "go"
  refine op_addG s2 s3 (by omega) fun a4 s4 => ?_
  walk_at "go"
  refine sd_Sg sl (by omega) fun b1 t1 => ?_
  walk_at "go"
  refine op_addG t1 hsg (by omega) fun b2 t2 => ?_
  walk_at "go"
  refine sd_Sg sl (by omega) fun b3 t3 => ?_
  walk_at "go"
  refine op_addG t2 t3 (by omega) fun b4 t4 => ?_
  walk_at "go"
  refine cd_lenT' (by omega) ?_
  walk_at "go"
  refine sd_Sg (n := 8) (sml_of (by decide)) (by omega) fun a5 s5 => ?_
  walk_at "go"
  refine op_addG sl s5 (by omega) fun a6 s6 => ?_
  walk_at "go"
  refine op_addG sl (sml_of (n := 8) (by decide)) (by omega) fun a7 s7 => ?_
  walk_at "go"
  refine sd_Sg s7 (by omega) fun a8 s8 => ?_
  walk_at "go"
  refine pickT (c + 3) o3 _ _ pk3 (by omega) (by decide) (by decide) (by decide) fun d1 o4 hd1 pk4 => ?_
  walk_at "go"
  refine sd_Sg sl (by omega) fun a9 s9 => ?_
  walk_at "go"
  refine op_addG hd1 s9 (by omega) fun a10 s10 => ?_
  walk_at "go"
  obtain ⟨u1, a11, u2, s11⟩ := up_S l8 lc (by omega)
  refine ⟨u1, ?_⟩
  rw [u2]
  walk_at "go"
  refine pickT (c + 4) o4 _ _ pk4 (by omega) (by decide) (by decide) (by decide) fun d2 o5 hd2 pk5 => ?_
  walk_at "go"
  refine op_addG kS hd2 (by omega) fun a12 s12 => ?_
  walk_at "go"
  refine sd_Sg kS (by omega) fun a13 s13 => ?_
  walk_at "go"
  obtain ⟨u3, a14, u4, s14⟩ := up_S kf.2.2.1 kc (by omega)
  refine ⟨u3, ?_⟩
  rw [u4]
  walk_at "go"
  obtain ⟨k0, kr, ek⟩ : ∃ k0 kr, kw = k0 :: kr := by
    cases kw with
    | nil => simp at kf
    | cons k0 kr => exact ⟨k0, kr, rfl⟩
  refine op_ixC (l := kw) (c := k0) 0 rfl (by rw [ek]; rfl) (by have := kf.2.2.1; omega) ?_
  walk_at "go"
  refine op_addG (n := 1) ⟨by simp, fun y hy => by rw [List.mem_singleton.mp hy]; have := kc k0 (by rw [ek]; simp); omega⟩ kS (by omega) fun a15 s15 => ?_
  walk_at "go"
  refine op_addG (n := 1) (sml_of (by decide)) sl (by omega) fun a16 s16 => ?_
  walk_at "go"
  refine op_addG (m := 1) sl (sml_of (by decide)) (by omega) fun a17 s17 => ?_
  walk_at "go"
  refine cd_lenT' (by omega) ?_
  walk_at "go"
  refine sd_Sg sl (by omega) fun a18 s18 => ?_
  walk_at "go"
  refine op_powI ⟨by omega, by omega, by decide⟩ ?_
  have e60 : (10 : Int) ^ (60 : Int).toNat = 1000000000000000000000000000000000000000000000000000000000000 := by decide
  rw [e60]
  walk_at "go"
  refine op_powI ⟨by omega, by omega, by decide⟩ ?_
  have e10 : (10 : Int) ^ (10 : Int).toNat = 10000000000 := by decide
  rw [e10]
  walk_at "go"
  refine op_mulI ?_ ?_
  · unfold CMulX
    have a := bits_of (i := 1000000000000000000000000000000000000000000000000000000000000) (k := 300) (by decide +kernel)
    have b := bits_of (i := 10000000000) (k := 64) (by decide +kernel)
    omega
  walk_at "go"
  have up : ∀ {n : Nat} {a : T}, Sml n a → n ≤ 1000 → NmOk (dT a) := fun h hn => .str ⟨Nat.le_trans h.1 hn, h.2⟩
  refine ⟨_, rfl, q _ o5 (by simp) (by simp) (fun d hd => ?_) (pk5.mono (by omega))⟩
  simp only [List.mem_cons, List.not_mem_nil, or_false] at hd
  rcases hd with rfl | rfl | rfl | rfl | rfl | rfl | rfl | rfl | rfl | rfl | rfl | rfl | rfl | rfl | rfl | rfl | rfl | rfl | rfl | rfl | rfl | rfl | rfl
  · exact up s4 (by omega)
  · exact up t4 (by omega)
  · exact up s6 (by omega)
  · exact up s8 (by omega)
  · exact up (sml_nil 1) (by omega)
  · exact up hsg (by omega)
  · exact up s10 (by omega)
  · exact up s11 (by omega)
  · exact up kS (by omega)
  · exact up s12 (by omega)
  · exact up s13 (by omega)
  · exact up s14 (by omega)
  · exact up s15 (by omega)
  · exact up s16 (by omega)
  · exact up s17 (by omega)
  · exact .tup _
  · exact .lst _
  · exact .non
  · exact .bl _
  · exact .int _
  · exact .tup _
  · exact up s18 (by omega)
  · exact .int _
end K01
end
section
open VL PySem L2
local macro_rules | `(tactic| walk_at "vs") => `(tactic| first
  | with_reducible (first | refine st_seq ?_ | refine st_ret ?_ | refine st_set ?_ | refine st_if ?_ | refine st_drop ?_ | refine st_next ?_ | refine st_par ?_ | refine st_asg ?_ | refine st_rt0 ?_ | refine st_nx0 ?_ | refine st_brk ?_ | refine st_cnt ?_ | refine st_retN ?_ | refine st_op ?_ | refine st_op1 ?_ | refine st_an ?_ | refine st_ac ?_ | refine st_cb ?_ | refine st_tup ?_ | refine st_lst ?_ | refine st_to ?_ | refine st_tru ?_ | refine st_tnot ?_ | refine st_tand ?_ | refine st_tor ?_ | refine st_and ?_ | refine st_or ?_ | refine st_not ?_ | refine st_eif ?_ | refine st_chain ?_ | refine st_call ?_ | refine st_calli ?_ | refine st_isi ?_ | refine st_lrg ?_ | refine st_trg ?_ | refine st_sl ?_ | refine st_pn ?_ | refine st_ps ?_ | refine st_iseq ?_ | refine st_ir1 ?_ | refine st_ir2 ?_ | refine st_yes ?_ | refine st_c ?_ | refine st_xo ?_ | refine st_ox ?_ | refine st_cbe ?_ | refine st_true ?_ | refine st_ixe ?_ | refine st_dnew ?_ | refine st_ao0 ?_ | refine st_ao ?_ | refine st_trl ?_ | refine st_callk ?_ | refine st_callB ?_ | refine st_put ?_ | refine st_dput ?_ | refine st_g0 ?_ | refine st_sme ?_ | refine st_sme0 ?_ | refine st_pute ?_ | refine st_par3 ?_ | refine st_xelD ?_ | refine st_cbd ?_ | refine st_truDE ?_ | refine st_ixD' ?_ | refine st_smd ?_ | refine st_smd0 ?_ | refine st_putD ?_ | refine st_tdl ?_ | refine st_idx ?_ | refine st_rev ?_)
  | (with_reducible show (sAugI _ _ _ _ _)); refine st_augI rfl ?_
  | (with_reducible show (xVar _ _ _)); refine st_var rfl ?_
  | (with_reducible show (xVal _ _ _)); (first | refine st_val rfl ?_ | refine st_valL rfl rfl rfl ?_)
  | (with_reducible show (oMv _ _ _)); (first | refine st_mv rfl ?_ | refine st_mvL rfl rfl ?_)
  | (with_reducible show (eIxS _ _ _ _)); (first | refine st_ixT rfl ?_ | refine st_ixLs rfl ?_ | refine st_ixF rfl ?_ | refine st_ixTr rfl ?_ | refine st_ixDic rfl rfl ?_)
  | (with_reducible show (eLenS _ _ _)); (first | refine st_lenT rfl ?_ | refine st_lenD _ rfl ?_)
  | (with_reducible show (eEl _ _ _ _)); refine st_el rfl ?_
  | (with_reducible show (eApp _ _ _ _ _)); (first | refine st_app (listG_ls rfl) ?_ | refine st_app (listG_tr rfl) ?_)
  | (with_reducible show (sPutS _ _ _ _ _ _)); (first | refine st_putS rfl ?_ | refine st_putSD rfl ?_)
  | (with_reducible show (eInS _ _ _ _)); (first | refine st_in rfl ?_ | refine st_din rfl ?_)
  | (with_reducible show (eNotInS _ _ _ _)); (first | refine st_notin rfl ?_ | refine st_dnotin rfl ?_)
  | (with_reducible show (tInS _ _ _ _)); (first | refine st_tin rfl ?_ | refine st_tdin rfl ?_)
  | (with_reducible show (tNotInS _ _ _ _)); (first | refine st_tnotin rfl ?_ | refine st_tdnotin rfl ?_)
  | (with_reducible show (sDel _ _ _ _)); refine st_del rfl ?_
  | (with_reducible show (eSM _ _ _ _ _)); refine st_sm rfl ?_
  | (with_reducible show (gN _ _ _ _)); refine st_gn rfl ?_
  | (with_reducible show (gConss _ _ _ _ _)); refine st_gc ?_
  | (with_reducible show (gTupD _ _ _ _ _)); refine st_gt rfl ?_
  | (with_reducible show (∃ d b, _ = some d ∧ kitD d _ = some b ∧ _)); (first | refine ⟨_, true, rfl, (rfl : kitD _ _ = some true), ?_⟩ | refine ⟨_, false, rfl, (rfl : kitD _ _ = some false), ?_⟩)
  | (with_reducible show (∃ _, _)); (first | refine ⟨_, rfl, ?_⟩ | refine ⟨_, _, rfl, rfl, ?_⟩ | refine ⟨_, _, _, rfl, rfl, rfl, ?_⟩ | refine ⟨_, _, _, _, rfl, rfl, rfl, ?_⟩ | refine ⟨_, _, _, _, rfl, rfl, rfl, rfl, ?_⟩ | refine ⟨_, _, _, rfl, .inl ⟨_, rfl, rfl, rfl⟩, ?_⟩)
  | (with_reducible show ((∃ _, _) ∧ _)); (first | refine ⟨⟨_, rfl, _, .inl rfl⟩, ?_⟩ | refine ⟨⟨_, rfl, [], .inr ⟨_, rfl⟩⟩, ?_⟩)
  | (with_reducible show (_ ≤ sizeLine ∧ _)); refine ⟨Evl.sz_of (Nat.le_of_ble_eq_true rfl), ?_⟩)
local macro_rules | `(tactic| walk_at "op") => `(tactic| first
  | (with_reducible show (opAdd _ _ _)); (first | refine op_addI ?_)
  | (with_reducible show (opSub _ _ _)); (first | refine op_subI ?_)
  | (with_reducible show (opLt _ _ _)); (first | refine op_ltI ?_)
  | (with_reducible show (opLe _ _ _)); (first | refine op_leI ?_)
  | (with_reducible show (opGt _ _ _)); (first | refine op_gtI ?_)
  | (with_reducible show (opGe _ _ _)); (first | refine op_geI ?_)
  | (with_reducible show (opEq _ _ _)); (first | refine op_eqI ?_ | refine op_eqB ?_)
  | (with_reducible show (opNe _ _ _)); (first | refine op_neI ?_ | refine op_neB ?_)
  | (with_reducible show (opIsN _ _ _)); (first | refine op_isNone ?_ | refine op_isInt ?_ | refine op_isTup ?_ | refine op_isBl ?_ | refine op_isSt ?_ | refine op_isLs ?_)
  | (with_reducible show (opNotN _ _ _)); (first | refine op_notNone ?_ | refine op_notTup ?_)
  | (with_reducible show (opIx _ _ _)); (first | refine op_ixT0 rfl ?_ | refine op_ixT1 rfl ?_ | refine op_ixT2 rfl ?_ | refine op_ixL0 rfl ?_ | refine op_ixL1 rfl ?_)
  | (with_reducible show (op1Neg _ _)); refine op1_negI ?_
  | (with_reducible show (cdLen _ _)); (first | refine cd_lenL ?_ | refine cd_lenT ?_)
  | (with_reducible show (cdInt _ _)); (first | refine cd_intI ?_ | refine cd_intB ?_)
  | (with_reducible show (cdTuple _ _)); (first | refine cd_tupL ?_ | refine cd_tupT ?_)
  | (with_reducible show (cdList _ _)); (first | refine cd_listL ?_ | refine cd_listT ?_)
  | (with_reducible show (cdAbs _ _)); (first | refine cd_absI ?_)
  | (with_reducible show (cdMin2 _ _)); (first | refine cd_min2I ?_)
  | (with_reducible show (cdMax2 _ _)); (first | refine cd_max2I ?_)
  | (with_reducible show (sdAll _ _ _ _)); (first | refine sd_T ?_ | refine sd_L ?_))
local macro_rules | `(tactic| walk_at "go") => `(tactic| repeat (first | walk_at "vs" | walk_at "op"))
local macro_rules | `(tactic| walk_at "gb") => `(tactic| repeat (first | walk_at "vs" | walk_at "op" | with_reducible (first | refine br_t ?_ | refine br_f ?_ | refine br_nt ?_ | refine br_nf ?_)))
local macro_rules | `(tactic| walk_at "vs") => `(tactic| first
  | with_reducible (first | refine K01.st_split ?_ | refine K01.st_join ?_ | refine K01.st_starts ?_ | refine K01.st_upper ?_ | refine K01.st_isi2 ?_)
  | (with_reducible show ((∃ z, rslv _ _ = some (.str z)) ∧ _)); refine ⟨⟨_, rfl⟩, ?_⟩
  | (with_reducible show (eIxS _ _ _ _)); refine st_ixS' rfl ?_
  | (with_reducible show (∃ d b1 b2, _ = some d ∧ kitD d _ = some b1 ∧ kitD d _ = some b2 ∧ _)); (first | (refine ⟨_, true, false, rfl, (rfl : kitD _ _ = some true), (rfl : kitD _ _ = some false), ?_⟩; rw [Bool.true_or]) | (refine ⟨_, false, true, rfl, (rfl : kitD _ _ = some false), (rfl : kitD _ _ = some true), ?_⟩; rw [Bool.or_true]) | (refine ⟨_, false, false, rfl, (rfl : kitD _ _ = some false), (rfl : kitD _ _ = some false), ?_⟩; rw [Bool.or_false])))
namespace K01
open SX
theorem len__law_names_asked : ∀ o ds Q, wp__law_names_asked o ds Q → ds.length + 1 = 1 := fun o ds Q ⟨c, _, _, e, _⟩ => by rw [e]; rfl
theorem rd__law_names_asked : ∀ o ds Q, wp__law_names_asked o ds Q → τ__law_names_asked (ends1 Q) (some o :: fzs ds ++ List.replicate (6 - (ds.length + 1)) none) := fun o ds Q ⟨c, pk, hc, e, q⟩ => by
  subst e
  have hc : c + 1000 < 1000000 := hc
  refine st_nrm rfl ?_
  unfold τ__law_names_asked
  walk_at "go"
  refine for_inv (List.range 3) (fun (k : Nat) => PyData.int (k : Nat)) (fun i Γ' => ∃ o' x1 x2 x3 x4 x5, Γ' = [some o', x1, x2, x3, x4, x5] ∧ PoolOk (c + 30 * i) o') (Γ1 := [some o, none, none, none, none, none]) (fun QI q => ?_) ⟨o, _, _, _, _, _, rfl, pk⟩ (fun i k Γ' ek w => ?_) (fun Γ' w => ?_)
  · walk_at "go"
    exact ⟨szI (by omega) (by omega), q⟩
  · obtain ⟨o', x1, x2, x3, x4, x5, rfl, pk'⟩ := w
    obtain ⟨il, rfl⟩ := rng_at ek
    walk_at "gb"
    refine ⟨c + 30 * i, pk', by unfold lim; omega, rfl, fun l o1 hl pk1 => ?_⟩
    have sl := isNm_sml hl
    have okl : NmOk (dT l) := .str ⟨Nat.le_trans sl.1 (by omega), sl.2⟩
    have tr : isName (dT l) = true := hl
    walk_at "gb"
    refine ⟨_, rfl, okl, ?_⟩
    walk_at "gb"
    refine ⟨_, rfl, okl, ?_⟩
    rw [tr]
    walk_at "gb"
    refine ⟨_, rfl, by decide, by decide, ?_⟩
    walk_at "gb"
    refine ⟨c + 30 * i + 10, l, pk1, by unfold lim; omega, rfl, hl, fun xs o2 h1 h2 h3 pk2 => ?_⟩
    walk_at "gb"
    dsimp only
    refine for_inv (List.range 5) (fun (k : Nat) => PyData.int (k : Nat)) (fun j Γ' => ∃ o' x3 x4 x5, Γ' = [some o', some (.fz (.int (i : Nat))), some (.fz (dT l)), some x3, x4, x5] ∧ (x3 = .ls xs ∨ x3 = .fz (.list xs)) ∧ PoolOk (c + 30 * i + 20 + j) o') (Γ1 := [some o2, some (.fz (.int (i : Nat))), some (.fz (dT l)), some (.ls xs), x4, x5]) (fun QI q => ?_) ⟨o2, _, _, _, rfl, .inl rfl, pk2⟩ (fun j k Γ' ek w => ?_) (fun Γ' w => ?_)
    · walk_at "go"
      exact ⟨szI (by omega) (by omega), q⟩
    · obtain ⟨o', y3, y4, y5, rfl, hy, pk'⟩ := w
      obtain ⟨jl, rfl⟩ := rng_at ek
      rcases hy with rfl | rfl
      all_goals
        walk_at "gb"
        refine ⟨c + 30 * i + 20 + j, .list xs, xs, pk', by unfold lim; omega, rfl, .inl rfl, h1, Nat.le_trans h2 (by omega), fun x o3 hx pk3 => ?_⟩
        walk_at "gb"
        refine ⟨x, rfl, h3 x hx, ?_⟩
        walk_at "gb"
        refine ⟨x, rfl, h3 x hx, ?_⟩
        walk_at "gb"
        refine ⟨.bool (isName x), rfl, by cases isName x <;> decide, by cases isName x <;> decide, ?_⟩
        walk_at "gb"
        exact ⟨o3, _, _, _, rfl, .inr rfl, pk3⟩
    · obtain ⟨o', y3, y4, y5, rfl, hy, pk'⟩ := w
      exact ⟨o', _, _, _, _, _, rfl, pk'.mono (by rw [List.length_range]; omega)⟩
  · obtain ⟨o', x1, x2, x3, x4, x5, rfl, pk'⟩ := w
    walk_at "gb"
    exact ⟨_, rfl, q o' (pk'.mono (by rw [List.length_range]; omega))⟩
end K01
end
section
open VL PySem L2
local macro_rules | `(tactic| walk_at "vs") => `(tactic| first
  | with_reducible (first | refine st_seq ?_ | refine st_ret ?_ | refine st_set ?_ | refine st_if ?_ | refine st_drop ?_ | refine st_next ?_ | refine st_par ?_ | refine st_asg ?_ | refine st_rt0 ?_ | refine st_nx0 ?_ | refine st_brk ?_ | refine st_cnt ?_ | refine st_retN ?_ | refine st_op ?_ | refine st_op1 ?_ | refine st_an ?_ | refine st_ac ?_ | refine st_cb ?_ | refine st_tup ?_ | refine st_lst ?_ | refine st_to ?_ | refine st_tru ?_ | refine st_tnot ?_ | refine st_tand ?_ | refine st_tor ?_ | refine st_and ?_ | refine st_or ?_ | refine st_not ?_ | refine st_eif ?_ | refine st_chain ?_ | refine st_call ?_ | refine st_calli ?_ | refine st_isi ?_ | refine st_lrg ?_ | refine st_trg ?_ | refine st_sl ?_ | refine st_pn ?_ | refine st_ps ?_ | refine st_iseq ?_ | refine st_ir1 ?_ | refine st_ir2 ?_ | refine st_yes ?_ | refine st_c ?_ | refine st_xo ?_ | refine st_ox ?_ | refine st_cbe ?_ | refine st_true ?_ | refine st_ixe ?_ | refine st_dnew ?_ | refine st_ao0 ?_ | refine st_ao ?_ | refine st_trl ?_ | refine st_callk ?_ | refine st_callB ?_ | refine st_put ?_ | refine st_dput ?_ | refine st_g0 ?_ | refine st_sme ?_ | refine st_sme0 ?_ | refine st_pute ?_ | refine st_par3 ?_ | refine st_xelD ?_ | refine st_cbd ?_ | refine st_truDE ?_ | refine st_ixD' ?_ | refine st_smd ?_ | refine st_smd0 ?_ | refine st_putD ?_ | refine st_tdl ?_ | refine st_idx ?_ | refine st_rev ?_)
  | (with_reducible show (sAugI _ _ _ _ _)); refine st_augI rfl ?_
  | (with_reducible show (xVar _ _ _)); refine st_var rfl ?_
  | (with_reducible show (xVal _ _ _)); (first | refine st_val rfl ?_ | refine st_valL rfl rfl rfl ?_)
  | (with_reducible show (oMv _ _ _)); (first | refine st_mv rfl ?_ | refine st_mvL rfl rfl ?_)
  | (with_reducible show (eIxS _ _ _ _)); (first | refine st_ixT rfl ?_ | refine st_ixLs rfl ?_ | refine st_ixF rfl ?_ | refine st_ixTr rfl ?_ | refine st_ixDic rfl rfl ?_)
  | (with_reducible show (eLenS _ _ _)); (first | refine st_lenT rfl ?_ | refine st_lenD _ rfl ?_)
  | (with_reducible show (eEl _ _ _ _)); refine st_el rfl ?_
  | (with_reducible show (eApp _ _ _ _ _)); (first | refine st_app (listG_ls rfl) ?_ | refine st_app (listG_tr rfl) ?_)
  | (with_reducible show (sPutS _ _ _ _ _ _)); (first | refine st_putS rfl ?_ | refine st_putSD rfl ?_)
  | (with_reducible show (eInS _ _ _ _)); (first | refine st_in rfl ?_ | refine st_din rfl ?_)
  | (with_reducible show (eNotInS _ _ _ _)); (first | refine st_notin rfl ?_ | refine st_dnotin rfl ?_)
  | (with_reducible show (tInS _ _ _ _)); (first | refine st_tin rfl ?_ | refine st_tdin rfl ?_)
  | (with_reducible show (tNotInS _ _ _ _)); (first | refine st_tnotin rfl ?_ | refine st_tdnotin rfl ?_)
  | (with_reducible show (sDel _ _ _ _)); refine st_del rfl ?_
  | (with_reducible show (eSM _ _ _ _ _)); refine st_sm rfl ?_
  | (with_reducible show (gN _ _ _ _)); refine st_gn rfl ?_
  | (with_reducible show (gConss _ _ _ _ _)); refine st_gc ?_
  | (with_reducible show (gTupD _ _ _ _ _)); refine st_gt rfl ?_
  | (with_reducible show (∃ d b, _ = some d ∧ kitD d _ = some b ∧ _)); (first | refine ⟨_, true, rfl, (rfl : kitD _ _ = some true), ?_⟩ | refine ⟨_, false, rfl, (rfl : kitD _ _ = some false), ?_⟩)
  | (with_reducible show (∃ _, _)); (first | refine ⟨_, rfl, ?_⟩ | refine ⟨_, _, rfl, rfl, ?_⟩ | refine ⟨_, _, _, rfl, rfl, rfl, ?_⟩ | refine ⟨_, _, _, _, rfl, rfl, rfl, ?_⟩ | refine ⟨_, _, _, _, rfl, rfl, rfl, rfl, ?_⟩ | refine ⟨_, _, _, rfl, .inl ⟨_, rfl, rfl, rfl⟩, ?_⟩)
  | (with_reducible show ((∃ _, _) ∧ _)); (first | refine ⟨⟨_, rfl, _, .inl rfl⟩, ?_⟩ | refine ⟨⟨_, rfl, [], .inr ⟨_, rfl⟩⟩, ?_⟩)
  | (with_reducible show (_ ≤ sizeLine ∧ _)); refine ⟨Evl.sz_of (Nat.le_of_ble_eq_true rfl), ?_⟩)
local macro_rules | `(tactic| walk_at "op") => `(tactic| first
  | (with_reducible show (opAdd _ _ _)); (first | refine op_addI ?_)
  | (with_reducible show (opSub _ _ _)); (first | refine op_subI ?_)
  | (with_reducible show (opLt _ _ _)); (first | refine op_ltI ?_)
  | (with_reducible show (opLe _ _ _)); (first | refine op_leI ?_)
  | (with_reducible show (opGt _ _ _)); (first | refine op_gtI ?_)
  | (with_reducible show (opGe _ _ _)); (first | refine op_geI ?_)
  | (with_reducible show (opEq _ _ _)); (first | refine op_eqI ?_ | refine op_eqB ?_)
  | (with_reducible show (opNe _ _ _)); (first | refine op_neI ?_ | refine op_neB ?_)
  | (with_reducible show (opIsN _ _ _)); (first | refine op_isNone ?_ | refine op_isInt ?_ | refine op_isTup ?_ | refine op_isBl ?_ | refine op_isSt ?_ | refine op_isLs ?_)
  | (with_reducible show (opNotN _ _ _)); (first | refine op_notNone ?_ | refine op_notTup ?_)
  | (with_reducible show (opIx _ _ _)); (first | refine op_ixT0 rfl ?_ | refine op_ixT1 rfl ?_ | refine op_ixT2 rfl ?_ | refine op_ixL0 rfl ?_ | refine op_ixL1 rfl ?_)
  | (with_reducible show (op1Neg _ _)); refine op1_negI ?_
  | (with_reducible show (cdLen _ _)); (first | refine cd_lenL ?_ | refine cd_lenT ?_)
  | (with_reducible show (cdInt _ _)); (first | refine cd_intI ?_ | refine cd_intB ?_)
  | (with_reducible show (cdTuple _ _)); (first | refine cd_tupL ?_ | refine cd_tupT ?_)
  | (with_reducible show (cdList _ _)); (first | refine cd_listL ?_ | refine cd_listT ?_)
  | (with_reducible show (cdAbs _ _)); (first | refine cd_absI ?_)
  | (with_reducible show (cdMin2 _ _)); (first | refine cd_min2I ?_)
  | (with_reducible show (cdMax2 _ _)); (first | refine cd_max2I ?_)
  | (with_reducible show (sdAll _ _ _ _)); (first | refine sd_T ?_ | refine sd_L ?_))
local macro_rules | `(tactic| walk_at "go") => `(tactic| repeat (first | walk_at "vs" | walk_at "op"))
local macro_rules | `(tactic| walk_at "gb") => `(tactic| repeat (first | walk_at "vs" | walk_at "op" | with_reducible (first | refine br_t ?_ | refine br_f ?_ | refine br_nt ?_ | refine br_nf ?_)))
local macro_rules | `(tactic| walk_at "vs") => `(tactic| first
  | with_reducible (first | refine K01.st_split ?_ | refine K01.st_join ?_ | refine K01.st_starts ?_ | refine K01.st_upper ?_ | refine K01.st_isi2 ?_)
  | (with_reducible show ((∃ z, rslv _ _ = some (.str z)) ∧ _)); refine ⟨⟨_, rfl⟩, ?_⟩
  | (with_reducible show (eIxS _ _ _ _)); refine st_ixS' rfl ?_
  | (with_reducible show (∃ d b1 b2, _ = some d ∧ kitD d _ = some b1 ∧ kitD d _ = some b2 ∧ _)); (first | (refine ⟨_, true, false, rfl, (rfl : kitD _ _ = some true), (rfl : kitD _ _ = some false), ?_⟩; rw [Bool.true_or]) | (refine ⟨_, false, true, rfl, (rfl : kitD _ _ = some false), (rfl : kitD _ _ = some true), ?_⟩; rw [Bool.or_true]) | (refine ⟨_, false, false, rfl, (rfl : kitD _ _ = some false), (rfl : kitD _ _ = some false), ?_⟩; rw [Bool.or_false])))
namespace K01
open SX
theorem spl_app32 (s : Nat) (b : T) : ∀ (a acc : T), TL.spl [s] 0 acc (a ++ s :: b) = TL.spl [s] 0 acc a ++ TL.spl [s] 0 [] b
  | [], acc => by
    rw [List.nil_append, TL.spl_nil, TL.spl_hit (by simp [TL.pre])]; rfl
  | c :: a, acc => by
    rw [List.cons_append]
    by_cases h : c = s
    · subst h
      rw [TL.spl_hit (by simp [TL.pre]), TL.spl_hit (by simp [TL.pre])]
      exact congrArg (List.cons acc) (spl_app32 c b a [])
    · rw [TL.spl_miss (TL.pre_of_head _ _ h), TL.spl_miss (TL.pre_of_head _ _ h)]
      exact spl_app32 s b a _
theorem words_app (a b : T) : wordsF (a ++ 32 :: b) = wordsF a ++ wordsF b := by
  unfold wordsF
  rw [spl_app32, List.filter_append]
theorem words_nil : wordsF [] = [] := by
  unfold wordsF
  rw [TL.spl_nil]; rfl
theorem words_one {w : T} (h : w ≠ []) (hw : 32 ∉ w) : wordsF w = [w] := by
  unfold wordsF
  rw [TL.spl_last1 hw]
  simp [h]
theorem words_rep : ∀ k : Nat, wordsF (List.replicate k 32) = []
  | 0 => words_nil
  | k + 1 => by
    rw [List.replicate_succ]
    exact (words_app [] _).trans (by rw [words_nil, words_rep k]; rfl)
theorem words_pad (a : T) : ∀ k : Nat, wordsF (a ++ List.replicate k 32) = wordsF a
  | 0 => by simp
  | k + 1 => by rw [List.replicate_succ, words_app, words_rep, List.append_nil]
/-- open for a word: empty, or a space last -/
def Opn (t : T) : Prop := t = [] ∨ ∃ t', t = t' ++ [32]
theorem opn_pad (a : T) (k : Nat) : Opn (a ++ List.replicate (k + 1) 32) := .inr ⟨a ++ List.replicate k 32, by rw [List.replicate_succ', List.append_assoc]⟩
theorem opn_rep : ∀ k : Nat, Opn (List.replicate k 32)
  | 0 => .inl rfl
  | k + 1 => opn_pad [] k
theorem words_put {t w : T} (h : Opn t) (hw : w ≠ []) (h32 : 32 ∉ w) : wordsF (t ++ w) = wordsF t ++ [w] := by
  rcases h with rfl | ⟨t', rfl⟩
  · rw [List.nil_append, words_one hw h32, words_nil]; rfl
  · rw [List.append_assoc]
    show wordsF (t' ++ 32 :: w) = wordsF (t' ++ 32 :: []) ++ [w]
    rw [words_app, words_app, words_one hw h32, words_nil, List.append_nil]
theorem rep_S (n : Nat) : repS (S [32]) (n : Int) = S (List.replicate n 32) := by
  refine TL.ext_tl ((repS_tl (S [32]) n).trans ?_)
  show (List.replicate n [32]).flatten = List.replicate n 32
  induction n with
  | zero => rfl
  | succ n ih => rw [List.replicate_succ, List.flatten_cons, ih]; rfl
theorem op_mulSp {x : Int} {n : Nat} {Q : O → Prop} (e : x = (n : Int)) (h : n ≤ 1000) (q : Q (.fz (dT (List.replicate n 32)))) : opMulS (dT [32]) (.int x) Q := by
  subst e
  refine ⟨by rw [S_len]; decide, by omega, by omega, ?_⟩
  rw [rep_S]; exact q
theorem opn_take {l : List Nat} {k : Nat} (h : k < l.length) : (l.map fun (z : Nat) => PyData.int (z : Nat))[k]? = some (.int (l[k] : Nat)) := by rw [List.getElem?_map, List.getElem?_eq_getElem h]; rfl
theorem len__law_line : ∀ o ds Q, wp__law_line o ds Q → ds.length + 1 = 2 := fun o ds Q ⟨c, _, _, _, e, _⟩ => by rw [e]; rfl
theorem rd__law_line : ∀ o ds Q, wp__law_line o ds Q → τ__law_line (ends1 Q) (some o :: fzs ds ++ List.replicate (4 - (ds.length + 1)) none) := fun o ds Q ⟨c, ws, pk, hc, e, h5, hw, q⟩ => by
  subst e
  have hc : c + 100 < 1000000 := hc
  refine st_nrm rfl ?_
  unfold τ__law_line
  rw [c_sp]
  walk_at "go"
  refine ⟨c, 4, 5, pk, by unfold lim; omega, rfl, by omega, by unfold lim; omega, fun n o1 hn pk1 => ?_⟩
  walk_at "go"
  have tk : ∀ (l : List Nat) (k : Nat) (QQ : O → Prop), k < l.length → (∀ z, z ∈ l → QQ (.fz (.int (z : Nat)))) → opIx (.tuple (l.map fun (z : Nat) => PyData.int (z : Nat))) (.int (k : Nat)) QQ := fun l k QQ hk qq => op_ixT k rfl (opn_take hk) (qq _ (List.getElem_mem hk))
  refine tk [0, 0, 1, 3] n _ hn fun z hz => ?_
  have z3 : z ≤ 3 := by simp at hz; omega
  walk_at "go"
  refine op_mulSp rfl (by omega) ?_
  walk_at "go"
  refine for_inv (List.range ws.length) (fun (k : Nat) => PyData.int (k : Nat)) (fun i Γ' => ∃ o' l x3, Γ' = [some o', some (.fz (.list (ws.map dT))), some (.fz (dT l)), x3] ∧ PoolOk (c + 1 + i) o' ∧ wordsF l = ws.take i ∧ l.length ≤ 3 + 13 * i ∧ (∀ z ∈ l, z ≠ 10 ∧ z < 128) ∧ (i < ws.length → Opn l)) (Γ1 := [some o1, some (.fz (.list (ws.map dT))), some (.fz (dT (List.replicate z 32))), none]) (fun QI q => ?_) ⟨o1, _, _, rfl, pk1, words_rep z, by rw [List.length_replicate]; omega, fun y hy => by rw [List.eq_of_mem_replicate hy]; decide, fun _ => opn_rep z⟩ (fun i k Γ' ek w => ?_) (fun Γ' w => ?_)
  · walk_at "go"
    refine ⟨szI (by omega) (by rw [List.length_map]; omega), ?_⟩
    rw [List.length_map]
    exact q
  · obtain ⟨o', l, x3, rfl, pk', wl, ll, lc, op⟩ := w
    obtain ⟨il, rfl⟩ := rng_at ek
    have op := op il
    have wi : (ws.map dT)[i]? = some (dT ws[i]) := by rw [List.getElem?_map, List.getElem?_eq_getElem il]; rfl
    obtain ⟨w0, w8, wc⟩ := hw ws[i] (List.getElem_mem il)
    have tki : ws.take (i + 1) = ws.take i ++ [ws[i]] := by rw [List.take_add_one, List.getElem?_eq_getElem il]; rfl
    generalize ws[i] = wd at wi w0 w8 wc tki
    walk_at "gb"
    refine op_ixL i rfl wi ?_
    walk_at "gb"
    refine op_addTx (by omega) ?_
    walk_at "gb"
    refine ⟨c + 1 + i, 4, 6, pk', by unfold lim; omega, rfl, by omega, by unfold lim; omega, fun k o3 hk pk3 => ?_⟩
    walk_at "gb"
    refine tk [0, 0, 1, 4] k _ hk fun y hy => ?_
    have y4 : y ≤ 4 := by simp at hy; omega
    walk_at "gb"
    have hn : ∃ n : Nat, ((if decide (((i : Nat) : Int) + 1 < ((ws.map dT).length : Nat)) = true then (1 : Int) else 0) + ((y : Nat) : Int)) = (n : Int) ∧ n ≤ 5 ∧ (i + 1 < ws.length → 1 ≤ n) := by
      rw [List.length_map]
      by_cases h : i + 1 < ws.length
      · exact ⟨1 + y, by rw [if_pos (decide_eq_true (by omega))]; omega, by omega, fun _ => by omega⟩
      · exact ⟨y, by rw [if_neg (by simp; omega)]; omega, by omega, fun h' => absurd h' h⟩
    obtain ⟨n, en, n5, n1⟩ := hn
    refine op_mulSp en (by omega) ?_
    walk_at "gb"
    refine op_addTx (by rw [List.length_append, List.length_replicate]; omega) ?_
    walk_at "gb"
    refine ⟨o3, _, _, rfl, pk3, ?_, ?_, ?_, ?_⟩
    · rw [words_pad, words_put op w0 (fun h => (wc 32 h).1 rfl), wl, tki]
    · rw [List.length_append, List.length_append, List.length_replicate]; omega
    · intro z hz
      rcases List.mem_append.mp hz with h | h
      · rcases List.mem_append.mp h with h | h
        · exact lc z h
        · exact (wc z h).2
      · rw [List.eq_of_mem_replicate h]; decide
    · intro h
      have := n1 h
      obtain ⟨m, rfl⟩ : ∃ m, n = m + 1 := ⟨n - 1, by omega⟩
      exact opn_pad _ m
  · obtain ⟨o', l, x3, rfl, pk', wl, ll, lc, op⟩ := w
    rw [List.length_range] at *
    rw [List.take_length] at wl
    walk_at "gb"
    exact ⟨_, rfl, q l o' wl (by omega) lc (pk'.mono (by omega))⟩
end K01
end
section
open VL PySem L2
local macro_rules | `(tactic| walk_at "vs") => `(tactic| first
  | with_reducible (first | refine st_seq ?_ | refine st_ret ?_ | refine st_set ?_ | refine st_if ?_ | refine st_drop ?_ | refine st_next ?_ | refine st_par ?_ | refine st_asg ?_ | refine st_rt0 ?_ | refine st_nx0 ?_ | refine st_brk ?_ | refine st_cnt ?_ | refine st_retN ?_ | refine st_op ?_ | refine st_op1 ?_ | refine st_an ?_ | refine st_ac ?_ | refine st_cb ?_ | refine st_tup ?_ | refine st_lst ?_ | refine st_to ?_ | refine st_tru ?_ | refine st_tnot ?_ | refine st_tand ?_ | refine st_tor ?_ | refine st_and ?_ | refine st_or ?_ | refine st_not ?_ | refine st_eif ?_ | refine st_chain ?_ | refine st_call ?_ | refine st_calli ?_ | refine st_isi ?_ | refine st_lrg ?_ | refine st_trg ?_ | refine st_sl ?_ | refine st_pn ?_ | refine st_ps ?_ | refine st_iseq ?_ | refine st_ir1 ?_ | refine st_ir2 ?_ | refine st_yes ?_ | refine st_c ?_ | refine st_xo ?_ | refine st_ox ?_ | refine st_cbe ?_ | refine st_true ?_ | refine st_ixe ?_ | refine st_dnew ?_ | refine st_ao0 ?_ | refine st_ao ?_ | refine st_trl ?_ | refine st_callk ?_ | refine st_callB ?_ | refine st_put ?_ | refine st_dput ?_ | refine st_g0 ?_ | refine st_sme ?_ | refine st_sme0 ?_ | refine st_pute ?_ | refine st_par3 ?_ | refine st_xelD ?_ | refine st_cbd ?_ | refine st_truDE ?_ | refine st_ixD' ?_ | refine st_smd ?_ | refine st_smd0 ?_ | refine st_putD ?_ | refine st_tdl ?_ | refine st_idx ?_ | refine st_rev ?_)
  | (with_reducible show (sAugI _ _ _ _ _)); refine st_augI rfl ?_
  | (with_reducible show (xVar _ _ _)); refine st_var rfl ?_
  | (with_reducible show (xVal _ _ _)); (first | refine st_val rfl ?_ | refine st_valL rfl rfl rfl ?_)
  | (with_reducible show (oMv _ _ _)); (first | refine st_mv rfl ?_ | refine st_mvL rfl rfl ?_)
  | (with_reducible show (eIxS _ _ _ _)); (first | refine st_ixT rfl ?_ | refine st_ixLs rfl ?_ | refine st_ixF rfl ?_ | refine st_ixTr rfl ?_ | refine st_ixDic rfl rfl ?_)
  | (with_reducible show (eLenS _ _ _)); (first | refine st_lenT rfl ?_ | refine st_lenD _ rfl ?_)
  | (with_reducible show (eEl _ _ _ _)); refine st_el rfl ?_
  | (with_reducible show (eApp _ _ _ _ _)); (first | refine st_app (listG_ls rfl) ?_ | refine st_app (listG_tr rfl) ?_)
  | (with_reducible show (sPutS _ _ _ _ _ _)); (first | refine st_putS rfl ?_ | refine st_putSD rfl ?_)
  | (with_reducible show (eInS _ _ _ _)); (first | refine st_in rfl ?_ | refine st_din rfl ?_)
  | (with_reducible show (eNotInS _ _ _ _)); (first | refine st_notin rfl ?_ | refine st_dnotin rfl ?_)
  | (with_reducible show (tInS _ _ _ _)); (first | refine st_tin rfl ?_ | refine st_tdin rfl ?_)
  | (with_reducible show (tNotInS _ _ _ _)); (first | refine st_tnotin rfl ?_ | refine st_tdnotin rfl ?_)
  | (with_reducible show (sDel _ _ _ _)); refine st_del rfl ?_
  | (with_reducible show (eSM _ _ _ _ _)); refine st_sm rfl ?_
  | (with_reducible show (gN _ _ _ _)); refine st_gn rfl ?_
  | (with_reducible show (gConss _ _ _ _ _)); refine st_gc ?_
  | (with_reducible show (gTupD _ _ _ _ _)); refine st_gt rfl ?_
  | (with_reducible show (∃ d b, _ = some d ∧ kitD d _ = some b ∧ _)); (first | refine ⟨_, true, rfl, (rfl : kitD _ _ = some true), ?_⟩ | refine ⟨_, false, rfl, (rfl : kitD _ _ = some false), ?_⟩)
  | (with_reducible show (∃ _, _)); (first | refine ⟨_, rfl, ?_⟩ | refine ⟨_, _, rfl, rfl, ?_⟩ | refine ⟨_, _, _, rfl, rfl, rfl, ?_⟩ | refine ⟨_, _, _, _, rfl, rfl, rfl, ?_⟩ | refine ⟨_, _, _, _, rfl, rfl, rfl, rfl, ?_⟩ | refine ⟨_, _, _, rfl, .inl ⟨_, rfl, rfl, rfl⟩, ?_⟩)
  | (with_reducible show ((∃ _, _) ∧ _)); (first | refine ⟨⟨_, rfl, _, .inl rfl⟩, ?_⟩ | refine ⟨⟨_, rfl, [], .inr ⟨_, rfl⟩⟩, ?_⟩)
  | (with_reducible show (_ ≤ sizeLine ∧ _)); refine ⟨Evl.sz_of (Nat.le_of_ble_eq_true rfl), ?_⟩)
local macro_rules | `(tactic| walk_at "op") => `(tactic| first
  | (with_reducible show (opAdd _ _ _)); (first | refine op_addI ?_)
  | (with_reducible show (opSub _ _ _)); (first | refine op_subI ?_)
  | (with_reducible show (opLt _ _ _)); (first | refine op_ltI ?_)
  | (with_reducible show (opLe _ _ _)); (first | refine op_leI ?_)
  | (with_reducible show (opGt _ _ _)); (first | refine op_gtI ?_)
  | (with_reducible show (opGe _ _ _)); (first | refine op_geI ?_)
  | (with_reducible show (opEq _ _ _)); (first | refine op_eqI ?_ | refine op_eqB ?_)
  | (with_reducible show (opNe _ _ _)); (first | refine op_neI ?_ | refine op_neB ?_)
  | (with_reducible show (opIsN _ _ _)); (first | refine op_isNone ?_ | refine op_isInt ?_ | refine op_isTup ?_ | refine op_isBl ?_ | refine op_isSt ?_ | refine op_isLs ?_)
  | (with_reducible show (opNotN _ _ _)); (first | refine op_notNone ?_ | refine op_notTup ?_)
  | (with_reducible show (opIx _ _ _)); (first | refine op_ixT0 rfl ?_ | refine op_ixT1 rfl ?_ | refine op_ixT2 rfl ?_ | refine op_ixL0 rfl ?_ | refine op_ixL1 rfl ?_)
  | (with_reducible show (op1Neg _ _)); refine op1_negI ?_
  | (with_reducible show (cdLen _ _)); (first | refine cd_lenL ?_ | refine cd_lenT ?_)
  | (with_reducible show (cdInt _ _)); (first | refine cd_intI ?_ | refine cd_intB ?_)
  | (with_reducible show (cdTuple _ _)); (first | refine cd_tupL ?_ | refine cd_tupT ?_)
  | (with_reducible show (cdList _ _)); (first | refine cd_listL ?_ | refine cd_listT ?_)
  | (with_reducible show (cdAbs _ _)); (first | refine cd_absI ?_)
  | (with_reducible show (cdMin2 _ _)); (first | refine cd_min2I ?_)
  | (with_reducible show (cdMax2 _ _)); (first | refine cd_max2I ?_)
  | (with_reducible show (sdAll _ _ _ _)); (first | refine sd_T ?_ | refine sd_L ?_))
local macro_rules | `(tactic| walk_at "go") => `(tactic| repeat (first | walk_at "vs" | walk_at "op"))
local macro_rules | `(tactic| walk_at "gb") => `(tactic| repeat (first | walk_at "vs" | walk_at "op" | with_reducible (first | refine br_t ?_ | refine br_f ?_ | refine br_nt ?_ | refine br_nf ?_)))
local macro_rules | `(tactic| walk_at "vs") => `(tactic| first
  | with_reducible (first | refine K01.st_split ?_ | refine K01.st_join ?_ | refine K01.st_starts ?_ | refine K01.st_upper ?_ | refine K01.st_isi2 ?_)
  | (with_reducible show ((∃ z, rslv _ _ = some (.str z)) ∧ _)); refine ⟨⟨_, rfl⟩, ?_⟩
  | (with_reducible show (eIxS _ _ _ _)); refine st_ixS' rfl ?_
  | (with_reducible show (∃ d b1 b2, _ = some d ∧ kitD d _ = some b1 ∧ kitD d _ = some b2 ∧ _)); (first | (refine ⟨_, true, false, rfl, (rfl : kitD _ _ = some true), (rfl : kitD _ _ = some false), ?_⟩; rw [Bool.true_or]) | (refine ⟨_, false, true, rfl, (rfl : kitD _ _ = some false), (rfl : kitD _ _ = some true), ?_⟩; rw [Bool.or_true]) | (refine ⟨_, false, false, rfl, (rfl : kitD _ _ = some false), (rfl : kitD _ _ = some false), ?_⟩; rw [Bool.or_false])))
namespace K01
open SX
/-! the lines of a text, once more -/
theorem numbK_app : ∀ (xs ys : List (List T)) (k : Nat), (∀ y ∈ ys, passF y = true) → numbK k (xs ++ ys) = numbK k xs
  | [], [], k, _ => rfl
  | [], y :: ys, k, h => by
    show (if passF y then [] else [(k, y)]) ++ numbK (k + 1) ys = []
    rw [h y (by simp), if_pos rfl, List.nil_append]
    exact numbK_app [] ys (k + 1) fun z hz => h z (by simp [hz])
  | x :: xs, ys, k, h => by rw [List.cons_append, numbK, numbK, numbK_app xs ys (k + 1) h]
theorem readF_spl (l : T) : readF l = numbK 1 ((TL.spl [10] 0 [] l).map wordsF) := by
  unfold readF linesF
  split
  · rename_i h
    have e : TL.spl [10] 0 [] l = (TL.spl [10] 0 [] l).dropLast ++ [[]] := by
      have ne := spl_ne l [10]
      rw [List.getLast?_eq_some_getLast ne] at h
      have := List.dropLast_concat_getLast ne
      rw [Option.some.inj h] at this
      exact this.symm
    conv => rhs; rw [e, List.map_append, numbK_app _ _ _ (by intro y hy; simp only [List.map_cons, List.map_nil, List.mem_singleton] at hy; rw [hy, words_nil]; rfl)]
  · rfl
theorem spl_joinL {ls : List T} (h : ∀ l ∈ ls, 10 ∉ l) : numbK 1 ((TL.spl [10] 0 [] (TL.joinL [10] ls)).map wordsF) = numbK 1 (ls.map wordsF) := by
  cases ls with
  | nil => rfl
  | cons l ls => rw [spl_join (List.cons_ne_nil _ _) h]
theorem read_join {ls : List T} (h : ∀ l ∈ ls, 10 ∉ l) (t : T) (ht : t = [] ∨ t = [10] ∨ t = [10, 10] ∨ t = [10, 32, 32, 10, 35]) : readF (TL.joinL [10] ls ++ t) = numbK 1 (ls.map wordsF) := by
  rw [readF_spl]
  have go : ∀ b : T, ((TL.spl [10] 0 [] b).map wordsF).all passF = true → numbK 1 ((TL.spl [10] 0 [] (TL.joinL [10] ls ++ 10 :: b)).map wordsF) = numbK 1 (ls.map wordsF) := fun b hb => by
    rw [spl_app32, List.map_append, numbK_app _ _ _ (List.all_eq_true.mp hb), spl_joinL h]
  rcases ht with rfl | rfl | rfl | rfl
  · rw [List.append_nil]; exact spl_joinL h
  · exact go [] (by decide)
  · exact go [10] (by decide)
  · exact go [32, 32, 10, 35] (by decide)
theorem joinL_len (s : Nat) : ∀ ls : List T, (TL.joinL [s] ls).length ≤ (ls.map (·.length)).sum + ls.length
  | [] => by simp [TL.joinL]
  | [l] => by simp [TL.joinL]
  | l :: m :: r => by
    have := joinL_len s (m :: r)
    rw [TL.joinL, List.length_append, List.length_append, List.map_cons, List.sum_cons, List.length_cons]
    simp only [List.length_cons, List.length_nil] at this ⊢
    omega
theorem joinL_mem (s : Nat) : ∀ (ls : List T) (c : Nat), c ∈ TL.joinL [s] ls → c = s ∨ ∃ l ∈ ls, c ∈ l
  | [], c, h => by simp [TL.joinL] at h
  | [l], c, h => .inr ⟨l, by simp, by simpa [TL.joinL] using h⟩
  | l :: m :: r, c, h => by
    rw [TL.joinL] at h
    rcases List.mem_append.mp h with h | h
    · exact .inr ⟨l, by simp, h⟩
    rcases List.mem_append.mp h with h | h
    · exact .inl (List.mem_singleton.mp h)
    rcases joinL_mem s (m :: r) c h with h | ⟨x, hx, hc⟩
    · exact .inl h
    · exact .inr ⟨x, by simp at hx ⊢; exact .inr hx, hc⟩
theorem sum_le {ls : List T} {k : Nat} (h : ∀ l ∈ ls, l.length ≤ k) : (ls.map (·.length)).sum ≤ k * ls.length := by
  induction ls with
  | nil => simp
  | cons l ls ih =>
    have a := h l (by simp)
    have b := ih fun z hz => h z (by simp [hz])
    rw [List.map_cons, List.sum_cons, List.length_cons, Nat.mul_add]
    omega
theorem OkW.sml {w : T} (h : OkW w) : Sml 8 w := ⟨h.2.1, fun c hc => by have := (h.2.2 c hc).2.2; omega⟩
theorem len__law_drawn : ∀ o ds Q, wp__law_drawn o ds Q → ds.length + 1 = 2 := fun o ds Q ⟨c, _, _, e, _⟩ => by rw [e]; rfl
theorem rd__law_drawn : ∀ o ds Q, wp__law_drawn o ds Q → τ__law_drawn (ends1 Q) (some o :: fzs ds ++ List.replicate (4 - (ds.length + 1)) none) := fun o ds Q ⟨c, pk, hc, e, q⟩ => by
  subst e
  have hc : c + 1000 < 1000000 := hc
  refine st_nrm rfl ?_
  unfold τ__law_drawn
  rw [c_hash]
  walk_at "go"
  refine st_lc ?_
  walk_at "go"
  refine ⟨c, 6, 7, pk, by unfold lim; omega, rfl, by omega, by unfold lim; omega, fun n o1 hn pk1 => ?_⟩
  walk_at "go"
  refine ⟨szI (by omega) (by omega), ?_⟩
  refine lcB_inv (List.range n) (fun (i : Nat) => PyData.int (i : Nat)) (fun i acc Γ' => ∃ o' ws, Γ' = [some o', some (.fz (.int 5)), none, none] ∧ PoolOk (c + 1 + 10 * i) o' ∧ acc = (ws : List T).map dT ∧ ws.length = i ∧ ∀ w ∈ ws, OkW w) rfl (by exact plain1 (.inl rfl)) ⟨o1, [], rfl, pk1, rfl, rfl, by simp⟩ (fun i b acc Γ' eb w _ => ?_) (fun acc Γ' w => ?_)
  · obtain ⟨o', ws, rfl, pk', rfl, wl, ww⟩ := w
    obtain ⟨il, rfl⟩ := rng_at eb
    refine ⟨_, rfl, ?_⟩
    walk_at "gb"
    refine ⟨c + 1 + 10 * i, pk', by unfold lim; omega, rfl, fun w o3 hw pk3 => ?_⟩
    walk_at "gb"
    exact ⟨by rw [List.length_map]; exact Evl.sz_of (by omega), _, rfl, o3, ws ++ [w], rfl, pk3, by rw [List.map_append]; rfl, by simp [wl], fun z hz => by
      rcases List.mem_append.mp hz with h | h
      · exact ww z h
      · rw [List.mem_singleton.mp h]; exact hw⟩
  · obtain ⟨o', ws, rfl, pk', rfl, wl, ww⟩ := w
    rw [List.length_range] at wl pk'
    walk_at "gb"
    cases ws with
    | nil =>
      refine br2 (fun h => absurd h (by simp)) (fun _ => ?_)
      walk_at "gb"
      exact ⟨_, rfl, q [] o' (by simp) (by simp) (pk'.mono (by omega))⟩
    | cons w ws =>
      refine br2 (fun _ => ?_) (fun h => absurd h (by simp))
      walk_at "gb"
      refine ⟨c + 1 + 10 * n, 5, 8, pk', by unfold lim; omega, rfl, by omega, by unfold lim; omega, fun k o3 hk pk3 => ?_⟩
      walk_at "gb"
      refine br2 (fun _ => ?_) (fun _ => ?_)
      · have hw := ww w (by simp)
        have w8 := hw.2.1
        walk_at "gb"
        refine sd_S1 (by omega) ?_
        walk_at "gb"
        refine op_addTx (by rw [List.length_drop]; simp; omega) ?_
        walk_at "gb"
        refine ⟨0, 0, _, rfl, .inr ⟨_, _, rfl, rfl, ?_, rfl⟩, ?_⟩
        · exact ixN_nat (k := 0) (by simp)
        walk_at "gb"
        refine ⟨_, rfl, q (([35] ++ w.drop 1) :: ws) o3 (by simp at wl ⊢; omega) (fun z hz => ?_) (pk3.mono (by omega))⟩
        rcases List.mem_cons.mp hz with h | h
        · rw [h]
          refine ⟨by simp, ?_, fun y hy => ?_⟩
          · have := hw.1
            rw [List.length_append, List.length_drop]
            simp only [List.length_cons, List.length_nil]
            have : 1 ≤ w.length := List.length_pos_iff.mpr hw.1
            omega
          · rcases List.mem_append.mp hy with h | h
            · rw [List.mem_singleton.mp h]; decide
            · exact hw.2.2 y (List.mem_of_mem_drop h)
        · exact ww z (by simp [h])
      · walk_at "gb"
        exact ⟨_, rfl, q (w :: ws) o3 (by omega) ww (pk3.mono (by omega))⟩
end K01
end
section
open VL PySem L2
local macro_rules | `(tactic| walk_at "vs") => `(tactic| first
  | with_reducible (first | refine st_seq ?_ | refine st_ret ?_ | refine st_set ?_ | refine st_if ?_ | refine st_drop ?_ | refine st_next ?_ | refine st_par ?_ | refine st_asg ?_ | refine st_rt0 ?_ | refine st_nx0 ?_ | refine st_brk ?_ | refine st_cnt ?_ | refine st_retN ?_ | refine st_op ?_ | refine st_op1 ?_ | refine st_an ?_ | refine st_ac ?_ | refine st_cb ?_ | refine st_tup ?_ | refine st_lst ?_ | refine st_to ?_ | refine st_tru ?_ | refine st_tnot ?_ | refine st_tand ?_ | refine st_tor ?_ | refine st_and ?_ | refine st_or ?_ | refine st_not ?_ | refine st_eif ?_ | refine st_chain ?_ | refine st_call ?_ | refine st_calli ?_ | refine st_isi ?_ | refine st_lrg ?_ | refine st_trg ?_ | refine st_sl ?_ | refine st_pn ?_ | refine st_ps ?_ | refine st_iseq ?_ | refine st_ir1 ?_ | refine st_ir2 ?_ | refine st_yes ?_ | refine st_c ?_ | refine st_xo ?_ | refine st_ox ?_ | refine st_cbe ?_ | refine st_true ?_ | refine st_ixe ?_ | refine st_dnew ?_ | refine st_ao0 ?_ | refine st_ao ?_ | refine st_trl ?_ | refine st_callk ?_ | refine st_callB ?_ | refine st_put ?_ | refine st_dput ?_ | refine st_g0 ?_ | refine st_sme ?_ | refine st_sme0 ?_ | refine st_pute ?_ | refine st_par3 ?_ | refine st_xelD ?_ | refine st_cbd ?_ | refine st_truDE ?_ | refine st_ixD' ?_ | refine st_smd ?_ | refine st_smd0 ?_ | refine st_putD ?_ | refine st_tdl ?_ | refine st_idx ?_ | refine st_rev ?_)
  | (with_reducible show (sAugI _ _ _ _ _)); refine st_augI rfl ?_
  | (with_reducible show (xVar _ _ _)); refine st_var rfl ?_
  | (with_reducible show (xVal _ _ _)); (first | refine st_val rfl ?_ | refine st_valL rfl rfl rfl ?_)
  | (with_reducible show (oMv _ _ _)); (first | refine st_mv rfl ?_ | refine st_mvL rfl rfl ?_)
  | (with_reducible show (eIxS _ _ _ _)); (first | refine st_ixT rfl ?_ | refine st_ixLs rfl ?_ | refine st_ixF rfl ?_ | refine st_ixTr rfl ?_ | refine st_ixDic rfl rfl ?_)
  | (with_reducible show (eLenS _ _ _)); (first | refine st_lenT rfl ?_ | refine st_lenD _ rfl ?_)
  | (with_reducible show (eEl _ _ _ _)); refine st_el rfl ?_
  | (with_reducible show (eApp _ _ _ _ _)); (first | refine st_app (listG_ls rfl) ?_ | refine st_app (listG_tr rfl) ?_)
  | (with_reducible show (sPutS _ _ _ _ _ _)); (first | refine st_putS rfl ?_ | refine st_putSD rfl ?_)
  | (with_reducible show (eInS _ _ _ _)); (first | refine st_in rfl ?_ | refine st_din rfl ?_)
  | (with_reducible show (eNotInS _ _ _ _)); (first | refine st_notin rfl ?_ | refine st_dnotin rfl ?_)
  | (with_reducible show (tInS _ _ _ _)); (first | refine st_tin rfl ?_ | refine st_tdin rfl ?_)
  | (with_reducible show (tNotInS _ _ _ _)); (first | refine st_tnotin rfl ?_ | refine st_tdnotin rfl ?_)
  | (with_reducible show (sDel _ _ _ _)); refine st_del rfl ?_
  | (with_reducible show (eSM _ _ _ _ _)); refine st_sm rfl ?_
  | (with_reducible show (gN _ _ _ _)); refine st_gn rfl ?_
  | (with_reducible show (gConss _ _ _ _ _)); refine st_gc ?_
  | (with_reducible show (gTupD _ _ _ _ _)); refine st_gt rfl ?_
  | (with_reducible show (∃ d b, _ = some d ∧ kitD d _ = some b ∧ _)); (first | refine ⟨_, true, rfl, (rfl : kitD _ _ = some true), ?_⟩ | refine ⟨_, false, rfl, (rfl : kitD _ _ = some false), ?_⟩)
  | (with_reducible show (∃ _, _)); (first | refine ⟨_, rfl, ?_⟩ | refine ⟨_, _, rfl, rfl, ?_⟩ | refine ⟨_, _, _, rfl, rfl, rfl, ?_⟩ | refine ⟨_, _, _, _, rfl, rfl, rfl, ?_⟩ | refine ⟨_, _, _, _, rfl, rfl, rfl, rfl, ?_⟩ | refine ⟨_, _, _, rfl, .inl ⟨_, rfl, rfl, rfl⟩, ?_⟩)
  | (with_reducible show ((∃ _, _) ∧ _)); (first | refine ⟨⟨_, rfl, _, .inl rfl⟩, ?_⟩ | refine ⟨⟨_, rfl, [], .inr ⟨_, rfl⟩⟩, ?_⟩)
  | (with_reducible show (_ ≤ sizeLine ∧ _)); refine ⟨Evl.sz_of (Nat.le_of_ble_eq_true rfl), ?_⟩)
local macro_rules | `(tactic| walk_at "op") => `(tactic| first
  | (with_reducible show (opAdd _ _ _)); (first | refine op_addI ?_)
  | (with_reducible show (opSub _ _ _)); (first | refine op_subI ?_)
  | (with_reducible show (opLt _ _ _)); (first | refine op_ltI ?_)
  | (with_reducible show (opLe _ _ _)); (first | refine op_leI ?_)
  | (with_reducible show (opGt _ _ _)); (first | refine op_gtI ?_)
  | (with_reducible show (opGe _ _ _)); (first | refine op_geI ?_)
  | (with_reducible show (opEq _ _ _)); (first | refine op_eqI ?_ | refine op_eqB ?_)
  | (with_reducible show (opNe _ _ _)); (first | refine op_neI ?_ | refine op_neB ?_)
  | (with_reducible show (opIsN _ _ _)); (first | refine op_isNone ?_ | refine op_isInt ?_ | refine op_isTup ?_ | refine op_isBl ?_ | refine op_isSt ?_ | refine op_isLs ?_)
  | (with_reducible show (opNotN _ _ _)); (first | refine op_notNone ?_ | refine op_notTup ?_)
  | (with_reducible show (opIx _ _ _)); (first | refine op_ixT0 rfl ?_ | refine op_ixT1 rfl ?_ | refine op_ixT2 rfl ?_ | refine op_ixL0 rfl ?_ | refine op_ixL1 rfl ?_)
  | (with_reducible show (op1Neg _ _)); refine op1_negI ?_
  | (with_reducible show (cdLen _ _)); (first | refine cd_lenL ?_ | refine cd_lenT ?_)
  | (with_reducible show (cdInt _ _)); (first | refine cd_intI ?_ | refine cd_intB ?_)
  | (with_reducible show (cdTuple _ _)); (first | refine cd_tupL ?_ | refine cd_tupT ?_)
  | (with_reducible show (cdList _ _)); (first | refine cd_listL ?_ | refine cd_listT ?_)
  | (with_reducible show (cdAbs _ _)); (first | refine cd_absI ?_)
  | (with_reducible show (cdMin2 _ _)); (first | refine cd_min2I ?_)
  | (with_reducible show (cdMax2 _ _)); (first | refine cd_max2I ?_)
  | (with_reducible show (sdAll _ _ _ _)); (first | refine sd_T ?_ | refine sd_L ?_))
local macro_rules | `(tactic| walk_at "go") => `(tactic| repeat (first | walk_at "vs" | walk_at "op"))
local macro_rules | `(tactic| walk_at "gb") => `(tactic| repeat (first | walk_at "vs" | walk_at "op" | with_reducible (first | refine br_t ?_ | refine br_f ?_ | refine br_nt ?_ | refine br_nf ?_)))
local macro_rules | `(tactic| walk_at "vs") => `(tactic| first
  | with_reducible (first | refine K01.st_split ?_ | refine K01.st_join ?_ | refine K01.st_starts ?_ | refine K01.st_upper ?_ | refine K01.st_isi2 ?_)
  | (with_reducible show ((∃ z, rslv _ _ = some (.str z)) ∧ _)); refine ⟨⟨_, rfl⟩, ?_⟩
  | (with_reducible show (eIxS _ _ _ _)); refine st_ixS' rfl ?_
  | (with_reducible show (∃ d b1 b2, _ = some d ∧ kitD d _ = some b1 ∧ kitD d _ = some b2 ∧ _)); (first | (refine ⟨_, true, false, rfl, (rfl : kitD _ _ = some true), (rfl : kitD _ _ = some false), ?_⟩; rw [Bool.true_or]) | (refine ⟨_, false, true, rfl, (rfl : kitD _ _ = some false), (rfl : kitD _ _ = some true), ?_⟩; rw [Bool.or_true]) | (refine ⟨_, false, false, rfl, (rfl : kitD _ _ = some false), (rfl : kitD _ _ = some false), ?_⟩; rw [Bool.or_false])))
namespace K01
open SX
def dWs (ws : List T) : PyData := .list (ws.map dT)
def RowOk (ws : List T) : Prop := ws.length ≤ 5 ∧ ∀ w ∈ ws, OkW w
def LnOk (l : T) : Prop := l.length ≤ 100 ∧ ∀ c ∈ l, c ≠ 10 ∧ c < 128
theorem passF_row {ws : List T} (h : RowOk ws) : passF ws = (match ws with | [] => true | w :: _ => decide (w.head? = some 35)) := by
  cases ws <;> rfl
theorem numbK_sub : ∀ (rs : List (List T)) (k : Nat) (p : Nat × List T), p ∈ numbK k rs → p.2 ∈ rs
  | [], k, p, h => by simp [numbK] at h
  | r :: rs, k, p, h => by
    rw [numbK] at h
    rcases List.mem_append.mp h with h | h
    · split at h
      · simp at h
      · rw [List.mem_singleton.mp h]; simp
    · exact List.mem_cons_of_mem _ (numbK_sub rs (k + 1) p h)
theorem plain_T {n : Nat} {l : T} (h : Sml n l) : plain (dT l) = true := by
  show PyData.strOk (S l) = true
  exact ok_T h
theorem plain_Ws {ws : List T} (h : RowOk ws) : plain (dWs ws) = true := by
  show plainAll (ws.map dT) = true
  refine (plainAll_iff _).mpr fun d hd => ?_
  obtain ⟨w, hw, rfl⟩ := List.mem_map.mp hd
  exact plain_T (h.2 w hw).sml
theorem nodesT (ws : List T) : nodesAll (ws.map dT) = ws.length := by
  induction ws with
  | nil => rfl
  | cons w ws ih => rw [List.map_cons, nodesAll, ih, List.length_cons]; show 1 + _ = _; omega
theorem nodes_Ws {ws : List T} : nodes (dWs ws) = 1 + ws.length := by
  show 1 + nodesAll (ws.map dT) = _
  rw [nodesT]
theorem plain_dE {p : Nat × List T} (h : RowOk p.2) : plain (dE p) = true := by
  show (true && (plain (dWs p.2) && true)) = true
  rw [plain_Ws h]; rfl
theorem nodes_dE {p : Nat × List T} : nodes (dE p) = 3 + p.2.length := by
  show 1 + (1 + (nodes (dWs p.2) + 0)) = _
  rw [nodes_Ws]; omega
theorem nodes_due : ∀ (es : List (Nat × List T)), (∀ p ∈ es, RowOk p.2) → nodesAll (es.map dE) ≤ 8 * es.length
  | [], _ => by simp [nodesAll]
  | p :: es, h => by
    have a := nodes_due es fun z hz => h z (by simp [hz])
    have b := (h p (by simp)).1
    rw [List.map_cons, nodesAll, nodes_dE, List.length_cons]; omega
theorem len__law_text_asked : ∀ o ds Q, wp__law_text_asked o ds Q → ds.length + 1 = 2 := fun o ds Q ⟨c, m, _, _, e, _⟩ => by rw [e]; rfl
theorem c_nn : PyData.str (Str.ofString "\n\n") = dT [10, 10] := c_of _ _ (by decide +kernel)
theorem c_tail : PyData.str (Str.ofString "\n  \n#") = dT [10, 32, 32, 10, 35] := c_of _ _ (by decide +kernel)
theorem rd__law_text_asked : ∀ o ds Q, wp__law_text_asked o ds Q → τ__law_text_asked (ends1 Q) (some o :: fzs ds ++ List.replicate (9 - (ds.length + 1)) none) := fun o ds Q ⟨c, m, pk, hc, e, hm, q⟩ => by
  subst e
  have hc : c + 100000 < 1000000 := hc
  refine st_nrm rfl ?_
  unfold τ__law_text_asked
  rw [c_hash, c_nl', c_empty, c_nn, c_tail]
  walk_at "go"
  refine lc_inv (List.range m) (fun (i : Nat) => PyData.int (i : Nat)) (fun i acc Γ' => ∃ o' rs, Γ' = [some o', some (.fz (.int (m : Nat))), none, none, none, none, none, none, none] ∧ PoolOk (c + 60 * i) o' ∧ acc = (rs : List (List T)).map dWs ∧ rs.length = i ∧ ∀ r ∈ rs, RowOk r) (Γ1 := [some o, some (.fz (.int (m : Nat))), none, none, none, none, none, none, none]) (fun QI q => ?_) (by exact plain1 (.inl rfl)) ⟨o, [], rfl, pk, rfl, rfl, by simp⟩ (fun i b acc Γ' eb w _ => ?_) (fun acc Γ' w => ?_)
  · walk_at "go"
    exact ⟨szI (by omega) (by omega), q⟩
  · obtain ⟨o', rs, rfl, pk', rfl, rl, rr⟩ := w
    obtain ⟨il, rfl⟩ := rng_at eb
    refine ⟨_, rfl, ?_⟩
    walk_at "gb"
    refine ⟨c + 60 * i, pk', by unfold lim; omega, rfl, fun ws o3 h5 hw pk3 => ?_⟩
    walk_at "gb"
    exact ⟨by rw [List.length_map]; exact Evl.sz_of (by omega), _, rfl, o3, rs ++ [ws], rfl, pk3, by rw [List.map_append]; rfl, by simp [rl], fun z hz => by
      rcases List.mem_append.mp hz with h | h
      · exact rr z h
      · rw [List.mem_singleton.mp h]; exact ⟨h5, hw⟩⟩
  obtain ⟨o1, rs, rfl, pk1, rfl, rl, rr⟩ := w
  rw [List.length_range] at rl pk1
  walk_at "gb"
  refine lc_inv rs dWs (fun i acc Γ' => ∃ o' ls, Γ' = [some o', some (.fz (.int (m : Nat))), some (.fz (.list (rs.map dWs))), none, none, none, none, none, none] ∧ PoolOk (c + 60 * m + 10 * i) o' ∧ acc = (ls : List T).map dT ∧ ls.map wordsF = rs.take i ∧ ∀ l ∈ ls, LnOk l) (Γ1 := [some o1, some (.fz (.int (m : Nat))), some (.fz (.list (rs.map dWs))), none, none, none, none, none, none]) (fun QI q => ?_) (by exact plain1 (.inl rfl)) ⟨o1, [], rfl, pk1, rfl, rfl, by simp⟩ (fun i r acc Γ' er w _ => ?_) (fun acc Γ' w => ?_)
  · walk_at "go"
    exact q
  · obtain ⟨o', ls, rfl, pk', rfl, lw, lk⟩ := w
    have il : i < rs.length := (List.getElem?_eq_some_iff.mp er).1
    have ir : r ∈ rs := List.mem_of_getElem? er
    have ok := rr r ir
    refine ⟨_, rfl, ?_⟩
    walk_at "gb"
    refine ⟨c + 60 * m + 10 * i, r, pk', by unfold lim; omega, rfl, ok.1, ok.2, fun l o3 hw hl hc pk3 => ?_⟩
    have ll : ls.length = i := by have := congrArg List.length lw; rw [List.length_map, List.length_take] at this; omega
    walk_at "gb"
    refine ⟨by rw [List.length_map]; exact Evl.sz_of (by omega), _, rfl, o3, ls ++ [l], rfl, pk3, by rw [List.map_append]; rfl, ?_, fun z hz => ?_⟩
    · rw [List.map_append, lw, List.take_add_one, er, ← hw]; rfl
    · rcases List.mem_append.mp hz with h | h
      · exact lk z h
      · rw [List.mem_singleton.mp h]; exact ⟨hl, hc⟩
  obtain ⟨o2, ls, rfl, pk2, rfl, lw, lk⟩ := w
  rw [List.take_length] at lw
  have ll : ls.length = m := by have := congrArg List.length lw; rw [List.length_map] at this; omega
  walk_at "gb"
  refine for_inv (List.range m) (fun (k : Nat) => PyData.int (k : Nat)) (fun i Γ' => ∃ x5, Γ' = [some o2, some (.fz (.int (m : Nat))), some (.fz (.list (rs.map dWs))), some (.ls (ls.map dT)), some (.ls ((numbK 1 (rs.take i)).map dE)), x5, none, none, none]) (Γ1 := [some o2, some (.fz (.int (m : Nat))), some (.fz (.list (rs.map dWs))), some (.ls (ls.map dT)), some (.ls []), none, none, none, none]) (fun QI q => ?_) ⟨none, rfl⟩ (fun i k Γ' ek w => ?_) (fun Γ' w => ?_)
  · walk_at "go"
    refine ⟨szI (by omega) (by rw [List.length_map]; omega), ?_⟩
    rw [List.length_map, rl]
    exact q
  · obtain ⟨x5, rfl⟩ := w
    obtain ⟨il, rfl⟩ := rng_at ek
    have ir : i < rs.length := by omega
    have ei : (rs.map dWs)[i]? = some (dWs rs[i]) := by rw [List.getElem?_map, List.getElem?_eq_getElem ir]; rfl
    have tki : rs.take (i + 1) = rs.take i ++ [rs[i]] := by rw [List.take_add_one, List.getElem?_eq_getElem ir]; rfl
    have ok := rr rs[i] (List.getElem_mem ir)
    generalize rs[i] = r at ei tki ok
    walk_at "gb"
    refine op_ixL i rfl ei ?_
    have ns := numbK_snoc (rs.take i) 1 r
    rw [← tki] at ns
    have keep : passF r = true → numbK 1 (rs.take (i + 1)) = numbK 1 (rs.take i) := fun h => by rw [ns, h]; simp
    have more : passF r = false → numbK 1 (rs.take (i + 1)) = numbK 1 (rs.take i) ++ [(i + 1, r)] := fun h => by
      rw [ns, h, List.length_take, Nat.min_eq_left (by omega), Nat.add_comm 1 i]; rfl
    have nl := numbK_len (rs.take i) 1
    rw [List.length_take] at nl
    cases r with
    | nil =>
      walk_at "gb"
      refine br2 (fun h => absurd h (by simp)) (fun _ => ?_)
      walk_at "gb"
      exact ⟨_, by rw [keep rfl]⟩
    | cons w ws =>
      walk_at "gb"
      refine br2 (fun _ => ?_) (fun h => absurd h (by simp))
      walk_at "gb"
      refine op_ixL i rfl ei ?_
      walk_at "gb"
      have okw := ok.2 w (by simp)
      have w8 := okw.2.1
      obtain ⟨ch, w', ew⟩ : ∃ ch w', w = ch :: w' := by
        cases w with
        | nil => exact absurd rfl okw.1
        | cons ch w' => exact ⟨ch, w', rfl⟩
      refine op_ixC (l := w) (c := ch) 0 rfl (by rw [ew]; rfl) (by omega) ?_
      walk_at "gb"
      refine op_neT (n := 1) ⟨by simp, fun y hy => by rw [List.mem_singleton.mp hy]; have := (okw.2.2 ch (by rw [ew]; simp)).2.2; omega⟩ (sml_hash 0) ?_
      walk_at "gb"
      have pf : passF (w :: ws) = decide ([ch] = [35]) := by
        rw [ew]
        show decide (some ch = some 35) = _
        exact decide_eq_decide.mpr ⟨fun h => by rw [Option.some.inj h], fun h => by rw [(List.cons.inj h).1]⟩
      refine br2 (fun h => ?_) (fun h => ?_)
      · walk_at "gb"
        refine op_ixL i rfl ei ?_
        walk_at "gb"
        refine st_appL rfl (by rw [List.length_map]; exact Evl.sz_of (by omega)) rfl rfl ?_
        walk_at "gb"
        exact ⟨_, by rw [more (by rw [pf]; simpa using h), List.map_append]; rfl⟩
      · walk_at "gb"
        exact ⟨_, by rw [keep (by rw [pf]; simpa using h)]⟩
  obtain ⟨x5, rfl⟩ := w
  rw [List.length_range, ← rl, List.take_length]
  subst rl
  walk_at "gb"
  refine st_for ?_
  walk_at "gb"
  rw [List.length_map]
  have hk : ((if ((rs.length : Nat) : Int) < 3 then ((rs.length : Nat) : Int) else 3)).toNat ≤ rs.length := by split <;> omega
  refine ⟨by split <;> exact szI (by omega) (by omega), ?_⟩
  generalize ((if ((rs.length : Nat) : Int) < 3 then ((rs.length : Nat) : Int) else 3)).toNat = k3 at hk
  have lns : ∀ l ∈ ls, Sml big l := fun l hl => ⟨Nat.le_trans (lk l hl).1 (Nat.le_of_ble_eq_true rfl), fun y hy => by have := ((lk l hl).2 y hy).2; omega⟩
  refine forB_inv (List.range k3) (fun (k : Nat) => PyData.int (k : Nat)) (fun i Γ' => ∃ x5, Γ' = [some o2, some (.fz (.int (rs.length : Nat))), some (.fz (.list (rs.map dWs))), some (.ls (ls.map dT)), some (.ls ((numbK 1 rs).map dE)), x5, none, none, none]) rfl ⟨x5, rfl⟩ (fun i k Γ' ek w => ?_) (fun Γ' w => ?_)
  · obtain ⟨x5, rfl⟩ := w
    obtain ⟨il, rfl⟩ := rng_at ek
    have ir : i < rs.length := by omega
    have ei : (rs.map dWs)[i]? = some (dWs rs[i]) := by rw [List.getElem?_map, List.getElem?_eq_getElem ir]; rfl
    have il2 : i < ls.length := by omega
    have el : (ls.map dT)[i]? = some (dT ls[i]) := by rw [List.getElem?_map, List.getElem?_eq_getElem il2]; rfl
    have ok := rr rs[i] (List.getElem_mem ir)
    have lok := lns ls[i] (List.getElem_mem il2)
    have ew : wordsF ls[i] = rs[i] := by
      have := congrArg (fun x => x[i]?) lw
      simp only [List.getElem?_map, List.getElem?_eq_getElem il2, List.getElem?_eq_getElem ir, Option.map_some] at this
      exact Option.some.inj this
    generalize rs[i] = r at ei ok ew
    generalize ls[i] = l at el lok ew
    walk_at "gb"
    refine op_ixL i rfl el ?_
    walk_at "gb"
    refine ⟨l, rfl, lok, ?_⟩
    walk_at "gb"
    refine op_ixL i rfl el ?_
    walk_at "gb"
    refine ⟨l, rfl, lok, ?_⟩
    rw [ew]
    walk_at "gb"
    refine op_ixL i rfl ei ?_
    walk_at "gb"
    refine op_ixL i rfl ei ?_
    walk_at "gb"
    have pr := plain_Ws ok
    have nr : nodes (dWs r) = 1 + r.length := nodes_Ws
    have o5 := ok.1
    refine ⟨.tuple [dWs r, dWs r], rfl, ?_, ?_, ?_⟩
    · show (plain (dWs r) && (plain (dWs r) && true)) = true
      rw [pr]; rfl
    · show 1 + (nodes (dWs r) + (nodes (dWs r) + 0)) ≤ 50000
      omega
    walk_at "gb"
    exact ⟨_, rfl⟩
  obtain ⟨x5, rfl⟩ := w
  walk_at "gb"
  have sl := sum_le (k := 100) fun l hl => (lk l hl).1
  refine ⟨S [10], ls.map S, rfl, by rw [List.map_map]; rfl, by rw [S_len, lens, List.length_map]; exact Nat.le_trans (Nat.add_le_add sl (Nat.le_refl _)) (by simp only [List.length_cons, List.length_nil]; omega), ?_⟩
  rw [join_S]
  have jl := joinL_len 10 ls
  have jm : ∀ y ∈ TL.joinL [10] ls, y < 128 := fun y hy => by
    rcases joinL_mem 10 ls y hy with h | ⟨l, hl, h⟩
    · rw [h]; decide
    · exact ((lk l hl).2 y h).2
  have rj := fun t ht => read_join (ls := ls) (fun l hl h => ((lk l hl).2 10 h).1 rfl) t ht
  rw [lw] at rj
  generalize TL.joinL [10] ls = tx at jl jm rj ⊢
  show ∃ d, (O.fz (dT tx)).frz = some d ∧ _
  walk_at "gb"
  refine ⟨_, 4, 9, pk2, by unfold lim; omega, rfl, by omega, by unfold lim; omega, fun n o3 hn pk3 => ?_⟩
  walk_at "gb"
  have tails : ∃ t : T, ([[], [10], [10, 10], [10, 32, 32, 10, 35]].map dT)[n]? = some (dT t) ∧ (t = [] ∨ t = [10] ∨ t = [10, 10] ∨ t = [10, 32, 32, 10, 35]) := by
    match n, hn with
    | 0, _ => exact ⟨_, rfl, .inl rfl⟩
    | 1, _ => exact ⟨_, rfl, .inr (.inl rfl)⟩
    | 2, _ => exact ⟨_, rfl, .inr (.inr (.inl rfl))⟩
    | 3, _ => exact ⟨_, rfl, .inr (.inr (.inr rfl))⟩
  obtain ⟨t, et, ht⟩ := tails
  have t5 : t.length ≤ 5 := by rcases ht with rfl | rfl | rfl | rfl <;> decide
  have tc : ∀ y ∈ t, y < 128 := by rcases ht with rfl | rfl | rfl | rfl <;> decide
  refine op_ixT n rfl et ?_
  walk_at "gb"
  refine op_addTx (by omega) ?_
  walk_at "gb"
  refine ⟨tx ++ t, rfl, ⟨by rw [List.length_append]; show _ ≤ 100000; omega, fun y hy => by
    rcases List.mem_append.mp hy with h | h
    · have := jm y h; omega
    · have := tc y h; omega⟩, ?_⟩
  rw [rj t ht]
  walk_at "gb"
  have due : ∀ p ∈ numbK 1 rs, RowOk p.2 := fun p hp => rr _ (numbK_sub rs 1 p hp)
  have nd := nodes_due (numbK 1 rs) due
  have nl := numbK_len rs 1
  refine ⟨.list ((numbK 1 rs).map dE), rfl, ?_, ?_, ?_⟩
  · refine (plainAll_iff _).mpr fun d hd => ?_
    obtain ⟨p, hp, rfl⟩ := List.mem_map.mp hd
    exact plain_dE (due p hp)
  · show 1 + nodesAll _ ≤ 50000
    omega
  walk_at "gb"
  exact ⟨_, rfl, q o3 (pk3.mono (by omega))⟩
end K01
end
section
open VL PySem L2
local macro_rules | `(tactic| walk_at "vs") => `(tactic| first
  | with_reducible (first | refine st_seq ?_ | refine st_ret ?_ | refine st_set ?_ | refine st_if ?_ | refine st_drop ?_ | refine st_next ?_ | refine st_par ?_ | refine st_asg ?_ | refine st_rt0 ?_ | refine st_nx0 ?_ | refine st_brk ?_ | refine st_cnt ?_ | refine st_retN ?_ | refine st_op ?_ | refine st_op1 ?_ | refine st_an ?_ | refine st_ac ?_ | refine st_cb ?_ | refine st_tup ?_ | refine st_lst ?_ | refine st_to ?_ | refine st_tru ?_ | refine st_tnot ?_ | refine st_tand ?_ | refine st_tor ?_ | refine st_and ?_ | refine st_or ?_ | refine st_not ?_ | refine st_eif ?_ | refine st_chain ?_ | refine st_call ?_ | refine st_calli ?_ | refine st_isi ?_ | refine st_lrg ?_ | refine st_trg ?_ | refine st_sl ?_ | refine st_pn ?_ | refine st_ps ?_ | refine st_iseq ?_ | refine st_ir1 ?_ | refine st_ir2 ?_ | refine st_yes ?_ | refine st_c ?_ | refine st_xo ?_ | refine st_ox ?_ | refine st_cbe ?_ | refine st_true ?_ | refine st_ixe ?_ | refine st_dnew ?_ | refine st_ao0 ?_ | refine st_ao ?_ | refine st_trl ?_ | refine st_callk ?_ | refine st_callB ?_ | refine st_put ?_ | refine st_dput ?_ | refine st_g0 ?_ | refine st_sme ?_ | refine st_sme0 ?_ | refine st_pute ?_ | refine st_par3 ?_ | refine st_xelD ?_ | refine st_cbd ?_ | refine st_truDE ?_ | refine st_ixD' ?_ | refine st_smd ?_ | refine st_smd0 ?_ | refine st_putD ?_ | refine st_tdl ?_ | refine st_idx ?_ | refine st_rev ?_)
  | (with_reducible show (sAugI _ _ _ _ _)); refine st_augI rfl ?_
  | (with_reducible show (xVar _ _ _)); refine st_var rfl ?_
  | (with_reducible show (xVal _ _ _)); (first | refine st_val rfl ?_ | refine st_valL rfl rfl rfl ?_)
  | (with_reducible show (oMv _ _ _)); (first | refine st_mv rfl ?_ | refine st_mvL rfl rfl ?_)
  | (with_reducible show (eIxS _ _ _ _)); (first | refine st_ixT rfl ?_ | refine st_ixLs rfl ?_ | refine st_ixF rfl ?_ | refine st_ixTr rfl ?_ | refine st_ixDic rfl rfl ?_)
  | (with_reducible show (eLenS _ _ _)); (first | refine st_lenT rfl ?_ | refine st_lenD _ rfl ?_)
  | (with_reducible show (eEl _ _ _ _)); refine st_el rfl ?_
  | (with_reducible show (eApp _ _ _ _ _)); (first | refine st_app (listG_ls rfl) ?_ | refine st_app (listG_tr rfl) ?_)
  | (with_reducible show (sPutS _ _ _ _ _ _)); (first | refine st_putS rfl ?_ | refine st_putSD rfl ?_)
  | (with_reducible show (eInS _ _ _ _)); (first | refine st_in rfl ?_ | refine st_din rfl ?_)
  | (with_reducible show (eNotInS _ _ _ _)); (first | refine st_notin rfl ?_ | refine st_dnotin rfl ?_)
  | (with_reducible show (tInS _ _ _ _)); (first | refine st_tin rfl ?_ | refine st_tdin rfl ?_)
  | (with_reducible show (tNotInS _ _ _ _)); (first | refine st_tnotin rfl ?_ | refine st_tdnotin rfl ?_)
  | (with_reducible show (sDel _ _ _ _)); refine st_del rfl ?_
  | (with_reducible show (eSM _ _ _ _ _)); refine st_sm rfl ?_
  | (with_reducible show (gN _ _ _ _)); refine st_gn rfl ?_
  | (with_reducible show (gConss _ _ _ _ _)); refine st_gc ?_
  | (with_reducible show (gTupD _ _ _ _ _)); refine st_gt rfl ?_
  | (with_reducible show (∃ d b, _ = some d ∧ kitD d _ = some b ∧ _)); (first | refine ⟨_, true, rfl, (rfl : kitD _ _ = some true), ?_⟩ | refine ⟨_, false, rfl, (rfl : kitD _ _ = some false), ?_⟩)
  | (with_reducible show (∃ _, _)); (first | refine ⟨_, rfl, ?_⟩ | refine ⟨_, _, rfl, rfl, ?_⟩ | refine ⟨_, _, _, rfl, rfl, rfl, ?_⟩ | refine ⟨_, _, _, _, rfl, rfl, rfl, ?_⟩ | refine ⟨_, _, _, _, rfl, rfl, rfl, rfl, ?_⟩ | refine ⟨_, _, _, rfl, .inl ⟨_, rfl, rfl, rfl⟩, ?_⟩)
  | (with_reducible show ((∃ _, _) ∧ _)); (first | refine ⟨⟨_, rfl, _, .inl rfl⟩, ?_⟩ | refine ⟨⟨_, rfl, [], .inr ⟨_, rfl⟩⟩, ?_⟩)
  | (with_reducible show (_ ≤ sizeLine ∧ _)); refine ⟨Evl.sz_of (Nat.le_of_ble_eq_true rfl), ?_⟩)
local macro_rules | `(tactic| walk_at "op") => `(tactic| first
  | (with_reducible show (opAdd _ _ _)); (first | refine op_addI ?_)
  | (with_reducible show (opSub _ _ _)); (first | refine op_subI ?_)
  | (with_reducible show (opLt _ _ _)); (first | refine op_ltI ?_)
  | (with_reducible show (opLe _ _ _)); (first | refine op_leI ?_)
  | (with_reducible show (opGt _ _ _)); (first | refine op_gtI ?_)
  | (with_reducible show (opGe _ _ _)); (first | refine op_geI ?_)
  | (with_reducible show (opEq _ _ _)); (first | refine op_eqI ?_ | refine op_eqB ?_)
  | (with_reducible show (opNe _ _ _)); (first | refine op_neI ?_ | refine op_neB ?_)
  | (with_reducible show (opIsN _ _ _)); (first | refine op_isNone ?_ | refine op_isInt ?_ | refine op_isTup ?_ | refine op_isBl ?_ | refine op_isSt ?_ | refine op_isLs ?_)
  | (with_reducible show (opNotN _ _ _)); (first | refine op_notNone ?_ | refine op_notTup ?_)
  | (with_reducible show (opIx _ _ _)); (first | refine op_ixT0 rfl ?_ | refine op_ixT1 rfl ?_ | refine op_ixT2 rfl ?_ | refine op_ixL0 rfl ?_ | refine op_ixL1 rfl ?_)
  | (with_reducible show (op1Neg _ _)); refine op1_negI ?_
  | (with_reducible show (cdLen _ _)); (first | refine cd_lenL ?_ | refine cd_lenT ?_)
  | (with_reducible show (cdInt _ _)); (first | refine cd_intI ?_ | refine cd_intB ?_)
  | (with_reducible show (cdTuple _ _)); (first | refine cd_tupL ?_ | refine cd_tupT ?_)
  | (with_reducible show (cdList _ _)); (first | refine cd_listL ?_ | refine cd_listT ?_)
  | (with_reducible show (cdAbs _ _)); (first | refine cd_absI ?_)
  | (with_reducible show (cdMin2 _ _)); (first | refine cd_min2I ?_)
  | (with_reducible show (cdMax2 _ _)); (first | refine cd_max2I ?_)
  | (with_reducible show (sdAll _ _ _ _)); (first | refine sd_T ?_ | refine sd_L ?_))
local macro_rules | `(tactic| walk_at "go") => `(tactic| repeat (first | walk_at "vs" | walk_at "op"))
local macro_rules | `(tactic| walk_at "gb") => `(tactic| repeat (first | walk_at "vs" | walk_at "op" | with_reducible (first | refine br_t ?_ | refine br_f ?_ | refine br_nt ?_ | refine br_nf ?_)))
local macro_rules | `(tactic| walk_at "vs") => `(tactic| first
  | with_reducible (first | refine K01.st_split ?_ | refine K01.st_join ?_ | refine K01.st_starts ?_ | refine K01.st_upper ?_ | refine K01.st_isi2 ?_)
  | (with_reducible show ((∃ z, rslv _ _ = some (.str z)) ∧ _)); refine ⟨⟨_, rfl⟩, ?_⟩
  | (with_reducible show (eIxS _ _ _ _)); refine st_ixS' rfl ?_
  | (with_reducible show (∃ d b1 b2, _ = some d ∧ kitD d _ = some b1 ∧ kitD d _ = some b2 ∧ _)); (first | (refine ⟨_, true, false, rfl, (rfl : kitD _ _ = some true), (rfl : kitD _ _ = some false), ?_⟩; rw [Bool.true_or]) | (refine ⟨_, false, true, rfl, (rfl : kitD _ _ = some false), (rfl : kitD _ _ = some true), ?_⟩; rw [Bool.or_true]) | (refine ⟨_, false, false, rfl, (rfl : kitD _ _ = some false), (rfl : kitD _ _ = some false), ?_⟩; rw [Bool.or_false])))
namespace K01
open SX
theorem h_0 : PyData.str (Str.ofString "  if a then b") = dT [32, 32, 105, 102, 32, 97, 32, 116, 104, 101, 110, 32, 98] := c_of _ _ (by decide +kernel)
theorem h_1 : PyData.str (Str.ofString "a\n\n# b\nc d") = dT [97, 10, 10, 35, 32, 98, 10, 99, 32, 100] := c_of _ _ (by decide +kernel)
theorem h_2 : PyData.str (Str.ofString "rule") = dT [114, 117, 108, 101] := c_of _ _ (by decide +kernel)
theorem h_3 : PyData.str (Str.ofString "box") = dT [98, 111, 120] := c_of _ _ (by decide +kernel)
theorem h_4 : PyData.str (Str.ofString "") = dT [] := c_of _ _ (by decide +kernel)
theorem h_5 : PyData.str (Str.ofString "   ") = dT [32, 32, 32] := c_of _ _ (by decide +kernel)
theorem h_6 : PyData.str (Str.ofString "a") = dT [97] := c_of _ _ (by decide +kernel)
theorem h_7 : PyData.str (Str.ofString "if") = dT [105, 102] := c_of _ _ (by decide +kernel)
theorem h_8 : PyData.str (Str.ofString "then") = dT [116, 104, 101, 110] := c_of _ _ (by decide +kernel)
theorem h_9 : PyData.str (Str.ofString "b") = dT [98] := c_of _ _ (by decide +kernel)
theorem h_10 : PyData.str (Str.ofString "c") = dT [99] := c_of _ _ (by decide +kernel)
theorem h_11 : PyData.str (Str.ofString "d") = dT [100] := c_of _ _ (by decide +kernel)
theorem h_12 : PyData.str (Str.ofString "\n") = dT [10] := c_of _ _ (by decide +kernel)
theorem h_13 : PyData.str (Str.ofString "a#b #c\n #d e\n\n  f # g") = dT [97, 35, 98, 32, 35, 99, 10, 32, 35, 100, 32, 101, 10, 10, 32, 32, 102, 32, 35, 32, 103] := c_of _ _ (by decide +kernel)
theorem h_14 : PyData.str (Str.ofString "\n\na\n\n") = dT [10, 10, 97, 10, 10] := c_of _ _ (by decide +kernel)
theorem h_15 : PyData.str (Str.ofString "a#b") = dT [97, 35, 98] := c_of _ _ (by decide +kernel)
theorem h_16 : PyData.str (Str.ofString "#c") = dT [35, 99] := c_of _ _ (by decide +kernel)
theorem h_17 : PyData.str (Str.ofString "f") = dT [102] := c_of _ _ (by decide +kernel)
theorem h_18 : PyData.str (Str.ofString "#") = dT [35] := c_of _ _ (by decide +kernel)
theorem h_19 : PyData.str (Str.ofString "g") = dT [103] := c_of _ _ (by decide +kernel)
theorem h_20 : PyData.str (Str.ofString "1") = dT [49] := c_of _ _ (by decide +kernel)
theorem h_21 : PyData.str (Str.ofString "x") = dT [120] := c_of _ _ (by decide +kernel)
theorem h_22 : PyData.str (Str.ofString "abcdefgh") = dT [97, 98, 99, 100, 101, 102, 103, 104] := c_of _ _ (by decide +kernel)
theorem h_23 : PyData.str (Str.ofString "abcdefghi") = dT [97, 98, 99, 100, 101, 102, 103, 104, 105] := c_of _ _ (by decide +kernel)
theorem h_24 : PyData.str (Str.ofString "a1b2c3d4") = dT [97, 49, 98, 50, 99, 51, 100, 52] := c_of _ _ (by decide +kernel)
theorem h_25 : PyData.str (Str.ofString "1a") = dT [49, 97] := c_of _ _ (by decide +kernel)
theorem h_26 : PyData.str (Str.ofString "aB") = dT [97, 66] := c_of _ _ (by decide +kernel)
theorem h_27 : PyData.str (Str.ofString "a b") = dT [97, 32, 98] := c_of _ _ (by decide +kernel)
theorem h_28 : PyData.str (Str.ofString "a-b") = dT [97, 45, 98] := c_of _ _ (by decide +kernel)
theorem len__law_by_hand : ∀ ds Q, wp__law_by_hand ds Q → ds.length = 0 := fun ds Q ⟨e, _⟩ => by rw [e]; rfl
theorem nmok_of {l : T} (h : (decide (l.length ≤ 1000) && l.all fun c => decide (c < 128)) = true) : NmOk (dT l) := .str (sml_of h)
theorem smlB {l : T} (h : (decide (l.length ≤ 1000) && l.all fun c => decide (c < 128)) = true) : Sml big l := ⟨Nat.le_trans (sml_of h).1 (Nat.le_of_ble_eq_true rfl), (sml_of h).2⟩
theorem kept_facts : ∀ w ∈ keptW, isNm w = false ∧ isNm (w ++ [49]) = true ∧ isNm ([120] ++ w) = true := by
  have : (keptW.all fun w => decide (isNm w = false ∧ isNm (w ++ [49]) = true ∧ isNm ([120] ++ w) = true)) = true := by decide +kernel
  exact fun w hw => of_decide_eq_true (List.all_eq_true.mp this w hw)
theorem isNm_eq {l : T} {b : Bool} (h : isNm l = b) : isName (dT l) = b := h
def tries : List (PyData × Bool) := [(dT [97], true), (dT [97, 98, 99, 100, 101, 102, 103, 104], true), (dT [97, 98, 99, 100, 101, 102, 103, 104, 105], false), (dT [97, 49, 98, 50, 99, 51, 100, 52], true), (dT [49, 97], false), (dT [97, 66], false), (dT [97, 32, 98], false), (dT [97, 45, 98], false), (dT [], false), (.none, false)]
theorem tries_ok : ∀ p ∈ tries, NmOk p.1 ∧ isName p.1 = p.2 := by
  intro p hp
  simp only [tries, List.mem_cons, List.not_mem_nil, or_false] at hp
  rcases hp with rfl | rfl | rfl | rfl | rfl | rfl | rfl | rfl | rfl | rfl
  all_goals first
    | exact ⟨nmok_of (by decide), by decide +kernel⟩
    | exact ⟨.non, rfl⟩
theorem rd__law_by_hand : ∀ ds Q, wp__law_by_hand ds Q → τ__law_by_hand (ends0 Q) (fzs ds ++ List.replicate (4 - ds.length) none) := fun ds Q ⟨e, q⟩ => by
  subst e
  refine st_nrm rfl ?_
  unfold τ__law_by_hand
  rw [h_0, h_1, h_2, h_3, h_4, h_5, h_6, h_7, h_8, h_9, h_10, h_11, h_12, h_13, h_14, h_15, h_16, h_17, h_18, h_19, h_20, h_21, h_22, h_23, h_24, h_25, h_26, h_27, h_28]
  walk_at "go"
  refine ⟨_, rfl, smlB (by decide), ?_⟩
  rw [show wordsF [32, 32, 105, 102, 32, 97, 32, 116, 104, 101, 110, 32, 98] = [[105, 102], [97], [116, 104, 101, 110], [98]] by decide]
  walk_at "go"
  refine ⟨_, rfl, smlB (by decide), ?_⟩
  rw [show readF [97, 10, 10, 35, 32, 98, 10, 99, 32, 100] = [(1, [[97]]), (4, [[99], [100]])] by decide]
  walk_at "go"
  refine ⟨_, rfl, nmok_of (by decide), ?_⟩
  rw [isNm_eq (show isNm [114, 117, 108, 101] = true by decide)]
  walk_at "go"
  refine ⟨_, rfl, nmok_of (by decide), ?_⟩
  rw [isNm_eq (show isNm [98, 111, 120] = false by decide)]
  walk_at "go"
  refine ⟨_, rfl, smlB (by decide), ?_⟩
  rw [show wordsF [] = [] by decide]
  walk_at "go"
  refine ⟨_, rfl, smlB (by decide), ?_⟩
  rw [show wordsF [32, 32, 32] = [] by decide]
  walk_at "go"
  refine ⟨_, rfl, smlB (by decide), ?_⟩
  rw [show wordsF [97] = [[97]] by decide]
  walk_at "go"
  refine ⟨_, rfl, by decide +kernel, by decide +kernel, ?_⟩
  walk_at "gb"
  refine ⟨_, rfl, smlB (by decide), ?_⟩
  rw [show readF [] = [] by decide]
  walk_at "gb"
  refine ⟨_, rfl, smlB (by decide), ?_⟩
  rw [show readF [10] = [] by decide]
  walk_at "gb"
  refine ⟨_, rfl, smlB (by decide), ?_⟩
  rw [show readF [97, 35, 98, 32, 35, 99, 10, 32, 35, 100, 32, 101, 10, 10, 32, 32, 102, 32, 35, 32, 103] = [(1, [[97, 35, 98], [35, 99]]), (4, [[102], [35], [103]])] by decide +kernel]
  walk_at "gb"
  refine ⟨_, rfl, smlB (by decide), ?_⟩
  rw [show readF [10, 10, 97, 10, 10] = [(3, [[97]])] by decide +kernel]
  walk_at "gb"
  refine ⟨_, rfl, by decide +kernel, by decide +kernel, ?_⟩
  walk_at "gb"
  refine for_inv keptW dT (fun i Γ' => ∃ x0 x1, Γ' = [x0, x1, none, none]) (Γ1 := [?_, none, none, none]) (fun QI q => ?_) ⟨_, _, rfl⟩ (fun i w Γ' ew hw => ?_) (fun Γ' hw => ?_)
  rotate_left
  · walk_at "gb"
    refine ⟨rfl, ?_⟩
    walk_at "gb"
    exact q
  · obtain ⟨x0, x1, rfl⟩ := hw
    have hk : w ∈ keptW := List.mem_of_getElem? ew
    have sw := kept_sml w hk
    obtain ⟨f1, f2, f3⟩ := kept_facts w hk
    have kl := (kept_last w hk).2.2.1
    walk_at "gb"
    refine ⟨_, rfl, .str sw, ?_⟩
    rw [isNm_eq f1]
    walk_at "gb"
    refine op_addTx (by simp; omega) ?_
    walk_at "gb"
    refine ⟨_, rfl, .str ⟨Nat.le_trans (isNm_sml f2).1 (by omega), (isNm_sml f2).2⟩, ?_⟩
    rw [isNm_eq f2]
    walk_at "gb"
    refine op_addTx (by simp; omega) ?_
    walk_at "gb"
    refine ⟨_, rfl, .str ⟨Nat.le_trans (isNm_sml f3).1 (by omega), (isNm_sml f3).2⟩, ?_⟩
    rw [isNm_eq f3]
    walk_at "gb"
    refine ⟨_, rfl, by decide +kernel, by decide +kernel, ?_⟩
    walk_at "gb"
    exact ⟨_, _, rfl⟩
  · obtain ⟨x0, x1, rfl⟩ := hw
    walk_at "gb"
    refine for_inv tries (fun (p : PyData × Bool) => .tuple [p.1, .bool p.2]) (fun i Γ' => ∃ x2 x3, Γ' = [x0, x1, x2, x3]) (Γ1 := [x0, x1, none, none]) (fun QI q => ?_) ⟨_, _, rfl⟩ (fun i p Γ' ep hp => ?_) (fun Γ' hp => ?_)
    · walk_at "gb"
      exact q
    · obtain ⟨x2, x3, rfl⟩ := hp
      obtain ⟨t1, t2⟩ := tries_ok p (List.mem_of_getElem? ep)
      walk_at "gb"
      refine ⟨_, rfl, t1, ?_⟩
      rw [t2]
      walk_at "gb"
      refine ⟨_, rfl, by cases p.2 <;> decide, by cases p.2 <;> decide, ?_⟩
      walk_at "gb"
      exact ⟨_, _, rfl⟩
    · obtain ⟨x2, x3, rfl⟩ := hp
      walk_at "gb"
      refine ⟨_, rfl, .tup _, ?_⟩
      walk_at "gb"
      refine ⟨_, rfl, .int _, ?_⟩
      walk_at "gb"
      refine ⟨_, rfl, .lst _, ?_⟩
      walk_at "gb"
      refine ⟨_, rfl, by decide +kernel, by decide +kernel, ?_⟩
      walk_at "gb"
      exact q
theorem len_law : ∀ ds Q, wp_law ds Q → ds.length = 1 := fun ds Q ⟨ns, e, _⟩ => by rw [e]; rfl
theorem rd_law : ∀ ds Q, wp_law ds Q → τ_law (ends0 Q) (fzs ds ++ List.replicate (3 - ds.length) none) := fun ds Q ⟨ns, e, hn, hb, q⟩ => by
  subst e
  refine st_nrm rfl ?_
  unfold τ_law
  walk_at "gb"
  refine ⟨ns, rfl, hn, hb, fun o pk => ?_⟩
  walk_at "gb"
  refine ⟨0, pk, by unfold lim; omega, rfl, fun o1 pk1 => ?_⟩
  walk_at "gb"
  refine for_inv (List.range 4) (fun (k : Nat) => PyData.int (k : Nat)) (fun i Γ' => ∃ o' x2, Γ' = [some (.fz (scD ns)), some o', x2] ∧ PoolOk (100 + 40001 * i) o') (Γ1 := [some (.fz (scD ns)), some o1, none]) (fun QI q => ?_) ⟨_, _, rfl, pk1⟩ (fun i k Γ' ek w => ?_) (fun Γ' w => ?_)
  · walk_at "gb"
    exact ⟨szI (by omega) (by omega), q⟩
  · obtain ⟨o', x2, rfl, pk'⟩ := w
    obtain ⟨il, rfl⟩ := rng_at ek
    walk_at "gb"
    refine ⟨_, 9, 0, pk', by unfold lim; omega, rfl, by omega, by unfold lim; omega, fun n o3 hn3 pk3 => ?_⟩
    walk_at "gb"
    refine ⟨_, n, pk3, by unfold lim; omega, rfl, by omega, fun o4 pk4 => ?_⟩
    walk_at "gb"
    exact ⟨o4, _, rfl, pk4.mono (by omega)⟩
  · obtain ⟨o', x2, rfl, pk'⟩ := w
    rw [List.length_range] at pk'
    walk_at "gb"
    refine ⟨_, 11, 0, pk', by unfold lim; omega, rfl, by omega, by unfold lim; omega, fun n o3 hn3 pk3 => ?_⟩
    walk_at "gb"
    refine br2 (fun _ => ?_) (fun _ => ?_)
    · walk_at "gb"
      refine ⟨_, 396, pk3, by unfold lim; omega, rfl, by omega, fun o4 pk4 => ?_⟩
      walk_at "gb"
      refine ⟨rfl, ?_⟩
      walk_at "gb"
      exact q
    · walk_at "gb"
      refine ⟨rfl, ?_⟩
      walk_at "gb"
      exact q
end K01
end
section
namespace K01
open PySem PySem.Spec L2 VL
def topS (i : Nat) : Stmt := PySem.Challenge.pw_forcedtold_k01_words.main.body.getD i (.Pass ⟨0, 0, 0, 0⟩)
abbrev s_lines_of : Stmt := topS 2
theorem sc_lines_of : FnScope ["text", "lines"] ["text"] (defScope s_lines_of) := ⟨rfl, rfl, rfl, by decide +kernel, rfl, by decide +kernel, by decide +kernel⟩
abbrev s_line_words : Stmt := topS 3
theorem sc_line_words : FnScope ["line", "word"] ["line"] (defScope s_line_words) := ⟨rfl, rfl, rfl, by decide +kernel, rfl, by decide +kernel, by decide +kernel⟩
abbrev s_is_passed_over : Stmt := topS 4
theorem sc_is_passed_over : FnScope ["words"] ["words"] (defScope s_is_passed_over) := ⟨rfl, rfl, rfl, by decide +kernel, rfl, by decide +kernel, by decide +kernel⟩
abbrev s_read_lines : Stmt := topS 5
theorem sc_read_lines : FnScope ["text", "found", "at", "line", "words"] ["text"] (defScope s_read_lines) := ⟨rfl, rfl, rfl, by decide +kernel, rfl, by decide +kernel, by decide +kernel⟩
abbrev s_is_name : Stmt := topS 11
theorem sc_is_name : FnScope ["thing", "sign"] ["thing"] (defScope s_is_name) := ⟨rfl, rfl, rfl, by decide +kernel, rfl, by decide +kernel, by decide +kernel⟩
abbrev s_words_of : Stmt := topS 12
theorem sc_words_of : FnScope ["line"] ["line"] (defScope s_words_of) := ⟨rfl, rfl, rfl, by decide +kernel, rfl, by decide +kernel, by decide +kernel⟩
abbrev s_source_lines : Stmt := topS 13
theorem sc_source_lines : FnScope ["text"] ["text"] (defScope s_source_lines) := ⟨rfl, rfl, rfl, by decide +kernel, rfl, by decide +kernel, by decide +kernel⟩
abbrev s__law_pool : Stmt := topS 15
theorem sc__law_pool : FnScope ["script", "great", "stirred", "cell", "size"] ["script"] (defScope s__law_pool) := ⟨rfl, rfl, rfl, by decide +kernel, rfl, by decide +kernel, by decide +kernel⟩
abbrev s__law_take : Stmt := topS 16
theorem sc__law_take : FnScope ["pool", "many", "place", "size", "free"] ["pool", "many", "place"] (defScope s__law_take) := ⟨rfl, rfl, rfl, by decide +kernel, rfl, by decide +kernel, by decide +kernel⟩
abbrev s__law_same : Stmt := topS 17
theorem sc__law_same : FnScope ["told", "due", "left", "one", "other", "at"] ["told", "due"] (defScope s__law_same) := ⟨rfl, rfl, rfl, by decide +kernel, rfl, by decide +kernel, by decide +kernel⟩
abbrev s__law_kept : Stmt := topS 18
theorem sc__law_kept : FnScope [] [] (defScope s__law_kept) := ⟨rfl, rfl, rfl, by decide +kernel, rfl, by decide +kernel, by decide +kernel⟩
abbrev s__law_is_name : Stmt := topS 19
theorem sc__law_is_name : FnScope ["thing", "signs", "sign"] ["thing"] (defScope s__law_is_name) := ⟨rfl, rfl, rfl, by decide +kernel, rfl, by decide +kernel, by decide +kernel⟩
abbrev s__law_pick : Stmt := topS 20
theorem sc__law_pick : FnScope ["pool", "things"] ["pool", "things"] (defScope s__law_pick) := ⟨rfl, rfl, rfl, by decide +kernel, rfl, by decide +kernel, by decide +kernel⟩
abbrev s__law_word : Stmt := topS 21
theorem sc__law_word : FnScope ["pool", "most", "signs", "lap"] ["pool", "most"] (defScope s__law_word) := ⟨rfl, rfl, rfl, by decide +kernel, rfl, by decide +kernel, by decide +kernel⟩
abbrev s__law_named : Stmt := topS 22
theorem sc__law_named : FnScope ["pool", "most", "letters", "name", "lap"] ["pool", "most"] (defScope s__law_named) := ⟨rfl, rfl, rfl, by decide +kernel, rfl, by decide +kernel, by decide +kernel⟩
abbrev s__law_bent : Stmt := topS 23
theorem sc__law_bent : FnScope ["pool", "name", "at", "sign", "kept"] ["pool", "name"] (defScope s__law_bent) := ⟨rfl, rfl, rfl, by decide +kernel, rfl, by decide +kernel, by decide +kernel⟩
abbrev s__law_names_asked : Stmt := topS 24
theorem sc__law_names_asked : FnScope ["pool", "lap", "name", "things", "turn", "thing"] ["pool"] (defScope s__law_names_asked) := ⟨rfl, rfl, rfl, by decide +kernel, rfl, by decide +kernel, by decide +kernel⟩
abbrev s__law_line : Stmt := topS 25
theorem sc__law_line : FnScope ["pool", "words", "told", "at"] ["pool", "words"] (defScope s__law_line) := ⟨rfl, rfl, rfl, by decide +kernel, rfl, by decide +kernel, by decide +kernel⟩
abbrev s__law_drawn : Stmt := topS 26
theorem sc__law_drawn : FnScope ["pool", "most", "words", "lap"] ["pool", "most"] (defScope s__law_drawn) := ⟨rfl, rfl, rfl, by decide +kernel, rfl, by decide +kernel, by decide +kernel⟩
abbrev s__law_text_asked : Stmt := topS 27
theorem sc__law_text_asked : FnScope ["pool", "many", "rows", "lines", "due", "at", "text", "lap", "words"] ["pool", "many"] (defScope s__law_text_asked) := ⟨rfl, rfl, rfl, by decide +kernel, rfl, by decide +kernel, by decide +kernel⟩
abbrev s__law_by_hand : Stmt := topS 28
theorem sc__law_by_hand : FnScope ["told", "word", "thing", "due"] [] (defScope s__law_by_hand) := ⟨rfl, rfl, rfl, by decide +kernel, rfl, by decide +kernel, by decide +kernel⟩
abbrev s_law : Stmt := topS 29
theorem sc_law : FnScope ["script", "pool", "lap"] ["script"] (defScope s_law) := ⟨rfl, rfl, rfl, by decide +kernel, rfl, by decide +kernel, by decide +kernel⟩
structure Txt (K : PySem.W.Frag) (mg : Str → Option Value) where
  f_lines_of : Addr
  fd_lines_of : FuncData
  F_lines_of : Fun K "lines_of" "lines_of" s_lines_of f_lines_of fd_lines_of
  f_line_words : Addr
  fd_line_words : FuncData
  F_line_words : Fun K "line_words" "line_words" s_line_words f_line_words fd_line_words
  f_is_passed_over : Addr
  fd_is_passed_over : FuncData
  F_is_passed_over : Fun K "is_passed_over" "is_passed_over" s_is_passed_over f_is_passed_over fd_is_passed_over
  f_read_lines : Addr
  fd_read_lines : FuncData
  F_read_lines : Fun K "read_lines" "read_lines" s_read_lines f_read_lines fd_read_lines
  f_is_name : Addr
  fd_is_name : FuncData
  F_is_name : Fun K "is_name" "is_name" s_is_name f_is_name fd_is_name
  f_words_of : Addr
  fd_words_of : FuncData
  F_words_of : Fun K "words_of" "words_of" s_words_of f_words_of fd_words_of
  f_source_lines : Addr
  fd_source_lines : FuncData
  F_source_lines : Fun K "source_lines" "source_lines" s_source_lines f_source_lines fd_source_lines
  f__law_pool : Addr
  fd__law_pool : FuncData
  F__law_pool : Fun K "_law_pool" "_law_pool" s__law_pool f__law_pool fd__law_pool
  f__law_take : Addr
  fd__law_take : FuncData
  F__law_take : FunD K "_law_take" "_law_take" (defArgs s__law_take) (defBody s__law_take) (defScope s__law_take) [.int 0] [] f__law_take fd__law_take
  f__law_same : Addr
  fd__law_same : FuncData
  F__law_same : Fun K "_law_same" "_law_same" s__law_same f__law_same fd__law_same
  f__law_kept : Addr
  fd__law_kept : FuncData
  F__law_kept : Fun K "_law_kept" "_law_kept" s__law_kept f__law_kept fd__law_kept
  f__law_is_name : Addr
  fd__law_is_name : FuncData
  F__law_is_name : Fun K "_law_is_name" "_law_is_name" s__law_is_name f__law_is_name fd__law_is_name
  f__law_pick : Addr
  fd__law_pick : FuncData
  F__law_pick : Fun K "_law_pick" "_law_pick" s__law_pick f__law_pick fd__law_pick
  f__law_word : Addr
  fd__law_word : FuncData
  F__law_word : Fun K "_law_word" "_law_word" s__law_word f__law_word fd__law_word
  f__law_named : Addr
  fd__law_named : FuncData
  F__law_named : Fun K "_law_named" "_law_named" s__law_named f__law_named fd__law_named
  f__law_bent : Addr
  fd__law_bent : FuncData
  F__law_bent : Fun K "_law_bent" "_law_bent" s__law_bent f__law_bent fd__law_bent
  f__law_names_asked : Addr
  fd__law_names_asked : FuncData
  F__law_names_asked : Fun K "_law_names_asked" "_law_names_asked" s__law_names_asked f__law_names_asked fd__law_names_asked
  f__law_line : Addr
  fd__law_line : FuncData
  F__law_line : Fun K "_law_line" "_law_line" s__law_line f__law_line fd__law_line
  f__law_drawn : Addr
  fd__law_drawn : FuncData
  F__law_drawn : Fun K "_law_drawn" "_law_drawn" s__law_drawn f__law_drawn fd__law_drawn
  f__law_text_asked : Addr
  fd__law_text_asked : FuncData
  F__law_text_asked : Fun K "_law_text_asked" "_law_text_asked" s__law_text_asked f__law_text_asked fd__law_text_asked
  f__law_by_hand : Addr
  fd__law_by_hand : FuncData
  F__law_by_hand : Fun K "_law_by_hand" "_law_by_hand" s__law_by_hand f__law_by_hand fd__law_by_hand
  f_law : Addr
  fd_law : FuncData
  F_law : Fun K "law" "law" s_law f_law fd_law
  g__law_bent : mg "_law_bent" = some (.ref f__law_bent)
  g__law_by_hand : mg "_law_by_hand" = some (.ref f__law_by_hand)
  g__law_drawn : mg "_law_drawn" = some (.ref f__law_drawn)
  g__law_is_name : mg "_law_is_name" = some (.ref f__law_is_name)
  g__law_kept : mg "_law_kept" = some (.ref f__law_kept)
  g__law_line : mg "_law_line" = some (.ref f__law_line)
  g__law_named : mg "_law_named" = some (.ref f__law_named)
  g__law_names_asked : mg "_law_names_asked" = some (.ref f__law_names_asked)
  g__law_pick : mg "_law_pick" = some (.ref f__law_pick)
  g__law_pool : mg "_law_pool" = some (.ref f__law_pool)
  g__law_same : mg "_law_same" = some (.ref f__law_same)
  g__law_take : mg "_law_take" = some (.ref f__law_take)
  g__law_text_asked : mg "_law_text_asked" = some (.ref f__law_text_asked)
  g__law_word : mg "_law_word" = some (.ref f__law_word)
  g_is_name : mg "is_name" = some (.ref f_is_name)
  g_is_passed_over : mg "is_passed_over" = some (.ref f_is_passed_over)
  g_line_words : mg "line_words" = some (.ref f_line_words)
  g_lines_of : mg "lines_of" = some (.ref f_lines_of)
  g_read_lines : mg "read_lines" = some (.ref f_read_lines)
  g_source_lines : mg "source_lines" = some (.ref f_source_lines)
  g_words_of : mg "words_of" = some (.ref f_words_of)
  v_HEADS : V
  u_HEADS : Value
  m_HEADS : mg "HEADS" = some u_HEADS
  r_HEADS : RelV v_HEADS u_HEADS
  d_HEADS : ∀ F, Rp K F v_HEADS c_HEADS
  v_LETTERS : V
  u_LETTERS : Value
  m_LETTERS : mg "LETTERS" = some u_LETTERS
  r_LETTERS : RelV v_LETTERS u_LETTERS
  d_LETTERS : ∀ F, Rp K F v_LETTERS c_LETTERS
  v_NEWLINE : V
  u_NEWLINE : Value
  m_NEWLINE : mg "NEWLINE" = some u_NEWLINE
  r_NEWLINE : RelV v_NEWLINE u_NEWLINE
  d_NEWLINE : ∀ F, Rp K F v_NEWLINE c_NEWLINE
  v_SIGNS : V
  u_SIGNS : Value
  m_SIGNS : mg "SIGNS" = some u_SIGNS
  r_SIGNS : RelV v_SIGNS u_SIGNS
  d_SIGNS : ∀ F, Rp K F v_SIGNS c_SIGNS
  v_WORDS : V
  u_WORDS : Value
  m_WORDS : mg "WORDS" = some u_WORDS
  r_WORDS : RelV v_WORDS u_WORDS
  d_WORDS : ∀ F, Rp K F v_WORDS c_WORDS
  n_abs : mg "abs" = none
  n_bool : mg "bool" = none
  n_enumerate : mg "enumerate" = none
  n_int : mg "int" = none
  n_isinstance : mg "isinstance" = none
  n_len : mg "len" = none
  n_list : mg "list" = none
  n_min : mg "min" = none
  n_range : mg "range" = none
  n_str : mg "str" = none
  n_tuple : mg "tuple" = none
section
variable {P : Program} {w : World} {K : PySem.W.Frag} {mg : Str → Option Value} {base : Heap}
theorem b_lines_of (T : Txt K mg) : Binds K T.fd_lines_of ["text"] [] := T.F_lines_of.binds fun _ _ _ _ _ _ us hl => match us, hl with | [_], _ => rfl
theorem b_line_words (T : Txt K mg) : Binds K T.fd_line_words ["line"] [] := T.F_line_words.binds fun _ _ _ _ _ _ us hl => match us, hl with | [_], _ => rfl
theorem b_is_passed_over (T : Txt K mg) : Binds K T.fd_is_passed_over ["words"] [] := T.F_is_passed_over.binds fun _ _ _ _ _ _ us hl => match us, hl with | [_], _ => rfl
theorem b_read_lines (T : Txt K mg) : Binds K T.fd_read_lines ["text"] [] := T.F_read_lines.binds fun _ _ _ _ _ _ us hl => match us, hl with | [_], _ => rfl
theorem b_is_name (T : Txt K mg) : Binds K T.fd_is_name ["thing"] [] := T.F_is_name.binds fun _ _ _ _ _ _ us hl => match us, hl with | [_], _ => rfl
theorem b_words_of (T : Txt K mg) : Binds K T.fd_words_of ["line"] [] := T.F_words_of.binds fun _ _ _ _ _ _ us hl => match us, hl with | [_], _ => rfl
theorem b_source_lines (T : Txt K mg) : Binds K T.fd_source_lines ["text"] [] := T.F_source_lines.binds fun _ _ _ _ _ _ us hl => match us, hl with | [_], _ => rfl
theorem b__law_pool (T : Txt K mg) : Binds K T.fd__law_pool ["script"] [] := T.F__law_pool.binds fun _ _ _ _ _ _ us hl => match us, hl with | [_], _ => rfl
theorem b__law_take (T : Txt K mg) : Binds K T.fd__law_take ["pool", "many", "place"] [] := by
  obtain ⟨ds, v, b⟩ := T.F__law_take.binds1 (ps := ["pool", "many", "place"]) 3 1 (by simp) rfl (fun _ _ _ _ _ _ _ us its h1 h2 => match us, its, h1, h2 with | [_, _, _], [_], _, _ => ⟨_, rfl, rfl⟩)
  cases v
  exact b
theorem be__law_take_1 (T : Txt K mg) : ∃ ds, Vals [.int 0] ds ∧ Binds K T.fd__law_take ["pool", "many", "place"] ds := T.F__law_take.binds1 (ps := ["pool", "many", "place"]) 2 0 (by simp) rfl (fun _ _ _ _ _ _ _ us its h1 h2 => match us, its, h1, h2 with | [_, _], [_], _, _ => ⟨_, rfl, rfl⟩)
noncomputable def dsv__law_take_1 (T : Txt K mg) : List Value := (be__law_take_1 T).choose
theorem bb__law_take_1 (T : Txt K mg) : Binds K T.fd__law_take ["pool", "many", "place"] (dsv__law_take_1 T) := (be__law_take_1 T).choose_spec.2
theorem dv__law_take_1 (T : Txt K mg) : Vals [.int 0] (dsv__law_take_1 T) := (be__law_take_1 T).choose_spec.1
theorem b__law_same (T : Txt K mg) : Binds K T.fd__law_same ["told", "due"] [] := T.F__law_same.binds fun _ _ _ _ _ _ us hl => match us, hl with | [_, _], _ => rfl
theorem b__law_kept (T : Txt K mg) : Binds K T.fd__law_kept [] [] := T.F__law_kept.binds fun _ _ _ _ _ _ us hl => match us, hl with | [], _ => rfl
theorem b__law_is_name (T : Txt K mg) : Binds K T.fd__law_is_name ["thing"] [] := T.F__law_is_name.binds fun _ _ _ _ _ _ us hl => match us, hl with | [_], _ => rfl
theorem b__law_pick (T : Txt K mg) : Binds K T.fd__law_pick ["pool", "things"] [] := T.F__law_pick.binds fun _ _ _ _ _ _ us hl => match us, hl with | [_, _], _ => rfl
theorem b__law_word (T : Txt K mg) : Binds K T.fd__law_word ["pool", "most"] [] := T.F__law_word.binds fun _ _ _ _ _ _ us hl => match us, hl with | [_, _], _ => rfl
theorem b__law_named (T : Txt K mg) : Binds K T.fd__law_named ["pool", "most"] [] := T.F__law_named.binds fun _ _ _ _ _ _ us hl => match us, hl with | [_, _], _ => rfl
theorem b__law_bent (T : Txt K mg) : Binds K T.fd__law_bent ["pool", "name"] [] := T.F__law_bent.binds fun _ _ _ _ _ _ us hl => match us, hl with | [_, _], _ => rfl
theorem b__law_names_asked (T : Txt K mg) : Binds K T.fd__law_names_asked ["pool"] [] := T.F__law_names_asked.binds fun _ _ _ _ _ _ us hl => match us, hl with | [_], _ => rfl
theorem b__law_line (T : Txt K mg) : Binds K T.fd__law_line ["pool", "words"] [] := T.F__law_line.binds fun _ _ _ _ _ _ us hl => match us, hl with | [_, _], _ => rfl
theorem b__law_drawn (T : Txt K mg) : Binds K T.fd__law_drawn ["pool", "most"] [] := T.F__law_drawn.binds fun _ _ _ _ _ _ us hl => match us, hl with | [_, _], _ => rfl
theorem b__law_text_asked (T : Txt K mg) : Binds K T.fd__law_text_asked ["pool", "many"] [] := T.F__law_text_asked.binds fun _ _ _ _ _ _ us hl => match us, hl with | [_, _], _ => rfl
theorem b__law_by_hand (T : Txt K mg) : Binds K T.fd__law_by_hand [] [] := T.F__law_by_hand.binds fun _ _ _ _ _ _ us hl => match us, hl with | [], _ => rfl
theorem b_law (T : Txt K mg) : Binds K T.fd_law ["script"] [] := T.F_law.binds fun _ _ _ _ _ _ us hl => match us, hl with | [_], _ => rfl
theorem kb_is_name_0_thing (T : Txt K mg) : KBinds K T.fd_is_name ["thing"] ["thing"] (perm 0 1 [0]) (perm 0 1 [0]) := kbinds_of T.F_is_name (by decide) fun _ _ _ _ _ _ us ws hl hw => match us, ws, hl, hw with | [], [_], _, _ => rfl
theorem kb_words_of_0_line (T : Txt K mg) : KBinds K T.fd_words_of ["line"] ["line"] (perm 0 1 [0]) (perm 0 1 [0]) := kbinds_of T.F_words_of (by decide) fun _ _ _ _ _ _ us ws hl hw => match us, ws, hl, hw with | [], [_], _, _ => rfl
theorem kb_source_lines_0_text (T : Txt K mg) : KBinds K T.fd_source_lines ["text"] ["text"] (perm 0 1 [0]) (perm 0 1 [0]) := kbinds_of T.F_source_lines (by decide) fun _ _ _ _ _ _ us ws hl hw => match us, ws, hl, hw with | [], [_], _, _ => rfl
theorem ok_lines_of (T : Txt K mg) : FnOk P w K mg base CX0 1 T.f_lines_of T.fd_lines_of ["text"] (toSp0 K wp_lines_of) :=
  vfn0 (τ := τ_lines_of) T.F_lines_of sc_lines_of len_lines_of (fun cdv A outer s H E hr => ((vss_cons (vs_set (i := 1) sc_lines_of.nd rfl (.inl rfl) (by decide) (vo_split (vx_var 0 (pv 0)) (vx_c (pe_glob (by rfl) T.m_NEWLINE T.r_NEWLINE) (fun F => T.d_NEWLINE F))))
    (vss_cons (vs_if (vt_cmp (o2_eq (r64 hr)) (vx_o (vo_ixS 1 (hu_of hr) (pv 1) (vx_o (vo_op o2_sub (vx_o (vo_lenS 1 (by rfl) T.n_len (pv 1))) (vx_c pe_int (fun _ => .int _)))))) (vx_c pe_str (fun _ => .str _)) (nomark _))
    (vss_one (vs_expr (vo_pop 1 (pv 1))))
    vss_nil)
    (vss_one (vs_ret (vo_mv 1 (pv 1)))))) : PSs (cxOf CX0 P w K mg base _ _ _ T.f_lines_of cdv A outer s H E).nox _ (lS K false τ_lines_of))) rd_lines_of
theorem ok_line_words (T : Txt K mg) : FnOk P w K mg base CX0 1 T.f_line_words T.fd_line_words ["line"] (toSp0 K wp_line_words) :=
  vfn0 (τ := τ_line_words) T.F_line_words sc_line_words len_line_words (fun cdv A outer s H E hr => ((vss_one (vs_ret (vo_lc (own := [("word", 1)]) rfl sc_line_words.nd (vi_seq (vx_o (vo_split (vx_var 0 (pv 0)) (vx_c pe_str (fun _ => .str _))))) (blkOk_by (by kernel_rfl)) (fun _ _ _ _ _ => (vg_name sc_line_words.nd rfl (.inl rfl) (by decide))) (by decide) (fun _ _ _ _ _ => (vts_one (vt_cmp (o2_ne (r64 hr)) (vx_var 1 (pv 1)) (vx_c pe_str (fun _ => .str _)) (nomark _)))) (fun _ _ _ _ _ => (vx_val 1 (pv 1)))))) : PSs (cxOf CX0 P w K mg base _ _ _ T.f_line_words cdv A outer s H E).nox _ (lS K false τ_line_words))) rd_line_words
theorem ok_is_passed_over (T : Txt K mg) : FnOk P w K mg base CX0 1 T.f_is_passed_over T.fd_is_passed_over ["words"] (toSp0 K wp_is_passed_over) :=
  vfn0 (τ := τ_is_passed_over) T.F_is_passed_over sc_is_passed_over len_is_passed_over (fun cdv A outer s H E hr => ((vss_one (vs_ret (vo_or (vo_cmp (o2_eq (r64 hr)) (vx_o (vo_lenS 0 (by rfl) T.n_len (pv 0))) (vx_c pe_int (fun _ => .int _)) (nomark _)) (vo_one (vo_starts (vx_o (vo_ixS 0 (hu_of hr) (pv 0) (vx_c pe_int (fun _ => .int _)))) (vx_c pe_str (fun _ => .str _))))))) : PSs (cxOf CX0 P w K mg base _ _ _ T.f_is_passed_over cdv A outer s H E).nox _ (lS K false τ_is_passed_over))) rd_is_passed_over
theorem ok_read_lines (T : Txt K mg) : FnOk P w K mg base CX0 2 T.f_read_lines T.fd_read_lines ["text"] (toSp0 K wp_read_lines) :=
  vfn0 (τ := τ_read_lines) T.F_read_lines sc_read_lines len_read_lines (fun cdv A outer s H E hr => ((vss_cons (vs_set (i := 1) sc_read_lines.nd rfl (.inl rfl) (by decide) (vo_lst va_nil))
    (vss_cons (vs_forE PassesOwn.never rfl (by rfl) T.n_enumerate (va_cons (vx_o (vo_call (ok_lines_of T) (hr.mono (by decide)) (by rfl) T.g_lines_of T.F_lines_of.kp (b_lines_of T) .nil (fun _ => .nil) (va_cons (vx_val 0 (pv 0)) va_nil))) va_nil) (vgs_cons (vg_name sc_read_lines.nd rfl (.inl rfl) (by decide)) (vgs_cons (vg_name sc_read_lines.nd rfl (.inl rfl) (by decide)) vgs_nil))
    (vss_cons (vs_set (i := 4) sc_read_lines.nd rfl (.inl rfl) (by decide) (vo_call (ok_line_words T) (hr.mono (by decide)) (by rfl) T.g_line_words T.F_line_words.kp (b_line_words T) .nil (fun _ => .nil) (va_cons (vx_val 3 (pv 3)) va_nil)))
    (vss_one (vs_if (vt_not (vt_tru (vx_o (vo_call (ok_is_passed_over T) (hr.mono (by decide)) (by rfl) T.g_is_passed_over T.F_is_passed_over.kp (b_is_passed_over T) .nil (fun _ => .nil) (va_cons (vx_val 4 (pv 4)) va_nil)))))
    (vss_one (vs_expr (vo_app false 1 (pv 1) (vo_tup (va_cons (vx_o (vo_op o2_add (vx_var 2 (pv 2)) (vx_c pe_int (fun _ => .int _)))) (va_cons (vx_val 4 (pv 4)) va_nil))))))
    vss_nil))))
    (vss_one (vs_ret (vo_mv 1 (pv 1)))))) : PSs (cxOf CX0 P w K mg base _ _ _ T.f_read_lines cdv A outer s H E).nox _ (lS K false τ_read_lines))) rd_read_lines
theorem ok_is_name (T : Txt K mg) : FnOk P w K mg base CX0 1 T.f_is_name T.fd_is_name ["thing"] (toSp0 K wp_is_name) :=
  vfn0 (τ := τ_is_name) T.F_is_name sc_is_name len_is_name (fun cdv A outer s H E hr => ((vss_cons (vs_if (PW.pt (vw_or (vt_not (vt_tru (vx_o (vo_isi (by rfl) T.n_isinstance (by rfl) T.n_str (by decide +kernel) (vx_var 0 (pv 0)))))) (vw_or1 (vt_not (vt_chain o2_le o2_le (vx_c pe_int (fun _ => .int _)) (vx_o (vo_lenS 0 (by rfl) T.n_len (pv 0))) (vx_c pe_int (fun _ => .int _)))))))
    (vss_one (vs_ret (vo_x (vx_c pe_bl (fun _ => .bl _)))))
    vss_nil)
    (vss_cons (vs_if (PW.pt (vw_or (vt_cmp (o2_notIn (r65 hr)) (vx_o (vo_ixS 0 (hu_of hr) (pv 0) (vx_c pe_int (fun _ => .int _)))) (vx_c (pe_glob (by rfl) T.m_LETTERS T.r_LETTERS) (fun F => T.d_LETTERS F)) (by rfl)) (vw_or1 (vt_cmp o2_gt (vx_o (vo_cb cd_len (by rfl) T.n_len (by decide +kernel) (va_cons (vx_o (vo_lc (own := [("sign", 1)]) rfl sc_is_name.nd (vi_seq (vx_val 0 (pv 0))) (blkOk_by (by kernel_rfl)) (fun _ _ _ _ _ => (vg_name sc_is_name.nd rfl (.inl rfl) (by decide))) (by decide) (fun _ _ _ _ _ => (vts_one (vt_cmp (o2_notIn (r65 hr)) (vx_var 1 (pv 1)) (vx_c (pe_glob (by rfl) T.m_SIGNS T.r_SIGNS) (fun F => T.d_SIGNS F)) (by rfl)))) (fun _ _ _ _ _ => (vx_val 1 (pv 1))))) va_nil))) (vx_c pe_int (fun _ => .int _)) (nomark _)))))
    (vss_one (vs_ret (vo_x (vx_c pe_bl (fun _ => .bl _)))))
    vss_nil)
    (vss_one (vs_ret (vo_and (vo_cmp (o2_notIn (r65 hr)) (vx_var 0 (pv 0)) (vx_c (pe_glob (by rfl) T.m_HEADS T.r_HEADS) (fun F => T.d_HEADS F)) (by rfl)) (vo_one (vo_cmp (o2_notIn (r65 hr)) (vx_var 0 (pv 0)) (vx_c (pe_glob (by rfl) T.m_WORDS T.r_WORDS) (fun F => T.d_WORDS F)) (by rfl)))))))) : PSs (cxOf CX0 P w K mg base _ _ _ T.f_is_name cdv A outer s H E).nox _ (lS K false τ_is_name))) rd_is_name
theorem ok_words_of (T : Txt K mg) : FnOk P w K mg base CX0 2 T.f_words_of T.fd_words_of ["line"] (toSp0 K wp_words_of) :=
  vfn0 (τ := τ_words_of) T.F_words_of sc_words_of len_words_of (fun cdv A outer s H E hr => ((vss_one (vs_ret (vo_call (ok_line_words T) (hr.mono (by decide)) (by rfl) T.g_line_words T.F_line_words.kp (b_line_words T) .nil (fun _ => .nil) (va_cons (vx_val 0 (pv 0)) va_nil)))) : PSs (cxOf CX0 P w K mg base _ _ _ T.f_words_of cdv A outer s H E).nox _ (lS K false τ_words_of))) rd_words_of
theorem ok_source_lines (T : Txt K mg) : FnOk P w K mg base CX0 3 T.f_source_lines T.fd_source_lines ["text"] (toSp0 K wp_source_lines) :=
  vfn0 (τ := τ_source_lines) T.F_source_lines sc_source_lines len_source_lines (fun cdv A outer s H E hr => ((vss_one (vs_ret (vo_call (ok_read_lines T) (hr.mono (by decide)) (by rfl) T.g_read_lines T.F_read_lines.kp (b_read_lines T) .nil (fun _ => .nil) (va_cons (vx_val 0 (pv 0)) va_nil)))) : PSs (cxOf CX0 P w K mg base _ _ _ T.f_source_lines cdv A outer s H E).nox _ (lS K false τ_source_lines))) rd_source_lines
theorem ok__law_pool (T : Txt K mg) : FnOk P w K mg base CX0 1 T.f__law_pool T.fd__law_pool ["script"] (toSp0 K wp__law_pool) :=
  vfn0 (τ := τ__law_pool) T.F__law_pool sc__law_pool len__law_pool (fun cdv A outer s H E hr => ((vss_cons (vs_set (i := 1) sc__law_pool.nd rfl (.inl rfl) (by decide) (vo_lst va_nil))
    (vss_cons (vs_set (i := 2) sc__law_pool.nd rfl (.inl rfl) (by decide) (vo_x (vx_c pe_int (fun _ => .int _))))
    (vss_cons (vs_for PassesOwn.never rfl (vi_seq (vx_o (vo_sl (vx_var 0 (pv 0)) vp_none (vp_some (vx_c pe_int (fun _ => .int _)))))) (vg_name sc__law_pool.nd rfl (.inl rfl) (by decide))
    (vss_cons (vs_set (i := 4) sc__law_pool.nd rfl (.inl rfl) (by decide) (vo_op o2_add (vx_o (vo_op o2_mul (vx_c pe_int (fun _ => .int _)) (vx_o (vo_cb cd_abs (by rfl) T.n_abs (by decide +kernel) (va_cons (vx_o (vo_cty cd_int (by rfl) T.n_int (by decide +kernel) (va_cons (vx_var 3 (pv 3)) va_nil))) va_nil))))) (vx_o (vo_cty cd_int (by rfl) T.n_int (by decide +kernel) (va_cons (vx_o (vo_cmp o2_lt (vx_var 3 (pv 3)) (vx_c pe_int (fun _ => .int _)) (nomark _))) va_nil)))))
    (vss_cons (vs_if (vt_cmp o2_ge (vx_var 4 (pv 4)) (vx_o (vo_op o2_pow (vx_c pe_int (fun _ => .int _)) (vx_c pe_int (fun _ => .int _)))) (nomark _))
    (vss_one (vs_expr (vo_app false 1 (pv 1) (vo_op o2_mod (vx_o (vo_cty cd_int (by rfl) T.n_int (by decide +kernel) (va_cons (vx_var 4 (pv 4)) va_nil))) (vx_o (vo_op o2_shl (vx_c pe_int (fun _ => .int _)) (vx_c pe_int (fun _ => .int _))))))))
    vss_nil)
    (vss_one (vs_set (i := 2) sc__law_pool.nd rfl (.inl rfl) (by decide) (vo_op o2_mod (vx_o (vo_cty cd_int (by rfl) T.n_int (by decide +kernel) (va_cons (vx_o (vo_op o2_add (vx_o (vo_op o2_add (vx_o (vo_op o2_mul (vx_var 2 (pv 2)) (vx_c pe_int (fun _ => .int _)))) (vx_o (vo_op o2_mod (vx_var 4 (pv 4)) (vx_c pe_int (fun _ => .int _)))))) (vx_c pe_int (fun _ => .int _)))) va_nil))) (vx_c pe_int (fun _ => .int _))))))))
    (vss_one (vs_ret (vo_trL (vao_cons (vo_mv 1 (pv 1)) (vao_cons (vo_x (vx_val 2 (pv 2))) (vao_cons (vo_x (vx_c pe_int (fun _ => .int _))) (vao_cons vo_dnew vao_nil)))))))))) : PSs (cxOf CX0 P w K mg base _ _ _ T.f__law_pool cdv A outer s H E).nox _ (lS K false τ__law_pool))) rd__law_pool
theorem ok__law_take (T : Txt K mg) : FnOk P w K mg base CX0 1 T.f__law_take T.fd__law_take ["pool", "many", "place"] (toSp1 K wp__law_take) :=
  vfn1D (τ := τ__law_take) T.F__law_take sc__law_take len__law_take (fun cdv A outer s H E hr => ((vss_cons (vs_while PassesOwn.never (PW.pt (vw_and (vt_cmp o2_gt (vx_o (vo_cbE cd_len (by rfl) T.n_len (by decide +kernel) (ve_el 0 (pv 0) (vx_c pe_int (fun _ => .int _))))) (vx_c pe_int (fun _ => .int _)) (nomark _)) (vw_and1 (vt_cmp (o2_eq (r64 hr)) (vx_o (vo_ixE ix2_any (ve_el 0 (pv 0) (vx_c pe_int (fun _ => .int _))) (vx_c pe_int (fun _ => .int _)))) (vx_c pe_int (fun _ => .int _)) (nomark _)))))
    (vss_one (vs_expr (vo_smE PySem.F.slot_list_pop PySem.F.type_list_pop sm_popAt (ve_el 0 (pv 0) (vx_c pe_int (fun _ => .int _))) (va_cons (vx_c pe_int (fun _ => .int _)) va_nil)))))
    (vss_cons (vs_if (vt_cmp o2_gt (vx_o (vo_cbE cd_len (by rfl) T.n_len (by decide +kernel) (ve_el 0 (pv 0) (vx_c pe_int (fun _ => .int _))))) (vx_c pe_int (fun _ => .int _)) (nomark _))
    (vss_cons (vs_set (i := 3) sc__law_take.nd rfl (.inl rfl) (by decide) (vo_cty cd_int (by rfl) T.n_int (by decide +kernel) (va_cons (vx_o (vo_ixE ix2_any (ve_el 0 (pv 0) (vx_c pe_int (fun _ => .int _))) (vx_c pe_int (fun _ => .int _)))) va_nil)))
    (vss_cons (vs_putE (ve_el 0 (pv 0) (vx_c pe_int (fun _ => .int _))) (vx_c pe_int (fun _ => .int _)) (vx_o (vo_op o2_div (vx_var 3 (pv 3)) (vx_var 1 (pv 1)))))
    (vss_one (vs_ret (vo_op o2_mod (vx_var 3 (pv 3)) (vx_var 1 (pv 1)))))))
    vss_nil)
    (vss_cons (vs_alt 0 (vs_dput 0 (hu_of hr) (pv 0) (vx_c pe_int (fun _ => .int _)) (vx_o (vo_op o2_add (vx_o (vo_ixS 0 (hu_of hr) (pv 0) (vx_c pe_int (fun _ => .int _)))) (vx_c pe_int (fun _ => .int _))))) (vs_put 0 (pv 0) (vx_c pe_int (fun _ => .int _)) (vo_op o2_add (vx_o (vo_ixS 0 (hu_of hr) (pv 0) (vx_c pe_int (fun _ => .int _)))) (vx_c pe_int (fun _ => .int _)))))
    (vss_cons (vs_alt 0 (vs_dput 0 (hu_of hr) (pv 0) (vx_c pe_int (fun _ => .int _)) (vx_o (vo_op o2_mod (vx_o (vo_cty cd_int (by rfl) T.n_int (by decide +kernel) (va_cons (vx_o (vo_op o2_add (vx_o (vo_op o2_add (vx_o (vo_op o2_mul (vx_o (vo_ixS 0 (hu_of hr) (pv 0) (vx_c pe_int (fun _ => .int _)))) (vx_c pe_int (fun _ => .int _)))) (vx_o (vo_op o2_mul (vx_c pe_int (fun _ => .int _)) (vx_o (vo_ixS 0 (hu_of hr) (pv 0) (vx_c pe_int (fun _ => .int _)))))))) (vx_c pe_int (fun _ => .int _)))) va_nil))) (vx_c pe_int (fun _ => .int _))))) (vs_put 0 (pv 0) (vx_c pe_int (fun _ => .int _)) (vo_op o2_mod (vx_o (vo_cty cd_int (by rfl) T.n_int (by decide +kernel) (va_cons (vx_o (vo_op o2_add (vx_o (vo_op o2_add (vx_o (vo_op o2_mul (vx_o (vo_ixS 0 (hu_of hr) (pv 0) (vx_c pe_int (fun _ => .int _)))) (vx_c pe_int (fun _ => .int _)))) (vx_o (vo_op o2_mul (vx_c pe_int (fun _ => .int _)) (vx_o (vo_ixS 0 (hu_of hr) (pv 0) (vx_c pe_int (fun _ => .int _)))))))) (vx_c pe_int (fun _ => .int _)))) va_nil))) (vx_c pe_int (fun _ => .int _)))))
    (vss_cons (vs_set (i := 4) sc__law_take.nd rfl (.inl rfl) (by decide) (vo_cty cd_int (by rfl) T.n_int (by decide +kernel) (va_cons (vx_o (vo_op o2_div (vx_o (vo_ixS 0 (hu_of hr) (pv 0) (vx_c pe_int (fun _ => .int _)))) (vx_c pe_int (fun _ => .int _)))) va_nil)))
    (vss_cons (vs_if (vt_cmp (o2_eq (r64 hr)) (vx_var 2 (pv 2)) (vx_c pe_int (fun _ => .int _)) (nomark _))
    (vss_one (vs_ret (vo_op o2_mod (vx_var 4 (pv 4)) (vx_var 1 (pv 1)))))
    vss_nil)
    (vss_cons (vs_if (vt_dnotinE 2 (hu_of hr) (pv 2) (ve_el 0 (pv 0) (vx_c pe_int (fun _ => .int _))))
    (vss_one (vs_dputE 2 (hu_of hr) (ve_el 0 (pv 0) (vx_c pe_int (fun _ => .int _))) (pv 2) (vx_o (vo_op o2_mod (vx_o (vo_cty cd_int (by rfl) T.n_int (by decide +kernel) (va_cons (vx_o (vo_op o2_div (vx_var 4 (pv 4)) (vx_c pe_int (fun _ => .int _)))) va_nil))) (vx_c pe_int (fun _ => .int _))))))
    vss_nil)
    (vss_cons (vs_if (vt_cmp o2_gt (vx_o (vo_dgetE 2 (hu_of hr) (ve_el 0 (pv 0) (vx_c pe_int (fun _ => .int _))) (pv 2))) (vx_c pe_int (fun _ => .int _)) (nomark _))
    (vss_one (vs_ret (vo_op o2_mod (vx_var 4 (pv 4)) (vx_var 1 (pv 1)))))
    vss_nil)
    (vss_one (vs_ret (vo_if (vt_cmp (o2_eq (r64 hr)) (vx_o (vo_dgetE 2 (hu_of hr) (ve_el 0 (pv 0) (vx_c pe_int (fun _ => .int _))) (pv 2))) (vx_c pe_int (fun _ => .int _)) (nomark _)) (vo_x (vx_c pe_int (fun _ => .int _))) (vo_op o2_sub (vx_var 1 (pv 1)) (vx_c pe_int (fun _ => .int _)))))))))))))) : PSs (cxOf CX0 P w K mg base _ _ _ T.f__law_take cdv A outer s H E).nox _ (lS K true τ__law_take))) rd__law_take
theorem ok__law_same (T : Txt K mg) : FnOk P w K mg base CX0 1 T.f__law_same T.fd__law_same ["told", "due"] (toSp0 K wp__law_same) :=
  vfn0 (τ := τ__law_same) T.F__law_same sc__law_same len__law_same (fun cdv A outer s H E hr => ((vss_cons (vs_set (i := 2) sc__law_same.nd rfl (.inl rfl) (by decide) (vo_lst (va_cons (vx_o (vo_tup (va_cons (vx_val 0 (pv 0)) (va_cons (vx_val 1 (pv 1)) va_nil)))) va_nil)))
    (vss_cons (vs_while PassesOwn.never (vt_cmp o2_gt (vx_o (vo_lenS 2 (by rfl) T.n_len (pv 2))) (vx_c pe_int (fun _ => .int _)) (nomark _))
    (vss_cons (vs_asg (vx_o (vo_pop 2 (pv 2))) (vg_tup rfl (vgs_cons (vg_name sc__law_same.nd rfl (.inr rfl) (by decide)) (vgs_cons (vg_name sc__law_same.nd rfl (.inr rfl) (by decide)) vgs_nil))))
    (vss_one (vs_if (vt_tru (vx_o (vo_isi2 (by rfl) T.n_isinstance (by rfl) T.n_tuple (by decide +kernel) (by rfl) T.n_list (by decide +kernel) (vx_var 4 (pv 4)))))
    (vss_cons (vs_if (PW.pt (vw_or (vt_cmp (o2_ne (r64 hr)) (vx_o (vo_isi (by rfl) T.n_isinstance (by rfl) T.n_tuple (by decide +kernel) (vx_var 3 (pv 3)))) (vx_o (vo_isi (by rfl) T.n_isinstance (by rfl) T.n_tuple (by decide +kernel) (vx_var 4 (pv 4)))) (nomark _)) (vw_or (vt_cmp (o2_ne (r64 hr)) (vx_o (vo_isi (by rfl) T.n_isinstance (by rfl) T.n_list (by decide +kernel) (vx_var 3 (pv 3)))) (vx_o (vo_isi (by rfl) T.n_isinstance (by rfl) T.n_list (by decide +kernel) (vx_var 4 (pv 4)))) (nomark _)) (vw_or1 (vt_cmp (o2_ne (r64 hr)) (vx_o (vo_lenS 3 (by rfl) T.n_len (pv 3))) (vx_o (vo_lenS 4 (by rfl) T.n_len (pv 4))) (nomark _))))))
    (vss_one (vs_ret (vo_x (vx_c pe_bl (fun _ => .bl _)))))
    vss_nil)
    (vss_one (vs_expr (vo_ext 2 (pv 2) (vo_lc (own := [("at", 5)]) rfl sc__law_same.nd (vi_range1 (by rfl) T.n_range (va_cons (vx_o (vo_lenS 4 (by rfl) T.n_len (pv 4))) va_nil)) (blkOk_by (by kernel_rfl)) (fun _ _ _ _ _ => (vg_name sc__law_same.nd rfl (.inl rfl) (by decide))) (by decide) (fun _ _ _ _ _ => vts_nil) (fun _ _ _ _ _ => (vx_o (vo_tup (va_cons (vx_o (vo_ixS 3 (hu_of hr) (pv 3) (vx_var 5 (pv 5)))) (va_cons (vx_o (vo_ixS 4 (hu_of hr) (pv 4) (vx_var 5 (pv 5)))) va_nil))))))))))
    (vss_one (vs_if (vt_cmp o2_isN (vx_var 4 (pv 4)) (vx_c pe_non (fun _ => .non)) (nomark _))
    (vss_one (vs_if (vt_cmp o2_notN (vx_var 3 (pv 3)) (vx_c pe_non (fun _ => .non)) (nomark _))
    (vss_one (vs_ret (vo_x (vx_c pe_bl (fun _ => .bl _)))))
    vss_nil))
    (vss_one (vs_if (vt_tru (vx_o (vo_isi (by rfl) T.n_isinstance (by rfl) T.n_bool (by decide +kernel) (vx_var 4 (pv 4)))))
    (vss_one (vs_if (PW.pt (vw_or (vt_not (vt_tru (vx_o (vo_isi (by rfl) T.n_isinstance (by rfl) T.n_bool (by decide +kernel) (vx_var 3 (pv 3)))))) (vw_or1 (vt_cmp (o2_ne (r64 hr)) (vx_var 3 (pv 3)) (vx_var 4 (pv 4)) (nomark _)))))
    (vss_one (vs_ret (vo_x (vx_c pe_bl (fun _ => .bl _)))))
    vss_nil))
    (vss_one (vs_if (vt_tru (vx_o (vo_isi (by rfl) T.n_isinstance (by rfl) T.n_str (by decide +kernel) (vx_var 4 (pv 4)))))
    (vss_one (vs_if (PW.pt (vw_or (vt_not (vt_tru (vx_o (vo_isi (by rfl) T.n_isinstance (by rfl) T.n_str (by decide +kernel) (vx_var 3 (pv 3)))))) (vw_or1 (vt_cmp (o2_ne (r64 hr)) (vx_var 3 (pv 3)) (vx_var 4 (pv 4)) (nomark _)))))
    (vss_one (vs_ret (vo_x (vx_c pe_bl (fun _ => .bl _)))))
    vss_nil))
    (vss_one (vs_if (PW.pt (vw_or (vt_not (vt_tru (vx_o (vo_isi (by rfl) T.n_isinstance (by rfl) T.n_int (by decide +kernel) (vx_var 3 (pv 3)))))) (vw_or (vt_tru (vx_o (vo_isi (by rfl) T.n_isinstance (by rfl) T.n_bool (by decide +kernel) (vx_var 3 (pv 3))))) (vw_or1 (vt_cmp (o2_ne (r64 hr)) (vx_var 3 (pv 3)) (vx_var 4 (pv 4)) (nomark _))))))
    (vss_one (vs_ret (vo_x (vx_c pe_bl (fun _ => .bl _)))))
    vss_nil))))))))))))
    (vss_one (vs_ret (vo_x (vx_c pe_bl (fun _ => .bl _))))))) : PSs (cxOf CX0 P w K mg base _ _ _ T.f__law_same cdv A outer s H E).nox _ (lS K false τ__law_same))) rd__law_same
theorem ok__law_kept (T : Txt K mg) : FnOk P w K mg base CX0 1 T.f__law_kept T.fd__law_kept [] (toSp0 K wp__law_kept) :=
  vfn0 (τ := τ__law_kept) T.F__law_kept sc__law_kept len__law_kept (fun cdv A outer s H E hr => ((vss_one (vs_ret (vo_tup (va_cons (vx_c pe_str (fun _ => .str _)) (va_cons (vx_c pe_str (fun _ => .str _)) (va_cons (vx_c pe_str (fun _ => .str _)) (va_cons (vx_c pe_str (fun _ => .str _)) (va_cons (vx_c pe_str (fun _ => .str _)) (va_cons (vx_c pe_str (fun _ => .str _)) (va_cons (vx_c pe_str (fun _ => .str _)) (va_cons (vx_c pe_str (fun _ => .str _)) (va_cons (vx_c pe_str (fun _ => .str _)) (va_cons (vx_c pe_str (fun _ => .str _)) (va_cons (vx_c pe_str (fun _ => .str _)) (va_cons (vx_c pe_str (fun _ => .str _)) (va_cons (vx_c pe_str (fun _ => .str _)) (va_cons (vx_c pe_str (fun _ => .str _)) (va_cons (vx_c pe_str (fun _ => .str _)) (va_cons (vx_c pe_str (fun _ => .str _)) (va_cons (vx_c pe_str (fun _ => .str _)) (va_cons (vx_c pe_str (fun _ => .str _)) va_nil))))))))))))))))))))) : PSs (cxOf CX0 P w K mg base _ _ _ T.f__law_kept cdv A outer s H E).nox _ (lS K false τ__law_kept))) rd__law_kept
theorem ok__law_is_name (T : Txt K mg) : FnOk P w K mg base CX0 2 T.f__law_is_name T.fd__law_is_name ["thing"] (toSp0 K wp__law_is_name) :=
  vfn0 (τ := τ__law_is_name) T.F__law_is_name sc__law_is_name len__law_is_name (fun cdv A outer s H E hr => ((vss_cons (vs_if (PW.pt (vw_or (vt_not (vt_tru (vx_o (vo_isi (by rfl) T.n_isinstance (by rfl) T.n_str (by decide +kernel) (vx_var 0 (pv 0)))))) (vw_or (vt_not (vt_chain o2_le o2_le (vx_c pe_int (fun _ => .int _)) (vx_o (vo_lenS 0 (by rfl) T.n_len (pv 0))) (vx_c pe_int (fun _ => .int _)))) (vw_or1 (vt_cmp (o2_in (r65 hr)) (vx_var 0 (pv 0)) (vx_o (vo_call0 (ok__law_kept T) (hr.mono (by decide)) (by rfl) T.g__law_kept T.F__law_kept.kp (b__law_kept T) .nil (fun _ => .nil))) (by rfl))))))
    (vss_one (vs_ret (vo_x (vx_c pe_bl (fun _ => .bl _)))))
    vss_nil)
    (vss_cons (vs_set (i := 1) sc__law_is_name.nd rfl (.inr rfl) (by decide) (vo_x (vx_c pe_str (fun _ => .str _))))
    (vss_one (vs_ret (vo_and (vo_cmp (o2_eq (r64 hr)) (vx_o (vo_cb cd_len (by rfl) T.n_len (by decide +kernel) (va_cons (vx_o (vo_lc (own := [("sign", 2)]) rfl sc__law_is_name.nd (vi_seq (vx_val 0 (pv 0))) (blkOk_by (by kernel_rfl)) (fun _ _ _ _ _ => (vg_name sc__law_is_name.nd rfl (.inl rfl) (by decide))) (by decide) (fun _ _ _ _ _ => (vts_one (vt_notInS 1 (r65 hr) (vx_var 2 (pv 2)) (pv 1)))) (fun _ _ _ _ _ => (vx_val 2 (pv 2))))) va_nil))) (vx_c pe_int (fun _ => .int _)) (nomark _)) (vo_one (vo_cmp (o2_notIn (r65 hr)) (vx_o (vo_ixS 0 (hu_of hr) (pv 0) (vx_c pe_int (fun _ => .int _)))) (vx_c pe_str (fun _ => .str _)) (by rfl)))))))) : PSs (cxOf CX0 P w K mg base _ _ _ T.f__law_is_name cdv A outer s H E).nox _ (lS K false τ__law_is_name))) rd__law_is_name
theorem ok__law_pick (T : Txt K mg) : FnOk P w K mg base CX0 2 T.f__law_pick T.fd__law_pick ["pool", "things"] (toSp1 K wp__law_pick) :=
  vfn1 (τ := τ__law_pick) T.F__law_pick sc__law_pick len__law_pick (fun cdv A outer s H E hr => ((vss_one (vs_ret (vo_ixS 1 (hu_of hr) (pv 1) (vx_o (vo_callI (ok__law_take T) (hr.mono (by decide)) (by rfl) T.g__law_take T.F__law_take.kp (bb__law_take_1 T) (dv__law_take_1 T) (fun _ => (.cons (.int _) .nil)) (va_cons (vx_var 0 (pv 0)) (va_cons (vx_o (vo_lenS 1 (by rfl) T.n_len (pv 1))) va_nil))))))) : PSs (cxOf CX0 P w K mg base _ _ _ T.f__law_pick cdv A outer s H E).nox _ (lS K true τ__law_pick))) rd__law_pick
theorem ok__law_word (T : Txt K mg) : FnOk P w K mg base CX0 2 T.f__law_word T.fd__law_word ["pool", "most"] (toSp1 K wp__law_word) :=
  vfn1 (τ := τ__law_word) T.F__law_word sc__law_word len__law_word (fun cdv A outer s H E hr => ((vss_cons (vs_set (i := 2) sc__law_word.nd rfl (.inr rfl) (by decide) (vo_ix ix2_any (vx_o (vo_tup (va_cons (vx_c pe_str (fun _ => .str _)) (va_cons (vx_c pe_str (fun _ => .str _)) (va_cons (vx_o (vo_op o2_add (vx_c pe_str (fun _ => .str _)) (vx_c pe_str (fun _ => .str _)))) (va_cons (vx_c pe_str (fun _ => .str _)) (va_cons (vx_c pe_str (fun _ => .str _)) va_nil))))))) (vx_o (vo_callI (ok__law_take T) (hr.mono (by decide)) (by rfl) T.g__law_take T.F__law_take.kp (b__law_take T) .nil (fun _ => .nil) (va_cons (vx_var 0 (pv 0)) (va_cons (vx_c pe_int (fun _ => .int _)) (va_cons (vx_c pe_int (fun _ => .int _)) va_nil)))))))
    (vss_one (vs_ret (vo_join (vx_c pe_str (fun _ => .str _)) (vx_o (vo_lc (own := [("lap", 3)]) rfl sc__law_word.nd (vi_range1 (by rfl) T.n_range (va_cons (vx_o (vo_op o2_add (vx_c pe_int (fun _ => .int _)) (vx_o (vo_callI (ok__law_take T) (hr.mono (by decide)) (by rfl) T.g__law_take T.F__law_take.kp (bb__law_take_1 T) (dv__law_take_1 T) (fun _ => (.cons (.int _) .nil)) (va_cons (vx_var 0 (pv 0)) (va_cons (vx_val 1 (pv 1)) va_nil)))))) va_nil)) (blkOk_by (by kernel_rfl)) (fun _ _ _ _ _ => (vg_name sc__law_word.nd rfl (.inl rfl) (by decide))) (by decide) (fun _ _ _ _ _ => vts_nil) (fun _ _ _ _ _ => (vx_o (vo_ixS 2 (hu_of hr) (pv 2) (vx_o (vo_callI (ok__law_take T) (hr.mono (by decide)) (by rfl) T.g__law_take T.F__law_take.kp (bb__law_take_1 T) (dv__law_take_1 T) (fun _ => (.cons (.int _) .nil)) (va_cons (vx_var 0 (pv 0)) (va_cons (vx_o (vo_lenS 2 (by rfl) T.n_len (pv 2))) va_nil))))))))))))) : PSs (cxOf CX0 P w K mg base _ _ _ T.f__law_word cdv A outer s H E).nox _ (lS K true τ__law_word))) rd__law_word
theorem ok__law_named (T : Txt K mg) : FnOk P w K mg base CX0 2 T.f__law_named T.fd__law_named ["pool", "most"] (toSp1 K wp__law_named) :=
  vfn1 (τ := τ__law_named) T.F__law_named sc__law_named len__law_named (fun cdv A outer s H E hr => ((vss_cons (vs_set (i := 2) sc__law_named.nd rfl (.inl rfl) (by decide) (vo_x (vx_c pe_str (fun _ => .str _))))
    (vss_cons (vs_set (i := 3) sc__law_named.nd rfl (.inl rfl) (by decide) (vo_ixS 2 (hu_of hr) (pv 2) (vx_o (vo_callI (ok__law_take T) (hr.mono (by decide)) (by rfl) T.g__law_take T.F__law_take.kp (b__law_take T) .nil (fun _ => .nil) (va_cons (vx_var 0 (pv 0)) (va_cons (vx_c pe_int (fun _ => .int _)) (va_cons (vx_c pe_int (fun _ => .int _)) va_nil)))))))
    (vss_cons (vs_for PassesOwn.never rfl (vi_range1 (by rfl) T.n_range (va_cons (vx_o (vo_callI (ok__law_take T) (hr.mono (by decide)) (by rfl) T.g__law_take T.F__law_take.kp (b__law_take T) .nil (fun _ => .nil) (va_cons (vx_var 0 (pv 0)) (va_cons (vx_val 1 (pv 1)) (va_cons (vx_c pe_int (fun _ => .int _)) va_nil))))) va_nil)) (vg_name sc__law_named.nd rfl (.inl rfl) (by decide))
    (vss_one (vs_set (i := 3) sc__law_named.nd rfl (.inl rfl) (by decide) (vo_op o2_add (vx_var 3 (pv 3)) (vx_o (vo_ix ix2_any (vx_o (vo_op o2_add (vx_var 2 (pv 2)) (vx_c pe_str (fun _ => .str _)))) (vx_o (vo_callI (ok__law_take T) (hr.mono (by decide)) (by rfl) T.g__law_take T.F__law_take.kp (b__law_take T) .nil (fun _ => .nil) (va_cons (vx_var 0 (pv 0)) (va_cons (vx_c pe_int (fun _ => .int _)) (va_cons (vx_c pe_int (fun _ => .int _)) va_nil)))))))))))
    (vss_one (vs_ret (vo_if (vt_cmp (o2_notIn (r65 hr)) (vx_var 3 (pv 3)) (vx_o (vo_call0 (ok__law_kept T) (hr.mono (by decide)) (by rfl) T.g__law_kept T.F__law_kept.kp (b__law_kept T) .nil (fun _ => .nil))) (by rfl)) (vo_x (vx_val 3 (pv 3))) (vo_op o2_add (vx_o (vo_sl (vx_var 3 (pv 3)) vp_none (vp_some (vx_o (vo_un o1_neg (vx_c pe_int (fun _ => .int _))))))) (vx_c pe_str (fun _ => .str _))))))))) : PSs (cxOf CX0 P w K mg base _ _ _ T.f__law_named cdv A outer s H E).nox _ (lS K true τ__law_named))) rd__law_named
theorem ok__law_bent (T : Txt K mg) : FnOk P w K mg base CX0 3 T.f__law_bent T.fd__law_bent ["pool", "name"] (toSp1 K wp__law_bent) :=
  vfn1 (τ := τ__law_bent) T.F__law_bent sc__law_bent len__law_bent (fun cdv A outer s H E hr => ((vss_cons (vs_set (i := 2) sc__law_bent.nd rfl (.inl rfl) (by decide) (vo_callI (ok__law_take T) (hr.mono (by decide)) (by rfl) T.g__law_take T.F__law_take.kp (bb__law_take_1 T) (dv__law_take_1 T) (fun _ => (.cons (.int _) .nil)) (va_cons (vx_var 0 (pv 0)) (va_cons (vx_o (vo_lenS 1 (by rfl) T.n_len (pv 1))) va_nil))))
    (vss_cons (vs_set (i := 3) sc__law_bent.nd rfl (.inl rfl) (by decide) (vo_callI (ok__law_pick T) (hr.mono (by decide)) (by rfl) T.g__law_pick T.F__law_pick.kp (b__law_pick T) .nil (fun _ => .nil) (va_cons (vx_var 0 (pv 0)) (va_cons (vx_o (vo_op o2_add (vx_c pe_str (fun _ => .str _)) (vx_c pe_str (fun _ => .str _)))) va_nil))))
    (vss_cons (vs_set (i := 4) sc__law_bent.nd rfl (.inl rfl) (by decide) (vo_callI (ok__law_pick T) (hr.mono (by decide)) (by rfl) T.g__law_pick T.F__law_pick.kp (b__law_pick T) .nil (fun _ => .nil) (va_cons (vx_var 0 (pv 0)) (va_cons (vx_o (vo_call0 (ok__law_kept T) (hr.mono (by decide)) (by rfl) T.g__law_kept T.F__law_kept.kp (b__law_kept T) .nil (fun _ => .nil))) va_nil))))
    (vss_one (vs_ret (vo_lst (va_cons (vx_o (vo_op o2_add (vx_o (vo_op o2_add (vx_o (vo_sl (vx_var 1 (pv 1)) vp_none (vp_some (vx_var 2 (pv 2))))) (vx_var 3 (pv 3)))) (vx_o (vo_sl (vx_var 1 (pv 1)) (vp_some (vx_o (vo_op o2_add (vx_var 2 (pv 2)) (vx_c pe_int (fun _ => .int _))))) vp_none)))) (va_cons (vx_o (vo_op o2_add (vx_o (vo_op o2_add (vx_o (vo_sl (vx_var 1 (pv 1)) vp_none (vp_some (vx_var 2 (pv 2))))) (vx_var 3 (pv 3)))) (vx_o (vo_sl (vx_var 1 (pv 1)) (vp_some (vx_var 2 (pv 2))) vp_none)))) (va_cons (vx_o (vo_op o2_add (vx_var 1 (pv 1)) (vx_o (vo_sl (vx_c pe_str (fun _ => .str _)) vp_none (vp_some (vx_o (vo_op o2_sub (vx_c pe_int (fun _ => .int _)) (vx_o (vo_lenS 1 (by rfl) T.n_len (pv 1)))))))))) (va_cons (vx_o (vo_sl (vx_o (vo_op o2_add (vx_var 1 (pv 1)) (vx_c pe_str (fun _ => .str _)))) vp_none (vp_some (vx_c pe_int (fun _ => .int _))))) (va_cons (vx_c pe_str (fun _ => .str _)) (va_cons (vx_val 3 (pv 3)) (va_cons (vx_o (vo_op o2_add (vx_o (vo_callI (ok__law_pick T) (hr.mono (by decide)) (by rfl) T.g__law_pick T.F__law_pick.kp (b__law_pick T) .nil (fun _ => .nil) (va_cons (vx_var 0 (pv 0)) (va_cons (vx_c pe_str (fun _ => .str _)) va_nil)))) (vx_o (vo_sl (vx_var 1 (pv 1)) (vp_some (vx_c pe_int (fun _ => .int _))) vp_none)))) (va_cons (vx_o (vo_upper (vx_var 1 (pv 1)))) (va_cons (vx_val 4 (pv 4)) (va_cons (vx_o (vo_op o2_add (vx_var 4 (pv 4)) (vx_o (vo_callI (ok__law_pick T) (hr.mono (by decide)) (by rfl) T.g__law_pick T.F__law_pick.kp (b__law_pick T) .nil (fun _ => .nil) (va_cons (vx_var 0 (pv 0)) (va_cons (vx_c pe_str (fun _ => .str _)) va_nil)))))) (va_cons (vx_o (vo_sl (vx_var 4 (pv 4)) vp_none (vp_some (vx_o (vo_un o1_neg (vx_c pe_int (fun _ => .int _))))))) (va_cons (vx_o (vo_upper (vx_var 4 (pv 4)))) (va_cons (vx_o (vo_op o2_add (vx_o (vo_ixS 4 (hu_of hr) (pv 4) (vx_c pe_int (fun _ => .int _)))) (vx_var 4 (pv 4)))) (va_cons (vx_o (vo_op o2_add (vx_c pe_str (fun _ => .str _)) (vx_var 1 (pv 1)))) (va_cons (vx_o (vo_op o2_add (vx_var 1 (pv 1)) (vx_c pe_str (fun _ => .str _)))) (va_cons (vx_o (vo_tup (va_cons (vx_val 1 (pv 1)) va_nil))) (va_cons (vx_o (vo_lst (va_cons (vx_val 1 (pv 1)) va_nil))) (va_cons (vx_c pe_non (fun _ => .non)) (va_cons (vx_c pe_bl (fun _ => .bl _)) (va_cons (vx_o (vo_lenS 1 (by rfl) T.n_len (pv 1))) (va_cons (vx_o (vo_tup va_nil)) (va_cons (vx_o (vo_sl (vx_var 1 (pv 1)) vp_none (vp_some (vx_c pe_int (fun _ => .int _))))) (va_cons (vx_o (vo_op o2_mul (vx_o (vo_op o2_pow (vx_c pe_int (fun _ => .int _)) (vx_c pe_int (fun _ => .int _)))) (vx_o (vo_op o2_pow (vx_c pe_int (fun _ => .int _)) (vx_c pe_int (fun _ => .int _)))))) va_nil))))))))))))))))))))))))))))) : PSs (cxOf CX0 P w K mg base _ _ _ T.f__law_bent cdv A outer s H E).nox _ (lS K true τ__law_bent))) rd__law_bent
theorem ok__law_names_asked (T : Txt K mg) : FnOk P w K mg base CX0 4 T.f__law_names_asked T.fd__law_names_asked ["pool"] (toSp1 K wp__law_names_asked) :=
  vfn1 (τ := τ__law_names_asked) T.F__law_names_asked sc__law_names_asked len__law_names_asked (fun cdv A outer s H E hr => ((vss_cons (vs_for PassesOwn.never rfl (vi_range1 (by rfl) T.n_range (va_cons (vx_c pe_int (fun _ => .int _)) va_nil)) (vg_name sc__law_names_asked.nd rfl (.inl rfl) (by decide))
    (vss_cons (vs_set (i := 2) sc__law_names_asked.nd rfl (.inl rfl) (by decide) (vo_callI (ok__law_named T) (hr.mono (by decide)) (by rfl) T.g__law_named T.F__law_named.kp (b__law_named T) .nil (fun _ => .nil) (va_cons (vx_var 0 (pv 0)) (va_cons (vx_c pe_int (fun _ => .int _)) va_nil))))
    (vss_cons (vs_if (vt_not (vt_tru (vx_o (vo_call (ok__law_same T) (hr.mono (by decide)) (by rfl) T.g__law_same T.F__law_same.kp (b__law_same T) .nil (fun _ => .nil) (va_cons (vx_o (vo_tup (va_cons (vx_o (vo_call (ok_is_name T) (hr.mono (by decide)) (by rfl) T.g_is_name T.F_is_name.kp (b_is_name T) .nil (fun _ => .nil) (va_cons (vx_val 2 (pv 2)) va_nil))) (va_cons (vx_o (vo_callK0 (ok_is_name T) (hr.mono (by decide)) (by rfl) T.g_is_name T.F_is_name.kp (kb_is_name_0_thing T) (vk_cons (vx_val 2 (pv 2)) vk_nil))) va_nil)))) (va_cons (vx_o (vo_tup (va_cons (vx_c pe_bl (fun _ => .bl _)) (va_cons (vx_c pe_bl (fun _ => .bl _)) va_nil)))) va_nil))))))
    (vss_one (vs_ret (vo_x (vx_c pe_bl (fun _ => .bl _)))))
    vss_nil)
    (vss_cons (vs_set (i := 3) sc__law_names_asked.nd rfl (.inl rfl) (by decide) (vo_callI (ok__law_bent T) (hr.mono (by decide)) (by rfl) T.g__law_bent T.F__law_bent.kp (b__law_bent T) .nil (fun _ => .nil) (va_cons (vx_var 0 (pv 0)) (va_cons (vx_val 2 (pv 2)) va_nil))))
    (vss_one (vs_for PassesOwn.never rfl (vi_range1 (by rfl) T.n_range (va_cons (vx_c pe_int (fun _ => .int _)) va_nil)) (vg_name sc__law_names_asked.nd rfl (.inl rfl) (by decide))
    (vss_cons (vs_set (i := 5) sc__law_names_asked.nd rfl (.inl rfl) (by decide) (vo_callI (ok__law_pick T) (hr.mono (by decide)) (by rfl) T.g__law_pick T.F__law_pick.kp (b__law_pick T) .nil (fun _ => .nil) (va_cons (vx_var 0 (pv 0)) (va_cons (vx_val 3 (pv 3)) va_nil))))
    (vss_one (vs_if (vt_not (vt_tru (vx_o (vo_call (ok__law_same T) (hr.mono (by decide)) (by rfl) T.g__law_same T.F__law_same.kp (b__law_same T) .nil (fun _ => .nil) (va_cons (vx_o (vo_call (ok_is_name T) (hr.mono (by decide)) (by rfl) T.g_is_name T.F_is_name.kp (b_is_name T) .nil (fun _ => .nil) (va_cons (vx_val 5 (pv 5)) va_nil))) (va_cons (vx_o (vo_call (ok__law_is_name T) (hr.mono (by decide)) (by rfl) T.g__law_is_name T.F__law_is_name.kp (b__law_is_name T) .nil (fun _ => .nil) (va_cons (vx_val 5 (pv 5)) va_nil))) va_nil))))))
    (vss_one (vs_ret (vo_x (vx_c pe_bl (fun _ => .bl _)))))
    vss_nil)))))))))
    (vss_one (vs_ret (vo_x (vx_c pe_bl (fun _ => .bl _)))))) : PSs (cxOf CX0 P w K mg base _ _ _ T.f__law_names_asked cdv A outer s H E).nox _ (lS K true τ__law_names_asked))) rd__law_names_asked
theorem ok__law_line (T : Txt K mg) : FnOk P w K mg base CX0 2 T.f__law_line T.fd__law_line ["pool", "words"] (toSp1 K wp__law_line) :=
  vfn1 (τ := τ__law_line) T.F__law_line sc__law_line len__law_line (fun cdv A outer s H E hr => ((vss_cons (vs_set (i := 2) sc__law_line.nd rfl (.inl rfl) (by decide) (vo_op o2_mulS (vx_c pe_str (fun _ => .str _)) (vx_o (vo_ix ix2_any (vx_o (vo_tup (va_cons (vx_c pe_int (fun _ => .int _)) (va_cons (vx_c pe_int (fun _ => .int _)) (va_cons (vx_c pe_int (fun _ => .int _)) (va_cons (vx_c pe_int (fun _ => .int _)) va_nil)))))) (vx_o (vo_callI (ok__law_take T) (hr.mono (by decide)) (by rfl) T.g__law_take T.F__law_take.kp (b__law_take T) .nil (fun _ => .nil) (va_cons (vx_var 0 (pv 0)) (va_cons (vx_c pe_int (fun _ => .int _)) (va_cons (vx_c pe_int (fun _ => .int _)) va_nil)))))))))
    (vss_cons (vs_for PassesOwn.never rfl (vi_range1 (by rfl) T.n_range (va_cons (vx_o (vo_lenS 1 (by rfl) T.n_len (pv 1))) va_nil)) (vg_name sc__law_line.nd rfl (.inl rfl) (by decide))
    (vss_one (vs_set (i := 2) sc__law_line.nd rfl (.inl rfl) (by decide) (vo_op o2_add (vx_o (vo_op o2_add (vx_var 2 (pv 2)) (vx_o (vo_ixS 1 (hu_of hr) (pv 1) (vx_var 3 (pv 3)))))) (vx_o (vo_op o2_mulS (vx_c pe_str (fun _ => .str _)) (vx_o (vo_op o2_add (vx_o (vo_cty cd_int (by rfl) T.n_int (by decide +kernel) (va_cons (vx_o (vo_cmp o2_lt (vx_o (vo_op o2_add (vx_var 3 (pv 3)) (vx_c pe_int (fun _ => .int _)))) (vx_o (vo_lenS 1 (by rfl) T.n_len (pv 1))) (nomark _))) va_nil))) (vx_o (vo_ix ix2_any (vx_o (vo_tup (va_cons (vx_c pe_int (fun _ => .int _)) (va_cons (vx_c pe_int (fun _ => .int _)) (va_cons (vx_c pe_int (fun _ => .int _)) (va_cons (vx_c pe_int (fun _ => .int _)) va_nil)))))) (vx_o (vo_callI (ok__law_take T) (hr.mono (by decide)) (by rfl) T.g__law_take T.F__law_take.kp (b__law_take T) .nil (fun _ => .nil) (va_cons (vx_var 0 (pv 0)) (va_cons (vx_c pe_int (fun _ => .int _)) (va_cons (vx_c pe_int (fun _ => .int _)) va_nil)))))))))))))))
    (vss_one (vs_ret (vo_mv 2 (pv 2)))))) : PSs (cxOf CX0 P w K mg base _ _ _ T.f__law_line cdv A outer s H E).nox _ (lS K true τ__law_line))) rd__law_line
theorem ok__law_drawn (T : Txt K mg) : FnOk P w K mg base CX0 3 T.f__law_drawn T.fd__law_drawn ["pool", "most"] (toSp1 K wp__law_drawn) :=
  vfn1 (τ := τ__law_drawn) T.F__law_drawn sc__law_drawn len__law_drawn (fun cdv A outer s H E hr => ((vss_cons (vs_setLc (i := 2) (own := [("lap", 3)]) rfl sc__law_drawn.nd rfl rfl (by decide) (sw_true rfl rfl rfl (by decide +kernel)) (vi_range1 (by rfl) T.n_range (va_cons (vx_o (vo_callI (ok__law_take T) (hr.mono (by decide)) (by rfl) T.g__law_take T.F__law_take.kp (b__law_take T) .nil (fun _ => .nil) (va_cons (vx_var 0 (pv 0)) (va_cons (vx_o (vo_op o2_add (vx_var 1 (pv 1)) (vx_c pe_int (fun _ => .int _)))) (va_cons (vx_c pe_int (fun _ => .int _)) va_nil))))) va_nil)) (blkOk_by (by kernel_rfl)) (fun _ _ _ _ _ => (vg_name sc__law_drawn.nd rfl (.inl rfl) (by decide))) (by decide) (fun _ _ _ _ _ => vts_nil) (fun _ _ _ _ _ => (vx_o (vo_callI (ok__law_word T) (hr.mono (by decide)) (by rfl) T.g__law_word T.F__law_word.kp (b__law_word T) .nil (fun _ => .nil) (va_cons (vx_var 0 (pv 0)) (va_cons (vx_c pe_int (fun _ => .int _)) va_nil))))))
    (vss_cons (vs_if (PW.pt (vw_and (vt_cmp o2_gt (vx_o (vo_lenS 2 (by rfl) T.n_len (pv 2))) (vx_c pe_int (fun _ => .int _)) (nomark _)) (vw_and1 (vt_cmp (o2_eq (r64 hr)) (vx_o (vo_callI (ok__law_take T) (hr.mono (by decide)) (by rfl) T.g__law_take T.F__law_take.kp (b__law_take T) .nil (fun _ => .nil) (va_cons (vx_var 0 (pv 0)) (va_cons (vx_c pe_int (fun _ => .int _)) (va_cons (vx_c pe_int (fun _ => .int _)) va_nil))))) (vx_c pe_int (fun _ => .int _)) (nomark _)))))
    (vss_one (vs_alt 2 (vs_dput 2 (hu_of hr) (pv 2) (vx_c pe_int (fun _ => .int _)) (vx_o (vo_op o2_add (vx_c pe_str (fun _ => .str _)) (vx_o (vo_sl (vx_o (vo_ixS 2 (hu_of hr) (pv 2) (vx_c pe_int (fun _ => .int _)))) (vp_some (vx_c pe_int (fun _ => .int _))) vp_none))))) (vs_put 2 (pv 2) (vx_c pe_int (fun _ => .int _)) (vo_op o2_add (vx_c pe_str (fun _ => .str _)) (vx_o (vo_sl (vx_o (vo_ixS 2 (hu_of hr) (pv 2) (vx_c pe_int (fun _ => .int _)))) (vp_some (vx_c pe_int (fun _ => .int _))) vp_none))))))
    vss_nil)
    (vss_one (vs_ret (vo_mv 2 (pv 2)))))) : PSs (cxOf CX0 P w K mg base _ _ _ T.f__law_drawn cdv A outer s H E).nox _ (lS K true τ__law_drawn))) rd__law_drawn
theorem ok__law_text_asked (T : Txt K mg) : FnOk P w K mg base CX0 4 T.f__law_text_asked T.fd__law_text_asked ["pool", "many"] (toSp1 K wp__law_text_asked) :=
  vfn1 (τ := τ__law_text_asked) T.F__law_text_asked sc__law_text_asked len__law_text_asked (fun cdv A outer s H E hr => ((vss_cons (vs_setLc (i := 2) (own := [("lap", 7)]) rfl sc__law_text_asked.nd rfl rfl (by decide) (sw_true rfl rfl rfl (by decide +kernel)) (vi_range1 (by rfl) T.n_range (va_cons (vx_var 1 (pv 1)) va_nil)) (blkOk_by (by kernel_rfl)) (fun _ _ _ _ _ => (vg_name sc__law_text_asked.nd rfl (.inl rfl) (by decide))) (by decide) (fun _ _ _ _ _ => vts_nil) (fun _ _ _ _ _ => (vx_o (vo_callI (ok__law_drawn T) (hr.mono (by decide)) (by rfl) T.g__law_drawn T.F__law_drawn.kp (b__law_drawn T) .nil (fun _ => .nil) (va_cons (vx_var 0 (pv 0)) (va_cons (vx_c pe_int (fun _ => .int _)) va_nil))))))
    (vss_cons (vs_setLc (i := 3) (own := [("words", 8)]) rfl sc__law_text_asked.nd rfl rfl (by decide) (sw_true rfl rfl rfl (by decide +kernel)) (vi_seq (vx_val 2 (pv 2))) (blkOk_by (by kernel_rfl)) (fun _ _ _ _ _ => (vg_name sc__law_text_asked.nd rfl (.inl rfl) (by decide))) (by decide) (fun _ _ _ _ _ => vts_nil) (fun _ _ _ _ _ => (vx_o (vo_callI (ok__law_line T) (hr.mono (by decide)) (by rfl) T.g__law_line T.F__law_line.kp (b__law_line T) .nil (fun _ => .nil) (va_cons (vx_var 0 (pv 0)) (va_cons (vx_val 8 (pv 8)) va_nil))))))
    (vss_cons (vs_set (i := 4) sc__law_text_asked.nd rfl (.inl rfl) (by decide) (vo_lst va_nil))
    (vss_cons (vs_for PassesOwn.never rfl (vi_range1 (by rfl) T.n_range (va_cons (vx_o (vo_lenS 2 (by rfl) T.n_len (pv 2))) va_nil)) (vg_name sc__law_text_asked.nd rfl (.inl rfl) (by decide))
    (vss_one (vs_if (PW.pt (vw_and (vt_cmp o2_gt (vx_o (vo_cb cd_len (by rfl) T.n_len (by decide +kernel) (va_cons (vx_o (vo_ixS 2 (hu_of hr) (pv 2) (vx_var 5 (pv 5)))) va_nil))) (vx_c pe_int (fun _ => .int _)) (nomark _)) (vw_and1 (vt_cmp (o2_ne (r64 hr)) (vx_o (vo_ix ix2_any (vx_o (vo_ix ix2_any (vx_o (vo_ixS 2 (hu_of hr) (pv 2) (vx_var 5 (pv 5)))) (vx_c pe_int (fun _ => .int _)))) (vx_c pe_int (fun _ => .int _)))) (vx_c pe_str (fun _ => .str _)) (nomark _)))))
    (vss_one (vs_expr (vo_app false 4 (pv 4) (vo_tup (va_cons (vx_o (vo_op o2_add (vx_var 5 (pv 5)) (vx_c pe_int (fun _ => .int _)))) (va_cons (vx_o (vo_ixS 2 (hu_of hr) (pv 2) (vx_var 5 (pv 5)))) va_nil))))))
    vss_nil)))
    (vss_cons (vs_for PassesOwn.never rfl (vi_range1 (by rfl) T.n_range (va_cons (vx_o (vo_cb (cd_min2 rfl) (by rfl) T.n_min (by decide +kernel) (va_cons (vx_c pe_int (fun _ => .int _)) (va_cons (vx_o (vo_lenS 2 (by rfl) T.n_len (pv 2))) va_nil)))) va_nil)) (vg_name sc__law_text_asked.nd rfl (.inl rfl) (by decide))
    (vss_one (vs_if (vt_not (vt_tru (vx_o (vo_call (ok__law_same T) (hr.mono (by decide)) (by rfl) T.g__law_same T.F__law_same.kp (b__law_same T) .nil (fun _ => .nil) (va_cons (vx_o (vo_tup (va_cons (vx_o (vo_call (ok_words_of T) (hr.mono (by decide)) (by rfl) T.g_words_of T.F_words_of.kp (b_words_of T) .nil (fun _ => .nil) (va_cons (vx_o (vo_ixS 3 (hu_of hr) (pv 3) (vx_var 5 (pv 5)))) va_nil))) (va_cons (vx_o (vo_callK0 (ok_words_of T) (hr.mono (by decide)) (by rfl) T.g_words_of T.F_words_of.kp (kb_words_of_0_line T) (vk_cons (vx_o (vo_ixS 3 (hu_of hr) (pv 3) (vx_var 5 (pv 5)))) vk_nil))) va_nil)))) (va_cons (vx_o (vo_tup (va_cons (vx_o (vo_ixS 2 (hu_of hr) (pv 2) (vx_var 5 (pv 5)))) (va_cons (vx_o (vo_ixS 2 (hu_of hr) (pv 2) (vx_var 5 (pv 5)))) va_nil)))) va_nil))))))
    (vss_one (vs_ret (vo_x (vx_c pe_bl (fun _ => .bl _)))))
    vss_nil)))
    (vss_cons (vs_set (i := 6) sc__law_text_asked.nd rfl (.inl rfl) (by decide) (vo_op o2_add (vx_o (vo_join (vx_c pe_str (fun _ => .str _)) (vx_var 3 (pv 3)))) (vx_o (vo_ix ix2_any (vx_o (vo_tup (va_cons (vx_c pe_str (fun _ => .str _)) (va_cons (vx_c pe_str (fun _ => .str _)) (va_cons (vx_c pe_str (fun _ => .str _)) (va_cons (vx_c pe_str (fun _ => .str _)) va_nil)))))) (vx_o (vo_callI (ok__law_take T) (hr.mono (by decide)) (by rfl) T.g__law_take T.F__law_take.kp (b__law_take T) .nil (fun _ => .nil) (va_cons (vx_var 0 (pv 0)) (va_cons (vx_c pe_int (fun _ => .int _)) (va_cons (vx_c pe_int (fun _ => .int _)) va_nil)))))))))
    (vss_one (vs_ret (vo_call (ok__law_same T) (hr.mono (by decide)) (by rfl) T.g__law_same T.F__law_same.kp (b__law_same T) .nil (fun _ => .nil) (va_cons (vx_o (vo_call (ok_source_lines T) (hr.mono (by decide)) (by rfl) T.g_source_lines T.F_source_lines.kp (b_source_lines T) .nil (fun _ => .nil) (va_cons (vx_val 6 (pv 6)) va_nil))) (va_cons (vx_val 4 (pv 4)) va_nil))))))))))) : PSs (cxOf CX0 P w K mg base _ _ _ T.f__law_text_asked cdv A outer s H E).nox _ (lS K true τ__law_text_asked))) rd__law_text_asked
theorem ok__law_by_hand (T : Txt K mg) : FnOk P w K mg base CX0 4 T.f__law_by_hand T.fd__law_by_hand [] (toSp0 K wp__law_by_hand) :=
  vfn0 (τ := τ__law_by_hand) T.F__law_by_hand sc__law_by_hand len__law_by_hand (fun cdv A outer s H E hr => ((vss_cons (vs_set (i := 0) sc__law_by_hand.nd rfl (.inl rfl) (by decide) (vo_tup (va_cons (vx_o (vo_call (ok_words_of T) (hr.mono (by decide)) (by rfl) T.g_words_of T.F_words_of.kp (b_words_of T) .nil (fun _ => .nil) (va_cons (vx_c pe_str (fun _ => .str _)) va_nil))) (va_cons (vx_o (vo_call (ok_source_lines T) (hr.mono (by decide)) (by rfl) T.g_source_lines T.F_source_lines.kp (b_source_lines T) .nil (fun _ => .nil) (va_cons (vx_c pe_str (fun _ => .str _)) va_nil))) (va_cons (vx_o (vo_call (ok_is_name T) (hr.mono (by decide)) (by rfl) T.g_is_name T.F_is_name.kp (b_is_name T) .nil (fun _ => .nil) (va_cons (vx_c pe_str (fun _ => .str _)) va_nil))) (va_cons (vx_o (vo_call (ok_is_name T) (hr.mono (by decide)) (by rfl) T.g_is_name T.F_is_name.kp (b_is_name T) .nil (fun _ => .nil) (va_cons (vx_c pe_str (fun _ => .str _)) va_nil))) (va_cons (vx_o (vo_call (ok_words_of T) (hr.mono (by decide)) (by rfl) T.g_words_of T.F_words_of.kp (b_words_of T) .nil (fun _ => .nil) (va_cons (vx_c pe_str (fun _ => .str _)) va_nil))) (va_cons (vx_o (vo_call (ok_words_of T) (hr.mono (by decide)) (by rfl) T.g_words_of T.F_words_of.kp (b_words_of T) .nil (fun _ => .nil) (va_cons (vx_c pe_str (fun _ => .str _)) va_nil))) (va_cons (vx_o (vo_call (ok_words_of T) (hr.mono (by decide)) (by rfl) T.g_words_of T.F_words_of.kp (b_words_of T) .nil (fun _ => .nil) (va_cons (vx_c pe_str (fun _ => .str _)) va_nil))) va_nil)))))))))
    (vss_cons (vs_if (vt_not (vt_tru (vx_o (vo_call (ok__law_same T) (hr.mono (by decide)) (by rfl) T.g__law_same T.F__law_same.kp (b__law_same T) .nil (fun _ => .nil) (va_cons (vx_val 0 (pv 0)) (va_cons (vx_o (vo_tup (va_cons (vx_o (vo_lst (va_cons (vx_c pe_str (fun _ => .str _)) (va_cons (vx_c pe_str (fun _ => .str _)) (va_cons (vx_c pe_str (fun _ => .str _)) (va_cons (vx_c pe_str (fun _ => .str _)) va_nil)))))) (va_cons (vx_o (vo_lst (va_cons (vx_o (vo_tup (va_cons (vx_c pe_int (fun _ => .int _)) (va_cons (vx_o (vo_lst (va_cons (vx_c pe_str (fun _ => .str _)) va_nil))) va_nil)))) (va_cons (vx_o (vo_tup (va_cons (vx_c pe_int (fun _ => .int _)) (va_cons (vx_o (vo_lst (va_cons (vx_c pe_str (fun _ => .str _)) (va_cons (vx_c pe_str (fun _ => .str _)) va_nil)))) va_nil)))) va_nil)))) (va_cons (vx_c pe_bl (fun _ => .bl _)) (va_cons (vx_c pe_bl (fun _ => .bl _)) (va_cons (vx_o (vo_lst va_nil)) (va_cons (vx_o (vo_lst va_nil)) (va_cons (vx_o (vo_lst (va_cons (vx_c pe_str (fun _ => .str _)) va_nil))) va_nil))))))))) va_nil))))))
    (vss_one (vs_ret (vo_x (vx_c pe_bl (fun _ => .bl _)))))
    vss_nil)
    (vss_cons (vs_set (i := 0) sc__law_by_hand.nd rfl (.inl rfl) (by decide) (vo_tup (va_cons (vx_o (vo_call (ok_source_lines T) (hr.mono (by decide)) (by rfl) T.g_source_lines T.F_source_lines.kp (b_source_lines T) .nil (fun _ => .nil) (va_cons (vx_c pe_str (fun _ => .str _)) va_nil))) (va_cons (vx_o (vo_call (ok_source_lines T) (hr.mono (by decide)) (by rfl) T.g_source_lines T.F_source_lines.kp (b_source_lines T) .nil (fun _ => .nil) (va_cons (vx_c pe_str (fun _ => .str _)) va_nil))) (va_cons (vx_o (vo_callK0 (ok_source_lines T) (hr.mono (by decide)) (by rfl) T.g_source_lines T.F_source_lines.kp (kb_source_lines_0_text T) (vk_cons (vx_c pe_str (fun _ => .str _)) vk_nil))) (va_cons (vx_o (vo_call (ok_source_lines T) (hr.mono (by decide)) (by rfl) T.g_source_lines T.F_source_lines.kp (b_source_lines T) .nil (fun _ => .nil) (va_cons (vx_c pe_str (fun _ => .str _)) va_nil))) va_nil))))))
    (vss_cons (vs_if (vt_not (vt_tru (vx_o (vo_call (ok__law_same T) (hr.mono (by decide)) (by rfl) T.g__law_same T.F__law_same.kp (b__law_same T) .nil (fun _ => .nil) (va_cons (vx_val 0 (pv 0)) (va_cons (vx_o (vo_tup (va_cons (vx_o (vo_lst va_nil)) (va_cons (vx_o (vo_lst va_nil)) (va_cons (vx_o (vo_lst (va_cons (vx_o (vo_tup (va_cons (vx_c pe_int (fun _ => .int _)) (va_cons (vx_o (vo_lst (va_cons (vx_c pe_str (fun _ => .str _)) (va_cons (vx_c pe_str (fun _ => .str _)) va_nil)))) va_nil)))) (va_cons (vx_o (vo_tup (va_cons (vx_c pe_int (fun _ => .int _)) (va_cons (vx_o (vo_lst (va_cons (vx_c pe_str (fun _ => .str _)) (va_cons (vx_c pe_str (fun _ => .str _)) (va_cons (vx_c pe_str (fun _ => .str _)) va_nil))))) va_nil)))) va_nil)))) (va_cons (vx_o (vo_lst (va_cons (vx_o (vo_tup (va_cons (vx_c pe_int (fun _ => .int _)) (va_cons (vx_o (vo_lst (va_cons (vx_c pe_str (fun _ => .str _)) va_nil))) va_nil)))) va_nil))) va_nil)))))) va_nil))))))
    (vss_one (vs_ret (vo_x (vx_c pe_bl (fun _ => .bl _)))))
    vss_nil)
    (vss_cons (vs_for PassesOwn.never rfl (vi_seq (vx_o (vo_call0 (ok__law_kept T) (hr.mono (by decide)) (by rfl) T.g__law_kept T.F__law_kept.kp (b__law_kept T) .nil (fun _ => .nil)))) (vg_name sc__law_by_hand.nd rfl (.inl rfl) (by decide))
    (vss_one (vs_if (vt_not (vt_tru (vx_o (vo_call (ok__law_same T) (hr.mono (by decide)) (by rfl) T.g__law_same T.F__law_same.kp (b__law_same T) .nil (fun _ => .nil) (va_cons (vx_o (vo_tup (va_cons (vx_o (vo_call (ok_is_name T) (hr.mono (by decide)) (by rfl) T.g_is_name T.F_is_name.kp (b_is_name T) .nil (fun _ => .nil) (va_cons (vx_val 1 (pv 1)) va_nil))) (va_cons (vx_o (vo_call (ok_is_name T) (hr.mono (by decide)) (by rfl) T.g_is_name T.F_is_name.kp (b_is_name T) .nil (fun _ => .nil) (va_cons (vx_o (vo_op o2_add (vx_var 1 (pv 1)) (vx_c pe_str (fun _ => .str _)))) va_nil))) (va_cons (vx_o (vo_call (ok_is_name T) (hr.mono (by decide)) (by rfl) T.g_is_name T.F_is_name.kp (b_is_name T) .nil (fun _ => .nil) (va_cons (vx_o (vo_op o2_add (vx_c pe_str (fun _ => .str _)) (vx_var 1 (pv 1)))) va_nil))) va_nil))))) (va_cons (vx_o (vo_tup (va_cons (vx_c pe_bl (fun _ => .bl _)) (va_cons (vx_c pe_bl (fun _ => .bl _)) (va_cons (vx_c pe_bl (fun _ => .bl _)) va_nil))))) va_nil))))))
    (vss_one (vs_ret (vo_x (vx_c pe_bl (fun _ => .bl _)))))
    vss_nil)))
    (vss_cons (vs_for PassesOwn.never rfl (vi_seq (vx_o (vo_tup (va_cons (vx_o (vo_tup (va_cons (vx_c pe_str (fun _ => .str _)) (va_cons (vx_c pe_bl (fun _ => .bl _)) va_nil)))) (va_cons (vx_o (vo_tup (va_cons (vx_c pe_str (fun _ => .str _)) (va_cons (vx_c pe_bl (fun _ => .bl _)) va_nil)))) (va_cons (vx_o (vo_tup (va_cons (vx_c pe_str (fun _ => .str _)) (va_cons (vx_c pe_bl (fun _ => .bl _)) va_nil)))) (va_cons (vx_o (vo_tup (va_cons (vx_c pe_str (fun _ => .str _)) (va_cons (vx_c pe_bl (fun _ => .bl _)) va_nil)))) (va_cons (vx_o (vo_tup (va_cons (vx_c pe_str (fun _ => .str _)) (va_cons (vx_c pe_bl (fun _ => .bl _)) va_nil)))) (va_cons (vx_o (vo_tup (va_cons (vx_c pe_str (fun _ => .str _)) (va_cons (vx_c pe_bl (fun _ => .bl _)) va_nil)))) (va_cons (vx_o (vo_tup (va_cons (vx_c pe_str (fun _ => .str _)) (va_cons (vx_c pe_bl (fun _ => .bl _)) va_nil)))) (va_cons (vx_o (vo_tup (va_cons (vx_c pe_str (fun _ => .str _)) (va_cons (vx_c pe_bl (fun _ => .bl _)) va_nil)))) (va_cons (vx_o (vo_tup (va_cons (vx_c pe_str (fun _ => .str _)) (va_cons (vx_c pe_bl (fun _ => .bl _)) va_nil)))) (va_cons (vx_o (vo_tup (va_cons (vx_c pe_non (fun _ => .non)) (va_cons (vx_c pe_bl (fun _ => .bl _)) va_nil)))) va_nil))))))))))))) (vg_tup rfl (vgs_cons (vg_name sc__law_by_hand.nd rfl (.inl rfl) (by decide)) (vgs_cons (vg_name sc__law_by_hand.nd rfl (.inl rfl) (by decide)) vgs_nil)))
    (vss_one (vs_if (vt_not (vt_tru (vx_o (vo_call (ok__law_same T) (hr.mono (by decide)) (by rfl) T.g__law_same T.F__law_same.kp (b__law_same T) .nil (fun _ => .nil) (va_cons (vx_o (vo_call (ok_is_name T) (hr.mono (by decide)) (by rfl) T.g_is_name T.F_is_name.kp (b_is_name T) .nil (fun _ => .nil) (va_cons (vx_val 2 (pv 2)) va_nil))) (va_cons (vx_val 3 (pv 3)) va_nil))))))
    (vss_one (vs_ret (vo_x (vx_c pe_bl (fun _ => .bl _)))))
    vss_nil)))
    (vss_one (vs_ret (vo_call (ok__law_same T) (hr.mono (by decide)) (by rfl) T.g__law_same T.F__law_same.kp (b__law_same T) .nil (fun _ => .nil) (va_cons (vx_o (vo_tup (va_cons (vx_o (vo_call (ok_is_name T) (hr.mono (by decide)) (by rfl) T.g_is_name T.F_is_name.kp (b_is_name T) .nil (fun _ => .nil) (va_cons (vx_o (vo_tup (va_cons (vx_c pe_str (fun _ => .str _)) va_nil))) va_nil))) (va_cons (vx_o (vo_call (ok_is_name T) (hr.mono (by decide)) (by rfl) T.g_is_name T.F_is_name.kp (b_is_name T) .nil (fun _ => .nil) (va_cons (vx_c pe_int (fun _ => .int _)) va_nil))) (va_cons (vx_o (vo_call (ok_is_name T) (hr.mono (by decide)) (by rfl) T.g_is_name T.F_is_name.kp (b_is_name T) .nil (fun _ => .nil) (va_cons (vx_o (vo_lst (va_cons (vx_c pe_str (fun _ => .str _)) va_nil))) va_nil))) va_nil))))) (va_cons (vx_o (vo_tup (va_cons (vx_c pe_bl (fun _ => .bl _)) (va_cons (vx_c pe_bl (fun _ => .bl _)) (va_cons (vx_c pe_bl (fun _ => .bl _)) va_nil))))) va_nil))))))))))) : PSs (cxOf CX0 P w K mg base _ _ _ T.f__law_by_hand cdv A outer s H E).nox _ (lS K false τ__law_by_hand))) rd__law_by_hand
theorem ok_law (T : Txt K mg) : FnOk P w K mg base CX0 5 T.f_law T.fd_law ["script"] (toSp0 K wp_law) :=
  vfn0 (τ := τ_law) T.F_law sc_law len_law (fun cdv A outer s H E hr => ((vss_cons (vs_set (i := 1) sc_law.nd rfl (.inl rfl) (by decide) (vo_call (ok__law_pool T) (hr.mono (by decide)) (by rfl) T.g__law_pool T.F__law_pool.kp (b__law_pool T) .nil (fun _ => .nil) (va_cons (vx_val 0 (pv 0)) va_nil)))
    (vss_cons (vs_if (vt_not (vt_tru (vx_o (vo_callI (ok__law_names_asked T) (hr.mono (by decide)) (by rfl) T.g__law_names_asked T.F__law_names_asked.kp (b__law_names_asked T) .nil (fun _ => .nil) (va_cons (vx_var 1 (pv 1)) va_nil)))))
    (vss_one (vs_ret (vo_x (vx_c pe_bl (fun _ => .bl _)))))
    vss_nil)
    (vss_cons (vs_for PassesOwn.never rfl (vi_range1 (by rfl) T.n_range (va_cons (vx_c pe_int (fun _ => .int _)) va_nil)) (vg_name sc_law.nd rfl (.inl rfl) (by decide))
    (vss_one (vs_if (vt_not (vt_tru (vx_o (vo_callI (ok__law_text_asked T) (hr.mono (by decide)) (by rfl) T.g__law_text_asked T.F__law_text_asked.kp (b__law_text_asked T) .nil (fun _ => .nil) (va_cons (vx_var 1 (pv 1)) (va_cons (vx_o (vo_callI (ok__law_take T) (hr.mono (by decide)) (by rfl) T.g__law_take T.F__law_take.kp (bb__law_take_1 T) (dv__law_take_1 T) (fun _ => (.cons (.int _) .nil)) (va_cons (vx_var 1 (pv 1)) (va_cons (vx_c pe_int (fun _ => .int _)) va_nil)))) va_nil))))))
    (vss_one (vs_ret (vo_x (vx_c pe_bl (fun _ => .bl _)))))
    vss_nil)))
    (vss_cons (vs_if (PW.pt (vw_and (vt_cmp (o2_eq (r64 hr)) (vx_o (vo_callI (ok__law_take T) (hr.mono (by decide)) (by rfl) T.g__law_take T.F__law_take.kp (bb__law_take_1 T) (dv__law_take_1 T) (fun _ => (.cons (.int _) .nil)) (va_cons (vx_var 1 (pv 1)) (va_cons (vx_c pe_int (fun _ => .int _)) va_nil)))) (vx_c pe_int (fun _ => .int _)) (nomark _)) (vw_and1 (vt_not (vt_tru (vx_o (vo_callI (ok__law_text_asked T) (hr.mono (by decide)) (by rfl) T.g__law_text_asked T.F__law_text_asked.kp (b__law_text_asked T) .nil (fun _ => .nil) (va_cons (vx_var 1 (pv 1)) (va_cons (vx_c pe_int (fun _ => .int _)) va_nil)))))))))
    (vss_one (vs_ret (vo_x (vx_c pe_bl (fun _ => .bl _)))))
    vss_nil)
    (vss_one (vs_ret (vo_call0 (ok__law_by_hand T) (hr.mono (by decide)) (by rfl) T.g__law_by_hand T.F__law_by_hand.kp (b__law_by_hand T) .nil (fun _ => .nil)))))))) : PSs (cxOf CX0 P w K mg base _ _ _ T.f_law cdv A outer s H E).nox _ (lS K false τ_law))) rd_law
end
end K01
end
section
namespace K01
open PySem PySem.Spec L2 VL
theorem arg_ok {K : PySem.W.Frag} {H : Hp} {a : Addr} {ns : List Int} {E : XK} (hl : ns.length ≤ 63) (hb : ∀ z ∈ ns, Builtin.Int.intBits z ≤ 1048576) (hS : SqL K H a (ns.map V.int)) : toSp0 K wp_law [.ref a] H (fun v _ => v = .bl true) E :=
  ⟨H, [scD ns], fun o => o = .fz (.bool true), fun _ _ e => e, .cons (.scr hS) .nil, ⟨ns, rfl, hl, hb, rfl⟩, fun F' hr H' o v g w s d n q => by subst q; exact rp_bl (own_fz.mp w).2⟩
theorem all_mk {l : PySem.W.OpenLaw} {w : World} {K : PySem.W.Frag} {h : Heap} {mg : Str → Option Value} {fa : Addr} (X : K.In h) (G : h.Ns mainGlobals mg) (hfa : mg "law" = some (.ref fa))
    {f0 : Addr} {od0 an0 : Option Addr} {sl0 : Array (Option Value)} {oc0 kV0 dc0 pm0 cd0 ct0 : Value} (a0_0 : PySem.W.nsIn K mainGlobals "lines_of" = some (some (.ref f0))) (l0 : K.lookup f0 = some ⟨oc0, od0, .func (PySem.W.fnOf "lines_of" "lines_of" (defArgs s_lines_of) (defBody s_lines_of) (defScope s_lines_of) .none kV0 dc0 pm0 an0 cd0 ct0), sl0⟩) (c0 : PySem.W.codeIn K cd0 "lines_of" = true) (k0 : PySem.W.keepIn K (.ref f0) = true)
    {f1 : Addr} {od1 an1 : Option Addr} {sl1 : Array (Option Value)} {oc1 kV1 dc1 pm1 cd1 ct1 : Value} (a1_0 : PySem.W.nsIn K mainGlobals "line_words" = some (some (.ref f1))) (l1 : K.lookup f1 = some ⟨oc1, od1, .func (PySem.W.fnOf "line_words" "line_words" (defArgs s_line_words) (defBody s_line_words) (defScope s_line_words) .none kV1 dc1 pm1 an1 cd1 ct1), sl1⟩) (c1 : PySem.W.codeIn K cd1 "line_words" = true) (k1 : PySem.W.keepIn K (.ref f1) = true)
    {f2 : Addr} {od2 an2 : Option Addr} {sl2 : Array (Option Value)} {oc2 kV2 dc2 pm2 cd2 ct2 : Value} (a2_0 : PySem.W.nsIn K mainGlobals "is_passed_over" = some (some (.ref f2))) (l2 : K.lookup f2 = some ⟨oc2, od2, .func (PySem.W.fnOf "is_passed_over" "is_passed_over" (defArgs s_is_passed_over) (defBody s_is_passed_over) (defScope s_is_passed_over) .none kV2 dc2 pm2 an2 cd2 ct2), sl2⟩) (c2 : PySem.W.codeIn K cd2 "is_passed_over" = true) (k2 : PySem.W.keepIn K (.ref f2) = true)
    {f3 : Addr} {od3 an3 : Option Addr} {sl3 : Array (Option Value)} {oc3 kV3 dc3 pm3 cd3 ct3 : Value} (a3_0 : PySem.W.nsIn K mainGlobals "read_lines" = some (some (.ref f3))) (l3 : K.lookup f3 = some ⟨oc3, od3, .func (PySem.W.fnOf "read_lines" "read_lines" (defArgs s_read_lines) (defBody s_read_lines) (defScope s_read_lines) .none kV3 dc3 pm3 an3 cd3 ct3), sl3⟩) (c3 : PySem.W.codeIn K cd3 "read_lines" = true) (k3 : PySem.W.keepIn K (.ref f3) = true)
    {f4 : Addr} {od4 an4 : Option Addr} {sl4 : Array (Option Value)} {oc4 kV4 dc4 pm4 cd4 ct4 : Value} (a4_0 : PySem.W.nsIn K mainGlobals "is_name" = some (some (.ref f4))) (l4 : K.lookup f4 = some ⟨oc4, od4, .func (PySem.W.fnOf "is_name" "is_name" (defArgs s_is_name) (defBody s_is_name) (defScope s_is_name) .none kV4 dc4 pm4 an4 cd4 ct4), sl4⟩) (c4 : PySem.W.codeIn K cd4 "is_name" = true) (k4 : PySem.W.keepIn K (.ref f4) = true)
    {f5 : Addr} {od5 an5 : Option Addr} {sl5 : Array (Option Value)} {oc5 kV5 dc5 pm5 cd5 ct5 : Value} (a5_0 : PySem.W.nsIn K mainGlobals "words_of" = some (some (.ref f5))) (l5 : K.lookup f5 = some ⟨oc5, od5, .func (PySem.W.fnOf "words_of" "words_of" (defArgs s_words_of) (defBody s_words_of) (defScope s_words_of) .none kV5 dc5 pm5 an5 cd5 ct5), sl5⟩) (c5 : PySem.W.codeIn K cd5 "words_of" = true) (k5 : PySem.W.keepIn K (.ref f5) = true)
    {f6 : Addr} {od6 an6 : Option Addr} {sl6 : Array (Option Value)} {oc6 kV6 dc6 pm6 cd6 ct6 : Value} (a6_0 : PySem.W.nsIn K mainGlobals "source_lines" = some (some (.ref f6))) (l6 : K.lookup f6 = some ⟨oc6, od6, .func (PySem.W.fnOf "source_lines" "source_lines" (defArgs s_source_lines) (defBody s_source_lines) (defScope s_source_lines) .none kV6 dc6 pm6 an6 cd6 ct6), sl6⟩) (c6 : PySem.W.codeIn K cd6 "source_lines" = true) (k6 : PySem.W.keepIn K (.ref f6) = true)
    {f7 : Addr} {od7 an7 : Option Addr} {sl7 : Array (Option Value)} {oc7 kV7 dc7 pm7 cd7 ct7 : Value} (a7_0 : PySem.W.nsIn K mainGlobals "_law_pool" = some (some (.ref f7))) (l7 : K.lookup f7 = some ⟨oc7, od7, .func (PySem.W.fnOf "_law_pool" "_law_pool" (defArgs s__law_pool) (defBody s__law_pool) (defScope s__law_pool) .none kV7 dc7 pm7 an7 cd7 ct7), sl7⟩) (c7 : PySem.W.codeIn K cd7 "_law_pool" = true) (k7 : PySem.W.keepIn K (.ref f7) = true)
    {f8 : Addr} {od8 an8 : Option Addr} {sl8 : Array (Option Value)} {oc8 kV8 dc8 pm8 cd8 ct8 : Value} {dT8 : Addr} {dc_8 : Value} {dd_8 : Option Addr} {dk_8 : Tok} {dn_8 : Nat} {ds_8 : Array (Option Value)} (a8_0 : PySem.W.nsIn K mainGlobals "_law_take" = some (some (.ref f8))) (l8 : K.lookup f8 = some ⟨oc8, od8, .func (PySem.W.fnOf "_law_take" "_law_take" (defArgs s__law_take) (defBody s__law_take) (defScope s__law_take) (.ref dT8) kV8 dc8 pm8 an8 cd8 ct8), sl8⟩) (c8 : PySem.W.codeIn K cd8 "_law_take" = true) (k8 : PySem.W.keepIn K (.ref f8) = true)
    (t8 : K.lookup dT8 = some ⟨dc_8, dd_8, .seq #[.int 0 dk_8] dn_8, ds_8⟩)
    {f9 : Addr} {od9 an9 : Option Addr} {sl9 : Array (Option Value)} {oc9 kV9 dc9 pm9 cd9 ct9 : Value} (a9_0 : PySem.W.nsIn K mainGlobals "_law_same" = some (some (.ref f9))) (l9 : K.lookup f9 = some ⟨oc9, od9, .func (PySem.W.fnOf "_law_same" "_law_same" (defArgs s__law_same) (defBody s__law_same) (defScope s__law_same) .none kV9 dc9 pm9 an9 cd9 ct9), sl9⟩) (c9 : PySem.W.codeIn K cd9 "_law_same" = true) (k9 : PySem.W.keepIn K (.ref f9) = true)
    {f10 : Addr} {od10 an10 : Option Addr} {sl10 : Array (Option Value)} {oc10 kV10 dc10 pm10 cd10 ct10 : Value} (a10_0 : PySem.W.nsIn K mainGlobals "_law_kept" = some (some (.ref f10))) (l10 : K.lookup f10 = some ⟨oc10, od10, .func (PySem.W.fnOf "_law_kept" "_law_kept" (defArgs s__law_kept) (defBody s__law_kept) (defScope s__law_kept) .none kV10 dc10 pm10 an10 cd10 ct10), sl10⟩) (c10 : PySem.W.codeIn K cd10 "_law_kept" = true) (k10 : PySem.W.keepIn K (.ref f10) = true)
    {f11 : Addr} {od11 an11 : Option Addr} {sl11 : Array (Option Value)} {oc11 kV11 dc11 pm11 cd11 ct11 : Value} (a11_0 : PySem.W.nsIn K mainGlobals "_law_is_name" = some (some (.ref f11))) (l11 : K.lookup f11 = some ⟨oc11, od11, .func (PySem.W.fnOf "_law_is_name" "_law_is_name" (defArgs s__law_is_name) (defBody s__law_is_name) (defScope s__law_is_name) .none kV11 dc11 pm11 an11 cd11 ct11), sl11⟩) (c11 : PySem.W.codeIn K cd11 "_law_is_name" = true) (k11 : PySem.W.keepIn K (.ref f11) = true)
    {f12 : Addr} {od12 an12 : Option Addr} {sl12 : Array (Option Value)} {oc12 kV12 dc12 pm12 cd12 ct12 : Value} (a12_0 : PySem.W.nsIn K mainGlobals "_law_pick" = some (some (.ref f12))) (l12 : K.lookup f12 = some ⟨oc12, od12, .func (PySem.W.fnOf "_law_pick" "_law_pick" (defArgs s__law_pick) (defBody s__law_pick) (defScope s__law_pick) .none kV12 dc12 pm12 an12 cd12 ct12), sl12⟩) (c12 : PySem.W.codeIn K cd12 "_law_pick" = true) (k12 : PySem.W.keepIn K (.ref f12) = true)
    {f13 : Addr} {od13 an13 : Option Addr} {sl13 : Array (Option Value)} {oc13 kV13 dc13 pm13 cd13 ct13 : Value} (a13_0 : PySem.W.nsIn K mainGlobals "_law_word" = some (some (.ref f13))) (l13 : K.lookup f13 = some ⟨oc13, od13, .func (PySem.W.fnOf "_law_word" "_law_word" (defArgs s__law_word) (defBody s__law_word) (defScope s__law_word) .none kV13 dc13 pm13 an13 cd13 ct13), sl13⟩) (c13 : PySem.W.codeIn K cd13 "_law_word" = true) (k13 : PySem.W.keepIn K (.ref f13) = true)
    {f14 : Addr} {od14 an14 : Option Addr} {sl14 : Array (Option Value)} {oc14 kV14 dc14 pm14 cd14 ct14 : Value} (a14_0 : PySem.W.nsIn K mainGlobals "_law_named" = some (some (.ref f14))) (l14 : K.lookup f14 = some ⟨oc14, od14, .func (PySem.W.fnOf "_law_named" "_law_named" (defArgs s__law_named) (defBody s__law_named) (defScope s__law_named) .none kV14 dc14 pm14 an14 cd14 ct14), sl14⟩) (c14 : PySem.W.codeIn K cd14 "_law_named" = true) (k14 : PySem.W.keepIn K (.ref f14) = true)
    {f15 : Addr} {od15 an15 : Option Addr} {sl15 : Array (Option Value)} {oc15 kV15 dc15 pm15 cd15 ct15 : Value} (a15_0 : PySem.W.nsIn K mainGlobals "_law_bent" = some (some (.ref f15))) (l15 : K.lookup f15 = some ⟨oc15, od15, .func (PySem.W.fnOf "_law_bent" "_law_bent" (defArgs s__law_bent) (defBody s__law_bent) (defScope s__law_bent) .none kV15 dc15 pm15 an15 cd15 ct15), sl15⟩) (c15 : PySem.W.codeIn K cd15 "_law_bent" = true) (k15 : PySem.W.keepIn K (.ref f15) = true)
    {f16 : Addr} {od16 an16 : Option Addr} {sl16 : Array (Option Value)} {oc16 kV16 dc16 pm16 cd16 ct16 : Value} (a16_0 : PySem.W.nsIn K mainGlobals "_law_names_asked" = some (some (.ref f16))) (l16 : K.lookup f16 = some ⟨oc16, od16, .func (PySem.W.fnOf "_law_names_asked" "_law_names_asked" (defArgs s__law_names_asked) (defBody s__law_names_asked) (defScope s__law_names_asked) .none kV16 dc16 pm16 an16 cd16 ct16), sl16⟩) (c16 : PySem.W.codeIn K cd16 "_law_names_asked" = true) (k16 : PySem.W.keepIn K (.ref f16) = true)
    {f17 : Addr} {od17 an17 : Option Addr} {sl17 : Array (Option Value)} {oc17 kV17 dc17 pm17 cd17 ct17 : Value} (a17_0 : PySem.W.nsIn K mainGlobals "_law_line" = some (some (.ref f17))) (l17 : K.lookup f17 = some ⟨oc17, od17, .func (PySem.W.fnOf "_law_line" "_law_line" (defArgs s__law_line) (defBody s__law_line) (defScope s__law_line) .none kV17 dc17 pm17 an17 cd17 ct17), sl17⟩) (c17 : PySem.W.codeIn K cd17 "_law_line" = true) (k17 : PySem.W.keepIn K (.ref f17) = true)
    {f18 : Addr} {od18 an18 : Option Addr} {sl18 : Array (Option Value)} {oc18 kV18 dc18 pm18 cd18 ct18 : Value} (a18_0 : PySem.W.nsIn K mainGlobals "_law_drawn" = some (some (.ref f18))) (l18 : K.lookup f18 = some ⟨oc18, od18, .func (PySem.W.fnOf "_law_drawn" "_law_drawn" (defArgs s__law_drawn) (defBody s__law_drawn) (defScope s__law_drawn) .none kV18 dc18 pm18 an18 cd18 ct18), sl18⟩) (c18 : PySem.W.codeIn K cd18 "_law_drawn" = true) (k18 : PySem.W.keepIn K (.ref f18) = true)
    {f19 : Addr} {od19 an19 : Option Addr} {sl19 : Array (Option Value)} {oc19 kV19 dc19 pm19 cd19 ct19 : Value} (a19_0 : PySem.W.nsIn K mainGlobals "_law_text_asked" = some (some (.ref f19))) (l19 : K.lookup f19 = some ⟨oc19, od19, .func (PySem.W.fnOf "_law_text_asked" "_law_text_asked" (defArgs s__law_text_asked) (defBody s__law_text_asked) (defScope s__law_text_asked) .none kV19 dc19 pm19 an19 cd19 ct19), sl19⟩) (c19 : PySem.W.codeIn K cd19 "_law_text_asked" = true) (k19 : PySem.W.keepIn K (.ref f19) = true)
    {f20 : Addr} {od20 an20 : Option Addr} {sl20 : Array (Option Value)} {oc20 kV20 dc20 pm20 cd20 ct20 : Value} (a20_0 : PySem.W.nsIn K mainGlobals "_law_by_hand" = some (some (.ref f20))) (l20 : K.lookup f20 = some ⟨oc20, od20, .func (PySem.W.fnOf "_law_by_hand" "_law_by_hand" (defArgs s__law_by_hand) (defBody s__law_by_hand) (defScope s__law_by_hand) .none kV20 dc20 pm20 an20 cd20 ct20), sl20⟩) (c20 : PySem.W.codeIn K cd20 "_law_by_hand" = true) (k20 : PySem.W.keepIn K (.ref f20) = true)
    {f21 : Addr} {od21 an21 : Option Addr} {sl21 : Array (Option Value)} {oc21 kV21 dc21 pm21 cd21 ct21 : Value} (a21_0 : PySem.W.nsIn K mainGlobals "law" = some (some (.ref f21))) (l21 : K.lookup f21 = some ⟨oc21, od21, .func (PySem.W.fnOf "law" "law" (defArgs s_law) (defBody s_law) (defScope s_law) .none kV21 dc21 pm21 an21 cd21 ct21), sl21⟩) (c21 : PySem.W.codeIn K cd21 "law" = true) (k21 : PySem.W.keepIn K (.ref f21) = true)
    (z0 : PySem.W.nsIn K mainGlobals "abs" = some none)
    (z1 : PySem.W.nsIn K mainGlobals "bool" = some none)
    (z2 : PySem.W.nsIn K mainGlobals "enumerate" = some none)
    (z3 : PySem.W.nsIn K mainGlobals "int" = some none)
    (z4 : PySem.W.nsIn K mainGlobals "isinstance" = some none)
    (z5 : PySem.W.nsIn K mainGlobals "len" = some none)
    (z6 : PySem.W.nsIn K mainGlobals "list" = some none)
    (z7 : PySem.W.nsIn K mainGlobals "min" = some none)
    (z8 : PySem.W.nsIn K mainGlobals "range" = some none)
    (z9 : PySem.W.nsIn K mainGlobals "str" = some none)
    (z10 : PySem.W.nsIn K mainGlobals "tuple" = some none)
    {q0 : Addr} {qn0 : Nat} {qs0 : Array (Option Value)} {qk0_0 : Tok} {qk0_1 : Tok} {qk0_2 : Tok} {qk0_3 : Tok} {qk0_4 : Tok} {qk0_5 : Tok} {qk0_6 : Tok} (p0 : PySem.W.nsIn K mainGlobals "HEADS" = some (some (.ref q0))) (r0 : K.lookup q0 = some ⟨.type "tuple", .none, .seq #[.str (Str.ofString "form") qk0_0, .str (Str.ofString "box") qk0_1, .str (Str.ofString "choice") qk0_2, .str (Str.ofString "part") qk0_3, .str (Str.ofString "end") qk0_4, .str (Str.ofString "rules") qk0_5, .str (Str.ofString "use") qk0_6] qn0, qs0⟩)
    {qk1 : Tok} (p1 : PySem.W.nsIn K mainGlobals "LETTERS" = some (some (.str (Str.ofString "abcdefghijklmnopqrstuvwxyz") qk1)))
    {qk2 : Tok} (p2 : PySem.W.nsIn K mainGlobals "NEWLINE" = some (some (.str (Str.ofString "\n") qk2)))
    {qk3 : Tok} (p3 : PySem.W.nsIn K mainGlobals "SIGNS" = some (some (.str (Str.ofString "abcdefghijklmnopqrstuvwxyz0123456789") qk3)))
    {q4 : Addr} {qn4 : Nat} {qs4 : Array (Option Value)} {qk4_0 : Tok} {qk4_1 : Tok} {qk4_2 : Tok} {qk4_3 : Tok} {qk4_4 : Tok} {qk4_5 : Tok} {qk4_6 : Tok} {qk4_7 : Tok} {qk4_8 : Tok} {qk4_9 : Tok} {qk4_10 : Tok} (p4 : PySem.W.nsIn K mainGlobals "WORDS" = some (some (.ref q4))) (r4 : K.lookup q4 = some ⟨.type "tuple", .none, .seq #[.str (Str.ofString "if") qk4_0, .str (Str.ofString "then") qk4_1, .str (Str.ofString "and") qk4_2, .str (Str.ofString "or") qk4_3, .str (Str.ofString "not") qk4_4, .str (Str.ofString "never") qk4_5, .str (Str.ofString "all") qk4_6, .str (Str.ofString "most") qk4_7, .str (Str.ofString "least") qk4_8, .str (Str.ofString "just") qk4_9, .str (Str.ofString "same") qk4_10] qn4, qs4⟩)
    : ∃ fd : FuncData, (∀ (s : Shared) (v : Value), BindsTo s fd ⟨[v], []⟩ [("script", v)]) ∧ ∀ base : Heap, K.In base → base.Ns mainGlobals mg → FnOk l.prog w K mg base CX0 5 fa fd ["script"] (toSp0 K wp_law) := by
  have e := hfa.symm.trans (PySem.W.mg_of X G a21_0)
  cases e
  let T : Txt K mg := { f_lines_of := f0, fd_lines_of := _, F_lines_of := fun_mk (st := s_lines_of) l0 c0 k0, f_line_words := f1, fd_line_words := _, F_line_words := fun_mk (st := s_line_words) l1 c1 k1, f_is_passed_over := f2, fd_is_passed_over := _, F_is_passed_over := fun_mk (st := s_is_passed_over) l2 c2 k2, f_read_lines := f3, fd_read_lines := _, F_read_lines := fun_mk (st := s_read_lines) l3 c3 k3, f_is_name := f4, fd_is_name := _, F_is_name := fun_mk (st := s_is_name) l4 c4 k4, f_words_of := f5, fd_words_of := _, F_words_of := fun_mk (st := s_words_of) l5 c5 k5, f_source_lines := f6, fd_source_lines := _, F_source_lines := fun_mk (st := s_source_lines) l6 c6 k6, f__law_pool := f7, fd__law_pool := _, F__law_pool := fun_mk (st := s__law_pool) l7 c7 k7, f__law_take := f8, fd__law_take := _, F__law_take := fund_mk (st := s__law_take) l8 t8 c8 k8, f__law_same := f9, fd__law_same := _, F__law_same := fun_mk (st := s__law_same) l9 c9 k9, f__law_kept := f10, fd__law_kept := _, F__law_kept := fun_mk (st := s__law_kept) l10 c10 k10, f__law_is_name := f11, fd__law_is_name := _, F__law_is_name := fun_mk (st := s__law_is_name) l11 c11 k11, f__law_pick := f12, fd__law_pick := _, F__law_pick := fun_mk (st := s__law_pick) l12 c12 k12, f__law_word := f13, fd__law_word := _, F__law_word := fun_mk (st := s__law_word) l13 c13 k13, f__law_named := f14, fd__law_named := _, F__law_named := fun_mk (st := s__law_named) l14 c14 k14, f__law_bent := f15, fd__law_bent := _, F__law_bent := fun_mk (st := s__law_bent) l15 c15 k15, f__law_names_asked := f16, fd__law_names_asked := _, F__law_names_asked := fun_mk (st := s__law_names_asked) l16 c16 k16, f__law_line := f17, fd__law_line := _, F__law_line := fun_mk (st := s__law_line) l17 c17 k17, f__law_drawn := f18, fd__law_drawn := _, F__law_drawn := fun_mk (st := s__law_drawn) l18 c18 k18, f__law_text_asked := f19, fd__law_text_asked := _, F__law_text_asked := fun_mk (st := s__law_text_asked) l19 c19 k19, f__law_by_hand := f20, fd__law_by_hand := _, F__law_by_hand := fun_mk (st := s__law_by_hand) l20 c20 k20, f_law := fa, fd_law := _, F_law := fun_mk (st := s_law) l21 c21 k21, g__law_bent := PySem.W.mg_of X G a15_0, g__law_by_hand := PySem.W.mg_of X G a20_0, g__law_drawn := PySem.W.mg_of X G a18_0, g__law_is_name := PySem.W.mg_of X G a11_0, g__law_kept := PySem.W.mg_of X G a10_0, g__law_line := PySem.W.mg_of X G a17_0, g__law_named := PySem.W.mg_of X G a14_0, g__law_names_asked := PySem.W.mg_of X G a16_0, g__law_pick := PySem.W.mg_of X G a12_0, g__law_pool := PySem.W.mg_of X G a7_0, g__law_same := PySem.W.mg_of X G a9_0, g__law_take := PySem.W.mg_of X G a8_0, g__law_text_asked := PySem.W.mg_of X G a19_0, g__law_word := PySem.W.mg_of X G a13_0, g_is_name := PySem.W.mg_of X G a4_0, g_is_passed_over := PySem.W.mg_of X G a2_0, g_line_words := PySem.W.mg_of X G a1_0, g_lines_of := PySem.W.mg_of X G a0_0, g_read_lines := PySem.W.mg_of X G a3_0, g_source_lines := PySem.W.mg_of X G a6_0, g_words_of := PySem.W.mg_of X G a5_0, n_abs := PySem.W.mg_none_of X G z0, n_bool := PySem.W.mg_none_of X G z1, n_enumerate := PySem.W.mg_none_of X G z2, n_int := PySem.W.mg_none_of X G z3, n_isinstance := PySem.W.mg_none_of X G z4, n_len := PySem.W.mg_none_of X G z5, n_list := PySem.W.mg_none_of X G z6, n_min := PySem.W.mg_none_of X G z7, n_range := PySem.W.mg_none_of X G z8, n_str := PySem.W.mg_none_of X G z9, n_tuple := PySem.W.mg_none_of X G z10, v_HEADS := .ref q0, u_HEADS := _, m_HEADS := PySem.W.mg_of X G p0, r_HEADS := rfl, d_HEADS := fun F => .tup (.inr ⟨_, _, _, r0, rfl, rfl, rfl, Nat.le_of_ble_eq_true rfl, ((.cons ⟨_, rfl⟩ (.cons ⟨_, rfl⟩ (.cons ⟨_, rfl⟩ (.cons ⟨_, rfl⟩ (.cons ⟨_, rfl⟩ (.cons ⟨_, rfl⟩ (.cons ⟨_, rfl⟩ .nil))))))) : Vals [.str (Str.ofString "form"), .str (Str.ofString "box"), .str (Str.ofString "choice"), .str (Str.ofString "part"), .str (Str.ofString "end"), .str (Str.ofString "rules"), .str (Str.ofString "use")] _)⟩) (.cons (.str _) (.cons (.str _) (.cons (.str _) (.cons (.str _) (.cons (.str _) (.cons (.str _) (.cons (.str _) .nil))))))), v_LETTERS := .str (Str.ofString "abcdefghijklmnopqrstuvwxyz"), u_LETTERS := _, m_LETTERS := PySem.W.mg_of X G p1, r_LETTERS := ⟨_, rfl⟩, d_LETTERS := fun F => .str _, v_NEWLINE := .str (Str.ofString "\n"), u_NEWLINE := _, m_NEWLINE := PySem.W.mg_of X G p2, r_NEWLINE := ⟨_, rfl⟩, d_NEWLINE := fun F => .str _, v_SIGNS := .str (Str.ofString "abcdefghijklmnopqrstuvwxyz0123456789"), u_SIGNS := _, m_SIGNS := PySem.W.mg_of X G p3, r_SIGNS := ⟨_, rfl⟩, d_SIGNS := fun F => .str _, v_WORDS := .ref q4, u_WORDS := _, m_WORDS := PySem.W.mg_of X G p4, r_WORDS := rfl, d_WORDS := fun F => .tup (.inr ⟨_, _, _, r4, rfl, rfl, rfl, Nat.le_of_ble_eq_true rfl, ((.cons ⟨_, rfl⟩ (.cons ⟨_, rfl⟩ (.cons ⟨_, rfl⟩ (.cons ⟨_, rfl⟩ (.cons ⟨_, rfl⟩ (.cons ⟨_, rfl⟩ (.cons ⟨_, rfl⟩ (.cons ⟨_, rfl⟩ (.cons ⟨_, rfl⟩ (.cons ⟨_, rfl⟩ (.cons ⟨_, rfl⟩ .nil))))))))))) : Vals [.str (Str.ofString "if"), .str (Str.ofString "then"), .str (Str.ofString "and"), .str (Str.ofString "or"), .str (Str.ofString "not"), .str (Str.ofString "never"), .str (Str.ofString "all"), .str (Str.ofString "most"), .str (Str.ofString "least"), .str (Str.ofString "just"), .str (Str.ofString "same")] _)⟩) (.cons (.str _) (.cons (.str _) (.cons (.str _) (.cons (.str _) (.cons (.str _) (.cons (.str _) (.cons (.str _) (.cons (.str _) (.cons (.str _) (.cons (.str _) (.cons (.str _) .nil))))))))))) }
  exact ⟨T.fd_law, fun s v => .of_eq rfl, fun base _ _ => ok_law T⟩
end K01
end
open PySem PySem.W PyProof.Rows
set_option maxHeartbeats 0 in
theorem PySem.Challenge.cw_forcedtold_k01_words_holds : PySem.Challenge.rw_forcedtold_k01_words.Holds := by
  w_on; o_law; k_head; (case hw => w_witness2)
  k_fill
  refine L2.walk_ofB (l := PySem.Challenge.rw_forcedtold_k01_words) (n := 63) (k := 5) (x := "script") (CX := fun _ => L2.CX0) (sp := fun w => VL.toSp0 _ K01.wp_law) rfl (by decide) rfl ⟨rfl, by decide, by decide⟩ (fun w h Y => PySem.W.kIn_of Y) ?F (fun _ _ a ns hl hb _ hS => K01.arg_ok hl hb hS) (fun _ _ _ _ _ h => h)
  case F =>
    intro w mg fa h KX G hmg
    refine' K01.all_mk KX G hmg ?a0_0 ?l0 ?c0 ?k0 ?a1_0 ?l1 ?c1 ?k1 ?a2_0 ?l2 ?c2 ?k2 ?a3_0 ?l3 ?c3 ?k3 ?a4_0 ?l4 ?c4 ?k4 ?a5_0 ?l5 ?c5 ?k5 ?a6_0 ?l6 ?c6 ?k6 ?a7_0 ?l7 ?c7 ?k7 ?a8_0 ?l8 ?c8 ?k8 ?t8 ?a9_0 ?l9 ?c9 ?k9 ?a10_0 ?l10 ?c10 ?k10 ?a11_0 ?l11 ?c11 ?k11 ?a12_0 ?l12 ?c12 ?k12 ?a13_0 ?l13 ?c13 ?k13 ?a14_0 ?l14 ?c14 ?k14 ?a15_0 ?l15 ?c15 ?k15 ?a16_0 ?l16 ?c16 ?k16 ?a17_0 ?l17 ?c17 ?k17 ?a18_0 ?l18 ?c18 ?k18 ?a19_0 ?l19 ?c19 ?k19 ?a20_0 ?l20 ?c20 ?k20 ?a21_0 ?l21 ?c21 ?k21 ?z0 ?z1 ?z2 ?z3 ?z4 ?z5 ?z6 ?z7 ?z8 ?z9 ?z10 ?p0 ?r0 ?p1 ?p2 ?p3 ?p4 ?r4
    (case a0_0 => k_is); (case l0 => k_is); (case c0 => k_is); (case k0 => k_is); (case a1_0 => k_is); (case l1 => k_is); (case c1 => k_is); (case k1 => k_is); (case a2_0 => k_is); (case l2 => k_is); (case c2 => k_is); (case k2 => k_is); (case a3_0 => k_is); (case l3 => k_is); (case c3 => k_is); (case k3 => k_is); (case a4_0 => k_is); (case l4 => k_is); (case c4 => k_is); (case k4 => k_is); (case a5_0 => k_is); (case l5 => k_is); (case c5 => k_is); (case k5 => k_is); (case a6_0 => k_is); (case l6 => k_is); (case c6 => k_is); (case k6 => k_is); (case a7_0 => k_is); (case l7 => k_is); (case c7 => k_is); (case k7 => k_is); (case a8_0 => k_is); (case l8 => k_is); (case c8 => k_is); (case k8 => k_is); (case t8 => k_is); (case a9_0 => k_is); (case l9 => k_is); (case c9 => k_is); (case k9 => k_is); (case a10_0 => k_is); (case l10 => k_is); (case c10 => k_is); (case k10 => k_is); (case a11_0 => k_is); (case l11 => k_is); (case c11 => k_is); (case k11 => k_is); (case a12_0 => k_is); (case l12 => k_is); (case c12 => k_is); (case k12 => k_is); (case a13_0 => k_is); (case l13 => k_is); (case c13 => k_is); (case k13 => k_is); (case a14_0 => k_is); (case l14 => k_is); (case c14 => k_is); (case k14 => k_is); (case a15_0 => k_is); (case l15 => k_is); (case c15 => k_is); (case k15 => k_is); (case a16_0 => k_is); (case l16 => k_is); (case c16 => k_is); (case k16 => k_is); (case a17_0 => k_is); (case l17 => k_is); (case c17 => k_is); (case k17 => k_is); (case a18_0 => k_is); (case l18 => k_is); (case c18 => k_is); (case k18 => k_is); (case a19_0 => k_is); (case l19 => k_is); (case c19 => k_is); (case k19 => k_is); (case a20_0 => k_is); (case l20 => k_is); (case c20 => k_is); (case k20 => k_is); (case a21_0 => k_is); (case l21 => k_is); (case c21 => k_is); (case k21 => k_is); (case z0 => k_is); (case z1 => k_is); (case z2 => k_is); (case z3 => k_is); (case z4 => k_is); (case z5 => k_is); (case z6 => k_is); (case z7 => k_is); (case z8 => k_is); (case z9 => k_is); (case z10 => k_is); (case p0 => k_is); (case r0 => k_is); (case p1 => k_is); (case p2 => k_is); (case p3 => k_is); (case p4 => k_is); (case r4 => k_is)
