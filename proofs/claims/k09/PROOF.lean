import PyProof.Rows.All
import Wide.All
import OpenK.AllK
import Wide.FinOn
import HandS.ForMost
import HandS.Deep
import HandS.Flow
import HandS.Conv
import HandS.TupAny
import HandS.TupMul
import HandS.Wide
import HandS.WideBits
import KE.SortData
import KE.KDictPairs
import HandS.IsInst
import HandS.TupLe
import HandS.Style
import HandS.More
import HandS.Evl
import HandS.Dict
import HandS.TupSets
import KE.KeyNested
import HandS.Ends
import PySem.Challenge.RW_forcedtold_k09_joins
set_option Elab.async false
set_option linter.all false
set_option maxRecDepth 100000
set_option maxHeartbeats 4000000
section
namespace VL
open PySem PySem.Spec PyProof.Rows L2

/-! ### tuples whose object is known to have no dict of its own -/
def TupN (K : PySem.W.Frag) (H : Hp) (a : Addr) (xs : List V) : Prop :=
  (∃ o, H a = some (.frz o (.tup xs)) ∧ o.dict = none) ∨
    ∃ (o : Obj) (its : Array Value) (n : Nat), K.lookup a = some o ∧ o.cls = .type "tuple" ∧ o.dict = none ∧ o.data = .seq its n ∧ its.size ≤ sizeLine ∧ Vals xs its.toList
theorem TupN.sq {K : PySem.W.Frag} {H : Hp} {a : Addr} {xs : List V} (h : TupN K H a xs) : SqT K H a xs := by
  rcases h with ⟨o, e, _⟩ | ⟨o, its, n, h1, h2, _, h3⟩
  · exact .inl (.inr ⟨o, e⟩)
  · exact .inr ⟨o, its, n, h1, h2, h3⟩
/-- what a heap holds of it -/
theorem TupN.at {X : Cx} {pins : List (Addr × Obj)} {σ : L2.St} {H : Hp} {s : Shared} {a : Addr} {xs : List V} (I : Inv X pins σ H s) (h : TupN X.K H a xs) :
    ∃ its : List Value, Vals xs its ∧ PlainSeq "tuple" s.heap a its.toArray ∧ xs.length ≤ sizeLine := by
  rcases h with ⟨o, e, hd⟩ | ⟨o, its, n, hk, hc, hd, hs, hz, r⟩
  · obtain ⟨ho, z, its, r, ⟨o', ho', hc, n, hdat⟩⟩ := I.hok a _ e
    rw [ho] at ho'; cases ho'
    exact ⟨its, r, ⟨o, n, ho, hc, hd, hdat⟩, z⟩
  · refine ⟨its.toList, r, ⟨o, n, I.kIn a o hk, hc, hd, by simpa using hs⟩, ?_⟩
    have el := r.length
    simp only [Array.length_toList] at el
    omega
section
variable {X : Cx} {es : List Expr} {t : TA} {pos : Pos}
def tTupN (t : TA) : TE := fun σ H Q => t σ H fun xs H1 => xs.length ≤ sizeLine ∧ ∀ p o, H1 p = none → o.dict = none → Q (.ref p) (upd H1 p (.frz o (.tup xs)))
theorem pe_tupN {x1} (h : PA X es t) : PE X (.Tuple es x1 pos) (tTupN t) :=
  ⟨fun pins s σ H Q I hq => wpAny_Tuple_spliced (thn (h.run pos pins s σ H _ I hq) fun us s1 ⟨xs, H1, I1, r, z, q⟩ => ⟨by rw [← r.length]; exact z,
    .ref s1.heap.objs.size, upd H1 s1.heap.objs.size (.frz _ (.tup xs)), I1.laid (t' := s1.toks) (fun b u e => Heap.get?_push_of_some _ e) (Nat.le_refl _) ⟨Heap.get?_push_size _ rfl, z, us, r, _, Heap.get?_push_size _ rfl, rfl, _, rfl⟩, rfl, q _ _ (I1.hok.fresh (Nat.le_refl _)) rfl⟩)⟩
/-- tuple(xs) of a list, of a tuple -/
theorem call_tupN : CallR X (.type "tuple") (fun xs H Q => ∃ p ys, xs = [.ref p] ∧ ((SqL X.K H p ys ∧ ∀ l o, H l = none → o.dict = none → Q (.ref l) (upd H l (.frz o (.tup ys)))) ∨ (SqT X.K H p ys ∧ Q (.ref p) H))) := by
  intro pins s σ H xs us Q I r ⟨p, ys, ex, h⟩
  subst ex
  obtain ⟨u, eu, rx⟩ := vals1 r
  subst eu
  cases rx
  rcases h with ⟨hq, q⟩ | ⟨hq, q⟩
  · obtain ⟨its, ri, pl, hz⟩ := I.list hq
    have hl := ri.length
    refine call_tuple_list pl.isList (fun hp kp => ?_) (by simp only [List.size_toArray] <;> omega)
    have J : Inv X pins σ H { s with heap := hp } := I.kept (t' := s.toks) kp
    exact ⟨.ref hp.objs.size, upd H hp.objs.size (.frz _ (.tup ys)), J.laid (t' := s.toks) (fun b o e => Heap.get?_push_of_some _ e) (Nat.le_refl _) ⟨Heap.get?_push_size _ rfl, hz, its, ri, IsTup.new _ _⟩, rfl, q _ _ (J.hok.fresh (Nat.le_refl _)) rfl⟩
  · obtain ⟨its, _, pl, _⟩ := I.tuple hq
    exact call_tuple_same pl ⟨.ref p, H, I, rfl, q⟩
/-- tuple(range(..)) -/
theorem pe_tupRgN {e : Expr} {wi : L2.St → Hp → (Int → Int → Hp → Prop) → Prop} {p : Pos} (hc : X.calm = true) (hg : Gl X "tuple") (hm : X.mg "tuple" = none) (he : PRg X e wi)
    (na : starEach [e] X.env = (false, eval e X.env) :: starEach [] X.env := by rfl) : PE X (.Call (.Name "tuple" p) [e] [] pos) (fun σ H Q => wi σ H fun a b H1 => RgOk a b ∧ ∀ l o, H1 l = none → o.dict = none → Q (.ref l) (upd H1 l (.frz o (.tup (rgV a b))))) := by
  refine ⟨fun pins s σ H Q I h => ?_⟩
  refine Call_ (ld_blt I hg hm boot_tuple (callWith_type1 (args_cons (thn (he pins s σ H _ I h) fun x s1 ⟨r, a, b, t, u, v, H1, ex, hr, I1, ok, q⟩ => args_nil ?_) na) na))
  subst ex
  obtain ⟨b1, b2, b3, b4, b5⟩ := ok
  refine call_tuple_range (n := (b - a).toNat) (I1.ok.hd hc) hr (small_one b1 b2 b3 b4) (rangeSize_nat a b) b5 fun hp tk acc hk hi => ?_
  have J : Inv X pins σ H1 { s1 with heap := hp, toks := tk } := I1.kept hk
  refine ⟨.ref hp.objs.size, upd H1 hp.objs.size (.frz _ (.tup (rgV a b))), J.laid (t' := tk) (fun c o e => Heap.get?_push_of_some _ e) (Nat.le_refl _) ⟨Heap.get?_push_size _ rfl, ?_, acc.toList, vals_rg hi, ?_⟩, rfl, q _ _ (J.hok.fresh (Nat.le_refl _)) rfl⟩
  · rw [rgV_length, sizeLine_eq]; omega
  · rw [Array.toArray_toList]; exact IsTup.new _ _
/-- t + u -/
theorem op_catN : OpR X (binaryOp .Add) (fun x y H Q => ∃ a b xs ys, x = .ref a ∧ y = .ref b ∧ SqT X.K H a xs ∧ SqT X.K H b ys ∧ xs.length + ys.length ≤ sizeLine ∧
    (xs = [] → Q (.ref b) H) ∧ (xs ≠ [] → ys = [] → Q (.ref a) H) ∧ (xs ≠ [] → ys ≠ [] → ∀ p o, H p = none → o.dict = none → Q (.ref p) (upd H p (.frz o (.tup (xs ++ ys)))))) := by
  intro pins s σ H x y v u Q I rx ry ⟨a, b, xs, ys, ex, ey, ha, hb, hz, q0, q1, q2⟩
  subst ex; subst ey
  cases rx
  cases ry
  obtain ⟨its, r1, p1, _⟩ := I.tuple ha
  obtain ⟨its2, r2, p2, _⟩ := I.tuple hb
  by_cases hx : xs = []
  · subst hx
    cases r1
    exact cat_tup0 p1 p2 ⟨.ref b, H, I, rfl, q0 rfl⟩
  · refine HT.cat_tup p1 p2 (fun z => hx (r1.nil_iff.mp z)) (fun z => ⟨.ref a, H, I, rfl, q1 hx (r2.nil_iff.mp z)⟩) (fun z => ?_) (by rw [← r1.length, ← r2.length]; exact hz)
    exact ⟨.ref s.heap.objs.size, upd H s.heap.objs.size (.frz _ (.tup (xs ++ ys))), I.laid (t' := s.toks) (fun c ob q => Heap.get?_push_of_some _ q) (Nat.le_refl _) ⟨Heap.get?_push_size _ rfl, by rw [List.length_append]; exact hz, _, r1.append r2, IsTup.new _ _⟩, rfl, q2 hx (fun w => z (r2.nil_iff.mpr w)) _ _ (I.hok.fresh (Nat.le_refl _)) rfl⟩
/-- t[lo:hi] -/
theorem sl_tupN : SlR X (fun x lo hi H Q => ∃ a xs, x = .ref a ∧ SqT X.K H a xs ∧ (HT.sIx xs.length 0 lo = 0 ∧ HT.sIx xs.length xs.length hi = xs.length → Q (.ref a) H) ∧
    (¬ (HT.sIx xs.length 0 lo = 0 ∧ HT.sIx xs.length xs.length hi = xs.length) → ∀ p o, H p = none → o.dict = none → Q (.ref p) (upd H p (.frz o (.tup (cutV xs lo hi)))))) := by
  intro pins s σ H x v vl vu lo hi sl Q I rx hs pl pu ⟨a, xs, ex, hx, q1, q2⟩
  subst ex
  cases rx
  obtain ⟨its, r, ht, hz⟩ := I.tuple hx
  have hl : its.toArray.size = xs.length := by rw [List.size_toArray]; exact r.length.symm
  refine ⟨"tuple", _, slot_tuple_getitem.lookup, ht.typeIs, ?_⟩
  by_cases hw : HT.sIx xs.length 0 lo = 0 ∧ HT.sIx xs.length xs.length hi = xs.length
  · exact getItem_tuple_whole ht hs pl pu (by rw [hl]; exact hw) ⟨.ref a, H, I, rfl, q1 hw⟩
  · refine HT.getItem_tuple_cut ht hs pl pu (by rw [hl]; exact hw) ?_ (by rw [hl]; exact hz)
    rw [hl]
    exact ⟨.ref s.heap.objs.size, upd H s.heap.objs.size (.frz _ (.tup (cutV xs lo hi))), I.laid (t' := s.toks) (fun c ob q => Heap.get?_push_of_some _ q) (Nat.le_refl _) ⟨Heap.get?_push_size _ rfl, Nat.le_trans (cutV_length xs lo hi) hz, _, (r.drop (HT.sIx xs.length 0 lo)).take (HT.sIx xs.length xs.length hi - HT.sIx xs.length 0 lo), IsTup.new _ _⟩, rfl, q2 hw _ _ (I.hok.fresh (Nat.le_refl _)) rfl⟩
/-- t * k -/
theorem tuple_mul1 (l : Addr) (items : Array Value) (n : Nat) (dd : Option Addr) (sl : Array (Option Value)) (u : Tok) (hne : items.isEmpty = false) :
    Meets (Builtin.«tuple.__mul__» ⟨[.ref l, .int 1 u], []⟩) (fun _ R s => s.heap.get? l = some { cls := .type "tuple", dict := dd, data := .seq items n, slots := sl } ∧ R (.ok (.ret (Value.ref l))) s) :=
  .of_wp fun prog w A R s h => by
    obtain ⟨hp, g, d, tk, os⟩ := s
    obtain ⟨hl, h⟩ := h
    have f1 := AutoSeq1.idx_int
    have hT : (⟨hp, g, d, tk, os⟩ : Shared).TypeIs (.ref l) "tuple" := ⟨_, hl, rfl⟩
    have c0 : (decide ((1 : Int) < -(2 ^ 63)) || decide ((1 : Int) ≥ 2 ^ 63)) = false := by decide
    wp_walk using wpAny_loadPart' hl
    repeat (first
      | (refine wpAny_ite_false (decide_eq_false (by rw [c0]; exact Bool.false_ne_true)) ?_; wp_walk using wpAny_loadPart' hl)
      | (refine wpAny_ite_true (by rw [hne]; rfl) ?_; wp_walk using wpAny_loadPart' hl))
    all_goals first | exact ⟨_, rfl, h⟩ | skip
theorem op_repN : OpR X (binaryOp .Mult) (fun x y H Q => ∃ l k xs, x = .ref l ∧ y = .int k ∧ SqT X.K H l xs ∧ xs ≠ [] ∧ 1 ≤ k ∧ k ≤ 1000 ∧ xs.length ≤ 1000 ∧ (k = 1 → Q (.ref l) H) ∧
    (2 ≤ k → ∀ p o, H p = none → o.dict = none → Q (.ref p) (upd H p (.frz o (.tup (List.replicate k.toNat xs).flatten))))) := by
  intro pins s σ H x y v u Q I rx ry ⟨l, k, xs, ex, ey, hT, hne, h1, h2, hz, q1, q2⟩
  subst ex; subst ey
  cases rx
  obtain ⟨t, et⟩ := ry
  subst et
  obtain ⟨its, r, ⟨⟨cls, dd, data, sl⟩, ho, hc, n, hd⟩, hs⟩ := I.tuple hT
  simp only at hc hd
  subst hc hd
  have hle : its.length = xs.length := r.length.symm
  have hi : its.toArray.isEmpty = false := by
    cases its with
    | nil => exact absurd (List.eq_nil_of_length_eq_zero (by simpa using hle.symm)) hne
    | cons a b => rfl
  have go : ∀ {S : PySem.Spec}, Meets (Builtin.«tuple.__mul__» ⟨[.ref l, .int k t], []⟩) S → S X.A (wants (EP X pins σ Q) X.xe) s → wpAny (model X.prog X.w) X.A (binaryOp .Mult (.ref l) (.int k t)) (EP X pins σ Q) X.xe s := fun g h =>
    wpAny_binaryOp_repeat_ref (T := "tuple") (U := "int") (by decide) ⟨_, ho, rfl⟩ (fun s' => typeIs_int s' k t) noFill_tuple_mul F.fills_int_mul F.slot_int_rmul repeat_tuple F.slot_int_index.lookup
      (call_meets F.slot_int_rmul (typeIs_int s k t) F.entry_int_rmul (F.args_int_rmul_2 _ _) (int_rmul_tuple k t l its.toArray n dd sl)
        ⟨ho, rfl, ⟨_, ho, rfl⟩, call_meets F.slot_tuple_mul ⟨_, ho, rfl⟩ F.entry_tuple_mul (F.args_tuple_mul_2 _ _) g h⟩)
  by_cases e1 : k = 1
  · subst e1
    exact go (tuple_mul1 l its.toArray n dd sl t hi) ⟨ho, .ref l, H, I, rfl, q1 rfl⟩
  have k2 : 2 ≤ k := by omega
  have hsz0 : its.toArray.size = xs.length := by rw [List.size_toArray, hle]
  have bb : k.toNat * xs.length ≤ 1000 * 1000 := Nat.mul_le_mul (by omega) hz
  have hm : ((its.toArray.size : Nat) : Int) * k ≤ 1000000 := by
    rw [hsz0]
    have a1 : ((xs.length : Nat) : Int) * k ≤ 1000 * k := Int.mul_le_mul_of_nonneg_right (by omega) (by omega)
    omega
  have flen : (List.replicate k.toNat its).flatten.length ≤ sizeLine := by
    rw [lm_len_rep_flat, hle, sizeLine_eq]
    omega
  have c4 : Builtin.Tuple.tupleTooMany (((its.toArray.size : Nat) : Int) * k) = false := by
    unfold Builtin.Tuple.tupleTooMany
    rw [sizeLine_eq]
    exact decide_eq_false (by omega)
  refine go (tuple_mulW l its.toArray n dd sl k t (by rw [decide_eq_false (by omega), decide_eq_false (by omega)] <;> rfl) (by rw [hi, Bool.false_or]; exact beq_eq_false_iff_ne.mpr e1) (by rw [hi, Bool.or_false]; exact decide_eq_false (by omega)) (by omega) c4 (by rw [size_rep, List.size_toArray]; exact flen)) ⟨ho, ?_⟩
  rw [size_rep]
  exact ⟨.ref s.heap.objs.size, upd H s.heap.objs.size (.frz _ (.tup (List.replicate k.toNat xs).flatten)), I.laid (t' := s.toks) (fun b ob q => Heap.get?_push_of_some _ q) (Nat.le_refl _) ⟨Heap.get?_push_size _ rfl, by rw [lm_len_rep_flat, sizeLine_eq]; omega, _, r.rep k.toNat, IsTup.new _ _⟩, rfl, q2 k2 _ _ (I.hok.fresh (Nat.le_refl _)) rfl⟩
end
end VL
end
section
namespace VL
open PySem PySem.Spec L2

/-! ### heaps as parts -/
def emp : Hp := fun _ => none
def jn (h k : Hp) : Hp := fun a => match h a with | some o => some o | none => k a
def Dis (h k : Hp) : Prop := ∀ a, h a = none ∨ k a = none
def one (p : Addr) (o : HO) : Hp := upd emp p o

theorem jn_l {h k : Hp} {a : Addr} {o : HO} (e : h a = some o) : jn h k a = some o := by unfold jn; rw [e]
theorem jn_r {h k : Hp} {a : Addr} (e : h a = none) : jn h k a = k a := by unfold jn; rw [e]
theorem jn_none {h k : Hp} {a : Addr} : jn h k a = none ↔ h a = none ∧ k a = none := by
  cases e : h a with
  | none => rw [jn_r e]; simp
  | some o => rw [jn_l e]; simp
theorem jn_emp {h : Hp} : jn h emp = h := by
  funext a
  cases e : h a with
  | none => rw [jn_r e]; rfl
  | some o => rw [jn_l e]
theorem emp_jn {h : Hp} : jn emp h = h := by
  funext a; exact jn_r rfl
theorem jn_assoc {h k l : Hp} : jn (jn h k) l = jn h (jn k l) := by
  funext a
  cases e : h a with
  | some o => rw [jn_l e, jn_l (jn_l e)]
  | none =>
    rw [jn_r e]
    cases e2 : k a with
    | some o => rw [jn_l e2, jn_l (by rw [jn_r e]; exact e2)]
    | none => rw [jn_r e2, jn_r (by rw [jn_r e]; exact e2)]
theorem jn_comm {h k : Hp} (d : Dis h k) : jn h k = jn k h := by
  funext a
  rcases d a with e | e
  · rw [jn_r e]
    cases e2 : k a with
    | some o => rw [jn_l e2]
    | none => rw [jn_r e2]; exact e.symm
  · cases e2 : h a with
    | some o => rw [jn_l e2, jn_r e]; exact e2.symm
    | none => rw [jn_r e2, jn_r e]; exact e.trans e2.symm
theorem same_jn {h k H : Hp} (a : Same h H) (b : Same k H) : Same (jn h k) H := fun x o e => by
  cases e1 : h x with
  | some u => rw [jn_l e1] at e; cases e; exact a _ _ e1
  | none => rw [jn_r e1] at e; exact b _ _ e
theorem same_l {h k : Hp} : Same h (jn h k) := fun _ _ e => jn_l e
theorem same_r {h k : Hp} (d : Dis h k) : Same k (jn h k) := fun a o e => by
  rcases d a with z | z
  · rw [jn_r z]; exact e
  · rw [z] at e; cases e
theorem Dis.symm {h k : Hp} (d : Dis h k) : Dis k h := fun a => (d a).symm
theorem Dis.jn {h k l : Hp} (a : Dis h l) (b : Dis k l) : Dis (jn h k) l := fun x => by
  rcases a x with e | e
  · rcases b x with z | z
    · exact .inl (jn_none.mpr ⟨e, z⟩)
    · exact .inr z
  · exact .inr e
theorem Dis.sub {h h' k : Hp} (s : Same h h') (d : Dis h' k) : Dis h k := fun a => by
  rcases d a with e | e
  · exact .inl (s.free e)
  · exact .inr e
theorem Dis.emp {k : Hp} : Dis VL.emp k := fun _ => .inl rfl
theorem same_emp {k : Hp} : Same emp k := fun _ _ e => by cases e
theorem one_at {p : Addr} {o : HO} : one p o p = some o := upd_same
theorem one_ne {p a : Addr} {o : HO} (h : a ≠ p) : one p o a = none := upd_ne h
theorem same_one {p : Addr} {o : HO} {H : Hp} (h : H p = some o) : Same (one p o) H := fun a u e => by
  by_cases z : a = p
  · subst z; rw [one_at] at e; cases e; exact h
  · rw [one_ne z] at e; cases e
theorem dis_one {p : Addr} {o : HO} {k : Hp} (h : k p = none) : Dis (one p o) k := fun a => by
  by_cases z : a = p
  · subst z; exact .inr h
  · exact .inl (one_ne z)
theorem of_dis_one {p : Addr} {o : HO} {k : Hp} (d : Dis (one p o) k) : k p = none := by
  rcases d p with e | e
  · rw [one_at] at e; cases e
  · exact e
theorem same_new {H : Hp} {p : Addr} {o : HO} (h : H p = none) : Same H (upd H p o) := fun a u e => by
  rw [upd_ne (ne_of_none e h)]; exact e

/-! ### data in a heap -/
def kD : Key → PyData
  | .inl i => .int i
  | .inr x => .str x
/-- the script, as a datum of its own -/
def scD (ns : List Int) : PyData := .dict ((.none, .none) :: ns.map fun n => (.int n, .none))
mutual
inductive Rp (K : PySem.W.Frag) (F : Hp) : V → PyData → Prop
  | non : Rp K F .non .none
  | bl (b : Bool) : Rp K F (.bl b) (.bool b)
  | int (i : Int) : Rp K F (.int i) (.int i)
  | str (x : Str) : Rp K F (.str x) (.str x)
  | lst {a : Addr} {xs : List V} {ds : List PyData} : F a = some (.lst xs) → RpAll K F xs ds → Rp K F (.ref a) (.list ds)
  | tup {a : Addr} {xs : List V} {ds : List PyData} : TupN K F a xs → RpAll K F xs ds → Rp K F (.ref a) (.tuple ds)
  | dct {a : Addr} {ks : List Key} {xs : List V} {ds : List PyData} {kvs : List (PyData × PyData)} : F a = some (.dK (ks.zip xs)) → ks.length = ds.length → RpAll K F xs ds → kvs = (ks.map kD).zip ds → Rp K F (.ref a) (.dict kvs)
  | scr {a : Addr} {ns : List Int} : SqL K F a (ns.map V.int) → Rp K F (.ref a) (scD ns)
inductive RpAll (K : PySem.W.Frag) (F : Hp) : List V → List PyData → Prop
  | nil : RpAll K F [] []
  | cons {v : V} {vs : List V} {d : PyData} {ds : List PyData} : Rp K F v d → RpAll K F vs ds → RpAll K F (v :: vs) (d :: ds)
end
section
variable {K : PySem.W.Frag}
theorem sameT {H H' : Hp} {a : Addr} {xs : List V} (e : Same H H') (h : SqT K H a xs) : SqT K H' a xs := by
  rcases h with (h | ⟨o, h⟩) | h
  · exact .inl (.inl (e _ _ h))
  · exact .inl (.inr ⟨o, e _ _ h⟩)
  · exact .inr h
theorem sameN {H H' : Hp} {a : Addr} {xs : List V} (e : Same H H') (h : TupN K H a xs) : TupN K H' a xs := by
  rcases h with ⟨o, h, hd⟩ | h
  · exact .inl ⟨o, e _ _ h, hd⟩
  · exact .inr h
mutual
theorem Rp.mono {F F' : Hp} (s : Same F F') : ∀ {d : PyData} {v : V}, Rp K F v d → Rp K F' v d
  | _, _, .non => .non
  | _, _, .bl b => .bl b
  | _, _, .int b => .int b
  | _, _, .str b => .str b
  | _, _, .lst h t => .lst (s _ _ h) (RpAll.mono s t)
  | _, _, .tup h t => .tup (sameN s h) (RpAll.mono s t)
  | _, _, .dct h l t e => .dct (s _ _ h) l (RpAll.mono s t) e
  | _, _, .scr h => .scr (Same.seq s h)
theorem RpAll.mono {F F' : Hp} (s : Same F F') : ∀ {ds : List PyData} {vs : List V}, RpAll K F vs ds → RpAll K F' vs ds
  | _, _, .nil => .nil
  | _, _, .cons h t => .cons (Rp.mono s h) (RpAll.mono s t)
end
mutual
theorem Rp.dp {F : Hp} : ∀ (d : PyData) {v : V}, Rp K F v d → d.canLay0 = true → Dp K F v d
  | .none, _, .non, _ => .non
  | .bool _, _, .bl b, _ => .bl b
  | .int _, _, .int b, _ => .int b
  | .str _, _, .str b, _ => .str b
  | .list ds, _, .lst h t, c => .lst (SqL.of h) (RpAll.dp ds t (by simpa [PyData.canLay0] using c))
  | .tuple ds, _, .tup h t, c => .tup h.sq (RpAll.dp ds t (by simpa [PyData.canLay0] using c))
  | .dict _, _, .dct _ _ _ _, c => by simp [PyData.canLay0] at c
  | _, _, .scr _, c => by simp [scD, PyData.canLay0] at c
theorem RpAll.dp {F : Hp} : ∀ (ds : List PyData) {vs : List V}, RpAll K F vs ds → PyData.canLayAll0 ds = true → DpAll K F vs ds
  | [], _, .nil, _ => .nil
  | d :: ds, _, .cons h t, c => by
    have c : d.canLay0 = true ∧ PyData.canLayAll0 ds = true := by simpa [PyData.canLayAll0] using c
    exact .cons (Rp.dp d h c.1) (RpAll.dp ds t c.2)
end
theorem RpAll.length {F : Hp} : ∀ {ds : List PyData} {vs : List V}, RpAll K F vs ds → vs.length = ds.length
  | _, _, .nil => rfl
  | _, _, .cons _ h => by simp [RpAll.length h]
theorem RpAll.get {F : Hp} : ∀ {ds : List PyData} {vs : List V} {i : Nat} {v : V}, RpAll K F vs ds → vs[i]? = some v → ∃ d, ds[i]? = some d ∧ Rp K F v d
  | _, _, _, _, .nil, e => by simp at e
  | _, _, 0, _, .cons h _, e => by simp at e; subst e; exact ⟨_, rfl, h⟩
  | _, _, i + 1, v, .cons _ t, e => by
    obtain ⟨d, h1, h2⟩ := RpAll.get (i := i) (v := v) t (by simpa using e)
    exact ⟨d, by simpa using h1, h2⟩
theorem RpAll.getd {F : Hp} : ∀ {ds : List PyData} {vs : List V} {i : Nat} {d : PyData}, RpAll K F vs ds → ds[i]? = some d → ∃ v, vs[i]? = some v ∧ Rp K F v d
  | _, _, _, _, .nil, e => by simp at e
  | _, _, 0, _, .cons h _, e => by simp at e; subst e; exact ⟨_, rfl, h⟩
  | _, _, i + 1, v, .cons _ t, e => by
    obtain ⟨d, h1, h2⟩ := RpAll.getd (i := i) (d := v) t (by simpa using e)
    exact ⟨d, by simpa using h1, h2⟩
theorem RpAll.append {F : Hp} : ∀ {ds es : List PyData} {vs ws : List V}, RpAll K F vs ds → RpAll K F ws es → RpAll K F (vs ++ ws) (ds ++ es)
  | _, _, _, _, .nil, h => h
  | _, _, _, _, .cons h t, q => .cons h (RpAll.append t q)
theorem RpAll.take {F : Hp} : ∀ {ds : List PyData} {vs : List V} (n : Nat), RpAll K F vs ds → RpAll K F (vs.take n) (ds.take n)
  | _, _, 0, _ => .nil
  | _, _, _ + 1, .nil => .nil
  | _, _, n + 1, .cons h t => .cons h (RpAll.take n t)
theorem RpAll.drop {F : Hp} : ∀ {ds : List PyData} {vs : List V} (n : Nat), RpAll K F vs ds → RpAll K F (vs.drop n) (ds.drop n)
  | _, _, 0, h => h
  | _, _, _ + 1, .nil => .nil
  | _, _, n + 1, .cons _ t => RpAll.drop n t
theorem RpAll.set {F : Hp} {v : V} {d : PyData} (h : Rp K F v d) : ∀ {ds : List PyData} {vs : List V} (n : Nat), RpAll K F vs ds → RpAll K F (vs.set n v) (ds.set n d)
  | _, _, _, .nil => .nil
  | _, _, 0, .cons _ t => .cons h t
  | _, _, n + 1, .cons q t => .cons q (RpAll.set h n t)
theorem RpAll.eraseIdx {F : Hp} : ∀ {ds : List PyData} {vs : List V} (n : Nat), RpAll K F vs ds → RpAll K F (vs.eraseIdx n) (ds.eraseIdx n)
  | _, _, _, .nil => .nil
  | _, _, 0, .cons _ t => t
  | _, _, n + 1, .cons q t => .cons q (RpAll.eraseIdx n t)
theorem RpAll.dropLast {F : Hp} {ds : List PyData} {vs : List V} (h : RpAll K F vs ds) : RpAll K F vs.dropLast ds.dropLast := by
  rw [List.dropLast_eq_take, List.dropLast_eq_take, h.length]
  exact h.take _
theorem RpAll.one {F : Hp} {v : V} {d : PyData} (h : Rp K F v d) : RpAll K F [v] [d] := .cons h .nil
theorem RpAll.reverse {F : Hp} : ∀ {ds : List PyData} {vs : List V}, RpAll K F vs ds → RpAll K F vs.reverse ds.reverse
  | _, _, .nil => .nil
  | _, _, .cons h t => by rw [List.reverse_cons, List.reverse_cons]; exact (RpAll.reverse t).append (.one h)
/-- what data is determines -/
theorem rp_ref {F : Hp} {v : V} {ds : List PyData} (h : Rp K F v (.list ds)) : ∃ a vs, v = .ref a ∧ F a = some (.lst vs) ∧ RpAll K F vs ds := by
  cases h with
  | lst hs ha => exact ⟨_, _, rfl, hs, ha⟩
theorem rp_tup {F : Hp} {v : V} {ds : List PyData} (h : Rp K F v (.tuple ds)) : ∃ a vs, v = .ref a ∧ SqT K F a vs ∧ RpAll K F vs ds := by
  cases h with
  | tup hs ha => exact ⟨_, _, rfl, hs.sq, ha⟩
theorem rp_tupN {F : Hp} {v : V} {ds : List PyData} (h : Rp K F v (.tuple ds)) : ∃ a vs, v = .ref a ∧ TupN K F a vs ∧ RpAll K F vs ds := by
  cases h with
  | tup hs ha => exact ⟨_, _, rfl, hs, ha⟩
theorem rp_int {F : Hp} {v : V} {i : Int} (h : Rp K F v (.int i)) : v = .int i := by cases h; rfl
theorem rp_bl {F : Hp} {v : V} {i : Bool} (h : Rp K F v (.bool i)) : v = .bl i := by cases h; rfl
theorem rp_str {F : Hp} {v : V} {i : Str} (h : Rp K F v (.str i)) : v = .str i := by cases h; rfl
theorem rp_non {F : Hp} {v : V} (h : Rp K F v .none) : v = .non := by cases h; rfl
end

/-! ### what a slot holds -/
structure Res where
  R : Hp → V → Hp → Prop
  mono : ∀ F F' v h, Same F F' → R F v h → R F' v h
inductive O where
  | fz (d : PyData)
  | ls (ds : List PyData)
  | dk (kvs : List (Key × PyData))
  | rs (r : Res)
  | tr (ts : List O)
abbrev Ga := List (Option O)

section
variable (K : PySem.W.Frag)
def KvAll (F : Hp) (kv : List (Key × V)) (kd : List (Key × PyData)) : Prop := kv.map (·.1) = kd.map (·.1) ∧ RpAll K F (kv.map (·.2)) (kd.map (·.2))
mutual
def Own (F : Hp) : O → V → Hp → Prop
  | .fz d, v, h => h = emp ∧ Rp K F v d
  | .ls ds, v, h => ∃ a vs, v = .ref a ∧ h = one a (.lst vs) ∧ RpAll K F vs ds
  | .dk kvs, v, h => ∃ a kv, v = .ref a ∧ h = one a (.dK kv) ∧ KvAll K F kv kvs
  | .rs r, v, h => r.R F v h
  | .tr ts, v, h => ∃ a vs h', v = .ref a ∧ h = jn (one a (.lst vs)) h' ∧ Dis (one a (.lst vs)) h' ∧ OwnT F ts vs h'
def OwnT (F : Hp) : List O → List V → Hp → Prop
  | [], vs, h => vs = [] ∧ h = emp
  | o :: ts, vs, h => ∃ v vr h1 h2, vs = v :: vr ∧ h = jn h1 h2 ∧ Dis h1 h2 ∧ Own F o v h1 ∧ OwnT F ts vr h2
end
def OwnS (F : Hp) : Ga → St → Hp → Prop
  | [], σ, h => σ = [] ∧ h = emp
  | none :: Γ, σ, h => ∃ x σ', σ = x :: σ' ∧ OwnS F Γ σ' h
  | some o :: Γ, σ, h => ∃ v σ' h1 h2, σ = some v :: σ' ∧ h = jn h1 h2 ∧ Dis h1 h2 ∧ Own K F o v h1 ∧ OwnS F Γ σ' h2
end
section
variable {K : PySem.W.Frag} {F F' : Hp}
mutual
theorem Own.mono (s : Same F F') : ∀ {o : O} {v : V} {h : Hp}, Own K F o v h → Own K F' o v h
  | .fz _, _, _, hh => by
    unfold Own at hh ⊢
    exact ⟨hh.1, Rp.mono s hh.2⟩
  | .ls _, _, _, hh => by
    unfold Own at hh ⊢
    obtain ⟨a, vs, e1, e2, h⟩ := hh
    exact ⟨a, vs, e1, e2, RpAll.mono s h⟩
  | .dk _, _, _, hh => by
    unfold Own at hh ⊢
    obtain ⟨a, vs, e1, e2, e3, h⟩ := hh
    exact ⟨a, vs, e1, e2, e3, RpAll.mono s h⟩
  | .rs r, _, _, hh => by
    unfold Own at hh ⊢
    exact r.mono _ _ _ _ s hh
  | .tr ts, _, _, hh => by
    unfold Own at hh ⊢
    obtain ⟨a, vs, h', e1, e2, d, q⟩ := hh
    exact ⟨a, vs, h', e1, e2, d, OwnT.mono s q⟩
theorem OwnT.mono (s : Same F F') : ∀ {ts : List O} {vs : List V} {h : Hp}, OwnT K F ts vs h → OwnT K F' ts vs h
  | [], _, _, hh => by
    unfold OwnT at hh ⊢
    exact hh
  | o :: ts, _, _, hh => by
    unfold OwnT at hh ⊢
    obtain ⟨v, vr, h1, h2, e1, e2, d, w, q⟩ := hh
    exact ⟨v, vr, h1, h2, e1, e2, d, Own.mono s w, OwnT.mono s q⟩
end
theorem own_fz {d : PyData} {v : V} {h : Hp} : Own K F (.fz d) v h ↔ h = emp ∧ Rp K F v d := by unfold Own; exact Iff.rfl
theorem own_ls {ds : List PyData} {v : V} {h : Hp} : Own K F (.ls ds) v h ↔ ∃ a vs, v = .ref a ∧ h = one a (.lst vs) ∧ RpAll K F vs ds := by unfold Own; exact Iff.rfl
theorem own_tr {ts : List O} {v : V} {h : Hp} : Own K F (.tr ts) v h ↔ ∃ a vs h', v = .ref a ∧ h = jn (one a (.lst vs)) h' ∧ Dis (one a (.lst vs)) h' ∧ OwnT K F ts vs h' := by rw [Own]
theorem OwnS.mono (s : Same F F') : ∀ {Γ : Ga} {σ : St} {h : Hp}, OwnS K F Γ σ h → OwnS K F' Γ σ h
  | [], _, _, h => h
  | none :: _, _, _, ⟨x, σ', e, h⟩ => ⟨x, σ', e, OwnS.mono s h⟩
  | some _ :: _, _, _, ⟨v, σ', h1, h2, e, e2, d, o, h⟩ => ⟨v, σ', h1, h2, e, e2, d, o.mono s, OwnS.mono s h⟩
theorem OwnS.len : ∀ {Γ : Ga} {σ : St} {h : Hp}, OwnS K F Γ σ h → Γ.length = σ.length
  | [], _, _, h => by rw [h.1]; rfl
  | none :: _, _, _, ⟨x, σ', e, h⟩ => by rw [e]; simp [OwnS.len h]
  | some _ :: _, _, _, ⟨v, σ', h1, h2, e, e2, d, o, h⟩ => by rw [e]; simp [OwnS.len h]
/-- a slot taken out, and put back in another state -/
theorem OwnS.focus : ∀ {Γ : Ga} {σ : St} {h : Hp} {i : Nat} {o : O}, OwnS K F Γ σ h → Γ[i]? = some (some o) →
    ∃ v h1 h2, σ[i]? = some (some v) ∧ h = jn h1 h2 ∧ Dis h1 h2 ∧ Own K F o v h1 ∧
      ∀ F' o' v' h1', Same F F' → Own K F' o' v' h1' → Dis h1' h2 → OwnS K F' (Γ.set i (some o')) (σ.set i (some v')) (jn h1' h2)
  | [], _, _, _, _, _, e => by simp at e
  | none :: Γ, _, h, 0, o, _, e => by simp at e
  | none :: Γ, _, h, i + 1, o, ⟨x, σ', e0, q⟩, e => by
    obtain ⟨v, h1, h2, a1, a2, a3, a4, a5⟩ := OwnS.focus (i := i) (o := o) q (by simpa using e)
    refine ⟨v, h1, h2, by rw [e0]; simpa using a1, a2, a3, a4, fun F' o' v' h1' s w d => ?_⟩
    rw [e0]
    exact ⟨x, _, rfl, a5 F' o' v' h1' s w d⟩
  | some o :: Γ, _, h, 0, o', ⟨v, σ', h1, h2, e0, e2, d, w, q⟩, e => by
    have eo : o = o' := by simpa using e
    subst eo
    refine ⟨v, h1, h2, by rw [e0]; rfl, e2, d, w, fun F' o' v' h1' s w' d' => ?_⟩
    rw [e0]
    exact ⟨v', σ', h1', h2, rfl, rfl, d', w', q.mono s⟩
  | some o :: Γ, _, h, i + 1, o', ⟨v, σ', g1, g2, e0, e2, d, w, q⟩, e => by
    obtain ⟨u, h1, h2, a1, a2, a3, a4, a5⟩ := OwnS.focus (i := i) (o := o') q (by simpa using e)
    subst a2
    have d1 : Dis g1 h1 := (Dis.sub same_l d.symm).symm
    have d2 : Dis g1 h2 := (Dis.sub (same_r a3) d.symm).symm
    refine ⟨u, h1, jn g1 h2, by rw [e0]; simpa using a1, ?_, (Dis.jn d1 a3.symm).symm, a4, fun F' o' v' h1' s w' d' => ?_⟩
    · rw [e2, ← jn_assoc, jn_comm d1, jn_assoc]
    · rw [e0]
      have f1 : Dis h1' g1 := (Dis.sub same_l d'.symm).symm
      have f2 : Dis h1' h2 := (Dis.sub (same_r d2) d'.symm).symm
      refine ⟨v, _, g1, jn h1' h2, rfl, ?_, (Dis.jn f1 d2.symm).symm, w.mono s, a5 F' o' v' h1' s w' f2⟩
      rw [← jn_assoc, jn_comm f1, jn_assoc]
/-- a slot stored anew (what it held is dropped) -/
theorem OwnS.put : ∀ {Γ : Ga} {σ : St} {h : Hp} {i : Nat}, OwnS K F Γ σ h → i < Γ.length →
    ∃ h2, Same h2 h ∧ (∀ F' o' v' h1', Same F F' → Own K F' o' v' h1' → Dis h1' h2 → OwnS K F' (Γ.set i (some o')) (σ.set i (some v')) (jn h1' h2)) ∧
      (∀ x, OwnS K F (Γ.set i none) (σ.set i x) h2)
  | [], _, _, _, _, e => by simp at e
  | none :: Γ, _, h, 0, ⟨x, σ', e0, q⟩, _ => by
    refine ⟨h, Same.refl _, fun F' o' v' h1' s w d => ?_, fun y => ?_⟩
    · rw [e0]; exact ⟨v', σ', h1', h, rfl, rfl, d, w, q.mono s⟩
    · rw [e0]; exact ⟨y, σ', rfl, q⟩
  | none :: Γ, _, h, i + 1, ⟨x, σ', e0, q⟩, e => by
    obtain ⟨h2, s2, a, b⟩ := OwnS.put (i := i) q (by simpa using e)
    refine ⟨h2, s2, fun F' o' v' h1' s w d => ?_, fun y => ?_⟩
    · rw [e0]; exact ⟨x, _, rfl, a F' o' v' h1' s w d⟩
    · rw [e0]; exact ⟨x, _, rfl, b y⟩
  | some o :: Γ, _, h, 0, ⟨v, σ', h1, h2, e0, e2, d, w, q⟩, _ => by
    refine ⟨h2, by rw [e2]; exact same_r d, fun F' o' v' h1' s w' d' => ?_, fun y => ?_⟩
    · rw [e0]; exact ⟨v', σ', h1', h2, rfl, rfl, d', w', q.mono s⟩
    · rw [e0]; exact ⟨y, σ', rfl, q⟩
  | some o :: Γ, _, h, i + 1, ⟨v, σ', g1, g2, e0, e2, d, w, q⟩, e => by
    obtain ⟨h2, s2, a, b⟩ := OwnS.put (i := i) q (by simpa using e)
    have d2 : Dis g1 h2 := (Dis.sub s2 d.symm).symm
    refine ⟨jn g1 h2, ?_, fun F' o' v' h1' s w' d' => ?_, fun y => ?_⟩
    · rw [e2]; exact same_jn same_l fun a o e => same_r d _ _ (s2 _ _ e)
    · rw [e0]
      have f1 : Dis h1' g1 := (Dis.sub same_l d'.symm).symm
      have f2 : Dis h1' h2 := (Dis.sub (same_r d2) d'.symm).symm
      refine ⟨v, _, g1, jn h1' h2, rfl, ?_, (Dis.jn f1 d2.symm).symm, w.mono s, a F' o' v' h1' s w' f2⟩
      rw [← jn_assoc, jn_comm f1, jn_assoc]
    · rw [e0]; exact ⟨v, _, g1, h2, rfl, rfl, d2, w, b y⟩
end

/-! ### the state -/
structure At (K : PySem.W.Frag) (pn : List (Nat × V)) (Z F : Hp) (Γ : Ga) (σ : St) (h H : Hp) : Prop where
  own : OwnS K F Γ σ h
  hH : Same h H
  FH : Same F H
  ZH : Same Z H
  FZ : Dis F Z
  hF : Dis h F
  hZ : Dis h Z
  pin : ∀ p ∈ pn, σ[p.1]? = some (some p.2)
/-- .. with a part of its own beside -/
structure AtR (K : PySem.W.Frag) (pn : List (Nat × V)) (Z F : Hp) (Γ : Ga) (σ : St) (h hr H : Hp) : Prop where
  at_ : At K pn Z F Γ σ h H
  rH : Same hr H
  rh : Dis hr h
  rF : Dis hr F
  rZ : Dis hr Z
/-- growth -/
structure Grow (F H F' H' : Hp) : Prop where
  fs : Same F F'
  fh : Same F' H'
  hh : Same H H'
  nw : ∀ a, F' a ≠ none → F a ≠ none ∨ H a = none
theorem Grow.refl {F H : Hp} (s : Same F H) : Grow F H F H := ⟨Same.refl _, s, Same.refl _, fun _ h => .inl h⟩
theorem Grow.new {F H : Hp} {p : Addr} {o : HO} (s : Same F H) (h : H p = none) : Grow F H (upd F p o) (upd H p o) := by
  refine ⟨same_new (s.free h), fun a u e => ?_, same_new h, fun a e => ?_⟩
  · by_cases z : a = p
    · subst z; rw [upd_same] at e ⊢; exact e
    · rw [upd_ne z] at e ⊢; exact s _ _ e
  · by_cases z : a = p
    · subst z; exact .inr h
    · rw [upd_ne z] at e; exact .inl e
theorem Grow.trans {F H F1 H1 F2 H2 : Hp} (a : Grow F H F1 H1) (b : Grow F1 H1 F2 H2) : Grow F H F2 H2 := by
  refine ⟨a.fs.trans b.fs, b.fh, a.hh.trans b.hh, fun x e => ?_⟩
  rcases b.nw x e with z | z
  · exact a.nw x z
  · exact .inr (a.hh.free z)
theorem Grow.stay {F H H' : Hp} (s : Same F H) (hh : Same H H') : Grow F H F H' := ⟨Same.refl _, s.trans hh, hh, fun _ h => .inl h⟩
section
variable {K : PySem.W.Frag} {pn : List (Nat × V)} {Z F F' : Hp} {Γ : Ga} {σ : St} {h hr H H' : Hp}
theorem dis_grow {k : Hp} (d : Dis F k) (s : Same k H) (g : Grow F H F' H') : Dis F' k := fun a => by
  cases e : F' a with
  | none => exact .inl rfl
  | some o =>
    right
    rcases g.nw a (by rw [e]; simp) with z | z
    · rcases d a with y | y
      · exact absurd y z
      · exact y
    · exact s.free z
theorem At.grow (A : At K pn Z F Γ σ h H) (g : Grow F H F' H') : At K pn Z F' Γ σ h H' :=
  ⟨A.own.mono g.fs, A.hH.trans g.hh, g.fh, A.ZH.trans g.hh, dis_grow A.FZ A.ZH g, (dis_grow A.hF.symm A.hH g).symm, A.hZ, A.pin⟩
theorem At.alone (A : At K pn Z F Γ σ h H) : AtR K pn Z F Γ σ h emp H := ⟨A, same_emp, Dis.emp, Dis.emp, Dis.emp⟩
/-- a part that is new beside -/
theorem At.beside (A : At K pn Z F Γ σ h H) (g : Grow F H F' H') (s : Same hr H') (dF : Dis hr F') (nw : ∀ a, hr a ≠ none → H a = none) : AtR K pn Z F' Γ σ h hr H' := by
  refine ⟨A.grow g, s, fun a => ?_, dF, fun a => ?_⟩
  · cases e : hr a with
    | none => exact .inl rfl
    | some o => exact .inr (A.hH.free (nw a (by rw [e]; simp)))
  · cases e : hr a with
    | none => exact .inl rfl
    | some o => exact .inr (A.ZH.free (nw a (by rw [e]; simp)))
end

/-! ### freezing -/
mutual
def O.frz : O → Option PyData
  | .fz d => some d
  | .ls ds => some (.list ds)
  | .dk kvs => some (.dict (kvs.map fun p => (kD p.1, p.2)))
  | .rs _ => none
  | .tr ts => match O.frzs ts with
    | some ds => some (.list ds)
    | none => none
def O.frzs : List O → Option (List PyData)
  | [] => some []
  | o :: ts => match O.frz o, O.frzs ts with
    | some d, some ds => some (d :: ds)
    | _, _ => none
end
theorem zip_fst_snd {α β : Type} : ∀ l : List (α × β), (l.map (·.1)).zip (l.map (·.2)) = l
  | [] => rfl
  | (a, b) :: l => by simp [zip_fst_snd l]
section
variable {K : PySem.W.Frag} {pn : List (Nat × V)} {Z F F' : Hp} {Γ : Ga} {σ : St} {h hr H H' : Hp} {v : V} {o : O} {d : PyData}
mutual
/-- over any heap that has the part and the frozen one -/
theorem Own.frzG {G : Hp} (sF : Same F G) : ∀ {o : O} {v : V} {hr : Hp} {d : PyData}, Own K F o v hr → Same hr G → o.frz = some d → Rp K G v d
  | .fz d', _, _, _, w, _, e => by
    cases e
    exact Rp.mono sF (own_fz.mp w).2
  | .ls ds, _, _, _, w, s, e => by
    cases e
    obtain ⟨a, vs, rfl, rfl, q⟩ := own_ls.mp w
    exact .lst (s _ _ one_at) (RpAll.mono sF q)
  | .dk kvs, _, _, _, w, s, e => by
    cases e
    unfold Own at w
    obtain ⟨a, kv, rfl, rfl, e1, q⟩ := w
    refine .dct (ks := kv.map (·.1)) (xs := kv.map (·.2)) (ds := kvs.map (·.2)) ?_ (by rw [e1]; simp) (RpAll.mono sF q) ?_
    · rw [zip_fst_snd]; exact s _ _ one_at
    · rw [e1, List.map_map, List.zip_map']; rfl
  | .rs _, _, _, _, _, _, e => by cases e
  | .tr ts, _, _, _, w, s, e => by
    obtain ⟨a, vs, h', rfl, rfl, dd, q⟩ := own_tr.mp w
    unfold O.frz at e
    split at e
    · rename_i ds e1
      cases e
      exact .lst (s _ _ (jn_l one_at)) (OwnT.frzG sF q (fun x u z => s _ _ (same_r dd _ _ z)) e1)
    · cases e
theorem OwnT.frzG {G : Hp} (sF : Same F G) : ∀ {ts : List O} {vs : List V} {hr : Hp} {ds : List PyData}, OwnT K F ts vs hr → Same hr G → O.frzs ts = some ds → RpAll K G vs ds
  | [], _, _, _, w, _, e => by
    unfold OwnT at w
    obtain ⟨rfl, _⟩ := w
    cases e; exact .nil
  | o :: ts, _, _, _, w, s, e => by
    unfold OwnT at w
    obtain ⟨v, vr, h1, h2, rfl, rfl, dd, w1, q⟩ := w
    unfold O.frzs at e
    split at e
    · rename_i d ds e1 e2
      cases e
      exact .cons (Own.frzG sF w1 (fun x u z => s _ _ (same_l _ _ z)) e1) (OwnT.frzG sF q (fun x u z => s _ _ (same_r dd _ _ z)) e2)
    · cases e
end
theorem Own.frz (w : Own K F o v hr) (e : o.frz = some d) (df : Dis hr F) : ∃ F', Same F F' ∧ F' = jn hr F ∧ Rp K F' v d :=
  ⟨jn hr F, same_r df, rfl, w.frzG (same_r df) same_l e⟩
/-- the part beside frozen -/
theorem AtR.frz (A : AtR K pn Z F Γ σ h hr H) (w : Own K F o v hr) (e : o.frz = some d) : ∃ F', Same F F' ∧ At K pn Z F' Γ σ h H ∧ Rp K F' v d := by
  obtain ⟨F', s, rfl, q⟩ := w.frz e A.rF
  exact ⟨_, s, ⟨A.at_.own.mono s, A.at_.hH, same_jn A.rH A.at_.FH, A.at_.ZH, Dis.jn A.rZ A.at_.FZ, (Dis.jn A.rh A.at_.hF.symm).symm, A.at_.hZ, A.at_.pin⟩, q⟩
theorem set_self {α : Type} {l : List α} {i : Nat} {x : α} (e : l[i]? = some x) : l.set i x = l := by
  apply List.ext_getElem?
  intro j
  by_cases z : i = j
  · subst z
    rw [List.getElem?_set_self (List.getElem?_eq_some_iff.mp e).1, e]
  · rw [List.getElem?_set_ne z]
/-- a slot frozen where it stands -/
theorem At.frzS {i : Nat} (A : At K pn Z F Γ σ h H) (e : Γ[i]? = some (some o)) (e2 : o.frz = some d) : ∃ F' h' v, Same F F' ∧ σ[i]? = some (some v) ∧ At K pn Z F' (Γ.set i (some (.fz d))) σ h' H ∧ Rp K F' v d := by
  obtain ⟨v, h1, h2, a1, rfl, a3, a4, a5⟩ := A.own.focus e
  have d1 : Dis h1 F := Dis.sub same_l A.hF
  obtain ⟨F', s, rfl, q⟩ := a4.frz e2 d1
  refine ⟨_, h2, v, s, a1, ⟨?_, fun x o z => A.hH _ _ (same_r a3 _ _ z), same_jn (fun x o z => A.hH _ _ (same_l _ _ z)) A.FH, A.ZH, Dis.jn (Dis.sub same_l A.hZ) A.FZ, ?_, Dis.sub (same_r a3) A.hZ, A.pin⟩, q⟩
  · have := a5 _ (.fz d) v emp s ⟨rfl, q⟩ Dis.emp
    rw [emp_jn, set_self a1] at this
    exact this
  · exact (Dis.jn a3 (Dis.sub (same_r a3) A.hF).symm).symm
/-- a slot's owned part taken out (the slot is empty then) -/
theorem At.move {i : Nat} (A : At K pn Z F Γ σ h H) (e : Γ[i]? = some (some o)) : ∃ h2 h1 v, σ[i]? = some (some v) ∧ Own K F o v h1 ∧ AtR K pn Z F (Γ.set i none) σ h2 h1 H := by
  have hlt : i < Γ.length := (List.getElem?_eq_some_iff.mp e).1
  obtain ⟨v, h1, h2, a1, rfl, a3, a4, a5⟩ := A.own.focus e
  have q := a5 F (.fz .none) .non emp (Same.refl _) ⟨rfl, .non⟩ Dis.emp
  obtain ⟨h3, s3, _, b⟩ := q.put (i := i) (by simpa using hlt)
  rw [emp_jn] at s3
  have b' := b (some v)
  rw [List.set_set, List.set_set, set_self a1] at b'
  have s32 : Same h3 (jn h1 h2) := fun x o z => same_r a3 _ _ (s3 _ _ z)
  refine ⟨h3, h1, v, a1, a4, ⟨⟨b', s32.trans A.hH, A.FH, A.ZH, A.FZ, Dis.sub s32 A.hF, Dis.sub s32 A.hZ, A.pin⟩, fun x o z => A.hH _ _ (same_l _ _ z), (Dis.sub s3 a3.symm).symm, Dis.sub same_l A.hF, Dis.sub same_l A.hZ⟩⟩
/-- a value stored in a slot -/
theorem AtR.store {i : Nat} (A : AtR K pn Z F Γ σ h hr H) (w : Own K F o v hr) (hi : i < Γ.length) (hp : ∀ p ∈ pn, p.1 ≠ i) : ∃ h', At K pn Z F (Γ.set i (some o)) (σ.set i (some v)) h' H := by
  obtain ⟨h2, s2, a, _⟩ := A.at_.own.put hi
  have d2 : Dis hr h2 := (Dis.sub s2 A.rh.symm).symm
  refine ⟨jn hr h2, a F o v hr (Same.refl _) w d2, same_jn A.rH (s2.trans A.at_.hH), A.at_.FH, A.at_.ZH, A.at_.FZ, Dis.jn A.rF (Dis.sub s2 A.at_.hF), Dis.jn A.rZ (Dis.sub s2 A.at_.hZ), fun p hm => ?_⟩
  rw [List.getElem?_set_ne (fun z => hp p hm z.symm)]
  exact A.at_.pin p hm
/-- an owned slot's content changed in place: the objects of its part anew -/
theorem At.change {i : Nat} (A : At K pn Z F Γ σ h H) (e : Γ[i]? = some (some o)) : ∃ v h1 h2, σ[i]? = some (some v) ∧ Own K F o v h1 ∧ Same h1 H ∧ Dis h1 F ∧ Dis h1 Z ∧ Same h2 H ∧ Dis h1 h2 ∧ Dis h2 F ∧ Dis h2 Z ∧
    ∀ F' o' h1' H', Same F F' → Own K F' o' v h1' → Same h1' H' → Same F' H' → Same h2 H' → Same Z H' → Dis F' Z → Dis h1' h2 → Dis h1' F' → Dis h1' Z → Dis h2 F' → At K pn Z F' (Γ.set i (some o')) σ (jn h1' h2) H' := by
  obtain ⟨v, h1, h2, a1, rfl, a3, a4, a5⟩ := A.own.focus e
  refine ⟨v, h1, h2, a1, a4, fun x o z => A.hH _ _ (same_l _ _ z), Dis.sub same_l A.hF, Dis.sub same_l A.hZ, fun x o z => A.hH _ _ (same_r a3 _ _ z), a3, Dis.sub (same_r a3) A.hF, Dis.sub (same_r a3) A.hZ, fun F' o' h1' H' s w s1 s2 s3 s4 d1 d2 d3 d4 d5 => ?_⟩
  have q := a5 F' o' v h1' s w d2
  rw [set_self a1] at q
  exact ⟨q, same_jn s1 s3, s2, s4, d1, Dis.jn d3 d5, Dis.jn d4 (Dis.sub (same_r a3) A.hZ), A.pin⟩
end
end VL
end
section
namespace VL
open PySem PySem.Spec L2

/-! ### arguments, readings -/
inductive Av where
  | d (x : PyData)
  | s (j : Nat)
def ArgRel (K : PySem.W.Frag) (F : Hp) (σ : St) : Av → V → Prop
  | .d x, v => Rp K F v x
  | .s j, v => σ[j]? = some (some v)
def rslv (Γ : Ga) : Av → Option PyData
  | .d x => some x
  | .s j => match Γ[j]? with
    | some (some (.fz d)) => some d
    | some (some (.ls ds)) => some (.list ds)
    | _ => none
def rsAll (Γ : Ga) : List Av → Option (List PyData)
  | [] => some []
  | a :: as => match rslv Γ a, rsAll Γ as with
    | some d, some ds => some (d :: ds)
    | _, _ => none
def unD : List Av → Option (List PyData)
  | [] => some []
  | .d x :: r => match unD r with
    | some xs => some (x :: xs)
    | none => none
  | .s _ :: _ => none
theorem unD_eq : ∀ {as : List Av} {ds : List PyData}, unD as = some ds → as = ds.map Av.d
  | [], _, h => by cases h; rfl
  | .d x :: r, ds, h => by
    unfold unD at h
    split at h
    · rename_i xs e
      cases h
      rw [unD_eq e]; rfl
    · cases h
  | .s _ :: _, _, h => by cases h
def nrm : Ga → Option Ga
  | [] => some []
  | x :: r => match nrm r with
    | some ys => some (x :: ys)
    | none => none
theorem nrm_eq : ∀ {Γ Γ' : Ga}, nrm Γ = some Γ' → Γ = Γ'
  | [], _, h => by cases h; rfl
  | x :: r, _, h => by
    unfold nrm at h
    split at h
    · rename_i ys e
      cases h
      rw [nrm_eq e]
    · cases h
def setG : Ga → Nat → Option O → Option Ga
  | [], _, _ => none
  | _ :: r, 0, o => some (o :: r)
  | x :: r, i + 1, o => match setG r i o with
    | some ys => some (x :: ys)
    | none => none
theorem setG_eq : ∀ {Γ Γ' : Ga} {i : Nat} {o : Option O}, setG Γ i o = some Γ' → Γ.set i o = Γ' ∧ i < Γ.length
  | [], _, _, _, h => by cases h
  | x :: r, _, 0, o, h => by cases h; exact ⟨rfl, by simp⟩
  | x :: r, Γ', i + 1, o, h => by
    unfold setG at h
    split at h
    · rename_i ys e
      cases h
      obtain ⟨h1, h2⟩ := setG_eq e
      exact ⟨by simp [h1], by simpa using h2⟩
    · cases h

def RepS (K : PySem.W.Frag) (F H : Hp) (d : PyData) (v : V) : Prop := Rp K F v d ∨ ∃ a vs ds, v = .ref a ∧ d = .list ds ∧ H a = some (.lst vs) ∧ RpAll K F vs ds
inductive RepL (K : PySem.W.Frag) (F H : Hp) : List PyData → List V → Prop
  | nil : RepL K F H [] []
  | cons {d : PyData} {v : V} {ds : List PyData} {vs : List V} : RepS K F H d v → RepL K F H ds vs → RepL K F H (d :: ds) (v :: vs)
abbrev EX := Ga → (Av → Ga → Prop) → Prop
abbrev EO := Ga → (O → Ga → Prop) → Prop
abbrev ET := Ga → (Bool → Ga → Prop) → Prop
abbrev EA := Ga → (List Av → Ga → Prop) → Prop
structure En where
  nx : Ga → Prop
  rt : O → Ga → Prop
  bk : Ga → Prop := fun _ => False
  ct : Ga → Prop := fun _ => False
abbrev ES := En → Ga → Prop
section
variable (K : PySem.W.Frag)
def lX (τ : EX) : TE := fun σ H QV => ∃ pn Z F Γ h Q, At K pn Z F Γ σ h H ∧ τ Γ Q ∧ ∀ F' Γ' h' H' a v, Same F F' → At K pn Z F' Γ' σ h' H' → ArgRel K F' σ a v → Q a Γ' → QV v H'
def lO (τ : EO) : TE := fun σ H QV => ∃ pn Z F Γ h Q, At K pn Z F Γ σ h H ∧ τ Γ Q ∧ ∀ F' Γ' h' hr H' o v, Same F F' → AtR K pn Z F' Γ' σ h' hr H' → Own K F' o v hr → Q o Γ' → QV v H'
def lT (τ : ET) : TT := fun σ H QV => ∃ pn Z F Γ h Q, At K pn Z F Γ σ h H ∧ τ Γ Q ∧ ∀ F' Γ' h' H' b, Same F F' → At K pn Z F' Γ' σ h' H' → Q b Γ' → QV b H'
def ArgsRel (F : Hp) (σ : St) : List Av → List V → Prop
  | [], vs => vs = []
  | a :: as, vs => ∃ v vr, vs = v :: vr ∧ ArgRel K F σ a v ∧ ArgsRel F σ as vr
def lA (τ : EA) : TA := fun σ H QV => ∃ pn Z F Γ h Q, At K pn Z F Γ σ h H ∧ τ Γ Q ∧ ∀ F' Γ' h' H' as vs, Same F F' → At K pn Z F' Γ' σ h' H' → ArgsRel K F' σ as vs → Q as Γ' → QV vs H'
def pns (io : Bool) (v0 : V) : List (Nat × V) := if io then [(0, v0)] else []
structure EnOk (pn : List (Nat × V)) (Z F : Hp) (DD : En) (D : Ends) : Prop where
  nx : ∀ F' Γ' σ' h' H', Same F F' → At K pn Z F' Γ' σ' h' H' → DD.nx Γ' → D.nx σ' H'
  bk : ∀ F' Γ' σ' h' H', Same F F' → At K pn Z F' Γ' σ' h' H' → DD.bk Γ' → D.bk σ' H'
  ct : ∀ F' Γ' σ' h' H', Same F F' → At K pn Z F' Γ' σ' h' H' → DD.ct Γ' → D.ct σ' H'
  rt : ∀ F' Γ' σ' h' hr H' o v, Same F F' → AtR K pn Z F' Γ' σ' h' hr H' → Own K F' o v hr → DD.rt o Γ' → D.rt v H'
def lS (io : Bool) (τ : ES) : TS := fun D σ H => ∃ v0 Z F Γ h DD, At K (pns io v0) Z F Γ σ h H ∧ τ DD Γ ∧ EnOk K (pns io v0) Z F DD D
end
theorem EnOk.mono {K : PySem.W.Frag} {pn : List (Nat × V)} {Z F F' : Hp} {DD : En} {D : Ends} (e : EnOk K pn Z F DD D) (s : Same F F') : EnOk K pn Z F' DD D :=
  ⟨fun _ _ _ _ _ t => e.nx _ _ _ _ _ (s.trans t), fun _ _ _ _ _ t => e.bk _ _ _ _ _ (s.trans t), fun _ _ _ _ _ t => e.ct _ _ _ _ _ (s.trans t), fun _ _ _ _ _ _ _ _ t => e.rt _ _ _ _ _ _ _ _ (s.trans t)⟩
theorem ArgRel.mono {K : PySem.W.Frag} {F F' : Hp} {σ : St} (s : Same F F') : ∀ {a : Av} {v : V}, ArgRel K F σ a v → ArgRel K F' σ a v
  | .d _, _, h => Rp.mono s h
  | .s _, _, h => h
theorem ArgsRel.mono {K : PySem.W.Frag} {F F' : Hp} {σ : St} (s : Same F F') : ∀ {as : List Av} {vs : List V}, ArgsRel K F σ as vs → ArgsRel K F' σ as vs
  | [], _, h => h
  | _ :: _, _, ⟨v, vr, e, h, t⟩ => ⟨v, vr, e, h.mono s, ArgsRel.mono s t⟩

section
variable {X : Cx} {e : Expr} {t t' : TE}
theorem pe_imp (h : PE X e t) (i : ∀ σ H Q, t' σ H Q → t σ H Q) : PE X e t' := ⟨fun pins s σ H Q I q => h.run pins s σ H Q I (i σ H Q q)⟩
theorem pt_imp {t t' : TT} (h : PT X e t) (i : ∀ σ H Q, t' σ H Q → t σ H Q) : PT X e t' := ⟨fun pins s σ H Q I q => h.run pins s σ H Q I (i σ H Q q)⟩
theorem pw_imp {t t' : TT} (h : PW X e t) (i : ∀ σ H Q, t' σ H Q → t σ H Q) : PW X e t' := ⟨fun wh pins s σ H Q I q => h.run wh pins s σ H Q I (i σ H Q q)⟩
theorem pa_imp {es : List Expr} {t t' : TA} (h : PA X es t) (i : ∀ σ H Q, t' σ H Q → t σ H Q) : PA X es t' := ⟨fun pos pins s σ H Q I q => h.run pos pins s σ H Q I (i σ H Q q)⟩
theorem ps_imp {st : Stmt} {t t' : TS} (h : PS X st t) (i : ∀ D σ H, t' D σ H → t D σ H) : PS X st t' := ⟨fun pins s σ H D I q => h.run pins s σ H D I (i D σ H q)⟩
theorem pss_imp {st : List Stmt} {t t' : TS} (h : PSs X st t) (i : ∀ D σ H, t' D σ H → t D σ H) : PSs X st t' := ⟨fun pins s σ H D I q => h.run pins s σ H D I (i D σ H q)⟩
theorem pg_imp {t t' : TG} (h : PG X e t) (i : ∀ v σ H Q, t' v σ H Q → t v σ H Q) : PG X e t' := ⟨fun pins s σ H v u Q I r q => h.run pins s σ H v u Q I r (i v σ H Q q)⟩
end

section
variable {K : PySem.W.Frag} {pn : List (Nat × V)} {Z F F' : Hp} {Γ : Ga} {σ : St} {h hr H H' : Hp} {v : V} {o : O} {d : PyData} {a : Av}
theorem At.slot {i : Nat} (A : At K pn Z F Γ σ h H) (e : Γ[i]? = some (some o)) : ∃ v h1, σ[i]? = some (some v) ∧ Own K F o v h1 ∧ Same h1 H ∧ Dis h1 F := by
  obtain ⟨v, h1, h2, a1, a2, a3, a4, _⟩ := A.own.focus e
  subst a2
  exact ⟨v, h1, a1, a4, fun x o z => A.hH _ _ (same_l _ _ z), Dis.sub same_l A.hF⟩
theorem rep_of (A : At K pn Z F Γ σ h H) (r : ArgRel K F σ a v) (e : rslv Γ a = some d) : RepS K F H d v := by
  cases a with
  | d x => cases e; exact .inl r
  | s j =>
    cases e1 : Γ[j]? with
    | none => simp [rslv, e1] at e
    | some x =>
      cases x with
      | none => simp [rslv, e1] at e
      | some o =>
        obtain ⟨u, h1, s1, w, s2, _⟩ := A.slot e1
        have r : σ[j]? = some (some v) := r
        rw [s1] at r; cases r
        cases o with
        | fz d' =>
          have e : some d' = some d := by simpa [rslv, e1] using e
          cases e
          exact .inl w.2
        | ls ds =>
          have e : some (PyData.list ds) = some d := by simpa [rslv, e1] using e
          cases e
          obtain ⟨a, vs, rfl, rfl, q⟩ := w
          exact .inr ⟨a, vs, ds, rfl, rfl, s2 _ _ one_at, q⟩
        | dk _ => simp [rslv, e1] at e
        | rs _ => simp [rslv, e1] at e
        | tr _ => simp [rslv, e1] at e
theorem reps_of (A : At K pn Z F Γ σ h H) : ∀ {as : List Av} {vs : List V} {ds : List PyData}, ArgsRel K F σ as vs → rsAll Γ as = some ds → RepL K F H ds vs
  | [], _, ds, r, e => by cases e; cases r; exact .nil
  | a :: as, _, ds, ⟨v, vr, e0, r, t⟩, e => by
    unfold rsAll at e
    split at e
    · rename_i d ds' h1 h2
      cases e; cases e0
      exact .cons (rep_of A r h1) (reps_of A t h2)
    · cases e
theorem RepS.rpH (s : Same F H) (r : RepS K F H d v) : Rp K H v d := by
  rcases r with r | ⟨a, vs, ds, rfl, rfl, e, q⟩
  · exact Rp.mono s r
  · exact .lst e (RpAll.mono s q)
theorem RepS.list {ds : List PyData} (s : Same F H) (r : RepS K F H (.list ds) v) : ∃ a vs, v = .ref a ∧ H a = some (.lst vs) ∧ RpAll K F vs ds := by
  rcases r with r | ⟨a, vs, ds', rfl, e1, e, q⟩
  · obtain ⟨a, vs, rfl, h1, h2⟩ := rp_ref r
    exact ⟨a, vs, rfl, s _ _ h1, h2⟩
  · cases e1
    exact ⟨a, vs, rfl, e, q⟩
theorem RepS.tup {ds : List PyData} (s : Same F H) (r : RepS K F H (.tuple ds) v) : ∃ a vs, v = .ref a ∧ SqT K H a vs ∧ RpAll K F vs ds := by
  rcases r with r | ⟨a, vs, ds', rfl, e1, e, q⟩
  · obtain ⟨a, vs, rfl, h1, h2⟩ := rp_tup r
    exact ⟨a, vs, rfl, sameT s h1, h2⟩
  · cases e1
theorem RepS.int {i : Int} (r : RepS K F H (.int i) v) : v = .int i := by
  rcases r with r | ⟨a, vs, ds', rfl, e1, e, q⟩
  · exact rp_int r
  · cases e1
theorem RepS.bl {i : Bool} (r : RepS K F H (.bool i) v) : v = .bl i := by
  rcases r with r | ⟨a, vs, ds', rfl, e1, e, q⟩
  · exact rp_bl r
  · cases e1
theorem RepS.str {i : Str} (r : RepS K F H (.str i) v) : v = .str i := by
  rcases r with r | ⟨a, vs, ds', rfl, e1, e, q⟩
  · exact rp_str r
  · cases e1
theorem RepS.non (r : RepS K F H .none v) : v = .non := by
  rcases r with r | ⟨a, vs, ds', rfl, e1, e, q⟩
  · exact rp_non r
  · cases e1
end

/-- behind an operation on data: what it hands back is frozen or new -/
def OpPost (K : PySem.W.Frag) (F H : Hp) (Q : O → Prop) (QV : VK) : Prop := ∀ F' hr H' o v, Grow F H F' H' → Own K F' o v hr → Same hr H' → Dis hr F' → (∀ a, hr a ≠ none → H a = none) → Q o → QV v H'
section
variable {K : PySem.W.Frag} {F H : Hp} {Q : O → Prop} {QV : VK}
theorem OpPost.val (p : OpPost K F H Q QV) (s : Same F H) {d : PyData} {v : V} (r : Rp K F v d) (q : Q (.fz d)) : QV v H :=
  p F emp H (.fz d) v (Grow.refl s) ⟨rfl, r⟩ same_emp Dis.emp (fun _ z => absurd rfl z) q
theorem OpPost.newT (p : OpPost K F H Q QV) (s : Same F H) {ds : List PyData} {vs : List V} {a : Addr} {o : Obj} (n : H a = none) (hd : o.dict = none) (r : RpAll K F vs ds) (q : Q (.fz (.tuple ds))) : QV (.ref a) (upd H a (.frz o (.tup vs))) :=
  p _ emp _ (.fz (.tuple ds)) _ (Grow.new s n) ⟨rfl, .tup (.inl ⟨o, upd_same, hd⟩) (RpAll.mono (same_new (s.free n)) r)⟩ same_emp Dis.emp (fun _ z => absurd rfl z) q
theorem OpPost.newL (p : OpPost K F H Q QV) (s : Same F H) {ds : List PyData} {vs : List V} {a : Addr} (n : H a = none) (r : RpAll K F vs ds) (q : Q (.ls ds)) : QV (.ref a) (upd H a (.lst vs)) :=
  p _ (VL.one a (.lst vs)) _ (.ls ds) _ (Grow.stay s (same_new n)) ⟨a, vs, rfl, rfl, r⟩ (same_one upd_same) (dis_one (s.free n)) (fun x z => by
    by_cases e : x = a
    · subst e; exact n
    · rw [one_ne e] at z; exact absurd rfl z) q
end
def Op2 (X : Cx) (f : Value → Value → Sem Value) (op : PyData → PyData → (O → Prop) → Prop) : Prop :=
  OpR X f (fun x y H QV => ∃ F d1 d2 Q, Same F H ∧ RepS X.K F H d1 x ∧ RepS X.K F H d2 y ∧ op d1 d2 Q ∧ OpPost X.K F H Q QV)
def Ix2 (X : Cx) (op : PyData → PyData → (O → Prop) → Prop) : Prop :=
  IxR X (fun x y H QV => ∃ F d1 d2 Q, Same F H ∧ RepS X.K F H d1 x ∧ RepS X.K F H d2 y ∧ op d1 d2 Q ∧ OpPost X.K F H Q QV)
def Op1 (X : Cx) (f : Value → Sem Value) (op : PyData → (O → Prop) → Prop) : Prop :=
  UnR X f (fun x H QV => ∃ F d1 Q, Same F H ∧ RepS X.K F H d1 x ∧ op d1 Q ∧ OpPost X.K F H Q QV)
def CallD (X : Cx) (f : Value) (cd : List PyData → (O → Prop) → Prop) : Prop :=
  CallR X f (fun vs H QV => ∃ F ds Q, Same F H ∧ RepL X.K F H ds vs ∧ cd ds Q ∧ OpPost X.K F H Q QV)
def SlD (X : Cx) (sd : PyData → Option Int → Option Int → (O → Prop) → Prop) : Prop :=
  SlR X (fun x lo hi H QV => ∃ F d Q, Same F H ∧ RepS X.K F H d x ∧ sd d lo hi Q ∧ OpPost X.K F H Q QV)
/-- from an operation's end to the reading's -/
theorem At.post {K : PySem.W.Frag} {pn : List (Nat × V)} {Z F F2 : Hp} {Γ : Ga} {σ : St} {h H : Hp} {Q : O → Ga → Prop} {QV : VK} (A : At K pn Z F2 Γ σ h H) (s : Same F F2)
    (k : ∀ F' Γ' h' hr H' o v, Same F F' → AtR K pn Z F' Γ' σ h' hr H' → Own K F' o v hr → Q o Γ' → QV v H') : OpPost K F2 H (fun o => Q o Γ) QV :=
  fun F' hr H' o v g w sr d nw q => k F' Γ h hr H' o v (s.trans g.fs) (A.beside g sr d nw) w q

/-! ### the readings' words -/
def xVar (i : Nat) : EX := fun Γ Q => (∃ o, Γ[i]? = some (some o)) ∧ Q (.s i) Γ
def xVal (i : Nat) : EX := fun Γ Q => match Γ[i]? with
  | some (some (.fz d)) => Q (.d d) Γ
  | some (some o) => ∃ d Γ', o.frz = some d ∧ setG Γ i (some (.fz d)) = some Γ' ∧ Q (.d d) Γ'
  | _ => False
def xC (d : PyData) : EX := fun Γ Q => Q (.d d) Γ
def xO (τ : EO) : EX := fun Γ Q => τ Γ fun o Γ' => ∃ d, o.frz = some d ∧ Q (.d d) Γ'
def oX (τ : EX) : EO := fun Γ Q => τ Γ fun a Γ' => ∃ d, a = .d d ∧ Q (.fz d) Γ'
def oMv (i : Nat) : EO := fun Γ Q => match Γ[i]? with
  | some (some (.fz d)) => Q (.fz d) Γ
  | some (some o) => ∃ Γ', setG Γ i none = some Γ' ∧ Q o Γ'
  | _ => False
def eOp (op : PyData → PyData → (O → Prop) → Prop) (τa τb : EX) : EO := fun Γ Q => τa Γ fun a1 Γ1 => τb Γ1 fun a2 Γ2 => ∃ d1 d2, rslv Γ2 a1 = some d1 ∧ rslv Γ2 a2 = some d2 ∧ op d1 d2 fun o => Q o Γ2
def eOp1 (op : PyData → (O → Prop) → Prop) (τa : EX) : EO := fun Γ Q => τa Γ fun a1 Γ1 => ∃ d1, rslv Γ1 a1 = some d1 ∧ op d1 fun o => Q o Γ1
def aNil : EA := fun Γ Q => Q [] Γ
def aCons (τ : EX) (τs : EA) : EA := fun Γ Q => τ Γ fun a Γ1 => τs Γ1 fun as Γ2 => Q (a :: as) Γ2
def eCB (cd : List PyData → (O → Prop) → Prop) (τs : EA) : EO := fun Γ Q => τs Γ fun as Γ1 => ∃ ds, rsAll Γ1 as = some ds ∧ cd ds fun o => Q o Γ1
def eTup (τs : EA) : EO := fun Γ Q => τs Γ fun as Γ1 => ∃ ds, unD as = some ds ∧ ds.length ≤ sizeLine ∧ Q (.fz (.tuple ds)) Γ1
def eLst (τs : EA) : EO := fun Γ Q => τs Γ fun as Γ1 => ∃ ds, unD as = some ds ∧ ds.length ≤ sizeLine ∧ Q (.ls ds) Γ1
section
variable {X : Cx} {e a b : Expr} {es : List Expr} {pos : Pos} {τ τa τb : EX} {τo : EO} {τs : EA}
theorem vx_var (i : Nat) (h : PE X e (tVar i)) : PE X e (lX X.K (xVar i)) := pe_imp h fun σ H QV ⟨pn, Z, F, Γ, hh, Q, A, ⟨⟨o, e1⟩, q⟩, k⟩ => by
  obtain ⟨v, h1, s1, w, _⟩ := A.slot e1
  exact ⟨v, s1, k F Γ hh H (.s i) v (Same.refl _) A s1 q⟩
theorem vx_val (i : Nat) (h : PE X e (tVar i)) : PE X e (lX X.K (xVal i)) := pe_imp h fun σ H QV ⟨pn, Z, F, Γ, hh, Q, A, q, k⟩ => by
  unfold xVal at q
  split at q
  · rename_i d e1
    obtain ⟨v, h1, s1, w, _⟩ := A.slot e1
    exact ⟨v, s1, k F Γ hh H (.d d) v (Same.refl _) A w.2 q⟩
  · rename_i o _ e1
    obtain ⟨d, Γ', ez, eΓ, q⟩ := q
    obtain ⟨F', h', v, s, s1, A', r⟩ := A.frzS e1 ez
    rw [(setG_eq eΓ).1] at A'
    exact ⟨v, s1, k F' _ h' H (.d d) v s A' r q⟩
  · exact q.elim
theorem vx_c {v : V} {d : PyData} (h : PE X e (tC v)) (r : ∀ F, Rp X.K F v d) : PE X e (lX X.K (xC d)) := pe_imp h fun σ H QV ⟨pn, Z, F, Γ, hh, Q, A, q, k⟩ => k F Γ hh H (.d d) v (Same.refl _) A (r F) q
theorem vx_o (h : PE X e (lO X.K τo)) : PE X e (lX X.K (xO τo)) := pe_imp h fun σ H QV ⟨pn, Z, F, Γ, hh, Q, A, q, k⟩ =>
  ⟨pn, Z, F, Γ, hh, _, A, q, fun F' Γ' h' hr H' o v s A' w ⟨d, e1, q'⟩ => by
    obtain ⟨F2, s2, A2, r2⟩ := A'.frz w e1
    exact k F2 Γ' h' H' (.d d) v (s.trans s2) A2 r2 q'⟩
theorem vo_x (h : PE X e (lX X.K τ)) : PE X e (lO X.K (oX τ)) := pe_imp h fun σ H QV ⟨pn, Z, F, Γ, hh, Q, A, q, k⟩ =>
  ⟨pn, Z, F, Γ, hh, _, A, q, fun F' Γ' h' H' a v s A' r ⟨d, e1, q'⟩ => by
    subst e1
    exact k F' Γ' h' emp H' (.fz d) v s A'.alone ⟨rfl, r⟩ q'⟩
theorem vo_mv (i : Nat) (h : PE X e (tVar i)) : PE X e (lO X.K (oMv i)) := pe_imp h fun σ H QV ⟨pn, Z, F, Γ, hh, Q, A, q, k⟩ => by
  unfold oMv at q
  split at q
  · rename_i d e1
    obtain ⟨v, h1, s1, w, _⟩ := A.slot e1
    exact ⟨v, s1, k F Γ hh emp H (.fz d) v (Same.refl _) A.alone ⟨rfl, w.2⟩ q⟩
  · rename_i o _ e1
    obtain ⟨h2, h1, v, s1, w, A'⟩ := A.move e1
    obtain ⟨Γ', eΓ, q⟩ := q
    rw [(setG_eq eΓ).1] at A'
    exact ⟨v, s1, k F _ h2 h1 H _ v (Same.refl _) A' w q⟩
  · exact q.elim
theorem vo_op {op : Operator} {opd : PyData → PyData → (O → Prop) → Prop} (ho : Op2 X (binaryOp op) opd) (ha : PE X a (lX X.K τa)) (hb : PE X b (lX X.K τb)) : PE X (.BinOp a op b pos) (lO X.K (eOp opd τa τb)) :=
  pe_imp (pe_op ho ha hb) fun σ H QV ⟨pn, Z, F, Γ, hh, Q, A, q, k⟩ =>
    ⟨pn, Z, F, Γ, hh, _, A, q, fun F1 Γ1 h1 H1 a1 x s1 A1 r1 q1 => ⟨pn, Z, F1, Γ1, h1, _, A1, q1, fun F2 Γ2 h2 H2 a2 y s2 A2 r2 ⟨d1, d2, e1, e2, q2⟩ =>
      ⟨F2, d1, d2, _, A2.FH, rep_of A2 (r1.mono s2) e1, rep_of A2 r2 e2, q2, A2.post (s1.trans s2) k⟩⟩⟩
theorem vo_cmp {op : CmpOp} {opd : PyData → PyData → (O → Prop) → Prop} (ho : Op2 X (compareOp op) opd) (ha : PE X a (lX X.K τa)) (hb : PE X b (lX X.K τb)) (hm : behindInMarks op b = false) : PE X (.Compare a [op] [b] pos) (lO X.K (eOp opd τa τb)) :=
  pe_imp (pe_cmpR ho ha hb hm) fun σ H QV ⟨pn, Z, F, Γ, hh, Q, A, q, k⟩ =>
    ⟨pn, Z, F, Γ, hh, _, A, q, fun F1 Γ1 h1 H1 a1 x s1 A1 r1 q1 => ⟨pn, Z, F1, Γ1, h1, _, A1, q1, fun F2 Γ2 h2 H2 a2 y s2 A2 r2 ⟨d1, d2, e1, e2, q2⟩ =>
      ⟨F2, d1, d2, _, A2.FH, rep_of A2 (r1.mono s2) e1, rep_of A2 r2 e2, q2, A2.post (s1.trans s2) k⟩⟩⟩
def tO (τ : EO) : ET := fun Γ Q => τ Γ fun o Γ' => ∃ b, o = .fz (.bool b) ∧ Q b Γ'
theorem vt_cmp {op : CmpOp} {opd : PyData → PyData → (O → Prop) → Prop} (ho : Op2 X (compareOp op) opd) (ha : PE X a (lX X.K τa)) (hb : PE X b (lX X.K τb)) (hm : behindInMarks op b = false) : PT X (.Compare a [op] [b] pos) (lT X.K (tO (eOp opd τa τb))) :=
  pt_imp (pt_cmpR ho ha hb hm) fun σ H QV ⟨pn, Z, F, Γ, hh, Q, A, q, k⟩ =>
    ⟨pn, Z, F, Γ, hh, _, A, q, fun F1 Γ1 h1 H1 a1 x s1 A1 r1 q1 => ⟨pn, Z, F1, Γ1, h1, _, A1, q1, fun F2 Γ2 h2 H2 a2 y s2 A2 r2 ⟨d1, d2, e1, e2, q2⟩ =>
      ⟨F2, d1, d2, _, A2.FH, rep_of A2 (r1.mono s2) e1, rep_of A2 r2 e2, q2, fun F' hr H' o v g w sr d nw ⟨c, e3, q3⟩ => by
        subst e3
        exact ⟨c, rp_bl w.2, k F' Γ2 h2 H' c ((s1.trans s2).trans g.fs) (A2.grow g) q3⟩⟩⟩⟩
theorem vt_o (h : PE X e (lO X.K τo)) (he : ∀ whole, isTrue e X.env whole = (do let v ← whole; standAt e.pos; holding [v] (truthy v)) := by intro _; rfl) : PT X e (lT X.K (tO τo)) :=
  pt_imp (pt_val h he) fun σ H QV ⟨pn, Z, F, Γ, hh, Q, A, q, k⟩ =>
    ⟨pn, Z, F, Γ, hh, _, A, q, fun F' Γ' h' hr H' o v s A' w ⟨c, e3, q3⟩ => by
      subst e3
      exact ⟨c, rp_bl w.2, k F' Γ' h' H' c s A'.at_ q3⟩⟩
theorem vo_ix {opd : PyData → PyData → (O → Prop) → Prop} (ho : Ix2 X opd) (ha : PE X a (lX X.K τa)) (hb : PE X b (lX X.K τb)) (hs : PlainIx b := by intro _ _; rfl) : PE X (.Subscript a b pos) (lO X.K (eOp opd τa τb)) :=
  pe_imp (pe_ix ho ha hb hs) fun σ H QV ⟨pn, Z, F, Γ, hh, Q, A, q, k⟩ =>
    ⟨pn, Z, F, Γ, hh, _, A, q, fun F1 Γ1 h1 H1 a1 x s1 A1 r1 q1 => ⟨pn, Z, F1, Γ1, h1, _, A1, q1, fun F2 Γ2 h2 H2 a2 y s2 A2 r2 ⟨d1, d2, e1, e2, q2⟩ =>
      ⟨F2, d1, d2, _, A2.FH, rep_of A2 (r1.mono s2) e1, rep_of A2 r2 e2, q2, A2.post (s1.trans s2) k⟩⟩⟩
theorem vo_un {op : UnaryOp} {opd : PyData → (O → Prop) → Prop} (ho : Op1 X (unaryOp op) opd) (ha : PE X a (lX X.K τa)) : PE X (.UnaryOp op a pos) (lO X.K (eOp1 opd τa)) :=
  pe_imp (pe_un ho ha) fun σ H QV ⟨pn, Z, F, Γ, hh, Q, A, q, k⟩ =>
    ⟨pn, Z, F, Γ, hh, _, A, q, fun F1 Γ1 h1 H1 a1 x s1 A1 r1 ⟨d1, e1, q1⟩ => ⟨F1, d1, _, A1.FH, rep_of A1 r1 e1, q1, A1.post s1 k⟩⟩
theorem va_nil : PA X [] (lA X.K aNil) := pa_imp pa_nil fun σ H QV ⟨pn, Z, F, Γ, hh, Q, A, q, k⟩ => k F Γ hh H [] [] (Same.refl _) A rfl q
theorem va_cons (ha : PE X e (lX X.K τ)) (hr : PA X es (lA X.K τs)) (hs : starEach (e :: es) X.env = (false, eval e X.env) :: starEach es X.env := by rfl) : PA X (e :: es) (lA X.K (aCons τ τs)) :=
  pa_imp (pa_cons ha hr hs) fun σ H QV ⟨pn, Z, F, Γ, hh, Q, A, q, k⟩ =>
    ⟨pn, Z, F, Γ, hh, _, A, q, fun F1 Γ1 h1 H1 a1 x s1 A1 r1 q1 => ⟨pn, Z, F1, Γ1, h1, _, A1, q1, fun F2 Γ2 h2 H2 as vs s2 A2 r2 q2 =>
      k F2 Γ2 h2 H2 (a1 :: as) (x :: vs) (s1.trans s2) A2 ⟨x, vs, rfl, r1.mono s2, r2⟩ q2⟩⟩
theorem args_d {K : PySem.W.Frag} {F : Hp} {σ : St} : ∀ {ds : List PyData} {vs : List V}, ArgsRel K F σ (ds.map Av.d) vs → RpAll K F vs ds
  | [], _, h => by cases h; exact .nil
  | _ :: _, _, ⟨v, vr, e, h, t⟩ => by cases e; exact .cons h (args_d t)
theorem vo_tup {x1 : Nat} (h : PA X es (lA X.K τs)) : PE X (.Tuple es x1 pos) (lO X.K (eTup τs)) :=
  pe_imp (pe_tupN h) fun σ H QV ⟨pn, Z, F, Γ, hh, Q, A, q, k⟩ =>
    ⟨pn, Z, F, Γ, hh, _, A, q, fun F1 Γ1 h1 H1 as vs s1 A1 r1 ⟨ds, e1, z, q1⟩ => by
      rw [unD_eq e1] at r1
      have r := args_d r1
      exact ⟨by rw [r.length]; exact z, fun p o n hd => (A1.post s1 k).newT A1.FH n hd r q1⟩⟩
theorem vo_lst (h : PA X es (lA X.K τs)) : PE X (.List es pos) (lO X.K (eLst τs)) :=
  pe_imp (pe_lst h) fun σ H QV ⟨pn, Z, F, Γ, hh, Q, A, q, k⟩ =>
    ⟨pn, Z, F, Γ, hh, _, A, q, fun F1 Γ1 h1 H1 as vs s1 A1 r1 ⟨ds, e1, z, q1⟩ => by
      rw [unD_eq e1] at r1
      have r := args_d r1
      exact ⟨by rw [r.length]; exact z, fun p n => (A1.post s1 k).newL A1.FH n r q1⟩⟩
end
end VL
end
section
namespace VL
open PySem PySem.Spec L2

/-! ### two ways -/
def Br (c : Bool) (A B : Prop) : Prop := if c = true then A else B
theorem br_t {A B : Prop} (h : A) : Br true A B := by unfold Br; rw [if_pos rfl]; exact h
theorem br_f {A B : Prop} (h : B) : Br false A B := by unfold Br; rw [if_neg Bool.false_ne_true]; exact h
theorem br2 {c : Bool} {A B : Prop} (h1 : c = true → A) (h2 : c = false → B) : Br c A B := by
  cases c with
  | true => exact br_t (h1 rfl)
  | false => exact br_f (h2 rfl)
theorem of_br {c : Bool} {A B : Prop} (h : Br c A B) : if c = true then A else B := h

def tNotD (t : ET) : ET := fun Γ Q => t Γ fun b Γ' => Q (!b) Γ'
def tAndD (t u : ET) : ET := fun Γ Q => t Γ fun c Γ1 => Br c (u Γ1 Q) (Q false Γ1)
def tOrD (t u : ET) : ET := fun Γ Q => t Γ fun c Γ1 => Br c (Q true Γ1) (u Γ1 Q)
def eAnd (ta tb : EO) : EO := fun Γ Q => ta Γ fun o Γ1 => ∃ c, o = .fz (.bool c) ∧ Br c (tb Γ1 Q) (Q (.fz (.bool false)) Γ1)
def eOr (ta tb : EO) : EO := fun Γ Q => ta Γ fun o Γ1 => ∃ c, o = .fz (.bool c) ∧ Br c (Q (.fz (.bool true)) Γ1) (tb Γ1 Q)
def eNot (ta : EO) : EO := fun Γ Q => ta Γ fun o Γ1 => ∃ c, o = .fz (.bool c) ∧ Q (.fz (.bool (!c))) Γ1
def eIf (t : ET) (ta tb : EO) : EO := fun Γ Q => t Γ fun c Γ1 => Br c (ta Γ1 Q) (tb Γ1 Q)
def eChain (op op' : PyData → PyData → (O → Prop) → Prop) (τa τb τc : EX) : EO := fun Γ Q => τa Γ fun a1 Γ1 => τb Γ1 fun a2 Γ2 => ∃ d1 d2, rslv Γ2 a1 = some d1 ∧ a2 = .d d2 ∧ op d1 d2 fun o => ∃ c, o = .fz (.bool c) ∧
  Br c (τc Γ2 fun a3 Γ3 => ∃ d3, rslv Γ3 a3 = some d3 ∧ op' d2 d3 fun o => Q o Γ3) (Q (.fz (.bool false)) Γ2)
/-- truth of data -/
def truD : PyData → Option Bool
  | .none => some false
  | .bool b => some b
  | .int i => some (i != 0)
  | .str x => if x.length ≤ sizeLine then some ((x.length : Int) != 0) else none
  | .list ds => some (!ds.isEmpty)
  | .tuple ds => some (!ds.isEmpty)
  | .dict _ => none
def tTru (τ : EX) : ET := fun Γ Q => τ Γ fun a Γ1 => ∃ d k, rslv Γ1 a = some d ∧ truD d = some k ∧ Q k Γ1
section
variable {X : Cx} {e a b c : Expr} {es rest : List Expr} {pos : Pos} {τ τa τb τc : EX} {τo τo' : EO} {τs : EA} {t u : ET}
theorem vt_not (h : PT X a (lT X.K t)) : PT X (.UnaryOp .Not a pos) (lT X.K (tNotD t)) :=
  pt_imp (pt_not h) fun σ H QV ⟨pn, Z, F, Γ, hh, Q, A, q, k⟩ => ⟨pn, Z, F, Γ, hh, _, A, q, fun F' Γ' h' H' b s A' q' => k F' Γ' h' H' _ s A' q'⟩
theorem vw_and1 (h : PT X a (lT X.K t)) : PW X (.BoolOp .And [a] pos) (lT X.K t) := pw_and1 h
theorem vw_or1 (h : PT X a (lT X.K t)) : PW X (.BoolOp .Or [a] pos) (lT X.K t) := pw_or1 h
theorem vw_and (ha : PT X a (lT X.K t)) (hb : PW X (.BoolOp .And (b :: rest) pos) (lT X.K u)) : PW X (.BoolOp .And (a :: b :: rest) pos) (lT X.K (tAndD t u)) :=
  pw_imp (pw_and ha hb) fun σ H QV ⟨pn, Z, F, Γ, hh, Q, A, q, k⟩ => ⟨pn, Z, F, Γ, hh, _, A, q, fun F1 Γ1 h1 H1 c s1 A1 q1 => by
    have q1 := of_br q1
    cases c with
    | true => exact ⟨pn, Z, F1, Γ1, h1, Q, A1, q1, fun F' Γ' h' H' b s A' q' => k F' Γ' h' H' b (s1.trans s) A' q'⟩
    | false => exact k F1 Γ1 h1 H1 false s1 A1 q1⟩
theorem vw_or (ha : PT X a (lT X.K t)) (hb : PW X (.BoolOp .Or (b :: rest) pos) (lT X.K u)) : PW X (.BoolOp .Or (a :: b :: rest) pos) (lT X.K (tOrD t u)) :=
  pw_imp (pw_or ha hb) fun σ H QV ⟨pn, Z, F, Γ, hh, Q, A, q, k⟩ => ⟨pn, Z, F, Γ, hh, _, A, q, fun F1 Γ1 h1 H1 c s1 A1 q1 => by
    have q1 := of_br q1
    cases c with
    | true => exact k F1 Γ1 h1 H1 true s1 A1 q1
    | false => exact ⟨pn, Z, F1, Γ1, h1, Q, A1, q1, fun F' Γ' h' H' b s A' q' => k F' Γ' h' H' b (s1.trans s) A' q'⟩⟩
theorem vo_one {op} (h : PE X a (lO X.K τo)) : PE X (.BoolOp op [a] pos) (lO X.K τo) := pe_one h
theorem vo_and (ha : PE X a (lO X.K τo)) (hb : PE X (.BoolOp .And (b :: rest) pos) (lO X.K τo')) : PE X (.BoolOp .And (a :: b :: rest) pos) (lO X.K (eAnd τo τo')) :=
  pe_imp (pe_and ha hb) fun σ H QV ⟨pn, Z, F, Γ, hh, Q, A, q, k⟩ => ⟨pn, Z, F, Γ, hh, _, A, q, fun F1 Γ1 h1 hr H1 o v s1 A1 w ⟨c, e1, q1⟩ => by
    subst e1
    refine ⟨c, rp_bl w.2, ?_⟩
    have q1 := of_br q1
    cases c with
    | true => exact ⟨pn, Z, F1, Γ1, h1, Q, A1.at_, q1, fun F' Γ' h' hr' H' o v s A' w' q' => k F' Γ' h' hr' H' o v (s1.trans s) A' w' q'⟩
    | false => exact k F1 Γ1 h1 emp H1 (.fz (.bool false)) _ s1 A1.at_.alone ⟨rfl, .bl _⟩ q1⟩
theorem vo_or (ha : PE X a (lO X.K τo)) (hb : PE X (.BoolOp .Or (b :: rest) pos) (lO X.K τo')) : PE X (.BoolOp .Or (a :: b :: rest) pos) (lO X.K (eOr τo τo')) :=
  pe_imp (pe_or ha hb) fun σ H QV ⟨pn, Z, F, Γ, hh, Q, A, q, k⟩ => ⟨pn, Z, F, Γ, hh, _, A, q, fun F1 Γ1 h1 hr H1 o v s1 A1 w ⟨c, e1, q1⟩ => by
    subst e1
    refine ⟨c, rp_bl w.2, ?_⟩
    have q1 := of_br q1
    cases c with
    | true => exact k F1 Γ1 h1 emp H1 (.fz (.bool true)) _ s1 A1.at_.alone ⟨rfl, .bl _⟩ q1
    | false => exact ⟨pn, Z, F1, Γ1, h1, Q, A1.at_, q1, fun F' Γ' h' hr' H' o v s A' w' q' => k F' Γ' h' hr' H' o v (s1.trans s) A' w' q'⟩⟩
theorem vo_not (ha : PE X a (lO X.K τo)) : PE X (.UnaryOp .Not a pos) (lO X.K (eNot τo)) :=
  pe_imp (pe_not ha) fun σ H QV ⟨pn, Z, F, Γ, hh, Q, A, q, k⟩ => ⟨pn, Z, F, Γ, hh, _, A, q, fun F1 Γ1 h1 hr H1 o v s1 A1 w ⟨c, e1, q1⟩ => by
    subst e1
    exact ⟨c, rp_bl w.2, k F1 Γ1 h1 emp H1 (.fz (.bool (!c))) _ s1 A1.at_.alone ⟨rfl, .bl _⟩ q1⟩⟩
theorem vo_if (hc : PT X c (lT X.K t)) (ha : PE X a (lO X.K τo)) (hb : PE X b (lO X.K τo')) : PE X (.IfExp c a b pos) (lO X.K (eIf t τo τo')) :=
  pe_imp (pe_ifExp hc ha hb) fun σ H QV ⟨pn, Z, F, Γ, hh, Q, A, q, k⟩ => ⟨pn, Z, F, Γ, hh, _, A, q, fun F1 Γ1 h1 H1 c s1 A1 q1 => by
    have q1 := of_br q1
    cases c with
    | true => exact ⟨pn, Z, F1, Γ1, h1, Q, A1, q1, fun F' Γ' h' hr' H' o v s A' w' q' => k F' Γ' h' hr' H' o v (s1.trans s) A' w' q'⟩
    | false => exact ⟨pn, Z, F1, Γ1, h1, Q, A1, q1, fun F' Γ' h' hr' H' o v s A' w' q' => k F' Γ' h' hr' H' o v (s1.trans s) A' w' q'⟩⟩
theorem vo_chain {op op' : CmpOp} {opd opd' : PyData → PyData → (O → Prop) → Prop} (ho : Op2 X (compareOp op) opd) (ho' : Op2 X (compareOp op') opd') (ha : PE X a (lX X.K τa)) (hb : PE X b (lX X.K τb)) (hc : PE X c (lX X.K τc))
    (hm : lastMarks [op, op'] [b, c] = false := by with_unfolding_all rfl) : PE X (.Compare a [op, op'] [b, c] pos) (lO X.K (eChain opd opd' τa τb τc)) :=
  pe_imp (pe_chain ho ho' ha hb hc hm) fun σ H QV ⟨pn, Z, F, Γ, hh, Q, A, q, k⟩ => ⟨pn, Z, F, Γ, hh, _, A, q, fun F1 Γ1 h1 H1 a1 x s1 A1 r1 q1 => ⟨pn, Z, F1, Γ1, h1, _, A1, q1, fun F2 Γ2 h2 H2 a2 y s2 A2 r2 ⟨d1, d2, e1, e2, q2⟩ => by
    subst e2
    refine ⟨F2, d1, d2, _, A2.FH, rep_of A2 (r1.mono s2) e1, .inl r2, q2, fun F' hr H' o v g w sr d nw ⟨c, e3, q3⟩ => ?_⟩
    subst e3
    refine ⟨c, rp_bl w.2, ?_⟩
    have q3 := of_br q3
    have A3 : At _ pn Z F' Γ2 σ h2 H' := A2.grow g
    have s3 := (s1.trans s2).trans g.fs
    cases c with
    | true => exact ⟨pn, Z, F', Γ2, h2, _, A3, q3, fun F4 Γ4 h4 H4 a3 z s4 A4 r4 ⟨d3, e4, q4⟩ => ⟨F4, d2, d3, _, A4.FH, .inl (Rp.mono (g.fs.trans s4) r2), rep_of A4 r4 e4, q4, A4.post (s3.trans s4) k⟩⟩
    | false => exact k F' Γ2 h2 emp H' (.fz (.bool false)) _ s3 A3.alone ⟨rfl, .bl _⟩ q3⟩⟩
theorem vt_chain {op op' : CmpOp} {opd opd' : PyData → PyData → (O → Prop) → Prop} (ho : Op2 X (compareOp op) opd) (ho' : Op2 X (compareOp op') opd') (ha : PE X a (lX X.K τa)) (hb : PE X b (lX X.K τb)) (hc : PE X c (lX X.K τc))
    (hm : lastMarks [op, op'] [b, c] = false := by with_unfolding_all rfl) : PT X (.Compare a [op, op'] [b, c] pos) (lT X.K (tO (eChain opd opd' τa τb τc))) :=
  pt_imp (pt_chain ho ho' ha hb hc hm) fun σ H QV ⟨pn, Z, F, Γ, hh, Q, A, q, k⟩ => ⟨pn, Z, F, Γ, hh, _, A, q, fun F1 Γ1 h1 H1 a1 x s1 A1 r1 q1 => ⟨pn, Z, F1, Γ1, h1, _, A1, q1, fun F2 Γ2 h2 H2 a2 y s2 A2 r2 ⟨d1, d2, e1, e2, q2⟩ => by
    subst e2
    refine ⟨F2, d1, d2, _, A2.FH, rep_of A2 (r1.mono s2) e1, .inl r2, q2, fun F' hr H' o v g w sr d nw ⟨c, e3, q3⟩ => ?_⟩
    subst e3
    refine ⟨c, rp_bl w.2, ?_⟩
    have q3 := of_br q3
    have A3 : At _ pn Z F' Γ2 σ h2 H' := A2.grow g
    have s3 := (s1.trans s2).trans g.fs
    cases c with
    | true => exact ⟨pn, Z, F', Γ2, h2, _, A3, q3, fun F4 Γ4 h4 H4 a3 z s4 A4 r4 ⟨d3, e4, q4⟩ => ⟨F4, d2, d3, _, A4.FH, .inl (Rp.mono (g.fs.trans s4) r2), rep_of A4 r4 e4, q4, fun F5 hr5 H5 o5 v5 g5 w5 sr5 d5 nw5 ⟨c5, e5, q5⟩ => by
        subst e5
        exact ⟨c5, rp_bl w5.2, k F5 Γ4 h4 H5 c5 ((s3.trans s4).trans g5.fs) (A4.grow g5) q5⟩⟩⟩
    | false =>
      obtain ⟨c', e4, q4⟩ := q3
      cases e4
      exact ⟨false, rfl, k F' Γ2 h2 H' false s3 A3 q4⟩⟩⟩
theorem tru_of {K : PySem.W.Frag} {F H : Hp} {d : PyData} {v : V} {k : Bool} (s : Same F H) (r : RepS K F H d v) (e : truD d = some k) : TruV K v H k := by
  have r := r.rpH s
  cases r with
  | non => cases e; rfl
  | bl b => cases e; rfl
  | int i => cases e; rfl
  | str x =>
    have e : (if x.length ≤ sizeLine then some ((x.length : Int) != 0) else none) = some k := e
    by_cases z : x.length ≤ sizeLine
    · rw [if_pos z] at e; cases e; exact ⟨z, rfl⟩
    · rw [if_neg z] at e; cases e
  | @lst a xs ds hs ha =>
    cases e
    refine .inl ⟨xs, SqL.of hs, ?_⟩
    cases ha <;> rfl
  | @tup a xs ds hs ha =>
    cases e
    refine .inr (.inl ⟨xs, hs.sq, ?_⟩)
    cases ha <;> rfl
  | dct _ _ _ _ => cases e
  | scr _ => cases e
theorem vt_tru (h : PE X e (lX X.K τ)) (he : ∀ whole, isTrue e X.env whole = (do let v ← whole; standAt e.pos; holding [v] (truthy v)) := by intro _; rfl) : PT X e (lT X.K (tTru τ)) :=
  pt_imp (pt_truth h he) fun σ H QV ⟨pn, Z, F, Γ, hh, Q, A, q, k⟩ => ⟨pn, Z, F, Γ, hh, _, A, q, fun F1 Γ1 h1 H1 a1 x s1 A1 r1 ⟨d, b, e1, e2, q1⟩ => ⟨b, tru_of A1.FH (rep_of A1 r1 e1) e2, k F1 Γ1 h1 H1 b s1 A1 q1⟩⟩
end

/-! ### targets -/
abbrev EG := PyData → Ga → (Ga → Prop) → Prop
abbrev EGs := List PyData → Ga → (Ga → Prop) → Prop
def Only (ws : List Nat) (σ σ' : St) : Prop := ∀ vs : List Nat, (∀ i ∈ ws, i ∈ vs) → wipe σ' vs = wipe σ vs
def lG (K : PySem.W.Frag) (io : Bool) (ws : List Nat) (τ : EG) : TG := fun v σ H Q => ∃ v0 Z F Γ h d Qd, At K (pns io v0) Z F Γ σ h H ∧ Rp K F v d ∧ τ d Γ Qd ∧
  ∀ F' Γ' σ' h' H', Same F F' → Only ws σ σ' → At K (pns io v0) Z F' Γ' σ' h' H' → Qd Γ' → Q σ' H'
def lGs (K : PySem.W.Frag) (io : Bool) (ws : List Nat) (τ : EGs) : TGs := fun vs σ H Q => ∃ v0 Z F Γ h ds Qd, At K (pns io v0) Z F Γ σ h H ∧ RpAll K F vs ds ∧ τ ds Γ Qd ∧
  ∀ F' Γ' σ' h' H', Same F F' → Only ws σ σ' → At K (pns io v0) Z F' Γ' σ' h' H' → Qd Γ' → Q σ' H'
def gN (i : Nat) : EG := fun d Γ Q => ∃ Γ', setG Γ i (some (.fz d)) = some Γ' ∧ Q Γ'
def gNils : EGs := fun ds Γ Q => ds = [] ∧ Q Γ
def gConss (t : EG) (u : EGs) : EGs := fun ds Γ Q => ∃ d dr, ds = d :: dr ∧ t d Γ fun Γ1 => u dr Γ1 Q
def gTupD (n : Nat) (u : EGs) : EG := fun d Γ Q => ∃ ds, d = .tuple ds ∧ ds.length = n ∧ u ds Γ Q
theorem wipe_comm {σ : St} {i : Nat} {x : Option V} : ∀ {vs : List Nat}, i ∈ vs → wipe (σ.set i x) vs = wipe σ vs
  | [], h => nomatch h
  | v :: vs, h => by
    show (wipe (σ.set i x) vs).set v none = (wipe σ vs).set v none
    by_cases hm : i ∈ vs
    · rw [wipe_comm hm]
    · have e : i = v := by
        rcases List.mem_cons.mp h with z | z
        · exact z
        · exact absurd z hm
      subst e
      have wset : ∀ (ws : List Nat) (σ : St) (x : Option V), i ∉ ws → wipe (σ.set i x) ws = (wipe σ ws).set i x := by
        intro ws
        induction ws with
        | nil => intro σ x _; rfl
        | cons w ws ih =>
          intro σ x hw
          have hne : w ≠ i := fun z => hw (by simp [z])
          show (wipe (σ.set i x) ws).set w none = ((wipe σ ws).set w none).set i x
          rw [ih σ x fun z => hw (List.mem_cons_of_mem _ z), List.set_comm _ _ (Ne.symm hne)]
      rw [wset vs σ x hm, List.set_set]
theorem Only.refl {ws : List Nat} {σ : St} : Only ws σ σ := fun _ _ => rfl
theorem Only.trans {ws us : List Nat} {σ σ1 σ2 : St} (a : Only ws σ σ1) (b : Only us σ1 σ2) : Only (ws ++ us) σ σ2 := fun vs h =>
  (b vs fun i hi => h i (List.mem_append_right _ hi)).trans (a vs fun i hi => h i (List.mem_append_left _ hi))
theorem At.put {K : PySem.W.Frag} {pn : List (Nat × V)} {Z F : Hp} {Γ : Ga} {σ : St} {h H : Hp} {v : V} {d : PyData} {i : Nat} (A : At K pn Z F Γ σ h H) (r : Rp K F v d) (hi : i < Γ.length) (hp : ∀ p ∈ pn, p.1 ≠ i) :
    ∃ h', At K pn Z F (Γ.set i (some (.fz d))) (σ.set i (some v)) h' H := A.alone.store (o := .fz d) ⟨rfl, r⟩ hi hp
theorem pns_ne {io : Bool} {v0 : V} {i : Nat} (h : io = true → i ≠ 0) : ∀ p ∈ pns io v0, p.1 ≠ i := fun p hp => by
  unfold pns at hp
  split at hp
  · rename_i e
    have : p = (0, v0) := by simpa using hp
    subst this
    exact fun z => h e z.symm
  · cases hp
section
variable {X : Cx} {io : Bool} {pos : Pos}
theorem vg_name {i : Nat} {x : Str} (hN : X.N.Nodup) (hi : X.N[i]? = some x) (hx : Loc X.env.scope x) (h0 : io = true → i ≠ 0) (hf : X.fn x = true ∨ X.env.scope.names.lookup x = some .local := by first | exact .inl rfl | exact .inr rfl | assumption) : PG X (.Name x pos) (lG X.K io [i] (gN i)) :=
  pg_imp (pg_name hN hi hx hf) fun v σ H Q ⟨v0, Z, F, Γ, h, d, Qd, A, r, ⟨Γ', eΓ, q⟩, k⟩ => by
    obtain ⟨e1, hl⟩ := setG_eq eΓ
    obtain ⟨h', A'⟩ := A.put r hl (pns_ne h0)
    rw [e1] at A'
    exact k F _ _ h' H (Same.refl _) (fun vs hv => wipe_comm (hv i (by simp))) A' q
theorem vgs_nil : PGs X [] (lGs X.K io [] gNils) := ⟨fun pins s σ H vs us Q I r ⟨v0, Z, F, Γ, h, ds, Qd, A, rr, ⟨e, q⟩, k⟩ => pgs_nil.run pins s σ H vs us Q I r ⟨by subst e; cases rr; rfl, k F Γ σ h H (Same.refl _) Only.refl A q⟩⟩
theorem vgs_cons {e : Expr} {es : List Expr} {ws us : List Nat} {t : EG} {u : EGs} (h1 : PG X e (lG X.K io ws t)) (h2 : PGs X es (lGs X.K io us u))
    (hs : (assignEach (e :: es) X.env).map (·.2) = assign e X.env :: (assignEach es X.env).map (·.2) := by rfl) : PGs X (e :: es) (lGs X.K io (ws ++ us) (gConss t u)) :=
  ⟨fun pins s σ H vs uss Q I r ⟨v0, Z, F, Γ, h, ds, Qd, A, rr, ⟨d, dr, e1, q⟩, k⟩ => by
    subst e1
    cases rr with
    | cons r1 r2 =>
      exact (pgs_cons h1 h2 hs).run pins s σ H _ uss Q I r ⟨_, _, rfl, ⟨v0, Z, F, Γ, h, d, _, A, r1, q, fun F1 Γ1 σ1 h1 H1 s1 o1 A1 q1 =>
        ⟨v0, Z, F1, Γ1, h1, dr, Qd, A1, RpAll.mono s1 r2, q1, fun F2 Γ2 σ2 h2 H2 s2 o2 A2 q2 => k F2 Γ2 σ2 h2 H2 (s1.trans s2) (o1.trans o2) A2 q2⟩⟩⟩⟩
theorem vg_tup {es : List Expr} {kk : Nat} {ws : List Nat} {u : EGs} {n : Nat} (hc : X.calm = true) (h : PGs X es (lGs X.K io ws u)) (hn : (assignEach es X.env).length = n := by rfl) (hst : (assignEach es X.env).findIdx? (·.1) = none := by rfl) :
    PG X (.Tuple es kk pos) (lG X.K io ws (gTupD n u)) :=
  pg_imp (pg_tup hc h hn hst) fun v σ H Q ⟨v0, Z, F, Γ, h, d, Qd, A, r, ⟨ds, e1, e2, q⟩, k⟩ => by
    subst e1
    obtain ⟨a, xs, rfl, hs, ha⟩ := rp_tup r
    exact ⟨a, xs, rfl, sameT A.FH hs, by rw [ha.length, e2], v0, Z, F, Γ, h, ds, Qd, A, ha, q, k⟩
end

/-! ### statements -/
def sNext : ES := fun D Γ => D.nx Γ
def sSeq (t u : ES) : ES := fun D Γ => t { D with nx := u D } Γ
def sBreak : ES := fun D Γ => D.bk Γ
def sCont : ES := fun D Γ => D.ct Γ
def sDrop (τ : EO) : ES := fun D Γ => τ Γ fun _ Γ' => D.nx Γ'
def sRet (τ : EO) : ES := fun D Γ => τ Γ D.rt
def sRetN : ES := fun D Γ => D.rt (.fz .none) Γ
def sIf (c : ET) (t u : ES) : ES := fun D Γ => c Γ fun b Γ1 => Br b (t D Γ1) (u D Γ1)
def sSet (i : Nat) (τ : EO) : ES := fun D Γ => τ Γ fun o Γ' => ∃ Γ2, setG Γ' i (some o) = some Γ2 ∧ D.nx Γ2
def sAsg (τ : EX) (g : EG) : ES := fun D Γ => τ Γ fun a Γ1 => ∃ d, a = .d d ∧ g d Γ1 D.nx
def sPar (i j : Nat) (τa τb : EO) : ES := fun D Γ => τa Γ fun o1 Γ1 => τb Γ1 fun o2 Γ2 => ∃ Γ3 Γ4, setG Γ2 i (some o1) = some Γ3 ∧ setG Γ3 j (some o2) = some Γ4 ∧ D.nx Γ4
def sWhile (c : ET) (t : ES) : ES := fun D Γ => ∃ W : Nat → Ga → Prop, (∃ m, W m Γ) ∧ ∀ m Γ', W m Γ' → c Γ' fun b Γ1 => Br b (t { D with nx := fun Γ2 => ∃ m', m' < m ∧ W m' Γ2, ct := fun Γ2 => ∃ m', m' < m ∧ W m' Γ2, bk := D.nx } Γ1) (D.nx Γ1)
section
variable {X : Cx} {io : Bool} {pos : Pos} {st : Stmt} {sts : List Stmt} {t u : ES} {e : Expr} {τ : EX} {τo τo' : EO} {tc : ET}
theorem vss_nil : PSs X [] (lS X.K io sNext) := pss_imp pss_nil fun D σ H ⟨v0, Z, F, Γ, h, DD, A, q, k⟩ => k.nx F Γ σ h H (Same.refl _) A q
theorem vss_cons (h1 : PS X st (lS X.K io t)) (h2 : PSs X sts (lS X.K io u)) : PSs X (st :: sts) (lS X.K io (sSeq t u)) :=
  pss_imp (pss_cons h1 h2) fun D σ H ⟨v0, Z, F, Γ, h, DD, A, q, k⟩ => ⟨v0, Z, F, Γ, h, _, A, q, ⟨fun F' Γ' σ' h' H' s A' q' => ⟨v0, Z, F', Γ', h', DD, A', q', k.mono s⟩, k.bk, k.ct, k.rt⟩⟩
theorem vss_one (h1 : PS X st (lS X.K io t)) : PSs X [st] (lS X.K io t) := pss_one h1
theorem vs_pass : PS X (.Pass pos) (lS X.K io sNext) := ps_imp ps_pass fun D σ H ⟨v0, Z, F, Γ, h, DD, A, q, k⟩ => k.nx F Γ σ h H (Same.refl _) A q
theorem vs_break : PS X (.Break pos) (lS X.K io sBreak) := ps_imp ps_break fun D σ H ⟨v0, Z, F, Γ, h, DD, A, q, k⟩ => k.bk F Γ σ h H (Same.refl _) A q
theorem vs_continue : PS X (.Continue pos) (lS X.K io sCont) := ps_imp ps_continue fun D σ H ⟨v0, Z, F, Γ, h, DD, A, q, k⟩ => k.ct F Γ σ h H (Same.refl _) A q
theorem vs_doc {x j pos pos'} : PS X (.Expr (.Constant (.str x) j pos) pos') (lS X.K io sNext) := ps_imp ps_doc fun D σ H ⟨v0, Z, F, Γ, h, DD, A, q, k⟩ => k.nx F Γ σ h H (Same.refl _) A q
theorem vs_expr (he : PE X e (lO X.K τo)) (hs : swapsWith e none pos.line X.env = pure false := by rfl) : PS X (.Expr e pos) (lS X.K io (sDrop τo)) :=
  ps_imp (ps_expr he hs) fun D σ H ⟨v0, Z, F, Γ, h, DD, A, q, k⟩ => ⟨_, Z, F, Γ, h, _, A, q, fun F' Γ' h' hr H' o v s A' w q' => k.nx F' Γ' σ h' H' s A'.at_ q'⟩
theorem vs_ret (he : PE X e (lO X.K τo)) : PS X (.Return (some e) pos) (lS X.K io (sRet τo)) :=
  ps_imp (ps_ret he) fun D σ H ⟨v0, Z, F, Γ, h, DD, A, q, k⟩ => ⟨_, Z, F, Γ, h, _, A, q, fun F' Γ' h' hr H' o v s A' w q' => k.rt F' Γ' σ h' hr H' o v s A' w q'⟩
theorem vs_retN : PS X (.Return none pos) (lS X.K io sRetN) :=
  ps_imp ps_retN fun D σ H ⟨v0, Z, F, Γ, h, DD, A, q, k⟩ => k.rt F Γ σ h emp H (.fz .none) .non (Same.refl _) A.alone ⟨rfl, .non⟩ q
theorem vs_if {c : Expr} {a b : List Stmt} (hc : PT X c (lT X.K tc)) (ha : PSs X a (lS X.K io t)) (hb : PSs X b (lS X.K io u)) : PS X (.If c a b pos) (lS X.K io (sIf tc t u)) :=
  ps_imp (ps_if hc ha hb) fun D σ H ⟨v0, Z, F, Γ, h, DD, A, q, k⟩ => ⟨_, Z, F, Γ, h, _, A, q, fun F' Γ' h' H' b s A' q' => by
    have q' := of_br q'
    cases b with
    | true => exact ⟨v0, Z, F', Γ', h', DD, A', q', k.mono s⟩
    | false => exact ⟨v0, Z, F', Γ', h', DD, A', q', k.mono s⟩⟩
theorem vs_set {i : Nat} {x : Str} {pos' : Pos} (hN : X.N.Nodup) (hi : X.N[i]? = some x) (hx : Loc X.env.scope x) (h0 : io = true → i ≠ 0) (he : PE X e (lO X.K τo)) (hs : swapsWith e (some (.Name x pos')) pos.line X.env = pure false := by rfl) (hf : X.fn x = true ∨ X.env.scope.names.lookup x = some .local := by first | exact .inl rfl | exact .inr rfl | assumption) :
    PS X (.Assign [.Name x pos'] e pos) (lS X.K io (sSet i τo)) :=
  ps_imp (ps_set hN hi hx he hs hf) fun D σ H ⟨v0, Z, F, Γ, h, DD, A, q, k⟩ => ⟨_, Z, F, Γ, h, _, A, q, fun F' Γ' h' hr H' o v s A' w ⟨Γ2, eΓ, q'⟩ => by
    obtain ⟨e1, hl⟩ := setG_eq eΓ
    obtain ⟨h2, A2⟩ := A'.store w hl (pns_ne h0)
    rw [e1] at A2
    exact k.nx F' _ _ h2 H' s A2 q'⟩
theorem vs_asg {tg : Expr} {ws : List Nat} {g : EG} (he : PE X e (lX X.K τ)) (hg : PG X tg (lG X.K io ws g)) (hs : swapsWithSole [tg] e pos.line X.env = pure false := by rfl) (hw : swappedStores [tg] e X.env = pure none := by rfl)
    (h1 : (assignEach [tg] X.env).map (·.2) = [assign tg X.env] := by rfl) : PS X (.Assign [tg] e pos) (lS X.K io (sAsg τ g)) :=
  ps_imp (ps_asg he hg hs hw h1) fun D σ H ⟨v0, Z, F, Γ, h, DD, A, q, k⟩ => ⟨_, Z, F, Γ, h, _, A, q, fun F' Γ' h' H' a v s A' r ⟨d, e1, q'⟩ => by
    subst e1
    exact ⟨v0, Z, F', Γ', h', d, _, A', r, q', fun F2 Γ2 σ2 h2 H2 s2 _ A2 q2 => k.nx F2 Γ2 σ2 h2 H2 (s.trans s2) A2 q2⟩⟩
/-- a part beside kept by what stands still -/
theorem AtR.keep {K : PySem.W.Frag} {pn : List (Nat × V)} {Z F : Hp} {Γ : Ga} {σ : St} {h hr H : Hp} (A : AtR K pn Z F Γ σ h hr H) : At K pn (jn Z hr) F Γ σ h H :=
  ⟨A.at_.own, A.at_.hH, A.at_.FH, same_jn A.at_.ZH A.rH, (Dis.jn A.at_.FZ.symm A.rF).symm, A.at_.hF, (Dis.jn A.at_.hZ.symm A.rh).symm, A.at_.pin⟩
theorem At.unkeep {K : PySem.W.Frag} {pn : List (Nat × V)} {Z F : Hp} {Γ : Ga} {σ : St} {h hr H : Hp} (d : Dis Z hr) (A : At K pn (jn Z hr) F Γ σ h H) : AtR K pn Z F Γ σ h hr H :=
  ⟨⟨A.own, A.hH, A.FH, fun a o e => A.ZH _ _ (same_l _ _ e), (Dis.sub same_l A.FZ.symm).symm, A.hF, (Dis.sub same_l A.hZ.symm).symm, A.pin⟩, fun a o e => A.ZH _ _ (same_r d _ _ e), Dis.sub (same_r d) A.hZ.symm, Dis.sub (same_r d) A.FZ.symm, d.symm⟩
theorem vs_par {i j : Nat} {x y : Str} {a b : Expr} {px py pt : Pos} {kt k2 pt2} (hc : X.calm = true) (hN : X.N.Nodup) (hi : X.N[i]? = some x) (hj : X.N[j]? = some y) (hij : i ≠ j)
    (hx : X.env.scope.names.lookup x = some .local) (hy : X.env.scope.names.lookup y = some .local) (h0 : io = true → i ≠ 0) (h0' : io = true → j ≠ 0) (ha : PE X a (lO X.K τo)) (hb : PE X b (lO X.K τo'))
    (hw : swappedStores [.Tuple [.Name x px, .Name y py] kt pt] (.Tuple [a, b] k2 pt2) X.env = pure (some [x, y]))
    (hs : swapsWithSole [.Tuple [.Name x px, .Name y py] kt pt] (.Tuple [a, b] k2 pt2) pos.line X.env = pure false := by rfl)
    (hs1 : starEach [a, b] X.env = (false, eval a X.env) :: starEach [b] X.env := by rfl) (hs2 : starEach [b] X.env = (false, eval b X.env) :: starEach [] X.env := by rfl) :
    PS X (.Assign [.Tuple [.Name x px, .Name y py] kt pt] (.Tuple [a, b] k2 pt2) pos) (lS X.K io (sPar i j τo τo')) :=
  ps_imp (ps_par hc hN hi hj hij hx hy (pa_cons ha (pa_cons hb pa_nil hs2) hs1) hw hs) fun D σ H ⟨v0, Z, F, Γ, h, DD, A, q, k⟩ => ⟨_, Z, F, Γ, h, _, A, q, fun F1 Γ1 h1 hr1 H1 o1 v1 s1 A1 w1 q1 =>
    ⟨_, jn Z hr1, F1, Γ1, h1, _, A1.keep, q1, fun F2 Γ2 h2 hr2 H2 o2 v2 s2 A2 w2 ⟨Γ3, Γ4, eΓ3, eΓ4, q2⟩ => ⟨v1, v2, rfl, by
      obtain ⟨i1, l1⟩ := setG_eq eΓ3
      obtain ⟨i2, l2⟩ := setG_eq eΓ4
      subst i1; subst i2
      have l2 : j < Γ2.length := by simpa using l2
      have B := A2.at_.unkeep A1.rZ.symm
      obtain ⟨h3, B3⟩ := B.store (w1.mono s2) l1 (pns_ne h0)
      -- the second part beside
      have d21 : Dis hr2 hr1 := (Dis.sub (same_r A1.rZ.symm) A2.rZ.symm).symm
      have dZ : Dis hr2 Z := (Dis.sub same_l A2.rZ.symm).symm
      obtain ⟨g2, sg, a3, _⟩ := B.at_.own.put l1
      have d1g : Dis hr1 g2 := (Dis.sub sg B.rh.symm).symm
      have d2g : Dis hr2 g2 := (Dis.sub sg A2.rh.symm).symm
      have A3 : AtR X.K (pns io v0) Z F2 (Γ2.set i (some o1)) (σ.set i (some v1)) (jn hr1 g2) hr2 H2 :=
        ⟨⟨a3 F2 o1 v1 hr1 (Same.refl _) (w1.mono s2) d1g, same_jn B.rH (sg.trans B.at_.hH), B.at_.FH, B.at_.ZH, B.at_.FZ, Dis.jn B.rF (Dis.sub sg B.at_.hF), Dis.jn B.rZ (Dis.sub sg B.at_.hZ), fun p hm => by
          rw [List.getElem?_set_ne (fun z => pns_ne h0 p hm z.symm)]
          exact B.at_.pin p hm⟩, A2.rH, (Dis.jn d21.symm d2g.symm).symm, A2.rF, dZ⟩
      obtain ⟨h4, A4⟩ := A3.store w2 (by simpa using l2) (pns_ne h0')
      exact k.nx F2 _ _ h4 H2 (s1.trans s2) A4 q2⟩⟩⟩
theorem vs_while {c : Expr} {body : List Stmt} (hp : PassesOwn (model X.prog X.w) X.A X.env X.xe) (hc : PT X c (lT X.K tc)) (hb : PSs X body (lS X.K io t)) : PS X (.While c body [] pos) (lS X.K io (sWhile tc t)) :=
  ps_imp (ps_while hp hc hb) fun D σ H ⟨v0, Z, F, Γ, h, DD, A, ⟨W, ⟨m0, w0⟩, turn⟩, k⟩ => by
    refine ⟨fun m σ' H' => ∃ F' Γ' h', Same F F' ∧ At X.K (pns io v0) Z F' Γ' σ' h' H' ∧ W m Γ', ⟨m0, F, Γ, h, Same.refl _, A, w0⟩, ?_⟩
    rintro m σ1 H1 ⟨F1, Γ1, h1, s1, A1, w1⟩
    refine ⟨_, Z, F1, Γ1, h1, _, A1, turn m Γ1 w1, fun F2 Γ2 h2 H2 b s2 A2 q2 => ?_⟩
    have q2 := of_br q2
    cases b with
    | false => exact k.nx F2 Γ2 σ1 h2 H2 (s1.trans s2) A2 q2
    | true =>
      refine iteT ?_
      refine ⟨fun σ' H' => ∃ F' Γ' h', Same F F' ∧ At X.K (pns io v0) Z F' Γ' σ' h' H' ∧ ∃ m', m' < m ∧ W m' Γ', fun σ' H' ⟨F', Γ', h', s', A', m', lt, w'⟩ => ⟨m', lt, F', Γ', h', s', A', w'⟩, ?_⟩
      have k2 := k.mono (s1.trans s2)
      exact ⟨v0, Z, F2, Γ2, h2, _, A2, q2, ⟨fun F' Γ' σ' h' H' s A' q' => ⟨F', Γ', h', (s1.trans s2).trans s, A', q'⟩, k2.nx, fun F' Γ' σ' h' H' s A' q' => ⟨F', Γ', h', (s1.trans s2).trans s, A', q'⟩, k2.rt⟩⟩
end
end VL
end
section
namespace VL
open PySem PySem.Spec L2

/-! ### what is walked -/
structure ItOk (K : PySem.W.Frag) (J : It) (F : Hp) (ds : List PyData) : Prop where
  stop : ∀ F' H i, Same F F' → Same F' H → ds.length ≤ i → J.stop i H
  go : ∀ F' H i, Same F F' → Same F' H → i < ds.length → J.go i H
  yld : ∀ F' H i x H', Same F F' → Same F' H → i < ds.length → J.yld i H x H' → ∃ F3 d, Grow F' H F3 H' ∧ ds[i]? = some d ∧ Rp K F3 x d
abbrev EI := Ga → (List PyData → Ga → Prop) → Prop
def lI (K : PySem.W.Frag) (τ : EI) : TI := fun σ H R => ∃ pn Z F Γ h Q, At K pn Z F Γ σ h H ∧ τ Γ Q ∧ ∀ F' Γ' h' H' J ds, Same F F' → At K pn Z F' Γ' σ h' H' → ItOk K J F' ds → Q ds Γ' → R J H'
def seqD : PyData → Option (List PyData)
  | .list ds => some ds
  | .tuple ds => some ds
  | .str x => some (x.cps.toList.map fun c => .str ⟨#[c]⟩)
  | _ => none
def iSeq (τ : EX) : EI := fun Γ Q => τ Γ fun a Γ1 => ∃ d ds, a = .d d ∧ seqD d = some ds ∧ Q ds Γ1
theorem itok_list {K : PySem.W.Frag} {F : Hp} {a : Addr} {vs : List V} {ds : List PyData} (hs' : F a = some (.lst vs)) (ha : RpAll K F vs ds) : ItOk K (Itl K a) F ds where
  stop := fun F' H i s s' hi => ⟨vs, (s.trans s').seq (SqL.of hs'), by rw [ha.length]; exact hi⟩
  go := fun F' H i s s' hi => ⟨vs, vs[i]'(by rw [ha.length]; exact hi), (s.trans s').seq (SqL.of hs'), List.getElem?_eq_getElem _⟩
  yld := fun F' H i x H' s s' hi ⟨e, q⟩ => by
    subst e
    obtain ⟨d, e1, r⟩ := ha.get (q vs ((s.trans s').seq (SqL.of hs')))
    exact ⟨F', d, Grow.refl s', e1, Rp.mono s r⟩
theorem itok_tup {K : PySem.W.Frag} {F : Hp} {a : Addr} {vs : List V} {ds : List PyData} (hs : SqT K F a vs) (ha : RpAll K F vs ds) : ItOk K (Itt K a) F ds where
  stop := fun F' H i s s' hi => ⟨vs, sameT (s.trans s') hs, by rw [ha.length]; exact hi⟩
  go := fun F' H i s s' hi => ⟨vs, vs[i]'(by rw [ha.length]; exact hi), sameT (s.trans s') hs, List.getElem?_eq_getElem _⟩
  yld := fun F' H i x H' s s' hi ⟨e, q⟩ => by
    subst e
    obtain ⟨d, e1, r⟩ := ha.get (q vs (sameT (s.trans s') hs))
    exact ⟨F', d, Grow.refl s', e1, Rp.mono s r⟩
theorem itok_str {K : PySem.W.Frag} {F : Hp} {x : Str} : ItOk K (Its x) F (x.cps.toList.map fun c => .str ⟨#[c]⟩) where
  stop := fun F' H i s s' hi => show x.cps.size ≤ i by simpa using hi
  go := fun F' H i s s' hi => show i < x.cps.size by simpa using hi
  yld := fun F' H i v H' s s' hi ⟨e, c, e1, e2⟩ => by
    subst e; subst e2
    refine ⟨F', .str ⟨#[c]⟩, Grow.refl s', ?_, .str _⟩
    rw [List.getElem?_map, Array.getElem?_toList, e1]; rfl
def rangeD (lo : Int) (n : Nat) : List PyData := (List.range n).map fun (i : Nat) => .int (lo + i)
theorem itok_range {K : PySem.W.Frag} {F : Hp} {lo : Int} {n : Nat} : ItOk K (Itr lo n) F (rangeD lo n) where
  stop := fun F' H i s s' hi => show n ≤ i by simpa [rangeD] using hi
  go := fun F' H i s s' hi => show i < n by simpa [rangeD] using hi
  yld := fun F' H i v H' s s' hi ⟨e, e2⟩ => by
    subst e; subst e2
    have hi : i < n := by simpa [rangeD] using hi
    refine ⟨F', .int (lo + i), Grow.refl s', ?_, .int _⟩
    rw [rangeD, List.getElem?_map, List.getElem?_range hi]; rfl
def rangeN (n : Nat) : List PyData := (List.range n).map fun (i : Nat) => .int (i : Int)
theorem rangeD0 (n : Nat) : rangeD 0 n = rangeN n := by
  unfold rangeD rangeN
  congr 1
  funext i
  rw [Int.zero_add]
theorem itok_rangeN {K : PySem.W.Frag} {F : Hp} {n : Nat} : ItOk K (Itr 0 n) F (rangeN n) := by
  rw [← rangeD0]; exact itok_range
def rangeC (lo c : Int) (n : Nat) : List PyData := (List.range n).map fun (i : Nat) => .int (lo + (i : Nat) * c)
theorem itok_rangeC {K : PySem.W.Frag} {F : Hp} {lo c : Int} {n : Nat} : ItOk K (Itc lo c n) F (rangeC lo c n) where
  stop := fun F' H i s s' hi => show n ≤ i by simpa [rangeC] using hi
  go := fun F' H i s s' hi => show i < n by simpa [rangeC] using hi
  yld := fun F' H i v H' s s' hi ⟨e, e2⟩ => by
    subst e; subst e2
    have hi : i < n := by simpa [rangeC] using hi
    refine ⟨F', .int (lo + (i : Nat) * c), Grow.refl s', ?_, .int _⟩
    rw [rangeC, List.getElem?_map, List.getElem?_range hi]; rfl
def iRange1 (τs : EA) : EI := fun Γ Q => τs Γ fun as Γ1 => ∃ n : Int, rsAll Γ1 as = some [.int n] ∧ (-(2 ^ 62) ≤ n ∧ n < 2 ^ 62) ∧ Q (rangeN n.toNat) Γ1
def iRange2 (τs : EA) : EI := fun Γ Q => τs Γ fun as Γ1 => ∃ a b : Int, rsAll Γ1 as = some [.int a, .int b] ∧ (-(2 ^ 62) ≤ a ∧ a < 2 ^ 62 ∧ -(2 ^ 62) ≤ b ∧ b < 2 ^ 62) ∧ Q (rangeD a (b - a).toNat) Γ1
def iRange3 (τs : EA) : EI := fun Γ Q => τs Γ fun as Γ1 => ∃ (a b c : Int) (n : Nat), rsAll Γ1 as = some [.int a, .int b, .int c] ∧ RgC a b c n ∧ Q (rangeC a c n) Γ1
theorem repl1 {K : PySem.W.Frag} {F H : Hp} {i : Int} {vs : List V} (h : RepL K F H [.int i] vs) : vs = [.int i] := by
  cases h with
  | cons r t => cases t; rw [r.int]
theorem repl2 {K : PySem.W.Frag} {F H : Hp} {i j : Int} {vs : List V} (h : RepL K F H [.int i, .int j] vs) : vs = [.int i, .int j] := by
  cases h with
  | cons r t => rw [r.int, repl1 t]
theorem repl3 {K : PySem.W.Frag} {F H : Hp} {i j k : Int} {vs : List V} (h : RepL K F H [.int i, .int j, .int k] vs) : vs = [.int i, .int j, .int k] := by
  cases h with
  | cons r t => rw [r.int, repl2 t]
theorem pi_imp {X : Cx} {tg e : Expr} {t t' : TI} (h : PI X tg e t) (i : ∀ σ H R, t' σ H R → t σ H R) : PI X tg e t' := ⟨fun pins s σ H R I q => h.run pins s σ H R I (i σ H R q)⟩
section
variable {X : Cx} {tg l a b c : Expr} {τ : EX} {τs : EA} {p pos : Pos}
theorem vi_seq (hl : PE X l (lX X.K τ)) : PI X tg l (lI X.K (iSeq τ)) := by
  refine ⟨fun pins s σ H R I ⟨pn, Z, F, Γ, h, Q, A, q, k⟩ => ?_⟩
  refine thn (hl.run pins s σ H (fun x H1 => ∃ F1 Γ1 h1 d ds, Same F F1 ∧ At X.K pn Z F1 Γ1 σ h1 H1 ∧ Rp X.K F1 x d ∧ seqD d = some ds ∧ Q ds Γ1) I
    ⟨pn, Z, F, Γ, h, _, A, q, fun F' Γ' h' H' a v s A' r ⟨d, ds, e1, e2, q'⟩ => by subst e1; exact ⟨F', Γ', h', d, ds, s, A', r, e2, q'⟩⟩) fun v s1 ⟨x, H1, I1, r1, F1, Γ1, h1, d, ds, sF, A1, r, e, q1⟩ => ?_
  cases r with
  | non => cases e
  | bl _ => cases e
  | int _ => cases e
  | str y =>
    cases e
    obtain ⟨t, rfl⟩ := r1
    have q2 := k F1 Γ1 h1 H1 (Its y) _ sF A1 itok_str q1
    cases ha : y.cps.all (· < 128)
    · exact wpAny_pyIter_wide ha (pi_one (tk := s1.toks) I1 _ (turn_str _ y t "str_iterator" (.inr rfl)) ⟨_, Heap.get?_push_size _ rfl, rfl, rfl⟩ q2)
    · exact wpAny_pyIter_ascii ha (pi_one (tk := s1.toks) I1 _ (turn_str _ y t "str_ascii_iterator" (.inl rfl)) ⟨_, Heap.get?_push_size _ rfl, rfl, rfl⟩ q2)
  | @lst a vs ds' hs ha =>
    cases e
    cases r1
    obtain ⟨its, rv, p, hz⟩ := I1.list (SqL.of (A1.FH _ _ hs))
    exact wpAny_pyIter_list p.isList (pi_one (tk := s1.toks) I1 _ (turn_list a _) ⟨_, Heap.get?_push_size _ rfl, rfl, rfl⟩ (k F1 Γ1 h1 H1 _ _ sF A1 (itok_list hs ha) q1))
  | @tup a vs ds' hs ha =>
    cases e
    cases r1
    obtain ⟨its, rv, p, hz⟩ := I1.tuple (sameT A1.FH hs.sq)
    exact wpAny_pyIter_tuple (show s1.heap.IsTuple a its.toArray from p) (pi_one (tk := s1.toks) I1 _ (turn_tuple a _) ⟨_, Heap.get?_push_size _ rfl, rfl, rfl⟩ (k F1 Γ1 h1 H1 _ _ sF A1 (itok_tup hs.sq ha) q1))
  | dct _ _ _ _ => cases e
  | scr _ => cases e
theorem vi_range1 (hg : Gl X "range") (hm : X.mg "range" = none) (ha : PA X [a] (lA X.K τs)) (hs : starEach [a] X.env = [(false, eval a X.env)] := by rfl) : PI X tg (.Call (.Name "range" p) [a] [] pos) (lI X.K (iRange1 τs)) :=
  pi_imp (pi_range1 hg hm ha hs) fun σ H R ⟨pn, Z, F, Γ, h, Q, A, q, k⟩ => ⟨pn, Z, F, Γ, h, _, A, q, fun F1 Γ1 h1 H1 as vs s1 A1 r1 ⟨n, e1, ⟨b1, b2⟩, q1⟩ => ⟨n, repl1 (reps_of A1 r1 e1), b1, b2, k F1 Γ1 h1 H1 _ _ s1 A1 itok_rangeN q1⟩⟩
theorem vi_range2 (hg : Gl X "range") (hm : X.mg "range" = none) (ha : PA X [a, b] (lA X.K τs)) (hs : starEach [a, b] X.env = [(false, eval a X.env), (false, eval b X.env)] := by rfl) (hs2 : starEach [b] X.env = [(false, eval b X.env)] := by rfl) : PI X tg (.Call (.Name "range" p) [a, b] [] pos) (lI X.K (iRange2 τs)) :=
  pi_imp (pi_range2 hg hm ha hs hs2) fun σ H R ⟨pn, Z, F, Γ, h, Q, A, q, k⟩ => ⟨pn, Z, F, Γ, h, _, A, q, fun F1 Γ1 h1 H1 as vs s1 A1 r1 ⟨i, j, e1, bb, q1⟩ => ⟨i, j, repl2 (reps_of A1 r1 e1), bb, k F1 Γ1 h1 H1 _ _ s1 A1 itok_range q1⟩⟩
theorem vi_range3 (hg : Gl X "range") (hm : X.mg "range" = none) (ha : PA X [a, b, c] (lA X.K τs)) (hs : starEach [a, b, c] X.env = (false, eval a X.env) :: starEach [b, c] X.env := by rfl) (hpl : (backTo pos (starEach [b, c] X.env)).any (·.1) = false := by rfl) : PI X tg (.Call (.Name "range" p) [a, b, c] [] pos) (lI X.K (iRange3 τs)) :=
  pi_imp (pi_range3 hg hm ha hs hpl) fun σ H R ⟨pn, Z, F, Γ, h, Q, A, q, k⟩ => ⟨pn, Z, F, Γ, h, _, A, q, fun F1 Γ1 h1 H1 as vs s1 A1 r1 ⟨i, j, c, n, e1, bb, q1⟩ => ⟨i, j, c, n, repl3 (reps_of A1 r1 e1), bb, k F1 Γ1 h1 H1 _ _ s1 A1 itok_rangeC q1⟩⟩
end

/-! ### for -/
def sFor (τi : EI) (g : EG) (t : ES) : ES := fun D Γ => τi Γ fun ds Γ1 => ∃ I : Nat → Ga → Prop, I 0 Γ1 ∧ (∀ i d Γ', ds[i]? = some d → I i Γ' → g d Γ' fun Γ2 => t { D with nx := I (i + 1), ct := I (i + 1), bk := D.nx } Γ2) ∧ ∀ Γ', I ds.length Γ' → D.nx Γ'
theorem vs_for {X : Cx} {io : Bool} {pos : Pos} {tg iter : Expr} {body : List Stmt} {ws : List Nat} {τi : EI} {g : EG} {t : ES} (hp : PassesOwn (model X.prog X.w) X.A X.env X.xe) (hc : X.calm = true) (hi : PI X tg iter (lI X.K τi)) (hg : PG X tg (lG X.K io ws g)) (hb : PSs X body (lS X.K io t))
    (hs : ∀ x, foldedSetIterable iter X.env x = pure x := by intro _; rfl) : PS X (.For tg iter body [] pos) (lS X.K io (sFor τi g t)) :=
  ps_imp (ps_for hp hc hi hg hb hs) fun D σ H ⟨v0, Z, F, Γ, h, DD, A, q, k⟩ => ⟨_, Z, F, Γ, h, _, A, q, fun F1 Γ1 h1 H1 J ds s1 A1 ok ⟨I, i0, turn, fin⟩ => by
    refine ⟨fun i m σ' H' => m = ds.length - i ∧ i ≤ ds.length ∧ ∃ F' Γ' h', Same F1 F' ∧ At X.K (pns io v0) Z F' Γ' σ' h' H' ∧ I i Γ', ⟨ds.length, by simp, Nat.zero_le _, F1, Γ1, h1, Same.refl _, A1, i0⟩, ?_⟩
    rintro i m σ2 H2 ⟨rfl, hi, F2, Γ2, h2, s2, A2, w2⟩
    by_cases hlt : i < ds.length
    · refine .inr ⟨ok.go F2 H2 i s2 A2.FH hlt, fun σ' H' => ∃ F' Γ' h', Same F1 F' ∧ At X.K (pns io v0) Z F' Γ' σ' h' H' ∧ I (i + 1) Γ', fun σ' H' ⟨F', Γ', h', s', A', w'⟩ => ⟨ds.length - (i + 1), by omega, rfl, hlt, F', Γ', h', s', A', w'⟩, fun x H' y => ?_⟩
      obtain ⟨F3, d, g3, e3, r3⟩ := ok.yld F2 H2 i x H' s2 A2.FH hlt y
      refine ⟨v0, Z, F3, Γ2, h2, d, _, A2.grow g3, r3, turn i d Γ2 e3 w2, fun F4 Γ4 σ4 h4 H4 s4 _ A4 q4 => ?_⟩
      have s14 : Same F1 F4 := (s2.trans g3.fs).trans s4
      have k4 := k.mono (s1.trans s14)
      exact ⟨v0, Z, F4, Γ4, h4, _, A4, q4, ⟨fun F' Γ' σ' h' H' s A' q' => ⟨F', Γ', h', s14.trans s, A', q'⟩, k4.nx, fun F' Γ' σ' h' H' s A' q' => ⟨F', Γ', h', s14.trans s, A', q'⟩, k4.rt⟩⟩
    · have e : i = ds.length := by omega
      subst e
      exact .inl ⟨ok.stop F2 H2 _ s2 A2.FH (Nat.le_refl _), k.nx F2 Γ2 σ2 h2 H2 (s1.trans s2) A2 (fin Γ2 w2)⟩⟩

/-! ### comprehensions -/
def wipeG (Γ : Ga) : List Nat → Ga
  | [] => Γ
  | v :: vs => (wipeG Γ vs).set v none
/-- the block's own slots as they were ahead -/
def backG (Γ0 Γ : Ga) : List Nat → Ga
  | [] => Γ
  | v :: vs => (backG Γ0 Γ vs).set v (Γ0.getD v none)
def Plain (Γ : Ga) (vs : List Nat) : Prop := ∀ i ∈ vs, Γ[i]? = some none ∨ ∃ d, Γ[i]? = some (some (.fz d))
def tYesD : ET := fun Γ Q => Q true Γ
def eLc (τi : EI) (g : EG) (tt : ET) (te : EX) (vs : List Nat) : EO := fun Γ Q => τi Γ fun ds Γ1 => Plain Γ1 vs ∧ ∃ I : Nat → List PyData → Ga → Prop, I 0 [] Γ1 ∧
  (∀ i d acc Γ', ds[i]? = some d → I i acc Γ' → (∀ j ∈ vs, Γ'[j]? = Γ1[j]?) → ∃ Γw, nrm (wipeG Γ' vs) = some Γw ∧ g d Γw fun Γ2 => tt Γ2 fun b Γ3 => Br b (te Γ3 fun a Γ4 => ∃ y, a = .d y ∧ acc.length < sizeLine ∧ ∃ Γb, nrm (backG Γ1 Γ4 vs) = some Γb ∧ I (i + 1) (acc ++ [y]) Γb) (∃ Γb, nrm (backG Γ1 Γ3 vs) = some Γb ∧ I (i + 1) acc Γb)) ∧
  ∀ acc Γ', I ds.length acc Γ' → Q (.ls acc) Γ'
section
variable {K : PySem.W.Frag} {F : Hp}
theorem wipeG_len (Γ : Ga) : ∀ vs : List Nat, (wipeG Γ vs).length = Γ.length
  | [] => rfl
  | v :: vs => by unfold wipeG; rw [List.length_set, wipeG_len Γ vs]
theorem OwnS.wipe {Γ : Ga} {σ : St} {h : Hp} (w : OwnS K F Γ σ h) : ∀ vs : List Nat, ∃ h', Same h' h ∧ OwnS K F (wipeG Γ vs) (wipe σ vs) h'
  | [] => ⟨h, Same.refl _, w⟩
  | v :: vs => by
    obtain ⟨h1, s1, w1⟩ := OwnS.wipe w vs
    by_cases hv : v < (wipeG Γ vs).length
    · obtain ⟨h2, s2, _, b⟩ := w1.put hv
      exact ⟨h2, s2.trans s1, b none⟩
    · refine ⟨h1, s1, ?_⟩
      show OwnS K F ((wipeG Γ vs).set v none) ((L2.wipe σ vs).set v none) h1
      rw [List.set_eq_of_length_le (by omega), List.set_eq_of_length_le (by rw [← w1.len]; omega)]
      exact w1
/-- what a frozen slot holds -/
theorem OwnS.get {Γ : Ga} {σ : St} {h : Hp} (w : OwnS K F Γ σ h) {i : Nat} {d : PyData} (e : Γ[i]? = some (some (.fz d))) : ∃ v, σ[i]? = some (some v) ∧ Rp K F v d := by
  obtain ⟨v, h1, h2, a1, a2, a3, a4, a5⟩ := w.focus e
  exact ⟨v, a1, a4.2⟩
/-- the block's own slots put back: σ0 the slots ahead -/
theorem OwnS.back {Γ0 Γ : Ga} {σ0 σ : St} {h : Hp} (w : OwnS K F Γ σ h) : ∀ vs : List Nat, (∀ i ∈ vs, Γ0[i]? = some none ∨ ∃ d v, Γ0[i]? = some (some (.fz d)) ∧ σ0[i]? = some (some v) ∧ Rp K F v d) → σ0.length = σ.length → Γ0.length = Γ.length →
    ∃ h' σ', Same h' h ∧ OwnS K F (backG Γ0 Γ vs) σ' h' ∧ σ'.length = σ.length ∧ (∀ i ∈ vs, σ'[i]? = σ0[i]?) ∧ ∀ i, i ∉ vs → σ'[i]? = σ[i]?
  | [], _, _, _ => ⟨h, σ, Same.refl _, w, rfl, fun _ z => absurd z (by simp), fun _ _ => rfl⟩
  | v :: vs, pl, l1, l2 => by
    obtain ⟨h1, σ1, s1, w1, len1, in1, out1⟩ := OwnS.back w vs (fun i hi => pl i (List.mem_cons_of_mem _ hi)) l1 l2
    have hv0 : v < Γ0.length := by
      rcases pl v List.mem_cons_self with e | ⟨d, u, e, _⟩
      · exact (List.getElem?_eq_some_iff.mp e).1
      · exact (List.getElem?_eq_some_iff.mp e).1
    have lb : (backG Γ0 Γ vs).length = Γ0.length := by rw [w1.len, len1, ← w.len, l2]
    have hv : v < (backG Γ0 Γ vs).length := by omega
    obtain ⟨h2, s2, a, b⟩ := w1.put hv
    have hσ : v < σ1.length := by rw [← w1.len]; exact hv
    have fin : ∀ y : Option V, σ0[v]? = some y → (∀ i ∈ v :: vs, (σ1.set v y)[i]? = σ0[i]?) ∧ ∀ i, i ∉ v :: vs → (σ1.set v y)[i]? = σ[i]? := fun y hy => by
      refine ⟨fun i hi => ?_, fun i hi => ?_⟩
      · by_cases z : v = i
        · subst z; rw [List.getElem?_set_self hσ, hy]
        · rw [List.getElem?_set_ne z]
          rcases List.mem_cons.mp hi with q | q
          · exact absurd q.symm z
          · exact in1 i q
      · have z : v ≠ i := fun e => hi (by simp [e])
        rw [List.getElem?_set_ne z]
        exact out1 i fun q => hi (List.mem_cons_of_mem _ q)
    have hlen0 : v < σ0.length := by rw [l1, ← w.len, ← l2]; exact hv0
    rcases pl v List.mem_cons_self with e | ⟨d, u, e, e2, r⟩
    · refine ⟨h2, σ1.set v σ0[v], s2.trans s1, ?_, by simp [len1], fin _ (List.getElem?_eq_getElem hlen0)⟩
      show OwnS K F ((backG Γ0 Γ vs).set v (Γ0.getD v none)) _ h2
      rw [show Γ0.getD v none = none by simp [List.getD_eq_getElem?_getD, e]]
      exact b _
    · refine ⟨h2, σ1.set v (some u), s2.trans s1, ?_, by simp [len1], fin _ e2⟩
      show OwnS K F ((backG Γ0 Γ vs).set v (Γ0.getD v none)) _ h2
      rw [show Γ0.getD v none = some (.fz d) by simp [List.getD_eq_getElem?_getD, e]]
      have q := a F (.fz d) u emp (Same.refl _) ⟨rfl, r⟩ Dis.emp
      rw [emp_jn] at q
      exact q
theorem backG_get {Γ0 Γ : Ga} (l : Γ0.length = Γ.length) : ∀ {vs : List Nat} {j : Nat}, j ∈ vs → (backG Γ0 Γ vs)[j]? = Γ0[j]?
  | [], _, h => nomatch h
  | v :: vs, j, h => by
    have lb : ∀ ws : List Nat, (backG Γ0 Γ ws).length = Γ.length := fun ws => by
      induction ws with
      | nil => rfl
      | cons w ws ih => unfold backG; rw [List.length_set, ih]
    show ((backG Γ0 Γ vs).set v (Γ0.getD v none))[j]? = Γ0[j]?
    by_cases z : v = j
    · subst z
      by_cases hv : v < Γ0.length
      · rw [List.getElem?_set_self (by rw [lb]; omega), List.getD_eq_getElem?_getD, List.getElem?_eq_getElem hv]; rfl
      · rw [List.getElem?_eq_none (by rw [List.length_set, lb]; omega), List.getElem?_eq_none (by omega)]
    · rw [List.getElem?_set_ne z]
      rcases List.mem_cons.mp h with q | q
      · exact absurd q.symm z
      · exact backG_get l q
theorem out_wipe {σ σ' : St} {vs : List Nat} (h : wipe σ' vs = wipe σ vs) {i : Nat} (hi : i ∉ vs) : σ'[i]? = σ[i]? := by
  have := congrArg (fun l => l[i]?) h
  simpa [wipe_out hi] using this
end
theorem len_wipe {σ σ' : St} {vs : List Nat} (h : wipe σ' vs = wipe σ vs) : σ'.length = σ.length := by
  have := congrArg List.length h
  simpa [wipe_length] using this
/-- a comprehension's reading -/
theorem lc_read {K : PySem.W.Frag} {τi : EI} {g : EG} {tt : ET} {te : EX} {ws vs : List Nat} (hw : ∀ i ∈ ws, i ∈ vs) {σ : St} {H : Hp} {QV : VK} (hh : lO K (eLc τi g tt te vs) σ H QV) : tLc (lI K τi) (lG K false ws g) (lT K tt) (lX K te) vs σ H QV := by
  obtain ⟨pn, Z, F, Γ, h, Q, A, q, k⟩ := hh
  refine ⟨pn, Z, F, Γ, h, _, A, q, fun F1 Γ1 h1 H1 J ds s1 A1 ok ⟨pl, I, i0, turn, fin⟩ D hD => ?_⟩
  have l1 := A1.own.len
  refine ⟨fun i m H' => m = ds.length - i ∧ i ≤ ds.length ∧ ∃ F' Γ' h' acc xs, Same F1 F' ∧ AtR K pn Z F' Γ' σ h' (VL.one D (.lst xs)) H' ∧ RpAll K F' xs acc ∧ (∀ j ∈ vs, Γ'[j]? = Γ1[j]?) ∧ I i acc Γ',
    ⟨ds.length, by simp, Nat.zero_le _, F1, Γ1, h1, [], [], Same.refl _, A1.beside (Grow.stay A1.FH (same_new hD)) (same_one upd_same) (dis_one (A1.FH.free hD)) (fun a z => ?_), .nil, fun _ _ => rfl, i0⟩, ?_⟩
  · by_cases e : a = D
    · subst e; exact hD
    · rw [one_ne e] at z; exact absurd rfl z
  rintro i m H2 ⟨rfl, hi, F2, Γ2, h2, acc, xs, s2, A2, ra, sl, w2⟩
  by_cases hlt : i < ds.length
  · refine .inr ⟨ok.go F2 H2 i s2 A2.at_.FH hlt, fun H' => ∃ F' Γ' h' acc xs, Same F1 F' ∧ AtR K pn Z F' Γ' σ h' (VL.one D (.lst xs)) H' ∧ RpAll K F' xs acc ∧ (∀ j ∈ vs, Γ'[j]? = Γ1[j]?) ∧ I (i + 1) acc Γ',
      fun H' ⟨F', Γ', h', acc', xs', s', A', r', sl', w'⟩ => ⟨ds.length - (i + 1), by omega, rfl, hlt, F', Γ', h', acc', xs', s', A', r', sl', w'⟩, fun x H' y => ?_⟩
    obtain ⟨F3, d, g3, e3, r3⟩ := ok.yld F2 H2 i x H' s2 A2.at_.FH hlt y
    have B : At K pn (jn Z (VL.one D (.lst xs))) F3 Γ2 σ h2 H' := (AtR.keep A2).grow g3
    obtain ⟨h2', sw, ow⟩ := B.own.wipe vs
    have C : At K (pns false .non) (jn Z (VL.one D (.lst xs))) F3 (wipeG Γ2 vs) (wipe σ vs) h2' H' := ⟨ow, sw.trans B.hH, B.FH, B.ZH, B.FZ, Dis.sub sw B.hF, Dis.sub sw B.hZ, fun p hp => nomatch hp⟩
    have dZ : Dis Z (VL.one D (.lst xs)) := A2.rZ.symm
    obtain ⟨Γw, eΓw, tq⟩ := turn i d acc Γ2 e3 w2 sl
    rw [nrm_eq eΓw] at C
    refine ⟨.non, _, F3, _, h2', d, _, C, r3, tq, fun F4 Γ4 σ4 h4 H4 s4 o4 A4 q4 => ⟨by rw [o4 vs hw]; exact wipe_wipe σ vs, ?_⟩⟩
    have wσ : wipe σ4 vs = wipe σ vs := by rw [o4 vs hw]; exact wipe_wipe σ vs
    -- the slots behind a turn
    have len2 : Γ2.length = Γ1.length := by rw [A2.at_.own.len, l1]
    have back : ∀ F5 Γ5 h5 H5, Same F4 F5 → At K (pns false .non) (jn Z (VL.one D (.lst xs))) F5 Γ5 σ4 h5 H5 → ∃ h6, AtR K pn Z F5 (backG Γ1 Γ5 vs) σ h6 (VL.one D (.lst xs)) H5 ∧ ∀ j ∈ vs, (backG Γ1 Γ5 vs)[j]? = Γ1[j]? := fun F5 Γ5 h5 H5 s5 A5 => by
      have sF : Same F2 F5 := (g3.fs.trans s4).trans s5
      have lσ : σ.length = σ4.length := (len_wipe wσ).symm
      have l5 : Γ1.length = Γ5.length := by rw [A5.own.len, ← lσ, ← l1]
      obtain ⟨h6, σ6, s6, w6, n6, in6, out6⟩ := A5.own.back (Γ0 := Γ1) (σ0 := σ) vs (fun j hj => by
        rcases pl j hj with e | ⟨d, e⟩
        · exact .inl e
        · obtain ⟨u, e2, r⟩ := A2.at_.own.get (show Γ2[j]? = some (some (.fz d)) by rw [sl j hj]; exact e)
          exact .inr ⟨d, u, e, e2, Rp.mono sF r⟩) lσ l5
      have eσ : σ6 = σ := by
        apply List.ext_getElem?
        intro j
        by_cases hj : j ∈ vs
        · exact in6 j hj
        · rw [out6 j hj, out_wipe wσ hj]
      subst eσ
      refine ⟨h6, At.unkeep dZ ⟨w6, s6.trans A5.hH, A5.FH, A5.ZH, A5.FZ, Dis.sub s6 A5.hF, Dis.sub s6 A5.hZ, A2.at_.pin⟩, fun j hj => backG_get l5 hj⟩
    refine ⟨_, _, F4, Γ4, h4, _, A4, q4, fun F5 Γ5 h5 H5 b s5 A5 q5 => ?_⟩
    have q5 := of_br q5
    cases b with
    | false =>
      obtain ⟨h6, A6, sl6⟩ := back F5 Γ5 h5 H5 s5 A5
      obtain ⟨Γb, eb, q5⟩ := q5
      rw [nrm_eq eb] at A6 sl6
      exact ⟨F5, _, h6, acc, xs, ((s2.trans g3.fs).trans s4).trans s5, A6, RpAll.mono ((g3.fs.trans s4).trans s5) ra, sl6, q5⟩
    | true =>
      refine iteT ⟨_, _, F5, Γ5, h5, _, A5, q5, fun F6 Γ6 h6 H6 a v s6 A6 r6 ⟨y, e6, z6, Γb, eb, q6⟩ => ?_⟩
      subst e6
      obtain ⟨h7, A7, sl7⟩ := back F6 Γ6 h6 H6 (s5.trans s6) A6
      rw [nrm_eq eb] at A7 sl7
      have ra6 : RpAll K F6 xs acc := RpAll.mono (((g3.fs.trans s4).trans s5).trans s6) ra
      refine ⟨xs, A7.rH _ _ one_at, by rw [ra.length]; exact z6, F6, _, h7, acc ++ [y], xs ++ [v], (((s2.trans g3.fs).trans s4).trans s5).trans s6, ?_, ra6.append (.one r6), sl7, q6⟩
      -- the list grown
      have nD : ∀ (G : Hp), Dis (VL.one D (.lst xs)) G → Same G H6 → Same G (upd H6 D (.lst (xs ++ [v]))) := fun G dG sG a o e => by
        by_cases z : a = D
        · subst z; rw [of_dis_one dG] at e; cases e
        · rw [upd_ne z]; exact sG _ _ e
      exact ⟨⟨A7.at_.own, nD _ A7.rh A7.at_.hH, nD _ A7.rF A7.at_.FH, nD _ A7.rZ A7.at_.ZH, A7.at_.FZ, A7.at_.hF, A7.at_.hZ, A7.at_.pin⟩, same_one upd_same, dis_one (of_dis_one A7.rh), dis_one (of_dis_one A7.rF), dis_one (of_dis_one A7.rZ)⟩
  · have e : i = ds.length := by omega
    subst e
    refine .inl ⟨ok.stop F2 H2 _ s2 A2.at_.FH (Nat.le_refl _), ?_⟩
    exact k F2 Γ2 h2 _ H2 (.ls acc) (.ref D) (s1.trans s2) A2 ⟨D, xs, rfl, rfl, ra⟩ (fin acc Γ2 w2)
where
  wipe_wipe (σ : St) : ∀ vs : List Nat, wipe (wipe σ vs) vs = wipe σ vs := fun vs => by
    apply List.ext_getElem?
    intro j
    by_cases hj : j ∈ vs
    · have f : ∀ σ : St, (wipe σ vs)[j]? = if j < σ.length then some none else none := fun σ => by
        cases e : (wipe σ vs)[j]? with
        | none =>
          have := List.getElem?_eq_none_iff.mp e
          rw [wipe_length] at this
          rw [if_neg (by omega)]
        | some x =>
          have hl := (List.getElem?_eq_some_iff.mp e).1
          rw [wipe_length] at hl
          rw [if_pos hl]
          cases x with
          | none => rfl
          | some y => exact absurd hj (wipe_some e).2
      rw [f, f, wipe_length]
    · rw [wipe_out hj]
end VL
end
section
namespace VL
open PySem PySem.Spec L2

def PTsD (X : Cx) (ifs : List Expr) (t : ET) : Prop := PTs X ifs (lT X.K t)
theorem vts_nil {X : Cx} : PTs X [] (lT X.K tYesD) := ⟨fun pins s σ H Q I ⟨pn, Z, F, Γ, h, Qd, A, q, k⟩ => pts_nil.run pins s σ H Q I (k F Γ h H true (Same.refl _) A q)⟩
theorem vts_one {X : Cx} {c : Expr} {t : ET} (h : PT X c (lT X.K t)) : PTs X [c] (lT X.K t) := pts_one h
section
variable {X : Cx} {elt tg iter : Expr} {ifs : List Expr} {scope : Scope} {own : List (Str × Nat)} {pos : Pos} {ws : List Nat} {τi : EI} {g : EG} {tt : ET} {te : EX}
theorem vo_lc (hc : X.calm = true) (hN : X.N.Nodup) (hi : PI X tg iter (lI X.K τi)) (ok : BlkOk X.N X.env.scope scope own)
    (hg : ∀ (s : Shared) (H : Hp) (C : Addr) (cl : List (Str × Addr)) (fp : List Addr), PG (X.blk s H scope (compEnvC scope cl C X.env) fp) tg (lG X.K false ws g)) (hw : ∀ i ∈ ws, i ∈ own.map (·.2))
    (ht : ∀ (s : Shared) (H : Hp) (C : Addr) (cl : List (Str × Addr)) (fp : List Addr), PTs (X.blk s H scope (compEnvC scope cl C X.env) fp) ifs (lT X.K tt))
    (he : ∀ (s : Shared) (H : Hp) (C : Addr) (cl : List (Str × Addr)) (fp : List Addr), PE (X.blk s H scope (compEnvC scope cl C X.env) fp) elt (lX X.K te)) (hs : ∀ x, foldedSetIterable iter X.env x = pure x := by intro _; rfl) :
    PE X (.ListComp elt [⟨tg, iter, ifs, 0⟩] scope pos) (lO X.K (eLc τi g tt te (own.map (·.2)))) :=
  pe_imp (pe_lc hc hN hi ok hg ht he hs) fun σ H QV h => lc_read hw h
theorem vs_setLc {io : Bool} {i : Nat} {y : Str} {py spos : Pos} (hc : X.calm = true) (hN : X.N.Nodup) (hy : X.N[i]? = some y) (hyl : X.env.scope.names.lookup y = some .local) (h0 : io = true → i ≠ 0)
    (hsw : swapsWith (.ListComp elt [⟨tg, iter, ifs, 0⟩] scope pos) (some (.Name y py)) spos.line X.env = pure true) (hi : PI X tg iter (lI X.K τi)) (ok : BlkOk X.N X.env.scope scope own)
    (hg : ∀ (s : Shared) (H : Hp) (C : Addr) (cl : List (Str × Addr)) (fp : List Addr), PG (X.blk s H scope (compEnvC scope cl C X.env) fp) tg (lG X.K false ws g)) (hw : ∀ i ∈ ws, i ∈ own.map (·.2))
    (ht : ∀ (s : Shared) (H : Hp) (C : Addr) (cl : List (Str × Addr)) (fp : List Addr), PTs (X.blk s H scope (compEnvC scope cl C X.env) fp) ifs (lT X.K tt))
    (he : ∀ (s : Shared) (H : Hp) (C : Addr) (cl : List (Str × Addr)) (fp : List Addr), PE (X.blk s H scope (compEnvC scope cl C X.env) fp) elt (lX X.K te)) (hs : ∀ x, foldedSetIterable iter X.env x = pure x := by intro _; rfl) :
    PS X (.Assign [.Name y py] (.ListComp elt [⟨tg, iter, ifs, 0⟩] scope pos) spos) (lS X.K io (sSet i (eLc τi g tt te (own.map (·.2))))) :=
  ps_imp (ps_setLc hc hN hy hyl hsw hi ok hg ht he hs) fun D σ H ⟨v0, Z, F, Γ, h, DD, A, q, k⟩ => lc_read (K := X.K) hw (QV := fun x H1 => gName i x σ H1 D.nx) ⟨_, Z, F, Γ, h, _, A, q, fun F' Γ' h' hr H' o v s A' w ⟨Γ2, eΓ, q'⟩ => by
    obtain ⟨e1, hl⟩ := setG_eq eΓ
    obtain ⟨h2, A2⟩ := A'.store w hl (pns_ne h0)
    rw [e1] at A2
    exact k.nx F' _ _ h2 H' s A2 q'⟩
end

/-! ### what a def promises, by data -/
abbrev W0 := List PyData → (O → Prop) → Prop
abbrev W1 := O → List PyData → (O → O → Prop) → Prop
def toSp0 (K : PySem.W.Frag) (wp : W0) : Sp := fun vs H QV _ => ∃ F ds Q, Same F H ∧ RpAll K F vs ds ∧ wp ds Q ∧ OpPost K F H Q QV
def fzs (ds : List PyData) : Ga := ds.map fun d => some (.fz d)
def toSp1 (K : PySem.W.Frag) (wp : W1) : Sp := fun vs H QV _ => ∃ v0 vr Z F h0 o0 ds Q, vs = v0 :: vr ∧ At K [] Z F (some o0 :: fzs ds) (some v0 :: vr.map some) h0 H ∧ wp o0 ds Q ∧
  ∀ F' h' hr H' o o0' v, Same F F' → AtR K [] Z F' [some o0'] [some v0] h' hr H' → Own K F' o v hr → Q o o0' → QV v H'
section
variable {K : PySem.W.Frag} {F : Hp}
theorem ownS_fz : ∀ {ds : List PyData} {vs : List V}, RpAll K F vs ds → OwnS K F (fzs ds) (vs.map some) emp
  | _, _, .nil => ⟨rfl, rfl⟩
  | _, _, .cons h t => ⟨_, _, emp, emp, rfl, by rw [emp_jn], Dis.emp, ⟨rfl, h⟩, ownS_fz t⟩
theorem ownS_app : ∀ {Γ : Ga} {σ : St} {h : Hp} (n : Nat), OwnS K F Γ σ h → OwnS K F (Γ ++ List.replicate n none) (σ ++ List.replicate n none) h
  | [], _, _, n, ⟨e, e2⟩ => by
    subst e; subst e2
    show OwnS K F (List.replicate n none) (List.replicate n none) emp
    induction n with
    | zero => exact ⟨rfl, rfl⟩
    | succ n ih => exact ⟨none, _, rfl, ih⟩
  | none :: _, _, _, n, ⟨x, σ', e, h⟩ => by subst e; exact ⟨x, _, rfl, ownS_app n h⟩
  | some _ :: _, _, _, n, ⟨v, σ', h1, h2, e, e2, d, w, h⟩ => by subst e; exact ⟨v, _, h1, h2, rfl, e2, d, w, ownS_app n h⟩
theorem ownS_dp : ∀ {ds : List PyData} {vs : List V} {h : Hp}, OwnS K F (fzs ds) (vs.map some) h → RpAll K F vs ds ∧ h = emp
  | [], vs, _, ⟨e, e2⟩ => by
    cases vs with
    | nil => exact ⟨.nil, e2⟩
    | cons _ _ => cases e
  | d :: ds, vs, _, ⟨v, σ', h1, h2, e, e2, _, w, t⟩ => by
    cases vs with
    | nil => cases e
    | cons u us =>
      cases e
      obtain ⟨q, z⟩ := ownS_dp t
      exact ⟨.cons w.2 q, by rw [e2, w.1, z, emp_jn]⟩
end
/-- all that stands beside: what is neither frozen nor the def's own -/
def rest2 (H F h : Hp) : Hp := fun a => if F a = none ∧ h a = none then H a else none
theorem rest2_same {H F h : Hp} : Same (rest2 H F h) H := fun a o e => by
  unfold rest2 at e
  split at e
  · exact e
  · cases e
theorem rest2_F {H F h : Hp} : Dis F (rest2 H F h) := fun a => by
  cases e : F a with
  | none => exact .inl rfl
  | some o => exact .inr (if_neg fun z => by rw [e] at z; cases z.1)
theorem rest2_h {H F h : Hp} : Dis h (rest2 H F h) := fun a => by
  cases e : h a with
  | none => exact .inl rfl
  | some o => exact .inr (if_neg fun z => by rw [e] at z; cases z.2)
theorem rest2_of {H F h : Hp} {a : Addr} (e : F a = none) (e2 : h a = none) : rest2 H F h a = H a := if_pos ⟨e, e2⟩
section
variable {X : Cx} {k : Nat} {f : Addr} {fd : FuncData} {ps : List Str} {x : Str} {p pos : Pos} {e : Expr} {es : List Expr} {τs : EA} {dvs : List V} {ds : List Value} {dds : List PyData}
def eCall (wp : W0) (dds : List PyData) (τs : EA) : EO := fun Γ Q => τs Γ fun as Γ1 => ∃ ds, unD as = some ds ∧ wp (ds ++ dds) fun o => Q o Γ1
def eCallI (wp : W1) (dds : List PyData) (τs : EA) : EO := fun Γ Q => τs Γ fun as Γ1 => ∃ j o0 ar ds, as = .s j :: ar ∧ unD ar = some ds ∧ Γ1[j]? = some (some o0) ∧ wp o0 (ds ++ dds) fun o o0' => ∃ Γ2, setG Γ1 j (some o0') = some Γ2 ∧ Q o Γ2
theorem call_read {wp : W0} (hdd : ∀ F, RpAll X.K F dvs dds) {E : XK} {σ : St} {H : Hp} {QV : VK} (h : lO X.K (eCall wp dds τs) σ H QV) : tCall (toSp0 X.K wp) dvs E (lA X.K τs) σ H QV := by
  obtain ⟨pn, Z, F, Γ, hh, Q, A, q, kk⟩ := h
  refine ⟨pn, Z, F, Γ, hh, _, A, q, fun F1 Γ1 h1 H1 as vs s1 A1 r1 ⟨ds', e1, q1⟩ => ?_⟩
  rw [unD_eq e1] at r1
  exact ⟨F1, ds' ++ dds, _, A1.FH, (args_d r1).append (hdd F1), q1, A1.post s1 kk⟩
theorem vo_call {wp : W0} (G : FnOk X.prog X.w X.K X.mg X.base CX0 k f fd ps (toSp0 X.K wp)) (hr : Room k X.A) (hg : Gl X x) (hm : X.mg x = some (.ref f)) (hk : PySem.W.keepIn X.K (.ref f) = true) (hb : Binds X.K fd ps ds) (hd : Vals dvs ds) (hdd : ∀ F, RpAll X.K F dvs dds)
    (ha : PA X (e :: es) (lA X.K τs)) (hdb : (x == ("__debug__" : Str)) = false := by decide) (he : starEach (e :: es) X.env = (false, eval e X.env) :: starEach es X.env := by rfl) (hpl : (backTo pos (starEach es X.env)).any (·.1) = false := by rfl) :
    PE X (.Call (.Name x p) (e :: es) [] pos) (lO X.K (eCall wp dds τs)) := pe_imp (pe_call G hr hg hm hk hb hd pass0 ha hdb he hpl) fun σ H QV h => call_read hdd h
theorem vo_call0 {wp : W0} (G : FnOk X.prog X.w X.K X.mg X.base CX0 k f fd ps (toSp0 X.K wp)) (hr : Room k X.A) (hg : Gl X x) (hm : X.mg x = some (.ref f)) (hk : PySem.W.keepIn X.K (.ref f) = true) (hb : Binds X.K fd ps ds) (hd : Vals dvs ds) (hdd : ∀ F, RpAll X.K F dvs dds)
    (hdb : (x == ("__debug__" : Str)) = false := by decide) : PE X (.Call (.Name x p) [] [] pos) (lO X.K (eCall wp dds aNil)) :=
  pe_imp (pe_call0 G hr hg hm hk hb hd pass0 hdb) fun σ H QV ⟨pn, Z, F, Γ, hh, Q, A, ⟨ds', e1, q1⟩, kk⟩ => by
    have : ds' = [] := by cases e1; rfl
    subst this
    exact ⟨F, dds, _, A.FH, hdd F, q1, A.post (Same.refl _) kk⟩
theorem calli_read {wp : W1} (hdd : ∀ F, RpAll X.K F dvs dds) {E : XK} {σ : St} {H : Hp} {QV : VK} (h : lO X.K (eCallI wp dds τs) σ H QV) : tCall (toSp1 X.K wp) dvs E (lA X.K τs) σ H QV := by
  obtain ⟨pn, Z, F, Γ, hh, Q, A, q, kk⟩ := h
  refine ⟨pn, Z, F, Γ, hh, _, A, q, fun F1 Γ1 h1 H1 as vs s1 A1 r1 ⟨j, o0, ar, ds', e1, e1', e2, q1⟩ => ?_⟩
  subst e1
  have e1'' := unD_eq e1'
  subst e1''
  obtain ⟨v0, vr, rfl, r0, rr⟩ := r1
  obtain ⟨v, g1, g2, a1, w, sg1, dg1, zg1, sg2, d12, dg2, zg2, put⟩ := A1.change e2
  have r0 : σ[j]? = some (some v0) := r0
  have ev : v = v0 := by rw [a1] at r0; exact Option.some.inj (Option.some.inj r0)
  subst ev
  have rd := (args_d rr).append (hdd F1)
  have own : OwnS X.K F1 (some o0 :: fzs (ds' ++ dds)) (some v :: (vr ++ dvs).map some) g1 := ⟨v, _, g1, emp, rfl, by rw [jn_emp], Dis.emp.symm, w, ownS_fz rd⟩
  refine ⟨v, vr ++ dvs, jn Z g2, F1, g1, o0, ds' ++ dds, _, rfl, ⟨own, sg1, A1.FH, same_jn A1.ZH sg2, (Dis.jn A1.FZ.symm dg2).symm, dg1, (Dis.jn zg1.symm d12.symm).symm, fun _ z => nomatch z⟩, q1, fun F' h' hr H' o o0' u sF A' w' ⟨Γ2, eΓ2, q'⟩ => ?_⟩
  have dZ : Dis Z g2 := zg2.symm
  have B := At.unkeep (K := X.K) dZ A'.at_
  obtain ⟨v', σ', k1, k2, e5, e6, dk, w5, ⟨e7, e8⟩⟩ := B.at_.own
  cases e5
  rw [e8, jn_emp] at e6
  subst e6
  have hr2 : Dis hr g2 := (Dis.sub (same_r dZ) A'.rZ.symm).symm
  have hrZ : Dis hr Z := (Dis.sub same_l A'.rZ.symm).symm
  have dF2 : Dis g2 F' := B.rF
  have C := put F' o0' h' H' sF w5 B.at_.hH B.at_.FH B.rH B.at_.ZH B.at_.FZ B.rh.symm B.at_.hF B.at_.hZ dF2
  rw [(setG_eq eΓ2).1] at C
  exact kk F' _ (jn h' g2) hr H' o u (s1.trans sF) ⟨C, A'.rH, (Dis.jn A'.rh.symm hr2.symm).symm, A'.rF, hrZ⟩ w' q'
theorem vo_callI {wp : W1} (G : FnOk X.prog X.w X.K X.mg X.base CX0 k f fd ps (toSp1 X.K wp)) (hr : Room k X.A) (hg : Gl X x) (hm : X.mg x = some (.ref f)) (hk : PySem.W.keepIn X.K (.ref f) = true) (hb : Binds X.K fd ps ds) (hd : Vals dvs ds) (hdd : ∀ F, RpAll X.K F dvs dds)
    (ha : PA X (e :: es) (lA X.K τs)) (hdb : (x == ("__debug__" : Str)) = false := by decide) (he : starEach (e :: es) X.env = (false, eval e X.env) :: starEach es X.env := by rfl) (hpl : (backTo pos (starEach es X.env)).any (·.1) = false := by rfl) :
    PE X (.Call (.Name x p) (e :: es) [] pos) (lO X.K (eCallI wp dds τs)) := pe_imp (pe_call G hr hg hm hk hb hd pass0 ha hdb he hpl) fun σ H QV h => calli_read hdd h
end

/-! ### a def keeps its promise -/
def ends0 (Q : O → Prop) : En := { nx := fun _ => Q (.fz .none), rt := fun o _ => Q o }
def ends1 (Q : O → O → Prop) : En := { nx := fun Γ => ∃ o0, Γ[0]? = some (some o0) ∧ Q (.fz .none) o0, rt := fun o Γ => ∃ o0, Γ[0]? = some (some o0) ∧ Q o o0 }
section
variable {P : Program} {w : World} {K : PySem.W.Frag} {mg : Str → Option Value} {base : Heap} {x qual : Str} {st : Stmt} {f : Addr} {fd : FuncData} {N ps : List Str} {k : Nat}
theorem start_eq {N : List Str} {vs : List V} : start N vs = vs.map some ++ List.replicate (N.length - vs.length) none := rfl
theorem vfn0 {wp : W0} {τ : ES} (Fu : Fun K x qual st f fd) (S : FnScope N ps (defScope st)) (hlen : ∀ ds Q, wp ds Q → ds.length = ps.length)
    (body : ∀ (cdv : Value) (A : Around) (outer : List Env) (s : Shared) (H : Hp) (E : XK), Room k (A.deeper (PyProof.Rows.envOfC qual (defScope st) s.heap.objs.size f cdv)) → PSs (cxOf CX0 P w K mg base N qual (defScope st) f cdv A outer s H E).nox (defBody st) (lS K false τ))
    (rd : ∀ ds Q, wp ds Q → τ (ends0 Q) (fzs ds ++ List.replicate (N.length - ds.length) none)) : FnOk P w K mg base CX0 (k + 1) f fd ps (toSp0 K wp) := by
  refine Fu.ok S (fun vs H QV E ⟨F, ds, Q, s, r, h, _⟩ => by rw [r.length]; exact hlen ds Q h) (fun cdv A outer s H vs QV E hr ⟨F, ds, Q, sF, r, h, post⟩ => ⟨lS K false τ, body cdv A outer s H E hr, ?_⟩)
  refine ⟨.non, rest2 H F emp, F, _, emp, ends0 Q, ⟨?_, same_emp, sF, rest2_same, rest2_F, Dis.emp, Dis.emp, fun _ z => nomatch z⟩, rd ds Q h, ?_⟩
  · have := ownS_app (N.length - ds.length) (ownS_fz r)
    rw [start_eq, r.length]
    exact this
  have fin : ∀ F' Γ' σ' h' hr H' o v, Same F F' → AtR K (pns false .non) (rest2 H F emp) F' Γ' σ' h' hr H' → Own K F' o v hr → Q o → QV v H' := fun F' Γ' σ' h' hr H' o v s' A' w' q' => by
    have there : ∀ a, H a ≠ none → F a = none → rest2 H F emp a = H a := fun a _ e => rest2_of e rfl
    refine post F' hr H' o v ⟨s', A'.at_.FH, fun a u e => ?_, fun a e => ?_⟩ w' A'.rH A'.rF (fun a e => ?_) q'
    · cases e1 : F a with
      | some u' =>
        have := sF _ _ e1
        rw [e] at this; cases this
        exact A'.at_.FH _ _ (s' _ _ e1)
      | none => exact A'.at_.ZH _ _ ((there a (by rw [e]; simp) e1).trans e)
    · cases e1 : F a with
      | some u' => exact .inl (by simp)
      | none =>
        right
        cases e2 : H a with
        | none => rfl
        | some u =>
          rcases A'.at_.FZ a with z | z
          · exact absurd z e
          · rw [there a (by rw [e2]; simp) e1, e2] at z; cases z
    · cases e2 : H a with
      | none => rfl
      | some u =>
        cases e1 : F a with
        | some u' =>
          rcases A'.rF a with z | z
          · exact absurd z e
          · rw [s' _ _ e1] at z; cases z
        | none =>
          rcases A'.rZ a with z | z
          · exact absurd z e
          · rw [there a (by rw [e2]; simp) e1, e2] at z; cases z
  exact ⟨fun F' Γ' σ' h' H' s' A' q' => fin F' Γ' σ' h' emp H' (.fz .none) .non s' A'.alone ⟨rfl, .non⟩ q', fun _ _ _ _ _ _ _ q => q.elim, fun _ _ _ _ _ _ _ q => q.elim, fun F' Γ' σ' h' hr H' o v s' A' w' q' => fin F' Γ' σ' h' hr H' o v s' A' w' q'⟩
theorem vfn1 {wp : W1} {τ : ES} (Fu : Fun K x qual st f fd) (S : FnScope N ps (defScope st)) (hlen : ∀ o ds Q, wp o ds Q → ds.length + 1 = ps.length)
    (body : ∀ (cdv : Value) (A : Around) (outer : List Env) (s : Shared) (H : Hp) (E : XK), Room k (A.deeper (PyProof.Rows.envOfC qual (defScope st) s.heap.objs.size f cdv)) → PSs (cxOf CX0 P w K mg base N qual (defScope st) f cdv A outer s H E).nox (defBody st) (lS K true τ))
    (rd : ∀ o ds Q, wp o ds Q → τ (ends1 Q) (some o :: fzs ds ++ List.replicate (N.length - (ds.length + 1)) none)) : FnOk P w K mg base CX0 (k + 1) f fd ps (toSp1 K wp) := by
  have len2 : ∀ {F : Hp} {ds : List PyData} {vr : List V} {o0 : O} {v0 : V} {h0 : Hp}, OwnS K F (some o0 :: fzs ds) (some v0 :: vr.map some) h0 → vr.length = ds.length := fun q => by
    have := q.len
    simpa [fzs] using this.symm
  refine Fu.ok S (fun vs H QV E ⟨v0, vr, Z, F, h0, o0, ds, Q, e, A, h, _⟩ => by subst e; rw [List.length_cons, len2 A.own]; exact hlen o0 ds Q h) (fun cdv A outer s H vs QV E hr ⟨v0, vr, Z, F, h0, o0, ds, Q, e, B, h, post⟩ => ⟨lS K true τ, body cdv A outer s H E hr, ?_⟩)
  subst e
  have hl := len2 B.own
  refine ⟨v0, Z, F, _, h0, ends1 Q, ⟨?_, B.hH, B.FH, B.ZH, B.FZ, B.hF, B.hZ, fun p hp => ?_⟩, rd o0 ds Q h, ?_⟩
  · have := ownS_app (N.length - (ds.length + 1)) B.own
    rw [start_eq, List.length_cons, hl]
    exact this
  · have : p = (0, v0) := by simpa [pns] using hp
    subst this
    rfl
  have fin : ∀ F' Γ' σ' h' hr H' o v, Same F F' → AtR K (pns true v0) Z F' Γ' σ' h' hr H' → Own K F' o v hr → (∃ o0, Γ'[0]? = some (some o0) ∧ Q o o0) → QV v H' := fun F' Γ' σ' h' hr H' o v s' A' w' ⟨o0', e, q'⟩ => by
    obtain ⟨v1, g1, g2, a1, a2, a3, a4, _⟩ := A'.at_.own.focus e
    have hp := A'.at_.pin (0, v0) (by simp [pns])
    have hp : σ'[0]? = some (some v0) := hp
    rw [a1] at hp
    have ev : v1 = v0 := Option.some.inj (Option.some.inj hp)
    subst ev
    subst a2
    refine post F' g1 hr H' o o0' v s' ⟨⟨⟨v1, [], g1, emp, rfl, by rw [jn_emp], Dis.emp.symm, a4, rfl, rfl⟩, fun a u z => A'.at_.hH _ _ (same_l _ _ z), A'.at_.FH, A'.at_.ZH, A'.at_.FZ, Dis.sub same_l A'.at_.hF, Dis.sub same_l A'.at_.hZ, fun _ z => nomatch z⟩, A'.rH, (Dis.sub same_l A'.rh.symm).symm, A'.rF, A'.rZ⟩ w' q'
  exact ⟨fun F' Γ' σ' h' H' s' A' q' => fin F' Γ' σ' h' emp H' (.fz .none) .non s' A'.alone ⟨rfl, .non⟩ q', fun _ _ _ _ _ _ _ q => q.elim, fun _ _ _ _ _ _ _ q => q.elim, fun F' Γ' σ' h' hr H' o v s' A' w' q' => fin F' Γ' σ' h' hr H' o v s' A' w' q'⟩
end
end VL
end
section
namespace VL
open PySem PySem.Spec L2

/-! ### operations on data -/
def shaped (d : PyData) : Prop := SeqAt.shaped d = true
def opAdd : PyData → PyData → (O → Prop) → Prop
  | .int i, .int j, Q => Q (.fz (.int (i + j)))
  | .str x, .str y, Q => x.length + y.length ≤ sizeLine ∧ Q (.fz (.str (x ++ y)))
  | .tuple xs, .tuple ys, Q => xs.length + ys.length ≤ sizeLine ∧ Q (.fz (.tuple (xs ++ ys)))
  | .list xs, .list ys, Q => xs.length + ys.length ≤ sizeLine ∧ Q (.ls (xs ++ ys))
  | _, _, _ => False
def opSub : PyData → PyData → (O → Prop) → Prop
  | .int i, .int j, Q => Q (.fz (.int (i - j)))
  | _, _, _ => False
def opMul : PyData → PyData → (O → Prop) → Prop
  | .int i, .int j, Q => CMulX i j ∧ Q (.fz (.int (i * j)))
  | .list xs, .int k, Q => (-(2 ^ 63) ≤ k ∧ k < 2 ^ 63 ∧ xs.length * k.toNat ≤ sizeLine) ∧ Q (.ls (List.replicate k.toNat xs).flatten)
  | .tuple xs, .int k, Q => (xs ≠ [] ∧ 1 ≤ k ∧ k ≤ 1000 ∧ xs.length ≤ 1000) ∧ Q (.fz (.tuple (List.replicate k.toNat xs).flatten))
  | _, _, _ => False
def opDiv : PyData → PyData → (O → Prop) → Prop
  | .int i, .int j, Q => CDivW i j ∧ Q (.fz (.int (i / j)))
  | _, _, _ => False
def opMod : PyData → PyData → (O → Prop) → Prop
  | .int i, .int j, Q => 0 < j ∧ Q (.fz (.int (i % j)))
  | _, _, _ => False
def opShl : PyData → PyData → (O → Prop) → Prop
  | .int i, .int j, Q => CShl i j ∧ Q (.fz (.int (i * 2 ^ j.toNat)))
  | _, _, _ => False
def opShr : PyData → PyData → (O → Prop) → Prop
  | .int i, .int j, Q => 0 ≤ j ∧ Q (.fz (.int (i / 2 ^ j.toNat)))
  | _, _, _ => False
def opAndI : PyData → PyData → (O → Prop) → Prop
  | .int i, .int j, Q => Q (.fz (.int (Builtin.bitAnd i j)))
  | _, _, _ => False
def opPow : PyData → PyData → (O → Prop) → Prop
  | .int i, .int j, Q => CPow i j ∧ Q (.fz (.int (i ^ j.toNat)))
  | _, _, _ => False
def opLt : PyData → PyData → (O → Prop) → Prop
  | .int i, .int j, Q => Q (.fz (.bool (decide (i < j))))
  | _, _, _ => False
def opLe : PyData → PyData → (O → Prop) → Prop
  | .int i, .int j, Q => Q (.fz (.bool (decide (i ≤ j))))
  | _, _, _ => False
def opGt : PyData → PyData → (O → Prop) → Prop
  | .int i, .int j, Q => Q (.fz (.bool (decide (j < i))))
  | _, _, _ => False
def opGe : PyData → PyData → (O → Prop) → Prop
  | .int i, .int j, Q => Q (.fz (.bool (decide (j ≤ i))))
  | _, _, _ => False
def opEq (d e : PyData) (Q : O → Prop) : Prop := shaped d ∧ shaped e ∧ Q (.fz (.bool (PyData.eqv d e)))
def opNe (d e : PyData) (Q : O → Prop) : Prop := shaped d ∧ shaped e ∧ Q (.fz (.bool (!PyData.eqv d e)))
def opIsN (d e : PyData) (Q : O → Prop) : Prop := e = .none ∧ Q (.fz (.bool (match d with | .none => true | _ => false)))
def opNotN (d e : PyData) (Q : O → Prop) : Prop := e = .none ∧ Q (.fz (.bool (match d with | .none => false | _ => true)))
def opIn : PyData → PyData → (O → Prop) → Prop
  | d, .list ds, Q => shaped d ∧ shaped (.list ds) ∧ Q (.fz (.bool (ds.any fun z => PyData.eqv z d)))
  | d, .tuple ds, Q => shaped d ∧ shaped (.tuple ds) ∧ Q (.fz (.bool (ds.any fun z => PyData.eqv z d)))
  | .str i, .str j, Q => Q (.fz (.bool (!(Builtin.Str.occurrences j i 0 j.length 1).isEmpty)))
  | _, _, _ => False
def opNotIn : PyData → PyData → (O → Prop) → Prop
  | d, .list ds, Q => shaped d ∧ shaped (.list ds) ∧ Q (.fz (.bool (!ds.any fun z => PyData.eqv z d)))
  | d, .tuple ds, Q => shaped d ∧ shaped (.tuple ds) ∧ Q (.fz (.bool (!ds.any fun z => PyData.eqv z d)))
  | .str i, .str j, Q => Q (.fz (.bool (!(!(Builtin.Str.occurrences j i 0 j.length 1).isEmpty))))
  | _, _, _ => False
def opIx : PyData → PyData → (O → Prop) → Prop
  | .list ds, .int i, Q => ∃ d, atI ds i = some d ∧ Q (.fz d)
  | .tuple ds, .int i, Q => ∃ d, atI ds i = some d ∧ Q (.fz d)
  | .str z, .int i, Q => z.length ≤ sizeLine ∧ ∃ c, atI z.cps.toList i = some c ∧ Q (.fz (.str ⟨#[c]⟩))
  | _, _, _ => False
def op1Neg : PyData → (O → Prop) → Prop
  | .int i, Q => Q (.fz (.int (-i)))
  | _, _ => False
section
variable {K : PySem.W.Frag} {F H : Hp}
theorem atI_all {ds : List PyData} {vs : List V} {i : Int} {d : PyData} (h : RpAll K F vs ds) (e : atI ds i = some d) : ∃ v, atI vs i = some v ∧ Rp K F v d := by
  unfold atI at e ⊢
  rw [h.length]
  cases e1 : ixN ds.length i with
  | none => rw [e1] at e; cases e
  | some j => rw [e1] at e; exact h.getd e
end
theorem RepS.tupR {K : PySem.W.Frag} {F H : Hp} {ds : List PyData} {v : V} (r : RepS K F H (.tuple ds) v) : Rp K F v (.tuple ds) := by
  rcases r with r | ⟨_, _, _, _, e, _⟩
  · exact r
  · cases e
section
variable {X : Cx}
theorem o2_add : Op2 X (binaryOp .Add) opAdd := by
  intro pins s σ H x y v u QV I rx ry ⟨F, d1, d2, Q, sF, r1, r2, h, post⟩
  unfold opAdd at h
  split at h
  · cases r1.int; cases r2.int
    exact op_add pins s σ H _ _ v u QV I rx ry ⟨_, _, rfl, rfl, post.val sF (.int _) h⟩
  · cases r1.str; cases r2.str
    exact op_add_str pins s σ H _ _ v u QV I rx ry ⟨_, _, rfl, rfl, h.1, post.val sF (.str _) h.2⟩
  · obtain ⟨a, vs, rfl, ha, ra⟩ := r1.tup sF
    obtain ⟨b, ws, rfl, hb, rb⟩ := r2.tup sF
    have q1 := r1.tupR
    have q2 := r2.tupR
    refine op_catN pins s σ H _ _ v u QV I rx ry ⟨a, b, vs, ws, rfl, rfl, ha, hb, by rw [ra.length, rb.length]; exact h.1, fun e => ?_, fun _ e => ?_, fun _ _ p o n hd => ?_⟩
    · subst e; cases ra; exact post.val sF q2 h.2
    · subst e; cases rb; rw [List.append_nil] at h; exact post.val sF q1 h.2
    · exact post.newT sF n hd (ra.append rb) h.2
  · obtain ⟨a, vs, rfl, ha, ra⟩ := r1.list sF
    obtain ⟨b, ws, rfl, hb, rb⟩ := r2.list sF
    exact op_cat pins s σ H _ _ v u QV I rx ry ⟨a, b, vs, ws, rfl, rfl, ha, hb, by rw [ra.length, rb.length]; exact h.1, fun p n => post.newL sF n (ra.append rb) h.2⟩
  · exact h.elim
theorem o2_sub : Op2 X (binaryOp .Sub) opSub := by
  intro pins s σ H x y v u QV I rx ry ⟨F, d1, d2, Q, sF, r1, r2, h, post⟩
  unfold opSub at h
  split at h
  · cases r1.int; cases r2.int
    exact op_sub pins s σ H _ _ v u QV I rx ry ⟨_, _, rfl, rfl, post.val sF (.int _) h⟩
  · exact h.elim
theorem rep_all {K : PySem.W.Frag} {F : Hp} {ds : List PyData} {vs : List V} (r : RpAll K F vs ds) : ∀ k : Nat, RpAll K F (List.replicate k vs).flatten (List.replicate k ds).flatten
  | 0 => .nil
  | k + 1 => by rw [List.replicate_succ, List.flatten_cons, List.replicate_succ, List.flatten_cons]; exact r.append (rep_all r k)
theorem o2_mul : Op2 X (binaryOp .Mult) opMul := by
  intro pins s σ H x y v u QV I rx ry ⟨F, d1, d2, Q, sF, r1, r2, h, post⟩
  unfold opMul at h
  split at h
  · cases r1.int; cases r2.int
    exact op_mulX pins s σ H _ _ v u QV I rx ry ⟨_, _, rfl, rfl, h.1, post.val sF (.int _) h.2⟩
  · obtain ⟨a, vs, rfl, ha, ra⟩ := r1.list sF
    cases r2.int
    exact op_rep pins s σ H _ _ v u QV I rx ry ⟨a, _, vs, rfl, rfl, ha, h.1.1, h.1.2.1, by rw [ra.length]; exact h.1.2.2, fun p n => post.newL sF n (rep_all ra _) h.2⟩
  · have q1 := r1.tupR
    obtain ⟨a, vs, rfl, ha, ra⟩ := r1.tup sF
    cases r2.int
    refine op_repN pins s σ H _ _ v u QV I rx ry ⟨a, _, vs, rfl, rfl, ha, fun e => h.1.1 ?_, h.1.2.1, h.1.2.2.1, by rw [ra.length]; exact h.1.2.2.2, fun e => ?_, fun _ p o n hd => post.newT sF n hd (rep_all ra _) h.2⟩
    · subst e; cases ra; rfl
    · subst e
      refine post.val sF q1 ?_
      have := h.2
      rw [show (1 : Int).toNat = 1 from rfl, List.replicate_one, List.flatten_cons, List.flatten_nil, List.append_nil] at this
      exact this
  · exact h.elim
theorem o2_div : Op2 X (binaryOp .FloorDiv) opDiv := by
  intro pins s σ H x y v u QV I rx ry ⟨F, d1, d2, Q, sF, r1, r2, h, post⟩
  unfold opDiv at h
  split at h
  · cases r1.int; cases r2.int
    exact op_fdivW pins s σ H _ _ v u QV I rx ry ⟨_, _, rfl, rfl, h.1, post.val sF (.int _) h.2⟩
  · exact h.elim
theorem o2_mod : Op2 X (binaryOp .Mod) opMod := by
  intro pins s σ H x y v u QV I rx ry ⟨F, d1, d2, Q, sF, r1, r2, h, post⟩
  unfold opMod at h
  split at h
  · cases r1.int; cases r2.int
    exact op_mod pins s σ H _ _ v u QV I rx ry ⟨_, _, rfl, rfl, h.1, post.val sF (.int _) h.2⟩
  · exact h.elim
theorem o2_shl : Op2 X (binaryOp .LShift) opShl := by
  intro pins s σ H x y v u QV I rx ry ⟨F, d1, d2, Q, sF, r1, r2, h, post⟩
  unfold opShl at h
  split at h
  · cases r1.int; cases r2.int
    exact op_shlW pins s σ H _ _ v u QV I rx ry ⟨_, _, rfl, rfl, h.1, post.val sF (.int _) h.2⟩
  · exact h.elim
theorem o2_shr : Op2 X (binaryOp .RShift) opShr := by
  intro pins s σ H x y v u QV I rx ry ⟨F, d1, d2, Q, sF, r1, r2, h, post⟩
  unfold opShr at h
  split at h
  · cases r1.int; cases r2.int
    exact op_shr pins s σ H _ _ v u QV I rx ry ⟨_, _, rfl, rfl, h.1, post.val sF (.int _) h.2⟩
  · exact h.elim
theorem o2_and : Op2 X (binaryOp .BitAnd) opAndI := by
  intro pins s σ H x y v u QV I rx ry ⟨F, d1, d2, Q, sF, r1, r2, h, post⟩
  unfold opAndI at h
  split at h
  · cases r1.int; cases r2.int
    exact op_and pins s σ H _ _ v u QV I rx ry ⟨_, _, rfl, rfl, post.val sF (.int _) h⟩
  · exact h.elim
theorem o2_pow : Op2 X (binaryOp .Pow) opPow := by
  intro pins s σ H x y v u QV I rx ry ⟨F, d1, d2, Q, sF, r1, r2, h, post⟩
  unfold opPow at h
  split at h
  · cases r1.int; cases r2.int
    exact op_pow pins s σ H _ _ v u QV I rx ry ⟨_, _, rfl, rfl, h.1, post.val sF (.int _) h.2⟩
  · exact h.elim
theorem o2_lt : Op2 X (compareOp .Lt) opLt := by
  intro pins s σ H x y v u QV I rx ry ⟨F, d1, d2, Q, sF, r1, r2, h, post⟩
  unfold opLt at h
  split at h
  · cases r1.int; cases r2.int
    exact op_lt pins s σ H _ _ v u QV I rx ry ⟨_, _, rfl, rfl, post.val sF (.bl _) h⟩
  · exact h.elim
theorem o2_le : Op2 X (compareOp .LtE) opLe := by
  intro pins s σ H x y v u QV I rx ry ⟨F, d1, d2, Q, sF, r1, r2, h, post⟩
  unfold opLe at h
  split at h
  · cases r1.int; cases r2.int
    exact op_le pins s σ H _ _ v u QV I rx ry ⟨_, _, rfl, rfl, post.val sF (.bl _) h⟩
  · exact h.elim
theorem o2_gt : Op2 X (compareOp .Gt) opGt := by
  intro pins s σ H x y v u QV I rx ry ⟨F, d1, d2, Q, sF, r1, r2, h, post⟩
  unfold opGt at h
  split at h
  · cases r1.int; cases r2.int
    exact op_gt pins s σ H _ _ v u QV I rx ry ⟨_, _, rfl, rfl, post.val sF (.bl _) h⟩
  · exact h.elim
theorem o2_ge : Op2 X (compareOp .GtE) opGe := by
  intro pins s σ H x y v u QV I rx ry ⟨F, d1, d2, Q, sF, r1, r2, h, post⟩
  unfold opGe at h
  split at h
  · cases r1.int; cases r2.int
    exact op_ge pins s σ H _ _ v u QV I rx ry ⟨_, _, rfl, rfl, post.val sF (.bl _) h⟩
  · exact h.elim
theorem RepS.dpH {K : PySem.W.Frag} {F H : Hp} {d : PyData} {v : V} (s : Same F H) (r : RepS K F H d v) (c : shaped d) : Dp K H v d := Rp.dp d (r.rpH s) (SeqAt.canLay_of_shaped c)
theorem o2_eq (hu : X.A.units + 64 < cLine) : Op2 X (compareOp .Eq) opEq := by
  intro pins s σ H x y v u QV I rx ry ⟨F, d1, d2, Q, sF, r1, r2, ⟨c1, c2, h⟩, post⟩
  exact op_eqD hu pins s σ H _ _ v u QV I rx ry ⟨d1, d2, r1.dpH sF c1, r2.dpH sF c2, c1, c2, post.val sF (.bl _) h⟩
theorem o2_ne (hu : X.A.units + 64 < cLine) : Op2 X (compareOp .NotEq) opNe := by
  intro pins s σ H x y v u QV I rx ry ⟨F, d1, d2, Q, sF, r1, r2, ⟨c1, c2, h⟩, post⟩
  exact op_neD hu pins s σ H _ _ v u QV I rx ry ⟨d1, d2, r1.dpH sF c1, r2.dpH sF c2, c1, c2, post.val sF (.bl _) h⟩
theorem o2_isN : Op2 X (compareOp .Is) opIsN := by
  intro pins s σ H x y v u QV I rx ry ⟨F, d1, d2, Q, sF, r1, r2, ⟨e, h⟩, post⟩
  subst e
  have ey := r2.non
  have r := r1.rpH sF
  refine op_isN pins s σ H _ _ v u QV I rx ry ⟨ey, ?_⟩
  cases r <;> exact post.val sF (.bl _) h
theorem o2_notN : Op2 X (compareOp .IsNot) opNotN := by
  intro pins s σ H x y v u QV I rx ry ⟨F, d1, d2, Q, sF, r1, r2, ⟨e, h⟩, post⟩
  subst e
  have ey := r2.non
  have r := r1.rpH sF
  refine op_notN pins s σ H _ _ v u QV I rx ry ⟨ey, ?_⟩
  cases r <;> exact post.val sF (.bl _) h
theorem o2_in (hu : X.A.units + 65 < cLine) : Op2 X (compareOp .In) opIn := by
  intro pins s σ H x y v u QV I rx ry ⟨F, d1, d2, Q, sF, r1, r2, h, post⟩
  unfold opIn at h
  split at h
  · obtain ⟨c1, c2, h⟩ := h
    exact op_inD hu pins s σ H _ _ v u QV I rx ry ⟨_, _, r1.dpH sF c1, r2.dpH sF c2, c1, c2, post.val sF (.bl _) h⟩
  · obtain ⟨c1, c2, h⟩ := h
    obtain ⟨as, q1⟩ := Dp.reads I _ x v (r1.dpH sF c1) rx
    obtain ⟨bs, q2⟩ := Dp.reads I _ y u (r2.dpH sF c2) ry
    exact SeqAt.in_tuple_reads q2 q1 (SeqAt.canLay_of_shaped c2) (SeqAt.canLay_of_shaped c1) (PyProof.Rows.room_in_shaped c1 hu) ⟨.bl _, H, I, rfl, post.val sF (.bl _) h⟩
  · cases r1.str; cases r2.str
    exact op_in_str pins s σ H _ _ v u QV I rx ry ⟨_, _, rfl, rfl, post.val sF (.bl _) h⟩
  · exact h.elim
theorem o2_notIn (hu : X.A.units + 65 < cLine) : Op2 X (compareOp .NotIn) opNotIn := by
  intro pins s σ H x y v u QV I rx ry ⟨F, d1, d2, Q, sF, r1, r2, h, post⟩
  unfold opNotIn at h
  split at h
  · obtain ⟨c1, c2, h⟩ := h
    exact op_notInD hu pins s σ H _ _ v u QV I rx ry ⟨_, _, r1.dpH sF c1, r2.dpH sF c2, c1, c2, post.val sF (.bl _) h⟩
  · obtain ⟨c1, c2, h⟩ := h
    obtain ⟨as, q1⟩ := Dp.reads I _ x v (r1.dpH sF c1) rx
    obtain ⟨bs, q2⟩ := Dp.reads I _ y u (r2.dpH sF c2) ry
    exact SeqAt.notIn_tuple_reads q2 q1 (SeqAt.canLay_of_shaped c2) (SeqAt.canLay_of_shaped c1) (PyProof.Rows.room_in_shaped c1 hu) ⟨.bl _, H, I, rfl, post.val sF (.bl _) h⟩
  · cases r1.str; cases r2.str
    exact op_notin_str pins s σ H _ _ v u QV I rx ry ⟨_, _, rfl, rfl, post.val sF (.bl _) h⟩
  · exact h.elim
theorem ix2_any : Ix2 X opIx := by
  intro value slice pins s σ H x y v u QV I rx ry ⟨F, d1, d2, Q, sF, r1, r2, h, post⟩ hs
  unfold opIx at h
  split at h
  · obtain ⟨d, e, h⟩ := h
    obtain ⟨a, vs, rfl, ha, ra⟩ := r1.list sF
    cases r2.int
    obtain ⟨w, e2, r⟩ := atI_all ra e
    exact ix_list value slice pins s σ H _ _ v u QV I rx ry ⟨a, vs, _, w, rfl, rfl, SqL.of ha, e2, post.val sF r h⟩ hs
  · obtain ⟨d, e, h⟩ := h
    obtain ⟨a, vs, rfl, ha, ra⟩ := r1.tup sF
    cases r2.int
    obtain ⟨w, e2, r⟩ := atI_all ra e
    exact ix_tup value slice pins s σ H _ _ v u QV I rx ry ⟨a, vs, _, w, rfl, rfl, ha, e2, post.val sF r h⟩ hs
  · obtain ⟨z, c, e, h⟩ := h
    cases r1.str; cases r2.int
    exact ix_str value slice pins s σ H _ _ v u QV I rx ry ⟨_, _, c, rfl, rfl, z, e, post.val sF (.str _) h⟩ hs
  · exact h.elim
theorem o1_neg : Op1 X (unaryOp .USub) op1Neg := by
  intro pins s σ H x v QV I rx ⟨F, d1, Q, sF, r1, h, post⟩
  unfold op1Neg at h
  split at h
  · cases r1.int
    exact un_neg pins s σ H _ v QV I rx ⟨_, rfl, post.val sF (.int _) h⟩
  · exact h.elim
end
end VL
end
section
namespace VL
open PySem PySem.Spec L2

/-! ### calls of built-ins on data -/
def cdLen : List PyData → (O → Prop) → Prop
  | [.list ds], Q => Q (.fz (.int (ds.length : Nat)))
  | [.tuple ds], Q => Q (.fz (.int (ds.length : Nat)))
  | [.str x], Q => x.length ≤ sizeLine ∧ Q (.fz (.int (x.length : Nat)))
  | _, _ => False
def cdInt : List PyData → (O → Prop) → Prop
  | [.int i], Q => Q (.fz (.int i))
  | [.bool b], Q => Q (.fz (.int (if b then 1 else 0)))
  | _, _ => False
def cdAbs : List PyData → (O → Prop) → Prop
  | [.int i], Q => Q (.fz (.int (if i < 0 then -i else i)))
  | _, _ => False
def cdMin2 : List PyData → (O → Prop) → Prop
  | [.int i, .int j], Q => Q (.fz (.int (if j < i then j else i)))
  | _, _ => False
def cdMax2 : List PyData → (O → Prop) → Prop
  | [.int i, .int j], Q => Q (.fz (.int (if j > i then j else i)))
  | _, _ => False
def cdTuple : List PyData → (O → Prop) → Prop
  | [.list ds], Q => Q (.fz (.tuple ds))
  | [.tuple ds], Q => Q (.fz (.tuple ds))
  | _, _ => False
def cdList : List PyData → (O → Prop) → Prop
  | [.list ds], Q => Q (.ls ds)
  | [.tuple ds], Q => Q (.ls ds)
  | _, _ => False
def cdStr : List PyData → (O → Prop) → Prop
  | [.int i], Q => i.natAbs.log2 < 1920 ∧ Q (.fz (.str (toString i)))
  | _, _ => False
section
variable {K : PySem.W.Frag} {F H : Hp} {vs : List V}
theorem RepL.one' {d : PyData} (h : RepL K F H [d] vs) : ∃ v, vs = [v] ∧ RepS K F H d v := by
  cases h with
  | cons r t => cases t; exact ⟨_, rfl, r⟩
theorem RepL.two' {d e : PyData} (h : RepL K F H [d, e] vs) : ∃ v u, vs = [v, u] ∧ RepS K F H d v ∧ RepS K F H e u := by
  cases h with
  | cons r t =>
    obtain ⟨u, rfl, r2⟩ := t.one'
    exact ⟨_, u, rfl, r, r2⟩
end
section
variable {X : Cx}
theorem cd_len : CallD X (.builtin "len") cdLen := by
  intro pins s σ H xs us QV I rx ⟨F, ds, Q, sF, rl, h, post⟩
  unfold cdLen at h
  split at h
  · obtain ⟨v, rfl, r⟩ := rl.one'
    obtain ⟨a, vs, rfl, ha, ra⟩ := r.list sF
    exact call_len_seq pins s σ H _ us QV I rx ⟨a, vs, rfl, .inl (SqL.of ha), by rw [ra.length]; exact post.val sF (.int _) h⟩
  · obtain ⟨v, rfl, r⟩ := rl.one'
    obtain ⟨a, vs, rfl, ha, ra⟩ := r.tup sF
    exact call_len_seq pins s σ H _ us QV I rx ⟨a, vs, rfl, .inr ha, by rw [ra.length]; exact post.val sF (.int _) h⟩
  · obtain ⟨v, rfl, r⟩ := rl.one'
    cases r.str
    exact call_len_str pins s σ H _ us QV I rx ⟨_, rfl, h.1, post.val sF (.int _) h.2⟩
  · exact h.elim
theorem cd_int : CallD X (.type "int") cdInt := by
  intro pins s σ H xs us QV I rx ⟨F, ds, Q, sF, rl, h, post⟩
  unfold cdInt at h
  split at h
  · obtain ⟨v, rfl, r⟩ := rl.one'
    cases r.int
    exact call_int1 pins s σ H _ us QV I rx (.inl ⟨_, rfl, post.val sF (.int _) h⟩)
  · obtain ⟨v, rfl, r⟩ := rl.one'
    cases r.bl
    exact call_int1 pins s σ H _ us QV I rx (.inr ⟨_, rfl, post.val sF (.int _) h⟩)
  · exact h.elim
theorem cd_abs : CallD X (.builtin "abs") cdAbs := by
  intro pins s σ H xs us QV I rx ⟨F, ds, Q, sF, rl, h, post⟩
  unfold cdAbs at h
  split at h
  · obtain ⟨v, rfl, r⟩ := rl.one'
    cases r.int
    exact call_abs pins s σ H _ us QV I rx ⟨_, rfl, post.val sF (.int _) h⟩
  · exact h.elim
theorem cd_min2 (hc : X.calm = true) : CallD X (.builtin "min") cdMin2 := by
  intro pins s σ H xs us QV I rx ⟨F, ds, Q, sF, rl, h, post⟩
  unfold cdMin2 at h
  split at h
  · obtain ⟨v, u, rfl, r, r2⟩ := rl.two'
    cases r.int; cases r2.int
    exact call_min2 hc pins s σ H _ us QV I rx ⟨_, _, rfl, post.val sF (.int _) h⟩
  · exact h.elim
theorem cd_max2 (hc : X.calm = true) : CallD X (.builtin "max") cdMax2 := by
  intro pins s σ H xs us QV I rx ⟨F, ds, Q, sF, rl, h, post⟩
  unfold cdMax2 at h
  split at h
  · obtain ⟨v, u, rfl, r, r2⟩ := rl.two'
    cases r.int; cases r2.int
    exact call_max2 hc pins s σ H _ us QV I rx ⟨_, _, rfl, post.val sF (.int _) h⟩
  · exact h.elim
theorem cd_tuple : CallD X (.type "tuple") cdTuple := by
  intro pins s σ H xs us QV I rx ⟨F, ds, Q, sF, rl, h, post⟩
  unfold cdTuple at h
  split at h
  · obtain ⟨v, rfl, r⟩ := rl.one'
    obtain ⟨a, vs, rfl, ha, ra⟩ := r.list sF
    exact call_tupN pins s σ H _ us QV I rx ⟨a, vs, rfl, .inl ⟨SqL.of ha, fun l o n hd => post.newT sF n hd ra h⟩⟩
  · obtain ⟨v, rfl, r⟩ := rl.one'
    have q := r.tupR
    obtain ⟨a, vs, rfl, ha, ra⟩ := r.tup sF
    exact call_tupN pins s σ H _ us QV I rx ⟨a, vs, rfl, .inr ⟨ha, post.val sF q h⟩⟩
  · exact h.elim
theorem cd_list : CallD X (.type "list") cdList := by
  intro pins s σ H xs us QV I rx ⟨F, ds, Q, sF, rl, h, post⟩
  unfold cdList at h
  split at h
  · obtain ⟨v, rfl, r⟩ := rl.one'
    obtain ⟨a, vs, rfl, ha, ra⟩ := r.list sF
    exact call_list_of pins s σ H _ us QV I rx ⟨a, vs, rfl, .inl (SqL.of ha), fun l n => post.newL sF n ra h⟩
  · obtain ⟨v, rfl, r⟩ := rl.one'
    obtain ⟨a, vs, rfl, ha, ra⟩ := r.tup sF
    exact call_list_of pins s σ H _ us QV I rx ⟨a, vs, rfl, .inr ha, fun l n => post.newL sF n ra h⟩
  · exact h.elim
theorem cd_str : CallD X (.type "str") cdStr := by
  intro pins s σ H xs us QV I rx ⟨F, ds, Q, sF, rl, h, post⟩
  unfold cdStr at h
  split at h
  · obtain ⟨v, rfl, r⟩ := rl.one'
    cases r.int
    exact call_str_int pins s σ H _ us QV I rx ⟨_, rfl, h.1, post.val sF (.str _) h.2⟩
  · exact h.elim
end
section
variable {X : Cx} {x : Str} {id T : String} {p pos : Pos} {e : Expr} {es : List Expr} {τ : EX} {τs : EA} {cd : List PyData → (O → Prop) → Prop}
theorem cb_read {σ : St} {H : Hp} {QV : VK} (h : lO X.K (eCB cd τs) σ H QV) : tCB (fun vs H QV => ∃ F ds Q, Same F H ∧ RepL X.K F H ds vs ∧ cd ds Q ∧ OpPost X.K F H Q QV) (lA X.K τs) σ H QV := by
  obtain ⟨pn, Z, F, Γ, hh, Q, A, q, k⟩ := h
  exact ⟨pn, Z, F, Γ, hh, _, A, q, fun F1 Γ1 h1 H1 as vs s1 A1 r1 ⟨ds, e1, q1⟩ => ⟨F1, ds, _, A1.FH, reps_of A1 r1 e1, q1, A1.post s1 k⟩⟩
theorem vo_cb (hc : CallD X (.builtin id) cd) (hg : Gl X x) (hm : X.mg x = none) (hv : bootBuiltins x = some (.builtin id)) (ha : PA X (e :: es) (lA X.K τs)) (hn : x ≠ "__name__" := by decide) (hdb : (x == ("__debug__" : Str)) = false := by decide)
    (he : starEach (e :: es) X.env = (false, eval e X.env) :: starEach es X.env := by rfl) (hpl : (backTo pos (starEach es X.env)).any (·.1) = false := by rfl) : PE X (.Call (.Name x p) (e :: es) [] pos) (lO X.K (eCB cd τs)) :=
  pe_imp (pe_callB hc hg hm hv ha hn hdb he hpl) fun σ H QV h => cb_read h
theorem vo_cty (hc : CallD X (.type T) cd) (hg : Gl X x) (hm : X.mg x = none) (hv : bootBuiltins x = some (.type T)) (ha : PA X (e :: es) (lA X.K τs)) (hn : x ≠ "__name__" := by decide) (hdb : (x == ("__debug__" : Str)) = false := by decide)
    (he : starEach (e :: es) X.env = (false, eval e X.env) :: starEach es X.env := by rfl) (hpl : (backTo pos (starEach es X.env)).any (·.1) = false := by rfl) : PE X (.Call (.Name x p) (e :: es) [] pos) (lO X.K (eCB cd τs)) :=
  pe_imp (pe_callTy hc hg hm hv ha hn hdb he hpl) fun σ H QV h => cb_read h
/-! list(range(..)), tuple(range(..)) -/
def eLRg1 (τ : EX) : EO := fun Γ Q => τ Γ fun a Γ1 => ∃ n : Int, rslv Γ1 a = some (.int n) ∧ RgOk 0 n ∧ Q (.ls (rangeN n.toNat)) Γ1
def eLRg2 (τ τ' : EX) : EO := fun Γ Q => τ Γ fun a Γ1 => τ' Γ1 fun b Γ2 => ∃ n m : Int, rslv Γ2 a = some (.int n) ∧ rslv Γ2 b = some (.int m) ∧ RgOk n m ∧ Q (.ls (rangeD n (m - n).toNat)) Γ2
def eTRg1 (τ : EX) : EO := fun Γ Q => τ Γ fun a Γ1 => ∃ n : Int, rslv Γ1 a = some (.int n) ∧ RgOk 0 n ∧ Q (.fz (.tuple (rangeN n.toNat))) Γ1
theorem rgV_all {K : PySem.W.Frag} {F : Hp} (a b : Int) : RpAll K F (rgV a b) (rangeD a (b - a).toNat) := by
  unfold rgV rangeD
  generalize (b - a).toNat = n
  induction List.range n with
  | nil => exact .nil
  | cons x xs ih => exact .cons (.int _) ih
theorem vo_listRg1 {a : Expr} {p2 pos2 : Pos} (hc : X.calm = true) (hg : Gl X "list") (hm : X.mg "list" = none) (hg2 : Gl X "range") (hm2 : X.mg "range" = none) (ha : PE X a (lX X.K τ)) (na : starEach [a] X.env = (false, eval a X.env) :: starEach [] X.env := by rfl)
    (nb : starEach [Expr.Call (.Name "range" p2) [a] [] pos2] X.env = (false, eval (.Call (.Name "range" p2) [a] [] pos2) X.env) :: starEach [] X.env := by rfl) : PE X (.Call (.Name "list" p) [.Call (.Name "range" p2) [a] [] pos2] [] pos) (lO X.K (eLRg1 τ)) :=
  pe_imp (pe_listRg hc hg hm (prg_1 hg2 hm2 ha na) nb) fun σ H QV ⟨pn, Z, F, Γ, hh, Q, A, q, k⟩ => ⟨pn, Z, F, Γ, hh, _, A, q, fun F1 Γ1 h1 H1 a v s1 A1 r1 ⟨n, e1, ok, q1⟩ =>
    ⟨n, (rep_of A1 r1 e1).int, ok, fun l nl => (A1.post s1 k).newL A1.FH nl (rgV_all 0 n) (by rw [Int.sub_zero, rangeD0]; exact q1)⟩⟩
theorem vo_tupRg1 {a : Expr} {p2 pos2 : Pos} (hc : X.calm = true) (hg : Gl X "tuple") (hm : X.mg "tuple" = none) (hg2 : Gl X "range") (hm2 : X.mg "range" = none) (ha : PE X a (lX X.K τ)) (na : starEach [a] X.env = (false, eval a X.env) :: starEach [] X.env := by rfl)
    (nb : starEach [Expr.Call (.Name "range" p2) [a] [] pos2] X.env = (false, eval (.Call (.Name "range" p2) [a] [] pos2) X.env) :: starEach [] X.env := by rfl) : PE X (.Call (.Name "tuple" p) [.Call (.Name "range" p2) [a] [] pos2] [] pos) (lO X.K (eTRg1 τ)) :=
  pe_imp (pe_tupRgN hc hg hm (prg_1 hg2 hm2 ha na) nb) fun σ H QV ⟨pn, Z, F, Γ, hh, Q, A, q, k⟩ => ⟨pn, Z, F, Γ, hh, _, A, q, fun F1 Γ1 h1 H1 a v s1 A1 r1 ⟨n, e1, ok, q1⟩ =>
    ⟨n, (rep_of A1 r1 e1).int, ok, fun l o nl hd => (A1.post s1 k).newT A1.FH nl hd (rgV_all 0 n) (by rw [Int.sub_zero, rangeD0]; exact q1)⟩⟩
end

/-! ### slices -/
def cutL {α : Type} (xs : List α) (lo hi : Option Int) : List α := (xs.drop (HT.sIx xs.length 0 lo)).take (HT.sIx xs.length xs.length hi - HT.sIx xs.length 0 lo)
theorem cut_all {K : PySem.W.Frag} {F : Hp} {ds : List PyData} {vs : List V} (h : RpAll K F vs ds) (lo hi : Option Int) : RpAll K F (cutV vs lo hi) (cutL ds lo hi) := by
  unfold cutV cutL
  rw [h.length]
  exact (h.drop _).take _
def sdAll : PyData → Option Int → Option Int → (O → Prop) → Prop
  | .list ds, lo, hi, Q => Q (.ls (cutL ds lo hi))
  | .tuple ds, lo, hi, Q => Q (.fz (.tuple (cutL ds lo hi)))
  | .str z, lo, hi, Q => z.length ≤ sizeLine ∧ Q (.fz (.str (cutS z lo hi)))
  | .dict ((.none, .none) :: l), lo, hi, Q => ∃ ns : List Int, l = ns.map (fun n => (.int n, .none)) ∧ Q (.ls (cutL (ns.map .int) lo hi))
  | _, _, _, _ => False
theorem rp_scr {K : PySem.W.Frag} {F : Hp} {v : V} {ns : List Int} (h : Rp K F v (scD ns)) : ∃ a, v = .ref a ∧ SqL K F a (ns.map V.int) := by
  generalize ed : scD ns = d at h
  cases h with
  | scr h =>
    rename_i a ms
    refine ⟨a, rfl, ?_⟩
    have inj : ∀ {xs ys : List Int}, xs.map (fun n => (PyData.int n, PyData.none)) = ys.map (fun n => (PyData.int n, PyData.none)) → xs = ys := fun {xs ys} e => by
      induction xs generalizing ys with
      | nil => cases ys with
        | nil => rfl
        | cons _ _ => cases e
      | cons x xs ih => cases ys with
        | nil => cases e
        | cons y ys =>
          simp only [List.map_cons, List.cons.injEq, Prod.mk.injEq, PyData.int.injEq, and_true] at e
          rw [e.1, ih e.2]
    have e : ns = ms := inj (by unfold scD at ed; simpa using ed)
    rw [e]; exact h
  | dct h hl t e =>
    rename_i a ks xs ds kvs
    cases ks with
    | nil => unfold scD at ed; cases ed; cases e
    | cons k ks =>
      cases ds with
      | nil => simp at hl
      | cons d ds =>
        unfold scD at ed
        cases ed
        simp only [List.map_cons, List.zip_cons_cons, List.cons.injEq, Prod.mk.injEq] at e
        cases k <;> simp [kD] at e
  | _ => unfold scD at ed; cases ed
theorem sd_all {X : Cx} : SlD X sdAll := by
  intro pins s σ H x v vl vu lo hi sl QV I rx hs pl pu ⟨F, d, Q, sF, r, h, post⟩
  unfold sdAll at h
  split at h
  · obtain ⟨a, vs, rfl, ha, ra⟩ := r.list sF
    exact sl_list pins s σ H _ v vl vu _ _ sl QV I rx hs pl pu ⟨a, vs, rfl, SqL.of ha, fun p n => post.newL sF n (cut_all ra _ _) h⟩
  · have q := r.tupR
    obtain ⟨a, vs, rfl, ha, ra⟩ := r.tup sF
    refine sl_tupN pins s σ H _ v vl vu _ _ sl QV I rx hs pl pu ⟨a, vs, rfl, ha, fun e => post.val sF q ?_, fun _ p o n hd => post.newT sF n hd (cut_all ra _ _) h⟩
    rw [ra.length] at e
    unfold cutL at h
    rw [e.1, e.2, List.drop_zero, Nat.sub_zero, List.take_length] at h
    exact h
  · cases r.str
    exact sl_str pins s σ H _ v vl vu _ _ sl QV I rx hs pl pu ⟨_, rfl, h.1, post.val sF (.str _) h.2⟩
  · obtain ⟨ns, rfl, q⟩ := h
    have rr : Rp X.K F x (scD ns) := by
      rcases r with r | ⟨_, _, _, _, e, _⟩
      · exact r
      · cases e
    obtain ⟨a, rfl, ha⟩ := rp_scr rr
    have ri : ∀ l : List Int, RpAll X.K F (l.map V.int) (l.map PyData.int) := fun l => by
      induction l with
      | nil => exact .nil
      | cons n l ih => exact .cons (.int n) ih
    exact sl_list pins s σ H _ v vl vu _ _ sl QV I rx hs pl pu ⟨a, _, rfl, Same.seq sF ha, fun p n => post.newL sF n (cut_all (ri ns) _ _) q⟩
  · exact h.elim
abbrev EP' := Ga → (Option Int → Ga → Prop) → Prop
def lP (K : PySem.W.Frag) (τ : EP') : TO := fun σ H QV => ∃ pn Z F Γ h Q, At K pn Z F Γ σ h H ∧ τ Γ Q ∧ ∀ F' Γ' h' H' i, Same F F' → At K pn Z F' Γ' σ h' H' → Q i Γ' → QV i H'
def pNone : EP' := fun Γ Q => Q none Γ
def pSome (τ : EX) : EP' := fun Γ Q => τ Γ fun a Γ1 => ∃ i, rslv Γ1 a = some (.int i) ∧ Q (some i) Γ1
def eSl (τ : EX) (pl ph : EP') : EO := fun Γ Q => τ Γ fun a Γ1 => pl Γ1 fun lo Γ2 => ph Γ2 fun hi Γ3 => ∃ d, rslv Γ3 a = some d ∧ sdAll d lo hi fun o => Q o Γ3
theorem po_imp {X : Cx} {e : Option Expr} {t t' : TO} (h : PO X e t) (i : ∀ σ H Q, t' σ H Q → t σ H Q) : PO X e t' := ⟨fun pins s σ H Q I q => h.run pins s σ H Q I (i σ H Q q)⟩
section
variable {X : Cx} {e : Expr} {lo hi : Option Expr} {τ : EX} {pl ph : EP'} {p2 pos : Pos}
theorem vp_none : PO X none (lP X.K pNone) := po_imp po_none fun σ H QV ⟨pn, Z, F, Γ, hh, Q, A, q, k⟩ => k F Γ hh H none (Same.refl _) A q
theorem vp_some (h : PE X e (lX X.K τ)) : PO X (some e) (lP X.K (pSome τ)) := po_imp (po_some h) fun σ H QV ⟨pn, Z, F, Γ, hh, Q, A, q, k⟩ =>
  ⟨pn, Z, F, Γ, hh, _, A, q, fun F1 Γ1 h1 H1 a v s1 A1 r1 ⟨i, e1, q1⟩ => ⟨i, (rep_of A1 r1 e1).int, k F1 Γ1 h1 H1 _ s1 A1 q1⟩⟩
theorem vo_sl (he : PE X e (lX X.K τ)) (hl : PO X lo (lP X.K pl)) (hu : PO X hi (lP X.K ph)) : PE X (.Subscript e (.Slice lo hi none p2) pos) (lO X.K (eSl τ pl ph)) :=
  pe_imp (pe_slice sd_all he hl hu) fun σ H QV ⟨pn, Z, F, Γ, hh, Q, A, q, k⟩ => ⟨pn, Z, F, Γ, hh, _, A, q, fun F1 Γ1 h1 H1 a v s1 A1 r1 q1 => ⟨pn, Z, F1, Γ1, h1, _, A1, q1, fun F2 Γ2 h2 H2 i s2 A2 q2 =>
    ⟨pn, Z, F2, Γ2, h2, _, A2, q2, fun F3 Γ3 h3 H3 j s3 A3 ⟨d, e1, q3⟩ => ⟨F3, d, _, A3.FH, rep_of A3 (r1.mono (s2.trans s3)) e1, q3, A3.post ((s1.trans s2).trans s3) k⟩⟩⟩⟩
end

/-! ### methods that change a slot's own list -/
abbrev SM := List PyData → List PyData → (List PyData → PyData → Prop) → Prop
def SlotM (X : Cx) (id : String) (sm : SM) : Prop := MtR X id fun x xs H QV => ∃ F a vs ds ads Q, x = .ref a ∧ H a = some (.lst vs) ∧ Same F H ∧ RpAll X.K F vs ds ∧ RpAll X.K F xs ads ∧ sm ds ads Q ∧
  ∀ vs' ds' v d, RpAll X.K F vs' ds' → Rp X.K F v d → Q ds' d → QV v (upd H a (.lst vs'))
def smAppend : SM := fun ds as Q => ∃ x, as = [x] ∧ ds.length < sizeLine ∧ Q (ds ++ [x]) .none
def smPop : SM := fun ds as Q => as = [] ∧ ∃ x, ds[ds.length - 1]? = some x ∧ Q ds.dropLast x
def smPopAt : SM := fun ds as Q => ∃ (i : Int) (k : Nat) (x : PyData), as = [.int i] ∧ (-(2 ^ 63) ≤ i ∧ i < 2 ^ 63 ∧ seqIndex? i ds.length = some k) ∧ ds[k]? = some x ∧ Q (ds.eraseIdx k) x
def smInsert : SM := fun ds as Q => ∃ (i : Int) (x : PyData), as = [.int i, x] ∧ ds.length < sizeLine ∧ 0 ≤ i ∧ i < 2 ^ 63 ∧ Q (ds.take i.toNat ++ [x] ++ ds.drop i.toNat) .none
theorem RpAll.one' {K : PySem.W.Frag} {F : Hp} {d : PyData} {vs : List V} (h : RpAll K F vs [d]) : ∃ v, vs = [v] ∧ Rp K F v d := by
  cases h with
  | cons r t => cases t; exact ⟨_, rfl, r⟩
theorem RpAll.two' {K : PySem.W.Frag} {F : Hp} {d e : PyData} {vs : List V} (h : RpAll K F vs [d, e]) : ∃ v u, vs = [v, u] ∧ Rp K F v d ∧ Rp K F u e := by
  cases h with
  | cons r t =>
    obtain ⟨u, rfl, r2⟩ := t.one'
    exact ⟨_, u, rfl, r, r2⟩
section
variable {X : Cx}
theorem sm_append : SlotM X "list.append" smAppend := by
  intro pins s σ H x xs v us QV I rx rxs ⟨F, a, vs, ds, ads, Q, e, ha, sF, r, ra, ⟨y, e2, hl, q⟩, k⟩
  subst e; subst e2
  obtain ⟨w, rfl, rw'⟩ := ra.one'
  have rp := rw'
  exact mt_append pins s σ H _ _ v us QV I rx rxs ⟨a, vs, w, rfl, rfl, ha, by rw [r.length]; exact hl, k _ _ .non .none (r.append (.one rp)) .non q⟩
theorem sm_pop : SlotM X "list.pop" smPop := by
  intro pins s σ H x xs v us QV I rx rxs ⟨F, a, vs, ds, ads, Q, e, ha, sF, r, ra, ⟨e2, y, hy, q⟩, k⟩
  subst e; subst e2
  cases ra
  obtain ⟨w, hw, rw'⟩ := r.getd (i := ds.length - 1) hy
  exact mt_pop pins s σ H _ _ v us QV I rx rxs ⟨a, vs, w, rfl, rfl, ha, by rw [r.length]; exact hw, k _ _ w y r.dropLast rw' q⟩
theorem sm_popAt : SlotM X "list.pop" smPopAt := by
  intro pins s σ H x xs v us QV I rx rxs ⟨F, a, vs, ds, ads, Q, e, ha, sF, r, ra, ⟨i, kk, y, e2, ⟨b1, b2, b3⟩, hy, q⟩, k⟩
  subst e; subst e2
  obtain ⟨w, rfl, rw'⟩ := ra.one'
  cases rp_int rw'
  obtain ⟨u, hu, ru⟩ := r.getd hy
  exact mt_popAt pins s σ H _ _ v us QV I rx rxs ⟨a, vs, i, kk, u, rfl, rfl, ha, b1, b2, by rw [r.length]; exact b3, hu, k _ _ u y (r.eraseIdx kk) ru q⟩
theorem sm_insert : SlotM X "list.insert" smInsert := by
  intro pins s σ H x xs v us QV I rx rxs ⟨F, a, vs, ds, ads, Q, e, ha, sF, r, ra, ⟨i, y, e2, hl, h0, h1, q⟩, k⟩
  subst e; subst e2
  obtain ⟨w, u, rfl, rw', ru⟩ := ra.two'
  cases rp_int rw'
  have rp := ru
  exact mt_insert pins s σ H _ _ v us QV I rx rxs ⟨a, vs, i, u, rfl, rfl, ha, by rw [r.length]; exact hl, h0, h1, k _ _ .non .none (((r.take _).append (.one rp)).append (r.drop _)) .non q⟩
end
def eSM (i : Nat) (sm : SM) (τs : EA) : EO := fun Γ Q => (∃ ds, Γ[i]? = some (some (.ls ds))) ∧ τs Γ fun as Γ1 => ∃ ds ads, Γ1[i]? = some (some (.ls ds)) ∧ unD as = some ads ∧ sm ds ads fun ds' d => ∃ Γ2, setG Γ1 i (some (.ls ds')) = some Γ2 ∧ Q (.fz d) Γ2
/-- the end of a change in place -/
theorem At.changeL {K : PySem.W.Frag} {pn : List (Nat × V)} {Z F : Hp} {Γ : Ga} {σ : St} {h H : Hp} {i : Nat} {ds : List PyData} (A : At K pn Z F Γ σ h H) (e : Γ[i]? = some (some (.ls ds))) : ∃ a vs, σ[i]? = some (some (.ref a)) ∧ H a = some (.lst vs) ∧ RpAll K F vs ds ∧
    ∀ vs' ds', RpAll K F vs' ds' → ∃ h', At K pn Z F (Γ.set i (some (.ls ds'))) σ h' (upd H a (.lst vs')) := by
  obtain ⟨v, g1, g2, a1, w, sg1, dg1, zg1, sg2, d12, dg2, zg2, put⟩ := A.change e
  obtain ⟨a, vs, rfl, rfl, r⟩ := w
  refine ⟨a, vs, a1, sg1 _ _ one_at, r, fun vs' ds' r' => ?_⟩
  have keep : ∀ (G : Hp), Dis (VL.one a (.lst vs)) G → Same G H → Same G (upd H a (.lst vs')) := fun G dG sG b o e => by
    by_cases z : b = a
    · subst z; rw [of_dis_one dG] at e; cases e
    · rw [upd_ne z]; exact sG _ _ e
  exact ⟨_, put F (.ls ds') (VL.one a (.lst vs')) _ (Same.refl _) ⟨a, vs', rfl, rfl, r'⟩ (same_one upd_same) (keep _ dg1 A.FH) (keep _ d12 sg2) (keep _ zg1 A.ZH) A.FZ (dis_one (of_dis_one d12)) (dis_one (of_dis_one dg1)) (dis_one (of_dis_one zg1)) dg2⟩
section
variable {X : Cx} {o e : Expr} {es : List Expr} {τs : EA} {name : Str} {apos cpos : Pos} {id : String} {sm : SM} {τo : EO}
theorem ty_list {K : PySem.W.Frag} {pn : List (Nat × V)} {Z F : Hp} {Γ : Ga} {σ : St} {h H : Hp} {i : Nat} {ds : List PyData} (A : At K pn Z F Γ σ h H) (e : Γ[i]? = some (some (.ls ds))) : ∃ a, σ[i]? = some (some (.ref a)) ∧ tyV K "list" (.ref a) H := by
  obtain ⟨a, vs, e1, e2, _, _⟩ := A.changeL e
  exact ⟨a, e1, .inl ⟨rfl, vs, SqL.of e2⟩⟩
theorem vo_sm (i : Nat) (slot : Slot "list" name id) (hty : typeOf (.builtin id) = pure (.type "method_descriptor")) (hm : SlotM X id sm) (ho : PE X o (tVar i)) (ha : PA X (e :: es) (lA X.K τs))
    (hbase : attributeBase o name X.env (eval o X.env) = eval o X.env := by rfl)
    (hfew : ((backTo cpos (starEach (e :: es) X.env)).all (fun x => !x.1) && (backToKw cpos (keywordEach [] X.env)).all (fun x => x.1.isSome)
      && decide ((e :: es).length + ([] : List Keyword).length + (if ([] : List Keyword).isEmpty then 0 else 1) < 30)) = true := by rfl)
    (hline : (apos.endLine == cpos.line) = true := by rfl) (hs : starEach (e :: es) X.env = (false, eval e X.env) :: starEach es X.env := by rfl) (hplain : (backTo cpos (starEach es X.env)).any (·.1) = false := by rfl) :
    PE X (.Call (.Attribute o name apos) (e :: es) [] cpos) (lO X.K (eSM i sm τs)) :=
  pe_imp (pe_bm PySem.F.plainAttrs_list slot hty hm ho ha hbase hfew hline hs hplain) fun σ H QV ⟨pn, Z, F, Γ, hh, Q, A, ⟨⟨ds0, e0⟩, q⟩, k⟩ => by
    obtain ⟨a, e1, ty⟩ := ty_list A e0
    refine ⟨.ref a, e1, ty, pn, Z, F, Γ, hh, _, A, q, fun F1 Γ1 h1 H1 as vs s1 A1 r1 ⟨ds, ads, e2, e3, q1⟩ => ?_⟩
    obtain ⟨b, ws, e4, e5, r5, put⟩ := A1.changeL e2
    rw [e1] at e4; cases e4
    rw [unD_eq e3] at r1
    refine ⟨F1, a, ws, ds, ads, _, rfl, e5, A1.FH, r5, args_d r1, q1, fun vs' ds' v d r' rd ⟨Γ2, eΓ, q'⟩ => ?_⟩
    obtain ⟨h', A'⟩ := put vs' ds' r'
    rw [(setG_eq eΓ).1] at A'
    exact k F1 _ h' emp _ (.fz d) v s1 A'.alone ⟨rfl, rd⟩ q'
theorem vo_sm0 (i : Nat) (slot : Slot "list" name id) (hty : typeOf (.builtin id) = pure (.type "method_descriptor")) (hm : SlotM X id sm) (ho : PE X o (tVar i))
    (hbase : attributeBase o name X.env (eval o X.env) = eval o X.env := by rfl) (hline : (apos.endLine == cpos.line) = true := by rfl) : PE X (.Call (.Attribute o name apos) [] [] cpos) (lO X.K (eSM i sm aNil)) :=
  pe_imp (pe_bm0 PySem.F.plainAttrs_list slot hty hm ho hbase hline) fun σ H QV ⟨pn, Z, F, Γ, hh, Q, A, ⟨⟨ds0, e0⟩, ⟨ds, ads, e2, e3, q1⟩⟩, k⟩ => by
    obtain ⟨a, e1, ty⟩ := ty_list A e0
    refine ⟨.ref a, e1, ty, ?_⟩
    obtain ⟨b, ws, e4, e5, r5, put⟩ := A.changeL e2
    rw [e1] at e4; cases e4
    have : ads = [] := by cases e3; rfl
    subst this
    refine ⟨F, a, ws, ds, [], _, rfl, e5, A.FH, r5, .nil, q1, fun vs' ds' v d r' rd ⟨Γ2, eΓ, q'⟩ => ?_⟩
    obtain ⟨h', A'⟩ := put vs' ds' r'
    rw [(setG_eq eΓ).1] at A'
    exact k F _ h' emp _ (.fz d) v (Same.refl _) A'.alone ⟨rfl, rd⟩ q'
/-! xs.extend(a new list) -/
def eExt (i : Nat) (τo : EO) : EO := fun Γ Q => (∃ ds, Γ[i]? = some (some (.ls ds))) ∧ τo Γ fun o Γ1 => ∃ ds zs, Γ1[i]? = some (some (.ls ds)) ∧ (o = .ls zs ∨ o = .fz (.list zs)) ∧ ds.length + zs.length ≤ sizeLine ∧ ∃ Γ2, setG Γ1 i (some (.ls (ds ++ zs))) = some Γ2 ∧ Q (.fz .none) Γ2
theorem vo_ext (i : Nat) (ho : PE X o (tVar i)) (ha : PE X e (lO X.K τo))
    (hbase : attributeBase o "extend" X.env (eval o X.env) = eval o X.env := by rfl)
    (hfew : ((backTo cpos (starEach [e] X.env)).all (fun x => !x.1) && (backToKw cpos (keywordEach [] X.env)).all (fun x => x.1.isSome)
      && decide ([e].length + ([] : List Keyword).length + (if ([] : List Keyword).isEmpty then 0 else 1) < 30)) = true := by rfl)
    (hline : (apos.endLine == cpos.line) = true := by rfl) (hs : starEach [e] X.env = (false, eval e X.env) :: starEach [] X.env := by rfl) :
    PE X (.Call (.Attribute o "extend" apos) [e] [] cpos) (lO X.K (eExt i τo)) :=
  pe_imp (pe_bm PySem.F.plainAttrs_list PySem.F.slot_list_extend PySem.F.type_list_extend mt_extend ho (pa_cons ha pa_nil hs) hbase hfew hline hs) fun σ H QV ⟨pn, Z, F, Γ, hh, Q, A, ⟨⟨ds0, e0⟩, q⟩, k⟩ => by
    obtain ⟨a, e1, ty⟩ := ty_list A e0
    refine ⟨.ref a, e1, ty, pn, Z, F, Γ, hh, _, A, q, fun F1 Γ1 h1 hr H1 o v s1 A1 w ⟨ds, zs, e2, e3, hl, Γ2, eΓ, q1⟩ => ?_⟩
    obtain ⟨b, ws, e4, e5, r5, put⟩ := A1.at_.changeL e2
    rw [e1] at e4; cases e4
    obtain ⟨c, us, rfl, e6, r6⟩ : ∃ c us, v = .ref c ∧ H1 c = some (.lst us) ∧ RpAll X.K F1 us zs := by
      rcases e3 with rfl | rfl
      · obtain ⟨c, us, rfl, rfl, r⟩ := w
        exact ⟨c, us, rfl, A1.rH _ _ one_at, r⟩
      · obtain ⟨c, us, rfl, h, r⟩ := rp_ref w.2
        exact ⟨c, us, rfl, A1.at_.FH _ _ h, r⟩
    refine ⟨a, c, ws, us, rfl, rfl, e5, e6, by rw [r5.length, r6.length]; exact hl, ?_⟩
    obtain ⟨h', A'⟩ := put _ _ (r5.append r6)
    rw [(setG_eq eΓ).1] at A'
    exact k F1 _ h' emp _ (.fz .none) .non s1 A'.alone ⟨rfl, .non⟩ q1
end

/-! ### isinstance -/
def tyN : PyData → String
  | .none => "NoneType"
  | .bool _ => "bool"
  | .int _ => "int"
  | .str _ => "str"
  | .list _ => "list"
  | .tuple _ => "tuple"
  | .dict _ => "dict"
def kitD (d : PyData) (n : String) : Option Bool := match d with
  | .dict _ => none
  | d => kitB (tyN d) n
theorem tyx_of {K : PySem.W.Frag} {F H : Hp} {d : PyData} {v : V} {n : String} {b : Bool} (s : Same F H) (r : RepS K F H d v) (e : kitD d n = some b) : TyX K H v (.type (tyN d)) ∧ kitB (tyN d) n = some b := by
  have r := r.rpH s
  refine ⟨?_, by unfold kitD at e; split at e; cases e; exact e⟩
  cases r with
  | non => exact .base .non
  | bl b => exact .base (.bl b)
  | int i => exact .base (.int i)
  | str x => exact .base (.str x)
  | lst h _ => exact .base (.lst h)
  | tup h _ =>
    rcases h with ⟨o, h, _⟩ | ⟨o, its, n, h, c, _⟩
    · exact .fTuple h
    · exact .kTuple h c
  | dct h _ _ _ => cases e
  | scr h => cases e
def eIsi (n : String) (τ : EX) : EO := fun Γ Q => τ Γ fun a Γ1 => ∃ d b, rslv Γ1 a = some d ∧ kitD d n = some b ∧ Q (.fz (.bool b)) Γ1
theorem vo_isi {X : Cx} {n : String} {e : Expr} {τ : EX} {p p2 pos : Pos} {nm : Str} (hg : Gl X "isinstance") (hm : X.mg "isinstance" = none) (hg2 : Gl X nm) (hm2 : X.mg nm = none) (hv : bootBuiltins nm = some (.type n)) (he : PE X e (lX X.K τ))
    (hn : nm ≠ "__name__" := by decide) (hd : (nm == ("__debug__" : Str)) = false := by decide)
    (h1 : starEach [e, .Name nm p2] X.env = (false, eval e X.env) :: starEach [.Name nm p2] X.env := by rfl) (h2 : starEach [.Name nm p2] X.env = (false, eval (.Name nm p2) X.env) :: starEach [] X.env := by rfl) (hpl : (backTo pos (starEach [.Name nm p2] X.env)).any (·.1) = false := by rfl) :
    PE X (.Call (.Name "isinstance" p) [e, .Name nm p2] [] pos) (lO X.K (eIsi n τ)) :=
  pe_imp (pe_callB call_isi hg hm (by decide +kernel) (pa_cons he (pa_cons (pe_bltn (v := .ty n) hg2 hm2 hv rfl hn hd) pa_nil h2) h1) (by decide) (by decide) h1 hpl) fun σ H QV ⟨pn, Z, F, Γ, hh, Q, A, q, k⟩ =>
    ⟨pn, Z, F, Γ, hh, _, A, q, fun F1 Γ1 h1 H1 a v s1 A1 r1 ⟨d, b, e1, e2, q1⟩ => ⟨v, .ty n, .type (tyN d), .type n, b, rfl, .ty n, (tyx_of A1.FH (rep_of A1 r1 e1) e2).1, kit_ty (tyx_of A1.FH (rep_of A1 r1 e1) e2).2, k F1 Γ1 h1 emp H1 (.fz (.bool b)) (.bl b) s1 A1.alone ⟨rfl, .bl b⟩ q1⟩⟩
end VL
end
section
namespace VL
open PySem PySem.Spec L2

/-! ### steps through a reading -/
section
variable {Γ Γ' : Ga} {Q : O → Ga → Prop} {QX : Av → Ga → Prop} {QA : List Av → Ga → Prop} {QT : Bool → Ga → Prop} {QI : List PyData → Ga → Prop} {QG : Ga → Prop} {QP : Option Int → Ga → Prop} {QO : O → Prop} {D : En} {τ τ' τa τb τc : EX} {to to' : EO} {τs : EA} {t u : ES} {tt tu : ET} {d e : PyData} {o : O} {i j : Nat} {b c : Bool} {ds es as : List PyData} {x y : Int} {ti : EI} {g : EG} {gs : EGs} {pl ph : EP'}
theorem st_nrm {t : ES} (e : nrm Γ = some Γ') (h : t D Γ') : t D Γ := by rw [nrm_eq e]; exact h
theorem st_ret (h : to Γ D.rt) : sRet to D Γ := h
theorem st_retN (h : D.rt (.fz .none) Γ) : sRetN D Γ := h
theorem st_rt0 {Q : O → Prop} (h : Q o) : (ends0 Q).rt o Γ := h
theorem st_nx0 {Q : O → Prop} (h : Q (.fz .none)) : (ends0 Q).nx Γ := h
theorem st_rt1 {Q : O → O → Prop} {o0 : O} (e : Γ[0]? = some (some o0)) (h : Q o o0) : (ends1 Q).rt o Γ := ⟨o0, e, h⟩
theorem st_nx1 {Q : O → O → Prop} {o0 : O} (e : Γ[0]? = some (some o0)) (h : Q (.fz .none) o0) : (ends1 Q).nx Γ := ⟨o0, e, h⟩
theorem st_seq (h : t { D with nx := u D } Γ) : sSeq t u D Γ := h
theorem st_next (h : D.nx Γ) : sNext D Γ := h
theorem st_brk (h : D.bk Γ) : sBreak D Γ := h
theorem st_cnt (h : D.ct Γ) : sCont D Γ := h
theorem st_drop (h : to Γ fun _ Γ' => D.nx Γ') : sDrop to D Γ := h
theorem st_if (h : tt Γ fun b Γ1 => Br b (t D Γ1) (u D Γ1)) : sIf tt t u D Γ := h
theorem st_set (h : to Γ fun o Γ1 => ∃ Γ2, setG Γ1 i (some o) = some Γ2 ∧ D.nx Γ2) : sSet i to D Γ := h
theorem st_asg (h : τ Γ fun a Γ1 => ∃ d, a = .d d ∧ g d Γ1 D.nx) : sAsg τ g D Γ := h
theorem st_par (h : to Γ fun o1 Γ1 => to' Γ1 fun o2 Γ2 => ∃ Γ3 Γ4, setG Γ2 i (some o1) = some Γ3 ∧ setG Γ3 j (some o2) = some Γ4 ∧ D.nx Γ4) : sPar i j to to' D Γ := h
theorem st_var (e : Γ[i]? = some (some o)) (h : QX (.s i) Γ) : xVar i Γ QX := ⟨⟨o, e⟩, h⟩
theorem st_val (e : Γ[i]? = some (some (.fz d))) (h : QX (.d d) Γ) : xVal i Γ QX := by unfold xVal; rw [e]; exact h
theorem st_valL (e : Γ[i]? = some (some o)) (e1 : o.frz = some d) (e2 : setG Γ i (some (.fz d)) = some Γ') (h : QX (.d d) Γ') (hn : ∀ d, o ≠ .fz d := by intro _ z; cases z) : xVal i Γ QX := by
  unfold xVal; rw [e]
  cases o with
  | fz d => exact absurd rfl (hn d)
  | _ => exact ⟨d, Γ', e1, e2, h⟩
theorem st_mv (e : Γ[i]? = some (some (.fz d))) (h : Q (.fz d) Γ) : oMv i Γ Q := by unfold oMv; rw [e]; exact h
theorem st_mvL (e : Γ[i]? = some (some o)) (e2 : setG Γ i none = some Γ') (h : Q o Γ') (hn : ∀ d, o ≠ .fz d := by intro _ z; cases z) : oMv i Γ Q := by
  unfold oMv; rw [e]
  cases o with
  | fz d => exact absurd rfl (hn d)
  | _ => exact ⟨Γ', e2, h⟩
theorem st_c (h : QX (.d d) Γ) : xC d Γ QX := h
theorem st_xo (h : to Γ fun o Γ' => ∃ d, o.frz = some d ∧ QX (.d d) Γ') : xO to Γ QX := h
theorem st_ox (h : τ Γ fun a Γ' => ∃ d, a = .d d ∧ Q (.fz d) Γ') : oX τ Γ Q := h
theorem st_op {op : PyData → PyData → (O → Prop) → Prop} (h : τa Γ fun a1 Γ1 => τb Γ1 fun a2 Γ2 => ∃ d1 d2, rslv Γ2 a1 = some d1 ∧ rslv Γ2 a2 = some d2 ∧ op d1 d2 fun o => Q o Γ2) : eOp op τa τb Γ Q := h
theorem st_op1 {op : PyData → (O → Prop) → Prop} (h : τa Γ fun a1 Γ1 => ∃ d1, rslv Γ1 a1 = some d1 ∧ op d1 fun o => Q o Γ1) : eOp1 op τa Γ Q := h
theorem st_an (h : QA [] Γ) : aNil Γ QA := h
theorem st_ac (h : τ Γ fun a Γ1 => τs Γ1 fun as Γ2 => QA (a :: as) Γ2) : aCons τ τs Γ QA := h
theorem st_cb {cd : List PyData → (O → Prop) → Prop} (h : τs Γ fun as Γ1 => ∃ ds, rsAll Γ1 as = some ds ∧ cd ds fun o => Q o Γ1) : eCB cd τs Γ Q := h
theorem st_tup (h : τs Γ fun as Γ1 => ∃ ds, unD as = some ds ∧ ds.length ≤ sizeLine ∧ Q (.fz (.tuple ds)) Γ1) : eTup τs Γ Q := h
theorem st_lst (h : τs Γ fun as Γ1 => ∃ ds, unD as = some ds ∧ ds.length ≤ sizeLine ∧ Q (.ls ds) Γ1) : eLst τs Γ Q := h
theorem st_to (h : to Γ fun o Γ' => ∃ b, o = .fz (.bool b) ∧ QT b Γ') : tO to Γ QT := h
theorem st_tru (h : τ Γ fun a Γ1 => ∃ d k, rslv Γ1 a = some d ∧ truD d = some k ∧ QT k Γ1) : tTru τ Γ QT := h
theorem st_tnot (h : tt Γ fun b Γ' => QT (!b) Γ') : tNotD tt Γ QT := h
theorem st_tand (h : tt Γ fun c Γ1 => Br c (tu Γ1 QT) (QT false Γ1)) : tAndD tt tu Γ QT := h
theorem st_tor (h : tt Γ fun c Γ1 => Br c (QT true Γ1) (tu Γ1 QT)) : tOrD tt tu Γ QT := h
theorem st_and (h : to Γ fun o Γ1 => ∃ c, o = .fz (.bool c) ∧ Br c (to' Γ1 Q) (Q (.fz (.bool false)) Γ1)) : eAnd to to' Γ Q := h
theorem st_or (h : to Γ fun o Γ1 => ∃ c, o = .fz (.bool c) ∧ Br c (Q (.fz (.bool true)) Γ1) (to' Γ1 Q)) : eOr to to' Γ Q := h
theorem st_not (h : to Γ fun o Γ1 => ∃ c, o = .fz (.bool c) ∧ Q (.fz (.bool (!c))) Γ1) : eNot to Γ Q := h
theorem st_eif (h : tt Γ fun c Γ1 => Br c (to Γ1 Q) (to' Γ1 Q)) : eIf tt to to' Γ Q := h
theorem st_chain {op op' : PyData → PyData → (O → Prop) → Prop} (h : τa Γ fun a1 Γ1 => τb Γ1 fun a2 Γ2 => ∃ d1 d2, rslv Γ2 a1 = some d1 ∧ a2 = .d d2 ∧ op d1 d2 fun o => ∃ c, o = .fz (.bool c) ∧
  Br c (τc Γ2 fun a3 Γ3 => ∃ d3, rslv Γ3 a3 = some d3 ∧ op' d2 d3 fun o => Q o Γ3) (Q (.fz (.bool false)) Γ2)) : eChain op op' τa τb τc Γ Q := h
theorem st_call {wp : W0} {dds : List PyData} (h : τs Γ fun as Γ1 => ∃ ds, unD as = some ds ∧ wp (ds ++ dds) fun o => Q o Γ1) : eCall wp dds τs Γ Q := h
theorem st_calli {wp : W1} {dds : List PyData} (h : τs Γ fun as Γ1 => ∃ j o0 ar ds, as = .s j :: ar ∧ unD ar = some ds ∧ Γ1[j]? = some (some o0) ∧ wp o0 (ds ++ dds) fun o o0' => ∃ Γ2, setG Γ1 j (some o0') = some Γ2 ∧ Q o Γ2) : eCallI wp dds τs Γ Q := h
theorem st_isi {n : String} (h : τ Γ fun a Γ1 => ∃ d b, rslv Γ1 a = some d ∧ kitD d n = some b ∧ Q (.fz (.bool b)) Γ1) : eIsi n τ Γ Q := h
theorem st_lrg (h : τ Γ fun a Γ1 => ∃ n : Int, rslv Γ1 a = some (.int n) ∧ RgOk 0 n ∧ Q (.ls (rangeN n.toNat)) Γ1) : eLRg1 τ Γ Q := h
theorem st_trg (h : τ Γ fun a Γ1 => ∃ n : Int, rslv Γ1 a = some (.int n) ∧ RgOk 0 n ∧ Q (.fz (.tuple (rangeN n.toNat))) Γ1) : eTRg1 τ Γ Q := h
theorem st_sl (h : τ Γ fun a Γ1 => pl Γ1 fun lo Γ2 => ph Γ2 fun hi Γ3 => ∃ d, rslv Γ3 a = some d ∧ sdAll d lo hi fun o => Q o Γ3) : eSl τ pl ph Γ Q := h
theorem st_pn (h : QP none Γ) : pNone Γ QP := h
theorem st_ps (h : τ Γ fun a Γ1 => ∃ i, rslv Γ1 a = some (.int i) ∧ QP (some i) Γ1) : pSome τ Γ QP := h
theorem st_sm {sm : SM} (e : Γ[i]? = some (some (.ls ds))) (h : τs Γ fun as Γ1 => ∃ ds ads, Γ1[i]? = some (some (.ls ds)) ∧ unD as = some ads ∧ sm ds ads fun ds' d => ∃ Γ2, setG Γ1 i (some (.ls ds')) = some Γ2 ∧ Q (.fz d) Γ2) : eSM i sm τs Γ Q := ⟨⟨ds, e⟩, h⟩
theorem st_ext (e : Γ[i]? = some (some (.ls ds))) (h : to Γ fun o Γ1 => ∃ ds zs, Γ1[i]? = some (some (.ls ds)) ∧ (o = .ls zs ∨ o = .fz (.list zs)) ∧ ds.length + zs.length ≤ sizeLine ∧ ∃ Γ2, setG Γ1 i (some (.ls (ds ++ zs))) = some Γ2 ∧ Q (.fz .none) Γ2) : eExt i to Γ Q := ⟨⟨ds, e⟩, h⟩
theorem st_iseq (h : τ Γ fun a Γ1 => ∃ d ds, a = .d d ∧ seqD d = some ds ∧ QI ds Γ1) : iSeq τ Γ QI := h
theorem st_ir1 (h : τs Γ fun as Γ1 => ∃ n : Int, rsAll Γ1 as = some [.int n] ∧ (-(2 ^ 62) ≤ n ∧ n < 2 ^ 62) ∧ QI (rangeN n.toNat) Γ1) : iRange1 τs Γ QI := h
theorem st_ir2 (h : τs Γ fun as Γ1 => ∃ a b : Int, rsAll Γ1 as = some [.int a, .int b] ∧ (-(2 ^ 62) ≤ a ∧ a < 2 ^ 62 ∧ -(2 ^ 62) ≤ b ∧ b < 2 ^ 62) ∧ QI (rangeD a (b - a).toNat) Γ1) : iRange2 τs Γ QI := h
theorem st_gn (e : setG Γ i (some (.fz d)) = some Γ') (h : QG Γ') : gN i d Γ QG := ⟨Γ', e, h⟩
theorem st_gt {n : Nat} (e : ds.length = n) (h : gs ds Γ QG) : gTupD n gs (.tuple ds) Γ QG := ⟨ds, rfl, e, h⟩
theorem st_gc (h : g d Γ fun Γ1 => gs ds Γ1 QG) : gConss g gs (d :: ds) Γ QG := ⟨d, ds, rfl, h⟩
theorem st_g0 (h : QG Γ) : gNils [] Γ QG := ⟨rfl, h⟩
theorem st_yes (h : QT true Γ) : tYesD Γ QT := h
-- operations
theorem op_addI (h : QO (.fz (.int (x + y)))) : opAdd (.int x) (.int y) QO := h
theorem op_addT (hl : ds.length + es.length ≤ sizeLine) (h : QO (.fz (.tuple (ds ++ es)))) : opAdd (.tuple ds) (.tuple es) QO := ⟨hl, h⟩
theorem op_addL (hl : ds.length + es.length ≤ sizeLine) (h : QO (.ls (ds ++ es))) : opAdd (.list ds) (.list es) QO := ⟨hl, h⟩
theorem op_addS {z w : Str} (hl : z.length + w.length ≤ sizeLine) (h : QO (.fz (.str (z ++ w)))) : opAdd (.str z) (.str w) QO := ⟨hl, h⟩
theorem op_subI (h : QO (.fz (.int (x - y)))) : opSub (.int x) (.int y) QO := h
theorem op_mulI (hc : CMulX x y) (h : QO (.fz (.int (x * y)))) : opMul (.int x) (.int y) QO := ⟨hc, h⟩
theorem op_modI (hc : 0 < y) (h : QO (.fz (.int (x % y)))) : opMod (.int x) (.int y) QO := ⟨hc, h⟩
theorem op_divI (hc : CDivW x y) (h : QO (.fz (.int (x / y)))) : opDiv (.int x) (.int y) QO := ⟨hc, h⟩
theorem op_ltI (h : QO (.fz (.bool (decide (x < y))))) : opLt (.int x) (.int y) QO := h
theorem op_leI (h : QO (.fz (.bool (decide (x ≤ y))))) : opLe (.int x) (.int y) QO := h
theorem op_gtI (h : QO (.fz (.bool (decide (y < x))))) : opGt (.int x) (.int y) QO := h
theorem op_geI (h : QO (.fz (.bool (decide (y ≤ x))))) : opGe (.int x) (.int y) QO := h
theorem shaped_int : shaped (.int x) := by unfold shaped SeqAt.shaped; simp [PyData.canLay0, PyData.depth]
theorem shaped_bool : shaped (.bool b) := by unfold shaped SeqAt.shaped; simp [PyData.canLay0, PyData.depth]
theorem shaped_none : shaped .none := by unfold shaped SeqAt.shaped; simp [PyData.canLay0, PyData.depth]
theorem op_eqI (h : QO (.fz (.bool (decide (x = y))))) : opEq (.int x) (.int y) QO := ⟨shaped_int, shaped_int, by rw [show PyData.eqv (.int x) (.int y) = decide (x = y) by simp only [PyData.eqv]; exact Bool.beq_eq_decide_eq x y]; exact h⟩
theorem op_neI (h : QO (.fz (.bool (!decide (x = y))))) : opNe (.int x) (.int y) QO := ⟨shaped_int, shaped_int, by rw [show PyData.eqv (.int x) (.int y) = decide (x = y) by simp only [PyData.eqv]; exact Bool.beq_eq_decide_eq x y]; exact h⟩
theorem op_eqB (h : QO (.fz (.bool (b == c)))) : opEq (.bool b) (.bool c) QO := ⟨shaped_bool, shaped_bool, by rw [show PyData.eqv (.bool b) (.bool c) = (b == c) by simp only [PyData.eqv]]; exact h⟩
theorem op_neB (h : QO (.fz (.bool (!(b == c))))) : opNe (.bool b) (.bool c) QO := ⟨shaped_bool, shaped_bool, by rw [show PyData.eqv (.bool b) (.bool c) = (b == c) by simp only [PyData.eqv]]; exact h⟩
theorem op_isNone (h : QO (.fz (.bool true))) : opIsN .none .none QO := ⟨rfl, h⟩
theorem op_isInt (h : QO (.fz (.bool false))) : opIsN (.int x) .none QO := ⟨rfl, h⟩
theorem op_isTup (h : QO (.fz (.bool false))) : opIsN (.tuple ds) .none QO := ⟨rfl, h⟩
theorem op_notNone (h : QO (.fz (.bool false))) : opNotN .none .none QO := ⟨rfl, h⟩
theorem op_notTup (h : QO (.fz (.bool true))) : opNotN (.tuple ds) .none QO := ⟨rfl, h⟩
theorem op_ixT (j : Nat) (ej : x = (j : Int)) (e : ds[j]? = some d) (h : QO (.fz d)) : opIx (.tuple ds) (.int x) QO := ⟨d, by rw [ej]; exact atI_nat e, h⟩
theorem op_ixL (j : Nat) (ej : x = (j : Int)) (e : ds[j]? = some d) (h : QO (.fz d)) : opIx (.list ds) (.int x) QO := ⟨d, by rw [ej]; exact atI_nat e, h⟩
theorem op_ixT0 (e : ds[0]? = some d) (h : QO (.fz d)) : opIx (.tuple ds) (.int 0) QO := op_ixT 0 rfl e h
theorem op_ixT1 (e : ds[1]? = some d) (h : QO (.fz d)) : opIx (.tuple ds) (.int 1) QO := op_ixT 1 rfl e h
theorem op_ixT2 (e : ds[2]? = some d) (h : QO (.fz d)) : opIx (.tuple ds) (.int 2) QO := op_ixT 2 rfl e h
theorem op_ixL0 (e : ds[0]? = some d) (h : QO (.fz d)) : opIx (.list ds) (.int 0) QO := op_ixL 0 rfl e h
theorem op_ixL1 (e : ds[1]? = some d) (h : QO (.fz d)) : opIx (.list ds) (.int 1) QO := op_ixL 1 rfl e h
theorem cd_lenL (h : QO (.fz (.int (ds.length : Nat)))) : cdLen [.list ds] QO := h
theorem cd_lenT (h : QO (.fz (.int (ds.length : Nat)))) : cdLen [.tuple ds] QO := h
theorem cd_intI (h : QO (.fz (.int x))) : cdInt [.int x] QO := h
theorem cd_intB (h : QO (.fz (.int (if b then 1 else 0)))) : cdInt [.bool b] QO := h
theorem cd_tupL (h : QO (.fz (.tuple ds))) : cdTuple [.list ds] QO := h
theorem cd_tupT (h : QO (.fz (.tuple ds))) : cdTuple [.tuple ds] QO := h
theorem cd_listL (h : QO (.ls ds)) : cdList [.list ds] QO := h
theorem cd_listT (h : QO (.ls ds)) : cdList [.tuple ds] QO := h
theorem cd_absI (h : QO (.fz (.int (if x < 0 then -x else x)))) : cdAbs [.int x] QO := h
theorem cd_min2I (h : QO (.fz (.int (if y < x then y else x)))) : cdMin2 [.int x, .int y] QO := h
theorem cd_max2I (h : QO (.fz (.int (if y > x then y else x)))) : cdMax2 [.int x, .int y] QO := h
theorem sm_app {sx : PyData} {QS : List PyData → PyData → Prop} (hl : ds.length < sizeLine) (h : QS (ds ++ [sx]) .none) : smAppend ds [sx] QS := ⟨sx, rfl, hl, h⟩
theorem sd_L {lo hi : Option Int} (h : QO (.ls (cutL ds lo hi))) : sdAll (.list ds) lo hi QO := h
theorem sd_T {lo hi : Option Int} (h : QO (.fz (.tuple (cutL ds lo hi)))) : sdAll (.tuple ds) lo hi QO := h
end

/-! ### comprehensions whose parts are functions -/
/-- a test, an element that only reads -/
def TPure (tt : ET) (Γ : Ga) (b : Bool) : Prop := ∀ Q : Bool → Ga → Prop, Q b Γ → tt Γ Q
def XPure (te : EX) (Γ : Ga) (d : PyData) : Prop := ∀ Q : Av → Ga → Prop, Q (.d d) Γ → te Γ Q
/-- an iterable whose items are known -/
def IPure (ti : EI) (Γ : Ga) (ds : List PyData) (Γ1 : Ga) : Prop := ∀ QI : List PyData → Ga → Prop, QI ds Γ1 → ti Γ QI
section
variable {α : Type} {Γ Γ1 : Ga} {vs : List Nat} {ti : EI} {g : EG} {tt : ET} {te : EX} {Q : O → Ga → Prop}
/-- a comprehension by what holds ahead of each turn -/
theorem lc_inv (xs : List α) (enc : α → PyData) (I : Nat → List PyData → Ga → Prop) (hi : IPure ti Γ (xs.map enc) Γ1) (pl : Plain Γ1 vs) (h0 : I 0 [] Γ1)
    (turn : ∀ i x acc Γ', xs[i]? = some x → I i acc Γ' → (∀ j ∈ vs, Γ'[j]? = Γ1[j]?) → ∃ Γw, nrm (wipeG Γ' vs) = some Γw ∧ g (enc x) Γw fun Γ2 => tt Γ2 fun b Γ3 => Br b (te Γ3 fun a Γ4 => ∃ y, a = .d y ∧ acc.length < sizeLine ∧ ∃ Γb, nrm (backG Γ1 Γ4 vs) = some Γb ∧ I (i + 1) (acc ++ [y]) Γb) (∃ Γb, nrm (backG Γ1 Γ3 vs) = some Γb ∧ I (i + 1) acc Γb))
    (h : ∀ acc Γ', I xs.length acc Γ' → Q (.ls acc) Γ') : eLc ti g tt te vs Γ Q := by
  refine hi _ ⟨pl, I, h0, fun i d acc Γ' e w sl => ?_, fun acc Γ' w => h acc Γ' (by rw [List.length_map] at w; exact w)⟩
  rw [List.getElem?_map] at e
  cases ex : xs[i]? with
  | none => rw [ex] at e; cases e
  | some x => rw [ex] at e; cases e; exact turn i x acc Γ' ex w sl
/-- [e for x in xs if p], by functions: p, f of the item -/
theorem lc_go (xs : List α) (enc : α → PyData) (p : α → Bool) (f : α → PyData) (hi : IPure ti Γ (xs.map enc) Γ1) (hl : xs.length ≤ sizeLine) (pl : Plain Γ1 vs)
    (turn : ∀ x ∈ xs, ∃ Γw Γx, nrm (wipeG Γ1 vs) = some Γw ∧ (∀ QG : Ga → Prop, QG Γx → g (enc x) Γw QG) ∧ nrm (backG Γ1 Γx vs) = some Γ1 ∧ TPure tt Γx (p x) ∧ (p x = true → XPure te Γx (f x)))
    (h : Q (.ls ((xs.filter p).map f)) Γ1) : eLc ti g tt te vs Γ Q := by
  refine lc_inv xs enc (fun i acc Γ' => Γ' = Γ1 ∧ acc = ((xs.take i).filter p).map f) hi pl ⟨rfl, by simp⟩ (fun i x acc Γ' ex ⟨e1, e2⟩ _ => ?_) (fun acc Γ' ⟨e1, e2⟩ => ?_)
  · subst e1; subst e2
    obtain ⟨Γw, Γx, w1, hg, w2, ht, he⟩ := turn x (List.mem_of_getElem? ex)
    have tk : xs.take (i + 1) = xs.take i ++ [x] := by rw [List.take_add_one, ex]; rfl
    have il : i < xs.length := (List.getElem?_eq_some_iff.mp ex).1
    refine ⟨Γw, w1, hg _ (ht _ ?_)⟩
    cases hp : p x with
    | true =>
      refine br_t (he hp _ ⟨f x, rfl, ?_, Γ', w2, rfl, ?_⟩)
      · rw [List.length_map]
        have := List.length_filter_le p (xs.take i)
        rw [List.length_take] at this
        omega
      · rw [tk, List.filter_append, List.map_append]; simp [hp]
    | false =>
      refine br_f ⟨Γ', w2, rfl, ?_⟩
      rw [tk, List.filter_append]; simp [hp]
  · subst e1; subst e2
    rw [List.take_length]
    exact h
/-- .. without a test -/
theorem lc_map (xs : List α) (enc : α → PyData) (f : α → PyData) (hi : IPure ti Γ (xs.map enc) Γ1) (hl : xs.length ≤ sizeLine) (pl : Plain Γ1 vs)
    (turn : ∀ x ∈ xs, ∃ Γw Γx, nrm (wipeG Γ1 vs) = some Γw ∧ (∀ QG : Ga → Prop, QG Γx → g (enc x) Γw QG) ∧ nrm (backG Γ1 Γx vs) = some Γ1 ∧ XPure te Γx (f x))
    (h : Q (.ls (xs.map f)) Γ1) : eLc ti g tYesD te vs Γ Q := by
  refine lc_go xs enc (fun _ => true) f hi hl pl (fun x hx => ?_) (by rw [List.filter_eq_self.mpr (fun _ _ => rfl)]; exact h)
  obtain ⟨Γw, Γx, w1, hg, w2, he⟩ := turn x hx
  exact ⟨Γw, Γx, w1, hg, w2, fun Q q => q, fun _ => he⟩
/-- a for by what holds ahead of each turn -/
theorem for_inv {t : ES} {D : En} (xs : List α) (enc : α → PyData) (I : Nat → Ga → Prop) (hi : IPure ti Γ (xs.map enc) Γ1) (h0 : I 0 Γ1)
    (turn : ∀ i x Γ', xs[i]? = some x → I i Γ' → g (enc x) Γ' fun Γ2 => t { D with nx := I (i + 1), ct := I (i + 1), bk := D.nx } Γ2) (hd : ∀ Γ', I xs.length Γ' → D.nx Γ') : sFor ti g t D Γ := by
  refine hi _ ⟨I, h0, fun i d Γ' e w => ?_, fun Γ' w => hd Γ' (by rw [List.length_map] at w; exact w)⟩
  rw [List.getElem?_map] at e
  cases ex : xs[i]? with
  | none => rw [ex] at e; cases e
  | some x => rw [ex] at e; cases e; exact turn i x Γ' ex w
/-- a while by what holds ahead of each turn, n falling -/
theorem while_inv {c : ET} {t : ES} {D : En} (W : Nat → Ga → Prop) (m : Nat) (h0 : W m Γ)
    (turn : ∀ m Γ', W m Γ' → c Γ' fun b Γ1 => Br b (t { D with nx := fun Γ2 => ∃ m', m' < m ∧ W m' Γ2, ct := fun Γ2 => ∃ m', m' < m ∧ W m' Γ2, bk := D.nx } Γ1) (D.nx Γ1)) : sWhile c t D Γ := ⟨W, ⟨m, h0⟩, turn⟩
end
theorem plain1 {Γ : Ga} {i : Nat} (h : Γ[i]? = some none ∨ ∃ d, Γ[i]? = some (some (.fz d))) : Plain Γ [i] := fun j hj => by
  have : j = i := by simpa using hj
  subst this; exact h
theorem plain2 {Γ : Ga} {i j : Nat} (h : Γ[i]? = some none ∨ ∃ d, Γ[i]? = some (some (.fz d))) (h2 : Γ[j]? = some none ∨ ∃ d, Γ[j]? = some (some (.fz d))) : Plain Γ [i, j] := fun k hk => by
  rcases List.mem_cons.mp hk with z | z
  · subst z; exact h
  · have : k = j := by simpa using z
    subst this; exact h2
theorem r64 {k : Nat} {A : Around} (hr : Room k A) : A.units + 64 < cLine := hr.units
theorem r65 {k : Nat} {A : Around} (hr : Room k A) : A.units + 65 < cLine := by have := hr.un; omega
end VL
end
section
namespace VL
open PySem PySem.Spec L2

/-! ### typed data -/
/-- an encoding: == of what is encoded, what may be compared (at most n deep) -/
structure Enc {α : Type} [DecidableEq α] (enc : α → PyData) (n : Nat) : Prop where
  eq : ∀ a b, PyData.eqv (enc a) (enc b) = decide (a = b)
  lay : ∀ a, (enc a).canLay0 = true
  dep : ∀ a, (enc a).depth ≤ n
section
variable {α β : Type} [DecidableEq α] [DecidableEq β] {enc : α → PyData} {fnc : β → PyData} {n m : Nat}
theorem layAll_map (h : ∀ a, (enc a).canLay0 = true) : ∀ xs : List α, PyData.canLayAll0 (xs.map enc) = true
  | [] => by simp [PyData.canLayAll0]
  | x :: xs => by simp [PyData.canLayAll0, h x, layAll_map h xs]
theorem depAll_map (h : ∀ a, (enc a).depth ≤ n) : ∀ xs : List α, PyData.depthAll (xs.map enc) ≤ n
  | [] => by simp [PyData.depthAll]
  | x :: xs => by
    have h1 := h x
    have h2 := depAll_map h xs
    simp only [List.map_cons, PyData.depthAll]
    omega
theorem eqvAll_map (h : ∀ a b, PyData.eqv (enc a) (enc b) = decide (a = b)) : ∀ xs ys : List α, PyData.eqvAll (xs.map enc) (ys.map enc) = decide (xs = ys)
  | [], [] => by simp [PyData.eqvAll]
  | [], y :: ys => by simp [PyData.eqvAll]
  | x :: xs, [] => by simp [PyData.eqvAll]
  | x :: xs, y :: ys => by
    simp only [List.map_cons, PyData.eqvAll, h x y, eqvAll_map h xs ys, List.cons.injEq]
    by_cases e1 : x = y <;> by_cases e2 : xs = ys <;> simp [e1, e2]
theorem Enc.shaped (h : Enc enc n) (hn : n ≤ 64) (a : α) : shaped (enc a) := by
  unfold VL.shaped SeqAt.shaped
  rw [h.lay a, Bool.true_and, decide_eq_true_eq]
  exact Nat.le_trans (h.dep a) hn
theorem Enc.tup (h : Enc enc n) : Enc (fun xs : List α => PyData.tuple (xs.map enc)) (n + 1) where
  eq := fun xs ys => by simp only [PyData.eqv]; exact eqvAll_map h.eq xs ys
  lay := fun xs => by simp only [PyData.canLay0]; exact layAll_map h.lay xs
  dep := fun xs => by simp only [PyData.depth]; have := depAll_map h.dep xs; omega
theorem Enc.lst (h : Enc enc n) : Enc (fun xs : List α => PyData.list (xs.map enc)) (n + 1) where
  eq := fun xs ys => by simp only [PyData.eqv]; exact eqvAll_map h.eq xs ys
  lay := fun xs => by simp only [PyData.canLay0]; exact layAll_map h.lay xs
  dep := fun xs => by simp only [PyData.depth]; have := depAll_map h.dep xs; omega
theorem Enc.pair (h : Enc enc n) (k : Enc fnc m) : Enc (fun p : α × β => PyData.tuple [enc p.1, fnc p.2]) (max n m + 1) where
  eq := fun ⟨a, b⟩ ⟨c, d⟩ => by
    simp only [PyData.eqv, PyData.eqvAll, h.eq, k.eq, Bool.and_true, Prod.mk.injEq]
    by_cases e1 : a = c <;> by_cases e2 : b = d <;> simp [e1, e2]
  lay := fun p => by simp [PyData.canLay0, PyData.canLayAll0, h.lay, k.lay]
  dep := fun p => by
    have h1 := h.dep p.1
    have h2 := k.dep p.2
    simp only [PyData.depth, PyData.depthAll]
    omega
theorem enc_int : Enc PyData.int 0 where
  eq := fun a b => by simp only [PyData.eqv]; exact Bool.beq_eq_decide_eq a b
  lay := fun a => by simp [PyData.canLay0]
  dep := fun a => by simp [PyData.depth]
theorem enc_bool : Enc PyData.bool 0 where
  eq := fun a b => by simp only [PyData.eqv]; exact Bool.beq_eq_decide_eq a b
  lay := fun a => by simp [PyData.canLay0]
  dep := fun a => by simp [PyData.depth]
def isIn (x : α) (xs : List α) : Bool := xs.any fun y => decide (y = x)
theorem isIn_iff {x : α} {xs : List α} : isIn x xs = true ↔ x ∈ xs := by
  unfold isIn
  rw [List.any_eq_true]
  constructor
  · rintro ⟨y, h, e⟩
    rw [← of_decide_eq_true e]; exact h
  · intro h; exact ⟨x, h, decide_eq_true rfl⟩
theorem isIn_false {x : α} {xs : List α} : isIn x xs = false ↔ x ∉ xs := by
  rw [← Bool.not_eq_true, isIn_iff]
theorem any_enc (h : Enc enc n) (x : α) : ∀ xs : List α, ((xs.map enc).any fun z => PyData.eqv z (enc x)) = isIn x xs
  | [] => rfl
  | y :: ys => by
    rw [List.map_cons, List.any_cons, h.eq, any_enc h x ys]
    rfl
theorem op_eqE (h : Enc enc n) (hn : n ≤ 64) {a b : α} {Q : O → Prop} (q : Q (.fz (.bool (decide (a = b))))) : opEq (enc a) (enc b) Q := ⟨h.shaped hn a, h.shaped hn b, by rw [h.eq]; exact q⟩
theorem op_neE (h : Enc enc n) (hn : n ≤ 64) {a b : α} {Q : O → Prop} (q : Q (.fz (.bool (!decide (a = b))))) : opNe (enc a) (enc b) Q := ⟨h.shaped hn a, h.shaped hn b, by rw [h.eq]; exact q⟩
theorem op_inE (h : Enc enc n) (hn : n + 1 ≤ 64) {a : α} {xs : List α} {Q : O → Prop} (q : Q (.fz (.bool (isIn a xs)))) : opIn (enc a) (.tuple (xs.map enc)) Q := by
  unfold opIn
  refine ⟨h.shaped (by omega) a, h.tup.shaped (by omega) xs, ?_⟩
  rw [any_enc h]; exact q
theorem op_inLE (h : Enc enc n) (hn : n + 1 ≤ 64) {a : α} {xs : List α} {Q : O → Prop} (q : Q (.fz (.bool (isIn a xs)))) : opIn (enc a) (.list (xs.map enc)) Q := by
  unfold opIn
  refine ⟨h.shaped (by omega) a, h.lst.shaped (by omega) xs, ?_⟩
  rw [any_enc h]; exact q
theorem op_notInE (h : Enc enc n) (hn : n + 1 ≤ 64) {a : α} {xs : List α} {Q : O → Prop} (q : Q (.fz (.bool (!isIn a xs)))) : opNotIn (enc a) (.tuple (xs.map enc)) Q := by
  unfold opNotIn
  refine ⟨h.shaped (by omega) a, h.tup.shaped (by omega) xs, ?_⟩
  rw [any_enc h]; exact q
theorem op_notInLE (h : Enc enc n) (hn : n + 1 ≤ 64) {a : α} {xs : List α} {Q : O → Prop} (q : Q (.fz (.bool (!isIn a xs)))) : opNotIn (enc a) (.list (xs.map enc)) Q := by
  unfold opNotIn
  refine ⟨h.shaped (by omega) a, h.lst.shaped (by omega) xs, ?_⟩
  rw [any_enc h]; exact q
end
/-! literals, rules, sheets, fillings -/
abbrev Lit := Int × Bool
abbrev Rule := List Lit
def dLit (b : Int) (s : Bool) : PyData := .tuple [.int b, .bool s]
def dL (l : Lit) : PyData := dLit l.1 l.2
def dR (r : Rule) : PyData := .tuple (r.map dL)
def dRs (rs : List Rule) : PyData := .tuple (rs.map dR)
def dS (m : Int) (rs : List Rule) : PyData := .tuple [.int m, dRs rs]
def dF (f : List Bool) : PyData := .tuple (f.map .bool)
def neg (l : Lit) : Lit := (l.1, !l.2)
theorem enc_L : Enc dL 1 := enc_int.pair enc_bool
theorem enc_R : Enc dR 2 := enc_L.tup
theorem enc_Rs : Enc dRs 3 := enc_R.tup
theorem enc_F : Enc dF 1 := enc_bool.tup
end VL
end
section
namespace VL
open PySem PySem.Spec L2

/-! ### trees -/
theorem keepU {G H : Hp} {a : Addr} {o : HO} (d : G a = none) (s : Same G H) : Same G (upd H a o) := fun b u e => by
  by_cases z : b = a
  · subst z; rw [d] at e; cases e
  · rw [upd_ne z]; exact s _ _ e
theorem dis_at {G : Hp} {a : Addr} {o o' : HO} (d : Dis (one a o) G) : Dis (one a o') G := dis_one (of_dis_one d)
section
variable {K : PySem.W.Frag} {F F' : Hp} {o : O} {ts : List O} {v : V} {vs : List V} {h h1 h2 : Hp}
theorem ownT_nil : OwnT K F [] vs h ↔ vs = [] ∧ h = emp := by unfold OwnT; exact Iff.rfl
theorem ownT_cons : OwnT K F (o :: ts) vs h ↔ ∃ v vr h1 h2, vs = v :: vr ∧ h = jn h1 h2 ∧ Dis h1 h2 ∧ Own K F o v h1 ∧ OwnT K F ts vr h2 := by rw [OwnT]
theorem OwnT.len : ∀ {ts : List O} {vs : List V} {h : Hp}, OwnT K F ts vs h → vs.length = ts.length
  | [], _, _, w => by rw [(ownT_nil.mp w).1]; rfl
  | _ :: _, _, _, w => by
    obtain ⟨v, vr, h1, h2, rfl, _, _, _, q⟩ := ownT_cons.mp w
    simp [OwnT.len q]
theorem OwnT.focus : ∀ {ts : List O} {vs : List V} {h : Hp} {k : Nat} {o : O}, OwnT K F ts vs h → ts[k]? = some o →
    ∃ v h1 h2, vs[k]? = some v ∧ h = jn h1 h2 ∧ Dis h1 h2 ∧ Own K F o v h1 ∧
      (∀ F' o' v' h1', Same F F' → Own K F' o' v' h1' → Dis h1' h2 → OwnT K F' (ts.set k o') (vs.set k v') (jn h1' h2)) ∧ OwnT K F (ts.eraseIdx k) (vs.eraseIdx k) h2
  | [], _, _, _, _, _, e => by simp at e
  | o :: ts, _, h, 0, o', w, e => by
    obtain ⟨v, vr, h1, h2, rfl, rfl, d, w1, q⟩ := ownT_cons.mp w
    have eo : o = o' := by simpa using e
    subst eo
    exact ⟨v, h1, h2, rfl, rfl, d, w1, fun F' o' v' h1' s w' d' => ownT_cons.mpr ⟨v', vr, h1', h2, rfl, rfl, d', w', q.mono s⟩, q⟩
  | o :: ts, _, h, k + 1, o', w, e => by
    obtain ⟨v, vr, g1, g2, rfl, rfl, d, w1, q⟩ := ownT_cons.mp w
    obtain ⟨u, h1, h2, a1, a2, a3, a4, a5, a6⟩ := OwnT.focus (k := k) (o := o') q (by simpa using e)
    subst a2
    have d1 : Dis g1 h1 := (Dis.sub same_l d.symm).symm
    have d2 : Dis g1 h2 := (Dis.sub (same_r a3) d.symm).symm
    refine ⟨u, h1, jn g1 h2, by simpa using a1, ?_, (Dis.jn d1 a3.symm).symm, a4, fun F' o' v' h1' s w' d' => ?_, ownT_cons.mpr ⟨v, _, g1, h2, rfl, rfl, d2, w1, a6⟩⟩
    · rw [← jn_assoc, jn_comm d1, jn_assoc]
    · have f1 : Dis h1' g1 := (Dis.sub same_l d'.symm).symm
      have f2 : Dis h1' h2 := (Dis.sub (same_r d2) d'.symm).symm
      refine ownT_cons.mpr ⟨v, _, g1, jn h1' h2, rfl, ?_, (Dis.jn f1 d2.symm).symm, w1.mono s, a5 F' o' v' h1' s w' f2⟩
      rw [← jn_assoc, jn_comm f1, jn_assoc]
theorem OwnT.app : ∀ {ts : List O} {vs : List V} {h : Hp}, OwnT K F ts vs h → Own K F o v h1 → Dis h h1 → OwnT K F (ts ++ [o]) (vs ++ [v]) (jn h h1)
  | [], _, _, w, w1, d => by
    obtain ⟨rfl, rfl⟩ := ownT_nil.mp w
    exact ownT_cons.mpr ⟨v, [], h1, emp, rfl, by rw [emp_jn, jn_emp], Dis.emp.symm, w1, ownT_nil.mpr ⟨rfl, rfl⟩⟩
  | _ :: _, _, _, w, w1, d => by
    obtain ⟨u, vr, g1, g2, rfl, rfl, dd, w2, q⟩ := ownT_cons.mp w
    have d1 : Dis g1 h1 := Dis.sub same_l d
    have d2 : Dis g2 h1 := Dis.sub (same_r dd) d
    exact ownT_cons.mpr ⟨u, vr ++ [v], g1, jn g2 h1, rfl, jn_assoc, (Dis.jn dd.symm d1.symm).symm, w2, OwnT.app q w1 d2⟩
theorem ownT_fz : ∀ {ds : List PyData} {vs : List V} {h : Hp}, OwnT K F (ds.map .fz) vs h ↔ RpAll K F vs ds ∧ h = emp
  | [], vs, h => by
    constructor
    · intro w; obtain ⟨rfl, rfl⟩ := ownT_nil.mp w; exact ⟨.nil, rfl⟩
    · rintro ⟨r, rfl⟩; cases r; exact ownT_nil.mpr ⟨rfl, rfl⟩
  | d :: ds, vs, h => by
    constructor
    · intro w
      obtain ⟨v, vr, g1, g2, rfl, rfl, dd, w2, q⟩ := ownT_cons.mp w
      obtain ⟨r, rfl⟩ := ownT_fz.mp q
      obtain ⟨rfl, rr⟩ := own_fz.mp w2
      exact ⟨.cons rr r, by rw [emp_jn]⟩
    · rintro ⟨r, rfl⟩
      cases r with
      | cons r1 r2 => exact ownT_cons.mpr ⟨_, _, emp, emp, rfl, by rw [emp_jn], Dis.emp, own_fz.mpr ⟨rfl, r1⟩, ownT_fz.mpr ⟨r2, rfl⟩⟩
end
section
variable {K : PySem.W.Frag} {pn : List (Nat × V)} {Z F F' : Hp} {Γ : Ga} {σ : St} {h hr H H' : Hp} {v : V} {o : O} {d : PyData} {ts : List O} {i k : Nat}
/-- a part beside put back into the slot it came from -/
theorem AtR.restore {v : V} (A : AtR K pn Z F Γ σ h hr H) (w : Own K F o v hr) (hi : i < Γ.length) (e : σ[i]? = some (some v)) : ∃ h', At K pn Z F (Γ.set i (some o)) σ h' H ∧ (∀ a, h' a ≠ none → h a ≠ none ∨ hr a ≠ none) := by
  obtain ⟨h2, s2, a, _⟩ := A.at_.own.put hi
  have d2 : Dis hr h2 := (Dis.sub s2 A.rh.symm).symm
  have q := a F o v hr (Same.refl _) w d2
  rw [set_self e] at q
  refine ⟨jn hr h2, ⟨q, same_jn A.rH (s2.trans A.at_.hH), A.at_.FH, A.at_.ZH, A.at_.FZ, Dis.jn A.rF (Dis.sub s2 A.at_.hF), Dis.jn A.rZ (Dis.sub s2 A.at_.hZ), A.at_.pin⟩, fun a e => ?_⟩
  cases z : hr a with
  | some u => exact .inr (by simp)
  | none =>
    rw [jn_r z] at e
    left
    intro y
    exact e (s2.free y)
/-- the tree of a slot: its root, its elements -/
structure TrAt (K : PySem.W.Frag) (pn : List (Nat × V)) (Z F : Hp) (Γ : Ga) (σ : St) (h H : Hp) (i : Nat) (ts : List O) (a : Addr) (vs : List V) (hT g : Hp) : Prop where
  sl : σ[i]? = some (some (.ref a))
  at_ : H a = some (.lst vs)
  own : OwnT K F ts vs hT
  TH : Same hT H
  Ta : hT a = none
  TF : Dis hT F
  TZ : Dis hT Z
  Tg : Dis hT g
  gH : Same g H
  ga : g a = none
  gF : Dis g F
  gZ : Dis g Z
  Fa : F a = none
  Za : Z a = none
  ph : ∀ k, Dis h k → Dis hT k ∧ Dis g k ∧ k a = none
  put : ∀ F' ts' vs' hT' H', Same F F' → OwnT K F' ts' vs' hT' → H' a = some (.lst vs') → Same hT' H' → Same F' H' → Same Z H' → Same g H' → Dis F' Z → hT' a = none → Dis hT' g → Dis hT' F' → Dis hT' Z → Dis g F' → F' a = none →
    At K pn Z F' (Γ.set i (some (.tr ts'))) σ (jn (jn (one a (.lst vs')) hT') g) H'
theorem At.changeT (A : At K pn Z F Γ σ h H) (e : Γ[i]? = some (some (.tr ts))) : ∃ a vs hT g, TrAt K pn Z F Γ σ h H i ts a vs hT g := by
  obtain ⟨v, h1, h2, a1, rfl, d12, a4, a5⟩ := A.own.focus e
  obtain ⟨a, vs, hT, rfl, rfl, dT, w⟩ := own_tr.mp a4
  have s1 : Same (one a (.lst vs)) (jn (jn (one a (.lst vs)) hT) h2) := fun x u z => same_l _ _ (same_l _ _ z)
  have sT : Same hT (jn (jn (one a (.lst vs)) hT) h2) := fun x u z => same_l _ _ (same_r dT _ _ z)
  have s2 : Same h2 (jn (jn (one a (.lst vs)) hT) h2) := same_r d12
  have da2 : Dis (one a (.lst vs)) h2 := Dis.sub same_l d12
  have dT2 : Dis hT h2 := Dis.sub (same_r dT) d12
  refine ⟨a, vs, hT, h2, ⟨a1, A.hH _ _ (s1 _ _ one_at), w, sT.trans A.hH, of_dis_one dT, Dis.sub sT A.hF, Dis.sub sT A.hZ, dT2, s2.trans A.hH, of_dis_one da2, Dis.sub s2 A.hF, Dis.sub s2 A.hZ, of_dis_one (Dis.sub s1 A.hF), of_dis_one (Dis.sub s1 A.hZ),
    fun k dk => ⟨Dis.sub sT dk, Dis.sub s2 dk, of_dis_one (Dis.sub s1 dk)⟩, fun F' ts' vs' hT' H' sF w' hA sT' sF' sZ' sg' dFZ ta tg tF tZ gF fa => ?_⟩⟩
  have dT' : Dis (one a (.lst vs')) hT' := dis_one ta
  have q := a5 F' (.tr ts') (.ref a) (jn (one a (.lst vs')) hT') sF (own_tr.mpr ⟨a, vs', hT', rfl, rfl, dT', w'⟩) (Dis.jn (dis_one (of_dis_one da2)) tg)
  rw [set_self a1] at q
  have zA : Z a = none := of_dis_one (Dis.sub s1 A.hZ)
  exact ⟨q, same_jn (same_jn (same_one hA) sT') sg', sF', sZ', dFZ, Dis.jn (Dis.jn (dis_one fa) tF) gF, Dis.jn (Dis.jn (dis_one zA) tZ) (Dis.sub s2 A.hZ), A.pin⟩
/-- nothing changed but one element's form: o' stands where o stood -/
theorem TrAt.elem {a : Addr} {vs : List V} {hT g : Hp} (T : TrAt K pn Z F Γ σ h H i ts a vs hT g) (A : At K pn Z F Γ σ h H) (e : ts[k]? = some o) :
    ∃ v h1, vs[k]? = some v ∧ Own K F o v h1 ∧ Same h1 H ∧ Dis h1 F ∧ Dis h1 Z ∧ h1 a = none ∧
    (∀ F' o' h1' H', Same F F' → Own K F' o' v h1' → H' a = some (.lst vs) → Same h1' H' → Same F' H' → Same Z H' → (∀ G, Same G H → Dis h1 G → Same G H') → Dis F' Z → h1' a = none → (∀ G, Dis h1 G → Dis h1' G) → Dis h1' F' → Dis h1' Z → (∀ G, Same G H → Dis G F → Dis h1 G → Dis G F') → F' a = none →
      ∃ h', At K pn Z F' (Γ.set i (some (.tr (ts.set k o')))) σ h' H') := by
  obtain ⟨v, h1, h2, a1, rfl, d12, w1, put, _⟩ := T.own.focus e
  have s1 : Same h1 (jn h1 h2) := same_l
  have s2 : Same h2 (jn h1 h2) := same_r d12
  refine ⟨v, h1, a1, w1, s1.trans T.TH, Dis.sub s1 T.TF, Dis.sub s1 T.TZ, s1.free T.Ta, fun F' o' h1' H' sF w' hA sh sF' sZ' keep dFZ ha kd dF' dZ' kF fa => ?_⟩
  have q := put F' o' v h1' sF w' (kd h2 d12)
  rw [set_self a1] at q
  have d1g : Dis h1 g := Dis.sub s1 T.Tg
  have k2 : Same h2 H' := keep h2 (s2.trans T.TH) d12
  have kg : Same g H' := keep g T.gH d1g
  have ja : ∀ x : Addr, h1' x = none → h2 x = none → jn h1' h2 x = none := fun x e1 e2 => by rw [jn_r e1]; exact e2
  exact ⟨_, T.put F' (ts.set k o') vs (jn h1' h2) H' sF q hA (same_jn sh k2) sF' sZ' kg dFZ (ja a ha (s2.free T.Ta)) (Dis.jn (kd g d1g) (Dis.sub s2 T.Tg)) (Dis.jn dF' (kF h2 (s2.trans T.TH) (Dis.sub s2 T.TF) d12)) (Dis.jn dZ' (Dis.sub s2 T.TZ)) (kF g T.gH T.gF d1g) fa⟩
/-- an element frozen where it stands -/
theorem At.frzE (A : At K pn Z F Γ σ h H) (e : Γ[i]? = some (some (.tr ts))) (e1 : ts[k]? = some o) (e2 : o.frz = some d) : ∃ F' h' a vs v, Same F F' ∧ σ[i]? = some (some (.ref a)) ∧ H a = some (.lst vs) ∧ vs[k]? = some v ∧ At K pn Z F' (Γ.set i (some (.tr (ts.set k (.fz d))))) σ h' H ∧ Rp K F' v d := by
  obtain ⟨a, vs, hT, g, T⟩ := A.changeT e
  obtain ⟨v, h1, a1, w1, sh, dF, dZ, ha, put⟩ := T.elem A e1
  obtain ⟨F', s, rfl, q⟩ := w1.frz e2 dF
  have kF : ∀ G, Same G H → Dis G F → Dis h1 G → Dis G (jn h1 F) := fun G _ d1 d2 => (Dis.jn d2 d1.symm).symm
  have sFH : Same (jn h1 F) H := same_jn sh A.FH
  obtain ⟨h', A'⟩ := put (jn h1 F) (.fz d) emp H s (own_fz.mpr ⟨rfl, q⟩) T.at_ same_emp sFH A.ZH (fun G sG _ => sG) (Dis.jn dZ A.FZ) rfl (fun _ _ => Dis.emp) Dis.emp Dis.emp kF (by rw [jn_r ha]; exact T.Fa)
  exact ⟨_, h', a, vs, v, s, T.sl, T.at_, a1, A', q⟩
/-- an element's own list changed -/
theorem At.changeE {ds : List PyData} (A : At K pn Z F Γ σ h H) (e : Γ[i]? = some (some (.tr ts))) (e1 : ts[k]? = some (.ls ds)) : ∃ a vs b ws, σ[i]? = some (some (.ref a)) ∧ H a = some (.lst vs) ∧ vs[k]? = some (.ref b) ∧ H b = some (.lst ws) ∧ RpAll K F ws ds ∧
    ∀ ws' ds', RpAll K F ws' ds' → ∃ h', At K pn Z F (Γ.set i (some (.tr (ts.set k (.ls ds'))))) σ h' (upd H b (.lst ws')) := by
  obtain ⟨a, vs, hT, g, T⟩ := A.changeT e
  obtain ⟨v, h1, a1, w1, sh, dF, dZ, ha, put⟩ := T.elem A e1
  obtain ⟨b, ws, rfl, rfl, r⟩ := own_ls.mp w1
  have hab : a ≠ b := fun z => by subst z; rw [one_at] at ha; cases ha
  refine ⟨a, vs, b, ws, T.sl, T.at_, a1, sh _ _ one_at, r, fun ws' ds' r' => ?_⟩
  exact put F (.ls ds') (VL.one b (.lst ws')) (upd H b (.lst ws')) (Same.refl _) (own_ls.mpr ⟨b, ws', rfl, rfl, r'⟩) (by rw [upd_ne hab]; exact T.at_) (same_one upd_same) (keepU (of_dis_one dF) A.FH) (keepU (of_dis_one dZ) A.ZH) (fun G sG dG => keepU (of_dis_one dG) sG) A.FZ (one_ne hab) (fun G dG => dis_at dG) (dis_at dF) (dis_at dZ) (fun G _ d1 _ => d1) T.Fa
/-- an element's dict changed -/
theorem At.changeED {kk : List (Key × PyData)} (A : At K pn Z F Γ σ h H) (e : Γ[i]? = some (some (.tr ts))) (e1 : ts[k]? = some (.dk kk)) : ∃ a vs b ws, σ[i]? = some (some (.ref a)) ∧ H a = some (.lst vs) ∧ vs[k]? = some (.ref b) ∧ H b = some (.dK ws) ∧ KvAll K F ws kk ∧
    ∀ ws' kk', KvAll K F ws' kk' → ∃ h', At K pn Z F (Γ.set i (some (.tr (ts.set k (.dk kk'))))) σ h' (upd H b (.dK ws')) := by
  obtain ⟨a, vs, hT, g, T⟩ := A.changeT e
  obtain ⟨v, h1, a1, w1, sh, dF, dZ, ha, put⟩ := T.elem A e1
  obtain ⟨b, ws, rfl, rfl, r⟩ : ∃ b ws, v = .ref b ∧ h1 = VL.one b (.dK ws) ∧ KvAll K F ws kk := by unfold Own at w1; exact w1
  have hab : a ≠ b := fun z => by subst z; rw [one_at] at ha; cases ha
  refine ⟨a, vs, b, ws, T.sl, T.at_, a1, sh _ _ one_at, r, fun ws' ds' r' => ?_⟩
  exact put F (.dk ds') (VL.one b (.dK ws')) (upd H b (.dK ws')) (Same.refl _) (by unfold Own; exact ⟨b, ws', rfl, rfl, r'⟩) (by rw [upd_ne hab]; exact T.at_) (same_one upd_same) (keepU (of_dis_one dF) A.FH) (keepU (of_dis_one dZ) A.ZH) (fun G sG dG => keepU (of_dis_one dG) sG) A.FZ (one_ne hab) (fun G dG => dis_at dG) (dis_at dF) (dis_at dZ) (fun G _ d1 _ => d1) T.Fa
/-- an owned part put behind -/
theorem AtR.pushT (A : AtR K pn Z F Γ σ h hr H) (w : Own K F o v hr) (e : Γ[i]? = some (some (.tr ts))) : ∃ a vs, σ[i]? = some (some (.ref a)) ∧ H a = some (.lst vs) ∧ vs.length = ts.length ∧ ∃ h', At K pn Z F (Γ.set i (some (.tr (ts ++ [o])))) σ h' (upd H a (.lst (vs ++ [v]))) := by
  obtain ⟨a, vs, hT, g, T⟩ := A.at_.changeT e
  obtain ⟨d1, d2, d3⟩ := T.ph hr A.rh.symm
  refine ⟨a, vs, T.sl, T.at_, T.own.len, _, T.put F (ts ++ [o]) (vs ++ [v]) (jn hT hr) _ (Same.refl _) (T.own.app w d1) upd_same (same_jn (keepU T.Ta T.TH) (keepU d3 A.rH)) (keepU T.Fa A.at_.FH) (keepU T.Za A.at_.ZH) (keepU T.ga T.gH) A.at_.FZ (by rw [jn_r T.Ta]; exact d3) (Dis.jn T.Tg d2.symm) (Dis.jn T.TF A.rF) (Dis.jn T.TZ A.rZ) T.gF T.Fa⟩
/-- an element put anew (what stood there is dropped) -/
theorem AtR.putT (A : AtR K pn Z F Γ σ h hr H) (w : Own K F o v hr) (e : Γ[i]? = some (some (.tr ts))) (hk : k < ts.length) : ∃ a vs, σ[i]? = some (some (.ref a)) ∧ H a = some (.lst vs) ∧ vs.length = ts.length ∧ ∃ h', At K pn Z F (Γ.set i (some (.tr (ts.set k o)))) σ h' (upd H a (.lst (vs.set k v))) := by
  obtain ⟨a, vs, hT, g, T⟩ := A.at_.changeT e
  obtain ⟨d1, d2, d3⟩ := T.ph hr A.rh.symm
  obtain ⟨u, h1, h2, a1, rfl, d12, w1, put, _⟩ := T.own.focus (List.getElem?_eq_getElem hk)
  have s2 : Same h2 (jn h1 h2) := same_r d12
  have e2 : Dis hr h2 := (Dis.sub s2 d1).symm
  refine ⟨a, vs, T.sl, T.at_, T.own.len, _, T.put F (ts.set k o) (vs.set k v) (jn hr h2) _ (Same.refl _) (put F o v hr (Same.refl _) w e2) upd_same (same_jn (keepU d3 A.rH) (keepU (s2.free T.Ta) (s2.trans T.TH))) (keepU T.Fa A.at_.FH) (keepU T.Za A.at_.ZH) (keepU T.ga T.gH) A.at_.FZ (by rw [jn_r d3]; exact s2.free T.Ta) (Dis.jn d2.symm (Dis.sub s2 T.Tg)) (Dis.jn A.rF (Dis.sub s2 T.TF)) (Dis.jn A.rZ (Dis.sub s2 T.TZ)) T.gF T.Fa⟩
/-- an element taken out -/
theorem At.takeT (A : At K pn Z F Γ σ h H) (e : Γ[i]? = some (some (.tr ts))) (e1 : ts[k]? = some o) : ∃ a vs v, σ[i]? = some (some (.ref a)) ∧ H a = some (.lst vs) ∧ vs.length = ts.length ∧ vs[k]? = some v ∧ ∃ h' hr, AtR K pn Z F (Γ.set i (some (.tr (ts.eraseIdx k)))) σ h' hr (upd H a (.lst (vs.eraseIdx k))) ∧ Own K F o v hr := by
  obtain ⟨a, vs, hT, g, T⟩ := A.changeT e
  obtain ⟨v, h1, h2, a1, rfl, d12, w1, _, er⟩ := T.own.focus e1
  have s1 : Same h1 (jn h1 h2) := same_l
  have s2 : Same h2 (jn h1 h2) := same_r d12
  refine ⟨a, vs, v, T.sl, T.at_, T.own.len, a1, _, h1, ⟨T.put F (ts.eraseIdx k) (vs.eraseIdx k) h2 _ (Same.refl _) er upd_same (keepU (s2.free T.Ta) (s2.trans T.TH)) (keepU T.Fa A.FH) (keepU T.Za A.ZH) (keepU T.ga T.gH) A.FZ (s2.free T.Ta) (Dis.sub s2 T.Tg) (Dis.sub s2 T.TF) (Dis.sub s2 T.TZ) T.gF T.Fa, keepU (s1.free T.Ta) (s1.trans T.TH), ?_, Dis.sub s1 T.TF, Dis.sub s1 T.TZ⟩, w1⟩
  exact (Dis.jn (Dis.jn (dis_one (s1.free T.Ta)) d12.symm) (Dis.sub s1 T.Tg).symm).symm
end
end VL
end
section
namespace VL
open PySem PySem.Spec L2

/-! ### an element of a slot's tree, as it stands -/
abbrev EE := Ga → (Nat → Nat → Ga → Prop) → Prop
def ElV (σ : St) (H : Hp) (i k : Nat) (v : V) : Prop := ∃ a vs, σ[i]? = some (some (.ref a)) ∧ H a = some (.lst vs) ∧ vs[k]? = some v
def elG (Γ : Ga) (i k : Nat) : Option O := match Γ[i]? with
  | some (some (.tr ts)) => ts[k]?
  | _ => none
def elD : O → Option PyData
  | .fz d => some d
  | .ls ds => some (.list ds)
  | _ => none
def lE (K : PySem.W.Frag) (τ : EE) : TE := fun σ H QV => ∃ pn Z F Γ h Q, At K pn Z F Γ σ h H ∧ τ Γ Q ∧ ∀ F' Γ' h' H' i k v, Same F F' → At K pn Z F' Γ' σ h' H' → ElV σ H' i k v → Q i k Γ' → QV v H'
def eEl (i : Nat) (τ : EX) : EE := fun Γ Q => (∃ ts, Γ[i]? = some (some (.tr ts))) ∧ τ Γ fun a Γ1 => ∃ ts z k, Γ1[i]? = some (some (.tr ts)) ∧ rslv Γ1 a = some (.int z) ∧ ixN ts.length z = some k ∧ Q i k Γ1
theorem ixN_lt {n k : Nat} {z : Int} (h : ixN n z = some k) : k < n := by
  unfold ixN at h
  split at h
  · split at h
    · cases h; omega
    · cases h
  · split at h
    · cases h; omega
    · cases h
theorem elG_some {Γ : Ga} {i k : Nat} {o : O} (h : elG Γ i k = some o) : ∃ ts, Γ[i]? = some (some (.tr ts)) ∧ ts[k]? = some o := by
  unfold elG at h
  split at h
  · rename_i ts e; exact ⟨ts, e, h⟩
  · cases h
section
variable {K : PySem.W.Frag} {pn : List (Nat × V)} {Z F F' : Hp} {Γ : Ga} {σ : St} {h hr H H' : Hp} {v : V} {o : O} {d : PyData} {ts : List O} {i k : Nat}
theorem At.root (A : At K pn Z F Γ σ h H) (e : Γ[i]? = some (some (.tr ts))) : ∃ a vs, σ[i]? = some (some (.ref a)) ∧ H a = some (.lst vs) ∧ vs.length = ts.length := by
  obtain ⟨a, vs, hT, g, T⟩ := A.changeT e
  exact ⟨a, vs, T.sl, T.at_, T.own.len⟩
theorem rep_el (A : At K pn Z F Γ σ h H) (r : ElV σ H i k v) (e : elG Γ i k = some o) (e2 : elD o = some d) : RepS K F H d v := by
  obtain ⟨ts, e1, e3⟩ := elG_some e
  obtain ⟨a, vs, hT, g, T⟩ := A.changeT e1
  obtain ⟨u, h1, a1, w1, sh, _⟩ := T.elem A e3
  obtain ⟨b, ws, r1, r2, r3⟩ := r
  have x := T.sl
  rw [r1] at x; cases x
  have y := T.at_
  rw [r2] at y; cases y
  rw [a1] at r3; cases r3
  cases o with
  | fz d' => cases e2; exact .inl (own_fz.mp w1).2
  | ls ds =>
    cases e2
    obtain ⟨c, us, rfl, rfl, q⟩ := own_ls.mp w1
    exact .inr ⟨c, us, ds, rfl, rfl, sh _ _ one_at, q⟩
  | dk _ => cases e2
  | rs _ => cases e2
  | tr _ => cases e2
end
section
variable {X : Cx} {e o idx : Expr} {es : List Expr} {τ τk τv : EX} {τe : EE} {τo : EO} {τs : EA} {p pos cpos apos : Pos} {id T : String} {cd : List PyData → (O → Prop) → Prop} {x : Str}
theorem ve_el (i : Nat) (ho : PE X o (tVar i)) (hx : PE X idx (lX X.K τ)) (hs : PlainIx idx := by intro _ _; rfl) : PE X (.Subscript o idx pos) (lE X.K (eEl i τ)) :=
  pe_imp (pe_ix ix_list ho hx hs) fun σ H QV ⟨pn, Z, F, Γ, hh, Q, A, ⟨⟨ts0, e0⟩, q⟩, k⟩ => by
    obtain ⟨a, vs0, s0, _, _⟩ := A.root e0
    refine ⟨.ref a, s0, pn, Z, F, Γ, hh, _, A, q, fun F1 Γ1 h1 H1 av y s1 A1 r1 ⟨ts, z, kk, e1, e2, e3, q1⟩ => ?_⟩
    obtain ⟨b, vs, s2, hb, hl⟩ := A1.root e1
    rw [s0] at s2; cases s2
    have hk : kk < vs.length := by rw [hl]; exact ixN_lt e3
    refine ⟨a, vs, z, vs[kk], rfl, (rep_of A1 r1 e2).int, SqL.of hb, ?_, k F1 Γ1 h1 H1 i kk _ s1 A1 ⟨a, vs, s0, hb, List.getElem?_eq_getElem hk⟩ q1⟩
    unfold atI
    rw [hl, e3]
    exact List.getElem?_eq_getElem hk
/-! calls with an element -/
def eCBE (cd : List PyData → (O → Prop) → Prop) (τe : EE) : EO := fun Γ Q => τe Γ fun i k Γ1 => ∃ o d, elG Γ1 i k = some o ∧ elD o = some d ∧ cd [d] fun o => Q o Γ1
theorem cbe_read {σ : St} {H : Hp} {QV : VK} (h : lO X.K (eCBE cd τe) σ H QV) : lE X.K τe σ H fun v H1 => ∃ F ds Q, Same F H1 ∧ RepL X.K F H1 ds [v] ∧ cd ds Q ∧ OpPost X.K F H1 Q QV := by
  obtain ⟨pn, Z, F, Γ, hh, Q, A, q, kk⟩ := h
  exact ⟨pn, Z, F, Γ, hh, _, A, q, fun F1 Γ1 h1 H1 i k v s1 A1 r1 ⟨o, d, e1, e2, q1⟩ => ⟨F1, [d], _, A1.FH, .cons (rep_el A1 r1 e1 e2) .nil, q1, A1.post s1 kk⟩⟩
theorem vo_cbE (hc : CallD X (.builtin id) cd) (hg : Gl X x) (hm : X.mg x = none) (hv : bootBuiltins x = some (.builtin id)) (he : PE X e (lE X.K τe)) (hn : x ≠ "__name__" := by decide) (hdb : (x == ("__debug__" : Str)) = false := by decide)
    (hs : starEach [e] X.env = (false, eval e X.env) :: starEach [] X.env := by rfl) : PE X (.Call (.Name x p) [e] [] pos) (lO X.K (eCBE cd τe)) :=
  pe_imp (pe_callB hc hg hm hv (pa_cons he pa_nil hs) hn hdb hs rfl) fun σ H QV h => cbe_read h
theorem vo_ctyE (hc : CallD X (.type T) cd) (hg : Gl X x) (hm : X.mg x = none) (hv : bootBuiltins x = some (.type T)) (he : PE X e (lE X.K τe)) (hn : x ≠ "__name__" := by decide) (hdb : (x == ("__debug__" : Str)) = false := by decide)
    (hs : starEach [e] X.env = (false, eval e X.env) :: starEach [] X.env := by rfl) : PE X (.Call (.Name x p) [e] [] pos) (lO X.K (eCBE cd τe)) :=
  pe_imp (pe_callTy hc hg hm hv (pa_cons he pa_nil hs) hn hdb hs rfl) fun σ H QV h => cbe_read h
/-! truth of an element -/
def tTruE (τe : EE) : ET := fun Γ Q => τe Γ fun i k Γ1 => ∃ o d c, elG Γ1 i k = some o ∧ elD o = some d ∧ truD d = some c ∧ Q c Γ1
theorem vt_truE (h : PE X e (lE X.K τe)) (he : ∀ whole, isTrue e X.env whole = (do let v ← whole; standAt e.pos; holding [v] (truthy v)) := by intro _; rfl) : PT X e (lT X.K (tTruE τe)) :=
  pt_imp (pt_truth h he) fun σ H QV ⟨pn, Z, F, Γ, hh, Q, A, q, kk⟩ => ⟨pn, Z, F, Γ, hh, _, A, q, fun F1 Γ1 h1 H1 i k v s1 A1 r1 ⟨o, d, c, e1, e2, e3, q1⟩ => ⟨c, tru_of A1.FH (rep_el A1 r1 e1 e2) e3, kk F1 Γ1 h1 H1 c s1 A1 q1⟩⟩
/-! an element frozen and read -/
def xEl (τe : EE) : EX := fun Γ Q => τe Γ fun i k Γ1 => ∃ ts o d Γ2, Γ1[i]? = some (some (.tr ts)) ∧ ts[k]? = some o ∧ o.frz = some d ∧ setG Γ1 i (some (.tr (ts.set k (.fz d)))) = some Γ2 ∧ Q (.d d) Γ2
theorem vx_el (h : PE X e (lE X.K τe)) : PE X e (lX X.K (xEl τe)) := pe_imp h fun σ H QV ⟨pn, Z, F, Γ, hh, Q, A, q, kk⟩ => ⟨pn, Z, F, Γ, hh, _, A, q, fun F1 Γ1 h1 H1 i k v s1 A1 r1 ⟨ts, o, d, Γ2, e1, e2, e3, e4, q1⟩ => by
  obtain ⟨F2, h2, a, vs, u, s2, b1, b2, b3, A2, rd⟩ := A1.frzE e1 e2 e3
  obtain ⟨a', vs', c1, c2, c3⟩ := r1
  rw [b1] at c1; cases c1
  rw [b2] at c2; cases c2
  rw [b3] at c3; cases c3
  rw [(setG_eq e4).1] at A2
  exact kk F2 Γ2 h2 H1 (.d d) _ (s1.trans s2) A2 rd q1⟩
/-! the slot shut while what stands behind is reckoned -/
def lockG (Γ : Ga) (i : Nat) (τ : Ga → (Ga → Prop) → Prop) (Q : Ga → Prop) : Prop := ∃ o Γ1, Γ[i]? = some (some o) ∧ setG Γ i none = some Γ1 ∧ τ Γ1 fun Γ2 => Γ2[i]? = some none ∧ ∃ Γ3, setG Γ2 i (some o) = some Γ3 ∧ Q Γ3
end
section
variable {K : PySem.W.Frag} {pn : List (Nat × V)} {Z F F' : Hp} {Γ Γ1 : Ga} {σ : St} {h hr H H' : Hp} {v : V} {o : O} {d : PyData} {ts : List O} {i k : Nat}
/-- a slot's part kept aside -/
theorem At.lock (A : At K pn Z F Γ σ h H) (e : Γ[i]? = some (some o)) (e2 : setG Γ i none = some Γ1) : ∃ v h1 hk, σ[i]? = some (some v) ∧ At K pn (jn Z hk) F Γ1 σ h1 H ∧ Own K F o v hk ∧ Dis Z hk := by
  obtain ⟨h2, hk, v, s1, w, A'⟩ := A.move e
  rw [(setG_eq e2).1] at A'
  exact ⟨v, h2, hk, s1, A'.keep, w, A'.rZ.symm⟩
theorem At.unlock {hk : Hp} (A : At K pn (jn Z hk) F' Γ σ h H) (d : Dis Z hk) (s : Same F F') (w : Own K F o v hk) (e : σ[i]? = some (some v)) (e2 : setG Γ i (some o) = some Γ1) : ∃ h', At K pn Z F' Γ1 σ h' H := by
  obtain ⟨q1, q2⟩ := setG_eq e2
  obtain ⟨h', A', _⟩ := (A.unkeep d).restore (w.mono s) q2 e
  rw [q1] at A'
  exact ⟨h', A'⟩
/-- what stands in a part kept aside -/
theorem kept_el {hk H1 : Hp} {a : Addr} {vs : List V} {u : V} (w : Own K F o v hk) (s : Same hk H) (s1 : Same hk H1) (e : v = .ref a) (e1 : H a = some (.lst vs)) (et : o = .tr ts) (hl : vs[k]? = some u) : H1 a = some (.lst vs) := by
  subst e; subst et
  obtain ⟨b, ws, h', e2, rfl, _, _⟩ := own_tr.mp w
  cases e2
  have : H a = some (.lst ws) := s _ _ (jn_l one_at)
  rw [e1] at this; cases this
  exact s1 _ _ (jn_l one_at)
end
section
variable {X : Cx} {e o idx : Expr} {es : List Expr} {τ τk τv : EX} {τe : EE} {τo : EO} {τs : EA} {p pos cpos apos : Pos} {id T : String} {cd : List PyData → (O → Prop) → Prop} {x : Str}
/-! slot[k][j] -/
def eIxE (op : PyData → PyData → (O → Prop) → Prop) (τe : EE) (τ : EX) : EO := fun Γ Q => τe Γ fun i k Γ1 => ∃ o1 ts Γ2, o1 = .tr ts ∧ Γ1[i]? = some (some o1) ∧ setG Γ1 i none = some Γ2 ∧ τ Γ2 fun a Γ3 => ∃ el d1 d2 Γ4, rslv Γ3 a = some d2 ∧ ts[k]? = some el ∧ elD el = some d1 ∧ setG Γ3 i (some o1) = some Γ4 ∧ op d1 d2 fun o => Q o Γ4
theorem vo_ixE {opd : PyData → PyData → (O → Prop) → Prop} (ho : Ix2 X opd) (he : PE X e (lE X.K τe)) (hb : PE X idx (lX X.K τ)) (hs : PlainIx idx := by intro _ _; rfl) : PE X (.Subscript e idx pos) (lO X.K (eIxE opd τe τ)) :=
  pe_imp (pe_ix ho he hb hs) fun σ H QV ⟨pn, Z, F, Γ, hh, Q, A, q, kk⟩ => ⟨pn, Z, F, Γ, hh, _, A, q, fun F1 Γ1 h1 H1 i k v s1 A1 r1 ⟨o1, ts, Γ2, et, e1, e2, q1⟩ => by
    subst et
    obtain ⟨u, g1, hk, su, A2, w, dz⟩ := A1.lock e1 e2
    obtain ⟨a, vs, r1, r2, r3⟩ := r1
    refine ⟨pn, _, F1, Γ2, g1, _, A2, q1, fun F3 Γ3 h3 H3 av y s3 A3 r4 ⟨el, d1, d2, Γ4, e3, e4, e5, e6, q2⟩ => ?_⟩
    have ry := rep_of A3 r4 e3
    rw [r1] at su; cases su
    have e8 : H3 a = some (.lst vs) := kept_el w (fun x o z => A2.ZH _ _ (same_r dz _ _ z)) (fun x o z => A3.ZH _ _ (same_r dz _ _ z)) rfl r2 rfl r3
    obtain ⟨h5, A5⟩ := A3.unlock dz s3 w r1 e6
    have eG : elG Γ4 i k = some el := by
      unfold elG
      obtain ⟨x1, x2⟩ := setG_eq e6
      rw [← x1, List.getElem?_set_self x2]
      exact e4
    exact ⟨F3, d1, d2, _, A5.FH, rep_el A5 ⟨a, vs, r1, e8, r3⟩ eG e5, ry, q2, A5.post (s1.trans s3) kk⟩⟩
/-! methods of an element -/
def eSME (sm : SM) (τe : EE) (τs : EA) : EO := fun Γ Q => τe Γ fun i k Γ1 => ∃ o1 ts Γ2 ds, o1 = .tr ts ∧ Γ1[i]? = some (some o1) ∧ setG Γ1 i none = some Γ2 ∧ ts[k]? = some (.ls ds) ∧ τs Γ2 fun as Γ3 => ∃ ads Γ4, unD as = some ads ∧ setG Γ3 i (some o1) = some Γ4 ∧ sm ds ads fun ds' d => ∃ Γ5, setG Γ4 i (some (.tr (ts.set k (.ls ds')))) = some Γ5 ∧ Q (.fz d) Γ5
def eSME0 (sm : SM) (τe : EE) : EO := fun Γ Q => τe Γ fun i k Γ1 => ∃ ts ds, Γ1[i]? = some (some (.tr ts)) ∧ ts[k]? = some (.ls ds) ∧ sm ds [] fun ds' d => ∃ Γ5, setG Γ1 i (some (.tr (ts.set k (.ls ds')))) = some Γ5 ∧ Q (.fz d) Γ5
theorem vo_smE {name : Str} {sm : SM} (slot : Slot "list" name id) (hty : typeOf (.builtin id) = pure (.type "method_descriptor")) (hm : SlotM X id sm) (ho : PE X o (lE X.K τe)) (ha : PA X (e :: es) (lA X.K τs))
    (hbase : attributeBase o name X.env (eval o X.env) = eval o X.env := by rfl)
    (hfew : ((backTo cpos (starEach (e :: es) X.env)).all (fun x => !x.1) && (backToKw cpos (keywordEach [] X.env)).all (fun x => x.1.isSome)
      && decide ((e :: es).length + ([] : List Keyword).length + (if ([] : List Keyword).isEmpty then 0 else 1) < 30)) = true := by rfl)
    (hline : (apos.endLine == cpos.line) = true := by rfl) (hs : starEach (e :: es) X.env = (false, eval e X.env) :: starEach es X.env := by rfl) (hplain : (backTo cpos (starEach es X.env)).any (·.1) = false := by rfl) :
    PE X (.Call (.Attribute o name apos) (e :: es) [] cpos) (lO X.K (eSME sm τe τs)) :=
  pe_imp (pe_bm PySem.F.plainAttrs_list slot hty hm ho ha hbase hfew hline hs hplain) fun σ H QV ⟨pn, Z, F, Γ, hh, Q, A, q, kk⟩ => ⟨pn, Z, F, Γ, hh, _, A, q, fun F1 Γ1 h1 H1 i k v s1 A1 r1 ⟨o1, ts, Γ2, ds, et, e1, e2, e3, q1⟩ => by
    subst et
    obtain ⟨a, vs, r1, r2, r3⟩ := r1
    obtain ⟨a', vs', b, ws, b1, b2, b3, b4, _, _⟩ := A1.changeE e1 e3
    rw [r1] at b1; cases b1
    rw [r2] at b2; cases b2
    rw [r3] at b3; cases b3
    refine ⟨.inl ⟨rfl, ws, SqL.of b4⟩, ?_⟩
    obtain ⟨u, g1, hk, su, A2, w, dz⟩ := A1.lock e1 e2
    refine ⟨pn, _, F1, Γ2, g1, _, A2, q1, fun F3 Γ3 h3 H3 as xs s3 A3 r4 ⟨ads, Γ4, e4, e6, q2⟩ => ?_⟩
    rw [r1] at su; cases su
    have e8 : H3 a = some (.lst vs) := kept_el w (fun x o z => A2.ZH _ _ (same_r dz _ _ z)) (fun x o z => A3.ZH _ _ (same_r dz _ _ z)) rfl r2 rfl r3
    obtain ⟨h5, A5⟩ := A3.unlock dz s3 w r1 e6
    have eG : Γ4[i]? = some (some (.tr ts)) := by
      obtain ⟨x1, x2⟩ := setG_eq e6
      rw [← x1, List.getElem?_set_self x2]
    obtain ⟨a', vs', b', ws', c1, c2, c3, c4, c5, put⟩ := A5.changeE eG e3
    rw [r1] at c1; cases c1
    rw [e8] at c2; cases c2
    rw [r3] at c3; cases c3
    rw [unD_eq e4] at r4
    refine ⟨F3, b, ws', ds, ads, _, rfl, c4, A5.FH, c5, args_d r4, q2, fun vs2 ds2 v2 d2 rr rd ⟨Γ5, eΓ, q3⟩ => ?_⟩
    obtain ⟨h6, A6⟩ := put vs2 ds2 rr
    rw [(setG_eq eΓ).1] at A6
    exact kk F3 _ h6 emp _ (.fz d2) v2 (s1.trans s3) A6.alone ⟨rfl, rd⟩ q3⟩
theorem vo_smE0 {name : Str} {sm : SM} (slot : Slot "list" name id) (hty : typeOf (.builtin id) = pure (.type "method_descriptor")) (hm : SlotM X id sm) (ho : PE X o (lE X.K τe))
    (hbase : attributeBase o name X.env (eval o X.env) = eval o X.env := by rfl) (hline : (apos.endLine == cpos.line) = true := by rfl) :
    PE X (.Call (.Attribute o name apos) [] [] cpos) (lO X.K (eSME0 sm τe)) :=
  pe_imp (pe_bm0 PySem.F.plainAttrs_list slot hty hm ho hbase hline) fun σ H QV ⟨pn, Z, F, Γ, hh, Q, A, q, kk⟩ => ⟨pn, Z, F, Γ, hh, _, A, q, fun F1 Γ1 h1 H1 i k v s1 A1 r1 ⟨ts, ds, e1, e3, q2⟩ => by
    obtain ⟨a, vs, r1, r2, r3⟩ := r1
    obtain ⟨a', vs', b, ws, b1, b2, b3, b4, b5, put⟩ := A1.changeE e1 e3
    rw [r1] at b1; cases b1
    rw [r2] at b2; cases b2
    rw [r3] at b3; cases b3
    refine ⟨.inl ⟨rfl, ws, SqL.of b4⟩, ?_⟩
    refine ⟨F1, b, ws, ds, [], _, rfl, b4, A1.FH, b5, .nil, q2, fun vs2 ds2 v2 d2 rr rd ⟨Γ5, eΓ, q3⟩ => ?_⟩
    obtain ⟨h6, A6⟩ := put vs2 ds2 rr
    rw [(setG_eq eΓ).1] at A6
    exact kk F1 _ h6 emp _ (.fz d2) v2 s1 A6.alone ⟨rfl, rd⟩ q3⟩
/-! slot[k] = v -/
def sPut (i : Nat) (τk : EX) (τv : EO) : ES := fun D Γ => τv Γ fun o Γ1 => (∃ o1, Γ1[i]? = some (some o1) ∧ (∃ ts, o1 = .tr ts ∨ ∃ ds, o1 = .ls ds)) ∧ τk Γ1 fun a Γ2 => ∃ z k Γ3, rslv Γ2 a = some (.int z) ∧
  ((∃ ts, Γ2[i]? = some (some (.tr ts)) ∧ ixN ts.length z = some k ∧ setG Γ2 i (some (.tr (ts.set k o))) = some Γ3) ∨ (∃ ds d, Γ2[i]? = some (some (.ls ds)) ∧ o.frz = some d ∧ ixN ds.length z = some k ∧ setG Γ2 i (some (.ls (ds.set k d))) = some Γ3)) ∧ D.nx Γ3
theorem vs_put {io : Bool} {spos : Pos} (i : Nat) (ho : PE X o (tVar i)) (hk : PE X idx (lX X.K τk)) (hv : PE X e (lO X.K τo))
    (ha : ∀ (v : Value), assign (Expr.Subscript o idx pos) X.env v = (do let ov ← holding [v] (eval o X.env); let iv ← holding [v, ov] (eval idx X.env); standAt pos; holding [v, ov, iv] (setItem ov iv v); release [v, ov, iv] []) := by intro _; rfl)
    (hs : swapsWithSole [Expr.Subscript o idx pos] e spos.line X.env = pure false := by rfl) (hw : swappedStores [Expr.Subscript o idx pos] e X.env = pure none := by rfl)
    (h1 : (assignEach [Expr.Subscript o idx pos] X.env).map (·.2) = [assign (Expr.Subscript o idx pos) X.env] := by rfl) :
    PS X (.Assign [.Subscript o idx pos] e spos) (lS X.K io (sPut i τk τo)) :=
  ps_imp (ps_asg hv (pg_sub ho hk set_list ha) hs hw h1) fun D σ H ⟨v0, Z, F, Γ, h, DD, A, q, kk⟩ => ⟨_, Z, F, Γ, h, _, A, q, fun F1 Γ1 h1 hr1 H1 o1 v s1 A1 w1 ⟨⟨ox, e0, ts0, e0'⟩, q1⟩ => by
    have sl : ∃ a, σ[i]? = some (some (.ref a)) := by
      rcases e0' with rfl | ⟨ds, rfl⟩
      · obtain ⟨a, _, s, _⟩ := A1.at_.root e0
        exact ⟨a, s⟩
      · obtain ⟨a, _, s, _⟩ := A1.at_.changeL e0
        exact ⟨a, s⟩
    obtain ⟨a, sa⟩ := sl
    refine ⟨.ref a, sa, _, jn Z hr1, F1, Γ1, h1, _, A1.keep, q1, fun F2 Γ2 h2 H2 av y s2 A2 r2 ⟨z, k, Γ3, e1, e2, q2⟩ => ?_⟩
    have ry := (rep_of A2 r2 e1).int
    have B := A2.unkeep A1.rZ.symm
    rcases e2 with ⟨ts, e3, e4, e5⟩ | ⟨ds, d, e3, e6, e4, e5⟩
    · obtain ⟨b, vs, b1, b2, b3, h', A3⟩ := B.putT (w1.mono s2) e3 (ixN_lt e4)
      rw [sa] at b1; cases b1
      rw [(setG_eq e5).1] at A3
      exact ⟨a, vs, z, k, rfl, ry, b2, by rw [b3]; exact e4, kk.nx F2 Γ3 σ h' _ (s1.trans s2) A3 q2⟩
    · obtain ⟨F3, s3, A3, rd⟩ := B.frz (w1.mono s2) e6
      obtain ⟨b, vs, b1, b2, b3, put⟩ := A3.changeL e3
      rw [sa] at b1; cases b1
      obtain ⟨h', A4⟩ := put _ _ (RpAll.set rd k b3)
      rw [(setG_eq e5).1] at A4
      exact ⟨a, vs, z, k, rfl, ry, b2, by rw [b3.length]; exact e4, kk.nx F3 Γ3 σ h' _ ((s1.trans s2).trans s3) A4 q2⟩⟩
/-! slot[k][j] = v -/
def sPutE (τe : EE) (τj : EX) (τv : EX) : ES := fun D Γ => τv Γ fun av Γ1 => ∃ d, av = .d d ∧ τe Γ1 fun i k Γ2 => ∃ o1 ts ds Γ3, o1 = .tr ts ∧ Γ2[i]? = some (some o1) ∧ ts[k]? = some (.ls ds) ∧ setG Γ2 i none = some Γ3 ∧ τj Γ3 fun a Γ4 => ∃ z j Γ5, rslv Γ4 a = some (.int z) ∧ ixN ds.length z = some j ∧ setG Γ4 i (some o1) = some Γ5 ∧ ∃ Γ6, setG Γ5 i (some (.tr (ts.set k (.ls (ds.set j d))))) = some Γ6 ∧ D.nx Γ6
theorem vs_putE {io : Bool} {spos : Pos} (ho : PE X o (lE X.K τe)) (hk : PE X idx (lX X.K τk)) (hv : PE X e (lX X.K τv))
    (ha : ∀ (v : Value), assign (Expr.Subscript o idx pos) X.env v = (do let ov ← holding [v] (eval o X.env); let iv ← holding [v, ov] (eval idx X.env); standAt pos; holding [v, ov, iv] (setItem ov iv v); release [v, ov, iv] []) := by intro _; rfl)
    (hs : swapsWithSole [Expr.Subscript o idx pos] e spos.line X.env = pure false := by rfl) (hw : swappedStores [Expr.Subscript o idx pos] e X.env = pure none := by rfl)
    (h1 : (assignEach [Expr.Subscript o idx pos] X.env).map (·.2) = [assign (Expr.Subscript o idx pos) X.env] := by rfl) :
    PS X (.Assign [.Subscript o idx pos] e spos) (lS X.K io (sPutE τe τk τv)) :=
  ps_imp (ps_asg hv (pg_sub ho hk set_list ha) hs hw h1) fun D σ H ⟨v0, Z, F, Γ, h, DD, A, q, kk⟩ => ⟨_, Z, F, Γ, h, _, A, q, fun F1 Γ1 h1 H1 av v s1 A1 rv ⟨d, ed, q1⟩ => by
    subst ed
    refine ⟨_, Z, F1, Γ1, h1, _, A1, q1, fun F2 Γ2 h2 H2 i k u s2 A2 r1 ⟨o1, ts, ds, Γ3, et, e1, e3, e2, q2⟩ => ?_⟩
    subst et
    obtain ⟨a, vs, r1, r2, r3⟩ := r1
    obtain ⟨x, g1, hk, su, A3, w, dz⟩ := A2.lock e1 e2
    refine ⟨_, _, F2, Γ3, g1, _, A3, q2, fun F4 Γ4 h4 H4 aj y s4 A4 rj ⟨z, j, Γ5, ez, ej, e6, Γ6, e7, q3⟩ => ?_⟩
    have ry := (rep_of A4 rj ez).int
    rw [r1] at su; cases su
    have e8 : H4 a = some (.lst vs) := kept_el w (fun x o z => A3.ZH _ _ (same_r dz _ _ z)) (fun x o z => A4.ZH _ _ (same_r dz _ _ z)) rfl r2 rfl r3
    obtain ⟨h5, A5⟩ := A4.unlock dz s4 w r1 e6
    have eG : Γ5[i]? = some (some (.tr ts)) := by
      obtain ⟨x1, x2⟩ := setG_eq e6
      rw [← x1, List.getElem?_set_self x2]
    obtain ⟨a', vs', b', ws', c1, c2, c3, c4, c5, put⟩ := A5.changeE eG e3
    rw [r1] at c1; cases c1
    rw [e8] at c2; cases c2
    rw [r3] at c3; cases c3
    obtain ⟨h6, A6⟩ := put _ _ (RpAll.set (Rp.mono (s2.trans s4) rv) j c5)
    rw [(setG_eq e7).1] at A6
    exact ⟨b', ws', z, j, rfl, ry, c4, by rw [c5.length]; exact ej, kk.nx F4 Γ6 σ h6 _ ((s1.trans s2).trans s4) A6 q3⟩⟩
end
end VL
end
section
namespace VL
open PySem PySem.Spec L2

/-! ### lists of owned parts -/
abbrev EAO := Ga → (List O → Ga → Prop) → Prop
def lAO (K : PySem.W.Frag) (τ : EAO) : TA := fun σ H QV => ∃ pn Z F Γ h Q, At K pn Z F Γ σ h H ∧ τ Γ Q ∧ ∀ F' Γ' h' hr H' os vs, Same F F' → AtR K pn Z F' Γ' σ h' hr H' → OwnT K F' os vs hr → Q os Γ' → QV vs H'
def aoNil : EAO := fun Γ Q => Q [] Γ
def aoCons (τ : EO) (τs : EAO) : EAO := fun Γ Q => τ Γ fun o Γ1 => τs Γ1 fun os Γ2 => Q (o :: os) Γ2
def allFz : List O → Option (List PyData)
  | [] => some []
  | .fz d :: r => match allFz r with
    | some ds => some (d :: ds)
    | none => none
  | _ :: _ => none
theorem allFz_eq : ∀ {os : List O} {ds : List PyData}, allFz os = some ds → os = ds.map .fz
  | [], _, h => by cases h; rfl
  | .fz d :: r, ds, h => by
    unfold allFz at h
    split at h
    · rename_i xs e
      cases h
      rw [allFz_eq e]; rfl
    · cases h
  | .ls _ :: _, _, h => by simp [allFz] at h
  | .dk _ :: _, _, h => by simp [allFz] at h
  | .rs _ :: _, _, h => by simp [allFz] at h
  | .tr _ :: _, _, h => by simp [allFz] at h
def mkL (os : List O) : O := match allFz os with
  | some ds => .ls ds
  | none => .tr os
def eTrL (τs : EAO) : EO := fun Γ Q => τs Γ fun os Γ1 => os.length ≤ sizeLine ∧ Q (mkL os) Γ1
section
variable {K : PySem.W.Frag} {pn : List (Nat × V)} {Z F F' : Hp} {Γ : Ga} {σ : St} {h hr hr' H H' : Hp} {v : V} {o : O} {os ts : List O} {vs : List V} {a : Addr}
theorem AtR.both {hr1 hr2 : Hp} (A : AtR K pn (jn Z hr1) F Γ σ h hr2 H) (d : Dis Z hr1) : AtR K pn Z F Γ σ h (jn hr1 hr2) H ∧ Dis hr1 hr2 := by
  have B := A.at_.unkeep d
  have dZ : Dis hr2 Z := (Dis.sub same_l A.rZ.symm).symm
  have d12 : Dis hr1 hr2 := Dis.sub (same_r d) A.rZ.symm
  exact ⟨⟨B.at_, same_jn B.rH A.rH, Dis.jn B.rh A.rh, Dis.jn B.rF A.rF, Dis.jn B.rZ dZ⟩, d12⟩
theorem own_mk (w : OwnT K F os vs hr) (ha : hr a = none) : Own K F (mkL os) (.ref a) (jn (one a (.lst vs)) hr) := by
  unfold mkL
  split
  · rename_i ds e
    rw [allFz_eq e] at w
    obtain ⟨r, rfl⟩ := ownT_fz.mp w
    rw [jn_emp]
    exact own_ls.mpr ⟨a, vs, rfl, rfl, r⟩
  · exact own_tr.mpr ⟨a, vs, hr, rfl, rfl, dis_one ha, w⟩
/-- a new list over a part beside -/
theorem AtR.newL (A : AtR K pn Z F Γ σ h hr H) (n : H a = none) : AtR K pn Z F Γ σ h (jn (one a (.lst vs)) hr) (upd H a (.lst vs)) ∧ hr a = none := by
  have hra := A.rH.free n
  refine ⟨⟨A.at_.grow (Grow.stay A.at_.FH (same_new n)), same_jn (same_one upd_same) (A.rH.trans (same_new n)), Dis.jn (dis_one (A.at_.hH.free n)) A.rh, Dis.jn (dis_one (A.at_.FH.free n)) A.rF, Dis.jn (dis_one (A.at_.ZH.free n)) A.rZ⟩, hra⟩
theorem own_ls_tr {ds : List PyData} : Own K F (.ls ds) v h ↔ Own K F (.tr (ds.map .fz)) v h := by
  constructor
  · intro w
    obtain ⟨a, vs, rfl, rfl, r⟩ := own_ls.mp w
    exact own_tr.mpr ⟨a, vs, emp, rfl, by rw [jn_emp], Dis.emp.symm, ownT_fz.mpr ⟨r, rfl⟩⟩
  · intro w
    obtain ⟨a, vs, h', rfl, rfl, _, q⟩ := own_tr.mp w
    obtain ⟨r, rfl⟩ := ownT_fz.mp q
    exact own_ls.mpr ⟨a, vs, rfl, by rw [jn_emp], r⟩
theorem At.asT {i : Nat} {ds : List PyData} (A : At K pn Z F Γ σ h H) (e : Γ[i]? = some (some (.ls ds))) : At K pn Z F (Γ.set i (some (.tr (ds.map .fz)))) σ h H := by
  obtain ⟨v, h1, h2, a1, rfl, a3, a4, a5⟩ := A.own.focus e
  have q := a5 F _ v h1 (Same.refl _) (own_ls_tr.mp a4) a3
  rw [set_self a1] at q
  exact ⟨q, A.hH, A.FH, A.ZH, A.FZ, A.hF, A.hZ, A.pin⟩
end
section
variable {X : Cx} {e : Expr} {es : List Expr} {τo : EO} {τs : EAO} {pos : Pos}
theorem vao_nil : PA X [] (lAO X.K aoNil) := pa_imp pa_nil fun σ H QV ⟨pn, Z, F, Γ, hh, Q, A, q, k⟩ => k F Γ hh emp H [] [] (Same.refl _) A.alone (ownT_nil.mpr ⟨rfl, rfl⟩) q
theorem vao_cons (ha : PE X e (lO X.K τo)) (hr : PA X es (lAO X.K τs)) (hs : starEach (e :: es) X.env = (false, eval e X.env) :: starEach es X.env := by rfl) : PA X (e :: es) (lAO X.K (aoCons τo τs)) :=
  pa_imp (pa_cons ha hr hs) fun σ H QV ⟨pn, Z, F, Γ, hh, Q, A, q, k⟩ => ⟨pn, Z, F, Γ, hh, _, A, q, fun F1 Γ1 h1 hr1 H1 o v s1 A1 w1 q1 => ⟨pn, jn Z hr1, F1, Γ1, h1, _, A1.keep, q1, fun F2 Γ2 h2 hr2 H2 os vs s2 A2 w2 q2 => by
    obtain ⟨B, d⟩ := A2.both A1.rZ.symm
    exact k F2 Γ2 h2 _ H2 (o :: os) (v :: vs) (s1.trans s2) B (ownT_cons.mpr ⟨v, vs, hr1, hr2, rfl, rfl, d, w1.mono s2, w2⟩) q2⟩⟩
theorem vo_trL (h : PA X es (lAO X.K τs)) : PE X (.List es pos) (lO X.K (eTrL τs)) :=
  pe_imp (pe_lst h) fun σ H QV ⟨pn, Z, F, Γ, hh, Q, A, q, k⟩ => ⟨pn, Z, F, Γ, hh, _, A, q, fun F1 Γ1 h1 hr1 H1 os vs s1 A1 w1 ⟨z, q1⟩ =>
    ⟨by rw [w1.len]; exact z, fun p n => by
      obtain ⟨B, ha⟩ := A1.newL (vs := vs) n
      exact k F1 Γ1 h1 _ _ (mkL os) _ s1 B (own_mk w1 ha) q1⟩⟩
end

/-! ### methods of a slot's list: its parts may be owned -/
section
variable {X : Cx} {o e : Expr} {τo : EO} {τs : EA} {apos cpos pos p : Pos}
def listG (Γ : Ga) (i : Nat) : Prop := (∃ ds, Γ[i]? = some (some (.ls ds))) ∨ ∃ ts, Γ[i]? = some (some (.tr ts))
theorem listG_at {K : PySem.W.Frag} {pn : List (Nat × V)} {Z F : Hp} {Γ : Ga} {σ : St} {h H : Hp} {i : Nat} (A : At K pn Z F Γ σ h H) (l : listG Γ i) : ∃ a vs, σ[i]? = some (some (.ref a)) ∧ H a = some (.lst vs) := by
  rcases l with ⟨ds, e⟩ | ⟨ts, e⟩
  · obtain ⟨a, vs, e1, e2, _, _⟩ := A.changeL e
    exact ⟨a, vs, e1, e2⟩
  · obtain ⟨a, vs, e1, e2, _⟩ := A.root e
    exact ⟨a, vs, e1, e2⟩
/-- xs.append(e): t tells whether xs is to be a tree -/
def appO (t : Bool) (i : Nat) (o : O) (Γ1 : Ga) (Q : O → Ga → Prop) : Prop := match Γ1[i]? with
  | some (some (.ls ds)) => ds.length < sizeLine ∧ (if t = true then ∃ Γ2, setG Γ1 i (some (.tr (ds.map .fz ++ [o]))) = some Γ2 ∧ Q (.fz .none) Γ2 else ∃ d, o.frz = some d ∧ ∃ Γ2, setG Γ1 i (some (.ls (ds ++ [d]))) = some Γ2 ∧ Q (.fz .none) Γ2)
  | some (some (.tr ts)) => ts.length < sizeLine ∧ ∃ Γ2, setG Γ1 i (some (.tr (ts ++ [o]))) = some Γ2 ∧ Q (.fz .none) Γ2
  | _ => False
def eApp (t : Bool) (i : Nat) (τo : EO) : EO := fun Γ Q => listG Γ i ∧ τo Γ fun o Γ1 => appO t i o Γ1 Q
theorem vo_app (t : Bool) (i : Nat) (ho : PE X o (tVar i)) (ha : PE X e (lO X.K τo))
    (hbase : attributeBase o "append" X.env (eval o X.env) = eval o X.env := by rfl)
    (hfew : ((backTo cpos (starEach [e] X.env)).all (fun x => !x.1) && (backToKw cpos (keywordEach [] X.env)).all (fun x => x.1.isSome)
      && decide ([e].length + ([] : List Keyword).length + (if ([] : List Keyword).isEmpty then 0 else 1) < 30)) = true := by rfl)
    (hline : (apos.endLine == cpos.line) = true := by rfl) (hs : starEach [e] X.env = (false, eval e X.env) :: starEach [] X.env := by rfl) :
    PE X (.Call (.Attribute o "append" apos) [e] [] cpos) (lO X.K (eApp t i τo)) :=
  pe_imp (pe_bm PySem.F.plainAttrs_list PySem.F.slot_list_append PySem.F.type_list_append mt_append ho (pa_cons ha pa_nil hs) hbase hfew hline hs) fun σ H QV ⟨pn, Z, F, Γ, hh, Q, A, ⟨l, q⟩, k⟩ => by
    obtain ⟨a, vs, e1, e2⟩ := listG_at A l
    refine ⟨.ref a, e1, .inl ⟨rfl, vs, SqL.of e2⟩, pn, Z, F, Γ, hh, _, A, q, fun F1 Γ1 h1 hr H1 o v s1 A1 w q1 => ?_⟩
    unfold appO at q1
    split at q1
    · rename_i ds eG
      obtain ⟨hl, q1⟩ := q1
      cases t with
      | true =>
        rw [if_pos rfl] at q1
        obtain ⟨Γ2, eΓ, q2⟩ := q1
        have A2 : AtR X.K pn Z F1 (Γ1.set i (some (.tr (ds.map .fz)))) σ h1 hr H1 := ⟨A1.at_.asT eG, A1.rH, A1.rh, A1.rF, A1.rZ⟩
        obtain ⟨z1, z2⟩ := setG_eq eΓ
        obtain ⟨b, ws, b1, b2, b3, h', A3⟩ := A2.pushT w (List.getElem?_set_self z2)
        rw [e1] at b1; cases b1
        rw [List.set_set, z1] at A3
        exact ⟨a, ws, v, rfl, rfl, b2, by rw [b3, List.length_map]; exact hl, k F1 Γ2 h' emp _ (.fz .none) .non s1 A3.alone ⟨rfl, .non⟩ q2⟩
      | false =>
        rw [if_neg Bool.false_ne_true] at q1
        obtain ⟨d, ed, Γ2, eΓ, q2⟩ := q1
        obtain ⟨F2, s2, A2, rd⟩ := A1.frz w ed
        obtain ⟨b, ws, b1, b2, b3, put⟩ := A2.changeL eG
        rw [e1] at b1; cases b1
        obtain ⟨h', A3⟩ := put _ _ (b3.append (.one rd))
        rw [(setG_eq eΓ).1] at A3
        exact ⟨a, ws, v, rfl, rfl, b2, by rw [b3.length]; exact hl, k F2 Γ2 h' emp _ (.fz .none) .non (s1.trans s2) A3.alone ⟨rfl, .non⟩ q2⟩
    · rename_i ts eG
      obtain ⟨hl, Γ2, eΓ, q2⟩ := q1
      obtain ⟨b, ws, b1, b2, b3, h', A3⟩ := A1.pushT w eG
      rw [e1] at b1; cases b1
      rw [(setG_eq eΓ).1] at A3
      exact ⟨a, ws, v, rfl, rfl, b2, by rw [b3]; exact hl, k F1 Γ2 h' emp _ (.fz .none) .non s1 A3.alone ⟨rfl, .non⟩ q2⟩
    · exact q1.elim
theorem erase_last {α : Type} (l : List α) : l.eraseIdx (l.length - 1) = l.dropLast := by
  rw [List.dropLast_eq_take]
  rcases List.eq_nil_or_concat l with rfl | ⟨l', x, rfl⟩
  · rfl
  · rw [List.eraseIdx_eq_take_drop_succ]
    simp
/-- xs.pop() -/
def ePop (i : Nat) : EO := fun Γ Q => match Γ[i]? with
  | some (some (.ls ds)) => ∃ x Γ2, ds[ds.length - 1]? = some x ∧ setG Γ i (some (.ls ds.dropLast)) = some Γ2 ∧ Q (.fz x) Γ2
  | some (some (.tr ts)) => ∃ x Γ2, ts[ts.length - 1]? = some x ∧ setG Γ i (some (.tr ts.dropLast)) = some Γ2 ∧ Q x Γ2
  | _ => False
theorem vo_pop (i : Nat) (ho : PE X o (tVar i)) (hbase : attributeBase o "pop" X.env (eval o X.env) = eval o X.env := by rfl) (hline : (apos.endLine == cpos.line) = true := by rfl) : PE X (.Call (.Attribute o "pop" apos) [] [] cpos) (lO X.K (ePop i)) :=
  pe_imp (pe_bm0 PySem.F.plainAttrs_list PySem.F.slot_list_pop PySem.F.type_list_pop mt_pop ho hbase hline) fun σ H QV ⟨pn, Z, F, Γ, hh, Q, A, q, k⟩ => by
    unfold ePop at q
    split at q
    · rename_i ds eG
      obtain ⟨x, Γ2, ex, eΓ, q⟩ := q
      obtain ⟨a, vs, b1, b2, b3, put⟩ := A.changeL eG
      obtain ⟨w, hw, rw'⟩ := b3.getd ex
      obtain ⟨h', A3⟩ := put _ _ b3.dropLast
      rw [(setG_eq eΓ).1] at A3
      exact ⟨.ref a, b1, .inl ⟨rfl, vs, SqL.of b2⟩, a, vs, w, rfl, rfl, b2, by rw [b3.length]; exact hw, k F Γ2 h' emp _ (.fz x) w (Same.refl _) A3.alone ⟨rfl, rw'⟩ q⟩
    · rename_i ts eG
      obtain ⟨x, Γ2, ex, eΓ, q⟩ := q
      obtain ⟨a, vs, v, b1, b2, b3, b4, h', hr, A3, w⟩ := A.takeT eG ex
      have e3 : ts.eraseIdx (ts.length - 1) = ts.dropLast := erase_last ts
      have e4 : vs.eraseIdx (ts.length - 1) = vs.dropLast := by rw [← b3]; exact erase_last vs
      rw [e3, e4, (setG_eq eΓ).1] at A3
      exact ⟨.ref a, b1, .inl ⟨rfl, vs, SqL.of b2⟩, a, vs, v, rfl, rfl, b2, by rw [b3]; exact b4, k F Γ2 h' hr _ x v (Same.refl _) A3 w q⟩
    · exact q.elim
/-- len(xs) -/
def eLenS (i : Nat) : EO := fun Γ Q => match Γ[i]? with
  | some (some (.tr ts)) => Q (.fz (.int (ts.length : Nat))) Γ
  | _ => ∃ d, rslv Γ (.s i) = some d ∧ cdLen [d] fun o => Q o Γ
theorem vo_lenS (i : Nat) (hg : Gl X "len") (hm : X.mg "len" = none) (ho : PE X o (tVar i)) (hs : starEach [o] X.env = (false, eval o X.env) :: starEach [] X.env := by rfl) : PE X (.Call (.Name "len" p) [o] [] pos) (lO X.K (eLenS i)) := by
  refine pe_imp (pe_callB (id := "len") (r := fun vs H Q => (∃ a vs', vs = [.ref a] ∧ H a = some (.lst vs') ∧ Q (.int (vs'.length : Nat)) H) ∨ ∃ F ds Q', Same F H ∧ RepL X.K F H ds vs ∧ cdLen ds Q' ∧ OpPost X.K F H Q' Q) ?_ hg hm (by decide +kernel) (pa_cons ho pa_nil hs) (by decide) (by decide) hs rfl) ?_
  · intro pins s σ H xs us Q I rx h
    rcases h with ⟨a, vs', rfl, ha, q⟩ | h
    · exact call_len_seq pins s σ H _ us Q I rx ⟨a, vs', rfl, .inl (SqL.of ha), q⟩
    · exact cd_len pins s σ H xs us Q I rx h
  · intro σ H QV ⟨pn, Z, F, Γ, hh, Q, A, q, k⟩
    unfold eLenS at q
    split at q
    · rename_i ts eG
      obtain ⟨a, vs, e1, e2, e3⟩ := A.root eG
      exact ⟨.ref a, e1, .inl ⟨a, vs, rfl, e2, by rw [e3]; exact k F Γ hh emp H (.fz (.int (ts.length : Nat))) _ (Same.refl _) A.alone ⟨rfl, .int _⟩ q⟩⟩
    · obtain ⟨d, ed, q⟩ := q
      have : ∃ v, σ[i]? = some (some v) := by
        cases e2 : Γ[i]? with
        | none => simp [rslv, e2] at ed
        | some y =>
          cases y with
          | none => simp [rslv, e2] at ed
          | some o =>
            obtain ⟨v, h1, s1, _⟩ := A.slot e2
            exact ⟨v, s1⟩
      obtain ⟨v, sv⟩ := this
      exact ⟨v, sv, .inr ⟨F, [d], _, A.FH, .cons (rep_of A (a := .s i) sv ed) .nil, q, A.post (Same.refl _) k⟩⟩
end

/-! ### a comprehension whose items are owned -/
def eLcO (τi : EI) (g : EG) (tt : ET) (te : EO) (vs : List Nat) : EO := fun Γ Q => τi Γ fun ds Γ1 => Plain Γ1 vs ∧ ∃ I : Nat → List O → Ga → Prop, I 0 [] Γ1 ∧
  (∀ i d acc Γ', ds[i]? = some d → I i acc Γ' → (∀ j ∈ vs, Γ'[j]? = Γ1[j]?) → ∃ Γw, nrm (wipeG Γ' vs) = some Γw ∧ g d Γw fun Γ2 => tt Γ2 fun b Γ3 => Br b (te Γ3 fun o Γ4 => acc.length < sizeLine ∧ ∃ Γb, nrm (backG Γ1 Γ4 vs) = some Γb ∧ I (i + 1) (acc ++ [o]) Γb) (∃ Γb, nrm (backG Γ1 Γ3 vs) = some Γb ∧ I (i + 1) acc Γb)) ∧
  ∀ acc Γ', I ds.length acc Γ' → Q (.tr acc) Γ'
theorem lcO_read {K : PySem.W.Frag} {τi : EI} {g : EG} {tt : ET} {te : EO} {ws vs : List Nat} (hw : ∀ i ∈ ws, i ∈ vs) {σ : St} {H : Hp} {QV : VK} (hh : lO K (eLcO τi g tt te vs) σ H QV) : tLc (lI K τi) (lG K false ws g) (lT K tt) (lO K te) vs σ H QV := by
  obtain ⟨pn, Z, F, Γ, h, Q, A, q, k⟩ := hh
  refine ⟨pn, Z, F, Γ, h, _, A, q, fun F1 Γ1 h1 H1 J ds s1 A1 ok ⟨pl, I, i0, turn, fin⟩ D hD => ?_⟩
  have l1 := A1.own.len
  refine ⟨fun i m H' => m = ds.length - i ∧ i ≤ ds.length ∧ ∃ F' Γ' h' acc xs hT, Same F1 F' ∧ AtR K pn Z F' Γ' σ h' (jn (VL.one D (.lst xs)) hT) H' ∧ hT D = none ∧ OwnT K F' acc xs hT ∧ (∀ j ∈ vs, Γ'[j]? = Γ1[j]?) ∧ I i acc Γ',
    ⟨ds.length, by simp, Nat.zero_le _, F1, Γ1, h1, [], [], emp, Same.refl _, (A1.alone.newL hD).1, rfl, ownT_nil.mpr ⟨rfl, rfl⟩, fun _ _ => rfl, i0⟩, ?_⟩
  rintro i m H2 ⟨rfl, hi, F2, Γ2, h2, acc, xs, hT, s2, A2, tD, ra, sl, w2⟩
  by_cases hlt : i < ds.length
  · refine .inr ⟨ok.go F2 H2 i s2 A2.at_.FH hlt, fun H' => ∃ F' Γ' h' acc xs hT, Same F1 F' ∧ AtR K pn Z F' Γ' σ h' (jn (VL.one D (.lst xs)) hT) H' ∧ hT D = none ∧ OwnT K F' acc xs hT ∧ (∀ j ∈ vs, Γ'[j]? = Γ1[j]?) ∧ I (i + 1) acc Γ',
      fun H' ⟨F', Γ', h', acc', xs', hT', s', A', tD', r', sl', w'⟩ => ⟨ds.length - (i + 1), by omega, rfl, hlt, F', Γ', h', acc', xs', hT', s', A', tD', r', sl', w'⟩, fun x H' y => ?_⟩
    obtain ⟨F3, d, g3, e3, r3⟩ := ok.yld F2 H2 i x H' s2 A2.at_.FH hlt y
    have B : At K pn (jn Z (jn (VL.one D (.lst xs)) hT)) F3 Γ2 σ h2 H' := (AtR.keep A2).grow g3
    obtain ⟨h2', sw, ow⟩ := B.own.wipe vs
    have C : At K (pns false .non) (jn Z (jn (VL.one D (.lst xs)) hT)) F3 (wipeG Γ2 vs) (wipe σ vs) h2' H' := ⟨ow, sw.trans B.hH, B.FH, B.ZH, B.FZ, Dis.sub sw B.hF, Dis.sub sw B.hZ, fun p hp => nomatch hp⟩
    have dZ : Dis Z (jn (VL.one D (.lst xs)) hT) := A2.rZ.symm
    obtain ⟨Γw, eΓw, tq⟩ := turn i d acc Γ2 e3 w2 sl
    rw [nrm_eq eΓw] at C
    refine ⟨.non, _, F3, _, h2', d, _, C, r3, tq, fun F4 Γ4 σ4 h4 H4 s4 o4 A4 q4 => ⟨by rw [o4 vs hw]; exact lc_read.wipe_wipe σ vs, ?_⟩⟩
    have wσ : wipe σ4 vs = wipe σ vs := by rw [o4 vs hw]; exact lc_read.wipe_wipe σ vs
    have back : ∀ Z0 F5 Γ5 h5 H5, Same F4 F5 → At K (pns false .non) Z0 F5 Γ5 σ4 h5 H5 → ∃ h6, Same h6 h5 ∧ At K pn Z0 F5 (backG Γ1 Γ5 vs) σ h6 H5 ∧ ∀ j ∈ vs, (backG Γ1 Γ5 vs)[j]? = Γ1[j]? := fun Z0 F5 Γ5 h5 H5 s5 A5 => by
      have sF : Same F2 F5 := (g3.fs.trans s4).trans s5
      have lσ : σ.length = σ4.length := (len_wipe wσ).symm
      have l5 : Γ1.length = Γ5.length := by rw [A5.own.len, ← lσ, ← l1]
      obtain ⟨h6, σ6, s6, w6, n6, in6, out6⟩ := A5.own.back (Γ0 := Γ1) (σ0 := σ) vs (fun j hj => by
        rcases pl j hj with e | ⟨d, e⟩
        · exact .inl e
        · obtain ⟨u, e2, r⟩ := A2.at_.own.get (show Γ2[j]? = some (some (.fz d)) by rw [sl j hj]; exact e)
          exact .inr ⟨d, u, e, e2, Rp.mono sF r⟩) lσ l5
      have eσ : σ6 = σ := by
        apply List.ext_getElem?
        intro j
        by_cases hj : j ∈ vs
        · exact in6 j hj
        · rw [out6 j hj, out_wipe wσ hj]
      subst eσ
      refine ⟨h6, s6, ⟨w6, s6.trans A5.hH, A5.FH, A5.ZH, A5.FZ, Dis.sub s6 A5.hF, Dis.sub s6 A5.hZ, A2.at_.pin⟩, fun j hj => backG_get l5 hj⟩
    refine ⟨_, _, F4, Γ4, h4, _, A4, q4, fun F5 Γ5 h5 H5 b s5 A5 q5 => ?_⟩
    have q5 := of_br q5
    have s25 : Same F2 F5 := (g3.fs.trans s4).trans s5
    cases b with
    | false =>
      obtain ⟨h6, _, A6, sl6⟩ := back _ F5 Γ5 h5 H5 s5 A5
      obtain ⟨Γb, eb, q5⟩ := q5
      rw [nrm_eq eb] at A6 sl6
      exact ⟨F5, _, h6, acc, xs, hT, s2.trans s25, A6.unkeep dZ, tD, ra.mono s25, sl6, q5⟩
    | true =>
      refine iteT ⟨_, _, F5, Γ5, h5, _, A5, q5, fun F6 Γ6 h6 hr6 H6 o v s6 A6 w6 ⟨z6, Γb, eb, q6⟩ => ?_⟩
      obtain ⟨h7, s7, A7, sl7⟩ := back _ F6 Γ6 h6 H6 (s5.trans s6) A6.at_
      rw [nrm_eq eb] at A7 sl7
      have R7 : AtR K pn (jn Z (jn (VL.one D (.lst xs)) hT)) F6 Γb σ h7 hr6 H6 := ⟨A7, A6.rH, (Dis.sub s7 A6.rh.symm).symm, A6.rF, A6.rZ⟩
      obtain ⟨R8, d8⟩ := R7.both dZ
      have s26 := s25.trans s6
      have ra6 : OwnT K F6 acc xs hT := ra.mono s26
      have dT : Dis hT hr6 := Dis.sub (same_r (dis_one tD)) d8
      have dD : hr6 D = none := of_dis_one (Dis.sub same_l d8)
      have hD6 : H6 D = some (.lst xs) := R8.rH _ _ (same_l _ _ (same_l _ _ one_at))
      refine ⟨xs, hD6, by rw [ra.len]; exact z6, F6, _, h7, acc ++ [o], xs ++ [v], jn hT hr6, s2.trans s26, ?_, by rw [jn_r tD]; exact dD, ra6.app w6 dT, sl7, q6⟩
      have s1' : Same (VL.one D (.lst xs)) (jn (jn (VL.one D (.lst xs)) hT) hr6) := fun x u z => same_l _ _ (same_l _ _ z)
      have sT' : Same hT (jn (jn (VL.one D (.lst xs)) hT) hr6) := fun x u z => same_l _ _ (same_r (dis_one tD) _ _ z)
      have s6' : Same hr6 (jn (jn (VL.one D (.lst xs)) hT) hr6) := same_r d8
      have nF : F6 D = none := of_dis_one (Dis.sub s1' R8.rF)
      have nZ : Z D = none := of_dis_one (Dis.sub s1' R8.rZ)
      have nh : h7 D = none := of_dis_one (Dis.sub s1' R8.rh)
      exact ⟨⟨R8.at_.own, keepU nh R8.at_.hH, keepU nF R8.at_.FH, keepU nZ R8.at_.ZH, R8.at_.FZ, R8.at_.hF, R8.at_.hZ, R8.at_.pin⟩, same_jn (same_one upd_same) (same_jn (keepU tD (sT'.trans R8.rH)) (keepU dD (s6'.trans R8.rH))), Dis.jn (dis_one nh) (Dis.jn (Dis.sub sT' R8.rh) (Dis.sub s6' R8.rh)), Dis.jn (dis_one nF) (Dis.jn (Dis.sub sT' R8.rF) (Dis.sub s6' R8.rF)), Dis.jn (dis_one nZ) (Dis.jn (Dis.sub sT' R8.rZ) (Dis.sub s6' R8.rZ))⟩
  · have e : i = ds.length := by omega
    subst e
    refine .inl ⟨ok.stop F2 H2 _ s2 A2.at_.FH (Nat.le_refl _), ?_⟩
    exact k F2 Γ2 h2 _ H2 (.tr acc) (.ref D) (s1.trans s2) A2 (own_tr.mpr ⟨D, xs, hT, rfl, rfl, dis_one tD, ra⟩) (fin acc Γ2 w2)
section
variable {X : Cx} {elt tg iter : Expr} {ifs : List Expr} {scope : Scope} {own : List (Str × Nat)} {pos : Pos} {ws : List Nat} {τi : EI} {g : EG} {tt : ET} {te : EO}
theorem vo_lcO (hc : X.calm = true) (hN : X.N.Nodup) (hi : PI X tg iter (lI X.K τi)) (ok : BlkOk X.N X.env.scope scope own)
    (hg : ∀ (s : Shared) (H : Hp) (C : Addr) (cl : List (Str × Addr)) (fp : List Addr), PG (X.blk s H scope (compEnvC scope cl C X.env) fp) tg (lG X.K false ws g)) (hw : ∀ i ∈ ws, i ∈ own.map (·.2))
    (ht : ∀ (s : Shared) (H : Hp) (C : Addr) (cl : List (Str × Addr)) (fp : List Addr), PTs (X.blk s H scope (compEnvC scope cl C X.env) fp) ifs (lT X.K tt))
    (he : ∀ (s : Shared) (H : Hp) (C : Addr) (cl : List (Str × Addr)) (fp : List Addr), PE (X.blk s H scope (compEnvC scope cl C X.env) fp) elt (lO X.K te)) (hs : ∀ x, foldedSetIterable iter X.env x = pure x := by intro _; rfl) :
    PE X (.ListComp elt [⟨tg, iter, ifs, 0⟩] scope pos) (lO X.K (eLcO τi g tt te (own.map (·.2)))) :=
  pe_imp (pe_lc hc hN hi ok hg ht he hs) fun σ H QV h => lcO_read hw h
theorem vs_setLcO {io : Bool} {i : Nat} {y : Str} {py spos : Pos} (hc : X.calm = true) (hN : X.N.Nodup) (hy : X.N[i]? = some y) (hyl : X.env.scope.names.lookup y = some .local) (h0 : io = true → i ≠ 0)
    (hsw : swapsWith (.ListComp elt [⟨tg, iter, ifs, 0⟩] scope pos) (some (.Name y py)) spos.line X.env = pure true) (hi : PI X tg iter (lI X.K τi)) (ok : BlkOk X.N X.env.scope scope own)
    (hg : ∀ (s : Shared) (H : Hp) (C : Addr) (cl : List (Str × Addr)) (fp : List Addr), PG (X.blk s H scope (compEnvC scope cl C X.env) fp) tg (lG X.K false ws g)) (hw : ∀ i ∈ ws, i ∈ own.map (·.2))
    (ht : ∀ (s : Shared) (H : Hp) (C : Addr) (cl : List (Str × Addr)) (fp : List Addr), PTs (X.blk s H scope (compEnvC scope cl C X.env) fp) ifs (lT X.K tt))
    (he : ∀ (s : Shared) (H : Hp) (C : Addr) (cl : List (Str × Addr)) (fp : List Addr), PE (X.blk s H scope (compEnvC scope cl C X.env) fp) elt (lO X.K te)) (hs : ∀ x, foldedSetIterable iter X.env x = pure x := by intro _; rfl) :
    PS X (.Assign [.Name y py] (.ListComp elt [⟨tg, iter, ifs, 0⟩] scope pos) spos) (lS X.K io (sSet i (eLcO τi g tt te (own.map (·.2))))) :=
  ps_imp (ps_setLc hc hN hy hyl hsw hi ok hg ht he hs) fun D σ H ⟨v0, Z, F, Γ, h, DD, A, q, k⟩ => lcO_read (K := X.K) hw (QV := fun x H1 => gName i x σ H1 D.nx) ⟨_, Z, F, Γ, h, _, A, q, fun F' Γ' h' hr H' o v s A' w ⟨Γ2, eΓ, q'⟩ => by
    obtain ⟨e1, hl⟩ := setG_eq eΓ
    obtain ⟨h2, A2⟩ := A'.store w hl (pns_ne h0)
    rw [e1] at A2
    exact k.nx F' _ _ h2 H' s A2 q'⟩
end
end VL
end
section
namespace VL
open PySem PySem.Spec L2

/-! ### sorted -/
def SortOk (ds : List PyData) : Prop := PySem.W.AllAlike ds ∧ PySem.W.Sortable ds ∧ ds.length ≤ sizeLine ∧ ∀ d ∈ ds, d.canLay0 = true ∧ d.depth ≤ 60
def cdSorted : List PyData → (O → Prop) → Prop
  | [.list ds], Q => SortOk ds ∧ Q (.ls (ds.mergeSort (PySem.W.dataLe false id)))
  | _, _ => False
theorem each_rp {K : PySem.W.Frag} {F : Hp} : ∀ {vs : List V} {us : List Value} {ds : List PyData}, Vals vs us → RpAll K F vs ds → PySem.W.EachIs (fun u d => ∃ x, RelV x u ∧ Rp K F x d) us ds
  | _, _, _, .nil, .nil => .nil
  | _, _, _, .cons h t, .cons r q => .cons ⟨_, h, r⟩ (each_rp t q)
theorem rp_each {K : PySem.W.Frag} {F : Hp} : ∀ {us : List Value} {ds : List PyData}, PySem.W.EachIs (fun u d => ∃ x, RelV x u ∧ Rp K F x d) us ds → ∃ vs, Vals vs us ∧ RpAll K F vs ds
  | _, _, .nil => ⟨[], .nil, .nil⟩
  | _, _, .cons ⟨x, h, r⟩ t => by
    obtain ⟨vs, a, b⟩ := rp_each t
    exact ⟨x :: vs, .cons h a, .cons r b⟩
theorem each_reads {X : Cx} {pins : List (Addr × Obj)} {σ : St} {H F : Hp} {s : Shared} (I : Inv X pins σ H s) (sF : Same F H) : ∀ {vs : List V} {us : List Value} {ds : List PyData}, Vals vs us → RpAll X.K F vs ds → (∀ d ∈ ds, d.canLay0 = true) → PySem.W.EachIs (fun u d => ∃ as, Reads s.heap u (id d) as) us ds
  | _, _, _, .nil, .nil, _ => .nil
  | _, _, _, .cons h t, .cons r q, c => .cons (Dp.reads I _ _ _ (Rp.dp _ (Rp.mono sF r) (c _ (by simp))) h) (each_reads I sF t q fun d hd => c d (by simp [hd]))
section
variable {X : Cx}
theorem cd_sorted (hu : X.A.units + 64 < cLine) : CallD X (.builtin "sorted") cdSorted := by
  intro pins s σ H xs us QV I rx ⟨F, ds, Q, sF, rl, h, post⟩
  unfold cdSorted at h
  split at h
  · rename_i ds
    obtain ⟨v, rfl, r⟩ := rl.one'
    obtain ⟨a, vs, rfl, ha, ra⟩ := r.list sF
    obtain ⟨⟨k1, k2, k3, k4⟩, q⟩ := h
    obtain ⟨its, rv, hl, hz⟩ := I.list (SqL.of ha)
    rw [Vals.ref1 rx]
    refine PySem.W.sorted_data (enc := id) (R := fun u d => ∃ x, RelV x u ∧ Rp X.K F x d) (bs := ds) hl.isList (each_rp rv ra) (each_reads I sF rv ra fun d hd => (k4 d hd).1) (by rw [List.map_id]; exact k1) (by rw [List.map_id]; exact k2) k3 (fun d hd => ?_) fun out ho e => ?_
    · have := (k4 d hd).2
      show X.A.units + 2 + d.depth < cLine
      omega
    · obtain ⟨ws, w1, w2⟩ := rp_each e
      obtain ⟨ep, he'⟩ := PyProof.Rows.sortedAll_at s.heap its out.toArray
      have hlen : ws.length ≤ sizeLine := by rw [w2.length, List.length_mergeSort]; exact k3
      exact ⟨.ref _, upd H (s.heap.objs.size + 1) (.lst ws), I.laid (t' := s.toks) (fun _ _ => PyProof.Rows.sortedAll_old) (Nat.le_succ _) ⟨hlen, out, ep, w1, he'⟩, rfl, post.newL sF (I.hok.fresh (Nat.le_succ _)) w2 q⟩
  · exact h.elim
end

/-! ### dicts keyed by whole numbers, texts -/
theorem kD_inj {a b : Key} (e : kD a = kD b) : a = b := by
  cases a <;> cases b <;> simp_all [kD]
theorem rp_key {K : PySem.W.Frag} {F H : Hp} {k : Key} {v : V} (r : RepS K F H (kD k) v) : v = kV k := by
  cases k with
  | inl i => exact r.int
  | inr x => exact r.str
def kGet (kk : List (Key × PyData)) (k : Key) : Option PyData := (kk.find? fun p => decide (p.1 = k)).map (·.2)
def kPut (kk : List (Key × PyData)) (k : Key) (d : PyData) : List (Key × PyData) := if (kk.any fun p => decide (p.1 = k)) = true then kk.map fun p => if p.1 = k then (p.1, d) else p else kk ++ [(k, d)]
def kMerge (kk more : List (Key × PyData)) : List (Key × PyData) := more.foldl (fun acc p => kPut acc p.1 p.2) kk
section
variable {K : PySem.W.Frag} {F : Hp}
theorem kvAll_nil : KvAll K F [] [] := ⟨rfl, .nil⟩
theorem kvAll_cons {p : Key × V} {q : Key × PyData} {kv : List (Key × V)} {kk : List (Key × PyData)} : KvAll K F (p :: kv) (q :: kk) ↔ p.1 = q.1 ∧ Rp K F p.2 q.2 ∧ KvAll K F kv kk := by
  constructor
  · rintro ⟨e, r⟩
    simp only [List.map_cons, List.cons.injEq] at e
    cases r with
    | cons r1 r2 => exact ⟨e.1, r1, e.2, r2⟩
  · rintro ⟨e, r1, e2, r2⟩
    exact ⟨by simp [e, e2], .cons r1 r2⟩
theorem KvAll.cases : ∀ {kv : List (Key × V)} {kk : List (Key × PyData)}, KvAll K F kv kk → kv.length = kk.length := fun h => by
  have := congrArg List.length h.1
  simpa using this
theorem kv_get {k : Key} : ∀ {kv : List (Key × V)} {kk : List (Key × PyData)}, KvAll K F kv kk → (valV kv k = none ∧ kGet kk k = none) ∨ ∃ v d, valV kv k = some v ∧ kGet kk k = some d ∧ Rp K F v d
  | [], [], _ => .inl ⟨rfl, rfl⟩
  | [], _ :: _, h => by have := h.cases; simp at this
  | _ :: _, [], h => by have := h.cases; simp at this
  | p :: kv, q :: kk, h => by
    obtain ⟨e, r, t⟩ := kvAll_cons.mp h
    unfold valV kGet
    by_cases z : p.1 = k
    · have z2 : q.1 = k := e ▸ z
      rw [List.find?_cons_of_pos (by simpa using z), List.find?_cons_of_pos (by simpa using z2)]
      exact .inr ⟨p.2, q.2, rfl, rfl, r⟩
    · have z2 : ¬ q.1 = k := e ▸ z
      rw [List.find?_cons_of_neg (by simpa using z), List.find?_cons_of_neg (by simpa using z2)]
      exact kv_get t
theorem kv_any {k : Key} {kv : List (Key × V)} {kk : List (Key × PyData)} (h : KvAll K F kv kk) : (kv.any fun p => decide (p.1 = k)) = (kk.any fun p => decide (p.1 = k)) := by
  have e := h.1
  have a : (kv.any fun p => decide (p.1 = k)) = (kv.map (·.1)).any fun x => decide (x = k) := by rw [List.any_map]; rfl
  have b : (kk.any fun p => decide (p.1 = k)) = (kk.map (·.1)).any fun x => decide (x = k) := by rw [List.any_map]; rfl
  rw [a, b, e]
theorem kv_app {kv kv2 : List (Key × V)} {kk kk2 : List (Key × PyData)} (h : KvAll K F kv kk) (h2 : KvAll K F kv2 kk2) : KvAll K F (kv ++ kv2) (kk ++ kk2) :=
  ⟨by rw [List.map_append, List.map_append, h.1, h2.1], by rw [List.map_append, List.map_append]; exact h.2.append h2.2⟩
theorem kv_map {k : Key} {v : V} {d : PyData} (r : Rp K F v d) : ∀ {kv : List (Key × V)} {kk : List (Key × PyData)}, KvAll K F kv kk → KvAll K F (kv.map fun p => if p.1 = k then (p.1, v) else p) (kk.map fun p => if p.1 = k then (p.1, d) else p)
  | [], [], _ => kvAll_nil
  | [], _ :: _, h => by have := h.cases; simp at this
  | _ :: _, [], h => by have := h.cases; simp at this
  | p :: kv, q :: kk, h => by
    obtain ⟨e, r1, t⟩ := kvAll_cons.mp h
    rw [List.map_cons, List.map_cons]
    refine kvAll_cons.mpr ?_
    by_cases z : p.1 = k
    · have z2 : q.1 = k := e ▸ z
      rw [if_pos z, if_pos z2]
      exact ⟨e, r, kv_map r t⟩
    · have z2 : ¬ q.1 = k := e ▸ z
      rw [if_neg z, if_neg z2]
      exact ⟨e, r1, kv_map r t⟩
theorem kv_put {k : Key} {v : V} {d : PyData} {kv : List (Key × V)} {kk : List (Key × PyData)} (h : KvAll K F kv kk) (r : Rp K F v d) : KvAll K F (putK kv k v) (kPut kk k d) := by
  unfold putK kPut
  rw [kv_any h]
  split
  · exact kv_map r h
  · exact kv_app h (kvAll_cons.mpr ⟨rfl, r, kvAll_nil⟩)
theorem kv_merge : ∀ {mv : List (Key × V)} {mk : List (Key × PyData)} {kv : List (Key × V)} {kk : List (Key × PyData)}, KvAll K F mv mk → KvAll K F kv kk → KvAll K F (mergeK kv mv) (kMerge kk mk)
  | [], [], _, _, _, h => h
  | [], _ :: _, _, _, h, _ => by have := h.cases; simp at this
  | _ :: _, [], _, _, h, _ => by have := h.cases; simp at this
  | p :: mv, q :: mk, kv, kk, h, g => by
    obtain ⟨e, r, t⟩ := kvAll_cons.mp h
    show KvAll K F (mergeK (putK kv p.1 p.2) mv) (kMerge (kPut kk q.1 q.2) mk)
    rw [e]
    exact kv_merge t (kv_put g r)
theorem KvAll.mono {F F' : Hp} {kv : List (Key × V)} {kk : List (Key × PyData)} (s : Same F F') (h : KvAll K F kv kk) : KvAll K F' kv kk := ⟨h.1, RpAll.mono s h.2⟩
theorem zip_inj {ks : List Key} {ds : List PyData} {kk : List (Key × PyData)} (hl : ks.length = ds.length) (e : (ks.map kD).zip ds = kk.map fun p => (kD p.1, p.2)) : ks = kk.map (·.1) ∧ ds = kk.map (·.2) := by
  have e1 := congrArg (List.map Prod.fst) e
  have e2 := congrArg (List.map Prod.snd) e
  rw [List.map_fst_zip (by simp [hl]), List.map_map] at e1
  rw [List.map_snd_zip (by simp [hl]), List.map_map] at e2
  refine ⟨?_, e2⟩
  have inj : ∀ {as bs : List Key}, as.map kD = bs.map kD → as = bs := fun {as bs} h => by
    induction as generalizing bs with
    | nil => cases bs with
      | nil => rfl
      | cons _ _ => cases h
    | cons a as ih =>
      cases bs with
      | nil => cases h
      | cons b bs =>
        simp only [List.map_cons, List.cons.injEq] at h
        rw [kD_inj h.1, ih h.2]
  apply inj
  rw [e1, List.map_map]; rfl
end
def keysOf : List (PyData × PyData) → Option (List (Key × PyData))
  | [] => some []
  | (.int i, d) :: r => match keysOf r with
    | some kk => some ((.inl i, d) :: kk)
    | none => none
  | (.str x, d) :: r => match keysOf r with
    | some kk => some ((.inr x, d) :: kk)
    | none => none
  | _ :: _ => none
theorem keysOf_eq : ∀ {kvs : List (PyData × PyData)} {kk : List (Key × PyData)}, keysOf kvs = some kk → kvs = kk.map fun p => (kD p.1, p.2)
  | [], _, h => by cases h; rfl
  | (.int i, d) :: r, kk, h => by
    unfold keysOf at h
    split at h
    · rename_i k e; cases h; rw [keysOf_eq e]; rfl
    · cases h
  | (.str i, d) :: r, kk, h => by
    unfold keysOf at h
    split at h
    · rename_i k e; cases h; rw [keysOf_eq e]; rfl
    · cases h
  | (.none, _) :: _, _, h => by simp [keysOf] at h
  | (.bool _, _) :: _, _, h => by simp [keysOf] at h
  | (.list _, _) :: _, _, h => by simp [keysOf] at h
  | (.tuple _, _) :: _, _, h => by simp [keysOf] at h
  | (.dict _, _) :: _, _, h => by simp [keysOf] at h
theorem keysOf_map : ∀ {kk : List (Key × PyData)}, keysOf (kk.map fun p => (kD p.1, p.2)) = some kk
  | [] => rfl
  | (.inl i, d) :: kk => by rw [List.map_cons]; show (match keysOf _ with | some kk => _ | none => _) = _; rw [keysOf_map]
  | (.inr i, d) :: kk => by rw [List.map_cons]; show (match keysOf _ with | some kk => _ | none => _) = _; rw [keysOf_map]
/-- the dict that a slot holds -/
def dicO : O → Option (List (Key × PyData))
  | .dk kk => some kk
  | .fz (.dict kvs) => keysOf kvs
  | _ => none
def dicG (Γ : Ga) (i : Nat) : Option (List (Key × PyData)) := match Γ[i]? with
  | some (some o) => dicO o
  | _ => none
theorem own_dk {K : PySem.W.Frag} {F : Hp} {kk : List (Key × PyData)} {v : V} {h : Hp} : Own K F (.dk kk) v h ↔ ∃ a kv, v = .ref a ∧ h = one a (.dK kv) ∧ KvAll K F kv kk := by unfold Own; exact Iff.rfl
section
variable {K : PySem.W.Frag} {pn : List (Nat × V)} {Z F : Hp} {Γ : Ga} {σ : St} {h H hr : Hp} {i : Nat} {kk : List (Key × PyData)} {o : O} {v : V}
theorem own_dic (w : Own K F o v hr) (s : Same hr H) (sF : Same F H) (e : dicO o = some kk) : ∃ a kv, v = .ref a ∧ H a = some (.dK kv) ∧ KvAll K F kv kk := by
  cases o with
  | dk kk' =>
    cases e
    obtain ⟨a, kv, rfl, rfl, q⟩ := own_dk.mp w
    exact ⟨a, kv, rfl, s _ _ one_at, q⟩
  | fz d =>
    cases d with
    | dict kvs =>
      have e : keysOf kvs = some kk := e
      cases (own_fz.mp w).2 with
      | @dct a ks xs ds _ hF hl hr hk =>
        obtain ⟨z1, z2⟩ := zip_inj hl (hk.symm.trans (keysOf_eq e))
        have lx := hr.length
        refine ⟨a, _, rfl, sF _ _ hF, ?_, ?_⟩
        · rw [List.map_fst_zip (by omega)]; exact z1
        · rw [List.map_snd_zip (by omega), ← z2]; exact hr
      | scr h => cases e
    | _ => cases e
  | _ => cases e
theorem At.dic (A : At K pn Z F Γ σ h H) (e : dicG Γ i = some kk) : ∃ a kv, σ[i]? = some (some (.ref a)) ∧ H a = some (.dK kv) ∧ KvAll K F kv kk := by
  cases e1 : Γ[i]? with
  | none => simp [dicG, e1] at e
  | some x =>
    cases x with
    | none => simp [dicG, e1] at e
    | some o =>
      have e : dicO o = some kk := by simpa [dicG, e1] using e
      obtain ⟨v, h1, s1, w, s2, _⟩ := A.slot e1
      obtain ⟨a, kv, rfl, b, c⟩ := own_dic w s2 A.FH e
      exact ⟨a, kv, s1, b, c⟩
theorem At.changeD (A : At K pn Z F Γ σ h H) (e : Γ[i]? = some (some (.dk kk))) : ∃ a kv, σ[i]? = some (some (.ref a)) ∧ H a = some (.dK kv) ∧ KvAll K F kv kk ∧
    ∀ kv' kk', KvAll K F kv' kk' → ∃ h', At K pn Z F (Γ.set i (some (.dk kk'))) σ h' (upd H a (.dK kv')) := by
  obtain ⟨v, g1, g2, a1, w, sg1, dg1, zg1, sg2, d12, dg2, zg2, put⟩ := A.change e
  obtain ⟨a, kv, rfl, rfl, r⟩ := own_dk.mp w
  exact ⟨a, kv, a1, sg1 _ _ one_at, r, fun kv' kk' r' => ⟨_, put F (.dk kk') (VL.one a (.dK kv')) _ (Same.refl _) (own_dk.mpr ⟨a, kv', rfl, rfl, r'⟩) (same_one upd_same) (keepU (of_dis_one dg1) A.FH) (keepU (of_dis_one d12) sg2) (keepU (of_dis_one zg1) A.ZH) A.FZ (dis_at d12) (dis_at dg1) (dis_at zg1) dg2⟩⟩
end
/-! reading: d[k], k in d -/
section
variable {X : Cx} {e o idx : Expr} {τ τk : EX} {τo τo' : EO} {t1 t2 : TE} {p pos : Pos}
theorem pe_or (h1 : PE X e t1) (h2 : PE X e t2) : PE X e (fun σ H Q => t1 σ H Q ∨ t2 σ H Q) := ⟨fun pins s σ H Q I q => by
  rcases q with q | q
  · exact h1.run pins s σ H Q I q
  · exact h2.run pins s σ H Q I q⟩
theorem pt_or {t1 t2 : TT} (h1 : PT X e t1) (h2 : PT X e t2) : PT X e (fun σ H Q => t1 σ H Q ∨ t2 σ H Q) := ⟨fun pins s σ H Q I q => by
  rcases q with q | q
  · exact h1.run pins s σ H Q I q
  · exact h2.run pins s σ H Q I q⟩
theorem ps_or {st : Stmt} {t1 t2 : TS} (h1 : PS X st t1) (h2 : PS X st t2) : PS X st (fun D σ H => t1 D σ H ∨ t2 D σ H) := ⟨fun pins s σ H D I q => by
  rcases q with q | q
  · exact h1.run pins s σ H D I q
  · exact h2.run pins s σ H D I q⟩
/-- by what a slot holds: a dict, anything else -/
def isDic (Γ : Ga) (i : Nat) : Bool := match Γ[i]? with
  | some (some (.dk _)) => true
  | some (some (.fz (.dict _))) => true
  | _ => false
def oAlt (i : Nat) (t u : EO) : EO := fun Γ Q => match isDic Γ i with
  | true => t Γ Q
  | false => u Γ Q
theorem vo_alt (i : Nat) (h1 : PE X e (lO X.K τo)) (h2 : PE X e (lO X.K τo')) : PE X e (lO X.K (oAlt i τo τo')) := pe_imp (pe_or h1 h2) fun σ H QV ⟨pn, Z, F, Γ, hh, Q, A, q, k⟩ => by
  unfold oAlt at q
  split at q
  · exact .inl ⟨pn, Z, F, Γ, hh, Q, A, q, k⟩
  · exact .inr ⟨pn, Z, F, Γ, hh, Q, A, q, k⟩
def tAlt (i : Nat) (t u : ET) : ET := fun Γ Q => match isDic Γ i with
  | true => t Γ Q
  | false => u Γ Q
theorem vt_alt {tt tu : ET} (i : Nat) (h1 : PT X e (lT X.K tt)) (h2 : PT X e (lT X.K tu)) : PT X e (lT X.K (tAlt i tt tu)) := pt_imp (pt_or h1 h2) fun σ H QV ⟨pn, Z, F, Γ, hh, Q, A, q, k⟩ => by
  unfold tAlt at q
  split at q
  · exact .inl ⟨pn, Z, F, Γ, hh, Q, A, q, k⟩
  · exact .inr ⟨pn, Z, F, Γ, hh, Q, A, q, k⟩
def sAlt (i : Nat) (t u : ES) : ES := fun D Γ => match isDic Γ i with
  | true => t D Γ
  | false => u D Γ
theorem vs_alt {io : Bool} {st : Stmt} {t u : ES} (i : Nat) (h1 : PS X st (lS X.K io t)) (h2 : PS X st (lS X.K io u)) : PS X st (lS X.K io (sAlt i t u)) := ps_imp (ps_or h1 h2) fun D σ H ⟨v0, Z, F, Γ, h, DD, A, q, k⟩ => by
  unfold sAlt at q
  split at q
  · exact .inl ⟨v0, Z, F, Γ, h, DD, A, q, k⟩
  · exact .inr ⟨v0, Z, F, Γ, h, DD, A, q, k⟩
def eDGet (i : Nat) (τ : EX) : EO := fun Γ Q => (∃ kk, dicG Γ i = some kk) ∧ τ Γ fun a Γ1 => ∃ kk k d, dicG Γ1 i = some kk ∧ rslv Γ1 a = some (kD k) ∧ kGet kk k = some d ∧ Q (.fz d) Γ1
theorem vo_dget (i : Nat) (hu : X.A.units + 1 < cLine) (ho : PE X o (tVar i)) (hx : PE X idx (lX X.K τ)) (hs : NoSl idx := by intro _ _; rfl) : PE X (.Subscript o idx pos) (lO X.K (eDGet i τ)) :=
  pe_imp (pe_dget hu ho hx hs) fun σ H QV ⟨pn, Z, F, Γ, hh, Q, A, ⟨⟨kk0, e0⟩, q⟩, kq⟩ => by
    obtain ⟨a, kv, s0, _, _⟩ := A.dic e0
    refine ⟨.ref a, s0, pn, Z, F, Γ, hh, _, A, q, fun F1 Γ1 h1 H1 av y s1 A1 r1 ⟨kk, k, d, e1, e2, e3, q1⟩ => ?_⟩
    obtain ⟨b, kv, s2, hb, hk⟩ := A1.dic e1
    rw [s0] at s2; cases s2
    have ey := rp_key (rep_of A1 r1 e2)
    subst ey
    rcases kv_get (k := k) hk with ⟨_, z⟩ | ⟨v, d', z1, z2, r⟩
    · rw [e3] at z; cases z
    · rw [e3] at z2; cases z2
      refine ⟨a, v, rfl, ?_, kq F1 Γ1 h1 emp H1 (.fz d) v s1 A1.alone ⟨rfl, r⟩ q1⟩
      rw [← z1]
      exact DGet.k hb
def eDIn (pos : Bool) (τ : EX) (i : Nat) : EO := fun Γ Q => τ Γ fun a Γ1 => ∃ kk k, dicG Γ1 i = some kk ∧ rslv Γ1 a = some (kD k) ∧ Q (.fz (.bool (if pos then (kGet kk k).isSome else !(kGet kk k).isSome))) Γ1
theorem dgo {K : PySem.W.Frag} {F H : Hp} {a : Addr} {kv : List (Key × V)} {kk : List (Key × PyData)} {k : Key} (hb : H a = some (.dK kv)) (hk : KvAll K F kv kk) : ∃ o, DGet H a (kV k) o ∧ o.isSome = (kGet kk k).isSome := by
  refine ⟨_, DGet.k hb, ?_⟩
  rcases kv_get (k := k) hk with ⟨z1, z2⟩ | ⟨v, d', z1, z2, r⟩
  · rw [z1, z2]; rfl
  · rw [z1, z2]; rfl
theorem vo_din (i : Nat) (hu : X.A.units + 1 < cLine) (hx : PE X idx (lX X.K τ)) (ho : PE X o (tVar i)) (hm : behindInMarks .In o = false := by rfl) : PE X (.Compare idx [.In] [o] pos) (lO X.K (eDIn true τ i)) :=
  pe_imp (pe_cmp (pc_din hu hx ho) hm) fun σ H QV ⟨pn, Z, F, Γ, hh, Q, A, q, kq⟩ => ⟨pn, Z, F, Γ, hh, _, A, q, fun F1 Γ1 h1 H1 av y s1 A1 r1 ⟨kk, k, e1, e2, q1⟩ => by
    obtain ⟨b, kv, s2, hb, hk⟩ := A1.dic e1
    have ey := rp_key (rep_of A1 r1 e2)
    subst ey
    obtain ⟨o, g, eo⟩ := dgo (k := k) hb hk
    exact ⟨.ref b, s2, b, o, rfl, g, by rw [eo]; exact kq F1 Γ1 h1 emp H1 (.fz (.bool _)) _ s1 A1.alone ⟨rfl, .bl _⟩ q1⟩⟩
theorem vo_dnotin (i : Nat) (hu : X.A.units + 1 < cLine) (hx : PE X idx (lX X.K τ)) (ho : PE X o (tVar i)) (hm : behindInMarks .NotIn o = false := by rfl) : PE X (.Compare idx [.NotIn] [o] pos) (lO X.K (eDIn false τ i)) :=
  pe_imp (pe_cmp (pc_dnotin hu hx ho) hm) fun σ H QV ⟨pn, Z, F, Γ, hh, Q, A, q, kq⟩ => ⟨pn, Z, F, Γ, hh, _, A, q, fun F1 Γ1 h1 H1 av y s1 A1 r1 ⟨kk, k, e1, e2, q1⟩ => by
    obtain ⟨b, kv, s2, hb, hk⟩ := A1.dic e1
    have ey := rp_key (rep_of A1 r1 e2)
    subst ey
    obtain ⟨o, g, eo⟩ := dgo (k := k) hb hk
    exact ⟨.ref b, s2, b, o, rfl, g, by rw [eo]; exact kq F1 Γ1 h1 emp H1 (.fz (.bool _)) _ s1 A1.alone ⟨rfl, .bl _⟩ q1⟩⟩
theorem vt_din (i : Nat) (hu : X.A.units + 1 < cLine) (hx : PE X idx (lX X.K τ)) (ho : PE X o (tVar i)) (hm : behindInMarks .In o = false := by rfl) : PT X (.Compare idx [.In] [o] pos) (lT X.K (tO (eDIn true τ i))) :=
  pt_imp (pt_cmp (pc_din hu hx ho) hm) fun σ H QV ⟨pn, Z, F, Γ, hh, Q, A, q, kq⟩ => ⟨pn, Z, F, Γ, hh, _, A, q, fun F1 Γ1 h1 H1 av y s1 A1 r1 ⟨kk, k, e1, e2, b', eb, q1⟩ => by
    cases eb
    obtain ⟨b, kv, s2, hb, hk⟩ := A1.dic e1
    have ey := rp_key (rep_of A1 r1 e2)
    subst ey
    obtain ⟨o, g, eo⟩ := dgo (k := k) hb hk
    exact ⟨.ref b, s2, b, o, rfl, g, _, rfl, by rw [eo]; exact kq F1 Γ1 h1 H1 _ s1 A1 q1⟩⟩
theorem vt_dnotin (i : Nat) (hu : X.A.units + 1 < cLine) (hx : PE X idx (lX X.K τ)) (ho : PE X o (tVar i)) (hm : behindInMarks .NotIn o = false := by rfl) : PT X (.Compare idx [.NotIn] [o] pos) (lT X.K (tO (eDIn false τ i))) :=
  pt_imp (pt_cmp (pc_dnotin hu hx ho) hm) fun σ H QV ⟨pn, Z, F, Γ, hh, Q, A, q, kq⟩ => ⟨pn, Z, F, Γ, hh, _, A, q, fun F1 Γ1 h1 H1 av y s1 A1 r1 ⟨kk, k, e1, e2, b', eb, q1⟩ => by
    cases eb
    obtain ⟨b, kv, s2, hb, hk⟩ := A1.dic e1
    have ey := rp_key (rep_of A1 r1 e2)
    subst ey
    obtain ⟨o, g, eo⟩ := dgo (k := k) hb hk
    exact ⟨.ref b, s2, b, o, rfl, g, _, rfl, by rw [eo]; exact kq F1 Γ1 h1 H1 _ s1 A1 q1⟩⟩
/-! {} ; d[k] = v -/
def eDNew : EO := fun Γ Q => Q (.dk []) Γ
theorem vo_dnew : PE X (.Dict [] [] pos) (lO X.K eDNew) := pe_imp pe_dnewK fun σ H QV ⟨pn, Z, F, Γ, hh, Q, A, q, k⟩ a n => by
  have g := Grow.stay (H' := upd H a (.dK [])) A.FH (same_new n)
  exact k F Γ hh (VL.one a (.dK [])) _ (.dk []) (.ref a) (Same.refl _) (A.beside g (same_one upd_same) (dis_one (A.FH.free n)) fun x z => by
    by_cases e : x = a
    · subst e; exact n
    · rw [one_ne e] at z; exact absurd rfl z) (own_dk.mpr ⟨a, [], rfl, rfl, kvAll_nil⟩) q
def sDPutS (i : Nat) (τk : EX) (τv : EX) : ES := fun D Γ => τv Γ fun av Γ1 => (∃ kk, Γ1[i]? = some (some (.dk kk))) ∧ ∃ d, av = .d d ∧ τk Γ1 fun a Γ2 => ∃ kk k Γ3, Γ2[i]? = some (some (.dk kk)) ∧ rslv Γ2 a = some (kD k) ∧ kk.length < sizeLine ∧ setG Γ2 i (some (.dk (kPut kk k d))) = some Γ3 ∧ D.nx Γ3
theorem vs_dput {io : Bool} {spos : Pos} {τv : EX} (i : Nat) (hu : X.A.units + 1 < cLine) (ho : PE X o (tVar i)) (hx : PE X idx (lX X.K τk)) (hv : PE X e (lX X.K τv)) (hs : swapsWith e (some (.Subscript o idx pos)) spos.line X.env = pure false := by rfl) :
    PS X (.Assign [.Subscript o idx pos] e spos) (lS X.K io (sDPutS i τk τv)) :=
  ps_imp (ps_dput hu ho hx hv hs) fun D σ H ⟨v0, Z, F, Γ, h, DD, A, q, kq⟩ => ⟨_, Z, F, Γ, h, _, A, q, fun F1 Γ1 h1 H1 av v s1 A1 r1 ⟨⟨kk0, e0⟩, d, ed, q1⟩ => by
    subst ed
    obtain ⟨a, kv, sa, _, _⟩ := A1.changeD e0
    refine ⟨.ref a, sa, _, Z, F1, Γ1, h1, _, A1, q1, fun F2 Γ2 h2 H2 ak y s2 A2 r2 ⟨kk, k, Γ3, e1, e2, hl, e3, q2⟩ => ?_⟩
    obtain ⟨b, kv, sb, hb, hk, put⟩ := A2.changeD e1
    rw [sa] at sb; cases sb
    have ey := rp_key (rep_of A2 r2 e2)
    subst ey
    obtain ⟨h', A3⟩ := put _ _ (kv_put (k := k) hk (Rp.mono s2 r1))
    rw [(setG_eq e3).1] at A3
    exact ⟨a, _, rfl, DPut.k hb (by rw [hk.cases]; exact hl), kq.nx F2 Γ3 σ h' _ (s1.trans s2) A3 q2⟩⟩
end
/-! dict(pairs) -/
def prD (p : Key × PyData) : PyData := .tuple [kD p.1, p.2]
def cdDict : List PyData → (O → Prop) → Prop
  | [.list ds], Q => ∃ kk, ds = kk.map prD ∧ Q (.dk (kMerge [] kk))
  | [.tuple ds], Q => ∃ kk, ds = kk.map prD ∧ Q (.dk (kMerge [] kk))
  | _, _ => False
theorem pairs_rp {X : Cx} {pins : List (Addr × Obj)} {σ : St} {H F : Hp} {s : Shared} (I : Inv X pins σ H s) (sF : Same F H) : ∀ {kk : List (Key × PyData)} {vs : List V} {its : List Value}, RpAll X.K F vs (kk.map prD) → Vals vs its →
    ∃ (kv : List (Key × V)) (prs : List (Key × Value)) (qs : List (Value × Value)) (Ts : Nat → Addr), KvAll X.K F kv kk ∧ KV kv prs ∧ prs.length = its.length ∧ qs.length = its.length ∧
      ∀ j k v, qs[j]? = some (k, v) → its[j]? = some (.ref (Ts j)) ∧ s.heap.IsTuple (Ts j) #[k, v] ∧ ∃ key, prs[j]? = some (key, v) ∧ (mixKind X.prog X.w).is key k = true
  | [], _, _, .nil, .nil => ⟨[], [], [], fun _ => 0, kvAll_nil, .nil, rfl, rfl, fun j k v e => by simp at e⟩
  | q :: kk, _, _, .cons r rr, .cons h t => by
    obtain ⟨kv, prs, qs, Ts, a1, a2, a3, a4, a5⟩ := pairs_rp I sF rr t
    obtain ⟨p, vs, rfl, hs, ra⟩ := rp_tup (show Rp X.K F _ (.tuple [kD q.1, q.2]) from r)
    cases h
    obtain ⟨x, y, rfl, rx, ry⟩ := ra.two'
    have ex := rp_key (H := H) (.inl rx)
    subst ex
    obtain ⟨us, rv, ht, _⟩ := I.tuple (sameT sF hs)
    obtain ⟨u, w, ei, ru, rw'⟩ := vals2 rv
    subst ei
    refine ⟨(q.1, y) :: kv, (q.1, w) :: prs, (u, w) :: qs, fun j => match j with | 0 => p | j + 1 => Ts j, kvAll_cons.mpr ⟨rfl, ry, a1⟩, .cons ⟨rfl, rw'⟩ a2, by simp [a3], by simp [a4], fun j k v e => ?_⟩
    cases j with
    | zero =>
      have e : (u, w) = (k, v) := by simpa using e
      cases e
      exact ⟨rfl, ht, q.1, rfl, kV_is ru⟩
    | succ j => exact a5 j k v (by simpa using e)
section
variable {X : Cx}
theorem dict_core {pins : List (Addr × Obj)} {σ : St} {H F : Hp} {s : Shared} {QV : VK} {Q : O → Prop} {T : String} {a : Addr} {its : List Value} {fp : List Addr} {OK : Heap → Prop} {kv : List (Key × V)} {kk : List (Key × PyData)} {prs : List (Key × Value)} {qs : List (Value × Value)}
    (hcalm : X.calm = true) (I : Inv X pins σ H s) (sF : Same F H) (P : PairArg X.prog X.w T a fp [] qs.length (PairRel qs) OK) (ok : OK s.heap) (a1 : KvAll X.K F kv kk) (a2 : KV kv prs) (a3 : prs.length = its.length) (a4 : qs.length = its.length) (hz : its.length ≤ sizeLine)
    (a5 : ∀ (j : Nat) (k v : Value), qs[j]? = some (k, v) → ∃ key, prs[j]? = some (key, v) ∧ (mixKind X.prog X.w).is key k = true) (post : OpPost X.K F H Q QV) (q : Q (.dk (kMerge [] kk))) : wpAny (model X.prog X.w) X.A (call (.type "dict") [.ref a]) (EP X pins σ QV) X.xe s := by
  refine call_dict_pairs (knd := mixKind X.prog X.w) (kvs := prs) P (I.ok.hd hcalm) ok ⟨by rw [a3, a4], fun i k v e => a5 i k v e⟩ (by rw [a4]; exact hz) fun h' tk hd' k => ?_
  have hm : (s.heap.objs.size == sysModules) = false := beq_eq_false_iff_ne.mpr (Nat.ne_of_gt I.big)
  have hlen : (mergeK [] kv).length ≤ sizeLine := by
    refine Nat.le_trans (length_mergeK kv []) ?_
    have := a1.cases
    have l2 : kv.length = prs.length := by
      have := a2
      unfold KV at this
      exact this.length
    rw [List.length_nil, Nat.zero_add, l2, a3]
    exact hz
  have n : H s.heap.objs.size = none := I.hok.fresh (Nat.le_refl _)
  refine ⟨.ref s.heap.objs.size, upd H s.heap.objs.size (.dK (mergeK [] kv)), I.laid (t' := tk) (fun b o e => k b o (by simp) e) (Nat.le_refl _) (show ObjOk X.prog X.w _ _ _ (.dK (mergeK [] kv)) from ⟨hlen, hm, merged [] prs, KV.merge a2 .nil, hd'⟩), rfl, ?_⟩
  exact post F (VL.one s.heap.objs.size (.dK (mergeK [] kv))) _ (.dk (kMerge [] kk)) _ (Grow.stay sF (same_new n)) (own_dk.mpr ⟨_, _, rfl, rfl, kv_merge a1 kvAll_nil⟩) (same_one upd_same) (dis_one (sF.free n)) (fun x z => by
    by_cases e : x = s.heap.objs.size
    · subst e; exact n
    · rw [one_ne e] at z; exact absurd rfl z) q
theorem cd_dict (hcalm : X.calm = true) : CallD X (.type "dict") cdDict := by
  intro pins s σ H xs us QV I rx ⟨F, ds, Q, sF, rl, h, post⟩
  unfold cdDict at h
  split at h
  · obtain ⟨v, rfl, r⟩ := rl.one'
    obtain ⟨kk, rfl, q⟩ := h
    obtain ⟨a, vs, rfl, ha, ra⟩ := r.list sF
    obtain ⟨its, rv, ⟨o, n, ho, hc, hd, hdat⟩, hz⟩ := I.list (SqL.of ha)
    rw [Vals.ref1 rx]
    obtain ⟨kv, prs, qs, Ts, a1, a2, a3, a4, a5⟩ := pairs_rp I sF ra rv
    have hz' : its.length ≤ sizeLine := by rw [← rv.length]; exact hz
    exact dict_core hcalm I sF (PairArg.list a its.toArray Ts qs) ⟨⟨o, n, ho, hc, hd, hdat⟩, by simp [a4], fun j k v e => ⟨by simpa using (a5 j k v e).1, .inl (a5 j k v e).2.1⟩⟩ a1 a2 a3 a4 hz' (fun j k v e => (a5 j k v e).2.2) post q
  · obtain ⟨v, rfl, r⟩ := rl.one'
    obtain ⟨kk, rfl, q⟩ := h
    obtain ⟨a, vs, rfl, ha, ra⟩ := rp_tupN r.tupR
    obtain ⟨its, rv, pl, hz⟩ := (sameN sF ha).at I
    rw [Vals.ref1 rx]
    obtain ⟨kv, prs, qs, Ts, a1, a2, a3, a4, a5⟩ := pairs_rp I sF ra rv
    have hz' : its.length ≤ sizeLine := by rw [← rv.length]; exact hz
    exact dict_core hcalm I sF (PairArg.tuple a its.toArray Ts qs) ⟨pl, by simp [a4], fun j k v e => ⟨by simpa using (a5 j k v e).1, .inl (a5 j k v e).2.1⟩⟩ a1 a2 a3 a4 hz' (fun j k v e => (a5 j k v e).2.2) post q
  · exact h.elim
end
end VL
end
section
namespace VL
open PySem PySem.Spec PyProof.Rows L2

/-! ### del xs[lo:] -/
theorem tail_gone (a N : Nat) (f : Value × Nat → Option Value) (hf : ∀ p : Value × Nat, f p = if a ≤ p.2 ∧ p.2 < N then none else some p.1) : ∀ (l : List Value) (n : Nat), n + l.length = N → (l.zipIdx n).filterMap f = l.take (a - n)
  | [], n, _ => by simp
  | x :: l, n, e => by
    have ih := tail_gone a N f hf l (n + 1) (by simp only [List.length_cons] at e; omega)
    have hn : n < N := by simp only [List.length_cons] at e; omega
    rw [List.zipIdx_cons, List.filterMap_cons, hf]
    by_cases h : a ≤ n
    · rw [if_pos ⟨h, hn⟩, ih, Nat.sub_eq_zero_of_le h, Nat.sub_eq_zero_of_le (by omega)]
      simp
    · rw [if_neg (fun z => h z.1), ih]
      obtain ⟨m, hm⟩ : ∃ m, a - n = m + 1 := ⟨a - n - 1, by omega⟩
      rw [hm, show a - (n + 1) = m by omega]
      rfl
theorem bounds_tail {a n : Nat} : sliceBounds (some (a : Int)) none none n = (((min a n : Nat) : Int), ((n : Nat) : Int), 1) := by
  simp only [sliceBounds, Option.getD_none]
  have h1 : ¬ ((a : Int) < 0) := by omega
  simp only [h1, if_false, show (1 : Int) > 0 by decide, if_true]
  congr 1
  · omega
section
variable {prog : Program} {w : World} {A : Around} {E : Value → Shared → Prop} {s : Shared}
theorem del_tailV {l sl : Addr} {items : Array Value} {n : Nat} {vl : Value} {a : Nat} {Q : Unit → Shared → Prop} (e : s.heap.get? l = some { cls := .type "list", data := .seq items n })
    (hs : s.heap.IsSliceOf sl vl .none .none) (pl : IsPart vl (some (a : Int))) (hsz : items.size ≤ sizeLine)
    (h : ∀ f : Array Value → Array Value, f items = (items.toList.take a).toArray → Q () { s with heap := s.heap.update l (Obj.mapSeq f) }) : wpAny (model prog w) A (delItem (.ref l) (.ref sl)) Q E s := by
  have hl : s.heap.IsList l items := PySem.IsL.isList e
  obtain ⟨os, hos, hcs, hds⟩ := id hs
  have hTs : s.TypeIs (.ref sl) "slice" := ⟨os, hos, hcs⟩
  have hstep : ¬ ((rawPart none == rawInt 0) = true) := Bool.false_ne_true
  refine wpAny_delItem_slot hl.typeIs (by decide) F.slot_list_delitem (wpAny_call_entry F.slot_list_delitem hl.typeIs F.entry_list_delitem ?_ (F.args_list_delitem_2 _ _))
  show wpAny _ _ (Builtin.List.listSubscript? (.ref sl) >>= _) _ _ s
  refine wpAny_bind ?_
  unfold Builtin.List.listSubscript?
  refine wpAny_bind (wpAny_specialOf hTs slice_no_index ?_)
  simp only [Option.isNone_none, if_true]
  refine wpAny_pure ?_
  show wpAny _ _ (typeOf (.ref sl) >>= _) _ _ s
  refine wpAny_bind (wpAny_typeOf hTs ?_)
  first
    | rw [if_neg (by decide)]
    | refine PySem.W.KFB.if_not (by decide) ?_
  rw [listSliceParts_eq]
  refine wpAny_bind (wpAny_bind (wpAny_field hos hds (x := .none) rfl (wpAny_bind (wpAny_listPart .none ?_))))
  rw [if_neg hstep]
  refine wpAny_bind (wpAny_field hos hds (x := vl) rfl (wpAny_bind (wpAny_listPart pl ?_)))
  refine wpAny_bind (wpAny_field hos hds (x := .none) rfl (wpAny_bind (wpAny_listPart .none (wpAny_pure ?_))))
  unfold Builtin.List.listItems
  refine wpAny_bind (wpAny_bind (wpAny_seqItems e rfl (wpAny_pure ?_)))
  refine wpAny_bind (wpAny_of_eq ((sliceIndices_raw (some (a : Int)) none none items.size (by simp)).trans (congrArg (pure : Int × Int × Int → Sem (Int × Int × Int)) bounds_tail)) ?_)
  refine wpAny_bind (wpAny_rule ?_)
  have key : ∀ f : Array Value → Array Value, (∀ xs, f xs = (xs.toList.zipIdx.filterMap fun p => if (if (1 : Int) > 0 then (decide (((min a items.size : Nat) : Int) ≤ (p.2 : Int)) && decide ((p.2 : Int) < ((items.size : Nat) : Int)) && (((p.2 : Int) - ((min a items.size : Nat) : Int)) % 1 == 0)) else (decide (((items.size : Nat) : Int) < (p.2 : Int)) && decide ((p.2 : Int) ≤ ((min a items.size : Nat) : Int)) && ((((min a items.size : Nat) : Int) - (p.2 : Int)) % (-1) == 0))) = true then none else some p.1).toArray) → f items = (items.toList.take a).toArray := fun f hf => by
    rw [hf]
    congr 1
    rw [tail_gone (min a items.size) items.size _ (fun p => ?_) items.toList 0 (by simp)]
    · rw [Nat.sub_zero]
      by_cases c : a ≤ items.size
      · rw [Nat.min_eq_left c]
      · rw [Nat.min_eq_right (by omega), List.take_of_length_le (by simp), List.take_of_length_le (by simp; omega)]
    · rw [if_pos (show (1 : Int) > 0 by decide), Int.emod_one]
      by_cases c : min a items.size ≤ p.2 ∧ p.2 < items.size
      · rw [if_pos c, if_pos]
        simp only [Bool.and_eq_true, decide_eq_true_eq, beq_self_eq_true, and_true]
        omega
      · rw [if_neg c, if_neg]
        simp only [Bool.and_eq_true, decide_eq_true_eq, beq_self_eq_true, and_true]
        omega
  show wpAny _ _ (updateSeq l _ >>= _) _ _ s
  refine wpAny_bind (wpAny_updateSeq (hz := hsz) (_hz' := ?_) e rfl ?_)
  · refine wpAny_bind (wpAny_letGo ?_)
    exact wpAny_pure ⟨.none, rfl, h _ (key _ fun xs => rfl)⟩
  · rw [List.size_toArray]
    refine Nat.le_trans (List.length_filterMap_le _ _) ?_
    rw [List.length_zipIdx, Array.length_toList]
    omega
end
section
variable {X : Cx} {o e : Expr} {td te : TE} {p2 tpos pos : Pos}
def tDelT (td te : TE) : TS := fun D σ H => td σ H fun x H1 => tPart te σ H1 fun i H2 => ∃ (l : Addr) (xs : List V) (a : Nat), x = .ref l ∧ i = some (a : Int) ∧ H2 l = some (.lst xs) ∧ D.nx σ (upd H2 l (.lst (xs.take a)))
theorem ps_delT (ho : PE X o td) (he : PE X e te) : PS X (.Delete [.Subscript o (.Slice (some e) none none p2) tpos] pos) (tDelT td te) := by
  refine ⟨fun pins s σ H D I h => ?_⟩
  refine wpAny_Delete (wpAny_deleteEach_cons (wpAny_delete_Subscript (thn (ho.run pins s σ H _ I h) fun u s1 ⟨x, H1, I1, rx, q1⟩ => ?_)))
  refine wpAny_Slice (thn ((po_some he).run pins s1 σ H1 (fun i H2 => ∃ (l : Addr) (xs : List V) (a : Nat), x = .ref l ∧ i = some (a : Int) ∧ H2 l = some (.lst xs) ∧ D.nx σ (upd H2 l (.lst (xs.take a)))) I1 (q1 : tPart te σ H1 _)) fun vl s2 ⟨i, H2, I2, pl, l, xs, a, ex, ei, eH, q2⟩ => ?_)
  subst ex; subst ei
  cases (show u = Value.ref l from rx)
  rw [evalPart_none]
  refine wpAny_pure (wpAny_pure ?_)
  have J : Inv X pins σ H2 { s2 with heap := s2.heap.push { cls := .type "slice", data := .fields #[vl, .none, .none] } } := I2.kept (t' := s2.toks) fun b ob q => Heap.get?_push_of_some _ q
  obtain ⟨z, its, n, r, hl, e⟩ := J.lstM eH
  refine del_tailV (a := a) e (Heap.IsSliceOf.new ..) pl (by rw [List.size_toArray, ← hl]; exact z) fun f hf => wpAny_deleteEach_nil ⟨σ, _, J.lset (its' := its.take a) (t' := s2.toks) eH e (by rw [hf]) (r.take a) (by rw [List.length_take]; omega), q2⟩
end
end VL
end
section
namespace VL
open PySem PySem.Spec L2

/-! ### del xs[a:] of a slot -/
def sDel (i : Nat) (τ : EX) : ES := fun D Γ => (∃ ds, Γ[i]? = some (some (.ls ds))) ∧ τ Γ fun a Γ1 => ∃ ds n Γ2, Γ1[i]? = some (some (.ls ds)) ∧ rslv Γ1 a = some (.int (n : Nat)) ∧ setG Γ1 i (some (.ls (ds.take n))) = some Γ2 ∧ D.nx Γ2
section
variable {X : Cx} {o e idx : Expr} {τ τk : EX} {τo : EO} {p2 tpos pos : Pos}
theorem vs_del {io : Bool} (i : Nat) (ho : PE X o (tVar i)) (he : PE X e (lX X.K τ)) : PS X (.Delete [.Subscript o (.Slice (some e) none none p2) tpos] pos) (lS X.K io (sDel i τ)) :=
  ps_imp (ps_delT ho he) fun D σ H ⟨v0, Z, F, Γ, h, DD, A, ⟨⟨ds0, e0⟩, q⟩, kq⟩ => by
    obtain ⟨a, vs, sa, _, _, _⟩ := A.changeL e0
    refine ⟨.ref a, sa, _, Z, F, Γ, h, _, A, q, fun F1 Γ1 h1 H1 av y s1 A1 r1 ⟨ds, n, Γ2, e1, e2, e3, q1⟩ => ?_⟩
    obtain ⟨b, ws, sb, hb, rb, put⟩ := A1.changeL e1
    rw [sa] at sb; cases sb
    obtain ⟨h', A2⟩ := put _ _ (rb.take n)
    rw [(setG_eq e3).1] at A2
    exact ⟨(n : Nat), (rep_of A1 r1 e2).int, a, ws, n, rfl, rfl, hb, kq.nx F1 Γ2 σ h' _ s1 A2 q1⟩
/-! slot[k], by what the slot holds -/
def isTr (Γ : Ga) (i : Nat) : Bool := match Γ[i]? with
  | some (some (.tr _)) => true
  | _ => false
def oAltT (i : Nat) (t u : EO) : EO := fun Γ Q => match isTr Γ i with
  | true => t Γ Q
  | false => u Γ Q
theorem vo_altT {τ1 τ2 : EO} (i : Nat) (h1 : PE X e (lO X.K τ1)) (h2 : PE X e (lO X.K τ2)) : PE X e (lO X.K (oAltT i τ1 τ2)) := pe_imp (pe_or h1 h2) fun σ H QV ⟨pn, Z, F, Γ, hh, Q, A, q, k⟩ => by
  unfold oAltT at q
  split at q
  · exact .inl ⟨pn, Z, F, Γ, hh, Q, A, q, k⟩
  · exact .inr ⟨pn, Z, F, Γ, hh, Q, A, q, k⟩
def eIxS (i : Nat) (τ : EX) : EO := oAlt i (eDGet i τ) (oAltT i (oX (xEl (eEl i τ))) (eOp opIx (xVar i) τ))
theorem vo_ixS (i : Nat) (hu : X.A.units + 1 < cLine) (ho : PE X o (tVar i)) (hx : PE X idx (lX X.K τ)) (hs : PlainIx idx := by intro _ _; rfl) (hs2 : NoSl idx := by intro _ _; rfl) : PE X (.Subscript o idx pos) (lO X.K (eIxS i τ)) :=
  vo_alt i (vo_dget i hu ho hx hs2) (vo_altT i (vo_x (vx_el (ve_el i ho hx hs))) (vo_ix ix2_any (vx_var i ho) hx hs))
def sPutS (i : Nat) (τk : EX) (τv : EX) (τo : EO) : ES := sAlt i (sDPutS i τk τv) (sPut i τk τo)
def eInS (i : Nat) (τ : EX) : EO := oAlt i (eDIn true τ i) (eOp opIn τ (xVar i))
def eNotInS (i : Nat) (τ : EX) : EO := oAlt i (eDIn false τ i) (eOp opNotIn τ (xVar i))
def tInS (i : Nat) (τ : EX) : ET := tAlt i (tO (eDIn true τ i)) (tO (eOp opIn τ (xVar i)))
def tNotInS (i : Nat) (τ : EX) : ET := tAlt i (tO (eDIn false τ i)) (tO (eOp opNotIn τ (xVar i)))
theorem vo_inS (i : Nat) (hu : X.A.units + 65 < cLine) (hx : PE X idx (lX X.K τ)) (ho : PE X o (tVar i)) (hm : behindInMarks .In o = false := by rfl) : PE X (.Compare idx [.In] [o] pos) (lO X.K (eInS i τ)) :=
  vo_alt i (vo_din i (by omega) hx ho hm) (vo_cmp (o2_in hu) hx (vx_var i ho) hm)
theorem vo_notInS (i : Nat) (hu : X.A.units + 65 < cLine) (hx : PE X idx (lX X.K τ)) (ho : PE X o (tVar i)) (hm : behindInMarks .NotIn o = false := by rfl) : PE X (.Compare idx [.NotIn] [o] pos) (lO X.K (eNotInS i τ)) :=
  vo_alt i (vo_dnotin i (by omega) hx ho hm) (vo_cmp (o2_notIn hu) hx (vx_var i ho) hm)
theorem vt_inS (i : Nat) (hu : X.A.units + 65 < cLine) (hx : PE X idx (lX X.K τ)) (ho : PE X o (tVar i)) (hm : behindInMarks .In o = false := by rfl) : PT X (.Compare idx [.In] [o] pos) (lT X.K (tInS i τ)) :=
  vt_alt i (vt_din i (by omega) hx ho hm) (vt_cmp (o2_in hu) hx (vx_var i ho) hm)
theorem vt_notInS (i : Nat) (hu : X.A.units + 65 < cLine) (hx : PE X idx (lX X.K τ)) (ho : PE X o (tVar i)) (hm : behindInMarks .NotIn o = false := by rfl) : PT X (.Compare idx [.NotIn] [o] pos) (lT X.K (tNotInS i τ)) :=
  vt_alt i (vt_dnotin i (by omega) hx ho hm) (vt_cmp (o2_notIn hu) hx (vx_var i ho) hm)
end

/-! ### calls with keywords -/
def perm {α : Type} (np nk : Nat) (idx : List Nat) (us ws : List α) : List α := if us.length = np ∧ ws.length = nk then idx.filterMap ((us ++ ws)[·]?) else []
theorem perm_vals {np nk : Nat} {idx : List Nat} {vs : List V} {us : List Value} {zs : List V} {ws : List Value} (a : Vals vs us) (b : Vals zs ws) : Vals (perm np nk idx vs zs) (perm np nk idx us ws) := by
  unfold perm
  rw [a.length, b.length]
  split
  · have ab : Vals (vs ++ zs) (us ++ ws) := a.append b
    have at_ : ∀ (l : List V) (m : List Value), Vals l m → ∀ i : Nat, (l[i]? = none ∧ m[i]? = none) ∨ ∃ x u, l[i]? = some x ∧ m[i]? = some u ∧ RelV x u := by
      intro l m r
      induction r with
      | nil => intro i; exact .inl ⟨by simp, by simp⟩
      | cons h t ih =>
        intro i
        cases i with
        | zero => exact .inr ⟨_, _, rfl, rfl, h⟩
        | succ i => simpa using ih i
    induction idx with
    | nil => exact .nil
    | cons i idx ih =>
      rw [List.filterMap_cons, List.filterMap_cons]
      rcases at_ _ _ ab i with ⟨z1, z2⟩ | ⟨x, u, z1, z2, r⟩
      · simp only [z1, z2]; exact ih
      · simp only [z1, z2]; exact .cons r ih
  · exact .nil
theorem perm_rp {K : PySem.W.Frag} {F : Hp} {np nk : Nat} {idx : List Nat} {vs zs : List V} {ds es : List PyData} (a : RpAll K F vs ds) (b : RpAll K F zs es) : RpAll K F (perm np nk idx vs zs) (perm np nk idx ds es) := by
  unfold perm
  rw [a.length, b.length]
  split
  · have ab := a.append b
    induction idx with
    | nil => exact .nil
    | cons i idx ih =>
      rw [List.filterMap_cons, List.filterMap_cons]
      cases z : (vs ++ zs)[i]? with
      | none =>
        have : (ds ++ es)[i]? = none := by
          have := List.getElem?_eq_none_iff.mp z
          rw [ab.length] at this
          exact List.getElem?_eq_none this
        simp only [this]; exact ih
      | some x =>
        obtain ⟨d, e1, r⟩ := ab.get z
        simp only [e1]; exact .cons r ih
  · exact .nil
theorem kbinds_of {K : PySem.W.Frag} {x qual : Str} {st : Stmt} {f : Addr} {fd : FuncData} {ps ks : List Str} {np : Nat} {idx : List Nat} (F : Fun K x qual st f fd) (hne : ps ≠ [])
    (h : ∀ (kV doc pm : Value) (an : Option Addr) (cdv ct : Value) (us ws : List Value), us.length = np → ws.length = ks.length →
      bindArgs (PySem.W.fnOf x qual (defArgs st) (defBody st) (defScope st) .none kV doc pm an cdv ct) ⟨us, ks.zip ws⟩ = pure (ps.zip (idx.filterMap ((us ++ ws)[·]?)))) : KBinds K fd ps ks (perm np ks.length idx) (perm np ks.length idx) := by
  obtain ⟨oc, od, kV, doc, pm, an, cdv, ct, osl, rfl, lk, hcd⟩ := F.ex
  refine ⟨fun s us ws _ hl => ?_, fun a b => perm_vals a b⟩
  unfold perm at hl ⊢
  by_cases c : us.length = np ∧ ws.length = ks.length
  · rw [if_pos c]
    exact BindsTo.of_eq (h kV doc pm an cdv ct us ws c.1 c.2)
  · rw [if_neg c] at hl
    exact absurd (List.eq_nil_of_length_eq_zero hl.symm) hne
abbrev lK := lA
section
variable {X : Cx} {k : Nat} {f : Addr} {fd : FuncData} {ps ks : List Str} {x : Str} {p pos kpos : Pos} {e : Expr} {es : List Expr} {kws : List Keyword} {nm : Option Str} {τ : EX} {τs τk : EA} {np : Nat} {idx : List Nat}
theorem pk_imp {t t' : TA} (h : PK X kws t) (i : ∀ σ H Q, t' σ H Q → t σ H Q) : PK X kws t' := ⟨fun pos pins s σ H Q I q => h.run pos pins s σ H Q I (i σ H Q q)⟩
theorem vk_nil : PK X [] (lA X.K aNil) := pk_imp pk_nil fun σ H QV ⟨pn, Z, F, Γ, hh, Q, A, q, k⟩ => k F Γ hh H [] [] (Same.refl _) A rfl q
theorem vk_cons (ha : PE X e (lX X.K τ)) (hr : PK X kws (lA X.K τs)) : PK X (⟨nm, e, kpos⟩ :: kws) (lA X.K (aCons τ τs)) :=
  pk_imp (pk_cons ha hr) fun σ H QV ⟨pn, Z, F, Γ, hh, Q, A, q, k⟩ =>
    ⟨pn, Z, F, Γ, hh, _, A, q, fun F1 Γ1 h1 H1 a1 x s1 A1 r1 q1 => ⟨pn, Z, F1, Γ1, h1, _, A1, q1, fun F2 Γ2 h2 H2 as vs s2 A2 r2 q2 =>
      k F2 Γ2 h2 H2 (a1 :: as) (x :: vs) (s1.trans s2) A2 ⟨x, vs, rfl, r1.mono s2, r2⟩ q2⟩⟩
def eCallK (wp : W0) (np nk : Nat) (idx : List Nat) (τs τk : EA) : EO := fun Γ Q => τs Γ fun as Γ1 => τk Γ1 fun bs Γ2 => ∃ ds es, unD as = some ds ∧ unD bs = some es ∧ wp (perm np nk idx ds es) fun o => Q o Γ2
theorem callK_read {wp : W0} {E : XK} {nk : Nat} {σ : St} {H : Hp} {QV : VK} (h : lO X.K (eCallK wp np nk idx τs τk) σ H QV) : tCallK (toSp0 X.K wp) (perm np nk idx) E (lA X.K τs) (lA X.K τk) σ H QV := by
  obtain ⟨pn, Z, F, Γ, hh, Q, A, q, kk⟩ := h
  refine ⟨pn, Z, F, Γ, hh, _, A, q, fun F1 Γ1 h1 H1 as vs s1 A1 r1 q1 => ⟨pn, Z, F1, Γ1, h1, _, A1, q1, fun F2 Γ2 h2 H2 bs ws s2 A2 r2 ⟨ds, es, e1, e2, q2⟩ => ?_⟩⟩
  rw [unD_eq e1] at r1
  rw [unD_eq e2] at r2
  exact ⟨F2, _, _, A2.FH, perm_rp (args_d (r1.mono s2)) (args_d r2), q2, A2.post (s1.trans s2) kk⟩
theorem vo_callK {wp : W0} (G : FnOk X.prog X.w X.K X.mg X.base CX0 k f fd ps (toSp0 X.K wp)) (hr : Room k X.A) (hg : Gl X x) (hm : X.mg x = some (.ref f)) (hk : PySem.W.keepIn X.K (.ref f) = true) {nk : Nat} (hb : KBinds X.K fd ps ks (perm np nk idx) (perm np nk idx))
    (ha : PA X (e :: es) (lA X.K τs)) (hkw : PK X kws (lA X.K τk)) (hall : (backToKw pos (keywordEach kws X.env)).all (·.1.isSome) = true := by rfl) (hks : (backToKw pos (keywordEach kws X.env)).filterMap (·.1) = ks := by rfl)
    (hdb : (x == ("__debug__" : Str)) = false := by decide) (he : starEach (e :: es) X.env = (false, eval e X.env) :: starEach es X.env := by rfl)
    (hpl : ((backTo pos (starEach (e :: es) X.env)).any (·.1) || (backToKw pos (keywordEach kws X.env)).any (·.1.isNone)) = false := by rfl) :
    PE X (.Call (.Name x p) (e :: es) kws pos) (lO X.K (eCallK wp np nk idx τs τk)) := pe_imp (pe_callK G hr hg hm hk hb pass0 ha hkw hall hks hdb he hpl) fun σ H QV h => callK_read h
theorem pe_callK0 {CX : CXT} {sp : Sp} {E : XK} {g : List Value → List Value → List Value} {gV : List V → List V → List V} {tk : TA} (F : FnOk X.prog X.w X.K X.mg X.base CX k f fd ps sp) (hr : Room k X.A) (hg : Gl X x) (hm : X.mg x = some (.ref f)) (hk : PySem.W.keepIn X.K (.ref f) = true) (hb : KBinds X.K fd ps ks g gV) (hx : Passes CX X E)
    (hkw : PK X kws tk) (hall : (backToKw pos (keywordEach kws X.env)).all (·.1.isSome) = true := by rfl) (hks : (backToKw pos (keywordEach kws X.env)).filterMap (·.1) = ks := by rfl) (hdb : (x == ("__debug__" : Str)) = false := by decide)
    (hpl : ((backTo pos (starEach [] X.env)).any (·.1) || (backToKw pos (keywordEach kws X.env)).any (·.1.isNone)) = false := by rfl) : PE X (.Call (.Name x p) [] kws pos) (tCallK sp gV E tNil tk) := by
  refine ⟨fun pins s σ H Q I h => ?_⟩
  refine wpAny_Call_Name_kw (ld_glob I hg hm ?_ hdb)
  refine PySem.W.callWith_KW0 (h₀ := X.base) I.ok.mod.kin hk hall (thn (hkw.run pos pins s σ H _ I h) fun ws s2 ⟨zs, H2, I2, rz, q2⟩ => ⟨I2.kIn, ?_⟩) hpl
  rw [hks]
  exact run_fnk (us := []) F hr hb hx I2 .nil rz q2
theorem vo_callK0 {wp : W0} (G : FnOk X.prog X.w X.K X.mg X.base CX0 k f fd ps (toSp0 X.K wp)) (hr : Room k X.A) (hg : Gl X x) (hm : X.mg x = some (.ref f)) (hk : PySem.W.keepIn X.K (.ref f) = true) {nk : Nat} (hb : KBinds X.K fd ps ks (perm 0 nk idx) (perm 0 nk idx))
    (hkw : PK X kws (lA X.K τk)) (hall : (backToKw pos (keywordEach kws X.env)).all (·.1.isSome) = true := by rfl) (hks : (backToKw pos (keywordEach kws X.env)).filterMap (·.1) = ks := by rfl)
    (hdb : (x == ("__debug__" : Str)) = false := by decide)
    (hpl : ((backTo pos (starEach [] X.env)).any (·.1) || (backToKw pos (keywordEach kws X.env)).any (·.1.isNone)) = false := by rfl) :
    PE X (.Call (.Name x p) [] kws pos) (lO X.K (eCallK wp 0 nk idx aNil τk)) := pe_imp (pe_callK0 G hr hg hm hk hb pass0 hkw hall hks hdb hpl) fun σ H QV h => by
  obtain ⟨pn, Z, F, Γ, hh, Q, A, q, kk⟩ := h
  refine ⟨pn, Z, F, Γ, hh, _, A, q, fun F2 Γ2 h2 H2 bs ws s2 A2 r2 ⟨ds, es, e1, e2, q2⟩ => ?_⟩
  cases e1
  rw [unD_eq e2] at r2
  exact ⟨F2, _, _, A2.FH, perm_rp (ds := []) .nil (args_d r2), q2, A2.post s2 kk⟩
end
end VL
end
section
namespace VL
open PySem PySem.Spec L2

/-! ### steps of the later rules -/
section
variable {Γ Γ' : Ga} {Q : O → Ga → Prop} {QX : Av → Ga → Prop} {QA : List Av → Ga → Prop} {QT : Bool → Ga → Prop} {QOS : List O → Ga → Prop} {QE : Nat → Nat → Ga → Prop} {QO : O → Prop} {D : En} {τ τ' τk : EX} {to to' : EO} {τs τkw : EA} {tos : EAO} {te : EE} {t u : ES} {tt tu : ET} {d e : PyData} {o : O} {i j k : Nat} {b c : Bool} {ds es as : List PyData} {ts : List O} {x y : Int} {kk : List (Key × PyData)}
theorem st_ixD (he : Γ[i]? = some (some o)) (h1 : isDic Γ i = false) (h2 : isTr Γ i = false) (h : τ Γ fun a Γ2 => ∃ d1 d2, rslv Γ2 (.s i) = some d1 ∧ rslv Γ2 a = some d2 ∧ opIx d1 d2 fun o => Q o Γ2) : eIxS i τ Γ Q := by
  unfold eIxS oAlt
  rw [h1]
  show oAltT _ _ _ _ _
  unfold oAltT
  rw [h2]
  exact ⟨⟨o, he⟩, h⟩
theorem st_ixT (he : Γ[i]? = some (some (.fz (.tuple ds)))) (h : τ Γ fun a Γ2 => ∃ d1 d2, rslv Γ2 (.s i) = some d1 ∧ rslv Γ2 a = some d2 ∧ opIx d1 d2 fun o => Q o Γ2) : eIxS i τ Γ Q :=
  st_ixD he (by unfold isDic; rw [he]) (by unfold isTr; rw [he]) h
theorem st_ixF (he : Γ[i]? = some (some (.fz (.list ds)))) (h : τ Γ fun a Γ2 => ∃ d1 d2, rslv Γ2 (.s i) = some d1 ∧ rslv Γ2 a = some d2 ∧ opIx d1 d2 fun o => Q o Γ2) : eIxS i τ Γ Q :=
  st_ixD he (by unfold isDic; rw [he]) (by unfold isTr; rw [he]) h
theorem st_ixLs (he : Γ[i]? = some (some (.ls ds))) (h : τ Γ fun a Γ2 => ∃ d1 d2, rslv Γ2 (.s i) = some d1 ∧ rslv Γ2 a = some d2 ∧ opIx d1 d2 fun o => Q o Γ2) : eIxS i τ Γ Q :=
  st_ixD he (by unfold isDic; rw [he]) (by unfold isTr; rw [he]) h
theorem st_ixS' {z : Str} (he : Γ[i]? = some (some (.fz (.str z)))) (h : τ Γ fun a Γ2 => ∃ d1 d2, rslv Γ2 (.s i) = some d1 ∧ rslv Γ2 a = some d2 ∧ opIx d1 d2 fun o => Q o Γ2) : eIxS i τ Γ Q :=
  st_ixD he (by unfold isDic; rw [he]) (by unfold isTr; rw [he]) h
theorem st_el (he : Γ[i]? = some (some (.tr ts))) (h : τ Γ fun a Γ1 => ∃ ts z k, Γ1[i]? = some (some (.tr ts)) ∧ rslv Γ1 a = some (.int z) ∧ ixN ts.length z = some k ∧ QE i k Γ1) : eEl i τ Γ QE := ⟨⟨ts, he⟩, h⟩
theorem st_ixTr (he : Γ[i]? = some (some (.tr ts))) (h : τ Γ fun a Γ1 => ∃ ts z k, Γ1[i]? = some (some (.tr ts)) ∧ rslv Γ1 a = some (.int z) ∧ ixN ts.length z = some k ∧ ∃ ts o d Γ2, Γ1[i]? = some (some (.tr ts)) ∧ ts[k]? = some o ∧ o.frz = some d ∧ setG Γ1 i (some (.tr (ts.set k (.fz d)))) = some Γ2 ∧ Q (.fz d) Γ2) : eIxS i τ Γ Q := by
  have h1 : isDic Γ i = false := by unfold isDic; rw [he]
  have h2 : isTr Γ i = true := by unfold isTr; rw [he]
  unfold eIxS oAlt
  rw [h1]
  show oAltT _ _ _ _ _
  unfold oAltT
  rw [h2]
  show oX (xEl (eEl i τ)) Γ Q
  unfold oX xEl eEl
  refine ⟨⟨ts, he⟩, ?_⟩
  have mono : ∀ {R R' : Av → Ga → Prop}, R = R' → τ Γ R → τ Γ R' := fun e h => e ▸ h
  refine mono ?_ h
  funext a Γ1
  apply propext
  constructor
  · rintro ⟨ts, z, k, a1, a2, a3, ts', o, d, Γ2, b1, b2, b3, b4, q⟩
    exact ⟨ts, z, k, a1, a2, a3, ts', o, d, Γ2, b1, b2, b3, b4, d, rfl, q⟩
  · rintro ⟨ts, z, k, a1, a2, a3, ts', o, d, Γ2, b1, b2, b3, b4, d', e, q⟩
    cases e
    exact ⟨ts, z, k, a1, a2, a3, ts', o, d, Γ2, b1, b2, b3, b4, q⟩
theorem st_ixDic (he : dicG Γ i = some kk) (hd : isDic Γ i = true) (h : τ Γ fun a Γ1 => ∃ kk k d, dicG Γ1 i = some kk ∧ rslv Γ1 a = some (kD k) ∧ kGet kk k = some d ∧ Q (.fz d) Γ1) : eIxS i τ Γ Q := by
  unfold eIxS oAlt
  rw [hd]
  exact ⟨⟨kk, he⟩, h⟩
theorem st_lenT (he : Γ[i]? = some (some (.tr ts))) (h : Q (.fz (.int (ts.length : Nat))) Γ) : eLenS i Γ Q := by unfold eLenS; rw [he]; exact h
theorem st_lenD (d : PyData) (he : rslv Γ (.s i) = some d) (h : cdLen [d] fun o => Q o Γ) : eLenS i Γ Q := by
  unfold eLenS
  split
  · rename_i ts e
    simp [rslv, e] at he
  · exact ⟨d, he, h⟩
theorem st_cbe {cd : List PyData → (O → Prop) → Prop} (h : te Γ fun i k Γ1 => ∃ o d, elG Γ1 i k = some o ∧ elD o = some d ∧ cd [d] fun o => Q o Γ1) : eCBE cd te Γ Q := h
theorem st_true (h : te Γ fun i k Γ1 => ∃ o d c, elG Γ1 i k = some o ∧ elD o = some d ∧ truD d = some c ∧ QT c Γ1) : tTruE te Γ QT := h
theorem st_ixe {op : PyData → PyData → (O → Prop) → Prop} (h : te Γ fun i k Γ1 => ∃ o1 ts Γ2, o1 = .tr ts ∧ Γ1[i]? = some (some o1) ∧ setG Γ1 i none = some Γ2 ∧ τ Γ2 fun a Γ3 => ∃ el d1 d2 Γ4, rslv Γ3 a = some d2 ∧ ts[k]? = some el ∧ elD el = some d1 ∧ setG Γ3 i (some o1) = some Γ4 ∧ op d1 d2 fun o => Q o Γ4) : eIxE op te τ Γ Q := h
theorem st_app {tb : Bool} (hl : listG Γ i) (h : to Γ fun o Γ1 => appO tb i o Γ1 Q) : eApp tb i to Γ Q := ⟨hl, h⟩
theorem listG_ls (he : Γ[i]? = some (some (.ls ds))) : listG Γ i := .inl ⟨ds, he⟩
theorem listG_tr (he : Γ[i]? = some (some (.tr ts))) : listG Γ i := .inr ⟨ts, he⟩
theorem st_appL (he : Γ[i]? = some (some (.ls ds))) (hz : ds.length < sizeLine) (hd : o.frz = some d) (hs : setG Γ i (some (.ls (ds ++ [d]))) = some Γ') (h : Q (.fz .none) Γ') : appO false i o Γ Q := by
  unfold appO
  rw [he]
  exact ⟨hz, by rw [if_neg Bool.false_ne_true]; exact ⟨d, hd, Γ', hs, h⟩⟩
theorem st_appN (he : Γ[i]? = some (some (.ls ds))) (hz : ds.length < sizeLine) (hs : setG Γ i (some (.tr (ds.map .fz ++ [o]))) = some Γ') (h : Q (.fz .none) Γ') : appO true i o Γ Q := by
  unfold appO
  rw [he]
  exact ⟨hz, by rw [if_pos rfl]; exact ⟨Γ', hs, h⟩⟩
theorem st_appT {tb : Bool} (he : Γ[i]? = some (some (.tr ts))) (hz : ts.length < sizeLine) (hs : setG Γ i (some (.tr (ts ++ [o]))) = some Γ') (h : Q (.fz .none) Γ') : appO tb i o Γ Q := by
  unfold appO
  rw [he]
  exact ⟨hz, Γ', hs, h⟩
theorem st_popL (he : Γ[i]? = some (some (.ls ds))) (hx : ds[ds.length - 1]? = some d) (hs : setG Γ i (some (.ls ds.dropLast)) = some Γ') (h : Q (.fz d) Γ') : ePop i Γ Q := by
  unfold ePop; rw [he]; exact ⟨d, Γ', hx, hs, h⟩
theorem st_popT (he : Γ[i]? = some (some (.tr ts))) (hx : ts[ts.length - 1]? = some o) (hs : setG Γ i (some (.tr ts.dropLast)) = some Γ') (h : Q o Γ') : ePop i Γ Q := by
  unfold ePop; rw [he]; exact ⟨o, Γ', hx, hs, h⟩
theorem st_putS (hd : isDic Γ i = false) (h : sPut i τ to D Γ) : sPutS i τ τ' to D Γ := by
  unfold sPutS sAlt; rw [hd]; exact h
theorem st_putSD (hd : isDic Γ i = true) (h : sDPutS i τ τ' D Γ) : sPutS i τ τ' to D Γ := by
  unfold sPutS sAlt; rw [hd]; exact h
theorem st_put (h : to Γ fun o Γ1 => (∃ o1, Γ1[i]? = some (some o1) ∧ (∃ ts, o1 = .tr ts ∨ ∃ ds, o1 = .ls ds)) ∧ τ Γ1 fun a Γ2 => ∃ z k Γ3, rslv Γ2 a = some (.int z) ∧
  ((∃ ts, Γ2[i]? = some (some (.tr ts)) ∧ ixN ts.length z = some k ∧ setG Γ2 i (some (.tr (ts.set k o))) = some Γ3) ∨ (∃ ds d, Γ2[i]? = some (some (.ls ds)) ∧ o.frz = some d ∧ ixN ds.length z = some k ∧ setG Γ2 i (some (.ls (ds.set k d))) = some Γ3)) ∧ D.nx Γ3) : sPut i τ to D Γ := h
theorem st_dput (h : τ' Γ fun av Γ1 => (∃ kk, Γ1[i]? = some (some (.dk kk))) ∧ ∃ d, av = .d d ∧ τ Γ1 fun a Γ2 => ∃ kk k Γ3, Γ2[i]? = some (some (.dk kk)) ∧ rslv Γ2 a = some (kD k) ∧ kk.length < sizeLine ∧ setG Γ2 i (some (.dk (kPut kk k d))) = some Γ3 ∧ D.nx Γ3) : sDPutS i τ τ' D Γ := h
theorem st_in (hd : isDic Γ i = false) (h : τ Γ fun a Γ1 => xVar i Γ1 fun a2 Γ2 => ∃ d1 d2, rslv Γ2 a = some d1 ∧ rslv Γ2 a2 = some d2 ∧ opIn d1 d2 fun o => Q o Γ2) : eInS i τ Γ Q := by unfold eInS oAlt; rw [hd]; exact h
theorem st_notin (hd : isDic Γ i = false) (h : τ Γ fun a Γ1 => xVar i Γ1 fun a2 Γ2 => ∃ d1 d2, rslv Γ2 a = some d1 ∧ rslv Γ2 a2 = some d2 ∧ opNotIn d1 d2 fun o => Q o Γ2) : eNotInS i τ Γ Q := by unfold eNotInS oAlt; rw [hd]; exact h
theorem st_tin (hd : isDic Γ i = false) (h : τ Γ fun a Γ1 => xVar i Γ1 fun a2 Γ2 => ∃ d1 d2, rslv Γ2 a = some d1 ∧ rslv Γ2 a2 = some d2 ∧ opIn d1 d2 fun o => ∃ b, o = .fz (.bool b) ∧ QT b Γ2) : tInS i τ Γ QT := by unfold tInS tAlt; rw [hd]; exact h
theorem st_tnotin (hd : isDic Γ i = false) (h : τ Γ fun a Γ1 => xVar i Γ1 fun a2 Γ2 => ∃ d1 d2, rslv Γ2 a = some d1 ∧ rslv Γ2 a2 = some d2 ∧ opNotIn d1 d2 fun o => ∃ b, o = .fz (.bool b) ∧ QT b Γ2) : tNotInS i τ Γ QT := by unfold tNotInS tAlt; rw [hd]; exact h
theorem st_din (hd : isDic Γ i = true) (h : τ Γ fun a Γ1 => ∃ kk k, dicG Γ1 i = some kk ∧ rslv Γ1 a = some (kD k) ∧ Q (.fz (.bool (kGet kk k).isSome)) Γ1) : eInS i τ Γ Q := by unfold eInS oAlt; rw [hd]; exact h
theorem st_dnotin (hd : isDic Γ i = true) (h : τ Γ fun a Γ1 => ∃ kk k, dicG Γ1 i = some kk ∧ rslv Γ1 a = some (kD k) ∧ Q (.fz (.bool !(kGet kk k).isSome)) Γ1) : eNotInS i τ Γ Q := by unfold eNotInS oAlt; rw [hd]; exact h
theorem st_tdin (hd : isDic Γ i = true) (h : τ Γ fun a Γ1 => ∃ kk k, dicG Γ1 i = some kk ∧ rslv Γ1 a = some (kD k) ∧ ∃ b, O.fz (.bool (kGet kk k).isSome) = .fz (.bool b) ∧ QT b Γ1) : tInS i τ Γ QT := by unfold tInS tAlt; rw [hd]; exact h
theorem st_tdnotin (hd : isDic Γ i = true) (h : τ Γ fun a Γ1 => ∃ kk k, dicG Γ1 i = some kk ∧ rslv Γ1 a = some (kD k) ∧ ∃ b, O.fz (.bool !(kGet kk k).isSome) = .fz (.bool b) ∧ QT b Γ1) : tNotInS i τ Γ QT := by unfold tNotInS tAlt; rw [hd]; exact h
theorem st_dnew (h : Q (.dk []) Γ) : eDNew Γ Q := h
theorem st_ao0 (h : QOS [] Γ) : aoNil Γ QOS := h
theorem st_ao (h : to Γ fun o Γ1 => tos Γ1 fun os Γ2 => QOS (o :: os) Γ2) : aoCons to tos Γ QOS := h
theorem st_trl (h : tos Γ fun os Γ1 => os.length ≤ sizeLine ∧ Q (mkL os) Γ1) : eTrL tos Γ Q := h
theorem st_del (he : Γ[i]? = some (some (.ls ds))) (h : τ Γ fun a Γ1 => ∃ ds n Γ2, Γ1[i]? = some (some (.ls ds)) ∧ rslv Γ1 a = some (.int (n : Nat)) ∧ setG Γ1 i (some (.ls (ds.take n))) = some Γ2 ∧ D.nx Γ2) : sDel i τ D Γ := ⟨⟨ds, he⟩, h⟩
theorem st_callk {wp : W0} {np nk : Nat} {idx : List Nat} (h : τs Γ fun as Γ1 => τkw Γ1 fun bs Γ2 => ∃ ds es, unD as = some ds ∧ unD bs = some es ∧ wp (perm np nk idx ds es) fun o => Q o Γ2) : eCallK wp np nk idx τs τkw Γ Q := h
theorem cd_sortedL {QO : O → Prop} (hs : SortOk ds) (h : QO (.ls (ds.mergeSort (PySem.W.dataLe false id)))) : cdSorted [.list ds] QO := ⟨hs, h⟩
end
end VL
end
section
namespace VL
open PySem PySem.Spec L2

/-! ### a call that lends what slots own: the answer bears no reference -/
def flatD : PyData → Bool
  | .none => true
  | .bool _ => true
  | .int _ => true
  | .str _ => true
  | _ => false
theorem flat_rp {K : PySem.W.Frag} {F F' : Hp} {d : PyData} {v : V} (h : flatD d = true) (r : Rp K F v d) : Rp K F' v d := by
  cases r with
  | non => exact .non
  | bl b => exact .bl b
  | int b => exact .int b
  | str b => exact .str b
  | lst _ _ => cases h
  | tup _ _ => cases h
  | dct _ _ _ _ => cases h
  | scr _ => cases h
theorem rep_lent {K : PySem.W.Frag} {pn : List (Nat × V)} {Z F : Hp} {Γ : Ga} {σ : St} {h H : Hp} {a : Av} {v : V} {d : PyData} (A : At K pn Z F Γ σ h H) (r : ArgRel K F σ a v) (e : rslv Γ a = some d) : Rp K (jn h F) v d := by
  have sF : Same F (jn h F) := same_r A.hF
  cases a with
  | d x => cases e; exact Rp.mono sF r
  | s j =>
    cases e1 : Γ[j]? with
    | none => simp [rslv, e1] at e
    | some x =>
      cases x with
      | none => simp [rslv, e1] at e
      | some o =>
        obtain ⟨u, h1, h2, s1, eh, _, w, _⟩ := A.own.focus e1
        have r : σ[j]? = some (some v) := r
        rw [s1] at r; cases r
        cases o with
        | fz d' =>
          have e : some d' = some d := by simpa [rslv, e1] using e
          cases e
          exact Rp.mono sF (own_fz.mp w).2
        | ls ds =>
          have e : some (PyData.list ds) = some d := by simpa [rslv, e1] using e
          cases e
          obtain ⟨a, vs, rfl, rfl, q⟩ := own_ls.mp w
          refine .lst ?_ (RpAll.mono sF q)
          rw [eh]
          exact jn_l (jn_l one_at)
        | dk _ => simp [rslv, e1] at e
        | rs _ => simp [rslv, e1] at e
        | tr _ => simp [rslv, e1] at e
theorem reps_lent {K : PySem.W.Frag} {pn : List (Nat × V)} {Z F : Hp} {Γ : Ga} {σ : St} {h H : Hp} (A : At K pn Z F Γ σ h H) : ∀ {as : List Av} {vs : List V} {ds : List PyData}, ArgsRel K F σ as vs → rsAll Γ as = some ds → RpAll K (jn h F) vs ds
  | [], _, ds, r, e => by cases e; cases r; exact .nil
  | a :: as, _, ds, ⟨v, vr, e0, r, t⟩, e => by
    unfold rsAll at e
    split at e
    · rename_i d ds' h1 h2
      cases e; cases e0
      exact .cons (rep_lent A r h1) (reps_lent A t h2)
    · cases e
/-- what was lent is taken back -/
def off (h F : Hp) : Hp := fun a => match h a with | none => F a | some _ => none
theorem off_of {h F : Hp} {a : Addr} (e : h a = none) : off h F a = F a := by unfold off; rw [e]
theorem off_in {h F : Hp} {a : Addr} {o : HO} (e : h a = some o) : off h F a = none := by unfold off; rw [e]
theorem At.back {K : PySem.W.Frag} {pn : List (Nat × V)} {Z F F' : Hp} {Γ : Ga} {σ : St} {h H H' : Hp} (A : At K pn Z F Γ σ h H) (g : Grow (jn h F) H F' H') : Same F (off h F') ∧ At K pn Z (off h F') Γ σ h H' := by
  have s1 : Same F (off h F') := fun a o e => by
    have : h a = none := by
      rcases A.hF a with z | z
      · exact z
      · rw [z] at e; cases e
    rw [off_of this]
    exact g.fs _ _ (same_r A.hF _ _ e)
  have s2 : Same (off h F') F' := fun a o e => by
    cases z : h a with
    | none => rw [off_of z] at e; exact e
    | some u => rw [off_in z] at e; cases e
  refine ⟨s1, A.own.mono s1, A.hH.trans g.hh, s2.trans g.fh, A.ZH.trans g.hh, ?_, fun a => ?_, A.hZ, A.pin⟩
  · exact fun a => by
      cases z : off h F' a with
      | none => exact .inl rfl
      | some u =>
        right
        have e := s2 _ _ z
        rcases g.nw a (by rw [e]; simp) with y | y
        · cases zh : h a with
          | some w => rw [off_in zh] at z; cases z
          | none =>
            rw [jn_r zh] at y
            rcases A.FZ a with x | x
            · exact absurd x y
            · exact x
        · exact A.ZH.free y
  · cases z : h a with
    | none => exact .inl rfl
    | some u => exact .inr (off_in z)
def eCallB (wp : W0) (dds : List PyData) (τs : EA) : EO := fun Γ Q => τs Γ fun as Γ1 => ∃ ds, rsAll Γ1 as = some ds ∧ wp (ds ++ dds) fun o => ∃ d, o = .fz d ∧ flatD d = true ∧ Q (.fz d) Γ1
section
variable {X : Cx} {k : Nat} {f : Addr} {fd : FuncData} {ps : List Str} {x : Str} {p pos : Pos} {e : Expr} {es : List Expr} {τs : EA} {dvs : List V} {ds : List Value} {dds : List PyData}
theorem callB_read {wp : W0} (hdd : ∀ F, RpAll X.K F dvs dds) {E : XK} {σ : St} {H : Hp} {QV : VK} (h : lO X.K (eCallB wp dds τs) σ H QV) : tCall (toSp0 X.K wp) dvs E (lA X.K τs) σ H QV := by
  obtain ⟨pn, Z, F, Γ, hh, Q, A, q, kk⟩ := h
  refine ⟨pn, Z, F, Γ, hh, _, A, q, fun F1 Γ1 h1 H1 as vs s1 A1 r1 ⟨ds', e1, q1⟩ => ?_⟩
  refine ⟨jn h1 F1, ds' ++ dds, _, same_jn A1.hH A1.FH, (reps_lent A1 r1 e1).append (hdd _), q1, fun F' hr H' o v g w sr d nw ⟨dd, eo, fl, q2⟩ => ?_⟩
  subst eo
  obtain ⟨sF, A'⟩ := A1.back g
  exact kk _ Γ1 h1 emp H' (.fz dd) v (s1.trans sF) A'.alone ⟨rfl, flat_rp fl (own_fz.mp w).2⟩ q2
theorem vo_callB {wp : W0} (G : FnOk X.prog X.w X.K X.mg X.base CX0 k f fd ps (toSp0 X.K wp)) (hr : Room k X.A) (hg : Gl X x) (hm : X.mg x = some (.ref f)) (hk : PySem.W.keepIn X.K (.ref f) = true) (hb : Binds X.K fd ps ds) (hd : Vals dvs ds) (hdd : ∀ F, RpAll X.K F dvs dds)
    (ha : PA X (e :: es) (lA X.K τs)) (hdb : (x == ("__debug__" : Str)) = false := by decide) (he : starEach (e :: es) X.env = (false, eval e X.env) :: starEach es X.env := by rfl) (hpl : (backTo pos (starEach es X.env)).any (·.1) = false := by rfl) :
    PE X (.Call (.Name x p) (e :: es) [] pos) (lO X.K (eCallB wp dds τs)) := pe_imp (pe_call G hr hg hm hk hb hd pass0 ha hdb he hpl) fun σ H QV h => callB_read hdd h
end
theorem st_callB {Γ : Ga} {Q : O → Ga → Prop} {τs : EA} {wp : W0} {dds : List PyData} (h : τs Γ fun as Γ1 => ∃ ds, rsAll Γ1 as = some ds ∧ wp (ds ++ dds) fun o => ∃ d, o = .fz d ∧ flatD d = true ∧ Q (.fz d) Γ1) : eCallB wp dds τs Γ Q := h
end VL
end
section
namespace VL
open PySem PySem.Spec L2
section
variable {α : Type} {Γ Γ1 : Ga} {vs : List Nat} {ti : EI} {g : EG} {tt : ET} {to : EO} {Q : O → Ga → Prop}
theorem lcO_inv (xs : List α) (enc : α → PyData) (I : Nat → List O → Ga → Prop) (hi : IPure ti Γ (xs.map enc) Γ1) (pl : Plain Γ1 vs) (h0 : I 0 [] Γ1)
    (turn : ∀ i x acc Γ', xs[i]? = some x → I i acc Γ' → (∀ j ∈ vs, Γ'[j]? = Γ1[j]?) → ∃ Γw, nrm (wipeG Γ' vs) = some Γw ∧ g (enc x) Γw fun Γ2 => tt Γ2 fun b Γ3 => Br b (to Γ3 fun o Γ4 => acc.length < sizeLine ∧ ∃ Γb, nrm (backG Γ1 Γ4 vs) = some Γb ∧ I (i + 1) (acc ++ [o]) Γb) (∃ Γb, nrm (backG Γ1 Γ3 vs) = some Γb ∧ I (i + 1) acc Γb))
    (h : ∀ acc Γ', I xs.length acc Γ' → Q (.tr acc) Γ') : eLcO ti g tt to vs Γ Q := by
  refine hi _ ⟨pl, I, h0, fun i d acc Γ' e w sl => ?_, fun acc Γ' w => h acc Γ' (by rw [List.length_map] at w; exact w)⟩
  rw [List.getElem?_map] at e
  cases ex : xs[i]? with
  | none => rw [ex] at e; cases e
  | some x => rw [ex] at e; cases e; exact turn i x acc Γ' ex w sl
end
section
variable {Γ : Ga} {Q : O → Ga → Prop} {te : EE} {τs : EA} {τj τv : EX} {sm : SM} {D : En}
theorem st_sme (h : te Γ fun i k Γ1 => ∃ o1 ts Γ2 ds, o1 = .tr ts ∧ Γ1[i]? = some (some o1) ∧ setG Γ1 i none = some Γ2 ∧ ts[k]? = some (.ls ds) ∧ τs Γ2 fun as Γ3 => ∃ ads Γ4, unD as = some ads ∧ setG Γ3 i (some o1) = some Γ4 ∧ sm ds ads fun ds' d => ∃ Γ5, setG Γ4 i (some (.tr (ts.set k (.ls ds')))) = some Γ5 ∧ Q (.fz d) Γ5) : eSME sm te τs Γ Q := h
theorem st_sme0 (h : te Γ fun i k Γ1 => ∃ ts ds, Γ1[i]? = some (some (.tr ts)) ∧ ts[k]? = some (.ls ds) ∧ sm ds [] fun ds' d => ∃ Γ5, setG Γ1 i (some (.tr (ts.set k (.ls ds')))) = some Γ5 ∧ Q (.fz d) Γ5) : eSME0 sm te Γ Q := h
theorem st_pute (h : τv Γ fun av Γ1 => ∃ d, av = .d d ∧ te Γ1 fun i k Γ2 => ∃ o1 ts ds Γ3, o1 = .tr ts ∧ Γ2[i]? = some (some o1) ∧ ts[k]? = some (.ls ds) ∧ setG Γ2 i none = some Γ3 ∧ τj Γ3 fun a Γ4 => ∃ z j Γ5, rslv Γ4 a = some (.int z) ∧ ixN ds.length z = some j ∧ setG Γ4 i (some o1) = some Γ5 ∧ ∃ Γ6, setG Γ5 i (some (.tr (ts.set k (.ls (ds.set j d))))) = some Γ6 ∧ D.nx Γ6) : sPutE te τj τv D Γ := h
end
/-! a comprehension, a for, where what is walked is known later -/
def lcB (g : EG) (tt : ET) (te : EX) (vs : List Nat) (ds : List PyData) (Γ1 : Ga) (Q : O → Ga → Prop) : Prop := Plain Γ1 vs ∧ ∃ I : Nat → List PyData → Ga → Prop, I 0 [] Γ1 ∧
  (∀ i d acc Γ', ds[i]? = some d → I i acc Γ' → (∀ j ∈ vs, Γ'[j]? = Γ1[j]?) → ∃ Γw, nrm (wipeG Γ' vs) = some Γw ∧ g d Γw fun Γ2 => tt Γ2 fun b Γ3 => Br b (te Γ3 fun a Γ4 => ∃ y, a = .d y ∧ acc.length < sizeLine ∧ ∃ Γb, nrm (backG Γ1 Γ4 vs) = some Γb ∧ I (i + 1) (acc ++ [y]) Γb) (∃ Γb, nrm (backG Γ1 Γ3 vs) = some Γb ∧ I (i + 1) acc Γb)) ∧
  ∀ acc Γ', I ds.length acc Γ' → Q (.ls acc) Γ'
def forB (g : EG) (t : ES) (D : En) (ds : List PyData) (Γ1 : Ga) : Prop := ∃ I : Nat → Ga → Prop, I 0 Γ1 ∧ (∀ i d Γ', ds[i]? = some d → I i Γ' → g d Γ' fun Γ2 => t { D with nx := I (i + 1), ct := I (i + 1), bk := D.nx } Γ2) ∧ ∀ Γ', I ds.length Γ' → D.nx Γ'
theorem st_lc {ti : EI} {g : EG} {tt : ET} {te : EX} {vs : List Nat} {Γ : Ga} {Q : O → Ga → Prop} (h : ti Γ fun ds Γ1 => lcB g tt te vs ds Γ1 Q) : eLc ti g tt te vs Γ Q := h
theorem st_for {ti : EI} {g : EG} {t : ES} {D : En} {Γ : Ga} (h : ti Γ fun ds Γ1 => forB g t D ds Γ1) : sFor ti g t D Γ := h
theorem lcB_inv {α : Type} {g : EG} {tt : ET} {te : EX} {vs : List Nat} {Γ1 : Ga} {Q : O → Ga → Prop} {ds : List PyData} (xs : List α) (enc : α → PyData) (I : Nat → List PyData → Ga → Prop) (he : ds = xs.map enc) (pl : Plain Γ1 vs) (h0 : I 0 [] Γ1)
    (turn : ∀ i x acc Γ', xs[i]? = some x → I i acc Γ' → (∀ j ∈ vs, Γ'[j]? = Γ1[j]?) → ∃ Γw, nrm (wipeG Γ' vs) = some Γw ∧ g (enc x) Γw fun Γ2 => tt Γ2 fun b Γ3 => Br b (te Γ3 fun a Γ4 => ∃ y, a = .d y ∧ acc.length < sizeLine ∧ ∃ Γb, nrm (backG Γ1 Γ4 vs) = some Γb ∧ I (i + 1) (acc ++ [y]) Γb) (∃ Γb, nrm (backG Γ1 Γ3 vs) = some Γb ∧ I (i + 1) acc Γb))
    (h : ∀ acc Γ', I xs.length acc Γ' → Q (.ls acc) Γ') : lcB g tt te vs ds Γ1 Q := by
  subst he
  exact lc_inv (ti := fun Γ QI => QI (xs.map enc) Γ) xs enc I (fun QI q => q) pl h0 turn h
theorem forB_inv {α : Type} {g : EG} {t : ES} {D : En} {Γ1 : Ga} {ds : List PyData} (xs : List α) (enc : α → PyData) (I : Nat → Ga → Prop) (he : ds = xs.map enc) (h0 : I 0 Γ1)
    (turn : ∀ i x Γ', xs[i]? = some x → I i Γ' → g (enc x) Γ' fun Γ2 => t { D with nx := I (i + 1), ct := I (i + 1), bk := D.nx } Γ2) (hd : ∀ Γ', I xs.length Γ' → D.nx Γ') : forB g t D ds Γ1 := by
  subst he
  exact for_inv (ti := fun Γ QI => QI (xs.map enc) Γ) xs enc I (fun QI q => q) h0 turn hd
theorem br_nt {A B : Prop} (h : B) : Br (!true) A B := br_f h
theorem br_nf {A B : Prop} (h : A) : Br (!false) A B := br_t h
theorem op_isBl {b : Bool} {Q : O → Prop} (h : Q (.fz (.bool false))) : opIsN (.bool b) .none Q := ⟨rfl, h⟩
theorem op_isSt {x : Str} {Q : O → Prop} (h : Q (.fz (.bool false))) : opIsN (.str x) .none Q := ⟨rfl, h⟩
theorem op_isLs {ds : List PyData} {Q : O → Prop} (h : Q (.fz (.bool false))) : opIsN (.list ds) .none Q := ⟨rfl, h⟩
theorem shaped_str {x : Str} (h : PyData.strOk x = true) : shaped (.str x) := by unfold shaped SeqAt.shaped; simp [PyData.canLay0, PyData.depth, h]
theorem ixN_nat {n k : Nat} (h : k < n) : ixN n (k : Int) = some k := by
  unfold ixN
  rw [if_pos (by omega), if_pos (by omega)]
  rfl
theorem ixN_of {n k : Nat} {z : Int} (e : z = (k : Int)) (h : k < n) : ixN n z = some k := by rw [e]; exact ixN_nat h
theorem szI {n : Int} (h0 : 0 ≤ n) (h : n ≤ 1000000000) : -(2 ^ 62) ≤ n ∧ n < 2 ^ 62 := by omega
end VL
end
section
/-! sets of tuples (tuples of whole numbers, truth values, texts, None, such tuples), by their keys -/
namespace VS
open PySem PySem.Spec PyProof.Rows L2
section
variable {P : Program} {w : World} {E : Value → Shared → Prop}
/-! ### small questions about keys -/
def NoCl (P : Program) (w : World) (n : Nat) (s : Shared) (v : Value) : Prop := ∀ (A : Around) (E : Value → Shared → Prop) (Q : Bool → Shared → Prop), Q false s → wpAny (model P w) A (ofAClassStatement n v) Q E s
theorem NoCl.tup {n m : Nat} {s : Shared} {a : Addr} {u : Obj} {xs : Array Value} (g1 : s.heap.get? a = some u) (g2 : u.cls = .type "tuple") (g3 : u.data = .seq xs m) (g4 : ∀ x ∈ xs.toList, NoCl P w n s x) : NoCl P w (n + 1) s (.ref a) := fun A E Q q => by
  unfold ofAClassStatement
  refine wpAny_bind (wpAny_typeOf (show s.TypeIs (.ref a) "tuple" from ⟨u, g1, g2⟩) ?_)
  dsimp only
  have tt : (("tuple" : String) == "tuple") = true := by decide
  simp only [tt, if_true, Bool.not_true, Bool.false_eq_true, if_false]
  try refine wpAny_bind (wpAny_pure ?_)
  try simp only [Bool.not_true, Bool.false_eq_true, if_false]
  show wpAny _ _ (seqItems? (Value.ref a) >>= _) Q E s
  refine wpAny_bind (wpAny_seqItems g1 g3 ?_)
  dsimp only
  refine wpAny_bind ?_
  show wpAny _ _ (forIn xs _ _) _ E s
  rw [← Array.forIn_toList]
  refine wpAny_forIn_list _ (fun more acc s2 => s2 = s ∧ acc.1 = none ∧ ∀ x ∈ more, NoCl P w n s x) _ ?_ ?_ _ _ ⟨rfl, rfl, g4⟩
  · rintro x more acc s2 ⟨rfl, z, ok⟩
    refine wpAny_bind (ok x List.mem_cons_self _ _ _ ?_)
    simp only [Bool.false_eq_true, if_false]
    exact wpAny_pure ⟨rfl, rfl, fun y hy => ok y (List.mem_cons_of_mem _ hy)⟩
  · rintro ⟨acc, acc2⟩ s2 ⟨rfl, z, _⟩
    simp only at z
    subst z
    exact wpAny_pure q
mutual
theorem noCl_key : ∀ (k : NestedKey) (v : Value) (n : Nat) (s : Shared), NestedIs s.heap k v → k.depth ≤ n → NoCl P w n s v
  | .none, _, n, s, x, _ => fun A E Q q => by cases x; cases n <;> exact wpAny_pure q
  | .num i, _, n, s, x, _ => fun A E Q q => by cases x <;> cases n <;> exact wpAny_pure q
  | .text y, _, n, s, x, _ => fun A E Q q => by cases x; cases n <;> exact wpAny_pure q
  | .tup ks, _, n, s, x, hn => by
    cases x with
    | tup g1 g2 g3 g4 =>
      simp only [NestedKey.depth] at hn
      cases n with
      | zero => omega
      | succ n => exact .tup g1 g2 g3 (noCl_keys ks _ n s g4 (by omega))
theorem noCl_keys : ∀ (ks : List NestedKey) (vs : List Value) (n : Nat) (s : Shared), NestedAll s.heap ks vs → NestedKey.depthAll ks ≤ n → ∀ v ∈ vs, NoCl P w n s v
  | [], _, n, s, x, _, v, hv => by cases x; cases hv
  | k :: ks, _, n, s, x, hn, v, hv => by
    cases x with
    | cons x1 x2 =>
      simp only [NestedKey.depthAll] at hn
      rcases List.mem_cons.mp hv with e | hv
      · subst e; exact noCl_key k _ n s x1 (by omega)
      · exact noCl_keys ks _ n s x2 (by omega) v hv
end
def HaBy (P : Program) (w : World) (n : Nat) (s : Shared) (v : Value) : Prop := ∀ (A : Around) (E : Value → Shared → Prop) (Q : Bool → Shared → Prop), (∀ b, Q b s) → wpAny (model P w) A (hashByValue n v) Q E s
theorem HaBy.tup {n m : Nat} {s : Shared} {a : Addr} {u : Obj} {xs : Array Value} (g1 : s.heap.get? a = some u) (g2 : u.cls = .type "tuple") (g3 : u.data = .seq xs m) (g4 : ∀ x ∈ xs.toList, HaBy P w n s x) : HaBy P w (n + 1) s (.ref a) := fun A E Q q => by
  unfold hashByValue
  refine wpAny_bind (wpAny_specialOf (show s.TypeIs (.ref a) "tuple" from ⟨u, g1, g2⟩) PySem.F.slot_tuple_hash.lookup ?_)
  show wpAny _ _ (seqItems? (Value.ref a) >>= _) Q E s
  refine wpAny_bind (wpAny_seqItems g1 g3 ?_)
  refine wpAny_bind ?_
  show wpAny _ _ (forIn xs _ _) _ E s
  rw [← Array.forIn_toList]
  refine wpAny_forIn_list _ (fun more acc s2 => s2 = s ∧ acc.1 = none ∧ ∀ x ∈ more, HaBy P w n s x) _ ?_ ?_ _ _ ⟨rfl, rfl, g4⟩
  · rintro x more acc s2 ⟨rfl, z, ok⟩
    refine wpAny_bind (ok x List.mem_cons_self _ _ _ fun b => ?_)
    cases b
    · simp only [Bool.not_false, if_true]
      exact wpAny_pure (wpAny_pure (q _))
    · simp only [Bool.not_true, Bool.false_eq_true, if_false]
      exact wpAny_pure ⟨rfl, rfl, fun y hy => ok y (List.mem_cons_of_mem _ hy)⟩
  · rintro ⟨acc, acc2⟩ s2 ⟨rfl, z, _⟩
    simp only at z
    subst z
    exact wpAny_pure (q _)
mutual
theorem haBy_key : ∀ (k : NestedKey) (v : Value) (n : Nat) (s : Shared), NestedIs s.heap k v → k.depth ≤ n → HaBy P w n s v
  | .none, _, n, s, x, _ => fun A E Q q => by cases x; cases n <;> exact wpAny_pure (q _)
  | .num i, _, n, s, x, _ => fun A E Q q => by cases x <;> cases n <;> exact wpAny_pure (q _)
  | .text y, _, n, s, x, _ => fun A E Q q => by cases x; cases n <;> exact wpAny_pure (q _)
  | .tup ks, _, n, s, x, hn => by
    cases x with
    | tup g1 g2 g3 g4 =>
      simp only [NestedKey.depth] at hn
      cases n with
      | zero => omega
      | succ n => exact .tup g1 g2 g3 (haBy_keys ks _ n s g4 (by omega))
theorem haBy_keys : ∀ (ks : List NestedKey) (vs : List Value) (n : Nat) (s : Shared), NestedAll s.heap ks vs → NestedKey.depthAll ks ≤ n → ∀ v ∈ vs, HaBy P w n s v
  | [], _, n, s, x, _, v, hv => by cases x; cases hv
  | k :: ks, _, n, s, x, hn, v, hv => by
    cases x with
    | cons x1 x2 =>
      simp only [NestedKey.depthAll] at hn
      rcases List.mem_cons.mp hv with e | hv
      · subst e; exact haBy_key k _ n s x1 (by omega)
      · exact haBy_keys ks _ n s x2 (by omega) v hv
end
end
/-! ### the set -/
abbrev Elt := Addr × NestedKey
/-- the tuple at the address has the key -/
def IsK (h : Heap) (e : Elt) : Prop := NestedIs h e.2 (.ref e.1) ∧ e.2.depth ≤ 8
def rws (w : World) (L : List Elt) : List (Int × Value) := L.map fun e => (e.2.hash w, Value.ref e.1)
abbrev hss (w : World) (L : List Elt) : List Int := L.map fun e => e.2.hash w
structure SR (w : World) (h : Heap) (a : Addr) (L : List Elt) (es : Array (Int × Value)) (ep : Nat) (t : SetTable) : Prop where
  at' : ∃ u, h.get? a = some u ∧ u.ExactSet ∧ u.data = .set es ep t
  rw' : es.toList = rws w L
  tb : TabOk t (hss w L)
  nd : (L.map (·.2)).Nodup
  ks : ∀ e ∈ L, IsK h e
  ld : w.params.followText "set-order" = true ∨ t.led = true
  rm : L.length * 5 < t.mask * 3
  fw : L.length < 64
theorem IsK.tup {h : Heap} {a : Addr} {k : NestedKey} (x : IsK h (a, k)) : ∃ u xs n, h.get? a = some u ∧ u.data = .seq xs n := by
  obtain ⟨x, _⟩ := x
  cases x with
  | tup g1 g2 g3 g4 => exact ⟨_, _, _, g1, g3⟩
theorem IsK.keep {h h' : Heap} {e : Elt} (x : IsK h e) (g : ∀ b u xs n, h.get? b = some u → u.data = .seq xs n → h'.get? b = some u) : IsK h' e := ⟨NestedIs.at (fun b u xs n z1 z2 => g b u xs n z1 z2) _ _ x.1, x.2⟩
theorem IsK.but {h h' : Heap} {e : Elt} {a : Addr} {u : Obj} {es : Array (Int × Value)} {ep : Nat} {t : SetTable} (x : IsK h e) (g : h.get? a = some u) (d : u.data = .set es ep t) (sb : Heap.SameBut a h h') : IsK h' e :=
  x.keep fun b v xs n z1 z2 => (sb.2 b fun z => by subst z; rw [g] at z1; cases z1; rw [d] at z2; cases z2).trans z1
theorem eqK {P : Program} {w : World} {A : Around} {E : Value → Shared → Prop} {s : Shared} {x y : Elt} {Q : Bool → Shared → Prop} (hu : A.units + 8 < cLine) (hx : IsK s.heap x) (hy : IsK s.heap y) (q : Q (decide (x.2 = y.2)) s) : wpAny (model P w) A (eqBool (.ref x.1) (.ref y.1)) Q E s :=
  eqAt_key x.2 y.2 A s _ _ hx.1 hy.1 (by have := hx.2; omega) _ _ _ _ (by rw [← NestedKey.decide_eq]; exact q)
section
variable {P : Program} {w : World} {A : Around} {E : Value → Shared → Prop} {s : Shared} {a : Addr} {L : List Elt} {es : Array (Int × Value)} {ep : Nat} {t : SetTable}
theorem rws_len (R : es.toList = rws w L) : es.size = L.length := by
  rw [← Array.length_toList, R, rws, List.length_map]
theorem SR.sz (R : SR w s.heap a L es ep t) : es.size = L.length := rws_len R.rw'
theorem SR.pl (R : SR w s.heap a L es ep t) : t.place.size = L.length := by rw [R.tb.sz, List.length_map]
theorem fits_of (h1 : t.place.size = es.size) (h2 : t.dummies = #[]) (h3 : es.size ≤ t.mask) : t.fits es.size = true := by
  unfold SetTable.fits SetTable.fill
  rw [h2, Bool.and_eq_true, beq_iff_eq, decide_eq_true_eq]
  exact ⟨h1, by show t.place.size + 0 ≤ t.mask; omega⟩
theorem SR.ft (R : SR w s.heap a L es ep t) : t.fits es.size = true := fits_of (by rw [R.pl, R.sz]) R.tb.dm (by have := R.sz; have := R.rm; omega)
theorem SR.row (R : SR w s.heap a L es ep t) {i : Nat} {e : Elt} (g : L[i]? = some e) : es[i]? = some (e.2.hash w, Value.ref e.1) := by
  rw [← Array.getElem?_toList, R.rw', rws, List.getElem?_map, g]; rfl
theorem nodum (m : Nat) : ∀ (n : Nat) (p : SetTable.Probe), p.dummy = none → (nth m p n).dummy = none
  | 0, _, h => h
  | n + 1, p, h => nodum m n (adv m p) (by unfold adv; split <;> exact h)
/-- the way of a hash through a table -/
abbrev pth (t : SetTable) (h : Int) : Nat → SetTable.Probe := nth t.mask (runAt t.mask (SetTable.bits h % (t.mask + 1)) (SetTable.bits h))
theorem seen_no {x : Elt} (hx : IsK s.heap x) {ys : List Value} (hy : ∀ y ∈ ys, ∃ e, y = Value.ref e.1 ∧ IsK s.heap e) {Q : Bool → Shared → Prop} (q : Q false s) : wpAny (model P w) A (searchCouldBeSeen (.ref x.1) ys) Q E s := by
  unfold searchCouldBeSeen
  refine wpAny_bind ?_
  refine wpAny_forIn_list _ (fun more acc s2 => s2 = s ∧ acc.1 = none ∧ ∀ y ∈ more, ∃ e : Elt, y = Value.ref e.1 ∧ IsK s.heap e) _ ?_ ?_ _ _ ⟨rfl, rfl, hy⟩
  · rintro v more acc s2 ⟨rfl, z, ok⟩
    obtain ⟨e, rfl, he⟩ := ok v List.mem_cons_self
    have ok2 : ∀ y ∈ more, ∃ e : Elt, y = Value.ref e.1 ∧ IsK s2.heap e := fun y hy => ok y (List.mem_cons_of_mem _ hy)
    dsimp only
    by_cases c : (x.1 == e.1 || (carriedByValue (.ref x.1) && carriedByValue (.ref e.1))) = true
    · exact wp_if_pos c (wpAny_pure ⟨rfl, rfl, ok2⟩)
    · refine wp_if_neg c ?_
      refine wpAny_bind (quiet_key _ _ 8 _ hx.1 hx.2 _ _ _ ?_)
      simp only [Bool.not_true, Bool.false_eq_true, if_false]
      refine wpAny_bind (quiet_key _ _ 8 _ he.1 he.2 _ _ _ ?_)
      simp only [Bool.not_true, Bool.false_eq_true, if_false]
      refine wpAny_bind (noCl_key _ _ 8 _ hx.1 hx.2 _ _ _ ?_)
      simp only [Bool.false_eq_true, if_false]
      refine wpAny_bind (noCl_key _ _ 8 _ he.1 he.2 _ _ _ ?_)
      simp only [Bool.false_eq_true, if_false]
      exact wpAny_pure ⟨rfl, rfl, ok2⟩
  · rintro ⟨acc, acc2⟩ s2 ⟨rfl, z, _⟩
    simp only at z
    subst z
    exact wpAny_pure q
/-- behind a candidate -/
def onCand (a : Addr) (x : Value) (h : Int) (fuel : Nat) (es : Array (Int × Value)) (t : SetTable) (j i : Nat) (nxt : SetTable.Probe) : Sem SetFound := searchRest a x h true fuel es t j i nxt
theorem find (R : SR w s.heap a L es ep t) {x : Elt} (hx : IsK s.heap x) (hu : A.units + 8 < cLine) {M : Nat} (hM : M < 10 * SetTable.turns t.mask)
    (free : (pth t (x.2.hash w) M).j ∉ t.place.toList) (full : ∀ c, c < M → (pth t (x.2.hash w) c).j ∈ t.place.toList) {Q : SetFound → Shared → Prop}
    (yes : x.2 ∈ L.map (·.2) → Q (.there none) s) (no : x.2 ∉ L.map (·.2) → Q (.free (pth t (x.2.hash w) M).j false) s) :
    ∀ (fuel c : Nat) (st : Option SetTable.Probe), st.getD (t.probeStart (x.2.hash w)) = pth t (x.2.hash w) c → c ≤ M → M - c < fuel →
      (∀ (i : Nat) (e : Elt), L[i]? = some e → e.2 = x.2 → ∃ c2, c ≤ c2 ∧ c2 < M ∧ t.place.toList[i]? = some (pth t (x.2.hash w) c2).j) →
      wpAny (model P w) A (setSearchFrom a (.ref x.1) (x.2.hash w) true fuel st) Q E s
  | 0, _, _, _, _, z, _ => absurd z (Nat.not_lt_zero _)
  | fuel + 1, c, st, est, hc, hf, ahead => by
    obtain ⟨u, gu, ex, du⟩ := R.at'
    have shift : ∀ d, nth t.mask (pth t (x.2.hash w) c) d = pth t (x.2.hash w) (c + d) := fun d => (nth_add t.mask c _ d).symm
    have hashes : ∀ (i : Nat) (e : Elt), L[i]? = some e → (fun i => (es[i]?.map (·.1)).getD 0) i = e.2.hash w := fun i e g => by show (es[i]?.map (·.1)).getD 0 = _; rw [R.row g]; rfl
    rw [setSearchFrom_succ]
    refine wpAny_bind (wpAny_setState_of gu du R.ft ?_)
    dsimp only
    refine wp_if_neg (by unfold SetTable.gaveWay; rw [mask_odd R.tb.mok]; decide) ?_
    try refine wpAny_bind (wpAny_pure ?_)
    have sp := go_spec t R.tb.ris R.tb.dm (fun i => (es[i]?.map (·.1)).getD 0) (x.2.hash w) (10 * SetTable.turns t.mask) (M - c) (pth t (x.2.hash w) c) (nodum _ c _ rfl) (by omega)
      (fun d hd => by rw [shift]; exact full _ (by omega)) (by rw [shift, show c + (M - c) = M by omega]; exact free)
    rw [est]
    rcases sp with ⟨d, i, hd, pi, -, before, ans⟩ | ⟨before, ans⟩
    · rw [shift] at pi
      rw [shift, shift] at ans
      rw [show t.probe (fun i => (es[i]?.map (·.1)).getD 0) (x.2.hash w) (pth t (x.2.hash w) c) = _ from ans]
      dsimp only
      have il : i < L.length := by
        have := (List.getElem?_eq_some_iff.mp pi).1
        rw [Array.length_toList, R.pl] at this
        exact this
      obtain ⟨e, ge⟩ : ∃ e, L[i]? = some e := ⟨_, List.getElem?_eq_getElem il⟩
      have em := List.mem_of_getElem? ge
      have go : wpAny (model P w) A (onCand a (.ref x.1) (x.2.hash w) fuel es t (pth t (x.2.hash w) (c + d)).j i (pth t (x.2.hash w) (c + (d + 1)))) Q E s := by
        unfold onCand searchRest
        rw [R.row ge]
        dsimp only
        refine wpAny_bind (wpAny_holding (eqK hu (R.ks e em) hx ?_))
        refine wpAny_bind (wpAny_setState_of gu du R.ft ?_)
        dsimp only
        by_cases ke : e.2 = x.2
        · exact wp_if_pos (by simp [ke]) (wpAny_pure (yes (List.mem_map.mpr ⟨e, em, ke⟩)))
        · refine wp_if_neg (by simp [ke]) ?_
          try refine wpAny_bind (wpAny_pure ?_)
          rw [sameMem]
          dsimp only
          have live := slot_live R.tb.ris pi
          simp only [if_true, live, R.row ge]
          refine wpAny_bind (wpAny_isSame_ref_self (wpAny_bind (wpAny_pure ?_)))
          simp only [if_true]
          refine wp_if_neg (by simp [ke]) ?_
          refine find R hx hu hM free full yes no fuel (c + (d + 1)) _ rfl (by omega) (by omega) fun i2 e2 g2 k2 => ?_
          obtain ⟨c2, b1, b2, b3⟩ := ahead i2 e2 g2 k2
          refine ⟨c2, ?_, b2, b3⟩
          rcases Nat.lt_trichotomy c2 (c + d) with z | z | z
          · exact absurd ((hashes i2 e2 g2).trans (by rw [k2])) (before (c2 - c) i2 (by omega) (by rw [shift, show c + (c2 - c) = c2 by omega]; exact b3))
          · subst z
            have l2 := slot_live R.tb.ris b3
            rw [live] at l2
            injection l2 with l2
            rw [← l2, ge] at g2
            exact absurd ((congrArg Prod.snd (Option.some.inj g2)).trans k2) ke
          · omega
      by_cases led : t.led = true
      · refine wp_if_neg (by simp [led]) ?_
        try refine wpAny_bind (wpAny_pure ?_)
        exact go
      · refine wp_if_pos (by simp [led]) ?_
        refine wpAny_bind (seen_no hx (fun y hy => ?_) ?_)
        · obtain ⟨r, hr, re⟩ := List.mem_map.mp hy
          have r1 : r ∈ es ∧ r.1 = x.2.hash w := by simpa using hr
          have r2 : r ∈ rws w L := by rw [← R.rw']; simpa using r1.1
          obtain ⟨e2, m2, ee⟩ := List.mem_map.mp r2
          exact ⟨e2, by rw [← re, ← ee], R.ks e2 m2⟩
        · refine wp_if_neg (by decide) ?_
          try refine wpAny_bind (wpAny_pure ?_)
          exact go
    · rw [shift, show c + (M - c) = M by omega] at ans
      rw [show t.probe (fun i => (es[i]?.map (·.1)).getD 0) (x.2.hash w) (pth t (x.2.hash w) c) = _ from ans]
      dsimp only
      refine wpAny_pure (no fun hm => ?_)
      obtain ⟨e, he, ke⟩ := List.mem_map.mp hm
      obtain ⟨i, g⟩ := List.getElem?_of_mem he
      obtain ⟨c2, b1, b2, b3⟩ := ahead i e g ke
      exact before (c2 - c) i (by omega) (by rw [shift, show c + (c2 - c) = c2 by omega]; exact b3) ((hashes i e g).trans (by rw [ke]))
theorem search (R : SR w s.heap a L es ep t) {x : Elt} (hx : IsK s.heap x) (hu : A.units + 8 < cLine) {Q : SetFound → Shared → Prop} (yes : x.2 ∈ L.map (·.2) → Q (.there none) s)
    (no : ∀ M, x.2 ∉ L.map (·.2) → way t.mask (x.2.hash w) M ∉ t.place.toList → (∀ c, c < M → way t.mask (x.2.hash w) c ∈ t.place.toList) → Q (.free (way t.mask (x.2.hash w) M) false) s) :
    wpAny (model P w) A (setSearch a (.ref x.1) (x.2.hash w) true) Q E s := by
  have rm := R.rm
  obtain ⟨M, m1, m2, m3⟩ := R.tb.first (by rw [List.length_map]; omega) (x.2.hash w)
  have m4 : M < 100000 := by
    unfold SetTable.turns at m1
    rcases R.tb.mok with e | e | e <;> omega
  unfold setSearch
  refine find R hx hu m1 m2 m3 yes (fun z => no M z m2 m3) 100000 0 none rfl (by omega) (by omega) fun i e g k => ?_
  have hi : (hss w L)[i]? = some (x.2.hash w) := by rw [List.getElem?_map, g, ← k]; rfl
  have il : i < t.place.toList.length := by
    rw [Array.length_toList, R.pl]
    exact (List.getElem?_eq_some_iff.mp g).1
  obtain ⟨c, c1, c2⟩ := R.tb.before m2 hi (List.getElem?_eq_getElem il)
  exact ⟨c, by omega, c1, by rw [List.getElem?_eq_getElem il, ← c2]⟩
theorem pick {α : Type} (l : List α) : (List.range l.length).filterMap (fun i => l[i]?) = l := by
  have go : ∀ n, n ≤ l.length → (List.range n).filterMap (fun i => l[i]?) = l.take n := fun n => by
    induction n with
    | zero => intro _; rfl
    | succ n ih =>
      intro hn
      rw [List.range_succ, List.filterMap_append, ih (by omega), List.take_succ, List.getElem?_eq_getElem hn]
      simp [List.getElem?_eq_getElem (show n < l.length from hn)]
  rw [go _ (Nat.le_refl _), List.take_length]
theorem laid_rows {ord : Array Nat} (R : es.toList = rws w L) (pm : ord.toList.Perm (List.range L.length)) :
    ∃ L2, (ord.filterMap (es[·]?)).toList = rws w L2 ∧ L2.Perm L ∧ hss w L2 = ord.toList.map fun i => (es.map (·.1)).getD i 0 := by
  have row : ∀ i (e : Elt), L[i]? = some e → es[i]? = some (e.2.hash w, Value.ref e.1) := fun i e g => by rw [← Array.getElem?_toList, R, rws, List.getElem?_map, g]; rfl
  have part : ∀ js : List Nat, (∀ j ∈ js, j < L.length) → js.filterMap (fun i => es[i]?) = rws w (js.filterMap fun i => L[i]?) ∧ hss w (js.filterMap fun i => L[i]?) = js.map fun i => (es.map (·.1)).getD i 0 := fun js => by
    induction js with
    | nil => intro _; exact ⟨rfl, rfl⟩
    | cons j js ih =>
      intro hj
      have h1 := List.getElem?_eq_getElem (hj j List.mem_cons_self)
      obtain ⟨p1, p2⟩ := ih fun i hi => hj i (List.mem_cons_of_mem _ hi)
      have h2 := row j _ h1
      have h3 : (es.map (·.1)).getD j 0 = (L[j]'(hj j List.mem_cons_self)).2.hash w := by
        rw [Array.getD_eq_getD_getElem?, Array.getElem?_map, h2]; rfl
      constructor
      · rw [List.filterMap_cons_some h2, List.filterMap_cons_some h1, p1]; rfl
      · rw [List.filterMap_cons_some h1, List.map_cons, h3, ← p2]; rfl
  obtain ⟨p1, p2⟩ := part ord.toList fun i hi => List.mem_range.mp (pm.mem_iff.mp hi)
  refine ⟨_, by rw [Array.toList_filterMap]; exact p1, ?_, p2⟩
  have := pm.filterMap (fun i => L[i]?)
  rwa [pick] at this
/-- the table laid anew, larger -/
theorem relay {u : Obj} (gu : s.heap.get? a = some u) (ex : u.ExactSet) (du : u.data = .set es ep t) (er : es.toList = rws w L) (pl : t.place.size = es.size) (dm : t.dummies = #[]) (mk : es.size ≤ t.mask)
    (nd : (L.map (·.2)).Nodup) (ks : ∀ e ∈ L, IsK s.heap e) (ld : w.params.followText "set-order" = true ∨ t.led = true) (fw : L.length < 64) {wt M : Nat} (eM : SetTable.sizeAbove wt - 1 = M) (oM : MaskOk M) (sM : SetTable.sizeAbove wt ≤ 128) (rm : L.length * 5 < M * 3)
    {Q : Unit → Shared → Prop} (q : ∀ h' L' es' ep' t', Heap.SameBut a s.heap h' → SR w h' a L' es' ep' t' → L'.Perm L → Q () { s with heap := h' }) : wpAny (model P w) A (setRelay a wt) Q E s := by
  have sz := rws_len er
  obtain ⟨t2, ord, e1, e2, T2, e4, e5, e6, e7⟩ := relaid_ok t (hs := es.map (·.1)) (wanted := wt) eM oM (by rw [Array.size_map]; omega)
  rw [Array.size_map, sz] at e2
  obtain ⟨L2, r1, r2, r3⟩ := laid_rows er e2
  rw [← r3] at T2
  have sz2 : (ord.filterMap (es[·]?)).size = es.size := by rw [rws_len r1, r2.length_eq, sz]
  rw [setRelay_eq]
  refine wpAny_bind (wpAny_setState_of gu du (fits_of pl dm mk) ?_)
  dsimp only
  refine wp_if_neg (by rw [sizeLine_eq]; omega) ?_
  try refine wpAny_bind (wpAny_pure ?_)
  rw [e1]
  dsimp only
  refine wpAny_bind ?_
  refine wp_if_neg (by rw [sz2]; simp) ?_
  try refine wpAny_bind (wpAny_pure ?_)
  refine wpAny_pure ?_
  dsimp only
  refine wpAny_storeSet_of gu du ?_ (by rw [sz2, sz, sizeLine_eq]; omega)
  have sb : Heap.SameBut a s.heap (s.heap.update a (Obj.putSet (ord.filterMap (es[·]?)) t2)) := Heap.SameBut.update ..
  exact q _ L2 (ord.filterMap (es[·]?)) (ep + 1) t2 sb ⟨⟨_, store_at gu du, ⟨ex.1, ex.2.1, ex.2.2⟩, rfl⟩, r1, T2, (r2.map (·.2)).nodup_iff.mpr nd, fun e he => (ks e (r2.mem_iff.mp he)).but gu du sb, by rw [e5]; exact ld, by rw [r2.length_eq, e4]; exact rm, by rw [r2.length_eq]; exact fw⟩ r2
theorem put_perm' {α : Type} (l : List α) (p : Nat) (x : α) : (l.take p ++ x :: l.drop p).Perm (x :: l) := by
  have := (List.perm_middle (a := x) (l₁ := l.take p) (l₂ := l.drop p))
  rwa [List.take_append_drop] at this
/-- adding -/
theorem add (R : SR w s.heap a L es ep t) {x : Elt} (hx : IsK s.heap x) (hu : A.units + 8 < cLine) (fw : L.length + 1 < 64) {Q : Bool → Shared → Prop}
    (q : ∀ b h' L' es' ep' t', Heap.SameBut a s.heap h' → SR w h' a L' es' ep' t' → (x.2 ∈ L.map (·.2) → L' = L) → (x.2 ∉ L.map (·.2) → L'.Perm (x :: L)) → Q b { s with heap := h' }) :
    wpAny (model P w) A (setAddHashed a (.ref x.1) (x.2.hash w)) Q E s := by
  obtain ⟨u, gu, ex, du⟩ := R.at'
  have sz := R.sz
  have rm := R.rm
  unfold setAddHashed
  refine wpAny_holding ?_
  rw [show (100000 : Nat) = 99999 + 1 from rfl, setAddHashedIn_succ]
  refine wpAny_bind (wpAny_setState_of gu du R.ft ?_)
  dsimp only
  refine wp_if_neg (by simp [byScan, Value.scannable]) ?_
  try refine wpAny_bind (wpAny_pure ?_)
  refine wpAny_bind (search R hx hu (fun m => ?_) fun M m m1 m2 => ?_)
  · dsimp only
    exact wpAny_pure (q false s.heap L es ep t (Heap.SameBut.refl a s.heap) R (fun _ => rfl) fun z => absurd m z)
  · dsimp only
    refine wpAny_bind (wpAny_setState_of gu du R.ft ?_)
    dsimp only
    obtain ⟨p1, p2, p3, p4, p5, p6, p7, p8, p9⟩ := R.tb.put m1 m2
    generalize eP : t.put (way t.mask (x.2.hash w) M) = pq at p1 p3 p4 p5 p6 p7 p8 p9 ⊢
    obtain ⟨t1, p⟩ := pq
    dsimp only at p1 p3 p4 p5 p6 p7 p8 p9 ⊢
    subst p1
    -- what is stored, whatever hashByValue says
    have store : ∀ t3 : SetTable, TabOk t3 ((hss w L).take (SetTable.below t.place (way t.mask (x.2.hash w) M)) ++ x.2.hash w :: (hss w L).drop (SetTable.below t.place (way t.mask (x.2.hash w) M))) → t3.mask = t.mask → t3.led = t.led → t3.fill = L.length + 1 →
        wpAny (model P w) A (do
          storeSet a (SetTable.insertAt es (SetTable.below t.place (way t.mask (x.2.hash w) M)) (x.2.hash w, Value.ref x.1)) t3
          if !false && t3.tooFull then setRelay a (SetTable.grown (es.size + 1))
          return true) Q E s := fun t3 T3 f1 f2 f3 => by
      have ein : (SetTable.insertAt es (SetTable.below t.place (way t.mask (x.2.hash w) M)) (x.2.hash w, Value.ref x.1)).toList = rws w (L.take (SetTable.below t.place (way t.mask (x.2.hash w) M)) ++ x :: L.drop (SetTable.below t.place (way t.mask (x.2.hash w) M))) := by
        rw [SetTable.toList_insertAt, R.rw']
        unfold rws
        rw [List.map_append, List.map_cons, List.map_take, List.map_drop]
      have ehs : hss w (L.take (SetTable.below t.place (way t.mask (x.2.hash w) M)) ++ x :: L.drop (SetTable.below t.place (way t.mask (x.2.hash w) M))) = (hss w L).take (SetTable.below t.place (way t.mask (x.2.hash w) M)) ++ x.2.hash w :: (hss w L).drop (SetTable.below t.place (way t.mask (x.2.hash w) M)) := by
        unfold hss
        rw [List.map_append, List.map_cons, List.map_take, List.map_drop]
      rw [← ehs] at T3
      have pm := put_perm' L (SetTable.below t.place (way t.mask (x.2.hash w) M)) x
      generalize SetTable.insertAt es (SetTable.below t.place (way t.mask (x.2.hash w) M)) (x.2.hash w, Value.ref x.1) = es1 at ein ⊢
      generalize L.take (SetTable.below t.place (way t.mask (x.2.hash w) M)) ++ x :: L.drop (SetTable.below t.place (way t.mask (x.2.hash w) M)) = L1 at ein T3 pm
      have len1 : L1.length = L.length + 1 := pm.length_eq
      have sz1 : es1.size = L.length + 1 := by rw [rws_len ein, len1]
      have nd1 : (L1.map (·.2)).Nodup := (pm.map (·.2)).nodup_iff.mpr (by rw [List.map_cons]; exact List.nodup_cons.mpr ⟨m, R.nd⟩)
      refine wpAny_bind (wpAny_storeSet_of gu du ?_ (by rw [sz1, sizeLine_eq]; omega))
      have sb : Heap.SameBut a s.heap (s.heap.update a (Obj.putSet es1 t3)) := Heap.SameBut.update ..
      have gu1 := store_at (es' := es1) (t' := t3) gu du
      generalize s.heap.update a (Obj.putSet es1 t3) = h1 at sb gu1 ⊢
      have ks1 : ∀ e ∈ L1, IsK h1 e := fun e he => by
        rcases List.mem_cons.mp (pm.mem_iff.mp he) with z | z
        · subst z; exact hx.but gu du sb
        · exact (R.ks e z).but gu du sb
      have ld1 : w.params.followText "set-order" = true ∨ t3.led = true := by rw [f2]; exact R.ld
      have isFull : t3.tooFull = decide ((L.length + 1) * 5 ≥ t.mask * 3) := by unfold SetTable.tooFull; rw [f3, f1]
      by_cases full : (L.length + 1) * 5 ≥ t.mask * 3
      · have tf : (!false && t3.tooFull) = true := by rw [isFull, decide_eq_true full]; rfl
        have two : (t.mask = 7 ∧ L.length = 4) ∨ (t.mask = 31 ∧ L.length = 18) := by
          rcases R.tb.mok with e | e | e <;> rw [e] at full rm
          · exact .inl ⟨e, by omega⟩
          · exact .inr ⟨e, by omega⟩
          · omega
        have big : ∀ M2, SetTable.sizeAbove (SetTable.grown (L.length + 1)) - 1 = M2 → MaskOk M2 → SetTable.sizeAbove (SetTable.grown (L.length + 1)) ≤ 128 → (L.length + 1) * 5 < M2 * 3 →
            wpAny (model P w) A (setRelay a (SetTable.grown (es.size + 1))) (fun _ s2 => wpAny (model P w) A (pure true) Q E s2) E { s with heap := h1 } := fun M2 d1 d2 d3 d4 => by
          rw [sz]
          refine relay (s := { s with heap := h1 }) (L := L1) gu1 ⟨ex.1, ex.2.1, ex.2.2⟩ rfl ein (by rw [T3.sz, List.length_map, len1, sz1]) T3.dm (by rw [sz1, f1]; rcases two with ⟨e, e2⟩ | ⟨e, e2⟩ <;> omega) nd1 ks1 ld1 (by rw [len1]; exact fw) d1 d2 d3 (by rw [len1]; exact d4) ?_
          intro h2 L2 es2 ep2 t2 sb2 R2 pm2
          exact wpAny_pure (q true h2 L2 es2 ep2 t2 (sb.trans sb2) R2 (fun z => absurd z m) fun _ => pm2.trans pm)
        first
          | (refine wpAny_bind ?_; refine wp_if_pos tf ?_)
          | (refine wp_if_pos tf ?_; refine wpAny_bind ?_)
        rcases two with ⟨_, e2⟩ | ⟨_, e2⟩
        · exact big 31 (by rw [e2, size_20]) (.inr (.inl rfl)) (by rw [e2, size_20]; decide) (by omega)
        · exact big 127 (by rw [e2, size_76]) (.inr (.inr rfl)) (by rw [e2, size_76]; decide) (by omega)
      · have tf : ¬ (!false && t3.tooFull) = true := by rw [isFull, decide_eq_false full]; decide
        first
          | refine wp_if_neg tf ?_
          | (refine wpAny_bind ?_; refine wp_if_neg tf ?_; refine wpAny_pure ?_)
        exact wpAny_pure (q true h1 L1 es1 (ep + 1) t3 sb ⟨⟨_, gu1, ⟨ex.1, ex.2.1, ex.2.2⟩, rfl⟩, ein, T3, nd1, ks1, ld1, by rw [len1, f1]; omega, by rw [len1]; exact fw⟩ (fun z => absurd z m) fun _ => pm)
    have fin : ∀ b : Bool, wpAny (model P w) A (do
          let t3 := if b = true then t1 else { t1 with plain := false }
          storeSet a (SetTable.insertAt es (SetTable.below t.place (way t.mask (x.2.hash w) M)) (x.2.hash w, Value.ref x.1)) t3
          if !false && t3.tooFull then setRelay a (SetTable.grown (es.size + 1))
          return true) Q E s := fun b => by
      cases b
      · exact store _ ⟨p3.ris, p3.dm, p3.sz, p3.mok, p3.bd, p3.reach⟩ p4 p5 (by rw [List.length_map] at p9; exact p9)
      · exact store _ p3 p4 p5 (by rw [List.length_map] at p9; exact p9)
    by_cases pl : t1.plain = true
    · first
        | (refine wpAny_bind ?_; refine wp_if_pos pl ?_; exact haBy_key _ _ 8 _ hx.1 hx.2 _ _ _ fin)
        | exact wp_if_pos pl (wpAny_bind (haBy_key _ _ 8 _ hx.1 hx.2 _ _ _ fin))
    · first
        | (refine wpAny_bind ?_; refine wp_if_neg pl ?_; exact wpAny_pure (fin true))
        | exact wp_if_neg pl (fin true)
        | exact wp_if_neg pl (wpAny_bind (wpAny_pure (fin true)))
/-- what the set has got from the first i items -/
structure Has (ks : List Elt) (i : Nat) (L : List Elt) : Prop where
  sub : ∀ e ∈ L, e ∈ ks.take i
  all : ∀ e ∈ ks.take i, e.2 ∈ L.map (·.2)
  len : L.length ≤ i
theorem Has.same {ks L : List Elt} {i : Nat} {x : Elt} (g : Has ks i L) (h : ks[i]? = some x) (m : x.2 ∈ L.map (·.2)) : Has ks (i + 1) L where
  sub := fun e he => by rw [take_next h]; exact List.mem_append_left _ (g.sub e he)
  all := fun e he => by
    rw [take_next h] at he
    rcases List.mem_append.mp he with z | z
    · exact g.all e z
    · rw [List.mem_singleton.mp z]; exact m
  len := by have := g.len; omega
theorem Has.more {ks L L2 : List Elt} {i : Nat} {x : Elt} (g : Has ks i L) (h : ks[i]? = some x) (pm : L2.Perm (x :: L)) : Has ks (i + 1) L2 where
  sub := fun e he => by
    rw [take_next h]
    rcases List.mem_cons.mp (pm.mem_iff.mp he) with z | z
    · rw [z]; exact List.mem_append_right _ (List.mem_singleton.mpr rfl)
    · exact List.mem_append_left _ (g.sub e z)
  all := fun e he => by
    rw [(pm.map (·.2)).mem_iff, List.map_cons]
    rw [take_next h] at he
    rcases List.mem_append.mp he with z | z
    · exact List.mem_cons_of_mem _ (g.all e z)
    · rw [List.mem_singleton.mp z]; exact List.mem_cons_self
  len := by rw [pm.length_eq, List.length_cons]; have := g.len; omega
theorem SR.later {h h' : Heap} (R : SR w h a L es ep t) (ga : ∀ u, h.get? a = some u → h'.get? a = some u) (k : ∀ e ∈ L, IsK h' e) : SR w h' a L es ep t := by
  obtain ⟨u, gu, r⟩ := R.at'
  exact ⟨⟨u, ga u gu, r⟩, R.rw', R.tb, R.nd, k, R.ld, R.rm, R.fw⟩
theorem IsK.older {h h' : Heap} {e : Elt} (x : IsK h e) (g : ∀ b u, h.get? b = some u → h'.get? b = some u) : IsK h' e := x.keep fun b u _ _ z _ => g b u z
/-- a new set's object -/
abbrev set0 (w : World) : Obj := { cls := .type "set", dict := none, data := .set #[] 0 (.fresh 0 0 (!w.params.followText "set-order")) }
theorem sr_fresh {h : Heap} (g : h.get? a = some (set0 w)) : SR w h a [] #[] 0 (.fresh 0 0 (!w.params.followText "set-order")) where
  at' := ⟨_, g, ⟨rfl, rfl, rfl⟩, rfl⟩
  rw' := rfl
  tb := ⟨List.Pairwise.nil, rfl, rfl, .inl rfl, fun x z => (by cases z), fun i k j z => (by simp at z)⟩
  nd := List.nodup_nil
  ks := fun e z => (by cases z)
  ld := by
    show _ ∨ (!w.params.followText "set-order") = true
    cases w.params.followText "set-order" <;> simp
  rm := by show 0 * 5 < 7 * 3; decide
  fw := by show 0 < 64; decide
theorem fill {I S : Addr} {fp wr : List Addr} {G : Array GenState → Array GenState → Prop} {n : Nat} {Pv : Nat → Value → Prop} {St : Nat → Shared → Prop} {R : Result → Shared → Prop} (W : WalksS P w A.in1 I fp wr G n Pv St) (nS : S ∉ fp) (ks : List Elt) (en : n = ks.length) (few : ks.length < 64)
    (val : ∀ i v, Pv i v → ∃ e, ks[i]? = some e ∧ v = .ref e.1) (h0 : Heap) (k0 : ∀ e ∈ ks, IsK h0 e) (S0 : h0.get? S = none) (w0 : ∀ b ∈ wr, h0.get? b = none) (hu : A.in1.units + 9 < cLine) :
    ∀ (d i : Nat) (s : Shared), n - i = d → i ≤ n → St i s → (∀ b u, h0.get? b = some u → s.heap.get? b = some u) → (∃ L es ep t, SR w s.heap S L es ep t ∧ Has ks i L) →
      (∀ s' L es ep t, Moved (S :: wr) G s s' → SR w s'.heap S L es ep t → Has ks n L → (∀ b u, h0.get? b = some u → s'.heap.get? b = some u) → R (.ok (.ret .none)) s') →
      codeAny (model P w) A (.builtin "set.update.loop" ⟨[.ref S, .ref I], []⟩) R s := by
  have nw : S ∉ wr := fun z => nS (W.sub _ z)
  have up : ∀ b ∈ wr, b ∈ S :: wr := fun b z => List.mem_cons_of_mem _ z
  have old : ∀ {s s' : Shared}, Moved wr G s s' → (∀ b u, h0.get? b = some u → s.heap.get? b = some u) → ∀ b u, h0.get? b = some u → s'.heap.get? b = some u := fun m k b u z => m.heap b u (fun c => by rw [w0 b c] at z; cases z) (k b u z)
  intro d
  induction d with
  | zero =>
    intro i s ed hi st kp ⟨L, es, ep, t, r, g⟩ fin
    obtain rfl : i = n := by omega
    refine codeAny_builtin PyProof.Rows.F.entry_set_update_loop ?_
    rw [Around.under_plainId PyProof.Rows.F.plain_set_update_loop _]
    show wpAny _ A.in1 (pyNext (Value.ref I) >>= _) _ _ s
    refine wpAny_bind (W.done s _ _ st fun s2 m => ?_)
    show wpAny _ A.in1 (ret Value.none) _ _ s2
    have kp2 := old m kp
    exact wpAny_pure (fin s2 L es ep t (m.mono up) (r.later (fun u z => m.heap S u nw z) fun e he => (k0 e (List.mem_of_mem_take (g.sub e he))).older kp2) g kp2)
  | succ d ih =>
    intro i s ed hi st kp ⟨L, es, ep, t, r, g⟩ fin
    refine codeAny_builtin PyProof.Rows.F.entry_set_update_loop ?_
    rw [Around.under_plainId PyProof.Rows.F.plain_set_update_loop _]
    show wpAny _ A.in1 (pyNext (Value.ref I) >>= _) _ _ s
    refine wpAny_bind (W.item i s _ _ (by omega) st fun v s2 pv st2 m => ?_)
    obtain ⟨e, ge, rfl⟩ := val i v pv
    have kp2 := old m kp
    have r2 : SR w s2.heap S L es ep t := r.later (fun u z => m.heap S u nw z) fun e he => (k0 e (List.mem_of_mem_take (g.sub e he))).older kp2
    have he : IsK s2.heap e := (k0 e (List.mem_of_getElem? ge)).older kp2
    show wpAny _ A.in1 (holding [Value.ref e.1] (setAdd S (.ref e.1)) >>= _) _ _ s2
    refine wpAny_bind (wpAny_holding ?_)
    unfold setAdd
    refine wpAny_holding ?_
    refine wpAny_bind (pyHash_key _ _ _ _ _ he.1 (by have := he.2; omega) ?_)
    refine add (s := { s2 with toks := s2.toks + e.2.draws }) r2 he (by omega) (by have := g.len; omega) fun b h' L2 es2 ep2 t2 sb r3 c1 c2 => ?_
    have g2 : Has ks (i + 1) L2 := by
      rcases Classical.em (e.2 ∈ L.map (·.2)) with c | c
      · rw [c1 c]; exact g.same ge c
      · exact g.more ge (c2 c)
    have kp3 : ∀ b u, h0.get? b = some u → h'.get? b = some u := fun b u z => (sb.2 b (fun c => by rw [c, S0] at z; cases z)).trans (kp2 b u z)
    refine wpAny_pure ⟨plainId_quiet PyProof.Rows.F.plain_set_update_loop _, ih (i + 1) _ (by omega) (by omega) (W.frame _ s2 _ _ st2 (Nat.le_add_right _ _) fun b hb o z => ?_) kp3 ⟨L2, es2, ep2, t2, r3, g2⟩ fun s3 L3 es3 ep3 t3 m3 r4 g4 kp4 => ?_⟩
    · rw [sb.2 b fun c => nS (by rw [← c]; exact hb)]; exact z
    · refine fin s3 L3 es3 ep3 t3 (Moved.trans W.gtrans ((m.mono up).then_heap (Nat.le_add_right _ _) fun b o hb z => ?_) m3) r4 g4 kp4
      rw [sb.2 b fun c => hb (by rw [c]; exact List.mem_cons_self)]; exact z
set_option maxHeartbeats 8000000 in
/-- set(xs) -/
theorem call_set {l : Addr} {xs : Array Value} (ks : List Elt) {Q : Value → Shared → Prop} (hh : A.handled = none) (hl : s.heap.IsList l xs) (ex : xs.toList = ks.map fun e => Value.ref e.1) (k0 : ∀ e ∈ ks, IsK s.heap e) (few : ks.length < 64) (hu : A.units + 24 < cLine)
    (q : ∀ (h' : Heap) (tk : Nat) L es ep t, SR w h' s.heap.objs.size L es ep t → Has ks ks.length L → (∀ b u, s.heap.get? b = some u → h'.get? b = some u) → Q (.ref s.heap.objs.size) { s with heap := h', toks := tk }) :
    wpAny (model P w) A (call (.type "set") [.ref l]) Q E s := by
  have sz : xs.size = ks.length := by rw [← Array.length_toList, ex, List.length_map]
  obtain ⟨c, tl, mro'⟩ := PySem.F.called_set.mro
  have made' := PySem.F.called_set.made
  have sub' := PySem.F.called_set.sub
  refine wpAny_call (codeAny_of_tree ?_)
  show wpAny _ _ (callAny (Value.type "set") _) _ _ _
  refine wpAny_pure ⟨Code.quiet_builtin _ (by decide +kernel), codeAny_builtin PySem.F.entry_type_call ?_⟩
  rw [Around.under_plain (weight_type_call_type "set" [.ref l] []) rfl]
  have not' := PySem.F.called_set.notType
  have can' := PySem.F.called_set.canCreate
  have tc' := PySem.F.typeCall_set_1 (.ref l)
  repeat (any_goals (first | assumption | wp_step))
  refine codeAny_mono (code_set_led1 (.ref l) (E := E) (Q₁ := fun v s1 => v = .ref s.heap.objs.size ∧ s1 = { s with heap := s.heap.push (set0 w) }) ⟨rfl, rfl⟩) fun r s1 hr => ?_
  cases r with
  | error e => exact hr
  | ok fl =>
    cases fl with
    | ret v =>
      obtain ⟨rfl, rfl⟩ := hr
      have gS : (s.heap.push (set0 w)).get? s.heap.objs.size = some (set0 w) := Heap.get?_push_size _ rfl
      have tS : Shared.TypeIs { s with heap := s.heap.push (set0 w) } (.ref s.heap.objs.size) "set" := ⟨_, gS, rfl⟩
      have look' := PySem.F.called_set.init.lookup
      have bind' := PySem.F.called_set.init.bind (.ref s.heap.objs.size)
      repeat (any_goals (first | assumption | wp_step))
      refine codeAny_mono (codeAny_call_builtin (R := wants (fun v s2 => v = .none ∧ ∃ h' tk L es ep t, s2 = { s with heap := h', toks := tk } ∧ SR w h' s.heap.objs.size L es ep t ∧ Has ks ks.length L ∧ (∀ b u, s.heap.get? b = some u → h'.get? b = some u)) E) PySem.F.called_set.init.plain PySem.F.entry_set_init (check_set_init_1 tS ?_)) fun r2 s2 hr2 => ?_
      · obtain ⟨ol, gl, cl, nl, dl⟩ := hl
        obtain ⟨ocls, odict, odata, oslots⟩ := ol
        simp only at cl dl
        subst cl; subst dl
        have gl1 : (s.heap.push (set0 w)).get? l = some { cls := .type "list", dict := odict, data := .seq xs nl, slots := oslots } := Heap.get?_push_of_some _ gl
        have s1' := PySem.F.sub_list_set
        have s2' := PySem.F.sub_list_frozenset
        have nd' : (Value.type "list" == Value.type "dict") = false := by decide
        have il : (s.heap.push (set0 w)).IsList l xs := ⟨_, gl1, rfl, nl, rfl⟩
        unfold Builtin.«set.__init__» noKeywords Builtin.Frozenset.updateFrom
        generalize ePI : pyIter = PI
        wp_walk
        subst ePI
        refine wpAny_pyIter_list il ?_
        refine wpAny_bind (wpAny_runValue ?_)
        have lS : l < s.heap.objs.size := Heap.lt_size gl
        have h3 : A.in1.in1.in1.handled = none := by simp [hh]
        have ne1 : l ≠ (s.heap.push (set0 w)).objs.size := by rw [Heap.size_push]; exact Nat.ne_of_lt (Nat.lt_succ_of_lt lS)
        have nS : s.heap.objs.size ∉ [(s.heap.push (set0 w)).objs.size, l] := by
          rw [Heap.size_push]
          intro z
          simp only [List.mem_cons, List.not_mem_nil, or_false] at z
          rcases z with z | z
          · exact absurd z (Nat.ne_of_lt (Nat.lt_succ_self _))
          · exact absurd z (Nat.ne_of_gt lS)
        have val : ∀ (i : Nat) (v : Value), xs[i]? = some v → ∃ e, ks[i]? = some e ∧ v = .ref e.1 := fun i v z => by
          rw [← Array.getElem?_toList, ex, List.getElem?_map] at z
          cases z2 : ks[i]? with
          | none => rw [z2] at z; cases z
          | some e => rw [z2] at z; cases z; exact ⟨e, rfl, rfl⟩
        have none' : ∀ b, s.heap.objs.size ≤ b → s.heap.get? b = none := fun b hb => by
          cases z : s.heap.get? b with
          | none => rfl
          | some o => exact absurd (Heap.lt_size z) (Nat.not_lt.mpr hb)
        refine fill ((Walks.list h3 _ l ne1 xs).toS) nS ks sz few val s.heap k0 (none' _ (Nat.le_refl _)) (fun b hb => none' b (by
            rw [List.mem_singleton.mp hb, Heap.size_push]; exact Nat.le_succ _)) (by show A.units + 12 < cLine; omega) (xs.size - 0) 0 _ (by omega) (Nat.zero_le _)
          ⟨⟨_, Heap.get?_push_size _ rfl, rfl, rfl⟩, il.push _⟩ (fun b o z => Heap.get?_push_of_some _ (Heap.get?_push_of_some _ z)) ?start ?stop
        case start =>
          exact ⟨[], #[], 0, _, sr_fresh (Heap.get?_push_of_some _ gS), ⟨fun e z => (by cases z), fun e z => (by simp at z), Nat.le_refl _⟩⟩
        case stop =>
          intro s2 L es ep t m r g kp
          obtain ⟨h', gs, dr, tk, os⟩ := s2
          have e1 : gs = s.gens := m.gens
          have e2 : dr = s.drawn := m.drawn
          have e3 : os = s.os := m.os
          subst e1; subst e2; subst e3
          show wpAny _ _ _ _ _ _
          refine wpAny_pure ?_
          show wpAny _ _ (ret Value.none) _ _ _
          rw [sz] at g
          exact wpAny_pure ⟨rfl, h', tk, L, es, ep, t, rfl, r, g, kp⟩
      · cases r2 with
        | error e => exact hr2
        | ok fl2 =>
          cases fl2 with
          | ret r =>
            obtain ⟨rfl, h', tk, L, es, ep, t, rfl, z1, z2, z3⟩ := hr2
            repeat (any_goals (first | assumption | wp_step))
            exact q _ _ _ _ _ _ z1 z2 z3
          | _ => exact hr2.elim
    | _ => exact hr.elim
set_option maxHeartbeats 8000000 in
/-- set(t), t a tuple -/
theorem call_setT {l : Addr} {xs : Array Value} (ks : List Elt) {Q : Value → Shared → Prop} (hh : A.handled = none) (hl : s.heap.IsTuple l xs) (ex : xs.toList = ks.map fun e => Value.ref e.1) (k0 : ∀ e ∈ ks, IsK s.heap e) (few : ks.length < 64) (hu : A.units + 24 < cLine)
    (q : ∀ (h' : Heap) (tk : Nat) L es ep t, SR w h' s.heap.objs.size L es ep t → Has ks ks.length L → (∀ b u, s.heap.get? b = some u → h'.get? b = some u) → Q (.ref s.heap.objs.size) { s with heap := h', toks := tk }) :
    wpAny (model P w) A (call (.type "set") [.ref l]) Q E s := by
  have sz : xs.size = ks.length := by rw [← Array.length_toList, ex, List.length_map]
  obtain ⟨c, tl, mro'⟩ := PySem.F.called_set.mro
  have made' := PySem.F.called_set.made
  have sub' := PySem.F.called_set.sub
  refine wpAny_call (codeAny_of_tree ?_)
  show wpAny _ _ (callAny (Value.type "set") _) _ _ _
  refine wpAny_pure ⟨Code.quiet_builtin _ (by decide +kernel), codeAny_builtin PySem.F.entry_type_call ?_⟩
  rw [Around.under_plain (weight_type_call_type "set" [.ref l] []) rfl]
  have not' := PySem.F.called_set.notType
  have can' := PySem.F.called_set.canCreate
  have tc' := PySem.F.typeCall_set_1 (.ref l)
  repeat (any_goals (first | assumption | wp_step))
  refine codeAny_mono (code_set_led1 (.ref l) (E := E) (Q₁ := fun v s1 => v = .ref s.heap.objs.size ∧ s1 = { s with heap := s.heap.push (set0 w) }) ⟨rfl, rfl⟩) fun r s1 hr => ?_
  cases r with
  | error e => exact hr
  | ok fl =>
    cases fl with
    | ret v =>
      obtain ⟨rfl, rfl⟩ := hr
      have gS : (s.heap.push (set0 w)).get? s.heap.objs.size = some (set0 w) := Heap.get?_push_size _ rfl
      have tS : Shared.TypeIs { s with heap := s.heap.push (set0 w) } (.ref s.heap.objs.size) "set" := ⟨_, gS, rfl⟩
      have look' := PySem.F.called_set.init.lookup
      have bind' := PySem.F.called_set.init.bind (.ref s.heap.objs.size)
      repeat (any_goals (first | assumption | wp_step))
      refine codeAny_mono (codeAny_call_builtin (R := wants (fun v s2 => v = .none ∧ ∃ h' tk L es ep t, s2 = { s with heap := h', toks := tk } ∧ SR w h' s.heap.objs.size L es ep t ∧ Has ks ks.length L ∧ (∀ b u, s.heap.get? b = some u → h'.get? b = some u)) E) PySem.F.called_set.init.plain PySem.F.entry_set_init (check_set_init_1 tS ?_)) fun r2 s2 hr2 => ?_
      · obtain ⟨ol, gl, cl, nl, dl⟩ := hl
        obtain ⟨ocls, odict, odata, oslots⟩ := ol
        simp only at cl dl
        subst cl; subst dl
        have gl1 : (s.heap.push (set0 w)).get? l = some { cls := .type "tuple", dict := odict, data := .seq xs nl, slots := oslots } := Heap.get?_push_of_some _ gl
        have s1' := PySem.F.sub_tuple_set
        have s2' := PySem.F.sub_tuple_frozenset
        have nd' : (Value.type "tuple" == Value.type "dict") = false := by decide
        have il : (s.heap.push (set0 w)).IsTuple l xs := ⟨_, gl1, rfl, nl, rfl⟩
        unfold Builtin.«set.__init__» noKeywords Builtin.Frozenset.updateFrom
        generalize ePI : pyIter = PI
        wp_walk
        subst ePI
        refine wpAny_pyIter_tuple il ?_
        refine wpAny_bind (wpAny_runValue ?_)
        have lS : l < s.heap.objs.size := Heap.lt_size gl
        have h3 : A.in1.in1.in1.handled = none := by simp [hh]
        have ne1 : l ≠ (s.heap.push (set0 w)).objs.size := by rw [Heap.size_push]; exact Nat.ne_of_lt (Nat.lt_succ_of_lt lS)
        have nS : s.heap.objs.size ∉ [(s.heap.push (set0 w)).objs.size, l] := by
          rw [Heap.size_push]
          intro z
          simp only [List.mem_cons, List.not_mem_nil, or_false] at z
          rcases z with z | z
          · exact absurd z (Nat.ne_of_lt (Nat.lt_succ_self _))
          · exact absurd z (Nat.ne_of_gt lS)
        have val : ∀ (i : Nat) (v : Value), xs[i]? = some v → ∃ e, ks[i]? = some e ∧ v = .ref e.1 := fun i v z => by
          rw [← Array.getElem?_toList, ex, List.getElem?_map] at z
          cases z2 : ks[i]? with
          | none => rw [z2] at z; cases z
          | some e => rw [z2] at z; cases z; exact ⟨e, rfl, rfl⟩
        have none' : ∀ b, s.heap.objs.size ≤ b → s.heap.get? b = none := fun b hb => by
          cases z : s.heap.get? b with
          | none => rfl
          | some o => exact absurd (Heap.lt_size z) (Nat.not_lt.mpr hb)
        refine fill ((Walks.tuple h3 _ l ne1 xs).toS) nS ks sz few val s.heap k0 (none' _ (Nat.le_refl _)) (fun b hb => none' b (by
            rw [List.mem_singleton.mp hb, Heap.size_push]; exact Nat.le_succ _)) (by show A.units + 12 < cLine; omega) (xs.size - 0) 0 _ (by omega) (Nat.zero_le _)
          ⟨⟨_, Heap.get?_push_size _ rfl, rfl, rfl⟩, il.push _⟩ (fun b o z => Heap.get?_push_of_some _ (Heap.get?_push_of_some _ z)) ?start ?stop
        case start =>
          exact ⟨[], #[], 0, _, sr_fresh (Heap.get?_push_of_some _ gS), ⟨fun e z => (by cases z), fun e z => (by simp at z), Nat.le_refl _⟩⟩
        case stop =>
          intro s2 L es ep t m r g kp
          obtain ⟨h', gs, dr, tk, os⟩ := s2
          have e1 : gs = s.gens := m.gens
          have e2 : dr = s.drawn := m.drawn
          have e3 : os = s.os := m.os
          subst e1; subst e2; subst e3
          show wpAny _ _ _ _ _ _
          refine wpAny_pure ?_
          show wpAny _ _ (ret Value.none) _ _ _
          rw [sz] at g
          exact wpAny_pure ⟨rfl, h', tk, L, es, ep, t, rfl, r, g, kp⟩
      · cases r2 with
        | error e => exact hr2
        | ok fl2 =>
          cases fl2 with
          | ret r =>
            obtain ⟨rfl, h', tk, L, es, ep, t, rfl, z1, z2, z3⟩ := hr2
            repeat (any_goals (first | assumption | wp_step))
            exact q _ _ _ _ _ _ z1 z2 z3
          | _ => exact hr2.elim
    | _ => exact hr.elim
end
end VS
end
section
namespace VL
open PySem PySem.Spec L2 VS
/-! ### data as keys -/
mutual
def keyD : PyData → Option NestedKey
  | .none => some .none
  | .bool b => some (.num (if b = true then 1 else 0))
  | .int i => some (.num i)
  | .str x => some (.text x)
  | .tuple ds => (keysD ds).map .tup
  | _ => none
def keysD : List PyData → Option (List NestedKey)
  | [] => some []
  | d :: ds => match keyD d, keysD ds with
    | some k, some ks => some (k :: ks)
    | _, _ => none
end
def TupKey (d : PyData) : Prop := ∃ ks, keyD d = some (.tup ks) ∧ (NestedKey.tup ks).depth ≤ 8
structure KeysOk (ds : List PyData) : Prop where
  all : ∀ d ∈ ds, TupKey d
  inj : ∀ d ∈ ds, ∀ e ∈ ds, keyD d = keyD e → d = e
  few : ds.length < 64
section
variable {X : Cx}
mutual
theorem key_of {pins : List (Addr × Obj)} {σ : St} {H F : Hp} {s : Shared} (I : Inv X pins σ H s) (sF : Same F H) : ∀ (d : PyData) (v : V) (u : Value) (k : NestedKey), Rp X.K F v d → keyD d = some k → RelV v u → NestedIs s.heap k u
  | .none, _, _, _, .non, e, r => by cases e; cases r; exact .none
  | .bool b, _, _, _, .bl _, e, r => by cases e; cases r; exact .bool rfl
  | .int i, _, _, _, .int _, e, r => by cases e; obtain ⟨t, rfl⟩ := r; exact .int _ _
  | .str x, _, _, _, .str _, e, r => by cases e; obtain ⟨t, rfl⟩ := r; exact .text _ _
  | .tuple ds, _, _, k, .tup hT ra, e, r => by
    cases r
    cases e1 : keysD ds with
    | none => simp [keyD, e1] at e
    | some ks =>
      have e : NestedKey.tup ks = k := by simpa [keyD, e1] using e
      subst e
      obtain ⟨its, rv, ⟨o, ho, hc, n, hd⟩, _⟩ := I.tuple (sameN sF hT).sq
      exact .tup ho hc hd (by simpa using keys_of I sF ds _ its ks ra e1 rv)
  | .list _, _, _, _, _, e, _ => by simp [keyD] at e
  | .dict _, _, _, _, _, e, _ => by simp [keyD] at e
theorem keys_of {pins : List (Addr × Obj)} {σ : St} {H F : Hp} {s : Shared} (I : Inv X pins σ H s) (sF : Same F H) : ∀ (ds : List PyData) (vs : List V) (us : List Value) (ks : List NestedKey), RpAll X.K F vs ds → keysD ds = some ks → Vals vs us → NestedAll s.heap ks us
  | [], _, _, _, .nil, e, r => by cases e; cases r; exact .nil
  | d :: ds, _, _, ks, .cons rd ra, e, r => by
    cases e1 : keyD d with
    | none => simp [keysD, e1] at e
    | some k =>
      cases e2 : keysD ds with
      | none => simp [keysD, e1, e2] at e
      | some ks' =>
        have e : k :: ks' = ks := by simpa [keysD, e1, e2] using e
        subst e
        cases r with
        | cons r1 r2 => exact .cons (key_of I sF d _ _ _ rd e1 r1) (keys_of I sF ds _ _ _ ra e2 r2)
end
end
/-! ### set(xs), then sorted, len -/
structure S0 (w : World) (h : Heap) (a : Addr) (L : List Elt) : Prop where
  ex : ∃ (es : Array (Int × Value)) (ep : Nat) (t : SetTable), (∃ u, h.get? a = some u ∧ u.ExactSet ∧ u.data = .set es ep t) ∧ es.toList = rws w L ∧ TabOk t (hss w L) ∧ (L.map (·.2)).Nodup ∧ (w.params.followText "set-order" = true ∨ t.led = true) ∧ L.length * 5 < t.mask * 3 ∧ L.length < 64
def SetOb (w : World) (a : Addr) (L : List Elt) : HO := .ext fun h => S0 w h a L
theorem sr_s0 {w : World} {h : Heap} {a : Addr} {L : List Elt} {es : Array (Int × Value)} {ep : Nat} {t : SetTable} (R : SR w h a L es ep t) : S0 w h a L := ⟨es, ep, t, R.at', R.rw', R.tb, R.nd, R.ld, R.rm, R.fw⟩
theorem S0.full {w : World} {h : Heap} {a : Addr} {L : List Elt} (R : S0 w h a L) (k : ∀ e ∈ L, IsK h e) : ∃ es ep t, SR w h a L es ep t := by
  obtain ⟨es, ep, t, h1, h2, h3, h4, h5, h6, h7⟩ := R.ex
  exact ⟨es, ep, t, h1, h2, h3, h4, k, h5, h6, h7⟩
theorem setOb_new {P : Program} {w : World} {H : Hp} {h : Heap} {a : Addr} {L : List Elt} (R : S0 w h a L) : ObjOk P w H h a (SetOb w a L) := by
  have ⟨_, _, _, ⟨u, gu, _⟩, _⟩ := R.ex
  refine ⟨R, ⟨u, gu⟩, fun h1 h2 p k => ?_⟩
  have ⟨es', ep', t', ⟨o', g', r'⟩, q'⟩ := S0.ex p
  exact ⟨es', ep', t', ⟨o', k o' g', r'⟩, q'⟩
/-- the elements as data -/
structure EltsAre (K : PySem.W.Frag) (F : Hp) (L : List Elt) (ds : List PyData) : Prop where
  rp : RpAll K F (L.map fun e => V.ref e.1) ds
  ky : ds.map keyD = L.map fun e => some e.2
theorem elts_of {K : PySem.W.Frag} {F : Hp} : ∀ {vs : List V} {ds : List PyData}, RpAll K F vs ds → (∀ d ∈ ds, TupKey d) → ∃ L : List Elt, vs = L.map (fun e => V.ref e.1) ∧ EltsAre K F L ds ∧ ∀ e ∈ L, e.2.depth ≤ 8
  | _, _, .nil, _ => ⟨[], rfl, ⟨.nil, rfl⟩, fun e z => (by cases z)⟩
  | _, _, .cons (v := v) (d := d) r t, h => by
    obtain ⟨L, e1, e2, e3⟩ := elts_of t fun d hd => h d (List.mem_cons_of_mem _ hd)
    obtain ⟨ks, k1, k2⟩ := h d List.mem_cons_self
    cases r with
    | @tup a xs ds' hT ra =>
      refine ⟨(a, .tup ks) :: L, by rw [List.map_cons, e1], ⟨.cons (.tup hT ra) (by rw [← e1]; exact t), by rw [List.map_cons, List.map_cons, e2.ky, k1]⟩, fun e he => ?_⟩
      rcases List.mem_cons.mp he with z | z
      · subst z; exact k2
      · exact e3 e z
    | scr _ => simp [scD, keyD] at k1
    | non => simp [keyD] at k1
    | bl _ => simp [keyD] at k1
    | int _ => simp [keyD] at k1
    | str _ => simp [keyD] at k1
    | lst _ _ => simp [keyD] at k1
    | dct _ _ _ _ => simp [keyD] at k1
theorem elts_sub {K : PySem.W.Frag} {F : Hp} {L : List Elt} {ds : List PyData} (x : EltsAre K F L ds) : ∀ (M : List Elt), (∀ e ∈ M, e ∈ L) → ∃ es, EltsAre K F M es ∧ ∀ d ∈ es, d ∈ ds := by
  have one : ∀ {L : List Elt} {ds : List PyData}, EltsAre K F L ds → ∀ e ∈ L, ∃ d ∈ ds, Rp K F (.ref e.1) d ∧ keyD d = some e.2 := fun {L} => by
    induction L with
    | nil => intro ds _ e he; cases he
    | cons e0 L ih =>
      intro ds ⟨rp, ky⟩ e he
      cases ds with
      | nil => cases ky
      | cons d ds =>
        cases rp with
        | cons r t =>
          have ky' : keyD d = some e0.2 ∧ ds.map keyD = L.map fun e => some e.2 := by simpa using ky
          rcases List.mem_cons.mp he with z | z
          · subst z; exact ⟨d, List.mem_cons_self, r, ky'.1⟩
          · obtain ⟨d2, h1, h2⟩ := ih ⟨t, ky'.2⟩ e z
            exact ⟨d2, List.mem_cons_of_mem _ h1, h2⟩
  intro M
  induction M with
  | nil => intro _; exact ⟨[], ⟨.nil, rfl⟩, fun d z => (by cases z)⟩
  | cons e M ih =>
    intro h
    obtain ⟨es, h1, h2⟩ := ih fun x hx => h x (List.mem_cons_of_mem _ hx)
    obtain ⟨d, h3, h4, h5⟩ := one x e (h e List.mem_cons_self)
    refine ⟨d :: es, ⟨.cons h4 h1.rp, by rw [List.map_cons, List.map_cons, h1.ky, h5]⟩, fun y hy => ?_⟩
    rcases List.mem_cons.mp hy with z | z
    · subst z; exact h3
    · exact h2 y z
/-- what a set is told of the data it was made of -/
structure SetOf (K : PySem.W.Frag) (F : Hp) (L : List Elt) (ds : List PyData) : Prop where
  ex : ∃ es, EltsAre K F L es ∧ es.Nodup ∧ ∀ d, d ∈ es ↔ d ∈ ds
  dp : ∀ e ∈ L, e.2.depth ≤ 8
theorem setOf_has {K : PySem.W.Frag} {F : Hp} {ks L : List Elt} {ds : List PyData} (x : EltsAre K F ks ds) (ok : KeysOk ds) (dp : ∀ e ∈ ks, e.2.depth ≤ 8) (g : Has ks ks.length L) (nd : (L.map (·.2)).Nodup) : SetOf K F L ds := by
  have sub : ∀ e ∈ L, e ∈ ks := fun e he => by have := g.sub e he; rwa [List.take_length] at this
  obtain ⟨es, h1, h2⟩ := elts_sub x L sub
  refine ⟨⟨es, h1, ?_, fun d => ⟨h2 d, fun hd => ?_⟩⟩, fun e he => dp e (sub e he)⟩
  · have : (es.map keyD).Nodup := by
      rw [h1.ky]
      exact List.pairwise_map.mpr ((List.pairwise_map.mp nd).imp fun hne e => hne (Option.some.inj e))
    exact (List.pairwise_map.mp this).imp fun hne e => hne (congrArg keyD e)
  · have k1 : keyD d ∈ ks.map fun e => some e.2 := by rw [← x.ky]; exact List.mem_map.mpr ⟨d, hd, rfl⟩
    obtain ⟨e, he, ee⟩ := List.mem_map.mp k1
    have k2 := g.all e (by rw [List.take_length]; exact he)
    obtain ⟨e2, he2, ee2⟩ := List.mem_map.mp k2
    have k3 : keyD d ∈ es.map keyD := by rw [h1.ky, ← ee, ← ee2]; exact List.mem_map.mpr ⟨e2, he2, rfl⟩
    obtain ⟨d2, hd2, e3⟩ := List.mem_map.mp k3
    rw [← ok.inj d2 (h2 d2 hd2) d hd e3]
    exact hd2
section
variable {X : Cx}
theorem isK_of {pins : List (Addr × Obj)} {σ : St} {H F : Hp} {s : Shared} (I : Inv X pins σ H s) (sF : Same F H) {L : List Elt} {ds : List PyData} (x : EltsAre X.K F L ds) (dp : ∀ e ∈ L, e.2.depth ≤ 8) : ∀ e ∈ L, IsK s.heap e := by
  obtain ⟨rp, ky⟩ := x
  revert dp
  induction L generalizing ds with
  | nil => intro _ e he; cases he
  | cons e0 L ih =>
    intro dp e he
    cases ds with
    | nil => cases ky
    | cons d ds =>
      cases rp with
      | cons r t =>
        have ky' : keyD d = some e0.2 ∧ ds.map keyD = L.map fun e => some e.2 := by simpa using ky
        rcases List.mem_cons.mp he with z | z
        · subst z; exact ⟨key_of I sF d _ _ _ r ky'.1 rfl, dp _ List.mem_cons_self⟩
        · exact ih t ky'.2 (fun x hx => dp x (List.mem_cons_of_mem _ hx)) e z
def rSet (K : PySem.W.Frag) (w : World) : List V → Hp → VK → Prop := fun vs H QV => ∃ F ds, Same F H ∧ (RepL K F H [.list ds] vs ∨ RepL K F H [.tuple ds] vs) ∧ KeysOk ds ∧ ∀ a L, H a = none → SetOf K F L ds → QV (.ref a) (upd H a (SetOb w a L))
theorem cr_set (hc : X.calm = true) (hu : X.A.units + 64 < cLine) : CallR X (.type "set") (rSet X.K X.w) := by
  intro pins s σ H xs us QV I rx ⟨F, ds, sF, rl, ok, q⟩
  have vals : ∀ (L : List Elt) (us : List Value), Vals (L.map fun e => V.ref e.1) us → us = L.map fun e => Value.ref e.1 := fun L => by
    induction L with
    | nil => intro us z; cases z; rfl
    | cons e L ih => intro us z; cases z with
      | cons z1 z2 => cases z1; rw [List.map_cons, ih _ z2]
  have lk : ∀ ks : List Elt, EltsAre X.K F ks ds → ks.length < 64 := fun ks ek => by
    have := congrArg List.length ek.ky
    rw [List.length_map, List.length_map] at this
    rw [← this]; exact ok.few
  rcases rl with rl | rl
  · obtain ⟨v, rfl, r⟩ := rl.one'
    obtain ⟨a, vs, rfl, ha, ra⟩ := r.list sF
    obtain ⟨ks, rfl, ek, dp⟩ := elts_of ra ok.all
    obtain ⟨its, rv, hl, hz⟩ := I.list (SqL.of ha)
    rw [Vals.ref1 rx]
    refine VS.call_set (P := X.prog) (w := X.w) ks (I.ok.hd hc) hl.isList (by simpa using vals ks its rv) (isK_of I sF ek dp) (lk ks ek) (by omega) fun h' tk L es ep t R g k => ?_
    exact ⟨.ref s.heap.objs.size, upd H s.heap.objs.size (SetOb X.w s.heap.objs.size L), I.laid (t' := tk) k (Nat.le_refl _) (setOb_new (sr_s0 R)), rfl, q _ L (I.hok.fresh (Nat.le_refl _)) (setOf_has ek ok dp g R.nd)⟩
  · obtain ⟨v, rfl, r⟩ := rl.one'
    obtain ⟨a, vs, rfl, ha, ra⟩ := r.tup sF
    obtain ⟨ks, rfl, ek, dp⟩ := elts_of ra ok.all
    obtain ⟨its, rv, hl, hz⟩ := I.tuple ha
    rw [Vals.ref1 rx]
    refine VS.call_setT (P := X.prog) (w := X.w) ks (I.ok.hd hc) (show s.heap.IsTuple a its.toArray from hl) (by simpa using vals ks its rv) (isK_of I sF ek dp) (lk ks ek) (by omega) fun h' tk L es ep t R g k => ?_
    exact ⟨.ref s.heap.objs.size, upd H s.heap.objs.size (SetOb X.w s.heap.objs.size L), I.laid (t' := tk) k (Nat.le_refl _) (setOb_new (sr_s0 R)), rfl, q _ L (I.hok.fresh (Nat.le_refl _)) (setOf_has ek ok dp g R.nd)⟩
def rLenS (w : World) : List V → Hp → VK → Prop := fun vs H QV => ∃ a L, vs = [.ref a] ∧ H a = some (SetOb w a L) ∧ QV (.int L.length) H
theorem cr_lenS : CallR X (.builtin "len") (rLenS X.w) := by
  intro pins s σ H xs us QV I rx ⟨a, L, e, ha, q⟩
  subst e
  rw [Vals.ref1 rx]
  have R0 : S0 X.w s.heap a L := (I.hok a _ ha).1
  obtain ⟨es, ep, t, ⟨u, gu, ex, du⟩, h2, h3, _, _, h6, h7⟩ := R0.ex
  have sz := rws_len h2
  refine call_len_set gu ex du (fits_of (by rw [h3.sz, List.length_map, sz]) h3.dm (by omega)) (by omega) ⟨.int L.length, H, I.tok _, ⟨_, by rw [sz]⟩, q⟩
def rSrtS (K : PySem.W.Frag) (w : World) : List V → Hp → VK → Prop := fun vs H QV => ∃ F a L es, vs = [.ref a] ∧ H a = some (SetOb w a L) ∧ Same F H ∧ EltsAre K F L es ∧ (∀ e ∈ L, e.2.depth ≤ 8) ∧
  ∀ es', es'.Perm es → SortOk es' ∧ ∀ p ws, H p = none → RpAll K F ws (es'.mergeSort (PySem.W.dataLe false id)) → QV (.ref p) (upd H p (.lst ws))
theorem perm_refs {L : List Elt} : ∀ {vs : List Value}, vs.Perm (L.map fun e => Value.ref e.1) → ∃ M : List Elt, vs = M.map (fun e => Value.ref e.1) ∧ M.Perm L := by
  have key : ∀ {us vs : List Value}, vs.Perm us → ∀ L : List Elt, us = L.map (fun e => Value.ref e.1) → ∃ M : List Elt, vs = M.map (fun e => Value.ref e.1) ∧ M.Perm L := fun p => by
    induction p with
    | nil => intro L e; exact ⟨[], rfl, by cases L with
      | nil => exact .nil
      | cons _ _ => cases e⟩
    | cons x p ih =>
      intro L e
      cases L with
      | nil => cases e
      | cons y L =>
        obtain ⟨h1, h2⟩ := List.cons.inj e
        obtain ⟨M, m1, m2⟩ := ih L h2
        exact ⟨y :: M, by rw [List.map_cons, m1, h1], m2.cons y⟩
    | swap x y l =>
      intro L e
      match L, e with
      | a :: b :: L, e =>
        obtain ⟨h1, h2⟩ := List.cons.inj e
        obtain ⟨h3, h4⟩ := List.cons.inj h2
        exact ⟨b :: a :: L, by subst h1; subst h3; subst h4; rfl, .swap a b L⟩
    | trans p1 p2 ih1 ih2 =>
      intro L e
      obtain ⟨M, m1, m2⟩ := ih2 L e
      obtain ⟨N, n1, n2⟩ := ih1 M m1
      exact ⟨N, n1, n2.trans m2⟩
  exact fun {vs} p => key p L rfl
theorem elts_perm {K : PySem.W.Frag} {F : Hp} {L M : List Elt} (p : M.Perm L) : ∀ {es : List PyData}, EltsAre K F L es → ∃ es', EltsAre K F M es' ∧ es'.Perm es := by
  induction p with
  | nil => exact fun {es} x => ⟨es, x, .refl _⟩
  | cons e p ih =>
    intro es ⟨rp, ky⟩
    cases es with
    | nil => cases ky
    | cons d ds =>
      cases rp with
      | cons r t =>
        have k1 : keyD d = some e.2 := (List.cons.inj ky).1
        obtain ⟨es', h1, h2⟩ := ih ⟨t, (List.cons.inj ky).2⟩
        exact ⟨d :: es', ⟨.cons r h1.rp, by rw [List.map_cons, List.map_cons, k1, h1.ky]⟩, h2.cons d⟩
  | swap a b L =>
    intro es ⟨rp, ky⟩
    match es, rp, ky with
    | d1 :: d2 :: ds, .cons r1 (.cons r2 t), ky =>
      have ky' : keyD d1 = some a.2 ∧ keyD d2 = some b.2 ∧ ds.map keyD = L.map fun e => some e.2 := by simpa using ky
      exact ⟨d2 :: d1 :: ds, ⟨.cons r2 (.cons r1 t), by rw [List.map_cons, List.map_cons, List.map_cons, List.map_cons, ky'.1, ky'.2.1, ky'.2.2]⟩, .swap d1 d2 ds⟩
  | trans p1 p2 ih1 ih2 =>
    intro es x
    obtain ⟨e1, h1, h2⟩ := ih2 x
    obtain ⟨e2, h3, h4⟩ := ih1 h1
    exact ⟨e2, h3, h4.trans h2⟩
theorem vals_refs : ∀ (L : List Elt), Vals (L.map fun e => V.ref e.1) (L.map fun e => Value.ref e.1)
  | [] => .nil
  | e :: L => .cons rfl (vals_refs L)
mutual
theorem reads_flat {h : Heap} : ∀ (d : PyData) (v : Value) (as : List Addr) (k : NestedKey), Reads h v d as → keyD d = some k → as = []
  | .none, _, _, _, .none, _ => rfl
  | .bool _, _, _, _, .bool _, _ => rfl
  | .int _, _, _, _, .int _ _, _ => rfl
  | .str _, _, _, _, .str _ _, _ => rfl
  | .tuple ds, _, _, _, .tuple _ _ _ r, e => by
    cases e1 : keysD ds with
    | none => simp [keyD, e1] at e
    | some ks => exact reads_flats ds _ _ ks r e1
  | .list _, _, _, _, _, e => by simp [keyD] at e
  | .dict _, _, _, _, _, e => by simp [keyD] at e
theorem reads_flats {h : Heap} : ∀ (ds : List PyData) (vs : List Value) (as : List Addr) (ks : List NestedKey), ReadsAll h vs ds as → keysD ds = some ks → as = []
  | [], _, _, _, .nil, _ => rfl
  | d :: ds, _, _, _, .cons r1 r2, e => by
    cases e1 : keyD d with
    | none => simp [keysD, e1] at e
    | some k =>
      cases e2 : keysD ds with
      | none => simp [keysD, e1, e2] at e
      | some ks' => rw [reads_flat d _ _ _ r1 e1, reads_flats ds _ _ _ r2 e2]; rfl
end
theorem each_flat {h h' : Heap} {a : Addr} (k : ∀ b o, h.get? b = some o → h'.get? b = some o) : ∀ {us : List Value} {ds : List PyData}, PySem.W.EachIs (fun u d => ∃ as, Reads h u (id d) as) us ds → (∀ d ∈ ds, ∃ k, keyD d = some k) → PySem.W.EachIs (fun u d => ∃ as, Reads h' u (id d) as ∧ a ∉ as) us ds
  | _, _, .nil, _ => .nil
  | _, _, .cons ⟨as, r⟩ t, c => by
    obtain ⟨kk, ek⟩ := c _ List.mem_cons_self
    have := reads_flat _ _ _ _ r ek
    subst this
    exact .cons ⟨[], PyProof.Rows.Reads.keeps k r, by simp⟩ (each_flat k t fun d hd => c d (List.mem_cons_of_mem _ hd))
theorem cr_srtS (hc : X.calm = true) (hu : X.A.units + 64 < cLine) : CallR X (.builtin "sorted") (rSrtS X.K X.w) := by
  intro pins s σ H xs us QV I rx ⟨F, a, L, es, e, ha, sF, x, dp, q⟩
  subst e
  rw [Vals.ref1 rx]
  have R0 : S0 X.w s.heap a L := (I.hok a _ ha).1
  obtain ⟨rs, ep, t, R⟩ := R0.full (isK_of I sF x dp)
  obtain ⟨u, gu, ex, du⟩ := R.at'
  have sz := R.sz
  have fw := R.fw
  refine Calls.call_function_entry PyProof.Rows.kind_sorted PyProof.Rows.plain_sorted PyProof.Rows.entry_sorted (PyProof.Rows.args_sorted1 _) ?_
  unfold Builtin.«sorted»
  refine wpAny_bind (m := checkCount "sorted" 1 1 _) (wpAny_pure ?_)
  refine wpAny_bind (collect_set (A := X.A.in1) (I.ok.hd hc) ⟨u, gu, ex.1, du⟩ R.ft (by unfold scanBound; omega) R.tb.ris R.ld fun s1 vs k1 z1 g1 o1 pm => ?_)
  have er : rs.toList.map (·.2) = L.map fun e => Value.ref e.1 := by rw [R.rw', rws, List.map_map]; rfl
  rw [er] at pm
  obtain ⟨M, rfl, pM⟩ := perm_refs pm
  obtain ⟨es', x', pe⟩ := elts_perm pM x
  obtain ⟨⟨q1, q2, q3, q4⟩, q5⟩ := q es' pe
  have lM : M.length < 64 := by rw [pM.length_eq]; exact fw
  have rv : Vals (M.map fun e => V.ref e.1) (M.map fun e => Value.ref e.1) := vals_refs M
  refine wpAny_bind (wpAny_newList ?_ (by rw [List.length_map, sizeLine_eq]; omega))
  have gL : (s1.heap.push (PyProof.Rows.seqObj "list" (M.map fun e => Value.ref e.1).toArray 0)).get? s1.heap.objs.size = some (PyProof.Rows.seqObj "list" (M.map fun e => Value.ref e.1).toArray 0) := Heap.get?_push_size _ rfl
  have reads : PySem.W.EachIs (fun u d => ∃ as, Reads (s1.heap.push (PyProof.Rows.seqObj "list" (M.map fun e => Value.ref e.1).toArray 0)) u (id d) as ∧ s1.heap.objs.size ∉ as) (M.map fun e => Value.ref e.1) es' := by
    refine each_flat (fun b o z => Heap.get?_push_of_some _ (k1 b o z)) (each_reads I sF rv x'.rp fun d hd => (q4 d hd).1) fun d hd => ?_
    have : keyD d ∈ M.map fun e => some e.2 := by rw [← x'.ky]; exact List.mem_map.mpr ⟨d, hd, rfl⟩
    obtain ⟨e, _, ee⟩ := List.mem_map.mp this
    exact ⟨_, ee.symm⟩
  refine wpAny_bind (wpAny_holding (PySem.W.list_sort_data (enc := id) (R := fun u d => ∃ x, RelV x u ∧ Rp X.K F x d) (bs := es') (s := { s1 with heap := s1.heap.push (PyProof.Rows.seqObj "list" (M.map fun e => Value.ref e.1).toArray 0) }) gL (each_rp rv x'.rp) reads (by rw [List.map_id]; exact q1) (by rw [List.map_id]; exact q2) q3 (fun d hd => ?_) fun out ho e => ?_))
  · have := (q4 d hd).2
    show X.A.units + 1 + 1 + d.depth < cLine
    omega
  · obtain ⟨ws, w1, w2⟩ := rp_each e
    obtain ⟨c, hcc⟩ := PyProof.Rows.sortedHeap_at (vs := M.map fun e => Value.ref e.1) (out := out.toArray) gL
    have hlen : ws.length ≤ sizeLine := by rw [w2.length, List.length_mergeSort]; exact q3
    have old : ∀ b o, s.heap.get? b = some o → (PyProof.Rows.sortedHeap (s1.heap.push (PyProof.Rows.seqObj "list" (M.map fun e => Value.ref e.1).toArray 0)) s1.heap.objs.size (M.map fun e => Value.ref e.1) out.toArray).get? b = some o := fun b o z => by
      have z1 := k1 b o z
      have lt := Heap.lt_size z1
      rw [PyProof.Rows.sortedHeap_old (Nat.ne_of_lt lt) (by rw [PyProof.Rows.size_push']; exact Nat.lt_succ_of_lt lt)]
      exact Heap.get?_push_of_some _ z1
    refine wpAny_pure ⟨_, rfl, ?_⟩
    have hn : H s1.heap.objs.size = none := I.hok.fresh z1
    refine ⟨.ref s1.heap.objs.size, _, I.call' (ch := []) o1 (Un.laid old z1 hn) (I.hok.laid old z1 (o := .lst ws) ⟨hlen, out, c, w1, hcc⟩) (by rw [g1]; exact I.bare) (fun _ z => nomatch z), rfl, q5 _ ws hn w2⟩
def cdSrtSet : List PyData → (O → Prop) → Prop
  | [.list ds], Q => KeysOk ds ∧ ∀ L : List PyData, L.Nodup → (∀ d, d ∈ L ↔ d ∈ ds) → SortOk L ∧ Q (.ls (L.mergeSort (PySem.W.dataLe false id)))
  | [.tuple ds], Q => KeysOk ds ∧ ∀ L : List PyData, L.Nodup → (∀ d, d ∈ L ↔ d ∈ ds) → SortOk L ∧ Q (.ls (L.mergeSort (PySem.W.dataLe false id)))
  | _, _ => False
def cdLenSet : List PyData → (O → Prop) → Prop
  | [.list ds], Q => KeysOk ds ∧ ∀ L : List PyData, L.Nodup → (∀ d, d ∈ L ↔ d ∈ ds) → Q (.fz (.int L.length))
  | [.tuple ds], Q => KeysOk ds ∧ ∀ L : List PyData, L.Nodup → (∀ d, d ∈ L ↔ d ∈ ds) → Q (.fz (.int L.length))
  | _, _ => False
theorem OpPost.newL2 {K : PySem.W.Frag} {F H : Hp} {Q : O → Prop} {QV : VK} (p : OpPost K F H Q QV) (s : Same F H) {ds : List PyData} {vs : List V} {a b : Addr} {u : HO} (n1 : H a = none) (n2 : upd H a u b = none) (r : RpAll K F vs ds) (q : Q (.ls ds)) : QV (.ref b) (upd (upd H a u) b (.lst vs)) := by
  have nb : H b = none := (same_new n1).free n2
  exact p F (VL.one b (.lst vs)) _ _ _ (Grow.stay s ((same_new n1).trans (same_new n2))) (own_ls.mpr ⟨b, vs, rfl, rfl, r⟩) (same_one upd_same) (dis_one (s.free nb)) (fun x z => by
    by_cases e : x = b
    · subst e; exact nb
    · rw [one_ne e] at z; exact absurd rfl z) q
theorem OpPost.val2 {K : PySem.W.Frag} {F H : Hp} {Q : O → Prop} {QV : VK} (p : OpPost K F H Q QV) (s : Same F H) {d : PyData} {v : V} {a : Addr} {u : HO} (n1 : H a = none) (r : Rp K F v d) (q : Q (.fz d)) : QV v (upd H a u) :=
  p F emp _ _ _ (Grow.stay s (same_new n1)) (own_fz.mpr ⟨rfl, r⟩) same_emp Dis.emp (fun x z => absurd rfl z) q
variable {x y : Str} {p p2 q2 pos : Pos} {e : Expr} {τs : EA}
theorem srtSet_read {σ : St} {H : Hp} {QV : VK} (h : lO X.K (eCB cdSrtSet τs) σ H QV) : tCB (rSet X.K X.w) (lA X.K τs) σ H fun v H1 => rSrtS X.K X.w [v] H1 QV := by
  obtain ⟨pn, Z, F, Γ, hh, Q, A, q, k⟩ := h
  refine ⟨pn, Z, F, Γ, hh, _, A, q, fun F1 Γ1 h1 H1 as vs s1 A1 r1 ⟨ds, e1, q1⟩ => ?_⟩
  unfold cdSrtSet at q1
  split at q1
  · rename_i ds
    refine ⟨F1, ds, A1.FH, .inl (reps_of A1 r1 e1), q1.1, fun a L n so => ?_⟩
    obtain ⟨es, h1, h2, h3⟩ := so.ex
    refine ⟨F1, a, L, es, rfl, upd_same, A1.FH.trans (same_new n), h1, so.dp, fun es' pe => ?_⟩
    obtain ⟨o1, o2⟩ := q1.2 es' (pe.nodup_iff.mpr h2) fun d => (pe.mem_iff).trans (h3 d)
    exact ⟨o1, fun pp ws n2 w => (A1.post s1 k).newL2 A1.FH n n2 w o2⟩
  · rename_i ds
    refine ⟨F1, ds, A1.FH, .inr (reps_of A1 r1 e1), q1.1, fun a L n so => ?_⟩
    obtain ⟨es, h1, h2, h3⟩ := so.ex
    refine ⟨F1, a, L, es, rfl, upd_same, A1.FH.trans (same_new n), h1, so.dp, fun es' pe => ?_⟩
    obtain ⟨o1, o2⟩ := q1.2 es' (pe.nodup_iff.mpr h2) fun d => (pe.mem_iff).trans (h3 d)
    exact ⟨o1, fun pp ws n2 w => (A1.post s1 k).newL2 A1.FH n n2 w o2⟩
  · exact q1.elim
theorem vo_srtSet (hc : X.calm = true) (hu : X.A.units + 64 < cLine) (hg : Gl X "sorted") (hm : X.mg "sorted" = none) (hg2 : Gl X "set") (hm2 : X.mg "set" = none) (ha : PA X [e] (lA X.K τs)) (he : starEach [e] X.env = (false, eval e X.env) :: starEach [] X.env := by rfl) :
    PE X (.Call (.Name "sorted" p) [.Call (.Name "set" p2) [e] [] q2] [] pos) (lO X.K (eCB cdSrtSet τs)) :=
  pe_imp (pe_callB (cr_srtS hc hu) hg hm PyProof.Rows.boot_sorted (pa_cons (pe_callTy (cr_set hc hu) hg2 hm2 PyProof.Rows.boot_set ha (by decide) (by decide) he rfl) pa_nil rfl)) fun σ H QV h => srtSet_read h
theorem lenSet_read {σ : St} {H : Hp} {QV : VK} (h : lO X.K (eCB cdLenSet τs) σ H QV) : tCB (rSet X.K X.w) (lA X.K τs) σ H fun v H1 => rLenS X.w [v] H1 QV := by
  obtain ⟨pn, Z, F, Γ, hh, Q, A, q, k⟩ := h
  refine ⟨pn, Z, F, Γ, hh, _, A, q, fun F1 Γ1 h1 H1 as vs s1 A1 r1 ⟨ds, e1, q1⟩ => ?_⟩
  unfold cdLenSet at q1
  split at q1
  · rename_i ds
    refine ⟨F1, ds, A1.FH, .inl (reps_of A1 r1 e1), q1.1, fun a L n so => ?_⟩
    obtain ⟨es, h1, h2, h3⟩ := so.ex
    have el : es.length = L.length := by have := congrArg List.length h1.ky; rwa [List.length_map, List.length_map] at this
    refine ⟨a, L, rfl, upd_same, (A1.post s1 k).val2 A1.FH n (.int _) ?_⟩
    rw [← el]
    exact q1.2 es h2 h3
  · rename_i ds
    refine ⟨F1, ds, A1.FH, .inr (reps_of A1 r1 e1), q1.1, fun a L n so => ?_⟩
    obtain ⟨es, h1, h2, h3⟩ := so.ex
    have el : es.length = L.length := by have := congrArg List.length h1.ky; rwa [List.length_map, List.length_map] at this
    refine ⟨a, L, rfl, upd_same, (A1.post s1 k).val2 A1.FH n (.int _) ?_⟩
    rw [← el]
    exact q1.2 es h2 h3
  · exact q1.elim
theorem vo_lenSet (hc : X.calm = true) (hu : X.A.units + 64 < cLine) (hg : Gl X "len") (hm : X.mg "len" = none) (hg2 : Gl X "set") (hm2 : X.mg "set" = none) (ha : PA X [e] (lA X.K τs)) (he : starEach [e] X.env = (false, eval e X.env) :: starEach [] X.env := by rfl) :
    PE X (.Call (.Name "len" p) [.Call (.Name "set" p2) [e] [] q2] [] pos) (lO X.K (eCB cdLenSet τs)) :=
  pe_imp (pe_callB cr_lenS hg hm PySem.boot_len (pa_cons (pe_callTy (cr_set hc hu) hg2 hm2 PyProof.Rows.boot_set ha (by decide) (by decide) he rfl) pa_nil rfl)) fun σ H QV h => lenSet_read h
end
end VL
end
section
namespace VL
open PySem PySem.Spec L2
/-! a, b, c = x, y, z -/
def sPar3 (i j l : Nat) (τs : EA) : ES := fun D Γ => τs Γ fun as Γ1 => ∃ a b c Γ2 Γ3 Γ4, as = [.d a, .d b, .d c] ∧ setG Γ1 i (some (.fz a)) = some Γ2 ∧ setG Γ2 j (some (.fz b)) = some Γ3 ∧ setG Γ3 l (some (.fz c)) = some Γ4 ∧ D.nx Γ4
section
variable {X : Cx} {io : Bool} {pos : Pos} {τs : EA}
theorem vs_par3 {i j l : Nat} {x y z : Str} {a b c : Expr} {px py pz pt : Pos} {kt k2 pt2} (hc : X.calm = true) (hN : X.N.Nodup) (hi : X.N[i]? = some x) (hj : X.N[j]? = some y) (hl : X.N[l]? = some z) (hij : i ≠ j) (hil : i ≠ l) (hjl : j ≠ l)
    (hx : X.env.scope.names.lookup x = some .local) (hy : X.env.scope.names.lookup y = some .local) (hz : X.env.scope.names.lookup z = some .local) (h0 : io = true → i ≠ 0 ∧ j ≠ 0 ∧ l ≠ 0) (ha : PA X [a, b, c] (lA X.K τs))
    (hw : swappedStores [.Tuple [.Name x px, .Name y py, .Name z pz] kt pt] (.Tuple [a, b, c] k2 pt2) X.env = pure (some [x, y, z]))
    (hs : swapsWithSole [.Tuple [.Name x px, .Name y py, .Name z pz] kt pt] (.Tuple [a, b, c] k2 pt2) pos.line X.env = pure false := by rfl) :
    PS X (.Assign [.Tuple [.Name x px, .Name y py, .Name z pz] kt pt] (.Tuple [a, b, c] k2 pt2) pos) (lS X.K io (sPar3 i j l τs)) :=
  ps_imp (ps_par3 hc hN hi hj hl hij hil hjl hx hy hz ha hw hs) fun D σ H ⟨v0, Z, F, Γ, h, DD, A, q, k⟩ => ⟨_, Z, F, Γ, h, _, A, q, fun F1 Γ1 h1 H1 as vs s1 A1 r1 ⟨d1, d2, d3, Γ2, Γ3, Γ4, e0, e1, e2, e3, q1⟩ => by
    subst e0
    obtain ⟨v1, _, rfl, w1, v2, _, rfl, w2, v3, _, rfl, w3, rfl⟩ := r1
    obtain ⟨i1, l1⟩ := setG_eq e1
    obtain ⟨i2, l2⟩ := setG_eq e2
    obtain ⟨i3, l3⟩ := setG_eq e3
    subst i1; subst i2; subst i3
    obtain ⟨h2, A2⟩ := A1.put (show Rp X.K F1 v1 d1 from w1) l1 (pns_ne fun z => (h0 z).1)
    obtain ⟨h3, A3⟩ := A2.put (show Rp X.K F1 v2 d2 from w2) l2 (pns_ne fun z => (h0 z).2.1)
    obtain ⟨h4, A4⟩ := A3.put (show Rp X.K F1 v3 d3 from w3) l3 (pns_ne fun z => (h0 z).2.2)
    exact ⟨v1, v2, v3, rfl, k.nx F1 _ _ h4 H1 s1 A4 q1⟩⟩
end
section
variable {D : En} {Γ : Ga} {τs : EA} {i j l : Nat}
theorem st_par3 (h : τs Γ fun as Γ1 => ∃ a b c Γ2 Γ3 Γ4, as = [.d a, .d b, .d c] ∧ setG Γ1 i (some (.fz a)) = some Γ2 ∧ setG Γ2 j (some (.fz b)) = some Γ3 ∧ setG Γ3 l (some (.fz c)) = some Γ4 ∧ D.nx Γ4) : sPar3 i j l τs D Γ := h
end
end VL
end
section
namespace FM
open PySem VL

/-! ### fillings of boxes, in plain lists -/
abbrev Fil := List Bool
def holds (r : Rule) (f : Fil) : Bool := r.any fun l => decide (f[l.1.toNat]? = some l.2)
def keeps (rs : List Rule) (f : Fil) : Bool := rs.all fun r => holds r f
def agr (t : List Lit) (f : Fil) : Bool := t.all fun l => decide (f[l.1.toNat]? = some l.2)
def allF : Nat → List Fil
  | 0 => [[]]
  | n + 1 => (allF n).map (false :: ·) ++ (allF n).map (true :: ·)
structure Wf (m : Nat) (r : Rule) : Prop where
  rng : ∀ l ∈ r, 0 ≤ l.1 ∧ l.1 < m
  inc : r.Pairwise fun a b => a.1 < b.1
def last (m : Nat) (r : Rule) : Int := match r.getLast? with
  | some l => l.1
  | none => m
def signs (t : List Lit) (k : Nat) : List Bool := match t.find? fun l => decide (l.1 = (k : Int)) with
  | some l => [l.2]
  | none => [false, true]
def good (rs : List Rule) (t : List Lit) (f : Fil) : Bool := keeps rs f && agr t f
def firstF (m : Nat) (rs : List Rule) (t : List Lit) : Option Fil := (allF m).find? (good rs t)
theorem mem_allF : ∀ {n : Nat} {f : Fil}, f ∈ allF n ↔ f.length = n
  | 0, f => by simp [allF]
  | n + 1, f => by
    simp only [allF, List.mem_append, List.mem_map]
    constructor
    · rintro (⟨g, hg, rfl⟩ | ⟨g, hg, rfl⟩) <;> simp [mem_allF.mp hg]
    · intro h
      cases f with
      | nil => simp at h
      | cons b g =>
        have hg : g ∈ allF n := mem_allF.mpr (by simpa using h)
        cases b
        · exact .inl ⟨g, hg, rfl⟩
        · exact .inr ⟨g, hg, rfl⟩
theorem last_le {m : Nat} {r : Rule} (w : Wf m r) (hne : r ≠ []) : ∀ l ∈ r, l.1 ≤ last m r := by
  intro l hl
  unfold last
  rw [List.getLast?_eq_some_getLast hne]
  show l.1 ≤ (r.getLast hne).1
  have hd : r = r.dropLast ++ [r.getLast hne] := (List.dropLast_concat_getLast hne).symm
  rw [hd] at hl
  rcases List.mem_append.mp hl with h | h
  · have := w.inc
    rw [hd] at this
    have := (List.pairwise_append.mp this).2.2 l h (r.getLast hne) (by simp)
    omega
  · have : l = r.getLast hne := by simpa using h
    rw [← this]; omega
theorem last_lt {m : Nat} {r : Rule} (w : Wf m r) (hne : r ≠ []) : 0 ≤ last m r ∧ last m r < m := by
  unfold last
  rw [List.getLast?_eq_some_getLast hne]
  exact w.rng _ (List.getLast_mem hne)
/-- a rule whose boxes lie below is told by the front of a filling -/
theorem holds_front {r : Rule} {f g : Fil} (h : ∀ l ∈ r, 0 ≤ l.1 ∧ l.1 < f.length) : holds r (f ++ g) = holds r f := by
  unfold holds
  have : ∀ l ∈ r, decide ((f ++ g)[l.1.toNat]? = some l.2) = decide (f[l.1.toNat]? = some l.2) := fun l hl => by
    rw [List.getElem?_append_left (by have := h l hl; omega)]
  induction r with
  | nil => rfl
  | cons x r ih =>
    rw [List.any_cons, List.any_cons, this x (by simp), ih (fun l hl => h l (by simp [hl])) (fun l hl => this l (by simp [hl]))]
theorem holds_take {r : Rule} {f : Fil} {k : Nat} (hk : k ≤ f.length) (h : ∀ l ∈ r, 0 ≤ l.1 ∧ l.1 < k) : holds r (f.take k) = holds r f := by
  conv => rhs; rw [← List.take_append_drop k f]
  rw [holds_front fun l hl => by rw [List.length_take]; have := h l hl; omega]

/-! ### the search -/
section
variable (m : Nat)
def ext (p : Fil) : List Fil := (allF (m - p.length)).map (p ++ ·)
def cand (p : Fil) (S : List Bool) : List Fil := S.flatMap fun s => ext m (p ++ [s])
/-- what is left to try: the stack, the deepest box first -/
def left (fil : Fil) : List (List Bool) → List Fil
  | [] => []
  | S :: up => cand m (fil.take up.length) S ++ left fil up
end
section
variable {m : Nat}
theorem left_eq {fil g : Fil} : ∀ {stk : List (List Bool)}, (∀ k, k < stk.length → fil.take k = g.take k) → left m fil stk = left m g stk
  | [], _ => rfl
  | S :: up, h => by
    unfold left
    rw [h up.length (by simp), left_eq fun k hk => h k (by simp; omega)]
theorem ext_split {p : Fil} (h : p.length < m) : ext m p = ext m (p ++ [false]) ++ ext m (p ++ [true]) := by
  unfold ext
  rw [List.length_append, List.length_append]
  obtain ⟨n, hn⟩ : ∃ n, m - p.length = n + 1 := ⟨m - p.length - 1, by omega⟩
  rw [hn, show m - (p.length + [false].length) = n by simp; omega, show m - (p.length + [true].length) = n by simp; omega]
  simp only [allF, List.map_append, List.map_map]
  congr 1 <;> (apply List.map_congr_left; intro f _; simp)
theorem cand_nil {p : Fil} : cand m p [] = [] := rfl
theorem cand_cons {p : Fil} {s : Bool} {S : List Bool} : cand m p (s :: S) = ext m (p ++ [s]) ++ cand m p S := by simp [cand]
theorem mem_ext {p f : Fil} (h : f ∈ ext m p) : ∃ g, f = p ++ g := by
  unfold ext at h
  obtain ⟨g, _, e⟩ := List.mem_map.mp h
  exact ⟨g, e.symm⟩
variable {rs : List Rule} {t : List Lit}
/-- the state of the search -/
structure St (m : Nat) (rs : List Rule) (t : List Lit) (stk : List (List Bool)) (fil : Fil) : Prop where
  ne0 : ∀ r ∈ rs, r ≠ []
  wf : ∀ r ∈ rs, Wf m r
  tr : ∀ l ∈ t, 0 ≤ l.1 ∧ l.1 < m
  td : t.Pairwise fun a b => a.1 ≠ b.1
  le : stk.length ≤ m
  fl : stk.length ≤ fil.length + 1
  fnd : firstF m rs t = (left m fil stk).find? (good rs t)
  kept : ∀ r ∈ rs, last m r + 1 < stk.length → holds r (fil.take (stk.length - 1)) = true
  agrd : ∀ l ∈ t, l.1 + 1 < stk.length → fil[l.1.toNat]? = some l.2
  sub : ∀ k S, stk.reverse[k]? = some S → ∀ s ∈ S, s ∈ signs t k
theorem tick_of {l : Lit} (td : t.Pairwise fun a b => a.1 ≠ b.1) (hl : l ∈ t) (h0 : 0 ≤ l.1) : signs t l.1.toNat = [l.2] := by
  unfold signs
  have e : ((l.1.toNat : Nat) : Int) = l.1 := by omega
  rw [e]
  have : t.find? (fun x => decide (x.1 = l.1)) = some l := by
    induction t with
    | nil => cases hl
    | cons x t ih =>
      rw [List.pairwise_cons] at td
      rcases List.mem_cons.mp hl with rfl | h
      · exact List.find?_cons_of_pos (by simp)
      · rw [List.find?_cons_of_neg (by simpa using td.1 l h)]
        exact ih td.2 h
  rw [this]
theorem find_ext_bad {p : Fil} {r : Rule} (hr : r ∈ rs) (hb : ∀ l ∈ r, 0 ≤ l.1 ∧ l.1 < p.length) (h : holds r p = false) : (ext m p).find? (good rs t) = none := by
  apply List.find?_eq_none.mpr
  intro f hf
  obtain ⟨g, rfl⟩ := mem_ext hf
  unfold good keeps
  intro z
  rw [Bool.and_eq_true, List.all_eq_true] at z
  have := z.1 r hr
  rw [holds_front hb, h] at this
  exact Bool.noConfusion this
theorem find_ext_tick {p : Fil} {l : Lit} (hl : l ∈ t) (h0 : 0 ≤ l.1) (e : l.1.toNat = p.length) {s : Bool} (hs : s ≠ l.2) : (ext m (p ++ [s])).find? (good rs t) = none := by
  apply List.find?_eq_none.mpr
  intro f hf
  obtain ⟨g, rfl⟩ := mem_ext hf
  unfold good agr
  intro z
  rw [Bool.and_eq_true, List.all_eq_true] at z
  have := z.2 l hl
  rw [decide_eq_true_eq, e, List.append_assoc, List.getElem?_append_right (by omega)] at this
  simp at this
  exact hs this
theorem find_signs {p : Fil} (h : p.length < m) : (ext m p).find? (good rs t) = (cand m p (signs t p.length)).find? (good rs t) := by
  rw [ext_split h]
  unfold signs
  cases e : t.find? (fun l => decide (l.1 = (p.length : Int))) with
  | none => simp [cand_cons, cand_nil]
  | some l =>
    have hl := List.mem_of_find?_eq_some e
    have hb := List.find?_some e
    have hb : l.1 = (p.length : Int) := by simpa using hb
    simp only [cand_cons, cand_nil, List.append_nil]
    rw [List.find?_append]
    cases hs : l.2 with
    | false =>
      rw [find_ext_tick (s := true) hl (by omega) (by omega) (by rw [hs]; simp)]
      cases (ext m (p ++ [false])).find? (good rs t) <;> rfl
    | true =>
      rw [find_ext_tick (s := false) hl (by omega) (by omega) (by rw [hs]; simp)]
      rfl
/-! the steps -/
theorem St.start (hm : 0 < m) (ne0 : ∀ r ∈ rs, r ≠ []) (wf : ∀ r ∈ rs, Wf m r) (tr : ∀ l ∈ t, 0 ≤ l.1 ∧ l.1 < m) (td : t.Pairwise fun a b => a.1 ≠ b.1) : St m rs t [signs t 0] [] where
  ne0 := ne0
  wf := wf
  tr := tr
  td := td
  le := by simp; omega
  fl := by simp
  fnd := by
    unfold firstF left
    have e : allF m = ext m [] := by unfold ext; simp
    rw [e, find_signs (by simpa using hm)]
    simp [left]
  kept := fun r hr h => by
    have := last_lt (wf r hr) (ne0 r hr)
    simp at h; omega
  agrd := fun l hl h => by
    have := tr l hl
    simp at h; omega
  sub := fun k S e s hs => by
    cases k with
    | zero => simp at e; subst e; exact hs
    | succ k => simp at e
theorem St.pop {up : List (List Bool)} {fil : Fil} (h : St m rs t ([] :: up) fil) : St m rs t up (fil.take up.length) where
  ne0 := h.ne0
  wf := h.wf
  tr := h.tr
  td := h.td
  le := by have := h.le; simp at this; omega
  fl := by rw [List.length_take]; have := h.fl; simp at this; omega
  fnd := by
    rw [h.fnd]
    show (cand m _ [] ++ left m fil up).find? _ = _
    rw [cand_nil, List.nil_append, left_eq (g := fil.take up.length) fun k hk => by rw [List.take_take, Nat.min_eq_left (by omega)]]
  kept := fun r hr z => by
    have := h.kept r hr (by simp; omega)
    simp only [List.length_cons, Nat.add_sub_cancel] at this
    have lt := last_lt (h.wf r hr) (h.ne0 r hr)
    have ll := last_le (h.wf r hr) (h.ne0 r hr)
    have fl := h.fl
    simp only [List.length_cons] at fl
    rw [List.take_take, Nat.min_eq_left (by omega), ← this]
    have hb : ∀ l ∈ r, 0 ≤ l.1 ∧ l.1 < ((up.length - 1 : Nat) : Int) := fun l hl => by
      have := ll l hl
      have := (h.wf r hr).rng l hl
      omega
    rw [holds_take (by omega) hb, holds_take (by omega) fun l hl => by have := hb l hl; omega]
  agrd := fun l hl z => by
    have := h.agrd l hl (by simp; omega)
    have h0 := (h.tr l hl).1
    rw [List.getElem?_take_of_lt (by omega)]
    exact this
  sub := fun k S e s hs => h.sub k S (by rw [List.reverse_cons]; rw [List.getElem?_append_left (by have := (List.getElem?_eq_some_iff.mp e).1; exact this)]; exact e) s hs
section
variable {s : Bool} {S : List Bool} {up : List (List Bool)} {fil : Fil}
theorem St.split (h : St m rs t ((s :: S) :: up) fil) : firstF m rs t = (ext m (fil.take up.length ++ [s]) ++ left m (fil.take up.length ++ [s]) (S :: up)).find? (good rs t) := by
  rw [h.fnd]
  unfold left
  rw [cand_cons, List.append_assoc]
  have fl := h.fl
  simp only [List.length_cons] at fl
  have e1 : (fil.take up.length ++ [s]).take up.length = fil.take up.length := by rw [List.take_append_of_le_length (by rw [List.length_take]; omega), List.take_take, Nat.min_self]
  rw [e1]
  congr 3
  apply left_eq
  intro k hk
  rw [List.take_append_of_le_length (by rw [List.length_take]; omega), List.take_take, Nat.min_eq_left (by omega)]
theorem St.lenp (h : St m rs t ((s :: S) :: up) fil) : (fil.take up.length ++ [s]).length = up.length + 1 := by
  have fl := h.fl
  simp only [List.length_cons] at fl
  rw [List.length_append, List.length_take]; simp; omega
theorem St.rest (h : St m rs t ((s :: S) :: up) fil) : (∀ r ∈ rs, last m r + 1 < (S :: up).length → holds r ((fil.take up.length ++ [s]).take ((S :: up).length - 1)) = true) ∧ (∀ l ∈ t, l.1 + 1 < (S :: up).length → (fil.take up.length ++ [s])[l.1.toNat]? = some l.2) ∧
    ∀ k T, (S :: up).reverse[k]? = some T → ∀ x ∈ T, x ∈ signs t k := by
  have fl := h.fl
  simp only [List.length_cons] at fl
  refine ⟨fun r hr z => ?_, fun l hl z => ?_, fun k T e x hx => ?_⟩
  · have := h.kept r hr (by simpa using z)
    simp only [List.length_cons, Nat.add_sub_cancel] at this ⊢
    rw [List.take_append_of_le_length (by rw [List.length_take]; omega), List.take_take, Nat.min_self]
    exact this
  · have := h.agrd l hl (by simpa using z)
    have h0 := (h.tr l hl).1
    simp only [List.length_cons] at z
    rw [List.getElem?_append_left (by rw [List.length_take]; omega), List.getElem?_take_of_lt (by omega)]
    exact this
  · rw [List.reverse_cons] at e
    by_cases c : k < up.length
    · rw [List.getElem?_append_left (by simpa using c)] at e
      exact h.sub k T (by rw [List.reverse_cons, List.getElem?_append_left (by simpa using c)]; exact e) x hx
    · have ek : k = up.length := by
        have := (List.getElem?_eq_some_iff.mp e).1
        simp at this; omega
      subst ek
      rw [List.getElem?_append_right (by simp)] at e
      simp at e
      subst e
      exact h.sub up.length (s :: S) (by rw [List.reverse_cons, List.getElem?_append_right (by simp)]; simp) x (by simp [hx])
/-- a rule of this box is not kept -/
theorem St.fail (h : St m rs t ((s :: S) :: up) fil) (hk : ¬ ∀ r ∈ rs, last m r = (up.length : Int) → holds r (fil.take up.length ++ [s]) = true) : St m rs t (S :: up) (fil.take up.length ++ [s]) := by
  obtain ⟨k1, k2, k3⟩ := h.rest
  refine ⟨h.ne0, h.wf, h.tr, h.td, by have := h.le; simpa using this, by rw [h.lenp]; simp, ?_, k1, k2, k3⟩
  rw [h.split, List.find?_append]
  obtain ⟨r, hr, hl, hh⟩ : ∃ r, r ∈ rs ∧ last m r = (up.length : Int) ∧ holds r (fil.take up.length ++ [s]) = false := by
    apply Classical.byContradiction
    intro z
    apply hk
    intro r hr hl
    cases e : holds r (fil.take up.length ++ [s]) with
    | true => rfl
    | false => exact absurd ⟨r, hr, hl, e⟩ z
  rw [find_ext_bad hr (fun l hl' => by
    have := last_le (h.wf r hr) (h.ne0 r hr) l hl'
    have := ((h.wf r hr).rng l hl').1
    rw [h.lenp]; omega) hh]
  rfl
theorem St.agr1 (h : St m rs t ((s :: S) :: up) fil) : ∀ l ∈ t, l.1 < (up.length + 1 : Nat) → (fil.take up.length ++ [s])[l.1.toNat]? = some l.2 := fun l hl z => by
  have h0 := (h.tr l hl).1
  have fl := h.fl
  simp only [List.length_cons] at fl
  by_cases c : l.1 < up.length
  · exact h.rest.2.1 l hl (by simp; omega)
  · have e : l.1.toNat = up.length := by omega
    have := h.sub up.length (s :: S) (by rw [List.reverse_cons, List.getElem?_append_right (by simp)]; simp) s (by simp)
    rw [← e, tick_of h.td hl h0] at this
    have es : s = l.2 := by simpa using this
    rw [List.getElem?_append_right (by rw [List.length_take]; omega), List.length_take, Nat.min_eq_left (by omega), e, Nat.sub_self]
    simp [es]
/-- the last box, all kept -/
theorem St.done (h : St m rs t ((s :: S) :: up) fil) (hk : ∀ r ∈ rs, last m r = (up.length : Int) → holds r (fil.take up.length ++ [s]) = true) (he : up.length + 1 = m) : firstF m rs t = some (fil.take up.length ++ [s]) := by
  rw [h.split]
  have e : ext m (fil.take up.length ++ [s]) = [fil.take up.length ++ [s]] := by
    unfold ext
    rw [h.lenp, he, Nat.sub_self]
    simp [allF]
  rw [e]
  have g : good rs t (fil.take up.length ++ [s]) = true := by
    unfold good keeps agr
    rw [Bool.and_eq_true, List.all_eq_true, List.all_eq_true]
    refine ⟨fun r hr => ?_, fun l hl => ?_⟩
    · have lt := last_lt (h.wf r hr) (h.ne0 r hr)
      by_cases c : last m r = (up.length : Int)
      · exact hk r hr c
      · have := h.rest.1 r hr (by simp; omega)
        rw [holds_take (by rw [h.lenp]; simp) fun l hl => ?_] at this
        · exact this
        · have := last_le (h.wf r hr) (h.ne0 r hr) l hl
          have := ((h.wf r hr).rng l hl).1
          simp; omega
    · rw [decide_eq_true_eq]
      exact h.agr1 l hl (by have := (h.tr l hl).2; omega)
  rw [List.cons_append, List.find?_cons_of_pos g]
/-- on to the next box -/
theorem St.push (h : St m rs t ((s :: S) :: up) fil) (hk : ∀ r ∈ rs, last m r = (up.length : Int) → holds r (fil.take up.length ++ [s]) = true) (he : up.length + 1 < m) : St m rs t (signs t (up.length + 1) :: S :: up) (fil.take up.length ++ [s]) := by
  obtain ⟨k1, k2, k3⟩ := h.rest
  refine ⟨h.ne0, h.wf, h.tr, h.td, by simp; omega, by rw [h.lenp]; simp, ?_, fun r hr z => ?_, fun l hl z => ?_, fun k T e x hx => ?_⟩
  · rw [h.split, List.find?_append, find_signs (by rw [h.lenp]; exact he), h.lenp]
    show _ = (cand m ((fil.take up.length ++ [s]).take (S :: up).length) (signs t (up.length + 1)) ++ left m (fil.take up.length ++ [s]) (S :: up)).find? (good rs t)
    rw [List.find?_append, List.take_of_length_le (l := fil.take up.length ++ [s]) (by rw [h.lenp]; simp)]
  · simp only [List.length_cons, Nat.add_sub_cancel] at z ⊢
    rw [List.take_of_length_le (l := fil.take up.length ++ [s]) (by rw [h.lenp]; omega)]
    by_cases c : last m r = (up.length : Int)
    · exact hk r hr c
    · have lt := last_lt (h.wf r hr) (h.ne0 r hr)
      have := k1 r hr (by simp; omega)
      rw [holds_take (by rw [h.lenp]; simp) fun l hl => ?_] at this
      · exact this
      · have := last_le (h.wf r hr) (h.ne0 r hr) l hl
        have := ((h.wf r hr).rng l hl).1
        simp; omega
  · exact h.agr1 l hl (by simp only [List.length_cons] at z; omega)
  · rw [List.reverse_cons] at e
    by_cases c : k < up.length + 1
    · rw [List.getElem?_append_left (by simpa using c)] at e
      exact k3 k T e x hx
    · have ek : k = up.length + 1 := by
        have := (List.getElem?_eq_some_iff.mp e).1
        simp at this; omega
      subst ek
      rw [List.getElem?_append_right (by simp)] at e
      simp at e
      subst e
      exact hx
end
/-- how much is left -/
def wgt : Nat → Nat
  | 0 => 0
  | n + 1 => 2 * wgt n + 2
def meas (m : Nat) : List (List Bool) → Nat
  | [] => 0
  | S :: up => 1 + S.length * wgt (m - up.length) + meas m up
theorem signs_len (k : Nat) : (signs t k).length ≤ 2 := by
  unfold signs
  split <;> simp
theorem meas_push {s : Bool} {S : List Bool} {up : List (List Bool)} (h : up.length + 1 < m) : meas m (signs t (up.length + 1) :: S :: up) < meas m ((s :: S) :: up) := by
  simp only [meas, List.length_cons]
  obtain ⟨n, hn⟩ : ∃ n, m - up.length = n + 1 := ⟨m - up.length - 1, by omega⟩
  rw [hn, show m - (up.length + 1) = n by omega]
  have a : (signs t (up.length + 1)).length * wgt n ≤ 2 * wgt n := Nat.mul_le_mul_right _ (signs_len _)
  have b : (S.length + 1) * wgt (n + 1) = S.length * wgt (n + 1) + wgt (n + 1) := Nat.succ_mul _ _
  have c : wgt (n + 1) = 2 * wgt n + 2 := rfl
  rw [b, c] at *
  omega
theorem meas_fail {s : Bool} {S : List Bool} {up : List (List Bool)} (h : up.length < m) : meas m (S :: up) < meas m ((s :: S) :: up) := by
  simp only [meas, List.length_cons]
  obtain ⟨n, hn⟩ : ∃ n, m - up.length = n + 1 := ⟨m - up.length - 1, by omega⟩
  rw [hn, Nat.succ_mul]
  have c : wgt (n + 1) = 2 * wgt n + 2 := rfl
  omega
theorem meas_pop {up : List (List Bool)} : meas m up < meas m ([] :: up) := by
  simp [meas]
end
end FM
end
section
namespace K09
open PySem L2 VL FM
def Sml (m : Nat) (rs : List Rule) : Prop := 1 ≤ m ∧ m ≤ 12 ∧ rs.length ≤ 1000 ∧ ∀ r ∈ rs, Wf m r
def dOF : Option Fil → PyData
  | none => .none
  | some f => dF f
def ctr (r : Rule) : Rule := r.map neg
def tkD (t : List Lit) : List (PyData × PyData) := t.map fun l => (.int l.1, .bool l.2)
def wp_contrary_of : W0 := fun ds Q => ∃ b s, ds = [dLit b s] ∧ Q (.fz (dLit b (!s)))
structure Tk (m : Nat) (t : List Lit) : Prop where
  tr : ∀ l ∈ t, 0 ≤ l.1 ∧ l.1 < m
  td : t.Pairwise fun a b => a.1 ≠ b.1
/-! the law's own -/
def pool (x : Int) (gs : List Int) (y : Int) (hs : List Int) : O := .tr [.fz (.int x), .ls (gs.map .int), .fz (.int y), .ls (hs.map .int)]
def PoolOk (c : Nat) (o : O) : Prop := ∃ x gs y hs, o = pool x gs y hs ∧ 0 ≤ x ∧ x < 2147483563 ∧ 0 ≤ y ∧ y ≤ (c : Int) ∧ (∀ g ∈ gs, 0 ≤ g) ∧ gs.length ≤ 60 ∧ hs.length = 6 ∧ ∀ h ∈ hs, 0 ≤ h ∧ h < 8
theorem PoolOk.mono {c c' : Nat} {o : O} (h : c ≤ c') (p : PoolOk c o) : PoolOk c' o := by
  obtain ⟨x, gs, y, hs, e, a, b, c1, d, r⟩ := p
  exact ⟨x, gs, y, hs, e, a, b, c1, by omega, r⟩
abbrev lim : Nat := 1000000
def wp__law_basin : W0 := fun ds Q => ∃ ns : List Int, ds = [scD ns] ∧ ns.length ≤ 63 ∧ ∀ o, PoolOk 0 o → Q o
def wp__law_scoop : W1 := fun o ds Q => ∃ (c : Nat) (place : Nat) (many : Nat), PoolOk c o ∧ c < lim ∧ ds = [.int (place : Nat), .int (many : Nat)] ∧ place < 6 ∧ many ≤ lim ∧ ∀ (n : Nat) o', n < max many 1 → PoolOk (c + 1) o' → Q (.fz (.int (n : Nat))) o'
mutual
def plain : PyData → Bool
  | .none => true
  | .bool _ => true
  | .int _ => true
  | .str x => PyData.strOk x
  | .tuple ds => plainAll ds
  | _ => false
def plainAll : List PyData → Bool
  | [] => true
  | d :: ds => plain d && plainAll ds
end
mutual
def nodes : PyData → Nat
  | .tuple ds => 1 + nodesAll ds
  | _ => 1
def nodesAll : List PyData → Nat
  | [] => 0
  | d :: ds => nodes d + nodesAll ds
end
def wp__law_same : W0 := fun ds Q => ∃ d, ds = [d, d] ∧ plain d = true ∧ nodes d ≤ 50000 ∧ Q (.fz (.bool true))
def wp__law_some : W1 := fun o ds Q => ∃ (c m : Nat) (k : Nat), PoolOk c o ∧ c + 100 < lim ∧ ds = [.int (m : Nat), .int (k : Nat)] ∧ m ≤ 12 ∧ ∀ r o', Wf m r → PoolOk (c + 24) o' → Q (.fz (dR r)) o'
def wp__law_rule : W1 := fun o ds Q => ∃ (c m : Nat), PoolOk c o ∧ c + 200 < lim ∧ ds = [.int (m : Nat)] ∧ 1 ≤ m ∧ m ≤ 12 ∧ ∀ r o', Wf m r → PoolOk (c + 26) o' → Q (.fz (dR r)) o'
def wp__law_every : W0 := fun ds Q => ∃ m : Nat, ds = [.int (m : Nat)] ∧ 1 ≤ m ∧ m ≤ 12 ∧ Q (.ls ((allF m).map dF))
def wp__law_holds : W0 := fun ds Q => ∃ (r : Rule) (f : Fil), ds = [dR r, dF f] ∧ (∀ l ∈ r, 0 ≤ l.1 ∧ l.1 < f.length) ∧ r.length ≤ 1000 ∧ Q (.fz (.bool (holds r f)))
def dOR : Option Rule → PyData
  | none => .none
  | some r => dR r
/-- boxes of both, with unlike signs -/
def unl (r s : Rule) : Nat := (s.filter fun l => match r.find? fun x => decide (x.1 = l.1) with
  | some x => !(x.2 == l.2)
  | none => false).length
def mine (r s : Rule) (b : Nat) : List Bool := ((r ++ s).filter fun l => decide (l.1 = (b : Int))).map (·.2)
def mineR (r s : Rule) (b : Nat) : Rule := match mine r s b with
  | [x] => [((b : Int), x)]
  | [x, y] => if x == y then [((b : Int), x)] else []
  | _ => []
def joinL (r s : Rule) : Option Rule := if unl r s = 1 then some ((List.range 12).flatMap (mineR r s)) else none
def wp__law_joined : W0 := fun ds Q => ∃ (m : Nat) (r s : Rule), ds = [dR r, dR s] ∧ Wf m r ∧ Wf m s ∧ m ≤ 12 ∧ Q (.fz (dOR (joinL r s)))
def wp__law_sheet : W1 := fun o ds Q => ∃ (c most many : Nat), PoolOk c o ∧ c + 2000 < lim ∧ ds = [.int (most : Nat), .int (many : Nat)] ∧ 1 ≤ most ∧ most ≤ 12 ∧ many ≤ 10 ∧ ∀ m rs o', Sml m rs → m ≤ most → rs.length ≤ many → PoolOk (c + 300) o' → Q (.fz (dS (m : Nat) rs)) o'
def hasL (r : Rule) (l : Lit) : Bool := isIn l r
def clash (r s : Rule) : Rule := r.filter fun l => hasL s (neg l)
def inside (r s : Rule) : Bool := r.all fun l => hasL s l
def wp_without_literal : W0 := fun ds Q => ∃ (r : Rule) (l : Lit), ds = [dR r, dL l] ∧ r.length ≤ 1000 ∧ Q (.fz (dR (r.filter fun x => decide (x ≠ l))))
def wp_is_within : W0 := fun ds Q => ∃ (r s : Rule), ds = [dR r, dR s] ∧ r.length ≤ 1000 ∧ s.length ≤ 1000 ∧ Q (.fz (.bool (inside r s)))
def wp_clashing : W0 := fun ds Q => ∃ (r s : Rule), ds = [dR r, dR s] ∧ r.length ≤ 1000 ∧ s.length ≤ 1000 ∧ Q (.ls ((clash r s).map dL))
def wp_joined : W0 := fun ds Q => ∃ (m : Nat) (r s : Rule), ds = [dR r, dR s] ∧ Wf m r ∧ Wf m s ∧ m ≤ 12 ∧ Q (.fz (dOR (joinL r s)))
/-- the joins of all two rules -/
def joinAt (rs : List Rule) (i j : Nat) : List PyData := match joinL (rs.getD i []) (rs.getD j []) with
  | some t => [.tuple [.int (i : Nat), .int (j : Nat), dR t]]
  | none => []
def joinRow (rs : List Rule) (i n : Nat) : List PyData := (List.range n).flatMap fun k => joinAt rs i (i + 1 + k)
def joinAll (rs : List Rule) (n : Nat) : List PyData := (List.range n).flatMap fun i => joinRow rs i (rs.length - (i + 1))
def wp_joins_of : W0 := fun ds Q => ∃ (m : Nat) (rs : List Rule), ds = [dS (m : Nat) rs] ∧ m ≤ 12 ∧ rs.length ≤ 20 ∧ (∀ r ∈ rs, Wf m r) ∧ Q (.fz (.tuple (joinAll rs rs.length)))
def wp__law_near : W1 := fun o ds Q => ∃ (c m : Nat) (r : Rule), PoolOk c o ∧ c + 300 < lim ∧ ds = [.int (m : Nat), dR r] ∧ 1 ≤ m ∧ m ≤ 12 ∧ Wf m r ∧ ∀ r' o', Wf m r' → PoolOk (c + 60) o' → Q (.fz (dR r')) o'
def wp__law_two : W1 := fun o ds Q => ∃ (c m : Nat) (r s : Rule), PoolOk c o ∧ ds = [.int (m : Nat), dR r, dR s] ∧ 1 ≤ m ∧ m ≤ 12 ∧ Wf m r ∧ Wf m s ∧ Q (.fz (.bool true)) o
def wp__law_asked : W1 := fun o ds Q => ∃ (c most : Nat), PoolOk c o ∧ c + 5000 < lim ∧ ds = [.int (most : Nat)] ∧ 1 ≤ most ∧ most ≤ 12 ∧ ∀ o', PoolOk (c + 1000) o' → Q (.fz (.bool true)) o'
def wp__law_sure : W1 := fun o ds Q => ∃ (c : Nat), PoolOk c o ∧ c + 200 < lim ∧ ds = [] ∧ ∀ o', PoolOk (c + 5) o' → Q (.fz (.bool true)) o'
def wp_law : W0 := fun ds Q => ∃ ns : List Int, ds = [scD ns] ∧ ns.length ≤ 63 ∧ Q (.fz (.bool true))
end K09
end
section
namespace K09
open PySem VL
def τ_contrary_of : ES :=
    (sRet (eTup (aCons (xO (eIxS 0 (xC (.int 0)))) (aCons (xO (eNot (eIxS 0 (xC (.int 1))))) aNil))))
def τ_without_literal : ES :=
    (sRet (eCB cdTuple (aCons (xO (eLc (iSeq (xVal 0)) (gN 2) (tO (eOp opNe (xVar 2) (xVar 1))) (xVal 2) [2])) aNil)))
def τ_is_within : ES :=
    (sRet (eOp opEq (xO (eCB cdLen (aCons (xO (eLc (iSeq (xVal 0)) (gN 2) (tNotInS 1 (xVar 2)) (xVal 2) [2])) aNil))) (xC (.int 0))))
def τ_clashing : ES :=
    (sRet (eLc (iSeq (xVal 0)) (gN 2) (tInS 1 (xO (eCall wp_contrary_of [] (aCons (xVal 2) aNil)))) (xVal 2) [2]))
def τ_joined : ES :=
    (sSeq (sSet 2 (eCall wp_clashing [] (aCons (xVal 0) (aCons (xVal 1) aNil))))
    (sSeq (sIf (tO (eOp opNe (xO (eLenS 2)) (xC (.int 1))))
    (sRet (oX (xC .none)))
    sNext)
    (sSeq (sSet 3 (eCall wp_without_literal [] (aCons (xVal 0) (aCons (xO (eIxS 2 (xC (.int 0)))) aNil))))
    (sSeq (sSet 4 (eCall wp_without_literal [] (aCons (xVal 1) (aCons (xO (eCall wp_contrary_of [] (aCons (xO (eIxS 2 (xC (.int 0)))) aNil))) aNil))))
    (sRet (eCB cdTuple (aCons (xO (eCB cdSrtSet (aCons (xO (eOp opAdd (xVar 3) (xVar 4))) aNil))) aNil)))))))
def τ_join_of : ES :=
    (sRet (eCall wp_joined [] (aCons (xVal 0) (aCons (xVal 1) aNil))))
def τ_is_within_2 : ES :=
    (sRet (eCall wp_is_within [] (aCons (xVal 0) (aCons (xVal 1) aNil))))
def τ_joins_of : ES :=
    (sSeq (sSet 1 (eIxS 0 (xC (.int 1))))
    (sSeq (sSet 2 (eLst aNil))
    (sSeq (sFor (iRange1 (aCons (xO (eLenS 1)) aNil)) (gN 3)
    (sFor (iRange2 (aCons (xO (eOp opAdd (xVar 3) (xC (.int 1)))) (aCons (xO (eLenS 1)) aNil))) (gN 4)
    (sSeq (sSet 5 (eCall wp_joined [] (aCons (xO (eIxS 1 (xVar 3))) (aCons (xO (eIxS 1 (xVar 4))) aNil))))
    (sIf (tO (eOp opNotN (xVar 5) (xC .none)))
    (sDrop (eApp false 2 (eTup (aCons (xVal 3) (aCons (xVal 4) (aCons (xVal 5) aNil))))))
    sNext))))
    (sRet (eCB cdTuple (aCons (xVar 2) aNil))))))
def τ__law_basin : ES :=
    (sSeq (sPar 1 2 (oX (xC (.int 90901))) (eLst aNil))
    (sSeq (sFor (iSeq (xO (eSl (xVar 0) pNone (pSome (xC (.int 60)))))) (gN 3)
    (sSeq (sSet 4 (eOp opMod (xO (eCB cdAbs (aCons (xO (eCB cdInt (aCons (xVar 3) aNil))) aNil))) (xO (eOp opShl (xC (.int 1)) (xC (.int 1600))))))
    (sSeq (sSet 1 (eOp opMod (xO (eCB cdInt (aCons (xO (eOp opAdd (xO (eOp opAdd (xO (eOp opMul (xVar 1) (xC (.int 62089)))) (xO (eOp opMod (xVar 4) (xC (.int 2147479001)))))) (xC (.int 19)))) aNil))) (xC (.int 2147483563))))
    (sIf (tO (eOp opGe (xVar 4) (xO (eOp opPow (xC (.int 10)) (xC (.int 18))))))
    (sDrop (eApp false 2 (oX (xVal 4))))
    sNext))))
    (sSeq (sSet 5 (eLst aNil))
    (sSeq (sSet 6 (eOp opDiv (xVar 1) (xC (.int 9))))
    (sSeq (sFor (iRange1 (aCons (xC (.int 5)) aNil)) (gN 7)
    (sSeq (sDrop (eApp false 5 (eOp opMod (xO (eCB cdInt (aCons (xVar 6) aNil))) (xC (.int 8)))))
    (sSet 6 (eOp opDiv (xVar 6) (xC (.int 8))))))
    (sRet (eTrL (aoCons (oX (xVal 1)) (aoCons (oMv 2) (aoCons (oX (xC (.int 0))) (aoCons (eOp opAdd (xVar 5) (xO (eLst (aCons (xC (.int 7)) aNil)))) aoNil)))))))))))
def τ__law_scoop : ES :=
    (sSeq (sIf (tO (eOp opLt (xVar 2) (xC (.int 2))))
    (sRet (oX (xC (.int 0))))
    sNext)
    (sSeq (sPutS 0 (xC (.int 2)) (xO (eOp opAdd (xO (eIxS 0 (xC (.int 2)))) (xC (.int 1)))) (eOp opAdd (xO (eIxS 0 (xC (.int 2)))) (xC (.int 1))))
    (sSeq (sIf (tO (eOp opGt (xO (eCBE cdLen (eEl 0 (xC (.int 1))))) (xC (.int 0))))
    (sSeq (sSet 3 (eSME0 smPop (eEl 0 (xC (.int 1)))))
    (sSeq (sIf (tO (eOp opGe (xVar 3) (xVar 2)))
    (sDrop (eSME smAppend (eEl 0 (xC (.int 1))) (aCons (xO (eOp opDiv (xVar 3) (xVar 2))) aNil)))
    sNext)
    (sRet (eOp opMod (xO (eCB cdInt (aCons (xVar 3) aNil))) (xVar 2)))))
    sNext)
    (sSeq (sPutS 0 (xC (.int 0)) (xO (eOp opMod (xO (eCB cdInt (aCons (xO (eOp opAdd (xO (eOp opAdd (xO (eOp opMul (xO (eIxS 0 (xC (.int 0)))) (xC (.int 16807)))) (xO (eOp opMul (xO (eIxS 0 (xC (.int 2)))) (xC (.int 4001)))))) (xC (.int 29)))) aNil))) (xC (.int 2147483563)))) (eOp opMod (xO (eCB cdInt (aCons (xO (eOp opAdd (xO (eOp opAdd (xO (eOp opMul (xO (eIxS 0 (xC (.int 0)))) (xC (.int 16807)))) (xO (eOp opMul (xO (eIxS 0 (xC (.int 2)))) (xC (.int 4001)))))) (xC (.int 29)))) aNil))) (xC (.int 2147483563))))
    (sSeq (sIf (tO (eOp opLt (xO (eIxE opIx (eEl 0 (xC (.int 3))) (xVar 1))) (xC (.int 2))))
    (sRet (eOp opMul (xO (eIxE opIx (eEl 0 (xC (.int 3))) (xVar 1))) (xO (eOp opSub (xVar 2) (xC (.int 1))))))
    sNext)
    (sRet (eOp opMod (xO (eCB cdInt (aCons (xO (eOp opDiv (xO (eIxS 0 (xC (.int 0)))) (xC (.int 17)))) aNil))) (xVar 2))))))))
def τ__law_same : ES :=
    (sSeq (sSet 2 (eLst (aCons (xO (eTup (aCons (xVal 0) (aCons (xVal 1) aNil)))) aNil)))
    (sSeq (sWhile (tO (eOp opGt (xO (eLenS 2)) (xC (.int 0))))
    (sSeq (sAsg (xO (ePop 2)) (gTupD 2 (gConss (gN 3) (gConss (gN 4) gNils))))
    (sIf (tO (eOp opIsN (xVar 4) (xC .none)))
    (sIf (tO (eOp opNotN (xVar 3) (xC .none)))
    (sRet (oX (xC (.bool false))))
    sNext)
    (sIf (tTru (xO (eIsi "bool" (xVar 4))))
    (sIf (tOrD (tNotD (tTru (xO (eIsi "bool" (xVar 3))))) (tO (eOp opNe (xVar 3) (xVar 4))))
    (sRet (oX (xC (.bool false))))
    sNext)
    (sIf (tTru (xO (eIsi "int" (xVar 4))))
    (sIf (tOrD (tNotD (tTru (xO (eIsi "int" (xVar 3))))) (tOrD (tTru (xO (eIsi "bool" (xVar 3)))) (tO (eOp opNe (xVar 3) (xVar 4)))))
    (sRet (oX (xC (.bool false))))
    sNext)
    (sIf (tTru (xO (eIsi "str" (xVar 4))))
    (sIf (tOrD (tNotD (tTru (xO (eIsi "str" (xVar 3))))) (tO (eOp opNe (xVar 3) (xVar 4))))
    (sRet (oX (xC (.bool false))))
    sNext)
    (sIf (tOrD (tNotD (tTru (xO (eIsi "tuple" (xVar 3))))) (tOrD (tNotD (tTru (xO (eIsi "tuple" (xVar 4))))) (tO (eOp opNe (xO (eLenS 3)) (xO (eLenS 4))))))
    (sRet (oX (xC (.bool false))))
    (sDrop (eExt 2 (eLc (iRange1 (aCons (xO (eLenS 4)) aNil)) (gN 5) tYesD (xO (eTup (aCons (xO (eIxS 3 (xVar 5))) (aCons (xO (eIxS 4 (xVar 5))) aNil)))) [5]))))))))))
    (sRet (oX (xC (.bool true))))))
def τ__law_some : ES :=
    (sSeq (sPar 3 4 (eLRg1 (xVar 1)) (eLst aNil))
    (sSeq (sFor (iRange1 (aCons (xO (eCB cdMin2 (aCons (xVar 1) (aCons (xVar 2) aNil)))) aNil)) (gN 5)
    (sDrop (eApp false 4 (eTup (aCons (xO (eSM 3 smPopAt (aCons (xO (eCallI wp__law_scoop [] (aCons (xVar 0) (aCons (xC (.int 1)) (aCons (xO (eLenS 3)) aNil))))) aNil))) (aCons (xO (eOp opEq (xO (eCallI wp__law_scoop [] (aCons (xVar 0) (aCons (xC (.int 2)) (aCons (xC (.int 2)) aNil))))) (xC (.int 1)))) aNil))))))
    (sRet (eCB cdTuple (aCons (xO (eCB cdSorted (aCons (xVar 4) aNil))) aNil)))))
def τ__law_rule : ES :=
    (sSeq (sSet 2 (eOp opIx (xO (eTup (aCons (xC (.int 1)) (aCons (xC (.int 2)) (aCons (xC (.int 2)) (aCons (xC (.int 3)) (aCons (xC (.int 3)) (aCons (xC (.int 2)) (aCons (xC (.int 1)) (aCons (xVal 1) (aCons (xC (.int 0)) aNil))))))))))) (xO (eCallI wp__law_scoop [] (aCons (xVar 0) (aCons (xC (.int 0)) (aCons (xC (.int 9)) aNil)))))))
    (sRet (eCallI wp__law_some [] (aCons (xVar 0) (aCons (xVal 1) (aCons (xO (eIf (tOrD (tO (eOp opGt (xVar 2) (xC (.int 0)))) (tO (eOp opEq (xO (eCallI wp__law_scoop [] (aCons (xVar 0) (aCons (xC (.int 5)) (aCons (xC (.int 3)) aNil))))) (xC (.int 0))))) (oX (xVal 2)) (oX (xC (.int 2))))) aNil))))))
def τ__law_sheet : ES :=
    (sSeq (sSet 3 (eOp opAdd (xC (.int 1)) (xO (eCallI wp__law_scoop [] (aCons (xVar 0) (aCons (xC (.int 3)) (aCons (xVal 1) aNil)))))))
    (sRet (eTup (aCons (xVal 3) (aCons (xO (eCB cdTuple (aCons (xO (eLc (iRange1 (aCons (xO (eCallI wp__law_scoop [] (aCons (xVar 0) (aCons (xC (.int 4)) (aCons (xO (eOp opAdd (xVar 2) (xC (.int 1)))) aNil))))) aNil)) (gN 4) tYesD (xO (eCallI wp__law_rule [] (aCons (xVar 0) (aCons (xVal 3) aNil)))) [4])) aNil))) aNil)))))
def τ__law_every : ES :=
    (sSeq (sSet 1 (eLst aNil))
    (sSeq (sFor (iRange1 (aCons (xO (eOp opShl (xC (.int 1)) (xVar 0))) aNil)) (gN 2)
    (sDrop (eApp false 1 (eCB cdTuple (aCons (xO (eLc (iRange1 (aCons (xVar 0) aNil)) (gN 3) tYesD (xO (eOp opEq (xO (eOp opAndI (xO (eOp opShr (xVar 2) (xO (eOp opSub (xO (eOp opSub (xVar 0) (xC (.int 1)))) (xVar 3))))) (xC (.int 1)))) (xC (.int 1)))) [3])) aNil)))))
    (sRet (oMv 1))))
def τ__law_holds : ES :=
    (sSeq (sFor (iSeq (xVal 0)) (gTupD 2 (gConss (gN 2) (gConss (gN 3) gNils)))
    (sIf (tO (eOp opEq (xO (eIxS 1 (xVar 2))) (xVar 3)))
    (sRet (oX (xC (.bool true))))
    sNext))
    (sRet (oX (xC (.bool false)))))
def τ__law_joined : ES :=
    (sSeq (sPar 2 3 eDNew (oX (xC (.int 0))))
    (sSeq (sFor (iSeq (xVal 0)) (gTupD 2 (gConss (gN 4) (gConss (gN 5) gNils)))
    (sPutS 2 (xVal 4) (xVal 5) (oX (xVal 5))))
    (sSeq (sFor (iSeq (xVal 1)) (gTupD 2 (gConss (gN 4) (gConss (gN 5) gNils)))
    (sIf (tAndD (tInS 2 (xVar 4)) (tO (eOp opNe (xO (eIxS 2 (xVar 4))) (xVar 5))))
    (sSet 3 (eOp opAdd (xVar 3) (xC (.int 1))))
    sNext))
    (sSeq (sIf (tO (eOp opNe (xVar 3) (xC (.int 1))))
    (sRet (oX (xC .none)))
    sNext)
    (sSeq (sSet 6 (eLst aNil))
    (sSeq (sFor (iRange1 (aCons (xC (.int 12)) aNil)) (gN 4)
    (sSeq (sSet 7 (eLc (iSeq (xO (eOp opAdd (xVar 0) (xVar 1)))) (gTupD 2 (gConss (gN 8) (gConss (gN 5) gNils))) (tO (eOp opEq (xVar 8) (xVar 4))) (xVal 5) [8, 5]))
    (sIf (tOrD (tO (eOp opEq (xO (eLenS 7)) (xC (.int 1)))) (tAndD (tO (eOp opEq (xO (eLenS 7)) (xC (.int 2)))) (tO (eOp opEq (xO (eIxS 7 (xC (.int 0)))) (xO (eIxS 7 (xC (.int 1))))))))
    (sDrop (eApp false 6 (eTup (aCons (xVal 4) (aCons (xO (eIxS 7 (xC (.int 0)))) aNil)))))
    sNext)))
    (sRet (eCB cdTuple (aCons (xVar 6) aNil)))))))))
def τ__law_inside : ES :=
    (sRet (eOp opEq (xO (eCB cdLen (aCons (xO (eLc (iSeq (xVal 0)) (gN 2) (tNotInS 1 (xVar 2)) (xVal 2) [2])) aNil))) (xC (.int 0))))
def τ__law_near : ES :=
    (sSeq (sSet 3 (eCallI wp__law_scoop [] (aCons (xVar 0) (aCons (xC (.int 3)) (aCons (xC (.int 6)) aNil)))))
    (sSeq (sIf (tOrD (tO (eOp opEq (xVar 3) (xC (.int 0)))) (tO (eOp opEq (xO (eLenS 2)) (xC (.int 0)))))
    (sRet (eCallI wp__law_rule [] (aCons (xVar 0) (aCons (xVal 1) aNil))))
    sNext)
    (sSeq (sSet 4 (eCallI wp__law_scoop [] (aCons (xVar 0) (aCons (xC (.int 1)) (aCons (xO (eLenS 2)) aNil)))))
    (sSeq (sAsg (xO (eIxS 2 (xVar 4))) (gTupD 2 (gConss (gN 5) (gConss (gN 6) gNils))))
    (sSeq (sIf (tO (eOp opEq (xVar 3) (xC (.int 1))))
    (sRet (oMv 2))
    sNext)
    (sSeq (sIf (tO (eOp opEq (xVar 3) (xC (.int 2))))
    (sRet (eOp opAdd (xO (eSl (xVar 2) pNone (pSome (xVar 4)))) (xO (eSl (xVar 2) (pSome (xO (eOp opAdd (xVar 4) (xC (.int 1))))) pNone))))
    sNext)
    (sSeq (sSet 7 (eOp opAdd (xO (eOp opAdd (xO (eSl (xVar 2) pNone (pSome (xVar 4)))) (xO (eTup (aCons (xO (eTup (aCons (xVal 5) (aCons (xO (eNot (oX (xVal 6)))) aNil)))) aNil))))) (xO (eSl (xVar 2) (pSome (xO (eOp opAdd (xVar 4) (xC (.int 1))))) pNone))))
    (sSeq (sIf (tO (eOp opEq (xVar 3) (xC (.int 3))))
    (sRet (oMv 7))
    sNext)
    (sSeq (sIf (tO (eOp opEq (xVar 3) (xC (.int 4))))
    (sSeq (sSet 8 (eOp opMod (xO (eCB cdInt (aCons (xO (eOp opAdd (xVar 4) (xC (.int 1)))) aNil))) (xO (eLenS 2))))
    (sRet (eOp opAdd (xO (eOp opAdd (xO (eSl (xVar 7) pNone (pSome (xVar 8)))) (xO (eTup (aCons (xO (eTup (aCons (xO (eOp opIx (xO (eIxS 7 (xVar 8))) (xC (.int 0)))) (aCons (xO (eNot (eOp opIx (xO (eIxS 2 (xVar 8))) (xC (.int 1))))) aNil)))) aNil))))) (xO (eSl (xVar 7) (pSome (xO (eOp opAdd (xVar 8) (xC (.int 1))))) pNone)))))
    sNext)
    (sSeq (sSet 9 (eLc (iSeq (xVal 7)) (gN 11) (tOrD (tO (eOp opEq (xO (eIxS 11 (xC (.int 0)))) (xVar 5))) (tO (eOp opEq (xO (eCallI wp__law_scoop [] (aCons (xVar 0) (aCons (xC (.int 4)) (aCons (xC (.int 2)) aNil))))) (xC (.int 0))))) (xVal 11) [11]))
    (sSeq (sSet 10 (eLc (iRange1 (aCons (xVar 1) aNil)) (gN 11) (tO (eOp opNotIn (xVar 11) (xO (eLc (iSeq (xVal 2)) (gN 12) tYesD (xO (eIxS 12 (xC (.int 0)))) [12])))) (xVal 11) [11]))
    (sRet (eCB cdTuple (aCons (xO (eCB cdSorted (aCons (xO (eOp opAdd (xVar 9) (xO (eLc (iSeq (xVal 10)) (gN 11) (tO (eOp opEq (xO (eCallI wp__law_scoop [] (aCons (xVar 0) (aCons (xC (.int 4)) (aCons (xC (.int 3)) aNil))))) (xC (.int 0)))) (xO (eTup (aCons (xVal 11) (aCons (xO (eOp opEq (xO (eCallI wp__law_scoop [] (aCons (xVar 0) (aCons (xC (.int 2)) (aCons (xC (.int 2)) aNil))))) (xC (.int 1)))) aNil)))) [11])))) aNil))) aNil))))))))))))))
def τ__law_two : ES :=
    (sSeq (sSet 4 (eCall wp__law_joined [] (aCons (xVal 2) (aCons (xVal 3) aNil))))
    (sSeq (sIf (tNotD (tTru (xO (eCall wp__law_same [] (aCons (xO (eTup (aCons (xO (eCall wp_joined [] (aCons (xVal 2) (aCons (xVal 3) aNil)))) (aCons (xO (eCall wp_joined [] (aCons (xVal 3) (aCons (xVal 2) aNil)))) aNil)))) (aCons (xO (eTup (aCons (xVal 4) (aCons (xVal 4) aNil)))) aNil))))))
    (sRet (oX (xC (.bool false))))
    sNext)
    (sSeq (sSet 5 (eTup (aCons (xO (eCall wp_is_within [] (aCons (xVal 2) (aCons (xVal 3) aNil)))) (aCons (xO (eCall wp_is_within [] (aCons (xVal 3) (aCons (xVal 2) aNil)))) (aCons (xO (eCall wp_is_within [] (aCons (xO (eTup aNil)) (aCons (xVal 2) aNil)))) (aCons (xO (eCall wp_is_within [] (aCons (xVal 2) (aCons (xVal 2) aNil)))) (aCons (xO (eCall wp_is_within [] (aCons (xVal 2) (aCons (xO (eSl (xVar 2) pNone (pSome (xO (eCB cdMax2 (aCons (xC (.int 0)) (aCons (xO (eOp opSub (xO (eLenS 2)) (xC (.int 1)))) aNil))))))) aNil)))) aNil)))))))
    (sSeq (sIf (tNotD (tTru (xO (eCall wp__law_same [] (aCons (xVal 5) (aCons (xO (eTup (aCons (xO (eCall wp_is_within [] (aCons (xVal 2) (aCons (xVal 3) aNil)))) (aCons (xO (eCall wp_is_within [] (aCons (xVal 3) (aCons (xVal 2) aNil)))) (aCons (xC (.bool true)) (aCons (xC (.bool true)) (aCons (xO (eOp opEq (xO (eLenS 2)) (xC (.int 0)))) aNil))))))) aNil))))))
    (sRet (oX (xC (.bool false))))
    sNext)
    (sSeq (sIf (tOrD (tO (eOp opIsN (xVar 4) (xC .none))) (tO (eOp opGt (xVar 1) (xC (.int 5)))))
    (sRet (oX (xC (.bool true))))
    sNext)
    (sSeq (sFor (iSeq (xO (eCall wp__law_every [] (aCons (xVal 1) aNil)))) (gN 6)
    (sIf (tAndD (tTru (xO (eCall wp__law_holds [] (aCons (xVal 2) (aCons (xVal 6) aNil))))) (tAndD (tTru (xO (eCall wp__law_holds [] (aCons (xVal 3) (aCons (xVal 6) aNil))))) (tNotD (tTru (xO (eCall wp__law_holds [] (aCons (xVal 4) (aCons (xVal 6) aNil))))))))
    (sRet (oX (xC (.bool false))))
    sNext))
    (sRet (oX (xC (.bool true))))))))))
def τ__law_asked : ES :=
    (sSeq (sSet 2 (eOp opAdd (xC (.int 1)) (xO (eCallI wp__law_scoop [] (aCons (xVar 0) (aCons (xC (.int 3)) (aCons (xVal 1) aNil)))))))
    (sSeq (sFor (iRange1 (aCons (xC (.int 5)) aNil)) (gN 3)
    (sSeq (sSet 4 (eCallI wp__law_rule [] (aCons (xVar 0) (aCons (xVal 2) aNil))))
    (sIf (tNotD (tTru (xO (eCallI wp__law_two [] (aCons (xVar 0) (aCons (xVal 2) (aCons (xVal 4) (aCons (xO (eCallI wp__law_near [] (aCons (xVar 0) (aCons (xVal 2) (aCons (xVal 4) aNil))))) aNil))))))))
    (sRet (oX (xC (.bool false))))
    sNext)))
    (sSeq (sSet 5 (eCallI wp__law_sheet [] (aCons (xVar 0) (aCons (xVal 1) (aCons (xC (.int 6)) aNil)))))
    (sSeq (sSet 6 (eIxS 5 (xC (.int 1))))
    (sSeq (sFor (iSeq (xO (eSl (xO (eIxS 5 (xC (.int 1)))) pNone (pSome (xC (.int 3)))))) (gN 7)
    (sSet 6 (eOp opAdd (xVar 6) (xO (eTup (aCons (xO (eCallI wp__law_near [] (aCons (xVar 0) (aCons (xO (eIxS 5 (xC (.int 0)))) (aCons (xVal 7) aNil))))) aNil))))))
    (sSeq (sSet 8 (eLst aNil))
    (sSeq (sFor (iRange1 (aCons (xO (eLenS 6)) aNil)) (gN 9)
    (sFor (iRange2 (aCons (xO (eOp opAdd (xVar 9) (xC (.int 1)))) (aCons (xO (eLenS 6)) aNil))) (gN 10)
    (sIf (tO (eOp opNotN (xO (eCall wp__law_joined [] (aCons (xO (eIxS 6 (xVar 9))) (aCons (xO (eIxS 6 (xVar 10))) aNil)))) (xC .none)))
    (sDrop (eApp false 8 (eTup (aCons (xVal 9) (aCons (xVal 10) (aCons (xO (eCall wp__law_joined [] (aCons (xO (eIxS 6 (xVar 9))) (aCons (xO (eIxS 6 (xVar 10))) aNil)))) aNil))))))
    sNext)))
    (sRet (eCall wp__law_same [] (aCons (xO (eCall wp_joins_of [] (aCons (xO (eTup (aCons (xO (eIxS 5 (xC (.int 0)))) (aCons (xVal 6) aNil)))) aNil))) (aCons (xO (eCB cdTuple (aCons (xVar 8) aNil))) aNil)))))))))))
def τ__law_sure : ES :=
    (sSeq (sPar 1 2 (eOp opAdd (xC (.int 3)) (xO (eCallI wp__law_scoop [] (aCons (xVar 0) (aCons (xC (.int 3)) (aCons (xC (.int 10)) aNil)))))) (eOp opEq (xO (eCallI wp__law_scoop [] (aCons (xVar 0) (aCons (xC (.int 2)) (aCons (xC (.int 2)) aNil))))) (xC (.int 1))))
    (sSeq (sPar3 3 4 5 (aCons (xO (eTup (aCons (xC (.int 0)) (aCons (xVal 2) aNil)))) (aCons (xO (eTup (aCons (xO (eOp opAdd (xC (.int 1)) (xO (eCallI wp__law_scoop [] (aCons (xVar 0) (aCons (xC (.int 1)) (aCons (xO (eOp opSub (xVar 1) (xC (.int 2)))) aNil))))))) (aCons (xO (eNot (oX (xVal 2)))) aNil)))) (aCons (xO (eTup (aCons (xO (eOp opSub (xVar 1) (xC (.int 1)))) (aCons (xVal 2) aNil)))) aNil))))
    (sSeq (sPar 6 7 (eTup (aCons (xC (.int 0)) (aCons (xO (eNot (oX (xVal 2)))) aNil))) (eTup (aCons (xO (eIxS 4 (xC (.int 0)))) (aCons (xVal 2) aNil))))
    (sSeq (sSet 8 (eTup (aCons (xO (eCallK wp_joined 0 2 [0, 1] aNil (aCons (xO (eTup (aCons (xVal 3) (aCons (xVal 4) aNil)))) (aCons (xO (eTup (aCons (xVal 6) (aCons (xVal 5) aNil)))) aNil)))) (aCons (xO (eCall wp_joined [] (aCons (xO (eTup (aCons (xVal 3) (aCons (xVal 4) aNil)))) (aCons (xO (eTup (aCons (xVal 6) (aCons (xVal 7) aNil)))) aNil)))) (aCons (xO (eCall wp_joined [] (aCons (xO (eTup (aCons (xVal 3) (aCons (xVal 4) aNil)))) (aCons (xO (eTup (aCons (xVal 3) (aCons (xVal 5) aNil)))) aNil)))) (aCons (xO (eCall wp_joined [] (aCons (xO (eTup (aCons (xVal 3) aNil))) (aCons (xO (eTup (aCons (xVal 6) aNil))) aNil)))) (aCons (xO (eCall wp_joined [] (aCons (xO (eTup aNil)) (aCons (xO (eTup (aCons (xVal 3) aNil))) aNil)))) aNil)))))))
    (sSeq (sIf (tNotD (tTru (xO (eCall wp__law_same [] (aCons (xVal 8) (aCons (xO (eTup (aCons (xO (eTup (aCons (xVal 4) (aCons (xVal 5) aNil)))) (aCons (xC .none) (aCons (xC .none) (aCons (xO (eTup aNil)) (aCons (xC .none) aNil))))))) aNil))))))
    (sRet (oX (xC (.bool false))))
    sNext)
    (sSeq (sSet 8 (eTup (aCons (xO (eCall wp_joined [] (aCons (xO (eTup (aCons (xVal 3) (aCons (xVal 4) (aCons (xVal 5) aNil))))) (aCons (xO (eTup (aCons (xVal 6) (aCons (xVal 4) aNil)))) aNil)))) (aCons (xO (eCallK wp_joined 0 2 [1, 0] aNil (aCons (xO (eTup (aCons (xVal 7) (aCons (xVal 5) aNil)))) (aCons (xO (eTup (aCons (xVal 3) (aCons (xVal 4) aNil)))) aNil)))) (aCons (xO (eCallK wp_is_within 0 2 [0, 1] aNil (aCons (xO (eTup (aCons (xVal 3) (aCons (xVal 5) aNil)))) (aCons (xO (eTup (aCons (xVal 3) (aCons (xVal 4) (aCons (xVal 5) aNil))))) aNil)))) (aCons (xO (eCallK wp_is_within 0 2 [1, 0] aNil (aCons (xO (eTup (aCons (xVal 3) (aCons (xVal 5) aNil)))) (aCons (xO (eTup (aCons (xVal 3) (aCons (xVal 4) aNil)))) aNil)))) (aCons (xO (eCall wp_is_within [] (aCons (xO (eTup (aCons (xVal 3) aNil))) (aCons (xO (eTup aNil)) aNil)))) aNil)))))))
    (sSeq (sIf (tNotD (tTru (xO (eCall wp__law_same [] (aCons (xVal 8) (aCons (xO (eTup (aCons (xO (eTup (aCons (xVal 4) (aCons (xVal 5) aNil)))) (aCons (xO (eTup (aCons (xVal 3) (aCons (xVal 5) aNil)))) (aCons (xC (.bool true)) (aCons (xC (.bool false)) (aCons (xC (.bool false)) aNil))))))) aNil))))))
    (sRet (oX (xC (.bool false))))
    sNext)
    (sSeq (sSet 9 (eTup (aCons (xVal 1) (aCons (xO (eTup (aCons (xO (eTup (aCons (xVal 3) (aCons (xVal 4) aNil)))) (aCons (xO (eTup (aCons (xVal 6) aNil))) (aCons (xO (eTup (aCons (xVal 3) (aCons (xVal 4) aNil)))) (aCons (xO (eTup (aCons (xVal 7) (aCons (xVal 5) aNil)))) (aCons (xO (eTup (aCons (xVal 6) (aCons (xVal 7) aNil)))) aNil))))))) aNil))))
    (sSeq (sSet 10 (eTup (aCons (xO (eTup (aCons (xC (.int 0)) (aCons (xC (.int 1)) (aCons (xO (eTup (aCons (xVal 4) aNil))) aNil))))) (aCons (xO (eTup (aCons (xC (.int 0)) (aCons (xC (.int 3)) (aCons (xO (eTup (aCons (xVal 3) (aCons (xVal 5) aNil)))) aNil))))) (aCons (xO (eTup (aCons (xC (.int 1)) (aCons (xC (.int 2)) (aCons (xO (eTup (aCons (xVal 4) aNil))) aNil))))) (aCons (xO (eTup (aCons (xC (.int 2)) (aCons (xC (.int 3)) (aCons (xO (eTup (aCons (xVal 3) (aCons (xVal 5) aNil)))) aNil))))) aNil))))))
    (sRet (eCall wp__law_same [] (aCons (xO (eTup (aCons (xO (eCallK wp_joins_of 0 1 [0] aNil (aCons (xVal 9) aNil))) (aCons (xO (eCall wp_joins_of [] (aCons (xO (eTup (aCons (xVal 1) (aCons (xO (eTup (aCons (xO (eTup (aCons (xVal 3) aNil))) (aCons (xO (eTup (aCons (xVal 6) aNil))) aNil)))) aNil)))) aNil))) (aCons (xO (eCall wp_joins_of [] (aCons (xO (eTup (aCons (xVal 1) (aCons (xO (eTup (aCons (xO (eTup (aCons (xVal 3) (aCons (xVal 4) aNil)))) aNil))) aNil)))) aNil))) aNil))))) (aCons (xO (eTup (aCons (xVal 10) (aCons (xO (eTup (aCons (xO (eTup (aCons (xC (.int 0)) (aCons (xC (.int 1)) (aCons (xO (eTup aNil)) aNil))))) aNil))) (aCons (xO (eTup aNil)) aNil))))) aNil)))))))))))))
def τ_law : ES :=
    (sSeq (sSet 1 (eCall wp__law_basin [] (aCons (xVal 0) aNil)))
    (sSeq (sFor (iRange1 (aCons (xC (.int 2)) aNil)) (gN 2)
    (sIf (tNotD (tTru (xO (eCallI wp__law_asked [] (aCons (xVar 1) (aCons (xC (.int 5)) aNil))))))
    (sRet (oX (xC (.bool false))))
    sNext))
    (sSeq (sIf (tNotD (tTru (xO (eCallI wp__law_sure [] (aCons (xVar 1) aNil)))))
    (sRet (oX (xC (.bool false))))
    sNext)
    (sRet (eOr (eOp opNe (xO (eCallI wp__law_scoop [] (aCons (xVar 1) (aCons (xC (.int 5)) (aCons (xC (.int 7)) aNil))))) (xC (.int 2))) (eCallI wp__law_asked [] (aCons (xVar 1) (aCons (xC (.int 12)) aNil))))))))
end K09
end
section
open VL PySem L2
local macro_rules | `(tactic| walk_at "vs") => `(tactic| first
  | with_reducible (first | refine st_seq ?_ | refine st_ret ?_ | refine st_set ?_ | refine st_if ?_ | refine st_drop ?_ | refine st_next ?_ | refine st_par ?_ | refine st_asg ?_ | refine st_rt0 ?_ | refine st_nx0 ?_ | refine st_brk ?_ | refine st_cnt ?_ | refine st_retN ?_ | refine st_op ?_ | refine st_op1 ?_ | refine st_an ?_ | refine st_ac ?_ | refine st_cb ?_ | refine st_tup ?_ | refine st_lst ?_ | refine st_to ?_ | refine st_tru ?_ | refine st_tnot ?_ | refine st_tand ?_ | refine st_tor ?_ | refine st_and ?_ | refine st_or ?_ | refine st_not ?_ | refine st_eif ?_ | refine st_chain ?_ | refine st_call ?_ | refine st_calli ?_ | refine st_isi ?_ | refine st_lrg ?_ | refine st_trg ?_ | refine st_sl ?_ | refine st_pn ?_ | refine st_ps ?_ | refine st_iseq ?_ | refine st_ir1 ?_ | refine st_ir2 ?_ | refine st_yes ?_ | refine st_c ?_ | refine st_xo ?_ | refine st_ox ?_ | refine st_cbe ?_ | refine st_true ?_ | refine st_ixe ?_ | refine st_dnew ?_ | refine st_ao0 ?_ | refine st_ao ?_ | refine st_trl ?_ | refine st_callk ?_ | refine st_callB ?_ | refine st_put ?_ | refine st_dput ?_ | refine st_g0 ?_ | refine st_sme ?_ | refine st_sme0 ?_ | refine st_pute ?_ | refine st_par3 ?_)
  | (with_reducible show (xVar _ _ _)); refine st_var rfl ?_
  | (with_reducible show (xVal _ _ _)); (first | refine st_val rfl ?_ | refine st_valL rfl rfl rfl ?_)
  | (with_reducible show (oMv _ _ _)); (first | refine st_mv rfl ?_ | refine st_mvL rfl rfl ?_)
  | (with_reducible show (eIxS _ _ _ _)); (first | refine st_ixT rfl ?_ | refine st_ixLs rfl ?_ | refine st_ixF rfl ?_ | refine st_ixTr rfl ?_ | refine st_ixDic rfl rfl ?_)
  | (with_reducible show (eLenS _ _ _)); (first | refine st_lenT rfl ?_ | refine st_lenD _ rfl ?_)
  | (with_reducible show (eEl _ _ _ _)); refine st_el rfl ?_
  | (with_reducible show (eApp _ _ _ _ _)); (first | refine st_app (listG_ls rfl) ?_ | refine st_app (listG_tr rfl) ?_)
  | (with_reducible show (sPutS _ _ _ _ _ _)); (first | refine st_putS rfl ?_ | refine st_putSD rfl ?_)
  | (with_reducible show (eInS _ _ _ _)); (first | refine st_in rfl ?_ | refine st_din rfl ?_)
  | (with_reducible show (eNotInS _ _ _ _)); (first | refine st_notin rfl ?_ | refine st_dnotin rfl ?_)
  | (with_reducible show (tInS _ _ _ _)); (first | refine st_tin rfl ?_ | refine st_tdin rfl ?_)
  | (with_reducible show (tNotInS _ _ _ _)); (first | refine st_tnotin rfl ?_ | refine st_tdnotin rfl ?_)
  | (with_reducible show (sDel _ _ _ _)); refine st_del rfl ?_
  | (with_reducible show (eSM _ _ _ _ _)); refine st_sm rfl ?_
  | (with_reducible show (gN _ _ _ _)); refine st_gn rfl ?_
  | (with_reducible show (gConss _ _ _ _ _)); refine st_gc ?_
  | (with_reducible show (gTupD _ _ _ _ _)); refine st_gt rfl ?_
  | (with_reducible show (∃ d b, _ = some d ∧ kitD d _ = some b ∧ _)); (first | refine ⟨_, true, rfl, (rfl : kitD _ _ = some true), ?_⟩ | refine ⟨_, false, rfl, (rfl : kitD _ _ = some false), ?_⟩)
  | (with_reducible show (∃ _, _)); (first | refine ⟨_, rfl, ?_⟩ | refine ⟨_, _, rfl, rfl, ?_⟩ | refine ⟨_, _, _, rfl, rfl, rfl, ?_⟩ | refine ⟨_, _, _, _, rfl, rfl, rfl, ?_⟩ | refine ⟨_, _, _, _, rfl, rfl, rfl, rfl, ?_⟩ | refine ⟨_, _, _, rfl, .inl ⟨_, rfl, rfl, rfl⟩, ?_⟩)
  | (with_reducible show ((∃ _, _) ∧ _)); (first | refine ⟨⟨_, rfl, _, .inl rfl⟩, ?_⟩ | refine ⟨⟨_, rfl, [], .inr ⟨_, rfl⟩⟩, ?_⟩)
  | (with_reducible show (_ ≤ sizeLine ∧ _)); refine ⟨Evl.sz_of (Nat.le_of_ble_eq_true rfl), ?_⟩)
local macro_rules | `(tactic| walk_at "op") => `(tactic| first
  | (with_reducible show (opAdd _ _ _)); (first | refine op_addI ?_)
  | (with_reducible show (opSub _ _ _)); (first | refine op_subI ?_)
  | (with_reducible show (opLt _ _ _)); (first | refine op_ltI ?_)
  | (with_reducible show (opLe _ _ _)); (first | refine op_leI ?_)
  | (with_reducible show (opGt _ _ _)); (first | refine op_gtI ?_)
  | (with_reducible show (opGe _ _ _)); (first | refine op_geI ?_)
  | (with_reducible show (opEq _ _ _)); (first | refine op_eqI ?_ | refine op_eqB ?_)
  | (with_reducible show (opNe _ _ _)); (first | refine op_neI ?_ | refine op_neB ?_)
  | (with_reducible show (opIsN _ _ _)); (first | refine op_isNone ?_ | refine op_isInt ?_ | refine op_isTup ?_ | refine op_isBl ?_ | refine op_isSt ?_ | refine op_isLs ?_)
  | (with_reducible show (opNotN _ _ _)); (first | refine op_notNone ?_ | refine op_notTup ?_)
  | (with_reducible show (opIx _ _ _)); (first | refine op_ixT0 rfl ?_ | refine op_ixT1 rfl ?_ | refine op_ixT2 rfl ?_ | refine op_ixL0 rfl ?_ | refine op_ixL1 rfl ?_)
  | (with_reducible show (cdLen _ _)); (first | refine cd_lenL ?_ | refine cd_lenT ?_)
  | (with_reducible show (cdInt _ _)); (first | refine cd_intI ?_ | refine cd_intB ?_)
  | (with_reducible show (cdTuple _ _)); (first | refine cd_tupL ?_ | refine cd_tupT ?_)
  | (with_reducible show (cdList _ _)); (first | refine cd_listL ?_ | refine cd_listT ?_)
  | (with_reducible show (cdAbs _ _)); (first | refine cd_absI ?_)
  | (with_reducible show (cdMin2 _ _)); (first | refine cd_min2I ?_)
  | (with_reducible show (cdMax2 _ _)); (first | refine cd_max2I ?_)
  | (with_reducible show (sdAll _ _ _ _)); (first | refine sd_T ?_ | refine sd_L ?_))
local macro_rules | `(tactic| walk_at "go") => `(tactic| repeat (first | walk_at "vs" | walk_at "op"))
local macro_rules | `(tactic| walk_at "gb") => `(tactic| repeat (first | walk_at "vs" | walk_at "op" | with_reducible (first | refine br_t ?_ | refine br_f ?_ | refine br_nt ?_ | refine br_nf ?_)))
namespace K09
open FM
theorem _root_.FM.Wf.len {m : Nat} {r : Rule} (w : Wf m r) : r.length ≤ m := by
  have h : ∀ (r : Rule) (k : Nat), (∀ l ∈ r, (k : Int) ≤ l.1 ∧ l.1 < m) → r.Pairwise (fun a b => a.1 < b.1) → k ≤ m → r.length + k ≤ m := by
    intro r
    induction r with
    | nil => intro k _ _ h; simpa using h
    | cons x r ih =>
      intro k a b _
      rw [List.pairwise_cons] at b
      have ax := a x (by simp)
      have := ih (x.1.toNat + 1) (fun l hl => by have := b.1 l hl; have := a l (by simp [hl]); omega) b.2 (by omega)
      simp only [List.length_cons]
      omega
  have := h r 0 (fun l hl => by have := w.rng l hl; omega) w.inc (by omega)
  omega
theorem _root_.FM.Wf.sz {m : Nat} {r : Rule} (w : Wf m r) (hm : m ≤ 12) : r.length ≤ sizeLine := Evl.sz_of (by have := w.len; omega)
theorem sz' {n : Nat} (h : n ≤ 100000) : n < sizeLine := Nat.lt_of_le_of_lt h (by decide)
theorem len_contrary_of : ∀ ds Q, wp_contrary_of ds Q → ds.length = 1 := fun ds Q ⟨b, s, e, _⟩ => by rw [e]; rfl
theorem rd_contrary_of : ∀ ds Q, wp_contrary_of ds Q → τ_contrary_of (ends0 Q) (fzs ds ++ List.replicate (1 - ds.length) none) := fun ds Q ⟨b, s, e, q⟩ => by
  subst e
  refine st_nrm rfl ?_
  unfold τ_contrary_of
  walk_at "go"
  exact q
/-! sorting literals -/
theorem dL_le (a b : Lit) (h : a.1 < b.1) : PySem.W.dataLe false id (dL a) (dL b) = true := by
  rw [PySem.W.dataLe_eq]
  show (!PySem.W.dataLt (dL b) (dL a)) = true
  unfold dL dLit
  rw [PySem.W.dataLt_pair (by simp [PySem.W.alike]) (by simp [PySem.W.alike])]
  rw [if_neg (by simp only [PyData.eqv]; rw [beq_iff_eq]; omega)]
  have := congrFun (congrFun (PySem.W.dataLe_int (β := Int) (fun x => x)) a.1) b.1
  rw [PySem.W.dataLe_eq] at this
  have this : (!PySem.W.dataLt (.int b.1) (.int a.1)) = decide (a.1 ≤ b.1) := this
  rw [this, decide_eq_true_eq]
  omega
theorem dL_le_iff (a b : Lit) (h : PySem.W.dataLe false id (dL a) (dL b) = true) : a.1 ≤ b.1 := by
  apply Classical.byContradiction
  intro c
  rw [PySem.W.dataLe_eq] at h
  have h : (!PySem.W.dataLt (dL b) (dL a)) = true := h
  have := dL_le b a (by omega)
  unfold dL dLit at h
  rw [PySem.W.dataLt_pair (by simp [PySem.W.alike]) (by simp [PySem.W.alike])] at h
  rw [if_neg (by simp only [PyData.eqv]; rw [beq_iff_eq]; omega)] at h
  have := congrFun (congrFun (PySem.W.dataLe_int (β := Int) (fun x => x)) a.1) b.1
  rw [PySem.W.dataLe_eq] at this
  have this : (!PySem.W.dataLt (.int b.1) (.int a.1)) = decide (a.1 ≤ b.1) := this
  rw [this, decide_eq_true_eq] at h
  exact c h
theorem srtOk (r : List Lit) (h : r.length ≤ 1000) : SortOk (r.map dL) :=
  ⟨PySem.W.AllAlike.of fun a b => by simp [dL, dLit, PySem.W.alike, PySem.W.alikeAll], PySem.W.Sortable.tuples fun l => ⟨_, _, rfl⟩, Evl.sz_of (by rw [List.length_map]; omega), fun d hd => by
    obtain ⟨l, _, rfl⟩ := List.mem_map.mp hd
    exact ⟨enc_L.lay l, Nat.le_trans (enc_L.dep l) (by decide)⟩⟩
theorem srt_inc {r : List Lit} (h : r.Pairwise fun a b => a.1 < b.1) : (r.map dL).mergeSort (PySem.W.dataLe false id) = r.map dL :=
  List.mergeSort_of_pairwise (List.pairwise_map.mpr (h.imp fun {a b} z => dL_le a b z))
theorem ctr_wf {m : Nat} {r : Rule} (w : Wf m r) : Wf m (ctr r) :=
  ⟨fun l hl => by
    obtain ⟨x, hx, rfl⟩ := List.mem_map.mp hl
    exact w.rng x hx, List.pairwise_map.mpr (w.inc.imp fun {a b} z => z)⟩
def tkk (t : List Lit) : List (L2.Key × PyData) := t.map fun l => (.inl l.1, .bool l.2)
theorem cutL_map {α β : Type} (f : α → β) (xs : List α) (lo hi : Option Int) : cutL (xs.map f) lo hi = (cutL xs lo hi).map f := by
  unfold cutL
  rw [List.length_map, List.map_take, List.map_drop]
end K09
namespace K09
open FM
theorem bits_of {i : Int} {k : Nat} (h : i.natAbs < 2 ^ k) : PySem.Builtin.Int.intBits i ≤ k := by
  unfold PySem.Builtin.Int.intBits
  split
  · omega
  · rename_i c
    have hn : i.natAbs ≠ 0 := by intro z; apply c; simp; omega
    have := (Nat.log2_lt hn).mpr h
    omega
theorem mulx {i j : Int} (h1 : i.natAbs < 2 ^ 64) (h2 : j.natAbs < 2 ^ 64) : CMulX i j := by
  unfold CMulX
  have a := bits_of h1
  have b := bits_of h2
  omega
theorem divw {i : Int} {j : Nat} (h : 0 < j) (h2 : j < 2 ^ 64) : CDivW i (j : Nat) := by
  refine ⟨by omega, ?_⟩
  rw [Int.natAbs_natCast]
  have := (Nat.log2_lt (by omega)).mpr h2
  omega
theorem len__law_scoop : ∀ o ds Q, wp__law_scoop o ds Q → ds.length + 1 = 3 := fun o ds Q ⟨c, p, m, _, _, e, _⟩ => by rw [e]; rfl
theorem rd__law_scoop : ∀ o ds Q, wp__law_scoop o ds Q → τ__law_scoop (ends1 Q) (some o :: fzs ds ++ List.replicate (4 - (ds.length + 1)) none) := fun o ds Q ⟨c, place, many, pk, hc, e, hp, hm, q⟩ => by
  subst e
  have pk' := pk
  obtain ⟨x, gs, y, hs, rfl, x0, x1, y0, y1, g0, gl, hl, hb⟩ := pk
  refine st_nrm rfl ?_
  unfold τ__law_scoop pool
  walk_at "go"
  refine br2 (fun c2 => ?_) (fun c2 => ?_)
  · walk_at "go"
    exact ⟨_, rfl, q 0 _ (by omega) (pk'.mono (by omega))⟩
  have m2 : 2 ≤ many := by have := of_decide_eq_false c2; omega
  have mm : max many 1 = many := by omega
  have hc : c < 1000000 := hc
  have hm : many ≤ 1000000 := hm
  rw [mm] at q
  walk_at "go"
  refine br2 (fun c3 => ?_) (fun c3 => ?_)
  · rcases List.eq_nil_or_concat gs with rfl | ⟨gs', g, rfl⟩
    · simp at c3
    have hg : 0 ≤ g := g0 g (by simp)
    have hg' : ∀ z ∈ gs', 0 ≤ z := fun z hz => g0 z (by simp [hz])
    have lg : gs'.length + 1 ≤ 60 := by simpa using gl
    walk_at "go"
    refine ⟨rfl, .int g, by simp, ?_⟩
    refine ⟨_, rfl, ?_⟩
    rw [show ((gs'.concat g).map PyData.int).dropLast = gs'.map .int by simp]
    have dm : 0 ≤ g / (many : Int) := Int.ediv_nonneg hg (by omega)
    have mm0 : 0 ≤ g % (many : Int) := Int.emod_nonneg _ (by omega)
    have mm1 : g % (many : Int) < many := Int.emod_lt_of_pos _ (by omega)
    have fin : ∀ gs2 : List Int, (∀ z ∈ gs2, 0 ≤ z) → gs2.length ≤ 60 → Q (.fz (.int (g % (many : Int)))) (.tr [.fz (.int x), .ls (gs2.map .int), .fz (.int (y + 1)), .ls (hs.map .int)]) := fun gs2 a1 a2 => by
      have := q (g % (many : Int)).toNat (pool x gs2 (y + 1) hs) (by omega) ⟨x, gs2, y + 1, hs, rfl, x0, x1, by omega, by omega, a1, a2, hl, hb⟩
      rw [show (((g % (many : Int)).toNat : Nat) : Int) = g % (many : Int) by omega] at this
      exact this
    walk_at "go"
    refine br2 (fun c4 => ?_) (fun c4 => ?_)
    · walk_at "go"
      refine op_divI (divw (by omega) (by omega)) ?_
      walk_at "go"
      refine sm_app (by rw [List.length_map]; exact sz' (by omega)) ⟨_, rfl, ?_⟩
      walk_at "go"
      refine op_modI (by omega) ?_
      walk_at "go"
      refine ⟨_, rfl, ?_⟩
      have := fin (gs' ++ [g / (many : Int)]) (fun z hz => by rcases List.mem_append.mp hz with h | h; exact hg' z h; simp at h; omega) (by simp; omega)
      rw [List.map_append] at this
      exact this
    · walk_at "go"
      refine op_modI (by omega) ?_
      walk_at "go"
      refine ⟨_, rfl, ?_⟩
      exact fin gs' hg' (by omega)
  · have hgs : gs = [] := by
      cases gs with
      | nil => rfl
      | cons _ _ => simp at c3
    subst hgs
    walk_at "go"
    refine op_mulI (mulx (by omega) (by omega)) ?_
    walk_at "go"
    refine op_mulI (mulx (by omega) (by omega)) ?_
    walk_at "go"
    refine op_modI (by omega) ?_
    walk_at "go"
    generalize ex : (x * 16807 + (y + 1) * 4001 + 29) % 2147483563 = x2
    have x20 : 0 ≤ x2 := by rw [← ex]; exact Int.emod_nonneg _ (by omega)
    have x21 : x2 < 2147483563 := by rw [← ex]; exact Int.emod_lt_of_pos _ (by omega)
    have fin : ∀ n : Nat, n < many → Q (.fz (.int (n : Nat))) (.tr [.fz (.int x2), .ls (([] : List Int).map .int), .fz (.int (y + 1)), .ls (hs.map .int)]) := fun n hn => q n (pool x2 [] (y + 1) hs) hn ⟨x2, [], y + 1, hs, rfl, x20, x21, by omega, by omega, by simp, by simp, hl, hb⟩
    have hj : place < hs.length := by omega
    have eh : (hs.map PyData.int)[place]? = some (.int hs[place]) := by rw [List.getElem?_map, List.getElem?_eq_getElem hj]; rfl
    obtain ⟨hb0, hb1⟩ := hb hs[place] (List.getElem_mem hj)
    refine op_ixL place rfl eh ?_
    walk_at "go"
    refine br2 (fun c4 => ?_) (fun c4 => ?_)
    · walk_at "go"
      refine op_ixL place rfl eh ?_
      walk_at "go"
      refine op_mulI (mulx (by omega) (by omega)) ?_
      walk_at "go"
      refine ⟨_, rfl, ?_⟩
      have c4 := of_decide_eq_true c4
      rcases (by omega : hs[place] = 0 ∨ hs[place] = 1) with e | e
      · rw [e, Int.zero_mul]; exact fin 0 (by omega)
      · rw [e, Int.one_mul]
        have := fin (many - 1) (by omega)
        rw [show ((many - 1 : Nat) : Int) = (many : Int) - 1 by omega] at this
        exact this
    · walk_at "go"
      refine op_divI (divw (j := 17) (by omega) (by omega)) ?_
      walk_at "go"
      refine op_modI (by omega) ?_
      walk_at "go"
      refine ⟨_, rfl, ?_⟩
      have mm0 : 0 ≤ (x2 / 17) % (many : Int) := Int.emod_nonneg _ (by omega)
      have mm1 : (x2 / 17) % (many : Int) < many := Int.emod_lt_of_pos _ (by omega)
      have := fin ((x2 / 17) % (many : Int)).toNat (by omega)
      rw [show ((((x2 / 17) % (many : Int)).toNat : Nat) : Int) = (x2 / 17) % (many : Int) by omega] at this
      exact this
end K09
end
section
open VL PySem L2
local macro_rules | `(tactic| walk_at "vs") => `(tactic| first
  | with_reducible (first | refine st_seq ?_ | refine st_ret ?_ | refine st_set ?_ | refine st_if ?_ | refine st_drop ?_ | refine st_next ?_ | refine st_par ?_ | refine st_asg ?_ | refine st_rt0 ?_ | refine st_nx0 ?_ | refine st_brk ?_ | refine st_cnt ?_ | refine st_retN ?_ | refine st_op ?_ | refine st_op1 ?_ | refine st_an ?_ | refine st_ac ?_ | refine st_cb ?_ | refine st_tup ?_ | refine st_lst ?_ | refine st_to ?_ | refine st_tru ?_ | refine st_tnot ?_ | refine st_tand ?_ | refine st_tor ?_ | refine st_and ?_ | refine st_or ?_ | refine st_not ?_ | refine st_eif ?_ | refine st_chain ?_ | refine st_call ?_ | refine st_calli ?_ | refine st_isi ?_ | refine st_lrg ?_ | refine st_trg ?_ | refine st_sl ?_ | refine st_pn ?_ | refine st_ps ?_ | refine st_iseq ?_ | refine st_ir1 ?_ | refine st_ir2 ?_ | refine st_yes ?_ | refine st_c ?_ | refine st_xo ?_ | refine st_ox ?_ | refine st_cbe ?_ | refine st_true ?_ | refine st_ixe ?_ | refine st_dnew ?_ | refine st_ao0 ?_ | refine st_ao ?_ | refine st_trl ?_ | refine st_callk ?_ | refine st_callB ?_ | refine st_put ?_ | refine st_dput ?_ | refine st_g0 ?_ | refine st_sme ?_ | refine st_sme0 ?_ | refine st_pute ?_ | refine st_par3 ?_)
  | (with_reducible show (xVar _ _ _)); refine st_var rfl ?_
  | (with_reducible show (xVal _ _ _)); (first | refine st_val rfl ?_ | refine st_valL rfl rfl rfl ?_)
  | (with_reducible show (oMv _ _ _)); (first | refine st_mv rfl ?_ | refine st_mvL rfl rfl ?_)
  | (with_reducible show (eIxS _ _ _ _)); (first | refine st_ixT rfl ?_ | refine st_ixLs rfl ?_ | refine st_ixF rfl ?_ | refine st_ixTr rfl ?_ | refine st_ixDic rfl rfl ?_)
  | (with_reducible show (eLenS _ _ _)); (first | refine st_lenT rfl ?_ | refine st_lenD _ rfl ?_)
  | (with_reducible show (eEl _ _ _ _)); refine st_el rfl ?_
  | (with_reducible show (eApp _ _ _ _ _)); (first | refine st_app (listG_ls rfl) ?_ | refine st_app (listG_tr rfl) ?_)
  | (with_reducible show (sPutS _ _ _ _ _ _)); (first | refine st_putS rfl ?_ | refine st_putSD rfl ?_)
  | (with_reducible show (eInS _ _ _ _)); (first | refine st_in rfl ?_ | refine st_din rfl ?_)
  | (with_reducible show (eNotInS _ _ _ _)); (first | refine st_notin rfl ?_ | refine st_dnotin rfl ?_)
  | (with_reducible show (tInS _ _ _ _)); (first | refine st_tin rfl ?_ | refine st_tdin rfl ?_)
  | (with_reducible show (tNotInS _ _ _ _)); (first | refine st_tnotin rfl ?_ | refine st_tdnotin rfl ?_)
  | (with_reducible show (sDel _ _ _ _)); refine st_del rfl ?_
  | (with_reducible show (eSM _ _ _ _ _)); refine st_sm rfl ?_
  | (with_reducible show (gN _ _ _ _)); refine st_gn rfl ?_
  | (with_reducible show (gConss _ _ _ _ _)); refine st_gc ?_
  | (with_reducible show (gTupD _ _ _ _ _)); refine st_gt rfl ?_
  | (with_reducible show (∃ d b, _ = some d ∧ kitD d _ = some b ∧ _)); (first | refine ⟨_, true, rfl, (rfl : kitD _ _ = some true), ?_⟩ | refine ⟨_, false, rfl, (rfl : kitD _ _ = some false), ?_⟩)
  | (with_reducible show (∃ _, _)); (first | refine ⟨_, rfl, ?_⟩ | refine ⟨_, _, rfl, rfl, ?_⟩ | refine ⟨_, _, _, rfl, rfl, rfl, ?_⟩ | refine ⟨_, _, _, _, rfl, rfl, rfl, ?_⟩ | refine ⟨_, _, _, _, rfl, rfl, rfl, rfl, ?_⟩ | refine ⟨_, _, _, rfl, .inl ⟨_, rfl, rfl, rfl⟩, ?_⟩)
  | (with_reducible show ((∃ _, _) ∧ _)); (first | refine ⟨⟨_, rfl, _, .inl rfl⟩, ?_⟩ | refine ⟨⟨_, rfl, [], .inr ⟨_, rfl⟩⟩, ?_⟩)
  | (with_reducible show (_ ≤ sizeLine ∧ _)); refine ⟨Evl.sz_of (Nat.le_of_ble_eq_true rfl), ?_⟩)
local macro_rules | `(tactic| walk_at "op") => `(tactic| first
  | (with_reducible show (opAdd _ _ _)); (first | refine op_addI ?_)
  | (with_reducible show (opSub _ _ _)); (first | refine op_subI ?_)
  | (with_reducible show (opLt _ _ _)); (first | refine op_ltI ?_)
  | (with_reducible show (opLe _ _ _)); (first | refine op_leI ?_)
  | (with_reducible show (opGt _ _ _)); (first | refine op_gtI ?_)
  | (with_reducible show (opGe _ _ _)); (first | refine op_geI ?_)
  | (with_reducible show (opEq _ _ _)); (first | refine op_eqI ?_ | refine op_eqB ?_)
  | (with_reducible show (opNe _ _ _)); (first | refine op_neI ?_ | refine op_neB ?_)
  | (with_reducible show (opIsN _ _ _)); (first | refine op_isNone ?_ | refine op_isInt ?_ | refine op_isTup ?_ | refine op_isBl ?_ | refine op_isSt ?_ | refine op_isLs ?_)
  | (with_reducible show (opNotN _ _ _)); (first | refine op_notNone ?_ | refine op_notTup ?_)
  | (with_reducible show (opIx _ _ _)); (first | refine op_ixT0 rfl ?_ | refine op_ixT1 rfl ?_ | refine op_ixT2 rfl ?_ | refine op_ixL0 rfl ?_ | refine op_ixL1 rfl ?_)
  | (with_reducible show (cdLen _ _)); (first | refine cd_lenL ?_ | refine cd_lenT ?_)
  | (with_reducible show (cdInt _ _)); (first | refine cd_intI ?_ | refine cd_intB ?_)
  | (with_reducible show (cdTuple _ _)); (first | refine cd_tupL ?_ | refine cd_tupT ?_)
  | (with_reducible show (cdList _ _)); (first | refine cd_listL ?_ | refine cd_listT ?_)
  | (with_reducible show (cdAbs _ _)); (first | refine cd_absI ?_)
  | (with_reducible show (cdMin2 _ _)); (first | refine cd_min2I ?_)
  | (with_reducible show (cdMax2 _ _)); (first | refine cd_max2I ?_)
  | (with_reducible show (sdAll _ _ _ _)); (first | refine sd_T ?_ | refine sd_L ?_))
local macro_rules | `(tactic| walk_at "go") => `(tactic| repeat (first | walk_at "vs" | walk_at "op"))
local macro_rules | `(tactic| walk_at "gb") => `(tactic| repeat (first | walk_at "vs" | walk_at "op" | with_reducible (first | refine br_t ?_ | refine br_f ?_ | refine br_nt ?_ | refine br_nf ?_)))
namespace K09
open FM
theorem op_shlI {i j : Int} {Q : O → Prop} (hc : CShl i j) (h : Q (.fz (.int (i * 2 ^ j.toNat)))) : opShl (.int i) (.int j) Q := ⟨hc, h⟩
theorem op_powI {i j : Int} {Q : O → Prop} (hc : CPow i j) (h : Q (.fz (.int (i ^ j.toNat)))) : opPow (.int i) (.int j) Q := ⟨hc, h⟩
theorem cut60 {α : Type} (ns : List α) : (cutL ns none (some 60)).length ≤ 60 := by
  unfold cutL
  have : HT.sIx ns.length ns.length (some 60) ≤ 60 := by
    unfold HT.sIx
    simp
    omega
  rw [List.length_take]
  omega
theorem len__law_basin : ∀ ds Q, wp__law_basin ds Q → ds.length = 1 := fun ds Q ⟨ns, e, _⟩ => by rw [e]; rfl
theorem rd__law_basin : ∀ ds Q, wp__law_basin ds Q → τ__law_basin (ends0 Q) (fzs ds ++ List.replicate (8 - ds.length) none) := fun ds Q ⟨ns, e, hn, q⟩ => by
  subst e
  refine st_nrm rfl ?_
  unfold τ__law_basin
  walk_at "go"
  have l60 := cut60 ns
  refine for_inv (cutL ns none (some 60)) PyData.int (fun i Γ' => ∃ mx gs x3 x4, Γ' = [some (.fz (scD ns)), some (.fz (.int mx)), some (.ls (gs.map .int)), x3, x4, none, none, none] ∧ 0 ≤ mx ∧ mx < 2147483563 ∧ (∀ g ∈ gs, 0 ≤ g) ∧ gs.length ≤ i)
    (Γ1 := [some (.fz (scD ns)), some (.fz (.int 90901)), some (.ls (([] : List Int).map .int)), none, none, none, none, none]) (fun QI q => ?_) ⟨90901, [], none, none, rfl, by omega, by omega, by simp, by simp⟩ (fun i c Γ' ec w => ?_) (fun Γ' w => ?_)
  · walk_at "go"
    refine ⟨ns, rfl, ?_⟩
    walk_at "go"
    rw [cutL_map]
    exact q
  · obtain ⟨mx, gs, x3, x4, rfl, m0, m1, g0, gl⟩ := w
    have il : i < 60 := by have := (List.getElem?_eq_some_iff.mp ec).1; omega
    walk_at "go"
    refine op_shlI ⟨by omega, by have := bits_of (i := 1) (k := 1) (by decide); omega⟩ ?_
    have hM : (0 : Int) < 1 * 2 ^ (1600 : Int).toNat := by rw [Int.one_mul]; exact Int.pow_pos (by omega)
    generalize (1 : Int) * 2 ^ (1600 : Int).toNat = M at hM
    walk_at "go"
    refine op_modI hM ?_
    have s0 := Int.emod_nonneg (if c < 0 then -c else c) (show M ≠ 0 by omega)
    generalize (if c < 0 then -c else c) % M = sz at s0
    walk_at "go"
    refine op_mulI (mulx (by omega) (by omega)) ?_
    walk_at "go"
    refine op_modI (by omega) ?_
    walk_at "go"
    refine op_modI (by omega) ?_
    have n0 := Int.emod_nonneg (mx * 62089 + sz % 2147479001 + 19) (show (2147483563 : Int) ≠ 0 by omega)
    have n1 := Int.emod_lt_of_pos (mx * 62089 + sz % 2147479001 + 19) (show (0 : Int) < 2147483563 by omega)
    generalize (mx * 62089 + sz % 2147479001 + 19) % 2147483563 = mx2 at n0 n1
    walk_at "go"
    refine op_powI ⟨by omega, by omega, by decide⟩ ?_
    generalize (10 : Int) ^ (18 : Int).toNat = T
    walk_at "go"
    refine br2 (fun _ => ?_) (fun _ => ?_)
    · walk_at "go"
      refine st_appL rfl (by rw [List.length_map]; exact sz' (by omega)) rfl rfl ?_
      walk_at "go"
      exact ⟨mx2, gs ++ [sz], _, _, by rw [List.map_append]; rfl, n0, n1, fun z hz => by rcases List.mem_append.mp hz with h | h; exact g0 z h; simp at h; omega, by simp; omega⟩
    · walk_at "go"
      exact ⟨mx2, gs, _, _, rfl, n0, n1, g0, by omega⟩
  · obtain ⟨mx, gs, x3, x4, rfl, m0, m1, g0, gl⟩ := w
    walk_at "go"
    refine op_divI (divw (j := 9) (by omega) (by omega)) ?_
    walk_at "go"
    have r0 : 0 ≤ mx / 9 := by omega
    generalize mx / 9 = rt at r0
    refine for_inv (List.range 5) (fun k => PyData.int (k : Nat)) (fun i Γ' => ∃ hs rt x7, Γ' = [some (.fz (scD ns)), some (.fz (.int mx)), some (.ls (gs.map .int)), x3, x4, some (.ls (hs.map .int)), some (.fz (.int rt)), x7] ∧ 0 ≤ rt ∧ hs.length = i ∧ ∀ h ∈ hs, 0 ≤ h ∧ h < 8)
      (Γ1 := [some (.fz (scD ns)), some (.fz (.int mx)), some (.ls (gs.map .int)), x3, x4, some (.ls (([] : List Int).map .int)), some (.fz (.int rt)), none]) (fun QI q => ?_) ⟨[], rt, none, rfl, r0, rfl, by simp⟩ (fun i k Γ' ek w => ?_) (fun Γ' w => ?_)
    · walk_at "go"
      exact ⟨szI (by omega) (by omega), q⟩
    · obtain ⟨hs, rt, x7, rfl, r0, hl, hb⟩ := w
      have il : i < 5 := by have := (List.getElem?_eq_some_iff.mp ek).1; simpa using this
      walk_at "go"
      refine op_modI (by omega) ?_
      refine st_appL rfl (by rw [List.length_map]; exact sz' (by omega)) rfl rfl ?_
      walk_at "go"
      refine op_divI (divw (j := 8) (by omega) (by omega)) ?_
      walk_at "go"
      refine ⟨hs ++ [rt % 8], rt / 8, _, by rw [List.map_append]; rfl, by omega, by simp [hl], fun z hz => ?_⟩
      rcases List.mem_append.mp hz with h | h
      · exact hb z h
      · simp at h; omega
    · obtain ⟨hs, rt, x7, rfl, r0, hl, hb⟩ := w
      rw [List.length_range] at hl
      walk_at "go"
      refine op_addL (Evl.sz_of (by simp; omega)) ?_
      walk_at "go"
      refine q _ ⟨mx, gs, 0, hs ++ [7], by simp [pool, mkL, allFz], m0, m1, by omega, by omega, g0, by omega, by simp; omega, fun z hz => ?_⟩
      rcases List.mem_append.mp hz with h | h
      · exact hb z h
      · simp at h; omega
end K09
namespace K09
open FM
def dup (d : PyData) : PyData := .tuple [d, d]
theorem nodesAll_app (a b : List PyData) : nodesAll (a ++ b) = nodesAll a + nodesAll b := by
  induction a with
  | nil => simp [nodesAll]
  | cons x a ih => simp only [List.cons_append, nodesAll, ih]; omega
theorem plainAll_iff (a : List PyData) : plainAll a = true ↔ ∀ d ∈ a, plain d = true := by
  induction a with
  | nil => simp [plainAll]
  | cons x a ih => simp [plainAll, ih]
theorem nodes_pos (d : PyData) : 1 ≤ nodes d := by
  cases d <;> simp [nodes]
theorem len_nodes (a : List PyData) : a.length ≤ nodesAll a := by
  induction a with
  | nil => simp
  | cons x a ih => have := nodes_pos x; simp only [List.length_cons, nodesAll]; omega
theorem op_neS {x : Str} {Q : O → Prop} (hs : PyData.strOk x = true) (h : Q (.fz (.bool false))) : opNe (.str x) (.str x) Q := ⟨shaped_str hs, shaped_str hs, by rw [show PyData.eqv (.str x) (.str x) = true by simp [PyData.eqv]]; exact h⟩
theorem dup_range (ds : List PyData) : (List.range ds.length).map (fun k => dup (ds.getD k .none)) = ds.map dup := by
  apply List.ext_getElem?
  intro i
  by_cases h : i < ds.length
  · rw [List.getElem?_map, List.getElem?_range h, List.getElem?_map, List.getElem?_eq_getElem h]
    simp [List.getD_eq_getElem?_getD, List.getElem?_eq_getElem h]
  · rw [List.getElem?_eq_none (by simp; omega), List.getElem?_eq_none (by simp; omega)]
theorem len__law_same : ∀ ds Q, wp__law_same ds Q → ds.length = 2 := fun ds Q ⟨d, e, _⟩ => by rw [e]; rfl
theorem rd__law_same : ∀ ds Q, wp__law_same ds Q → τ__law_same (ends0 Q) (fzs ds ++ List.replicate (6 - ds.length) none) := fun ds Q ⟨d, e, pl, nd, q⟩ => by
  subst e
  refine st_nrm rfl ?_
  unfold τ__law_same
  walk_at "go"
  refine while_inv (fun n Γ' => ∃ ps x3 x4 x5, Γ' = [some (.fz d), some (.fz d), some (.ls (ps.map dup)), x3, x4, x5] ∧ (∀ p ∈ ps, plain p = true) ∧ n = nodesAll ps ∧ n ≤ 50000 ∧ (x5 = none ∨ ∃ y, x5 = some (.fz y))) (nodes d) ⟨[d], none, none, none, rfl, by simpa using pl, by simp [nodesAll], nd, .inl rfl⟩ ?_
  rintro n Γ' ⟨ps, x3, x4, x5, rfl, hp, rfl, hn, h5⟩
  walk_at "go"
  refine br2 (fun c => ?_) (fun c => ?_)
  · rcases List.eq_nil_or_concat ps with rfl | ⟨ps', p, rfl⟩
    · simp at c
    have pp : plain p = true := hp p (by simp)
    have hp' : ∀ z ∈ ps', plain z = true := fun z hz => hp z (by simp [hz])
    rw [List.concat_eq_append, nodesAll_app] at hn
    have np : nodesAll [p] = nodes p := by simp [nodesAll]
    rw [np] at hn
    have n1 := nodes_pos p
    walk_at "go"
    refine st_popL (d := dup p) rfl (by simp) rfl ?_
    rw [show ((ps'.concat p).map dup).dropLast = ps'.map dup by simp]
    have stop : ∀ y5 : Option O, (y5 = none ∨ ∃ y, y5 = some (.fz y)) → nodesAll ps' < nodesAll (ps'.concat p) ∧ nodesAll ps' ≤ 50000 := fun _ _ => by
      rw [List.concat_eq_append, nodesAll_app, np]
      exact ⟨by omega, by omega⟩
    obtain ⟨s1, s2⟩ := stop _ h5
    cases p with
    | none =>
      walk_at "gb"
      exact ⟨_, s1, ps', _, _, _, rfl, hp', rfl, s2, h5⟩
    | bool b =>
      walk_at "gb"
      rw [show (!(b == b)) = false by simp]
      walk_at "gb"
      exact ⟨_, s1, ps', _, _, _, rfl, hp', rfl, s2, h5⟩
    | int i =>
      walk_at "gb"
      rw [show (!decide (i = i)) = false by simp]
      walk_at "gb"
      exact ⟨_, s1, ps', _, _, _, rfl, hp', rfl, s2, h5⟩
    | str x =>
      walk_at "gb"
      refine op_neS (by simpa [plain] using pp) ?_
      walk_at "gb"
      exact ⟨_, s1, ps', _, _, _, rfl, hp', rfl, s2, h5⟩
    | tuple ds =>
      walk_at "gb"
      rw [show (!decide (((ds.length : Nat) : Int) = ((ds.length : Nat) : Int))) = false by simp]
      walk_at "gb"
      have nd' : nodes (.tuple ds) = 1 + nodesAll ds := by simp [nodes]
      have ld := len_nodes ds
      have lp := len_nodes ps'
      have pd := (plainAll_iff ds).mp (by simpa [plain] using pp)
      refine st_ext rfl ?_
      refine lc_map (List.range ds.length) (fun (k : Nat) => PyData.int (k : Nat)) (fun (k : Nat) => dup (ds.getD k .none)) (Γ1 := [some (.fz d), some (.fz d), some (.ls (ps'.map dup)), some (.fz (.tuple ds)), some (.fz (.tuple ds)), x5]) (fun QI q => ?_) (Evl.sz_of (by rw [List.length_range]; omega)) (by exact plain1 (by rcases h5 with rfl | ⟨y, rfl⟩; exact .inl rfl; exact .inr ⟨y, rfl⟩)) (fun k hk => ⟨_, [some (.fz d), some (.fz d), some (.ls (ps'.map dup)), some (.fz (.tuple ds)), some (.fz (.tuple ds)), some (.fz (.int (k : Nat)))], rfl, fun QG q => ⟨_, rfl, q⟩, ?_, fun Q q => ?_⟩) ?_
      · walk_at "go"
        exact ⟨szI (by omega) (by omega), q⟩
      · rcases h5 with rfl | ⟨y, rfl⟩ <;> rfl
      · have hk : k < ds.length := List.mem_range.mp hk
        have ek : ds[k]? = some (ds.getD k .none) := by rw [List.getD_eq_getElem?_getD, List.getElem?_eq_getElem hk]; rfl
        walk_at "go"
        refine op_ixT k rfl ek ?_
        walk_at "go"
        refine op_ixT k rfl ek ?_
        walk_at "go"
        exact q
      · rw [dup_range]
        refine ⟨_, _, rfl, .inl rfl, Evl.sz_of (by rw [List.length_map, List.length_map]; omega), _, rfl, ?_⟩
        walk_at "go"
        refine ⟨nodesAll (ps' ++ ds), ?_, ps' ++ ds, _, _, _, by rw [List.map_append], fun z hz => ?_, rfl, ?_, h5⟩
        · rw [nodesAll_app, List.concat_eq_append, nodesAll_app, np]; omega
        · rcases List.mem_append.mp hz with h | h
          · exact hp' z h
          · exact pd z h
        · rw [nodesAll_app]; omega
    | list _ => simp [plain] at pp
    | dict _ => simp [plain] at pp
  · walk_at "go"
    exact q
end K09
end
section
open VL PySem L2
local macro_rules | `(tactic| walk_at "vs") => `(tactic| first
  | with_reducible (first | refine st_seq ?_ | refine st_ret ?_ | refine st_set ?_ | refine st_if ?_ | refine st_drop ?_ | refine st_next ?_ | refine st_par ?_ | refine st_asg ?_ | refine st_rt0 ?_ | refine st_nx0 ?_ | refine st_brk ?_ | refine st_cnt ?_ | refine st_retN ?_ | refine st_op ?_ | refine st_op1 ?_ | refine st_an ?_ | refine st_ac ?_ | refine st_cb ?_ | refine st_tup ?_ | refine st_lst ?_ | refine st_to ?_ | refine st_tru ?_ | refine st_tnot ?_ | refine st_tand ?_ | refine st_tor ?_ | refine st_and ?_ | refine st_or ?_ | refine st_not ?_ | refine st_eif ?_ | refine st_chain ?_ | refine st_call ?_ | refine st_calli ?_ | refine st_isi ?_ | refine st_lrg ?_ | refine st_trg ?_ | refine st_sl ?_ | refine st_pn ?_ | refine st_ps ?_ | refine st_iseq ?_ | refine st_ir1 ?_ | refine st_ir2 ?_ | refine st_yes ?_ | refine st_c ?_ | refine st_xo ?_ | refine st_ox ?_ | refine st_cbe ?_ | refine st_true ?_ | refine st_ixe ?_ | refine st_dnew ?_ | refine st_ao0 ?_ | refine st_ao ?_ | refine st_trl ?_ | refine st_callk ?_ | refine st_callB ?_ | refine st_put ?_ | refine st_dput ?_ | refine st_g0 ?_ | refine st_sme ?_ | refine st_sme0 ?_ | refine st_pute ?_ | refine st_par3 ?_)
  | (with_reducible show (xVar _ _ _)); refine st_var rfl ?_
  | (with_reducible show (xVal _ _ _)); (first | refine st_val rfl ?_ | refine st_valL rfl rfl rfl ?_)
  | (with_reducible show (oMv _ _ _)); (first | refine st_mv rfl ?_ | refine st_mvL rfl rfl ?_)
  | (with_reducible show (eIxS _ _ _ _)); (first | refine st_ixT rfl ?_ | refine st_ixLs rfl ?_ | refine st_ixF rfl ?_ | refine st_ixTr rfl ?_ | refine st_ixDic rfl rfl ?_)
  | (with_reducible show (eLenS _ _ _)); (first | refine st_lenT rfl ?_ | refine st_lenD _ rfl ?_)
  | (with_reducible show (eEl _ _ _ _)); refine st_el rfl ?_
  | (with_reducible show (eApp _ _ _ _ _)); (first | refine st_app (listG_ls rfl) ?_ | refine st_app (listG_tr rfl) ?_)
  | (with_reducible show (sPutS _ _ _ _ _ _)); (first | refine st_putS rfl ?_ | refine st_putSD rfl ?_)
  | (with_reducible show (eInS _ _ _ _)); (first | refine st_in rfl ?_ | refine st_din rfl ?_)
  | (with_reducible show (eNotInS _ _ _ _)); (first | refine st_notin rfl ?_ | refine st_dnotin rfl ?_)
  | (with_reducible show (tInS _ _ _ _)); (first | refine st_tin rfl ?_ | refine st_tdin rfl ?_)
  | (with_reducible show (tNotInS _ _ _ _)); (first | refine st_tnotin rfl ?_ | refine st_tdnotin rfl ?_)
  | (with_reducible show (sDel _ _ _ _)); refine st_del rfl ?_
  | (with_reducible show (eSM _ _ _ _ _)); refine st_sm rfl ?_
  | (with_reducible show (gN _ _ _ _)); refine st_gn rfl ?_
  | (with_reducible show (gConss _ _ _ _ _)); refine st_gc ?_
  | (with_reducible show (gTupD _ _ _ _ _)); refine st_gt rfl ?_
  | (with_reducible show (∃ d b, _ = some d ∧ kitD d _ = some b ∧ _)); (first | refine ⟨_, true, rfl, (rfl : kitD _ _ = some true), ?_⟩ | refine ⟨_, false, rfl, (rfl : kitD _ _ = some false), ?_⟩)
  | (with_reducible show (∃ _, _)); (first | refine ⟨_, rfl, ?_⟩ | refine ⟨_, _, rfl, rfl, ?_⟩ | refine ⟨_, _, _, rfl, rfl, rfl, ?_⟩ | refine ⟨_, _, _, _, rfl, rfl, rfl, ?_⟩ | refine ⟨_, _, _, _, rfl, rfl, rfl, rfl, ?_⟩ | refine ⟨_, _, _, rfl, .inl ⟨_, rfl, rfl, rfl⟩, ?_⟩)
  | (with_reducible show ((∃ _, _) ∧ _)); (first | refine ⟨⟨_, rfl, _, .inl rfl⟩, ?_⟩ | refine ⟨⟨_, rfl, [], .inr ⟨_, rfl⟩⟩, ?_⟩)
  | (with_reducible show (_ ≤ sizeLine ∧ _)); refine ⟨Evl.sz_of (Nat.le_of_ble_eq_true rfl), ?_⟩)
local macro_rules | `(tactic| walk_at "op") => `(tactic| first
  | (with_reducible show (opAdd _ _ _)); (first | refine op_addI ?_)
  | (with_reducible show (opSub _ _ _)); (first | refine op_subI ?_)
  | (with_reducible show (opLt _ _ _)); (first | refine op_ltI ?_)
  | (with_reducible show (opLe _ _ _)); (first | refine op_leI ?_)
  | (with_reducible show (opGt _ _ _)); (first | refine op_gtI ?_)
  | (with_reducible show (opGe _ _ _)); (first | refine op_geI ?_)
  | (with_reducible show (opEq _ _ _)); (first | refine op_eqI ?_ | refine op_eqB ?_)
  | (with_reducible show (opNe _ _ _)); (first | refine op_neI ?_ | refine op_neB ?_)
  | (with_reducible show (opIsN _ _ _)); (first | refine op_isNone ?_ | refine op_isInt ?_ | refine op_isTup ?_ | refine op_isBl ?_ | refine op_isSt ?_ | refine op_isLs ?_)
  | (with_reducible show (opNotN _ _ _)); (first | refine op_notNone ?_ | refine op_notTup ?_)
  | (with_reducible show (opIx _ _ _)); (first | refine op_ixT0 rfl ?_ | refine op_ixT1 rfl ?_ | refine op_ixT2 rfl ?_ | refine op_ixL0 rfl ?_ | refine op_ixL1 rfl ?_)
  | (with_reducible show (cdLen _ _)); (first | refine cd_lenL ?_ | refine cd_lenT ?_)
  | (with_reducible show (cdInt _ _)); (first | refine cd_intI ?_ | refine cd_intB ?_)
  | (with_reducible show (cdTuple _ _)); (first | refine cd_tupL ?_ | refine cd_tupT ?_)
  | (with_reducible show (cdList _ _)); (first | refine cd_listL ?_ | refine cd_listT ?_)
  | (with_reducible show (cdAbs _ _)); (first | refine cd_absI ?_)
  | (with_reducible show (cdMin2 _ _)); (first | refine cd_min2I ?_)
  | (with_reducible show (cdMax2 _ _)); (first | refine cd_max2I ?_)
  | (with_reducible show (sdAll _ _ _ _)); (first | refine sd_T ?_ | refine sd_L ?_))
local macro_rules | `(tactic| walk_at "go") => `(tactic| repeat (first | walk_at "vs" | walk_at "op"))
local macro_rules | `(tactic| walk_at "gb") => `(tactic| repeat (first | walk_at "vs" | walk_at "op" | with_reducible (first | refine br_t ?_ | refine br_f ?_ | refine br_nt ?_ | refine br_nf ?_)))
namespace K09
open FM
theorem map_erase {α β : Type} (f : α → β) : ∀ (l : List α) (i : Nat), (l.map f).eraseIdx i = (l.eraseIdx i).map f
  | [], _ => by simp
  | _ :: _, 0 => by simp
  | x :: l, i + 1 => by simp [map_erase f l i]
/-- drawn literals sorted are a rule -/
theorem srt_wf {m : Nat} {ls : List Lit} (hr : ∀ l ∈ ls, 0 ≤ l.1 ∧ l.1 < m) (hd : ls.Pairwise fun a b => a.1 ≠ b.1) : ∃ r, (ls.map dL).mergeSort (PySem.W.dataLe false id) = r.map dL ∧ Wf m r ∧ r.Perm ls := by
  refine ⟨ls.mergeSort (fun a b => PySem.W.dataLe false id (dL a) (dL b)), (List.map_mergeSort (f := dL) (s := PySem.W.dataLe false id) (l := ls) (fun a _ b _ => rfl)).symm, ⟨fun l hl => hr l ((List.mergeSort_perm _ _).mem_iff.mp hl), ?_⟩, List.mergeSort_perm _ _⟩
  have tot : PySem.W.TotalLe (fun a b : Lit => PySem.W.dataLe false id (dL a) (dL b)) := PySem.W.sortLe_total (PyProof.Rows.listOrd PyProof.Rows.itemOrd) false (fun a : Lit => PySem.W.keyToks (dL a))
  have srt := List.pairwise_mergeSort (le := fun a b : Lit => PySem.W.dataLe false id (dL a) (dL b)) (fun a b c h1 h2 => tot.trans a b c h1 h2) (fun a b => Bool.or_eq_true_iff.mpr (tot.total a b)) ls
  have hd' : (ls.mergeSort (fun a b => PySem.W.dataLe false id (dL a) (dL b))).Pairwise fun a b => a.1 ≠ b.1 := (List.mergeSort_perm _ _).symm.pairwise hd (fun h => fun e => h e.symm)
  exact srt.imp₂ (fun a b h1 h2 => by have := dL_le_iff a b h1; omega) hd'
theorem len__law_some : ∀ o ds Q, wp__law_some o ds Q → ds.length + 1 = 3 := fun o ds Q ⟨c, p, m, _, _, e, _⟩ => by rw [e]; rfl
theorem rd__law_some : ∀ o ds Q, wp__law_some o ds Q → τ__law_some (ends1 Q) (some o :: fzs ds ++ List.replicate (6 - (ds.length + 1)) none) := fun o ds Q ⟨c, m, most, pk, hc, e, hm, q⟩ => by
  subst e
  refine st_nrm rfl ?_
  unfold τ__law_some
  walk_at "go"
  refine ⟨⟨by omega, by omega, by omega, by omega, by omega⟩, ?_⟩
  rw [Int.toNat_natCast]
  walk_at "go"
  have hc : c + 100 < 1000000 := hc
  let k := min m most
  have ek : (if ((most : Nat) : Int) < (m : Nat) then ((most : Nat) : Int) else (m : Nat)) = ((k : Nat) : Int) := by
    show _ = ((min m most : Nat) : Int)
    split <;> omega
  have km : k ≤ m := Nat.min_le_left _ _
  refine for_inv (List.range k) (fun i => PyData.int (i : Nat)) (fun i Γ' => ∃ (o' : O) (rest : List Int) (told : List Lit) (x5 : Option O), Γ' = [some o', some (.fz (.int (m : Nat))), some (.fz (.int (most : Nat))), some (.ls (rest.map .int)), some (.ls (told.map dL)), x5] ∧ PoolOk (c + 2 * i) o' ∧ told.length = i ∧ rest.length + i = m ∧ (told.map (·.1) ++ rest).Pairwise (· ≠ ·) ∧ (∀ b ∈ told.map (·.1) ++ rest, 0 ≤ b ∧ b < (m : Int)))
    (Γ1 := [some o, some (.fz (.int (m : Nat))), some (.fz (.int (most : Nat))), some (.ls (((List.range m).map fun (i : Nat) => (i : Int)).map .int)), some (.ls (([] : List Lit).map dL)), none]) (fun QI q => ?_) ⟨o, (List.range m).map fun (i : Nat) => (i : Int), [], none, rfl, pk, rfl, by simp, ?_, fun b hb => ?_⟩ (fun i x Γ' ex w => ?_) (fun Γ' w => ?_)
  · walk_at "go"
    rw [ek]
    refine ⟨szI (by omega) (by omega), ?_⟩
    rw [Int.toNat_natCast, show rangeN m = ((List.range m).map fun (i : Nat) => (i : Int)).map PyData.int by unfold rangeN; rw [List.map_map]; rfl]
    exact q
  · rw [List.map_nil, List.nil_append]
    exact List.pairwise_map.mpr (List.nodup_range.imp fun {a b} h e => h (by omega))
  · rw [List.map_nil, List.nil_append] at hb
    obtain ⟨j, hj, rfl⟩ := List.mem_map.mp hb
    have := List.mem_range.mp hj
    omega
  · obtain ⟨o', rest, told, x5, rfl, pk', lt, lr, nd, rg⟩ := w
    have il : i < k := by have := (List.getElem?_eq_some_iff.mp ex).1; simpa using this
    walk_at "go"
    refine ⟨c + 2 * i, 1, rest.length, pk', (by show _ < 1000000; omega), by rw [List.length_map]; rfl, by omega, (by show _ ≤ 1000000; omega), fun n o2 hn pk2 => ?_⟩
    have hn : n < rest.length := by omega
    walk_at "go"
    refine ⟨n, n, .int rest[n], rfl, ⟨by omega, by omega, ?_⟩, by rw [List.getElem?_map, List.getElem?_eq_getElem hn]; rfl, ?_⟩
    · rw [List.length_map]
      unfold seqIndex?
      simp
      omega
    refine ⟨_, rfl, ?_⟩
    rw [map_erase]
    walk_at "go"
    refine ⟨c + 2 * i + 1, 2, 2, pk2, (by show _ < 1000000; omega), rfl, by omega, (by show _ ≤ 1000000; omega), fun n2 o3 hn2 pk3 => ?_⟩
    walk_at "go"
    refine st_appL rfl (by rw [List.length_map]; exact sz' (by omega)) rfl rfl ?_
    walk_at "go"
    have er : rest.eraseIdx n = rest.take n ++ rest.drop (n + 1) := List.eraseIdx_eq_take_drop_succ ..
    have rr : rest = rest.take n ++ rest[n] :: rest.drop (n + 1) := by
      rw [List.getElem_cons_drop, List.take_append_drop]
    have pm : (told.map (·.1) ++ [rest[n]] ++ rest.eraseIdx n).Perm (told.map (·.1) ++ rest) := by
      rw [er, List.append_assoc]
      refine List.Perm.append_left _ ?_
      conv => rhs; rw [rr]
      show (rest[n] :: (rest.take n ++ rest.drop (n + 1))).Perm _
      exact (List.perm_middle).symm
    refine ⟨o3, rest.eraseIdx n, told ++ [(rest[n], decide (((n2 : Nat) : Int) = 1))], _, by rw [List.map_append]; rfl, by rw [show c + 2 * (i + 1) = c + 2 * i + 1 + 1 by omega]; exact pk3, by simp [lt], ?_, ?_, ?_⟩
    · rw [List.length_eraseIdx_of_lt hn]; omega
    · rw [List.map_append]
      exact pm.symm.pairwise nd (fun h e => h e.symm)
    · rw [List.map_append]
      exact fun b hb => rg b (pm.mem_iff.mp hb)
  · obtain ⟨o', rest, told, x5, rfl, pk', lt, lr, nd, rg⟩ := w
    rw [List.length_range] at pk' lt lr
    obtain ⟨r, e1, wr, _⟩ := srt_wf (m := m) (ls := told) (fun l hl => rg l.1 (List.mem_append_left _ (List.mem_map.mpr ⟨l, hl, rfl⟩))) (List.pairwise_map.mp (List.pairwise_append.mp nd).1)
    walk_at "go"
    refine cd_sortedL (srtOk _ (by omega)) ?_
    rw [e1]
    walk_at "go"
    exact ⟨_, rfl, q r o' wr (pk'.mono (by omega))⟩
theorem len__law_rule : ∀ o ds Q, wp__law_rule o ds Q → ds.length + 1 = 2 := fun o ds Q ⟨c, m, _, _, e, _⟩ => by rw [e]; rfl
theorem rd__law_rule : ∀ o ds Q, wp__law_rule o ds Q → τ__law_rule (ends1 Q) (some o :: fzs ds ++ List.replicate (3 - (ds.length + 1)) none) := fun o ds Q ⟨c, m, pk, hc, e, m1, hm, q⟩ => by
  subst e
  have hc : c + 200 < 1000000 := hc
  refine st_nrm rfl ?_
  unfold τ__law_rule
  walk_at "go"
  refine ⟨c, 0, 9, pk, (by show _ < 1000000; omega), rfl, by omega, (by show _ ≤ 1000000; omega), fun n o2 hn pk2 => ?_⟩
  have hn : n < 9 := by omega
  walk_at "go"
  have pick : ∃ sz : Nat, [PyData.int 1, .int 2, .int 2, .int 3, .int 3, .int 2, .int 1, .int (m : Nat), .int 0][n]? = some (.int (sz : Nat)) := by
    match n, hn with
    | 0, _ => exact ⟨1, rfl⟩
    | 1, _ => exact ⟨2, rfl⟩
    | 2, _ => exact ⟨2, rfl⟩
    | 3, _ => exact ⟨3, rfl⟩
    | 4, _ => exact ⟨3, rfl⟩
    | 5, _ => exact ⟨2, rfl⟩
    | 6, _ => exact ⟨1, rfl⟩
    | 7, _ => exact ⟨m, rfl⟩
    | 8, _ => exact ⟨0, rfl⟩
  obtain ⟨sz, es⟩ := pick
  refine op_ixT n rfl es ?_
  walk_at "go"
  have fin : ∀ (c' : Nat) (o3 : O) (k : Nat), c' ≤ c + 2 → PoolOk c' o3 → wp__law_some o3 [.int (m : Nat), .int (k : Nat)] fun o o0' => ∃ Γ2, setG [some o3, some (.fz (.int (m : Nat))), some (.fz (.int (sz : Nat)))] 0 (some o0') = some Γ2 ∧ (ends1 Q).rt o Γ2 := fun c' o3 k hc' pk3 =>
    ⟨c', m, k, pk3, (by show _ < 1000000; omega), rfl, hm, fun r o' wr pk' => ⟨_, rfl, _, rfl, q r o' wr (pk'.mono (by omega))⟩⟩
  refine br2 (fun _ => ?_) (fun _ => ?_)
  · walk_at "gb"
    exact fin _ o2 sz (by omega) pk2
  · walk_at "gb"
    refine ⟨c + 1, 5, 3, pk2, (by show _ < 1000000; omega), rfl, by omega, (by show _ ≤ 1000000; omega), fun n3 o3 hn3 pk3 => ?_⟩
    walk_at "gb"
    refine br2 (fun _ => ?_) (fun _ => ?_)
    · walk_at "gb"
      exact fin _ o3 sz (by omega) pk3
    · walk_at "gb"
      exact fin _ o3 2 (by omega) pk3
end K09
namespace K09
open FM
theorem rangeN_enc (n : Nat) : rangeN n = (List.range n).map fun (i : Nat) => PyData.int (i : Nat) := rfl
theorem len__law_sheet : ∀ o ds Q, wp__law_sheet o ds Q → ds.length + 1 = 3 := fun o ds Q ⟨c, _, _, _, _, e, _⟩ => by rw [e]; rfl
theorem rd__law_sheet : ∀ o ds Q, wp__law_sheet o ds Q → τ__law_sheet (ends1 Q) (some o :: fzs ds ++ List.replicate (5 - (ds.length + 1)) none) := fun o ds Q ⟨c, most, many, pk, hc, e, h1, h12, hn10, q⟩ => by
  subst e
  have hc : c + 2000 < 1000000 := hc
  refine st_nrm rfl ?_
  unfold τ__law_sheet
  walk_at "go"
  refine ⟨c, 3, most, pk, (by show _ < 1000000; omega), rfl, by omega, (by show _ ≤ 1000000; omega), fun m0 o2 hm0 pk2 => ?_⟩
  have hm0 : m0 < most := by omega
  walk_at "go"
  have em : (1 : Int) + ((m0 : Nat) : Int) = ((m0 + 1 : Nat) : Int) := by omega
  rw [em]
  refine st_lc ?_
  walk_at "go"
  refine ⟨c + 1, 4, many + 1, pk2, (by show _ < 1000000; omega), rfl, by omega, (by show _ ≤ 1000000; omega), fun n o3 hn pk3 => ?_⟩
  have hn : n < many + 1 := by omega
  walk_at "go"
  refine ⟨szI (by omega) (by omega), ?_⟩
  rw [Int.toNat_natCast, rangeN_enc]
  refine lcB_inv (List.range n) (fun (i : Nat) => PyData.int (i : Nat)) (fun i acc Γ' => ∃ o' rs, Γ' = [some o', some (.fz (.int (most : Nat))), some (.fz (.int (many : Nat))), some (.fz (.int (m0 + 1 : Nat))), none] ∧ acc = rs.map dR ∧ rs.length = i ∧ (∀ r ∈ rs, Wf (m0 + 1) r) ∧ PoolOk (c + 2 + 26 * i) o') rfl (by exact plain1 (.inl rfl)) ⟨o3, [], rfl, rfl, rfl, by simp, pk3⟩ (fun i x acc Γ' ex w _ => ?_) (fun acc Γ' w => ?_)
  · obtain ⟨o', rs, rfl, rfl, lr, wf, pk'⟩ := w
    have il : i < n := by have := (List.getElem?_eq_some_iff.mp ex).1; simpa using this
    refine ⟨_, rfl, ?_⟩
    walk_at "gb"
    refine ⟨c + 2 + 26 * i, m0 + 1, pk', (by show _ < 1000000; omega), rfl, by omega, by omega, fun r o4 wr pk4 => ?_⟩
    walk_at "go"
    refine ⟨by rw [List.length_map]; exact sz' (by omega), _, rfl, o4, rs ++ [r], rfl, by simp, by simp [lr], fun z hz => ?_, by rw [show c + 2 + 26 * (i + 1) = c + 2 + 26 * i + 26 by omega]; exact pk4⟩
    rcases List.mem_append.mp hz with h | h
    · exact wf z h
    · have : z = r := by simpa using h
      rw [this]; exact wr
  · obtain ⟨o', rs, rfl, rfl, lr, wf, pk'⟩ := w
    rw [List.length_range] at lr pk'
    walk_at "go"
    exact ⟨_, rfl, q (m0 + 1) rs o' ⟨by omega, by omega, by omega, wf⟩ (by omega) (by omega) (pk'.mono (by omega))⟩
/-! _law_holds -/
theorem len__law_holds : ∀ ds Q, wp__law_holds ds Q → ds.length = 2 := fun ds Q ⟨r, f, e, _⟩ => by rw [e]; rfl
theorem holds_take_false {r : Rule} {f : Fil} {i : Nat} {l : Lit} (e : r[i]? = some l) (h : holds (r.take i) f = false) (hl : ¬ f[l.1.toNat]? = some l.2) : holds (r.take (i + 1)) f = false := by
  have tk : r.take (i + 1) = r.take i ++ [l] := by rw [List.take_add_one, e]; rfl
  unfold holds at h ⊢
  rw [tk, List.any_append, h]
  simp [hl]
theorem rd__law_holds : ∀ ds Q, wp__law_holds ds Q → τ__law_holds (ends0 Q) (fzs ds ++ List.replicate (4 - ds.length) none) := fun ds Q ⟨r, f, e, hr, hl, q⟩ => by
  subst e
  refine st_nrm rfl ?_
  unfold τ__law_holds
  walk_at "go"
  refine for_inv r dL (fun i Γ' => ∃ x y, Γ' = [some (.fz (dR r)), some (.fz (dF f)), x, y] ∧ holds (r.take i) f = false) (Γ1 := [some (.fz (dR r)), some (.fz (dF f)), none, none]) (fun QI q => by walk_at "go"; exact q) ⟨none, none, rfl, rfl⟩ (fun i l Γ' el w => ?_) (fun Γ' w => ?_)
  · obtain ⟨x, y, rfl, hf⟩ := w
    obtain ⟨h0, h1⟩ := hr l (List.mem_of_getElem? el)
    have hj : l.1.toNat < f.length := by omega
    have ej := List.getElem?_eq_getElem hj
    walk_at "go"
    refine op_ixT l.1.toNat (by omega) (d := .bool f[l.1.toNat]) (by rw [List.getElem?_map, ej]; rfl) ?_
    walk_at "go"
    refine br2 (fun c => ?_) (fun c => ?_)
    · have hh : holds r f = true := by
        unfold holds
        rw [List.any_eq_true]
        exact ⟨l, List.mem_of_getElem? el, by rw [decide_eq_true_eq, ej]; simpa using c⟩
      rw [hh] at q
      walk_at "go"
      exact q
    · walk_at "go"
      exact ⟨_, _, rfl, holds_take_false el hf (by rw [ej]; intro z; simp at z; rw [z] at c; simp at c)⟩
  · obtain ⟨x, y, rfl, hf⟩ := w
    rw [List.take_length] at hf
    rw [hf] at q
    walk_at "go"
    exact q
end K09
namespace K09
open FM
theorem op_shrI {i j : Int} {Q : O → Prop} (hc : 0 ≤ j) (h : Q (.fz (.int (i / 2 ^ j.toNat)))) : opShr (.int i) (.int j) Q := ⟨hc, h⟩
theorem op_andI {i j : Int} {Q : O → Prop} (h : Q (.fz (.int (PySem.Builtin.bitAnd i j)))) : opAndI (.int i) (.int j) Q := h
def bitsF (m n : Nat) : Fil := (List.range m).map fun k => n.testBit (m - 1 - k)
theorem bitsF_lo (m n : Nat) (h : n < 2 ^ m) : bitsF (m + 1) n = false :: bitsF m n := by
  unfold bitsF
  rw [List.range_succ_eq_map, List.map_cons, List.map_map]
  congr 1
  · simpa using Nat.testBit_lt_two_pow h
  · apply List.map_congr_left
    intro k hk
    have := List.mem_range.mp hk
    show n.testBit (m + 1 - 1 - (k + 1)) = _
    rw [show m + 1 - 1 - (k + 1) = m - 1 - k by omega]
theorem bitsF_hi (m n : Nat) (h : n < 2 ^ m) : bitsF (m + 1) (2 ^ m + n) = true :: bitsF m n := by
  unfold bitsF
  rw [List.range_succ_eq_map, List.map_cons, List.map_map]
  congr 1
  · show (2 ^ m + n).testBit (m + 1 - 1 - 0) = true
    rw [show m + 1 - 1 - 0 = m by omega, Nat.testBit_two_pow_add_eq, Nat.testBit_lt_two_pow h]; rfl
  · apply List.map_congr_left
    intro k hk
    have := List.mem_range.mp hk
    show (2 ^ m + n).testBit (m + 1 - 1 - (k + 1)) = _
    rw [show m + 1 - 1 - (k + 1) = m - 1 - k by omega, Nat.testBit_two_pow_add_gt (by omega)]
theorem allF_bits : ∀ m : Nat, (List.range (2 ^ m)).map (bitsF m) = allF m
  | 0 => rfl
  | m + 1 => by
    rw [Nat.pow_succ, Nat.mul_two, List.range_add, List.map_append, List.map_map]
    show _ = (allF m).map (false :: ·) ++ (allF m).map (true :: ·)
    rw [← allF_bits m, List.map_map, List.map_map]
    congr 1
    · apply List.map_congr_left
      intro n hn
      exact bitsF_lo m n (List.mem_range.mp hn)
    · apply List.map_congr_left
      intro n hn
      exact bitsF_hi m n (List.mem_range.mp hn)
theorem and_bit (n j : Nat) : decide (PySem.Builtin.bitAnd (((n : Nat) : Int) / 2 ^ j) 1 = 1) = n.testBit j := by
  have e : (((n : Nat) : Int) / 2 ^ j) = ((n / 2 ^ j : Nat) : Int) := by
    rw [Int.natCast_ediv]; simp
  rw [e]
  unfold PySem.Builtin.bitAnd
  rw [decide_eq_true (Int.natCast_nonneg _), decide_eq_true (show (0 : Int) ≤ 1 by decide)]
  show decide ((((n / 2 ^ j : Nat) : Int).toNat &&& (1 : Int).toNat : Nat) = (1 : Int)) = _
  rw [Int.toNat_natCast, show (1 : Int).toNat = 1 from rfl, Nat.and_one_is_mod, Nat.testBit_eq_decide_div_mod_eq]
  congr 1
  apply propext
  omega
theorem len__law_every : ∀ ds Q, wp__law_every ds Q → ds.length = 1 := fun ds Q ⟨r, e, _⟩ => by rw [e]; rfl
theorem rd__law_every : ∀ ds Q, wp__law_every ds Q → τ__law_every (ends0 Q) (fzs ds ++ List.replicate (4 - ds.length) none) := fun ds Q ⟨m, e, m1, hm, q⟩ => by
  subst e
  refine st_nrm rfl ?_
  unfold τ__law_every
  walk_at "go"
  have p12 : 2 ^ m ≤ 2 ^ 12 := Nat.pow_le_pow_right (by omega) hm
  refine for_inv (List.range (2 ^ m)) (fun (i : Nat) => PyData.int (i : Nat)) (fun i Γ' => ∃ x y, Γ' = [some (.fz (.int (m : Nat))), some (.ls (((List.range i).map (bitsF m)).map dF)), x, y] ∧ (y = none ∨ ∃ z, y = some (.fz z))) (Γ1 := [some (.fz (.int (m : Nat))), some (.ls (((List.range 0).map (bitsF m)).map dF)), none, none]) (fun QI q => ?_) ⟨none, none, rfl, .inl rfl⟩ (fun i n Γ' en w => ?_) (fun Γ' w => ?_)
  · walk_at "go"
    refine op_shlI ⟨by omega, by have := bits_of (i := 1) (k := 1) (by decide); omega⟩ ?_
    walk_at "go"
    rw [show (1 : Int) * 2 ^ ((m : Nat) : Int).toNat = ((2 ^ m : Nat) : Int) by rw [Int.one_mul, Int.toNat_natCast]; simp]
    refine ⟨szI (Int.natCast_nonneg _) (Int.ofNat_le.mpr (show 2 ^ m ≤ 1000000000 from Nat.le_trans p12 (by decide))), ?_⟩
    rw [Int.toNat_natCast, rangeN_enc]
    exact q
  · obtain ⟨x, y, rfl, hy⟩ := w
    obtain ⟨il, rfl⟩ : i < 2 ^ m ∧ i = n := by
      have h := List.getElem?_eq_some_iff.mp en
      obtain ⟨h1, h2⟩ := h
      rw [List.length_range] at h1
      rw [List.getElem_range] at h2
      exact ⟨h1, h2⟩
    walk_at "go"
    refine lc_map (List.range m) (fun (k : Nat) => PyData.int (k : Nat)) (fun (k : Nat) => .bool (i.testBit (m - 1 - k))) (Γ1 := [some (.fz (.int (m : Nat))), some (.ls (((List.range i).map (bitsF m)).map dF)), some (.fz (.int (i : Nat))), y]) (fun QI q => ?_) (Evl.sz_of (by rw [List.length_range]; omega)) (by exact plain1 (by rcases hy with rfl | ⟨z, rfl⟩; exact .inl rfl; exact .inr ⟨z, rfl⟩)) (fun k hk => ⟨_, [some (.fz (.int (m : Nat))), some (.ls (((List.range i).map (bitsF m)).map dF)), some (.fz (.int (i : Nat))), some (.fz (.int (k : Nat)))], rfl, fun QG q => ⟨_, rfl, q⟩, ?_, fun Q q => ?_⟩) ?_
    · walk_at "go"
      exact ⟨szI (by omega) (by omega), q⟩
    · rcases hy with rfl | ⟨z, rfl⟩ <;> rfl
    · have hk := List.mem_range.mp hk
      walk_at "go"
      refine op_shrI (by omega) ?_
      walk_at "go"
      refine op_andI ?_
      walk_at "go"
      rw [show ((m : Nat) : Int) - 1 - (k : Nat) = ((m - 1 - k : Nat) : Int) by omega, Int.toNat_natCast, and_bit]
      exact q
    · walk_at "go"
      refine st_appL rfl (by rw [List.length_map, List.length_map, List.length_range]; exact sz' (by omega)) rfl rfl ?_
      walk_at "go"
      refine ⟨some (.fz (.int (i : Nat))), y, ?_, hy⟩
      rw [List.range_succ, List.map_append, List.map_append]
      congr 4
      simp [bitsF, dF]
  · obtain ⟨x, y, rfl, hy⟩ := w
    rw [List.length_range, allF_bits]
    walk_at "go"
    exact q
/-! _law_fillings -/
theorem allF_len : ∀ m : Nat, (allF m).length = 2 ^ m
  | 0 => rfl
  | m + 1 => by simp only [allF, List.length_append, List.length_map, allF_len m, Nat.pow_succ]; omega
end K09
namespace K09
open FM
theorem tk_getI (t : List Lit) (k : Int) : kGet (tkk t) (.inl k) = (t.find? fun l => decide (l.1 = k)).map fun l => .bool l.2 := by
  unfold kGet tkk
  induction t with
  | nil => rfl
  | cons l t ih =>
    rw [List.map_cons]
    by_cases h : l.1 = k
    · rw [List.find?_cons_of_pos (by simp [h]), List.find?_cons_of_pos (by simp [h])]; rfl
    · rw [List.find?_cons_of_neg (by simp [h]), List.find?_cons_of_neg (by simp [h])]; exact ih
theorem tk_put {t : List Lit} {l : Lit} (h : ∀ x ∈ t, x.1 ≠ l.1) : kPut (tkk t) (.inl l.1) (.bool l.2) = tkk (t ++ [l]) := by
  unfold kPut
  rw [if_neg]
  · unfold tkk; rw [List.map_append]; rfl
  · rw [List.any_eq_true]
    rintro ⟨x, hx, e⟩
    unfold tkk at hx
    obtain ⟨y, hy, rfl⟩ := List.mem_map.mp hx
    exact h y hy (Sum.inl.inj (of_decide_eq_true e))
theorem len__law_joined : ∀ ds Q, wp__law_joined ds Q → ds.length = 2 := fun ds Q ⟨m, r, s, e, _⟩ => by rw [e]; rfl
def unlB (r : Rule) (l : Lit) : Bool := match r.find? fun x => decide (x.1 = l.1) with
  | some x => !(x.2 == l.2)
  | none => false
theorem rd__law_joined : ∀ ds Q, wp__law_joined ds Q → τ__law_joined (ends0 Q) (fzs ds ++ List.replicate (9 - ds.length) none) := fun ds Q ⟨m, r, s, e, wr, ws, hm, q⟩ => by
  subst e
  have lr := wr.len
  have ls := ws.len
  refine st_nrm rfl ?_
  unfold τ__law_joined
  walk_at "go"
  refine for_inv r dL (fun i Γ' => ∃ x4 x5, Γ' = [some (.fz (dR r)), some (.fz (dR s)), some (.dk (tkk (r.take i))), some (.fz (.int 0)), x4, x5, none, none, none] ∧ (x5 = none ∨ ∃ z, x5 = some (.fz z))) (Γ1 := [some (.fz (dR r)), some (.fz (dR s)), some (.dk (tkk (r.take 0))), some (.fz (.int 0)), none, none, none, none, none]) (fun QI q => by walk_at "go"; exact q) ⟨none, none, rfl, .inl rfl⟩ (fun i l Γ' el w => ?_) (fun Γ' w => ?_)
  · obtain ⟨x4, x5, rfl, h5⟩ := w
    have tk : r.take (i + 1) = r.take i ++ [l] := by rw [List.take_add_one, el]; rfl
    have il := (List.getElem?_eq_some_iff.mp el).1
    walk_at "go"
    refine ⟨⟨_, rfl⟩, ?_⟩
    walk_at "go"
    refine ⟨_, .inl l.1, _, rfl, rfl, by unfold tkk; rw [List.length_map, List.length_take]; exact sz' (by omega), rfl, ?_⟩
    rw [tk_put (fun x hx => ?_), ← tk]
    · walk_at "go"
      exact ⟨_, _, rfl, .inr ⟨_, rfl⟩⟩
    · have := wr.inc
      rw [← List.take_append_drop i r] at this
      have := (List.pairwise_append.mp this).2.2 x hx l (by rw [List.getElem_cons_drop il |>.symm]; have : r[i] = l := by have := List.getElem?_eq_some_iff.mp el; exact this.2
                                                            rw [this]; simp)
      omega
  · obtain ⟨x4, x5, rfl, h5⟩ := w
    rw [List.take_length]
    walk_at "go"
    refine for_inv s dL (fun i Γ' => ∃ x4 x5, Γ' = [some (.fz (dR r)), some (.fz (dR s)), some (.dk (tkk r)), some (.fz (.int (((s.take i).filter (unlB r)).length : Nat))), x4, x5, none, none, none] ∧ (x5 = none ∨ ∃ z, x5 = some (.fz z))) (Γ1 := [some (.fz (dR r)), some (.fz (dR s)), some (.dk (tkk r)), some (.fz (.int 0)), x4, x5, none, none, none]) (fun QI q => by walk_at "go"; exact q) ⟨x4, x5, rfl, h5⟩ (fun i l Γ' el w => ?_) (fun Γ' w => ?_)
    · obtain ⟨x4, x5, rfl, h5⟩ := w
      have tk : s.take (i + 1) = s.take i ++ [l] := by rw [List.take_add_one, el]; rfl
      walk_at "go"
      refine ⟨_, .inl l.1, rfl, rfl, _, rfl, ?_⟩
      rw [tk_getI]
      cases hf : r.find? fun x => decide (x.1 = l.1) with
      | none =>
        refine br_f ?_
        walk_at "gb"
        refine ⟨some (.fz (.int l.1)), some (.fz (.bool l.2)), ?_, .inr ⟨_, rfl⟩⟩
        rw [tk, List.filter_append, List.filter_cons_of_neg (by unfold unlB; rw [hf]; exact Bool.false_ne_true)]
        simp
      | some x =>
        refine br_t ?_
        walk_at "go"
        refine ⟨_, .inl l.1, .bool x.2, rfl, rfl, by rw [tk_getI, hf]; rfl, ?_⟩
        walk_at "go"
        refine br2 (fun c => ?_) (fun c => ?_)
        · walk_at "go"
          refine ⟨some (.fz (.int l.1)), some (.fz (.bool l.2)), ?_, .inr ⟨_, rfl⟩⟩
          rw [tk, List.filter_append, List.filter_cons_of_pos (by unfold unlB; rw [hf]; exact c)]
          simp
        · walk_at "go"
          refine ⟨some (.fz (.int l.1)), some (.fz (.bool l.2)), ?_, .inr ⟨_, rfl⟩⟩
          rw [tk, List.filter_append, List.filter_cons_of_neg (by unfold unlB; rw [hf]; show ¬ (!x.2 == l.2) = true; rw [c]; exact Bool.false_ne_true)]
          simp
    · obtain ⟨x4, x5, rfl, h5⟩ := w
      rw [List.take_length]
      have eu : (s.filter (unlB r)).length = unl r s := rfl
      rw [eu]
      walk_at "go"
      unfold joinL at q
      refine br2 (fun c => ?_) (fun c => ?_)
      · rw [if_neg (by intro z; rw [z] at c; simp at c)] at q
        walk_at "go"
        exact q
      · rw [if_pos (by simp at c; omega)] at q
        walk_at "go"
        refine for_inv (List.range 12) (fun (i : Nat) => PyData.int (i : Nat)) (fun i Γ' => ∃ x4 x5 x7, Γ' = [some (.fz (dR r)), some (.fz (dR s)), some (.dk (tkk r)), some (.fz (.int (unl r s : Nat))), x4, x5, some (.ls (((List.range i).flatMap (mineR r s)).map dL)), x7, none] ∧ (x5 = none ∨ ∃ z, x5 = some (.fz z)) ∧ ((List.range i).flatMap (mineR r s)).length ≤ i) (Γ1 := [some (.fz (dR r)), some (.fz (dR s)), some (.dk (tkk r)), some (.fz (.int (unl r s : Nat))), x4, x5, some (.ls (((List.range 0).flatMap (mineR r s)).map dL)), none, none]) (fun QI q => ?_) ⟨x4, x5, none, rfl, h5, by simp⟩ (fun i n Γ' en w => ?_) (fun Γ' w => ?_)
        · walk_at "go"
          exact ⟨szI (by omega) (by omega), q⟩
        · obtain ⟨x4, x5, x7, rfl, h5, hl⟩ := w
          obtain ⟨il, rfl⟩ : i < 12 ∧ i = n := by
            obtain ⟨h1, h2⟩ := List.getElem?_eq_some_iff.mp en
            rw [List.length_range] at h1
            rw [List.getElem_range] at h2
            exact ⟨h1, h2⟩
          walk_at "go"
          refine lc_go (r ++ s) dL (fun l => decide (l.1 = (i : Int))) (fun l => .bool l.2) (Γ1 := [some (.fz (dR r)), some (.fz (dR s)), some (.dk (tkk r)), some (.fz (.int (unl r s : Nat))), some (.fz (.int (i : Nat))), x5, some (.ls (((List.range i).flatMap (mineR r s)).map dL)), x7, none]) (fun QI q => ?_) (Evl.sz_of (by simp; omega)) (by exact plain2 (.inl rfl) (by rcases h5 with rfl | ⟨z, rfl⟩; exact .inl rfl; exact .inr ⟨z, rfl⟩)) (fun l hm => ⟨_, [some (.fz (dR r)), some (.fz (dR s)), some (.dk (tkk r)), some (.fz (.int (unl r s : Nat))), some (.fz (.int (i : Nat))), some (.fz (.bool l.2)), some (.ls (((List.range i).flatMap (mineR r s)).map dL)), x7, some (.fz (.int l.1))], rfl, fun QG q => ?_, ?_, fun Q q => ?_, fun _ Q q => ?_⟩) ?_
          · walk_at "go"
            refine op_addT (Evl.sz_of (by simp; omega)) ?_
            walk_at "go"
            rw [← List.map_append]
            exact q
          · walk_at "go"
            exact q
          · rcases h5 with rfl | ⟨z, rfl⟩ <;> rfl
          · walk_at "go"
            exact q
          · walk_at "go"
            exact q
          · have em : ((r ++ s).filter fun l => decide (l.1 = (i : Int))).map (fun l => PyData.bool l.2) = (mine r s i).map .bool := by unfold mine; rw [List.map_map]; rfl
            rw [em]
            walk_at "go"
            have fm : (List.range (i + 1)).flatMap (mineR r s) = (List.range i).flatMap (mineR r s) ++ mineR r s i := by rw [List.range_succ, List.flatMap_append]; simp
            have skip : ∀ ms : List Bool, mineR r s i = [] → ∃ x4 x5' x7, ([some (.fz (dR r)), some (.fz (dR s)), some (.dk (tkk r)), some (.fz (.int (unl r s : Nat))), some (.fz (.int (i : Nat))), x5, some (.ls (((List.range i).flatMap (mineR r s)).map dL)), some (.ls (ms.map .bool)), none] : Ga) = [some (.fz (dR r)), some (.fz (dR s)), some (.dk (tkk r)), some (.fz (.int (unl r s : Nat))), x4, x5', some (.ls (((List.range (i + 1)).flatMap (mineR r s)).map dL)), x7, none] ∧ (x5' = none ∨ ∃ z, x5' = some (.fz z)) ∧ ((List.range (i + 1)).flatMap (mineR r s)).length ≤ i + 1 := fun ms e0 =>
              ⟨some (.fz (.int (i : Nat))), x5, some (.ls (ms.map .bool)), by rw [fm, e0, List.append_nil], h5, by rw [fm, e0, List.append_nil]; omega⟩
            have add : ∀ (ms : List Bool) (x : Bool), mineR r s i = [((i : Int), x)] → ∃ x4 x5' x7, ([some (.fz (dR r)), some (.fz (dR s)), some (.dk (tkk r)), some (.fz (.int (unl r s : Nat))), some (.fz (.int (i : Nat))), x5, some (.ls (((List.range i).flatMap (mineR r s)).map dL ++ [.tuple [.int (i : Nat), .bool x]])), some (.ls (ms.map .bool)), none] : Ga) = [some (.fz (dR r)), some (.fz (dR s)), some (.dk (tkk r)), some (.fz (.int (unl r s : Nat))), x4, x5', some (.ls (((List.range (i + 1)).flatMap (mineR r s)).map dL)), x7, none] ∧ (x5' = none ∨ ∃ z, x5' = some (.fz z)) ∧ ((List.range (i + 1)).flatMap (mineR r s)).length ≤ i + 1 := fun ms x e0 =>
              ⟨some (.fz (.int (i : Nat))), x5, some (.ls (ms.map .bool)), by rw [fm, e0, List.map_append]; rfl, h5, by rw [fm, e0, List.length_append, List.length_singleton]; omega⟩
            have ll : ((((List.range i).flatMap (mineR r s)).map dL).length) < sizeLine := by rw [List.length_map]; exact sz' (by omega)
            match hmn : mine r s i with
            | [] =>
              refine br2 (fun c => by simp at c) (fun _ => ?_)
              walk_at "go"
              refine br2 (fun c => by simp at c) (fun _ => ?_)
              walk_at "gb"
              exact skip [] (by unfold mineR; rw [hmn])
            | [x] =>
              refine br2 (fun _ => ?_) (fun c => by simp at c)
              walk_at "gb"
              refine st_appL rfl ll rfl rfl ?_
              walk_at "go"
              exact add [x] x (by unfold mineR; rw [hmn])
            | [x, y] =>
              refine br2 (fun c => by simp at c) (fun _ => ?_)
              walk_at "go"
              refine br2 (fun _ => ?_) (fun c => by simp at c)
              walk_at "go"
              refine br2 (fun c => ?_) (fun c => ?_)
              · walk_at "go"
                refine st_appL rfl ll rfl rfl ?_
                walk_at "go"
                exact add [x, y] x (by unfold mineR; rw [hmn]; show (if (x == y) = true then _ else _) = _; rw [if_pos c])
              · walk_at "go"
                exact skip [x, y] (by unfold mineR; rw [hmn]; show (if (x == y) = true then _ else _) = _; rw [if_neg (by rw [c]; exact Bool.false_ne_true)])
            | x :: y :: z :: t =>
              refine br2 (fun c => by simp at c; omega) (fun _ => ?_)
              walk_at "go"
              refine br2 (fun c => by simp at c; omega) (fun _ => ?_)
              walk_at "gb"
              exact skip (x :: y :: z :: t) (by unfold mineR; rw [hmn])
        · obtain ⟨x4, x5, x7, rfl, h5, hl⟩ := w
          rw [List.length_range]
          walk_at "go"
          exact q
end K09
end
section
open VL PySem L2
local macro_rules | `(tactic| walk_at "vs") => `(tactic| first
  | with_reducible (first | refine st_seq ?_ | refine st_ret ?_ | refine st_set ?_ | refine st_if ?_ | refine st_drop ?_ | refine st_next ?_ | refine st_par ?_ | refine st_asg ?_ | refine st_rt0 ?_ | refine st_nx0 ?_ | refine st_brk ?_ | refine st_cnt ?_ | refine st_retN ?_ | refine st_op ?_ | refine st_op1 ?_ | refine st_an ?_ | refine st_ac ?_ | refine st_cb ?_ | refine st_tup ?_ | refine st_lst ?_ | refine st_to ?_ | refine st_tru ?_ | refine st_tnot ?_ | refine st_tand ?_ | refine st_tor ?_ | refine st_and ?_ | refine st_or ?_ | refine st_not ?_ | refine st_eif ?_ | refine st_chain ?_ | refine st_call ?_ | refine st_calli ?_ | refine st_isi ?_ | refine st_lrg ?_ | refine st_trg ?_ | refine st_sl ?_ | refine st_pn ?_ | refine st_ps ?_ | refine st_iseq ?_ | refine st_ir1 ?_ | refine st_ir2 ?_ | refine st_yes ?_ | refine st_c ?_ | refine st_xo ?_ | refine st_ox ?_ | refine st_cbe ?_ | refine st_true ?_ | refine st_ixe ?_ | refine st_dnew ?_ | refine st_ao0 ?_ | refine st_ao ?_ | refine st_trl ?_ | refine st_callk ?_ | refine st_callB ?_ | refine st_put ?_ | refine st_dput ?_ | refine st_g0 ?_ | refine st_sme ?_ | refine st_sme0 ?_ | refine st_pute ?_ | refine st_par3 ?_)
  | (with_reducible show (xVar _ _ _)); refine st_var rfl ?_
  | (with_reducible show (xVal _ _ _)); (first | refine st_val rfl ?_ | refine st_valL rfl rfl rfl ?_)
  | (with_reducible show (oMv _ _ _)); (first | refine st_mv rfl ?_ | refine st_mvL rfl rfl ?_)
  | (with_reducible show (eIxS _ _ _ _)); (first | refine st_ixT rfl ?_ | refine st_ixLs rfl ?_ | refine st_ixF rfl ?_ | refine st_ixTr rfl ?_ | refine st_ixDic rfl rfl ?_)
  | (with_reducible show (eLenS _ _ _)); (first | refine st_lenT rfl ?_ | refine st_lenD _ rfl ?_)
  | (with_reducible show (eEl _ _ _ _)); refine st_el rfl ?_
  | (with_reducible show (eApp _ _ _ _ _)); (first | refine st_app (listG_ls rfl) ?_ | refine st_app (listG_tr rfl) ?_)
  | (with_reducible show (sPutS _ _ _ _ _ _)); (first | refine st_putS rfl ?_ | refine st_putSD rfl ?_)
  | (with_reducible show (eInS _ _ _ _)); (first | refine st_in rfl ?_ | refine st_din rfl ?_)
  | (with_reducible show (eNotInS _ _ _ _)); (first | refine st_notin rfl ?_ | refine st_dnotin rfl ?_)
  | (with_reducible show (tInS _ _ _ _)); (first | refine st_tin rfl ?_ | refine st_tdin rfl ?_)
  | (with_reducible show (tNotInS _ _ _ _)); (first | refine st_tnotin rfl ?_ | refine st_tdnotin rfl ?_)
  | (with_reducible show (sDel _ _ _ _)); refine st_del rfl ?_
  | (with_reducible show (eSM _ _ _ _ _)); refine st_sm rfl ?_
  | (with_reducible show (gN _ _ _ _)); refine st_gn rfl ?_
  | (with_reducible show (gConss _ _ _ _ _)); refine st_gc ?_
  | (with_reducible show (gTupD _ _ _ _ _)); refine st_gt rfl ?_
  | (with_reducible show (∃ d b, _ = some d ∧ kitD d _ = some b ∧ _)); (first | refine ⟨_, true, rfl, (rfl : kitD _ _ = some true), ?_⟩ | refine ⟨_, false, rfl, (rfl : kitD _ _ = some false), ?_⟩)
  | (with_reducible show (∃ _, _)); (first | refine ⟨_, rfl, ?_⟩ | refine ⟨_, _, rfl, rfl, ?_⟩ | refine ⟨_, _, _, rfl, rfl, rfl, ?_⟩ | refine ⟨_, _, _, _, rfl, rfl, rfl, ?_⟩ | refine ⟨_, _, _, _, rfl, rfl, rfl, rfl, ?_⟩ | refine ⟨_, _, _, rfl, .inl ⟨_, rfl, rfl, rfl⟩, ?_⟩)
  | (with_reducible show ((∃ _, _) ∧ _)); (first | refine ⟨⟨_, rfl, _, .inl rfl⟩, ?_⟩ | refine ⟨⟨_, rfl, [], .inr ⟨_, rfl⟩⟩, ?_⟩)
  | (with_reducible show (_ ≤ sizeLine ∧ _)); refine ⟨Evl.sz_of (Nat.le_of_ble_eq_true rfl), ?_⟩)
local macro_rules | `(tactic| walk_at "op") => `(tactic| first
  | (with_reducible show (opAdd _ _ _)); (first | refine op_addI ?_)
  | (with_reducible show (opSub _ _ _)); (first | refine op_subI ?_)
  | (with_reducible show (opLt _ _ _)); (first | refine op_ltI ?_)
  | (with_reducible show (opLe _ _ _)); (first | refine op_leI ?_)
  | (with_reducible show (opGt _ _ _)); (first | refine op_gtI ?_)
  | (with_reducible show (opGe _ _ _)); (first | refine op_geI ?_)
  | (with_reducible show (opEq _ _ _)); (first | refine op_eqI ?_ | refine op_eqB ?_)
  | (with_reducible show (opNe _ _ _)); (first | refine op_neI ?_ | refine op_neB ?_)
  | (with_reducible show (opIsN _ _ _)); (first | refine op_isNone ?_ | refine op_isInt ?_ | refine op_isTup ?_ | refine op_isBl ?_ | refine op_isSt ?_ | refine op_isLs ?_)
  | (with_reducible show (opNotN _ _ _)); (first | refine op_notNone ?_ | refine op_notTup ?_)
  | (with_reducible show (opIx _ _ _)); (first | refine op_ixT0 rfl ?_ | refine op_ixT1 rfl ?_ | refine op_ixT2 rfl ?_ | refine op_ixL0 rfl ?_ | refine op_ixL1 rfl ?_)
  | (with_reducible show (cdLen _ _)); (first | refine cd_lenL ?_ | refine cd_lenT ?_)
  | (with_reducible show (cdInt _ _)); (first | refine cd_intI ?_ | refine cd_intB ?_)
  | (with_reducible show (cdTuple _ _)); (first | refine cd_tupL ?_ | refine cd_tupT ?_)
  | (with_reducible show (cdList _ _)); (first | refine cd_listL ?_ | refine cd_listT ?_)
  | (with_reducible show (cdAbs _ _)); (first | refine cd_absI ?_)
  | (with_reducible show (cdMin2 _ _)); (first | refine cd_min2I ?_)
  | (with_reducible show (cdMax2 _ _)); (first | refine cd_max2I ?_)
  | (with_reducible show (sdAll _ _ _ _)); (first | refine sd_T ?_ | refine sd_L ?_))
local macro_rules | `(tactic| walk_at "go") => `(tactic| repeat (first | walk_at "vs" | walk_at "op"))
local macro_rules | `(tactic| walk_at "gb") => `(tactic| repeat (first | walk_at "vs" | walk_at "op" | with_reducible (first | refine br_t ?_ | refine br_f ?_ | refine br_nt ?_ | refine br_nf ?_)))
namespace K09
open FM
theorem len_without_literal : ∀ ds Q, wp_without_literal ds Q → ds.length = 2 := fun ds Q ⟨r, l, e, _⟩ => by rw [e]; rfl
theorem rd_without_literal : ∀ ds Q, wp_without_literal ds Q → τ_without_literal (ends0 Q) (fzs ds ++ List.replicate (3 - ds.length) none) := fun ds Q ⟨r, l, e, hl, q⟩ => by
  subst e
  refine st_nrm rfl ?_
  unfold τ_without_literal
  walk_at "go"
  refine lc_go r dL (fun x => decide (x ≠ l)) dL (fun QI q => by walk_at "go"; exact q) (Evl.sz_of (by omega)) (by exact plain1 (.inl rfl)) (fun x hx => ⟨_, _, rfl, fun QG q => ⟨_, rfl, q⟩, rfl, fun Q q => ?_, fun _ Q q => ?_⟩) ?_
  · walk_at "go"
    refine op_neE enc_L (by decide) ?_
    walk_at "go"
    rw [show (!decide (x = l)) = decide (x ≠ l) by simp]
    exact q
  · walk_at "go"
    exact q
  · walk_at "go"
    exact q
theorem len_is_within : ∀ ds Q, wp_is_within ds Q → ds.length = 2 := fun ds Q ⟨r, l, e, _⟩ => by rw [e]; rfl
theorem inside_len (r s : Rule) : decide (((((r.filter fun l => !isIn l s).map dL).length : Nat) : Int) = 0) = inside r s := by
  rw [List.length_map]
  unfold inside hasL
  induction r with
  | nil => rfl
  | cons x r ih =>
    rw [List.filter_cons, List.all_cons]
    cases h : isIn x s with
    | true => simpa using ih
    | false => simp; omega
theorem rd_inside (Q : O → Prop) (r s : Rule) (hr : r.length ≤ 1000) (q : Q (.fz (.bool (inside r s)))) : (sRet (eOp opEq (xO (eCB cdLen (aCons (xO (eLc (iSeq (xVal 0)) (gN 2) (tNotInS 1 (xVar 2)) (xVal 2) [2])) aNil))) (xC (.int 0)))) (ends0 Q) [some (.fz (dR r)), some (.fz (dR s)), none] := by
  walk_at "go"
  refine lc_go r dL (fun x => !isIn x s) dL (fun QI q => by walk_at "go"; exact q) (Evl.sz_of (by omega)) (by exact plain1 (.inl rfl)) (fun x hx => ⟨_, _, rfl, fun QG q => ⟨_, rfl, q⟩, rfl, fun Q q => ?_, fun _ Q q => ?_⟩) ?_
  · walk_at "go"
    refine op_notInE enc_L (by decide) ?_
    walk_at "go"
    exact q
  · walk_at "go"
    exact q
  · walk_at "go"
    rw [inside_len]
    exact q
theorem rd_is_within : ∀ ds Q, wp_is_within ds Q → τ_is_within (ends0 Q) (fzs ds ++ List.replicate (3 - ds.length) none) := fun ds Q ⟨r, s, e, hr, hs, q⟩ => by
  subst e
  exact st_nrm rfl (rd_inside Q r s hr q)
theorem len__law_inside : ∀ ds Q, wp_is_within ds Q → ds.length = 2 := len_is_within
theorem rd__law_inside : ∀ ds Q, wp_is_within ds Q → τ__law_inside (ends0 Q) (fzs ds ++ List.replicate (3 - ds.length) none) := fun ds Q ⟨r, s, e, hr, hs, q⟩ => by
  subst e
  exact st_nrm rfl (rd_inside Q r s hr q)
theorem len_is_within_2 : ∀ ds Q, wp_is_within ds Q → ds.length = 2 := len_is_within
theorem rd_is_within_2 : ∀ ds Q, wp_is_within ds Q → τ_is_within_2 (ends0 Q) (fzs ds ++ List.replicate (2 - ds.length) none) := fun ds Q ⟨r, s, e, hr, hs, q⟩ => by
  subst e
  refine st_nrm rfl ?_
  unfold τ_is_within_2
  walk_at "go"
  refine ⟨r, s, rfl, hr, hs, ?_⟩
  walk_at "go"
  exact q
theorem len_clashing : ∀ ds Q, wp_clashing ds Q → ds.length = 2 := fun ds Q ⟨r, l, e, _⟩ => by rw [e]; rfl
theorem rd_clashing : ∀ ds Q, wp_clashing ds Q → τ_clashing (ends0 Q) (fzs ds ++ List.replicate (3 - ds.length) none) := fun ds Q ⟨r, s, e, hr, hs, q⟩ => by
  subst e
  refine st_nrm rfl ?_
  unfold τ_clashing
  walk_at "go"
  refine lc_go r dL (fun x => isIn (neg x) s) dL (fun QI q => by walk_at "go"; exact q) (Evl.sz_of (by omega)) (by exact plain1 (.inl rfl)) (fun x hx => ⟨_, _, rfl, fun QG q => ⟨_, rfl, q⟩, rfl, fun Q q => ?_, fun _ Q q => ?_⟩) ?_
  · walk_at "go"
    refine ⟨_, _, rfl, ?_⟩
    walk_at "go"
    refine op_inE (enc := dL) (a := neg x) enc_L (by decide) ?_
    walk_at "go"
    exact q
  · walk_at "go"
    exact q
  · walk_at "go"
    exact q
end K09
end
section
open VL PySem L2
local macro_rules | `(tactic| walk_at "vs") => `(tactic| first
  | with_reducible (first | refine st_seq ?_ | refine st_ret ?_ | refine st_set ?_ | refine st_if ?_ | refine st_drop ?_ | refine st_next ?_ | refine st_par ?_ | refine st_asg ?_ | refine st_rt0 ?_ | refine st_nx0 ?_ | refine st_brk ?_ | refine st_cnt ?_ | refine st_retN ?_ | refine st_op ?_ | refine st_op1 ?_ | refine st_an ?_ | refine st_ac ?_ | refine st_cb ?_ | refine st_tup ?_ | refine st_lst ?_ | refine st_to ?_ | refine st_tru ?_ | refine st_tnot ?_ | refine st_tand ?_ | refine st_tor ?_ | refine st_and ?_ | refine st_or ?_ | refine st_not ?_ | refine st_eif ?_ | refine st_chain ?_ | refine st_call ?_ | refine st_calli ?_ | refine st_isi ?_ | refine st_lrg ?_ | refine st_trg ?_ | refine st_sl ?_ | refine st_pn ?_ | refine st_ps ?_ | refine st_iseq ?_ | refine st_ir1 ?_ | refine st_ir2 ?_ | refine st_yes ?_ | refine st_c ?_ | refine st_xo ?_ | refine st_ox ?_ | refine st_cbe ?_ | refine st_true ?_ | refine st_ixe ?_ | refine st_dnew ?_ | refine st_ao0 ?_ | refine st_ao ?_ | refine st_trl ?_ | refine st_callk ?_ | refine st_callB ?_ | refine st_put ?_ | refine st_dput ?_ | refine st_g0 ?_ | refine st_sme ?_ | refine st_sme0 ?_ | refine st_pute ?_ | refine st_par3 ?_)
  | (with_reducible show (xVar _ _ _)); refine st_var rfl ?_
  | (with_reducible show (xVal _ _ _)); (first | refine st_val rfl ?_ | refine st_valL rfl rfl rfl ?_)
  | (with_reducible show (oMv _ _ _)); (first | refine st_mv rfl ?_ | refine st_mvL rfl rfl ?_)
  | (with_reducible show (eIxS _ _ _ _)); (first | refine st_ixT rfl ?_ | refine st_ixLs rfl ?_ | refine st_ixF rfl ?_ | refine st_ixTr rfl ?_ | refine st_ixDic rfl rfl ?_)
  | (with_reducible show (eLenS _ _ _)); (first | refine st_lenT rfl ?_ | refine st_lenD _ rfl ?_)
  | (with_reducible show (eEl _ _ _ _)); refine st_el rfl ?_
  | (with_reducible show (eApp _ _ _ _ _)); (first | refine st_app (listG_ls rfl) ?_ | refine st_app (listG_tr rfl) ?_)
  | (with_reducible show (sPutS _ _ _ _ _ _)); (first | refine st_putS rfl ?_ | refine st_putSD rfl ?_)
  | (with_reducible show (eInS _ _ _ _)); (first | refine st_in rfl ?_ | refine st_din rfl ?_)
  | (with_reducible show (eNotInS _ _ _ _)); (first | refine st_notin rfl ?_ | refine st_dnotin rfl ?_)
  | (with_reducible show (tInS _ _ _ _)); (first | refine st_tin rfl ?_ | refine st_tdin rfl ?_)
  | (with_reducible show (tNotInS _ _ _ _)); (first | refine st_tnotin rfl ?_ | refine st_tdnotin rfl ?_)
  | (with_reducible show (sDel _ _ _ _)); refine st_del rfl ?_
  | (with_reducible show (eSM _ _ _ _ _)); refine st_sm rfl ?_
  | (with_reducible show (gN _ _ _ _)); refine st_gn rfl ?_
  | (with_reducible show (gConss _ _ _ _ _)); refine st_gc ?_
  | (with_reducible show (gTupD _ _ _ _ _)); refine st_gt rfl ?_
  | (with_reducible show (∃ d b, _ = some d ∧ kitD d _ = some b ∧ _)); (first | refine ⟨_, true, rfl, (rfl : kitD _ _ = some true), ?_⟩ | refine ⟨_, false, rfl, (rfl : kitD _ _ = some false), ?_⟩)
  | (with_reducible show (∃ _, _)); (first | refine ⟨_, rfl, ?_⟩ | refine ⟨_, _, rfl, rfl, ?_⟩ | refine ⟨_, _, _, rfl, rfl, rfl, ?_⟩ | refine ⟨_, _, _, _, rfl, rfl, rfl, ?_⟩ | refine ⟨_, _, _, _, rfl, rfl, rfl, rfl, ?_⟩ | refine ⟨_, _, _, rfl, .inl ⟨_, rfl, rfl, rfl⟩, ?_⟩)
  | (with_reducible show ((∃ _, _) ∧ _)); (first | refine ⟨⟨_, rfl, _, .inl rfl⟩, ?_⟩ | refine ⟨⟨_, rfl, [], .inr ⟨_, rfl⟩⟩, ?_⟩)
  | (with_reducible show (_ ≤ sizeLine ∧ _)); refine ⟨Evl.sz_of (Nat.le_of_ble_eq_true rfl), ?_⟩)
local macro_rules | `(tactic| walk_at "op") => `(tactic| first
  | (with_reducible show (opAdd _ _ _)); (first | refine op_addI ?_)
  | (with_reducible show (opSub _ _ _)); (first | refine op_subI ?_)
  | (with_reducible show (opLt _ _ _)); (first | refine op_ltI ?_)
  | (with_reducible show (opLe _ _ _)); (first | refine op_leI ?_)
  | (with_reducible show (opGt _ _ _)); (first | refine op_gtI ?_)
  | (with_reducible show (opGe _ _ _)); (first | refine op_geI ?_)
  | (with_reducible show (opEq _ _ _)); (first | refine op_eqI ?_ | refine op_eqB ?_)
  | (with_reducible show (opNe _ _ _)); (first | refine op_neI ?_ | refine op_neB ?_)
  | (with_reducible show (opIsN _ _ _)); (first | refine op_isNone ?_ | refine op_isInt ?_ | refine op_isTup ?_ | refine op_isBl ?_ | refine op_isSt ?_ | refine op_isLs ?_)
  | (with_reducible show (opNotN _ _ _)); (first | refine op_notNone ?_ | refine op_notTup ?_)
  | (with_reducible show (opIx _ _ _)); (first | refine op_ixT0 rfl ?_ | refine op_ixT1 rfl ?_ | refine op_ixT2 rfl ?_ | refine op_ixL0 rfl ?_ | refine op_ixL1 rfl ?_)
  | (with_reducible show (cdLen _ _)); (first | refine cd_lenL ?_ | refine cd_lenT ?_)
  | (with_reducible show (cdInt _ _)); (first | refine cd_intI ?_ | refine cd_intB ?_)
  | (with_reducible show (cdTuple _ _)); (first | refine cd_tupL ?_ | refine cd_tupT ?_)
  | (with_reducible show (cdList _ _)); (first | refine cd_listL ?_ | refine cd_listT ?_)
  | (with_reducible show (cdAbs _ _)); (first | refine cd_absI ?_)
  | (with_reducible show (cdMin2 _ _)); (first | refine cd_min2I ?_)
  | (with_reducible show (cdMax2 _ _)); (first | refine cd_max2I ?_)
  | (with_reducible show (sdAll _ _ _ _)); (first | refine sd_T ?_ | refine sd_L ?_))
local macro_rules | `(tactic| walk_at "go") => `(tactic| repeat (first | walk_at "vs" | walk_at "op"))
local macro_rules | `(tactic| walk_at "gb") => `(tactic| repeat (first | walk_at "vs" | walk_at "op" | with_reducible (first | refine br_t ?_ | refine br_f ?_ | refine br_nt ?_ | refine br_nf ?_)))
namespace K09
open FM
/-! the join, by its members -/
theorem inc_ext {r s : Rule} (hr : r.Pairwise fun a b => a.1 < b.1) (hs : s.Pairwise fun a b => a.1 < b.1) (h : ∀ l, l ∈ r ↔ l ∈ s) : r = s := by
  induction r generalizing s with
  | nil =>
    cases s with
    | nil => rfl
    | cons y s => exact absurd ((h y).mpr List.mem_cons_self) (by simp)
  | cons x r ih =>
    cases s with
    | nil => exact absurd ((h x).mp List.mem_cons_self) (by simp)
    | cons y s =>
      rw [List.pairwise_cons] at hr hs
      have e : x = y := by
        rcases List.mem_cons.mp ((h x).mp List.mem_cons_self) with z | z
        · exact z
        · rcases List.mem_cons.mp ((h y).mpr List.mem_cons_self) with z2 | z2
          · exact z2.symm
          · have := hs.1 x z; have := hr.1 y z2; omega
      subst e
      rw [ih hr.2 hs.2 fun l => ?_]
      constructor
      · intro hl
        rcases List.mem_cons.mp ((h l).mp (List.mem_cons_of_mem _ hl)) with z | z
        · subst z; have := hr.1 l hl; omega
        · exact z
      · intro hl
        rcases List.mem_cons.mp ((h l).mpr (List.mem_cons_of_mem _ hl)) with z | z
        · subst z; have := hs.1 l hl; omega
        · exact z
theorem one_box {m : Nat} {r : Rule} (w : Wf m r) {a b : Lit} (ha : a ∈ r) (hb : b ∈ r) (e : a.1 = b.1) : a = b := by
  have := w.inc
  induction r with
  | nil => cases ha
  | cons x r ih =>
    rw [List.pairwise_cons] at this
    rcases List.mem_cons.mp ha with z | z <;> rcases List.mem_cons.mp hb with z2 | z2
    · rw [z, z2]
    · subst z; have := this.1 b z2; omega
    · subst z2; have := this.1 a z; omega
    · exact ih ⟨fun l hl => w.rng l (List.mem_cons_of_mem _ hl), this.2⟩ z z2 this.2
theorem neg_neg' (l : Lit) : neg (neg l) = l := by simp [neg]
theorem unlB_iff {m : Nat} {r s : Rule} (wr : Wf m r) (l : Lit) : unlB r l = isIn (neg l) r := by
  unfold unlB
  cases h : r.find? fun x => decide (x.1 = l.1) with
  | none =>
    rw [List.find?_eq_none] at h
    symm
    rw [isIn_false]
    intro z
    exact h _ z (by simp [neg])
  | some x =>
    have h1 := List.mem_of_find?_eq_some h
    have h2 : x.1 = l.1 := by have := List.find?_some h; exact of_decide_eq_true this
    by_cases e : x.2 = l.2
    · show (!(x.2 == l.2)) = isIn (neg l) r
      rw [show (!(x.2 == l.2)) = false by rw [e]; simp]
      symm
      rw [isIn_false]
      intro z
      have := one_box wr h1 z (by rw [h2]; rfl)
      rw [this] at e
      simp [neg] at e
    · show (!(x.2 == l.2)) = isIn (neg l) r
      rw [show (!(x.2 == l.2)) = true by simp [e]]
      symm
      rw [isIn_iff]
      have : x = neg l := Prod.ext h2 (by show x.2 = !l.2; cases hx : x.2 <;> cases hl : l.2 <;> simp_all)
      rw [← this]; exact h1
theorem clash_nd {m : Nat} {r s : Rule} (w : Wf m r) : (clash r s).Nodup := (w.inc.imp fun {a b} h e => by rw [e] at h; omega).filter _
theorem unl_len {m : Nat} {r s : Rule} (wr : Wf m r) (ws : Wf m s) : unl r s = (clash r s).length := by
  have e1 : unl r s = (clash s r).length := by
    show (s.filter (unlB r)).length = _
    unfold clash
    congr 1
    exact List.filter_congr fun l _ => unlB_iff (s := s) wr l
  rw [e1]
  have p : ((clash r s).map neg).Perm (clash s r) := by
    refine (List.perm_ext_iff_of_nodup ((clash_nd (s := s) wr).map neg (fun a b h e => h (by rw [← neg_neg' a, e, neg_neg']))) (clash_nd ws)).mpr fun l => ?_
    unfold clash hasL
    rw [List.mem_map, List.mem_filter]
    constructor
    · rintro ⟨x, hx, rfl⟩
      rw [List.mem_filter, isIn_iff] at hx
      exact ⟨hx.2, by rw [isIn_iff, neg_neg']; exact hx.1⟩
    · rintro ⟨h1, h2⟩
      rw [isIn_iff] at h2
      exact ⟨neg l, by rw [List.mem_filter, isIn_iff, neg_neg']; exact ⟨h2, h1⟩, neg_neg' l⟩
  rw [← p.length_eq, List.length_map]
theorem at_box {m : Nat} {r : Rule} (w : Wf m r) (b : Int) : (∃ x, r.filter (fun l => decide (l.1 = b)) = [(b, x)] ∧ (b, x) ∈ r) ∨ r.filter (fun l => decide (l.1 = b)) = [] ∧ ∀ x, (b, x) ∉ r := by
  have nd : (r.filter fun l => decide (l.1 = b)).Nodup := (w.inc.imp fun {a b} h e => by rw [e] at h; omega).filter _
  match h : r.filter (fun l => decide (l.1 = b)) with
  | [] =>
    refine .inr ⟨h, fun x hx => ?_⟩
    have : (b, x) ∈ r.filter (fun l => decide (l.1 = b)) := List.mem_filter.mpr ⟨hx, by simp⟩
    rw [h] at this; cases this
  | [l] =>
    have : l ∈ r.filter (fun l => decide (l.1 = b)) := by rw [h]; simp
    obtain ⟨h1, h2⟩ := List.mem_filter.mp this
    have h2 := of_decide_eq_true h2
    have el : l = (b, l.2) := Prod.ext h2 rfl
    exact .inl ⟨l.2, by rw [h, ← el], by rw [← el]; exact h1⟩
  | l :: l2 :: t =>
    have a1 : l ∈ r.filter (fun l => decide (l.1 = b)) := by rw [h]; simp
    have a2 : l2 ∈ r.filter (fun l => decide (l.1 = b)) := by rw [h]; simp
    obtain ⟨h1, h2⟩ := List.mem_filter.mp a1
    obtain ⟨h3, h4⟩ := List.mem_filter.mp a2
    have := one_box w h1 h3 ((of_decide_eq_true h2).trans (of_decide_eq_true h4).symm)
    rw [h] at nd
    subst this
    simp at nd
/-- what a box has in the join -/
theorem mineR_mem {m : Nat} {r s : Rule} (wr : Wf m r) (ws : Wf m s) (b : Nat) (l : Lit) : l ∈ mineR r s b ↔ l.1 = (b : Int) ∧ (l ∈ r ∨ l ∈ s) ∧ neg l ∉ r ∧ neg l ∉ s := by
  obtain ⟨lb, lx⟩ := l
  unfold mineR mine
  rw [List.filter_append]
  rcases at_box wr (b : Int) with ⟨x, e1, m1⟩ | ⟨e1, m1⟩ <;> rcases at_box ws (b : Int) with ⟨y, e2, m2⟩ | ⟨e2, m2⟩
  · rw [e1, e2]
    show (lb, lx) ∈ (if (x == y) = true then [((b : Int), x)] else []) ↔ _
    constructor
    · intro h
      split at h
      · rename_i e
        have e : x = y := by simpa using e
        subst e
        have h : (lb, lx) = ((b : Int), x) := by simpa using h
        cases h
        refine ⟨rfl, .inl m1, fun z => ?_, fun z => ?_⟩
        · have := one_box wr z m1 rfl; simp [neg] at this
        · have := one_box ws z m2 rfl; simp [neg] at this
      · cases h
    · rintro ⟨h1, h2, h3, h4⟩
      have h1 : lb = (b : Int) := h1
      subst h1
      have ex : x = lx := by
        rcases h2 with h2 | h2
        · exact congrArg Prod.snd (one_box wr m1 h2 rfl)
        · apply Classical.byContradiction
          intro ne
          have : ((b : Int), x) = neg ((b : Int), lx) := Prod.ext rfl (by show x = !lx; cases x <;> cases lx <;> simp_all)
          exact h3 (by rw [← this]; exact m1)
      have ey : y = lx := by
        rcases h2 with h2 | h2
        · apply Classical.byContradiction
          intro ne
          have : ((b : Int), y) = neg ((b : Int), lx) := Prod.ext rfl (by show y = !lx; cases y <;> cases lx <;> simp_all)
          exact h4 (by rw [← this]; exact m2)
        · exact congrArg Prod.snd (one_box ws m2 h2 rfl)
      rw [if_pos (by rw [ex, ey]; simp), ex]; simp
  · rw [e1, e2]
    show (lb, lx) ∈ [((b : Int), x)] ↔ _
    constructor
    · intro h
      have h : (lb, lx) = ((b : Int), x) := by simpa using h
      cases h
      exact ⟨rfl, .inl m1, fun z => by have := one_box wr z m1 rfl; simp [neg] at this, m2 _⟩
    · rintro ⟨h1, h2, h3, h4⟩
      have h1 : lb = (b : Int) := h1
      subst h1
      rcases h2 with h2 | h2
      · rw [one_box wr h2 m1 rfl]; simp
      · exact absurd h2 (m2 _)
  · rw [e1, e2]
    show (lb, lx) ∈ [((b : Int), y)] ↔ _
    constructor
    · intro h
      have h : (lb, lx) = ((b : Int), y) := by simpa using h
      cases h
      exact ⟨rfl, .inr m2, m1 _, fun z => by have := one_box ws z m2 rfl; simp [neg] at this⟩
    · rintro ⟨h1, h2, h3, h4⟩
      have h1 : lb = (b : Int) := h1
      subst h1
      rcases h2 with h2 | h2
      · exact absurd h2 (m1 _)
      · rw [one_box ws h2 m2 rfl]; simp
  · rw [e1, e2]
    show (lb, lx) ∈ [] ↔ _
    constructor
    · intro h; cases h
    · rintro ⟨h1, h2, h3, h4⟩
      have h1 : lb = (b : Int) := h1
      subst h1
      rcases h2 with h2 | h2
      · exact absurd h2 (m1 _)
      · exact absurd h2 (m2 _)
theorem mineR_box {r s : Rule} {b : Nat} {l : Lit} (h : l ∈ mineR r s b) : l.1 = (b : Int) := by
  unfold mineR at h
  split at h
  · rw [List.mem_singleton.mp h]
  · split at h
    · rw [List.mem_singleton.mp h]
    · cases h
  · cases h
theorem mineR_inc (r s : Rule) (b : Nat) : (mineR r s b).Pairwise fun a b => a.1 < b.1 := by
  unfold mineR
  split
  · simp
  · split <;> simp
  · simp
theorem flat_inc (r s : Rule) : ∀ n : Nat, ((List.range n).flatMap (mineR r s)).Pairwise (fun a b => a.1 < b.1) ∧ ∀ l ∈ (List.range n).flatMap (mineR r s), 0 ≤ l.1 ∧ l.1 < (n : Int) := fun n => by
  induction n with
  | zero => simp
  | succ n ih =>
    rw [List.range_succ, List.flatMap_append, List.flatMap_singleton]
    refine ⟨List.pairwise_append.mpr ⟨ih.1, mineR_inc r s n, fun a ha b hb => ?_⟩, fun l hl => ?_⟩
    · have := ih.2 a ha; have := mineR_box hb; omega
    · rcases List.mem_append.mp hl with z | z
      · have := ih.2 l z; omega
      · have := mineR_box z; omega
theorem join_mem {m : Nat} {r s : Rule} (wr : Wf m r) (ws : Wf m s) (hm : m ≤ 12) (l : Lit) : l ∈ (List.range 12).flatMap (mineR r s) ↔ (l ∈ r ∨ l ∈ s) ∧ neg l ∉ r ∧ neg l ∉ s := by
  rw [List.mem_flatMap]
  constructor
  · rintro ⟨b, _, h⟩
    exact ((mineR_mem wr ws b l).mp h).2
  · intro h
    have rg : 0 ≤ l.1 ∧ l.1 < m := h.1.elim (wr.rng l) (ws.rng l)
    exact ⟨l.1.toNat, List.mem_range.mpr (by omega), (mineR_mem wr ws _ l).mpr ⟨by omega, h⟩⟩
/-- sorting the two rests, none twice -/
theorem join_sort {m : Nat} {r s : Rule} (wr : Wf m r) (ws : Wf m s) (hm : m ≤ 12) {l0 : Lit} (ec : clash r s = [l0]) {L : List PyData} (nd : L.Nodup) (hL : ∀ d, d ∈ L ↔ d ∈ ((r.filter fun x => decide (x ≠ l0)) ++ (s.filter fun x => decide (x ≠ neg l0))).map dL) :
    SortOk L ∧ L.mergeSort (PySem.W.dataLe false id) = ((List.range 12).flatMap (mineR r s)).map dL := by
  have inj : ∀ a b : Lit, dL a = dL b → a = b := fun a b e => by
    have e : PyData.tuple [.int a.1, .bool a.2] = .tuple [.int b.1, .bool b.2] := e
    injection e with e
    injection e with e1 e2
    injection e1 with e1
    injection e2 with e2
    injection e2 with e2
    exact Prod.ext e1 e2
  obtain ⟨ls, els⟩ : ∃ ls : List Lit, L = ls.map dL := by
    have : ∀ (L : List PyData), (∀ d ∈ L, ∃ l, d = dL l) → ∃ ls : List Lit, L = ls.map dL := fun L => by
      induction L with
      | nil => intro _; exact ⟨[], rfl⟩
      | cons d L ih =>
        intro h
        obtain ⟨l, e⟩ := h d List.mem_cons_self
        obtain ⟨ls, e2⟩ := ih fun x hx => h x (List.mem_cons_of_mem _ hx)
        exact ⟨l :: ls, by rw [List.map_cons, e, e2]⟩
    refine this L fun d hd => ?_
    obtain ⟨l, _, e⟩ := List.mem_map.mp ((hL d).mp hd)
    exact ⟨l, e.symm⟩
  subst els
  have lnd : ls.Nodup := (List.pairwise_map.mp nd).imp fun h e => h (congrArg dL e)
  have mem : ∀ l, l ∈ ls ↔ (l ∈ r ∧ l ≠ l0) ∨ (l ∈ s ∧ l ≠ neg l0) := fun l => by
    have := hL (dL l)
    rw [List.mem_map, List.mem_map] at this
    have h1 : (∃ a, a ∈ ls ∧ dL a = dL l) ↔ l ∈ ls := ⟨fun ⟨a, h, e⟩ => by rw [← inj a l e]; exact h, fun h => ⟨l, h, rfl⟩⟩
    have h2 : (∃ a, a ∈ (r.filter fun x => decide (x ≠ l0)) ++ (s.filter fun x => decide (x ≠ neg l0)) ∧ dL a = dL l) ↔ l ∈ (r.filter fun x => decide (x ≠ l0)) ++ (s.filter fun x => decide (x ≠ neg l0)) := ⟨fun ⟨a, h, e⟩ => by rw [← inj a l e]; exact h, fun h => ⟨l, h, rfl⟩⟩
    rw [h1, h2, List.mem_append, List.mem_filter, List.mem_filter] at this
    simpa using this
  have cl : ∀ l, l ∈ r → neg l ∈ s → l = l0 := fun l h1 h2 => by
    have : l ∈ clash r s := List.mem_filter.mpr ⟨h1, isIn_iff.mpr h2⟩
    rw [ec] at this
    simpa using this
  have l0m : l0 ∈ r ∧ neg l0 ∈ s := by
    have : l0 ∈ clash r s := by rw [ec]; simp
    obtain ⟨h1, h2⟩ := List.mem_filter.mp this
    exact ⟨h1, isIn_iff.mp h2⟩
  have mem2 : ∀ l, l ∈ ls ↔ (l ∈ r ∨ l ∈ s) ∧ neg l ∉ r ∧ neg l ∉ s := fun l => by
    rw [mem l]
    constructor
    · rintro (⟨h1, h2⟩ | ⟨h1, h2⟩)
      · refine ⟨.inl h1, fun z => ?_, fun z => h2 (cl l h1 z)⟩
        have := one_box wr h1 z rfl
        have := congrArg Prod.snd this
        simp [neg] at this
      · refine ⟨.inr h1, fun z => h2 ?_, fun z => ?_⟩
        · rw [← cl (neg l) z (by rw [neg_neg']; exact h1), neg_neg']
        · have := one_box ws h1 z rfl
          have := congrArg Prod.snd this
          simp [neg] at this
    · rintro ⟨h1 | h1, h2, h3⟩
      · exact .inl ⟨h1, fun z => by subst z; exact h3 l0m.2⟩
      · exact .inr ⟨h1, fun z => by subst z; exact h2 (by rw [neg_neg']; exact l0m.1)⟩
  have rg : ∀ l ∈ ls, 0 ≤ l.1 ∧ l.1 < m := fun l hl => ((mem2 l).mp hl).1.elim (wr.rng l) (ws.rng l)
  have ub : ls.Pairwise fun a b => a.1 ≠ b.1 := by
    refine lnd.imp_of_mem fun {a b} ha hb hne e => ?_
    have h1 := (mem2 a).mp ha
    have h2 := (mem2 b).mp hb
    have : b = neg a := Prod.ext e.symm (by
      show b.2 = !a.2
      cases ha2 : a.2 <;> cases hb2 : b.2 <;> simp
      · exact hne (Prod.ext e (ha2.trans hb2.symm))
      · exact hne (Prod.ext e (ha2.trans hb2.symm)))
    subst this
    rcases h2.1 with z | z
    · exact h1.2.1 z
    · exact h1.2.2 z
  obtain ⟨r', e1, wr', pm⟩ := srt_wf rg ub
  have len : ls.length ≤ 1000 := by have := wr'.len; rw [pm.length_eq] at this; omega
  refine ⟨srtOk ls len, ?_⟩
  rw [e1, inc_ext wr'.inc (flat_inc r s 12).1 fun l => by rw [pm.mem_iff, mem2, join_mem wr ws hm]]
theorem keysOk_dL (ls : List Lit) (h : ls.length < 64) : KeysOk (ls.map dL) where
  all := fun d hd => by
    obtain ⟨l, _, rfl⟩ := List.mem_map.mp hd
    exact ⟨[.num l.1, .num (if l.2 = true then 1 else 0)], rfl, by simp [NestedKey.depth, NestedKey.depthAll]⟩
  inj := fun d hd e he k => by
    obtain ⟨a, _, rfl⟩ := List.mem_map.mp hd
    obtain ⟨b, _, rfl⟩ := List.mem_map.mp he
    have k : some (NestedKey.tup [.num a.1, .num (if a.2 = true then 1 else 0)]) = some (NestedKey.tup [.num b.1, .num (if b.2 = true then 1 else 0)]) := k
    injection k with k
    injection k with k
    injection k with k1 k2
    injection k1 with k1
    injection k2 with k2
    injection k2 with k2
    have : a.2 = b.2 := by cases h1 : a.2 <;> cases h2 : b.2 <;> simp_all
    unfold dL
    rw [k1, this]
  few := by rw [List.length_map]; exact h
theorem len_joined : ∀ ds Q, wp_joined ds Q → ds.length = 2 := fun ds Q ⟨m, r, s, e, _⟩ => by rw [e]; rfl
theorem rd_joined : ∀ ds Q, wp_joined ds Q → τ_joined (ends0 Q) (fzs ds ++ List.replicate (5 - ds.length) none) := fun ds Q ⟨m, r, s, e, wr, ws, hm, q⟩ => by
  subst e
  have lr := wr.len
  have ls := ws.len
  refine st_nrm rfl ?_
  unfold τ_joined
  walk_at "go"
  refine ⟨r, s, rfl, by omega, by omega, ?_⟩
  walk_at "go"
  unfold joinL at q
  rw [unl_len wr ws] at q
  refine br2 (fun c => ?_) (fun c => ?_)
  · rw [if_neg (by intro z; rw [List.length_map, z] at c; simp at c)] at q
    walk_at "go"
    exact q
  · have l1 : (clash r s).length = 1 := by rw [List.length_map] at c; simp at c; omega
    rw [if_pos l1] at q
    obtain ⟨l0, ec⟩ := List.length_eq_one_iff.mp l1
    rw [ec]
    walk_at "go"
    refine ⟨r, l0, rfl, by omega, ?_⟩
    walk_at "go"
    refine ⟨_, _, rfl, ?_⟩
    walk_at "go"
    refine ⟨s, neg l0, rfl, by omega, ?_⟩
    walk_at "go"
    have f1 := List.length_filter_le (fun x => decide (x ≠ l0)) r
    have f2 := List.length_filter_le (fun x => decide (x ≠ neg l0)) s
    refine op_addT (Evl.sz_of (by rw [List.length_map, List.length_map]; omega)) ?_
    walk_at "go"
    refine ⟨by rw [← List.map_append]; exact keysOk_dL _ (by rw [List.length_append]; omega), fun L nd hL => ?_⟩
    obtain ⟨j1, j2⟩ := join_sort wr ws hm ec nd (fun d => by rw [hL d, List.map_append])
    refine ⟨j1, ?_⟩
    rw [j2]
    walk_at "go"
    exact q
theorem len_join_of : ∀ ds Q, wp_joined ds Q → ds.length = 2 := len_joined
theorem rd_join_of : ∀ ds Q, wp_joined ds Q → τ_join_of (ends0 Q) (fzs ds ++ List.replicate (2 - ds.length) none) := fun ds Q ⟨m, r, s, e, wr, ws, hm, q⟩ => by
  subst e
  refine st_nrm rfl ?_
  unfold τ_join_of
  walk_at "go"
  refine ⟨m, r, s, rfl, wr, ws, hm, ?_⟩
  walk_at "go"
  exact q
end K09
end
section
open VL PySem L2
local macro_rules | `(tactic| walk_at "vs") => `(tactic| first
  | with_reducible (first | refine st_seq ?_ | refine st_ret ?_ | refine st_set ?_ | refine st_if ?_ | refine st_drop ?_ | refine st_next ?_ | refine st_par ?_ | refine st_asg ?_ | refine st_rt0 ?_ | refine st_nx0 ?_ | refine st_brk ?_ | refine st_cnt ?_ | refine st_retN ?_ | refine st_op ?_ | refine st_op1 ?_ | refine st_an ?_ | refine st_ac ?_ | refine st_cb ?_ | refine st_tup ?_ | refine st_lst ?_ | refine st_to ?_ | refine st_tru ?_ | refine st_tnot ?_ | refine st_tand ?_ | refine st_tor ?_ | refine st_and ?_ | refine st_or ?_ | refine st_not ?_ | refine st_eif ?_ | refine st_chain ?_ | refine st_call ?_ | refine st_calli ?_ | refine st_isi ?_ | refine st_lrg ?_ | refine st_trg ?_ | refine st_sl ?_ | refine st_pn ?_ | refine st_ps ?_ | refine st_iseq ?_ | refine st_ir1 ?_ | refine st_ir2 ?_ | refine st_yes ?_ | refine st_c ?_ | refine st_xo ?_ | refine st_ox ?_ | refine st_cbe ?_ | refine st_true ?_ | refine st_ixe ?_ | refine st_dnew ?_ | refine st_ao0 ?_ | refine st_ao ?_ | refine st_trl ?_ | refine st_callk ?_ | refine st_callB ?_ | refine st_put ?_ | refine st_dput ?_ | refine st_g0 ?_ | refine st_sme ?_ | refine st_sme0 ?_ | refine st_pute ?_ | refine st_par3 ?_)
  | (with_reducible show (xVar _ _ _)); refine st_var rfl ?_
  | (with_reducible show (xVal _ _ _)); (first | refine st_val rfl ?_ | refine st_valL rfl rfl rfl ?_)
  | (with_reducible show (oMv _ _ _)); (first | refine st_mv rfl ?_ | refine st_mvL rfl rfl ?_)
  | (with_reducible show (eIxS _ _ _ _)); (first | refine st_ixT rfl ?_ | refine st_ixLs rfl ?_ | refine st_ixF rfl ?_ | refine st_ixTr rfl ?_ | refine st_ixDic rfl rfl ?_)
  | (with_reducible show (eLenS _ _ _)); (first | refine st_lenT rfl ?_ | refine st_lenD _ rfl ?_)
  | (with_reducible show (eEl _ _ _ _)); refine st_el rfl ?_
  | (with_reducible show (eApp _ _ _ _ _)); (first | refine st_app (listG_ls rfl) ?_ | refine st_app (listG_tr rfl) ?_)
  | (with_reducible show (sPutS _ _ _ _ _ _)); (first | refine st_putS rfl ?_ | refine st_putSD rfl ?_)
  | (with_reducible show (eInS _ _ _ _)); (first | refine st_in rfl ?_ | refine st_din rfl ?_)
  | (with_reducible show (eNotInS _ _ _ _)); (first | refine st_notin rfl ?_ | refine st_dnotin rfl ?_)
  | (with_reducible show (tInS _ _ _ _)); (first | refine st_tin rfl ?_ | refine st_tdin rfl ?_)
  | (with_reducible show (tNotInS _ _ _ _)); (first | refine st_tnotin rfl ?_ | refine st_tdnotin rfl ?_)
  | (with_reducible show (sDel _ _ _ _)); refine st_del rfl ?_
  | (with_reducible show (eSM _ _ _ _ _)); refine st_sm rfl ?_
  | (with_reducible show (gN _ _ _ _)); refine st_gn rfl ?_
  | (with_reducible show (gConss _ _ _ _ _)); refine st_gc ?_
  | (with_reducible show (gTupD _ _ _ _ _)); refine st_gt rfl ?_
  | (with_reducible show (∃ d b, _ = some d ∧ kitD d _ = some b ∧ _)); (first | refine ⟨_, true, rfl, (rfl : kitD _ _ = some true), ?_⟩ | refine ⟨_, false, rfl, (rfl : kitD _ _ = some false), ?_⟩)
  | (with_reducible show (∃ _, _)); (first | refine ⟨_, rfl, ?_⟩ | refine ⟨_, _, rfl, rfl, ?_⟩ | refine ⟨_, _, _, rfl, rfl, rfl, ?_⟩ | refine ⟨_, _, _, _, rfl, rfl, rfl, ?_⟩ | refine ⟨_, _, _, _, rfl, rfl, rfl, rfl, ?_⟩ | refine ⟨_, _, _, rfl, .inl ⟨_, rfl, rfl, rfl⟩, ?_⟩)
  | (with_reducible show ((∃ _, _) ∧ _)); (first | refine ⟨⟨_, rfl, _, .inl rfl⟩, ?_⟩ | refine ⟨⟨_, rfl, [], .inr ⟨_, rfl⟩⟩, ?_⟩)
  | (with_reducible show (_ ≤ sizeLine ∧ _)); refine ⟨Evl.sz_of (Nat.le_of_ble_eq_true rfl), ?_⟩)
local macro_rules | `(tactic| walk_at "op") => `(tactic| first
  | (with_reducible show (opAdd _ _ _)); (first | refine op_addI ?_)
  | (with_reducible show (opSub _ _ _)); (first | refine op_subI ?_)
  | (with_reducible show (opLt _ _ _)); (first | refine op_ltI ?_)
  | (with_reducible show (opLe _ _ _)); (first | refine op_leI ?_)
  | (with_reducible show (opGt _ _ _)); (first | refine op_gtI ?_)
  | (with_reducible show (opGe _ _ _)); (first | refine op_geI ?_)
  | (with_reducible show (opEq _ _ _)); (first | refine op_eqI ?_ | refine op_eqB ?_)
  | (with_reducible show (opNe _ _ _)); (first | refine op_neI ?_ | refine op_neB ?_)
  | (with_reducible show (opIsN _ _ _)); (first | refine op_isNone ?_ | refine op_isInt ?_ | refine op_isTup ?_ | refine op_isBl ?_ | refine op_isSt ?_ | refine op_isLs ?_)
  | (with_reducible show (opNotN _ _ _)); (first | refine op_notNone ?_ | refine op_notTup ?_)
  | (with_reducible show (opIx _ _ _)); (first | refine op_ixT0 rfl ?_ | refine op_ixT1 rfl ?_ | refine op_ixT2 rfl ?_ | refine op_ixL0 rfl ?_ | refine op_ixL1 rfl ?_)
  | (with_reducible show (cdLen _ _)); (first | refine cd_lenL ?_ | refine cd_lenT ?_)
  | (with_reducible show (cdInt _ _)); (first | refine cd_intI ?_ | refine cd_intB ?_)
  | (with_reducible show (cdTuple _ _)); (first | refine cd_tupL ?_ | refine cd_tupT ?_)
  | (with_reducible show (cdList _ _)); (first | refine cd_listL ?_ | refine cd_listT ?_)
  | (with_reducible show (cdAbs _ _)); (first | refine cd_absI ?_)
  | (with_reducible show (cdMin2 _ _)); (first | refine cd_min2I ?_)
  | (with_reducible show (cdMax2 _ _)); (first | refine cd_max2I ?_)
  | (with_reducible show (sdAll _ _ _ _)); (first | refine sd_T ?_ | refine sd_L ?_))
local macro_rules | `(tactic| walk_at "go") => `(tactic| repeat (first | walk_at "vs" | walk_at "op"))
local macro_rules | `(tactic| walk_at "gb") => `(tactic| repeat (first | walk_at "vs" | walk_at "op" | with_reducible (first | refine br_t ?_ | refine br_f ?_ | refine br_nt ?_ | refine br_nf ?_)))
namespace K09
open FM
theorem joinRow_succ (rs : List Rule) (i n : Nat) : joinRow rs i (n + 1) = joinRow rs i n ++ joinAt rs i (i + 1 + n) := by
  unfold joinRow; rw [List.range_succ, List.flatMap_append, List.flatMap_singleton]
theorem joinAll_succ (rs : List Rule) (n : Nat) : joinAll rs (n + 1) = joinAll rs n ++ joinRow rs n (rs.length - (n + 1)) := by
  unfold joinAll; rw [List.range_succ, List.flatMap_append, List.flatMap_singleton]
theorem joinAt_len (rs : List Rule) (i j : Nat) : (joinAt rs i j).length ≤ 1 := by
  unfold joinAt; split <;> simp
theorem joinRow_len (rs : List Rule) (i n : Nat) : (joinRow rs i n).length ≤ n := by
  induction n with
  | zero => simp [joinRow]
  | succ n ih => rw [joinRow_succ, List.length_append]; have := joinAt_len rs i (i + 1 + n); omega
theorem joinAll_len (rs : List Rule) (h : rs.length ≤ 20) (n : Nat) : (joinAll rs n).length ≤ n * 20 := by
  induction n with
  | zero => simp [joinAll]
  | succ n ih => rw [joinAll_succ, List.length_append]; have := joinRow_len rs n (rs.length - (n + 1)); omega
theorem rng_shift (n i : Nat) : rangeD ((i : Int) + 1) (((n : Nat) : Int) - ((i : Int) + 1)).toNat = (List.range (n - (i + 1))).map fun (k : Nat) => PyData.int ((i + 1 + k : Nat) : Int) := by
  unfold rangeD
  rw [show (((n : Nat) : Int) - ((i : Int) + 1)).toNat = n - (i + 1) by omega]
  exact List.map_congr_left fun k _ => by congr 1
theorem len_joins_of : ∀ ds Q, wp_joins_of ds Q → ds.length = 1 := fun ds Q ⟨m, rs, e, _⟩ => by rw [e]; rfl
theorem rd_joins_of : ∀ ds Q, wp_joins_of ds Q → τ_joins_of (ends0 Q) (fzs ds ++ List.replicate (6 - ds.length) none) := fun ds Q ⟨m, rs, e, hm, hl, wf, q⟩ => by
  subst e
  refine st_nrm rfl ?_
  unfold τ_joins_of
  walk_at "go"
  refine for_inv (List.range rs.length) (fun (i : Nat) => PyData.int (i : Nat)) (fun i Γ' => ∃ x3 x4 x5, Γ' = [some (.fz (dS (m : Nat) rs)), some (.fz (dRs rs)), some (.ls (joinAll rs i)), x3, x4, x5]) (Γ1 := [some (.fz (dS (m : Nat) rs)), some (.fz (dRs rs)), some (.ls (joinAll rs 0)), none, none, none]) (fun QI q => ?_) ⟨none, none, none, rfl⟩ (fun i n Γ' en w => ?_) (fun Γ' w => ?_)
  · walk_at "go"
    refine ⟨szI (by omega) (by rw [List.length_map]; omega), ?_⟩
    rw [List.length_map, Int.toNat_natCast]
    exact q
  · obtain ⟨x3, x4, x5, rfl⟩ := w
    obtain ⟨il, rfl⟩ : i < rs.length ∧ i = n := by
      obtain ⟨h1, h2⟩ := List.getElem?_eq_some_iff.mp en
      rw [List.length_range] at h1
      rw [List.getElem_range] at h2
      exact ⟨h1, h2⟩
    have la := joinAll_len rs hl i
    walk_at "go"
    refine for_inv (List.range (rs.length - (i + 1))) (fun (k : Nat) => PyData.int ((i + 1 + k : Nat) : Int)) (fun k Γ' => ∃ x4 x5, Γ' = [some (.fz (dS (m : Nat) rs)), some (.fz (dRs rs)), some (.ls (joinAll rs i ++ joinRow rs i k)), some (.fz (.int (i : Nat))), x4, x5]) (Γ1 := [some (.fz (dS (m : Nat) rs)), some (.fz (dRs rs)), some (.ls (joinAll rs i ++ joinRow rs i 0)), some (.fz (.int (i : Nat))), x4, x5]) (fun QI q => ?_) ⟨x4, x5, rfl⟩ (fun k n Γ' en w => ?_) (fun Γ' w => ?_)
    · walk_at "go"
      refine ⟨_, _, rfl, ⟨(szI (by omega) (by omega)).1, (szI (by omega) (by omega)).2, (szI (by omega) (by rw [List.length_map]; omega)).1, (szI (by omega) (by rw [List.length_map]; omega)).2⟩, ?_⟩
      rw [List.length_map, rng_shift]
      have e0 : joinAll rs i ++ joinRow rs i 0 = joinAll rs i := by simp [joinRow]
      rw [e0] at q
      exact q
    · obtain ⟨x4, x5, rfl⟩ := w
      obtain ⟨kl, rfl⟩ : k < rs.length - (i + 1) ∧ k = n := by
        obtain ⟨h1, h2⟩ := List.getElem?_eq_some_iff.mp en
        rw [List.length_range] at h1
        rw [List.getElem_range] at h2
        exact ⟨h1, h2⟩
      have hj : i + 1 + k < rs.length := by omega
      have lr := joinRow_len rs i k
      walk_at "go"
      refine op_ixT i rfl (by rw [List.getElem?_map, List.getElem?_eq_getElem il]; rfl) ?_
      walk_at "go"
      refine op_ixT (i + 1 + k) rfl (by rw [List.getElem?_map, List.getElem?_eq_getElem hj]; rfl) ?_
      walk_at "go"
      refine ⟨m, rs[i], rs[i + 1 + k], rfl, wf _ (List.getElem_mem il), wf _ (List.getElem_mem hj), hm, ?_⟩
      walk_at "go"
      have ej : joinAt rs i (i + 1 + k) = match joinL rs[i] rs[i + 1 + k] with
        | some t => [.tuple [.int (i : Nat), .int ((i + 1 + k : Nat) : Int), dR t]]
        | none => [] := by
        unfold joinAt
        rw [List.getD_eq_getElem?_getD, List.getD_eq_getElem?_getD, List.getElem?_eq_getElem il, List.getElem?_eq_getElem hj]
        rfl
      cases h : joinL rs[i] rs[i + 1 + k] with
      | none =>
        walk_at "gb"
        exact ⟨_, _, by rw [joinRow_succ, ej, h, List.append_nil]⟩
      | some t =>
        walk_at "gb"
        refine st_appL rfl (by rw [List.length_append]; exact sz' (by omega)) rfl rfl ?_
        walk_at "go"
        exact ⟨_, _, by rw [joinRow_succ, ej, h, ← List.append_assoc]; rfl⟩
    · obtain ⟨x4, x5, rfl⟩ := w
      rw [List.length_range]
      exact ⟨_, _, _, by rw [joinAll_succ]⟩
  · obtain ⟨x3, x4, x5, rfl⟩ := w
    rw [List.length_range]
    walk_at "go"
    exact q
end K09
end
section
open VL PySem L2
local macro_rules | `(tactic| walk_at "vs") => `(tactic| first
  | with_reducible (first | refine st_seq ?_ | refine st_ret ?_ | refine st_set ?_ | refine st_if ?_ | refine st_drop ?_ | refine st_next ?_ | refine st_par ?_ | refine st_asg ?_ | refine st_rt0 ?_ | refine st_nx0 ?_ | refine st_brk ?_ | refine st_cnt ?_ | refine st_retN ?_ | refine st_op ?_ | refine st_op1 ?_ | refine st_an ?_ | refine st_ac ?_ | refine st_cb ?_ | refine st_tup ?_ | refine st_lst ?_ | refine st_to ?_ | refine st_tru ?_ | refine st_tnot ?_ | refine st_tand ?_ | refine st_tor ?_ | refine st_and ?_ | refine st_or ?_ | refine st_not ?_ | refine st_eif ?_ | refine st_chain ?_ | refine st_call ?_ | refine st_calli ?_ | refine st_isi ?_ | refine st_lrg ?_ | refine st_trg ?_ | refine st_sl ?_ | refine st_pn ?_ | refine st_ps ?_ | refine st_iseq ?_ | refine st_ir1 ?_ | refine st_ir2 ?_ | refine st_yes ?_ | refine st_c ?_ | refine st_xo ?_ | refine st_ox ?_ | refine st_cbe ?_ | refine st_true ?_ | refine st_ixe ?_ | refine st_dnew ?_ | refine st_ao0 ?_ | refine st_ao ?_ | refine st_trl ?_ | refine st_callk ?_ | refine st_callB ?_ | refine st_put ?_ | refine st_dput ?_ | refine st_g0 ?_ | refine st_sme ?_ | refine st_sme0 ?_ | refine st_pute ?_ | refine st_par3 ?_)
  | (with_reducible show (xVar _ _ _)); refine st_var rfl ?_
  | (with_reducible show (xVal _ _ _)); (first | refine st_val rfl ?_ | refine st_valL rfl rfl rfl ?_)
  | (with_reducible show (oMv _ _ _)); (first | refine st_mv rfl ?_ | refine st_mvL rfl rfl ?_)
  | (with_reducible show (eIxS _ _ _ _)); (first | refine st_ixT rfl ?_ | refine st_ixLs rfl ?_ | refine st_ixF rfl ?_ | refine st_ixTr rfl ?_ | refine st_ixDic rfl rfl ?_)
  | (with_reducible show (eLenS _ _ _)); (first | refine st_lenT rfl ?_ | refine st_lenD _ rfl ?_)
  | (with_reducible show (eEl _ _ _ _)); refine st_el rfl ?_
  | (with_reducible show (eApp _ _ _ _ _)); (first | refine st_app (listG_ls rfl) ?_ | refine st_app (listG_tr rfl) ?_)
  | (with_reducible show (sPutS _ _ _ _ _ _)); (first | refine st_putS rfl ?_ | refine st_putSD rfl ?_)
  | (with_reducible show (eInS _ _ _ _)); (first | refine st_in rfl ?_ | refine st_din rfl ?_)
  | (with_reducible show (eNotInS _ _ _ _)); (first | refine st_notin rfl ?_ | refine st_dnotin rfl ?_)
  | (with_reducible show (tInS _ _ _ _)); (first | refine st_tin rfl ?_ | refine st_tdin rfl ?_)
  | (with_reducible show (tNotInS _ _ _ _)); (first | refine st_tnotin rfl ?_ | refine st_tdnotin rfl ?_)
  | (with_reducible show (sDel _ _ _ _)); refine st_del rfl ?_
  | (with_reducible show (eSM _ _ _ _ _)); refine st_sm rfl ?_
  | (with_reducible show (gN _ _ _ _)); refine st_gn rfl ?_
  | (with_reducible show (gConss _ _ _ _ _)); refine st_gc ?_
  | (with_reducible show (gTupD _ _ _ _ _)); refine st_gt rfl ?_
  | (with_reducible show (∃ d b, _ = some d ∧ kitD d _ = some b ∧ _)); (first | refine ⟨_, true, rfl, (rfl : kitD _ _ = some true), ?_⟩ | refine ⟨_, false, rfl, (rfl : kitD _ _ = some false), ?_⟩)
  | (with_reducible show (∃ _, _)); (first | refine ⟨_, rfl, ?_⟩ | refine ⟨_, _, rfl, rfl, ?_⟩ | refine ⟨_, _, _, rfl, rfl, rfl, ?_⟩ | refine ⟨_, _, _, _, rfl, rfl, rfl, ?_⟩ | refine ⟨_, _, _, _, rfl, rfl, rfl, rfl, ?_⟩ | refine ⟨_, _, _, rfl, .inl ⟨_, rfl, rfl, rfl⟩, ?_⟩)
  | (with_reducible show ((∃ _, _) ∧ _)); (first | refine ⟨⟨_, rfl, _, .inl rfl⟩, ?_⟩ | refine ⟨⟨_, rfl, [], .inr ⟨_, rfl⟩⟩, ?_⟩)
  | (with_reducible show (_ ≤ sizeLine ∧ _)); refine ⟨Evl.sz_of (Nat.le_of_ble_eq_true rfl), ?_⟩)
local macro_rules | `(tactic| walk_at "op") => `(tactic| first
  | (with_reducible show (opAdd _ _ _)); (first | refine op_addI ?_)
  | (with_reducible show (opSub _ _ _)); (first | refine op_subI ?_)
  | (with_reducible show (opLt _ _ _)); (first | refine op_ltI ?_)
  | (with_reducible show (opLe _ _ _)); (first | refine op_leI ?_)
  | (with_reducible show (opGt _ _ _)); (first | refine op_gtI ?_)
  | (with_reducible show (opGe _ _ _)); (first | refine op_geI ?_)
  | (with_reducible show (opEq _ _ _)); (first | refine op_eqI ?_ | refine op_eqB ?_)
  | (with_reducible show (opNe _ _ _)); (first | refine op_neI ?_ | refine op_neB ?_)
  | (with_reducible show (opIsN _ _ _)); (first | refine op_isNone ?_ | refine op_isInt ?_ | refine op_isTup ?_ | refine op_isBl ?_ | refine op_isSt ?_ | refine op_isLs ?_)
  | (with_reducible show (opNotN _ _ _)); (first | refine op_notNone ?_ | refine op_notTup ?_)
  | (with_reducible show (opIx _ _ _)); (first | refine op_ixT0 rfl ?_ | refine op_ixT1 rfl ?_ | refine op_ixT2 rfl ?_ | refine op_ixL0 rfl ?_ | refine op_ixL1 rfl ?_)
  | (with_reducible show (cdLen _ _)); (first | refine cd_lenL ?_ | refine cd_lenT ?_)
  | (with_reducible show (cdInt _ _)); (first | refine cd_intI ?_ | refine cd_intB ?_)
  | (with_reducible show (cdTuple _ _)); (first | refine cd_tupL ?_ | refine cd_tupT ?_)
  | (with_reducible show (cdList _ _)); (first | refine cd_listL ?_ | refine cd_listT ?_)
  | (with_reducible show (cdAbs _ _)); (first | refine cd_absI ?_)
  | (with_reducible show (cdMin2 _ _)); (first | refine cd_min2I ?_)
  | (with_reducible show (cdMax2 _ _)); (first | refine cd_max2I ?_)
  | (with_reducible show (sdAll _ _ _ _)); (first | refine sd_T ?_ | refine sd_L ?_))
local macro_rules | `(tactic| walk_at "go") => `(tactic| repeat (first | walk_at "vs" | walk_at "op"))
local macro_rules | `(tactic| walk_at "gb") => `(tactic| repeat (first | walk_at "vs" | walk_at "op" | with_reducible (first | refine br_t ?_ | refine br_f ?_ | refine br_nt ?_ | refine br_nf ?_)))
namespace K09
open FM
theorem cut_to {α : Type} (xs : List α) (k : Nat) (h : k ≤ xs.length) : cutL xs none (some ((k : Nat) : Int)) = xs.take k := by
  unfold cutL
  rw [HT.sIx_nat, HT.sIx_none]
  simp
theorem cut_from {α : Type} (xs : List α) (k : Nat) (h : k ≤ xs.length) : cutL xs (some ((k : Nat) : Int)) none = xs.drop k := by
  unfold cutL
  rw [HT.sIx_nat, HT.sIx_none, Nat.min_eq_left h]
  exact List.take_of_length_le (by rw [List.length_drop]; omega)
theorem wf_keys {m : Nat} {r r' : Rule} (w : Wf m r) (e : r'.map (·.1) = r.map (·.1)) : Wf m r' where
  rng := fun l hl => by
    have : l.1 ∈ r.map (·.1) := by rw [← e]; exact List.mem_map.mpr ⟨l, hl, rfl⟩
    obtain ⟨x, hx, ex⟩ := List.mem_map.mp this
    rw [← ex]; exact w.rng x hx
  inc := by
    have h : (r'.map (·.1)).Pairwise (· < ·) := by rw [e]; exact List.pairwise_map.mpr w.inc
    exact List.pairwise_map.mp h
theorem wf_sub {m : Nat} {r r' : Rule} (w : Wf m r) (s : r'.Sublist r) : Wf m r' := ⟨fun l hl => w.rng l (s.subset hl), w.inc.sublist s⟩
/-- r with one literal put in another's place -/
def turnAt (r : Rule) (k : Nat) (l : Lit) : Rule := r.take k ++ [l] ++ r.drop (k + 1)
theorem turn_keys {r : Rule} {k : Nat} (h : k < r.length) (l : Lit) (e : l.1 = r[k].1) : (turnAt r k l).map (·.1) = r.map (·.1) := by
  unfold turnAt
  conv => rhs; rw [← List.take_append_drop k r, ← List.getElem_cons_drop h]
  rw [List.map_append, List.map_append, List.map_append, List.map_cons, List.map_cons, e]
  simp
theorem turn_len {r : Rule} {k : Nat} (h : k < r.length) (l : Lit) : (turnAt r k l).length = r.length := by
  unfold turnAt; simp; omega
theorem turn_dR (r : Rule) (k : Nat) (l : Lit) : PyData.tuple ((r.map dL).take k ++ [dL l] ++ (r.map dL).drop (k + 1)) = dR (turnAt r k l) := by
  unfold dR turnAt
  rw [List.map_append, List.map_append, List.map_take, List.map_drop]
  rfl
theorem less_dR (r : Rule) (k : Nat) : PyData.tuple ((r.map dL).take k ++ (r.map dL).drop (k + 1)) = dR (r.take k ++ r.drop (k + 1)) := by
  unfold dR
  rw [List.map_append, List.map_take, List.map_drop]
theorem less_sub {α : Type} (r : List α) (k : Nat) : (r.take k ++ r.drop (k + 1)).Sublist r := by
  conv => rhs; rw [← List.take_append_drop k r]
  exact (List.Sublist.refl _).append (by rw [← List.drop_drop]; exact List.drop_sublist _ _)
theorem len__law_near : ∀ o ds Q, wp__law_near o ds Q → ds.length + 1 = 3 := fun o ds Q ⟨c, m, r, _, _, e, _⟩ => by rw [e]; rfl
theorem rd__law_near : ∀ o ds Q, wp__law_near o ds Q → τ__law_near (ends1 Q) (some o :: fzs ds ++ List.replicate (13 - (ds.length + 1)) none) := fun o ds Q ⟨c, m, r, pk, hc, e, m1, hm, wr, q⟩ => by
  subst e
  have hc : c + 300 < 1000000 := hc
  have lr := wr.len
  refine st_nrm rfl ?_
  unfold τ__law_near
  walk_at "go"
  refine ⟨c, 3, 6, pk, (by show _ < 1000000; omega), rfl, by omega, (by show _ ≤ 1000000; omega), fun way o2 hw pk2 => ?_⟩
  walk_at "go"
  refine br2 (fun _ => ?_) (fun _ => ?_)
  · walk_at "gb"
    refine ⟨c + 1, m, pk2, (by show _ < 1000000; omega), rfl, m1, hm, fun r' o' w' p' => ?_⟩
    walk_at "go"
    exact ⟨_, rfl, q r' o' w' (p'.mono (by omega))⟩
  walk_at "go"
  refine br2 (fun _ => ?_) (fun c0 => ?_)
  · walk_at "go"
    refine ⟨c + 1, m, pk2, (by show _ < 1000000; omega), rfl, m1, hm, fun r' o' w' p' => ?_⟩
    walk_at "go"
    exact ⟨_, rfl, q r' o' w' (p'.mono (by omega))⟩
  have r0 : 0 < r.length := by rw [List.length_map] at c0; simp at c0; exact List.length_pos_iff.mpr (by simpa using c0)
  walk_at "go"
  refine ⟨c + 1, 1, r.length, pk2, (by show _ < 1000000; omega), by rw [List.length_map]; rfl, by omega, (by show _ ≤ 1000000; omega), fun at' o3 ha pk3 => ?_⟩
  have ha : at' < r.length := by omega
  walk_at "go"
  refine op_ixT at' rfl (by rw [List.getElem?_map, List.getElem?_eq_getElem ha]; rfl) ?_
  walk_at "go"
  refine br2 (fun _ => ?_) (fun _ => ?_)
  · walk_at "go"
    exact ⟨_, rfl, q r o3 wr (pk3.mono (by omega))⟩
  walk_at "go"
  have sz : ∀ k : Nat, ((r.map dL).take k).length ≤ 12 ∧ ((r.map dL).drop k).length ≤ 12 := fun k => by simp; omega
  have c1 := cut_to (r.map dL) at' (by rw [List.length_map]; omega)
  have c2 := cut_from (r.map dL) (at' + 1) (by rw [List.length_map]; omega)
  rw [show ((at' + 1 : Nat) : Int) = ((at' : Nat) : Int) + 1 by omega] at c2
  refine br2 (fun _ => ?_) (fun _ => ?_)
  · walk_at "gb"
    rw [c1, c2]
    refine op_addT (Evl.sz_of (by have := sz at'; have := sz (at' + 1); omega)) ?_
    rw [less_dR]
    exact ⟨_, rfl, q _ o3 (wf_sub wr (less_sub r at')) (pk3.mono (by omega))⟩
  walk_at "gb"
  rw [c1]
  refine op_addT (Evl.sz_of (by have := sz at'; simp at this ⊢; omega)) ?_
  walk_at "go"
  rw [c2]
  refine op_addT (Evl.sz_of (by have := sz at'; have := sz (at' + 1); simp at this ⊢; omega)) ?_
  rw [show PyData.tuple [.int r[at'].1, .bool !r[at'].2] = dL (neg r[at']) from rfl, turn_dR]
  have wt : Wf m (turnAt r at' (neg r[at'])) := wf_keys wr (turn_keys ha _ rfl)
  have lt : (turnAt r at' (neg r[at'])).length = r.length := turn_len ha _
  have ek : (turnAt r at' (neg r[at'])).map (·.1) = r.map (·.1) := turn_keys ha _ rfl
  generalize turnAt r at' (neg r[at']) = t at wt lt ek
  generalize r[at'].1 = bx
  generalize r[at'].2 = sg
  walk_at "gb"
  refine br2 (fun _ => ?_) (fun _ => ?_)
  · walk_at "gb"
    exact ⟨_, rfl, q t o3 wt (pk3.mono (by omega))⟩
  walk_at "gb"
  refine br2 (fun _ => ?_) (fun _ => ?_)
  · walk_at "gb"
    refine op_modI (by rw [List.length_map]; omega) ?_
    obtain ⟨more, em, hmo⟩ : ∃ more : Nat, (((at' : Nat) : Int) + 1) % (((r.map dL).length : Nat) : Int) = ((more : Nat) : Int) ∧ more < r.length := by
      rw [List.length_map]
      have h1 := Int.emod_nonneg (((at' : Nat) : Int) + 1) (show ((r.length : Nat) : Int) ≠ 0 by omega)
      have h2 := Int.emod_lt_of_pos (((at' : Nat) : Int) + 1) (show (0 : Int) < ((r.length : Nat) : Int) by omega)
      exact ⟨((((at' : Nat) : Int) + 1) % ((r.length : Nat) : Int)).toNat, by omega, by omega⟩
    rw [em]
    have d1 := cut_to (t.map dL) more (by rw [List.length_map]; omega)
    have d2 := cut_from (t.map dL) (more + 1) (by rw [List.length_map]; omega)
    rw [show ((more + 1 : Nat) : Int) = ((more : Nat) : Int) + 1 by omega] at d2
    have sz2 : ∀ k : Nat, ((t.map dL).take k).length ≤ 12 ∧ ((t.map dL).drop k).length ≤ 12 := fun k => by simp; omega
    walk_at "go"
    refine op_ixT more rfl (by rw [List.getElem?_map, List.getElem?_eq_getElem (show more < t.length by omega)]; rfl) ?_
    walk_at "go"
    refine op_ixT more rfl (by rw [List.getElem?_map, List.getElem?_eq_getElem hmo]; rfl) ?_
    walk_at "go"
    rw [d1]
    refine op_addT (Evl.sz_of (by have := sz2 more; simp at this ⊢; omega)) ?_
    walk_at "go"
    rw [d2]
    refine op_addT (Evl.sz_of (by have := sz2 more; have := sz2 (more + 1); simp at this ⊢; omega)) ?_
    rw [show PyData.tuple [.int t[more].1, .bool !r[more].2] = dL (t[more].1, !r[more].2) from rfl, turn_dR]
    exact ⟨_, rfl, q _ o3 (wf_keys wt (turn_keys (by omega) _ rfl)) (pk3.mono (by omega))⟩
  walk_at "gb"
  refine lc_inv t dL (fun i acc Γ' => ∃ o' ls, Γ' = [some o', some (.fz (.int (m : Nat))), some (.fz (dR r)), some (.fz (.int (way : Nat))), some (.fz (.int (at' : Nat))), some (.fz (.int bx)), some (.fz (.bool sg)), some (.fz (dR t)), none, none, none, none, none] ∧ acc = ls.map dL ∧ PoolOk (c + 2 + i) o' ∧ ls.Sublist (t.take i)) (Γ1 := [some o3, some (.fz (.int (m : Nat))), some (.fz (dR r)), some (.fz (.int (way : Nat))), some (.fz (.int (at' : Nat))), some (.fz (.int bx)), some (.fz (.bool sg)), some (.fz (dR t)), none, none, none, none, none]) (fun QI q => by walk_at "go"; exact q) (by exact plain1 (.inl rfl)) ⟨o3, [], rfl, rfl, pk3, by simp⟩ (fun i x acc Γ' ex w _ => ?_) (fun acc Γ' w => ?_)
  · obtain ⟨o', ls, rfl, rfl, pk', sb⟩ := w
    have il := (List.getElem?_eq_some_iff.mp ex).1
    have tk : t.take (i + 1) = t.take i ++ [x] := by rw [List.take_add_one, ex]; rfl
    have ll : ls.length ≤ i := by have := sb.length_le; rw [List.length_take] at this; omega
    have keep : ∀ o2, PoolOk (c + 2 + i + 1) o2 → ∃ (o' : O) (ls' : List Lit), ([some o2, some (.fz (.int (m : Nat))), some (.fz (dR r)), some (.fz (.int (way : Nat))), some (.fz (.int (at' : Nat))), some (.fz (.int bx)), some (.fz (.bool sg)), some (.fz (dR t)), none, none, none, none, none] : Ga) = [some o', some (.fz (.int (m : Nat))), some (.fz (dR r)), some (.fz (.int (way : Nat))), some (.fz (.int (at' : Nat))), some (.fz (.int bx)), some (.fz (.bool sg)), some (.fz (dR t)), none, none, none, none, none] ∧ ls.map dL ++ [dL x] = ls'.map dL ∧ PoolOk (c + 2 + (i + 1)) o' ∧ ls'.Sublist (t.take (i + 1)) := fun o2 p2 =>
      ⟨o2, ls ++ [x], rfl, by rw [List.map_append]; rfl, p2, by rw [tk]; exact sb.append (List.Sublist.refl _)⟩
    refine ⟨_, rfl, ?_⟩
    walk_at "go"
    refine br2 (fun _ => ?_) (fun _ => ?_)
    · walk_at "gb"
      exact ⟨by rw [List.length_map]; exact sz' (by omega), _, rfl, keep o' (pk'.mono (by omega))⟩
    walk_at "gb"
    refine ⟨c + 2 + i, 4, 2, pk', (by show _ < 1000000; omega), rfl, by omega, (by show _ ≤ 1000000; omega), fun n o2 hn pk2 => ?_⟩
    walk_at "gb"
    refine br2 (fun _ => ?_) (fun _ => ?_)
    · walk_at "gb"
      exact ⟨by rw [List.length_map]; exact sz' (by omega), _, rfl, keep o2 pk2⟩
    · exact ⟨_, rfl, o2, ls, rfl, rfl, pk2, by rw [tk]; exact sb.trans (List.sublist_append_left _ _)⟩
  · obtain ⟨o', kp, rfl, rfl, pk', sb⟩ := w
    rw [List.take_length] at sb
    have wk : Wf m kp := wf_sub wt sb
    have lk := wk.len
    walk_at "go"
    refine lc_go (List.range m) (fun (i : Nat) => PyData.int (i : Nat)) (fun i => !isIn (i : Int) (r.map (·.1))) (fun (i : Nat) => PyData.int (i : Nat)) (Γ1 := [some o', some (.fz (.int (m : Nat))), some (.fz (dR r)), some (.fz (.int (way : Nat))), some (.fz (.int (at' : Nat))), some (.fz (.int bx)), some (.fz (.bool sg)), some (.fz (dR t)), none, some (.ls (kp.map dL)), none, none, none]) (fun QI q => ?_) (Evl.sz_of (by rw [List.length_range]; omega)) (by exact plain1 (.inl rfl)) (fun i hi => ⟨_, _, rfl, fun QG q => ⟨_, rfl, q⟩, rfl, fun Q q => ?_, fun _ Q q => ?_⟩) ?_
    · walk_at "go"
      exact ⟨szI (by omega) (by omega), q⟩
    · walk_at "go"
      refine lc_map r dL (fun l => .int l.1) (fun QI q => by walk_at "go"; exact q) (Evl.sz_of (by omega)) (by exact plain1 (.inl rfl)) (fun l hl => ⟨_, _, rfl, fun QG q => ⟨_, rfl, q⟩, rfl, fun Q q => ?_⟩) ?_
      · walk_at "go"
        exact q
      · walk_at "go"
        rw [show r.map (fun l => PyData.int l.1) = (r.map (·.1)).map PyData.int by rw [List.map_map]; rfl]
        refine op_notInLE (enc := PyData.int) enc_int (by decide) ?_
        walk_at "go"
        exact q
    · walk_at "go"
      exact q
    walk_at "go"
    generalize ef : (List.range m).filter (fun (i : Nat) => !isIn ((i : Nat) : Int) (r.map fun x => x.1)) = free
    have ff : ∀ i ∈ free, i < m ∧ ((i : Nat) : Int) ∉ r.map (fun x => x.1) := fun i hi => by
      rw [← ef] at hi
      obtain ⟨h1, h2⟩ := List.mem_filter.mp hi
      exact ⟨List.mem_range.mp h1, isIn_false.mp (by simpa using h2)⟩
    have fn : free.Pairwise (· ≠ ·) := by rw [← ef]; exact List.nodup_range.filter _
    have fl : free.length ≤ m := by rw [← ef]; exact Nat.le_trans (List.length_filter_le _ _) (by simp)
    refine lc_inv free (fun (i : Nat) => PyData.int (i : Nat)) (fun i acc Γ' => ∃ o' ls, Γ' = [some o', some (.fz (.int (m : Nat))), some (.fz (dR r)), some (.fz (.int (way : Nat))), some (.fz (.int (at' : Nat))), some (.fz (.int bx)), some (.fz (.bool sg)), some (.fz (dR t)), none, some (.ls (kp.map dL)), some (.fz (.list (free.map fun (i : Nat) => PyData.int (i : Nat)))), none, none] ∧ acc = ls.map dL ∧ PoolOk (c + 14 + 2 * i) o' ∧ (ls.map (·.1)).Sublist ((free.take i).map fun (n : Nat) => (n : Int)))
      (Γ1 := [some o', some (.fz (.int (m : Nat))), some (.fz (dR r)), some (.fz (.int (way : Nat))), some (.fz (.int (at' : Nat))), some (.fz (.int bx)), some (.fz (.bool sg)), some (.fz (dR t)), none, some (.ls (kp.map dL)), some (.fz (.list (free.map fun (i : Nat) => PyData.int (i : Nat)))), none, none]) (fun QI q => ?_) (by exact plain1 (.inl rfl)) ⟨o', [], rfl, rfl, pk'.mono (by omega), by simp⟩ (fun i x acc Γ' ex w _ => ?_) (fun acc Γ' w => ?_)
    · walk_at "go"
      exact q
    · obtain ⟨o', ls, rfl, rfl, pk', sb⟩ := w
      have il := (List.getElem?_eq_some_iff.mp ex).1
      have tk : free.take (i + 1) = free.take i ++ [x] := by rw [List.take_add_one, ex]; rfl
      have ll : ls.length ≤ i := by have := sb.length_le; rw [List.length_map, List.length_map, List.length_take] at this; omega
      refine ⟨_, rfl, ?_⟩
      walk_at "go"
      refine ⟨c + 14 + 2 * i, 4, 3, pk', (by show _ < 1000000; omega), rfl, by omega, (by show _ ≤ 1000000; omega), fun n o2 hn pk2 => ?_⟩
      walk_at "go"
      refine br2 (fun _ => ?_) (fun _ => ?_)
      · walk_at "go"
        refine ⟨c + 14 + 2 * i + 1, 2, 2, pk2, (by show _ < 1000000; omega), rfl, by omega, (by show _ ≤ 1000000; omega), fun n2 o3 hn2 pk3 => ?_⟩
        walk_at "go"
        refine ⟨by rw [List.length_map]; exact sz' (by omega), _, rfl, o3, ls ++ [((x : Int), decide (((n2 : Nat) : Int) = 1))], rfl, by rw [List.map_append]; rfl, by rw [show c + 14 + 2 * (i + 1) = c + 14 + 2 * i + 1 + 1 by omega]; exact pk3, ?_⟩
        rw [tk, List.map_append, List.map_append]
        exact sb.append (List.Sublist.refl _)
      · refine ⟨_, rfl, o2, ls, rfl, rfl, pk2.mono (by omega), ?_⟩
        rw [tk, List.map_append]
        exact sb.trans (List.sublist_append_left _ _)
    · obtain ⟨o', ls, rfl, rfl, pk', sb2⟩ := w
      rw [List.take_length] at sb2
      have ll : ls.length ≤ m := by have := sb2.length_le; rw [List.length_map, List.length_map] at this; omega
      have mem : ∀ l ∈ ls, ∃ n ∈ free, l.1 = ((n : Nat) : Int) := fun l hl => by
        have := sb2.subset (List.mem_map.mpr ⟨l, hl, rfl⟩)
        obtain ⟨n, hn, e⟩ := List.mem_map.mp this
        exact ⟨n, hn, e.symm⟩
      have nd : (ls.map (·.1)).Pairwise (· ≠ ·) := List.Pairwise.sublist sb2 (List.pairwise_map.mpr (fn.imp fun {a b} h e => h (by omega)))
      obtain ⟨r', e1, wr', _⟩ := srt_wf (m := m) (ls := kp ++ ls) (fun l hl => by
        rcases List.mem_append.mp hl with h | h
        · exact wk.rng l h
        · obtain ⟨n, hn, e⟩ := mem l h
          have := (ff n hn).1
          omega) (by
        refine List.pairwise_append.mpr ⟨wk.inc.imp fun {a b} h => by omega, List.pairwise_map.mp nd, fun a ha b hb e => ?_⟩
        obtain ⟨n, hn, eb⟩ := mem b hb
        have hk : a.1 ∈ r.map (·.1) := by rw [← ek]; exact List.mem_map.mpr ⟨a, sb.subset ha, rfl⟩
        exact (ff n hn).2 (by rw [← eb, ← e]; exact hk))
      walk_at "go"
      refine op_addL (Evl.sz_of (by rw [List.length_map, List.length_map]; omega)) ?_
      walk_at "go"
      rw [← List.map_append]
      refine cd_sortedL (srtOk _ (by rw [List.length_append]; omega)) ?_
      rw [e1]
      walk_at "go"
      exact ⟨_, rfl, q r' o' wr' (pk'.mono (by omega))⟩
end K09
end
section
open VL PySem L2
local macro_rules | `(tactic| walk_at "vs") => `(tactic| first
  | with_reducible (first | refine st_seq ?_ | refine st_ret ?_ | refine st_set ?_ | refine st_if ?_ | refine st_drop ?_ | refine st_next ?_ | refine st_par ?_ | refine st_asg ?_ | refine st_rt0 ?_ | refine st_nx0 ?_ | refine st_brk ?_ | refine st_cnt ?_ | refine st_retN ?_ | refine st_op ?_ | refine st_op1 ?_ | refine st_an ?_ | refine st_ac ?_ | refine st_cb ?_ | refine st_tup ?_ | refine st_lst ?_ | refine st_to ?_ | refine st_tru ?_ | refine st_tnot ?_ | refine st_tand ?_ | refine st_tor ?_ | refine st_and ?_ | refine st_or ?_ | refine st_not ?_ | refine st_eif ?_ | refine st_chain ?_ | refine st_call ?_ | refine st_calli ?_ | refine st_isi ?_ | refine st_lrg ?_ | refine st_trg ?_ | refine st_sl ?_ | refine st_pn ?_ | refine st_ps ?_ | refine st_iseq ?_ | refine st_ir1 ?_ | refine st_ir2 ?_ | refine st_yes ?_ | refine st_c ?_ | refine st_xo ?_ | refine st_ox ?_ | refine st_cbe ?_ | refine st_true ?_ | refine st_ixe ?_ | refine st_dnew ?_ | refine st_ao0 ?_ | refine st_ao ?_ | refine st_trl ?_ | refine st_callk ?_ | refine st_callB ?_ | refine st_put ?_ | refine st_dput ?_ | refine st_g0 ?_ | refine st_sme ?_ | refine st_sme0 ?_ | refine st_pute ?_ | refine st_par3 ?_)
  | (with_reducible show (xVar _ _ _)); refine st_var rfl ?_
  | (with_reducible show (xVal _ _ _)); (first | refine st_val rfl ?_ | refine st_valL rfl rfl rfl ?_)
  | (with_reducible show (oMv _ _ _)); (first | refine st_mv rfl ?_ | refine st_mvL rfl rfl ?_)
  | (with_reducible show (eIxS _ _ _ _)); (first | refine st_ixT rfl ?_ | refine st_ixLs rfl ?_ | refine st_ixF rfl ?_ | refine st_ixTr rfl ?_ | refine st_ixDic rfl rfl ?_)
  | (with_reducible show (eLenS _ _ _)); (first | refine st_lenT rfl ?_ | refine st_lenD _ rfl ?_)
  | (with_reducible show (eEl _ _ _ _)); refine st_el rfl ?_
  | (with_reducible show (eApp _ _ _ _ _)); (first | refine st_app (listG_ls rfl) ?_ | refine st_app (listG_tr rfl) ?_)
  | (with_reducible show (sPutS _ _ _ _ _ _)); (first | refine st_putS rfl ?_ | refine st_putSD rfl ?_)
  | (with_reducible show (eInS _ _ _ _)); (first | refine st_in rfl ?_ | refine st_din rfl ?_)
  | (with_reducible show (eNotInS _ _ _ _)); (first | refine st_notin rfl ?_ | refine st_dnotin rfl ?_)
  | (with_reducible show (tInS _ _ _ _)); (first | refine st_tin rfl ?_ | refine st_tdin rfl ?_)
  | (with_reducible show (tNotInS _ _ _ _)); (first | refine st_tnotin rfl ?_ | refine st_tdnotin rfl ?_)
  | (with_reducible show (sDel _ _ _ _)); refine st_del rfl ?_
  | (with_reducible show (eSM _ _ _ _ _)); refine st_sm rfl ?_
  | (with_reducible show (gN _ _ _ _)); refine st_gn rfl ?_
  | (with_reducible show (gConss _ _ _ _ _)); refine st_gc ?_
  | (with_reducible show (gTupD _ _ _ _ _)); refine st_gt rfl ?_
  | (with_reducible show (∃ d b, _ = some d ∧ kitD d _ = some b ∧ _)); (first | refine ⟨_, true, rfl, (rfl : kitD _ _ = some true), ?_⟩ | refine ⟨_, false, rfl, (rfl : kitD _ _ = some false), ?_⟩)
  | (with_reducible show (∃ _, _)); (first | refine ⟨_, rfl, ?_⟩ | refine ⟨_, _, rfl, rfl, ?_⟩ | refine ⟨_, _, _, rfl, rfl, rfl, ?_⟩ | refine ⟨_, _, _, _, rfl, rfl, rfl, ?_⟩ | refine ⟨_, _, _, _, rfl, rfl, rfl, rfl, ?_⟩ | refine ⟨_, _, _, rfl, .inl ⟨_, rfl, rfl, rfl⟩, ?_⟩)
  | (with_reducible show ((∃ _, _) ∧ _)); (first | refine ⟨⟨_, rfl, _, .inl rfl⟩, ?_⟩ | refine ⟨⟨_, rfl, [], .inr ⟨_, rfl⟩⟩, ?_⟩)
  | (with_reducible show (_ ≤ sizeLine ∧ _)); refine ⟨Evl.sz_of (Nat.le_of_ble_eq_true rfl), ?_⟩)
local macro_rules | `(tactic| walk_at "op") => `(tactic| first
  | (with_reducible show (opAdd _ _ _)); (first | refine op_addI ?_)
  | (with_reducible show (opSub _ _ _)); (first | refine op_subI ?_)
  | (with_reducible show (opLt _ _ _)); (first | refine op_ltI ?_)
  | (with_reducible show (opLe _ _ _)); (first | refine op_leI ?_)
  | (with_reducible show (opGt _ _ _)); (first | refine op_gtI ?_)
  | (with_reducible show (opGe _ _ _)); (first | refine op_geI ?_)
  | (with_reducible show (opEq _ _ _)); (first | refine op_eqI ?_ | refine op_eqB ?_)
  | (with_reducible show (opNe _ _ _)); (first | refine op_neI ?_ | refine op_neB ?_)
  | (with_reducible show (opIsN _ _ _)); (first | refine op_isNone ?_ | refine op_isInt ?_ | refine op_isTup ?_ | refine op_isBl ?_ | refine op_isSt ?_ | refine op_isLs ?_)
  | (with_reducible show (opNotN _ _ _)); (first | refine op_notNone ?_ | refine op_notTup ?_)
  | (with_reducible show (opIx _ _ _)); (first | refine op_ixT0 rfl ?_ | refine op_ixT1 rfl ?_ | refine op_ixT2 rfl ?_ | refine op_ixL0 rfl ?_ | refine op_ixL1 rfl ?_)
  | (with_reducible show (cdLen _ _)); (first | refine cd_lenL ?_ | refine cd_lenT ?_)
  | (with_reducible show (cdInt _ _)); (first | refine cd_intI ?_ | refine cd_intB ?_)
  | (with_reducible show (cdTuple _ _)); (first | refine cd_tupL ?_ | refine cd_tupT ?_)
  | (with_reducible show (cdList _ _)); (first | refine cd_listL ?_ | refine cd_listT ?_)
  | (with_reducible show (cdAbs _ _)); (first | refine cd_absI ?_)
  | (with_reducible show (cdMin2 _ _)); (first | refine cd_min2I ?_)
  | (with_reducible show (cdMax2 _ _)); (first | refine cd_max2I ?_)
  | (with_reducible show (sdAll _ _ _ _)); (first | refine sd_T ?_ | refine sd_L ?_))
local macro_rules | `(tactic| walk_at "go") => `(tactic| repeat (first | walk_at "vs" | walk_at "op"))
local macro_rules | `(tactic| walk_at "gb") => `(tactic| repeat (first | walk_at "vs" | walk_at "op" | with_reducible (first | refine br_t ?_ | refine br_f ?_ | refine br_nt ?_ | refine br_nf ?_)))
namespace K09
open FM
theorem joinL_comm {m : Nat} {r s : Rule} (wr : Wf m r) (ws : Wf m s) (hm : m ≤ 12) : joinL s r = joinL r s := by
  unfold joinL
  have e : unl s r = unl r s := by
    have h : (clash r s).length = (clash s r).length := by
      have p : ((clash r s).map neg).Perm (clash s r) := by
        refine (List.perm_ext_iff_of_nodup ((clash_nd (s := s) wr).map neg (fun a b h e => h (by rw [← neg_neg' a, e, neg_neg']))) (clash_nd ws)).mpr fun l => ?_
        unfold clash hasL
        rw [List.mem_map, List.mem_filter]
        constructor
        · rintro ⟨x, hx, rfl⟩
          rw [List.mem_filter, isIn_iff] at hx
          exact ⟨hx.2, by rw [isIn_iff, neg_neg']; exact hx.1⟩
        · rintro ⟨h1, h2⟩
          rw [isIn_iff] at h2
          exact ⟨neg l, by rw [List.mem_filter, isIn_iff, neg_neg']; exact ⟨h2, h1⟩, neg_neg' l⟩
      rw [← p.length_eq, List.length_map]
    rw [unl_len wr ws, unl_len ws wr, h]
  rw [e]
  split
  · congr 1
    refine inc_ext (flat_inc s r 12).1 (flat_inc r s 12).1 fun l => ?_
    rw [join_mem ws wr hm, join_mem wr ws hm]
    constructor
    · rintro ⟨h1, h2, h3⟩; exact ⟨h1.symm, h3, h2⟩
    · rintro ⟨h1, h2, h3⟩; exact ⟨h1.symm, h3, h2⟩
  · rfl
theorem joinL_wf {m : Nat} {r s t : Rule} (wr : Wf m r) (ws : Wf m s) (hm : m ≤ 12) (e : joinL r s = some t) : Wf m t := by
  unfold joinL at e
  split at e
  · cases e
    exact ⟨fun l hl => by
      have := ((join_mem wr ws hm l).mp hl).1
      exact this.elim (wr.rng l) (ws.rng l), (flat_inc r s 12).1⟩
  · cases e
theorem join_holds {m : Nat} {r s t : Rule} (wr : Wf m r) (ws : Wf m s) (hm : m ≤ 12) (e : joinL r s = some t) {f : Fil} (hr : holds r f = true) (hs : holds s f = true) : holds t f = true := by
  unfold joinL at e
  split at e
  · rename_i e1
    cases e
    rw [unl_len wr ws] at e1
    obtain ⟨l0, ec⟩ := List.length_eq_one_iff.mp e1
    have cl : ∀ l, l ∈ r → neg l ∈ s → l = l0 := fun l h1 h2 => by
      have : l ∈ clash r s := List.mem_filter.mpr ⟨h1, isIn_iff.mpr h2⟩
      rw [ec] at this
      simpa using this
    unfold holds at hr hs ⊢
    rw [List.any_eq_true] at hr hs ⊢
    obtain ⟨a, ha, ha2⟩ := hr
    obtain ⟨b, hb, hb2⟩ := hs
    have ha2 := of_decide_eq_true ha2
    have hb2 := of_decide_eq_true hb2
    have un : ∀ l : Lit, f[l.1.toNat]? = some l.2 → f[l.1.toNat]? = some (!l.2) → False := fun l h1 h2 => by rw [h1] at h2; simp at h2
    by_cases c : neg a ∈ s
    · -- a is the clash: b stands
      have ea := cl a ha c
      refine ⟨b, (join_mem wr ws hm b).mpr ⟨.inr hb, fun z => ?_, fun z => ?_⟩, decide_eq_true hb2⟩
      · have e2 := cl (neg b) z (by rw [neg_neg']; exact hb)
        rw [← ea] at e2
        have e3 : b = neg a := by rw [← e2, neg_neg']
        subst e3
        exact un a ha2 hb2
      · have := congrArg Prod.snd (one_box ws hb z rfl); simp [neg] at this
    · refine ⟨a, (join_mem wr ws hm a).mpr ⟨.inl ha, fun z => ?_, c⟩, decide_eq_true ha2⟩
      have := congrArg Prod.snd (one_box wr ha z rfl); simp [neg] at this
  · cases e
theorem inside_self (r : Rule) : inside r r = true := by
  unfold inside hasL
  rw [List.all_eq_true]
  exact fun l hl => isIn_iff.mpr hl
theorem inside_cut {m : Nat} {r : Rule} (w : Wf m r) : inside r (r.take (r.length - 1)) = decide (r.length = 0) := by
  rcases List.eq_nil_or_concat r with rfl | ⟨r', l, rfl⟩
  · rfl
  · rw [List.concat_eq_append] at w ⊢
    rw [show (r' ++ [l]).take ((r' ++ [l]).length - 1) = r' by simp, decide_eq_false (by simp)]
    apply Bool.eq_false_iff.mpr
    intro z
    unfold inside hasL at z
    rw [List.all_eq_true] at z
    have h := isIn_iff.mp (z l (by simp))
    have := (List.pairwise_append.mp w.inc).2.2 l h l (by simp)
    omega
theorem plain_dR (r : Rule) : plain (dR r) = true := by
  show plainAll (r.map dL) = true
  induction r with
  | nil => rfl
  | cons x r ih => simpa [plainAll, plain, dL, dLit] using ih
theorem nodes_dR (r : Rule) : nodes (dR r) = 1 + 3 * r.length := by
  show 1 + nodesAll (r.map dL) = _
  congr 1
  induction r with
  | nil => rfl
  | cons x r ih =>
    rw [List.map_cons, List.length_cons]
    show nodes (dL x) + nodesAll (r.map dL) = _
    rw [ih]
    show (1 + (1 + (1 + 0))) + 3 * r.length = _
    omega
theorem plain_dOR (t : Option Rule) : plain (dOR t) = true := by cases t; rfl; exact plain_dR _
theorem nodes_dOR {m : Nat} {r s : Rule} (wr : Wf m r) (ws : Wf m s) (hm : m ≤ 12) : nodes (dOR (joinL r s)) ≤ 40 := by
  cases h : joinL r s with
  | none => show 1 ≤ 40; omega
  | some t =>
    have := (joinL_wf wr ws hm h).len
    show nodes (dR t) ≤ 40
    rw [nodes_dR]; omega
theorem len__law_two : ∀ o ds Q, wp__law_two o ds Q → ds.length + 1 = 4 := fun o ds Q ⟨c, m, r, s, _, e, _⟩ => by rw [e]; rfl
theorem rd__law_two : ∀ o ds Q, wp__law_two o ds Q → τ__law_two (ends1 Q) (some o :: fzs ds ++ List.replicate (7 - (ds.length + 1)) none) := fun o ds Q ⟨c, m, r, s, pk, e, m1, hm, wr, ws, q⟩ => by
  subst e
  have lr := wr.len
  have ls := ws.len
  refine st_nrm rfl ?_
  unfold τ__law_two
  walk_at "go"
  refine ⟨m, r, s, rfl, wr, ws, hm, ?_⟩
  walk_at "go"
  refine ⟨m, r, s, rfl, wr, ws, hm, ?_⟩
  walk_at "go"
  refine ⟨m, s, r, rfl, ws, wr, hm, ?_⟩
  walk_at "go"
  rw [joinL_comm wr ws hm]
  refine ⟨.tuple [dOR (joinL r s), dOR (joinL r s)], rfl, by simp [plain, plainAll, plain_dOR], by have := nodes_dOR wr ws hm; simp [nodes, nodesAll]; omega, ?_⟩
  walk_at "gb"
  refine ⟨r, s, rfl, by omega, by omega, ?_⟩
  walk_at "gb"
  refine ⟨s, r, rfl, by omega, by omega, ?_⟩
  walk_at "gb"
  refine ⟨[], r, rfl, by simp, by omega, ?_⟩
  walk_at "gb"
  refine ⟨r, r, rfl, by omega, by omega, ?_⟩
  walk_at "gb"
  have ex : (if (((r.map dL).length : Nat) : Int) - 1 > 0 then (((r.map dL).length : Nat) : Int) - 1 else 0) = ((r.length - 1 : Nat) : Int) := by rw [List.length_map]; split <;> omega
  rw [ex, cut_to _ _ (by rw [List.length_map]; omega), ← List.map_take]
  refine ⟨r, r.take (r.length - 1), rfl, by omega, by rw [List.length_take]; omega, ?_⟩
  rw [inside_cut wr, inside_self, show inside [] r = true from rfl]
  walk_at "gb"
  refine ⟨r, s, rfl, by omega, by omega, ?_⟩
  walk_at "gb"
  refine ⟨s, r, rfl, by omega, by omega, ?_⟩
  walk_at "gb"
  rw [show decide ((((r.map dL).length : Nat) : Int) = 0) = decide (r.length = 0) by rw [List.length_map]; congr 1; apply propext; omega]
  refine ⟨.tuple [.bool (inside r s), .bool (inside s r), .bool true, .bool true, .bool (decide (r.length = 0))], rfl, rfl, by simp [nodes, nodesAll], ?_⟩
  walk_at "gb"
  cases h : joinL r s with
  | none =>
    walk_at "gb"
    exact ⟨_, rfl, q⟩
  | some t =>
    have wt := joinL_wf wr ws hm h
    walk_at "gb"
    refine br2 (fun _ => ?_) (fun _ => ?_)
    · walk_at "gb"
      exact ⟨_, rfl, q⟩
    walk_at "gb"
    refine for_inv (allF m) dF (fun i Γ' => ∃ x5 x6, Γ' = [some o, some (.fz (.int (m : Nat))), some (.fz (dR r)), some (.fz (dR s)), some (.fz (dR t)), x5, x6]) (Γ1 := [some o, some (.fz (.int (m : Nat))), some (.fz (dR r)), some (.fz (dR s)), some (.fz (dR t)), some (.fz (.tuple [.bool (inside r s), .bool (inside s r), .bool true, .bool true, .bool (decide (r.length = 0))])), none]) (fun QI q => ?_) ⟨_, _, rfl⟩ (fun i f Γ' ef w => ?_) (fun Γ' w => ?_)
    · walk_at "gb"
      refine ⟨m, rfl, m1, hm, ?_⟩
      walk_at "gb"
      exact q
    · obtain ⟨x5, x6, rfl⟩ := w
      have lf := mem_allF.mp (List.mem_of_getElem? ef)
      walk_at "gb"
      refine ⟨r, f, rfl, fun l hl => by rw [lf]; exact wr.rng l hl, by omega, ?_⟩
      walk_at "gb"
      cases hr : holds r f with
      | false =>
        walk_at "gb"
        exact ⟨_, _, rfl⟩
      | true =>
        walk_at "gb"
        refine ⟨s, f, rfl, fun l hl => by rw [lf]; exact ws.rng l hl, by omega, ?_⟩
        walk_at "gb"
        cases hs : holds s f with
        | false =>
          walk_at "gb"
          exact ⟨_, _, rfl⟩
        | true =>
          walk_at "gb"
          refine ⟨t, f, rfl, fun l hl => by rw [lf]; exact wt.rng l hl, by have := wt.len; omega, ?_⟩
          rw [join_holds wr ws hm h hr hs]
          walk_at "gb"
          exact ⟨_, _, rfl⟩
    · obtain ⟨x5, x6, rfl⟩ := w
      walk_at "gb"
      exact ⟨_, rfl, q⟩
end K09
end
section
open VL PySem L2
local macro_rules | `(tactic| walk_at "vs") => `(tactic| first
  | with_reducible (first | refine st_seq ?_ | refine st_ret ?_ | refine st_set ?_ | refine st_if ?_ | refine st_drop ?_ | refine st_next ?_ | refine st_par ?_ | refine st_asg ?_ | refine st_rt0 ?_ | refine st_nx0 ?_ | refine st_brk ?_ | refine st_cnt ?_ | refine st_retN ?_ | refine st_op ?_ | refine st_op1 ?_ | refine st_an ?_ | refine st_ac ?_ | refine st_cb ?_ | refine st_tup ?_ | refine st_lst ?_ | refine st_to ?_ | refine st_tru ?_ | refine st_tnot ?_ | refine st_tand ?_ | refine st_tor ?_ | refine st_and ?_ | refine st_or ?_ | refine st_not ?_ | refine st_eif ?_ | refine st_chain ?_ | refine st_call ?_ | refine st_calli ?_ | refine st_isi ?_ | refine st_lrg ?_ | refine st_trg ?_ | refine st_sl ?_ | refine st_pn ?_ | refine st_ps ?_ | refine st_iseq ?_ | refine st_ir1 ?_ | refine st_ir2 ?_ | refine st_yes ?_ | refine st_c ?_ | refine st_xo ?_ | refine st_ox ?_ | refine st_cbe ?_ | refine st_true ?_ | refine st_ixe ?_ | refine st_dnew ?_ | refine st_ao0 ?_ | refine st_ao ?_ | refine st_trl ?_ | refine st_callk ?_ | refine st_callB ?_ | refine st_put ?_ | refine st_dput ?_ | refine st_g0 ?_ | refine st_sme ?_ | refine st_sme0 ?_ | refine st_pute ?_ | refine st_par3 ?_)
  | (with_reducible show (xVar _ _ _)); refine st_var rfl ?_
  | (with_reducible show (xVal _ _ _)); (first | refine st_val rfl ?_ | refine st_valL rfl rfl rfl ?_)
  | (with_reducible show (oMv _ _ _)); (first | refine st_mv rfl ?_ | refine st_mvL rfl rfl ?_)
  | (with_reducible show (eIxS _ _ _ _)); (first | refine st_ixT rfl ?_ | refine st_ixLs rfl ?_ | refine st_ixF rfl ?_ | refine st_ixTr rfl ?_ | refine st_ixDic rfl rfl ?_)
  | (with_reducible show (eLenS _ _ _)); (first | refine st_lenT rfl ?_ | refine st_lenD _ rfl ?_)
  | (with_reducible show (eEl _ _ _ _)); refine st_el rfl ?_
  | (with_reducible show (eApp _ _ _ _ _)); (first | refine st_app (listG_ls rfl) ?_ | refine st_app (listG_tr rfl) ?_)
  | (with_reducible show (sPutS _ _ _ _ _ _)); (first | refine st_putS rfl ?_ | refine st_putSD rfl ?_)
  | (with_reducible show (eInS _ _ _ _)); (first | refine st_in rfl ?_ | refine st_din rfl ?_)
  | (with_reducible show (eNotInS _ _ _ _)); (first | refine st_notin rfl ?_ | refine st_dnotin rfl ?_)
  | (with_reducible show (tInS _ _ _ _)); (first | refine st_tin rfl ?_ | refine st_tdin rfl ?_)
  | (with_reducible show (tNotInS _ _ _ _)); (first | refine st_tnotin rfl ?_ | refine st_tdnotin rfl ?_)
  | (with_reducible show (sDel _ _ _ _)); refine st_del rfl ?_
  | (with_reducible show (eSM _ _ _ _ _)); refine st_sm rfl ?_
  | (with_reducible show (gN _ _ _ _)); refine st_gn rfl ?_
  | (with_reducible show (gConss _ _ _ _ _)); refine st_gc ?_
  | (with_reducible show (gTupD _ _ _ _ _)); refine st_gt rfl ?_
  | (with_reducible show (∃ d b, _ = some d ∧ kitD d _ = some b ∧ _)); (first | refine ⟨_, true, rfl, (rfl : kitD _ _ = some true), ?_⟩ | refine ⟨_, false, rfl, (rfl : kitD _ _ = some false), ?_⟩)
  | (with_reducible show (∃ _, _)); (first | refine ⟨_, rfl, ?_⟩ | refine ⟨_, _, rfl, rfl, ?_⟩ | refine ⟨_, _, _, rfl, rfl, rfl, ?_⟩ | refine ⟨_, _, _, _, rfl, rfl, rfl, ?_⟩ | refine ⟨_, _, _, _, rfl, rfl, rfl, rfl, ?_⟩ | refine ⟨_, _, _, rfl, .inl ⟨_, rfl, rfl, rfl⟩, ?_⟩)
  | (with_reducible show ((∃ _, _) ∧ _)); (first | refine ⟨⟨_, rfl, _, .inl rfl⟩, ?_⟩ | refine ⟨⟨_, rfl, [], .inr ⟨_, rfl⟩⟩, ?_⟩)
  | (with_reducible show (_ ≤ sizeLine ∧ _)); refine ⟨Evl.sz_of (Nat.le_of_ble_eq_true rfl), ?_⟩)
local macro_rules | `(tactic| walk_at "op") => `(tactic| first
  | (with_reducible show (opAdd _ _ _)); (first | refine op_addI ?_)
  | (with_reducible show (opSub _ _ _)); (first | refine op_subI ?_)
  | (with_reducible show (opLt _ _ _)); (first | refine op_ltI ?_)
  | (with_reducible show (opLe _ _ _)); (first | refine op_leI ?_)
  | (with_reducible show (opGt _ _ _)); (first | refine op_gtI ?_)
  | (with_reducible show (opGe _ _ _)); (first | refine op_geI ?_)
  | (with_reducible show (opEq _ _ _)); (first | refine op_eqI ?_ | refine op_eqB ?_)
  | (with_reducible show (opNe _ _ _)); (first | refine op_neI ?_ | refine op_neB ?_)
  | (with_reducible show (opIsN _ _ _)); (first | refine op_isNone ?_ | refine op_isInt ?_ | refine op_isTup ?_ | refine op_isBl ?_ | refine op_isSt ?_ | refine op_isLs ?_)
  | (with_reducible show (opNotN _ _ _)); (first | refine op_notNone ?_ | refine op_notTup ?_)
  | (with_reducible show (opIx _ _ _)); (first | refine op_ixT0 rfl ?_ | refine op_ixT1 rfl ?_ | refine op_ixT2 rfl ?_ | refine op_ixL0 rfl ?_ | refine op_ixL1 rfl ?_)
  | (with_reducible show (cdLen _ _)); (first | refine cd_lenL ?_ | refine cd_lenT ?_)
  | (with_reducible show (cdInt _ _)); (first | refine cd_intI ?_ | refine cd_intB ?_)
  | (with_reducible show (cdTuple _ _)); (first | refine cd_tupL ?_ | refine cd_tupT ?_)
  | (with_reducible show (cdList _ _)); (first | refine cd_listL ?_ | refine cd_listT ?_)
  | (with_reducible show (cdAbs _ _)); (first | refine cd_absI ?_)
  | (with_reducible show (cdMin2 _ _)); (first | refine cd_min2I ?_)
  | (with_reducible show (cdMax2 _ _)); (first | refine cd_max2I ?_)
  | (with_reducible show (sdAll _ _ _ _)); (first | refine sd_T ?_ | refine sd_L ?_))
local macro_rules | `(tactic| walk_at "go") => `(tactic| repeat (first | walk_at "vs" | walk_at "op"))
local macro_rules | `(tactic| walk_at "gb") => `(tactic| repeat (first | walk_at "vs" | walk_at "op" | with_reducible (first | refine br_t ?_ | refine br_f ?_ | refine br_nt ?_ | refine br_nf ?_)))
namespace K09
open FM
theorem cut_sub {α : Type} (xs : List α) (lo hi : Option Int) : (cutL xs lo hi).Sublist xs := (List.take_sublist _ _).trans (List.drop_sublist _ _)
theorem plain_app (a b : List PyData) : plainAll (a ++ b) = (plainAll a && plainAll b) := by
  induction a with
  | nil => simp [plainAll]
  | cons x a ih => simp [plainAll, ih, Bool.and_assoc]
theorem joinAt_pl {m : Nat} {rs : List Rule} (wf : ∀ r ∈ rs, Wf m r) (hm : m ≤ 12) (i j : Nat) : plainAll (joinAt rs i j) = true ∧ nodesAll (joinAt rs i j) ≤ 50 := by
  have w : ∀ k : Nat, Wf m (rs.getD k []) := fun k => by
    rw [List.getD_eq_getElem?_getD]
    cases h : rs[k]? with
    | none => exact ⟨by simp, by simp⟩
    | some r => exact wf r (List.mem_of_getElem? h)
  unfold joinAt
  split
  · rename_i t h
    have := (joinL_wf (w i) (w j) hm h).len
    constructor
    · simp [plainAll, plain, plain_dR]
    · simp [nodesAll, nodes, nodes_dR]; omega
  · simp [plainAll, nodesAll]
theorem joinRow_pl {m : Nat} {rs : List Rule} (wf : ∀ r ∈ rs, Wf m r) (hm : m ≤ 12) (i n : Nat) : plainAll (joinRow rs i n) = true ∧ nodesAll (joinRow rs i n) ≤ 50 * n := by
  induction n with
  | zero => simp [joinRow, plainAll, nodesAll]
  | succ n ih =>
    have := joinAt_pl wf hm i (i + 1 + n)
    rw [joinRow_succ, plain_app, nodesAll_app, ih.1, this.1]
    exact ⟨rfl, by omega⟩
theorem joinAll_pl {m : Nat} {rs : List Rule} (wf : ∀ r ∈ rs, Wf m r) (hm : m ≤ 12) (hl : rs.length ≤ 20) (n : Nat) : plainAll (joinAll rs n) = true ∧ nodesAll (joinAll rs n) ≤ 1000 * n := by
  induction n with
  | zero => simp [joinAll, plainAll, nodesAll]
  | succ n ih =>
    have := joinRow_pl wf hm n (rs.length - (n + 1))
    rw [joinAll_succ, plain_app, nodesAll_app, ih.1, this.1]
    exact ⟨rfl, by omega⟩
theorem len__law_asked : ∀ o ds Q, wp__law_asked o ds Q → ds.length + 1 = 2 := fun o ds Q ⟨c, m, _, _, e, _⟩ => by rw [e]; rfl
theorem rd__law_asked : ∀ o ds Q, wp__law_asked o ds Q → τ__law_asked (ends1 Q) (some o :: fzs ds ++ List.replicate (11 - (ds.length + 1)) none) := fun o ds Q ⟨c, most, pk, hc, e, h1, h12, q⟩ => by
  subst e
  have hc : c + 5000 < 1000000 := hc
  refine st_nrm rfl ?_
  unfold τ__law_asked
  walk_at "go"
  refine ⟨c, 3, most, pk, (by show _ < 1000000; omega), rfl, by omega, (by show _ ≤ 1000000; omega), fun m0 o2 hm0 pk2 => ?_⟩
  have hm0 : m0 < most := by omega
  walk_at "go"
  rw [show (1 : Int) + ((m0 : Nat) : Int) = ((m0 + 1 : Nat) : Int) by omega]
  refine for_inv (List.range 5) (fun (i : Nat) => PyData.int (i : Nat)) (fun i Γ' => ∃ o' x3 x4, Γ' = [some o', some (.fz (.int (most : Nat))), some (.fz (.int (m0 + 1 : Nat))), x3, x4, none, none, none, none, none, none] ∧ PoolOk (c + 1 + 90 * i) o') (Γ1 := [some o2, some (.fz (.int (most : Nat))), some (.fz (.int (m0 + 1 : Nat))), none, none, none, none, none, none, none, none]) (fun QI q => ?_) ⟨o2, none, none, rfl, pk2⟩ (fun i n Γ' en w => ?_) (fun Γ' w => ?_)
  · walk_at "go"
    exact ⟨szI (by omega) (by omega), q⟩
  · obtain ⟨o', x3, x4, rfl, pk'⟩ := w
    have il : i < 5 := by have := (List.getElem?_eq_some_iff.mp en).1; simpa using this
    walk_at "go"
    refine ⟨c + 1 + 90 * i, m0 + 1, pk', (by show _ < 1000000; omega), rfl, by omega, by omega, fun r o3 wr pk3 => ?_⟩
    walk_at "go"
    refine ⟨c + 1 + 90 * i + 26, m0 + 1, r, pk3, (by show _ < 1000000; omega), rfl, by omega, by omega, wr, fun s o4 ws pk4 => ?_⟩
    walk_at "go"
    refine ⟨c + 1 + 90 * i + 26 + 60, m0 + 1, r, s, pk4, rfl, by omega, by omega, wr, ws, ?_⟩
    walk_at "gb"
    exact ⟨_, _, _, rfl, pk4.mono (by omega)⟩
  · obtain ⟨o', x3, x4, rfl, pk'⟩ := w
    rw [List.length_range] at pk'
    walk_at "go"
    refine ⟨c + 1 + 90 * 5, most, 6, pk', (by show _ < 1000000; omega), rfl, h1, h12, by omega, fun m rs o3 sm mm l6 pk3 => ?_⟩
    have wf := sm.2.2.2
    walk_at "go"
    refine for_inv (cutL rs none (some 3)) dR (fun i Γ' => ∃ o' x7 ns, Γ' = [some o', some (.fz (.int (most : Nat))), some (.fz (.int (m0 + 1 : Nat))), x3, x4, some (.fz (dS (m : Nat) rs)), some (.fz (dRs (rs ++ ns))), x7, none, none, none] ∧ PoolOk (c + 800 + 60 * i) o' ∧ ns.length = i ∧ ∀ r ∈ ns, Wf m r) (Γ1 := [some o3, some (.fz (.int (most : Nat))), some (.fz (.int (m0 + 1 : Nat))), x3, x4, some (.fz (dS (m : Nat) rs)), some (.fz (dRs (rs ++ []))), none, none, none, none]) (fun QI q => ?_) ⟨o3, none, [], rfl, pk3.mono (by omega), rfl, by simp⟩ (fun i r Γ' er w => ?_) (fun Γ' w => ?_)
    · walk_at "go"
      rw [cutL_map]
      rw [List.append_nil] at q
      exact q
    · obtain ⟨o', x7, ns, rfl, pk', ln, wn⟩ := w
      have l3 : (cutL rs none (some 3)).length ≤ 3 := by
        unfold cutL
        have : HT.sIx rs.length rs.length (some 3) ≤ 3 := by
          unfold HT.sIx
          simp
          omega
        rw [List.length_take]
        omega
      have il := (List.getElem?_eq_some_iff.mp er).1
      have wr : Wf m r := wf r ((cut_sub rs _ _).subset (List.mem_of_getElem? er))
      walk_at "go"
      refine ⟨c + 800 + 60 * i, m, r, pk', (by show _ < 1000000; omega), rfl, sm.1, by omega, wr, fun s o4 ws pk4 => ?_⟩
      walk_at "go"
      refine op_addT (Evl.sz_of (by rw [List.length_map, List.length_append]; simp; omega)) ?_
      walk_at "go"
      refine ⟨o4, some (.fz (dR r)), ns ++ [s], ?_, by rw [show c + 800 + 60 * (i + 1) = c + 800 + 60 * i + 60 by omega]; exact pk4, by rw [List.length_append, ln]; rfl, fun z hz => ?_⟩
      · rw [← List.append_assoc]
        have : dRs (rs ++ ns ++ [s]) = .tuple ((rs ++ ns).map dR ++ [dR s]) := by unfold dRs; rw [List.map_append]; rfl
        rw [this]
      · rcases List.mem_append.mp hz with h | h
        · exact wn z h
        · rw [List.mem_singleton.mp h]; exact ws
    · obtain ⟨o', x7, ns, rfl, pk', ln, wn⟩ := w
      have l3 : (cutL rs none (some 3)).length ≤ 3 := by
        unfold cutL
        have : HT.sIx rs.length rs.length (some 3) ≤ 3 := by
          unfold HT.sIx
          simp
          omega
        rw [List.length_take]
        omega
      have wf' : ∀ r ∈ rs ++ ns, Wf m r := fun r hr => (List.mem_append.mp hr).elim (wf r) (wn r)
      have ll : (rs ++ ns).length ≤ 20 := by rw [List.length_append]; omega
      generalize rs ++ ns = near at wf' ll
      walk_at "go"
      refine for_inv (List.range near.length) (fun (i : Nat) => PyData.int (i : Nat)) (fun i Γ' => ∃ x9 x10, Γ' = [some o', some (.fz (.int (most : Nat))), some (.fz (.int (m0 + 1 : Nat))), x3, x4, some (.fz (dS (m : Nat) rs)), some (.fz (dRs near)), x7, some (.ls (joinAll near i)), x9, x10]) (Γ1 := [some o', some (.fz (.int (most : Nat))), some (.fz (.int (m0 + 1 : Nat))), x3, x4, some (.fz (dS (m : Nat) rs)), some (.fz (dRs near)), x7, some (.ls (joinAll near 0)), none, none]) (fun QI q => ?_) ⟨none, none, rfl⟩ (fun i n Γ' en w => ?_) (fun Γ' w => ?_)
      · walk_at "go"
        refine ⟨szI (by omega) (by rw [List.length_map]; omega), ?_⟩
        rw [List.length_map, Int.toNat_natCast]
        exact q
      · obtain ⟨x9, x10, rfl⟩ := w
        obtain ⟨il, rfl⟩ : i < near.length ∧ i = n := by
          obtain ⟨h1, h2⟩ := List.getElem?_eq_some_iff.mp en
          rw [List.length_range] at h1
          rw [List.getElem_range] at h2
          exact ⟨h1, h2⟩
        have la := joinAll_len near ll i
        walk_at "go"
        refine for_inv (List.range (near.length - (i + 1))) (fun (k : Nat) => PyData.int ((i + 1 + k : Nat) : Int)) (fun k Γ' => ∃ x10, Γ' = [some o', some (.fz (.int (most : Nat))), some (.fz (.int (m0 + 1 : Nat))), x3, x4, some (.fz (dS (m : Nat) rs)), some (.fz (dRs near)), x7, some (.ls (joinAll near i ++ joinRow near i k)), some (.fz (.int (i : Nat))), x10]) (Γ1 := [some o', some (.fz (.int (most : Nat))), some (.fz (.int (m0 + 1 : Nat))), x3, x4, some (.fz (dS (m : Nat) rs)), some (.fz (dRs near)), x7, some (.ls (joinAll near i ++ joinRow near i 0)), some (.fz (.int (i : Nat))), x10]) (fun QI q => ?_) ⟨x10, rfl⟩ (fun k n Γ' en w => ?_) (fun Γ' w => ?_)
        · walk_at "go"
          refine ⟨_, _, rfl, ⟨(szI (by omega) (by omega)).1, (szI (by omega) (by omega)).2, (szI (by omega) (by rw [List.length_map]; omega)).1, (szI (by omega) (by rw [List.length_map]; omega)).2⟩, ?_⟩
          rw [List.length_map, rng_shift]
          have e0 : joinAll near i ++ joinRow near i 0 = joinAll near i := by simp [joinRow]
          rw [e0] at q
          exact q
        · obtain ⟨x10, rfl⟩ := w
          obtain ⟨kl, rfl⟩ : k < near.length - (i + 1) ∧ k = n := by
            obtain ⟨h1, h2⟩ := List.getElem?_eq_some_iff.mp en
            rw [List.length_range] at h1
            rw [List.getElem_range] at h2
            exact ⟨h1, h2⟩
          have hj : i + 1 + k < near.length := by omega
          have lr := joinRow_len near i k
          walk_at "go"
          refine op_ixT i rfl (by rw [List.getElem?_map, List.getElem?_eq_getElem il]; rfl) ?_
          walk_at "go"
          refine op_ixT (i + 1 + k) rfl (by rw [List.getElem?_map, List.getElem?_eq_getElem hj]; rfl) ?_
          walk_at "go"
          refine ⟨m, near[i], near[i + 1 + k], rfl, wf' _ (List.getElem_mem il), wf' _ (List.getElem_mem hj), by omega, ?_⟩
          walk_at "go"
          have ej : joinAt near i (i + 1 + k) = match joinL near[i] near[i + 1 + k] with
            | some t => [.tuple [.int (i : Nat), .int ((i + 1 + k : Nat) : Int), dR t]]
            | none => [] := by
            unfold joinAt
            rw [List.getD_eq_getElem?_getD, List.getD_eq_getElem?_getD, List.getElem?_eq_getElem il, List.getElem?_eq_getElem hj]
            rfl
          cases h : joinL near[i] near[i + 1 + k] with
          | none =>
            walk_at "gb"
            exact ⟨_, by rw [joinRow_succ, ej, h, List.append_nil]⟩
          | some t =>
            walk_at "gb"
            refine op_ixT i rfl (by rw [List.getElem?_map, List.getElem?_eq_getElem il]; rfl) ?_
            walk_at "go"
            refine op_ixT (i + 1 + k) rfl (by rw [List.getElem?_map, List.getElem?_eq_getElem hj]; rfl) ?_
            walk_at "go"
            refine ⟨m, near[i], near[i + 1 + k], rfl, wf' _ (List.getElem_mem il), wf' _ (List.getElem_mem hj), by omega, ?_⟩
            rw [h]
            walk_at "go"
            refine st_appL rfl (by rw [List.length_append]; exact sz' (by omega)) rfl rfl ?_
            walk_at "go"
            exact ⟨_, by rw [joinRow_succ, ej, h, ← List.append_assoc]; rfl⟩
        · obtain ⟨x10, rfl⟩ := w
          rw [List.length_range]
          exact ⟨_, _, by rw [joinAll_succ]⟩
      · obtain ⟨x9, x10, rfl⟩ := w
        rw [List.length_range]
        walk_at "go"
        refine ⟨m, near, rfl, by omega, ll, wf', ?_⟩
        walk_at "go"
        have jp := joinAll_pl wf' (by omega) ll near.length
        refine ⟨.tuple (joinAll near near.length), rfl, jp.1, by show 1 + nodesAll _ ≤ 50000; omega, ?_⟩
        walk_at "go"
        exact ⟨_, rfl, q o' (pk'.mono (by omega))⟩
end K09
end
section
open VL PySem L2
local macro_rules | `(tactic| walk_at "vs") => `(tactic| first
  | with_reducible (first | refine st_seq ?_ | refine st_ret ?_ | refine st_set ?_ | refine st_if ?_ | refine st_drop ?_ | refine st_next ?_ | refine st_par ?_ | refine st_asg ?_ | refine st_rt0 ?_ | refine st_nx0 ?_ | refine st_brk ?_ | refine st_cnt ?_ | refine st_retN ?_ | refine st_op ?_ | refine st_op1 ?_ | refine st_an ?_ | refine st_ac ?_ | refine st_cb ?_ | refine st_tup ?_ | refine st_lst ?_ | refine st_to ?_ | refine st_tru ?_ | refine st_tnot ?_ | refine st_tand ?_ | refine st_tor ?_ | refine st_and ?_ | refine st_or ?_ | refine st_not ?_ | refine st_eif ?_ | refine st_chain ?_ | refine st_call ?_ | refine st_calli ?_ | refine st_isi ?_ | refine st_lrg ?_ | refine st_trg ?_ | refine st_sl ?_ | refine st_pn ?_ | refine st_ps ?_ | refine st_iseq ?_ | refine st_ir1 ?_ | refine st_ir2 ?_ | refine st_yes ?_ | refine st_c ?_ | refine st_xo ?_ | refine st_ox ?_ | refine st_cbe ?_ | refine st_true ?_ | refine st_ixe ?_ | refine st_dnew ?_ | refine st_ao0 ?_ | refine st_ao ?_ | refine st_trl ?_ | refine st_callk ?_ | refine st_callB ?_ | refine st_put ?_ | refine st_dput ?_ | refine st_g0 ?_ | refine st_sme ?_ | refine st_sme0 ?_ | refine st_pute ?_ | refine st_par3 ?_)
  | (with_reducible show (xVar _ _ _)); refine st_var rfl ?_
  | (with_reducible show (xVal _ _ _)); (first | refine st_val rfl ?_ | refine st_valL rfl rfl rfl ?_)
  | (with_reducible show (oMv _ _ _)); (first | refine st_mv rfl ?_ | refine st_mvL rfl rfl ?_)
  | (with_reducible show (eIxS _ _ _ _)); (first | refine st_ixT rfl ?_ | refine st_ixLs rfl ?_ | refine st_ixF rfl ?_ | refine st_ixTr rfl ?_ | refine st_ixDic rfl rfl ?_)
  | (with_reducible show (eLenS _ _ _)); (first | refine st_lenT rfl ?_ | refine st_lenD _ rfl ?_)
  | (with_reducible show (eEl _ _ _ _)); refine st_el rfl ?_
  | (with_reducible show (eApp _ _ _ _ _)); (first | refine st_app (listG_ls rfl) ?_ | refine st_app (listG_tr rfl) ?_)
  | (with_reducible show (sPutS _ _ _ _ _ _)); (first | refine st_putS rfl ?_ | refine st_putSD rfl ?_)
  | (with_reducible show (eInS _ _ _ _)); (first | refine st_in rfl ?_ | refine st_din rfl ?_)
  | (with_reducible show (eNotInS _ _ _ _)); (first | refine st_notin rfl ?_ | refine st_dnotin rfl ?_)
  | (with_reducible show (tInS _ _ _ _)); (first | refine st_tin rfl ?_ | refine st_tdin rfl ?_)
  | (with_reducible show (tNotInS _ _ _ _)); (first | refine st_tnotin rfl ?_ | refine st_tdnotin rfl ?_)
  | (with_reducible show (sDel _ _ _ _)); refine st_del rfl ?_
  | (with_reducible show (eSM _ _ _ _ _)); refine st_sm rfl ?_
  | (with_reducible show (gN _ _ _ _)); refine st_gn rfl ?_
  | (with_reducible show (gConss _ _ _ _ _)); refine st_gc ?_
  | (with_reducible show (gTupD _ _ _ _ _)); refine st_gt rfl ?_
  | (with_reducible show (∃ d b, _ = some d ∧ kitD d _ = some b ∧ _)); (first | refine ⟨_, true, rfl, (rfl : kitD _ _ = some true), ?_⟩ | refine ⟨_, false, rfl, (rfl : kitD _ _ = some false), ?_⟩)
  | (with_reducible show (∃ _, _)); (first | refine ⟨_, rfl, ?_⟩ | refine ⟨_, _, rfl, rfl, ?_⟩ | refine ⟨_, _, _, rfl, rfl, rfl, ?_⟩ | refine ⟨_, _, _, _, rfl, rfl, rfl, ?_⟩ | refine ⟨_, _, _, _, rfl, rfl, rfl, rfl, ?_⟩ | refine ⟨_, _, _, rfl, .inl ⟨_, rfl, rfl, rfl⟩, ?_⟩)
  | (with_reducible show ((∃ _, _) ∧ _)); (first | refine ⟨⟨_, rfl, _, .inl rfl⟩, ?_⟩ | refine ⟨⟨_, rfl, [], .inr ⟨_, rfl⟩⟩, ?_⟩)
  | (with_reducible show (_ ≤ sizeLine ∧ _)); refine ⟨Evl.sz_of (Nat.le_of_ble_eq_true rfl), ?_⟩)
local macro_rules | `(tactic| walk_at "op") => `(tactic| first
  | (with_reducible show (opAdd _ _ _)); (first | refine op_addI ?_)
  | (with_reducible show (opSub _ _ _)); (first | refine op_subI ?_)
  | (with_reducible show (opLt _ _ _)); (first | refine op_ltI ?_)
  | (with_reducible show (opLe _ _ _)); (first | refine op_leI ?_)
  | (with_reducible show (opGt _ _ _)); (first | refine op_gtI ?_)
  | (with_reducible show (opGe _ _ _)); (first | refine op_geI ?_)
  | (with_reducible show (opEq _ _ _)); (first | refine op_eqI ?_ | refine op_eqB ?_)
  | (with_reducible show (opNe _ _ _)); (first | refine op_neI ?_ | refine op_neB ?_)
  | (with_reducible show (opIsN _ _ _)); (first | refine op_isNone ?_ | refine op_isInt ?_ | refine op_isTup ?_ | refine op_isBl ?_ | refine op_isSt ?_ | refine op_isLs ?_)
  | (with_reducible show (opNotN _ _ _)); (first | refine op_notNone ?_ | refine op_notTup ?_)
  | (with_reducible show (opIx _ _ _)); (first | refine op_ixT0 rfl ?_ | refine op_ixT1 rfl ?_ | refine op_ixT2 rfl ?_ | refine op_ixL0 rfl ?_ | refine op_ixL1 rfl ?_)
  | (with_reducible show (cdLen _ _)); (first | refine cd_lenL ?_ | refine cd_lenT ?_)
  | (with_reducible show (cdInt _ _)); (first | refine cd_intI ?_ | refine cd_intB ?_)
  | (with_reducible show (cdTuple _ _)); (first | refine cd_tupL ?_ | refine cd_tupT ?_)
  | (with_reducible show (cdList _ _)); (first | refine cd_listL ?_ | refine cd_listT ?_)
  | (with_reducible show (cdAbs _ _)); (first | refine cd_absI ?_)
  | (with_reducible show (cdMin2 _ _)); (first | refine cd_min2I ?_)
  | (with_reducible show (cdMax2 _ _)); (first | refine cd_max2I ?_)
  | (with_reducible show (sdAll _ _ _ _)); (first | refine sd_T ?_ | refine sd_L ?_))
local macro_rules | `(tactic| walk_at "go") => `(tactic| repeat (first | walk_at "vs" | walk_at "op"))
local macro_rules | `(tactic| walk_at "gb") => `(tactic| repeat (first | walk_at "vs" | walk_at "op" | with_reducible (first | refine br_t ?_ | refine br_f ?_ | refine br_nt ?_ | refine br_nf ?_)))
namespace K09
open FM
abbrev lA (s : Bool) : Lit := (0, s)
abbrev lB (j : Nat) (s : Bool) : Lit := ((j : Int), !s)
abbrev lC (k : Nat) (s : Bool) : Lit := ((k : Int), s)
abbrev lA' (s : Bool) : Lit := (0, !s)
abbrev lB' (j : Nat) (s : Bool) : Lit := ((j : Int), s)
def sureOk (j k : Nat) (s : Bool) : Bool :=
  decide (joinL [lA s, lB j s] [lA' s, lC k s] = some [lB j s, lC k s]) && decide (joinL [lA s, lB j s] [lA' s, lB' j s] = none) && decide (joinL [lA s, lB j s] [lA s, lC k s] = none) &&
  decide (joinL [lA s] [lA' s] = some []) && decide (joinL [] [lA s] = none) && decide (joinL [lA s, lB j s, lC k s] [lA' s, lB j s] = some [lB j s, lC k s]) && decide (joinL [lA s, lB j s] [lB' j s, lC k s] = some [lA s, lC k s]) &&
  decide (inside [lA s, lC k s] [lA s, lB j s, lC k s] = true) && decide (inside [lA s, lB j s] [lA s, lC k s] = false) && decide (inside [lA s] [] = false) &&
  decide (joinL [lA s, lB j s] [lA' s] = some [lB j s]) && decide (joinL [lA s, lB j s] [lA s, lB j s] = none) && decide (joinL [lA' s] [lA s, lB j s] = some [lB j s]) && decide (joinL [lA' s] [lB' j s, lC k s] = none) && decide (joinL [lA' s] [lA' s, lB' j s] = none) && decide (joinL [lB' j s, lC k s] [lA' s, lB' j s] = none)
theorem sure_all : ∀ k : Nat, k < 12 → ∀ j : Nat, j < k → 0 < j → ∀ s : Bool, sureOk j k s = true := by decide +kernel
structure SureF (j k : Nat) (s : Bool) : Prop where
  f1 : joinL [lA s, lB j s] [lA' s, lC k s] = some [lB j s, lC k s]
  f2 : joinL [lA s, lB j s] [lA' s, lB' j s] = none
  f3 : joinL [lA s, lB j s] [lA s, lC k s] = none
  f4 : joinL [lA s] [lA' s] = some []
  f5 : joinL [] [lA s] = none
  f6 : joinL [lA s, lB j s, lC k s] [lA' s, lB j s] = some [lB j s, lC k s]
  f7 : joinL [lA s, lB j s] [lB' j s, lC k s] = some [lA s, lC k s]
  f8 : inside [lA s, lC k s] [lA s, lB j s, lC k s] = true
  f9 : inside [lA s, lB j s] [lA s, lC k s] = false
  f10 : inside [lA s] [] = false
  f11 : joinL [lA s, lB j s] [lA' s] = some [lB j s]
  f12 : joinL [lA s, lB j s] [lA s, lB j s] = none
  f13 : joinL [lA' s] [lA s, lB j s] = some [lB j s]
  f14 : joinL [lA' s] [lB' j s, lC k s] = none
  f15 : joinL [lA' s] [lA' s, lB' j s] = none
  f16 : joinL [lB' j s, lC k s] [lA' s, lB' j s] = none
theorem sureF {j k : Nat} (s : Bool) (h0 : 0 < j) (h1 : j < k) (h2 : k < 12) : SureF j k s := by
  have h := sure_all k h2 j h1 h0 s
  unfold sureOk at h
  simp only [Bool.and_eq_true, decide_eq_true_eq] at h
  obtain ⟨⟨⟨⟨⟨⟨⟨⟨⟨⟨⟨⟨⟨⟨⟨a1, a2⟩, a3⟩, a4⟩, a5⟩, a6⟩, a7⟩, a8⟩, a9⟩, a10⟩, a11⟩, a12⟩, a13⟩, a14⟩, a15⟩, a16⟩ := h
  exact ⟨a1, a2, a3, a4, a5, a6, a7, a8, a9, a10, a11, a12, a13, a14, a15, a16⟩
theorem sure_rows {j k : Nat} {s : Bool} (F : SureF j k s) : joinAll [[lA s, lB j s], [lA' s], [lA s, lB j s], [lB' j s, lC k s], [lA' s, lB' j s]] 5 =
    [.tuple [.int 0, .int 1, dR [lB j s]], .tuple [.int 0, .int 3, dR [lA s, lC k s]], .tuple [.int 1, .int 2, dR [lB j s]], .tuple [.int 2, .int 3, dR [lA s, lC k s]]] := by
  show joinAll _ 5 = _
  simp [joinAll, joinRow, joinAt, List.range_succ, F.f2, F.f7, F.f11, F.f12, F.f13, F.f14, F.f15, F.f16]
theorem sure_row1 {j k : Nat} {s : Bool} (F : SureF j k s) : joinAll [[lA s], [lA' s]] 2 = [.tuple [.int 0, .int 1, dR []]] := by
  show joinAll _ 2 = _
  simp [joinAll, joinRow, joinAt, List.range_succ, F.f4]
theorem sure_row0 (r : Rule) : joinAll [r] 1 = [] := by
  simp [joinAll, joinRow, List.range_succ]
theorem w1 {m b : Nat} (h : b < m) (x : Bool) : Wf m [((b : Int), x)] := ⟨fun l hl => by rw [List.mem_singleton.mp hl]; show 0 ≤ (b : Int) ∧ (b : Int) < m; omega, by simp⟩
theorem w2 {m b c : Nat} (h : b < c) (h2 : c < m) (x y : Bool) : Wf m [((b : Int), x), ((c : Int), y)] := ⟨fun l hl => by
  simp only [List.mem_cons, List.not_mem_nil, or_false] at hl
  rcases hl with rfl | rfl
  · show 0 ≤ (b : Int) ∧ (b : Int) < m; omega
  · show 0 ≤ (c : Int) ∧ (c : Int) < m; omega, by simp; omega⟩
theorem w3 {m b c d : Nat} (h : b < c) (h2 : c < d) (h3 : d < m) (x y z : Bool) : Wf m [((b : Int), x), ((c : Int), y), ((d : Int), z)] := ⟨fun l hl => by
  simp only [List.mem_cons, List.not_mem_nil, or_false] at hl
  rcases hl with rfl | rfl | rfl
  · show 0 ≤ (b : Int) ∧ (b : Int) < m; omega
  · show 0 ≤ (c : Int) ∧ (c : Int) < m; omega
  · show 0 ≤ (d : Int) ∧ (d : Int) < m; omega, by simp; omega⟩
theorem len__law_sure : ∀ o ds Q, wp__law_sure o ds Q → ds.length + 1 = 1 := fun o ds Q ⟨c, _, _, e, _⟩ => by rw [e]; rfl
theorem rd__law_sure : ∀ o ds Q, wp__law_sure o ds Q → τ__law_sure (ends1 Q) (some o :: fzs ds ++ List.replicate (11 - (ds.length + 1)) none) := fun o ds Q ⟨c, pk, hc, e, q⟩ => by
  subst e
  have hc : c + 200 < 1000000 := hc
  refine st_nrm rfl ?_
  unfold τ__law_sure
  walk_at "go"
  refine ⟨c, 3, 10, pk, (by show _ < 1000000; omega), rfl, by omega, (by show _ ≤ 1000000; omega), fun n o2 hn pk2 => ?_⟩
  walk_at "go"
  refine ⟨c + 1, 2, 2, pk2, (by show _ < 1000000; omega), rfl, by omega, (by show _ ≤ 1000000; omega), fun n2 o3 hn2 pk3 => ?_⟩
  walk_at "go"
  generalize decide (((n2 : Nat) : Int) = 1) = s
  walk_at "go"
  refine ⟨c + 2, 1, n + 1, pk3, (by show _ < 1000000; omega), by rw [show (3 : Int) + ((n : Nat) : Int) - 2 = ((n + 1 : Nat) : Int) by omega]; rfl, by omega, (by show _ ≤ 1000000; omega), fun n3 o4 hn3 pk4 => ?_⟩
  walk_at "go"
  obtain ⟨j, ej⟩ : ∃ j : Nat, j = n3 + 1 := ⟨_, rfl⟩
  obtain ⟨k, ek⟩ : ∃ k : Nat, k = n + 2 := ⟨_, rfl⟩
  rw [show (1 : Int) + ((n3 : Nat) : Int) = ((j : Nat) : Int) by omega, show (3 : Int) + ((n : Nat) : Int) - 1 = ((k : Nat) : Int) by omega, show (3 : Int) + ((n : Nat) : Int) = ((k + 1 : Nat) : Int) by omega]
  have F := sureF (j := j) (k := k) s (by omega) (by omega) (by omega)
  have jk : j < k := by omega
  have a1 : Wf (k + 1) [lA s] := w1 (b := 0) (by omega) s
  have a1' : Wf (k + 1) [lA' s] := w1 (b := 0) (by omega) (!s)
  have ab : Wf (k + 1) [lA s, lB j s] := w2 (b := 0) (by omega) (by omega) s (!s)
  have a'c : Wf (k + 1) [lA' s, lC k s] := w2 (b := 0) (by omega) (by omega) (!s) s
  have ac : Wf (k + 1) [lA s, lC k s] := w2 (b := 0) (by omega) (by omega) s s
  have a'b' : Wf (k + 1) [lA' s, lB' j s] := w2 (b := 0) (by omega) (by omega) (!s) s
  have a'b : Wf (k + 1) [lA' s, lB j s] := w2 (b := 0) (by omega) (by omega) (!s) (!s)
  have b'c : Wf (k + 1) [lB' j s, lC k s] := w2 jk (by omega) s s
  have abc : Wf (k + 1) [lA s, lB j s, lC k s] := w3 (b := 0) (by omega) jk (by omega) s (!s) s
  have nil : Wf (k + 1) [] := ⟨by simp, by simp⟩
  have hm : k + 1 ≤ 12 := by omega
  refine ⟨_, _, _, _, _, _, rfl, rfl, rfl, rfl, ?_⟩
  walk_at "go"
  refine ⟨k + 1, [lA s, lB j s], [lA' s, lC k s], rfl, ab, a'c, hm, ?_⟩
  rw [F.f1]
  walk_at "go"
  refine ⟨k + 1, [lA s, lB j s], [lA' s, lB' j s], rfl, ab, a'b', hm, ?_⟩
  rw [F.f2]
  walk_at "go"
  refine ⟨k + 1, [lA s, lB j s], [lA s, lC k s], rfl, ab, ac, hm, ?_⟩
  rw [F.f3]
  walk_at "go"
  refine ⟨k + 1, [lA s], [lA' s], rfl, a1, a1', hm, ?_⟩
  rw [F.f4]
  walk_at "go"
  refine ⟨k + 1, [], [lA s], rfl, nil, a1, hm, ?_⟩
  rw [F.f5]
  walk_at "go"
  refine ⟨.tuple [dR [lB j s, lC k s], .none, .none, dR [], .none], rfl, rfl, by simp [nodes, nodesAll, dR, dL, dLit], ?_⟩
  walk_at "gb"
  refine ⟨k + 1, [lA s, lB j s, lC k s], [lA' s, lB j s], rfl, abc, a'b, hm, ?_⟩
  rw [F.f6]
  walk_at "gb"
  refine ⟨k + 1, [lA s, lB j s], [lB' j s, lC k s], rfl, ab, b'c, hm, ?_⟩
  rw [F.f7]
  walk_at "gb"
  refine ⟨[lA s, lC k s], [lA s, lB j s, lC k s], rfl, by simp, by simp, ?_⟩
  rw [F.f8]
  walk_at "gb"
  refine ⟨[lA s, lB j s], [lA s, lC k s], rfl, by simp, by simp, ?_⟩
  rw [F.f9]
  walk_at "gb"
  refine ⟨[lA s], [], rfl, by simp, by simp, ?_⟩
  rw [F.f10]
  walk_at "gb"
  refine ⟨.tuple [dR [lB j s, lC k s], dR [lA s, lC k s], .bool true, .bool false, .bool false], rfl, rfl, by simp [nodes, nodesAll, dR, dL, dLit], ?_⟩
  walk_at "gb"
  refine ⟨k + 1, [[lA s, lB j s], [lA' s], [lA s, lB j s], [lB' j s, lC k s], [lA' s, lB' j s]], rfl, hm, by simp, ?_, ?_⟩
  · intro r hr
    simp only [List.mem_cons, List.not_mem_nil, or_false] at hr
    rcases hr with rfl | rfl | rfl | rfl | rfl
    · exact ab
    · exact a1'
    · exact ab
    · exact b'c
    · exact a'b'
  rw [show ([[lA s, lB j s], [lA' s], [lA s, lB j s], [lB' j s, lC k s], [lA' s, lB' j s]] : List Rule).length = 5 from rfl, sure_rows F]
  walk_at "gb"
  refine ⟨k + 1, [[lA s], [lA' s]], rfl, hm, by simp, ?_, ?_⟩
  · intro r hr
    simp only [List.mem_cons, List.not_mem_nil, or_false] at hr
    rcases hr with rfl | rfl
    · exact a1
    · exact a1'
  rw [show ([[lA s], [lA' s]] : List Rule).length = 2 from rfl, sure_row1 F]
  walk_at "gb"
  refine ⟨k + 1, [[lA s, lB j s]], rfl, hm, by simp, fun r hr => by rw [List.mem_singleton.mp hr]; exact ab, ?_⟩
  rw [show ([[lA s, lB j s]] : List Rule).length = 1 from rfl, sure_row0]
  walk_at "gb"
  refine ⟨.tuple [.tuple [.tuple [.int 0, .int 1, dR [lB j s]], .tuple [.int 0, .int 3, dR [lA s, lC k s]], .tuple [.int 1, .int 2, dR [lB j s]], .tuple [.int 2, .int 3, dR [lA s, lC k s]]], .tuple [.tuple [.int 0, .int 1, dR []]], .tuple []], rfl, rfl, by simp [nodes, nodesAll, dR, dL, dLit], ?_⟩
  walk_at "gb"
  exact ⟨_, rfl, q o4 (pk4.mono (by omega))⟩
theorem len_law : ∀ ds Q, wp_law ds Q → ds.length = 1 := fun ds Q ⟨ns, e, _⟩ => by rw [e]; rfl
theorem rd_law : ∀ ds Q, wp_law ds Q → τ_law (ends0 Q) (fzs ds ++ List.replicate (3 - ds.length) none) := fun ds Q ⟨ns, e, hn, q⟩ => by
  subst e
  refine st_nrm rfl ?_
  unfold τ_law
  walk_at "go"
  refine ⟨ns, rfl, hn, fun o pk => ?_⟩
  walk_at "go"
  refine for_inv (List.range 2) (fun (i : Nat) => PyData.int (i : Nat)) (fun i Γ' => ∃ o' x, Γ' = [some (.fz (scD ns)), some o', x] ∧ PoolOk (1000 * i) o') (Γ1 := [some (.fz (scD ns)), some o, none]) (fun QI q => ?_) ⟨o, none, rfl, pk⟩ (fun i n Γ' en w => ?_) (fun Γ' w => ?_)
  · walk_at "go"
    exact ⟨szI (by omega) (by omega), q⟩
  · obtain ⟨o', x, rfl, pk'⟩ := w
    have il : i < 2 := by have := (List.getElem?_eq_some_iff.mp en).1; simpa using this
    walk_at "go"
    refine ⟨1000 * i, 5, pk', (by show _ < 1000000; omega), rfl, by omega, by omega, fun o3 pk3 => ?_⟩
    walk_at "gb"
    exact ⟨o3, _, rfl, pk3.mono (by omega)⟩
  · obtain ⟨o', x, rfl, pk'⟩ := w
    walk_at "go"
    refine ⟨1000 * 2, pk', (by show _ < 1000000; omega), rfl, fun o2 pk2 => ?_⟩
    walk_at "gb"
    refine ⟨1000 * 2 + 5, 5, 7, pk2, (by show _ < 1000000; omega), rfl, by omega, (by show _ ≤ 1000000; omega), fun n o3 hn3 pk3 => ?_⟩
    walk_at "gb"
    refine br2 (fun _ => ?_) (fun _ => ?_)
    · walk_at "gb"
      exact q
    · walk_at "gb"
      refine ⟨1000 * 2 + 6, 12, pk3, (by show _ < 1000000; omega), rfl, by omega, by omega, fun o4 pk4 => ?_⟩
      walk_at "gb"
      exact q
end K09
end
section
namespace K09
open PySem PySem.Spec L2 VL
def topS (i : Nat) : Stmt := PySem.Challenge.pw_forcedtold_k09_joins.main.body.getD i (.Pass ⟨0, 0, 0, 0⟩)
abbrev s_contrary_of : Stmt := topS 1
theorem sc_contrary_of : FnScope ["literal"] ["literal"] (defScope s_contrary_of) := ⟨rfl, rfl, rfl, by decide +kernel, rfl, by decide +kernel, by decide +kernel⟩
abbrev s_without_literal : Stmt := topS 2
theorem sc_without_literal : FnScope ["rule", "literal", "one"] ["rule", "literal"] (defScope s_without_literal) := ⟨rfl, rfl, rfl, by decide +kernel, rfl, by decide +kernel, by decide +kernel⟩
abbrev s_is_within : Stmt := topS 3
theorem sc_is_within : FnScope ["one", "other", "literal"] ["one", "other"] (defScope s_is_within) := ⟨rfl, rfl, rfl, by decide +kernel, rfl, by decide +kernel, by decide +kernel⟩
abbrev s_clashing : Stmt := topS 6
theorem sc_clashing : FnScope ["one", "other", "literal"] ["one", "other"] (defScope s_clashing) := ⟨rfl, rfl, rfl, by decide +kernel, rfl, by decide +kernel, by decide +kernel⟩
abbrev s_joined : Stmt := topS 7
theorem sc_joined : FnScope ["one", "other", "literals", "left", "right"] ["one", "other"] (defScope s_joined) := ⟨rfl, rfl, rfl, by decide +kernel, rfl, by decide +kernel, by decide +kernel⟩
abbrev s_join_of : Stmt := topS 9
theorem sc_join_of : FnScope ["one", "other"] ["one", "other"] (defScope s_join_of) := ⟨rfl, rfl, rfl, by decide +kernel, rfl, by decide +kernel, by decide +kernel⟩
abbrev s_is_within_2 : Stmt := topS 10
theorem sc_is_within_2 : FnScope ["one", "other"] ["one", "other"] (defScope s_is_within_2) := ⟨rfl, rfl, rfl, by decide +kernel, rfl, by decide +kernel, by decide +kernel⟩
abbrev s_joins_of : Stmt := topS 12
theorem sc_joins_of : FnScope ["sheet", "rules", "found", "one", "other", "join"] ["sheet"] (defScope s_joins_of) := ⟨rfl, rfl, rfl, by decide +kernel, rfl, by decide +kernel, by decide +kernel⟩
abbrev s__law_basin : Stmt := topS 14
theorem sc__law_basin : FnScope ["script", "mixed", "great", "cell", "size", "habits", "rest", "place"] ["script"] (defScope s__law_basin) := ⟨rfl, rfl, rfl, by decide +kernel, rfl, by decide +kernel, by decide +kernel⟩
abbrev s__law_scoop : Stmt := topS 15
theorem sc__law_scoop : FnScope ["basin", "place", "many", "size"] ["basin", "place", "many"] (defScope s__law_scoop) := ⟨rfl, rfl, rfl, by decide +kernel, rfl, by decide +kernel, by decide +kernel⟩
abbrev s__law_same : Stmt := topS 16
theorem sc__law_same : FnScope ["told", "due", "rest", "one", "other", "k"] ["told", "due"] (defScope s__law_same) := ⟨rfl, rfl, rfl, by decide +kernel, rfl, by decide +kernel, by decide +kernel⟩
abbrev s__law_some : Stmt := topS 17
theorem sc__law_some : FnScope ["basin", "m", "most", "rest", "told", "lap"] ["basin", "m", "most"] (defScope s__law_some) := ⟨rfl, rfl, rfl, by decide +kernel, rfl, by decide +kernel, by decide +kernel⟩
abbrev s__law_rule : Stmt := topS 18
theorem sc__law_rule : FnScope ["basin", "m", "size"] ["basin", "m"] (defScope s__law_rule) := ⟨rfl, rfl, rfl, by decide +kernel, rfl, by decide +kernel, by decide +kernel⟩
abbrev s__law_sheet : Stmt := topS 19
theorem sc__law_sheet : FnScope ["basin", "most", "many", "m", "lap"] ["basin", "most", "many"] (defScope s__law_sheet) := ⟨rfl, rfl, rfl, by decide +kernel, rfl, by decide +kernel, by decide +kernel⟩
abbrev s__law_every : Stmt := topS 20
theorem sc__law_every : FnScope ["m", "told", "number", "k"] ["m"] (defScope s__law_every) := ⟨rfl, rfl, rfl, by decide +kernel, rfl, by decide +kernel, by decide +kernel⟩
abbrev s__law_holds : Stmt := topS 21
theorem sc__law_holds : FnScope ["rule", "filling", "box", "sign"] ["rule", "filling"] (defScope s__law_holds) := ⟨rfl, rfl, rfl, by decide +kernel, rfl, by decide +kernel, by decide +kernel⟩
abbrev s__law_fillings : Stmt := topS 22
theorem sc__law_fillings : FnScope ["sheet", "told", "filling", "rule"] ["sheet"] (defScope s__law_fillings) := ⟨rfl, rfl, rfl, by decide +kernel, rfl, by decide +kernel, by decide +kernel⟩
abbrev s__law_joined : Stmt := topS 23
theorem sc__law_joined : FnScope ["one", "other", "boxes", "unlike", "box", "sign", "told", "mine", "each"] ["one", "other"] (defScope s__law_joined) := ⟨rfl, rfl, rfl, by decide +kernel, rfl, by decide +kernel, by decide +kernel⟩
abbrev s__law_inside : Stmt := topS 24
theorem sc__law_inside : FnScope ["one", "other", "literal"] ["one", "other"] (defScope s__law_inside) := ⟨rfl, rfl, rfl, by decide +kernel, rfl, by decide +kernel, by decide +kernel⟩
abbrev s__law_near : Stmt := topS 25
theorem sc__law_near : FnScope ["basin", "m", "rule", "way", "at", "box", "sign", "turned", "more", "kept", "free", "one", "each"] ["basin", "m", "rule"] (defScope s__law_near) := ⟨rfl, rfl, rfl, by decide +kernel, rfl, by decide +kernel, by decide +kernel⟩
abbrev s__law_two : Stmt := topS 26
theorem sc__law_two : FnScope ["basin", "m", "one", "other", "due", "told", "filling"] ["basin", "m", "one", "other"] (defScope s__law_two) := ⟨rfl, rfl, rfl, by decide +kernel, rfl, by decide +kernel, by decide +kernel⟩
abbrev s__law_asked : Stmt := topS 27
theorem sc__law_asked : FnScope ["basin", "most", "m", "lap", "one", "sheet", "near", "rule", "due", "at", "more"] ["basin", "most"] (defScope s__law_asked) := ⟨rfl, rfl, rfl, by decide +kernel, rfl, by decide +kernel, by decide +kernel⟩
abbrev s__law_sure : Stmt := topS 28
theorem sc__law_sure : FnScope ["basin", "m", "sign", "a", "b", "c", "contrary_a", "contrary_b", "told", "sheet", "due"] ["basin"] (defScope s__law_sure) := ⟨rfl, rfl, rfl, by decide +kernel, rfl, by decide +kernel, by decide +kernel⟩
abbrev s_law : Stmt := topS 29
theorem sc_law : FnScope ["script", "basin", "lap"] ["script"] (defScope s_law) := ⟨rfl, rfl, rfl, by decide +kernel, rfl, by decide +kernel, by decide +kernel⟩
structure Txt (K : PySem.W.Frag) (mg : Str → Option Value) where
  f_contrary_of : Addr
  fd_contrary_of : FuncData
  F_contrary_of : Fun K "contrary_of" "contrary_of" s_contrary_of f_contrary_of fd_contrary_of
  f_without_literal : Addr
  fd_without_literal : FuncData
  F_without_literal : Fun K "without_literal" "without_literal" s_without_literal f_without_literal fd_without_literal
  f_is_within : Addr
  fd_is_within : FuncData
  F_is_within : Fun K "is_within" "is_within" s_is_within f_is_within fd_is_within
  f_clashing : Addr
  fd_clashing : FuncData
  F_clashing : Fun K "clashing" "clashing" s_clashing f_clashing fd_clashing
  f_joined : Addr
  fd_joined : FuncData
  F_joined : Fun K "joined" "joined" s_joined f_joined fd_joined
  f_join_of : Addr
  fd_join_of : FuncData
  F_join_of : Fun K "join_of" "join_of" s_join_of f_join_of fd_join_of
  f_is_within_2 : Addr
  fd_is_within_2 : FuncData
  F_is_within_2 : Fun K "is_within" "is_within" s_is_within_2 f_is_within_2 fd_is_within_2
  f_joins_of : Addr
  fd_joins_of : FuncData
  F_joins_of : Fun K "joins_of" "joins_of" s_joins_of f_joins_of fd_joins_of
  f__law_basin : Addr
  fd__law_basin : FuncData
  F__law_basin : Fun K "_law_basin" "_law_basin" s__law_basin f__law_basin fd__law_basin
  f__law_scoop : Addr
  fd__law_scoop : FuncData
  F__law_scoop : Fun K "_law_scoop" "_law_scoop" s__law_scoop f__law_scoop fd__law_scoop
  f__law_same : Addr
  fd__law_same : FuncData
  F__law_same : Fun K "_law_same" "_law_same" s__law_same f__law_same fd__law_same
  f__law_some : Addr
  fd__law_some : FuncData
  F__law_some : Fun K "_law_some" "_law_some" s__law_some f__law_some fd__law_some
  f__law_rule : Addr
  fd__law_rule : FuncData
  F__law_rule : Fun K "_law_rule" "_law_rule" s__law_rule f__law_rule fd__law_rule
  f__law_sheet : Addr
  fd__law_sheet : FuncData
  F__law_sheet : Fun K "_law_sheet" "_law_sheet" s__law_sheet f__law_sheet fd__law_sheet
  f__law_every : Addr
  fd__law_every : FuncData
  F__law_every : Fun K "_law_every" "_law_every" s__law_every f__law_every fd__law_every
  f__law_holds : Addr
  fd__law_holds : FuncData
  F__law_holds : Fun K "_law_holds" "_law_holds" s__law_holds f__law_holds fd__law_holds
  f__law_joined : Addr
  fd__law_joined : FuncData
  F__law_joined : Fun K "_law_joined" "_law_joined" s__law_joined f__law_joined fd__law_joined
  f__law_inside : Addr
  fd__law_inside : FuncData
  F__law_inside : Fun K "_law_inside" "_law_inside" s__law_inside f__law_inside fd__law_inside
  f__law_near : Addr
  fd__law_near : FuncData
  F__law_near : Fun K "_law_near" "_law_near" s__law_near f__law_near fd__law_near
  f__law_two : Addr
  fd__law_two : FuncData
  F__law_two : Fun K "_law_two" "_law_two" s__law_two f__law_two fd__law_two
  f__law_asked : Addr
  fd__law_asked : FuncData
  F__law_asked : Fun K "_law_asked" "_law_asked" s__law_asked f__law_asked fd__law_asked
  f__law_sure : Addr
  fd__law_sure : FuncData
  F__law_sure : Fun K "_law_sure" "_law_sure" s__law_sure f__law_sure fd__law_sure
  f_law : Addr
  fd_law : FuncData
  F_law : Fun K "law" "law" s_law f_law fd_law
  g__law_asked : mg "_law_asked" = some (.ref f__law_asked)
  g__law_basin : mg "_law_basin" = some (.ref f__law_basin)
  g__law_every : mg "_law_every" = some (.ref f__law_every)
  g__law_holds : mg "_law_holds" = some (.ref f__law_holds)
  g__law_inside : mg "_law_inside" = some (.ref f__law_inside)
  g__law_joined : mg "_law_joined" = some (.ref f__law_joined)
  g__law_near : mg "_law_near" = some (.ref f__law_near)
  g__law_rule : mg "_law_rule" = some (.ref f__law_rule)
  g__law_same : mg "_law_same" = some (.ref f__law_same)
  g__law_scoop : mg "_law_scoop" = some (.ref f__law_scoop)
  g__law_sheet : mg "_law_sheet" = some (.ref f__law_sheet)
  g__law_some : mg "_law_some" = some (.ref f__law_some)
  g__law_sure : mg "_law_sure" = some (.ref f__law_sure)
  g__law_two : mg "_law_two" = some (.ref f__law_two)
  g_clashing : mg "clashing" = some (.ref f_clashing)
  g_contrary_of : mg "contrary_of" = some (.ref f_contrary_of)
  g_is_within_joins : mg "is_within_joins" = some (.ref f_is_within_2)
  g_is_within_literals : mg "is_within_literals" = some (.ref f_is_within)
  g_join_of : mg "join_of" = some (.ref f_join_of)
  g_joined : mg "joined" = some (.ref f_joined)
  g_joins_of : mg "joins_of" = some (.ref f_joins_of)
  g_without_literal : mg "without_literal" = some (.ref f_without_literal)
  n_abs : mg "abs" = none
  n_bool : mg "bool" = none
  n_int : mg "int" = none
  n_isinstance : mg "isinstance" = none
  n_len : mg "len" = none
  n_list : mg "list" = none
  n_max : mg "max" = none
  n_min : mg "min" = none
  n_range : mg "range" = none
  n_set : mg "set" = none
  n_sorted : mg "sorted" = none
  n_str : mg "str" = none
  n_tuple : mg "tuple" = none
section
variable {P : Program} {w : World} {K : PySem.W.Frag} {mg : Str → Option Value} {base : Heap}
theorem b_contrary_of (T : Txt K mg) : Binds K T.fd_contrary_of ["literal"] [] := T.F_contrary_of.binds fun _ _ _ _ _ _ us hl => match us, hl with | [_], _ => rfl
theorem b_without_literal (T : Txt K mg) : Binds K T.fd_without_literal ["rule", "literal"] [] := T.F_without_literal.binds fun _ _ _ _ _ _ us hl => match us, hl with | [_, _], _ => rfl
theorem b_is_within (T : Txt K mg) : Binds K T.fd_is_within ["one", "other"] [] := T.F_is_within.binds fun _ _ _ _ _ _ us hl => match us, hl with | [_, _], _ => rfl
theorem b_clashing (T : Txt K mg) : Binds K T.fd_clashing ["one", "other"] [] := T.F_clashing.binds fun _ _ _ _ _ _ us hl => match us, hl with | [_, _], _ => rfl
theorem b_joined (T : Txt K mg) : Binds K T.fd_joined ["one", "other"] [] := T.F_joined.binds fun _ _ _ _ _ _ us hl => match us, hl with | [_, _], _ => rfl
theorem b_join_of (T : Txt K mg) : Binds K T.fd_join_of ["one", "other"] [] := T.F_join_of.binds fun _ _ _ _ _ _ us hl => match us, hl with | [_, _], _ => rfl
theorem b_is_within_2 (T : Txt K mg) : Binds K T.fd_is_within_2 ["one", "other"] [] := T.F_is_within_2.binds fun _ _ _ _ _ _ us hl => match us, hl with | [_, _], _ => rfl
theorem b_joins_of (T : Txt K mg) : Binds K T.fd_joins_of ["sheet"] [] := T.F_joins_of.binds fun _ _ _ _ _ _ us hl => match us, hl with | [_], _ => rfl
theorem b__law_basin (T : Txt K mg) : Binds K T.fd__law_basin ["script"] [] := T.F__law_basin.binds fun _ _ _ _ _ _ us hl => match us, hl with | [_], _ => rfl
theorem b__law_scoop (T : Txt K mg) : Binds K T.fd__law_scoop ["basin", "place", "many"] [] := T.F__law_scoop.binds fun _ _ _ _ _ _ us hl => match us, hl with | [_, _, _], _ => rfl
theorem b__law_same (T : Txt K mg) : Binds K T.fd__law_same ["told", "due"] [] := T.F__law_same.binds fun _ _ _ _ _ _ us hl => match us, hl with | [_, _], _ => rfl
theorem b__law_some (T : Txt K mg) : Binds K T.fd__law_some ["basin", "m", "most"] [] := T.F__law_some.binds fun _ _ _ _ _ _ us hl => match us, hl with | [_, _, _], _ => rfl
theorem b__law_rule (T : Txt K mg) : Binds K T.fd__law_rule ["basin", "m"] [] := T.F__law_rule.binds fun _ _ _ _ _ _ us hl => match us, hl with | [_, _], _ => rfl
theorem b__law_sheet (T : Txt K mg) : Binds K T.fd__law_sheet ["basin", "most", "many"] [] := T.F__law_sheet.binds fun _ _ _ _ _ _ us hl => match us, hl with | [_, _, _], _ => rfl
theorem b__law_every (T : Txt K mg) : Binds K T.fd__law_every ["m"] [] := T.F__law_every.binds fun _ _ _ _ _ _ us hl => match us, hl with | [_], _ => rfl
theorem b__law_holds (T : Txt K mg) : Binds K T.fd__law_holds ["rule", "filling"] [] := T.F__law_holds.binds fun _ _ _ _ _ _ us hl => match us, hl with | [_, _], _ => rfl
theorem b__law_joined (T : Txt K mg) : Binds K T.fd__law_joined ["one", "other"] [] := T.F__law_joined.binds fun _ _ _ _ _ _ us hl => match us, hl with | [_, _], _ => rfl
theorem b__law_inside (T : Txt K mg) : Binds K T.fd__law_inside ["one", "other"] [] := T.F__law_inside.binds fun _ _ _ _ _ _ us hl => match us, hl with | [_, _], _ => rfl
theorem b__law_near (T : Txt K mg) : Binds K T.fd__law_near ["basin", "m", "rule"] [] := T.F__law_near.binds fun _ _ _ _ _ _ us hl => match us, hl with | [_, _, _], _ => rfl
theorem b__law_two (T : Txt K mg) : Binds K T.fd__law_two ["basin", "m", "one", "other"] [] := T.F__law_two.binds fun _ _ _ _ _ _ us hl => match us, hl with | [_, _, _, _], _ => rfl
theorem b__law_asked (T : Txt K mg) : Binds K T.fd__law_asked ["basin", "most"] [] := T.F__law_asked.binds fun _ _ _ _ _ _ us hl => match us, hl with | [_, _], _ => rfl
theorem b__law_sure (T : Txt K mg) : Binds K T.fd__law_sure ["basin"] [] := T.F__law_sure.binds fun _ _ _ _ _ _ us hl => match us, hl with | [_], _ => rfl
theorem b_law (T : Txt K mg) : Binds K T.fd_law ["script"] [] := T.F_law.binds fun _ _ _ _ _ _ us hl => match us, hl with | [_], _ => rfl
theorem kb_join_of_0_one_other (T : Txt K mg) : KBinds K T.fd_join_of ["one", "other"] ["one", "other"] (perm 0 2 [0, 1]) (perm 0 2 [0, 1]) := kbinds_of T.F_join_of (by decide) fun _ _ _ _ _ _ us ws hl hw => match us, ws, hl, hw with | [], [_, _], _, _ => rfl
theorem kb_join_of_0_other_one (T : Txt K mg) : KBinds K T.fd_join_of ["one", "other"] ["other", "one"] (perm 0 2 [1, 0]) (perm 0 2 [1, 0]) := kbinds_of T.F_join_of (by decide) fun _ _ _ _ _ _ us ws hl hw => match us, ws, hl, hw with | [], [_, _], _, _ => rfl
theorem kb_is_within_2_0_one_other (T : Txt K mg) : KBinds K T.fd_is_within_2 ["one", "other"] ["one", "other"] (perm 0 2 [0, 1]) (perm 0 2 [0, 1]) := kbinds_of T.F_is_within_2 (by decide) fun _ _ _ _ _ _ us ws hl hw => match us, ws, hl, hw with | [], [_, _], _, _ => rfl
theorem kb_is_within_2_0_other_one (T : Txt K mg) : KBinds K T.fd_is_within_2 ["one", "other"] ["other", "one"] (perm 0 2 [1, 0]) (perm 0 2 [1, 0]) := kbinds_of T.F_is_within_2 (by decide) fun _ _ _ _ _ _ us ws hl hw => match us, ws, hl, hw with | [], [_, _], _, _ => rfl
theorem kb_joins_of_0_sheet (T : Txt K mg) : KBinds K T.fd_joins_of ["sheet"] ["sheet"] (perm 0 1 [0]) (perm 0 1 [0]) := kbinds_of T.F_joins_of (by decide) fun _ _ _ _ _ _ us ws hl hw => match us, ws, hl, hw with | [], [_], _, _ => rfl
theorem ok_contrary_of (T : Txt K mg) : FnOk P w K mg base CX0 1 T.f_contrary_of T.fd_contrary_of ["literal"] (toSp0 K wp_contrary_of) :=
  vfn0 (τ := τ_contrary_of) T.F_contrary_of sc_contrary_of len_contrary_of (fun cdv A outer s H E hr => ((vss_one (vs_ret (vo_tup (va_cons (vx_o (vo_ixS 0 (hu_of hr) (pv 0) (vx_c pe_int (fun _ => .int _)))) (va_cons (vx_o (vo_not (vo_ixS 0 (hu_of hr) (pv 0) (vx_c pe_int (fun _ => .int _))))) va_nil))))) : PSs (cxOf CX0 P w K mg base _ _ _ T.f_contrary_of cdv A outer s H E).nox _ (lS K false τ_contrary_of))) rd_contrary_of
theorem ok_without_literal (T : Txt K mg) : FnOk P w K mg base CX0 1 T.f_without_literal T.fd_without_literal ["rule", "literal"] (toSp0 K wp_without_literal) :=
  vfn0 (τ := τ_without_literal) T.F_without_literal sc_without_literal len_without_literal (fun cdv A outer s H E hr => ((vss_one (vs_ret (vo_cty cd_tuple (by rfl) T.n_tuple (by decide +kernel) (va_cons (vx_o (vo_lc (own := [("one", 2)]) rfl sc_without_literal.nd (vi_seq (vx_val 0 (pv 0))) (blkOk_by (by kernel_rfl)) (fun _ _ _ _ _ => (vg_name sc_without_literal.nd rfl (.inl rfl) (by decide))) (by decide) (fun _ _ _ _ _ => (vts_one (vt_cmp (o2_ne (r64 hr)) (vx_var 2 (pv 2)) (vx_var 1 (pv 1)) (nomark _)))) (fun _ _ _ _ _ => (vx_val 2 (pv 2))))) va_nil)))) : PSs (cxOf CX0 P w K mg base _ _ _ T.f_without_literal cdv A outer s H E).nox _ (lS K false τ_without_literal))) rd_without_literal
theorem ok_is_within (T : Txt K mg) : FnOk P w K mg base CX0 1 T.f_is_within T.fd_is_within ["one", "other"] (toSp0 K wp_is_within) :=
  vfn0 (τ := τ_is_within) T.F_is_within sc_is_within len_is_within (fun cdv A outer s H E hr => ((vss_one (vs_ret (vo_cmp (o2_eq (r64 hr)) (vx_o (vo_cb cd_len (by rfl) T.n_len (by decide +kernel) (va_cons (vx_o (vo_lc (own := [("literal", 2)]) rfl sc_is_within.nd (vi_seq (vx_val 0 (pv 0))) (blkOk_by (by kernel_rfl)) (fun _ _ _ _ _ => (vg_name sc_is_within.nd rfl (.inl rfl) (by decide))) (by decide) (fun _ _ _ _ _ => (vts_one (vt_notInS 1 (r65 hr) (vx_var 2 (pv 2)) (pv 1)))) (fun _ _ _ _ _ => (vx_val 2 (pv 2))))) va_nil))) (vx_c pe_int (fun _ => .int _)) (nomark _)))) : PSs (cxOf CX0 P w K mg base _ _ _ T.f_is_within cdv A outer s H E).nox _ (lS K false τ_is_within))) rd_is_within
theorem ok_clashing (T : Txt K mg) : FnOk P w K mg base CX0 2 T.f_clashing T.fd_clashing ["one", "other"] (toSp0 K wp_clashing) :=
  vfn0 (τ := τ_clashing) T.F_clashing sc_clashing len_clashing (fun cdv A outer s H E hr => ((vss_one (vs_ret (vo_lc (own := [("literal", 2)]) rfl sc_clashing.nd (vi_seq (vx_val 0 (pv 0))) (blkOk_by (by kernel_rfl)) (fun _ _ _ _ _ => (vg_name sc_clashing.nd rfl (.inl rfl) (by decide))) (by decide) (fun _ _ _ _ _ => (vts_one (vt_inS 1 (r65 hr) (vx_o (vo_call (ok_contrary_of T) (hr.mono (by decide)) (by rfl) T.g_contrary_of T.F_contrary_of.kp (b_contrary_of T) .nil (fun _ => .nil) (va_cons (vx_val 2 (pv 2)) va_nil))) (pv 1)))) (fun _ _ _ _ _ => (vx_val 2 (pv 2)))))) : PSs (cxOf CX0 P w K mg base _ _ _ T.f_clashing cdv A outer s H E).nox _ (lS K false τ_clashing))) rd_clashing
theorem ok_joined (T : Txt K mg) : FnOk P w K mg base CX0 3 T.f_joined T.fd_joined ["one", "other"] (toSp0 K wp_joined) :=
  vfn0 (τ := τ_joined) T.F_joined sc_joined len_joined (fun cdv A outer s H E hr => ((vss_cons (vs_set (i := 2) sc_joined.nd rfl (.inl rfl) (by decide) (vo_call (ok_clashing T) (hr.mono (by decide)) (by rfl) T.g_clashing T.F_clashing.kp (b_clashing T) .nil (fun _ => .nil) (va_cons (vx_val 0 (pv 0)) (va_cons (vx_val 1 (pv 1)) va_nil))))
    (vss_cons (vs_if (vt_cmp (o2_ne (r64 hr)) (vx_o (vo_lenS 2 (by rfl) T.n_len (pv 2))) (vx_c pe_int (fun _ => .int _)) (nomark _))
    (vss_one (vs_ret (vo_x (vx_c pe_non (fun _ => .non)))))
    vss_nil)
    (vss_cons (vs_set (i := 3) sc_joined.nd rfl (.inl rfl) (by decide) (vo_call (ok_without_literal T) (hr.mono (by decide)) (by rfl) T.g_without_literal T.F_without_literal.kp (b_without_literal T) .nil (fun _ => .nil) (va_cons (vx_val 0 (pv 0)) (va_cons (vx_o (vo_ixS 2 (hu_of hr) (pv 2) (vx_c pe_int (fun _ => .int _)))) va_nil))))
    (vss_cons (vs_set (i := 4) sc_joined.nd rfl (.inl rfl) (by decide) (vo_call (ok_without_literal T) (hr.mono (by decide)) (by rfl) T.g_without_literal T.F_without_literal.kp (b_without_literal T) .nil (fun _ => .nil) (va_cons (vx_val 1 (pv 1)) (va_cons (vx_o (vo_call (ok_contrary_of T) (hr.mono (by decide)) (by rfl) T.g_contrary_of T.F_contrary_of.kp (b_contrary_of T) .nil (fun _ => .nil) (va_cons (vx_o (vo_ixS 2 (hu_of hr) (pv 2) (vx_c pe_int (fun _ => .int _)))) va_nil))) va_nil))))
    (vss_one (vs_ret (vo_cty cd_tuple (by rfl) T.n_tuple (by decide +kernel) (va_cons (vx_o (vo_srtSet rfl (r64 hr) (by rfl) T.n_sorted (by rfl) T.n_set (va_cons (vx_o (vo_op o2_add (vx_var 3 (pv 3)) (vx_var 4 (pv 4)))) va_nil))) va_nil)))))))) : PSs (cxOf CX0 P w K mg base _ _ _ T.f_joined cdv A outer s H E).nox _ (lS K false τ_joined))) rd_joined
theorem ok_join_of (T : Txt K mg) : FnOk P w K mg base CX0 4 T.f_join_of T.fd_join_of ["one", "other"] (toSp0 K wp_joined) :=
  vfn0 (τ := τ_join_of) T.F_join_of sc_join_of len_join_of (fun cdv A outer s H E hr => ((vss_one (vs_ret (vo_call (ok_joined T) (hr.mono (by decide)) (by rfl) T.g_joined T.F_joined.kp (b_joined T) .nil (fun _ => .nil) (va_cons (vx_val 0 (pv 0)) (va_cons (vx_val 1 (pv 1)) va_nil))))) : PSs (cxOf CX0 P w K mg base _ _ _ T.f_join_of cdv A outer s H E).nox _ (lS K false τ_join_of))) rd_join_of
theorem ok_is_within_2 (T : Txt K mg) : FnOk P w K mg base CX0 2 T.f_is_within_2 T.fd_is_within_2 ["one", "other"] (toSp0 K wp_is_within) :=
  vfn0 (τ := τ_is_within_2) T.F_is_within_2 sc_is_within_2 len_is_within_2 (fun cdv A outer s H E hr => ((vss_one (vs_ret (vo_call (ok_is_within T) (hr.mono (by decide)) (by rfl) T.g_is_within_literals T.F_is_within.kp (b_is_within T) .nil (fun _ => .nil) (va_cons (vx_val 0 (pv 0)) (va_cons (vx_val 1 (pv 1)) va_nil))))) : PSs (cxOf CX0 P w K mg base _ _ _ T.f_is_within_2 cdv A outer s H E).nox _ (lS K false τ_is_within_2))) rd_is_within_2
theorem ok_joins_of (T : Txt K mg) : FnOk P w K mg base CX0 4 T.f_joins_of T.fd_joins_of ["sheet"] (toSp0 K wp_joins_of) :=
  vfn0 (τ := τ_joins_of) T.F_joins_of sc_joins_of len_joins_of (fun cdv A outer s H E hr => ((vss_cons (vs_set (i := 1) sc_joins_of.nd rfl (.inl rfl) (by decide) (vo_ixS 0 (hu_of hr) (pv 0) (vx_c pe_int (fun _ => .int _))))
    (vss_cons (vs_set (i := 2) sc_joins_of.nd rfl (.inl rfl) (by decide) (vo_lst va_nil))
    (vss_cons (vs_for PassesOwn.never rfl (vi_range1 (by rfl) T.n_range (va_cons (vx_o (vo_lenS 1 (by rfl) T.n_len (pv 1))) va_nil)) (vg_name sc_joins_of.nd rfl (.inl rfl) (by decide))
    (vss_one (vs_for PassesOwn.never rfl (vi_range2 (by rfl) T.n_range (va_cons (vx_o (vo_op o2_add (vx_var 3 (pv 3)) (vx_c pe_int (fun _ => .int _)))) (va_cons (vx_o (vo_lenS 1 (by rfl) T.n_len (pv 1))) va_nil))) (vg_name sc_joins_of.nd rfl (.inl rfl) (by decide))
    (vss_cons (vs_set (i := 5) sc_joins_of.nd rfl (.inl rfl) (by decide) (vo_call (ok_joined T) (hr.mono (by decide)) (by rfl) T.g_joined T.F_joined.kp (b_joined T) .nil (fun _ => .nil) (va_cons (vx_o (vo_ixS 1 (hu_of hr) (pv 1) (vx_var 3 (pv 3)))) (va_cons (vx_o (vo_ixS 1 (hu_of hr) (pv 1) (vx_var 4 (pv 4)))) va_nil))))
    (vss_one (vs_if (vt_cmp o2_notN (vx_var 5 (pv 5)) (vx_c pe_non (fun _ => .non)) (nomark _))
    (vss_one (vs_expr (vo_app false 2 (pv 2) (vo_tup (va_cons (vx_val 3 (pv 3)) (va_cons (vx_val 4 (pv 4)) (va_cons (vx_val 5 (pv 5)) va_nil)))))))
    vss_nil))))))
    (vss_one (vs_ret (vo_cty cd_tuple (by rfl) T.n_tuple (by decide +kernel) (va_cons (vx_var 2 (pv 2)) va_nil))))))) : PSs (cxOf CX0 P w K mg base _ _ _ T.f_joins_of cdv A outer s H E).nox _ (lS K false τ_joins_of))) rd_joins_of
theorem ok__law_basin (T : Txt K mg) : FnOk P w K mg base CX0 1 T.f__law_basin T.fd__law_basin ["script"] (toSp0 K wp__law_basin) :=
  vfn0 (τ := τ__law_basin) T.F__law_basin sc__law_basin len__law_basin (fun cdv A outer s H E hr => ((vss_cons (vs_par (i := 1) (j := 2) rfl sc__law_basin.nd rfl rfl (by decide) rfl rfl (by decide) (by decide) (vo_x (vx_c pe_int (fun _ => .int _))) (vo_lst va_nil) (by rfl))
    (vss_cons (vs_for PassesOwn.never rfl (vi_seq (vx_o (vo_sl (vx_var 0 (pv 0)) vp_none (vp_some (vx_c pe_int (fun _ => .int _)))))) (vg_name sc__law_basin.nd rfl (.inl rfl) (by decide))
    (vss_cons (vs_set (i := 4) sc__law_basin.nd rfl (.inl rfl) (by decide) (vo_op o2_mod (vx_o (vo_cb cd_abs (by rfl) T.n_abs (by decide +kernel) (va_cons (vx_o (vo_cty cd_int (by rfl) T.n_int (by decide +kernel) (va_cons (vx_var 3 (pv 3)) va_nil))) va_nil))) (vx_o (vo_op o2_shl (vx_c pe_int (fun _ => .int _)) (vx_c pe_int (fun _ => .int _))))))
    (vss_cons (vs_set (i := 1) sc__law_basin.nd rfl (.inl rfl) (by decide) (vo_op o2_mod (vx_o (vo_cty cd_int (by rfl) T.n_int (by decide +kernel) (va_cons (vx_o (vo_op o2_add (vx_o (vo_op o2_add (vx_o (vo_op o2_mul (vx_var 1 (pv 1)) (vx_c pe_int (fun _ => .int _)))) (vx_o (vo_op o2_mod (vx_var 4 (pv 4)) (vx_c pe_int (fun _ => .int _)))))) (vx_c pe_int (fun _ => .int _)))) va_nil))) (vx_c pe_int (fun _ => .int _))))
    (vss_one (vs_if (vt_cmp o2_ge (vx_var 4 (pv 4)) (vx_o (vo_op o2_pow (vx_c pe_int (fun _ => .int _)) (vx_c pe_int (fun _ => .int _)))) (nomark _))
    (vss_one (vs_expr (vo_app false 2 (pv 2) (vo_x (vx_val 4 (pv 4))))))
    vss_nil)))))
    (vss_cons (vs_set (i := 5) sc__law_basin.nd rfl (.inl rfl) (by decide) (vo_lst va_nil))
    (vss_cons (vs_set (i := 6) sc__law_basin.nd rfl (.inl rfl) (by decide) (vo_op o2_div (vx_var 1 (pv 1)) (vx_c pe_int (fun _ => .int _))))
    (vss_cons (vs_for PassesOwn.never rfl (vi_range1 (by rfl) T.n_range (va_cons (vx_c pe_int (fun _ => .int _)) va_nil)) (vg_name sc__law_basin.nd rfl (.inl rfl) (by decide))
    (vss_cons (vs_expr (vo_app false 5 (pv 5) (vo_op o2_mod (vx_o (vo_cty cd_int (by rfl) T.n_int (by decide +kernel) (va_cons (vx_var 6 (pv 6)) va_nil))) (vx_c pe_int (fun _ => .int _)))))
    (vss_one (vs_set (i := 6) sc__law_basin.nd rfl (.inl rfl) (by decide) (vo_op o2_div (vx_var 6 (pv 6)) (vx_c pe_int (fun _ => .int _)))))))
    (vss_one (vs_ret (vo_trL (vao_cons (vo_x (vx_val 1 (pv 1))) (vao_cons (vo_mv 2 (pv 2)) (vao_cons (vo_x (vx_c pe_int (fun _ => .int _))) (vao_cons (vo_op o2_add (vx_var 5 (pv 5)) (vx_o (vo_lst (va_cons (vx_c pe_int (fun _ => .int _)) va_nil)))) vao_nil)))))))))))) : PSs (cxOf CX0 P w K mg base _ _ _ T.f__law_basin cdv A outer s H E).nox _ (lS K false τ__law_basin))) rd__law_basin
theorem ok__law_scoop (T : Txt K mg) : FnOk P w K mg base CX0 1 T.f__law_scoop T.fd__law_scoop ["basin", "place", "many"] (toSp1 K wp__law_scoop) :=
  vfn1 (τ := τ__law_scoop) T.F__law_scoop sc__law_scoop len__law_scoop (fun cdv A outer s H E hr => ((vss_cons (vs_if (vt_cmp o2_lt (vx_var 2 (pv 2)) (vx_c pe_int (fun _ => .int _)) (nomark _))
    (vss_one (vs_ret (vo_x (vx_c pe_int (fun _ => .int _)))))
    vss_nil)
    (vss_cons (vs_alt 0 (vs_dput 0 (hu_of hr) (pv 0) (vx_c pe_int (fun _ => .int _)) (vx_o (vo_op o2_add (vx_o (vo_ixS 0 (hu_of hr) (pv 0) (vx_c pe_int (fun _ => .int _)))) (vx_c pe_int (fun _ => .int _))))) (vs_put 0 (pv 0) (vx_c pe_int (fun _ => .int _)) (vo_op o2_add (vx_o (vo_ixS 0 (hu_of hr) (pv 0) (vx_c pe_int (fun _ => .int _)))) (vx_c pe_int (fun _ => .int _)))))
    (vss_cons (vs_if (vt_cmp o2_gt (vx_o (vo_cbE cd_len (by rfl) T.n_len (by decide +kernel) (ve_el 0 (pv 0) (vx_c pe_int (fun _ => .int _))))) (vx_c pe_int (fun _ => .int _)) (nomark _))
    (vss_cons (vs_set (i := 3) sc__law_scoop.nd rfl (.inl rfl) (by decide) (vo_smE0 PySem.F.slot_list_pop PySem.F.type_list_pop sm_pop (ve_el 0 (pv 0) (vx_c pe_int (fun _ => .int _)))))
    (vss_cons (vs_if (vt_cmp o2_ge (vx_var 3 (pv 3)) (vx_var 2 (pv 2)) (nomark _))
    (vss_one (vs_expr (vo_smE PySem.F.slot_list_append PySem.F.type_list_append sm_append (ve_el 0 (pv 0) (vx_c pe_int (fun _ => .int _))) (va_cons (vx_o (vo_op o2_div (vx_var 3 (pv 3)) (vx_var 2 (pv 2)))) va_nil))))
    vss_nil)
    (vss_one (vs_ret (vo_op o2_mod (vx_o (vo_cty cd_int (by rfl) T.n_int (by decide +kernel) (va_cons (vx_var 3 (pv 3)) va_nil))) (vx_var 2 (pv 2)))))))
    vss_nil)
    (vss_cons (vs_alt 0 (vs_dput 0 (hu_of hr) (pv 0) (vx_c pe_int (fun _ => .int _)) (vx_o (vo_op o2_mod (vx_o (vo_cty cd_int (by rfl) T.n_int (by decide +kernel) (va_cons (vx_o (vo_op o2_add (vx_o (vo_op o2_add (vx_o (vo_op o2_mul (vx_o (vo_ixS 0 (hu_of hr) (pv 0) (vx_c pe_int (fun _ => .int _)))) (vx_c pe_int (fun _ => .int _)))) (vx_o (vo_op o2_mul (vx_o (vo_ixS 0 (hu_of hr) (pv 0) (vx_c pe_int (fun _ => .int _)))) (vx_c pe_int (fun _ => .int _)))))) (vx_c pe_int (fun _ => .int _)))) va_nil))) (vx_c pe_int (fun _ => .int _))))) (vs_put 0 (pv 0) (vx_c pe_int (fun _ => .int _)) (vo_op o2_mod (vx_o (vo_cty cd_int (by rfl) T.n_int (by decide +kernel) (va_cons (vx_o (vo_op o2_add (vx_o (vo_op o2_add (vx_o (vo_op o2_mul (vx_o (vo_ixS 0 (hu_of hr) (pv 0) (vx_c pe_int (fun _ => .int _)))) (vx_c pe_int (fun _ => .int _)))) (vx_o (vo_op o2_mul (vx_o (vo_ixS 0 (hu_of hr) (pv 0) (vx_c pe_int (fun _ => .int _)))) (vx_c pe_int (fun _ => .int _)))))) (vx_c pe_int (fun _ => .int _)))) va_nil))) (vx_c pe_int (fun _ => .int _)))))
    (vss_cons (vs_if (vt_cmp o2_lt (vx_o (vo_ixE ix2_any (ve_el 0 (pv 0) (vx_c pe_int (fun _ => .int _))) (vx_var 1 (pv 1)))) (vx_c pe_int (fun _ => .int _)) (nomark _))
    (vss_one (vs_ret (vo_op o2_mul (vx_o (vo_ixE ix2_any (ve_el 0 (pv 0) (vx_c pe_int (fun _ => .int _))) (vx_var 1 (pv 1)))) (vx_o (vo_op o2_sub (vx_var 2 (pv 2)) (vx_c pe_int (fun _ => .int _)))))))
    vss_nil)
    (vss_one (vs_ret (vo_op o2_mod (vx_o (vo_cty cd_int (by rfl) T.n_int (by decide +kernel) (va_cons (vx_o (vo_op o2_div (vx_o (vo_ixS 0 (hu_of hr) (pv 0) (vx_c pe_int (fun _ => .int _)))) (vx_c pe_int (fun _ => .int _)))) va_nil))) (vx_var 2 (pv 2)))))))))) : PSs (cxOf CX0 P w K mg base _ _ _ T.f__law_scoop cdv A outer s H E).nox _ (lS K true τ__law_scoop))) rd__law_scoop
theorem ok__law_same (T : Txt K mg) : FnOk P w K mg base CX0 1 T.f__law_same T.fd__law_same ["told", "due"] (toSp0 K wp__law_same) :=
  vfn0 (τ := τ__law_same) T.F__law_same sc__law_same len__law_same (fun cdv A outer s H E hr => ((vss_cons (vs_set (i := 2) sc__law_same.nd rfl (.inl rfl) (by decide) (vo_lst (va_cons (vx_o (vo_tup (va_cons (vx_val 0 (pv 0)) (va_cons (vx_val 1 (pv 1)) va_nil)))) va_nil)))
    (vss_cons (vs_while PassesOwn.never (vt_cmp o2_gt (vx_o (vo_lenS 2 (by rfl) T.n_len (pv 2))) (vx_c pe_int (fun _ => .int _)) (nomark _))
    (vss_cons (vs_asg (vx_o (vo_pop 2 (pv 2))) (vg_tup rfl (vgs_cons (vg_name sc__law_same.nd rfl (.inr rfl) (by decide)) (vgs_cons (vg_name sc__law_same.nd rfl (.inr rfl) (by decide)) vgs_nil))))
    (vss_one (vs_if (vt_cmp o2_isN (vx_var 4 (pv 4)) (vx_c pe_non (fun _ => .non)) (nomark _))
    (vss_one (vs_if (vt_cmp o2_notN (vx_var 3 (pv 3)) (vx_c pe_non (fun _ => .non)) (nomark _))
    (vss_one (vs_ret (vo_x (vx_c pe_bl (fun _ => .bl _)))))
    vss_nil))
    (vss_one (vs_if (vt_tru (vx_o (vo_isi (by rfl) T.n_isinstance (by rfl) T.n_bool (by decide +kernel) (vx_var 4 (pv 4)))))
    (vss_one (vs_if (PW.pt (vw_or (vt_not (vt_tru (vx_o (vo_isi (by rfl) T.n_isinstance (by rfl) T.n_bool (by decide +kernel) (vx_var 3 (pv 3)))))) (vw_or1 (vt_cmp (o2_ne (r64 hr)) (vx_var 3 (pv 3)) (vx_var 4 (pv 4)) (nomark _)))))
    (vss_one (vs_ret (vo_x (vx_c pe_bl (fun _ => .bl _)))))
    vss_nil))
    (vss_one (vs_if (vt_tru (vx_o (vo_isi (by rfl) T.n_isinstance (by rfl) T.n_int (by decide +kernel) (vx_var 4 (pv 4)))))
    (vss_one (vs_if (PW.pt (vw_or (vt_not (vt_tru (vx_o (vo_isi (by rfl) T.n_isinstance (by rfl) T.n_int (by decide +kernel) (vx_var 3 (pv 3)))))) (vw_or (vt_tru (vx_o (vo_isi (by rfl) T.n_isinstance (by rfl) T.n_bool (by decide +kernel) (vx_var 3 (pv 3))))) (vw_or1 (vt_cmp (o2_ne (r64 hr)) (vx_var 3 (pv 3)) (vx_var 4 (pv 4)) (nomark _))))))
    (vss_one (vs_ret (vo_x (vx_c pe_bl (fun _ => .bl _)))))
    vss_nil))
    (vss_one (vs_if (vt_tru (vx_o (vo_isi (by rfl) T.n_isinstance (by rfl) T.n_str (by decide +kernel) (vx_var 4 (pv 4)))))
    (vss_one (vs_if (PW.pt (vw_or (vt_not (vt_tru (vx_o (vo_isi (by rfl) T.n_isinstance (by rfl) T.n_str (by decide +kernel) (vx_var 3 (pv 3)))))) (vw_or1 (vt_cmp (o2_ne (r64 hr)) (vx_var 3 (pv 3)) (vx_var 4 (pv 4)) (nomark _)))))
    (vss_one (vs_ret (vo_x (vx_c pe_bl (fun _ => .bl _)))))
    vss_nil))
    (vss_one (vs_if (PW.pt (vw_or (vt_not (vt_tru (vx_o (vo_isi (by rfl) T.n_isinstance (by rfl) T.n_tuple (by decide +kernel) (vx_var 3 (pv 3)))))) (vw_or (vt_not (vt_tru (vx_o (vo_isi (by rfl) T.n_isinstance (by rfl) T.n_tuple (by decide +kernel) (vx_var 4 (pv 4)))))) (vw_or1 (vt_cmp (o2_ne (r64 hr)) (vx_o (vo_lenS 3 (by rfl) T.n_len (pv 3))) (vx_o (vo_lenS 4 (by rfl) T.n_len (pv 4))) (nomark _))))))
    (vss_one (vs_ret (vo_x (vx_c pe_bl (fun _ => .bl _)))))
    (vss_one (vs_expr (vo_ext 2 (pv 2) (vo_lc (own := [("k", 5)]) rfl sc__law_same.nd (vi_range1 (by rfl) T.n_range (va_cons (vx_o (vo_lenS 4 (by rfl) T.n_len (pv 4))) va_nil)) (blkOk_by (by kernel_rfl)) (fun _ _ _ _ _ => (vg_name sc__law_same.nd rfl (.inl rfl) (by decide))) (by decide) (fun _ _ _ _ _ => vts_nil) (fun _ _ _ _ _ => (vx_o (vo_tup (va_cons (vx_o (vo_ixS 3 (hu_of hr) (pv 3) (vx_var 5 (pv 5)))) (va_cons (vx_o (vo_ixS 4 (hu_of hr) (pv 4) (vx_var 5 (pv 5)))) va_nil)))))))))))))))))))))
    (vss_one (vs_ret (vo_x (vx_c pe_bl (fun _ => .bl _))))))) : PSs (cxOf CX0 P w K mg base _ _ _ T.f__law_same cdv A outer s H E).nox _ (lS K false τ__law_same))) rd__law_same
theorem ok__law_some (T : Txt K mg) : FnOk P w K mg base CX0 2 T.f__law_some T.fd__law_some ["basin", "m", "most"] (toSp1 K wp__law_some) :=
  vfn1 (τ := τ__law_some) T.F__law_some sc__law_some len__law_some (fun cdv A outer s H E hr => ((vss_cons (vs_par (i := 3) (j := 4) rfl sc__law_some.nd rfl rfl (by decide) rfl rfl (by decide) (by decide) (vo_listRg1 rfl (by rfl) T.n_list (by rfl) T.n_range (vx_var 1 (pv 1))) (vo_lst va_nil) (by rfl))
    (vss_cons (vs_for PassesOwn.never rfl (vi_range1 (by rfl) T.n_range (va_cons (vx_o (vo_cb (cd_min2 rfl) (by rfl) T.n_min (by decide +kernel) (va_cons (vx_var 1 (pv 1)) (va_cons (vx_var 2 (pv 2)) va_nil)))) va_nil)) (vg_name sc__law_some.nd rfl (.inl rfl) (by decide))
    (vss_one (vs_expr (vo_app false 4 (pv 4) (vo_tup (va_cons (vx_o (vo_sm 3 PySem.F.slot_list_pop PySem.F.type_list_pop sm_popAt (pv 3) (va_cons (vx_o (vo_callI (ok__law_scoop T) (hr.mono (by decide)) (by rfl) T.g__law_scoop T.F__law_scoop.kp (b__law_scoop T) .nil (fun _ => .nil) (va_cons (vx_var 0 (pv 0)) (va_cons (vx_c pe_int (fun _ => .int _)) (va_cons (vx_o (vo_lenS 3 (by rfl) T.n_len (pv 3))) va_nil))))) va_nil))) (va_cons (vx_o (vo_cmp (o2_eq (r64 hr)) (vx_o (vo_callI (ok__law_scoop T) (hr.mono (by decide)) (by rfl) T.g__law_scoop T.F__law_scoop.kp (b__law_scoop T) .nil (fun _ => .nil) (va_cons (vx_var 0 (pv 0)) (va_cons (vx_c pe_int (fun _ => .int _)) (va_cons (vx_c pe_int (fun _ => .int _)) va_nil))))) (vx_c pe_int (fun _ => .int _)) (nomark _))) va_nil)))))))
    (vss_one (vs_ret (vo_cty cd_tuple (by rfl) T.n_tuple (by decide +kernel) (va_cons (vx_o (vo_cb (cd_sorted (r64 hr)) (by rfl) T.n_sorted (by decide +kernel) (va_cons (vx_var 4 (pv 4)) va_nil))) va_nil)))))) : PSs (cxOf CX0 P w K mg base _ _ _ T.f__law_some cdv A outer s H E).nox _ (lS K true τ__law_some))) rd__law_some
theorem ok__law_rule (T : Txt K mg) : FnOk P w K mg base CX0 3 T.f__law_rule T.fd__law_rule ["basin", "m"] (toSp1 K wp__law_rule) :=
  vfn1 (τ := τ__law_rule) T.F__law_rule sc__law_rule len__law_rule (fun cdv A outer s H E hr => ((vss_cons (vs_set (i := 2) sc__law_rule.nd rfl (.inl rfl) (by decide) (vo_ix ix2_any (vx_o (vo_tup (va_cons (vx_c pe_int (fun _ => .int _)) (va_cons (vx_c pe_int (fun _ => .int _)) (va_cons (vx_c pe_int (fun _ => .int _)) (va_cons (vx_c pe_int (fun _ => .int _)) (va_cons (vx_c pe_int (fun _ => .int _)) (va_cons (vx_c pe_int (fun _ => .int _)) (va_cons (vx_c pe_int (fun _ => .int _)) (va_cons (vx_val 1 (pv 1)) (va_cons (vx_c pe_int (fun _ => .int _)) va_nil))))))))))) (vx_o (vo_callI (ok__law_scoop T) (hr.mono (by decide)) (by rfl) T.g__law_scoop T.F__law_scoop.kp (b__law_scoop T) .nil (fun _ => .nil) (va_cons (vx_var 0 (pv 0)) (va_cons (vx_c pe_int (fun _ => .int _)) (va_cons (vx_c pe_int (fun _ => .int _)) va_nil)))))))
    (vss_one (vs_ret (vo_callI (ok__law_some T) (hr.mono (by decide)) (by rfl) T.g__law_some T.F__law_some.kp (b__law_some T) .nil (fun _ => .nil) (va_cons (vx_var 0 (pv 0)) (va_cons (vx_val 1 (pv 1)) (va_cons (vx_o (vo_if (PW.pt (vw_or (vt_cmp o2_gt (vx_var 2 (pv 2)) (vx_c pe_int (fun _ => .int _)) (nomark _)) (vw_or1 (vt_cmp (o2_eq (r64 hr)) (vx_o (vo_callI (ok__law_scoop T) (hr.mono (by decide)) (by rfl) T.g__law_scoop T.F__law_scoop.kp (b__law_scoop T) .nil (fun _ => .nil) (va_cons (vx_var 0 (pv 0)) (va_cons (vx_c pe_int (fun _ => .int _)) (va_cons (vx_c pe_int (fun _ => .int _)) va_nil))))) (vx_c pe_int (fun _ => .int _)) (nomark _))))) (vo_x (vx_val 2 (pv 2))) (vo_x (vx_c pe_int (fun _ => .int _))))) va_nil))))))) : PSs (cxOf CX0 P w K mg base _ _ _ T.f__law_rule cdv A outer s H E).nox _ (lS K true τ__law_rule))) rd__law_rule
theorem ok__law_sheet (T : Txt K mg) : FnOk P w K mg base CX0 4 T.f__law_sheet T.fd__law_sheet ["basin", "most", "many"] (toSp1 K wp__law_sheet) :=
  vfn1 (τ := τ__law_sheet) T.F__law_sheet sc__law_sheet len__law_sheet (fun cdv A outer s H E hr => ((vss_cons (vs_set (i := 3) sc__law_sheet.nd rfl (.inr rfl) (by decide) (vo_op o2_add (vx_c pe_int (fun _ => .int _)) (vx_o (vo_callI (ok__law_scoop T) (hr.mono (by decide)) (by rfl) T.g__law_scoop T.F__law_scoop.kp (b__law_scoop T) .nil (fun _ => .nil) (va_cons (vx_var 0 (pv 0)) (va_cons (vx_c pe_int (fun _ => .int _)) (va_cons (vx_val 1 (pv 1)) va_nil)))))))
    (vss_one (vs_ret (vo_tup (va_cons (vx_val 3 (pv 3)) (va_cons (vx_o (vo_cty cd_tuple (by rfl) T.n_tuple (by decide +kernel) (va_cons (vx_o (vo_lc (own := [("lap", 4)]) rfl sc__law_sheet.nd (vi_range1 (by rfl) T.n_range (va_cons (vx_o (vo_callI (ok__law_scoop T) (hr.mono (by decide)) (by rfl) T.g__law_scoop T.F__law_scoop.kp (b__law_scoop T) .nil (fun _ => .nil) (va_cons (vx_var 0 (pv 0)) (va_cons (vx_c pe_int (fun _ => .int _)) (va_cons (vx_o (vo_op o2_add (vx_var 2 (pv 2)) (vx_c pe_int (fun _ => .int _)))) va_nil))))) va_nil)) (blkOk_by (by kernel_rfl)) (fun _ _ _ _ _ => (vg_name sc__law_sheet.nd rfl (.inl rfl) (by decide))) (by decide) (fun _ _ _ _ _ => vts_nil) (fun _ _ _ _ _ => (vx_o (vo_callI (ok__law_rule T) (hr.mono (by decide)) (by rfl) T.g__law_rule T.F__law_rule.kp (b__law_rule T) .nil (fun _ => .nil) (va_cons (vx_var 0 (pv 0)) (va_cons (vx_val 3 (pv 3)) va_nil))))))) va_nil))) va_nil)))))) : PSs (cxOf CX0 P w K mg base _ _ _ T.f__law_sheet cdv A outer s H E).nox _ (lS K true τ__law_sheet))) rd__law_sheet
theorem ok__law_every (T : Txt K mg) : FnOk P w K mg base CX0 1 T.f__law_every T.fd__law_every ["m"] (toSp0 K wp__law_every) :=
  vfn0 (τ := τ__law_every) T.F__law_every sc__law_every len__law_every (fun cdv A outer s H E hr => ((vss_cons (vs_set (i := 1) sc__law_every.nd rfl (.inl rfl) (by decide) (vo_lst va_nil))
    (vss_cons (vs_for PassesOwn.never rfl (vi_range1 (by rfl) T.n_range (va_cons (vx_o (vo_op o2_shl (vx_c pe_int (fun _ => .int _)) (vx_var 0 (pv 0)))) va_nil)) (vg_name sc__law_every.nd rfl (.inr rfl) (by decide))
    (vss_one (vs_expr (vo_app false 1 (pv 1) (vo_cty cd_tuple (by rfl) T.n_tuple (by decide +kernel) (va_cons (vx_o (vo_lc (own := [("k", 3)]) rfl sc__law_every.nd (vi_range1 (by rfl) T.n_range (va_cons (vx_var 0 (pv 0)) va_nil)) (blkOk_by (by kernel_rfl)) (fun _ _ _ _ _ => (vg_name sc__law_every.nd rfl (.inl rfl) (by decide))) (by decide) (fun _ _ _ _ _ => vts_nil) (fun _ _ _ _ _ => (vx_o (vo_cmp (o2_eq (r64 hr)) (vx_o (vo_op o2_and (vx_o (vo_op o2_shr (vx_var 2 (pv 2)) (vx_o (vo_op o2_sub (vx_o (vo_op o2_sub (vx_var 0 (pv 0)) (vx_c pe_int (fun _ => .int _)))) (vx_var 3 (pv 3)))))) (vx_c pe_int (fun _ => .int _)))) (vx_c pe_int (fun _ => .int _)) (nomark _)))))) va_nil))))))
    (vss_one (vs_ret (vo_mv 1 (pv 1)))))) : PSs (cxOf CX0 P w K mg base _ _ _ T.f__law_every cdv A outer s H E).nox _ (lS K false τ__law_every))) rd__law_every
theorem ok__law_holds (T : Txt K mg) : FnOk P w K mg base CX0 1 T.f__law_holds T.fd__law_holds ["rule", "filling"] (toSp0 K wp__law_holds) :=
  vfn0 (τ := τ__law_holds) T.F__law_holds sc__law_holds len__law_holds (fun cdv A outer s H E hr => ((vss_cons (vs_for PassesOwn.never rfl (vi_seq (vx_val 0 (pv 0))) (vg_tup rfl (vgs_cons (vg_name sc__law_holds.nd rfl (.inl rfl) (by decide)) (vgs_cons (vg_name sc__law_holds.nd rfl (.inl rfl) (by decide)) vgs_nil)))
    (vss_one (vs_if (vt_cmp (o2_eq (r64 hr)) (vx_o (vo_ixS 1 (hu_of hr) (pv 1) (vx_var 2 (pv 2)))) (vx_var 3 (pv 3)) (nomark _))
    (vss_one (vs_ret (vo_x (vx_c pe_bl (fun _ => .bl _)))))
    vss_nil)))
    (vss_one (vs_ret (vo_x (vx_c pe_bl (fun _ => .bl _)))))) : PSs (cxOf CX0 P w K mg base _ _ _ T.f__law_holds cdv A outer s H E).nox _ (lS K false τ__law_holds))) rd__law_holds
-- by hand: ok__law_fillings (level 2)
theorem ok__law_joined (T : Txt K mg) : FnOk P w K mg base CX0 1 T.f__law_joined T.fd__law_joined ["one", "other"] (toSp0 K wp__law_joined) :=
  vfn0 (τ := τ__law_joined) T.F__law_joined sc__law_joined len__law_joined (fun cdv A outer s H E hr => ((vss_cons (vs_par (i := 2) (j := 3) rfl sc__law_joined.nd rfl rfl (by decide) rfl rfl (by decide) (by decide) vo_dnew (vo_x (vx_c pe_int (fun _ => .int _))) (by rfl))
    (vss_cons (vs_for PassesOwn.never rfl (vi_seq (vx_val 0 (pv 0))) (vg_tup rfl (vgs_cons (vg_name sc__law_joined.nd rfl (.inr rfl) (by decide)) (vgs_cons (vg_name sc__law_joined.nd rfl (.inl rfl) (by decide)) vgs_nil)))
    (vss_one (vs_alt 2 (vs_dput 2 (hu_of hr) (pv 2) (vx_val 4 (pv 4)) (vx_val 5 (pv 5))) (vs_put 2 (pv 2) (vx_val 4 (pv 4)) (vo_x (vx_val 5 (pv 5)))))))
    (vss_cons (vs_for PassesOwn.never rfl (vi_seq (vx_val 1 (pv 1))) (vg_tup rfl (vgs_cons (vg_name sc__law_joined.nd rfl (.inr rfl) (by decide)) (vgs_cons (vg_name sc__law_joined.nd rfl (.inl rfl) (by decide)) vgs_nil)))
    (vss_one (vs_if (PW.pt (vw_and (vt_inS 2 (r65 hr) (vx_var 4 (pv 4)) (pv 2)) (vw_and1 (vt_cmp (o2_ne (r64 hr)) (vx_o (vo_ixS 2 (hu_of hr) (pv 2) (vx_var 4 (pv 4)))) (vx_var 5 (pv 5)) (nomark _)))))
    (vss_one (vs_set (i := 3) sc__law_joined.nd rfl (.inl rfl) (by decide) (vo_op o2_add (vx_var 3 (pv 3)) (vx_c pe_int (fun _ => .int _)))))
    vss_nil)))
    (vss_cons (vs_if (vt_cmp (o2_ne (r64 hr)) (vx_var 3 (pv 3)) (vx_c pe_int (fun _ => .int _)) (nomark _))
    (vss_one (vs_ret (vo_x (vx_c pe_non (fun _ => .non)))))
    vss_nil)
    (vss_cons (vs_set (i := 6) sc__law_joined.nd rfl (.inl rfl) (by decide) (vo_lst va_nil))
    (vss_cons (vs_for PassesOwn.never rfl (vi_range1 (by rfl) T.n_range (va_cons (vx_c pe_int (fun _ => .int _)) va_nil)) (vg_name sc__law_joined.nd rfl (.inr rfl) (by decide))
    (vss_cons (vs_setLc (i := 7) (own := [("each", 8), ("sign", 5)]) rfl sc__law_joined.nd rfl rfl (by decide) (sw_true rfl rfl rfl (by decide +kernel)) (vi_seq (vx_o (vo_op o2_add (vx_var 0 (pv 0)) (vx_var 1 (pv 1))))) (blkOk_by (by kernel_rfl)) (fun _ _ _ _ _ => (vg_tup rfl (vgs_cons (vg_name sc__law_joined.nd rfl (.inl rfl) (by decide)) (vgs_cons (vg_name sc__law_joined.nd rfl (.inl rfl) (by decide)) vgs_nil)))) (by decide) (fun _ _ _ _ _ => (vts_one (vt_cmp (o2_eq (r64 hr)) (vx_var 8 (pv 8)) (vx_var 4 (pv 4)) (nomark _)))) (fun _ _ _ _ _ => (vx_val 5 (pv 5))))
    (vss_one (vs_if (PW.pt (vw_or (vt_cmp (o2_eq (r64 hr)) (vx_o (vo_lenS 7 (by rfl) T.n_len (pv 7))) (vx_c pe_int (fun _ => .int _)) (nomark _)) (vw_or1 (PW.pt (vw_and (vt_cmp (o2_eq (r64 hr)) (vx_o (vo_lenS 7 (by rfl) T.n_len (pv 7))) (vx_c pe_int (fun _ => .int _)) (nomark _)) (vw_and1 (vt_cmp (o2_eq (r64 hr)) (vx_o (vo_ixS 7 (hu_of hr) (pv 7) (vx_c pe_int (fun _ => .int _)))) (vx_o (vo_ixS 7 (hu_of hr) (pv 7) (vx_c pe_int (fun _ => .int _)))) (nomark _))))))))
    (vss_one (vs_expr (vo_app false 6 (pv 6) (vo_tup (va_cons (vx_val 4 (pv 4)) (va_cons (vx_o (vo_ixS 7 (hu_of hr) (pv 7) (vx_c pe_int (fun _ => .int _)))) va_nil))))))
    vss_nil))))
    (vss_one (vs_ret (vo_cty cd_tuple (by rfl) T.n_tuple (by decide +kernel) (va_cons (vx_var 6 (pv 6)) va_nil)))))))))) : PSs (cxOf CX0 P w K mg base _ _ _ T.f__law_joined cdv A outer s H E).nox _ (lS K false τ__law_joined))) rd__law_joined
theorem ok__law_inside (T : Txt K mg) : FnOk P w K mg base CX0 1 T.f__law_inside T.fd__law_inside ["one", "other"] (toSp0 K wp_is_within) :=
  vfn0 (τ := τ__law_inside) T.F__law_inside sc__law_inside len__law_inside (fun cdv A outer s H E hr => ((vss_one (vs_ret (vo_cmp (o2_eq (r64 hr)) (vx_o (vo_cb cd_len (by rfl) T.n_len (by decide +kernel) (va_cons (vx_o (vo_lc (own := [("literal", 2)]) rfl sc__law_inside.nd (vi_seq (vx_val 0 (pv 0))) (blkOk_by (by kernel_rfl)) (fun _ _ _ _ _ => (vg_name sc__law_inside.nd rfl (.inl rfl) (by decide))) (by decide) (fun _ _ _ _ _ => (vts_one (vt_notInS 1 (r65 hr) (vx_var 2 (pv 2)) (pv 1)))) (fun _ _ _ _ _ => (vx_val 2 (pv 2))))) va_nil))) (vx_c pe_int (fun _ => .int _)) (nomark _)))) : PSs (cxOf CX0 P w K mg base _ _ _ T.f__law_inside cdv A outer s H E).nox _ (lS K false τ__law_inside))) rd__law_inside
theorem ok__law_near (T : Txt K mg) : FnOk P w K mg base CX0 4 T.f__law_near T.fd__law_near ["basin", "m", "rule"] (toSp1 K wp__law_near) :=
  vfn1 (τ := τ__law_near) T.F__law_near sc__law_near len__law_near (fun cdv A outer s H E hr => ((vss_cons (vs_set (i := 3) sc__law_near.nd rfl (.inl rfl) (by decide) (vo_callI (ok__law_scoop T) (hr.mono (by decide)) (by rfl) T.g__law_scoop T.F__law_scoop.kp (b__law_scoop T) .nil (fun _ => .nil) (va_cons (vx_var 0 (pv 0)) (va_cons (vx_c pe_int (fun _ => .int _)) (va_cons (vx_c pe_int (fun _ => .int _)) va_nil)))))
    (vss_cons (vs_if (PW.pt (vw_or (vt_cmp (o2_eq (r64 hr)) (vx_var 3 (pv 3)) (vx_c pe_int (fun _ => .int _)) (nomark _)) (vw_or1 (vt_cmp (o2_eq (r64 hr)) (vx_o (vo_lenS 2 (by rfl) T.n_len (pv 2))) (vx_c pe_int (fun _ => .int _)) (nomark _)))))
    (vss_one (vs_ret (vo_callI (ok__law_rule T) (hr.mono (by decide)) (by rfl) T.g__law_rule T.F__law_rule.kp (b__law_rule T) .nil (fun _ => .nil) (va_cons (vx_var 0 (pv 0)) (va_cons (vx_val 1 (pv 1)) va_nil)))))
    vss_nil)
    (vss_cons (vs_set (i := 4) sc__law_near.nd rfl (.inl rfl) (by decide) (vo_callI (ok__law_scoop T) (hr.mono (by decide)) (by rfl) T.g__law_scoop T.F__law_scoop.kp (b__law_scoop T) .nil (fun _ => .nil) (va_cons (vx_var 0 (pv 0)) (va_cons (vx_c pe_int (fun _ => .int _)) (va_cons (vx_o (vo_lenS 2 (by rfl) T.n_len (pv 2))) va_nil)))))
    (vss_cons (vs_asg (vx_o (vo_ixS 2 (hu_of hr) (pv 2) (vx_var 4 (pv 4)))) (vg_tup rfl (vgs_cons (vg_name sc__law_near.nd rfl (.inr rfl) (by decide)) (vgs_cons (vg_name sc__law_near.nd rfl (.inl rfl) (by decide)) vgs_nil))))
    (vss_cons (vs_if (vt_cmp (o2_eq (r64 hr)) (vx_var 3 (pv 3)) (vx_c pe_int (fun _ => .int _)) (nomark _))
    (vss_one (vs_ret (vo_mv 2 (pv 2))))
    vss_nil)
    (vss_cons (vs_if (vt_cmp (o2_eq (r64 hr)) (vx_var 3 (pv 3)) (vx_c pe_int (fun _ => .int _)) (nomark _))
    (vss_one (vs_ret (vo_op o2_add (vx_o (vo_sl (vx_var 2 (pv 2)) vp_none (vp_some (vx_var 4 (pv 4))))) (vx_o (vo_sl (vx_var 2 (pv 2)) (vp_some (vx_o (vo_op o2_add (vx_var 4 (pv 4)) (vx_c pe_int (fun _ => .int _))))) vp_none)))))
    vss_nil)
    (vss_cons (vs_set (i := 7) sc__law_near.nd rfl (.inl rfl) (by decide) (vo_op o2_add (vx_o (vo_op o2_add (vx_o (vo_sl (vx_var 2 (pv 2)) vp_none (vp_some (vx_var 4 (pv 4))))) (vx_o (vo_tup (va_cons (vx_o (vo_tup (va_cons (vx_val 5 (pv 5)) (va_cons (vx_o (vo_not (vo_x (vx_val 6 (pv 6))))) va_nil)))) va_nil))))) (vx_o (vo_sl (vx_var 2 (pv 2)) (vp_some (vx_o (vo_op o2_add (vx_var 4 (pv 4)) (vx_c pe_int (fun _ => .int _))))) vp_none))))
    (vss_cons (vs_if (vt_cmp (o2_eq (r64 hr)) (vx_var 3 (pv 3)) (vx_c pe_int (fun _ => .int _)) (nomark _))
    (vss_one (vs_ret (vo_mv 7 (pv 7))))
    vss_nil)
    (vss_cons (vs_if (vt_cmp (o2_eq (r64 hr)) (vx_var 3 (pv 3)) (vx_c pe_int (fun _ => .int _)) (nomark _))
    (vss_cons (vs_set (i := 8) sc__law_near.nd rfl (.inl rfl) (by decide) (vo_op o2_mod (vx_o (vo_cty cd_int (by rfl) T.n_int (by decide +kernel) (va_cons (vx_o (vo_op o2_add (vx_var 4 (pv 4)) (vx_c pe_int (fun _ => .int _)))) va_nil))) (vx_o (vo_lenS 2 (by rfl) T.n_len (pv 2)))))
    (vss_one (vs_ret (vo_op o2_add (vx_o (vo_op o2_add (vx_o (vo_sl (vx_var 7 (pv 7)) vp_none (vp_some (vx_var 8 (pv 8))))) (vx_o (vo_tup (va_cons (vx_o (vo_tup (va_cons (vx_o (vo_ix ix2_any (vx_o (vo_ixS 7 (hu_of hr) (pv 7) (vx_var 8 (pv 8)))) (vx_c pe_int (fun _ => .int _)))) (va_cons (vx_o (vo_not (vo_ix ix2_any (vx_o (vo_ixS 2 (hu_of hr) (pv 2) (vx_var 8 (pv 8)))) (vx_c pe_int (fun _ => .int _))))) va_nil)))) va_nil))))) (vx_o (vo_sl (vx_var 7 (pv 7)) (vp_some (vx_o (vo_op o2_add (vx_var 8 (pv 8)) (vx_c pe_int (fun _ => .int _))))) vp_none))))))
    vss_nil)
    (vss_cons (vs_setLc (i := 9) (own := [("one", 11)]) rfl sc__law_near.nd rfl rfl (by decide) (sw_true rfl rfl rfl (by decide +kernel)) (vi_seq (vx_val 7 (pv 7))) (blkOk_by (by kernel_rfl)) (fun _ _ _ _ _ => (vg_name sc__law_near.nd rfl (.inl rfl) (by decide))) (by decide) (fun _ _ _ _ _ => (vts_one (PW.pt (vw_or (vt_cmp (o2_eq (r64 hr)) (vx_o (vo_ixS 11 (hu_of hr) (pv 11) (vx_c pe_int (fun _ => .int _)))) (vx_var 5 (pv 5)) (nomark _)) (vw_or1 (vt_cmp (o2_eq (r64 hr)) (vx_o (vo_callI (ok__law_scoop T) (hr.mono (by decide)) (by rfl) T.g__law_scoop T.F__law_scoop.kp (b__law_scoop T) .nil (fun _ => .nil) (va_cons (vx_var 0 (pv 0)) (va_cons (vx_c pe_int (fun _ => .int _)) (va_cons (vx_c pe_int (fun _ => .int _)) va_nil))))) (vx_c pe_int (fun _ => .int _)) (nomark _))))))) (fun _ _ _ _ _ => (vx_val 11 (pv 11))))
    (vss_cons (vs_setLc (i := 10) (own := [("one", 11)]) rfl sc__law_near.nd rfl rfl (by decide) (sw_true rfl rfl rfl (by decide +kernel)) (vi_range1 (by rfl) T.n_range (va_cons (vx_var 1 (pv 1)) va_nil)) (blkOk_by (by kernel_rfl)) (fun _ _ _ _ _ => (vg_name sc__law_near.nd rfl (.inl rfl) (by decide))) (by decide) (fun _ _ _ _ _ => (vts_one (vt_cmp (o2_notIn (r65 hr)) (vx_var 11 (pv 11)) (vx_o (vo_lc (own := [("each", 12)]) rfl sc__law_near.nd (vi_seq (vx_val 2 (pv 2))) (blkOk_by (by kernel_rfl)) (fun _ _ _ _ _ => (vg_name sc__law_near.nd rfl (.inl rfl) (by decide))) (by decide) (fun _ _ _ _ _ => vts_nil) (fun _ _ _ _ _ => (vx_o (vo_ixS 12 (hu_of hr) (pv 12) (vx_c pe_int (fun _ => .int _))))))) (by rfl)))) (fun _ _ _ _ _ => (vx_val 11 (pv 11))))
    (vss_one (vs_ret (vo_cty cd_tuple (by rfl) T.n_tuple (by decide +kernel) (va_cons (vx_o (vo_cb (cd_sorted (r64 hr)) (by rfl) T.n_sorted (by decide +kernel) (va_cons (vx_o (vo_op o2_add (vx_var 9 (pv 9)) (vx_o (vo_lc (own := [("one", 11)]) rfl sc__law_near.nd (vi_seq (vx_val 10 (pv 10))) (blkOk_by (by kernel_rfl)) (fun _ _ _ _ _ => (vg_name sc__law_near.nd rfl (.inl rfl) (by decide))) (by decide) (fun _ _ _ _ _ => (vts_one (vt_cmp (o2_eq (r64 hr)) (vx_o (vo_callI (ok__law_scoop T) (hr.mono (by decide)) (by rfl) T.g__law_scoop T.F__law_scoop.kp (b__law_scoop T) .nil (fun _ => .nil) (va_cons (vx_var 0 (pv 0)) (va_cons (vx_c pe_int (fun _ => .int _)) (va_cons (vx_c pe_int (fun _ => .int _)) va_nil))))) (vx_c pe_int (fun _ => .int _)) (nomark _)))) (fun _ _ _ _ _ => (vx_o (vo_tup (va_cons (vx_val 11 (pv 11)) (va_cons (vx_o (vo_cmp (o2_eq (r64 hr)) (vx_o (vo_callI (ok__law_scoop T) (hr.mono (by decide)) (by rfl) T.g__law_scoop T.F__law_scoop.kp (b__law_scoop T) .nil (fun _ => .nil) (va_cons (vx_var 0 (pv 0)) (va_cons (vx_c pe_int (fun _ => .int _)) (va_cons (vx_c pe_int (fun _ => .int _)) va_nil))))) (vx_c pe_int (fun _ => .int _)) (nomark _))) va_nil))))))))) va_nil))) va_nil))))))))))))))) : PSs (cxOf CX0 P w K mg base _ _ _ T.f__law_near cdv A outer s H E).nox _ (lS K true τ__law_near))) rd__law_near
theorem ok__law_two (T : Txt K mg) : FnOk P w K mg base CX0 5 T.f__law_two T.fd__law_two ["basin", "m", "one", "other"] (toSp1 K wp__law_two) :=
  vfn1 (τ := τ__law_two) T.F__law_two sc__law_two len__law_two (fun cdv A outer s H E hr => ((vss_cons (vs_set (i := 4) sc__law_two.nd rfl (.inl rfl) (by decide) (vo_call (ok__law_joined T) (hr.mono (by decide)) (by rfl) T.g__law_joined T.F__law_joined.kp (b__law_joined T) .nil (fun _ => .nil) (va_cons (vx_val 2 (pv 2)) (va_cons (vx_val 3 (pv 3)) va_nil))))
    (vss_cons (vs_if (vt_not (vt_tru (vx_o (vo_call (ok__law_same T) (hr.mono (by decide)) (by rfl) T.g__law_same T.F__law_same.kp (b__law_same T) .nil (fun _ => .nil) (va_cons (vx_o (vo_tup (va_cons (vx_o (vo_call (ok_join_of T) (hr.mono (by decide)) (by rfl) T.g_join_of T.F_join_of.kp (b_join_of T) .nil (fun _ => .nil) (va_cons (vx_val 2 (pv 2)) (va_cons (vx_val 3 (pv 3)) va_nil)))) (va_cons (vx_o (vo_call (ok_join_of T) (hr.mono (by decide)) (by rfl) T.g_join_of T.F_join_of.kp (b_join_of T) .nil (fun _ => .nil) (va_cons (vx_val 3 (pv 3)) (va_cons (vx_val 2 (pv 2)) va_nil)))) va_nil)))) (va_cons (vx_o (vo_tup (va_cons (vx_val 4 (pv 4)) (va_cons (vx_val 4 (pv 4)) va_nil)))) va_nil))))))
    (vss_one (vs_ret (vo_x (vx_c pe_bl (fun _ => .bl _)))))
    vss_nil)
    (vss_cons (vs_set (i := 5) sc__law_two.nd rfl (.inl rfl) (by decide) (vo_tup (va_cons (vx_o (vo_call (ok_is_within_2 T) (hr.mono (by decide)) (by rfl) T.g_is_within_joins T.F_is_within_2.kp (b_is_within_2 T) .nil (fun _ => .nil) (va_cons (vx_val 2 (pv 2)) (va_cons (vx_val 3 (pv 3)) va_nil)))) (va_cons (vx_o (vo_call (ok_is_within_2 T) (hr.mono (by decide)) (by rfl) T.g_is_within_joins T.F_is_within_2.kp (b_is_within_2 T) .nil (fun _ => .nil) (va_cons (vx_val 3 (pv 3)) (va_cons (vx_val 2 (pv 2)) va_nil)))) (va_cons (vx_o (vo_call (ok_is_within_2 T) (hr.mono (by decide)) (by rfl) T.g_is_within_joins T.F_is_within_2.kp (b_is_within_2 T) .nil (fun _ => .nil) (va_cons (vx_o (vo_tup va_nil)) (va_cons (vx_val 2 (pv 2)) va_nil)))) (va_cons (vx_o (vo_call (ok_is_within_2 T) (hr.mono (by decide)) (by rfl) T.g_is_within_joins T.F_is_within_2.kp (b_is_within_2 T) .nil (fun _ => .nil) (va_cons (vx_val 2 (pv 2)) (va_cons (vx_val 2 (pv 2)) va_nil)))) (va_cons (vx_o (vo_call (ok_is_within_2 T) (hr.mono (by decide)) (by rfl) T.g_is_within_joins T.F_is_within_2.kp (b_is_within_2 T) .nil (fun _ => .nil) (va_cons (vx_val 2 (pv 2)) (va_cons (vx_o (vo_sl (vx_var 2 (pv 2)) vp_none (vp_some (vx_o (vo_cb (cd_max2 rfl) (by rfl) T.n_max (by decide +kernel) (va_cons (vx_c pe_int (fun _ => .int _)) (va_cons (vx_o (vo_op o2_sub (vx_o (vo_lenS 2 (by rfl) T.n_len (pv 2))) (vx_c pe_int (fun _ => .int _)))) va_nil))))))) va_nil)))) va_nil)))))))
    (vss_cons (vs_if (vt_not (vt_tru (vx_o (vo_call (ok__law_same T) (hr.mono (by decide)) (by rfl) T.g__law_same T.F__law_same.kp (b__law_same T) .nil (fun _ => .nil) (va_cons (vx_val 5 (pv 5)) (va_cons (vx_o (vo_tup (va_cons (vx_o (vo_call (ok__law_inside T) (hr.mono (by decide)) (by rfl) T.g__law_inside T.F__law_inside.kp (b__law_inside T) .nil (fun _ => .nil) (va_cons (vx_val 2 (pv 2)) (va_cons (vx_val 3 (pv 3)) va_nil)))) (va_cons (vx_o (vo_call (ok__law_inside T) (hr.mono (by decide)) (by rfl) T.g__law_inside T.F__law_inside.kp (b__law_inside T) .nil (fun _ => .nil) (va_cons (vx_val 3 (pv 3)) (va_cons (vx_val 2 (pv 2)) va_nil)))) (va_cons (vx_c pe_bl (fun _ => .bl _)) (va_cons (vx_c pe_bl (fun _ => .bl _)) (va_cons (vx_o (vo_cmp (o2_eq (r64 hr)) (vx_o (vo_lenS 2 (by rfl) T.n_len (pv 2))) (vx_c pe_int (fun _ => .int _)) (nomark _))) va_nil))))))) va_nil))))))
    (vss_one (vs_ret (vo_x (vx_c pe_bl (fun _ => .bl _)))))
    vss_nil)
    (vss_cons (vs_if (PW.pt (vw_or (vt_cmp o2_isN (vx_var 4 (pv 4)) (vx_c pe_non (fun _ => .non)) (nomark _)) (vw_or1 (vt_cmp o2_gt (vx_var 1 (pv 1)) (vx_c pe_int (fun _ => .int _)) (nomark _)))))
    (vss_one (vs_ret (vo_x (vx_c pe_bl (fun _ => .bl _)))))
    vss_nil)
    (vss_cons (vs_for PassesOwn.never rfl (vi_seq (vx_o (vo_call (ok__law_every T) (hr.mono (by decide)) (by rfl) T.g__law_every T.F__law_every.kp (b__law_every T) .nil (fun _ => .nil) (va_cons (vx_val 1 (pv 1)) va_nil)))) (vg_name sc__law_two.nd rfl (.inl rfl) (by decide))
    (vss_one (vs_if (PW.pt (vw_and (vt_tru (vx_o (vo_call (ok__law_holds T) (hr.mono (by decide)) (by rfl) T.g__law_holds T.F__law_holds.kp (b__law_holds T) .nil (fun _ => .nil) (va_cons (vx_val 2 (pv 2)) (va_cons (vx_val 6 (pv 6)) va_nil))))) (vw_and (vt_tru (vx_o (vo_call (ok__law_holds T) (hr.mono (by decide)) (by rfl) T.g__law_holds T.F__law_holds.kp (b__law_holds T) .nil (fun _ => .nil) (va_cons (vx_val 3 (pv 3)) (va_cons (vx_val 6 (pv 6)) va_nil))))) (vw_and1 (vt_not (vt_tru (vx_o (vo_call (ok__law_holds T) (hr.mono (by decide)) (by rfl) T.g__law_holds T.F__law_holds.kp (b__law_holds T) .nil (fun _ => .nil) (va_cons (vx_val 4 (pv 4)) (va_cons (vx_val 6 (pv 6)) va_nil))))))))))
    (vss_one (vs_ret (vo_x (vx_c pe_bl (fun _ => .bl _)))))
    vss_nil)))
    (vss_one (vs_ret (vo_x (vx_c pe_bl (fun _ => .bl _))))))))))) : PSs (cxOf CX0 P w K mg base _ _ _ T.f__law_two cdv A outer s H E).nox _ (lS K true τ__law_two))) rd__law_two
theorem ok__law_asked (T : Txt K mg) : FnOk P w K mg base CX0 6 T.f__law_asked T.fd__law_asked ["basin", "most"] (toSp1 K wp__law_asked) :=
  vfn1 (τ := τ__law_asked) T.F__law_asked sc__law_asked len__law_asked (fun cdv A outer s H E hr => ((vss_cons (vs_set (i := 2) sc__law_asked.nd rfl (.inl rfl) (by decide) (vo_op o2_add (vx_c pe_int (fun _ => .int _)) (vx_o (vo_callI (ok__law_scoop T) (hr.mono (by decide)) (by rfl) T.g__law_scoop T.F__law_scoop.kp (b__law_scoop T) .nil (fun _ => .nil) (va_cons (vx_var 0 (pv 0)) (va_cons (vx_c pe_int (fun _ => .int _)) (va_cons (vx_val 1 (pv 1)) va_nil)))))))
    (vss_cons (vs_for PassesOwn.never rfl (vi_range1 (by rfl) T.n_range (va_cons (vx_c pe_int (fun _ => .int _)) va_nil)) (vg_name sc__law_asked.nd rfl (.inl rfl) (by decide))
    (vss_cons (vs_set (i := 4) sc__law_asked.nd rfl (.inl rfl) (by decide) (vo_callI (ok__law_rule T) (hr.mono (by decide)) (by rfl) T.g__law_rule T.F__law_rule.kp (b__law_rule T) .nil (fun _ => .nil) (va_cons (vx_var 0 (pv 0)) (va_cons (vx_val 2 (pv 2)) va_nil))))
    (vss_one (vs_if (vt_not (vt_tru (vx_o (vo_callI (ok__law_two T) (hr.mono (by decide)) (by rfl) T.g__law_two T.F__law_two.kp (b__law_two T) .nil (fun _ => .nil) (va_cons (vx_var 0 (pv 0)) (va_cons (vx_val 2 (pv 2)) (va_cons (vx_val 4 (pv 4)) (va_cons (vx_o (vo_callI (ok__law_near T) (hr.mono (by decide)) (by rfl) T.g__law_near T.F__law_near.kp (b__law_near T) .nil (fun _ => .nil) (va_cons (vx_var 0 (pv 0)) (va_cons (vx_val 2 (pv 2)) (va_cons (vx_val 4 (pv 4)) va_nil))))) va_nil))))))))
    (vss_one (vs_ret (vo_x (vx_c pe_bl (fun _ => .bl _)))))
    vss_nil))))
    (vss_cons (vs_set (i := 5) sc__law_asked.nd rfl (.inl rfl) (by decide) (vo_callI (ok__law_sheet T) (hr.mono (by decide)) (by rfl) T.g__law_sheet T.F__law_sheet.kp (b__law_sheet T) .nil (fun _ => .nil) (va_cons (vx_var 0 (pv 0)) (va_cons (vx_val 1 (pv 1)) (va_cons (vx_c pe_int (fun _ => .int _)) va_nil)))))
    (vss_cons (vs_set (i := 6) sc__law_asked.nd rfl (.inl rfl) (by decide) (vo_ixS 5 (hu_of hr) (pv 5) (vx_c pe_int (fun _ => .int _))))
    (vss_cons (vs_for PassesOwn.never rfl (vi_seq (vx_o (vo_sl (vx_o (vo_ixS 5 (hu_of hr) (pv 5) (vx_c pe_int (fun _ => .int _)))) vp_none (vp_some (vx_c pe_int (fun _ => .int _)))))) (vg_name sc__law_asked.nd rfl (.inl rfl) (by decide))
    (vss_one (vs_set (i := 6) sc__law_asked.nd rfl (.inl rfl) (by decide) (vo_op o2_add (vx_var 6 (pv 6)) (vx_o (vo_tup (va_cons (vx_o (vo_callI (ok__law_near T) (hr.mono (by decide)) (by rfl) T.g__law_near T.F__law_near.kp (b__law_near T) .nil (fun _ => .nil) (va_cons (vx_var 0 (pv 0)) (va_cons (vx_o (vo_ixS 5 (hu_of hr) (pv 5) (vx_c pe_int (fun _ => .int _)))) (va_cons (vx_val 7 (pv 7)) va_nil))))) va_nil)))))))
    (vss_cons (vs_set (i := 8) sc__law_asked.nd rfl (.inl rfl) (by decide) (vo_lst va_nil))
    (vss_cons (vs_for PassesOwn.never rfl (vi_range1 (by rfl) T.n_range (va_cons (vx_o (vo_lenS 6 (by rfl) T.n_len (pv 6))) va_nil)) (vg_name sc__law_asked.nd rfl (.inl rfl) (by decide))
    (vss_one (vs_for PassesOwn.never rfl (vi_range2 (by rfl) T.n_range (va_cons (vx_o (vo_op o2_add (vx_var 9 (pv 9)) (vx_c pe_int (fun _ => .int _)))) (va_cons (vx_o (vo_lenS 6 (by rfl) T.n_len (pv 6))) va_nil))) (vg_name sc__law_asked.nd rfl (.inl rfl) (by decide))
    (vss_one (vs_if (vt_cmp o2_notN (vx_o (vo_call (ok__law_joined T) (hr.mono (by decide)) (by rfl) T.g__law_joined T.F__law_joined.kp (b__law_joined T) .nil (fun _ => .nil) (va_cons (vx_o (vo_ixS 6 (hu_of hr) (pv 6) (vx_var 9 (pv 9)))) (va_cons (vx_o (vo_ixS 6 (hu_of hr) (pv 6) (vx_var 10 (pv 10)))) va_nil)))) (vx_c pe_non (fun _ => .non)) (nomark _))
    (vss_one (vs_expr (vo_app false 8 (pv 8) (vo_tup (va_cons (vx_val 9 (pv 9)) (va_cons (vx_val 10 (pv 10)) (va_cons (vx_o (vo_call (ok__law_joined T) (hr.mono (by decide)) (by rfl) T.g__law_joined T.F__law_joined.kp (b__law_joined T) .nil (fun _ => .nil) (va_cons (vx_o (vo_ixS 6 (hu_of hr) (pv 6) (vx_var 9 (pv 9)))) (va_cons (vx_o (vo_ixS 6 (hu_of hr) (pv 6) (vx_var 10 (pv 10)))) va_nil)))) va_nil)))))))
    vss_nil)))))
    (vss_one (vs_ret (vo_call (ok__law_same T) (hr.mono (by decide)) (by rfl) T.g__law_same T.F__law_same.kp (b__law_same T) .nil (fun _ => .nil) (va_cons (vx_o (vo_call (ok_joins_of T) (hr.mono (by decide)) (by rfl) T.g_joins_of T.F_joins_of.kp (b_joins_of T) .nil (fun _ => .nil) (va_cons (vx_o (vo_tup (va_cons (vx_o (vo_ixS 5 (hu_of hr) (pv 5) (vx_c pe_int (fun _ => .int _)))) (va_cons (vx_val 6 (pv 6)) va_nil)))) va_nil))) (va_cons (vx_o (vo_cty cd_tuple (by rfl) T.n_tuple (by decide +kernel) (va_cons (vx_var 8 (pv 8)) va_nil))) va_nil)))))))))))) : PSs (cxOf CX0 P w K mg base _ _ _ T.f__law_asked cdv A outer s H E).nox _ (lS K true τ__law_asked))) rd__law_asked
theorem ok__law_sure (T : Txt K mg) : FnOk P w K mg base CX0 5 T.f__law_sure T.fd__law_sure ["basin"] (toSp1 K wp__law_sure) :=
  vfn1 (τ := τ__law_sure) T.F__law_sure sc__law_sure len__law_sure (fun cdv A outer s H E hr => ((vss_cons (vs_par (i := 1) (j := 2) rfl sc__law_sure.nd rfl rfl (by decide) rfl rfl (by decide) (by decide) (vo_op o2_add (vx_c pe_int (fun _ => .int _)) (vx_o (vo_callI (ok__law_scoop T) (hr.mono (by decide)) (by rfl) T.g__law_scoop T.F__law_scoop.kp (b__law_scoop T) .nil (fun _ => .nil) (va_cons (vx_var 0 (pv 0)) (va_cons (vx_c pe_int (fun _ => .int _)) (va_cons (vx_c pe_int (fun _ => .int _)) va_nil)))))) (vo_cmp (o2_eq (r64 hr)) (vx_o (vo_callI (ok__law_scoop T) (hr.mono (by decide)) (by rfl) T.g__law_scoop T.F__law_scoop.kp (b__law_scoop T) .nil (fun _ => .nil) (va_cons (vx_var 0 (pv 0)) (va_cons (vx_c pe_int (fun _ => .int _)) (va_cons (vx_c pe_int (fun _ => .int _)) va_nil))))) (vx_c pe_int (fun _ => .int _)) (nomark _)) (by rfl))
    (vss_cons (vs_par3 (i := 3) (j := 4) (l := 5) rfl sc__law_sure.nd rfl rfl rfl (by decide) (by decide) (by decide) rfl rfl rfl (by decide) (va_cons (vx_o (vo_tup (va_cons (vx_c pe_int (fun _ => .int _)) (va_cons (vx_val 2 (pv 2)) va_nil)))) (va_cons (vx_o (vo_tup (va_cons (vx_o (vo_op o2_add (vx_c pe_int (fun _ => .int _)) (vx_o (vo_callI (ok__law_scoop T) (hr.mono (by decide)) (by rfl) T.g__law_scoop T.F__law_scoop.kp (b__law_scoop T) .nil (fun _ => .nil) (va_cons (vx_var 0 (pv 0)) (va_cons (vx_c pe_int (fun _ => .int _)) (va_cons (vx_o (vo_op o2_sub (vx_var 1 (pv 1)) (vx_c pe_int (fun _ => .int _)))) va_nil))))))) (va_cons (vx_o (vo_not (vo_x (vx_val 2 (pv 2))))) va_nil)))) (va_cons (vx_o (vo_tup (va_cons (vx_o (vo_op o2_sub (vx_var 1 (pv 1)) (vx_c pe_int (fun _ => .int _)))) (va_cons (vx_val 2 (pv 2)) va_nil)))) va_nil))) (by rfl))
    (vss_cons (vs_par (i := 6) (j := 7) rfl sc__law_sure.nd rfl rfl (by decide) rfl rfl (by decide) (by decide) (vo_tup (va_cons (vx_c pe_int (fun _ => .int _)) (va_cons (vx_o (vo_not (vo_x (vx_val 2 (pv 2))))) va_nil))) (vo_tup (va_cons (vx_o (vo_ixS 4 (hu_of hr) (pv 4) (vx_c pe_int (fun _ => .int _)))) (va_cons (vx_val 2 (pv 2)) va_nil))) (by rfl))
    (vss_cons (vs_set (i := 8) sc__law_sure.nd rfl (.inl rfl) (by decide) (vo_tup (va_cons (vx_o (vo_callK0 (ok_join_of T) (hr.mono (by decide)) (by rfl) T.g_join_of T.F_join_of.kp (kb_join_of_0_one_other T) (vk_cons (vx_o (vo_tup (va_cons (vx_val 3 (pv 3)) (va_cons (vx_val 4 (pv 4)) va_nil)))) (vk_cons (vx_o (vo_tup (va_cons (vx_val 6 (pv 6)) (va_cons (vx_val 5 (pv 5)) va_nil)))) vk_nil)))) (va_cons (vx_o (vo_call (ok_join_of T) (hr.mono (by decide)) (by rfl) T.g_join_of T.F_join_of.kp (b_join_of T) .nil (fun _ => .nil) (va_cons (vx_o (vo_tup (va_cons (vx_val 3 (pv 3)) (va_cons (vx_val 4 (pv 4)) va_nil)))) (va_cons (vx_o (vo_tup (va_cons (vx_val 6 (pv 6)) (va_cons (vx_val 7 (pv 7)) va_nil)))) va_nil)))) (va_cons (vx_o (vo_call (ok_join_of T) (hr.mono (by decide)) (by rfl) T.g_join_of T.F_join_of.kp (b_join_of T) .nil (fun _ => .nil) (va_cons (vx_o (vo_tup (va_cons (vx_val 3 (pv 3)) (va_cons (vx_val 4 (pv 4)) va_nil)))) (va_cons (vx_o (vo_tup (va_cons (vx_val 3 (pv 3)) (va_cons (vx_val 5 (pv 5)) va_nil)))) va_nil)))) (va_cons (vx_o (vo_call (ok_join_of T) (hr.mono (by decide)) (by rfl) T.g_join_of T.F_join_of.kp (b_join_of T) .nil (fun _ => .nil) (va_cons (vx_o (vo_tup (va_cons (vx_val 3 (pv 3)) va_nil))) (va_cons (vx_o (vo_tup (va_cons (vx_val 6 (pv 6)) va_nil))) va_nil)))) (va_cons (vx_o (vo_call (ok_join_of T) (hr.mono (by decide)) (by rfl) T.g_join_of T.F_join_of.kp (b_join_of T) .nil (fun _ => .nil) (va_cons (vx_o (vo_tup va_nil)) (va_cons (vx_o (vo_tup (va_cons (vx_val 3 (pv 3)) va_nil))) va_nil)))) va_nil)))))))
    (vss_cons (vs_if (vt_not (vt_tru (vx_o (vo_call (ok__law_same T) (hr.mono (by decide)) (by rfl) T.g__law_same T.F__law_same.kp (b__law_same T) .nil (fun _ => .nil) (va_cons (vx_val 8 (pv 8)) (va_cons (vx_o (vo_tup (va_cons (vx_o (vo_tup (va_cons (vx_val 4 (pv 4)) (va_cons (vx_val 5 (pv 5)) va_nil)))) (va_cons (vx_c pe_non (fun _ => .non)) (va_cons (vx_c pe_non (fun _ => .non)) (va_cons (vx_o (vo_tup va_nil)) (va_cons (vx_c pe_non (fun _ => .non)) va_nil))))))) va_nil))))))
    (vss_one (vs_ret (vo_x (vx_c pe_bl (fun _ => .bl _)))))
    vss_nil)
    (vss_cons (vs_set (i := 8) sc__law_sure.nd rfl (.inl rfl) (by decide) (vo_tup (va_cons (vx_o (vo_call (ok_join_of T) (hr.mono (by decide)) (by rfl) T.g_join_of T.F_join_of.kp (b_join_of T) .nil (fun _ => .nil) (va_cons (vx_o (vo_tup (va_cons (vx_val 3 (pv 3)) (va_cons (vx_val 4 (pv 4)) (va_cons (vx_val 5 (pv 5)) va_nil))))) (va_cons (vx_o (vo_tup (va_cons (vx_val 6 (pv 6)) (va_cons (vx_val 4 (pv 4)) va_nil)))) va_nil)))) (va_cons (vx_o (vo_callK0 (ok_join_of T) (hr.mono (by decide)) (by rfl) T.g_join_of T.F_join_of.kp (kb_join_of_0_other_one T) (vk_cons (vx_o (vo_tup (va_cons (vx_val 7 (pv 7)) (va_cons (vx_val 5 (pv 5)) va_nil)))) (vk_cons (vx_o (vo_tup (va_cons (vx_val 3 (pv 3)) (va_cons (vx_val 4 (pv 4)) va_nil)))) vk_nil)))) (va_cons (vx_o (vo_callK0 (ok_is_within_2 T) (hr.mono (by decide)) (by rfl) T.g_is_within_joins T.F_is_within_2.kp (kb_is_within_2_0_one_other T) (vk_cons (vx_o (vo_tup (va_cons (vx_val 3 (pv 3)) (va_cons (vx_val 5 (pv 5)) va_nil)))) (vk_cons (vx_o (vo_tup (va_cons (vx_val 3 (pv 3)) (va_cons (vx_val 4 (pv 4)) (va_cons (vx_val 5 (pv 5)) va_nil))))) vk_nil)))) (va_cons (vx_o (vo_callK0 (ok_is_within_2 T) (hr.mono (by decide)) (by rfl) T.g_is_within_joins T.F_is_within_2.kp (kb_is_within_2_0_other_one T) (vk_cons (vx_o (vo_tup (va_cons (vx_val 3 (pv 3)) (va_cons (vx_val 5 (pv 5)) va_nil)))) (vk_cons (vx_o (vo_tup (va_cons (vx_val 3 (pv 3)) (va_cons (vx_val 4 (pv 4)) va_nil)))) vk_nil)))) (va_cons (vx_o (vo_call (ok_is_within_2 T) (hr.mono (by decide)) (by rfl) T.g_is_within_joins T.F_is_within_2.kp (b_is_within_2 T) .nil (fun _ => .nil) (va_cons (vx_o (vo_tup (va_cons (vx_val 3 (pv 3)) va_nil))) (va_cons (vx_o (vo_tup va_nil)) va_nil)))) va_nil)))))))
    (vss_cons (vs_if (vt_not (vt_tru (vx_o (vo_call (ok__law_same T) (hr.mono (by decide)) (by rfl) T.g__law_same T.F__law_same.kp (b__law_same T) .nil (fun _ => .nil) (va_cons (vx_val 8 (pv 8)) (va_cons (vx_o (vo_tup (va_cons (vx_o (vo_tup (va_cons (vx_val 4 (pv 4)) (va_cons (vx_val 5 (pv 5)) va_nil)))) (va_cons (vx_o (vo_tup (va_cons (vx_val 3 (pv 3)) (va_cons (vx_val 5 (pv 5)) va_nil)))) (va_cons (vx_c pe_bl (fun _ => .bl _)) (va_cons (vx_c pe_bl (fun _ => .bl _)) (va_cons (vx_c pe_bl (fun _ => .bl _)) va_nil))))))) va_nil))))))
    (vss_one (vs_ret (vo_x (vx_c pe_bl (fun _ => .bl _)))))
    vss_nil)
    (vss_cons (vs_set (i := 9) sc__law_sure.nd rfl (.inl rfl) (by decide) (vo_tup (va_cons (vx_val 1 (pv 1)) (va_cons (vx_o (vo_tup (va_cons (vx_o (vo_tup (va_cons (vx_val 3 (pv 3)) (va_cons (vx_val 4 (pv 4)) va_nil)))) (va_cons (vx_o (vo_tup (va_cons (vx_val 6 (pv 6)) va_nil))) (va_cons (vx_o (vo_tup (va_cons (vx_val 3 (pv 3)) (va_cons (vx_val 4 (pv 4)) va_nil)))) (va_cons (vx_o (vo_tup (va_cons (vx_val 7 (pv 7)) (va_cons (vx_val 5 (pv 5)) va_nil)))) (va_cons (vx_o (vo_tup (va_cons (vx_val 6 (pv 6)) (va_cons (vx_val 7 (pv 7)) va_nil)))) va_nil))))))) va_nil))))
    (vss_cons (vs_set (i := 10) sc__law_sure.nd rfl (.inl rfl) (by decide) (vo_tup (va_cons (vx_o (vo_tup (va_cons (vx_c pe_int (fun _ => .int _)) (va_cons (vx_c pe_int (fun _ => .int _)) (va_cons (vx_o (vo_tup (va_cons (vx_val 4 (pv 4)) va_nil))) va_nil))))) (va_cons (vx_o (vo_tup (va_cons (vx_c pe_int (fun _ => .int _)) (va_cons (vx_c pe_int (fun _ => .int _)) (va_cons (vx_o (vo_tup (va_cons (vx_val 3 (pv 3)) (va_cons (vx_val 5 (pv 5)) va_nil)))) va_nil))))) (va_cons (vx_o (vo_tup (va_cons (vx_c pe_int (fun _ => .int _)) (va_cons (vx_c pe_int (fun _ => .int _)) (va_cons (vx_o (vo_tup (va_cons (vx_val 4 (pv 4)) va_nil))) va_nil))))) (va_cons (vx_o (vo_tup (va_cons (vx_c pe_int (fun _ => .int _)) (va_cons (vx_c pe_int (fun _ => .int _)) (va_cons (vx_o (vo_tup (va_cons (vx_val 3 (pv 3)) (va_cons (vx_val 5 (pv 5)) va_nil)))) va_nil))))) va_nil))))))
    (vss_one (vs_ret (vo_call (ok__law_same T) (hr.mono (by decide)) (by rfl) T.g__law_same T.F__law_same.kp (b__law_same T) .nil (fun _ => .nil) (va_cons (vx_o (vo_tup (va_cons (vx_o (vo_callK0 (ok_joins_of T) (hr.mono (by decide)) (by rfl) T.g_joins_of T.F_joins_of.kp (kb_joins_of_0_sheet T) (vk_cons (vx_val 9 (pv 9)) vk_nil))) (va_cons (vx_o (vo_call (ok_joins_of T) (hr.mono (by decide)) (by rfl) T.g_joins_of T.F_joins_of.kp (b_joins_of T) .nil (fun _ => .nil) (va_cons (vx_o (vo_tup (va_cons (vx_val 1 (pv 1)) (va_cons (vx_o (vo_tup (va_cons (vx_o (vo_tup (va_cons (vx_val 3 (pv 3)) va_nil))) (va_cons (vx_o (vo_tup (va_cons (vx_val 6 (pv 6)) va_nil))) va_nil)))) va_nil)))) va_nil))) (va_cons (vx_o (vo_call (ok_joins_of T) (hr.mono (by decide)) (by rfl) T.g_joins_of T.F_joins_of.kp (b_joins_of T) .nil (fun _ => .nil) (va_cons (vx_o (vo_tup (va_cons (vx_val 1 (pv 1)) (va_cons (vx_o (vo_tup (va_cons (vx_o (vo_tup (va_cons (vx_val 3 (pv 3)) (va_cons (vx_val 4 (pv 4)) va_nil)))) va_nil))) va_nil)))) va_nil))) va_nil))))) (va_cons (vx_o (vo_tup (va_cons (vx_val 10 (pv 10)) (va_cons (vx_o (vo_tup (va_cons (vx_o (vo_tup (va_cons (vx_c pe_int (fun _ => .int _)) (va_cons (vx_c pe_int (fun _ => .int _)) (va_cons (vx_o (vo_tup va_nil)) va_nil))))) va_nil))) (va_cons (vx_o (vo_tup va_nil)) va_nil))))) va_nil)))))))))))))) : PSs (cxOf CX0 P w K mg base _ _ _ T.f__law_sure cdv A outer s H E).nox _ (lS K true τ__law_sure))) rd__law_sure
theorem ok_law (T : Txt K mg) : FnOk P w K mg base CX0 7 T.f_law T.fd_law ["script"] (toSp0 K wp_law) :=
  vfn0 (τ := τ_law) T.F_law sc_law len_law (fun cdv A outer s H E hr => ((vss_cons (vs_set (i := 1) sc_law.nd rfl (.inl rfl) (by decide) (vo_call (ok__law_basin T) (hr.mono (by decide)) (by rfl) T.g__law_basin T.F__law_basin.kp (b__law_basin T) .nil (fun _ => .nil) (va_cons (vx_val 0 (pv 0)) va_nil)))
    (vss_cons (vs_for PassesOwn.never rfl (vi_range1 (by rfl) T.n_range (va_cons (vx_c pe_int (fun _ => .int _)) va_nil)) (vg_name sc_law.nd rfl (.inl rfl) (by decide))
    (vss_one (vs_if (vt_not (vt_tru (vx_o (vo_callI (ok__law_asked T) (hr.mono (by decide)) (by rfl) T.g__law_asked T.F__law_asked.kp (b__law_asked T) .nil (fun _ => .nil) (va_cons (vx_var 1 (pv 1)) (va_cons (vx_c pe_int (fun _ => .int _)) va_nil))))))
    (vss_one (vs_ret (vo_x (vx_c pe_bl (fun _ => .bl _)))))
    vss_nil)))
    (vss_cons (vs_if (vt_not (vt_tru (vx_o (vo_callI (ok__law_sure T) (hr.mono (by decide)) (by rfl) T.g__law_sure T.F__law_sure.kp (b__law_sure T) .nil (fun _ => .nil) (va_cons (vx_var 1 (pv 1)) va_nil)))))
    (vss_one (vs_ret (vo_x (vx_c pe_bl (fun _ => .bl _)))))
    vss_nil)
    (vss_one (vs_ret (vo_or (vo_cmp (o2_ne (r64 hr)) (vx_o (vo_callI (ok__law_scoop T) (hr.mono (by decide)) (by rfl) T.g__law_scoop T.F__law_scoop.kp (b__law_scoop T) .nil (fun _ => .nil) (va_cons (vx_var 1 (pv 1)) (va_cons (vx_c pe_int (fun _ => .int _)) (va_cons (vx_c pe_int (fun _ => .int _)) va_nil))))) (vx_c pe_int (fun _ => .int _)) (nomark _)) (vo_one (vo_callI (ok__law_asked T) (hr.mono (by decide)) (by rfl) T.g__law_asked T.F__law_asked.kp (b__law_asked T) .nil (fun _ => .nil) (va_cons (vx_var 1 (pv 1)) (va_cons (vx_c pe_int (fun _ => .int _)) va_nil)))))))))) : PSs (cxOf CX0 P w K mg base _ _ _ T.f_law cdv A outer s H E).nox _ (lS K false τ_law))) rd_law
end
end K09
end
section
namespace K09
open PySem PySem.Spec L2 VL
theorem arg_ok {K : PySem.W.Frag} {H : Hp} {a : Addr} {ns : List Int} {E : XK} (hl : ns.length ≤ 63) (hS : SqL K H a (ns.map V.int)) : toSp0 K wp_law [.ref a] H (fun v _ => v = .bl true) E :=
  ⟨H, [scD ns], fun o => o = .fz (.bool true), fun _ _ e => e, .cons (.scr hS) .nil, ⟨ns, rfl, hl, rfl⟩, fun F' hr H' o v g w s d n q => by subst q; exact rp_bl (own_fz.mp w).2⟩
theorem all_mk {l : PySem.W.OpenLaw} {w : World} {K : PySem.W.Frag} {h : Heap} {mg : Str → Option Value} {fa : Addr} (X : K.In h) (G : h.Ns mainGlobals mg) (hfa : mg "law" = some (.ref fa))
    {f0 : Addr} {od0 an0 : Option Addr} {sl0 : Array (Option Value)} {oc0 kV0 dc0 pm0 cd0 ct0 : Value} (a0_0 : PySem.W.nsIn K mainGlobals "contrary_of" = some (some (.ref f0))) (l0 : K.lookup f0 = some ⟨oc0, od0, .func (PySem.W.fnOf "contrary_of" "contrary_of" (defArgs s_contrary_of) (defBody s_contrary_of) (defScope s_contrary_of) .none kV0 dc0 pm0 an0 cd0 ct0), sl0⟩) (c0 : PySem.W.codeIn K cd0 "contrary_of" = true) (k0 : PySem.W.keepIn K (.ref f0) = true)
    {f1 : Addr} {od1 an1 : Option Addr} {sl1 : Array (Option Value)} {oc1 kV1 dc1 pm1 cd1 ct1 : Value} (a1_0 : PySem.W.nsIn K mainGlobals "without_literal" = some (some (.ref f1))) (l1 : K.lookup f1 = some ⟨oc1, od1, .func (PySem.W.fnOf "without_literal" "without_literal" (defArgs s_without_literal) (defBody s_without_literal) (defScope s_without_literal) .none kV1 dc1 pm1 an1 cd1 ct1), sl1⟩) (c1 : PySem.W.codeIn K cd1 "without_literal" = true) (k1 : PySem.W.keepIn K (.ref f1) = true)
    {f2 : Addr} {od2 an2 : Option Addr} {sl2 : Array (Option Value)} {oc2 kV2 dc2 pm2 cd2 ct2 : Value} (a2_0 : PySem.W.nsIn K mainGlobals "is_within_literals" = some (some (.ref f2))) (l2 : K.lookup f2 = some ⟨oc2, od2, .func (PySem.W.fnOf "is_within" "is_within" (defArgs s_is_within) (defBody s_is_within) (defScope s_is_within) .none kV2 dc2 pm2 an2 cd2 ct2), sl2⟩) (c2 : PySem.W.codeIn K cd2 "is_within" = true) (k2 : PySem.W.keepIn K (.ref f2) = true)
    {f3 : Addr} {od3 an3 : Option Addr} {sl3 : Array (Option Value)} {oc3 kV3 dc3 pm3 cd3 ct3 : Value} (a3_0 : PySem.W.nsIn K mainGlobals "clashing" = some (some (.ref f3))) (l3 : K.lookup f3 = some ⟨oc3, od3, .func (PySem.W.fnOf "clashing" "clashing" (defArgs s_clashing) (defBody s_clashing) (defScope s_clashing) .none kV3 dc3 pm3 an3 cd3 ct3), sl3⟩) (c3 : PySem.W.codeIn K cd3 "clashing" = true) (k3 : PySem.W.keepIn K (.ref f3) = true)
    {f4 : Addr} {od4 an4 : Option Addr} {sl4 : Array (Option Value)} {oc4 kV4 dc4 pm4 cd4 ct4 : Value} (a4_0 : PySem.W.nsIn K mainGlobals "joined" = some (some (.ref f4))) (l4 : K.lookup f4 = some ⟨oc4, od4, .func (PySem.W.fnOf "joined" "joined" (defArgs s_joined) (defBody s_joined) (defScope s_joined) .none kV4 dc4 pm4 an4 cd4 ct4), sl4⟩) (c4 : PySem.W.codeIn K cd4 "joined" = true) (k4 : PySem.W.keepIn K (.ref f4) = true)
    {f5 : Addr} {od5 an5 : Option Addr} {sl5 : Array (Option Value)} {oc5 kV5 dc5 pm5 cd5 ct5 : Value} (a5_0 : PySem.W.nsIn K mainGlobals "join_of" = some (some (.ref f5))) (l5 : K.lookup f5 = some ⟨oc5, od5, .func (PySem.W.fnOf "join_of" "join_of" (defArgs s_join_of) (defBody s_join_of) (defScope s_join_of) .none kV5 dc5 pm5 an5 cd5 ct5), sl5⟩) (c5 : PySem.W.codeIn K cd5 "join_of" = true) (k5 : PySem.W.keepIn K (.ref f5) = true)
    {f6 : Addr} {od6 an6 : Option Addr} {sl6 : Array (Option Value)} {oc6 kV6 dc6 pm6 cd6 ct6 : Value} (a6_0 : PySem.W.nsIn K mainGlobals "is_within_joins" = some (some (.ref f6))) (l6 : K.lookup f6 = some ⟨oc6, od6, .func (PySem.W.fnOf "is_within" "is_within" (defArgs s_is_within_2) (defBody s_is_within_2) (defScope s_is_within_2) .none kV6 dc6 pm6 an6 cd6 ct6), sl6⟩) (c6 : PySem.W.codeIn K cd6 "is_within" = true) (k6 : PySem.W.keepIn K (.ref f6) = true)
    {f7 : Addr} {od7 an7 : Option Addr} {sl7 : Array (Option Value)} {oc7 kV7 dc7 pm7 cd7 ct7 : Value} (a7_0 : PySem.W.nsIn K mainGlobals "joins_of" = some (some (.ref f7))) (l7 : K.lookup f7 = some ⟨oc7, od7, .func (PySem.W.fnOf "joins_of" "joins_of" (defArgs s_joins_of) (defBody s_joins_of) (defScope s_joins_of) .none kV7 dc7 pm7 an7 cd7 ct7), sl7⟩) (c7 : PySem.W.codeIn K cd7 "joins_of" = true) (k7 : PySem.W.keepIn K (.ref f7) = true)
    {f8 : Addr} {od8 an8 : Option Addr} {sl8 : Array (Option Value)} {oc8 kV8 dc8 pm8 cd8 ct8 : Value} (a8_0 : PySem.W.nsIn K mainGlobals "_law_basin" = some (some (.ref f8))) (l8 : K.lookup f8 = some ⟨oc8, od8, .func (PySem.W.fnOf "_law_basin" "_law_basin" (defArgs s__law_basin) (defBody s__law_basin) (defScope s__law_basin) .none kV8 dc8 pm8 an8 cd8 ct8), sl8⟩) (c8 : PySem.W.codeIn K cd8 "_law_basin" = true) (k8 : PySem.W.keepIn K (.ref f8) = true)
    {f9 : Addr} {od9 an9 : Option Addr} {sl9 : Array (Option Value)} {oc9 kV9 dc9 pm9 cd9 ct9 : Value} (a9_0 : PySem.W.nsIn K mainGlobals "_law_scoop" = some (some (.ref f9))) (l9 : K.lookup f9 = some ⟨oc9, od9, .func (PySem.W.fnOf "_law_scoop" "_law_scoop" (defArgs s__law_scoop) (defBody s__law_scoop) (defScope s__law_scoop) .none kV9 dc9 pm9 an9 cd9 ct9), sl9⟩) (c9 : PySem.W.codeIn K cd9 "_law_scoop" = true) (k9 : PySem.W.keepIn K (.ref f9) = true)
    {f10 : Addr} {od10 an10 : Option Addr} {sl10 : Array (Option Value)} {oc10 kV10 dc10 pm10 cd10 ct10 : Value} (a10_0 : PySem.W.nsIn K mainGlobals "_law_same" = some (some (.ref f10))) (l10 : K.lookup f10 = some ⟨oc10, od10, .func (PySem.W.fnOf "_law_same" "_law_same" (defArgs s__law_same) (defBody s__law_same) (defScope s__law_same) .none kV10 dc10 pm10 an10 cd10 ct10), sl10⟩) (c10 : PySem.W.codeIn K cd10 "_law_same" = true) (k10 : PySem.W.keepIn K (.ref f10) = true)
    {f11 : Addr} {od11 an11 : Option Addr} {sl11 : Array (Option Value)} {oc11 kV11 dc11 pm11 cd11 ct11 : Value} (a11_0 : PySem.W.nsIn K mainGlobals "_law_some" = some (some (.ref f11))) (l11 : K.lookup f11 = some ⟨oc11, od11, .func (PySem.W.fnOf "_law_some" "_law_some" (defArgs s__law_some) (defBody s__law_some) (defScope s__law_some) .none kV11 dc11 pm11 an11 cd11 ct11), sl11⟩) (c11 : PySem.W.codeIn K cd11 "_law_some" = true) (k11 : PySem.W.keepIn K (.ref f11) = true)
    {f12 : Addr} {od12 an12 : Option Addr} {sl12 : Array (Option Value)} {oc12 kV12 dc12 pm12 cd12 ct12 : Value} (a12_0 : PySem.W.nsIn K mainGlobals "_law_rule" = some (some (.ref f12))) (l12 : K.lookup f12 = some ⟨oc12, od12, .func (PySem.W.fnOf "_law_rule" "_law_rule" (defArgs s__law_rule) (defBody s__law_rule) (defScope s__law_rule) .none kV12 dc12 pm12 an12 cd12 ct12), sl12⟩) (c12 : PySem.W.codeIn K cd12 "_law_rule" = true) (k12 : PySem.W.keepIn K (.ref f12) = true)
    {f13 : Addr} {od13 an13 : Option Addr} {sl13 : Array (Option Value)} {oc13 kV13 dc13 pm13 cd13 ct13 : Value} (a13_0 : PySem.W.nsIn K mainGlobals "_law_sheet" = some (some (.ref f13))) (l13 : K.lookup f13 = some ⟨oc13, od13, .func (PySem.W.fnOf "_law_sheet" "_law_sheet" (defArgs s__law_sheet) (defBody s__law_sheet) (defScope s__law_sheet) .none kV13 dc13 pm13 an13 cd13 ct13), sl13⟩) (c13 : PySem.W.codeIn K cd13 "_law_sheet" = true) (k13 : PySem.W.keepIn K (.ref f13) = true)
    {f14 : Addr} {od14 an14 : Option Addr} {sl14 : Array (Option Value)} {oc14 kV14 dc14 pm14 cd14 ct14 : Value} (a14_0 : PySem.W.nsIn K mainGlobals "_law_every" = some (some (.ref f14))) (l14 : K.lookup f14 = some ⟨oc14, od14, .func (PySem.W.fnOf "_law_every" "_law_every" (defArgs s__law_every) (defBody s__law_every) (defScope s__law_every) .none kV14 dc14 pm14 an14 cd14 ct14), sl14⟩) (c14 : PySem.W.codeIn K cd14 "_law_every" = true) (k14 : PySem.W.keepIn K (.ref f14) = true)
    {f15 : Addr} {od15 an15 : Option Addr} {sl15 : Array (Option Value)} {oc15 kV15 dc15 pm15 cd15 ct15 : Value} (a15_0 : PySem.W.nsIn K mainGlobals "_law_holds" = some (some (.ref f15))) (l15 : K.lookup f15 = some ⟨oc15, od15, .func (PySem.W.fnOf "_law_holds" "_law_holds" (defArgs s__law_holds) (defBody s__law_holds) (defScope s__law_holds) .none kV15 dc15 pm15 an15 cd15 ct15), sl15⟩) (c15 : PySem.W.codeIn K cd15 "_law_holds" = true) (k15 : PySem.W.keepIn K (.ref f15) = true)
    {f16 : Addr} {od16 an16 : Option Addr} {sl16 : Array (Option Value)} {oc16 kV16 dc16 pm16 cd16 ct16 : Value} (a16_0 : PySem.W.nsIn K mainGlobals "_law_joined" = some (some (.ref f16))) (l16 : K.lookup f16 = some ⟨oc16, od16, .func (PySem.W.fnOf "_law_joined" "_law_joined" (defArgs s__law_joined) (defBody s__law_joined) (defScope s__law_joined) .none kV16 dc16 pm16 an16 cd16 ct16), sl16⟩) (c16 : PySem.W.codeIn K cd16 "_law_joined" = true) (k16 : PySem.W.keepIn K (.ref f16) = true)
    {f17 : Addr} {od17 an17 : Option Addr} {sl17 : Array (Option Value)} {oc17 kV17 dc17 pm17 cd17 ct17 : Value} (a17_0 : PySem.W.nsIn K mainGlobals "_law_inside" = some (some (.ref f17))) (l17 : K.lookup f17 = some ⟨oc17, od17, .func (PySem.W.fnOf "_law_inside" "_law_inside" (defArgs s__law_inside) (defBody s__law_inside) (defScope s__law_inside) .none kV17 dc17 pm17 an17 cd17 ct17), sl17⟩) (c17 : PySem.W.codeIn K cd17 "_law_inside" = true) (k17 : PySem.W.keepIn K (.ref f17) = true)
    {f18 : Addr} {od18 an18 : Option Addr} {sl18 : Array (Option Value)} {oc18 kV18 dc18 pm18 cd18 ct18 : Value} (a18_0 : PySem.W.nsIn K mainGlobals "_law_near" = some (some (.ref f18))) (l18 : K.lookup f18 = some ⟨oc18, od18, .func (PySem.W.fnOf "_law_near" "_law_near" (defArgs s__law_near) (defBody s__law_near) (defScope s__law_near) .none kV18 dc18 pm18 an18 cd18 ct18), sl18⟩) (c18 : PySem.W.codeIn K cd18 "_law_near" = true) (k18 : PySem.W.keepIn K (.ref f18) = true)
    {f19 : Addr} {od19 an19 : Option Addr} {sl19 : Array (Option Value)} {oc19 kV19 dc19 pm19 cd19 ct19 : Value} (a19_0 : PySem.W.nsIn K mainGlobals "_law_two" = some (some (.ref f19))) (l19 : K.lookup f19 = some ⟨oc19, od19, .func (PySem.W.fnOf "_law_two" "_law_two" (defArgs s__law_two) (defBody s__law_two) (defScope s__law_two) .none kV19 dc19 pm19 an19 cd19 ct19), sl19⟩) (c19 : PySem.W.codeIn K cd19 "_law_two" = true) (k19 : PySem.W.keepIn K (.ref f19) = true)
    {f20 : Addr} {od20 an20 : Option Addr} {sl20 : Array (Option Value)} {oc20 kV20 dc20 pm20 cd20 ct20 : Value} (a20_0 : PySem.W.nsIn K mainGlobals "_law_asked" = some (some (.ref f20))) (l20 : K.lookup f20 = some ⟨oc20, od20, .func (PySem.W.fnOf "_law_asked" "_law_asked" (defArgs s__law_asked) (defBody s__law_asked) (defScope s__law_asked) .none kV20 dc20 pm20 an20 cd20 ct20), sl20⟩) (c20 : PySem.W.codeIn K cd20 "_law_asked" = true) (k20 : PySem.W.keepIn K (.ref f20) = true)
    {f21 : Addr} {od21 an21 : Option Addr} {sl21 : Array (Option Value)} {oc21 kV21 dc21 pm21 cd21 ct21 : Value} (a21_0 : PySem.W.nsIn K mainGlobals "_law_sure" = some (some (.ref f21))) (l21 : K.lookup f21 = some ⟨oc21, od21, .func (PySem.W.fnOf "_law_sure" "_law_sure" (defArgs s__law_sure) (defBody s__law_sure) (defScope s__law_sure) .none kV21 dc21 pm21 an21 cd21 ct21), sl21⟩) (c21 : PySem.W.codeIn K cd21 "_law_sure" = true) (k21 : PySem.W.keepIn K (.ref f21) = true)
    {f22 : Addr} {od22 an22 : Option Addr} {sl22 : Array (Option Value)} {oc22 kV22 dc22 pm22 cd22 ct22 : Value} (a22_0 : PySem.W.nsIn K mainGlobals "law" = some (some (.ref f22))) (l22 : K.lookup f22 = some ⟨oc22, od22, .func (PySem.W.fnOf "law" "law" (defArgs s_law) (defBody s_law) (defScope s_law) .none kV22 dc22 pm22 an22 cd22 ct22), sl22⟩) (c22 : PySem.W.codeIn K cd22 "law" = true) (k22 : PySem.W.keepIn K (.ref f22) = true)
    (z0 : PySem.W.nsIn K mainGlobals "abs" = some none)
    (z1 : PySem.W.nsIn K mainGlobals "bool" = some none)
    (z2 : PySem.W.nsIn K mainGlobals "int" = some none)
    (z3 : PySem.W.nsIn K mainGlobals "isinstance" = some none)
    (z4 : PySem.W.nsIn K mainGlobals "len" = some none)
    (z5 : PySem.W.nsIn K mainGlobals "list" = some none)
    (z6 : PySem.W.nsIn K mainGlobals "max" = some none)
    (z7 : PySem.W.nsIn K mainGlobals "min" = some none)
    (z8 : PySem.W.nsIn K mainGlobals "range" = some none)
    (z9 : PySem.W.nsIn K mainGlobals "set" = some none)
    (z10 : PySem.W.nsIn K mainGlobals "sorted" = some none)
    (z11 : PySem.W.nsIn K mainGlobals "str" = some none)
    (z12 : PySem.W.nsIn K mainGlobals "tuple" = some none)
    : ∃ fd : FuncData, (∀ (s : Shared) (v : Value), BindsTo s fd ⟨[v], []⟩ [("script", v)]) ∧ ∀ base : Heap, K.In base → base.Ns mainGlobals mg → FnOk l.prog w K mg base CX0 7 fa fd ["script"] (toSp0 K wp_law) := by
  have e := hfa.symm.trans (PySem.W.mg_of X G a22_0)
  cases e
  let T : Txt K mg := { f_contrary_of := f0, fd_contrary_of := _, F_contrary_of := fun_mk (st := s_contrary_of) l0 c0 k0, f_without_literal := f1, fd_without_literal := _, F_without_literal := fun_mk (st := s_without_literal) l1 c1 k1, f_is_within := f2, fd_is_within := _, F_is_within := fun_mk (st := s_is_within) l2 c2 k2, f_clashing := f3, fd_clashing := _, F_clashing := fun_mk (st := s_clashing) l3 c3 k3, f_joined := f4, fd_joined := _, F_joined := fun_mk (st := s_joined) l4 c4 k4, f_join_of := f5, fd_join_of := _, F_join_of := fun_mk (st := s_join_of) l5 c5 k5, f_is_within_2 := f6, fd_is_within_2 := _, F_is_within_2 := fun_mk (st := s_is_within_2) l6 c6 k6, f_joins_of := f7, fd_joins_of := _, F_joins_of := fun_mk (st := s_joins_of) l7 c7 k7, f__law_basin := f8, fd__law_basin := _, F__law_basin := fun_mk (st := s__law_basin) l8 c8 k8, f__law_scoop := f9, fd__law_scoop := _, F__law_scoop := fun_mk (st := s__law_scoop) l9 c9 k9, f__law_same := f10, fd__law_same := _, F__law_same := fun_mk (st := s__law_same) l10 c10 k10, f__law_some := f11, fd__law_some := _, F__law_some := fun_mk (st := s__law_some) l11 c11 k11, f__law_rule := f12, fd__law_rule := _, F__law_rule := fun_mk (st := s__law_rule) l12 c12 k12, f__law_sheet := f13, fd__law_sheet := _, F__law_sheet := fun_mk (st := s__law_sheet) l13 c13 k13, f__law_every := f14, fd__law_every := _, F__law_every := fun_mk (st := s__law_every) l14 c14 k14, f__law_holds := f15, fd__law_holds := _, F__law_holds := fun_mk (st := s__law_holds) l15 c15 k15, f__law_joined := f16, fd__law_joined := _, F__law_joined := fun_mk (st := s__law_joined) l16 c16 k16, f__law_inside := f17, fd__law_inside := _, F__law_inside := fun_mk (st := s__law_inside) l17 c17 k17, f__law_near := f18, fd__law_near := _, F__law_near := fun_mk (st := s__law_near) l18 c18 k18, f__law_two := f19, fd__law_two := _, F__law_two := fun_mk (st := s__law_two) l19 c19 k19, f__law_asked := f20, fd__law_asked := _, F__law_asked := fun_mk (st := s__law_asked) l20 c20 k20, f__law_sure := f21, fd__law_sure := _, F__law_sure := fun_mk (st := s__law_sure) l21 c21 k21, f_law := fa, fd_law := _, F_law := fun_mk (st := s_law) l22 c22 k22, g__law_asked := PySem.W.mg_of X G a20_0, g__law_basin := PySem.W.mg_of X G a8_0, g__law_every := PySem.W.mg_of X G a14_0, g__law_holds := PySem.W.mg_of X G a15_0, g__law_inside := PySem.W.mg_of X G a17_0, g__law_joined := PySem.W.mg_of X G a16_0, g__law_near := PySem.W.mg_of X G a18_0, g__law_rule := PySem.W.mg_of X G a12_0, g__law_same := PySem.W.mg_of X G a10_0, g__law_scoop := PySem.W.mg_of X G a9_0, g__law_sheet := PySem.W.mg_of X G a13_0, g__law_some := PySem.W.mg_of X G a11_0, g__law_sure := PySem.W.mg_of X G a21_0, g__law_two := PySem.W.mg_of X G a19_0, g_clashing := PySem.W.mg_of X G a3_0, g_contrary_of := PySem.W.mg_of X G a0_0, g_is_within_joins := PySem.W.mg_of X G a6_0, g_is_within_literals := PySem.W.mg_of X G a2_0, g_join_of := PySem.W.mg_of X G a5_0, g_joined := PySem.W.mg_of X G a4_0, g_joins_of := PySem.W.mg_of X G a7_0, g_without_literal := PySem.W.mg_of X G a1_0, n_abs := PySem.W.mg_none_of X G z0, n_bool := PySem.W.mg_none_of X G z1, n_int := PySem.W.mg_none_of X G z2, n_isinstance := PySem.W.mg_none_of X G z3, n_len := PySem.W.mg_none_of X G z4, n_list := PySem.W.mg_none_of X G z5, n_max := PySem.W.mg_none_of X G z6, n_min := PySem.W.mg_none_of X G z7, n_range := PySem.W.mg_none_of X G z8, n_set := PySem.W.mg_none_of X G z9, n_sorted := PySem.W.mg_none_of X G z10, n_str := PySem.W.mg_none_of X G z11, n_tuple := PySem.W.mg_none_of X G z12 }
  exact ⟨T.fd_law, fun s v => .of_eq rfl, fun base _ _ => ok_law T⟩
end K09
end
open PySem PySem.W PyProof.Rows
set_option maxHeartbeats 0 in
theorem PySem.Challenge.cw_forcedtold_k09_joins_holds : PySem.Challenge.rw_forcedtold_k09_joins.Holds := by
  w_on; o_law; k_head; (case hw => w_witness2)
  k_fill
  refine L2.walk_of (l := PySem.Challenge.rw_forcedtold_k09_joins) (n := 63) (k := 7) (x := "script") (CX := fun _ => L2.CX0) (sp := fun w => VL.toSp0 _ K09.wp_law) rfl (by decide) rfl ⟨rfl, by decide, by decide⟩ (fun w h Y => PySem.W.kIn_of Y) ?F (fun _ _ a ns hl _ hS => K09.arg_ok hl hS) (fun _ _ _ _ _ h => h)
  case F =>
    intro w mg fa h KX G hmg
    refine' K09.all_mk KX G hmg ?a0_0 ?l0 ?c0 ?k0 ?a1_0 ?l1 ?c1 ?k1 ?a2_0 ?l2 ?c2 ?k2 ?a3_0 ?l3 ?c3 ?k3 ?a4_0 ?l4 ?c4 ?k4 ?a5_0 ?l5 ?c5 ?k5 ?a6_0 ?l6 ?c6 ?k6 ?a7_0 ?l7 ?c7 ?k7 ?a8_0 ?l8 ?c8 ?k8 ?a9_0 ?l9 ?c9 ?k9 ?a10_0 ?l10 ?c10 ?k10 ?a11_0 ?l11 ?c11 ?k11 ?a12_0 ?l12 ?c12 ?k12 ?a13_0 ?l13 ?c13 ?k13 ?a14_0 ?l14 ?c14 ?k14 ?a15_0 ?l15 ?c15 ?k15 ?a16_0 ?l16 ?c16 ?k16 ?a17_0 ?l17 ?c17 ?k17 ?a18_0 ?l18 ?c18 ?k18 ?a19_0 ?l19 ?c19 ?k19 ?a20_0 ?l20 ?c20 ?k20 ?a21_0 ?l21 ?c21 ?k21 ?a22_0 ?l22 ?c22 ?k22 ?z0 ?z1 ?z2 ?z3 ?z4 ?z5 ?z6 ?z7 ?z8 ?z9 ?z10 ?z11 ?z12
    (case a0_0 => k_is); (case l0 => k_is); (case c0 => k_is); (case k0 => k_is); (case a1_0 => k_is); (case l1 => k_is); (case c1 => k_is); (case k1 => k_is); (case a2_0 => k_is); (case l2 => k_is); (case c2 => k_is); (case k2 => k_is); (case a3_0 => k_is); (case l3 => k_is); (case c3 => k_is); (case k3 => k_is); (case a4_0 => k_is); (case l4 => k_is); (case c4 => k_is); (case k4 => k_is); (case a5_0 => k_is); (case l5 => k_is); (case c5 => k_is); (case k5 => k_is); (case a6_0 => k_is); (case l6 => k_is); (case c6 => k_is); (case k6 => k_is); (case a7_0 => k_is); (case l7 => k_is); (case c7 => k_is); (case k7 => k_is); (case a8_0 => k_is); (case l8 => k_is); (case c8 => k_is); (case k8 => k_is); (case a9_0 => k_is); (case l9 => k_is); (case c9 => k_is); (case k9 => k_is); (case a10_0 => k_is); (case l10 => k_is); (case c10 => k_is); (case k10 => k_is); (case a11_0 => k_is); (case l11 => k_is); (case c11 => k_is); (case k11 => k_is); (case a12_0 => k_is); (case l12 => k_is); (case c12 => k_is); (case k12 => k_is); (case a13_0 => k_is); (case l13 => k_is); (case c13 => k_is); (case k13 => k_is); (case a14_0 => k_is); (case l14 => k_is); (case c14 => k_is); (case k14 => k_is); (case a15_0 => k_is); (case l15 => k_is); (case c15 => k_is); (case k15 => k_is); (case a16_0 => k_is); (case l16 => k_is); (case c16 => k_is); (case k16 => k_is); (case a17_0 => k_is); (case l17 => k_is); (case c17 => k_is); (case k17 => k_is); (case a18_0 => k_is); (case l18 => k_is); (case c18 => k_is); (case k18 => k_is); (case a19_0 => k_is); (case l19 => k_is); (case c19 => k_is); (case k19 => k_is); (case a20_0 => k_is); (case l20 => k_is); (case c20 => k_is); (case k20 => k_is); (case a21_0 => k_is); (case l21 => k_is); (case c21 => k_is); (case k21 => k_is); (case a22_0 => k_is); (case l22 => k_is); (case c22 => k_is); (case k22 => k_is); (case z0 => k_is); (case z1 => k_is); (case z2 => k_is); (case z3 => k_is); (case z4 => k_is); (case z5 => k_is); (case z6 => k_is); (case z7 => k_is); (case z8 => k_is); (case z9 => k_is); (case z10 => k_is); (case z11 => k_is); (case z12 => k_is)
